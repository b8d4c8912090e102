import Derived.Test.YtgpgnlllieekbaaGreatDoorEBase
import Derived.Test.YtgpgnlllieekbaaGreatDoorEFa1
set_option linter.unusedVariables false
set_option linter.unusedSimpArgs false
namespace Go.SL
namespace Saw
open Go.Proofs
set_option maxHeartbeats 4000000
set_option maxRecDepth 100000
def XB (r : Int) : V := vi r
def XI (r : Int) : List (Nat × (Nat × O)) := []
def GM (a1 : qJ) (x6 : Int) : St :=
 ⟨[(1, vp 0 0), (3, vi ((a1.Rows.length : Nat) : Int)), (24, vc (tl e_Span default a1.Rows)), (25, vi ((a1.Rows.length : Nat) : Int)), (26, vi x6)], [(0, bx 54 (qZ a1))]⟩
def AQ (a1 : qJ) : St :=
 ⟨[(1, vp 0 0), (3, vi ((a1.Rows.length : Nat) : Int))], [(0, bx 54 (qZ a1))]⟩
def AH (a1 : qJ) (x27 : Int) (x33 : Bool) : St :=
 ⟨[(54, vc (tl e_Span default a1.Rows)), (55, vi ((a1.Rows.length : Nat) : Int)), (56, vi x27), (66, vb x33)], []⟩
def VI (a1 : qJ) (x27 : Int) : St :=
 ⟨[(54, vc (tl e_Span default a1.Rows)), (55, vi ((a1.Rows.length : Nat) : Int)), (56, vi x27)], []⟩
def AN : St :=
 ⟨[], []⟩
def AC (a1 : qJ) (x25 : Bool) : St :=
 ⟨[(1, vp 0 0), (52, vb x25)], [(0, bx 54 (qZ a1))]⟩
def AS (a1 : qJ) (x4 : Bool) : St :=
 ⟨[(1, vp 0 0), (3, vi ((a1.Rows.length : Nat) : Int)), (22, vb x4)], [(0, bx 54 (qZ a1))]⟩
theorem qEh (E : Env 0) (a1 : qJ) : ∀ (n : Nat) (x6 : Int) (res : Int ⊕ Unit), yP a1 n x6 = some res → HL (kx E 68 0) (nd Tryz.f86 500) (wC 0 (fun o => AQ a1) (fun v st => RetQ Tryz.prog Tryz.f86 (XB v) (XI v) .ret st) res) n (GM a1 x6) := by
 intro n
 induction n with
 | zero =>
  intro x6 res hm
  cases hm
 | succ n ih =>
  intro x6 res hm
  refine qO ?_
  refine q_sq ?_
  refine q_vu [] 1 [] [(27, vb (decide (x6 < ((a1.Rows.length : Nat) : Int))))] [] [] ?_
  refine q_sq ?_
  refine q_cn (decide (x6 < ((a1.Rows.length : Nat) : Int))) (fun b7 => ?_) (fun b7 => ?_)
  ·replace hm := qB b7 hm
   refine q_sk ?_
   refine q_sq ?_
   refine q_bk 1 ?_
   refine q_sq ?_
   obtain ⟨g8, hm⟩ := qI hm
   refine q_vu [qd 0 (Dir.none) (inb_of g8)] 1 [27] [(5, vp 1 0)] [] [(1, bx 26 [ci ((a1.Rows.getD x6.toNat default).A), ci ((a1.Rows.getD x6.toNat default).B)])] ?_
   refine q_sq ?_
   obtain ⟨v9, h10, hm⟩ := qD hm
   refine q_vu [qc 1 [30] 2 (qE6 (a1.Rows.getD x6.toNat default) v9 h10)] 2 [5] [(32, vb (!v9))] [1] [] ?_
   refine q_cn (!v9) (fun b11 => ?_) (fun b11 => ?_)
   ·replace hm := qB b11 hm
    refine q_sq ?_
    refine q_vn [] 2 ⟨[(2, vi 9)], []⟩ ?_
    obtain rfl := Option.some.inj hm
    refine q_rt ?_
    refine qU 9 ?_
    exact q_rm
   ·replace hm := qA b11 hm
    refine q_sk ?_
    refine q_vu [] 2 [26, 32] [(26, vi (w64 (x6 + 1)))] [] [] ?_
    exact q_hl (GM a1 (w64 (x6 + 1))) (ih (w64 (x6 + 1)) _ hm)
  ·replace hm := qA b7 hm
   refine q_ex 0 ?_
   obtain rfl := Option.some.inj hm
   exact wF () (by kernel_rfl) (by kernel_rfl)
theorem qEd (E : Env 0) (a1 : qJ) : ∀ (n : Nat) (x27 : Int) (res : Int ⊕ Unit), jA a1 n x27 = some res → HL (kx E 68 0) (nd Tryz.f86 4084) (wC 2 (fun o => AN) (fun v st => RetQ Tryz.prog Tryz.f86 (XB v) (XI v) .ret st) res) n (VI a1 x27) := by
 intro n
 induction n with
 | zero =>
  intro x27 res hm
  cases hm
 | succ n ih =>
  intro x27 res hm
  refine qO ?_
  refine q_sq ?_
  refine q_vu [] 1 [] [(57, vb (decide (x27 < ((a1.Rows.length : Nat) : Int))))] [] [] ?_
  refine q_sq ?_
  refine q_cn (decide (x27 < ((a1.Rows.length : Nat) : Int))) (fun b28 => ?_) (fun b28 => ?_)
  ·replace hm := qB b28 hm
   refine q_sk ?_
   refine q_sq ?_
   refine q_bk 3 ?_
   refine q_sq ?_
   obtain ⟨g29, hm⟩ := qI hm
   refine q_vu [qd 0 (Dir.none) (inb_of g29)] 1 [57] [(7, vp 1 0)] [] [(1, bx 26 [ci ((a1.Rows.getD x27.toNat default).A), ci ((a1.Rows.getD x27.toNat default).B)])] ?_
   refine q_jn (ι := Bool) (fun p => AH a1 x27 p) (fun p => RJ x27 (jA a1 n) p = some res) ?_ ?_
   ·rintro x33 hm
    show H _ (AH a1 x27 x33) _ _
    refine q_cn x33 (fun b34 => ?_) (fun b34 => ?_)
    ·replace hm := qB b34 hm
     refine q_sq ?_
     refine q_vn [] 2 ⟨[(2, vi 19)], []⟩ ?_
     obtain rfl := Option.some.inj hm
     refine q_rt ?_
     refine qU 19 ?_
     exact q_rm
    ·replace hm := qA b34 hm
     refine q_sk ?_
     refine q_vu [] 2 [56, 66] [(56, vi (w64 (x27 + 1)))] [] [] ?_
     exact q_hl (VI a1 (w64 (x27 + 1))) (ih (w64 (x27 + 1)) _ hm)
   ·obtain ⟨v30, h31, hm⟩ := qD hm
    rcases Bool.eq_false_or_eq_true v30 with b32 | b32
    ·replace hm := qB b32 hm
     refine q_vu [qc 1 [60] 2 (WE (a1.Rows.getD x27.toNat default) v30 h31), qf 2 b32] 2 [7] [(63, va [ci ((a1.Rows.getD x27.toNat default).A), ci ((a1.Rows.getD x27.toNat default).B)]), (64, va [ci 0, ci 0]), (65, vb (!((((a1.Rows.getD x27.toNat default).A) == 0) && ((((a1.Rows.getD x27.toNat default).B) == 0) && true)))), (66, vb (!((((a1.Rows.getD x27.toNat default).A) == 0) && ((((a1.Rows.getD x27.toNat default).B) == 0) && true))))] [1] [] ?_
     exact q_J (!((((a1.Rows.getD x27.toNat default).A) == 0) && ((((a1.Rows.getD x27.toNat default).B) == 0) && true))) hm
    ·replace hm := qA b32 hm
     refine q_vu [qc 1 [60] 2 (WE (a1.Rows.getD x27.toNat default) v30 h31), qf 2 b32] 2 [7] [(66, vb false)] [1] [] ?_
     exact q_J (false) hm
  ·replace hm := qA b28 hm
   refine q_ex 2 ?_
   obtain rfl := Option.some.inj hm
   exact wF () (by kernel_rfl) (by kernel_rfl)
theorem qAW (a1 : qJ) (r : Int) (hm : YT a1 = some r) : CtX Tryz.prog globs 86 0 0 [.agg (qZ a1)] [] (XB r) (XI r) := by
 unfold YT at hm
 refine q_E Tryz.f86 68 fun E => ?_
 refine q_sq ?_
 refine q_vn [] 0 ⟨[(1, vp 0 0)], [(0, bx 54 (qZ a1))]⟩ ?_
 refine q_sq ?_
 refine q_vu [] 1 [] [(3, vi ((a1.Rows.length : Nat) : Int))] [] [] ?_
 refine q_sq ?_
 refine q_sq ?_
 refine q_vu [] 1 [] [(12, vb (decide (((a1.Rows.length : Nat) : Int) > 120)))] [] [] ?_
 refine q_cn (decide (((a1.Rows.length : Nat) : Int) > 120)) (fun b2 => ?_) (fun b2 => ?_)
 ·replace hm := qB b2 hm
  refine q_sq ?_
  refine q_vn [] 1 ⟨[(2, vi 4)], []⟩ ?_
  obtain rfl := Option.some.inj hm
  refine q_rt ?_
  exact q_rm
 ·replace hm := qA b2 hm
  refine q_sk ?_
  refine q_sq ?_
  refine q_jn (ι := Bool) (fun p => AS a1 p) (fun p => RR a1 p = some r) ?_ ?_
  ·rintro x4 hm
   show H _ (AS a1 x4) _ _
   refine q_cn x4 (fun b5 => ?_) (fun b5 => ?_)
   ·replace hm := qB b5 hm
    refine q_sq ?_
    refine q_vn [] 1 ⟨[(2, vi 9)], []⟩ ?_
    obtain rfl := Option.some.inj hm
    refine q_rt ?_
    exact q_rm
   ·replace hm := qA b5 hm
    refine q_sk ?_
    refine q_sq ?_
    refine q_sq ?_
    refine q_vu [] 1 [22] [(24, vc (tl e_Span default a1.Rows)), (25, vi ((a1.Rows.length : Nat) : Int)), (26, vi 0)] [] [] ?_
    obtain ⟨u14, h13, hm⟩ := qD hm
    refine zI (nd Tryz.f86 500) 0 (by kernel_rfl) FUEL (fun o => AQ a1) (fun v st => RetQ Tryz.prog Tryz.f86 (XB v) (XI v) .ret st) u14 (q_hl (GM a1 0) (qEh E a1 FUEL 0 u14 h13)) ?_ ?_
    ·rintro v15 rfl st hr
     obtain rfl := Option.some.inj hm
     exact hr
    ·rintro o12 rfl
     replace hm : _ = some r := hm
     refine q_sq ?_
     refine q_sq ?_
     refine q_vu [] 1 [] [(35, vb (((a1.Rows.length : Nat) : Int) == 0))] [] [] ?_
     refine q_cn (((a1.Rows.length : Nat) : Int) == 0) (fun b16 => ?_) (fun b16 => ?_)
     ·replace hm := qB b16 hm
      refine q_sq ?_
      refine q_sq ?_
      refine q_vn [] 1 ⟨[(38, vb (a1.Low != 0))], []⟩ ?_
      refine q_cn (a1.Low != 0) (fun b17 => ?_) (fun b17 => ?_)
      ·replace hm := qB b17 hm
       refine q_sq ?_
       refine q_vn [] 1 ⟨[(2, vi 19)], []⟩ ?_
       obtain rfl := Option.some.inj hm
       refine q_rt ?_
       exact q_rm
      ·replace hm := qA b17 hm
       refine q_sk ?_
       refine q_sq ?_
       refine q_vn [] 1 ⟨[(2, vi 0)], []⟩ ?_
       obtain rfl := Option.some.inj hm
       refine q_rt ?_
       exact q_rm
     ·replace hm := qA b16 hm
      refine q_sk ?_
      refine q_sq ?_
      refine q_jn (ι := Bool) (fun p => AC a1 p) (fun p => RD a1 p = some r) ?_ ?_
      ·rintro x25 hm
       show H _ (AC a1 x25) _ _
       refine q_cn x25 (fun b26 => ?_) (fun b26 => ?_)
       ·replace hm := qB b26 hm
        refine q_sq ?_
        refine q_vn [] 1 ⟨[(2, vi 19)], []⟩ ?_
        obtain rfl := Option.some.inj hm
        refine q_rt ?_
        exact q_rm
       ·replace hm := qA b26 hm
        refine q_sk ?_
        refine q_sq ?_
        refine q_sq ?_
        refine q_vn [] 1 ⟨[(54, vc (tl e_Span default a1.Rows)), (55, vi ((a1.Rows.length : Nat) : Int)), (56, vi 0)], []⟩ ?_
        obtain ⟨u37, h36, hm⟩ := qD hm
        refine zI (nd Tryz.f86 4084) 2 (by kernel_rfl) FUEL (fun o => AN) (fun v st => RetQ Tryz.prog Tryz.f86 (XB v) (XI v) .ret st) u37 (q_hl (VI a1 0) (qEd E a1 FUEL 0 u37 h36)) ?_ ?_
        ·rintro v38 rfl st hr
         obtain rfl := Option.some.inj hm
         exact hr
        ·rintro o35 rfl
         replace hm : _ = some r := hm
         refine q_sq ?_
         refine q_vn [] 1 ⟨[(2, vi 0)], []⟩ ?_
         obtain rfl := Option.some.inj hm
         refine q_rt ?_
         exact q_rm
      ·obtain ⟨g18, hm⟩ := qI hm
       obtain ⟨v19, h20, hm⟩ := qD hm
       rcases Bool.eq_false_or_eq_true v19 with b21 | b21
       ·replace hm := qB b21 hm
        refine q_vu [qd 2 (Dir.none) (inb_of g18), qc 4 [42] 1 (WE (a1.Rows.getD (0 : Int).toNat default) v19 h20), qf 5 b21] 1 [3, 35] [(52, vb true)] [] [] ?_
        exact q_J (true) hm
       ·replace hm := qA b21 hm
        obtain ⟨g22, hm⟩ := qI hm
        obtain ⟨v23, h24, hm⟩ := qD hm
        refine q_vu [qd 2 (Dir.none) (inb_of g18), qc 4 [42] 1 (WE (a1.Rows.getD (0 : Int).toNat default) v19 h20), qf 5 b21, qd 10 (Dir.none) (inb_of g22), qk 12 [44, 50] 1 ⟨[(44, vb false), (50, va [ci ((a1.Rows.getD (w64 (((a1.Rows.length : Nat) : Int) - 1)).toNat default).A), ci ((a1.Rows.getD (w64 (((a1.Rows.length : Nat) : Int) - 1)).toNat default).B)])], []⟩ (WE (a1.Rows.getD (w64 (((a1.Rows.length : Nat) : Int) - 1)).toNat default) v23 h24)] 1 [3, 35] [(52, vb v23)] [] [] ?_
        exact q_J (v23) hm
  ·rcases Bool.eq_false_or_eq_true (decide (a1.Low < (-60))) with b3 | b3
   ·replace hm := qB b3 hm
    refine q_vu [qf 3 b3] 1 [12] [(22, vb true)] [] [] ?_
    exact q_J (true) hm
   ·replace hm := qA b3 hm
    refine q_vu [qf 3 b3] 1 [12] [(22, vb (decide (a1.Low > (w64 (60 - ((a1.Rows.length : Nat) : Int))))))] [] [] ?_
    exact q_J (decide (a1.Low > (w64 (60 - ((a1.Rows.length : Nat) : Int))))) hm
def zbQ (r : Int) : V := vi r
def OD (r : Int) : List (Nat × (Nat × O)) := []
def qBh (a1 : List Slice) (x4 : Int) (x5 : Int) (x13 : Bool) : St :=
 ⟨[(3, vi x4), (5, vp 0 0), (13, vc (tl qG default a1)), (14, vi ((a1.length : Nat) : Int)), (15, vi x5), (39, vb x13)], [(0, bx 56 [ci ((a1.getD x5.toNat default).Len), ci (((a1.getD x5.toNat default).Sec).Low), tl e_Span default (((a1.getD x5.toNat default).Sec).Rows)])]⟩
def FJ (a1 : List Slice) (x4 : Int) (x5 : Int) : St :=
 ⟨[(3, vi x4), (13, vc (tl qG default a1)), (14, vi ((a1.length : Nat) : Int)), (15, vi x5)], []⟩
def qA4 : St :=
 ⟨[], []⟩
theorem qFE (E : Env 0) (a1 : List Slice) : ∀ (n : Nat) (x4 : Int) (x5 : Int) (res : Int ⊕ Unit), jQ a1 n x4 x5 = some res → HL (kx E 45 0) (nd Tryz.f56 500) (wC 0 (fun o => qA4) (fun v st => RetQ Tryz.prog Tryz.f56 (zbQ v) (OD v) .ret st) res) n (FJ a1 x4 x5) := by
 intro n
 induction n with
 | zero =>
  intro x4 x5 res hm
  cases hm
 | succ n ih =>
  intro x4 x5 res hm
  refine qO ?_
  refine q_sq ?_
  refine q_vu [] 0 [] [(16, vb (decide (x5 < ((a1.length : Nat) : Int))))] [] [] ?_
  refine q_sq ?_
  refine q_cn (decide (x5 < ((a1.length : Nat) : Int))) (fun b6 => ?_) (fun b6 => ?_)
  ·replace hm := qB b6 hm
   refine q_sk ?_
   refine q_sq ?_
   refine q_bk 1 ?_
   refine q_sq ?_
   obtain ⟨g7, hm⟩ := qI hm
   refine q_vu [qd 0 (Dir.none) (inb_of g7)] 0 [16] [(5, vp 0 0)] [] [(0, bx 56 [ci ((a1.getD x5.toNat default).Len), ci (((a1.getD x5.toNat default).Sec).Low), tl e_Span default (((a1.getD x5.toNat default).Sec).Rows)])] ?_
   refine q_sq ?_
   refine q_sq ?_
   obtain ⟨v8, h9, hm⟩ := qD hm
   refine q_vu [qc 2 [20] 1 (qAW ((a1.getD x5.toNat default).Sec) v8 h9)] 1 [] [(6, vi v8)] [] [] ?_
   refine q_sq ?_
   refine q_vu [] 1 [] [(23, vb (v8 != 0))] [] [] ?_
   refine q_cn (v8 != 0) (fun b10 => ?_) (fun b10 => ?_)
   ·replace hm := qB b10 hm
    refine q_sq ?_
    refine q_vn [] 1 ⟨[(2, vi v8)], []⟩ ?_
    obtain rfl := Option.some.inj hm
    refine q_rt ?_
    refine qU v8 ?_
    exact q_rm
   ·replace hm := qA b10 hm
    refine q_sk ?_
    refine q_sq ?_
    refine q_sq ?_
    refine q_vu [] 1 [6, 23] [(29, vb ((((((a1.getD x5.toNat default).Sec).Rows).length : Nat) : Int) == 0))] [] [] ?_
    refine q_cn ((((((a1.getD x5.toNat default).Sec).Rows).length : Nat) : Int) == 0) (fun b11 => ?_) (fun b11 => ?_)
    ·replace hm := qB b11 hm
     refine q_sq ?_
     refine q_vn [] 1 ⟨[(2, vi 18)], []⟩ ?_
     obtain rfl := Option.some.inj hm
     refine q_rt ?_
     refine qU 18 ?_
     exact q_rm
    ·replace hm := qA b11 hm
     refine q_sk ?_
     refine q_sq ?_
     refine q_jn (ι := Bool) (fun p => qBh a1 x4 x5 p) (fun p => GY a1 x4 x5 (jQ a1 n) p = some res) ?_ ?_
     ·rintro x13 hm
      show H _ (qBh a1 x4 x5 x13) _ _
      refine q_cn x13 (fun b14 => ?_) (fun b14 => ?_)
      ·replace hm := qB b14 hm
       refine q_sq ?_
       refine q_vn [] 1 ⟨[(2, vi 9)], []⟩ ?_
       obtain rfl := Option.some.inj hm
       refine q_rt ?_
       refine qU 9 ?_
       exact q_rm
      ·replace hm := qA b14 hm
       refine q_sk ?_
       refine q_vu [] 1 [3, 5, 39] [(3, vi (w64 (x4 + ((a1.getD x5.toNat default).Len))))] [0] [] ?_
       refine q_vu [] 1 [15] [(15, vi (w64 (x5 + 1)))] [] [] ?_
       exact q_hl (FJ a1 (w64 (x4 + ((a1.getD x5.toNat default).Len))) (w64 (x5 + 1))) (ih (w64 (x4 + ((a1.getD x5.toNat default).Len))) (w64 (x5 + 1)) _ hm)
     ·rcases Bool.eq_false_or_eq_true (decide (((a1.getD x5.toNat default).Len) < 1)) with b12 | b12
      ·replace hm := qB b12 hm
       refine q_vu [qf 3 b12] 1 [29] [(39, vb true)] [] [] ?_
       exact q_J (true) hm
      ·replace hm := qA b12 hm
       refine q_vu [qf 3 b12] 1 [29] [(34, vp 0 0), (35, vi ((a1.getD x5.toNat default).Len)), (36, vi x4), (37, vi (w64 (20000 - x4))), (38, vb (decide (((a1.getD x5.toNat default).Len) > (w64 (20000 - x4))))), (39, vb (decide (((a1.getD x5.toNat default).Len) > (w64 (20000 - x4)))))] [] [] ?_
       exact q_J (decide (((a1.getD x5.toNat default).Len) > (w64 (20000 - x4)))) hm
  ·replace hm := qA b6 hm
   refine q_ex 0 ?_
   obtain rfl := Option.some.inj hm
   exact wF () (by kernel_rfl) (by kernel_rfl)
theorem JX (a1 : List Slice) (r : Int) (hm : KH a1 = some r) : CtX Tryz.prog globs 56 0 0 [.one (tl qG default a1)] [] (zbQ r) (OD r) := by
 unfold KH at hm
 refine q_E Tryz.f56 45 fun E => ?_
 refine q_sq ?_
 refine q_vn [] 0 ⟨[(0, vc (tl qG default a1))], []⟩ ?_
 refine q_sq ?_
 refine q_sq ?_
 refine q_vu [] 0 [] [(9, vb (((a1.length : Nat) : Int) == 0))] [] [] ?_
 refine q_cn (((a1.length : Nat) : Int) == 0) (fun b2 => ?_) (fun b2 => ?_)
 ·replace hm := qB b2 hm
  refine q_sq ?_
  refine q_vn [] 0 ⟨[(2, vi 3)], []⟩ ?_
  obtain rfl := Option.some.inj hm
  refine q_rt ?_
  exact q_rm
 ·replace hm := qA b2 hm
  refine q_sk ?_
  refine q_sq ?_
  refine q_sq ?_
  refine q_vu [] 0 [9] [(12, vb (decide (((a1.length : Nat) : Int) > 24)))] [] [] ?_
  refine q_cn (decide (((a1.length : Nat) : Int) > 24)) (fun b3 => ?_) (fun b3 => ?_)
  ·replace hm := qB b3 hm
   refine q_sq ?_
   refine q_vn [] 0 ⟨[(2, vi 4)], []⟩ ?_
   obtain rfl := Option.some.inj hm
   refine q_rt ?_
   exact q_rm
  ·replace hm := qA b3 hm
   refine q_sk ?_
   refine q_sq ?_
   refine q_vu [] 0 [12] [(3, vi 0)] [] [] ?_
   refine q_sq ?_
   refine q_sq ?_
   refine q_vu [] 0 [0] [(13, vc (tl qG default a1)), (14, vi ((a1.length : Nat) : Int)), (15, vi 0)] [] [] ?_
   obtain ⟨u17, h16, hm⟩ := qD hm
   refine zI (nd Tryz.f56 500) 0 (by kernel_rfl) FUEL (fun o => qA4) (fun v st => RetQ Tryz.prog Tryz.f56 (zbQ v) (OD v) .ret st) u17 (q_hl (FJ a1 0 0) (qFE E a1 FUEL 0 0 u17 h16)) ?_ ?_
   ·rintro v18 rfl st hr
    obtain rfl := Option.some.inj hm
    exact hr
   ·rintro o15 rfl
    replace hm : _ = some r := hm
    refine q_sq ?_
    refine q_vn [] 0 ⟨[(2, vi 0)], []⟩ ?_
    obtain rfl := Option.some.inj hm
    refine q_rt ?_
    exact q_rm
set_option maxRecDepth 100000
def qLc (r : (List Slice)) : V := vc (tl qG default r)
def qKz (r : (List Slice)) : List (Nat × (Nat × O)) := []
theorem qDa (a1 : List Slice) (r : (List Slice)) (hm : TS a1 = some r) : CtX Tryz.prog globs 60 0 0 [.one (tl qG default a1)] [] (qLc r) (qKz r) := by
 unfold TS at hm
 refine q_E Tryz.f60 7 fun E => ?_
 refine q_sq ?_
 refine q_vn [] 0 ⟨[(0, vc (tl qG default a1))], []⟩ ?_
 refine q_sq ?_
 refine q_sq ?_
 obtain ⟨v2, h3, hm⟩ := qD hm
 refine q_vu [qc 1 [3] 0 (JX a1 v2 h3)] 0 [] [(5, vb (v2 != 0))] [] [] ?_
 refine q_cn (v2 != 0) (fun b4 => ?_) (fun b4 => ?_)
 ·replace hm := qB b4 hm
  refine q_sq ?_
  refine q_vn [] 0 ⟨[(2, vc (.emp))], []⟩ ?_
  refine q_fn [.own 2 0 56 3 (rf qG ([] : List Slice))] ⟨[(2, vo 0 0 3 0)], [(0, ro 0 56 3 0 (rf qG ([] : List Slice)))]⟩ o0 ?_
  refine q_fn [.len 0 (([] : List Slice).length), .frz 0] ⟨[(2, vc (tl qG default ([] : List Slice)))], []⟩ (o1 (And.intro (And.intro (show 0 = ([] : List Slice).length from rfl) (show 0 = ([] : List Slice).length from rfl)) (Nat.le_refl (([] : List Slice).length)))) ?_
  obtain rfl := Option.some.inj hm
  refine q_rt ?_
  exact q_rm
 ·replace hm := qA b4 hm
  refine q_sk ?_
  refine q_sq ?_
  refine q_vn [] 0 ⟨[(2, vc (tl qG default a1))], []⟩ ?_
  obtain rfl := Option.some.inj hm
  refine q_rt ?_
  exact q_rm
open Go.Proofs
set_option maxHeartbeats 4000000
set_option maxRecDepth 100000
def qIW (r : Int) : V := vi r
def qIM (r : Int) : List (Nat × (Nat × O)) := []
def BI (v2 : (List Slice)) (x4 : Int) (x5 : Int) : St :=
 ⟨[(3, vi x4), (7, vc (tl qG default v2)), (8, vi ((v2.length : Nat) : Int)), (9, vi x5)], []⟩
def OU (x8 : Int) : St :=
 ⟨[(3, vi x8)], []⟩
theorem qE3 (E : Env 0) (v2 : (List Slice)) : ∀ (n : Nat) (x4 : Int) (x5 : Int) (res : Int), QJ v2 n x4 x5 = some res → HL (kx E 19 0) (nd Tryz.f34 116) (zN 0 (fun o => OU o) res) n (BI v2 x4 x5) := by
 intro n
 induction n with
 | zero =>
  intro x4 x5 res hm
  cases hm
 | succ n ih =>
  intro x4 x5 res hm
  refine qO ?_
  refine q_sq ?_
  refine q_vu [] 0 [] [(10, vb (decide (x5 < ((v2.length : Nat) : Int))))] [] [] ?_
  refine q_sq ?_
  refine q_cn (decide (x5 < ((v2.length : Nat) : Int))) (fun b6 => ?_) (fun b6 => ?_)
  ·replace hm := qB b6 hm
   refine q_sk ?_
   refine q_sq ?_
   refine q_bk 1 ?_
   refine q_sq ?_
   obtain ⟨g7, hm⟩ := qI hm
   refine q_vu [qd 0 (Dir.none) (inb_of g7)] 0 [10] [(5, vp 0 0)] [] [(0, bx 56 [ci ((v2.getD x5.toNat default).Len), ci (((v2.getD x5.toNat default).Sec).Low), tl e_Span default (((v2.getD x5.toNat default).Sec).Rows)])] ?_
   refine q_vu [] 1 [3, 5] [(3, vi (w64 (x4 + ((v2.getD x5.toNat default).Len))))] [0] [] ?_
   refine q_vu [] 1 [9] [(9, vi (w64 (x5 + 1)))] [] [] ?_
   exact q_hl (BI v2 (w64 (x4 + ((v2.getD x5.toNat default).Len))) (w64 (x5 + 1))) (ih (w64 (x4 + ((v2.getD x5.toNat default).Len))) (w64 (x5 + 1)) _ hm)
  ·replace hm := qA b6 hm
   refine q_ex 0 ?_
   obtain rfl := Option.some.inj hm
   exact zX (by kernel_rfl) (by kernel_rfl)
theorem SB (a1 : List Slice) (r : Int) (hm : YG a1 = some r) : CtX Tryz.prog globs 34 0 0 [.one (tl qG default a1)] [] (qIW r) (qIM r) := by
 unfold YG at hm
 refine q_E Tryz.f34 19 fun E => ?_
 refine q_sq ?_
 refine q_vn [] 0 ⟨[(0, vc (tl qG default a1))], []⟩ ?_
 refine q_sq ?_
 refine q_vu [] 0 [] [(3, vi 0)] [] [] ?_
 refine q_sq ?_
 refine q_sq ?_
 obtain ⟨v2, h3, hm⟩ := qD hm
 refine q_vu [qc 1 [6] 0 (qDa a1 v2 h3)] 0 [0] [(7, vc (tl qG default v2)), (8, vi ((v2.length : Nat) : Int)), (9, vi 0)] [] [] ?_
 obtain ⟨o9, h10, hm⟩ := qD hm
 refine zF (nd Tryz.f34 116) 0 (by kernel_rfl) FUEL (fun o => OU o) o9 (q_hl (BI v2 0 0) (qE3 E v2 FUEL 0 0 o9 h10)) ?_
 refine q_sq ?_
 refine q_vn [] 0 ⟨[(2, vi o9)], []⟩ ?_
 obtain rfl := Option.some.inj hm
 refine q_rt ?_
 exact q_rm
def qFr (r : Span) : V := va (e_Span r)
def qFu (r : Span) : List (Nat × (Nat × O)) := []
theorem qE9 (a1 : Int) (a2 : Int) (r : Span) (hm : XM a1 a2 = some r) : CtX Tryz.prog globs 123 0 0 [.one (ci a1), .one (ci a2)] [] (qFr r) (qFu r) := by
 unfold XM at hm
 refine q_E Tryz.f123 10 fun E => ?_
 refine q_sq ?_
 refine q_vn [] 0 ⟨[(0, vi a1), (1, vi a2), (4, vp 0 0)], [(0, bx 26 [ci 0, ci 0])]⟩ ?_
 refine q_sq ?_
 refine q_vu [] 1 [0, 1] [] [0] [(0, bx 26 [ci (w64 (10 * a1)), ci (w64 (10 * a2))])] ?_
 obtain rfl := Option.some.inj hm
 refine q_rt ?_
 exact q_rm
set_option maxRecDepth 100000
def qNm (r : Int) : V := vc (.val (.int .u64 r))
def qNd (r : Int) : List (Nat × (Nat × O)) := []
theorem qL4 (a1 : Span) (r : Int) (hm : qCi a1 = some r) : CtX Tryz.prog globs 121 0 0 [.agg (e_Span a1)] [] (qNm r) (qNd r) := by
 unfold qCi at hm
 refine q_E Tryz.f121 15 fun E => ?_
 refine q_sq ?_
 refine q_vn [] 0 ⟨[(1, vp 0 0)], [(0, bx 26 (e_Span a1))]⟩ ?_
 refine q_sq ?_
 refine q_sq ?_
 refine q_vu [] 1 [] [(7, vb (decide (a1.A ≥ a1.B)))] [] [] ?_
 refine q_cn (decide (a1.A ≥ a1.B)) (fun b2 => ?_) (fun b2 => ?_)
 ·replace hm := qB b2 hm
  refine q_sq ?_
  refine q_vn [] 1 ⟨[(2, vc (.val (.int .u64 0)))], []⟩ ?_
  obtain rfl := Option.some.inj hm
  refine q_rt ?_
  exact q_rm
 ·replace hm := qA b2 hm
  refine q_sk ?_
  refine q_sq ?_
  refine q_vn [] 1 ⟨[(2, vc (.val (.int .u64 (IntKind.u64.wrap ((IntKind.u64.wrap (a1.B)) - (IntKind.u64.wrap (a1.A)))))))], []⟩ ?_
  obtain rfl := Option.some.inj hm
  refine q_rt ?_
  exact q_rm
open Go.Proofs
set_option maxHeartbeats 4000000
set_option maxRecDepth 100000
def qJw (r : Int) : V := vi r
def qIU (r : Int) : List (Nat × (Nat × O)) := []
theorem qH2 (a1 : Int) (r : Int) (hm : MZ a1 = some r) : CtX Tryz.prog globs 120 0 0 [.one (.val (.int .u64 a1))] [] (qJw r) (qIU r) := by
 unfold MZ at hm
 refine q_E Tryz.f120 6 fun E => ?_
 refine q_sq ?_
 refine q_vn [] 0 ⟨[(0, vc (.val (.int .u64 a1)))], []⟩ ?_
 refine q_sq ?_
 refine q_vn [] 0 ⟨[(2, vi (w64 (imin a1 9223372036854775807)))], []⟩ ?_
 obtain rfl := Option.some.inj hm
 refine q_rt ?_
 exact q_rm
def qN2 (r : Int) : V := vi r
def qOb (r : Int) : List (Nat × (Nat × O)) := []
theorem qCF (a1 : Span) (r : Int) (hm : RQ a1 = some r) : CtX Tryz.prog globs 93 0 0 [.agg (e_Span a1)] [] (qN2 r) (qOb r) := by
 unfold RQ at hm
 refine q_E Tryz.f93 6 fun E => ?_
 refine q_sq ?_
 refine q_vn [] 0 ⟨[(1, vp 0 0)], [(0, bx 26 (e_Span a1))]⟩ ?_
 refine q_sq ?_
 obtain ⟨v2, h3, hm⟩ := qD hm
 obtain ⟨v4, h5, hm⟩ := qD hm
 refine q_vn [qc 1 [3] 1 (qL4 a1 v2 h3), qc 2 [4] 1 (qH2 v2 v4 h5)] 1 ⟨[(2, vi v4)], []⟩ ?_
 obtain rfl := Option.some.inj hm
 refine q_rt ?_
 exact q_rm
set_option maxRecDepth 100000
def qHj (r : qJ) : V := va (qZ r)
def qHA (r : qJ) : List (Nat × (Nat × O)) := []
theorem qGX (a1 : qJ) (r : qJ) (hm : TB a1 = some r) : CtX Tryz.prog globs 122 0 0 [.agg (qZ a1)] [] (qHj r) (qHA r) := by
 unfold TB at hm
 refine q_E Tryz.f122 8 fun E => ?_
 refine q_sq ?_
 refine q_vn [] 0 ⟨[(1, vp 0 0), (2, vp 1 0)], [(0, bx 54 (qZ a1)), (1, bx 54 [ci 0, .emp])]⟩ ?_
 refine q_sq ?_
 refine q_sq ?_
 obtain ⟨v2, h3, hm⟩ := qD hm
 refine q_vu [qc 1 [3] 2 (qAW a1 v2 h3)] 2 [] [(5, vb (v2 != 0))] [] [] ?_
 refine q_cn (v2 != 0) (fun b4 => ?_) (fun b4 => ?_)
 ·replace hm := qB b4 hm
  refine q_sq ?_
  refine q_vu [] 2 [1, 5] [] [0] [] ?_
  refine q_fn [.ownB 1 1 2 26 2 (rf e_Span ([] : List Span))] ⟨[(2, vp 1 0)], [(1, bx 54 [ci 0, .own 2 0 2 0]), (2, ro 0 26 2 0 (rf e_Span ([] : List Span)))]⟩ o0 ?_
  refine q_fn [.len 2 (([] : List Span).length), .frz 2] ⟨[(2, vp 1 0)], [(1, bx 54 [ci 0, tl e_Span default ([] : List Span)])]⟩ (o1 (And.intro (And.intro (show 0 = ([] : List Span).length from rfl) (show 0 = ([] : List Span).length from rfl)) (Nat.le_refl (([] : List Span).length)))) ?_
  obtain rfl := Option.some.inj hm
  refine q_rt ?_
  exact q_rm
 ·replace hm := qA b4 hm
  refine q_sk ?_
  refine q_sq ?_
  refine q_vn [] 2 ⟨[(2, vp 1 0)], [(1, bx 54 (qZ a1))]⟩ ?_
  obtain rfl := Option.some.inj hm
  refine q_rt ?_
  exact q_rm
open Go.Proofs
set_option maxHeartbeats 4000000
set_option maxRecDepth 100000
def qGd (r : Int) : V := vi r
def qGQ (r : Int) : List (Nat × (Nat × O)) := []
def TX (a2 : Rect) (v3 : qJ) (x5 : Int) (x6 : Int) : St :=
 ⟨[(2, vp 0 0), (3, vp 1 0), (5, vi x5), (12, vc (tl e_Span default v3.Rows)), (13, vi ((v3.Rows.length : Nat) : Int)), (14, vi x6)], [(0, bx 54 (qZ v3)), (1, bx 28 (qK a2))]⟩
def SF (x19 : Int) : St :=
 ⟨[(5, vi x19)], []⟩
theorem qDA (E : Env 0) (a2 : Rect) (v3 : qJ) : ∀ (n : Nat) (x5 : Int) (x6 : Int) (res : Int), ZA a2 v3 n x5 x6 = some res → HL (kx E 44 0) (nd Tryz.f95 244) (zN 0 (fun o => SF o) res) n (TX a2 v3 x5 x6) := by
 intro n
 induction n with
 | zero =>
  intro x5 x6 res hm
  cases hm
 | succ n ih =>
  intro x5 x6 res hm
  refine qO ?_
  refine q_sq ?_
  refine q_vu [] 2 [] [(15, vb (decide (x6 < ((v3.Rows.length : Nat) : Int))))] [] [] ?_
  refine q_sq ?_
  refine q_cn (decide (x6 < ((v3.Rows.length : Nat) : Int))) (fun b7 => ?_) (fun b7 => ?_)
  ·replace hm := qB b7 hm
   refine q_sk ?_
   refine q_sq ?_
   refine q_bk 1 ?_
   refine q_sq ?_
   obtain ⟨g8, hm⟩ := qI hm
   refine q_vu [qd 1 (Dir.none) (inb_of g8)] 2 [15] [(6, vi x6), (7, vp 2 0)] [] [(2, bx 26 [ci ((v3.Rows.getD x6.toNat default).A), ci ((v3.Rows.getD x6.toNat default).B)])] ?_
   refine q_sq ?_
   obtain ⟨v9, h10, hm⟩ := qD hm
   refine q_vu [qc 9 [22, 27] 3 (qE9 (w64 (v3.Low + x6)) (w64 ((w64 (v3.Low + x6)) + 1)) v9 h10)] 3 [6] [(8, vp 3 0)] [] [(3, bx 26 (e_Span v9))] ?_
   obtain ⟨v11, h12, hm⟩ := qD hm
   obtain ⟨v13, h14, hm⟩ := qD hm
   obtain ⟨v15, h16, hm⟩ := qD hm
   obtain ⟨v17, h18, hm⟩ := qD hm
   refine q_du [qc 4 [30, 32] 4 (PR (v3.Rows.getD x6.toNat default) a2.X v11 h12), qc 5 [33] 4 (qCF v11 v13 h14), qc 9 [35, 37] 4 (PR v9 a2.Y v15 h16), qc 10 [38] 4 (qCF v15 v17 h18)] [0, 0, 0, 4, 14, 30, 0, 0, 128, 510, 1022, 2046, 4095, 8191] 4 [5, 7, 8] [(5, vi (w64 (x5 + (w64 (v13 * v17)))))] [2, 3] [] ?_
   refine q_vu [] 4 [14] [(14, vi (w64 (x6 + 1)))] [] [] ?_
   exact q_hl (TX a2 v3 (w64 (x5 + (w64 (v13 * v17)))) (w64 (x6 + 1))) (ih (w64 (x5 + (w64 (v13 * v17)))) (w64 (x6 + 1)) _ hm)
  ·replace hm := qA b7 hm
   refine q_ex 0 ?_
   obtain rfl := Option.some.inj hm
   exact zX (by kernel_rfl) (by kernel_rfl)
theorem CS (a1 : qJ) (a2 : Rect) (r : Int) (hm : JO a1 a2 = some r) : CtX Tryz.prog globs 95 0 0 [.agg (qZ a1), .agg (qK a2)] [] (qGd r) (qGQ r) := by
 unfold JO at hm
 refine q_E Tryz.f95 44 fun E => ?_
 refine q_sq ?_
 refine q_vn [] 0 ⟨[(2, vp 0 0), (3, vp 1 0)], [(0, bx 54 (qZ a1)), (1, bx 28 (qK a2))]⟩ ?_
 refine q_sq ?_
 obtain ⟨v3, h4, hm⟩ := qD hm
 refine q_vu [qc 1 [9] 2 (qGX a1 v3 h4)] 2 [] [] [0] [(0, bx 54 (qZ v3))] ?_
 refine q_sq ?_
 refine q_vu [] 2 [] [(5, vi 0)] [] [] ?_
 refine q_sq ?_
 refine q_sq ?_
 refine q_vu [] 2 [] [(12, vc (tl e_Span default v3.Rows)), (13, vi ((v3.Rows.length : Nat) : Int)), (14, vi 0)] [] [] ?_
 obtain ⟨o20, h21, hm⟩ := qD hm
 refine zF (nd Tryz.f95 244) 0 (by kernel_rfl) FUEL (fun o => SF o) o20 (q_hl (TX a2 v3 0 0) (qDA E a2 v3 FUEL 0 0 o20 h21)) ?_
 refine q_sq ?_
 refine q_vn [] 2 ⟨[(4, vi o20)], []⟩ ?_
 obtain rfl := Option.some.inj hm
 refine q_rt ?_
 exact q_rm
def qK7 (r : (List Worth_zone)) : V := vo 0 0 3 r.length
def qKy (r : (List Worth_zone)) : List (Nat × (Nat × O)) := [(0, ro 0 162 3 r.length (rf qN r))]
def FM (a1 : List Slice) (a2 : Rect) (l3 : List Worth_zone) (l3n : Nat) (x4 : Int) (x5 : Int) : St :=
 ⟨[(3, vp 0 0), (5, vi (w64 ((w64 (a2.X.B - a2.X.A)) * (w64 (a2.Y.B - a2.Y.A))))), (6, vo 1 0 3 l3n), (7, vi x4), (27, vc (tl qG default a1)), (28, vi ((a1.length : Nat) : Int)), (29, vi x5)], [(0, bx 28 (qK a2)), (1, ro 0 162 3 l3n (rf qN l3))]⟩
def qBi (l12 : List Worth_zone) : St :=
 ⟨[(6, vo 1 0 3 l12.length)], [(1, ro 0 162 3 l12.length (rf qN l12))]⟩
theorem qFP (E : Env 0) (a1 : List Slice) (a2 : Rect) : ∀ (n : Nat) (l3 : List Worth_zone) (l3n : Nat) (x4 : Int) (x5 : Int) (res : (List Worth_zone)), l3.length = l3n → JU a1 a2 n l3 x4 x5 = some res → HL (kx E 61 0) (nd Tryz.f114 500) (zN 0 (fun o => qBi o) res) n (FM a1 a2 l3 l3n x4 x5) := by
 intro n
 induction n with
 | zero =>
  intro l3 l3n x4 x5 res hl0 hm
  cases hm
 | succ n ih =>
  intro l3 l3n x4 x5 res hl0 hm
  subst hl0
  refine qO ?_
  refine q_sq ?_
  refine q_vu [] 2 [] [(30, vb (decide (x5 < ((a1.length : Nat) : Int))))] [] [] ?_
  refine q_sq ?_
  refine q_cn (decide (x5 < ((a1.length : Nat) : Int))) (fun b6 => ?_) (fun b6 => ?_)
  ·replace hm := qB b6 hm
   refine q_sk ?_
   refine q_sq ?_
   refine q_bk 1 ?_
   refine q_sq ?_
   obtain ⟨g7, hm⟩ := qI hm
   refine q_vu [qd 0 (Dir.none) (inb_of g7)] 2 [30] [(9, vp 2 0)] [] [(2, bx 56 [ci ((a1.getD x5.toNat default).Len), ci (((a1.getD x5.toNat default).Sec).Low), tl e_Span default (((a1.getD x5.toNat default).Sec).Rows)])] ?_
   refine q_sq ?_
   obtain ⟨v8, h9, hm⟩ := qD hm
   refine q_vu [qc 4 [35, 36] 3 (CS ((a1.getD x5.toNat default).Sec) a2 v8 h9)] 3 [] [(10, vi (w64 ((w64 ((w64 (a2.X.B - a2.X.A)) * (w64 (a2.Y.B - a2.Y.A)))) - v8)))] [] [] ?_
   refine q_sq ?_
   refine q_vu [] 3 [7, 9] [(11, vp 3 0)] [2] [(3, bx 26 [ci x4, ci (w64 (x4 + ((a1.getD x5.toNat default).Len)))])] ?_
   refine q_sq ?_
   obtain ⟨g10, hm⟩ := qI hm
   obtain ⟨g11, hm⟩ := qI hm
   refine q_du [qd 8 (Dir.none) (qLl g10), qd 10 (drw 4 0 (rf qN ([(Worth_zone.mk (Span.mk x4 (w64 (x4 + ((a1.getD x5.toNat default).Len)))) (w64 (Int.tdiv (w64 ((w64 ((w64 (1000 * (w64 ((w64 ((w64 (a2.X.B - a2.X.A)) * (w64 (a2.Y.B - a2.Y.A)))) - v8)))) + (w64 ((w64 (a2.X.B - a2.X.A)) * (w64 (a2.Y.B - a2.Y.A)))))) - 1)) (w64 ((w64 (a2.X.B - a2.X.A)) * (w64 (a2.Y.B - a2.Y.A)))))))] : List Worth_zone))) (litP qN default 3 (fun _ => rfl) ([(Worth_zone.mk (Span.mk x4 (w64 (x4 + ((a1.getD x5.toNat default).Len)))) (w64 (Int.tdiv (w64 ((w64 ((w64 (1000 * (w64 ((w64 ((w64 (a2.X.B - a2.X.A)) * (w64 (a2.Y.B - a2.Y.A)))) - v8)))) + (w64 ((w64 (a2.X.B - a2.X.A)) * (w64 (a2.Y.B - a2.Y.A)))))) - 1)) (w64 ((w64 (a2.X.B - a2.X.A)) * (w64 (a2.Y.B - a2.Y.A)))))))] : List Worth_zone) 1 rfl), qd 11 (drw 1 1 (rf qN (l3 ++ ([(Worth_zone.mk (Span.mk x4 (w64 (x4 + ((a1.getD x5.toNat default).Len)))) (w64 (Int.tdiv (w64 ((w64 ((w64 (1000 * (w64 ((w64 ((w64 (a2.X.B - a2.X.A)) * (w64 (a2.Y.B - a2.Y.A)))) - v8)))) + (w64 ((w64 (a2.X.B - a2.X.A)) * (w64 (a2.Y.B - a2.Y.A)))))) - 1)) (w64 ((w64 (a2.X.B - a2.X.A)) * (w64 (a2.Y.B - a2.Y.A)))))))] : List Worth_zone)))) (apP qN default l3 ([(Worth_zone.mk (Span.mk x4 (w64 (x4 + ((a1.getD x5.toNat default).Len)))) (w64 (Int.tdiv (w64 ((w64 ((w64 (1000 * (w64 ((w64 ((w64 (a2.X.B - a2.X.A)) * (w64 (a2.Y.B - a2.Y.A)))) - v8)))) + (w64 ((w64 (a2.X.B - a2.X.A)) * (w64 (a2.Y.B - a2.Y.A)))))) - 1)) (w64 ((w64 (a2.X.B - a2.X.A)) * (w64 (a2.Y.B - a2.Y.A)))))))] : List Worth_zone) l3.length 1 3 24 (1 ≤ 1) (Nat.le_refl _) rfl rfl (fun _ => rfl) (zS g11))] [0, 0, 0, 4, 0, 28, 60, 0, 252, 510, 1022, 2047, 4095] 4 [6, 10] [(6, vo 1 1 3 (l3.length + 1))] [1] [(1, ro 1 162 3 (l3.length + 1) (rf qN (l3 ++ ([(Worth_zone.mk (Span.mk x4 (w64 (x4 + ((a1.getD x5.toNat default).Len)))) (w64 (Int.tdiv (w64 ((w64 ((w64 (1000 * (w64 ((w64 ((w64 (a2.X.B - a2.X.A)) * (w64 (a2.Y.B - a2.Y.A)))) - v8)))) + (w64 ((w64 (a2.X.B - a2.X.A)) * (w64 (a2.Y.B - a2.Y.A)))))) - 1)) (w64 ((w64 (a2.X.B - a2.X.A)) * (w64 (a2.Y.B - a2.Y.A)))))))] : List Worth_zone))))] ?_
   refine q_vu [] 5 [11] [(7, vi (w64 (x4 + ((a1.getD x5.toNat default).Len))))] [3] [] ?_
   refine q_vu [] 5 [29] [(29, vi (w64 (x5 + 1)))] [] [] ?_
   exact q_hl (FM a1 a2 (l3 ++ ([(Worth_zone.mk (Span.mk x4 (w64 (x4 + ((a1.getD x5.toNat default).Len)))) (w64 (Int.tdiv (w64 ((w64 ((w64 (1000 * (w64 ((w64 ((w64 (a2.X.B - a2.X.A)) * (w64 (a2.Y.B - a2.Y.A)))) - v8)))) + (w64 ((w64 (a2.X.B - a2.X.A)) * (w64 (a2.Y.B - a2.Y.A)))))) - 1)) (w64 ((w64 (a2.X.B - a2.X.A)) * (w64 (a2.Y.B - a2.Y.A)))))))] : List Worth_zone)) (l3.length + 1) (w64 (x4 + ((a1.getD x5.toNat default).Len))) (w64 (x5 + 1))) (ih (l3 ++ ([(Worth_zone.mk (Span.mk x4 (w64 (x4 + ((a1.getD x5.toNat default).Len)))) (w64 (Int.tdiv (w64 ((w64 ((w64 (1000 * (w64 ((w64 ((w64 (a2.X.B - a2.X.A)) * (w64 (a2.Y.B - a2.Y.A)))) - v8)))) + (w64 ((w64 (a2.X.B - a2.X.A)) * (w64 (a2.Y.B - a2.Y.A)))))) - 1)) (w64 ((w64 (a2.X.B - a2.X.A)) * (w64 (a2.Y.B - a2.Y.A)))))))] : List Worth_zone)) (l3.length + 1) (w64 (x4 + ((a1.getD x5.toNat default).Len))) (w64 (x5 + 1)) _ (len_app rfl rfl) hm)
  ·replace hm := qA b6 hm
   refine q_ex 0 ?_
   obtain rfl := Option.some.inj hm
   exact zX (by kernel_rfl) (by kernel_rfl)
theorem qJe (a1 : List Slice) (a2 : Rect) (r : (List Worth_zone)) (hm : BT a1 a2 = some r) : CtX Tryz.prog globs 114 0 0 [.one (tl qG default a1), .agg (qK a2)] [] (qK7 r) (qKy r) := by
 unfold BT at hm
 refine q_E Tryz.f114 61 fun E => ?_
 refine q_sq ?_
 refine q_vn [] 0 ⟨[(0, vc (tl qG default a1)), (3, vp 0 0)], [(0, bx 28 (qK a2))]⟩ ?_
 refine q_sq ?_
 refine q_vu [] 1 [] [(5, vi (w64 ((w64 (a2.X.B - a2.X.A)) * (w64 (a2.Y.B - a2.Y.A)))))] [] [] ?_
 refine q_sq ?_
 refine q_vu [] 1 [] [(6, vc (.emp))] [] [] ?_
 refine q_sq ?_
 refine q_vu [] 1 [] [(7, vi 0)] [] [] ?_
 refine q_sq ?_
 refine q_sq ?_
 refine q_vu [] 1 [0] [(27, vc (tl qG default a1)), (28, vi ((a1.length : Nat) : Int)), (29, vi 0)] [] [] ?_
 refine q_fn [.own 6 1 162 3 (rf qN ([] : List Worth_zone))] ⟨[(3, vp 0 0), (5, vi (w64 ((w64 (a2.X.B - a2.X.A)) * (w64 (a2.Y.B - a2.Y.A))))), (6, vo 1 0 3 0), (7, vi 0), (27, vc (tl qG default a1)), (28, vi ((a1.length : Nat) : Int)), (29, vi 0)], [(0, bx 28 (qK a2)), (1, ro 0 162 3 0 (rf qN ([] : List Worth_zone)))]⟩ o0 ?_
 obtain ⟨o13, h14, hm⟩ := qD hm
 refine zF (nd Tryz.f114 500) 0 (by kernel_rfl) FUEL (fun o => qBi o) o13 (q_hl (FM a1 a2 ([] : List Worth_zone) 0 0 0) (qFP E a1 a2 FUEL ([] : List Worth_zone) 0 0 0 o13 rfl h14)) ?_
 refine q_sq ?_
 refine q_vu [] 2 [6] [(4, vo 1 0 3 o13.length)] [] [] ?_
 obtain rfl := Option.some.inj hm
 refine qR 1 0 (by kernel_rfl) ?_
 refine q_rt ?_
 exact q_rm
set_option maxRecDepth 100000
def qHc (r : Bool) : V := vb r
def qHU (r : Bool) : List (Nat × (Nat × O)) := []
def IA (x5 : Bool) : St :=
 ⟨[(6, vb x5)], []⟩
theorem ZU (a1 : Span) (a2 : Int) (a3 : Int) (r : Bool) (hm : WW a1 a2 a3 = some r) : CtX Tryz.prog globs 112 0 0 [.agg (e_Span a1), .one (ci a2), .one (ci a3)] [] (qHc r) (qHU r) := by
 unfold WW at hm
 refine q_E Tryz.f112 23 fun E => ?_
 refine q_sq ?_
 refine q_vn [] 0 ⟨[(1, vi a2), (2, vi a3), (3, vp 0 0)], [(0, bx 26 (e_Span a1))]⟩ ?_
 refine q_jn (ι := Bool) (fun p => IA p) (fun p => RO p = some r) ?_ ?_
 ·rintro x5 hm
  show H _ (IA x5) _ _
  obtain rfl := Option.some.inj hm
  refine q_rt ?_
  exact q_rm
 ·rcases Bool.eq_false_or_eq_true (decide ((imin a1.A a1.B) ≥ a2)) with b4 | b4
  ·replace hm := qB b4 hm
   refine q_vn [qf 7 b4] 1 ⟨[(6, vb (decide ((imax a1.A a1.B) ≤ a3)))], []⟩ ?_
   exact q_J (decide ((imax a1.A a1.B) ≤ a3)) hm
  ·replace hm := qA b4 hm
   refine q_vn [qf 7 b4] 1 ⟨[(6, vb false)], []⟩ ?_
   exact q_J (false) hm
open Go.Proofs
set_option maxHeartbeats 4000000
set_option maxRecDepth 100000
def qIo (r : Int) : V := vi r
def qI0 (r : Int) : List (Nat × (Nat × O)) := []
def OQ (x23 : Bool) : St :=
 ⟨[(29, vb x23)], []⟩
def CC (a1 : Defect) (x13 : Bool) : St :=
 ⟨[(3, vp 1 0), (15, vb x13)], [(1, bx 108 (zC a1.Box))]⟩
def CG (a1 : Defect) (x3 : Bool) : St :=
 ⟨[(3, vp 1 0), (6, vb x3)], [(1, bx 108 (zC a1.Box))]⟩
theorem qHT (a1 : Defect) (r : Int) (hm : GO a1 = some r) : CtX Tryz.prog globs 87 0 0 [.agg (qH a1)] [] (qIo r) (qI0 r) := by
 unfold GO at hm
 refine q_E Tryz.f87 46 fun E => ?_
 refine q_sq ?_
 refine q_vn [] 0 ⟨[(1, vp 0 0)], [(0, bx 110 (qH a1))]⟩ ?_
 refine q_sq ?_
 refine q_vu [] 1 [] [(3, vp 1 0)] [] [(1, bx 108 (zC a1.Box))] ?_
 refine q_sq ?_
 refine q_bk 0 ?_
 refine q_jn (ι := Bool) (fun p => CG a1 p) (fun p => TZ a1 p = some r) ?_ ?_
 ·rintro x3 hm
  show H _ (CG a1 x3) _ _
  refine q_cn x3 (fun b4 => ?_) (fun b4 => ?_)
  ·replace hm := qB b4 hm
   refine q_sq ?_
   refine q_vn [] 2 ⟨[(2, vi 10)], []⟩ ?_
   obtain rfl := Option.some.inj hm
   refine q_rt ?_
   exact q_rm
  ·replace hm := qA b4 hm
   refine q_jn (ι := Bool) (fun p => CC a1 p) (fun p => XR a1 p = some r) ?_ ?_
   ·rintro x13 hm
    show H _ (CC a1 x13) _ _
    refine q_cn x13 (fun b14 => ?_) (fun b14 => ?_)
    ·replace hm := qB b14 hm
     refine q_sq ?_
     refine q_vn [] 2 ⟨[(2, vi 19)], []⟩ ?_
     obtain rfl := Option.some.inj hm
     refine q_rt ?_
     exact q_rm
    ·replace hm := qA b14 hm
     refine q_jn (ι := Bool) (fun p => OQ p) (fun p => KE p = some r) ?_ ?_
     ·rintro x23 hm
      show H _ (OQ x23) _ _
      refine q_cn x23 (fun b24 => ?_) (fun b24 => ?_)
      ·replace hm := qB b24 hm
       refine q_sq ?_
       refine q_vn [] 2 ⟨[(2, vi 9)], []⟩ ?_
       obtain rfl := Option.some.inj hm
       refine q_rt ?_
       exact q_rm
      ·replace hm := qA b24 hm
       refine q_sk ?_
       refine q_sq ?_
       refine q_vn [] 2 ⟨[(2, vi 0)], []⟩ ?_
       obtain rfl := Option.some.inj hm
       refine q_rt ?_
       exact q_rm
     ·obtain ⟨v15, h16, hm⟩ := qD hm
      rcases Bool.eq_false_or_eq_true (!v15) with b17 | b17
      ·replace hm := qB b17 hm
       refine q_vn [qk 2 [31] 2 ⟨[(31, va (e_Span a1.Box.X))], []⟩ (ZU a1.Box.X (-600) 600 v15 h16), qf 4 b17] 2 ⟨[(29, vb true)], []⟩ ?_
       exact q_J (true) hm
      ·replace hm := qA b17 hm
       obtain ⟨v18, h19, hm⟩ := qD hm
       rcases Bool.eq_false_or_eq_true (!v18) with b20 | b20
       ·replace hm := qB b20 hm
        refine q_vn [qk 2 [31] 2 ⟨[(31, va (e_Span a1.Box.X))], []⟩ (ZU a1.Box.X (-600) 600 v15 h16), qf 4 b17, qk 7 [34, 36] 2 ⟨[(34, vb false), (36, va (e_Span a1.Box.Y))], []⟩ (ZU a1.Box.Y (-600) 600 v18 h19), qf 10 b20] 2 ⟨[(29, vb true)], []⟩ ?_
        exact q_J (true) hm
       ·replace hm := qA b20 hm
        obtain ⟨v21, h22, hm⟩ := qD hm
        refine q_vn [qk 2 [31] 2 ⟨[(31, va (e_Span a1.Box.X))], []⟩ (ZU a1.Box.X (-600) 600 v15 h16), qf 4 b17, qk 7 [34, 36] 2 ⟨[(34, vb false), (36, va (e_Span a1.Box.Y))], []⟩ (ZU a1.Box.Y (-600) 600 v18 h19), qf 10 b20, qk 13 [40, 42] 2 ⟨[(40, vb false), (42, va (e_Span a1.Box.Z))], []⟩ (ZU a1.Box.Z 0 20000 v21 h22)] 2 ⟨[(29, vb (!v21))], []⟩ ?_
        exact q_J (!v21) hm
   ·obtain ⟨v5, h6, hm⟩ := qD hm
    rcases Bool.eq_false_or_eq_true v5 with b7 | b7
    ·replace hm := qB b7 hm
     refine q_vu [qc 2 [17] 2 (zW a1.Box.X v5 h6), qf 3 b7] 2 [6] [(15, vb true)] [] [] ?_
     exact q_J (true) hm
    ·replace hm := qA b7 hm
     obtain ⟨v8, h9, hm⟩ := qD hm
     rcases Bool.eq_false_or_eq_true v8 with b10 | b10
     ·replace hm := qB b10 hm
      refine q_vu [qc 2 [17] 2 (zW a1.Box.X v5 h6), qf 3 b7, qk 6 [19, 21] 2 ⟨[(19, vb false), (21, va (e_Span a1.Box.Y))], []⟩ (zW a1.Box.Y v8 h9), qf 8 b10] 2 [6] [(15, vb true)] [] [] ?_
      exact q_J (true) hm
     ·replace hm := qA b10 hm
      obtain ⟨v11, h12, hm⟩ := qD hm
      refine q_vu [qc 2 [17] 2 (zW a1.Box.X v5 h6), qf 3 b7, qk 6 [19, 21] 2 ⟨[(19, vb false), (21, va (e_Span a1.Box.Y))], []⟩ (zW a1.Box.Y v8 h9), qf 8 b10, qk 11 [24, 26] 2 ⟨[(24, vb false), (26, va (e_Span a1.Box.Z))], []⟩ (zW a1.Box.Z v11 h12)] 2 [6] [(15, vb v11)] [] [] ?_
      exact q_J (v11) hm
 ·rcases Bool.eq_false_or_eq_true (decide (a1.Kind < 1)) with b2 | b2
  ·replace hm := qB b2 hm
   refine q_vu [qf 3 b2] 2 [1] [(6, vb true)] [0] [] ?_
   exact q_J (true) hm
  ·replace hm := qA b2 hm
   refine q_vu [qf 3 b2] 2 [1] [(6, vb (decide (a1.Kind > 6)))] [0] [] ?_
   exact q_J (decide (a1.Kind > 6)) hm
def SN (r : Int) : V := vi r
def EF (r : Int) : List (Nat × (Nat × O)) := []
def BO (a1 : List Defect) (x3 : Int) : St :=
 ⟨[(9, vc (tl qH default a1)), (10, vi ((a1.length : Nat) : Int)), (11, vi x3)], []⟩
def OT : St :=
 ⟨[], []⟩
theorem qEw (E : Env 0) (a1 : List Defect) : ∀ (n : Nat) (x3 : Int) (res : Int ⊕ Unit), QL a1 n x3 = some res → HL (kx E 21 0) (nd Tryz.f57 116) (wC 0 (fun o => OT) (fun v st => RetQ Tryz.prog Tryz.f57 (SN v) (EF v) .ret st) res) n (BO a1 x3) := by
 intro n
 induction n with
 | zero =>
  intro x3 res hm
  cases hm
 | succ n ih =>
  intro x3 res hm
  refine qO ?_
  refine q_sq ?_
  refine q_vu [] 0 [] [(12, vb (decide (x3 < ((a1.length : Nat) : Int))))] [] [] ?_
  refine q_sq ?_
  refine q_cn (decide (x3 < ((a1.length : Nat) : Int))) (fun b4 => ?_) (fun b4 => ?_)
  ·replace hm := qB b4 hm
   refine q_sk ?_
   refine q_sq ?_
   refine q_bk 1 ?_
   refine q_sq ?_
   obtain ⟨g5, hm⟩ := qI hm
   refine q_vu [qd 0 (Dir.none) (inb_of g5)] 0 [12] [(4, vp 0 0)] [] [(0, bx 110 [ci ((a1.getD x3.toNat default).Kind), ci ((((a1.getD x3.toNat default).Box).X).A), ci ((((a1.getD x3.toNat default).Box).X).B), ci ((((a1.getD x3.toNat default).Box).Y).A), ci ((((a1.getD x3.toNat default).Box).Y).B), ci ((((a1.getD x3.toNat default).Box).Z).A), ci ((((a1.getD x3.toNat default).Box).Z).B)])] ?_
   refine q_sq ?_
   obtain ⟨v6, h7, hm⟩ := qD hm
   refine q_vu [qc 1 [15] 1 (qHT (a1.getD x3.toNat default) v6 h7)] 1 [4] [(5, vi v6)] [0] [] ?_
   refine q_sq ?_
   refine q_vu [] 1 [] [(18, vb (v6 != 0))] [] [] ?_
   refine q_cn (v6 != 0) (fun b8 => ?_) (fun b8 => ?_)
   ·replace hm := qB b8 hm
    refine q_sq ?_
    refine q_vn [] 1 ⟨[(2, vi v6)], []⟩ ?_
    obtain rfl := Option.some.inj hm
    refine q_rt ?_
    refine qU v6 ?_
    exact q_rm
   ·replace hm := qA b8 hm
    refine q_sk ?_
    refine q_vu [] 1 [5, 11, 18] [(11, vi (w64 (x3 + 1)))] [] [] ?_
    exact q_hl (BO a1 (w64 (x3 + 1))) (ih (w64 (x3 + 1)) _ hm)
  ·replace hm := qA b4 hm
   refine q_ex 0 ?_
   obtain rfl := Option.some.inj hm
   exact wF () (by kernel_rfl) (by kernel_rfl)
theorem UD (a1 : List Defect) (r : Int) (hm : KR a1 = some r) : CtX Tryz.prog globs 57 0 0 [.one (tl qH default a1)] [] (SN r) (EF r) := by
 unfold KR at hm
 refine q_E Tryz.f57 21 fun E => ?_
 refine q_sq ?_
 refine q_vn [] 0 ⟨[(0, vc (tl qH default a1))], []⟩ ?_
 refine q_sq ?_
 refine q_sq ?_
 refine q_vu [] 0 [] [(8, vb (decide (((a1.length : Nat) : Int) > 64)))] [] [] ?_
 refine q_cn (decide (((a1.length : Nat) : Int) > 64)) (fun b2 => ?_) (fun b2 => ?_)
 ·replace hm := qB b2 hm
  refine q_sq ?_
  refine q_vn [] 0 ⟨[(2, vi 4)], []⟩ ?_
  obtain rfl := Option.some.inj hm
  refine q_rt ?_
  exact q_rm
 ·replace hm := qA b2 hm
  refine q_sk ?_
  refine q_sq ?_
  refine q_sq ?_
  refine q_vn [] 0 ⟨[(9, vc (tl qH default a1)), (10, vi ((a1.length : Nat) : Int)), (11, vi 0)], []⟩ ?_
  obtain ⟨u11, h10, hm⟩ := qD hm
  refine zI (nd Tryz.f57 116) 0 (by kernel_rfl) FUEL (fun o => OT) (fun v st => RetQ Tryz.prog Tryz.f57 (SN v) (EF v) .ret st) u11 (q_hl (BO a1 0) (qEw E a1 FUEL 0 u11 h10)) ?_ ?_
  ·rintro v12 rfl st hr
   obtain rfl := Option.some.inj hm
   exact hr
  ·rintro o9 rfl
   replace hm : _ = some r := hm
   refine q_sq ?_
   refine q_vn [] 0 ⟨[(2, vi 0)], []⟩ ?_
   obtain rfl := Option.some.inj hm
   refine q_rt ?_
   exact q_rm
set_option maxRecDepth 100000
def qHI (r : Bool) : V := vb r
def qHY (r : Bool) : List (Nat × (Nat × O)) := []
def EZ (x3 : Bool) : St :=
 ⟨[(2, vb x3)], []⟩
theorem RN (a1 : Int) (r : Bool) (hm : YZ a1 = some r) : CtX Tryz.prog globs 84 0 0 [.one (.val (.int .u8 a1))] [] (qHI r) (qHY r) := by
 unfold YZ at hm
 refine q_E Tryz.f84 9 fun E => ?_
 refine q_sq ?_
 refine q_vn [] 0 ⟨[(0, vc (.val (.int .u8 a1)))], []⟩ ?_
 refine q_jn (ι := Bool) (fun p => EZ p) (fun p => RP p = some r) ?_ ?_
 ·rintro x3 hm
  show H _ (EZ x3) _ _
  obtain rfl := Option.some.inj hm
  refine q_rt ?_
  exact q_rm
 ·rcases Bool.eq_false_or_eq_true (decide (97 ≤ a1)) with b2 | b2
  ·replace hm := qB b2 hm
   refine q_vn [qf 2 b2] 0 ⟨[(2, vb (decide (a1 ≤ 122)))], []⟩ ?_
   exact q_J (decide (a1 ≤ 122)) hm
  ·replace hm := qA b2 hm
   refine q_vn [qf 2 b2] 0 ⟨[(2, vb false)], []⟩ ?_
   exact q_J (false) hm
open Go.Proofs
set_option maxHeartbeats 4000000
set_option maxRecDepth 100000
def qHL (r : Bool) : V := vb r
def qHx (r : Bool) : List (Nat × (Nat × O)) := []
def AB (x3 : Bool) : St :=
 ⟨[(2, vb x3)], []⟩
theorem qAK (a1 : Int) (r : Bool) (hm : RT a1 = some r) : CtX Tryz.prog globs 85 0 0 [.one (.val (.int .u8 a1))] [] (qHL r) (qHx r) := by
 unfold RT at hm
 refine q_E Tryz.f85 9 fun E => ?_
 refine q_sq ?_
 refine q_vn [] 0 ⟨[(0, vc (.val (.int .u8 a1)))], []⟩ ?_
 refine q_jn (ι := Bool) (fun p => AB p) (fun p => RB p = some r) ?_ ?_
 ·rintro x3 hm
  show H _ (AB x3) _ _
  obtain rfl := Option.some.inj hm
  refine q_rt ?_
  exact q_rm
 ·rcases Bool.eq_false_or_eq_true (decide (48 ≤ a1)) with b2 | b2
  ·replace hm := qB b2 hm
   refine q_vn [qf 2 b2] 0 ⟨[(2, vb (decide (a1 ≤ 57)))], []⟩ ?_
   exact q_J (decide (a1 ≤ 57)) hm
  ·replace hm := qA b2 hm
   refine q_vn [qf 2 b2] 0 ⟨[(2, vb false)], []⟩ ?_
   exact q_J (false) hm
def EB (r : Bool) : V := vb r
def EC (r : Bool) : List (Nat × (Nat × O)) := []
def OY (a1 : ByteArray) (x9 : Int) (x18 : Bool) : St :=
 ⟨[(0, vc (cs a1)), (3, vi x9), (39, vb x18)], []⟩
def BQ (a1 : ByteArray) (x9 : Int) : St :=
 ⟨[(0, vc (cs a1)), (3, vi x9)], []⟩
def OM : St :=
 ⟨[], []⟩
def CL (a1 : ByteArray) (x7 : Bool) : St :=
 ⟨[(0, vc (cs a1)), (18, vb x7)], []⟩
theorem qEQ (E : Env 0) (a1 : ByteArray) : ∀ (n : Nat) (x9 : Int) (res : Bool ⊕ Unit), wT a1 n x9 = some res → HL (kx E 40 0) (nd Tryz.f51 116) (wC 0 (fun o => OM) (fun v st => RetQ Tryz.prog Tryz.f51 (EB v) (EC v) .ret st) res) n (BQ a1 x9) := by
 intro n
 induction n with
 | zero =>
  intro x9 res hm
  cases hm
 | succ n ih =>
  intro x9 res hm
  refine qO ?_
  refine q_sq ?_
  refine q_sq ?_
  refine q_vu [] 0 [] [(22, vb (decide (x9 < ((a1.size : Nat) : Int))))] [] [] ?_
  refine q_cn (decide (x9 < ((a1.size : Nat) : Int))) (fun b10 => ?_) (fun b10 => ?_)
  ·replace hm := qB b10 hm
   refine q_sk ?_
   refine q_sq ?_
   refine q_bk 1 ?_
   refine q_sq ?_
   obtain ⟨g11, hm⟩ := qI hm
   refine q_vu [qd 2 (Dir.none) (inb_of g11)] 0 [22] [(4, vc (.val (.int .u8 (strAt a1 x9.toNat))))] [] [] ?_
   refine q_jn (ι := Bool) (fun p => OY a1 x9 p) (fun p => XH x9 (wT a1 n) p = some res) ?_ ?_
   ·rintro x18 hm
    show H _ (OY a1 x9 x18) _ _
    refine q_cn x18 (fun b19 => ?_) (fun b19 => ?_)
    ·replace hm := qB b19 hm
     refine q_sq ?_
     refine q_vn [] 0 ⟨[(2, vb false)], []⟩ ?_
     obtain rfl := Option.some.inj hm
     refine q_rt ?_
     refine qU false ?_
     exact q_rm
    ·replace hm := qA b19 hm
     refine q_sk ?_
     refine q_vu [] 0 [3, 39] [(3, vi (w64 (x9 + 1)))] [] [] ?_
     exact q_hl (BQ a1 (w64 (x9 + 1))) (ih (w64 (x9 + 1)) _ hm)
   ·obtain ⟨v12, h13, hm⟩ := qD hm
    rcases Bool.eq_false_or_eq_true (!v12) with b14 | b14
    ·replace hm := qB b14 hm
     obtain ⟨v15, h16, hm⟩ := qD hm
     rcases Bool.eq_false_or_eq_true (!v15) with b17 | b17
     ·replace hm := qB b17 hm
      refine q_vu [qc 1 [28] 0 (RN (strAt a1 x9.toNat) v12 h13), qf 3 b14, qk 5 [31, 32] 0 ⟨[(31, vb true), (32, vc (.val (.int .u8 (strAt a1 x9.toNat))))], []⟩ (qAK (strAt a1 x9.toNat) v15 h16), qf 8 b17] 0 [4] [(32, vc (.val (.int .u8 (strAt a1 x9.toNat)))), (33, vb v15), (34, vb (!v15)), (37, vc (.val (.int .u8 (strAt a1 x9.toNat)))), (38, vb ((strAt a1 x9.toNat) != 95)), (39, vb ((strAt a1 x9.toNat) != 95))] [] [] ?_
      exact q_J ((strAt a1 x9.toNat) != 95) hm
     ·replace hm := qA b17 hm
      refine q_vu [qc 1 [28] 0 (RN (strAt a1 x9.toNat) v12 h13), qf 3 b14, qk 5 [31, 32] 0 ⟨[(31, vb true), (32, vc (.val (.int .u8 (strAt a1 x9.toNat))))], []⟩ (qAK (strAt a1 x9.toNat) v15 h16), qf 8 b17] 0 [4] [(32, vc (.val (.int .u8 (strAt a1 x9.toNat)))), (33, vb v15), (34, vb (!v15)), (39, vb false)] [] [] ?_
      exact q_J (false) hm
    ·replace hm := qA b14 hm
     refine q_vu [qc 1 [28] 0 (RN (strAt a1 x9.toNat) v12 h13), qf 3 b14] 0 [4] [(39, vb false)] [] [] ?_
     exact q_J (false) hm
  ·replace hm := qA b10 hm
   refine q_ex 0 ?_
   obtain rfl := Option.some.inj hm
   exact wF () (by kernel_rfl) (by kernel_rfl)
theorem qHZ (a1 : ByteArray) (r : Bool) (hm : UW a1 = some r) : CtX Tryz.prog globs 51 0 0 [.one (cs a1)] [] (EB r) (EC r) := by
 unfold UW at hm
 refine q_E Tryz.f51 40 fun E => ?_
 refine q_sq ?_
 refine q_vn [] 0 ⟨[(0, vc (cs a1))], []⟩ ?_
 refine q_sq ?_
 refine q_jn (ι := Bool) (fun p => CL a1 p) (fun p => XP a1 p = some r) ?_ ?_
 ·rintro x7 hm
  show H _ (CL a1 x7) _ _
  refine q_cn x7 (fun b8 => ?_) (fun b8 => ?_)
  ·replace hm := qB b8 hm
   refine q_sq ?_
   refine q_vn [] 0 ⟨[(2, vb false)], []⟩ ?_
   obtain rfl := Option.some.inj hm
   refine q_rt ?_
   exact q_rm
  ·replace hm := qA b8 hm
   refine q_sk ?_
   refine q_sq ?_
   refine q_sq ?_
   refine q_vu [] 0 [18] [(3, vi 1)] [] [] ?_
   obtain ⟨u22, h21, hm⟩ := qD hm
   refine zI (nd Tryz.f51 116) 0 (by kernel_rfl) FUEL (fun o => OM) (fun v st => RetQ Tryz.prog Tryz.f51 (EB v) (EC v) .ret st) u22 (q_hl (BQ a1 1) (qEQ E a1 FUEL 1 u22 h21)) ?_ ?_
   ·rintro v23 rfl st hr
    obtain rfl := Option.some.inj hm
    exact hr
   ·rintro o20 rfl
    replace hm : _ = some r := hm
    refine q_sq ?_
    refine q_vn [] 0 ⟨[(2, vb true)], []⟩ ?_
    obtain rfl := Option.some.inj hm
    refine q_rt ?_
    exact q_rm
 ·rcases Bool.eq_false_or_eq_true (decide (((a1.size : Nat) : Int) < 1)) with b2 | b2
  ·replace hm := qB b2 hm
   refine q_vu [qf 3 b2] 0 [] [(18, vb true)] [] [] ?_
   exact q_J (true) hm
  ·replace hm := qA b2 hm
   rcases Bool.eq_false_or_eq_true (decide (((a1.size : Nat) : Int) > 16)) with b3 | b3
   ·replace hm := qB b3 hm
    refine q_vu [qf 3 b2, qf 8 b3] 0 [] [(18, vb true)] [] [] ?_
    exact q_J (true) hm
   ·replace hm := qA b3 hm
    obtain ⟨g4, hm⟩ := qI hm
    obtain ⟨v5, h6, hm⟩ := qD hm
    refine q_vu [qf 3 b2, qf 8 b3, qd 10 (Dir.none) (inb_of g4), qk 11 [13, 15] 0 ⟨[(13, vb false), (15, vc (.val (.int .u8 (strAt a1 ((0 : Int).toNat)))))], []⟩ (RN (strAt a1 ((0 : Int).toNat)) v5 h6)] 0 [] [(18, vb (!v5))] [] [] ?_
    exact q_J (!v5) hm
end Saw
end Go.SL
