import Derived.Test.YtpphchcejhodkaaDoorEBase
set_option linter.unusedVariables false
set_option linter.unusedSimpArgs false
namespace Go.SL
namespace Saw
open Go.Proofs
set_option maxHeartbeats 4000000
set_option maxRecDepth 100000
def qHt (r : Bool) : V := vb r
def qHp (r : Bool) : List (Nat × (Nat × O)) := []
def AX (x3 : Bool) : St :=
 ⟨[(2, vb x3)], []⟩
theorem MA (a1 : Int) (r : Bool) (hm : RF a1 = some r) : CtX Tryd.prog globs 79 0 0 [.one (ci a1)] [] (qHt r) (qHp r) := by
 unfold RF at hm
 refine q_E Tryd.f79 9 fun E => ?_
 refine q_sq ?_
 refine q_vn [] 0 ⟨[(0, vi a1)], []⟩ ?_
 refine q_jn (ι := Bool) (fun p => AX p) (fun p => UN p = some r) ?_ ?_
 ·rintro x3 hm
  show H _ (AX x3) _ _
  obtain rfl := Option.some.inj hm
  refine q_rt ?_
  exact q_rm
 ·rcases Bool.eq_false_or_eq_true (decide (a1 < (-600))) with b2 | b2
  ·replace hm := qA b2 hm
   refine q_vn [qf 2 b2] 0 ⟨[(2, vb true)], []⟩ ?_
   exact q_J (true) hm
  ·replace hm := qB b2 hm
   refine q_vn [qf 2 b2] 0 ⟨[(2, vb (decide (a1 > 600)))], []⟩ ?_
   exact q_J (decide (a1 > 600)) hm
def qIQ (r : Bool) : V := vb r
def qJb (r : Bool) : List (Nat × (Nat × O)) := []
theorem PG (a1 : Span) (r : Bool) (hm : UK a1 = some r) : CtX Tryd.prog globs 80 0 0 [.agg (e_Span a1)] [] (qIQ r) (qJb r) := by
 unfold UK at hm
 refine q_E Tryd.f80 8 fun E => ?_
 refine q_sq ?_
 refine q_vn [] 0 ⟨[(1, vp 0 0)], [(0, bx 26 (e_Span a1))]⟩ ?_
 refine q_sq ?_
 refine q_vn [] 1 ⟨[(2, vb (decide (a1.A ≥ a1.B)))], []⟩ ?_
 obtain rfl := Option.some.inj hm
 refine q_rt ?_
 exact q_rm
set_option maxRecDepth 100000
def TT (r : Int) : V := vi r
def TY (r : Int) : List (Nat × (Nat × O)) := []
def CQ (a1 : qL) (x6 : Int) (x14 : Bool) : St :=
 ⟨[(1, vp 0 0), (3, vi ((a1.Rows.length : Nat) : Int)), (4, vi x6), (41, vb x14)], [(0, bx 54 (zJ a1))]⟩
def FO (a1 : qL) (x6 : Int) : St :=
 ⟨[(1, vp 0 0), (3, vi ((a1.Rows.length : Nat) : Int)), (4, vi x6)], [(0, bx 54 (zJ a1))]⟩
def CV (a1 : qL) : St :=
 ⟨[(1, vp 0 0), (3, vi ((a1.Rows.length : Nat) : Int))], [(0, bx 54 (zJ a1))]⟩
def CN (a1 : qL) (x31 : Int) (x37 : Bool) : St :=
 ⟨[(1, vp 0 0), (3, vi ((a1.Rows.length : Nat) : Int)), (5, vi x31), (80, vb x37)], [(0, bx 54 (zJ a1))]⟩
def FM (a1 : qL) (x31 : Int) : St :=
 ⟨[(1, vp 0 0), (3, vi ((a1.Rows.length : Nat) : Int)), (5, vi x31)], [(0, bx 54 (zJ a1))]⟩
def qAd : St :=
 ⟨[], []⟩
def CR (a1 : qL) (x29 : Bool) : St :=
 ⟨[(1, vp 0 0), (3, vi ((a1.Rows.length : Nat) : Int)), (60, vb x29)], [(0, bx 54 (zJ a1))]⟩
def CM (a1 : qL) (x4 : Bool) : St :=
 ⟨[(1, vp 0 0), (3, vi ((a1.Rows.length : Nat) : Int)), (20, vb x4)], [(0, bx 54 (zJ a1))]⟩
theorem qEn (E : Env 0) (a1 : qL) : ∀ (n : Nat) (x6 : Int) (res : Int ⊕ Unit), yE a1 n x6 = some res → HL (kx E 81 0) (nd Tryd.f52 500) (wW 0 (fun o => CV a1) (fun v st => RetQ Tryd.prog Tryd.f52 (TT v) (TY v) .ret st) res) n (FO a1 x6) := by
 intro n
 induction n with
 | zero =>
  intro x6 res hm
  cases hm
 | succ n ih =>
  intro x6 res hm
  refine qQ ?_
  refine q_sq ?_
  refine q_sq ?_
  refine q_vu [] 1 [] [(23, vb (decide (x6 < ((a1.Rows.length : Nat) : Int))))] [] [] ?_
  refine q_cn (decide (x6 < ((a1.Rows.length : Nat) : Int))) (fun b7 => ?_) (fun b7 => ?_)
  ·replace hm := qA b7 hm
   refine q_sk ?_
   refine q_sq ?_
   refine q_bk 1 ?_
   refine q_jn (ι := Bool) (fun p => CQ a1 x6 p) (fun p => DK x6 (yE a1 n) p = some res) ?_ ?_
   ·rintro x14 hm
    show H _ (CQ a1 x6 x14) _ _
    refine q_cn x14 (fun b15 => ?_) (fun b15 => ?_)
    ·replace hm := qA b15 hm
     refine q_sq ?_
     refine q_vn [] 1 ⟨[(2, vi 9)], []⟩ ?_
     obtain rfl := Option.some.inj hm
     refine q_rt ?_
     refine zB 9 ?_
     exact q_rm
    ·replace hm := qB b15 hm
     refine q_sk ?_
     refine q_vu [] 1 [4, 41] [(4, vi (w64 (x6 + 1)))] [] [] ?_
     exact q_hl (FO a1 (w64 (x6 + 1))) (ih (w64 (x6 + 1)) _ hm)
   ·obtain ⟨g8, hm⟩ := qM hm
    obtain ⟨v9, h10, hm⟩ := qC hm
    rcases Bool.eq_false_or_eq_true v9 with b11 | b11
    ·replace hm := qA b11 hm
     refine q_vu [qd 3 (Dir.none) (inb_of g8), qc 6 [31] 1 (MA ((a1.Rows.getD x6.toNat default).A) v9 h10), qf 7 b11] 1 [23] [(41, vb true)] [] [] ?_
     exact q_J (true) hm
    ·replace hm := qB b11 hm
     obtain ⟨v12, h13, hm⟩ := qC hm
     refine q_vu [qd 3 (Dir.none) (inb_of g8), qc 6 [31] 1 (MA ((a1.Rows.getD x6.toNat default).A) v9 h10), qf 7 b11, qd 11 (Dir.none) (inb_of g8), qk 14 [33, 39] 1 ⟨[(33, vb false), (39, vi ((a1.Rows.getD x6.toNat default).B))], []⟩ (MA ((a1.Rows.getD x6.toNat default).B) v12 h13)] 1 [23] [(41, vb v12)] [] [] ?_
     exact q_J (v12) hm
  ·replace hm := qB b7 hm
   refine q_ex 0 ?_
   obtain rfl := Option.some.inj hm
   exact jE () (by kernel_rfl) (by kernel_rfl)
theorem qEo (E : Env 0) (a1 : qL) : ∀ (n : Nat) (x31 : Int) (res : Int ⊕ Unit), jV a1 n x31 = some res → HL (kx E 81 0) (nd Tryd.f52 4084) (wW 2 (fun o => qAd) (fun v st => RetQ Tryd.prog Tryd.f52 (TT v) (TY v) .ret st) res) n (FM a1 x31) := by
 intro n
 induction n with
 | zero =>
  intro x31 res hm
  cases hm
 | succ n ih =>
  intro x31 res hm
  refine qQ ?_
  refine q_sq ?_
  refine q_sq ?_
  refine q_vu [] 1 [] [(63, vb (decide (x31 < ((a1.Rows.length : Nat) : Int))))] [] [] ?_
  refine q_cn (decide (x31 < ((a1.Rows.length : Nat) : Int))) (fun b32 => ?_) (fun b32 => ?_)
  ·replace hm := qA b32 hm
   refine q_sk ?_
   refine q_sq ?_
   refine q_bk 3 ?_
   refine q_jn (ι := Bool) (fun p => CN a1 x31 p) (fun p => DX x31 (jV a1 n) p = some res) ?_ ?_
   ·rintro x37 hm
    show H _ (CN a1 x31 x37) _ _
    refine q_cn x37 (fun b38 => ?_) (fun b38 => ?_)
    ·replace hm := qA b38 hm
     refine q_sq ?_
     refine q_vn [] 1 ⟨[(2, vi 19)], []⟩ ?_
     obtain rfl := Option.some.inj hm
     refine q_rt ?_
     refine zB 19 ?_
     exact q_rm
    ·replace hm := qB b38 hm
     refine q_sk ?_
     refine q_vu [] 1 [5, 80] [(5, vi (w64 (x31 + 1)))] [] [] ?_
     exact q_hl (FM a1 (w64 (x31 + 1))) (ih (w64 (x31 + 1)) _ hm)
   ·obtain ⟨g33, hm⟩ := qM hm
    obtain ⟨v34, h35, hm⟩ := qC hm
    rcases Bool.eq_false_or_eq_true v34 with b36 | b36
    ·replace hm := qA b36 hm
     refine q_vu [qd 3 (Dir.none) (inb_of g33), qc 5 [70] 1 (PG (a1.Rows.getD x31.toNat default) v34 h35), qf 6 b36, qd 10 (Dir.none) (inb_of g33)] 1 [63] [(80, vb (!((((a1.Rows.getD x31.toNat default).A) == 0) && ((((a1.Rows.getD x31.toNat default).B) == 0) && true))))] [] [] ?_
     exact q_J (!((((a1.Rows.getD x31.toNat default).A) == 0) && ((((a1.Rows.getD x31.toNat default).B) == 0) && true))) hm
    ·replace hm := qB b36 hm
     refine q_vu [qd 3 (Dir.none) (inb_of g33), qc 5 [70] 1 (PG (a1.Rows.getD x31.toNat default) v34 h35), qf 6 b36] 1 [63] [(80, vb false)] [] [] ?_
     exact q_J (false) hm
  ·replace hm := qB b32 hm
   refine q_ex 2 ?_
   obtain rfl := Option.some.inj hm
   exact jE () (by kernel_rfl) (by kernel_rfl)
theorem qHV (a1 : qL) (r : Int) (hm : NE a1 = some r) : CtX Tryd.prog globs 52 0 0 [.agg (zJ a1)] [] (TT r) (TY r) := by
 unfold NE at hm
 refine q_E Tryd.f52 81 fun E => ?_
 refine q_sq ?_
 refine q_vn [] 0 ⟨[(1, vp 0 0)], [(0, bx 54 (zJ a1))]⟩ ?_
 refine q_sq ?_
 refine q_vu [] 1 [] [(3, vi ((a1.Rows.length : Nat) : Int))] [] [] ?_
 refine q_sq ?_
 refine q_sq ?_
 refine q_vu [] 1 [] [(10, vb (decide (((a1.Rows.length : Nat) : Int) > 120)))] [] [] ?_
 refine q_cn (decide (((a1.Rows.length : Nat) : Int) > 120)) (fun b2 => ?_) (fun b2 => ?_)
 ·replace hm := qA b2 hm
  refine q_sq ?_
  refine q_vn [] 1 ⟨[(2, vi 4)], []⟩ ?_
  obtain rfl := Option.some.inj hm
  refine q_rt ?_
  exact q_rm
 ·replace hm := qB b2 hm
  refine q_sk ?_
  refine q_sq ?_
  refine q_jn (ι := Bool) (fun p => CM a1 p) (fun p => DU a1 p = some r) ?_ ?_
  ·rintro x4 hm
   show H _ (CM a1 x4) _ _
   refine q_cn x4 (fun b5 => ?_) (fun b5 => ?_)
   ·replace hm := qA b5 hm
    refine q_sq ?_
    refine q_vn [] 1 ⟨[(2, vi 9)], []⟩ ?_
    obtain rfl := Option.some.inj hm
    refine q_rt ?_
    exact q_rm
   ·replace hm := qB b5 hm
    refine q_sk ?_
    refine q_sq ?_
    refine q_sq ?_
    refine q_vu [] 1 [20] [(4, vi 0)] [] [] ?_
    obtain ⟨u18, h17, hm⟩ := qC hm
    refine zP (nd Tryd.f52 500) 0 (by kernel_rfl) FUEL (fun o => CV a1) (fun v st => RetQ Tryd.prog Tryd.f52 (TT v) (TY v) .ret st) u18 (q_hl (FO a1 0) (qEn E a1 FUEL 0 u18 h17)) ?_ ?_
    ·rintro v19 rfl st hr
     obtain rfl := Option.some.inj hm
     exact hr
    ·rintro o16 rfl
     replace hm : _ = some r := hm
     refine q_sq ?_
     refine q_sq ?_
     refine q_vu [] 1 [] [(43, vb (((a1.Rows.length : Nat) : Int) == 0))] [] [] ?_
     refine q_cn (((a1.Rows.length : Nat) : Int) == 0) (fun b20 => ?_) (fun b20 => ?_)
     ·replace hm := qA b20 hm
      refine q_sq ?_
      refine q_sq ?_
      refine q_vn [] 1 ⟨[(46, vb (a1.Low != 0))], []⟩ ?_
      refine q_cn (a1.Low != 0) (fun b21 => ?_) (fun b21 => ?_)
      ·replace hm := qA b21 hm
       refine q_sq ?_
       refine q_vn [] 1 ⟨[(2, vi 19)], []⟩ ?_
       obtain rfl := Option.some.inj hm
       refine q_rt ?_
       exact q_rm
      ·replace hm := qB b21 hm
       refine q_sk ?_
       refine q_sq ?_
       refine q_vn [] 1 ⟨[(2, vi 0)], []⟩ ?_
       obtain rfl := Option.some.inj hm
       refine q_rt ?_
       exact q_rm
     ·replace hm := qB b20 hm
      refine q_sk ?_
      refine q_sq ?_
      refine q_jn (ι := Bool) (fun p => CR a1 p) (fun p => BD a1 p = some r) ?_ ?_
      ·rintro x29 hm
       show H _ (CR a1 x29) _ _
       refine q_cn x29 (fun b30 => ?_) (fun b30 => ?_)
       ·replace hm := qA b30 hm
        refine q_sq ?_
        refine q_vn [] 1 ⟨[(2, vi 19)], []⟩ ?_
        obtain rfl := Option.some.inj hm
        refine q_rt ?_
        exact q_rm
       ·replace hm := qB b30 hm
        refine q_sk ?_
        refine q_sq ?_
        refine q_sq ?_
        refine q_vu [] 1 [60] [(5, vi 0)] [] [] ?_
        obtain ⟨u41, h40, hm⟩ := qC hm
        refine zP (nd Tryd.f52 4084) 2 (by kernel_rfl) FUEL (fun o => qAd) (fun v st => RetQ Tryd.prog Tryd.f52 (TT v) (TY v) .ret st) u41 (q_hl (FM a1 0) (qEo E a1 FUEL 0 u41 h40)) ?_ ?_
        ·rintro v42 rfl st hr
         obtain rfl := Option.some.inj hm
         exact hr
        ·rintro o39 rfl
         replace hm : _ = some r := hm
         refine q_sq ?_
         refine q_vn [] 1 ⟨[(2, vi 0)], []⟩ ?_
         obtain rfl := Option.some.inj hm
         refine q_rt ?_
         exact q_rm
      ·obtain ⟨g22, hm⟩ := qM hm
       obtain ⟨v23, h24, hm⟩ := qC hm
       rcases Bool.eq_false_or_eq_true v23 with b25 | b25
       ·replace hm := qA b25 hm
        refine q_vu [qd 2 (Dir.none) (inb_of g22), qc 4 [50] 1 (PG (a1.Rows.getD (0 : Int).toNat default) v23 h24), qf 5 b25] 1 [43] [(60, vb true)] [] [] ?_
        exact q_J (true) hm
       ·replace hm := qB b25 hm
        obtain ⟨g26, hm⟩ := qM hm
        obtain ⟨v27, h28, hm⟩ := qC hm
        refine q_vu [qd 2 (Dir.none) (inb_of g22), qc 4 [50] 1 (PG (a1.Rows.getD (0 : Int).toNat default) v23 h24), qf 5 b25, qd 10 (Dir.none) (inb_of g26), qk 12 [52, 58] 1 ⟨[(52, vb false), (58, va [ci ((a1.Rows.getD (w64 (((a1.Rows.length : Nat) : Int) - 1)).toNat default).A), ci ((a1.Rows.getD (w64 (((a1.Rows.length : Nat) : Int) - 1)).toNat default).B)])], []⟩ (PG (a1.Rows.getD (w64 (((a1.Rows.length : Nat) : Int) - 1)).toNat default) v27 h28)] 1 [43] [(60, vb v27)] [] [] ?_
        exact q_J (v27) hm
  ·rcases Bool.eq_false_or_eq_true (decide (a1.Low < (-60))) with b3 | b3
   ·replace hm := qA b3 hm
    refine q_vu [qf 3 b3] 1 [10] [(20, vb true)] [] [] ?_
    exact q_J (true) hm
   ·replace hm := qB b3 hm
    refine q_vu [qf 3 b3] 1 [10] [(20, vb (decide (a1.Low > (w64 (60 - ((a1.Rows.length : Nat) : Int))))))] [] [] ?_
    exact q_J (decide (a1.Low > (w64 (60 - ((a1.Rows.length : Nat) : Int))))) hm
open Go.Proofs
set_option maxHeartbeats 4000000
set_option maxRecDepth 100000
def AS (r : Int) : V := vi r
def AL (r : Int) : List (Nat × (Nat × O)) := []
def qAh (a1 : List qD) (x4 : Int) (x5 : Int) (x13 : Bool) : St :=
 ⟨[(0, vc (tl qI default a1)), (3, vi x4), (4, vi x5), (50, vb x13)], []⟩
def FF (a1 : List qD) (x4 : Int) (x5 : Int) : St :=
 ⟨[(0, vc (tl qI default a1)), (3, vi x4), (4, vi x5)], []⟩
def CJ : St :=
 ⟨[], []⟩
theorem qEm (E : Env 0) (a1 : List qD) : ∀ (n : Nat) (x4 : Int) (x5 : Int) (res : Int ⊕ Unit), jY a1 n x4 x5 = some res → HL (kx E 58 0) (nd Tryd.f27 500) (wW 0 (fun o => CJ) (fun v st => RetQ Tryd.prog Tryd.f27 (AS v) (AL v) .ret st) res) n (FF a1 x4 x5) := by
 intro n
 induction n with
 | zero =>
  intro x4 x5 res hm
  cases hm
 | succ n ih =>
  intro x4 x5 res hm
  refine qQ ?_
  refine q_sq ?_
  refine q_sq ?_
  refine q_vu [] 0 [] [(15, vb (decide (x5 < ((a1.length : Nat) : Int))))] [] [] ?_
  refine q_cn (decide (x5 < ((a1.length : Nat) : Int))) (fun b6 => ?_) (fun b6 => ?_)
  ·replace hm := qA b6 hm
   refine q_sk ?_
   refine q_sq ?_
   refine q_bk 1 ?_
   refine q_sq ?_
   refine q_sq ?_
   obtain ⟨g7, hm⟩ := qM hm
   obtain ⟨v8, h9, hm⟩ := qC hm
   refine q_vu [qd 2 (Dir.none) (inb_of g7), qc 5 [22] 0 (qHV ((a1.getD x5.toNat default).Sec) v8 h9)] 0 [15] [(5, vi v8)] [] [] ?_
   refine q_sq ?_
   refine q_vu [] 0 [] [(25, vb (v8 != 0))] [] [] ?_
   refine q_cn (v8 != 0) (fun b10 => ?_) (fun b10 => ?_)
   ·replace hm := qA b10 hm
    refine q_sq ?_
    refine q_vn [] 0 ⟨[(2, vi v8)], []⟩ ?_
    obtain rfl := Option.some.inj hm
    refine q_rt ?_
    refine zB v8 ?_
    exact q_rm
   ·replace hm := qB b10 hm
    refine q_sk ?_
    refine q_sq ?_
    refine q_sq ?_
    refine q_vu [qd 2 (Dir.none) (inb_of g7)] 0 [5, 25] [(34, vb ((((((a1.getD x5.toNat default).Sec).Rows).length : Nat) : Int) == 0))] [] [] ?_
    refine q_cn ((((((a1.getD x5.toNat default).Sec).Rows).length : Nat) : Int) == 0) (fun b11 => ?_) (fun b11 => ?_)
    ·replace hm := qA b11 hm
     refine q_sq ?_
     refine q_vn [] 0 ⟨[(2, vi 18)], []⟩ ?_
     obtain rfl := Option.some.inj hm
     refine q_rt ?_
     refine zB 18 ?_
     exact q_rm
    ·replace hm := qB b11 hm
     refine q_sk ?_
     refine q_sq ?_
     refine q_jn (ι := Bool) (fun p => qAh a1 x4 x5 p) (fun p => DS a1 x4 x5 (jY a1 n) p = some res) ?_ ?_
     ·rintro x13 hm
      show H _ (qAh a1 x4 x5 x13) _ _
      refine q_cn x13 (fun b14 => ?_) (fun b14 => ?_)
      ·replace hm := qA b14 hm
       refine q_sq ?_
       refine q_vn [] 0 ⟨[(2, vi 9)], []⟩ ?_
       obtain rfl := Option.some.inj hm
       refine q_rt ?_
       refine zB 9 ?_
       exact q_rm
      ·replace hm := qB b14 hm
       refine q_sk ?_
       refine q_vu [qd 3 (Dir.none) (inb_of g7)] 0 [3, 50] [(3, vi (w64 (x4 + ((a1.getD x5.toNat default).Len))))] [] [] ?_
       refine q_vu [] 0 [4] [(4, vi (w64 (x5 + 1)))] [] [] ?_
       exact q_hl (FF a1 (w64 (x4 + ((a1.getD x5.toNat default).Len))) (w64 (x5 + 1))) (ih (w64 (x4 + ((a1.getD x5.toNat default).Len))) (w64 (x5 + 1)) _ hm)
     ·rcases Bool.eq_false_or_eq_true (decide (((a1.getD x5.toNat default).Len) < 1)) with b12 | b12
      ·replace hm := qA b12 hm
       refine q_vu [qd 2 (Dir.none) (inb_of g7), qf 6 b12] 0 [34] [(50, vb true)] [] [] ?_
       exact q_J (true) hm
      ·replace hm := qB b12 hm
       refine q_vu [qd 2 (Dir.none) (inb_of g7), qf 6 b12, qd 9 (Dir.none) (inb_of g7)] 0 [34] [(50, vb (decide (((a1.getD x5.toNat default).Len) > (w64 (20000 - x4)))))] [] [] ?_
       exact q_J (decide (((a1.getD x5.toNat default).Len) > (w64 (20000 - x4)))) hm
  ·replace hm := qB b6 hm
   refine q_ex 0 ?_
   obtain rfl := Option.some.inj hm
   exact jE () (by kernel_rfl) (by kernel_rfl)
theorem qHM (a1 : List qD) (r : Int) (hm : BY a1 = some r) : CtX Tryd.prog globs 27 0 0 [.one (tl qI default a1)] [] (AS r) (AL r) := by
 unfold BY at hm
 refine q_E Tryd.f27 58 fun E => ?_
 refine q_sq ?_
 refine q_vn [] 0 ⟨[(0, vc (tl qI default a1))], []⟩ ?_
 refine q_sq ?_
 refine q_sq ?_
 refine q_vu [] 0 [] [(8, vb (((a1.length : Nat) : Int) == 0))] [] [] ?_
 refine q_cn (((a1.length : Nat) : Int) == 0) (fun b2 => ?_) (fun b2 => ?_)
 ·replace hm := qA b2 hm
  refine q_sq ?_
  refine q_vn [] 0 ⟨[(2, vi 3)], []⟩ ?_
  obtain rfl := Option.some.inj hm
  refine q_rt ?_
  exact q_rm
 ·replace hm := qB b2 hm
  refine q_sk ?_
  refine q_sq ?_
  refine q_sq ?_
  refine q_vu [] 0 [8] [(11, vb (decide (((a1.length : Nat) : Int) > 24)))] [] [] ?_
  refine q_cn (decide (((a1.length : Nat) : Int) > 24)) (fun b3 => ?_) (fun b3 => ?_)
  ·replace hm := qA b3 hm
   refine q_sq ?_
   refine q_vn [] 0 ⟨[(2, vi 4)], []⟩ ?_
   obtain rfl := Option.some.inj hm
   refine q_rt ?_
   exact q_rm
  ·replace hm := qB b3 hm
   refine q_sk ?_
   refine q_sq ?_
   refine q_vu [] 0 [11] [(3, vi 0)] [] [] ?_
   refine q_sq ?_
   refine q_sq ?_
   refine q_vu [] 0 [] [(4, vi 0)] [] [] ?_
   obtain ⟨u17, h16, hm⟩ := qC hm
   refine zP (nd Tryd.f27 500) 0 (by kernel_rfl) FUEL (fun o => CJ) (fun v st => RetQ Tryd.prog Tryd.f27 (AS v) (AL v) .ret st) u17 (q_hl (FF a1 0 0) (qEm E a1 FUEL 0 0 u17 h16)) ?_ ?_
   ·rintro v18 rfl st hr
    obtain rfl := Option.some.inj hm
    exact hr
   ·rintro o15 rfl
    replace hm : _ = some r := hm
    refine q_sq ?_
    refine q_vn [] 0 ⟨[(2, vi 0)], []⟩ ?_
    obtain rfl := Option.some.inj hm
    refine q_rt ?_
    exact q_rm
def qHd (r : Int) : V := vi r
def qHc (r : Int) : List (Nat × (Nat × O)) := []
def BK (a1 : List qD) (x5 : Int) (x6 : Int) : St :=
 ⟨[(0, vc (tl qI default a1)), (3, vi x5), (4, vi x6)], []⟩
def II (x9 : Int) : St :=
 ⟨[(3, vi x9)], []⟩
theorem qCX (E : Env 0) (a1 : List qD) : ∀ (n : Nat) (x5 : Int) (x6 : Int) (res : Int), QU a1 n x5 x6 = some res → HL (kx E 22 0) (nd Tryd.f12 244) (wO 0 (fun o => II o) res) n (BK a1 x5 x6) := by
 intro n
 induction n with
 | zero =>
  intro x5 x6 res hm
  cases hm
 | succ n ih =>
  intro x5 x6 res hm
  refine qQ ?_
  refine q_sq ?_
  refine q_sq ?_
  refine q_vu [] 0 [] [(11, vb (decide (x6 < ((a1.length : Nat) : Int))))] [] [] ?_
  refine q_cn (decide (x6 < ((a1.length : Nat) : Int))) (fun b7 => ?_) (fun b7 => ?_)
  ·replace hm := qA b7 hm
   refine q_sk ?_
   refine q_sq ?_
   refine q_bk 1 ?_
   obtain ⟨g8, hm⟩ := qM hm
   refine q_vu [qd 3 (Dir.none) (inb_of g8)] 0 [3, 11] [(3, vi (w64 (x5 + ((a1.getD x6.toNat default).Len))))] [] [] ?_
   refine q_vu [] 0 [4] [(4, vi (w64 (x6 + 1)))] [] [] ?_
   exact q_hl (BK a1 (w64 (x5 + ((a1.getD x6.toNat default).Len))) (w64 (x6 + 1))) (ih (w64 (x5 + ((a1.getD x6.toNat default).Len))) (w64 (x6 + 1)) _ hm)
  ·replace hm := qB b7 hm
   refine q_ex 0 ?_
   obtain rfl := Option.some.inj hm
   exact yM (by kernel_rfl) (by kernel_rfl)
theorem qF9 (a1 : List qD) (r : Int) (hm : VO a1 = some r) : CtX Tryd.prog globs 12 0 0 [.one (tl qI default a1)] [] (qHd r) (qHc r) := by
 unfold VO at hm
 refine q_E Tryd.f12 22 fun E => ?_
 refine q_sq ?_
 refine q_vn [] 0 ⟨[(0, vc (tl qI default a1))], []⟩ ?_
 refine q_sq ?_
 refine q_sq ?_
 obtain ⟨v2, h3, hm⟩ := qC hm
 refine q_vu [qc 1 [5] 0 (qHM a1 v2 h3)] 0 [] [(7, vb (v2 != 0))] [] [] ?_
 refine q_cn (v2 != 0) (fun b4 => ?_) (fun b4 => ?_)
 ·replace hm := qA b4 hm
  refine q_sq ?_
  refine q_vn [] 0 ⟨[(2, vi 0)], []⟩ ?_
  obtain rfl := Option.some.inj hm
  refine q_rt ?_
  exact q_rm
 ·replace hm := qB b4 hm
  refine q_sk ?_
  refine q_sq ?_
  refine q_vu [] 0 [7] [(3, vi 0)] [] [] ?_
  refine q_sq ?_
  refine q_sq ?_
  refine q_vu [] 0 [] [(4, vi 0)] [] [] ?_
  obtain ⟨o10, h11, hm⟩ := qC hm
  refine wB (nd Tryd.f12 244) 0 (by kernel_rfl) FUEL (fun o => II o) o10 (q_hl (BK a1 0 0) (qCX E a1 FUEL 0 0 o10 h11)) ?_
  refine q_sq ?_
  refine q_vn [] 0 ⟨[(2, vi o10)], []⟩ ?_
  obtain rfl := Option.some.inj hm
  refine q_rt ?_
  exact q_rm
set_option maxRecDepth 100000
def qK7 (r : Rect) : V := va (qK r)
def qLC (r : Rect) : List (Nat × (Nat × O)) := []
theorem CD (a1 : Rect) (a2 : Int) (a3 : Int) (r : Rect) (hm : DJ a1 a2 a3 = some r) : CtX Tryd.prog globs 33 0 0 [.agg (qK a1), .one (ci a2), .one (ci a3)] [] (qK7 r) (qLC r) := by
 unfold DJ at hm
 refine q_E Tryd.f33 21 fun E => ?_
 refine q_sq ?_
 refine q_vn [] 0 ⟨[(1, vi a2), (2, vi a3), (3, vp 0 0), (6, vp 1 0)], [(0, bx 28 (qK a1)), (1, bx 28 [ci 0, ci 0, ci 0, ci 0])]⟩ ?_
 refine q_sq ?_
 refine q_vn [] 2 ⟨[(6, vp 1 0)], [(1, bx 28 [ci (w64 (a1.X.A + a2)), ci (w64 (a1.X.A + a3)), ci a1.Y.A, ci a1.Y.B])]⟩ ?_
 obtain rfl := Option.some.inj hm
 refine q_rt ?_
 exact q_rm
open Go.Proofs
set_option maxHeartbeats 4000000
set_option maxRecDepth 100000
def qLq (r : Span) : V := va (e_Span r)
def qLk (r : Span) : List (Nat × (Nat × O)) := []
theorem PK (a1 : Span) (a2 : Span) (r : Span) (hm : JO a1 a2 = some r) : CtX Tryd.prog globs 24 0 0 [.agg (e_Span a1), .agg (e_Span a2)] [] (qLq r) (qLk r) := by
 unfold JO at hm
 refine q_E Tryd.f24 24 fun E => ?_
 refine q_sq ?_
 refine q_vn [] 0 ⟨[(2, vp 0 0), (3, vp 1 0), (4, vp 2 0)], [(0, bx 26 (e_Span a1)), (1, bx 26 (e_Span a2)), (2, bx 26 [ci 0, ci 0])]⟩ ?_
 refine q_sq ?_
 refine q_vu [] 3 [2, 3] [(5, vp 3 0)] [0, 1] [(3, bx 26 [ci (imax a1.A a2.A), ci (imin a1.B a2.B)])] ?_
 refine q_sq ?_
 refine q_sq ?_
 refine q_vu [] 4 [] [(21, vb (decide ((imax a1.A a2.A) ≥ (imin a1.B a2.B))))] [] [] ?_
 refine q_cn (decide ((imax a1.A a2.A) ≥ (imin a1.B a2.B))) (fun b3 => ?_) (fun b3 => ?_)
 ·replace hm := qA b3 hm
  refine q_sq ?_
  refine q_vu [] 4 [5, 21] [] [3] [] ?_
  obtain rfl := Option.some.inj hm
  refine q_rt ?_
  exact q_rm
 ·replace hm := qB b3 hm
  refine q_sk ?_
  refine q_sq ?_
  refine q_vn [] 4 ⟨[(4, vp 2 0)], [(2, bx 26 [ci (imax a1.A a2.A), ci (imin a1.B a2.B)])]⟩ ?_
  obtain rfl := Option.some.inj hm
  refine q_rt ?_
  exact q_rm
def qFn (r : Bool) : V := vb r
def qFp (r : Bool) : List (Nat × (Nat × O)) := []
theorem zO (a1 : Span) (r : Bool) (hm : jX a1 = some r) : CtX Tryd.prog globs 90 0 0 [.agg (e_Span a1)] [] (qFn r) (qFp r) := by
 unfold jX at hm
 refine q_E Tryd.f90 8 fun E => ?_
 refine q_sq ?_
 refine q_vn [] 0 ⟨[(1, vp 0 0)], [(0, bx 26 (e_Span a1))]⟩ ?_
 refine q_sq ?_
 refine q_vn [] 1 ⟨[(2, vb (decide (a1.A ≥ a1.B)))], []⟩ ?_
 obtain rfl := Option.some.inj hm
 refine q_rt ?_
 exact q_rm
set_option maxRecDepth 100000
def qI9 (r : Box × Bool) : V := .tup [.agg (QE r.1), .one (cb r.2)]
def qJa (r : Box × Bool) : List (Nat × (Nat × O)) := []
def qAi (v3 : Span) (v5 : Span) (v7 : Span) (x17 : Bool) : St :=
 ⟨[(4, vp 2 0), (6, vp 3 0), (35, vb x17)], [(2, bx 50 [ci 0, ci 0, ci 0, ci 0, ci 0, ci 0]), (3, bx 50 [ci v3.A, ci v3.B, ci v5.A, ci v5.B, ci v7.A, ci v7.B])]⟩
theorem qHn (a1 : Box) (a2 : Box) (r : Box × Bool) (hm : SN a1 a2 = some r) : CtX Tryd.prog globs 99 0 0 [.agg (QE a1), .agg (QE a2)] [] (qI9 r) (qJa r) := by
 unfold SN at hm
 refine q_E Tryd.f99 38 fun E => ?_
 refine q_sq ?_
 refine q_vn [] 0 ⟨[(2, vp 0 0), (3, vp 1 0), (4, vp 2 0)], [(0, bx 50 (QE a1)), (1, bx 50 (QE a2)), (2, bx 50 [ci 0, ci 0, ci 0, ci 0, ci 0, ci 0])]⟩ ?_
 refine q_sq ?_
 obtain ⟨v3, h4, hm⟩ := qC hm
 obtain ⟨v5, h6, hm⟩ := qC hm
 obtain ⟨v7, h8, hm⟩ := qC hm
 refine q_du [qc 4 [8, 10] 3 (PK a1.X a2.X v3 h4), qc 9 [13, 15] 3 (PK a1.Y a2.Y v5 h6), qc 14 [18, 20] 3 (PK a1.Z a2.Z v7 h8)] [0, 1, 0, 4, 15, 0, 32, 0, 128, 511, 0, 1024, 0, 4096, 16383, 32767, 0, 131071] 3 [2, 3] [(6, vp 3 0)] [0, 1] [(3, bx 50 [ci v3.A, ci v3.B, ci v5.A, ci v5.B, ci v7.A, ci v7.B])] ?_
 refine q_sq ?_
 refine q_jn (ι := Bool) (fun p => qAi v3 v5 v7 p) (fun p => PH v3 v5 v7 p = some r) ?_ ?_
 ·rintro x17 hm
  show H _ (qAi v3 v5 v7 x17) _ _
  refine q_cn x17 (fun b18 => ?_) (fun b18 => ?_)
  ·replace hm := qA b18 hm
   refine q_sq ?_
   refine q_vu [] 4 [6, 35] [(5, vb false)] [3] [] ?_
   obtain rfl := Option.some.inj hm
   refine q_rt ?_
   exact q_rm
  ·replace hm := qB b18 hm
   refine q_sk ?_
   refine q_sq ?_
   refine q_vu [] 4 [6, 35] [(5, vb true)] [2, 3] [(2, bx 50 [ci v3.A, ci v3.B, ci v5.A, ci v5.B, ci v7.A, ci v7.B])] ?_
   obtain rfl := Option.some.inj hm
   refine q_rt ?_
   exact q_rm
 ·obtain ⟨v9, h10, hm⟩ := qC hm
  rcases Bool.eq_false_or_eq_true v9 with b11 | b11
  ·replace hm := qA b11 hm
   refine q_vu [qc 2 [24] 4 (zO v3 v9 h10), qf 3 b11] 4 [] [(35, vb true)] [] [] ?_
   exact q_J (true) hm
  ·replace hm := qB b11 hm
   obtain ⟨v12, h13, hm⟩ := qC hm
   rcases Bool.eq_false_or_eq_true v12 with b14 | b14
   ·replace hm := qA b14 hm
    refine q_vu [qc 2 [24] 4 (zO v3 v9 h10), qf 3 b11, qk 6 [26, 28] 4 ⟨[(26, vb false), (28, va (e_Span v5))], []⟩ (zO v5 v12 h13), qf 8 b14] 4 [] [(35, vb true)] [] [] ?_
    exact q_J (true) hm
   ·replace hm := qB b14 hm
    obtain ⟨v15, h16, hm⟩ := qC hm
    refine q_vu [qc 2 [24] 4 (zO v3 v9 h10), qf 3 b11, qk 6 [26, 28] 4 ⟨[(26, vb false), (28, va (e_Span v5))], []⟩ (zO v5 v12 h13), qf 8 b14, qk 11 [31, 33] 4 ⟨[(31, vb false), (33, va (e_Span v7))], []⟩ (zO v7 v15 h16)] 4 [] [(35, vb v15)] [] [] ?_
    exact q_J (v15) hm
open Go.Proofs
set_option maxHeartbeats 4000000
set_option maxRecDepth 100000
def qFx (r : Bool) : V := vb r
def qFc (r : Bool) : List (Nat × (Nat × O)) := []
theorem IU (a1 : Defect) (a2 : Box) (r : Bool) (hm : JP a1 a2 = some r) : CtX Tryd.prog globs 95 0 0 [.agg (qH a1), .agg (QE a2)] [] (qFx r) (qFc r) := by
 unfold JP at hm
 refine q_E Tryd.f95 15 fun E => ?_
 refine q_sq ?_
 refine q_vn [] 0 ⟨[(2, vp 0 0), (3, vp 1 0)], [(0, bx 151 (qH a1)), (1, bx 50 (QE a2))]⟩ ?_
 refine q_sq ?_
 obtain ⟨v3, h4, hm⟩ := qC hm
 refine q_vn [qc 3 [9, 10] 2 (qHn a1.Box a2 v3 h4)] 2 ⟨[(6, vb v3.2)], []⟩ ?_
 refine q_sq ?_
 refine q_vn [] 3 ⟨[(4, vb v3.2)], []⟩ ?_
 obtain rfl := Option.some.inj hm
 refine q_rt ?_
 exact q_rm
def qFo (r : Bool) : V := vb r
def qFw (r : Bool) : List (Nat × (Nat × O)) := []
def HH (x5 : Bool) : St :=
 ⟨[(4, vb x5)], []⟩
theorem qEq (a1 : Span) (a2 : Int) (r : Bool) (hm : DP a1 a2 = some r) : CtX Tryd.prog globs 96 0 0 [.agg (e_Span a1), .one (ci a2)] [] (qFo r) (qFw r) := by
 unfold DP at hm
 refine q_E Tryd.f96 21 fun E => ?_
 refine q_sq ?_
 refine q_vn [] 0 ⟨[(1, vi a2), (2, vp 0 0)], [(0, bx 26 (e_Span a1))]⟩ ?_
 refine q_jn (ι := Bool) (fun p => HH p) (fun p => JC p = some r) ?_ ?_
 ·rintro x5 hm
  show H _ (HH x5) _ _
  obtain rfl := Option.some.inj hm
  refine q_rt ?_
  exact q_rm
 ·rcases Bool.eq_false_or_eq_true (decide (a1.A ≥ 0)) with b3 | b3
  ·replace hm := qA b3 hm
   rcases Bool.eq_false_or_eq_true (decide (a1.A < a1.B)) with b4 | b4
   ·replace hm := qA b4 hm
    refine q_vn [qf 3 b3, qf 10 b4] 1 ⟨[(4, vb (decide (a1.B ≤ a2)))], []⟩ ?_
    exact q_J (decide (a1.B ≤ a2)) hm
   ·replace hm := qB b4 hm
    refine q_vn [qf 3 b3, qf 10 b4] 1 ⟨[(4, vb false)], []⟩ ?_
    exact q_J (false) hm
  ·replace hm := qB b3 hm
   refine q_vn [qf 3 b3] 1 ⟨[(4, vb false)], []⟩ ?_
   exact q_J (false) hm
set_option maxRecDepth 100000
def LZ (r : Int × Bool) : V := .tup [.one (ci r.1), .one (cb r.2)]
def MC (r : Int × Bool) : List (Nat × (Nat × O)) := []
def GH (a1 : Product) (a2 : Int) (x3 : Int) : St :=
 ⟨[(1, vi a2), (2, vp 0 0), (9, vc (tl e_i64 default a1.Lengths)), (10, vi ((a1.Lengths.length : Nat) : Int)), (11, vi x3)], [(0, bx 59 (qE a1))]⟩
def AA : St :=
 ⟨[], []⟩
theorem qCS (E : Env 0) (a1 : Product) (a2 : Int) : ∀ (n : Nat) (x3 : Int) (res : (Int × Bool) ⊕ Unit), yT a1 a2 n x3 = some res → HL (kx E 30 0) (nd Tryd.f97 52) (wW 0 (fun o => AA) (fun v st => RetQ Tryd.prog Tryd.f97 (LZ v) (MC v) .ret st) res) n (GH a1 a2 x3) := by
 intro n
 induction n with
 | zero =>
  intro x3 res hm
  cases hm
 | succ n ih =>
  intro x3 res hm
  refine qQ ?_
  refine q_sq ?_
  refine q_vu [] 1 [] [(12, vb (decide (x3 < ((a1.Lengths.length : Nat) : Int))))] [] [] ?_
  refine q_sq ?_
  refine q_cn (decide (x3 < ((a1.Lengths.length : Nat) : Int))) (fun b4 => ?_) (fun b4 => ?_)
  ·replace hm := qA b4 hm
   refine q_sk ?_
   refine q_sq ?_
   refine q_bk 1 ?_
   refine q_sq ?_
   obtain ⟨g5, hm⟩ := qM hm
   refine q_vu [qd 1 (Dir.none) (inb_of g5)] 1 [12] [(6, vi x3), (7, vi (a1.Lengths.getD x3.toNat default))] [] [] ?_
   refine q_sq ?_
   refine q_sq ?_
   refine q_vu [] 1 [7] [(18, vb ((a1.Lengths.getD x3.toNat default) != a2))] [] [] ?_
   refine q_cn ((a1.Lengths.getD x3.toNat default) != a2) (fun b6 => ?_) (fun b6 => ?_)
   ·replace hm := qA b6 hm
    refine q_ex 1 ?_
    refine q_vu [] 1 [6, 11, 18] [(11, vi (w64 (x3 + 1)))] [] [] ?_
    exact q_hl (GH a1 a2 (w64 (x3 + 1))) (ih (w64 (x3 + 1)) _ hm)
   ·replace hm := qB b6 hm
    refine q_sk ?_
    refine q_sq ?_
    refine q_sq ?_
    refine q_vu [] 1 [1, 9, 10, 11, 18] [(23, vb (decide (x3 ≥ ((a1.Prices.length : Nat) : Int))))] [] [] ?_
    refine q_cn (decide (x3 ≥ ((a1.Prices.length : Nat) : Int))) (fun b7 => ?_) (fun b7 => ?_)
    ·replace hm := qA b7 hm
     refine q_sq ?_
     refine q_vn [] 1 ⟨[(4, vi 0), (5, vb false)], []⟩ ?_
     obtain rfl := Option.some.inj hm
     refine q_rt ?_
     refine zB (0, false) ?_
     exact q_rm
    ·replace hm := qB b7 hm
     refine q_sk ?_
     refine q_sq ?_
     obtain ⟨g8, hm⟩ := qM hm
     refine q_vn [qd 3 (Dir.none) (inb_of g8)] 1 ⟨[(4, vi (a1.Prices.getD x3.toNat default)), (5, vb true)], []⟩ ?_
     obtain rfl := Option.some.inj hm
     refine q_rt ?_
     refine zB ((a1.Prices.getD x3.toNat default), true) ?_
     exact q_rm
  ·replace hm := qB b4 hm
   refine q_ex 0 ?_
   obtain rfl := Option.some.inj hm
   exact jE () (by kernel_rfl) (by kernel_rfl)
theorem qFB (a1 : Product) (a2 : Int) (r : Int × Bool) (hm : UA a1 a2 = some r) : CtX Tryd.prog globs 97 0 0 [.agg (qE a1), .one (ci a2)] [] (LZ r) (MC r) := by
 unfold UA at hm
 refine q_E Tryd.f97 30 fun E => ?_
 refine q_sq ?_
 refine q_vn [] 0 ⟨[(1, vi a2), (2, vp 0 0)], [(0, bx 59 (qE a1))]⟩ ?_
 refine q_sq ?_
 refine q_sq ?_
 refine q_vu [] 1 [] [(9, vc (tl e_i64 default a1.Lengths)), (10, vi ((a1.Lengths.length : Nat) : Int)), (11, vi 0)] [] [] ?_
 obtain ⟨u11, h10, hm⟩ := qC hm
 refine zP (nd Tryd.f97 52) 0 (by kernel_rfl) FUEL (fun o => AA) (fun v st => RetQ Tryd.prog Tryd.f97 (LZ v) (MC v) .ret st) u11 (q_hl (GH a1 a2 0) (qCS E a1 a2 FUEL 0 u11 h10)) ?_ ?_
 ·rintro v12 rfl st hr
  obtain rfl := Option.some.inj hm
  exact hr
 ·rintro o9 rfl
  replace hm : _ = some r := hm
  refine q_sq ?_
  refine q_vn [] 1 ⟨[(4, vi 0), (5, vb false)], []⟩ ?_
  obtain rfl := Option.some.inj hm
  refine q_rt ?_
  exact q_rm
open Go.Proofs
set_option maxHeartbeats 4000000
set_option maxRecDepth 100000
def OW (r : Box) : V := va (QE r)
def TH (r : Box) : List (Nat × (Nat × O)) := []
theorem qFz (r : Box) : JD (TH r) := by
 intro i k o h
 unfold TH at h
 cases h
theorem IA (a1 : Worth_view) (a2 : Span) (r : Box) (hm : JS a1 a2 = some r) : CtX Tryd.prog globs 94 0 0 [.agg (GG a1), .agg (e_Span a2)] [] (OW r) (TH r) := by
 unfold JS at hm
 refine q_E Tryd.f94 13 fun E => ?_
 refine q_sq ?_
 refine q_vn [] 0 ⟨[(2, vp 0 0), (3, vp 1 0), (4, vp 2 0)], [(0, bx 156 (GG a1)), (1, bx 26 (e_Span a2)), (2, bx 50 [ci 0, ci 0, ci 0, ci 0, ci 0, ci 0])]⟩ ?_
 refine q_sq ?_
 refine q_vn [] 3 ⟨[(4, vp 2 0)], [(2, bx 50 [ci a1.rect.X.A, ci a1.rect.X.B, ci a1.rect.Y.A, ci a1.rect.Y.B, ci a2.A, ci a2.B])]⟩ ?_
 obtain rfl := Option.some.inj hm
 refine q_rt ?_
 exact q_rm
def qIP (r : Int) : V := vi r
def qI1 (r : Int) : List (Nat × (Nat × O)) := []
def OS (a1 : List Worth_zone) (a2 : Span) (x4 : Int) (x10 : Int) : St :=
 ⟨[(3, vp 0 0), (5, vi x10), (8, vc (tl qN default a1)), (9, vi ((a1.length : Nat) : Int)), (10, vi x4)], [(0, bx 26 (e_Span a2))]⟩
def qAc (a1 : List Worth_zone) (a2 : Span) (x3 : Int) (x4 : Int) (x8 : Bool) : St :=
 ⟨[(3, vp 0 0), (5, vi x3), (7, vp 1 0), (8, vc (tl qN default a1)), (9, vi ((a1.length : Nat) : Int)), (10, vi x4), (27, vb x8)], [(0, bx 26 (e_Span a2)), (1, bx 180 [ci (((a1.getD x4.toNat default).z).A), ci (((a1.getD x4.toNat default).z).B), ci ((a1.getD x4.toNat default).lack)])]⟩
def FL (a1 : List Worth_zone) (a2 : Span) (x3 : Int) (x4 : Int) : St :=
 ⟨[(3, vp 0 0), (5, vi x3), (8, vc (tl qN default a1)), (9, vi ((a1.length : Nat) : Int)), (10, vi x4)], [(0, bx 26 (e_Span a2))]⟩
def OR (x11 : Int) : St :=
 ⟨[(5, vi x11)], []⟩
theorem qEC (E : Env 0) (a1 : List Worth_zone) (a2 : Span) : ∀ (n : Nat) (x3 : Int) (x4 : Int) (res : Int), yF a1 a2 n x3 x4 = some res → HL (kx E 34 0) (nd Tryd.f98 116) (wO 0 (fun o => OR o) res) n (FL a1 a2 x3 x4) := by
 intro n
 induction n with
 | zero =>
  intro x3 x4 res hm
  cases hm
 | succ n ih =>
  intro x3 x4 res hm
  refine qQ ?_
  refine q_sq ?_
  refine q_vu [] 1 [] [(11, vb (decide (x4 < ((a1.length : Nat) : Int))))] [] [] ?_
  refine q_sq ?_
  refine q_cn (decide (x4 < ((a1.length : Nat) : Int))) (fun b5 => ?_) (fun b5 => ?_)
  ·replace hm := qA b5 hm
   refine q_sk ?_
   refine q_jn (ι := Int) (fun p => OS a1 a2 x4 p) (fun p => DR x4 (yF a1 a2 n) p = some res) ?_ ?_
   ·rintro x10 hm
    show H _ (OS a1 a2 x4 x10) _ _
    refine q_vu [] 2 [10] [(10, vi (w64 (x4 + 1)))] [] [] ?_
    exact q_hl (FL a1 a2 x10 (w64 (x4 + 1))) (ih x10 (w64 (x4 + 1)) _ hm)
   ·refine q_bk 1 ?_
    refine q_sq ?_
    obtain ⟨g6, hm⟩ := qM hm
    refine q_vu [qd 0 (Dir.none) (inb_of g6)] 1 [11] [(7, vp 1 0)] [] [(1, bx 180 [ci (((a1.getD x4.toNat default).z).A), ci (((a1.getD x4.toNat default).z).B), ci ((a1.getD x4.toNat default).lack)])] ?_
    refine q_jn (ι := Bool) (fun p => qAc a1 a2 x3 x4 p) (fun p => DN a1 x3 x4 (yF a1 a2 n) p = some res) ?_ ?_
    ·rintro x8 hm
     show H _ (qAc a1 a2 x3 x4 x8) _ _
     refine q_cn x8 (fun b9 => ?_) (fun b9 => ?_)
     ·replace hm := qA b9 hm
      refine q_vu [] 2 [5, 7, 27] [(5, vi (imax x3 ((a1.getD x4.toNat default).lack)))] [1] [] ?_
      exact q_J (imax x3 ((a1.getD x4.toNat default).lack)) hm
     ·replace hm := qB b9 hm
      refine q_sk ?_
      exact q_J (x3) hm
    ·rcases Bool.eq_false_or_eq_true (decide ((((a1.getD x4.toNat default).z).A) < a2.B)) with b7 | b7
     ·replace hm := qA b7 hm
      refine q_vu [qf 6 b7] 2 [] [(27, vb (decide (a2.A < (((a1.getD x4.toNat default).z).B))))] [] [] ?_
      exact q_J (decide (a2.A < (((a1.getD x4.toNat default).z).B))) hm
     ·replace hm := qB b7 hm
      refine q_vu [qf 6 b7] 2 [] [(27, vb false)] [] [] ?_
      exact q_J (false) hm
  ·replace hm := qB b5 hm
   refine q_ex 0 ?_
   obtain rfl := Option.some.inj hm
   exact yM (by kernel_rfl) (by kernel_rfl)
theorem qHD (a1 : List Worth_zone) (a2 : Span) (r : Int) (hm : NI a1 a2 = some r) : CtX Tryd.prog globs 98 0 0 [.one (tl qN default a1), .agg (e_Span a2)] [] (qIP r) (qI1 r) := by
 unfold NI at hm
 refine q_E Tryd.f98 34 fun E => ?_
 refine q_sq ?_
 refine q_vn [] 0 ⟨[(0, vc (tl qN default a1)), (3, vp 0 0)], [(0, bx 26 (e_Span a2))]⟩ ?_
 refine q_sq ?_
 refine q_vu [] 1 [] [(5, vi 0)] [] [] ?_
 refine q_sq ?_
 refine q_sq ?_
 refine q_vu [] 1 [0] [(8, vc (tl qN default a1)), (9, vi ((a1.length : Nat) : Int)), (10, vi 0)] [] [] ?_
 obtain ⟨o12, h13, hm⟩ := qC hm
 refine wB (nd Tryd.f98 116) 0 (by kernel_rfl) FUEL (fun o => OR o) o12 (q_hl (FL a1 a2 0 0) (qEC E a1 a2 FUEL 0 0 o12 h13)) ?_
 refine q_sq ?_
 refine q_vn [] 1 ⟨[(4, vi o12)], []⟩ ?_
 obtain rfl := Option.some.inj hm
 refine q_rt ?_
 exact q_rm
set_option maxRecDepth 100000
def XP (r : Int × Bool) : V := .tup [.one (ci r.1), .one (cb r.2)]
def yZ (r : Int × Bool) : List (Nat × (Nat × O)) := []
theorem qC7 (r : Int × Bool) : JD (yZ r) := by
 intro i k o h
 unfold yZ at h
 cases h
def FU (a1 : Worth_view) (a3 : Int) (v14 : Box) (x17 : Int) (x24 : Int) : St :=
 ⟨[(2, vi a3), (8, vi x24), (10, vp 2 0), (45, vc (tl qH default a1.defects)), (46, vi ((a1.defects.length : Nat) : Int)), (47, vi x17)], [(2, bx 50 (QE v14))]⟩
def RG (a1 : Worth_view) (a3 : Int) (v14 : Box) (x16 : Int) (x17 : Int) : St :=
 ⟨[(2, vi a3), (8, vi x16), (10, vp 2 0), (45, vc (tl qH default a1.defects)), (46, vi ((a1.defects.length : Nat) : Int)), (47, vi x17)], [(2, bx 50 (QE v14))]⟩
def LD (x25 : Int) : St :=
 ⟨[(8, vi x25)], []⟩
def FV (a1 : Worth_view) (a2 : Span) (a3 : Int) (v7 : Int × Bool) (x12 : Bool) : St :=
 ⟨[(2, vi a3), (3, vp 0 0), (4, vp 1 0), (8, vi v7.1), (40, vb x12)], [(0, bx 156 (GG a1)), (1, bx 26 (e_Span a2))]⟩
theorem qBj (E : Env 0) (a1 : Worth_view) (a3 : Int) (v14 : Box) : ∀ (n : Nat) (x16 : Int) (x17 : Int) (res : (Int × Bool) ⊕ Int), zH a1 a3 v14 n x16 x17 = some res → HL (kx E 64 0) (nd Tryd.f75 1012) (wW 0 (fun o => LD o) (fun v st => RetQ Tryd.prog Tryd.f75 (XP v) (yZ v) .ret st) res) n (RG a1 a3 v14 x16 x17) := by
 intro n
 induction n with
 | zero =>
  intro x16 x17 res hm
  cases hm
 | succ n ih =>
  intro x16 x17 res hm
  refine qQ ?_
  refine q_sq ?_
  refine q_vu [] 3 [] [(48, vb (decide (x17 < ((a1.defects.length : Nat) : Int))))] [] [] ?_
  refine q_sq ?_
  refine q_cn (decide (x17 < ((a1.defects.length : Nat) : Int))) (fun b18 => ?_) (fun b18 => ?_)
  ·replace hm := qA b18 hm
   refine q_sk ?_
   refine q_jn (ι := Int) (fun p => FU a1 a3 v14 x17 p) (fun p => YZ x17 (zH a1 a3 v14 n) p = some res) ?_ ?_
   ·rintro x24 hm
    show H _ (FU a1 a3 v14 x17 x24) _ _
    refine q_vu [] 4 [47] [(47, vi (w64 (x17 + 1)))] [] [] ?_
    exact q_hl (RG a1 a3 v14 x24 (w64 (x17 + 1))) (ih x24 (w64 (x17 + 1)) _ hm)
   ·refine q_bk 1 ?_
    refine q_sq ?_
    obtain ⟨g19, hm⟩ := qM hm
    refine q_vu [qd 0 (Dir.none) (inb_of g19)] 3 [48] [(12, vp 3 0)] [] [(3, bx 151 [ci ((a1.defects.getD x17.toNat default).Kind), ci ((((a1.defects.getD x17.toNat default).Box).X).A), ci ((((a1.defects.getD x17.toNat default).Box).X).B), ci ((((a1.defects.getD x17.toNat default).Box).Y).A), ci ((((a1.defects.getD x17.toNat default).Box).Y).B), ci ((((a1.defects.getD x17.toNat default).Box).Z).A), ci ((((a1.defects.getD x17.toNat default).Box).Z).B)])] ?_
    refine q_sq ?_
    refine q_sq ?_
    obtain ⟨v20, h21, hm⟩ := qC hm
    refine q_vu [qc 2 [51, 52] 4 (IU (a1.defects.getD x17.toNat default) v14 v20 h21)] 4 [] [(54, vb (!v20))] [] [] ?_
    refine q_cn (!v20) (fun b22 => ?_) (fun b22 => ?_)
    ·replace hm := qA b22 hm
     refine q_ex 1 ?_
     exact q_J (x16) hm
    ·replace hm := qB b22 hm
     refine q_sk ?_
     refine q_sq ?_
     refine q_sq ?_
     refine q_vu [] 4 [12, 54] [(57, vb (((a1.defects.getD x17.toNat default).Kind) == 3))] [3] [] ?_
     refine q_cn (((a1.defects.getD x17.toNat default).Kind) == 3) (fun b23 => ?_) (fun b23 => ?_)
     ·replace hm := qA b23 hm
      refine q_sq ?_
      refine q_vn [] 4 ⟨[(6, vi 0), (7, vb false)], []⟩ ?_
      obtain rfl := Option.some.inj hm
      refine q_rt ?_
      refine zB (0, false) ?_
      exact q_rm
     ·replace hm := qB b23 hm
      refine q_sk ?_
      refine q_vu [] 4 [8, 57] [(8, vi (w64 (x16 - a3)))] [] [] ?_
      exact q_J (w64 (x16 - a3)) hm
  ·replace hm := qB b18 hm
   refine q_ex 0 ?_
   obtain rfl := Option.some.inj hm
   exact jE x16 (by kernel_rfl) (by kernel_rfl)
theorem worth_view_worth_ok (a1 : Worth_view) (a2 : Span) (a3 : Int) (r : Int × Bool) (hm : ZO a1 a2 a3 = some r) : CtX Tryd.prog globs 75 0 0 [.agg (GG a1), .agg (e_Span a2), .one (ci a3)] [] (XP r) (yZ r) := by
 unfold ZO at hm
 refine q_E Tryd.f75 64 fun E => ?_
 refine q_sq ?_
 refine q_vn [] 0 ⟨[(2, vi a3), (3, vp 0 0), (4, vp 1 0)], [(0, bx 156 (GG a1)), (1, bx 26 (e_Span a2))]⟩ ?_
 refine q_sq ?_
 refine q_sq ?_
 obtain ⟨v4, h5, hm⟩ := qC hm
 refine q_vu [qc 3 [13, 15] 2 (qEq a2 a1.length v4 h5)] 2 [] [(17, vb (!v4))] [] [] ?_
 refine q_cn (!v4) (fun b6 => ?_) (fun b6 => ?_)
 ·replace hm := qA b6 hm
  refine q_sq ?_
  refine q_vn [] 2 ⟨[(6, vi 0), (7, vb false)], []⟩ ?_
  obtain rfl := Option.some.inj hm
  refine q_rt ?_
  exact q_rm
 ·replace hm := qB b6 hm
  refine q_sk ?_
  refine q_sq ?_
  obtain ⟨v7, h8, hm⟩ := qC hm
  refine q_vu [qc 7 [20, 25] 2 (qFB a1.product (w64 (a2.B - a2.A)) v7 h8)] 2 [17] [(8, vi v7.1), (9, vb v7.2)] [] [] ?_
  refine q_sq ?_
  refine q_jn (ι := Bool) (fun p => FV a1 a2 a3 v7 p) (fun p => YV a1 a2 a3 v7 p = some r) ?_ ?_
  ·rintro x12 hm
   show H _ (FV a1 a2 a3 v7 x12) _ _
   refine q_cn x12 (fun b13 => ?_) (fun b13 => ?_)
   ·replace hm := qA b13 hm
    refine q_sq ?_
    refine q_vn [] 2 ⟨[(6, vi 0), (7, vb false)], []⟩ ?_
    obtain rfl := Option.some.inj hm
    refine q_rt ?_
    exact q_rm
   ·replace hm := qB b13 hm
    refine q_sk ?_
    refine q_sq ?_
    obtain ⟨v14, h15, hm⟩ := qC hm
    refine q_vu [qc 2 [41, 42] 2 (IA a1 a2 v14 h15)] 2 [4, 40] [(10, vp 2 0)] [1] [(2, bx 50 (QE v14))] ?_
    refine q_sq ?_
    refine q_sq ?_
    refine q_vu [] 3 [3] [(45, vc (tl qH default a1.defects)), (46, vi ((a1.defects.length : Nat) : Int)), (47, vi 0)] [0] [] ?_
    obtain ⟨u28, h27, hm⟩ := qC hm
    refine zP (nd Tryd.f75 1012) 0 (by kernel_rfl) FUEL (fun o => LD o) (fun v st => RetQ Tryd.prog Tryd.f75 (XP v) (yZ v) .ret st) u28 (q_hl (RG a1 a3 v14 v7.1 0) (qBj E a1 a3 v14 FUEL v7.1 0 u28 h27)) ?_ ?_
    ·rintro v29 rfl st hr
     obtain rfl := Option.some.inj hm
     exact hr
    ·rintro o26 rfl
     replace hm : _ = some r := hm
     refine q_sq ?_
     refine q_vn [] 3 ⟨[(6, vi (imax o26 0)), (7, vb true)], []⟩ ?_
     obtain rfl := Option.some.inj hm
     refine q_rt ?_
     exact q_rm
  ·rcases Bool.eq_false_or_eq_true (!v7.2) with b9 | b9
   ·replace hm := qA b9 hm
    refine q_du [qf 2 b9] [0, 1, 3, 7, 15, 7, 63, 7, 135, 391, 1023, 2047] 2 [9] [(40, vb true)] [] [] ?_
    exact q_J (true) hm
   ·replace hm := qB b9 hm
    obtain ⟨v10, h11, hm⟩ := qC hm
    refine q_du [qf 2 b9, qk 6 [31, 33, 34] 2 ⟨[(31, vb false), (33, vc (tl qN default a1.zones)), (34, va (e_Span a2))], []⟩ (qHD a1.zones a2 v10 h11)] [0, 1, 3, 7, 15, 7, 63, 7, 135, 391, 1023, 2047] 2 [9] [(40, vb (decide (v10 > a1.product.Wane)))] [] [] ?_
    exact q_J (decide (v10 > a1.product.Wane)) hm
open Go.Proofs
set_option maxHeartbeats 4000000
set_option maxRecDepth 100000
def qHe (r : Int) : V := vi r
def qHr (r : Int) : List (Nat × (Nat × O)) := []
theorem qAY (a1 : Int) (a2 : Int) (r : Int) (hm : GC a1 a2 = some r) : CtX Tryd.prog globs 60 0 0 [.one (ci a1), .one (ci a2)] [] (qHe r) (qHr r) := by
 unfold GC at hm
 refine q_E Tryd.f60 11 fun E => ?_
 refine q_sq ?_
 refine q_vn [] 0 ⟨[(0, vi a1), (1, vi a2)], []⟩ ?_
 refine q_sq ?_
 refine q_vn [qd 5 (Dir.none) (show (1000 : Int) ≠ 0 by decide)] 0 ⟨[(4, vi (w64 (Int.tdiv (w64 ((w64 (a1 * (w64 (1000 + a2)))) + 999)) 1000)))], []⟩ ?_
 obtain rfl := Option.some.inj hm
 refine q_rt ?_
 exact q_rm
def qET (r : Bool) : V := vb r
def qFq (r : Bool) : List (Nat × (Nat × O)) := []
def HG (x3 : Bool) : St :=
 ⟨[(2, vb x3)], []⟩
theorem yH (a1 : Int) (r : Bool) (hm : JZ a1 = some r) : CtX Tryd.prog globs 59 0 0 [.one (ci a1)] [] (qET r) (qFq r) := by
 unfold JZ at hm
 refine q_E Tryd.f59 9 fun E => ?_
 refine q_sq ?_
 refine q_vn [] 0 ⟨[(0, vi a1)], []⟩ ?_
 refine q_jn (ι := Bool) (fun p => HG p) (fun p => PB p = some r) ?_ ?_
 ·rintro x3 hm
  show H _ (HG x3) _ _
  obtain rfl := Option.some.inj hm
  refine q_rt ?_
  exact q_rm
 ·rcases Bool.eq_false_or_eq_true (decide (a1 ≥ 1)) with b2 | b2
  ·replace hm := qA b2 hm
   refine q_vn [qf 2 b2] 0 ⟨[(2, vb (decide (a1 ≤ 600)))], []⟩ ?_
   exact q_J (decide (a1 ≤ 600)) hm
  ·replace hm := qB b2 hm
   refine q_vn [qf 2 b2] 0 ⟨[(2, vb false)], []⟩ ?_
   exact q_J (false) hm
set_option maxRecDepth 100000
def qGZ (r : Int × Int) : V := .tup [.one (ci r.1), .one (ci r.2)]
def qFM (r : Int × Int) : List (Nat × (Nat × O)) := []
def SY (a1 : Product) (x9 : Bool) : St :=
 ⟨[(1, vp 0 0), (23, vb x9)], [(0, bx 59 (qE a1))]⟩
theorem RY (a1 : Product) (r : Int × Int) (hm : ZB a1 = some r) : CtX Tryd.prog globs 31 0 0 [.agg (qE a1)] [] (qGZ r) (qFM r) := by
 unfold ZB at hm
 refine q_E Tryd.f31 34 fun E => ?_
 refine q_sq ?_
 refine q_vn [] 0 ⟨[(1, vp 0 0)], [(0, bx 59 (qE a1))]⟩ ?_
 refine q_sq ?_
 refine q_jn (ι := Bool) (fun p => SY a1 p) (fun p => ZR a1 p = some r) ?_ ?_
 ·rintro x9 hm
  show H _ (SY a1 x9) _ _
  refine q_cn x9 (fun b10 => ?_) (fun b10 => ?_)
  ·replace hm := qA b10 hm
   refine q_sq ?_
   refine q_vn [] 1 ⟨[(2, vi 0), (3, vi 0)], []⟩ ?_
   obtain rfl := Option.some.inj hm
   refine q_rt ?_
   exact q_rm
  ·replace hm := qB b10 hm
   refine q_sk ?_
   refine q_sq ?_
   obtain ⟨v11, h12, hm⟩ := qC hm
   obtain ⟨v13, h14, hm⟩ := qC hm
   refine q_dn [qc 4 [25, 27] 1 (qAY a1.Thick a1.Allow v11 h12), qc 9 [30, 32] 1 (qAY a1.Width a1.Allow v13 h14)] [0, 1, 0, 4, 15, 0, 32, 0, 128, 511, 1023, 2047] 1 ⟨[(2, vi v11), (3, vi v13)], []⟩ ?_
   obtain rfl := Option.some.inj hm
   refine q_rt ?_
   exact q_rm
 ·obtain ⟨v2, h3, hm⟩ := qC hm
  rcases Bool.eq_false_or_eq_true (!v2) with b4 | b4
  ·replace hm := qA b4 hm
   refine q_vu [qc 2 [5] 1 (yH a1.Thick v2 h3), qf 4 b4] 1 [] [(23, vb true)] [] [] ?_
   exact q_J (true) hm
  ·replace hm := qB b4 hm
   obtain ⟨v5, h6, hm⟩ := qC hm
   rcases Bool.eq_false_or_eq_true (!v5) with b7 | b7
   ·replace hm := qA b7 hm
    refine q_vu [qc 2 [5] 1 (yH a1.Thick v2 h3), qf 4 b4, qk 7 [8, 10] 1 ⟨[(8, vb false), (10, vi a1.Width)], []⟩ (yH a1.Width v5 h6), qf 10 b7] 1 [] [(23, vb true)] [] [] ?_
    exact q_J (true) hm
   ·replace hm := qB b7 hm
    rcases Bool.eq_false_or_eq_true (decide (a1.Allow < 0)) with b8 | b8
    ·replace hm := qA b8 hm
     refine q_vu [qc 2 [5] 1 (yH a1.Thick v2 h3), qf 4 b4, qk 7 [8, 10] 1 ⟨[(8, vb false), (10, vi a1.Width)], []⟩ (yH a1.Width v5 h6), qf 10 b7, qf 15 b8] 1 [] [(23, vb true)] [] [] ?_
     exact q_J (true) hm
    ·replace hm := qB b8 hm
     refine q_vu [qc 2 [5] 1 (yH a1.Thick v2 h3), qf 4 b4, qk 7 [8, 10] 1 ⟨[(8, vb false), (10, vi a1.Width)], []⟩ (yH a1.Width v5 h6), qf 10 b7, qf 15 b8] 1 [] [(23, vb (decide (a1.Allow > 200)))] [] [] ?_
     exact q_J (decide (a1.Allow > 200)) hm
open Go.Proofs
set_option maxHeartbeats 4000000
set_option maxRecDepth 100000
def qEk (r : Bool) : V := vb r
def qEA (r : Bool) : List (Nat × (Nat × O)) := []
def MW (x3 : Bool) : St :=
 ⟨[(2, vb x3)], []⟩
theorem qDK (a1 : Span) (r : Bool) (hm : XV a1 = some r) : CtX Tryd.prog globs 88 0 0 [.agg (e_Span a1)] [] (qEk r) (qEA r) := by
 unfold XV at hm
 refine q_E Tryd.f88 17 fun E => ?_
 refine q_sq ?_
 refine q_vn [] 0 ⟨[(1, vp 0 0)], [(0, bx 26 (e_Span a1))]⟩ ?_
 refine q_jn (ι := Bool) (fun p => MW p) (fun p => KI p = some r) ?_ ?_
 ·rintro x3 hm
  show H _ (MW x3) _ _
  obtain rfl := Option.some.inj hm
  refine q_rt ?_
  exact q_rm
 ·rcases Bool.eq_false_or_eq_true (decide ((imin a1.A a1.B) ≥ (-600))) with b2 | b2
  ·replace hm := qA b2 hm
   refine q_vn [qf 6 b2] 1 ⟨[(2, vb (decide ((imax a1.A a1.B) ≤ 600)))], []⟩ ?_
   exact q_J (decide ((imax a1.A a1.B) ≤ 600)) hm
  ·replace hm := qB b2 hm
   refine q_vn [qf 6 b2] 1 ⟨[(2, vb false)], []⟩ ?_
   exact q_J (false) hm
def qEu (r : Bool) : V := vb r
def qEF (r : Bool) : List (Nat × (Nat × O)) := []
theorem WH (a1 : Span) (r : Bool) (hm : WT a1 = some r) : CtX Tryd.prog globs 89 0 0 [.agg (e_Span a1)] [] (qEu r) (qEF r) := by
 unfold WT at hm
 refine q_E Tryd.f89 8 fun E => ?_
 refine q_sq ?_
 refine q_vn [] 0 ⟨[(1, vp 0 0)], [(0, bx 26 (e_Span a1))]⟩ ?_
 refine q_sq ?_
 refine q_vn [] 1 ⟨[(2, vb (decide (a1.A ≥ a1.B)))], []⟩ ?_
 obtain rfl := Option.some.inj hm
 refine q_rt ?_
 exact q_rm
end Saw
end Go.SL
