import Derived.Test.YtgpgnlllieekbaaGreatDoorEBase
set_option linter.unusedVariables false
set_option linter.unusedSimpArgs false
namespace Go.SL
namespace Saw
open Go.Proofs
set_option maxHeartbeats 4000000
set_option maxRecDepth 100000
def qIj (r : Bool) : V := vb r
def qI8 (r : Bool) : List (Nat × (Nat × O)) := []
def OV (x3 : Bool) : St :=
 ⟨[(2, vb x3)], []⟩
theorem MR (a1 : Int) (r : Bool) (hm : PI a1 = some r) : CtX Tryz.prog globs 82 0 0 [.one (ci a1)] [] (qIj r) (qI8 r) := by
 unfold PI at hm
 refine q_E Tryz.f82 9 fun E => ?_
 refine q_sq ?_
 refine q_vn [] 0 ⟨[(0, vi a1)], []⟩ ?_
 refine q_jn (ι := Bool) (fun p => OV p) (fun p => UK p = some r) ?_ ?_
 ·rintro x3 hm
  show H _ (OV x3) _ _
  obtain rfl := Option.some.inj hm
  refine q_rt ?_
  exact q_rm
 ·rcases Bool.eq_false_or_eq_true (decide (a1 < (-600))) with b2 | b2
  ·replace hm := qB b2 hm
   refine q_vn [qf 2 b2] 0 ⟨[(2, vb true)], []⟩ ?_
   exact q_J (true) hm
  ·replace hm := qA b2 hm
   refine q_vn [qf 2 b2] 0 ⟨[(2, vb (decide (a1 > 600)))], []⟩ ?_
   exact q_J (decide (a1 > 600)) hm
def qKo (r : Bool) : V := vb r
def qKE (r : Bool) : List (Nat × (Nat × O)) := []
theorem ZS (a1 : Span) (r : Bool) (hm : JJ a1 = some r) : CtX Tryz.prog globs 83 0 0 [.agg (e_Span a1)] [] (qKo r) (qKE r) := by
 unfold JJ at hm
 refine q_E Tryz.f83 8 fun E => ?_
 refine q_sq ?_
 refine q_vn [] 0 ⟨[(1, vp 0 0)], [(0, bx 26 (e_Span a1))]⟩ ?_
 refine q_sq ?_
 refine q_vn [] 1 ⟨[(2, vb (decide (a1.A ≥ a1.B)))], []⟩ ?_
 obtain rfl := Option.some.inj hm
 refine q_rt ?_
 exact q_rm
set_option maxRecDepth 100000
def TL (r : Int) : V := vi r
def TE (r : Int) : List (Nat × (Nat × O)) := []
def qAQ (a1 : qJ) (x6 : Int) (x14 : Bool) : St :=
 ⟨[(1, vp 0 0), (3, vi ((a1.Rows.length : Nat) : Int)), (4, vi x6), (41, vb x14)], [(0, bx 54 (qZ a1))]⟩
def LD (a1 : qJ) (x6 : Int) : St :=
 ⟨[(1, vp 0 0), (3, vi ((a1.Rows.length : Nat) : Int)), (4, vi x6)], [(0, bx 54 (qZ a1))]⟩
def qBn (a1 : qJ) : St :=
 ⟨[(1, vp 0 0), (3, vi ((a1.Rows.length : Nat) : Int))], [(0, bx 54 (qZ a1))]⟩
def qAi (a1 : qJ) (x31 : Int) (x37 : Bool) : St :=
 ⟨[(1, vp 0 0), (3, vi ((a1.Rows.length : Nat) : Int)), (5, vi x31), (80, vb x37)], [(0, bx 54 (qZ a1))]⟩
def FE (a1 : qJ) (x31 : Int) : St :=
 ⟨[(1, vp 0 0), (3, vi ((a1.Rows.length : Nat) : Int)), (5, vi x31)], [(0, bx 54 (qZ a1))]⟩
def qAC : St :=
 ⟨[], []⟩
def qAP (a1 : qJ) (x29 : Bool) : St :=
 ⟨[(1, vp 0 0), (3, vi ((a1.Rows.length : Nat) : Int)), (60, vb x29)], [(0, bx 54 (qZ a1))]⟩
def qAt (a1 : qJ) (x4 : Bool) : St :=
 ⟨[(1, vp 0 0), (3, vi ((a1.Rows.length : Nat) : Int)), (20, vb x4)], [(0, bx 54 (qZ a1))]⟩
theorem qFs (E : Env 0) (a1 : qJ) : ∀ (n : Nat) (x6 : Int) (res : Int ⊕ Unit), yA a1 n x6 = some res → HL (kx E 81 0) (nd Tryz.f50 500) (wC 0 (fun o => qBn a1) (fun v st => RetQ Tryz.prog Tryz.f50 (TL v) (TE v) .ret st) res) n (LD a1 x6) := by
 intro n
 induction n with
 | zero =>
  intro x6 res hm
  cases hm
 | succ n ih =>
  intro x6 res hm
  refine qO ?_
  refine q_sq ?_
  refine q_sq ?_
  refine q_vu [] 1 [] [(23, vb (decide (x6 < ((a1.Rows.length : Nat) : Int))))] [] [] ?_
  refine q_cn (decide (x6 < ((a1.Rows.length : Nat) : Int))) (fun b7 => ?_) (fun b7 => ?_)
  ·replace hm := qB b7 hm
   refine q_sk ?_
   refine q_sq ?_
   refine q_bk 1 ?_
   refine q_jn (ι := Bool) (fun p => qAQ a1 x6 p) (fun p => GT x6 (yA a1 n) p = some res) ?_ ?_
   ·rintro x14 hm
    show H _ (qAQ a1 x6 x14) _ _
    refine q_cn x14 (fun b15 => ?_) (fun b15 => ?_)
    ·replace hm := qB b15 hm
     refine q_sq ?_
     refine q_vn [] 1 ⟨[(2, vi 9)], []⟩ ?_
     obtain rfl := Option.some.inj hm
     refine q_rt ?_
     refine qU 9 ?_
     exact q_rm
    ·replace hm := qA b15 hm
     refine q_sk ?_
     refine q_vu [] 1 [4, 41] [(4, vi (w64 (x6 + 1)))] [] [] ?_
     exact q_hl (LD a1 (w64 (x6 + 1))) (ih (w64 (x6 + 1)) _ hm)
   ·obtain ⟨g8, hm⟩ := qI hm
    obtain ⟨v9, h10, hm⟩ := qD hm
    rcases Bool.eq_false_or_eq_true v9 with b11 | b11
    ·replace hm := qB b11 hm
     refine q_vu [qd 3 (Dir.none) (inb_of g8), qc 6 [31] 1 (MR ((a1.Rows.getD x6.toNat default).A) v9 h10), qf 7 b11] 1 [23] [(41, vb true)] [] [] ?_
     exact q_J (true) hm
    ·replace hm := qA b11 hm
     obtain ⟨v12, h13, hm⟩ := qD hm
     refine q_vu [qd 3 (Dir.none) (inb_of g8), qc 6 [31] 1 (MR ((a1.Rows.getD x6.toNat default).A) v9 h10), qf 7 b11, qd 11 (Dir.none) (inb_of g8), qk 14 [33, 39] 1 ⟨[(33, vb false), (39, vi ((a1.Rows.getD x6.toNat default).B))], []⟩ (MR ((a1.Rows.getD x6.toNat default).B) v12 h13)] 1 [23] [(34, vp 0 1), (35, vc (tl e_Span default a1.Rows)), (36, vi x6), (37, vc (.lptr (e_Span (a1.Rows.getD x6.toNat default)))), (38, vc (.lptr ((e_Span (a1.Rows.getD x6.toNat default)).drop 1))), (39, vi ((a1.Rows.getD x6.toNat default).B)), (40, vb v12), (41, vb v12)] [] [] ?_
     exact q_J (v12) hm
  ·replace hm := qA b7 hm
   refine q_ex 0 ?_
   obtain rfl := Option.some.inj hm
   exact wF () (by kernel_rfl) (by kernel_rfl)
theorem qFJ (E : Env 0) (a1 : qJ) : ∀ (n : Nat) (x31 : Int) (res : Int ⊕ Unit), jZ a1 n x31 = some res → HL (kx E 81 0) (nd Tryz.f50 4084) (wC 2 (fun o => qAC) (fun v st => RetQ Tryz.prog Tryz.f50 (TL v) (TE v) .ret st) res) n (FE a1 x31) := by
 intro n
 induction n with
 | zero =>
  intro x31 res hm
  cases hm
 | succ n ih =>
  intro x31 res hm
  refine qO ?_
  refine q_sq ?_
  refine q_sq ?_
  refine q_vu [] 1 [] [(63, vb (decide (x31 < ((a1.Rows.length : Nat) : Int))))] [] [] ?_
  refine q_cn (decide (x31 < ((a1.Rows.length : Nat) : Int))) (fun b32 => ?_) (fun b32 => ?_)
  ·replace hm := qB b32 hm
   refine q_sk ?_
   refine q_sq ?_
   refine q_bk 3 ?_
   refine q_jn (ι := Bool) (fun p => qAi a1 x31 p) (fun p => GW x31 (jZ a1 n) p = some res) ?_ ?_
   ·rintro x37 hm
    show H _ (qAi a1 x31 x37) _ _
    refine q_cn x37 (fun b38 => ?_) (fun b38 => ?_)
    ·replace hm := qB b38 hm
     refine q_sq ?_
     refine q_vn [] 1 ⟨[(2, vi 19)], []⟩ ?_
     obtain rfl := Option.some.inj hm
     refine q_rt ?_
     refine qU 19 ?_
     exact q_rm
    ·replace hm := qA b38 hm
     refine q_sk ?_
     refine q_vu [] 1 [5, 80] [(5, vi (w64 (x31 + 1)))] [] [] ?_
     exact q_hl (FE a1 (w64 (x31 + 1))) (ih (w64 (x31 + 1)) _ hm)
   ·obtain ⟨g33, hm⟩ := qI hm
    obtain ⟨v34, h35, hm⟩ := qD hm
    rcases Bool.eq_false_or_eq_true v34 with b36 | b36
    ·replace hm := qB b36 hm
     refine q_vu [qd 3 (Dir.none) (inb_of g33), qc 5 [70] 1 (ZS (a1.Rows.getD x31.toNat default) v34 h35), qf 6 b36, qd 10 (Dir.none) (inb_of g33)] 1 [63] [(73, vp 0 1), (74, vc (tl e_Span default a1.Rows)), (75, vi x31), (76, vc (.lptr (e_Span (a1.Rows.getD x31.toNat default)))), (77, va [ci ((a1.Rows.getD x31.toNat default).A), ci ((a1.Rows.getD x31.toNat default).B)]), (78, va [ci 0, ci 0]), (79, vb (!((((a1.Rows.getD x31.toNat default).A) == 0) && ((((a1.Rows.getD x31.toNat default).B) == 0) && true)))), (80, vb (!((((a1.Rows.getD x31.toNat default).A) == 0) && ((((a1.Rows.getD x31.toNat default).B) == 0) && true))))] [] [] ?_
     exact q_J (!((((a1.Rows.getD x31.toNat default).A) == 0) && ((((a1.Rows.getD x31.toNat default).B) == 0) && true))) hm
    ·replace hm := qA b36 hm
     refine q_vu [qd 3 (Dir.none) (inb_of g33), qc 5 [70] 1 (ZS (a1.Rows.getD x31.toNat default) v34 h35), qf 6 b36] 1 [63] [(80, vb false)] [] [] ?_
     exact q_J (false) hm
  ·replace hm := qA b32 hm
   refine q_ex 2 ?_
   obtain rfl := Option.some.inj hm
   exact wF () (by kernel_rfl) (by kernel_rfl)
theorem qCO (a1 : qJ) (r : Int) (hm : TP a1 = some r) : CtX Tryz.prog globs 50 0 0 [.agg (qZ a1)] [] (TL r) (TE r) := by
 unfold TP at hm
 refine q_E Tryz.f50 81 fun E => ?_
 refine q_sq ?_
 refine q_vn [] 0 ⟨[(1, vp 0 0)], [(0, bx 54 (qZ a1))]⟩ ?_
 refine q_sq ?_
 refine q_vu [] 1 [] [(3, vi ((a1.Rows.length : Nat) : Int))] [] [] ?_
 refine q_sq ?_
 refine q_sq ?_
 refine q_vu [] 1 [] [(10, vb (decide (((a1.Rows.length : Nat) : Int) > 120)))] [] [] ?_
 refine q_cn (decide (((a1.Rows.length : Nat) : Int) > 120)) (fun b2 => ?_) (fun b2 => ?_)
 ·replace hm := qB b2 hm
  refine q_sq ?_
  refine q_vn [] 1 ⟨[(2, vi 4)], []⟩ ?_
  obtain rfl := Option.some.inj hm
  refine q_rt ?_
  exact q_rm
 ·replace hm := qA b2 hm
  refine q_sk ?_
  refine q_sq ?_
  refine q_jn (ι := Bool) (fun p => qAt a1 p) (fun p => GQ a1 p = some r) ?_ ?_
  ·rintro x4 hm
   show H _ (qAt a1 x4) _ _
   refine q_cn x4 (fun b5 => ?_) (fun b5 => ?_)
   ·replace hm := qB b5 hm
    refine q_sq ?_
    refine q_vn [] 1 ⟨[(2, vi 9)], []⟩ ?_
    obtain rfl := Option.some.inj hm
    refine q_rt ?_
    exact q_rm
   ·replace hm := qA b5 hm
    refine q_sk ?_
    refine q_sq ?_
    refine q_sq ?_
    refine q_vu [] 1 [20] [(4, vi 0)] [] [] ?_
    obtain ⟨u18, h17, hm⟩ := qD hm
    refine zI (nd Tryz.f50 500) 0 (by kernel_rfl) FUEL (fun o => qBn a1) (fun v st => RetQ Tryz.prog Tryz.f50 (TL v) (TE v) .ret st) u18 (q_hl (LD a1 0) (qFs E a1 FUEL 0 u18 h17)) ?_ ?_
    ·rintro v19 rfl st hr
     obtain rfl := Option.some.inj hm
     exact hr
    ·rintro o16 rfl
     replace hm : _ = some r := hm
     refine q_sq ?_
     refine q_sq ?_
     refine q_vu [] 1 [] [(43, vb (((a1.Rows.length : Nat) : Int) == 0))] [] [] ?_
     refine q_cn (((a1.Rows.length : Nat) : Int) == 0) (fun b20 => ?_) (fun b20 => ?_)
     ·replace hm := qB b20 hm
      refine q_sq ?_
      refine q_sq ?_
      refine q_vn [] 1 ⟨[(46, vb (a1.Low != 0))], []⟩ ?_
      refine q_cn (a1.Low != 0) (fun b21 => ?_) (fun b21 => ?_)
      ·replace hm := qB b21 hm
       refine q_sq ?_
       refine q_vn [] 1 ⟨[(2, vi 19)], []⟩ ?_
       obtain rfl := Option.some.inj hm
       refine q_rt ?_
       exact q_rm
      ·replace hm := qA b21 hm
       refine q_sk ?_
       refine q_sq ?_
       refine q_vn [] 1 ⟨[(2, vi 0)], []⟩ ?_
       obtain rfl := Option.some.inj hm
       refine q_rt ?_
       exact q_rm
     ·replace hm := qA b20 hm
      refine q_sk ?_
      refine q_sq ?_
      refine q_jn (ι := Bool) (fun p => qAP a1 p) (fun p => DL a1 p = some r) ?_ ?_
      ·rintro x29 hm
       show H _ (qAP a1 x29) _ _
       refine q_cn x29 (fun b30 => ?_) (fun b30 => ?_)
       ·replace hm := qB b30 hm
        refine q_sq ?_
        refine q_vn [] 1 ⟨[(2, vi 19)], []⟩ ?_
        obtain rfl := Option.some.inj hm
        refine q_rt ?_
        exact q_rm
       ·replace hm := qA b30 hm
        refine q_sk ?_
        refine q_sq ?_
        refine q_sq ?_
        refine q_vu [] 1 [60] [(5, vi 0)] [] [] ?_
        obtain ⟨u41, h40, hm⟩ := qD hm
        refine zI (nd Tryz.f50 4084) 2 (by kernel_rfl) FUEL (fun o => qAC) (fun v st => RetQ Tryz.prog Tryz.f50 (TL v) (TE v) .ret st) u41 (q_hl (FE a1 0) (qFJ E a1 FUEL 0 u41 h40)) ?_ ?_
        ·rintro v42 rfl st hr
         obtain rfl := Option.some.inj hm
         exact hr
        ·rintro o39 rfl
         replace hm : _ = some r := hm
         refine q_sq ?_
         refine q_vn [] 1 ⟨[(2, vi 0)], []⟩ ?_
         obtain rfl := Option.some.inj hm
         refine q_rt ?_
         exact q_rm
      ·obtain ⟨g22, hm⟩ := qI hm
       obtain ⟨v23, h24, hm⟩ := qD hm
       rcases Bool.eq_false_or_eq_true v23 with b25 | b25
       ·replace hm := qB b25 hm
        refine q_vu [qd 2 (Dir.none) (inb_of g22), qc 4 [50] 1 (ZS (a1.Rows.getD (0 : Int).toNat default) v23 h24), qf 5 b25] 1 [43] [(60, vb true)] [] [] ?_
        exact q_J (true) hm
       ·replace hm := qA b25 hm
        obtain ⟨g26, hm⟩ := qI hm
        obtain ⟨v27, h28, hm⟩ := qD hm
        refine q_vu [qd 2 (Dir.none) (inb_of g22), qc 4 [50] 1 (ZS (a1.Rows.getD (0 : Int).toNat default) v23 h24), qf 5 b25, qd 10 (Dir.none) (inb_of g26), qk 12 [52, 58] 1 ⟨[(52, vb false), (58, va [ci ((a1.Rows.getD (w64 (((a1.Rows.length : Nat) : Int) - 1)).toNat default).A), ci ((a1.Rows.getD (w64 (((a1.Rows.length : Nat) : Int) - 1)).toNat default).B)])], []⟩ (ZS (a1.Rows.getD (w64 (((a1.Rows.length : Nat) : Int) - 1)).toNat default) v27 h28)] 1 [43] [(60, vb v27)] [] [] ?_
        exact q_J (v27) hm
  ·rcases Bool.eq_false_or_eq_true (decide (a1.Low < (-60))) with b3 | b3
   ·replace hm := qB b3 hm
    refine q_vu [qf 3 b3] 1 [10] [(20, vb true)] [] [] ?_
    exact q_J (true) hm
   ·replace hm := qA b3 hm
    refine q_vu [qf 3 b3] 1 [10] [(20, vb (decide (a1.Low > (w64 (60 - ((a1.Rows.length : Nat) : Int))))))] [] [] ?_
    exact q_J (decide (a1.Low > (w64 (60 - ((a1.Rows.length : Nat) : Int))))) hm
open Go.Proofs
set_option maxHeartbeats 4000000
set_option maxRecDepth 100000
def IP (r : Int) : V := vi r
def IR (r : Int) : List (Nat × (Nat × O)) := []
def qA5 (a1 : List Slice) (x4 : Int) (x5 : Int) (x13 : Bool) : St :=
 ⟨[(0, vc (tl qG default a1)), (3, vi x4), (4, vi x5), (50, vb x13)], []⟩
def FZ (a1 : List Slice) (x4 : Int) (x5 : Int) : St :=
 ⟨[(0, vc (tl qG default a1)), (3, vi x4), (4, vi x5)], []⟩
def qAl : St :=
 ⟨[], []⟩
theorem qFU (E : Env 0) (a1 : List Slice) : ∀ (n : Nat) (x4 : Int) (x5 : Int) (res : Int ⊕ Unit), jS a1 n x4 x5 = some res → HL (kx E 58 0) (nd Tryz.f27 500) (wC 0 (fun o => qAl) (fun v st => RetQ Tryz.prog Tryz.f27 (IP v) (IR v) .ret st) res) n (FZ a1 x4 x5) := by
 intro n
 induction n with
 | zero =>
  intro x4 x5 res hm
  cases hm
 | succ n ih =>
  intro x4 x5 res hm
  refine qO ?_
  refine q_sq ?_
  refine q_sq ?_
  refine q_vu [] 0 [] [(15, vb (decide (x5 < ((a1.length : Nat) : Int))))] [] [] ?_
  refine q_cn (decide (x5 < ((a1.length : Nat) : Int))) (fun b6 => ?_) (fun b6 => ?_)
  ·replace hm := qB b6 hm
   refine q_sk ?_
   refine q_sq ?_
   refine q_bk 1 ?_
   refine q_sq ?_
   refine q_sq ?_
   obtain ⟨g7, hm⟩ := qI hm
   obtain ⟨v8, h9, hm⟩ := qD hm
   refine q_vu [qd 2 (Dir.none) (inb_of g7), qc 5 [22] 0 (qCO ((a1.getD x5.toNat default).Sec) v8 h9)] 0 [15] [(5, vi v8)] [] [] ?_
   refine q_sq ?_
   refine q_vu [] 0 [] [(25, vb (v8 != 0))] [] [] ?_
   refine q_cn (v8 != 0) (fun b10 => ?_) (fun b10 => ?_)
   ·replace hm := qB b10 hm
    refine q_sq ?_
    refine q_vn [] 0 ⟨[(2, vi v8)], []⟩ ?_
    obtain rfl := Option.some.inj hm
    refine q_rt ?_
    refine qU v8 ?_
    exact q_rm
   ·replace hm := qA b10 hm
    refine q_sk ?_
    refine q_sq ?_
    refine q_sq ?_
    refine q_vu [qd 2 (Dir.none) (inb_of g7)] 0 [5, 25] [(34, vb ((((((a1.getD x5.toNat default).Sec).Rows).length : Nat) : Int) == 0))] [] [] ?_
    refine q_cn ((((((a1.getD x5.toNat default).Sec).Rows).length : Nat) : Int) == 0) (fun b11 => ?_) (fun b11 => ?_)
    ·replace hm := qB b11 hm
     refine q_sq ?_
     refine q_vn [] 0 ⟨[(2, vi 18)], []⟩ ?_
     obtain rfl := Option.some.inj hm
     refine q_rt ?_
     refine qU 18 ?_
     exact q_rm
    ·replace hm := qA b11 hm
     refine q_sk ?_
     refine q_sq ?_
     refine q_jn (ι := Bool) (fun p => qA5 a1 x4 x5 p) (fun p => DC a1 x4 x5 (jS a1 n) p = some res) ?_ ?_
     ·rintro x13 hm
      show H _ (qA5 a1 x4 x5 x13) _ _
      refine q_cn x13 (fun b14 => ?_) (fun b14 => ?_)
      ·replace hm := qB b14 hm
       refine q_sq ?_
       refine q_vn [] 0 ⟨[(2, vi 9)], []⟩ ?_
       obtain rfl := Option.some.inj hm
       refine q_rt ?_
       refine qU 9 ?_
       exact q_rm
      ·replace hm := qA b14 hm
       refine q_sk ?_
       refine q_vu [qd 3 (Dir.none) (inb_of g7)] 0 [3, 50] [(3, vi (w64 (x4 + ((a1.getD x5.toNat default).Len))))] [] [] ?_
       refine q_vu [] 0 [4] [(4, vi (w64 (x5 + 1)))] [] [] ?_
       exact q_hl (FZ a1 (w64 (x4 + ((a1.getD x5.toNat default).Len))) (w64 (x5 + 1))) (ih (w64 (x4 + ((a1.getD x5.toNat default).Len))) (w64 (x5 + 1)) _ hm)
     ·rcases Bool.eq_false_or_eq_true (decide (((a1.getD x5.toNat default).Len) < 1)) with b12 | b12
      ·replace hm := qB b12 hm
       refine q_vu [qd 2 (Dir.none) (inb_of g7), qf 6 b12] 0 [34] [(50, vb true)] [] [] ?_
       exact q_J (true) hm
      ·replace hm := qA b12 hm
       refine q_vu [qd 2 (Dir.none) (inb_of g7), qf 6 b12, qd 9 (Dir.none) (inb_of g7)] 0 [34] [(42, vc (tl qG default a1)), (43, vi x5), (44, vc (.lptr (qG (a1.getD x5.toNat default)))), (45, vc (.lptr (qG (a1.getD x5.toNat default)))), (46, vi ((a1.getD x5.toNat default).Len)), (47, vi x4), (48, vi (w64 (20000 - x4))), (49, vb (decide (((a1.getD x5.toNat default).Len) > (w64 (20000 - x4))))), (50, vb (decide (((a1.getD x5.toNat default).Len) > (w64 (20000 - x4)))))] [] [] ?_
       exact q_J (decide (((a1.getD x5.toNat default).Len) > (w64 (20000 - x4)))) hm
  ·replace hm := qA b6 hm
   refine q_ex 0 ?_
   obtain rfl := Option.some.inj hm
   exact wF () (by kernel_rfl) (by kernel_rfl)
theorem jF (a1 : List Slice) (r : Int) (hm : ZW a1 = some r) : CtX Tryz.prog globs 27 0 0 [.one (tl qG default a1)] [] (IP r) (IR r) := by
 unfold ZW at hm
 refine q_E Tryz.f27 58 fun E => ?_
 refine q_sq ?_
 refine q_vn [] 0 ⟨[(0, vc (tl qG default a1))], []⟩ ?_
 refine q_sq ?_
 refine q_sq ?_
 refine q_vu [] 0 [] [(8, vb (((a1.length : Nat) : Int) == 0))] [] [] ?_
 refine q_cn (((a1.length : Nat) : Int) == 0) (fun b2 => ?_) (fun b2 => ?_)
 ·replace hm := qB b2 hm
  refine q_sq ?_
  refine q_vn [] 0 ⟨[(2, vi 3)], []⟩ ?_
  obtain rfl := Option.some.inj hm
  refine q_rt ?_
  exact q_rm
 ·replace hm := qA b2 hm
  refine q_sk ?_
  refine q_sq ?_
  refine q_sq ?_
  refine q_vu [] 0 [8] [(11, vb (decide (((a1.length : Nat) : Int) > 24)))] [] [] ?_
  refine q_cn (decide (((a1.length : Nat) : Int) > 24)) (fun b3 => ?_) (fun b3 => ?_)
  ·replace hm := qB b3 hm
   refine q_sq ?_
   refine q_vn [] 0 ⟨[(2, vi 4)], []⟩ ?_
   obtain rfl := Option.some.inj hm
   refine q_rt ?_
   exact q_rm
  ·replace hm := qA b3 hm
   refine q_sk ?_
   refine q_sq ?_
   refine q_vu [] 0 [11] [(3, vi 0)] [] [] ?_
   refine q_sq ?_
   refine q_sq ?_
   refine q_vu [] 0 [] [(4, vi 0)] [] [] ?_
   obtain ⟨u17, h16, hm⟩ := qD hm
   refine zI (nd Tryz.f27 500) 0 (by kernel_rfl) FUEL (fun o => qAl) (fun v st => RetQ Tryz.prog Tryz.f27 (IP v) (IR v) .ret st) u17 (q_hl (FZ a1 0 0) (qFU E a1 FUEL 0 0 u17 h16)) ?_ ?_
   ·rintro v18 rfl st hr
    obtain rfl := Option.some.inj hm
    exact hr
   ·rintro o15 rfl
    replace hm : _ = some r := hm
    refine q_sq ?_
    refine q_vn [] 0 ⟨[(2, vi 0)], []⟩ ?_
    obtain rfl := Option.some.inj hm
    refine q_rt ?_
    exact q_rm
def qIt (r : Int) : V := vi r
def qIA (r : Int) : List (Nat × (Nat × O)) := []
def BF (a1 : List Slice) (x5 : Int) (x6 : Int) : St :=
 ⟨[(0, vc (tl qG default a1)), (3, vi x5), (4, vi x6)], []⟩
def CM (x9 : Int) : St :=
 ⟨[(3, vi x9)], []⟩
theorem qEx (E : Env 0) (a1 : List Slice) : ∀ (n : Nat) (x5 : Int) (x6 : Int) (res : Int), QM a1 n x5 x6 = some res → HL (kx E 22 0) (nd Tryz.f14 244) (zN 0 (fun o => CM o) res) n (BF a1 x5 x6) := by
 intro n
 induction n with
 | zero =>
  intro x5 x6 res hm
  cases hm
 | succ n ih =>
  intro x5 x6 res hm
  refine qO ?_
  refine q_sq ?_
  refine q_sq ?_
  refine q_vu [] 0 [] [(11, vb (decide (x6 < ((a1.length : Nat) : Int))))] [] [] ?_
  refine q_cn (decide (x6 < ((a1.length : Nat) : Int))) (fun b7 => ?_) (fun b7 => ?_)
  ·replace hm := qB b7 hm
   refine q_sk ?_
   refine q_sq ?_
   refine q_bk 1 ?_
   obtain ⟨g8, hm⟩ := qI hm
   refine q_vu [qd 3 (Dir.none) (inb_of g8)] 0 [3, 11] [(3, vi (w64 (x5 + ((a1.getD x6.toNat default).Len))))] [] [] ?_
   refine q_vu [] 0 [4] [(4, vi (w64 (x6 + 1)))] [] [] ?_
   exact q_hl (BF a1 (w64 (x5 + ((a1.getD x6.toNat default).Len))) (w64 (x6 + 1))) (ih (w64 (x5 + ((a1.getD x6.toNat default).Len))) (w64 (x6 + 1)) _ hm)
  ·replace hm := qA b7 hm
   refine q_ex 0 ?_
   obtain rfl := Option.some.inj hm
   exact zX (by kernel_rfl) (by kernel_rfl)
theorem XA (a1 : List Slice) (r : Int) (hm : QN a1 = some r) : CtX Tryz.prog globs 14 0 0 [.one (tl qG default a1)] [] (qIt r) (qIA r) := by
 unfold QN at hm
 refine q_E Tryz.f14 22 fun E => ?_
 refine q_sq ?_
 refine q_vn [] 0 ⟨[(0, vc (tl qG default a1))], []⟩ ?_
 refine q_sq ?_
 refine q_sq ?_
 obtain ⟨v2, h3, hm⟩ := qD hm
 refine q_vu [qc 1 [5] 0 (jF a1 v2 h3)] 0 [] [(7, vb (v2 != 0))] [] [] ?_
 refine q_cn (v2 != 0) (fun b4 => ?_) (fun b4 => ?_)
 ·replace hm := qB b4 hm
  refine q_sq ?_
  refine q_vn [] 0 ⟨[(2, vi 0)], []⟩ ?_
  obtain rfl := Option.some.inj hm
  refine q_rt ?_
  exact q_rm
 ·replace hm := qA b4 hm
  refine q_sk ?_
  refine q_sq ?_
  refine q_vu [] 0 [7] [(3, vi 0)] [] [] ?_
  refine q_sq ?_
  refine q_sq ?_
  refine q_vu [] 0 [] [(4, vi 0)] [] [] ?_
  obtain ⟨o10, h11, hm⟩ := qD hm
  refine zF (nd Tryz.f14 244) 0 (by kernel_rfl) FUEL (fun o => CM o) o10 (q_hl (BF a1 0 0) (qEx E a1 FUEL 0 0 o10 h11)) ?_
  refine q_sq ?_
  refine q_vn [] 0 ⟨[(2, vi o10)], []⟩ ?_
  obtain rfl := Option.some.inj hm
  refine q_rt ?_
  exact q_rm
set_option maxRecDepth 100000
def qNa (r : Rect) : V := va (qK r)
def qNh (r : Rect) : List (Nat × (Nat × O)) := []
theorem qAj (a1 : Rect) (a2 : Int) (a3 : Int) (r : Rect) (hm : GH a1 a2 a3 = some r) : CtX Tryz.prog globs 33 0 0 [.agg (qK a1), .one (ci a2), .one (ci a3)] [] (qNa r) (qNh r) := by
 unfold GH at hm
 refine q_E Tryz.f33 21 fun E => ?_
 refine q_sq ?_
 refine q_vn [] 0 ⟨[(1, vi a2), (2, vi a3), (3, vp 0 0), (6, vp 1 0)], [(0, bx 28 (qK a1)), (1, bx 28 [ci 0, ci 0, ci 0, ci 0])]⟩ ?_
 refine q_sq ?_
 refine q_vn [] 2 ⟨[(6, vp 1 0)], [(1, bx 28 [ci (w64 (a1.X.A + a2)), ci (w64 (a1.X.A + a3)), ci a1.Y.A, ci a1.Y.B])]⟩ ?_
 obtain rfl := Option.some.inj hm
 refine q_rt ?_
 exact q_rm
open Go.Proofs
set_option maxHeartbeats 4000000
set_option maxRecDepth 100000
def qM6 (r : Span) : V := va (e_Span r)
def qNc (r : Span) : List (Nat × (Nat × O)) := []
theorem PR (a1 : Span) (a2 : Span) (r : Span) (hm : JN a1 a2 = some r) : CtX Tryz.prog globs 94 0 0 [.agg (e_Span a1), .agg (e_Span a2)] [] (qM6 r) (qNc r) := by
 unfold JN at hm
 refine q_E Tryz.f94 24 fun E => ?_
 refine q_sq ?_
 refine q_vn [] 0 ⟨[(2, vp 0 0), (3, vp 1 0), (4, vp 2 0)], [(0, bx 26 (e_Span a1)), (1, bx 26 (e_Span a2)), (2, bx 26 [ci 0, ci 0])]⟩ ?_
 refine q_sq ?_
 refine q_vu [] 3 [2, 3] [(5, vp 3 0)] [0, 1] [(3, bx 26 [ci (imax a1.A a2.A), ci (imin a1.B a2.B)])] ?_
 refine q_sq ?_
 refine q_sq ?_
 refine q_vu [] 4 [] [(21, vb (decide ((imax a1.A a2.A) ≥ (imin a1.B a2.B))))] [] [] ?_
 refine q_cn (decide ((imax a1.A a2.A) ≥ (imin a1.B a2.B))) (fun b3 => ?_) (fun b3 => ?_)
 ·replace hm := qB b3 hm
  refine q_sq ?_
  refine q_vu [] 4 [5, 21] [] [3] [] ?_
  obtain rfl := Option.some.inj hm
  refine q_rt ?_
  exact q_rm
 ·replace hm := qA b3 hm
  refine q_sk ?_
  refine q_sq ?_
  refine q_vn [] 4 ⟨[(4, vp 2 0)], [(2, bx 26 [ci (imax a1.A a2.A), ci (imin a1.B a2.B)])]⟩ ?_
  obtain rfl := Option.some.inj hm
  refine q_rt ?_
  exact q_rm
def qGr (r : Bool) : V := vb r
def qGG (r : Bool) : List (Nat × (Nat × O)) := []
theorem zW (a1 : Span) (r : Bool) (hm : jW a1 = some r) : CtX Tryz.prog globs 111 0 0 [.agg (e_Span a1)] [] (qGr r) (qGG r) := by
 unfold jW at hm
 refine q_E Tryz.f111 8 fun E => ?_
 refine q_sq ?_
 refine q_vn [] 0 ⟨[(1, vp 0 0)], [(0, bx 26 (e_Span a1))]⟩ ?_
 refine q_sq ?_
 refine q_vn [] 1 ⟨[(2, vb (decide (a1.A ≥ a1.B)))], []⟩ ?_
 obtain rfl := Option.some.inj hm
 refine q_rt ?_
 exact q_rm
set_option maxRecDepth 100000
def qLd (r : Box × Bool) : V := .tup [.agg (zC r.1), .one (cb r.2)]
def qKL (r : Box × Bool) : List (Nat × (Nat × O)) := []
def qAf (v3 : Span) (v5 : Span) (v7 : Span) (x17 : Bool) : St :=
 ⟨[(4, vp 2 0), (6, vp 3 0), (35, vb x17)], [(2, bx 108 [ci 0, ci 0, ci 0, ci 0, ci 0, ci 0]), (3, bx 108 [ci v3.A, ci v3.B, ci v5.A, ci v5.B, ci v7.A, ci v7.B])]⟩
theorem qIx (a1 : Box) (a2 : Box) (r : Box × Bool) (hm : ET a1 a2 = some r) : CtX Tryz.prog globs 130 0 0 [.agg (zC a1), .agg (zC a2)] [] (qLd r) (qKL r) := by
 unfold ET at hm
 refine q_E Tryz.f130 38 fun E => ?_
 refine q_sq ?_
 refine q_vn [] 0 ⟨[(2, vp 0 0), (3, vp 1 0), (4, vp 2 0)], [(0, bx 108 (zC a1)), (1, bx 108 (zC a2)), (2, bx 108 [ci 0, ci 0, ci 0, ci 0, ci 0, ci 0])]⟩ ?_
 refine q_sq ?_
 obtain ⟨v3, h4, hm⟩ := qD hm
 obtain ⟨v5, h6, hm⟩ := qD hm
 obtain ⟨v7, h8, hm⟩ := qD hm
 refine q_du [qc 4 [8, 10] 3 (PR a1.X a2.X v3 h4), qc 9 [13, 15] 3 (PR a1.Y a2.Y v5 h6), qc 14 [18, 20] 3 (PR a1.Z a2.Z v7 h8)] [0, 1, 0, 4, 15, 0, 32, 0, 128, 511, 0, 1024, 0, 4096, 16383, 32767, 0, 131071] 3 [2, 3] [(6, vp 3 0)] [0, 1] [(3, bx 108 [ci v3.A, ci v3.B, ci v5.A, ci v5.B, ci v7.A, ci v7.B])] ?_
 refine q_sq ?_
 refine q_jn (ι := Bool) (fun p => qAf v3 v5 v7 p) (fun p => PL v3 v5 v7 p = some r) ?_ ?_
 ·rintro x17 hm
  show H _ (qAf v3 v5 v7 x17) _ _
  refine q_cn x17 (fun b18 => ?_) (fun b18 => ?_)
  ·replace hm := qB b18 hm
   refine q_sq ?_
   refine q_vu [] 4 [6, 35] [(5, vb false)] [3] [] ?_
   obtain rfl := Option.some.inj hm
   refine q_rt ?_
   exact q_rm
  ·replace hm := qA b18 hm
   refine q_sk ?_
   refine q_sq ?_
   refine q_vu [] 4 [6, 35] [(5, vb true)] [2, 3] [(2, bx 108 [ci v3.A, ci v3.B, ci v5.A, ci v5.B, ci v7.A, ci v7.B])] ?_
   obtain rfl := Option.some.inj hm
   refine q_rt ?_
   exact q_rm
 ·obtain ⟨v9, h10, hm⟩ := qD hm
  rcases Bool.eq_false_or_eq_true v9 with b11 | b11
  ·replace hm := qB b11 hm
   refine q_vu [qc 2 [24] 4 (zW v3 v9 h10), qf 3 b11] 4 [] [(35, vb true)] [] [] ?_
   exact q_J (true) hm
  ·replace hm := qA b11 hm
   obtain ⟨v12, h13, hm⟩ := qD hm
   rcases Bool.eq_false_or_eq_true v12 with b14 | b14
   ·replace hm := qB b14 hm
    refine q_vu [qc 2 [24] 4 (zW v3 v9 h10), qf 3 b11, qk 6 [26, 28] 4 ⟨[(26, vb false), (28, va (e_Span v5))], []⟩ (zW v5 v12 h13), qf 8 b14] 4 [] [(35, vb true)] [] [] ?_
    exact q_J (true) hm
   ·replace hm := qA b14 hm
    obtain ⟨v15, h16, hm⟩ := qD hm
    refine q_vu [qc 2 [24] 4 (zW v3 v9 h10), qf 3 b11, qk 6 [26, 28] 4 ⟨[(26, vb false), (28, va (e_Span v5))], []⟩ (zW v5 v12 h13), qf 8 b14, qk 11 [31, 33] 4 ⟨[(31, vb false), (33, va (e_Span v7))], []⟩ (zW v7 v15 h16)] 4 [] [(35, vb v15)] [] [] ?_
    exact q_J (v15) hm
open Go.Proofs
set_option maxHeartbeats 4000000
set_option maxRecDepth 100000
def qGU (r : Bool) : V := vb r
def qGB (r : Bool) : List (Nat × (Nat × O)) := []
theorem CB (a1 : Defect) (a2 : Box) (r : Bool) (hm : JR a1 a2 = some r) : CtX Tryz.prog globs 116 0 0 [.agg (qH a1), .agg (zC a2)] [] (qGU r) (qGB r) := by
 unfold JR at hm
 refine q_E Tryz.f116 15 fun E => ?_
 refine q_sq ?_
 refine q_vn [] 0 ⟨[(2, vp 0 0), (3, vp 1 0)], [(0, bx 110 (qH a1)), (1, bx 108 (zC a2))]⟩ ?_
 refine q_sq ?_
 obtain ⟨v3, h4, hm⟩ := qD hm
 refine q_vn [qc 3 [9, 10] 2 (qIx a1.Box a2 v3 h4)] 2 ⟨[(6, vb v3.2)], []⟩ ?_
 refine q_sq ?_
 refine q_vn [] 3 ⟨[(4, vb v3.2)], []⟩ ?_
 obtain rfl := Option.some.inj hm
 refine q_rt ?_
 exact q_rm
def qGP (r : Bool) : V := vb r
def qGc (r : Bool) : List (Nat × (Nat × O)) := []
def SE (x5 : Bool) : St :=
 ⟨[(4, vb x5)], []⟩
theorem qFG (a1 : Span) (a2 : Int) (r : Bool) (hm : DA a1 a2 = some r) : CtX Tryz.prog globs 117 0 0 [.agg (e_Span a1), .one (ci a2)] [] (qGP r) (qGc r) := by
 unfold DA at hm
 refine q_E Tryz.f117 21 fun E => ?_
 refine q_sq ?_
 refine q_vn [] 0 ⟨[(1, vi a2), (2, vp 0 0)], [(0, bx 26 (e_Span a1))]⟩ ?_
 refine q_jn (ι := Bool) (fun p => SE p) (fun p => JD p = some r) ?_ ?_
 ·rintro x5 hm
  show H _ (SE x5) _ _
  obtain rfl := Option.some.inj hm
  refine q_rt ?_
  exact q_rm
 ·rcases Bool.eq_false_or_eq_true (decide (a1.A ≥ 0)) with b3 | b3
  ·replace hm := qB b3 hm
   rcases Bool.eq_false_or_eq_true (decide (a1.A < a1.B)) with b4 | b4
   ·replace hm := qB b4 hm
    refine q_vn [qf 3 b3, qf 10 b4] 1 ⟨[(4, vb (decide (a1.B ≤ a2)))], []⟩ ?_
    exact q_J (decide (a1.B ≤ a2)) hm
   ·replace hm := qA b4 hm
    refine q_vn [qf 3 b3, qf 10 b4] 1 ⟨[(4, vb false)], []⟩ ?_
    exact q_J (false) hm
  ·replace hm := qA b3 hm
   refine q_vn [qf 3 b3] 1 ⟨[(4, vb false)], []⟩ ?_
   exact q_J (false) hm
set_option maxRecDepth 100000
def HR (r : Int × Bool) : V := .tup [.one (ci r.1), .one (cb r.2)]
def MM (r : Int × Bool) : List (Nat × (Nat × O)) := []
def VC (a1 : qC) (a2 : Int) (x3 : Int) : St :=
 ⟨[(1, vi a2), (2, vp 0 0), (9, vc (tl e_i64 default a1.Lengths)), (10, vi ((a1.Lengths.length : Nat) : Int)), (11, vi x3)], [(0, bx 58 (qE a1))]⟩
def ID : St :=
 ⟨[], []⟩
theorem qEg (E : Env 0) (a1 : qC) (a2 : Int) : ∀ (n : Nat) (x3 : Int) (res : (Int × Bool) ⊕ Unit), yO a1 a2 n x3 = some res → HL (kx E 30 0) (nd Tryz.f118 52) (wC 0 (fun o => ID) (fun v st => RetQ Tryz.prog Tryz.f118 (HR v) (MM v) .ret st) res) n (VC a1 a2 x3) := by
 intro n
 induction n with
 | zero =>
  intro x3 res hm
  cases hm
 | succ n ih =>
  intro x3 res hm
  refine qO ?_
  refine q_sq ?_
  refine q_vu [] 1 [] [(12, vb (decide (x3 < ((a1.Lengths.length : Nat) : Int))))] [] [] ?_
  refine q_sq ?_
  refine q_cn (decide (x3 < ((a1.Lengths.length : Nat) : Int))) (fun b4 => ?_) (fun b4 => ?_)
  ·replace hm := qB b4 hm
   refine q_sk ?_
   refine q_sq ?_
   refine q_bk 1 ?_
   refine q_sq ?_
   obtain ⟨g5, hm⟩ := qI hm
   refine q_vu [qd 1 (Dir.none) (inb_of g5)] 1 [12] [(6, vi x3), (7, vi (a1.Lengths.getD x3.toNat default))] [] [] ?_
   refine q_sq ?_
   refine q_sq ?_
   refine q_vu [] 1 [7] [(18, vb ((a1.Lengths.getD x3.toNat default) != a2))] [] [] ?_
   refine q_cn ((a1.Lengths.getD x3.toNat default) != a2) (fun b6 => ?_) (fun b6 => ?_)
   ·replace hm := qB b6 hm
    refine q_ex 1 ?_
    refine q_vu [] 1 [6, 11, 18] [(11, vi (w64 (x3 + 1)))] [] [] ?_
    exact q_hl (VC a1 a2 (w64 (x3 + 1))) (ih (w64 (x3 + 1)) _ hm)
   ·replace hm := qA b6 hm
    refine q_sk ?_
    refine q_sq ?_
    refine q_sq ?_
    refine q_vu [] 1 [1, 9, 10, 11, 18] [(23, vb (decide (x3 ≥ ((a1.Prices.length : Nat) : Int))))] [] [] ?_
    refine q_cn (decide (x3 ≥ ((a1.Prices.length : Nat) : Int))) (fun b7 => ?_) (fun b7 => ?_)
    ·replace hm := qB b7 hm
     refine q_sq ?_
     refine q_vn [] 1 ⟨[(4, vi 0), (5, vb false)], []⟩ ?_
     obtain rfl := Option.some.inj hm
     refine q_rt ?_
     refine qU (0, false) ?_
     exact q_rm
    ·replace hm := qA b7 hm
     refine q_sk ?_
     refine q_sq ?_
     obtain ⟨g8, hm⟩ := qI hm
     refine q_vn [qd 3 (Dir.none) (inb_of g8)] 1 ⟨[(4, vi (a1.Prices.getD x3.toNat default)), (5, vb true)], []⟩ ?_
     obtain rfl := Option.some.inj hm
     refine q_rt ?_
     refine qU ((a1.Prices.getD x3.toNat default), true) ?_
     exact q_rm
  ·replace hm := qA b4 hm
   refine q_ex 0 ?_
   obtain rfl := Option.some.inj hm
   exact wF () (by kernel_rfl) (by kernel_rfl)
theorem qGi (a1 : qC) (a2 : Int) (r : Int × Bool) (hm : TC a1 a2 = some r) : CtX Tryz.prog globs 118 0 0 [.agg (qE a1), .one (ci a2)] [] (HR r) (MM r) := by
 unfold TC at hm
 refine q_E Tryz.f118 30 fun E => ?_
 refine q_sq ?_
 refine q_vn [] 0 ⟨[(1, vi a2), (2, vp 0 0)], [(0, bx 58 (qE a1))]⟩ ?_
 refine q_sq ?_
 refine q_sq ?_
 refine q_vu [] 1 [] [(9, vc (tl e_i64 default a1.Lengths)), (10, vi ((a1.Lengths.length : Nat) : Int)), (11, vi 0)] [] [] ?_
 obtain ⟨u11, h10, hm⟩ := qD hm
 refine zI (nd Tryz.f118 52) 0 (by kernel_rfl) FUEL (fun o => ID) (fun v st => RetQ Tryz.prog Tryz.f118 (HR v) (MM v) .ret st) u11 (q_hl (VC a1 a2 0) (qEg E a1 a2 FUEL 0 u11 h10)) ?_ ?_
 ·rintro v12 rfl st hr
  obtain rfl := Option.some.inj hm
  exact hr
 ·rintro o9 rfl
  replace hm : _ = some r := hm
  refine q_sq ?_
  refine q_vn [] 1 ⟨[(4, vi 0), (5, vb false)], []⟩ ?_
  obtain rfl := Option.some.inj hm
  refine q_rt ?_
  exact q_rm
open Go.Proofs
set_option maxHeartbeats 4000000
set_option maxRecDepth 100000
def qAR (r : Box) : V := va (zC r)
def PU (r : Box) : List (Nat × (Nat × O)) := []
theorem qGI (r : Box) : WC (PU r) := by
 intro i k o h
 unfold PU at h
 cases h
theorem OP (a1 : Worth_view) (a2 : Span) (r : Box) (hm : JS a1 a2 = some r) : CtX Tryz.prog globs 115 0 0 [.agg (VK a1), .agg (e_Span a2)] [] (qAR r) (PU r) := by
 unfold JS at hm
 refine q_E Tryz.f115 13 fun E => ?_
 refine q_sq ?_
 refine q_vn [] 0 ⟨[(2, vp 0 0), (3, vp 1 0), (4, vp 2 0)], [(0, bx 131 (VK a1)), (1, bx 26 (e_Span a2)), (2, bx 108 [ci 0, ci 0, ci 0, ci 0, ci 0, ci 0])]⟩ ?_
 refine q_sq ?_
 refine q_vn [] 3 ⟨[(4, vp 2 0)], [(2, bx 108 [ci a1.rect.X.A, ci a1.rect.X.B, ci a1.rect.Y.A, ci a1.rect.Y.B, ci a2.A, ci a2.B])]⟩ ?_
 obtain rfl := Option.some.inj hm
 refine q_rt ?_
 exact q_rm
def qKH (r : Int) : V := vi r
def qKD (r : Int) : List (Nat × (Nat × O)) := []
def qAL (a1 : List Worth_zone) (a2 : Span) (x4 : Int) (x10 : Int) : St :=
 ⟨[(3, vp 0 0), (5, vi x10), (8, vc (tl qN default a1)), (9, vi ((a1.length : Nat) : Int)), (10, vi x4)], [(0, bx 26 (e_Span a2))]⟩
def qA3 (a1 : List Worth_zone) (a2 : Span) (x3 : Int) (x4 : Int) (x8 : Bool) : St :=
 ⟨[(3, vp 0 0), (5, vi x3), (7, vp 1 0), (8, vc (tl qN default a1)), (9, vi ((a1.length : Nat) : Int)), (10, vi x4), (27, vb x8)], [(0, bx 26 (e_Span a2)), (1, bx 162 [ci (((a1.getD x4.toNat default).z).A), ci (((a1.getD x4.toNat default).z).B), ci ((a1.getD x4.toNat default).lack)])]⟩
def FO (a1 : List Worth_zone) (a2 : Span) (x3 : Int) (x4 : Int) : St :=
 ⟨[(3, vp 0 0), (5, vi x3), (8, vc (tl qN default a1)), (9, vi ((a1.length : Nat) : Int)), (10, vi x4)], [(0, bx 26 (e_Span a2))]⟩
def qAq (x11 : Int) : St :=
 ⟨[(5, vi x11)], []⟩
theorem qFw (E : Env 0) (a1 : List Worth_zone) (a2 : Span) : ∀ (n : Nat) (x3 : Int) (x4 : Int) (res : Int), jY a1 a2 n x3 x4 = some res → HL (kx E 34 0) (nd Tryz.f119 116) (zN 0 (fun o => qAq o) res) n (FO a1 a2 x3 x4) := by
 intro n
 induction n with
 | zero =>
  intro x3 x4 res hm
  cases hm
 | succ n ih =>
  intro x3 x4 res hm
  refine qO ?_
  refine q_sq ?_
  refine q_vu [] 1 [] [(11, vb (decide (x4 < ((a1.length : Nat) : Int))))] [] [] ?_
  refine q_sq ?_
  refine q_cn (decide (x4 < ((a1.length : Nat) : Int))) (fun b5 => ?_) (fun b5 => ?_)
  ·replace hm := qB b5 hm
   refine q_sk ?_
   refine q_jn (ι := Int) (fun p => qAL a1 a2 x4 p) (fun p => DM x4 (jY a1 a2 n) p = some res) ?_ ?_
   ·rintro x10 hm
    show H _ (qAL a1 a2 x4 x10) _ _
    refine q_vu [] 2 [10] [(10, vi (w64 (x4 + 1)))] [] [] ?_
    exact q_hl (FO a1 a2 x10 (w64 (x4 + 1))) (ih x10 (w64 (x4 + 1)) _ hm)
   ·refine q_bk 1 ?_
    refine q_sq ?_
    obtain ⟨g6, hm⟩ := qI hm
    refine q_vu [qd 0 (Dir.none) (inb_of g6)] 1 [11] [(7, vp 1 0)] [] [(1, bx 162 [ci (((a1.getD x4.toNat default).z).A), ci (((a1.getD x4.toNat default).z).B), ci ((a1.getD x4.toNat default).lack)])] ?_
    refine q_jn (ι := Bool) (fun p => qA3 a1 a2 x3 x4 p) (fun p => DK a1 x3 x4 (jY a1 a2 n) p = some res) ?_ ?_
    ·rintro x8 hm
     show H _ (qA3 a1 a2 x3 x4 x8) _ _
     refine q_cn x8 (fun b9 => ?_) (fun b9 => ?_)
     ·replace hm := qB b9 hm
      refine q_vu [] 2 [5, 7, 27] [(5, vi (imax x3 ((a1.getD x4.toNat default).lack)))] [1] [] ?_
      exact q_J (imax x3 ((a1.getD x4.toNat default).lack)) hm
     ·replace hm := qA b9 hm
      refine q_sk ?_
      exact q_J (x3) hm
    ·rcases Bool.eq_false_or_eq_true (decide ((((a1.getD x4.toNat default).z).A) < a2.B)) with b7 | b7
     ·replace hm := qB b7 hm
      refine q_vu [qf 6 b7] 2 [] [(21, vp 0 0), (22, vi a2.A), (23, vp 1 0), (24, vp 1 1), (25, vi (((a1.getD x4.toNat default).z).B)), (26, vb (decide (a2.A < (((a1.getD x4.toNat default).z).B)))), (27, vb (decide (a2.A < (((a1.getD x4.toNat default).z).B))))] [] [] ?_
      exact q_J (decide (a2.A < (((a1.getD x4.toNat default).z).B))) hm
     ·replace hm := qA b7 hm
      refine q_vu [qf 6 b7] 2 [] [(27, vb false)] [] [] ?_
      exact q_J (false) hm
  ·replace hm := qA b5 hm
   refine q_ex 0 ?_
   obtain rfl := Option.some.inj hm
   exact zX (by kernel_rfl) (by kernel_rfl)
theorem qI4 (a1 : List Worth_zone) (a2 : Span) (r : Int) (hm : NH a1 a2 = some r) : CtX Tryz.prog globs 119 0 0 [.one (tl qN default a1), .agg (e_Span a2)] [] (qKH r) (qKD r) := by
 unfold NH at hm
 refine q_E Tryz.f119 34 fun E => ?_
 refine q_sq ?_
 refine q_vn [] 0 ⟨[(0, vc (tl qN default a1)), (3, vp 0 0)], [(0, bx 26 (e_Span a2))]⟩ ?_
 refine q_sq ?_
 refine q_vu [] 1 [] [(5, vi 0)] [] [] ?_
 refine q_sq ?_
 refine q_sq ?_
 refine q_vu [] 1 [0] [(8, vc (tl qN default a1)), (9, vi ((a1.length : Nat) : Int)), (10, vi 0)] [] [] ?_
 obtain ⟨o12, h13, hm⟩ := qD hm
 refine zF (nd Tryz.f119 116) 0 (by kernel_rfl) FUEL (fun o => qAq o) o12 (q_hl (FO a1 a2 0 0) (qFw E a1 a2 FUEL 0 0 o12 h13)) ?_
 refine q_sq ?_
 refine q_vn [] 1 ⟨[(4, vi o12)], []⟩ ?_
 obtain rfl := Option.some.inj hm
 refine q_rt ?_
 exact q_rm
set_option maxRecDepth 100000
def XX (r : Int × Bool) : V := .tup [.one (ci r.1), .one (cb r.2)]
def yS (r : Int × Bool) : List (Nat × (Nat × O)) := []
theorem qE1 (r : Int × Bool) : WC (yS r) := by
 intro i k o h
 unfold yS at h
 cases h
def LU (a1 : Worth_view) (a3 : Int) (v14 : Box) (x17 : Int) (x24 : Int) : St :=
 ⟨[(2, vi a3), (8, vi x24), (10, vp 2 0), (45, vc (tl qH default a1.defects)), (46, vi ((a1.defects.length : Nat) : Int)), (47, vi x17)], [(2, bx 108 (zC v14))]⟩
def PO (a1 : Worth_view) (a3 : Int) (v14 : Box) (x16 : Int) (x17 : Int) : St :=
 ⟨[(2, vi a3), (8, vi x16), (10, vp 2 0), (45, vc (tl qH default a1.defects)), (46, vi ((a1.defects.length : Nat) : Int)), (47, vi x17)], [(2, bx 108 (zC v14))]⟩
def LS (x25 : Int) : St :=
 ⟨[(8, vi x25)], []⟩
def LT (a1 : Worth_view) (a2 : Span) (a3 : Int) (v7 : Int × Bool) (x12 : Bool) : St :=
 ⟨[(2, vi a3), (3, vp 0 0), (4, vp 1 0), (8, vi v7.1), (40, vb x12)], [(0, bx 131 (VK a1)), (1, bx 26 (e_Span a2))]⟩
theorem qCL (E : Env 0) (a1 : Worth_view) (a3 : Int) (v14 : Box) : ∀ (n : Nat) (x16 : Int) (x17 : Int) (res : (Int × Bool) ⊕ Int), zP a1 a3 v14 n x16 x17 = some res → HL (kx E 64 0) (nd Tryz.f91 1012) (wC 0 (fun o => LS o) (fun v st => RetQ Tryz.prog Tryz.f91 (XX v) (yS v) .ret st) res) n (PO a1 a3 v14 x16 x17) := by
 intro n
 induction n with
 | zero =>
  intro x16 x17 res hm
  cases hm
 | succ n ih =>
  intro x16 x17 res hm
  refine qO ?_
  refine q_sq ?_
  refine q_vu [] 3 [] [(48, vb (decide (x17 < ((a1.defects.length : Nat) : Int))))] [] [] ?_
  refine q_sq ?_
  refine q_cn (decide (x17 < ((a1.defects.length : Nat) : Int))) (fun b18 => ?_) (fun b18 => ?_)
  ·replace hm := qB b18 hm
   refine q_sk ?_
   refine q_jn (ι := Int) (fun p => LU a1 a3 v14 x17 p) (fun p => YK x17 (zP a1 a3 v14 n) p = some res) ?_ ?_
   ·rintro x24 hm
    show H _ (LU a1 a3 v14 x17 x24) _ _
    refine q_vu [] 4 [47] [(47, vi (w64 (x17 + 1)))] [] [] ?_
    exact q_hl (PO a1 a3 v14 x24 (w64 (x17 + 1))) (ih x24 (w64 (x17 + 1)) _ hm)
   ·refine q_bk 1 ?_
    refine q_sq ?_
    obtain ⟨g19, hm⟩ := qI hm
    refine q_vu [qd 0 (Dir.none) (inb_of g19)] 3 [48] [(12, vp 3 0)] [] [(3, bx 110 [ci ((a1.defects.getD x17.toNat default).Kind), ci ((((a1.defects.getD x17.toNat default).Box).X).A), ci ((((a1.defects.getD x17.toNat default).Box).X).B), ci ((((a1.defects.getD x17.toNat default).Box).Y).A), ci ((((a1.defects.getD x17.toNat default).Box).Y).B), ci ((((a1.defects.getD x17.toNat default).Box).Z).A), ci ((((a1.defects.getD x17.toNat default).Box).Z).B)])] ?_
    refine q_sq ?_
    refine q_sq ?_
    obtain ⟨v20, h21, hm⟩ := qD hm
    refine q_vu [qc 2 [51, 52] 4 (CB (a1.defects.getD x17.toNat default) v14 v20 h21)] 4 [] [(54, vb (!v20))] [] [] ?_
    refine q_cn (!v20) (fun b22 => ?_) (fun b22 => ?_)
    ·replace hm := qB b22 hm
     refine q_ex 1 ?_
     exact q_J (x16) hm
    ·replace hm := qA b22 hm
     refine q_sk ?_
     refine q_sq ?_
     refine q_sq ?_
     refine q_vu [] 4 [12, 54] [(57, vb (((a1.defects.getD x17.toNat default).Kind) == 3))] [3] [] ?_
     refine q_cn (((a1.defects.getD x17.toNat default).Kind) == 3) (fun b23 => ?_) (fun b23 => ?_)
     ·replace hm := qB b23 hm
      refine q_sq ?_
      refine q_vn [] 4 ⟨[(6, vi 0), (7, vb false)], []⟩ ?_
      obtain rfl := Option.some.inj hm
      refine q_rt ?_
      refine qU (0, false) ?_
      exact q_rm
     ·replace hm := qA b23 hm
      refine q_sk ?_
      refine q_vu [] 4 [8, 57] [(8, vi (w64 (x16 - a3)))] [] [] ?_
      exact q_J (w64 (x16 - a3)) hm
  ·replace hm := qA b18 hm
   refine q_ex 0 ?_
   obtain rfl := Option.some.inj hm
   exact wF x16 (by kernel_rfl) (by kernel_rfl)
theorem worth_view_worth_ok (a1 : Worth_view) (a2 : Span) (a3 : Int) (r : Int × Bool) (hm : ZJ a1 a2 a3 = some r) : CtX Tryz.prog globs 91 0 0 [.agg (VK a1), .agg (e_Span a2), .one (ci a3)] [] (XX r) (yS r) := by
 unfold ZJ at hm
 refine q_E Tryz.f91 64 fun E => ?_
 refine q_sq ?_
 refine q_vn [] 0 ⟨[(2, vi a3), (3, vp 0 0), (4, vp 1 0)], [(0, bx 131 (VK a1)), (1, bx 26 (e_Span a2))]⟩ ?_
 refine q_sq ?_
 refine q_sq ?_
 obtain ⟨v4, h5, hm⟩ := qD hm
 refine q_vu [qc 3 [13, 15] 2 (qFG a2 a1.length v4 h5)] 2 [] [(17, vb (!v4))] [] [] ?_
 refine q_cn (!v4) (fun b6 => ?_) (fun b6 => ?_)
 ·replace hm := qB b6 hm
  refine q_sq ?_
  refine q_vn [] 2 ⟨[(6, vi 0), (7, vb false)], []⟩ ?_
  obtain rfl := Option.some.inj hm
  refine q_rt ?_
  exact q_rm
 ·replace hm := qA b6 hm
  refine q_sk ?_
  refine q_sq ?_
  obtain ⟨v7, h8, hm⟩ := qD hm
  refine q_vu [qc 7 [20, 25] 2 (qGi a1.product (w64 (a2.B - a2.A)) v7 h8)] 2 [17] [(8, vi v7.1), (9, vb v7.2)] [] [] ?_
  refine q_sq ?_
  refine q_jn (ι := Bool) (fun p => LT a1 a2 a3 v7 p) (fun p => YL a1 a2 a3 v7 p = some r) ?_ ?_
  ·rintro x12 hm
   show H _ (LT a1 a2 a3 v7 x12) _ _
   refine q_cn x12 (fun b13 => ?_) (fun b13 => ?_)
   ·replace hm := qB b13 hm
    refine q_sq ?_
    refine q_vn [] 2 ⟨[(6, vi 0), (7, vb false)], []⟩ ?_
    obtain rfl := Option.some.inj hm
    refine q_rt ?_
    exact q_rm
   ·replace hm := qA b13 hm
    refine q_sk ?_
    refine q_sq ?_
    obtain ⟨v14, h15, hm⟩ := qD hm
    refine q_vu [qc 2 [41, 42] 2 (OP a1 a2 v14 h15)] 2 [4, 40] [(10, vp 2 0)] [1] [(2, bx 108 (zC v14))] ?_
    refine q_sq ?_
    refine q_sq ?_
    refine q_vu [] 3 [3] [(45, vc (tl qH default a1.defects)), (46, vi ((a1.defects.length : Nat) : Int)), (47, vi 0)] [0] [] ?_
    obtain ⟨u28, h27, hm⟩ := qD hm
    refine zI (nd Tryz.f91 1012) 0 (by kernel_rfl) FUEL (fun o => LS o) (fun v st => RetQ Tryz.prog Tryz.f91 (XX v) (yS v) .ret st) u28 (q_hl (PO a1 a3 v14 v7.1 0) (qCL E a1 a3 v14 FUEL v7.1 0 u28 h27)) ?_ ?_
    ·rintro v29 rfl st hr
     obtain rfl := Option.some.inj hm
     exact hr
    ·rintro o26 rfl
     replace hm : _ = some r := hm
     refine q_sq ?_
     refine q_vn [] 3 ⟨[(6, vi (imax o26 0)), (7, vb true)], []⟩ ?_
     obtain rfl := Option.some.inj hm
     refine q_rt ?_
     exact q_rm
  ·rcases Bool.eq_false_or_eq_true (!v7.2) with b9 | b9
   ·replace hm := qB b9 hm
    refine q_du [qf 2 b9] [0, 1, 3, 7, 15, 7, 63, 7, 135, 391, 1023, 2047] 2 [9] [(40, vb true)] [] [] ?_
    exact q_J (true) hm
   ·replace hm := qA b9 hm
    obtain ⟨v10, h11, hm⟩ := qD hm
    refine q_du [qf 2 b9, qk 6 [31, 33, 34] 2 ⟨[(31, vb false), (33, vc (tl qN default a1.zones)), (34, va (e_Span a2))], []⟩ (qI4 a1.zones a2 v10 h11)] [0, 1, 3, 7, 15, 7, 63, 7, 135, 391, 1023, 2047] 2 [9] [(40, vb (decide (v10 > a1.product.Wane)))] [] [] ?_
    exact q_J (decide (v10 > a1.product.Wane)) hm
open Go.Proofs
set_option maxHeartbeats 4000000
set_option maxRecDepth 100000
def qIP (r : Int) : V := vi r
def qIz (r : Int) : List (Nat × (Nat × O)) := []
theorem qBH (a1 : Int) (a2 : Int) (r : Int) (hm : VZ a1 a2 = some r) : CtX Tryz.prog globs 55 0 0 [.one (ci a1), .one (ci a2)] [] (qIP r) (qIz r) := by
 unfold VZ at hm
 refine q_E Tryz.f55 11 fun E => ?_
 refine q_sq ?_
 refine q_vn [] 0 ⟨[(0, vi a1), (1, vi a2)], []⟩ ?_
 refine q_sq ?_
 refine q_vn [qd 5 (Dir.none) (show (1000 : Int) ≠ 0 by decide)] 0 ⟨[(4, vi (w64 (Int.tdiv (w64 ((w64 (a1 * (w64 (1000 + a2)))) + 999)) 1000)))], []⟩ ?_
 obtain rfl := Option.some.inj hm
 refine q_rt ?_
 exact q_rm
def qGA (r : Bool) : V := vb r
def qG0 (r : Bool) : List (Nat × (Nat × O)) := []
def SG (x3 : Bool) : St :=
 ⟨[(2, vb x3)], []⟩
theorem yB (a1 : Int) (r : Bool) (hm : JQ a1 = some r) : CtX Tryz.prog globs 54 0 0 [.one (ci a1)] [] (qGA r) (qG0 r) := by
 unfold JQ at hm
 refine q_E Tryz.f54 9 fun E => ?_
 refine q_sq ?_
 refine q_vn [] 0 ⟨[(0, vi a1)], []⟩ ?_
 refine q_jn (ι := Bool) (fun p => SG p) (fun p => KK p = some r) ?_ ?_
 ·rintro x3 hm
  show H _ (SG x3) _ _
  obtain rfl := Option.some.inj hm
  refine q_rt ?_
  exact q_rm
 ·rcases Bool.eq_false_or_eq_true (decide (a1 ≥ 1)) with b2 | b2
  ·replace hm := qB b2 hm
   refine q_vn [qf 2 b2] 0 ⟨[(2, vb (decide (a1 ≤ 600)))], []⟩ ?_
   exact q_J (decide (a1 ≤ 600)) hm
  ·replace hm := qA b2 hm
   refine q_vn [qf 2 b2] 0 ⟨[(2, vb false)], []⟩ ?_
   exact q_J (false) hm
set_option maxRecDepth 100000
def qHM (r : Int × Int) : V := .tup [.one (ci r.1), .one (ci r.2)]
def qHd (r : Int × Int) : List (Nat × (Nat × O)) := []
def AE (a1 : qC) (x9 : Bool) : St :=
 ⟨[(1, vp 0 0), (23, vb x9)], [(0, bx 58 (qE a1))]⟩
theorem zaQ (a1 : qC) (r : Int × Int) (hm : JC a1 = some r) : CtX Tryz.prog globs 30 0 0 [.agg (qE a1)] [] (qHM r) (qHd r) := by
 unfold JC at hm
 refine q_E Tryz.f30 34 fun E => ?_
 refine q_sq ?_
 refine q_vn [] 0 ⟨[(1, vp 0 0)], [(0, bx 58 (qE a1))]⟩ ?_
 refine q_sq ?_
 refine q_jn (ι := Bool) (fun p => AE a1 p) (fun p => ZV a1 p = some r) ?_ ?_
 ·rintro x9 hm
  show H _ (AE a1 x9) _ _
  refine q_cn x9 (fun b10 => ?_) (fun b10 => ?_)
  ·replace hm := qB b10 hm
   refine q_sq ?_
   refine q_vn [] 1 ⟨[(2, vi 0), (3, vi 0)], []⟩ ?_
   obtain rfl := Option.some.inj hm
   refine q_rt ?_
   exact q_rm
  ·replace hm := qA b10 hm
   refine q_sk ?_
   refine q_sq ?_
   obtain ⟨v11, h12, hm⟩ := qD hm
   obtain ⟨v13, h14, hm⟩ := qD hm
   refine q_dn [qc 4 [25, 27] 1 (qBH a1.Thick a1.Allow v11 h12), qc 9 [30, 32] 1 (qBH a1.Width a1.Allow v13 h14)] [0, 1, 0, 4, 15, 0, 32, 0, 128, 511, 1023, 2047] 1 ⟨[(2, vi v11), (3, vi v13)], []⟩ ?_
   obtain rfl := Option.some.inj hm
   refine q_rt ?_
   exact q_rm
 ·obtain ⟨v2, h3, hm⟩ := qD hm
  rcases Bool.eq_false_or_eq_true (!v2) with b4 | b4
  ·replace hm := qB b4 hm
   refine q_vu [qc 2 [5] 1 (yB a1.Thick v2 h3), qf 4 b4] 1 [] [(23, vb true)] [] [] ?_
   exact q_J (true) hm
  ·replace hm := qA b4 hm
   obtain ⟨v5, h6, hm⟩ := qD hm
   rcases Bool.eq_false_or_eq_true (!v5) with b7 | b7
   ·replace hm := qB b7 hm
    refine q_vu [qc 2 [5] 1 (yB a1.Thick v2 h3), qf 4 b4, qk 7 [8, 10] 1 ⟨[(8, vb false), (10, vi a1.Width)], []⟩ (yB a1.Width v5 h6), qf 10 b7] 1 [] [(23, vb true)] [] [] ?_
    exact q_J (true) hm
   ·replace hm := qA b7 hm
    rcases Bool.eq_false_or_eq_true (decide (a1.Allow < 0)) with b8 | b8
    ·replace hm := qB b8 hm
     refine q_vu [qc 2 [5] 1 (yB a1.Thick v2 h3), qf 4 b4, qk 7 [8, 10] 1 ⟨[(8, vb false), (10, vi a1.Width)], []⟩ (yB a1.Width v5 h6), qf 10 b7, qf 15 b8] 1 [] [(23, vb true)] [] [] ?_
     exact q_J (true) hm
    ·replace hm := qA b8 hm
     refine q_vu [qc 2 [5] 1 (yB a1.Thick v2 h3), qf 4 b4, qk 7 [8, 10] 1 ⟨[(8, vb false), (10, vi a1.Width)], []⟩ (yB a1.Width v5 h6), qf 10 b7, qf 15 b8] 1 [] [(23, vb (decide (a1.Allow > 200)))] [] [] ?_
     exact q_J (decide (a1.Allow > 200)) hm
open Go.Proofs
set_option maxHeartbeats 4000000
set_option maxRecDepth 100000
def qFD (r : Bool) : V := vb r
def qFR (r : Bool) : List (Nat × (Nat × O)) := []
def MQ (x3 : Bool) : St :=
 ⟨[(2, vb x3)], []⟩
theorem qE6 (a1 : Span) (r : Bool) (hm : XS a1 = some r) : CtX Tryz.prog globs 109 0 0 [.agg (e_Span a1)] [] (qFD r) (qFR r) := by
 unfold XS at hm
 refine q_E Tryz.f109 17 fun E => ?_
 refine q_sq ?_
 refine q_vn [] 0 ⟨[(1, vp 0 0)], [(0, bx 26 (e_Span a1))]⟩ ?_
 refine q_jn (ι := Bool) (fun p => MQ p) (fun p => XZ p = some r) ?_ ?_
 ·rintro x3 hm
  show H _ (MQ x3) _ _
  obtain rfl := Option.some.inj hm
  refine q_rt ?_
  exact q_rm
 ·rcases Bool.eq_false_or_eq_true (decide ((imin a1.A a1.B) ≥ (-600))) with b2 | b2
  ·replace hm := qB b2 hm
   refine q_vn [qf 6 b2] 1 ⟨[(2, vb (decide ((imax a1.A a1.B) ≤ 600)))], []⟩ ?_
   exact q_J (decide ((imax a1.A a1.B) ≤ 600)) hm
  ·replace hm := qA b2 hm
   refine q_vn [qf 6 b2] 1 ⟨[(2, vb false)], []⟩ ?_
   exact q_J (false) hm
def qFt (r : Bool) : V := vb r
def qFH (r : Bool) : List (Nat × (Nat × O)) := []
theorem WE (a1 : Span) (r : Bool) (hm : WL a1 = some r) : CtX Tryz.prog globs 110 0 0 [.agg (e_Span a1)] [] (qFt r) (qFH r) := by
 unfold WL at hm
 refine q_E Tryz.f110 8 fun E => ?_
 refine q_sq ?_
 refine q_vn [] 0 ⟨[(1, vp 0 0)], [(0, bx 26 (e_Span a1))]⟩ ?_
 refine q_sq ?_
 refine q_vn [] 1 ⟨[(2, vb (decide (a1.A ≥ a1.B)))], []⟩ ?_
 obtain rfl := Option.some.inj hm
 refine q_rt ?_
 exact q_rm
end Saw
end Go.SL
