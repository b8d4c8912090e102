import Derived.Test.YtgpgnlllieekbaaGreatDoorEBase
import Derived.Test.YtgpgnlllieekbaaGreatDoorEFa10
set_option linter.unusedVariables false
set_option linter.unusedSimpArgs false
namespace Go.SL
namespace Saw
open Go.Proofs
set_option maxHeartbeats 4000000
set_option maxRecDepth 100000
def TG (r : Int) : V := vi r
def TK (r : Int) : List (Nat × (Nat × O)) := []
def qAH (a1 : Line) (x10 : Int) (x14 : Bool) : St :=
 ⟨[(1, vp 0 0), (3, vi x10), (59, vb x14)], [(0, bx 40 (qS a1))]⟩
def FQ (a1 : Line) (x10 : Int) : St :=
 ⟨[(1, vp 0 0), (3, vi x10)], [(0, bx 40 (qS a1))]⟩
def qAX (a1 : Line) : St :=
 ⟨[(1, vp 0 0)], [(0, bx 40 (qS a1))]⟩
def FL (a1 : Line) (x24 : Int) : St :=
 ⟨[(1, vp 0 0), (4, vi x24)], [(0, bx 40 (qS a1))]⟩
def qAu (a1 : Line) : St :=
 ⟨[(1, vp 0 0)], [(0, bx 40 (qS a1))]⟩
def qBz (a1 : Line) (x40 : Int) (x46 : Bool) : St :=
 ⟨[(1, vp 0 0), (5, vb x46), (6, vi x40)], [(0, bx 40 (qS a1))]⟩
def LB (a1 : Line) (x39 : Bool) (x40 : Int) : St :=
 ⟨[(1, vp 0 0), (5, vb x39), (6, vi x40)], [(0, bx 40 (qS a1))]⟩
def qBf (x47 : Bool) : St :=
 ⟨[(5, vb x47)], []⟩
def qAx (a1 : Line) (x38 : Bool) : St :=
 ⟨[(1, vp 0 0), (5, vb x38)], [(0, bx 40 (qS a1))]⟩
def qBm (a1 : Line) (x22 : Bool) : St :=
 ⟨[(1, vp 0 0), (82, vb x22)], [(0, bx 40 (qS a1))]⟩
def qBt (a1 : Line) (x7 : Bool) : St :=
 ⟨[(1, vp 0 0), (34, vb x7)], [(0, bx 40 (qS a1))]⟩
theorem qFv (E : Env 0) (a1 : Line) : ∀ (n : Nat) (x10 : Int) (res : Int ⊕ Unit), yY a1 n x10 = some res → HL (kx E 133 0) (nd Tryz.f46 244) (wC 0 (fun o => qAX a1) (fun v st => RetQ Tryz.prog Tryz.f46 (TG v) (TK v) .ret st) res) n (FQ a1 x10) := by
 intro n
 induction n with
 | zero =>
  intro x10 res hm
  cases hm
 | succ n ih =>
  intro x10 res hm
  refine qO ?_
  refine q_sq ?_
  refine q_sq ?_
  refine q_vu [] 1 [] [(43, vb (decide (x10 < ((a1.Sizes.length : Nat) : Int))))] [] [] ?_
  refine q_cn (decide (x10 < ((a1.Sizes.length : Nat) : Int))) (fun b11 => ?_) (fun b11 => ?_)
  ·replace hm := qB b11 hm
   refine q_sk ?_
   refine q_sq ?_
   refine q_bk 1 ?_
   refine q_jn (ι := Bool) (fun p => qAH a1 x10 p) (fun p => DP x10 (yY a1 n) p = some res) ?_ ?_
   ·rintro x14 hm
    show H _ (qAH a1 x10 x14) _ _
    refine q_cn x14 (fun b15 => ?_) (fun b15 => ?_)
    ·replace hm := qB b15 hm
     refine q_sq ?_
     refine q_vn [] 1 ⟨[(2, vi 9)], []⟩ ?_
     obtain rfl := Option.some.inj hm
     refine q_rt ?_
     refine qU 9 ?_
     exact q_rm
    ·replace hm := qA b15 hm
     refine q_sk ?_
     refine q_vu [] 1 [3, 59] [(3, vi (w64 (x10 + 1)))] [] [] ?_
     exact q_hl (FQ a1 (w64 (x10 + 1))) (ih (w64 (x10 + 1)) _ hm)
   ·obtain ⟨g12, hm⟩ := qI hm
    rcases Bool.eq_false_or_eq_true (decide ((a1.Sizes.getD x10.toNat default) < 1)) with b13 | b13
    ·replace hm := qB b13 hm
     refine q_vu [qd 3 (Dir.none) (inb_of g12), qf 6 b13] 1 [43] [(59, vb true)] [] [] ?_
     exact q_J (true) hm
    ·replace hm := qA b13 hm
     refine q_vu [qd 3 (Dir.none) (inb_of g12), qf 6 b13, qd 10 (Dir.none) (inb_of g12)] 1 [43] [(53, vp 0 3), (54, vc (tl e_i64 default a1.Sizes)), (55, vi x10), (56, vc (.lptr (e_i64 (a1.Sizes.getD x10.toNat default)))), (57, vi (a1.Sizes.getD x10.toNat default)), (58, vb (decide ((a1.Sizes.getD x10.toNat default) > 2000))), (59, vb (decide ((a1.Sizes.getD x10.toNat default) > 2000)))] [] [] ?_
     exact q_J (decide ((a1.Sizes.getD x10.toNat default) > 2000)) hm
  ·replace hm := qA b11 hm
   refine q_ex 0 ?_
   obtain rfl := Option.some.inj hm
   exact wF () (by kernel_rfl) (by kernel_rfl)
theorem qFO (E : Env 0) (a1 : Line) : ∀ (n : Nat) (x24 : Int) (res : Int ⊕ Unit), JP a1 n x24 = some res → HL (kx E 133 0) (nd Tryz.f46 1012) (wC 2 (fun o => qAu a1) (fun v st => RetQ Tryz.prog Tryz.f46 (TG v) (TK v) .ret st) res) n (FL a1 x24) := by
 intro n
 induction n with
 | zero =>
  intro x24 res hm
  cases hm
 | succ n ih =>
  intro x24 res hm
  refine qO ?_
  refine q_sq ?_
  refine q_sq ?_
  refine q_vu [] 1 [] [(87, vb (decide (x24 < ((a1.Gain.length : Nat) : Int))))] [] [] ?_
  refine q_cn (decide (x24 < ((a1.Gain.length : Nat) : Int))) (fun b25 => ?_) (fun b25 => ?_)
  ·replace hm := qB b25 hm
   refine q_sk ?_
   refine q_sq ?_
   refine q_bk 3 ?_
   refine q_sq ?_
   obtain ⟨g26, hm⟩ := qI hm
   obtain ⟨g27, hm⟩ := qI hm
   refine q_du [qd 3 (Dir.none) (inb_of g26), qd 11 (Dir.none) (inb_of g27)] [0, 1, 0, 7, 15, 31, 0, 64, 0, 256, 0, 1792, 3840, 8128, 16320, 32704, 65535] 1 [87] [(106, vb ((((a1.Gain.getD x24.toNat default).length : Nat) : Int) != (imax 0 (w64 ((w64 (a1.Len - (a1.Sizes.getD x24.toNat default))) + 1)))))] [] [] ?_
   refine q_cn ((((a1.Gain.getD x24.toNat default).length : Nat) : Int) != (imax 0 (w64 ((w64 (a1.Len - (a1.Sizes.getD x24.toNat default))) + 1)))) (fun b28 => ?_) (fun b28 => ?_)
   ·replace hm := qB b28 hm
    refine q_sq ?_
    refine q_vn [] 1 ⟨[(2, vi 19)], []⟩ ?_
    obtain rfl := Option.some.inj hm
    refine q_rt ?_
    refine qU 19 ?_
    exact q_rm
   ·replace hm := qA b28 hm
    refine q_sk ?_
    refine q_vu [] 1 [4, 106] [(4, vi (w64 (x24 + 1)))] [] [] ?_
    exact q_hl (FL a1 (w64 (x24 + 1))) (ih (w64 (x24 + 1)) _ hm)
  ·replace hm := qA b25 hm
   refine q_ex 2 ?_
   obtain rfl := Option.some.inj hm
   exact wF () (by kernel_rfl) (by kernel_rfl)
theorem qFN (E : Env 0) (a1 : Line) : ∀ (n : Nat) (x39 : Bool) (x40 : Int) (res : Bool), yT a1 n x39 x40 = some res → HL (kx E 133 0) (nd Tryz.f46 4084) (zN 4 (fun o => qBf o) res) n (LB a1 x39 x40) := by
 intro n
 induction n with
 | zero =>
  intro x39 x40 res hm
  cases hm
 | succ n ih =>
  intro x39 x40 res hm
  refine qO ?_
  refine q_sq ?_
  refine q_sq ?_
  refine q_vu [] 1 [] [(119, vb (decide (x40 < ((a1.Gain.length : Nat) : Int))))] [] [] ?_
  refine q_cn (decide (x40 < ((a1.Gain.length : Nat) : Int))) (fun b41 => ?_) (fun b41 => ?_)
  ·replace hm := qB b41 hm
   refine q_sk ?_
   refine q_jn (ι := Bool) (fun p => qBz a1 x40 p) (fun p => DN x40 (yT a1 n) p = some res) ?_ ?_
   ·rintro x46 hm
    show H _ (qBz a1 x40 x46) _ _
    refine q_vu [] 1 [6] [(6, vi (w64 (x40 + 1)))] [] [] ?_
    exact q_hl (LB a1 x46 (w64 (x40 + 1))) (ih x46 (w64 (x40 + 1)) _ hm)
   ·refine q_bk 5 ?_
    rcases Bool.eq_false_or_eq_true x39 with b42 | b42
    ·replace hm := qB b42 hm
     obtain ⟨g43, hm⟩ := qI hm
     obtain ⟨v44, h45, hm⟩ := qD hm
     refine q_vu [qf 1 b42, qd 5 (Dir.none) (inb_of g43), qk 7 [123, 128] 1 ⟨[(123, vb true), (128, vc (tl e_i64 default (a1.Gain.getD x40.toNat default)))], []⟩ (DS (a1.Gain.getD x40.toNat default) v44 h45)] 1 [5, 119] [(5, vb v44), (124, vp 0 4), (125, vc (tl (qL e_i64) default a1.Gain)), (126, vi x40), (127, vc (.lptr ((qL e_i64) (a1.Gain.getD x40.toNat default)))), (128, vc (tl e_i64 default (a1.Gain.getD x40.toNat default))), (129, vb v44)] [] [] ?_
     exact q_J (v44) hm
    ·replace hm := qA b42 hm
     refine q_vu [qf 1 b42] 1 [5, 119] [(5, vb false)] [] [] ?_
     exact q_J (false) hm
  ·replace hm := qA b41 hm
   refine q_ex 4 ?_
   obtain rfl := Option.some.inj hm
   exact zX (by kernel_rfl) (by kernel_rfl)
theorem qJs (a1 : Line) (r : Int) (hm : BR a1 = some r) : CtX Tryz.prog globs 46 0 0 [.agg (qS a1)] [] (TG r) (TK r) := by
 unfold BR at hm
 refine q_E Tryz.f46 133 fun E => ?_
 refine q_sq ?_
 refine q_vn [] 0 ⟨[(1, vp 0 0)], [(0, bx 40 (qS a1))]⟩ ?_
 refine q_sq ?_
 refine q_jn (ι := Bool) (fun p => qBt a1 p) (fun p => yR a1 p = some r) ?_ ?_
 ·rintro x7 hm
  show H _ (qBt a1 x7) _ _
  refine q_cn x7 (fun b8 => ?_) (fun b8 => ?_)
  ·replace hm := qB b8 hm
   refine q_sq ?_
   refine q_vn [] 1 ⟨[(2, vi 9)], []⟩ ?_
   obtain rfl := Option.some.inj hm
   refine q_rt ?_
   exact q_rm
  ·replace hm := qA b8 hm
   refine q_sk ?_
   refine q_sq ?_
   refine q_sq ?_
   refine q_vu [] 1 [34] [(38, vb (decide (((a1.Sizes.length : Nat) : Int) > 32)))] [] [] ?_
   refine q_cn (decide (((a1.Sizes.length : Nat) : Int) > 32)) (fun b9 => ?_) (fun b9 => ?_)
   ·replace hm := qB b9 hm
    refine q_sq ?_
    refine q_vn [] 1 ⟨[(2, vi 4)], []⟩ ?_
    obtain rfl := Option.some.inj hm
    refine q_rt ?_
    exact q_rm
   ·replace hm := qA b9 hm
    refine q_sk ?_
    refine q_sq ?_
    refine q_sq ?_
    refine q_vu [] 1 [38] [(3, vi 0)] [] [] ?_
    obtain ⟨u18, h17, hm⟩ := qD hm
    refine zI (nd Tryz.f46 244) 0 (by kernel_rfl) FUEL (fun o => qAX a1) (fun v st => RetQ Tryz.prog Tryz.f46 (TG v) (TK v) .ret st) u18 (q_hl (FQ a1 0) (qFv E a1 FUEL 0 u18 h17)) ?_ ?_
    ·rintro v19 rfl st hr
     obtain rfl := Option.some.inj hm
     exact hr
    ·rintro o16 rfl
     replace hm : _ = some r := hm
     refine q_sq ?_
     refine q_jn (ι := Bool) (fun p => qBm a1 p) (fun p => PC a1 p = some r) ?_ ?_
     ·rintro x22 hm
      show H _ (qBm a1 x22) _ _
      refine q_cn x22 (fun b23 => ?_) (fun b23 => ?_)
      ·replace hm := qB b23 hm
       refine q_sq ?_
       refine q_vn [] 1 ⟨[(2, vi 19)], []⟩ ?_
       obtain rfl := Option.some.inj hm
       refine q_rt ?_
       exact q_rm
      ·replace hm := qA b23 hm
       refine q_sk ?_
       refine q_sq ?_
       refine q_sq ?_
       refine q_vu [] 1 [82] [(4, vi 0)] [] [] ?_
       obtain ⟨u31, h30, hm⟩ := qD hm
       refine zI (nd Tryz.f46 1012) 2 (by kernel_rfl) FUEL (fun o => qAu a1) (fun v st => RetQ Tryz.prog Tryz.f46 (TG v) (TK v) .ret st) u31 (q_hl (FL a1 0) (qFO E a1 FUEL 0 u31 h30)) ?_ ?_
       ·rintro v32 rfl st hr
        obtain rfl := Option.some.inj hm
        exact hr
       ·rintro o29 rfl
        replace hm : _ = some r := hm
        refine q_jn (ι := Bool) (fun p => qAx a1 p) (fun p => DB a1 p = some r) ?_ ?_
        ·rintro x38 hm
         show H _ (qAx a1 x38) _ _
         refine q_sq ?_
         refine q_sq ?_
         refine q_vu [] 1 [] [(6, vi 0)] [] [] ?_
         obtain ⟨o48, h49, hm⟩ := qD hm
         refine zF (nd Tryz.f46 4084) 4 (by kernel_rfl) FUEL (fun o => qBf o) o48 (q_hl (LB a1 x38 0) (qFN E a1 FUEL x38 0 o48 h49)) ?_
         refine q_sq ?_
         refine q_sq ?_
         refine q_vn [] 1 ⟨[(132, vb (!o48))], []⟩ ?_
         refine q_cn (!o48) (fun b50 => ?_) (fun b50 => ?_)
         ·replace hm := qB b50 hm
          refine q_sq ?_
          refine q_vn [] 1 ⟨[(2, vi 9)], []⟩ ?_
          obtain rfl := Option.some.inj hm
          refine q_rt ?_
          exact q_rm
         ·replace hm := qA b50 hm
          refine q_sk ?_
          refine q_sq ?_
          refine q_vn [] 1 ⟨[(2, vi 0)], []⟩ ?_
          obtain rfl := Option.some.inj hm
          refine q_rt ?_
          exact q_rm
        ·obtain ⟨v33, h34, hm⟩ := qD hm
         rcases Bool.eq_false_or_eq_true v33 with b35 | b35
         ·replace hm := qB b35 hm
          obtain ⟨v36, h37, hm⟩ := qD hm
          refine q_vu [qc 2 [108] 1 (DS a1.Chip v33 h34), qf 3 b35, qk 6 [110, 112] 1 ⟨[(110, vb true), (112, vc (tl e_i64 default a1.Dust))], []⟩ (DS a1.Dust v36 h37)] 1 [] [(5, vb v36)] [] [] ?_
          exact q_J (v36) hm
         ·replace hm := qA b35 hm
          refine q_vu [qc 2 [108] 1 (DS a1.Chip v33 h34), qf 3 b35] 1 [] [(5, vb false)] [] [] ?_
          exact q_J (false) hm
     ·rcases Bool.eq_false_or_eq_true (((a1.Gain.length : Nat) : Int) != ((a1.Sizes.length : Nat) : Int)) with b20 | b20
      ·replace hm := qB b20 hm
       refine q_vu [qf 7 b20] 1 [] [(82, vb true)] [] [] ?_
       exact q_J (true) hm
      ·replace hm := qA b20 hm
       rcases Bool.eq_false_or_eq_true (((a1.Chip.length : Nat) : Int) != a1.Len) with b21 | b21
       ·replace hm := qB b21 hm
        refine q_vu [qf 7 b20, qf 15 b21] 1 [] [(82, vb true)] [] [] ?_
        exact q_J (true) hm
       ·replace hm := qA b21 hm
        refine q_vu [qf 7 b20, qf 15 b21] 1 [] [(82, vb (((a1.Dust.length : Nat) : Int) != a1.Len))] [] [] ?_
        exact q_J (((a1.Dust.length : Nat) : Int) != a1.Len) hm
 ·rcases Bool.eq_false_or_eq_true (decide (a1.Len < 0)) with b2 | b2
  ·replace hm := qB b2 hm
   refine q_vu [qf 3 b2] 1 [] [(34, vb true)] [] [] ?_
   exact q_J (true) hm
  ·replace hm := qA b2 hm
   rcases Bool.eq_false_or_eq_true (decide (a1.Len > 2000)) with b3 | b3
   ·replace hm := qB b3 hm
    refine q_vu [qf 3 b2, qf 8 b3] 1 [] [(34, vb true)] [] [] ?_
    exact q_J (true) hm
   ·replace hm := qA b3 hm
    rcases Bool.eq_false_or_eq_true (decide (a1.Kerf < 0)) with b4 | b4
    ·replace hm := qB b4 hm
     refine q_vu [qf 3 b2, qf 8 b3, qf 13 b4] 1 [] [(34, vb true)] [] [] ?_
     exact q_J (true) hm
    ·replace hm := qA b4 hm
     rcases Bool.eq_false_or_eq_true (decide (a1.Kerf > 20)) with b5 | b5
     ·replace hm := qB b5 hm
      refine q_vu [qf 3 b2, qf 8 b3, qf 13 b4, qf 18 b5] 1 [] [(34, vb true)] [] [] ?_
      exact q_J (true) hm
     ·replace hm := qA b5 hm
      rcases Bool.eq_false_or_eq_true (decide (a1.Pitch < 1)) with b6 | b6
      ·replace hm := qB b6 hm
       refine q_vu [qf 3 b2, qf 8 b3, qf 13 b4, qf 18 b5, qf 23 b6] 1 [] [(34, vb true)] [] [] ?_
       exact q_J (true) hm
      ·replace hm := qA b6 hm
       refine q_vu [qf 3 b2, qf 8 b3, qf 13 b4, qf 18 b5, qf 23 b6] 1 [] [(34, vb (decide (a1.Pitch > 2000)))] [] [] ?_
       exact q_J (decide (a1.Pitch > 2000)) hm
def qIG (r : (List Int)) : V := vo 0 0 1 r.length
def qIC (r : (List Int)) : List (Nat × (Nat × O)) := [(0, ro 0 3 1 r.length (rf e_i64 r))]
def BL (a1 : List Int) (l2 : List Int) (l2n : Nat) (x3 : Int) : St :=
 ⟨[(0, vc (tl e_i64 default a1)), (3, vo 0 0 1 l2n), (4, vi x3)], [(0, ro 0 3 1 l2n (rf e_i64 l2))]⟩
def CP (l8 : List Int) : St :=
 ⟨[(3, vo 0 0 1 l8.length)], [(0, ro 0 3 1 l8.length (rf e_i64 l8))]⟩
theorem qEY (E : Env 0) (a1 : List Int) : ∀ (n : Nat) (l2 : List Int) (l2n : Nat) (x3 : Int) (res : (List Int)), l2.length = l2n → WO a1 n l2 x3 = some res → HL (kx E 25 0) (nd Tryz.f47 116) (zN 0 (fun o => CP o) res) n (BL a1 l2 l2n x3) := by
 intro n
 induction n with
 | zero =>
  intro l2 l2n x3 res hl0 hm
  cases hm
 | succ n ih =>
  intro l2 l2n x3 res hl0 hm
  subst hl0
  refine qO ?_
  refine q_sq ?_
  refine q_sq ?_
  refine q_vu [] 1 [] [(9, vb (decide (x3 < ((a1.length : Nat) : Int))))] [] [] ?_
  refine q_cn (decide (x3 < ((a1.length : Nat) : Int))) (fun b4 => ?_) (fun b4 => ?_)
  ·replace hm := qB b4 hm
   refine q_sk ?_
   refine q_sq ?_
   refine q_bk 1 ?_
   obtain ⟨g5, hm⟩ := qI hm
   obtain ⟨g6, hm⟩ := qI hm
   obtain ⟨g7, hm⟩ := qI hm
   refine q_du [qd 3 (Dir.none) (inb_of g5), qd 4 (Dir.none) (toNat_lt (inb_of g5)), qd 7 (Dir.none) (inb_of g6), qd 10 (drw 1 0 (rf e_i64 ([w64 ((l2.getD x3.toNat default) + (a1.getD x3.toNat default))] : List Int))) (litP e_i64 default 1 (fun _ => rfl) ([w64 ((l2.getD x3.toNat default) + (a1.getD x3.toNat default))] : List Int) 1 rfl), qd 11 (drw 0 1 (rf e_i64 (l2 ++ ([w64 ((l2.getD x3.toNat default) + (a1.getD x3.toNat default))] : List Int)))) (apP e_i64 default l2 ([w64 ((l2.getD x3.toNat default) + (a1.getD x3.toNat default))] : List Int) l2.length 1 1 8 (1 ≤ 1) (Nat.le_refl _) rfl rfl (fun _ => rfl) (zS g7))] [0, 0, 0, 6, 14, 0, 0, 96, 224, 510, 1022, 2047, 4095] 1 [3, 9] [(3, vo 0 1 1 (l2.length + 1))] [0] [(0, ro 1 3 1 (l2.length + 1) (rf e_i64 (l2 ++ ([w64 ((l2.getD x3.toNat default) + (a1.getD x3.toNat default))] : List Int))))] ?_
   refine q_vu [] 2 [4] [(4, vi (w64 (x3 + 1)))] [] [] ?_
   exact q_hl (BL a1 (l2 ++ ([w64 ((l2.getD x3.toNat default) + (a1.getD x3.toNat default))] : List Int)) (l2.length + 1) (w64 (x3 + 1))) (ih (l2 ++ ([w64 ((l2.getD x3.toNat default) + (a1.getD x3.toNat default))] : List Int)) (l2.length + 1) (w64 (x3 + 1)) _ (len_app rfl rfl) hm)
  ·replace hm := qA b4 hm
   refine q_ex 0 ?_
   obtain rfl := Option.some.inj hm
   exact zX (by kernel_rfl) (by kernel_rfl)
theorem qBS (a1 : List Int) (r : (List Int)) (hm : KZ a1 = some r) : CtX Tryz.prog globs 47 0 0 [.one (tl e_i64 default a1)] [] (qIG r) (qIC r) := by
 unfold KZ at hm
 refine q_E Tryz.f47 25 fun E => ?_
 refine q_sq ?_
 refine q_vn [] 0 ⟨[(0, vc (tl e_i64 default a1))], []⟩ ?_
 refine q_sq ?_
 refine q_vu [qd 0 (drw 0 0 (rf e_i64 ([0] : List Int))) (litP e_i64 default 1 (fun _ => rfl) ([0] : List Int) 1 rfl)] 0 [] [(3, vo 0 0 1 1)] [] [(0, ro 0 3 1 1 (rf e_i64 ([0] : List Int)))] ?_
 refine q_sq ?_
 refine q_sq ?_
 refine q_vu [] 1 [] [(4, vi 0)] [] [] ?_
 obtain ⟨o9, h10, hm⟩ := qD hm
 refine zF (nd Tryz.f47 116) 0 (by kernel_rfl) FUEL (fun o => CP o) o9 (q_hl (BL a1 ([0] : List Int) 1 0) (qEY E a1 FUEL ([0] : List Int) 1 0 o9 rfl h10)) ?_
 refine q_sq ?_
 refine q_vu [] 1 [3] [(2, vo 0 0 1 o9.length)] [] [] ?_
 obtain rfl := Option.some.inj hm
 refine q_rt ?_
 exact q_rm
set_option maxRecDepth 100000
def qEA (r : (List Piece) × Int × Int) : V := .tup [.one (.own 0 0 2 r.1.length), .one (ci r.2.1), .one (ci r.2.2)]
def LZ (r : (List Piece) × Int × Int) : List (Nat × (Nat × O)) := [(0, ro 0 75 2 r.1.length (rf zD r.1))]
theorem qLP (r : (List Piece) × Int × Int) : WC (LZ r) := by
 intro i k o h
 unfold LZ at h
 rw [look_cons] at h
 split at h
 ·cases h; exact fun _ _ => rfl
 ·cases h
def MW (a1 : Line) (v5 : (List Int)) (v7 : (List Int)) (l10 : List Ref17_step) (l10n : Nat) (x11 : Int) : St :=
 ⟨[(1, vp 0 0), (6, vo 1 0 1 v5.length), (7, vo 2 0 1 v7.length), (8, vo 3 0 3 l10n), (9, vi x11)], [(0, bx 40 (qS a1)), (1, ro 0 3 1 v5.length (rf e_i64 v5)), (2, ro 0 3 1 v7.length (rf e_i64 v7)), (3, ro 0 94 3 l10n (rf e_Ref17_step l10))]⟩
def qBT (a1 : Line) (l16 : List Ref17_step) : St :=
 ⟨[(1, vp 0 0), (8, vo 3 0 3 l16.length)], [(0, bx 40 (qS a1)), (3, ro 0 94 3 l16.length (rf e_Ref17_step l16))]⟩
def MI (a1 : Line) (o17 : (List Ref17_step)) (l19 : List Piece) (l19n : Nat) (x20 : Int) : St :=
 ⟨[(1, vp 0 0), (8, vo 3 0 3 o17.length), (10, vo 4 0 2 l19n), (11, vi x20)], [(0, bx 40 (qS a1)), (3, ro 0 94 3 o17.length (rf e_Ref17_step o17)), (4, ro 0 75 2 l19n (rf zD l19))]⟩
def qBX (o17 : (List Ref17_step)) (l26 : List Piece) : St :=
 ⟨[(8, vo 3 0 3 o17.length), (10, vo 4 0 2 l26.length)], [(3, ro 0 94 3 o17.length (rf e_Ref17_step o17)), (4, ro 0 75 2 l26.length (rf zD l26))]⟩
theorem qGM (E : Env 0) (a1 : Line) (v5 : (List Int)) (v7 : (List Int)) : ∀ (n : Nat) (l10 : List Ref17_step) (l10n : Nat) (x11 : Int) (res : (List Ref17_step)), l10.length = l10n → YS a1 v5 v7 n l10 x11 = some res → HL (kx E 85 0) (nd Tryz.f25 500) (zN 0 (fun o => qBT a1 o) res) n (MW a1 v5 v7 l10 l10n x11) := by
 intro n
 induction n with
 | zero =>
  intro l10 l10n x11 res hl0 hm
  cases hm
 | succ n ih =>
  intro l10 l10n x11 res hl0 hm
  subst hl0
  refine qO ?_
  refine q_sq ?_
  refine q_sq ?_
  refine q_vu [] 4 [] [(32, vb (decide (x11 ≥ 0)))] [] [] ?_
  refine q_cn (decide (x11 ≥ 0)) (fun b12 => ?_) (fun b12 => ?_)
  ·replace hm := qB b12 hm
   refine q_sk ?_
   refine q_sq ?_
   refine q_bk 1 ?_
   obtain ⟨v13, h14, hm⟩ := qD hm
   obtain ⟨g15, hm⟩ := qI hm
   refine q_vu [qd 7 (dex (cen [] [] 4 0 (qEV v13) (HC v13) [37, 38, 39, 40, 41] [1, 2, 3])) (yJ (K := (kx E 85 0)) (b := false) ⟨[(37, va (qS a1)), (38, vi x11), (39, vo 1 0 1 v5.length), (40, vo 2 0 1 v7.length), (41, vo 3 0 3 l10.length)], [(1, ro 0 3 1 v5.length (rf e_i64 v5)), (2, ro 0 3 1 v7.length (rf e_i64 v7)), (3, ro 0 94 3 l10.length (rf e_Ref17_step l10))]⟩ (opAt (rg Tryz.f25 4004) 7) [] [] 4 (o1 (And.intro (Nat.le_refl v5.length) (And.intro (Nat.le_refl v7.length) (Nat.le_refl l10.length)))) rfl (ref17_from_ok a1 x11 v5 v7 l10 v13 h14) (.inr ⟨(by kernel_rfl), qLL v13⟩) (by kernel_rfl)), qd 8 (Dir.none) (inb_of g15), qd 9 (drw 0 0 (rf e_Ref17_step (l10.set x11.toNat v13))) (stP e_Ref17_step default v13 l10 l10.length x11.toNat 0 (e_Ref17_step v13) rfl (toNat_lt (inb_of g15)) rfl)] 4 [32] [] [3] [(3, ro 0 94 3 l10.length (rf e_Ref17_step (l10.set x11.toNat v13)))] ?_
   refine q_vu [] 4 [9] [(9, vi (w64 (x11 - 1)))] [] [] ?_
   exact q_hl (MW a1 v5 v7 (l10.set x11.toNat v13) l10.length (w64 (x11 - 1))) (ih (l10.set x11.toNat v13) l10.length (w64 (x11 - 1)) _ (len_set rfl) hm)
  ·replace hm := qA b12 hm
   refine q_ex 0 ?_
   obtain rfl := Option.some.inj hm
   exact zX (by kernel_rfl) (by kernel_rfl)
theorem qGZ (E : Env 0) (a1 : Line) (o17 : (List Ref17_step)) : ∀ (n : Nat) (l19 : List Piece) (l19n : Nat) (x20 : Int) (res : (List Piece)), l19.length = l19n → TH a1 o17 n l19 x20 = some res → HL (kx E 85 0) (nd Tryz.f25 2040) (zN 2 (fun o => qBX o17 o) res) n (MI a1 o17 l19 l19n x20) := by
 intro n
 induction n with
 | zero =>
  intro l19 l19n x20 res hl0 hm
  cases hm
 | succ n ih =>
  intro l19 l19n x20 res hl0 hm
  subst hl0
  refine qO ?_
  refine q_sq ?_
  refine q_sq ?_
  obtain ⟨g21, hm⟩ := qI hm
  refine q_vu [qd 2 (Dir.none) (inb_of g21), qd 5 (Dir.none) (toNat_lt (inb_of g21))] 5 [] [(50, vb (decide ((((o17.getD x20.toNat default).piece).Size) ≥ 0)))] [] [] ?_
  refine q_cn (decide ((((o17.getD x20.toNat default).piece).Size) ≥ 0)) (fun b22 => ?_) (fun b22 => ?_)
  ·replace hm := qB b22 hm
   refine q_sk ?_
   refine q_bk 3 ?_
   refine q_sq ?_
   refine q_vu [qd 2 (Dir.none) (inb_of g21), qd 4 (Dir.none) (toNat_lt (inb_of g21))] 5 [11, 50] [(12, vp 5 0)] [] [(5, bx 75 [ci (((o17.getD x20.toNat default).piece).Size), ci (((o17.getD x20.toNat default).piece).At)])] ?_
   refine q_sq ?_
   obtain ⟨g23, hm⟩ := qI hm
   refine q_vu [qd 2 (drw 6 0 (rf zD ([(o17.getD x20.toNat default).piece] : List Piece))) (litP zD default 2 (fun _ => rfl) ([(o17.getD x20.toNat default).piece] : List Piece) 1 rfl), qd 3 (drw 4 1 (rf zD (l19 ++ ([(o17.getD x20.toNat default).piece] : List Piece)))) (apP zD default l19 ([(o17.getD x20.toNat default).piece] : List Piece) l19.length 1 2 16 (1 ≤ 1) (Nat.le_refl _) rfl rfl (fun _ => rfl) (zS g23))] 6 [10] [(10, vo 4 1 2 (l19.length + 1))] [4] [(4, ro 1 75 2 (l19.length + 1) (rf zD (l19 ++ ([(o17.getD x20.toNat default).piece] : List Piece))))] ?_
   refine q_sq ?_
   obtain ⟨g24, hm⟩ := qI hm
   refine q_du [qd 6 (Dir.none) (inb_of g24)] [0, 1, 0, 4, 0, 16, 60, 124, 255, 511] 7 [12] [(13, vi (w64 ((((o17.getD x20.toNat default).piece).At) + (a1.Sizes.getD (((o17.getD x20.toNat default).piece).Size).toNat default))))] [5] [] ?_
   refine q_sq ?_
   refine q_sq ?_
   refine q_vu [] 7 [] [(72, vb ((w64 ((((o17.getD x20.toNat default).piece).At) + (a1.Sizes.getD (((o17.getD x20.toNat default).piece).Size).toNat default))) == a1.Len))] [] [] ?_
   refine q_cn ((w64 ((((o17.getD x20.toNat default).piece).At) + (a1.Sizes.getD (((o17.getD x20.toNat default).piece).Size).toNat default))) == a1.Len) (fun b25 => ?_) (fun b25 => ?_)
   ·replace hm := qB b25 hm
    refine q_fn [.len 4 ((l19 ++ ([(o17.getD x20.toNat default).piece] : List Piece)).length)] ⟨[(1, vp 0 0), (8, vo 3 0 3 o17.length), (10, vo 4 1 2 ((l19 ++ ([(o17.getD x20.toNat default).piece] : List Piece)).length)), (13, vi (w64 ((((o17.getD x20.toNat default).piece).At) + (a1.Sizes.getD (((o17.getD x20.toNat default).piece).Size).toNat default)))), (72, vb ((w64 ((((o17.getD x20.toNat default).piece).At) + (a1.Sizes.getD (((o17.getD x20.toNat default).piece).Size).toNat default))) == a1.Len))], [(0, bx 40 (qS a1)), (3, ro 0 94 3 o17.length (rf e_Ref17_step o17)), (4, ro 1 75 2 ((l19 ++ ([(o17.getD x20.toNat default).piece] : List Piece)).length) (rf zD (l19 ++ ([(o17.getD x20.toNat default).piece] : List Piece))))]⟩ (o1 (And.intro (Eq.symm (show (l19 ++ ([(o17.getD x20.toNat default).piece] : List Piece)).length = (l19.length + 1) from (len_app rfl rfl))) (Eq.symm (show (l19 ++ ([(o17.getD x20.toNat default).piece] : List Piece)).length = (l19.length + 1) from (len_app rfl rfl))))) ?_
    refine q_ex 2 ?_
    obtain rfl := Option.some.inj hm
    exact zX (by kernel_rfl) (by kernel_rfl)
   ·replace hm := qA b25 hm
    refine q_sk ?_
    refine q_vu [] 7 [13, 72] [(11, vi (imin (w64 ((w64 ((((o17.getD x20.toNat default).piece).At) + (a1.Sizes.getD (((o17.getD x20.toNat default).piece).Size).toNat default))) + a1.Kerf)) a1.Len))] [] [] ?_
    exact q_hl (MI a1 o17 (l19 ++ ([(o17.getD x20.toNat default).piece] : List Piece)) (l19.length + 1) (imin (w64 ((w64 ((((o17.getD x20.toNat default).piece).At) + (a1.Sizes.getD (((o17.getD x20.toNat default).piece).Size).toNat default))) + a1.Kerf)) a1.Len)) (ih (l19 ++ ([(o17.getD x20.toNat default).piece] : List Piece)) (l19.length + 1) (imin (w64 ((w64 ((((o17.getD x20.toNat default).piece).At) + (a1.Sizes.getD (((o17.getD x20.toNat default).piece).Size).toNat default))) + a1.Kerf)) a1.Len) _ (len_app rfl rfl) hm)
  ·replace hm := qA b22 hm
   refine q_ex 2 ?_
   obtain rfl := Option.some.inj hm
   exact zX (by kernel_rfl) (by kernel_rfl)
theorem ref17_Best_ok (a1 : Line) (r : (List Piece) × Int × Int) (hm : HO a1 = some r) : CtX Tryz.prog globs 25 0 0 [.agg (qS a1)] [] (qEA r) (LZ r) := by
 unfold HO at hm
 refine q_E Tryz.f25 85 fun E => ?_
 refine q_sq ?_
 refine q_vn [] 0 ⟨[(1, vp 0 0)], [(0, bx 40 (qS a1))]⟩ ?_
 refine q_sq ?_
 refine q_sq ?_
 obtain ⟨v2, h3, hm⟩ := qD hm
 refine q_vu [qc 1 [14] 1 (qJs a1 v2 h3)] 1 [] [(5, vi v2)] [] [] ?_
 refine q_sq ?_
 refine q_vu [] 1 [] [(17, vb (v2 != 0))] [] [] ?_
 refine q_cn (v2 != 0) (fun b4 => ?_) (fun b4 => ?_)
 ·replace hm := qB b4 hm
  refine q_sq ?_
  refine q_vn [] 1 ⟨[(2, vc (.emp)), (3, vi 0), (4, vi v2)], []⟩ ?_
  refine q_fn [.own 2 1 75 2 (rf zD ([] : List Piece))] ⟨[(2, vo 1 0 2 0), (3, vi 0), (4, vi v2)], [(1, ro 0 75 2 0 (rf zD ([] : List Piece)))]⟩ o0 ?_
  refine q_fn [.len 1 (([] : List Piece).length)] ⟨[(2, vo 1 0 2 (([] : List Piece).length)), (3, vi 0), (4, vi v2)], [(1, ro 0 75 2 (([] : List Piece).length) (rf zD ([] : List Piece)))]⟩ (o1 (And.intro (show 0 = ([] : List Piece).length from rfl) (show 0 = ([] : List Piece).length from rfl))) ?_
  obtain rfl := Option.some.inj hm
  refine qR 1 0 (by kernel_rfl) ?_
  refine q_rt ?_
  exact q_rm
 ·replace hm := qA b4 hm
  refine q_sk ?_
  refine q_sq ?_
  obtain ⟨v5, h6, hm⟩ := qD hm
  obtain ⟨v7, h8, hm⟩ := qD hm
  refine q_du [qc 2 [20] 1 (qBS a1.Chip v5 h6), qc 5 [23] 2 (qBS a1.Dust v7 h8)] [0, 1, 3, 0, 8, 31, 63, 127] 1 [5, 17] [(6, vo 1 0 1 v5.length), (7, vo 2 0 1 v7.length)] [] [(1, ro 0 3 1 v5.length (rf e_i64 v5)), (2, ro 0 3 1 v7.length (rf e_i64 v7))] ?_
  refine q_sq ?_
  obtain ⟨g9, hm⟩ := qI hm
  refine q_vu [qd 3 (drw 3 0 (rf e_Ref17_step (List.replicate ((w64 (a1.Len + 1)).toNat) (Ref17_step.mk 0 (Piece.mk 0 0))))) (mkP e_Ref17_step default (Ref17_step.mk 0 (Piece.mk 0 0)) (w64 (a1.Len + 1)) 24 [ci 0, ci 0, ci 0] (qDb g9) rfl)] 3 [] [(8, vo 3 0 3 ((w64 (a1.Len + 1)).toNat))] [] [(3, ro 0 94 3 ((w64 (a1.Len + 1)).toNat) (rf e_Ref17_step (List.replicate ((w64 (a1.Len + 1)).toNat) (Ref17_step.mk 0 (Piece.mk 0 0)))))] ?_
  refine q_sq ?_
  refine q_sq ?_
  refine q_vu [] 4 [] [(9, vi a1.Len)] [] [] ?_
  obtain ⟨o17, h18, hm⟩ := qD hm
  refine zF (nd Tryz.f25 500) 0 (by kernel_rfl) FUEL (fun o => qBT a1 o) o17 (q_hl (MW a1 v5 v7 (List.replicate ((w64 (a1.Len + 1)).toNat) (Ref17_step.mk 0 (Piece.mk 0 0))) ((w64 (a1.Len + 1)).toNat) a1.Len) (qGM E a1 v5 v7 FUEL (List.replicate ((w64 (a1.Len + 1)).toNat) (Ref17_step.mk 0 (Piece.mk 0 0))) ((w64 (a1.Len + 1)).toNat) a1.Len o17 qC7 h18)) ?_
  refine q_sq ?_
  refine q_vu [] 4 [] [(10, vc (.emp))] [] [] ?_
  refine q_sq ?_
  refine q_vu [] 4 [] [(11, vi 0)] [] [] ?_
  refine q_sq ?_
  refine q_fn [.own 10 4 75 2 (rf zD ([] : List Piece))] ⟨[(1, vp 0 0), (8, vo 3 0 3 o17.length), (10, vo 4 0 2 0), (11, vi 0)], [(0, bx 40 (qS a1)), (3, ro 0 94 3 o17.length (rf e_Ref17_step o17)), (4, ro 0 75 2 0 (rf zD ([] : List Piece)))]⟩ o0 ?_
  obtain ⟨o27, h28, hm⟩ := qD hm
  refine zF (nd Tryz.f25 2040) 2 (by kernel_rfl) FUEL (fun o => qBX o17 o) o27 (q_hl (MI a1 o17 ([] : List Piece) 0 0) (qGZ E a1 o17 FUEL ([] : List Piece) 0 0 o27 rfl h28)) ?_
  refine q_sq ?_
  obtain ⟨g29, hm⟩ := qI hm
  refine q_du [qd 2 (Dir.none) (inb_of g29), qd 4 (Dir.none) (toNat_lt (inb_of g29))] [0, 0, 2, 6, 14, 1, 63, 127] 5 [8, 10] [(2, vo 4 0 2 o27.length), (3, vi ((o17.getD ((0 : Int).toNat) default).value)), (4, vi 0)] [3] [] ?_
  obtain rfl := Option.some.inj hm
  refine qR 4 0 (by kernel_rfl) ?_
  refine q_rt ?_
  exact q_rm
open Go.Proofs
set_option maxHeartbeats 4000000
set_option maxRecDepth 100000
def qI7 (r : Bool) : V := vb r
def qIp (r : Bool) : List (Nat × (Nat × O)) := []
def OJ (x7 : Bool) : St :=
 ⟨[(2, vb x7)], []⟩
theorem qCt (a1 : Rect) (r : Bool) (hm : VT a1 = some r) : CtX Tryz.prog globs 49 0 0 [.agg (qK a1)] [] (qI7 r) (qIp r) := by
 unfold VT at hm
 refine q_E Tryz.f49 43 fun E => ?_
 refine q_sq ?_
 refine q_vn [] 0 ⟨[(1, vp 0 0)], [(0, bx 28 (qK a1))]⟩ ?_
 refine q_jn (ι := Bool) (fun p => OJ p) (fun p => QR p = some r) ?_ ?_
 ·rintro x7 hm
  show H _ (OJ x7) _ _
  obtain rfl := Option.some.inj hm
  refine q_rt ?_
  exact q_rm
 ·rcases Bool.eq_false_or_eq_true (decide (a1.X.A < a1.X.B)) with b2 | b2
  ·replace hm := qB b2 hm
   rcases Bool.eq_false_or_eq_true (decide (a1.Y.A < a1.Y.B)) with b3 | b3
   ·replace hm := qB b3 hm
    rcases Bool.eq_false_or_eq_true (decide (a1.X.A ≥ (-600))) with b4 | b4
    ·replace hm := qB b4 hm
     rcases Bool.eq_false_or_eq_true (decide (a1.X.B ≤ 600)) with b5 | b5
     ·replace hm := qB b5 hm
      rcases Bool.eq_false_or_eq_true (decide (a1.Y.A ≥ (-600))) with b6 | b6
      ·replace hm := qB b6 hm
       refine q_vn [qf 7 b2, qf 16 b3, qf 22 b4, qf 28 b5, qf 34 b6] 1 ⟨[(2, vb (decide (a1.Y.B ≤ 600)))], []⟩ ?_
       exact q_J (decide (a1.Y.B ≤ 600)) hm
      ·replace hm := qA b6 hm
       refine q_vn [qf 7 b2, qf 16 b3, qf 22 b4, qf 28 b5, qf 34 b6] 1 ⟨[(2, vb false)], []⟩ ?_
       exact q_J (false) hm
     ·replace hm := qA b5 hm
      refine q_vn [qf 7 b2, qf 16 b3, qf 22 b4, qf 28 b5] 1 ⟨[(2, vb false)], []⟩ ?_
      exact q_J (false) hm
    ·replace hm := qA b4 hm
     refine q_vn [qf 7 b2, qf 16 b3, qf 22 b4] 1 ⟨[(2, vb false)], []⟩ ?_
     exact q_J (false) hm
   ·replace hm := qA b3 hm
    refine q_vn [qf 7 b2, qf 16 b3] 1 ⟨[(2, vb false)], []⟩ ?_
    exact q_J (false) hm
  ·replace hm := qA b2 hm
   refine q_vn [qf 7 b2] 1 ⟨[(2, vb false)], []⟩ ?_
   exact q_J (false) hm
def EW (r : (List Node) × Int) : V := .tup [.one (.own 0 0 2 r.1.length), .one (ci r.2)]
def TQ (r : (List Node) × Int) : List (Nat × (Nat × O)) := [(0, ro 0 64 2 r.1.length (rf e_Node r.1))]
theorem qNb (r : (List Node) × Int) : WC (TQ r) := by
 intro i k o h
 unfold TQ at h
 rw [look_cons] at h
 split at h
 ·cases h; exact fun _ _ => rfl
 ·cases h
def qC0 (a2 : Int) (a3 : Int) (a4 : List Span) (a5 : List (List Node)) (x18 : Span) (x22 : Int) (l36 : List Node) (l36n : Nat) : St :=
 ⟨[(1, vi a2), (2, vi a3), (3, vc (tl e_Span default a4)), (4, vc (tl (qL e_Node) default a5)), (12, vp 1 0), (13, vo 2 0 2 l36n), (15, vb (((a4.getD x22.toNat default).B) == x18.B)), (16, vi x22)], [(1, bx 26 (e_Span x18)), (2, ro 0 64 2 l36n (rf e_Node l36))]⟩
def qDf (a2 : Int) (a3 : Int) (a4 : List Span) (a5 : List (List Node)) (x18 : Span) (x22 : Int) (l33 : List Node) (l33n : Nat) : St :=
 ⟨[(1, vi a2), (2, vi a3), (3, vc (tl e_Span default a4)), (4, vc (tl (qL e_Node) default a5)), (12, vp 1 0), (13, vo 2 0 2 l33n), (16, vi x22)], [(1, bx 26 (e_Span x18)), (2, ro 0 64 2 l33n (rf e_Node l33))]⟩
def qCQ (a2 : Int) (a3 : Int) (a4 : List Span) (a5 : List (List Node)) (x18 : Span) (l19 : List Node) (x20 : Int) (x22 : Int) (x28 : Bool) : St :=
 ⟨[(1, vi a2), (2, vi a3), (3, vc (tl e_Span default a4)), (4, vc (tl (qL e_Node) default a5)), (12, vp 1 0), (13, vo 2 0 2 l19.length), (14, vi x20), (16, vi x22), (65, vb x28)], [(1, bx 26 (e_Span x18)), (2, ro 0 64 2 l19.length (rf e_Node l19))]⟩
def SV (a2 : Int) (a3 : Int) (a4 : List Span) (a5 : List (List Node)) (x18 : Span) (l19 : List Node) (l19n : Nat) (x20 : Int) (x21 : Bool) (x22 : Int) : St :=
 ⟨[(1, vi a2), (2, vi a3), (3, vc (tl e_Span default a4)), (4, vc (tl (qL e_Node) default a5)), (12, vp 1 0), (13, vo 2 0 2 l19n), (14, vi x20), (15, vb x21), (16, vi x22)], [(1, bx 26 (e_Span x18)), (2, ro 0 64 2 l19n (rf e_Node l19))]⟩
def qDn (l39 : List Node) (x40 : Bool) : St :=
 ⟨[(13, vo 2 0 2 l39.length), (15, vb x40)], [(2, ro 0 64 2 l39.length (rf e_Node l39))]⟩
def qC9 (l47 : List Node) (l47n : Nat) : St :=
 ⟨[(13, vo 2 0 2 l47n)], [(2, ro 0 64 2 l47n (rf e_Node l47))]⟩
def qDr (a2 : Int) (a3 : Int) (a4 : List Span) (a5 : List (List Node)) (x18 : Span) : St :=
 ⟨[(1, vi a2), (2, vi a3), (3, vc (tl e_Span default a4)), (4, vc (tl (qL e_Node) default a5)), (12, vp 1 0)], [(1, bx 26 (e_Span x18))]⟩
def qCN (a1 : Rect) (a2 : Int) (a3 : Int) (a4 : List Span) (a5 : List (List Node)) (x15 : Bool) : St :=
 ⟨[(1, vi a2), (2, vi a3), (3, vc (tl e_Span default a4)), (4, vc (tl (qL e_Node) default a5)), (5, vp 0 0), (38, vb x15)], [(0, bx 28 (qK a1))]⟩
def qCX (a1 : Rect) (a2 : Int) (a3 : Int) (a4 : List Span) (a5 : List (List Node)) (x12 : Bool) : St :=
 ⟨[(1, vi a2), (2, vi a3), (3, vc (tl e_Span default a4)), (4, vc (tl (qL e_Node) default a5)), (5, vp 0 0), (32, vb x12)], [(0, bx 28 (qK a1))]⟩
def qCP (a1 : Rect) (a2 : Int) (a3 : Int) (a4 : List Span) (a5 : List (List Node)) (x7 : Bool) : St :=
 ⟨[(1, vi a2), (2, vi a3), (3, vc (tl e_Span default a4)), (4, vc (tl (qL e_Node) default a5)), (5, vp 0 0), (22, vb x7)], [(0, bx 28 (qK a1))]⟩
theorem qG1 (E : Env 0) (a2 : Int) (a3 : Int) (a4 : List Span) (a5 : List (List Node)) (x18 : Span) : ∀ (n : Nat) (l19 : List Node) (l19n : Nat) (x20 : Int) (x21 : Bool) (x22 : Int) (res : ((List Node) × Int) ⊕ ((List Node) × Bool)), l19.length = l19n → wR a2 a3 a4 a5 x18 n l19 x20 x21 x22 = some res → HL (kx E 163 0) (nd Tryz.f26 8180) (wC 0 (fun o => qDn o.1 o.2) (fun v st => RetQ Tryz.prog Tryz.f26 (EW v) (TQ v) .ret st) res) n (SV a2 a3 a4 a5 x18 l19 l19n x20 x21 x22) := by
 intro n
 induction n with
 | zero =>
  intro l19 l19n x20 x21 x22 res hl0 hm
  cases hm
 | succ n ih =>
  intro l19 l19n x20 x21 x22 res hl0 hm
  subst hl0
  refine qO ?_
  refine q_sq ?_
  refine q_sq ?_
  refine q_vu [] 3 [] [(50, vb (decide (x22 < ((a4.length : Nat) : Int))))] [] [] ?_
  refine q_cn (decide (x22 < ((a4.length : Nat) : Int))) (fun b23 => ?_) (fun b23 => ?_)
  ·replace hm := qB b23 hm
   refine q_sk ?_
   refine q_sq ?_
   refine q_bk 1 ?_
   refine q_sq ?_
   refine q_bk 2 ?_
   refine q_sq ?_
   obtain ⟨g24, hm⟩ := qI hm
   refine q_du [qd 2 (Dir.none) (inb_of g24), qd 7 (Dir.none) (inb_of g24)] [0, 0, 3, 7, 15, 0, 0, 96, 224, 480, 1023, 2047] 3 [50] [(53, vb (decide (((a4.getD x22.toNat default).A) ≥ ((a4.getD x22.toNat default).B))))] [] [] ?_
   refine q_cn (decide (((a4.getD x22.toNat default).A) ≥ ((a4.getD x22.toNat default).B))) (fun b25 => ?_) (fun b25 => ?_)
   ·replace hm := qB b25 hm
    refine q_sq ?_
    refine q_vn [] 3 ⟨[(10, vc (.emp)), (11, vi 19)], []⟩ ?_
    refine q_fn [.own 10 3 64 2 (rf e_Node ([] : List Node))] ⟨[(10, vo 3 0 2 0), (11, vi 19)], [(3, ro 0 64 2 0 (rf e_Node ([] : List Node)))]⟩ o0 ?_
    refine q_fn [.len 3 (([] : List Node).length)] ⟨[(10, vo 3 0 2 (([] : List Node).length)), (11, vi 19)], [(3, ro 0 64 2 (([] : List Node).length) (rf e_Node ([] : List Node)))]⟩ (o1 (And.intro (show 0 = ([] : List Node).length from rfl) (show 0 = ([] : List Node).length from rfl))) ?_
    obtain rfl := Option.some.inj hm
    refine qR 3 0 (by kernel_rfl) ?_
    refine q_rt ?_
    refine qU (([] : List Node), 19) ?_
    exact q_rm
   ·replace hm := qA b25 hm
    refine q_jn (ι := Bool) (fun p => qCQ a2 a3 a4 a5 x18 l19 x20 x22 p) (fun p => GF a2 a3 a4 a5 x18 l19 x20 x22 (wR a2 a3 a4 a5 x18 n) p = some res) ?_ ?_
    ·rintro x28 hm
     show H _ (qCQ a2 a3 a4 a5 x18 l19 x20 x22 x28) _ _
     refine q_cn x28 (fun b29 => ?_) (fun b29 => ?_)
     ·replace hm := qB b29 hm
      refine q_sq ?_
      refine q_vn [] 3 ⟨[(10, vc (.emp)), (11, vi 11)], []⟩ ?_
      refine q_fn [.own 10 3 64 2 (rf e_Node ([] : List Node))] ⟨[(10, vo 3 0 2 0), (11, vi 11)], [(3, ro 0 64 2 0 (rf e_Node ([] : List Node)))]⟩ o0 ?_
      refine q_fn [.len 3 (([] : List Node).length)] ⟨[(10, vo 3 0 2 (([] : List Node).length)), (11, vi 11)], [(3, ro 0 64 2 (([] : List Node).length) (rf e_Node ([] : List Node)))]⟩ (o1 (And.intro (show 0 = ([] : List Node).length from rfl) (show 0 = ([] : List Node).length from rfl))) ?_
      obtain rfl := Option.some.inj hm
      refine qR 3 0 (by kernel_rfl) ?_
      refine q_rt ?_
      refine qU (([] : List Node), 11) ?_
      exact q_rm
     ·replace hm := qA b29 hm
      refine q_sq ?_
      refine q_du [qd 2 (Dir.none) (inb_of g24)] [0, 0, 3, 7, 15, 0, 32, 127, 255] 3 [65] [(88, vb (decide (((a4.getD x22.toNat default).B) > x18.B)))] [] [] ?_
      refine q_cn (decide (((a4.getD x22.toNat default).B) > x18.B)) (fun b30 => ?_) (fun b30 => ?_)
      ·replace hm := qB b30 hm
       refine q_sq ?_
       refine q_vn [] 3 ⟨[(10, vc (.emp)), (11, vi 20)], []⟩ ?_
       refine q_fn [.own 10 3 64 2 (rf e_Node ([] : List Node))] ⟨[(10, vo 3 0 2 0), (11, vi 20)], [(3, ro 0 64 2 0 (rf e_Node ([] : List Node)))]⟩ o0 ?_
       refine q_fn [.len 3 (([] : List Node).length)] ⟨[(10, vo 3 0 2 (([] : List Node).length)), (11, vi 20)], [(3, ro 0 64 2 (([] : List Node).length) (rf e_Node ([] : List Node)))]⟩ (o1 (And.intro (show 0 = ([] : List Node).length from rfl) (show 0 = ([] : List Node).length from rfl))) ?_
       obtain rfl := Option.some.inj hm
       refine qR 3 0 (by kernel_rfl) ?_
       refine q_rt ?_
       refine qU (([] : List Node), 20) ?_
       exact q_rm
      ·replace hm := qA b30 hm
       refine q_sk ?_
       refine q_jn (ι := (List Node) × Nat) (fun p => qDf a2 a3 a4 a5 x18 x22 p.1 p.2) (fun p => p.1.length = p.2 ∧ VX a2 a3 a4 a5 x18 x22 (wR a2 a3 a4 a5 x18 n) p.1 = some res) ?_ ?_
       ·rintro ⟨l33, l33n⟩ ⟨el33, hm⟩
        replace el33 : l33.length = l33n := el33
        subst el33
        show H _ (qDf a2 a3 a4 a5 x18 x22 l33 l33.length) _ _
        refine q_sq ?_
        refine q_du [qd 2 (Dir.none) (inb_of g24)] [0, 0, 3, 7, 15, 0, 32, 127, 255] 4 [] [(15, vb (((a4.getD x22.toNat default).B) == x18.B))] [] [] ?_
        refine q_jn (ι := (List Node) × Nat) (fun p => qC0 a2 a3 a4 a5 x18 x22 p.1 p.2) (fun p => p.1.length = p.2 ∧ MA a3 a4 a5 x18 x22 (wR a2 a3 a4 a5 x18 n) p.1 = some res) ?_ ?_
        ·rintro ⟨l36, l36n⟩ ⟨el36, hm⟩
         replace el36 : l36.length = l36n := el36
         subst el36
         show H _ (qC0 a2 a3 a4 a5 x18 x22 l36 l36.length) _ _
         refine q_sq ?_
         obtain ⟨g37, hm⟩ := qI hm
         obtain ⟨g38, hm⟩ := qI hm
         refine q_vu [qd 3 (Dir.none) (inb_of g37), qd 5 (drw 2 1 (rf e_Node (l36 ++ (a5.getD x22.toNat default)))) (apP e_Node default l36 (a5.getD x22.toNat default) l36.length ((a5.getD x22.toNat default).length) 2 16 (True) trivial rfl rfl (fun _ => rfl) (zS g38))] 5 [13] [(13, vo 2 1 2 (l36.length + (a5.getD x22.toNat default).length))] [2] [(2, ro 1 64 2 (l36.length + (a5.getD x22.toNat default).length) (rf e_Node (l36 ++ (a5.getD x22.toNat default))))] ?_
         refine q_du [qd 2 (Dir.none) (inb_of g24)] [0, 0, 3, 7, 15, 0, 63, 0, 128, 511, 1023] 5 [] [(14, vi (imin (w64 (((a4.getD x22.toNat default).B) + a3)) x18.B))] [] [] ?_
         refine q_vu [] 5 [16] [(16, vi (w64 (x22 + 1)))] [] [] ?_
         exact q_hl (SV a2 a3 a4 a5 x18 (l36 ++ (a5.getD x22.toNat default)) (l36.length + (a5.getD x22.toNat default).length) (imin (w64 (((a4.getD x22.toNat default).B) + a3)) x18.B) (((a4.getD x22.toNat default).B) == x18.B) (w64 (x22 + 1))) (ih (l36 ++ (a5.getD x22.toNat default)) (l36.length + (a5.getD x22.toNat default).length) (imin (w64 (((a4.getD x22.toNat default).B) + a3)) x18.B) (((a4.getD x22.toNat default).B) == x18.B) (w64 (x22 + 1)) _ (len_app rfl rfl) hm)
        ·refine q_sq ?_
         refine q_vu [] 4 [] [(126, vb (!(((a4.getD x22.toNat default).B) == x18.B)))] [] [] ?_
         refine q_cn (!(((a4.getD x22.toNat default).B) == x18.B)) (fun b34 => ?_) (fun b34 => ?_)
         ·replace hm := qB b34 hm
          obtain ⟨g35, hm⟩ := qI hm
          refine q_vu [qd 4 (Dir.none) (inb_of g24), qd 8 (drw 4 0 (rf e_Node ([(Node.mk a2 ((a4.getD x22.toNat default).B))] : List Node))) (litP e_Node default 2 (fun _ => rfl) ([(Node.mk a2 ((a4.getD x22.toNat default).B))] : List Node) 1 rfl), qd 9 (drw 2 1 (rf e_Node (l33 ++ ([(Node.mk a2 ((a4.getD x22.toNat default).B))] : List Node)))) (apP e_Node default l33 ([(Node.mk a2 ((a4.getD x22.toNat default).B))] : List Node) l33.length 1 2 16 (1 ≤ 1) (Nat.le_refl _) rfl rfl (fun _ => rfl) (zS g35))] 4 [13, 126] [(13, vo 2 1 2 (l33.length + 1))] [2] [(2, ro 1 64 2 (l33.length + 1) (rf e_Node (l33 ++ ([(Node.mk a2 ((a4.getD x22.toNat default).B))] : List Node))))] ?_
          exact q_J ((l33 ++ ([(Node.mk a2 ((a4.getD x22.toNat default).B))] : List Node)), (l33.length + 1)) ⟨(len_app rfl rfl), hm⟩
         ·replace hm := qA b34 hm
          refine q_sk ?_
          exact q_J (l33, l33.length) ⟨rfl, hm⟩
       ·refine q_sq ?_
        refine q_vu [qd 2 (Dir.none) (inb_of g24)] 3 [14, 88] [(103, vb (((a4.getD x22.toNat default).A) != x20))] [] [] ?_
        refine q_cn (((a4.getD x22.toNat default).A) != x20) (fun b31 => ?_) (fun b31 => ?_)
        ·replace hm := qB b31 hm
         obtain ⟨g32, hm⟩ := qI hm
         refine q_vu [qd 4 (Dir.none) (inb_of g24), qd 11 (drw 3 0 (rf e_Node ([(Node.mk a2 (w64 (((a4.getD x22.toNat default).A) - a3))), (Node.mk 0 0)] : List Node))) (litP e_Node default 2 (fun _ => rfl) ([(Node.mk a2 (w64 (((a4.getD x22.toNat default).A) - a3))), (Node.mk 0 0)] : List Node) 2 rfl), qd 12 (drw 2 1 (rf e_Node (l19 ++ ([(Node.mk a2 (w64 (((a4.getD x22.toNat default).A) - a3))), (Node.mk 0 0)] : List Node)))) (apP e_Node default l19 ([(Node.mk a2 (w64 (((a4.getD x22.toNat default).A) - a3))), (Node.mk 0 0)] : List Node) l19.length 2 2 16 (2 ≤ 2) (Nat.le_refl _) rfl rfl (fun _ => rfl) (zS g32))] 3 [13, 103] [(13, vo 2 1 2 (l19.length + 2))] [2] [(2, ro 1 64 2 (l19.length + 2) (rf e_Node (l19 ++ ([(Node.mk a2 (w64 (((a4.getD x22.toNat default).A) - a3))), (Node.mk 0 0)] : List Node))))] ?_
         exact q_J ((l19 ++ ([(Node.mk a2 (w64 (((a4.getD x22.toNat default).A) - a3))), (Node.mk 0 0)] : List Node)), (l19.length + 2)) ⟨(len_app rfl rfl), hm⟩
        ·replace hm := qA b31 hm
         refine q_sk ?_
         exact q_J (l19, l19.length) ⟨rfl, hm⟩
    ·rcases Bool.eq_false_or_eq_true x21 with b26 | b26
     ·replace hm := qB b26 hm
      refine q_vu [qf 1 b26] 3 [15, 53] [(65, vb true)] [] [] ?_
      exact q_J (true) hm
     ·replace hm := qA b26 hm
      rcases Bool.eq_false_or_eq_true (((a4.getD x22.toNat default).A) != x20) with b27 | b27
      ·replace hm := qB b27 hm
       refine q_vu [qf 1 b26, qd 4 (Dir.none) (inb_of g24), qf 9 b27, qd 12 (Dir.none) (inb_of g24)] 3 [15, 53] [(65, vb (decide (((a4.getD x22.toNat default).A) < (w64 ((w64 (x20 + a3)) + 1))))), (68, vc (tl e_Span default a4)), (69, vi x22), (70, vc (.lptr (e_Span (a4.getD x22.toNat default)))), (71, vc (.lptr (e_Span (a4.getD x22.toNat default)))), (72, vi ((a4.getD x22.toNat default).A)), (73, vi x20), (74, vb (((a4.getD x22.toNat default).A) != x20)), (75, vb true), (76, vc (tl e_Span default a4)), (77, vi x22), (78, vc (.lptr (e_Span (a4.getD x22.toNat default)))), (79, vc (.lptr (e_Span (a4.getD x22.toNat default)))), (80, vi ((a4.getD x22.toNat default).A)), (81, vi x20), (82, vi a3), (83, vi (w64 (x20 + a3))), (84, vi (w64 ((w64 (x20 + a3)) + 1))), (85, vb (decide (((a4.getD x22.toNat default).A) < (w64 ((w64 (x20 + a3)) + 1))))), (86, vb (decide (((a4.getD x22.toNat default).A) < (w64 ((w64 (x20 + a3)) + 1)))))] [] [] ?_
       exact q_J (decide (((a4.getD x22.toNat default).A) < (w64 ((w64 (x20 + a3)) + 1)))) hm
      ·replace hm := qA b27 hm
       refine q_vu [qf 1 b26, qd 4 (Dir.none) (inb_of g24), qf 9 b27] 3 [15, 53] [(65, vb false), (68, vc (tl e_Span default a4)), (69, vi x22), (70, vc (.lptr (e_Span (a4.getD x22.toNat default)))), (71, vc (.lptr (e_Span (a4.getD x22.toNat default)))), (72, vi ((a4.getD x22.toNat default).A)), (73, vi x20), (74, vb (((a4.getD x22.toNat default).A) != x20)), (75, vb false), (86, vb false)] [] [] ?_
       exact q_J (false) hm
  ·replace hm := qA b23 hm
   refine q_ex 0 ?_
   obtain rfl := Option.some.inj hm
   exact wF (l19, x21) (by kernel_rfl) (by kernel_rfl)
theorem ref21_Row_ok (a1 : Rect) (a2 : Int) (a3 : Int) (a4 : List Span) (a5 : List (List Node)) (r : (List Node) × Int) (hm : LO a1 a2 a3 a4 a5 = some r) : CtX Tryz.prog globs 26 0 0 [.agg (qK a1), .one (ci a2), .one (ci a3), .one (tl e_Span default a4), .one (tl (qL e_Node) default a5)] [] (EW r) (TQ r) := by
 unfold LO at hm
 refine q_E Tryz.f26 163 fun E => ?_
 refine q_sq ?_
 refine q_vn [] 0 ⟨[(1, vi a2), (2, vi a3), (3, vc (tl e_Span default a4)), (4, vc (tl (qL e_Node) default a5)), (5, vp 0 0)], [(0, bx 28 (qK a1))]⟩ ?_
 refine q_sq ?_
 refine q_jn (ι := Bool) (fun p => qCP a1 a2 a3 a4 a5 p) (fun p => HQ a1 a2 a3 a4 a5 p = some r) ?_ ?_
 ·rintro x7 hm
  show H _ (qCP a1 a2 a3 a4 a5 x7) _ _
  refine q_cn x7 (fun b8 => ?_) (fun b8 => ?_)
  ·replace hm := qB b8 hm
   refine q_sq ?_
   refine q_vn [] 1 ⟨[(10, vc (.emp)), (11, vi 10)], []⟩ ?_
   refine q_fn [.own 10 1 64 2 (rf e_Node ([] : List Node))] ⟨[(10, vo 1 0 2 0), (11, vi 10)], [(1, ro 0 64 2 0 (rf e_Node ([] : List Node)))]⟩ o0 ?_
   refine q_fn [.len 1 (([] : List Node).length)] ⟨[(10, vo 1 0 2 (([] : List Node).length)), (11, vi 10)], [(1, ro 0 64 2 (([] : List Node).length) (rf e_Node ([] : List Node)))]⟩ (o1 (And.intro (show 0 = ([] : List Node).length from rfl) (show 0 = ([] : List Node).length from rfl))) ?_
   obtain rfl := Option.some.inj hm
   refine qR 1 0 (by kernel_rfl) ?_
   refine q_rt ?_
   exact q_rm
  ·replace hm := qA b8 hm
   refine q_sk ?_
   refine q_sq ?_
   refine q_jn (ι := Bool) (fun p => qCX a1 a2 a3 a4 a5 p) (fun p => LV a1 a2 a3 a4 a5 p = some r) ?_ ?_
   ·rintro x12 hm
    show H _ (qCX a1 a2 a3 a4 a5 x12) _ _
    refine q_cn x12 (fun b13 => ?_) (fun b13 => ?_)
    ·replace hm := qB b13 hm
     refine q_sq ?_
     refine q_vn [] 1 ⟨[(10, vc (.emp)), (11, vi 19)], []⟩ ?_
     refine q_fn [.own 10 1 64 2 (rf e_Node ([] : List Node))] ⟨[(10, vo 1 0 2 0), (11, vi 19)], [(1, ro 0 64 2 0 (rf e_Node ([] : List Node)))]⟩ o0 ?_
     refine q_fn [.len 1 (([] : List Node).length)] ⟨[(10, vo 1 0 2 (([] : List Node).length)), (11, vi 19)], [(1, ro 0 64 2 (([] : List Node).length) (rf e_Node ([] : List Node)))]⟩ (o1 (And.intro (show 0 = ([] : List Node).length from rfl) (show 0 = ([] : List Node).length from rfl))) ?_
     obtain rfl := Option.some.inj hm
     refine qR 1 0 (by kernel_rfl) ?_
     refine q_rt ?_
     exact q_rm
    ·replace hm := qA b13 hm
     refine q_sk ?_
     refine q_sq ?_
     refine q_jn (ι := Bool) (fun p => qCN a1 a2 a3 a4 a5 p) (fun p => MJ a1 a2 a3 a4 a5 p = some r) ?_ ?_
     ·rintro x15 hm
      show H _ (qCN a1 a2 a3 a4 a5 x15) _ _
      refine q_cn x15 (fun b16 => ?_) (fun b16 => ?_)
      ·replace hm := qB b16 hm
       refine q_sq ?_
       refine q_vn [] 1 ⟨[(10, vc (.emp)), (11, vi 9)], []⟩ ?_
       refine q_fn [.own 10 1 64 2 (rf e_Node ([] : List Node))] ⟨[(10, vo 1 0 2 0), (11, vi 9)], [(1, ro 0 64 2 0 (rf e_Node ([] : List Node)))]⟩ o0 ?_
       refine q_fn [.len 1 (([] : List Node).length)] ⟨[(10, vo 1 0 2 (([] : List Node).length)), (11, vi 9)], [(1, ro 0 64 2 (([] : List Node).length) (rf e_Node ([] : List Node)))]⟩ (o1 (And.intro (show 0 = ([] : List Node).length from rfl) (show 0 = ([] : List Node).length from rfl))) ?_
       obtain rfl := Option.some.inj hm
       refine qR 1 0 (by kernel_rfl) ?_
       refine q_rt ?_
       exact q_rm
      ·replace hm := qA b16 hm
       refine q_sk ?_
       refine q_sq ?_
       refine q_vu [] 1 [38] [(12, vp 1 0)] [] [(1, bx 26 (e_Span a1.X))] ?_
       refine q_jn (ι := Span) (fun p => qDr a2 a3 a4 a5 p) (fun p => VU a2 a3 a4 a5 p = some r) ?_ ?_
       ·rintro x18 hm
        show H _ (qDr a2 a3 a4 a5 x18) _ _
        refine q_sq ?_
        refine q_vu [] 2 [] [(13, vc (.emp))] [] [] ?_
        refine q_sq ?_
        refine q_vu [] 2 [] [(14, vi x18.A), (15, vb false)] [] [] ?_
        refine q_sq ?_
        refine q_sq ?_
        refine q_vu [] 2 [] [(16, vi 0)] [] [] ?_
        refine q_fn [.own 13 2 64 2 (rf e_Node ([] : List Node))] ⟨[(1, vi a2), (2, vi a3), (3, vc (tl e_Span default a4)), (4, vc (tl (qL e_Node) default a5)), (12, vp 1 0), (13, vo 2 0 2 0), (14, vi x18.A), (15, vb false), (16, vi 0)], [(1, bx 26 (e_Span x18)), (2, ro 0 64 2 0 (rf e_Node ([] : List Node)))]⟩ o0 ?_
        obtain ⟨u43, h42, hm⟩ := qD hm
        refine zI (nd Tryz.f26 8180) 0 (by kernel_rfl) FUEL (fun o => qDn o.1 o.2) (fun v st => RetQ Tryz.prog Tryz.f26 (EW v) (TQ v) .ret st) u43 (q_hl (SV a2 a3 a4 a5 x18 ([] : List Node) 0 x18.A false 0) (qG1 E a2 a3 a4 a5 x18 FUEL ([] : List Node) 0 x18.A false 0 u43 rfl h42)) ?_ ?_
        ·rintro v44 rfl st hr
         obtain rfl := Option.some.inj hm
         exact hr
        ·rintro o41 rfl
         replace hm : _ = some r := hm
         refine q_jn (ι := (List Node) × Nat) (fun p => qC9 p.1 p.2) (fun p => p.1.length = p.2 ∧ GC p.1 = some r) ?_ ?_
         ·rintro ⟨l47, l47n⟩ ⟨el47, hm⟩
          replace el47 : l47.length = l47n := el47
          subst el47
          show H _ (qC9 l47 l47.length) _ _
          refine q_sq ?_
          refine q_sq ?_
          refine q_vu [] 4 [] [(161, vb (decide (((l47.length : Nat) : Int) > 127)))] [] [] ?_
          refine q_cn (decide (((l47.length : Nat) : Int) > 127)) (fun b48 => ?_) (fun b48 => ?_)
          ·replace hm := qB b48 hm
           refine q_sq ?_
           refine q_vn [] 4 ⟨[(10, vc (.emp)), (11, vi 4)], []⟩ ?_
           refine q_fn [.own 10 4 64 2 (rf e_Node ([] : List Node))] ⟨[(10, vo 4 0 2 0), (11, vi 4)], [(4, ro 0 64 2 0 (rf e_Node ([] : List Node)))]⟩ o0 ?_
           refine q_fn [.len 4 (([] : List Node).length)] ⟨[(10, vo 4 0 2 (([] : List Node).length)), (11, vi 4)], [(4, ro 0 64 2 (([] : List Node).length) (rf e_Node ([] : List Node)))]⟩ (o1 (And.intro (show 0 = ([] : List Node).length from rfl) (show 0 = ([] : List Node).length from rfl))) ?_
           obtain rfl := Option.some.inj hm
           refine qR 4 0 (by kernel_rfl) ?_
           refine q_rt ?_
           exact q_rm
          ·replace hm := qA b48 hm
           refine q_sk ?_
           refine q_sq ?_
           refine q_vu [] 4 [13, 161] [(10, vo 2 0 2 l47.length), (11, vi 0)] [] [] ?_
           obtain rfl := Option.some.inj hm
           refine qR 2 0 (by kernel_rfl) ?_
           refine q_rt ?_
           exact q_rm
         ·refine q_sq ?_
          refine q_vu [] 3 [15] [(154, vb (!o41.2))] [] [] ?_
          refine q_cn (!o41.2) (fun b45 => ?_) (fun b45 => ?_)
          ·replace hm := qB b45 hm
           obtain ⟨g46, hm⟩ := qI hm
           refine q_vn [qd 2 (drw 3 0 (rf e_Node ([(Node.mk 0 0)] : List Node))) (litP e_Node default 2 (fun _ => rfl) ([(Node.mk 0 0)] : List Node) 1 rfl), qd 3 (drw 2 1 (rf e_Node (o41.1 ++ ([(Node.mk 0 0)] : List Node)))) (apP e_Node default o41.1 ([(Node.mk 0 0)] : List Node) o41.1.length 1 2 16 (1 ≤ 1) (Nat.le_refl _) rfl rfl (fun _ => rfl) (zS g46))] 3 ⟨[(13, vo 2 1 2 (o41.1.length + 1))], [(2, ro 1 64 2 (o41.1.length + 1) (rf e_Node (o41.1 ++ ([(Node.mk 0 0)] : List Node))))]⟩ ?_
           exact q_J ((o41.1 ++ ([(Node.mk 0 0)] : List Node)), (o41.1.length + 1)) ⟨(len_app rfl rfl), hm⟩
          ·replace hm := qA b45 hm
           refine q_sk ?_
           exact q_J (o41.1, o41.1.length) ⟨rfl, hm⟩
       ·refine q_sq ?_
        refine q_vu [] 2 [] [(42, vb (a2 == 3))] [] [] ?_
        refine q_cn (a2 == 3) (fun b17 => ?_) (fun b17 => ?_)
        ·replace hm := qB b17 hm
         refine q_vu [] 2 [5, 42] [] [0, 1] [(1, bx 26 (e_Span a1.Y))] ?_
         exact q_J (a1.Y) hm
        ·replace hm := qA b17 hm
         refine q_sk ?_
         exact q_J (a1.X) hm
     ·rcases Bool.eq_false_or_eq_true (decide (a3 < 0)) with b14 | b14
      ·replace hm := qB b14 hm
       refine q_vu [qf 2 b14] 1 [32] [(38, vb true)] [] [] ?_
       exact q_J (true) hm
      ·replace hm := qA b14 hm
       refine q_vu [qf 2 b14] 1 [32] [(38, vb (decide (a3 > 20)))] [] [] ?_
       exact q_J (decide (a3 > 20)) hm
   ·obtain ⟨v9, h10, hm⟩ := qD hm
    rcases Bool.eq_false_or_eq_true (!v9) with b11 | b11
    ·replace hm := qB b11 hm
     refine q_vu [qc 1 [23] 1 (qCt a1 v9 h10), qf 3 b11] 1 [22] [(32, vb true)] [] [] ?_
     exact q_J (true) hm
    ·replace hm := qA b11 hm
     refine q_vu [qc 1 [23] 1 (qCt a1 v9 h10), qf 3 b11] 1 [22] [(32, vb (((a4.length : Nat) : Int) != ((a5.length : Nat) : Int)))] [] [] ?_
     exact q_J (((a4.length : Nat) : Int) != ((a5.length : Nat) : Int)) hm
 ·rcases Bool.eq_false_or_eq_true (a2 != 2) with b6 | b6
  ·replace hm := qB b6 hm
   refine q_vu [qf 2 b6] 1 [] [(22, vb (a2 != 3))] [] [] ?_
   exact q_J (a2 != 3) hm
  ·replace hm := qA b6 hm
   refine q_vu [qf 2 b6] 1 [] [(22, vb false)] [] [] ?_
   exact q_J (false) hm
end Saw
end Go.SL
