import Derived.Test.YtpphchcejhodkaaDoorEBase
import Derived.Test.YtpphchcejhodkaaDoorEFa5
set_option linter.unusedVariables false
set_option linter.unusedSimpArgs false
namespace Go.SL
namespace Saw
open Go.Proofs
set_option maxHeartbeats 4000000
set_option maxRecDepth 100000
def qAH (r : Cutting_choice) : V := va (e_Cutting_choice r)
def VA (r : Cutting_choice) : List (Nat × (Nat × O)) := []
theorem qFV (r : Cutting_choice) : JD (VA r) := by
 intro i k o h
 unfold VA at h
 cases h
def AF (a1 : Line) (a2 : Int) (a3 : List Int) (a4 : List Cutting_choice) (x5 : Int) (x26 : Cutting_choice) : St :=
 ⟨[(1, vi a2), (2, vc (tl e_i64 default a3)), (3, vc (tl e_Cutting_choice default a4)), (4, vp 0 0), (8, vp 1 0), (9, vp 2 0), (18, vc (tl e_i64 default a1.Sizes)), (19, vi ((a1.Sizes.length : Nat) : Int)), (20, vi x5)], [(0, bx 63 (zT a1)), (1, bx 144 [ci 0, ci 0, ci 0]), (2, bx 144 (e_Cutting_choice x26))]⟩
def EM (a1 : Line) (a2 : Int) (a3 : List Int) (a4 : List Cutting_choice) (x5 : Int) (x6 : Cutting_choice) (x22 : Cutting_choice) (x24 : Bool) : St :=
 ⟨[(1, vi a2), (2, vc (tl e_i64 default a3)), (3, vc (tl e_Cutting_choice default a4)), (4, vp 0 0), (8, vp 1 0), (9, vp 2 0), (13, vp 3 0), (18, vc (tl e_i64 default a1.Sizes)), (19, vi ((a1.Sizes.length : Nat) : Int)), (20, vi x5), (89, vb x24)], [(0, bx 63 (zT a1)), (1, bx 144 [ci 0, ci 0, ci 0]), (2, bx 144 (e_Cutting_choice x6)), (3, bx 144 (e_Cutting_choice x22))]⟩
def EI (a1 : Line) (a2 : Int) (a3 : List Int) (a4 : List Cutting_choice) (x5 : Int) (x6 : Cutting_choice) (x22 : Cutting_choice) : St :=
 ⟨[(1, vi a2), (2, vc (tl e_i64 default a3)), (3, vc (tl e_Cutting_choice default a4)), (4, vp 0 0), (8, vp 1 0), (9, vp 2 0), (13, vp 3 0), (18, vc (tl e_i64 default a1.Sizes)), (19, vi ((a1.Sizes.length : Nat) : Int)), (20, vi x5)], [(0, bx 63 (zT a1)), (1, bx 144 [ci 0, ci 0, ci 0]), (2, bx 144 (e_Cutting_choice x6)), (3, bx 144 (e_Cutting_choice x22))]⟩
def EJ (a1 : Line) (a2 : Int) (a3 : List Int) (a4 : List Cutting_choice) (x5 : Int) (x6 : Cutting_choice) (x12 : Bool) : St :=
 ⟨[(1, vi a2), (2, vc (tl e_i64 default a3)), (3, vc (tl e_Cutting_choice default a4)), (4, vp 0 0), (8, vp 1 0), (9, vp 2 0), (10, vi x5), (12, vi (w64 (a2 + (a1.Sizes.getD x5.toNat default)))), (18, vc (tl e_i64 default a1.Sizes)), (19, vi ((a1.Sizes.length : Nat) : Int)), (20, vi x5), (42, vb x12)], [(0, bx 63 (zT a1)), (1, bx 144 [ci 0, ci 0, ci 0]), (2, bx 144 (e_Cutting_choice x6))]⟩
def VV (a1 : Line) (a2 : Int) (a3 : List Int) (a4 : List Cutting_choice) (x5 : Int) (x6 : Cutting_choice) : St :=
 ⟨[(1, vi a2), (2, vc (tl e_i64 default a3)), (3, vc (tl e_Cutting_choice default a4)), (4, vp 0 0), (8, vp 1 0), (9, vp 2 0), (18, vc (tl e_i64 default a1.Sizes)), (19, vi ((a1.Sizes.length : Nat) : Int)), (20, vi x5)], [(0, bx 63 (zT a1)), (1, bx 144 [ci 0, ci 0, ci 0]), (2, bx 144 (e_Cutting_choice x6))]⟩
def EP (x27 : Cutting_choice) : St :=
 ⟨[(8, vp 1 0), (9, vp 2 0)], [(1, bx 144 [ci 0, ci 0, ci 0]), (2, bx 144 (e_Cutting_choice x27))]⟩
theorem qCU (E : Env 0) (a1 : Line) (a2 : Int) (a3 : List Int) (a4 : List Cutting_choice) : ∀ (n : Nat) (x5 : Int) (x6 : Cutting_choice) (res : Cutting_choice), zZ a1 a2 a3 a4 n x5 x6 = some res → HL (kx E 93 0) (nd Tryd.f87 116) (wO 0 (fun o => EP o) res) n (VV a1 a2 a3 a4 x5 x6) := by
 intro n
 induction n with
 | zero =>
  intro x5 x6 res hm
  cases hm
 | succ n ih =>
  intro x5 x6 res hm
  refine qQ ?_
  refine q_sq ?_
  refine q_vu [] 3 [] [(21, vb (decide (x5 < ((a1.Sizes.length : Nat) : Int))))] [] [] ?_
  refine q_sq ?_
  refine q_cn (decide (x5 < ((a1.Sizes.length : Nat) : Int))) (fun b7 => ?_) (fun b7 => ?_)
  ·replace hm := qA b7 hm
   refine q_sk ?_
   refine q_jn (ι := Cutting_choice) (fun p => AF a1 a2 a3 a4 x5 p) (fun p => YG x5 (zZ a1 a2 a3 a4 n) p = some res) ?_ ?_
   ·rintro x26 hm
    show H _ (AF a1 a2 a3 a4 x5 x26) _ _
    refine q_vu [] 4 [20] [(20, vi (w64 (x5 + 1)))] [] [] ?_
    exact q_hl (VV a1 a2 a3 a4 (w64 (x5 + 1)) x26) (ih (w64 (x5 + 1)) x26 _ hm)
   ·refine q_bk 1 ?_
    refine q_sq ?_
    obtain ⟨g8, hm⟩ := qM hm
    refine q_vu [qd 1 (Dir.none) (inb_of g8)] 3 [21] [(10, vi x5), (11, vi (a1.Sizes.getD x5.toNat default))] [] [] ?_
    refine q_sq ?_
    refine q_vu [] 3 [11] [(12, vi (w64 (a2 + (a1.Sizes.getD x5.toNat default))))] [] [] ?_
    refine q_sq ?_
    refine q_jn (ι := Bool) (fun p => EJ a1 a2 a3 a4 x5 x6 p) (fun p => RS a1 a2 a3 a4 x5 x6 (zZ a1 a2 a3 a4 n) p = some res) ?_ ?_
    ·rintro x12 hm
     show H _ (EJ a1 a2 a3 a4 x5 x6 x12) _ _
     refine q_cn x12 (fun b13 => ?_) (fun b13 => ?_)
     ·replace hm := qA b13 hm
      refine q_ex 1 ?_
      exact q_J (x6) hm
     ·replace hm := qB b13 hm
      refine q_sk ?_
      refine q_sq ?_
      obtain ⟨g14, hm⟩ := qM hm
      obtain ⟨g15, hm⟩ := qM hm
      refine q_vu [qd 6 (Dir.none) (inb_of g14), qd 9 (Dir.none) (inb_of g15)] 3 [10, 42] [(13, vp 3 0)] [] [(3, bx 144 [ci x5, ci a2, ci ((a1.Gain.getD x5.toNat default).getD a2.toNat default)])] ?_
      refine q_jn (ι := Cutting_choice) (fun p => EI a1 a2 a3 a4 x5 x6 p) (fun p => RR x5 x6 (zZ a1 a2 a3 a4 n) p = some res) ?_ ?_
      ·rintro x22 hm
       show H _ (EI a1 a2 a3 a4 x5 x6 x22) _ _
       refine q_jn (ι := Bool) (fun p => EM a1 a2 a3 a4 x5 x6 x22 p) (fun p => TM x5 x6 (zZ a1 a2 a3 a4 n) x22 p = some res) ?_ ?_
       ·rintro x24 hm
        show H _ (EM a1 a2 a3 a4 x5 x6 x22 x24) _ _
        refine q_cn x24 (fun b25 => ?_) (fun b25 => ?_)
        ·replace hm := qA b25 hm
         refine q_vu [] 4 [13, 89] [] [2, 3] [(2, bx 144 (e_Cutting_choice x22))] ?_
         exact q_J (x22) hm
        ·replace hm := qB b25 hm
         refine q_sk ?_
         exact q_J (x6) hm
       ·rcases Bool.eq_false_or_eq_true ((x6.piece.Size == (-1)) && ((x6.piece.At == (-1)) && true)) with b23 | b23
        ·replace hm := qA b23 hm
         refine q_vu [qf 4 b23] 4 [] [(89, vb true)] [] [] ?_
         exact q_J (true) hm
        ·replace hm := qB b23 hm
         refine q_vu [qf 4 b23] 4 [] [(89, vb (decide (x22.value > x6.value)))] [] [] ?_
         exact q_J (decide (x22.value > x6.value)) hm
      ·refine q_sq ?_
       obtain ⟨v16, h17, hm⟩ := qC hm
       refine q_vu [qc 2 [55, 56] 4 (AZ a1 (w64 (a2 + (a1.Sizes.getD x5.toNat default))) v16 h17)] 4 [] [(14, vi v16)] [] [] ?_
       refine q_sq ?_
       refine q_vu [] 4 [] [(59, vb (decide (v16 ≥ 0)))] [] [] ?_
       refine q_cn (decide (v16 ≥ 0)) (fun b18 => ?_) (fun b18 => ?_)
       ·replace hm := qA b18 hm
        obtain ⟨g19, hm⟩ := qM hm
        obtain ⟨g20, hm⟩ := qM hm
        obtain ⟨g21, hm⟩ := qM hm
        refine q_du [qd 4 (Dir.none) (inb_of g19), qd 8 (Dir.none) (inb_of g20), qd 13 (Dir.none) (inb_of g21)] [0, 1, 0, 0, 12, 28, 0, 0, 192, 448, 1020, 0, 0, 6144, 14336, 30720, 65532, 131071, 262143, 524287] 4 [12, 14, 59] [] [3] [(3, bx 144 [ci x5, ci a2, ci (w64 (((a1.Gain.getD x5.toNat default).getD a2.toNat default) + (w64 ((w64 ((a3.getD v16.toNat default) - (a3.getD (w64 (a2 + (a1.Sizes.getD x5.toNat default))).toNat default))) + ((a4.getD v16.toNat default).value)))))])] ?_
        exact q_J ((Cutting_choice.mk (Piece.mk x5 a2) (w64 (((a1.Gain.getD x5.toNat default).getD a2.toNat default) + (w64 ((w64 ((a3.getD v16.toNat default) - (a3.getD (w64 (a2 + (a1.Sizes.getD x5.toNat default))).toNat default))) + ((a4.getD v16.toNat default).value))))))) hm
       ·replace hm := qB b18 hm
        refine q_sk ?_
        exact q_J ((Cutting_choice.mk (Piece.mk x5 a2) ((a1.Gain.getD x5.toNat default).getD a2.toNat default))) hm
    ·rcases Bool.eq_false_or_eq_true (decide ((w64 (a2 + (a1.Sizes.getD x5.toNat default))) > a1.Len)) with b9 | b9
     ·replace hm := qA b9 hm
      refine q_vu [qf 4 b9] 3 [] [(42, vb true)] [] [] ?_
      exact q_J (true) hm
     ·replace hm := qB b9 hm
      obtain ⟨g10, hm⟩ := qM hm
      obtain ⟨g11, hm⟩ := qM hm
      refine q_vu [qf 4 b9, qd 8 (Dir.none) (inb_of g10), qd 11 (Dir.none) (inb_of g11)] 3 [] [(42, vb (decide (((a1.Gain.getD x5.toNat default).getD a2.toNat default) < 0)))] [] [] ?_
      exact q_J (decide (((a1.Gain.getD x5.toNat default).getD a2.toNat default) < 0)) hm
  ·replace hm := qB b7 hm
   refine q_ex 0 ?_
   obtain rfl := Option.some.inj hm
   exact yM (by kernel_rfl) (by kernel_rfl)
theorem cutting_start_ok (a1 : Line) (a2 : Int) (a3 : List Int) (a4 : List Cutting_choice) (r : Cutting_choice) (hm : TZ a1 a2 a3 a4 = some r) : CtX Tryd.prog globs 87 0 0 [.agg (zT a1), .one (ci a2), .one (tl e_i64 default a3), .one (tl e_Cutting_choice default a4)] [] (qAH r) (VA r) := by
 unfold TZ at hm
 refine q_E Tryd.f87 93 fun E => ?_
 refine q_sq ?_
 refine q_vn [] 0 ⟨[(1, vi a2), (2, vc (tl e_i64 default a3)), (3, vc (tl e_Cutting_choice default a4)), (4, vp 0 0), (8, vp 1 0)], [(0, bx 63 (zT a1)), (1, bx 144 [ci 0, ci 0, ci 0])]⟩ ?_
 refine q_sq ?_
 refine q_vu [] 2 [] [(9, vp 2 0)] [] [(2, bx 144 [ci (-1), ci (-1), ci 0])] ?_
 refine q_sq ?_
 refine q_sq ?_
 refine q_vu [] 3 [] [(18, vc (tl e_i64 default a1.Sizes)), (19, vi ((a1.Sizes.length : Nat) : Int)), (20, vi 0)] [] [] ?_
 obtain ⟨o28, h29, hm⟩ := qC hm
 refine wB (nd Tryd.f87 116) 0 (by kernel_rfl) FUEL (fun o => EP o) o28 (q_hl (VV a1 a2 a3 a4 0 (Cutting_choice.mk (Piece.mk (-1) (-1)) 0)) (qCU E a1 a2 a3 a4 FUEL 0 (Cutting_choice.mk (Piece.mk (-1) (-1)) 0) o28 h29)) ?_
 refine q_sq ?_
 refine q_vu [] 3 [9] [] [1, 2] [(1, bx 144 (e_Cutting_choice o28))] ?_
 obtain rfl := Option.some.inj hm
 refine q_rt ?_
 exact q_rm
def qHI (r : (List Int)) : V := vo 0 0 1 r.length
def qHF (r : (List Int)) : List (Nat × (Nat × O)) := [(0, ro 0 3 1 r.length (rf e_i64 r))]
def BL (a1 : List Int) (l3 : List Int) (l3n : Nat) (x4 : Int) : St :=
 ⟨[(3, vo 0 0 1 l3n), (10, vc (tl e_i64 default a1)), (11, vi ((a1.length : Nat) : Int)), (12, vi x4)], [(0, ro 0 3 1 l3n (rf e_i64 l3))]⟩
def IH (l9 : List Int) : St :=
 ⟨[(3, vo 0 0 1 l9.length)], [(0, ro 0 3 1 l9.length (rf e_i64 l9))]⟩
theorem qC3 (E : Env 0) (a1 : List Int) : ∀ (n : Nat) (l3 : List Int) (l3n : Nat) (x4 : Int) (res : (List Int)), l3.length = l3n → WW a1 n l3 x4 = some res → HL (kx E 29 0) (nd Tryd.f86 116) (wO 0 (fun o => IH o) res) n (BL a1 l3 l3n x4) := by
 intro n
 induction n with
 | zero =>
  intro l3 l3n x4 res hl0 hm
  cases hm
 | succ n ih =>
  intro l3 l3n x4 res hl0 hm
  subst hl0
  refine qQ ?_
  refine q_sq ?_
  refine q_vu [] 1 [] [(13, vb (decide (x4 < ((a1.length : Nat) : Int))))] [] [] ?_
  refine q_sq ?_
  refine q_cn (decide (x4 < ((a1.length : Nat) : Int))) (fun b5 => ?_) (fun b5 => ?_)
  ·replace hm := qA b5 hm
   refine q_sk ?_
   refine q_sq ?_
   refine q_bk 1 ?_
   refine q_sq ?_
   obtain ⟨g6, hm⟩ := qM hm
   refine q_vu [qd 1 (Dir.none) (inb_of g6)] 1 [13] [(4, vi x4), (5, vi (a1.getD x4.toNat default))] [] [] ?_
   obtain ⟨g7, hm⟩ := qM hm
   obtain ⟨g8, hm⟩ := qM hm
   refine q_vu [qd 5 (Dir.none) (inb_of g7), qd 6 (Dir.none) (toNat_lt (inb_of g7)), qd 9 (Dir.none) (inb_of g8), qd 10 (drw 0 0 (rf e_i64 (l3.set ((w64 (x4 + 1)).toNat) (w64 ((l3.getD x4.toNat default) + (a1.getD x4.toNat default)))))) (stP e_i64 default (w64 ((l3.getD x4.toNat default) + (a1.getD x4.toNat default))) l3 l3.length ((w64 (x4 + 1)).toNat) 0 [ci (w64 ((l3.getD x4.toNat default) + (a1.getD x4.toNat default)))] rfl (toNat_lt (inb_of g8)) rfl)] 1 [4, 5] [] [0] [(0, ro 0 3 1 l3.length (rf e_i64 (l3.set ((w64 (x4 + 1)).toNat) (w64 ((l3.getD x4.toNat default) + (a1.getD x4.toNat default))))))] ?_
   refine q_vu [] 1 [12] [(12, vi (w64 (x4 + 1)))] [] [] ?_
   exact q_hl (BL a1 (l3.set ((w64 (x4 + 1)).toNat) (w64 ((l3.getD x4.toNat default) + (a1.getD x4.toNat default)))) l3.length (w64 (x4 + 1))) (ih (l3.set ((w64 (x4 + 1)).toNat) (w64 ((l3.getD x4.toNat default) + (a1.getD x4.toNat default)))) l3.length (w64 (x4 + 1)) _ (len_set rfl) hm)
  ·replace hm := qB b5 hm
   refine q_ex 0 ?_
   obtain rfl := Option.some.inj hm
   exact yM (by kernel_rfl) (by kernel_rfl)
theorem qAD (a1 : List Int) (r : (List Int)) (hm : RA a1 = some r) : CtX Tryd.prog globs 86 0 0 [.one (tl e_i64 default a1)] [] (qHI r) (qHF r) := by
 unfold RA at hm
 refine q_E Tryd.f86 29 fun E => ?_
 refine q_sq ?_
 refine q_vn [] 0 ⟨[(0, vc (tl e_i64 default a1))], []⟩ ?_
 refine q_sq ?_
 obtain ⟨g2, hm⟩ := qM hm
 refine q_vu [qd 3 (drw 0 0 (rf e_i64 (List.replicate ((w64 (((a1.length : Nat) : Int) + 1)).toNat) 0))) (mkP e_i64 default 0 (w64 (((a1.length : Nat) : Int) + 1)) 8 [ci 0] (qEc g2) rfl)] 0 [] [(3, vo 0 0 1 ((w64 (((a1.length : Nat) : Int) + 1)).toNat))] [] [(0, ro 0 3 1 ((w64 (((a1.length : Nat) : Int) + 1)).toNat) (rf e_i64 (List.replicate ((w64 (((a1.length : Nat) : Int) + 1)).toNat) 0)))] ?_
 refine q_sq ?_
 refine q_sq ?_
 refine q_vu [] 1 [0] [(10, vc (tl e_i64 default a1)), (11, vi ((a1.length : Nat) : Int)), (12, vi 0)] [] [] ?_
 obtain ⟨o10, h11, hm⟩ := qC hm
 refine wB (nd Tryd.f86 116) 0 (by kernel_rfl) FUEL (fun o => IH o) o10 (q_hl (BL a1 (List.replicate ((w64 (((a1.length : Nat) : Int) + 1)).toNat) 0) ((w64 (((a1.length : Nat) : Int) + 1)).toNat) 0) (qC3 E a1 FUEL (List.replicate ((w64 (((a1.length : Nat) : Int) + 1)).toNat) 0) ((w64 (((a1.length : Nat) : Int) + 1)).toNat) 0 o10 qD9 h11)) ?_
 refine q_sq ?_
 refine q_vu [] 1 [3] [(2, vo 0 0 1 o10.length)] [] [] ?_
 obtain rfl := Option.some.inj hm
 refine q_rt ?_
 exact q_rm
set_option maxRecDepth 100000
def qEz (r : (List Cutting_choice)) : V := vo 0 0 3 r.length
def qEp (r : (List Cutting_choice)) : List (Nat × (Nat × O)) := [(0, ro 0 144 3 r.length (rf e_Cutting_choice r))]
def MF (a1 : Line) (v2 : (List Int)) (v4 : (List Int)) (l7 : List Cutting_choice) (l8 : List Cutting_choice) (x9 : Int) (v11 : Cutting_choice) (x20 : Int) (x31 : Cutting_choice) : St :=
 ⟨[(1, vp 0 0), (3, vo 1 0 1 v2.length), (4, vo 2 0 1 v4.length), (5, vo 3 0 3 l7.length), (6, vo 4 0 3 l8.length), (7, vi x9), (8, vp 5 0), (10, vi x20)], [(0, bx 63 (zT a1)), (1, ro 0 3 1 v2.length (rf e_i64 v2)), (2, ro 0 3 1 v4.length (rf e_i64 v4)), (3, ro 0 144 3 l7.length (rf e_Cutting_choice l7)), (4, ro 0 144 3 l8.length (rf e_Cutting_choice (l8.set x9.toNat v11))), (5, bx 144 (e_Cutting_choice x31))]⟩
def LR (a1 : Line) (v2 : (List Int)) (v4 : (List Int)) (l7 : List Cutting_choice) (l8 : List Cutting_choice) (x9 : Int) (v11 : Cutting_choice) (x20 : Int) (x21 : Cutting_choice) (x29 : Bool) : St :=
 ⟨[(1, vp 0 0), (3, vo 1 0 1 v2.length), (4, vo 2 0 1 v4.length), (5, vo 3 0 3 l7.length), (6, vo 4 0 3 l8.length), (7, vi x9), (8, vp 5 0), (10, vi x20), (11, vp 7 0), (125, vb x29)], [(0, bx 63 (zT a1)), (1, ro 0 3 1 v2.length (rf e_i64 v2)), (2, ro 0 3 1 v4.length (rf e_i64 v4)), (3, ro 0 144 3 l7.length (rf e_Cutting_choice l7)), (4, ro 0 144 3 l8.length (rf e_Cutting_choice (l8.set x9.toNat v11))), (5, bx 144 (e_Cutting_choice x21)), (7, bx 144 [ci ((((l8.set x9.toNat v11).getD x20.toNat default).piece).Size), ci ((((l8.set x9.toNat v11).getD x20.toNat default).piece).At), ci (w64 ((((l8.set x9.toNat v11).getD x20.toNat default).value) + (w64 ((w64 ((w64 ((v2.getD ((w64 (x20 - a1.Kerf)).toNat) default) - (v2.getD x9.toNat default))) + (v4.getD x20.toNat default))) - (v4.getD ((w64 (x20 - a1.Kerf)).toNat) default)))))])]⟩
def RT (a1 : Line) (v2 : (List Int)) (v4 : (List Int)) (l7 : List Cutting_choice) (l8 : List Cutting_choice) (x9 : Int) (v11 : Cutting_choice) (x20 : Int) (x21 : Cutting_choice) : St :=
 ⟨[(1, vp 0 0), (3, vo 1 0 1 v2.length), (4, vo 2 0 1 v4.length), (5, vo 3 0 3 l7.length), (6, vo 4 0 3 l8.length), (7, vi x9), (8, vp 5 0), (10, vi x20)], [(0, bx 63 (zT a1)), (1, ro 0 3 1 v2.length (rf e_i64 v2)), (2, ro 0 3 1 v4.length (rf e_i64 v4)), (3, ro 0 144 3 l7.length (rf e_Cutting_choice l7)), (4, ro 0 144 3 l8.length (rf e_Cutting_choice (l8.set x9.toNat v11))), (5, bx 144 (e_Cutting_choice x21))]⟩
def LT (a1 : Line) (v2 : (List Int)) (v4 : (List Int)) (l7 : List Cutting_choice) (l8 : List Cutting_choice) (x9 : Int) (v11 : Cutting_choice) (x32 : Cutting_choice) : St :=
 ⟨[(1, vp 0 0), (3, vo 1 0 1 v2.length), (4, vo 2 0 1 v4.length), (5, vo 3 0 3 l7.length), (6, vo 4 0 3 l8.length), (7, vi x9), (8, vp 5 0)], [(0, bx 63 (zT a1)), (1, ro 0 3 1 v2.length (rf e_i64 v2)), (2, ro 0 3 1 v4.length (rf e_i64 v4)), (3, ro 0 144 3 l7.length (rf e_Cutting_choice l7)), (4, ro 0 144 3 l8.length (rf e_Cutting_choice (l8.set x9.toNat v11))), (5, bx 144 (e_Cutting_choice x32))]⟩
def MK (a1 : Line) (v2 : (List Int)) (v4 : (List Int)) (l7 : List Cutting_choice) (l8 : List Cutting_choice) (x9 : Int) (v11 : Cutting_choice) (x19 : Cutting_choice) : St :=
 ⟨[(1, vp 0 0), (3, vo 1 0 1 v2.length), (4, vo 2 0 1 v4.length), (5, vo 3 0 3 l7.length), (6, vo 4 0 3 l8.length), (7, vi x9), (8, vp 5 0)], [(0, bx 63 (zT a1)), (1, ro 0 3 1 v2.length (rf e_i64 v2)), (2, ro 0 3 1 v4.length (rf e_i64 v4)), (3, ro 0 144 3 l7.length (rf e_Cutting_choice l7)), (4, ro 0 144 3 l8.length (rf e_Cutting_choice (l8.set x9.toNat v11))), (5, bx 144 (e_Cutting_choice x19))]⟩
def ME (a1 : Line) (v2 : (List Int)) (v4 : (List Int)) (l7 : List Cutting_choice) (l8 : List Cutting_choice) (x9 : Int) (v11 : Cutting_choice) (x17 : Bool) : St :=
 ⟨[(1, vp 0 0), (3, vo 1 0 1 v2.length), (4, vo 2 0 1 v4.length), (5, vo 3 0 3 l7.length), (6, vo 4 0 3 l8.length), (7, vi x9), (8, vp 5 0), (9, vp 6 0), (67, vb x17)], [(0, bx 63 (zT a1)), (1, ro 0 3 1 v2.length (rf e_i64 v2)), (2, ro 0 3 1 v4.length (rf e_i64 v4)), (3, ro 0 144 3 l7.length (rf e_Cutting_choice l7)), (4, ro 0 144 3 l8.length (rf e_Cutting_choice (l8.set x9.toNat v11))), (5, bx 144 [ci (-1), ci (-1), ci (w64 ((v2.getD a1.Len.toNat default) - (v2.getD x9.toNat default)))]), (6, bx 144 [ci ((((l8.set x9.toNat v11).getD x9.toNat default).piece).Size), ci ((((l8.set x9.toNat v11).getD x9.toNat default).piece).At), ci (((l8.set x9.toNat v11).getD x9.toNat default).value)])]⟩
def TD (a1 : Line) (v2 : (List Int)) (v4 : (List Int)) (l7 : List Cutting_choice) (l7n : Nat) (l8 : List Cutting_choice) (l8n : Nat) (x9 : Int) : St :=
 ⟨[(1, vp 0 0), (3, vo 1 0 1 v2.length), (4, vo 2 0 1 v4.length), (5, vo 3 0 3 l7n), (6, vo 4 0 3 l8n), (7, vi x9)], [(0, bx 63 (zT a1)), (1, ro 0 3 1 v2.length (rf e_i64 v2)), (2, ro 0 3 1 v4.length (rf e_i64 v4)), (3, ro 0 144 3 l7n (rf e_Cutting_choice l7)), (4, ro 0 144 3 l8n (rf e_Cutting_choice l8))]⟩
def MB (l36 : List Cutting_choice) : St :=
 ⟨[(5, vo 3 0 3 l36.length)], [(3, ro 0 144 3 l36.length (rf e_Cutting_choice l36))]⟩
theorem qBD (E : Env 0) (a1 : Line) (v2 : (List Int)) (v4 : (List Int)) (l7 : List Cutting_choice) (l8 : List Cutting_choice) (x9 : Int) (v11 : Cutting_choice) : ∀ (n : Nat) (x20 : Int) (x21 : Cutting_choice) (res : Cutting_choice), zU a1 v2 v4 l8 x9 v11 n x20 x21 = some res → HL (kx E 132 0) (nd Tryd.f62 512628) (wO 2 (fun o => LT a1 v2 v4 l7 l8 x9 v11 o) res) n (RT a1 v2 v4 l7 l8 x9 v11 x20 x21) := by
 intro n
 induction n with
 | zero =>
  intro x20 x21 res hm
  cases hm
 | succ n ih =>
  intro x20 x21 res hm
  refine qQ ?_
  refine q_sq ?_
  refine q_sq ?_
  refine q_vu [] 7 [] [(79, vb (decide (x20 ≤ a1.Len)))] [] [] ?_
  refine q_cn (decide (x20 ≤ a1.Len)) (fun b22 => ?_) (fun b22 => ?_)
  ·replace hm := qA b22 hm
   refine q_sk ?_
   refine q_jn (ι := Cutting_choice) (fun p => MF a1 v2 v4 l7 l8 x9 v11 x20 p) (fun p => XR a1 x20 (zU a1 v2 v4 l8 x9 v11 n) p = some res) ?_ ?_
   ·rintro x31 hm
    show H _ (MF a1 v2 v4 l7 l8 x9 v11 x20 x31) _ _
    refine q_vu [] 8 [10] [(10, vi (w64 (x20 + a1.Pitch)))] [] [] ?_
    exact q_hl (RT a1 v2 v4 l7 l8 x9 v11 (w64 (x20 + a1.Pitch)) x31) (ih (w64 (x20 + a1.Pitch)) x31 _ hm)
   ·refine q_bk 3 ?_
    refine q_sq ?_
    obtain ⟨g23, hm⟩ := qM hm
    refine q_vu [qd 2 (Dir.none) (inb_of g23), qd 3 (Dir.none) (toNat_lt (inb_of g23))] 7 [79] [(11, vp 7 0)] [] [(7, bx 144 [ci ((((l8.set x9.toNat v11).getD x20.toNat default).piece).Size), ci ((((l8.set x9.toNat v11).getD x20.toNat default).piece).At), ci (((l8.set x9.toNat v11).getD x20.toNat default).value)])] ?_
    refine q_sq ?_
    refine q_vu [] 8 [] [(12, vi (w64 (x20 - a1.Kerf)))] [] [] ?_
    refine q_sq ?_
    obtain ⟨g24, hm⟩ := qM hm
    obtain ⟨g25, hm⟩ := qM hm
    obtain ⟨g26, hm⟩ := qM hm
    obtain ⟨g27, hm⟩ := qM hm
    refine q_du [qd 4 (Dir.none) (inb_of g24), qd 5 (Dir.none) (toNat_lt (inb_of g24)), qd 8 (Dir.none) (inb_of g25), qd 9 (Dir.none) (toNat_lt (inb_of g25)), qd 13 (Dir.none) (inb_of g26), qd 14 (Dir.none) (toNat_lt (inb_of g26)), qd 18 (Dir.none) (inb_of g27), qd 19 (Dir.none) (toNat_lt (inb_of g27))] [0, 1, 0, 0, 12, 28, 0, 0, 192, 448, 1020, 0, 0, 6144, 14336, 32764, 0, 0, 196608, 458752, 1048572, 2097151, 4194303, 8388607] 8 [12] [] [7] [(7, bx 144 [ci ((((l8.set x9.toNat v11).getD x20.toNat default).piece).Size), ci ((((l8.set x9.toNat v11).getD x20.toNat default).piece).At), ci (w64 ((((l8.set x9.toNat v11).getD x20.toNat default).value) + (w64 ((w64 ((w64 ((v2.getD ((w64 (x20 - a1.Kerf)).toNat) default) - (v2.getD x9.toNat default))) + (v4.getD x20.toNat default))) - (v4.getD ((w64 (x20 - a1.Kerf)).toNat) default)))))])] ?_
    refine q_jn (ι := Bool) (fun p => LR a1 v2 v4 l7 l8 x9 v11 x20 x21 p) (fun p => KE a1 v2 v4 l8 x9 v11 x20 x21 (zU a1 v2 v4 l8 x9 v11 n) p = some res) ?_ ?_
    ·rintro x29 hm
     show H _ (LR a1 v2 v4 l7 l8 x9 v11 x20 x21 x29) _ _
     refine q_cn x29 (fun b30 => ?_) (fun b30 => ?_)
     ·replace hm := qA b30 hm
      refine q_vu [] 8 [11, 125] [] [5, 7] [(5, bx 144 [ci ((((l8.set x9.toNat v11).getD x20.toNat default).piece).Size), ci ((((l8.set x9.toNat v11).getD x20.toNat default).piece).At), ci (w64 ((((l8.set x9.toNat v11).getD x20.toNat default).value) + (w64 ((w64 ((w64 ((v2.getD ((w64 (x20 - a1.Kerf)).toNat) default) - (v2.getD x9.toNat default))) + (v4.getD x20.toNat default))) - (v4.getD ((w64 (x20 - a1.Kerf)).toNat) default)))))])] ?_
      exact q_J ((Cutting_choice.mk (((l8.set x9.toNat v11).getD x20.toNat default).piece) (w64 ((((l8.set x9.toNat v11).getD x20.toNat default).value) + (w64 ((w64 ((w64 ((v2.getD ((w64 (x20 - a1.Kerf)).toNat) default) - (v2.getD x9.toNat default))) + (v4.getD x20.toNat default))) - (v4.getD ((w64 (x20 - a1.Kerf)).toNat) default))))))) hm
     ·replace hm := qB b30 hm
      refine q_sk ?_
      exact q_J (x21) hm
    ·rcases Bool.eq_false_or_eq_true (!((((((l8.set x9.toNat v11).getD x20.toNat default).piece).Size) == (-1)) && ((((((l8.set x9.toNat v11).getD x20.toNat default).piece).At) == (-1)) && true))) with b28 | b28
     ·replace hm := qA b28 hm
      refine q_vu [qf 4 b28] 8 [] [(125, vb (decide ((w64 ((((l8.set x9.toNat v11).getD x20.toNat default).value) + (w64 ((w64 ((w64 ((v2.getD ((w64 (x20 - a1.Kerf)).toNat) default) - (v2.getD x9.toNat default))) + (v4.getD x20.toNat default))) - (v4.getD ((w64 (x20 - a1.Kerf)).toNat) default))))) > x21.value)))] [] [] ?_
      exact q_J (decide ((w64 ((((l8.set x9.toNat v11).getD x20.toNat default).value) + (w64 ((w64 ((w64 ((v2.getD ((w64 (x20 - a1.Kerf)).toNat) default) - (v2.getD x9.toNat default))) + (v4.getD x20.toNat default))) - (v4.getD ((w64 (x20 - a1.Kerf)).toNat) default))))) > x21.value)) hm
     ·replace hm := qB b28 hm
      refine q_vu [qf 4 b28] 8 [] [(125, vb false)] [] [] ?_
      exact q_J (false) hm
  ·replace hm := qB b22 hm
   refine q_ex 2 ?_
   obtain rfl := Option.some.inj hm
   exact yM (by kernel_rfl) (by kernel_rfl)
theorem qBR (E : Env 0) (a1 : Line) (v2 : (List Int)) (v4 : (List Int)) : ∀ (n : Nat) (l7 : List Cutting_choice) (l7n : Nat) (l8 : List Cutting_choice) (l8n : Nat) (x9 : Int) (res : (List Cutting_choice)), l7.length = l7n → l8.length = l8n → wF a1 v2 v4 n l7 l8 x9 = some res → HL (kx E 132 0) (nd Tryd.f62 500) (wO 0 (fun o => MB o) res) n (TD a1 v2 v4 l7 l7n l8 l8n x9) := by
 intro n
 induction n with
 | zero =>
  intro l7 l7n l8 l8n x9 res hl0 hl1 hm
  cases hm
 | succ n ih =>
  intro l7 l7n l8 l8n x9 res hl0 hl1 hm
  subst hl0
  subst hl1
  refine qQ ?_
  refine q_sq ?_
  refine q_sq ?_
  refine q_vu [] 5 [] [(30, vb (decide (x9 ≥ 0)))] [] [] ?_
  refine q_cn (decide (x9 ≥ 0)) (fun b10 => ?_) (fun b10 => ?_)
  ·replace hm := qA b10 hm
   refine q_sk ?_
   refine q_sq ?_
   refine q_bk 1 ?_
   refine q_sq ?_
   obtain ⟨v11, h12, hm⟩ := qC hm
   obtain ⟨g13, hm⟩ := qM hm
   refine q_vu [qd 6 (dex (cen [] [] 5 0 (qAH v11) (VA v11) [35, 36, 37, 38] [2, 3])) (WA (K := (kx E 132 0)) (b := false) ⟨[(35, va (zT a1)), (36, vi x9), (37, vo 2 0 1 v4.length), (38, vo 3 0 3 l7.length)], [(2, ro 0 3 1 v4.length (rf e_i64 v4)), (3, ro 0 144 3 l7.length (rf e_Cutting_choice l7))]⟩ (opAt (rg Tryd.f62 8008) 6) [] [] 5 (o1 (And.intro (Nat.le_refl v4.length) (Nat.le_refl l7.length))) rfl (cutting_start_ok a1 x9 v4 l7 v11 h12) (.inr ⟨(by kernel_rfl), qFV v11⟩) (by kernel_rfl)), qd 7 (Dir.none) (inb_of g13), qd 8 (drw 0 0 (rf e_Cutting_choice (l8.set x9.toNat v11))) (stP e_Cutting_choice default v11 l8 l8.length x9.toNat 0 (e_Cutting_choice v11) rfl (toNat_lt (inb_of g13)) rfl)] 5 [30] [] [4] [(4, ro 0 144 3 l8.length (rf e_Cutting_choice (l8.set x9.toNat v11)))] ?_
   refine q_sq ?_
   obtain ⟨g14, hm⟩ := qM hm
   obtain ⟨g15, hm⟩ := qM hm
   refine q_du [qd 4 (Dir.none) (inb_of g14), qd 5 (Dir.none) (toNat_lt (inb_of g14)), qd 8 (Dir.none) (inb_of g15), qd 9 (Dir.none) (toNat_lt (inb_of g15))] [0, 0, 0, 4, 14, 30, 0, 0, 192, 448, 1022, 2047, 0, 8191] 5 [] [(8, vp 5 0)] [] [(5, bx 144 [ci (-1), ci (-1), ci (w64 ((v2.getD a1.Len.toNat default) - (v2.getD x9.toNat default)))])] ?_
   refine q_jn (ι := Cutting_choice) (fun p => MK a1 v2 v4 l7 l8 x9 v11 p) (fun p => XM a1 v2 v4 l7 l8 x9 (wF a1 v2 v4 n) v11 p = some res) ?_ ?_
   ·rintro x19 hm
    show H _ (MK a1 v2 v4 l7 l8 x9 v11 x19) _ _
    refine q_sq ?_
    refine q_sq ?_
    refine q_vu [] 7 [] [(10, vi (w64 ((w64 (x9 + a1.Pitch)) + a1.Kerf)))] [] [] ?_
    obtain ⟨o33, h34, hm⟩ := qC hm
    refine wB (nd Tryd.f62 512628) 2 (by kernel_rfl) FUEL (fun o => LT a1 v2 v4 l7 l8 x9 v11 o) o33 (q_hl (RT a1 v2 v4 l7 l8 x9 v11 (w64 ((w64 (x9 + a1.Pitch)) + a1.Kerf)) x19) (qBD E a1 v2 v4 l7 l8 x9 v11 FUEL (w64 ((w64 (x9 + a1.Pitch)) + a1.Kerf)) x19 o33 h34)) ?_
    obtain ⟨g35, hm⟩ := qM hm
    refine q_vu [qd 3 (Dir.none) (inb_of g35), qd 4 (drw 0 0 (rf e_Cutting_choice (l7.set x9.toNat o33))) (stP e_Cutting_choice default o33 l7 l7.length x9.toNat 0 (e_Cutting_choice o33) rfl (toNat_lt (inb_of g35)) rfl)] 7 [8] [] [3, 5] [(3, ro 0 144 3 l7.length (rf e_Cutting_choice (l7.set x9.toNat o33)))] ?_
    refine q_vu [] 7 [7] [(7, vi (w64 (x9 - 1)))] [] [] ?_
    exact q_hl (TD a1 v2 v4 (l7.set x9.toNat o33) l7.length (l8.set x9.toNat v11) l8.length (w64 (x9 - 1))) (ih (l7.set x9.toNat o33) l7.length (l8.set x9.toNat v11) l8.length (w64 (x9 - 1)) _ (len_set rfl) (len_set rfl) hm)
   ·refine q_sq ?_
    refine q_vu [qd 2 (Dir.none) (inb_of g13), qd 3 (Dir.none) (toNat_lt (inb_of g13))] 6 [] [(9, vp 6 0)] [] [(6, bx 144 [ci ((((l8.set x9.toNat v11).getD x9.toNat default).piece).Size), ci ((((l8.set x9.toNat v11).getD x9.toNat default).piece).At), ci (((l8.set x9.toNat v11).getD x9.toNat default).value)])] ?_
    refine q_jn (ι := Bool) (fun p => ME a1 v2 v4 l7 l8 x9 v11 p) (fun p => XY a1 v2 v4 l7 l8 x9 (wF a1 v2 v4 n) v11 p = some res) ?_ ?_
    ·rintro x17 hm
     show H _ (ME a1 v2 v4 l7 l8 x9 v11 x17) _ _
     refine q_cn x17 (fun b18 => ?_) (fun b18 => ?_)
     ·replace hm := qA b18 hm
      refine q_vu [] 7 [9, 67] [] [5, 6] [(5, bx 144 [ci ((((l8.set x9.toNat v11).getD x9.toNat default).piece).Size), ci ((((l8.set x9.toNat v11).getD x9.toNat default).piece).At), ci (((l8.set x9.toNat v11).getD x9.toNat default).value)])] ?_
      exact q_J (((l8.set x9.toNat v11).getD x9.toNat default)) hm
     ·replace hm := qB b18 hm
      refine q_sk ?_
      exact q_J ((Cutting_choice.mk (Piece.mk (-1) (-1)) (w64 ((v2.getD a1.Len.toNat default) - (v2.getD x9.toNat default))))) hm
    ·rcases Bool.eq_false_or_eq_true (!((((((l8.set x9.toNat v11).getD x9.toNat default).piece).Size) == (-1)) && ((((((l8.set x9.toNat v11).getD x9.toNat default).piece).At) == (-1)) && true))) with b16 | b16
     ·replace hm := qA b16 hm
      refine q_vu [qf 4 b16] 7 [] [(67, vb (decide ((((l8.set x9.toNat v11).getD x9.toNat default).value) > (w64 ((v2.getD a1.Len.toNat default) - (v2.getD x9.toNat default))))))] [] [] ?_
      exact q_J (decide ((((l8.set x9.toNat v11).getD x9.toNat default).value) > (w64 ((v2.getD a1.Len.toNat default) - (v2.getD x9.toNat default))))) hm
     ·replace hm := qB b16 hm
      refine q_vu [qf 4 b16] 7 [] [(67, vb false)] [] [] ?_
      exact q_J (false) hm
  ·replace hm := qB b10 hm
   refine q_ex 0 ?_
   obtain rfl := Option.some.inj hm
   exact yM (by kernel_rfl) (by kernel_rfl)
theorem qDD (a1 : Line) (r : (List Cutting_choice)) (hm : KD a1 = some r) : CtX Tryd.prog globs 62 0 0 [.agg (zT a1)] [] (qEz r) (qEp r) := by
 unfold KD at hm
 refine q_E Tryd.f62 132 fun E => ?_
 refine q_sq ?_
 refine q_vn [] 0 ⟨[(1, vp 0 0)], [(0, bx 63 (zT a1))]⟩ ?_
 refine q_sq ?_
 obtain ⟨v2, h3, hm⟩ := qC hm
 obtain ⟨v4, h5, hm⟩ := qC hm
 refine q_du [qc 2 [14] 1 (qAD a1.Chip v2 h3), qc 5 [17] 2 (qAD a1.Dust v4 h5)] [0, 1, 3, 0, 8, 31, 63, 127] 1 [] [(3, vo 1 0 1 v2.length), (4, vo 2 0 1 v4.length)] [] [(1, ro 0 3 1 v2.length (rf e_i64 v2)), (2, ro 0 3 1 v4.length (rf e_i64 v4))] ?_
 refine q_sq ?_
 obtain ⟨g6, hm⟩ := qM hm
 refine q_vu [qd 3 (drw 3 0 (rf e_Cutting_choice (List.replicate ((w64 (a1.Len + 1)).toNat) (Cutting_choice.mk (Piece.mk 0 0) 0)))) (mkP e_Cutting_choice default (Cutting_choice.mk (Piece.mk 0 0) 0) (w64 (a1.Len + 1)) 24 [ci 0, ci 0, ci 0] (qEc g6) rfl)] 3 [] [(5, vo 3 0 3 ((w64 (a1.Len + 1)).toNat))] [] [(3, ro 0 144 3 ((w64 (a1.Len + 1)).toNat) (rf e_Cutting_choice (List.replicate ((w64 (a1.Len + 1)).toNat) (Cutting_choice.mk (Piece.mk 0 0) 0))))] ?_
 refine q_sq ?_
 refine q_vu [qd 3 (drw 4 0 (rf e_Cutting_choice (List.replicate ((w64 (a1.Len + 1)).toNat) (Cutting_choice.mk (Piece.mk 0 0) 0)))) (mkP e_Cutting_choice default (Cutting_choice.mk (Piece.mk 0 0) 0) (w64 (a1.Len + 1)) 24 [ci 0, ci 0, ci 0] (qEc g6) rfl)] 4 [] [(6, vo 4 0 3 ((w64 (a1.Len + 1)).toNat))] [] [(4, ro 0 144 3 ((w64 (a1.Len + 1)).toNat) (rf e_Cutting_choice (List.replicate ((w64 (a1.Len + 1)).toNat) (Cutting_choice.mk (Piece.mk 0 0) 0))))] ?_
 refine q_sq ?_
 refine q_sq ?_
 refine q_vu [] 5 [] [(7, vi a1.Len)] [] [] ?_
 obtain ⟨o37, h38, hm⟩ := qC hm
 refine wB (nd Tryd.f62 500) 0 (by kernel_rfl) FUEL (fun o => MB o) o37 (q_hl (TD a1 v2 v4 (List.replicate ((w64 (a1.Len + 1)).toNat) (Cutting_choice.mk (Piece.mk 0 0) 0)) ((w64 (a1.Len + 1)).toNat) (List.replicate ((w64 (a1.Len + 1)).toNat) (Cutting_choice.mk (Piece.mk 0 0) 0)) ((w64 (a1.Len + 1)).toNat) a1.Len) (qBR E a1 v2 v4 FUEL (List.replicate ((w64 (a1.Len + 1)).toNat) (Cutting_choice.mk (Piece.mk 0 0) 0)) ((w64 (a1.Len + 1)).toNat) (List.replicate ((w64 (a1.Len + 1)).toNat) (Cutting_choice.mk (Piece.mk 0 0) 0)) ((w64 (a1.Len + 1)).toNat) a1.Len o37 qD9 qD9 h38)) ?_
 refine q_sq ?_
 refine q_vu [] 5 [5] [(2, vo 3 0 3 o37.length)] [] [] ?_
 obtain rfl := Option.some.inj hm
 refine qZ 3 0 (by kernel_rfl) ?_
 refine q_rt ?_
 exact q_rm
open Go.Proofs
set_option maxHeartbeats 4000000
set_option maxRecDepth 100000
def qBT (r : (List Piece) × Int × Int) : V := .tup [.one (.own 0 0 2 r.1.length), .one (ci r.2.1), .one (ci r.2.2)]
def DL (r : (List Piece) × Int × Int) : List (Nat × (Nat × O)) := [(0, ro 0 98 2 r.1.length (rf yA r.1))]
theorem qHA (r : (List Piece) × Int × Int) : JD (DL r) := by
 intro i k o h
 unfold DL at h
 rw [look_cons] at h
 split at h
 ·cases h; exact fun _ _ => rfl
 ·cases h
def BP (a1 : Line) (v5 : (List Cutting_choice)) (l7 : List Piece) (l7n : Nat) (x8 : Int) : St :=
 ⟨[(1, vp 0 0), (6, vo 1 0 3 v5.length), (7, vo 2 0 2 l7n), (8, vi x8)], [(0, bx 63 (zT a1)), (1, ro 0 144 3 v5.length (rf e_Cutting_choice v5)), (2, ro 0 98 2 l7n (rf yA l7))]⟩
def IK (v5 : (List Cutting_choice)) (l16 : List Piece) : St :=
 ⟨[(6, vo 1 0 3 v5.length), (7, vo 2 0 2 l16.length)], [(1, ro 0 144 3 v5.length (rf e_Cutting_choice v5)), (2, ro 0 98 2 l16.length (rf yA l16))]⟩
theorem qD1 (E : Env 0) (a1 : Line) (v5 : (List Cutting_choice)) : ∀ (n : Nat) (l7 : List Piece) (l7n : Nat) (x8 : Int) (res : (List Piece)), l7.length = l7n → WP a1 v5 n l7 x8 = some res → HL (kx E 47 0) (nd Tryd.f32 500) (wO 0 (fun o => IK v5 o) res) n (BP a1 v5 l7 l7n x8) := by
 intro n
 induction n with
 | zero =>
  intro l7 l7n x8 res hl0 hm
  cases hm
 | succ n ih =>
  intro l7 l7n x8 res hl0 hm
  subst hl0
  refine qQ ?_
  refine q_sq ?_
  refine q_sq ?_
  refine q_vu [] 3 [] [(18, vb (decide (x8 ≥ 0)))] [] [] ?_
  refine q_cn (decide (x8 ≥ 0)) (fun b9 => ?_) (fun b9 => ?_)
  ·replace hm := qA b9 hm
   refine q_sk ?_
   refine q_bk 1 ?_
   refine q_sq ?_
   obtain ⟨g10, hm⟩ := qM hm
   refine q_vu [qd 2 (Dir.none) (inb_of g10), qd 4 (Dir.none) (toNat_lt (inb_of g10))] 3 [8, 18] [(9, vp 3 0)] [] [(3, bx 98 [ci (((v5.getD x8.toNat default).piece).Size), ci (((v5.getD x8.toNat default).piece).At)])] ?_
   refine q_sq ?_
   refine q_sq ?_
   refine q_vu [] 4 [] [(26, vb (((((v5.getD x8.toNat default).piece).Size) == (-1)) && (((((v5.getD x8.toNat default).piece).At) == (-1)) && true)))] [] [] ?_
   refine q_cn (((((v5.getD x8.toNat default).piece).Size) == (-1)) && (((((v5.getD x8.toNat default).piece).At) == (-1)) && true)) (fun b11 => ?_) (fun b11 => ?_)
   ·replace hm := qA b11 hm
    refine q_ex 0 ?_
    obtain rfl := Option.some.inj hm
    exact yM (by kernel_rfl) (by kernel_rfl)
   ·replace hm := qB b11 hm
    refine q_sk ?_
    refine q_sq ?_
    obtain ⟨g12, hm⟩ := qM hm
    refine q_vu [qd 2 (drw 4 0 (rf yA ([(v5.getD x8.toNat default).piece] : List Piece))) (litP yA default 2 (fun _ => rfl) ([(v5.getD x8.toNat default).piece] : List Piece) 1 rfl), qd 3 (drw 2 1 (rf yA (l7 ++ ([(v5.getD x8.toNat default).piece] : List Piece)))) (apP yA default l7 ([(v5.getD x8.toNat default).piece] : List Piece) l7.length 1 2 16 (1 ≤ 1) (Nat.le_refl _) rfl rfl (fun _ => rfl) (wR g12))] 4 [7, 26] [(7, vo 2 1 2 (l7.length + 1))] [2] [(2, ro 1 98 2 (l7.length + 1) (rf yA (l7 ++ ([(v5.getD x8.toNat default).piece] : List Piece))))] ?_
    obtain ⟨g13, hm⟩ := qM hm
    obtain ⟨v14, h15, hm⟩ := qC hm
    refine q_du [qd 7 (Dir.none) (inb_of g13), qc 10 [31, 40] 5 (AZ a1 (w64 ((((v5.getD x8.toNat default).piece).At) + (a1.Sizes.getD (((v5.getD x8.toNat default).piece).Size).toNat default))) v14 h15)] [0, 0, 2, 0, 8, 0, 32, 120, 248, 510, 1023, 2047] 5 [9] [(8, vi v14)] [3] [] ?_
    exact q_hl (BP a1 v5 (l7 ++ ([(v5.getD x8.toNat default).piece] : List Piece)) (l7.length + 1) v14) (ih (l7 ++ ([(v5.getD x8.toNat default).piece] : List Piece)) (l7.length + 1) v14 _ (len_app rfl rfl) hm)
  ·replace hm := qB b9 hm
   refine q_ex 0 ?_
   obtain rfl := Option.some.inj hm
   exact yM (by kernel_rfl) (by kernel_rfl)
theorem cutting_Best_ok (a1 : Line) (r : (List Piece) × Int × Int) (hm : VT a1 = some r) : CtX Tryd.prog globs 32 0 0 [.agg (zT a1)] [] (qBT r) (DL r) := by
 unfold VT at hm
 refine q_E Tryd.f32 47 fun E => ?_
 refine q_sq ?_
 refine q_vn [] 0 ⟨[(1, vp 0 0)], [(0, bx 63 (zT a1))]⟩ ?_
 refine q_sq ?_
 refine q_sq ?_
 obtain ⟨v2, h3, hm⟩ := qC hm
 refine q_vu [qc 1 [10] 1 (qE4 a1 v2 h3)] 1 [] [(5, vi v2)] [] [] ?_
 refine q_sq ?_
 refine q_vu [] 1 [] [(13, vb (v2 != 0))] [] [] ?_
 refine q_cn (v2 != 0) (fun b4 => ?_) (fun b4 => ?_)
 ·replace hm := qA b4 hm
  refine q_sq ?_
  refine q_vn [] 1 ⟨[(2, vc (.emp)), (3, vi 0), (4, vi v2)], []⟩ ?_
  refine q_fn [.own 2 1 98 2 (rf yA ([] : List Piece))] ⟨[(2, vo 1 0 2 0), (3, vi 0), (4, vi v2)], [(1, ro 0 98 2 0 (rf yA ([] : List Piece)))]⟩ o0 ?_
  refine q_fn [.len 1 (([] : List Piece).length)] ⟨[(2, vo 1 0 2 (([] : List Piece).length)), (3, vi 0), (4, vi v2)], [(1, ro 0 98 2 (([] : List Piece).length) (rf yA ([] : List Piece)))]⟩ (o1 (And.intro (show 0 = ([] : List Piece).length from rfl) (show 0 = ([] : List Piece).length from rfl))) ?_
  obtain rfl := Option.some.inj hm
  refine qZ 1 0 (by kernel_rfl) ?_
  refine q_rt ?_
  exact q_rm
 ·replace hm := qB b4 hm
  refine q_sk ?_
  refine q_sq ?_
  obtain ⟨v5, h6, hm⟩ := qC hm
  refine q_vu [qc 1 [15] 1 (qDD a1 v5 h6)] 1 [5, 13] [(6, vo 1 0 3 v5.length)] [] [(1, ro 0 144 3 v5.length (rf e_Cutting_choice v5))] ?_
  refine q_sq ?_
  refine q_vu [] 2 [] [(7, vc (.emp))] [] [] ?_
  refine q_sq ?_
  refine q_sq ?_
  refine q_vu [] 2 [] [(8, vi 0)] [] [] ?_
  refine q_fn [.own 7 2 98 2 (rf yA ([] : List Piece))] ⟨[(1, vp 0 0), (6, vo 1 0 3 v5.length), (7, vo 2 0 2 0), (8, vi 0)], [(0, bx 63 (zT a1)), (1, ro 0 144 3 v5.length (rf e_Cutting_choice v5)), (2, ro 0 98 2 0 (rf yA ([] : List Piece)))]⟩ o0 ?_
  obtain ⟨o17, h18, hm⟩ := qC hm
  refine wB (nd Tryd.f32 500) 0 (by kernel_rfl) FUEL (fun o => IK v5 o) o17 (q_hl (BP a1 v5 ([] : List Piece) 0 0) (qD1 E a1 v5 FUEL ([] : List Piece) 0 0 o17 rfl h18)) ?_
  refine q_sq ?_
  obtain ⟨g19, hm⟩ := qM hm
  refine q_du [qd 2 (Dir.none) (inb_of g19), qd 4 (Dir.none) (toNat_lt (inb_of g19))] [0, 0, 2, 6, 14, 1, 63, 127] 3 [6, 7] [(2, vo 2 0 2 o17.length), (3, vi ((v5.getD ((0 : Int).toNat) default).value)), (4, vi 0)] [1] [] ?_
  obtain rfl := Option.some.inj hm
  refine qZ 2 0 (by kernel_rfl) ?_
  refine q_rt ?_
  exact q_rm
def WJ (a1 : List Node) (a2 : Int) (a3 : List Node) (r : Int × (List Node)) : V := .undef
def pattern_Row_1_s1_o (a1 : List Node) (a2 : Int) (a3 : List Node) (r : Int × (List Node)) : List (Nat × (Nat × O)) := [(0, bx 3 [ci r.1]), (1, bx 37 [.own 2 0 2 r.2.length]), (2, ro 0 69 2 r.2.length (rf e_Node r.2))]
theorem GX (a1 : List Node) (a2 : Int) (a3 : List Node) (r : Int × (List Node)) : JD (pattern_Row_1_s1_o a1 a2 a3 r) := by
 intro i k o h
 unfold pattern_Row_1_s1_o at h
 rw [look_cons] at h
 split at h
 ·cases h; rfl
 ·rw [look_cons] at h
  split at h
  ·cases h; rfl
  ·rw [look_cons] at h
   split at h
   ·cases h; exact fun _ _ => rfl
   ·cases h
theorem YW (a1 : List Node) (a2 : Int) (a3 : List Node) (r : Int × (List Node)) (hm : jN a1 a2 a3 = some r) : CtX Tryd.prog globs 66 3 2 [.one (tl e_Node default a1), .one (.bptr 0 0 0), .one (.bptr 1 0 0)] [(0, bx 3 [ci a2]), (1, bx 37 [.own 2 0 2 a3.length]), (2, ro 0 69 2 a3.length (rf e_Node a3))] (WJ a1 a2 a3 r) (pattern_Row_1_s1_o a1 a2 a3 r) := by
 unfold jN at hm
 refine q_E Tryd.f66 13 fun E => ?_
 refine q_sq ?_
 refine q_vn [] 3 ⟨[(0, vc (tl e_Node default a1)), (1, vp 0 0), (2, vp 1 0)], [(0, bx 3 [ci (w64 (a2 + ((a1.length : Nat) : Int)))]), (1, bx 37 [.own 2 0 2 a3.length]), (2, ro 0 69 2 a3.length (rf e_Node a3))]⟩ ?_
 refine q_sq ?_
 refine q_vu [] 3 [1] [(9, vb (decide ((w64 (a2 + ((a1.length : Nat) : Int))) ≤ 127)))] [] [] ?_
 refine q_cn (decide ((w64 (a2 + ((a1.length : Nat) : Int))) ≤ 127)) (fun b4 => ?_) (fun b4 => ?_)
 ·replace hm := qA b4 hm
  obtain ⟨g5, hm⟩ := qM hm
  refine q_wu [qd 2 (drw 2 1 (rf e_Node (a3 ++ a1))) (apP e_Node default a3 a1 a3.length a1.length 2 16 (True) trivial rfl rfl (fun _ => rfl) (wR g5))] [.len 2 ((a3 ++ a1).length)] (o1 (And.intro (Eq.symm (show (a3 ++ a1).length = (a3.length + a1.length) from (len_app rfl rfl))) (And.intro (Eq.symm (show (a3 ++ a1).length = (a3.length + a1.length) from (len_app rfl rfl))) (Eq.symm (show (a3 ++ a1).length = (a3.length + a1.length) from (len_app rfl rfl)))))) 3 [0, 2, 9] [] [1, 2] [(1, bx 37 [.own 2 1 2 ((a3 ++ a1).length)]), (2, ro 1 69 2 ((a3 ++ a1).length) (rf e_Node (a3 ++ a1)))] ?_
  obtain rfl := Option.some.inj hm
  exact q_rm
 ·replace hm := qB b4 hm
  refine q_sk ?_
  obtain rfl := Option.some.inj hm
  exact q_rm
set_option maxRecDepth 100000
def qGJ (r : Bool) : V := vb r
def qGk (r : Bool) : List (Nat × (Nat × O)) := []
def EQ (x3 : Bool) : St :=
 ⟨[(2, vb x3)], []⟩
theorem yX (a1 : Int) (r : Bool) (hm : wA a1 = some r) : CtX Tryd.prog globs 46 0 0 [.one (ci a1)] [] (qGJ r) (qGk r) := by
 unfold wA at hm
 refine q_E Tryd.f46 9 fun E => ?_
 refine q_sq ?_
 refine q_vn [] 0 ⟨[(0, vi a1)], []⟩ ?_
 refine q_jn (ι := Bool) (fun p => EQ p) (fun p => RP p = some r) ?_ ?_
 ·rintro x3 hm
  show H _ (EQ x3) _ _
  obtain rfl := Option.some.inj hm
  refine q_rt ?_
  exact q_rm
 ·rcases Bool.eq_false_or_eq_true (a1 == 2) with b2 | b2
  ·replace hm := qA b2 hm
   refine q_vn [qf 2 b2] 0 ⟨[(2, vb true)], []⟩ ?_
   exact q_J (true) hm
  ·replace hm := qB b2 hm
   refine q_vn [qf 2 b2] 0 ⟨[(2, vb (a1 == 3))], []⟩ ?_
   exact q_J (a1 == 3) hm
open Go.Proofs
set_option maxHeartbeats 4000000
set_option maxRecDepth 100000
def qGC (r : Span) : V := va (e_Span r)
def qGO (r : Span) : List (Nat × (Nat × O)) := []
theorem FP (a1 : Rect) (a2 : Int) (r : Span) (hm : ZA a1 a2 = some r) : CtX Tryd.prog globs 67 0 0 [.agg (qK a1), .one (ci a2)] [] (qGC r) (qGO r) := by
 unfold ZA at hm
 refine q_E Tryd.f67 11 fun E => ?_
 refine q_sq ?_
 refine q_vn [] 0 ⟨[(1, vi a2), (2, vp 0 0), (4, vp 1 0)], [(0, bx 28 (qK a1)), (1, bx 26 [ci 0, ci 0])]⟩ ?_
 refine q_sq ?_
 refine q_sq ?_
 refine q_vu [] 2 [1] [(6, vb (a2 == 2))] [] [] ?_
 refine q_cn (a2 == 2) (fun b3 => ?_) (fun b3 => ?_)
 ·replace hm := qA b3 hm
  refine q_sq ?_
  refine q_vn [] 2 ⟨[(4, vp 1 0)], [(1, bx 26 (e_Span a1.X))]⟩ ?_
  obtain rfl := Option.some.inj hm
  refine q_rt ?_
  exact q_rm
 ·replace hm := qB b3 hm
  refine q_sk ?_
  refine q_sq ?_
  refine q_vn [] 2 ⟨[(4, vp 1 0)], [(1, bx 26 (e_Span a1.Y))]⟩ ?_
  obtain rfl := Option.some.inj hm
  refine q_rt ?_
  exact q_rm
def BS (r : Bool) : V := vb r
def BQ (r : Bool) : List (Nat × (Nat × O)) := []
def LQ (a1 : Rect) (x2 : Int) (x7 : Bool) : St :=
 ⟨[(9, va (qK a1)), (10, vi x2), (27, vb x7)], []⟩
def TE (a1 : Rect) (x2 : Int) : St :=
 ⟨[(9, va (qK a1)), (10, vi x2)], []⟩
def LV : St :=
 ⟨[], []⟩
theorem qBP (E : Env 0) (a1 : Rect) : ∀ (n : Nat) (x2 : Int) (res : Bool ⊕ Unit), zA a1 n x2 = some res → HL (kx E 29 0) (nd Tryd.f65 52) (wW 0 (fun o => LV) (fun v st => RetQ Tryd.prog Tryd.f65 (BS v) (BQ v) .ret st) res) n (TE a1 x2) := by
 intro n
 induction n with
 | zero =>
  intro x2 res hm
  cases hm
 | succ n ih =>
  intro x2 res hm
  refine qQ ?_
  refine q_sq ?_
  refine q_vu [] 1 [] [(11, vb (decide (x2 < 2)))] [] [] ?_
  refine q_sq ?_
  refine q_cn (decide (x2 < 2)) (fun b3 => ?_) (fun b3 => ?_)
  ·replace hm := qA b3 hm
   refine q_sk ?_
   refine q_sq ?_
   refine q_bk 1 ?_
   refine q_sq ?_
   obtain ⟨g4, hm⟩ := qM hm
   refine q_vu [qd 0 (Dir.none) (inb_of g4)] 1 [11] [(4, vp 1 0)] [] [(1, bx 26 [ci (([a1.X.A, a1.X.B, a1.Y.A, a1.Y.B] : List Int).getD (x2.toNat * 2 + 0) 0), ci (([a1.X.A, a1.X.B, a1.Y.A, a1.Y.B] : List Int).getD (x2.toNat * 2 + 1) 0)])] ?_
   refine q_jn (ι := Bool) (fun p => LQ a1 x2 p) (fun p => wE x2 (zA a1 n) p = some res) ?_ ?_
   ·rintro x7 hm
    show H _ (LQ a1 x2 x7) _ _
    refine q_cn x7 (fun b8 => ?_) (fun b8 => ?_)
    ·replace hm := qA b8 hm
     refine q_sq ?_
     refine q_vn [] 2 ⟨[(2, vb false)], []⟩ ?_
     obtain rfl := Option.some.inj hm
     refine q_rt ?_
     refine zB false ?_
     exact q_rm
    ·replace hm := qB b8 hm
     refine q_sk ?_
     refine q_vu [] 2 [10, 27] [(10, vi (w64 (x2 + 1)))] [] [] ?_
     exact q_hl (TE a1 (w64 (x2 + 1))) (ih (w64 (x2 + 1)) _ hm)
   ·rcases Bool.eq_false_or_eq_true (decide ((([a1.X.A, a1.X.B, a1.Y.A, a1.Y.B] : List Int).getD (x2.toNat * 2 + 0) 0) < (-600))) with b5 | b5
    ·replace hm := qA b5 hm
     refine q_vu [qf 3 b5] 2 [4] [(27, vb true)] [1] [] ?_
     exact q_J (true) hm
    ·replace hm := qB b5 hm
     rcases Bool.eq_false_or_eq_true (decide ((([a1.X.A, a1.X.B, a1.Y.A, a1.Y.B] : List Int).getD (x2.toNat * 2 + 1) 0) > 600)) with b6 | b6
     ·replace hm := qA b6 hm
      refine q_vu [qf 3 b5, qf 8 b6] 2 [4] [(27, vb true)] [1] [] ?_
      exact q_J (true) hm
     ·replace hm := qB b6 hm
      refine q_vu [qf 3 b5, qf 8 b6] 2 [4] [(27, vb (decide ((([a1.X.A, a1.X.B, a1.Y.A, a1.Y.B] : List Int).getD (x2.toNat * 2 + 0) 0) ≥ (([a1.X.A, a1.X.B, a1.Y.A, a1.Y.B] : List Int).getD (x2.toNat * 2 + 1) 0))))] [1] [] ?_
      exact q_J (decide ((([a1.X.A, a1.X.B, a1.Y.A, a1.Y.B] : List Int).getD (x2.toNat * 2 + 0) 0) ≥ (([a1.X.A, a1.X.B, a1.Y.A, a1.Y.B] : List Int).getD (x2.toNat * 2 + 1) 0))) hm
  ·replace hm := qB b3 hm
   refine q_ex 0 ?_
   obtain rfl := Option.some.inj hm
   exact jE () (by kernel_rfl) (by kernel_rfl)
theorem XW (a1 : Rect) (r : Bool) (hm : jJ a1 = some r) : CtX Tryd.prog globs 65 0 0 [.agg (qK a1)] [] (BS r) (BQ r) := by
 unfold jJ at hm
 refine q_E Tryd.f65 29 fun E => ?_
 refine q_sq ?_
 refine q_vn [] 0 ⟨[(1, vp 0 0)], [(0, bx 28 (qK a1))]⟩ ?_
 refine q_sq ?_
 refine q_sq ?_
 refine q_vn [] 1 ⟨[(9, va (qK a1)), (10, vi 0)], []⟩ ?_
 obtain ⟨u11, h10, hm⟩ := qC hm
 refine zP (nd Tryd.f65 52) 0 (by kernel_rfl) FUEL (fun o => LV) (fun v st => RetQ Tryd.prog Tryd.f65 (BS v) (BQ v) .ret st) u11 (q_hl (TE a1 0) (qBP E a1 FUEL 0 u11 h10)) ?_ ?_
 ·rintro v12 rfl st hr
  obtain rfl := Option.some.inj hm
  exact hr
 ·rintro o9 rfl
  replace hm : _ = some r := hm
  refine q_sq ?_
  refine q_vn [] 1 ⟨[(2, vb true)], []⟩ ?_
  obtain rfl := Option.some.inj hm
  refine q_rt ?_
  exact q_rm
end Saw
end Go.SL
