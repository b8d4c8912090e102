import Derived.Test.YtjobdnkaonbgnaaEBase
import Derived.Test.YtjobdnkaonbgnaaELlaw22awake
import Derived.Test.YtjobdnkaonbgnaaELs
import Derived.Test.YtjobdnkaonbgnaaELlaw22Small
set_option linter.unusedVariables false
set_option linter.unusedSimpArgs false
namespace Go.SL
namespace Saw
open Go.Proofs
set_option maxHeartbeats 4000000
set_option maxRecDepth 100000
def qAM (r : Bool) : V := vb r
def qAe (r : Bool) : List (Nat × (Nat × O)) := []
def XU (a1 : Law22_Given) (a2 : Int) (a3 : Int) (v14 : Yield × Int) (v19 : (List Yield_Cut) × Int) (x21 : Int) (x22 : Int) : St :=
 ⟨[(1, vi a2), (2, vi a3), (3, vp 0 0), (7, vp 1 0), (9, vo 2 0 9 v19.1.length), (11, vi x21), (12, vi x22)], [(0, bx 37 (qR a1)), (1, bx 41 (zQ v14.1)), (2, ro 0 54 9 v19.1.length (rf qN v19.1))]⟩
def GP (a1 : Law22_Given) (a2 : Int) (a3 : Int) (v14 : Yield × Int) (x25 : Int) : St :=
 ⟨[(1, vi a2), (2, vi a3), (3, vp 0 0), (7, vp 1 0), (11, vi x25)], [(0, bx 37 (qR a1)), (1, bx 41 (zQ v14.1))]⟩
def GU (x38 : Bool) : St :=
 ⟨[(6, vb x38)], []⟩
def DC (a1 : Law22_Given) (a2 : Int) (a3 : Int) (x10 : Bool) : St :=
 ⟨[(1, vi a2), (2, vi a3), (3, vp 0 0), (33, vb x10)], [(0, bx 37 (qR a1))]⟩
theorem AK (E : Env 0) (a1 : Law22_Given) (a2 : Int) (a3 : Int) (v14 : Yield × Int) (v19 : (List Yield_Cut) × Int) : ∀ (n : Nat) (x21 : Int) (x22 : Int) (res : Int), jI v19 n x21 x22 = some res → HL (kx E 122 0) (nd Try.f4 2036) (jK 0 (fun o => GP a1 a2 a3 v14 o) res) n (XU a1 a2 a3 v14 v19 x21 x22) := by
 intro n
 induction n with
 | zero =>
  intro x21 x22 res hm
  cases hm
 | succ n ih =>
  intro x21 x22 res hm
  refine qU ?_
  refine q_sq ?_
  refine q_sq ?_
  refine q_vu [] 3 [] [(51, vb (decide (x22 < ((v19.1.length : Nat) : Int))))] [] [] ?_
  refine q_cn (decide (x22 < ((v19.1.length : Nat) : Int))) (fun b23 => ?_) (fun b23 => ?_)
  ·replace hm := qA b23 hm
   refine q_sk ?_
   refine q_sq ?_
   refine q_bk 1 ?_
   obtain ⟨g24, hm⟩ := qP hm
   refine q_vu [qd 3 (Dir.none) (inb_of g24), qd 5 (Dir.none) (toNat_lt (inb_of g24))] 3 [11, 51] [(11, vi (w64 (x21 + ((v19.1.getD x22.toNat default).Worth))))] [] [] ?_
   refine q_vu [] 3 [12] [(12, vi (w64 (x22 + 1)))] [] [] ?_
   exact q_hl (XU a1 a2 a3 v14 v19 (w64 (x21 + ((v19.1.getD x22.toNat default).Worth))) (w64 (x22 + 1))) (ih (w64 (x21 + ((v19.1.getD x22.toNat default).Worth))) (w64 (x22 + 1)) _ hm)
  ·replace hm := qB b23 hm
   refine q_ex 0 ?_
   obtain rfl := Option.some.inj hm
   exact QY (by kernel_rfl) (by kernel_rfl)
theorem CG (a1 : Law22_Given) (a2 : Int) (a3 : Int) (r : Bool) (hm : KK a1 a2 a3 = some r) : CtX Try.prog globs 4 0 0 [.agg (qR a1), .one (ci a2), .one (ci a3)] [] (qAM r) (qAe r) := by
 unfold KK at hm
 refine q_E Try.f4 122 fun E => ?_
 refine q_sq ?_
 refine q_vn [] 0 ⟨[(1, vi a2), (2, vi a3), (3, vp 0 0)], [(0, bx 37 (qR a1))]⟩ ?_
 refine q_sq ?_
 refine q_jn (ι := Bool) (fun p => DC a1 a2 a3 p) (fun p => zK a1 a2 a3 p = some r) ?_ ?_
 ·rintro x10 hm
  show H _ (DC a1 a2 a3 x10) _ _
  refine q_cn x10 (fun b11 => ?_) (fun b11 => ?_)
  ·replace hm := qA b11 hm
   refine q_sq ?_
   obtain ⟨v12, h13, hm⟩ := qC hm
   refine q_vn [qc 0 [] 1 (NZ v12 h13)] 1 ⟨[(6, vb v12)], []⟩ ?_
   obtain rfl := Option.some.inj hm
   refine q_rt ?_
   exact q_rm
  ·replace hm := qB b11 hm
   refine q_sk ?_
   refine q_sq ?_
   obtain ⟨v14, h15, hm⟩ := qC hm
   refine q_vu [qc 1 [36] 1 (law22_of_ok a1 v14 h15)] 1 [33] [(7, vp 1 0), (8, vi v14.2)] [] [(1, bx 41 (zQ v14.1))] ?_
   refine q_sq ?_
   refine q_sq ?_
   refine q_vu [] 2 [8] [(41, vb (v14.2 != 0))] [] [] ?_
   refine q_cn (v14.2 != 0) (fun b16 => ?_) (fun b16 => ?_)
   ·replace hm := qA b16 hm
    refine q_sq ?_
    obtain ⟨v17, h18, hm⟩ := qC hm
    refine q_vn [qc 0 [] 2 (NZ v17 h18)] 2 ⟨[(6, vb v17)], []⟩ ?_
    obtain rfl := Option.some.inj hm
    refine q_rt ?_
    exact q_rm
   ·replace hm := qB b16 hm
    refine q_sk ?_
    refine q_sq ?_
    obtain ⟨v19, h20, hm⟩ := qC hm
    refine q_vu [qc 1 [44] 2 (law22_boards_ok a1 v19 h20)] 2 [41] [(9, vo 2 0 9 v19.1.length)] [] [(2, ro 0 54 9 v19.1.length (rf qN v19.1))] ?_
    refine q_sq ?_
    refine q_vu [] 3 [] [(11, vi 0)] [] [] ?_
    refine q_sq ?_
    refine q_sq ?_
    refine q_vu [] 3 [] [(12, vi 0)] [] [] ?_
    obtain ⟨o26, h27, hm⟩ := qC hm
    refine wX (nd Try.f4 2036) 0 (by kernel_rfl) FUEL (fun o => GP a1 a2 a3 v14 o) o26 (q_hl (XU a1 a2 a3 v14 v19 0 0) (AK E a1 a2 a3 v14 v19 FUEL 0 0 o26 h27)) ?_
    refine q_sq ?_
    refine q_vu [] 3 [] [] [0] [(0, bx 37 [tl qH default a1.Solid, tl qG default a1.Defects, tl qE default a1.Products, ci a1.Pattern.Frame.X.A, ci a1.Pattern.Frame.X.B, ci a1.Pattern.Frame.Y.A, ci a1.Pattern.Frame.Y.B, tl zU default a1.Pattern.Nodes, ci a1.Saw.Kerf, ci a1.Saw.Trim, ci a1.Saw.Pitch, ci a1.Saw.Step, ci a2, ci a1.Rates.Dust, ci a1.Rates.Fine])] ?_
    refine q_sq ?_
    refine q_vu [] 3 [] [] [0] [(0, bx 37 [tl qH default a1.Solid, tl qG default a1.Defects, tl qE default a1.Products, ci a1.Pattern.Frame.X.A, ci a1.Pattern.Frame.X.B, ci a1.Pattern.Frame.Y.A, ci a1.Pattern.Frame.Y.B, tl zU default a1.Pattern.Nodes, ci a1.Saw.Kerf, ci a1.Saw.Trim, ci a1.Saw.Pitch, ci a1.Saw.Step, ci a2, ci a3, ci a1.Rates.Fine])] ?_
    refine q_sq ?_
    obtain ⟨v28, h29, hm⟩ := qC hm
    refine q_vu [qc 1 [68] 3 (law22_of_ok (Law22_Given.mk a1.Solid a1.Defects a1.Products a1.Pattern a1.Saw (Rates.mk a2 a3 a1.Rates.Fine)) v28 h29)] 3 [3] [(13, vp 3 0), (14, vi v28.2)] [0] [(3, bx 41 (zQ v28.1))] ?_
    refine q_jn (ι := Bool) (fun p => GU p) (fun p => zR p = some r) ?_ ?_
    ·rintro x38 hm
     show H _ (GU x38) _ _
     obtain rfl := Option.some.inj hm
     refine q_rt ?_
     exact q_rm
    ·rcases Bool.eq_false_or_eq_true (v28.2 == 0) with b30 | b30
     ·replace hm := qA b30 hm
      rcases Bool.eq_false_or_eq_true (v28.1.Log == v14.1.Log) with b31 | b31
      ·replace hm := qA b31 hm
       rcases Bool.eq_false_or_eq_true (v28.1.Boards == v14.1.Boards) with b32 | b32
       ·replace hm := qA b32 hm
        rcases Bool.eq_false_or_eq_true (v28.1.Chips == v14.1.Chips) with b33 | b33
        ·replace hm := qA b33 hm
         rcases Bool.eq_false_or_eq_true (v28.1.Dust == v14.1.Dust) with b34 | b34
         ·replace hm := qA b34 hm
          rcases Bool.eq_false_or_eq_true (v28.1.Value == (w64 ((w64 ((w64 (1000000 * o26)) + (w64 (a2 * v28.1.Chips)))) + (w64 (a3 * v28.1.Dust))))) with b35 | b35
          ·replace hm := qA b35 hm
           obtain ⟨v36, h37, hm⟩ := qC hm
           refine q_vn [qf 2 b30, qf 9 b31, qf 16 b32, qf 23 b33, qf 30 b34, qf 47 b35, qk 48 [119] 4 ⟨[(119, vb true)], []⟩ (NZ v36 h37)] 4 ⟨[(6, vb v36)], []⟩ ?_
           exact q_J (v36) hm
          ·replace hm := qB b35 hm
           refine q_vn [qf 2 b30, qf 9 b31, qf 16 b32, qf 23 b33, qf 30 b34, qf 47 b35] 4 ⟨[(6, vb false)], []⟩ ?_
           exact q_J (false) hm
         ·replace hm := qB b34 hm
          refine q_vn [qf 2 b30, qf 9 b31, qf 16 b32, qf 23 b33, qf 30 b34] 4 ⟨[(6, vb false)], []⟩ ?_
          exact q_J (false) hm
        ·replace hm := qB b33 hm
         refine q_vn [qf 2 b30, qf 9 b31, qf 16 b32, qf 23 b33] 4 ⟨[(6, vb false)], []⟩ ?_
         exact q_J (false) hm
       ·replace hm := qB b32 hm
        refine q_vn [qf 2 b30, qf 9 b31, qf 16 b32] 4 ⟨[(6, vb false)], []⟩ ?_
        exact q_J (false) hm
      ·replace hm := qB b31 hm
       refine q_vn [qf 2 b30, qf 9 b31] 4 ⟨[(6, vb false)], []⟩ ?_
       exact q_J (false) hm
     ·replace hm := qB b30 hm
      refine q_vn [qf 2 b30] 4 ⟨[(6, vb false)], []⟩ ?_
      exact q_J (false) hm
 ·obtain ⟨v4, h5, hm⟩ := qC hm
  rcases Bool.eq_false_or_eq_true (!v4) with b6 | b6
  ·replace hm := qA b6 hm
   refine q_vu [qc 1 [15] 1 (XQ a1 v4 h5), qf 3 b6] 1 [] [(33, vb true)] [] [] ?_
   exact q_J (true) hm
  ·replace hm := qB b6 hm
   rcases Bool.eq_false_or_eq_true (decide (a2 < 0)) with b7 | b7
   ·replace hm := qA b7 hm
    refine q_vu [qc 1 [15] 1 (XQ a1 v4 h5), qf 3 b6, qf 7 b7] 1 [] [(33, vb true)] [] [] ?_
    exact q_J (true) hm
   ·replace hm := qB b7 hm
    rcases Bool.eq_false_or_eq_true (decide (a2 > 1000)) with b8 | b8
    ·replace hm := qA b8 hm
     refine q_vu [qc 1 [15] 1 (XQ a1 v4 h5), qf 3 b6, qf 7 b7, qf 11 b8] 1 [] [(33, vb true)] [] [] ?_
     exact q_J (true) hm
    ·replace hm := qB b8 hm
     rcases Bool.eq_false_or_eq_true (decide (a3 < 0)) with b9 | b9
     ·replace hm := qA b9 hm
      refine q_vu [qc 1 [15] 1 (XQ a1 v4 h5), qf 3 b6, qf 7 b7, qf 11 b8, qf 15 b9] 1 [] [(33, vb true)] [] [] ?_
      exact q_J (true) hm
     ·replace hm := qB b9 hm
      refine q_vu [qc 1 [15] 1 (XQ a1 v4 h5), qf 3 b6, qf 7 b7, qf 11 b8, qf 15 b9] 1 [] [(33, vb (decide (a3 > 1000)))] [] [] ?_
      exact q_J (decide (a3 > 1000)) hm
end Saw
end Go.SL
