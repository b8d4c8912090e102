import Derived.Test.YtgpgnlllieekbaaDoorEBase
import Derived.Test.YtgpgnlllieekbaaDoorELlaw23awake
import Derived.Test.YtgpgnlllieekbaaDoorELs
import Derived.Test.YtgpgnlllieekbaaDoorEFa1
import Derived.Test.YtgpgnlllieekbaaDoorEFa4
import Derived.Test.YtgpgnlllieekbaaDoorEFa8
import Derived.Test.YtgpgnlllieekbaaDoorELlaw23Small
set_option linter.unusedVariables false
set_option linter.unusedSimpArgs false
namespace Go.SL
namespace Saw
open Go.Proofs
set_option maxHeartbeats 4000000

def law23_EdgeOptimal_x (r : Bool) : V := vb r

def law23_EdgeOptimal_o (r : Bool) : List (Nat × (Nat × O)) := []

theorem law23_EdgeOptimal_f (r : Bool) : Frozen (law23_EdgeOptimal_o r) := by
 intro i k o h
 unfold law23_EdgeOptimal_o at h
 cases h

def law23_EdgeOptimal_k2_S (x22 : Bool) : St :=
 ⟨[(4, vb x22)], []⟩

def law23_EdgeOptimal_k4_S (x38 : Bool) : St :=
 ⟨[(4, vb x38)], []⟩

def law23_EdgeOptimal_k3_S (a2 : List Piece) (v10 : (List Node) × Int × Int) (v12 : Line × Int) (x28 : Bool) : St :=
 ⟨[(1, vc (tl e_Piece default a2)), (6, vi v10.2.1), (8, vp 6 0), (73, vb x28)], [(2, ro 0 3 1 v12.1.Sizes.length (rf e_i64 v12.1.Sizes)), (3, ro 0 25 1 v12.1.Gain.length (rf (e_lst e_i64) v12.1.Gain)), (4, ro 0 3 1 v12.1.Chip.length (rf e_i64 v12.1.Chip)), (5, ro 0 3 1 v12.1.Dust.length (rf e_i64 v12.1.Dust)), (6, bx 64 [ci v12.1.Len, ci v12.1.Kerf, ci v12.1.Pitch, .own 2 0 1 v12.1.Sizes.length, .own 3 0 1 v12.1.Gain.length, .own 4 0 1 v12.1.Chip.length, .own 5 0 1 v12.1.Dust.length])]⟩

def law23_EdgeOptimal_k1_S (a1 : Law23_Given) (a2 : List Piece) (x6 : Bool) : St :=
 ⟨[(1, vc (tl e_Piece default a2)), (2, vp 0 0), (20, vb x6)], [(0, bx 41 (e_Law23_Given a1))]⟩

set_option maxRecDepth 100000 in
theorem law23_EdgeOptimal_ok (a1 : Law23_Given) (a2 : List Piece) (r : Bool) (hm : law23_EdgeOptimal a1 a2 = some r) : CtX Tryd.prog globs 6 0 0 [.agg (e_Law23_Given a1), .one (tl e_Piece default a2)] [] (law23_EdgeOptimal_x r) (law23_EdgeOptimal_o r) := by
 unfold law23_EdgeOptimal at hm
 refine q_E Tryd.f6 90 fun E => ?_
 refine q_sq ?_
 refine q_vn [] 0 ⟨[(1, vc (tl e_Piece default a2)), (2, vp 0 0)], [(0, bx 41 (e_Law23_Given a1))]⟩ ?_
 refine q_sq ?_
 refine q_jn (ι := Bool) (fun p => law23_EdgeOptimal_k1_S a1 a2 p) (fun p => law23_EdgeOptimal_k1 a1 a2 p = some r) ?_ ?_
 ·rintro x6 hm
  show H _ (law23_EdgeOptimal_k1_S a1 a2 x6) _ _
  refine q_cn x6 (fun b7 => ?_) (fun b7 => ?_)
  ·replace hm := bif_t b7 hm
   refine q_sq ?_
   obtain ⟨v8, h9, hm⟩ := bind_s hm
   refine q_vn [qc 0 [] 1 (law23_awake_ok v8 h9)] 1 ⟨[(4, vb v8)], []⟩ ?_
   obtain rfl := Option.some.inj hm
   refine q_rt ?_
   exact q_rm
  ·replace hm := bif_f b7 hm
   refine q_sk ?_
   refine q_sq ?_
   obtain ⟨v10, h11, hm⟩ := bind_s hm
   refine q_vu [qc 1 [23] 1 (law23_best_ok a1 v10 h11)] 1 [20] [(6, vi v10.2.1), (7, vi v10.2.2)] [] [] ?_
   refine q_sq ?_
   obtain ⟨v12, h13, hm⟩ := bind_s hm
   refine q_vu [qc 1 [29] 2 (law23_line_ok a1 v12 h13)] 2 [] [(8, vp 6 0), (9, vi v12.2)] [] [(2, ro 0 3 1 v12.1.Sizes.length (rf e_i64 v12.1.Sizes)), (3, ro 0 25 1 v12.1.Gain.length (rf (e_lst e_i64) v12.1.Gain)), (4, ro 0 3 1 v12.1.Chip.length (rf e_i64 v12.1.Chip)), (5, ro 0 3 1 v12.1.Dust.length (rf e_i64 v12.1.Dust)), (6, bx 64 [ci v12.1.Len, ci v12.1.Kerf, ci v12.1.Pitch, .own 2 0 1 v12.1.Sizes.length, .own 3 0 1 v12.1.Gain.length, .own 4 0 1 v12.1.Chip.length, .own 5 0 1 v12.1.Dust.length])] ?_
   refine q_sq ?_
   refine q_sq ?_
   refine q_vu [] 7 [] [(34, vb (v10.2.2 != 0))] [] [] ?_
   refine q_cn (v10.2.2 != 0) (fun b14 => ?_) (fun b14 => ?_)
   ·replace hm := bif_t b14 hm
    refine q_jn (ι := Bool) (fun p => law23_EdgeOptimal_k2_S p) (fun p => law23_EdgeOptimal_k2 p = some r) ?_ ?_
    ·rintro x22 hm
     show H _ (law23_EdgeOptimal_k2_S x22) _ _
     obtain rfl := Option.some.inj hm
     refine q_rt ?_
     exact q_rm
    ·rcases Bool.eq_false_or_eq_true (v12.2 == v10.2.2) with b15 | b15
     ·replace hm := bif_t b15 hm
      obtain ⟨v16, h17, hm⟩ := bind_s hm
      refine q_vn [qf 3 b15, qk 12 [46] 7 ⟨[(46, vb true)], []⟩ (law23_awake_ok v16 h17)] 7 ⟨[(4, vb v16)], []⟩ ?_
      exact q_J (v16) hm
     ·replace hm := bif_f b15 hm
      rcases Bool.eq_false_or_eq_true (v12.2 == 0) with b18 | b18
      ·replace hm := bif_t b18 hm
       rcases Bool.eq_false_or_eq_true (v10.2.2 == 4) with b19 | b19
       ·replace hm := bif_t b19 hm
        obtain ⟨v20, h21, hm⟩ := bind_s hm
        refine q_vn [qf 3 b15, qf 6 b18, qf 11 b19, qk 12 [46] 7 ⟨[(46, vb true)], []⟩ (law23_awake_ok v20 h21)] 7 ⟨[(4, vb v20)], []⟩ ?_
        exact q_J (v20) hm
       ·replace hm := bif_f b19 hm
        refine q_vn [qf 3 b15, qf 6 b18, qf 11 b19] 7 ⟨[(4, vb false)], []⟩ ?_
        exact q_J (false) hm
      ·replace hm := bif_f b18 hm
       refine q_vn [qf 3 b15, qf 6 b18] 7 ⟨[(4, vb false)], []⟩ ?_
       exact q_J (false) hm
   ·replace hm := bif_f b14 hm
    refine q_sk ?_
    refine q_sq ?_
    obtain ⟨v23, h24, hm⟩ := bind_s hm
    obtain ⟨v25, h26, hm⟩ := bind_s hm
    refine q_du [qc 10 [58] 7 (solid_Length_ok a1.Solid v23 h24), qc 13 [50, 61] 7 (solid_Within_ok a1.Solid (Box.mk a1.Strip.X a1.Strip.Y (Span.mk 0 v23)) v25 h26)] [0, 1, 0, 4, 12, 0, 32, 96, 0, 256, 768, 1792, 4092, 8191, 16383] 7 [7, 34] [(10, vi v25)] [] [] ?_
    refine q_sq ?_
    refine q_jn (ι := Bool) (fun p => law23_EdgeOptimal_k3_S a2 v10 v12 p) (fun p => law23_EdgeOptimal_k3 a2 v10 v12 p = some r) ?_ ?_
    ·rintro x28 hm
     show H _ (law23_EdgeOptimal_k3_S a2 v10 v12 x28) _ _
     refine q_cn x28 (fun b29 => ?_) (fun b29 => ?_)
     ·replace hm := bif_t b29 hm
      refine q_sq ?_
      refine q_vn [] 7 ⟨[(4, vb false)], []⟩ ?_
      obtain rfl := Option.some.inj hm
      refine q_rt ?_
      exact q_rm
     ·replace hm := bif_f b29 hm
      refine q_sk ?_
      refine q_sq ?_
      obtain ⟨v30, h31, hm⟩ := bind_s hm
      refine q_vn [qd 2 (dex (cen [] [] 7 0 (cutting_Value_x v30) (cutting_Value_o v30) [75, 76] [2, 3, 4, 5])) (callS (K := (kx E 90 0)) (b := false) ⟨[(75, va [ci v12.1.Len, ci v12.1.Kerf, ci v12.1.Pitch, .own 2 0 1 v12.1.Sizes.length, .own 3 0 1 v12.1.Gain.length, .own 4 0 1 v12.1.Chip.length, .own 5 0 1 v12.1.Dust.length]), (76, vc (tl e_Piece default a2))], [(2, ro 0 3 1 v12.1.Sizes.length (rf e_i64 v12.1.Sizes)), (3, ro 0 25 1 v12.1.Gain.length (rf (e_lst e_i64) v12.1.Gain)), (4, ro 0 3 1 v12.1.Chip.length (rf e_i64 v12.1.Chip)), (5, ro 0 3 1 v12.1.Dust.length (rf e_i64 v12.1.Dust))]⟩ (opAt (rg Tryd.f6 510) 2) [] [] 7 (o1 (And.intro (Nat.le_refl v12.1.Sizes.length) (And.intro (Nat.le_refl v12.1.Gain.length) (And.intro (Nat.le_refl v12.1.Chip.length) (Nat.le_refl v12.1.Dust.length))))) rfl (cutting_Value_ok (Line.mk v12.1.Len v12.1.Kerf v12.1.Pitch v12.1.Sizes v12.1.Gain v12.1.Chip v12.1.Dust) a2 v30 h31) (.inr ⟨(by kernel_rfl), cutting_Value_f v30⟩) (by kernel_rfl))] 7 ⟨[(6, vi v10.2.1), (11, vi v30.1), (12, vi v30.2)], []⟩ ?_
      refine q_jn (ι := Bool) (fun p => law23_EdgeOptimal_k4_S p) (fun p => law23_EdgeOptimal_k4 p = some r) ?_ ?_
      ·rintro x38 hm
       show H _ (law23_EdgeOptimal_k4_S x38) _ _
       obtain rfl := Option.some.inj hm
       refine q_rt ?_
       exact q_rm
      ·rcases Bool.eq_false_or_eq_true (v30.2 != 0) with b32 | b32
       ·replace hm := bif_t b32 hm
        obtain ⟨v33, h34, hm⟩ := bind_s hm
        refine q_vn [qf 2 b32, qk 8 [87] 7 ⟨[(87, vb true)], []⟩ (law23_awake_ok v33 h34)] 7 ⟨[(4, vb v33)], []⟩ ?_
        exact q_J (v33) hm
       ·replace hm := bif_f b32 hm
        rcases Bool.eq_false_or_eq_true (decide (v30.1 ≤ v10.2.1)) with b35 | b35
        ·replace hm := bif_t b35 hm
         obtain ⟨v36, h37, hm⟩ := bind_s hm
         refine q_vn [qf 2 b32, qf 7 b35, qk 8 [87] 7 ⟨[(87, vb true)], []⟩ (law23_awake_ok v36 h37)] 7 ⟨[(4, vb v36)], []⟩ ?_
         exact q_J (v36) hm
        ·replace hm := bif_f b35 hm
         refine q_vn [qf 2 b32, qf 7 b35] 7 ⟨[(4, vb false)], []⟩ ?_
         exact q_J (false) hm
    ·rcases Bool.eq_false_or_eq_true (v12.2 != 0) with b27 | b27
     ·replace hm := bif_t b27 hm
      refine q_vu [qf 2 b27] 7 [2, 9, 10] [(73, vb true)] [0] [] ?_
      exact q_J (true) hm
     ·replace hm := bif_f b27 hm
      refine q_vu [qf 2 b27] 7 [2, 9, 10] [(73, vb (decide (v10.2.1 < (w64 (a1.Rates.Chip * v25)))))] [0] [] ?_
      exact q_J (decide (v10.2.1 < (w64 (a1.Rates.Chip * v25)))) hm
 ·obtain ⟨v3, h4, hm⟩ := bind_s hm
  rcases Bool.eq_false_or_eq_true (!v3) with b5 | b5
  ·replace hm := bif_t b5 hm
   refine q_vu [qc 1 [13] 1 (law23_Small_ok a1 v3 h4), qf 3 b5] 1 [] [(20, vb true)] [] [] ?_
   exact q_J (true) hm
  ·replace hm := bif_f b5 hm
   refine q_vu [qc 1 [13] 1 (law23_Small_ok a1 v3 h4), qf 3 b5] 1 [] [(20, vb (decide (((a2.length : Nat) : Int) > 100)))] [] [] ?_
   exact q_J (decide (((a2.length : Nat) : Int) > 100)) hm

end Saw
end Go.SL
