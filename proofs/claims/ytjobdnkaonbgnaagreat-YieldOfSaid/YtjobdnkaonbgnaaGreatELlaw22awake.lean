import Derived.Test.YtjobdnkaonbgnaaGreatEBase
import Derived.Test.YtjobdnkaonbgnaaGreatELlaw22sample
import Derived.Test.YtjobdnkaonbgnaaGreatELs
import Derived.Test.YtjobdnkaonbgnaaGreatEFa7
set_option linter.unusedVariables false
set_option linter.unusedSimpArgs false
namespace Go.SL
namespace Saw
open Go.Proofs
set_option maxHeartbeats 4000000
set_option maxRecDepth 100000
def qLG (r : Bool) : V := vb r
def qK8 (r : Bool) : List (Nat × (Nat × O)) := []
def qA5 (x25 : Bool) : St :=
 ⟨[(0, vb x25)], []⟩
def qA6 (v3 : Yield × Int) (v5 : (List Yield_Cut) × Int) (v7 : Yield × Int) (x12 : Bool) : St :=
 ⟨[(2, vp 5 0), (4, vo 6 0 9 v5.1.length), (6, vp 8 0), (51, vb x12)], [(5, bx 50 (wG v3.1)), (6, ro 0 69 9 v5.1.length (rf qR v5.1)), (8, bx 50 (wG v7.1))]⟩
theorem qDd (r : Bool) (hm : LV = some r) : CtX Tryz.prog globs 6 0 0 [] [] (qLG r) (qK8 r) := by
 unfold LV at hm
 refine q_E Tryz.f6 91 fun E => ?_
 refine s_vn [] 0 ⟨[], []⟩ ?_
 obtain ⟨v1, h2, hm⟩ := qD hm
 refine s_vn [qc 0 [] 0 (qIB v1 h2)] 0 ⟨[(1, vp 4 0)], [(0, ro 0 59 3 v1.Solid.length (rf qH v1.Solid)), (1, ro 0 135 7 v1.Defects.length (rf qI v1.Defects)), (2, ro 0 62 7 v1.Products.length (rf qA v1.Products)), (3, ro 0 65 2 v1.Pattern.Nodes.length (rf qJ v1.Pattern.Nodes)), (4, bx 37 [.own 0 0 3 v1.Solid.length, .own 1 0 7 v1.Defects.length, .own 2 0 7 v1.Products.length, ci v1.Pattern.Frame.X.A, ci v1.Pattern.Frame.X.B, ci v1.Pattern.Frame.Y.A, ci v1.Pattern.Frame.Y.B, .own 3 0 2 v1.Pattern.Nodes.length, ci v1.Saw.Kerf, ci v1.Saw.Trim, ci v1.Saw.Pitch, ci v1.Saw.Step, ci v1.Rates.Chip, ci v1.Rates.Dust, ci v1.Rates.Fine])]⟩ ?_
 obtain ⟨v3, h4, hm⟩ := qD hm
 refine s_vu [qd 1 (dex (cen [] [] 5 0 (qD6 v3) (EF v3) [11] [0, 1, 2, 3])) (ZC (K := (kx E 91 0)) (b := false) ⟨[(11, va [.own 0 0 3 v1.Solid.length, .own 1 0 7 v1.Defects.length, .own 2 0 7 v1.Products.length, ci v1.Pattern.Frame.X.A, ci v1.Pattern.Frame.X.B, ci v1.Pattern.Frame.Y.A, ci v1.Pattern.Frame.Y.B, .own 3 0 2 v1.Pattern.Nodes.length, ci v1.Saw.Kerf, ci v1.Saw.Trim, ci v1.Saw.Pitch, ci v1.Saw.Step, ci v1.Rates.Chip, ci v1.Rates.Dust, ci v1.Rates.Fine])], [(0, ro 0 59 3 v1.Solid.length (rf qH v1.Solid)), (1, ro 0 135 7 v1.Defects.length (rf qI v1.Defects)), (2, ro 0 62 7 v1.Products.length (rf qA v1.Products)), (3, ro 0 65 2 v1.Pattern.Nodes.length (rf qJ v1.Pattern.Nodes))]⟩ (opAt (rg Tryz.f6 14) 1) [] [] 5 (o1 (And.intro (Nat.le_refl v1.Solid.length) (And.intro (Nat.le_refl v1.Defects.length) (And.intro (Nat.le_refl v1.Products.length) (Nat.le_refl v1.Pattern.Nodes.length))))) rfl (law22_of_ok (Law22_Given.mk v1.Solid v1.Defects v1.Products (Pattern.mk v1.Pattern.Frame v1.Pattern.Nodes) v1.Saw v1.Rates) v3 h4) (.inr ⟨(by kernel_rfl), qHr v3⟩) (by kernel_rfl))] 5 [] [(2, vp 5 0), (3, vi v3.2)] [] [(5, bx 50 (wG v3.1))] ?_
 obtain ⟨v5, h6, hm⟩ := qD hm
 refine s_vu [qd 1 (dex (cen [] [] 6 0 (qDr v5) (NR v5) [16] [0, 1, 2, 3])) (ZC (K := (kx E 91 0)) (b := false) ⟨[(16, va [.own 0 0 3 v1.Solid.length, .own 1 0 7 v1.Defects.length, .own 2 0 7 v1.Products.length, ci v1.Pattern.Frame.X.A, ci v1.Pattern.Frame.X.B, ci v1.Pattern.Frame.Y.A, ci v1.Pattern.Frame.Y.B, .own 3 0 2 v1.Pattern.Nodes.length, ci v1.Saw.Kerf, ci v1.Saw.Trim, ci v1.Saw.Pitch, ci v1.Saw.Step, ci v1.Rates.Chip, ci v1.Rates.Dust, ci v1.Rates.Fine])], [(0, ro 0 59 3 v1.Solid.length (rf qH v1.Solid)), (1, ro 0 135 7 v1.Defects.length (rf qI v1.Defects)), (2, ro 0 62 7 v1.Products.length (rf qA v1.Products)), (3, ro 0 65 2 v1.Pattern.Nodes.length (rf qJ v1.Pattern.Nodes))]⟩ (opAt (rg Tryz.f6 30) 1) [] [] 6 (o1 (And.intro (Nat.le_refl v1.Solid.length) (And.intro (Nat.le_refl v1.Defects.length) (And.intro (Nat.le_refl v1.Products.length) (Nat.le_refl v1.Pattern.Nodes.length))))) rfl (law22_boards_ok (Law22_Given.mk v1.Solid v1.Defects v1.Products (Pattern.mk v1.Pattern.Frame v1.Pattern.Nodes) v1.Saw v1.Rates) v5 h6) (.inr ⟨(by kernel_rfl), qJX v5⟩) (by kernel_rfl))] 6 [] [(4, vo 6 0 9 v5.1.length), (5, vi v5.2)] [] [(6, ro 0 69 9 v5.1.length (rf qR v5.1))] ?_
 refine s_vu [] 7 [] [] [4] [(4, bx 37 [.own 0 0 3 v1.Solid.length, .own 1 0 7 v1.Defects.length, .own 2 0 7 v1.Products.length, ci v1.Pattern.Frame.X.A, ci v1.Pattern.Frame.X.B, ci v1.Pattern.Frame.Y.A, ci v1.Pattern.Frame.Y.B, .own 3 0 2 v1.Pattern.Nodes.length, ci v1.Saw.Kerf, ci v1.Saw.Trim, ci v1.Saw.Pitch, ci v1.Saw.Step, ci 0, ci v1.Rates.Dust, ci v1.Rates.Fine])] ?_
 refine s_vu [] 7 [] [] [4] [(4, bx 37 [.own 0 0 3 v1.Solid.length, .own 1 0 7 v1.Defects.length, .own 2 0 7 v1.Products.length, ci v1.Pattern.Frame.X.A, ci v1.Pattern.Frame.X.B, ci v1.Pattern.Frame.Y.A, ci 90, .own 3 0 2 v1.Pattern.Nodes.length, ci v1.Saw.Kerf, ci v1.Saw.Trim, ci v1.Saw.Pitch, ci v1.Saw.Step, ci 0, ci v1.Rates.Dust, ci v1.Rates.Fine])] ?_
 refine s_vu [qd 3 (drw 7 0 (rf qJ ([(Node.mk 3 42), (Node.mk 1 0), (Node.mk 0 0)] : List Node))) (litP qJ default 2 (fun _ => rfl) ([(Node.mk 3 42), (Node.mk 1 0), (Node.mk 0 0)] : List Node) 3 rfl)] 7 [] [] [3, 4] [(4, bx 37 [.own 0 0 3 v1.Solid.length, .own 1 0 7 v1.Defects.length, .own 2 0 7 v1.Products.length, ci v1.Pattern.Frame.X.A, ci v1.Pattern.Frame.X.B, ci v1.Pattern.Frame.Y.A, ci 90, .own 7 0 2 3, ci v1.Saw.Kerf, ci v1.Saw.Trim, ci v1.Saw.Pitch, ci v1.Saw.Step, ci 0, ci v1.Rates.Dust, ci v1.Rates.Fine]), (7, ro 0 65 2 3 (rf qJ ([(Node.mk 3 42), (Node.mk 1 0), (Node.mk 0 0)] : List Node)))] ?_
 obtain ⟨v7, h8, hm⟩ := qD hm
 refine s_vu [qd 1 (dex (cen [] [] 8 0 (qD6 v7) (EF v7) [33] [0, 1, 2, 7])) (ZC (K := (kx E 91 0)) (xs' := [.agg [.lst v1.Solid.length (rf qH v1.Solid), .lst v1.Defects.length (rf qI v1.Defects), .lst v1.Products.length (rf qA v1.Products), ci v1.Pattern.Frame.X.A, ci v1.Pattern.Frame.X.B, ci v1.Pattern.Frame.Y.A, ci 90, .lst 3 (rf qJ ([(Node.mk 3 42), (Node.mk 1 0), (Node.mk 0 0)] : List Node)), ci v1.Saw.Kerf, ci v1.Saw.Trim, ci v1.Saw.Pitch, ci v1.Saw.Step, ci 0, ci v1.Rates.Dust, ci v1.Rates.Fine]]) (b := false) ⟨[(33, va [.own 0 0 3 v1.Solid.length, .own 1 0 7 v1.Defects.length, .own 2 0 7 v1.Products.length, ci v1.Pattern.Frame.X.A, ci v1.Pattern.Frame.X.B, ci v1.Pattern.Frame.Y.A, ci 90, .own 7 0 2 3, ci v1.Saw.Kerf, ci v1.Saw.Trim, ci v1.Saw.Pitch, ci v1.Saw.Step, ci 0, ci v1.Rates.Dust, ci v1.Rates.Fine])], [(0, ro 0 59 3 v1.Solid.length (rf qH v1.Solid)), (1, ro 0 135 7 v1.Defects.length (rf qI v1.Defects)), (2, ro 0 62 7 v1.Products.length (rf qA v1.Products)), (7, ro 0 65 2 3 (rf qJ ([(Node.mk 3 42), (Node.mk 1 0), (Node.mk 0 0)] : List Node)))]⟩ (opAt (rg Tryz.f6 510) 1) [] [] 8 (o1 (And.intro (Nat.le_refl v1.Solid.length) (And.intro (Nat.le_refl v1.Defects.length) (And.intro (Nat.le_refl v1.Products.length) (Nat.le_refl 3))))) (by simp only [tl, rf, qX, show ([(Node.mk 3 42), (Node.mk 1 0), (Node.mk 0 0)] : List Node).length = 3 from rfl]) (law22_of_ok (Law22_Given.mk v1.Solid v1.Defects v1.Products (Pattern.mk (Rect.mk v1.Pattern.Frame.X (Span.mk v1.Pattern.Frame.Y.A 90)) ([(Node.mk 3 42), (Node.mk 1 0), (Node.mk 0 0)] : List Node)) v1.Saw (Rates.mk 0 v1.Rates.Dust v1.Rates.Fine)) v7 h8) (.inr ⟨(by kernel_rfl), qHr v7⟩) (by kernel_rfl))] 8 [1] [(6, vp 8 0), (7, vi v7.2)] [0, 1, 2, 4, 7] [(8, bx 50 (wG v7.1))] ?_
 refine q_sq ?_
 refine q_jn (ι := Bool) (fun p => qA6 v3 v5 v7 p) (fun p => TG v3 v5 v7 p = some r) ?_ ?_
 ·rintro x12 hm
  show H _ (qA6 v3 v5 v7 x12) _ _
  refine q_cn x12 (fun b13 => ?_) (fun b13 => ?_)
  ·replace hm := qB b13 hm
   refine s_vn [] 9 ⟨[(0, vb false)], []⟩ ?_
   obtain rfl := oi hm
   refine q_rt ?_
   exact q_rm
  ·replace hm := qC b13 hm
   refine q_sk ?_
   refine s_vu [] 9 [51] [(8, vp 9 0)] [] [(9, bx 69 [ci 0, ci 0, ci (-50), ci 55, ci 0, ci 42, ci 0, ci 2000, ci 70])] ?_
   refine q_jn (ι := Bool) (fun p => qA5 p) (fun p => QH p = some r) ?_ ?_
   ·rintro x25 hm
    show H _ (qA5 x25) _ _
    obtain rfl := oi hm
    refine q_rt ?_
    exact q_rm
   ·rcases Bool.eq_false_or_eq_true ((v3.1.Log == 120000000) && ((v3.1.Boards == 8820000) && ((v3.1.Chips == 111157950) && ((v3.1.Dust == 22050) && ((v3.1.Value == 181157950) && true))))) with b14 | b14
    ·replace hm := qB b14 hm
     obtain ⟨g15, hm⟩ := qM hm
     rcases Bool.eq_false_or_eq_true ((((v5.1.getD ((0 : Int).toNat) default).Leaf) == 0) && ((((v5.1.getD ((0 : Int).toNat) default).Product) == 0) && ((((((((v5.1.getD ((0 : Int).toNat) default).Box).X).A) == (-50)) && ((((((v5.1.getD ((0 : Int).toNat) default).Box).X).B) == 55) && true)) && (((((((v5.1.getD ((0 : Int).toNat) default).Box).Y).A) == 0) && ((((((v5.1.getD ((0 : Int).toNat) default).Box).Y).B) == 42) && true)) && (((((((v5.1.getD ((0 : Int).toNat) default).Box).Z).A) == 0) && ((((((v5.1.getD ((0 : Int).toNat) default).Box).Z).B) == 2000) && true)) && true))) && ((((v5.1.getD ((0 : Int).toNat) default).Worth) == 70) && true)))) with b16 | b16
     ·replace hm := qB b16 hm
      rcases Bool.eq_false_or_eq_true (v7.1.Dust == 1282050) with b17 | b17
      ·replace hm := qB b17 hm
       rcases Bool.eq_false_or_eq_true (v7.1.Boards == 8820000) with b18 | b18
       ·replace hm := qB b18 hm
        rcases Bool.eq_false_or_eq_true (v7.1.Value == 70000000) with b19 | b19
        ·replace hm := qB b19 hm
         obtain ⟨v20, h21, hm⟩ := qD hm
         rcases Bool.eq_false_or_eq_true (v20 == 73) with b22 | b22
         ·replace hm := qB b22 hm
          obtain ⟨v23, h24, hm⟩ := qD hm
          refine q_dn [qf 3 b14, qd 5 (Dir.none) (inb_of g15), qd 6 (Dir.none) (toNat_lt (inb_of g15)), qf 10 b16, qf 15 b17, qf 20 b18, qf 25 b19, qk 27 [82, 83] 10 ⟨[(82, vb true), (83, va (wG v3.1))], []⟩ (qAu v3.1 v20 h21), qf 30 b22, qk 32 [87, 88] 10 ⟨[(87, vb true), (88, va (wG v3.1))], []⟩ (LH v3.1 v23 h24)] [0, 0, 3, 7, 15, 31, 63, 15, 255, 511, 1023, 2047, 4095, 8191, 16383, 32767, 65535, 131071, 262143, 524287, 1048575, 2097151, 4194303, 8388607, 16777215, 33554431, 67108863, 134217727, 268435455, 536870911, 1073741823, 2147483647, 4294967295, 8589934591, 17179869183] 10 ⟨[(0, vb v23)], []⟩ ?_
          exact q_J (v23) hm
         ·replace hm := qC b22 hm
          refine q_dn [qf 3 b14, qd 5 (Dir.none) (inb_of g15), qd 6 (Dir.none) (toNat_lt (inb_of g15)), qf 10 b16, qf 15 b17, qf 20 b18, qf 25 b19, qk 27 [82, 83] 10 ⟨[(82, vb true), (83, va (wG v3.1))], []⟩ (qAu v3.1 v20 h21), qf 30 b22] [0, 0, 3, 7, 15, 31, 63, 15, 255, 511, 1023, 2047, 4095, 8191, 16383, 32767, 65535, 131071, 262143, 524287, 1048575, 2097151, 4194303, 8388607, 16777215, 33554431, 67108863, 134217727, 268435455, 536870911, 1073741823, 2147483647, 4294967295, 8589934591, 17179869183] 10 ⟨[(0, vb false)], []⟩ ?_
          exact q_J (false) hm
        ·replace hm := qC b19 hm
         refine q_dn [qf 3 b14, qd 5 (Dir.none) (inb_of g15), qd 6 (Dir.none) (toNat_lt (inb_of g15)), qf 10 b16, qf 15 b17, qf 20 b18, qf 25 b19] [0, 0, 3, 7, 15, 31, 63, 15, 255, 511, 1023, 2047, 4095, 8191, 16383, 32767, 65535, 131071, 262143, 524287, 1048575, 2097151, 4194303, 8388607, 16777215, 33554431, 67108863, 134217727, 268435455, 536870911, 1073741823, 2147483647, 4294967295, 8589934591, 17179869183] 10 ⟨[(0, vb false)], []⟩ ?_
         exact q_J (false) hm
       ·replace hm := qC b18 hm
        refine q_dn [qf 3 b14, qd 5 (Dir.none) (inb_of g15), qd 6 (Dir.none) (toNat_lt (inb_of g15)), qf 10 b16, qf 15 b17, qf 20 b18] [0, 0, 3, 7, 15, 31, 63, 15, 255, 511, 1023, 2047, 4095, 8191, 16383, 32767, 65535, 131071, 262143, 524287, 1048575, 2097151, 4194303, 8388607, 16777215, 33554431, 67108863, 134217727, 268435455, 536870911, 1073741823, 2147483647, 4294967295, 8589934591, 17179869183] 10 ⟨[(0, vb false)], []⟩ ?_
        exact q_J (false) hm
      ·replace hm := qC b17 hm
       refine q_dn [qf 3 b14, qd 5 (Dir.none) (inb_of g15), qd 6 (Dir.none) (toNat_lt (inb_of g15)), qf 10 b16, qf 15 b17] [0, 0, 3, 7, 15, 31, 63, 15, 255, 511, 1023, 2047, 4095, 8191, 16383, 32767, 65535, 131071, 262143, 524287, 1048575, 2097151, 4194303, 8388607, 16777215, 33554431, 67108863, 134217727, 268435455, 536870911, 1073741823, 2147483647, 4294967295, 8589934591, 17179869183] 10 ⟨[(0, vb false)], []⟩ ?_
       exact q_J (false) hm
     ·replace hm := qC b16 hm
      refine q_dn [qf 3 b14, qd 5 (Dir.none) (inb_of g15), qd 6 (Dir.none) (toNat_lt (inb_of g15)), qf 10 b16] [0, 0, 3, 7, 15, 31, 63, 15, 255, 511, 1023, 2047, 4095, 8191, 16383, 32767, 65535, 131071, 262143, 524287, 1048575, 2097151, 4194303, 8388607, 16777215, 33554431, 67108863, 134217727, 268435455, 536870911, 1073741823, 2147483647, 4294967295, 8589934591, 17179869183] 10 ⟨[(0, vb false)], []⟩ ?_
      exact q_J (false) hm
    ·replace hm := qC b14 hm
     refine q_dn [qf 3 b14] [0, 0, 3, 7, 15, 31, 63, 15, 255, 511, 1023, 2047, 4095, 8191, 16383, 32767, 65535, 131071, 262143, 524287, 1048575, 2097151, 4194303, 8388607, 16777215, 33554431, 67108863, 134217727, 268435455, 536870911, 1073741823, 2147483647, 4294967295, 8589934591, 17179869183] 10 ⟨[(0, vb false)], []⟩ ?_
     exact q_J (false) hm
 ·rcases Bool.eq_false_or_eq_true (v3.2 != 0) with b9 | b9
  ·replace hm := qB b9 hm
   refine q_vu [qf 2 b9] 9 [3, 5, 7] [(51, vb true)] [] [] ?_
   exact q_J (true) hm
  ·replace hm := qC b9 hm
   rcases Bool.eq_false_or_eq_true (v5.2 != 0) with b10 | b10
   ·replace hm := qB b10 hm
    refine q_vu [qf 2 b9, qf 6 b10] 9 [3, 5, 7] [(51, vb true)] [] [] ?_
    exact q_J (true) hm
   ·replace hm := qC b10 hm
    rcases Bool.eq_false_or_eq_true (v7.2 != 0) with b11 | b11
    ·replace hm := qB b11 hm
     refine q_vu [qf 2 b9, qf 6 b10, qf 10 b11] 9 [3, 5, 7] [(51, vb true)] [] [] ?_
     exact q_J (true) hm
    ·replace hm := qC b11 hm
     refine q_vu [qf 2 b9, qf 6 b10, qf 10 b11] 9 [3, 5, 7] [(51, vb (((v5.1.length : Nat) : Int) != 1))] [] [] ?_
     exact q_J (((v5.1.length : Nat) : Int) != 1) hm
end Saw
end Go.SL
