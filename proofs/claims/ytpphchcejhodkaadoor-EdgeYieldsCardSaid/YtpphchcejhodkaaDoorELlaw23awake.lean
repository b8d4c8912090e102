import Derived.Test.YtpphchcejhodkaaDoorEBase
import Derived.Test.YtpphchcejhodkaaDoorELlaw23sample
import Derived.Test.YtpphchcejhodkaaDoorELs
import Derived.Test.YtpphchcejhodkaaDoorEFa4
set_option linter.unusedVariables false
set_option linter.unusedSimpArgs false
namespace Go.SL
namespace Saw
open Go.Proofs
set_option maxHeartbeats 4000000
set_option maxRecDepth 100000
def qI8 (r : Bool) : V := vb r
def qI7 (r : Bool) : List (Nat × (Nat × O)) := []
def CS (x38 : Bool) : St :=
 ⟨[(0, vb x38)], []⟩
def CG (v3 : Line × Int) (v5 : (List Node) × Int × Int) (v7 : (List Node) × Int × Int) (v9 : (List Int) × (List Int)) (x19 : Bool) : St :=
 ⟨[(2, vp 8 0), (4, vo 9 0 2 v5.1.length), (5, vi v5.2.1), (8, vi v7.2.1), (10, vo 11 0 1 v9.1.length), (11, vo 12 0 1 v9.2.length), (76, vb x19)], [(4, ro 0 3 1 v3.1.Sizes.length (rf e_i64 v3.1.Sizes)), (5, ro 0 57 1 v3.1.Gain.length (rf (qV e_i64) v3.1.Gain)), (6, ro 0 3 1 v3.1.Chip.length (rf e_i64 v3.1.Chip)), (7, ro 0 3 1 v3.1.Dust.length (rf e_i64 v3.1.Dust)), (8, bx 63 [ci v3.1.Len, ci v3.1.Kerf, ci v3.1.Pitch, .own 4 0 1 v3.1.Sizes.length, .own 5 0 1 v3.1.Gain.length, .own 6 0 1 v3.1.Chip.length, .own 7 0 1 v3.1.Dust.length]), (9, ro 0 69 2 v5.1.length (rf e_Node v5.1)), (11, ro 0 3 1 v9.1.length (rf e_i64 v9.1)), (12, ro 0 3 1 v9.2.length (rf e_i64 v9.2))]⟩
theorem HP (r : Bool) (hm : UJ = some r) : CtX Tryd.prog globs 5 0 0 [] [] (qI8 r) (qI7 r) := by
 unfold UJ at hm
 refine q_E Tryd.f5 139 fun E => ?_
 refine q_sq ?_
 refine q_vn [] 0 ⟨[], []⟩ ?_
 refine q_sq ?_
 obtain ⟨v1, h2, hm⟩ := qC hm
 refine q_vn [qc 0 [] 0 (qF4 v1 h2)] 0 ⟨[(1, vp 3 0)], [(0, ro 0 56 3 v1.Solid.length (rf qI v1.Solid)), (1, ro 0 151 7 v1.Defects.length (rf qH v1.Defects)), (2, ro 0 59 7 v1.Products.length (rf qE v1.Products)), (3, bx 34 [.own 0 0 3 v1.Solid.length, .own 1 0 7 v1.Defects.length, .own 2 0 7 v1.Products.length, ci v1.Strip.X.A, ci v1.Strip.X.B, ci v1.Strip.Y.A, ci v1.Strip.Y.B, ci v1.Saw.Kerf, ci v1.Saw.Trim, ci v1.Saw.Pitch, ci v1.Saw.Step, ci v1.Rates.Chip, ci v1.Rates.Dust, ci v1.Rates.Fine])]⟩ ?_
 refine q_sq ?_
 obtain ⟨v3, h4, hm⟩ := qC hm
 refine q_vn [qd 1 (dpr [.frz 0, .frz 1, .frz 2] (dex (cen [] [] 4 0 (qDJ v3) (qDA v3) [14] []))) (And.intro (And.intro (Nat.le_refl v1.Solid.length) (Nat.le_refl v1.Solid.length)) (And.intro (And.intro (Nat.le_refl v1.Defects.length) (Nat.le_refl v1.Defects.length)) (And.intro (Nat.le_refl v1.Products.length) (Nat.le_refl v1.Products.length)))), qd 1 (Dir.none) (WA (K := (kx E 139 0)) ⟨[(14, va (zI v1))], []⟩ (opAt (rg Tryd.f5 14) 1) [] [] 4 o0 rfl (qIV v1 v3 h4) (.inl rfl) (by kernel_rfl))] 4 ⟨[(1, vp 3 0), (2, vp 8 0), (3, vi v3.2)], [(3, bx 34 (zI v1)), (4, ro 0 3 1 v3.1.Sizes.length (rf e_i64 v3.1.Sizes)), (5, ro 0 57 1 v3.1.Gain.length (rf (qV e_i64) v3.1.Gain)), (6, ro 0 3 1 v3.1.Chip.length (rf e_i64 v3.1.Chip)), (7, ro 0 3 1 v3.1.Dust.length (rf e_i64 v3.1.Dust)), (8, bx 63 [ci v3.1.Len, ci v3.1.Kerf, ci v3.1.Pitch, .own 4 0 1 v3.1.Sizes.length, .own 5 0 1 v3.1.Gain.length, .own 6 0 1 v3.1.Chip.length, .own 7 0 1 v3.1.Dust.length])]⟩ ?_
 refine q_sq ?_
 obtain ⟨v5, h6, hm⟩ := qC hm
 refine q_vu [qc 1 [19] 9 (AR v1 v5 h6)] 9 [] [(4, vo 9 0 2 v5.1.length), (5, vi v5.2.1), (6, vi v5.2.2)] [] [(9, ro 0 69 2 v5.1.length (rf e_Node v5.1))] ?_
 refine q_sq ?_
 refine q_vu [] 10 [] [] [3] [(3, bx 34 [tl qI default v1.Solid, tl qH default v1.Defects, tl qE default v1.Products, ci v1.Strip.X.A, ci v1.Strip.X.B, ci v1.Strip.Y.A, ci v1.Strip.Y.B, ci v1.Saw.Kerf, ci v1.Saw.Trim, ci v1.Saw.Pitch, ci v1.Saw.Step, ci 1, ci v1.Rates.Dust, ci v1.Rates.Fine])] ?_
 refine q_sq ?_
 obtain ⟨v7, h8, hm⟩ := qC hm
 refine q_vu [qc 1 [27] 10 (AR (qP.mk v1.Solid v1.Defects v1.Products v1.Strip v1.Saw (Rates.mk 1 v1.Rates.Dust v1.Rates.Fine)) v7 h8)] 10 [] [(8, vi v7.2.1), (9, vi v7.2.2)] [] [] ?_
 refine q_sq ?_
 obtain ⟨v9, h10, hm⟩ := qC hm
 refine q_vu [qk 2 [34] 11 ⟨[(34, vc (tl qE default v1.Products))], []⟩ (AV v1.Products 42 v9 h10)] 11 [1] [(10, vo 11 0 1 v9.1.length), (11, vo 12 0 1 v9.2.length)] [3] [(11, ro 0 3 1 v9.1.length (rf e_i64 v9.1)), (12, ro 0 3 1 v9.2.length (rf e_i64 v9.2))] ?_
 refine q_sq ?_
 refine q_jn (ι := Bool) (fun p => CG v3 v5 v7 v9 p) (fun p => jZ v3 v5 v7 v9 p = some r) ?_ ?_
 ·rintro x19 hm
  show H _ (CG v3 v5 v7 v9 x19) _ _
  refine q_cn x19 (fun b20 => ?_) (fun b20 => ?_)
  ·replace hm := qA b20 hm
   refine q_sq ?_
   refine q_vn [] 13 ⟨[(0, vb false)], []⟩ ?_
   obtain rfl := Option.some.inj hm
   refine q_rt ?_
   exact q_rm
  ·replace hm := qB b20 hm
   refine q_sk ?_
   refine q_jn (ι := Bool) (fun p => CS p) (fun p => wN p = some r) ?_ ?_
   ·rintro x38 hm
    show H _ (CS x38) _ _
    obtain rfl := Option.some.inj hm
    refine q_rt ?_
    exact q_rm
   ·rcases Bool.eq_false_or_eq_true (v3.1.Len == 110) with b21 | b21
    ·replace hm := qA b21 hm
     obtain ⟨g22, hm⟩ := qM hm
     obtain ⟨g23, hm⟩ := qM hm
     rcases Bool.eq_false_or_eq_true (((v3.1.Gain.getD ((0 : Int).toNat) default).getD (5 : Int).toNat default) == 70000000) with b24 | b24
     ·replace hm := qA b24 hm
      obtain ⟨g25, hm⟩ := qM hm
      rcases Bool.eq_false_or_eq_true (((v3.1.Gain.getD ((0 : Int).toNat) default).getD (4 : Int).toNat default) == (-1)) with b26 | b26
      ·replace hm := qA b26 hm
       rcases Bool.eq_false_or_eq_true (v5.2.1 == 70000000) with b27 | b27
       ·replace hm := qA b27 hm
        rcases Bool.eq_false_or_eq_true (v7.2.1 == 74513950) with b28 | b28
        ·replace hm := qA b28 hm
         obtain ⟨g29, hm⟩ := qM hm
         rcases Bool.eq_false_or_eq_true ((((v5.1.getD ((0 : Int).toNat) default).Kind) == 2) && ((((v5.1.getD ((0 : Int).toNat) default).At) == 5) && true)) with b30 | b30
         ·replace hm := qA b30 hm
          obtain ⟨g31, hm⟩ := qM hm
          rcases Bool.eq_false_or_eq_true (((v5.1.getD ((1 : Int).toNat) default).Kind) == 1) with b32 | b32
          ·replace hm := qA b32 hm
           obtain ⟨g33, hm⟩ := qM hm
           rcases Bool.eq_false_or_eq_true (((v5.1.getD ((2 : Int).toNat) default).Kind) == 0) with b34 | b34
           ·replace hm := qA b34 hm
            obtain ⟨g35, hm⟩ := qM hm
            rcases Bool.eq_false_or_eq_true ((v9.1.getD ((0 : Int).toNat) default) == 105) with b36 | b36
            ·replace hm := qA b36 hm
             obtain ⟨g37, hm⟩ := qM hm
             refine q_vn [qf 3 b21, qd 6 (Dir.none) (inb_of g22), qd 7 (Dir.none) (toNat_lt (inb_of g22)), qd 8 (Dir.none) (inb_of g23), qf 12 b24, qd 15 (Dir.none) (inb_of g22), qd 16 (Dir.none) (toNat_lt (inb_of g22)), qd 17 (Dir.none) (inb_of g25), qf 21 b26, qf 25 b27, qf 29 b28, qd 31 (Dir.none) (inb_of g29), qd 32 (Dir.none) (toNat_lt (inb_of g29)), qf 36 b30, qd 38 (Dir.none) (inb_of g31), qd 40 (Dir.none) (toNat_lt (inb_of g31)), qf 43 b32, qd 45 (Dir.none) (inb_of g33), qd 47 (Dir.none) (toNat_lt (inb_of g33)), qf 50 b34, qd 52 (Dir.none) (inb_of g35), qd 53 (Dir.none) (toNat_lt (inb_of g35)), qf 56 b36, qd 58 (Dir.none) (inb_of g37), qd 59 (Dir.none) (toNat_lt (inb_of g37))] 13 ⟨[(0, vb ((v9.2.getD ((0 : Int).toNat) default) == 0))], []⟩ ?_
             exact q_J ((v9.2.getD ((0 : Int).toNat) default) == 0) hm
            ·replace hm := qB b36 hm
             refine q_vn [qf 3 b21, qd 6 (Dir.none) (inb_of g22), qd 7 (Dir.none) (toNat_lt (inb_of g22)), qd 8 (Dir.none) (inb_of g23), qf 12 b24, qd 15 (Dir.none) (inb_of g22), qd 16 (Dir.none) (toNat_lt (inb_of g22)), qd 17 (Dir.none) (inb_of g25), qf 21 b26, qf 25 b27, qf 29 b28, qd 31 (Dir.none) (inb_of g29), qd 32 (Dir.none) (toNat_lt (inb_of g29)), qf 36 b30, qd 38 (Dir.none) (inb_of g31), qd 40 (Dir.none) (toNat_lt (inb_of g31)), qf 43 b32, qd 45 (Dir.none) (inb_of g33), qd 47 (Dir.none) (toNat_lt (inb_of g33)), qf 50 b34, qd 52 (Dir.none) (inb_of g35), qd 53 (Dir.none) (toNat_lt (inb_of g35)), qf 56 b36] 13 ⟨[(0, vb false)], []⟩ ?_
             exact q_J (false) hm
           ·replace hm := qB b34 hm
            refine q_vn [qf 3 b21, qd 6 (Dir.none) (inb_of g22), qd 7 (Dir.none) (toNat_lt (inb_of g22)), qd 8 (Dir.none) (inb_of g23), qf 12 b24, qd 15 (Dir.none) (inb_of g22), qd 16 (Dir.none) (toNat_lt (inb_of g22)), qd 17 (Dir.none) (inb_of g25), qf 21 b26, qf 25 b27, qf 29 b28, qd 31 (Dir.none) (inb_of g29), qd 32 (Dir.none) (toNat_lt (inb_of g29)), qf 36 b30, qd 38 (Dir.none) (inb_of g31), qd 40 (Dir.none) (toNat_lt (inb_of g31)), qf 43 b32, qd 45 (Dir.none) (inb_of g33), qd 47 (Dir.none) (toNat_lt (inb_of g33)), qf 50 b34] 13 ⟨[(0, vb false)], []⟩ ?_
            exact q_J (false) hm
          ·replace hm := qB b32 hm
           refine q_vn [qf 3 b21, qd 6 (Dir.none) (inb_of g22), qd 7 (Dir.none) (toNat_lt (inb_of g22)), qd 8 (Dir.none) (inb_of g23), qf 12 b24, qd 15 (Dir.none) (inb_of g22), qd 16 (Dir.none) (toNat_lt (inb_of g22)), qd 17 (Dir.none) (inb_of g25), qf 21 b26, qf 25 b27, qf 29 b28, qd 31 (Dir.none) (inb_of g29), qd 32 (Dir.none) (toNat_lt (inb_of g29)), qf 36 b30, qd 38 (Dir.none) (inb_of g31), qd 40 (Dir.none) (toNat_lt (inb_of g31)), qf 43 b32] 13 ⟨[(0, vb false)], []⟩ ?_
           exact q_J (false) hm
         ·replace hm := qB b30 hm
          refine q_vn [qf 3 b21, qd 6 (Dir.none) (inb_of g22), qd 7 (Dir.none) (toNat_lt (inb_of g22)), qd 8 (Dir.none) (inb_of g23), qf 12 b24, qd 15 (Dir.none) (inb_of g22), qd 16 (Dir.none) (toNat_lt (inb_of g22)), qd 17 (Dir.none) (inb_of g25), qf 21 b26, qf 25 b27, qf 29 b28, qd 31 (Dir.none) (inb_of g29), qd 32 (Dir.none) (toNat_lt (inb_of g29)), qf 36 b30] 13 ⟨[(0, vb false)], []⟩ ?_
          exact q_J (false) hm
        ·replace hm := qB b28 hm
         refine q_vn [qf 3 b21, qd 6 (Dir.none) (inb_of g22), qd 7 (Dir.none) (toNat_lt (inb_of g22)), qd 8 (Dir.none) (inb_of g23), qf 12 b24, qd 15 (Dir.none) (inb_of g22), qd 16 (Dir.none) (toNat_lt (inb_of g22)), qd 17 (Dir.none) (inb_of g25), qf 21 b26, qf 25 b27, qf 29 b28] 13 ⟨[(0, vb false)], []⟩ ?_
         exact q_J (false) hm
       ·replace hm := qB b27 hm
        refine q_vn [qf 3 b21, qd 6 (Dir.none) (inb_of g22), qd 7 (Dir.none) (toNat_lt (inb_of g22)), qd 8 (Dir.none) (inb_of g23), qf 12 b24, qd 15 (Dir.none) (inb_of g22), qd 16 (Dir.none) (toNat_lt (inb_of g22)), qd 17 (Dir.none) (inb_of g25), qf 21 b26, qf 25 b27] 13 ⟨[(0, vb false)], []⟩ ?_
        exact q_J (false) hm
      ·replace hm := qB b26 hm
       refine q_vn [qf 3 b21, qd 6 (Dir.none) (inb_of g22), qd 7 (Dir.none) (toNat_lt (inb_of g22)), qd 8 (Dir.none) (inb_of g23), qf 12 b24, qd 15 (Dir.none) (inb_of g22), qd 16 (Dir.none) (toNat_lt (inb_of g22)), qd 17 (Dir.none) (inb_of g25), qf 21 b26] 13 ⟨[(0, vb false)], []⟩ ?_
       exact q_J (false) hm
     ·replace hm := qB b24 hm
      refine q_vn [qf 3 b21, qd 6 (Dir.none) (inb_of g22), qd 7 (Dir.none) (toNat_lt (inb_of g22)), qd 8 (Dir.none) (inb_of g23), qf 12 b24] 13 ⟨[(0, vb false)], []⟩ ?_
      exact q_J (false) hm
    ·replace hm := qB b21 hm
     refine q_vn [qf 3 b21] 13 ⟨[(0, vb false)], []⟩ ?_
     exact q_J (false) hm
 ·rcases Bool.eq_false_or_eq_true (v3.2 != 0) with b11 | b11
  ·replace hm := qA b11 hm
   refine q_vu [qf 2 b11] 13 [3, 6, 9] [(76, vb true)] [] [] ?_
   exact q_J (true) hm
  ·replace hm := qB b11 hm
   rcases Bool.eq_false_or_eq_true (v5.2.2 != 0) with b12 | b12
   ·replace hm := qA b12 hm
    refine q_vu [qf 2 b11, qf 6 b12] 13 [3, 6, 9] [(76, vb true)] [] [] ?_
    exact q_J (true) hm
   ·replace hm := qB b12 hm
    rcases Bool.eq_false_or_eq_true (v7.2.2 != 0) with b13 | b13
    ·replace hm := qA b13 hm
     refine q_vu [qf 2 b11, qf 6 b12, qf 10 b13] 13 [3, 6, 9] [(76, vb true)] [] [] ?_
     exact q_J (true) hm
    ·replace hm := qB b13 hm
     rcases Bool.eq_false_or_eq_true (((v5.1.length : Nat) : Int) != 3) with b14 | b14
     ·replace hm := qA b14 hm
      refine q_vu [qf 2 b11, qf 6 b12, qf 10 b13, qf 15 b14] 13 [3, 6, 9] [(76, vb true)] [] [] ?_
      exact q_J (true) hm
     ·replace hm := qB b14 hm
      rcases Bool.eq_false_or_eq_true (((v9.1.length : Nat) : Int) != 1) with b15 | b15
      ·replace hm := qA b15 hm
       refine q_vu [qf 2 b11, qf 6 b12, qf 10 b13, qf 15 b14, qf 20 b15] 13 [3, 6, 9] [(76, vb true)] [] [] ?_
       exact q_J (true) hm
      ·replace hm := qB b15 hm
       rcases Bool.eq_false_or_eq_true (((v9.2.length : Nat) : Int) != 1) with b16 | b16
       ·replace hm := qA b16 hm
        refine q_vu [qf 2 b11, qf 6 b12, qf 10 b13, qf 15 b14, qf 20 b15, qf 25 b16] 13 [3, 6, 9] [(76, vb true)] [] [] ?_
        exact q_J (true) hm
       ·replace hm := qB b16 hm
        rcases Bool.eq_false_or_eq_true (((v3.1.Gain.length : Nat) : Int) != 1) with b17 | b17
        ·replace hm := qA b17 hm
         refine q_vu [qf 2 b11, qf 6 b12, qf 10 b13, qf 15 b14, qf 20 b15, qf 25 b16, qf 31 b17] 13 [3, 6, 9] [(76, vb true)] [] [] ?_
         exact q_J (true) hm
        ·replace hm := qB b17 hm
         obtain ⟨g18, hm⟩ := qM hm
         refine q_vu [qf 2 b11, qf 6 b12, qf 10 b13, qf 15 b14, qf 20 b15, qf 25 b16, qf 31 b17, qd 34 (Dir.none) (inb_of g18), qd 35 (Dir.none) (toNat_lt (inb_of g18))] 13 [3, 6, 9] [(76, vb ((((v3.1.Gain.getD ((0 : Int).toNat) default).length : Nat) : Int) != 6))] [] [] ?_
         exact q_J ((((v3.1.Gain.getD ((0 : Int).toNat) default).length : Nat) : Int) != 6) hm
end Saw
end Go.SL
