import Derived.Test.YtgpgnlllieekbaaDoorEBase
import Derived.Test.YtgpgnlllieekbaaDoorELlaw23sample
import Derived.Test.YtgpgnlllieekbaaDoorELs
import Derived.Test.YtgpgnlllieekbaaDoorEFa7
set_option linter.unusedVariables false
set_option linter.unusedSimpArgs false
namespace Go.SL
namespace Saw
open Go.Proofs
set_option maxHeartbeats 4000000

def law23_awake_x (r : Bool) : V := vb r

def law23_awake_o (r : Bool) : List (Nat × (Nat × O)) := []

theorem law23_awake_f (r : Bool) : Frozen (law23_awake_o r) := by
  intro i k o h
  unfold law23_awake_o at h
  cases h

def law23_awake_k2_S (x38 : Bool) : St :=
  ⟨[(0, vb x38)], []⟩

def law23_awake_k1_S (v3 : Line × Int) (v5 : (List Node) × Int × Int) (v7 : (List Node) × Int × Int) (v9 : (List Int) × (List Int)) (x19 : Bool) : St :=
  ⟨[(2, vp 8 0), (4, vo 9 0 2 v5.1.length), (5, vi v5.2.1), (8, vi v7.2.1), (10, vo 11 0 1 v9.1.length), (11, vo 12 0 1 v9.2.length), (76, vb x19)], [(4, ro 0 3 1 v3.1.Sizes.length (rf e_i64 v3.1.Sizes)), (5, ro 0 25 1 v3.1.Gain.length (rf (e_lst e_i64) v3.1.Gain)), (6, ro 0 3 1 v3.1.Chip.length (rf e_i64 v3.1.Chip)), (7, ro 0 3 1 v3.1.Dust.length (rf e_i64 v3.1.Dust)), (8, bx 64 [ci v3.1.Len, ci v3.1.Kerf, ci v3.1.Pitch, .own 4 0 1 v3.1.Sizes.length, .own 5 0 1 v3.1.Gain.length, .own 6 0 1 v3.1.Chip.length, .own 7 0 1 v3.1.Dust.length]), (9, ro 0 80 2 v5.1.length (rf e_Node v5.1)), (11, ro 0 3 1 v9.1.length (rf e_i64 v9.1)), (12, ro 0 3 1 v9.2.length (rf e_i64 v9.2))]⟩

set_option maxRecDepth 100000 in
theorem law23_awake_ok (r : Bool) (hm : law23_awake = some r) : CtX Tryd.prog globs 9 0 0 [] [] (law23_awake_x r) (law23_awake_o r) := by
  unfold law23_awake at hm
  refine CtX_of_E (fn := Tryd.f9) (c := nd Tryd.f9 1) (nt := 139) (by kernel_rfl) (by kernel_rfl) (by kernel_rfl) (by kernel_rfl) fun E => ?_
  refine R_sq Tryd.f9 2 3 (by kernel_rfl) ?_
  refine R_rn Tryd.f9 2 0 [] [] 0 ⟨[], []⟩ o0 (by kernel_rfl) (by kernel_rfl) ?_
  refine R_sq Tryd.f9 6 7 (by kernel_rfl) ?_
  obtain ⟨v1, h2, hm⟩ := bind_s hm
  refine R_rn Tryd.f9 6 1 [(0, dex (cen [] [] 0 0 (law23_sample_x v1) (law23_sample_o v1) [] []))] [] 0 ⟨[(1, vp 3 0)], [(0, ro 0 54 3 v1.Solid.length (rf e_Slice v1.Solid)), (1, ro 0 59 7 v1.Defects.length (rf e_Defect v1.Defects)), (2, ro 0 43 7 v1.Products.length (rf e_Product v1.Products)), (3, bx 41 [.own 0 0 3 v1.Solid.length, .own 1 0 7 v1.Defects.length, .own 2 0 7 v1.Products.length, ci v1.Strip.X.A, ci v1.Strip.X.B, ci v1.Strip.Y.A, ci v1.Strip.Y.B, ci v1.Saw.Kerf, ci v1.Saw.Trim, ci v1.Saw.Pitch, ci v1.Saw.Step, ci v1.Rates.Chip, ci v1.Rates.Dust, ci v1.Rates.Fine])]⟩ (o1 (callS (K := (kx E 139 0)) ⟨[], []⟩ (opAt (rg Tryd.f9 6) 0) [] [] 0 o0 rfl (law23_sample_ok v1 h2) (.inl rfl) (by kernel_rfl))) (by kernel_rfl) (by kernel_rfl) ?_
  refine R_sq Tryd.f9 14 15 (by kernel_rfl) ?_
  obtain ⟨v3, h4, hm⟩ := bind_s hm
  refine R_rn Tryd.f9 14 2 [(1, dpr [.frz 0, .frz 1, .frz 2] (dex (cen [] [] 4 0 (law23_line_x v3) (law23_line_o v3) [14] [])))] [] 4 ⟨[(1, vp 3 0), (2, vp 8 0), (3, vi v3.2)], [(3, bx 41 [tl e_Slice default v1.Solid, tl e_Defect default v1.Defects, tl e_Product default v1.Products, ci v1.Strip.X.A, ci v1.Strip.X.B, ci v1.Strip.Y.A, ci v1.Strip.Y.B, ci v1.Saw.Kerf, ci v1.Saw.Trim, ci v1.Saw.Pitch, ci v1.Saw.Step, ci v1.Rates.Chip, ci v1.Rates.Dust, ci v1.Rates.Fine]), (4, ro 0 3 1 v3.1.Sizes.length (rf e_i64 v3.1.Sizes)), (5, ro 0 25 1 v3.1.Gain.length (rf (e_lst e_i64) v3.1.Gain)), (6, ro 0 3 1 v3.1.Chip.length (rf e_i64 v3.1.Chip)), (7, ro 0 3 1 v3.1.Dust.length (rf e_i64 v3.1.Dust)), (8, bx 64 [ci v3.1.Len, ci v3.1.Kerf, ci v3.1.Pitch, .own 4 0 1 v3.1.Sizes.length, .own 5 0 1 v3.1.Gain.length, .own 6 0 1 v3.1.Chip.length, .own 7 0 1 v3.1.Dust.length])]⟩ (o1 (And.intro (And.intro (And.intro (Nat.le_refl v1.Solid.length) (Nat.le_refl v1.Solid.length)) (And.intro (And.intro (Nat.le_refl v1.Defects.length) (Nat.le_refl v1.Defects.length)) (And.intro (Nat.le_refl v1.Products.length) (Nat.le_refl v1.Products.length)))) (callS (K := (kx E 139 0)) ⟨[(14, va [tl e_Slice default v1.Solid, tl e_Defect default v1.Defects, tl e_Product default v1.Products, ci v1.Strip.X.A, ci v1.Strip.X.B, ci v1.Strip.Y.A, ci v1.Strip.Y.B, ci v1.Saw.Kerf, ci v1.Saw.Trim, ci v1.Saw.Pitch, ci v1.Saw.Step, ci v1.Rates.Chip, ci v1.Rates.Dust, ci v1.Rates.Fine])], []⟩ (opAt (rg Tryd.f9 14) 1) [] [] 4 o0 rfl (law23_line_ok v1 v3 h4) (.inl rfl) (by kernel_rfl)))) (by kernel_rfl) (by kernel_rfl) ?_
  refine R_sq Tryd.f9 30 31 (by kernel_rfl) ?_
  obtain ⟨v5, h6, hm⟩ := bind_s hm
  refine R_rn Tryd.f9 30 3 [(1, dex (cen [] [] 9 0 (law23_best_x v5) (law23_best_o v5) [19] []))] [] 9 ⟨[(1, vp 3 0), (2, vp 8 0), (3, vi v3.2), (4, vo 9 0 2 v5.1.length), (5, vi v5.2.1), (6, vi v5.2.2)], [(3, bx 41 [tl e_Slice default v1.Solid, tl e_Defect default v1.Defects, tl e_Product default v1.Products, ci v1.Strip.X.A, ci v1.Strip.X.B, ci v1.Strip.Y.A, ci v1.Strip.Y.B, ci v1.Saw.Kerf, ci v1.Saw.Trim, ci v1.Saw.Pitch, ci v1.Saw.Step, ci v1.Rates.Chip, ci v1.Rates.Dust, ci v1.Rates.Fine]), (4, ro 0 3 1 v3.1.Sizes.length (rf e_i64 v3.1.Sizes)), (5, ro 0 25 1 v3.1.Gain.length (rf (e_lst e_i64) v3.1.Gain)), (6, ro 0 3 1 v3.1.Chip.length (rf e_i64 v3.1.Chip)), (7, ro 0 3 1 v3.1.Dust.length (rf e_i64 v3.1.Dust)), (8, bx 64 [ci v3.1.Len, ci v3.1.Kerf, ci v3.1.Pitch, .own 4 0 1 v3.1.Sizes.length, .own 5 0 1 v3.1.Gain.length, .own 6 0 1 v3.1.Chip.length, .own 7 0 1 v3.1.Dust.length]), (9, ro 0 80 2 v5.1.length (rf e_Node v5.1))]⟩ (o1 (callS (K := (kx E 139 0)) ⟨[(19, va [tl e_Slice default v1.Solid, tl e_Defect default v1.Defects, tl e_Product default v1.Products, ci v1.Strip.X.A, ci v1.Strip.X.B, ci v1.Strip.Y.A, ci v1.Strip.Y.B, ci v1.Saw.Kerf, ci v1.Saw.Trim, ci v1.Saw.Pitch, ci v1.Saw.Step, ci v1.Rates.Chip, ci v1.Rates.Dust, ci v1.Rates.Fine])], []⟩ (opAt (rg Tryd.f9 30) 1) [] [] 9 o0 rfl (law23_best_ok v1 v5 h6) (.inl rfl) (by kernel_rfl))) (by kernel_rfl) (by kernel_rfl) ?_
  refine R_sq Tryd.f9 62 63 (by kernel_rfl) ?_
  refine R_rn Tryd.f9 62 4 [] [] 10 ⟨[(1, vp 3 0), (2, vp 8 0), (3, vi v3.2), (4, vo 9 0 2 v5.1.length), (5, vi v5.2.1), (6, vi v5.2.2)], [(3, bx 41 [tl e_Slice default v1.Solid, tl e_Defect default v1.Defects, tl e_Product default v1.Products, ci v1.Strip.X.A, ci v1.Strip.X.B, ci v1.Strip.Y.A, ci v1.Strip.Y.B, ci v1.Saw.Kerf, ci v1.Saw.Trim, ci v1.Saw.Pitch, ci v1.Saw.Step, ci 1, ci v1.Rates.Dust, ci v1.Rates.Fine]), (4, ro 0 3 1 v3.1.Sizes.length (rf e_i64 v3.1.Sizes)), (5, ro 0 25 1 v3.1.Gain.length (rf (e_lst e_i64) v3.1.Gain)), (6, ro 0 3 1 v3.1.Chip.length (rf e_i64 v3.1.Chip)), (7, ro 0 3 1 v3.1.Dust.length (rf e_i64 v3.1.Dust)), (8, bx 64 [ci v3.1.Len, ci v3.1.Kerf, ci v3.1.Pitch, .own 4 0 1 v3.1.Sizes.length, .own 5 0 1 v3.1.Gain.length, .own 6 0 1 v3.1.Chip.length, .own 7 0 1 v3.1.Dust.length]), (9, ro 0 80 2 v5.1.length (rf e_Node v5.1))]⟩ o0 (by kernel_rfl) (by kernel_rfl) ?_
  refine R_sq Tryd.f9 126 127 (by kernel_rfl) ?_
  obtain ⟨v7, h8, hm⟩ := bind_s hm
  refine R_rn Tryd.f9 126 5 [(1, dex (cen [] [] 10 0 (law23_best_x v7) (law23_best_o v7) [27] []))] [] 10 ⟨[(1, vp 3 0), (2, vp 8 0), (3, vi v3.2), (4, vo 9 0 2 v5.1.length), (5, vi v5.2.1), (6, vi v5.2.2), (8, vi v7.2.1), (9, vi v7.2.2)], [(3, bx 41 [tl e_Slice default v1.Solid, tl e_Defect default v1.Defects, tl e_Product default v1.Products, ci v1.Strip.X.A, ci v1.Strip.X.B, ci v1.Strip.Y.A, ci v1.Strip.Y.B, ci v1.Saw.Kerf, ci v1.Saw.Trim, ci v1.Saw.Pitch, ci v1.Saw.Step, ci 1, ci v1.Rates.Dust, ci v1.Rates.Fine]), (4, ro 0 3 1 v3.1.Sizes.length (rf e_i64 v3.1.Sizes)), (5, ro 0 25 1 v3.1.Gain.length (rf (e_lst e_i64) v3.1.Gain)), (6, ro 0 3 1 v3.1.Chip.length (rf e_i64 v3.1.Chip)), (7, ro 0 3 1 v3.1.Dust.length (rf e_i64 v3.1.Dust)), (8, bx 64 [ci v3.1.Len, ci v3.1.Kerf, ci v3.1.Pitch, .own 4 0 1 v3.1.Sizes.length, .own 5 0 1 v3.1.Gain.length, .own 6 0 1 v3.1.Chip.length, .own 7 0 1 v3.1.Dust.length]), (9, ro 0 80 2 v5.1.length (rf e_Node v5.1))]⟩ (o1 (callS (K := (kx E 139 0)) ⟨[(27, va [tl e_Slice default v1.Solid, tl e_Defect default v1.Defects, tl e_Product default v1.Products, ci v1.Strip.X.A, ci v1.Strip.X.B, ci v1.Strip.Y.A, ci v1.Strip.Y.B, ci v1.Saw.Kerf, ci v1.Saw.Trim, ci v1.Saw.Pitch, ci v1.Saw.Step, ci 1, ci v1.Rates.Dust, ci v1.Rates.Fine])], []⟩ (opAt (rg Tryd.f9 126) 1) [] [] 10 o0 rfl (law23_best_ok (Law23_Given.mk v1.Solid v1.Defects v1.Products v1.Strip v1.Saw (Rates.mk 1 v1.Rates.Dust v1.Rates.Fine)) v7 h8) (.inl rfl) (by kernel_rfl))) (by kernel_rfl) (by kernel_rfl) ?_
  refine R_sq Tryd.f9 254 255 (by kernel_rfl) ?_
  obtain ⟨v9, h10, hm⟩ := bind_s hm
  refine R_rn Tryd.f9 254 6 [(2, dex (cen [] [] 11 0 (edge_Sizes_x v9) (edge_Sizes_o v9) [34] []))] [] 11 ⟨[(2, vp 8 0), (3, vi v3.2), (4, vo 9 0 2 v5.1.length), (5, vi v5.2.1), (6, vi v5.2.2), (8, vi v7.2.1), (9, vi v7.2.2), (10, vo 11 0 1 v9.1.length), (11, vo 12 0 1 v9.2.length)], [(4, ro 0 3 1 v3.1.Sizes.length (rf e_i64 v3.1.Sizes)), (5, ro 0 25 1 v3.1.Gain.length (rf (e_lst e_i64) v3.1.Gain)), (6, ro 0 3 1 v3.1.Chip.length (rf e_i64 v3.1.Chip)), (7, ro 0 3 1 v3.1.Dust.length (rf e_i64 v3.1.Dust)), (8, bx 64 [ci v3.1.Len, ci v3.1.Kerf, ci v3.1.Pitch, .own 4 0 1 v3.1.Sizes.length, .own 5 0 1 v3.1.Gain.length, .own 6 0 1 v3.1.Chip.length, .own 7 0 1 v3.1.Dust.length]), (9, ro 0 80 2 v5.1.length (rf e_Node v5.1)), (11, ro 0 3 1 v9.1.length (rf e_i64 v9.1)), (12, ro 0 3 1 v9.2.length (rf e_i64 v9.2))]⟩ (o1 (callS (K := (kx E 139 0)) ⟨[(34, vc (tl e_Product default v1.Products))], []⟩ (opAt (rg Tryd.f9 254) 2) [] [] 11 o0 rfl (edge_Sizes_ok v1.Products 42 v9 h10) (.inl rfl) (by kernel_rfl))) (by kernel_rfl) (by kernel_rfl) ?_
  refine R_sq Tryd.f9 510 511 (by kernel_rfl) ?_
  refine R_join (ι := Bool) (nd Tryd.f9 1020) (nd Tryd.f9 1021) (by kernel_rfl) (fun p => law23_awake_k1_S v3 v5 v7 v9 p) (fun p => law23_awake_k1 v3 v5 v7 v9 p = some r) ?_ ?_
  · rintro x19 hm
    show H _ (law23_awake_k1_S v3 v5 v7 v9 x19) (nd Tryd.f9 1021) _
    refine R_cn Tryd.f9 (.tmp 76) 2042 2043 (by kernel_rfl) x19 (by kernel_rfl) (fun b20 => ?_) (fun b20 => ?_)
    · replace hm := bif_t b20 hm
      refine R_sq Tryd.f9 4084 4085 (by kernel_rfl) ?_
      refine R_rn Tryd.f9 4084 8 [] [] 13 ⟨[(0, vb false)], []⟩ o0 (by kernel_rfl) (by kernel_rfl) ?_
      obtain rfl := Option.some.inj hm
      refine R_ret (by kernel_rfl) ?_
      exact ret_mk (by kernel_rfl) (by kernel_rfl)
    · replace hm := bif_f b20 hm
      refine R_skip (by kernel_rfl) ?_
      refine R_join (ι := Bool) (nd Tryd.f9 1022) (nd Tryd.f9 1023) (by kernel_rfl) (fun p => law23_awake_k2_S p) (fun p => law23_awake_k2 p = some r) ?_ ?_
      · rintro x38 hm
        show H _ (law23_awake_k2_S x38) (nd Tryd.f9 1023) _
        obtain rfl := Option.some.inj hm
        refine R_ret (by kernel_rfl) ?_
        exact ret_mk (by kernel_rfl) (by kernel_rfl)
      · rcases Bool.eq_false_or_eq_true (v3.1.Len == 110) with b21 | b21
        · replace hm := bif_t b21 hm
          obtain ⟨g22, hm⟩ := bif_n hm
          obtain ⟨g23, hm⟩ := bif_n hm
          rcases Bool.eq_false_or_eq_true (((v3.1.Gain.getD ((0 : Int).toNat) default).getD (5 : Int).toNat default) == 70000000) with b24 | b24
          · replace hm := bif_t b24 hm
            obtain ⟨g25, hm⟩ := bif_n hm
            rcases Bool.eq_false_or_eq_true (((v3.1.Gain.getD ((0 : Int).toNat) default).getD (4 : Int).toNat default) == (-1)) with b26 | b26
            · replace hm := bif_t b26 hm
              rcases Bool.eq_false_or_eq_true (v5.2.1 == 70000000) with b27 | b27
              · replace hm := bif_t b27 hm
                rcases Bool.eq_false_or_eq_true (v7.2.1 == 74513950) with b28 | b28
                · replace hm := bif_t b28 hm
                  obtain ⟨g29, hm⟩ := bif_n hm
                  rcases Bool.eq_false_or_eq_true ((((v5.1.getD ((0 : Int).toNat) default).Kind) == 2) && ((((v5.1.getD ((0 : Int).toNat) default).At) == 5) && true)) with b30 | b30
                  · replace hm := bif_t b30 hm
                    obtain ⟨g31, hm⟩ := bif_n hm
                    rcases Bool.eq_false_or_eq_true (((v5.1.getD ((1 : Int).toNat) default).Kind) == 1) with b32 | b32
                    · replace hm := bif_t b32 hm
                      obtain ⟨g33, hm⟩ := bif_n hm
                      rcases Bool.eq_false_or_eq_true (((v5.1.getD ((2 : Int).toNat) default).Kind) == 0) with b34 | b34
                      · replace hm := bif_t b34 hm
                        obtain ⟨g35, hm⟩ := bif_n hm
                        rcases Bool.eq_false_or_eq_true ((v9.1.getD ((0 : Int).toNat) default) == 105) with b36 | b36
                        · replace hm := bif_t b36 hm
                          obtain ⟨g37, hm⟩ := bif_n hm
                          refine R_rn Tryd.f9 1022 9 [(3, dfx true), (12, dfx true), (21, dfx true), (25, dfx true), (29, dfx true), (36, dfx true), (43, dfx true), (50, dfx true), (56, dfx true)] [] 13 ⟨[(0, vb ((v9.2.getD ((0 : Int).toNat) default) == 0))], []⟩ (o1 (And.intro b21 (And.intro (inb_of g22) (And.intro (toNat_lt (inb_of g22)) (And.intro (inb_of g23) (And.intro b24 (And.intro (inb_of g22) (And.intro (toNat_lt (inb_of g22)) (And.intro (inb_of g25) (And.intro b26 (And.intro b27 (And.intro b28 (And.intro (inb_of g29) (And.intro (toNat_lt (inb_of g29)) (And.intro b30 (And.intro (inb_of g31) (And.intro (toNat_lt (inb_of g31)) (And.intro b32 (And.intro (inb_of g33) (And.intro (toNat_lt (inb_of g33)) (And.intro b34 (And.intro (inb_of g35) (And.intro (toNat_lt (inb_of g35)) (And.intro b36 (And.intro (inb_of g37) (toNat_lt (inb_of g37))))))))))))))))))))))))))) (by kernel_rfl) (by kernel_rfl) ?_
                          exact J_mk ((v9.2.getD ((0 : Int).toNat) default) == 0) hm (by kernel_rfl) (by kernel_rfl)
                        · replace hm := bif_f b36 hm
                          refine R_rn Tryd.f9 1022 9 [(3, dfx true), (12, dfx true), (21, dfx true), (25, dfx true), (29, dfx true), (36, dfx true), (43, dfx true), (50, dfx true), (56, dfx false)] [] 13 ⟨[(0, vb false)], []⟩ (o1 (And.intro b21 (And.intro (inb_of g22) (And.intro (toNat_lt (inb_of g22)) (And.intro (inb_of g23) (And.intro b24 (And.intro (inb_of g22) (And.intro (toNat_lt (inb_of g22)) (And.intro (inb_of g25) (And.intro b26 (And.intro b27 (And.intro b28 (And.intro (inb_of g29) (And.intro (toNat_lt (inb_of g29)) (And.intro b30 (And.intro (inb_of g31) (And.intro (toNat_lt (inb_of g31)) (And.intro b32 (And.intro (inb_of g33) (And.intro (toNat_lt (inb_of g33)) (And.intro b34 (And.intro (inb_of g35) (And.intro (toNat_lt (inb_of g35)) b36))))))))))))))))))))))) (by kernel_rfl) (by kernel_rfl) ?_
                          exact J_mk (false) hm (by kernel_rfl) (by kernel_rfl)
                      · replace hm := bif_f b34 hm
                        refine R_rn Tryd.f9 1022 9 [(3, dfx true), (12, dfx true), (21, dfx true), (25, dfx true), (29, dfx true), (36, dfx true), (43, dfx true), (50, dfx false)] [] 13 ⟨[(0, vb false)], []⟩ (o1 (And.intro b21 (And.intro (inb_of g22) (And.intro (toNat_lt (inb_of g22)) (And.intro (inb_of g23) (And.intro b24 (And.intro (inb_of g22) (And.intro (toNat_lt (inb_of g22)) (And.intro (inb_of g25) (And.intro b26 (And.intro b27 (And.intro b28 (And.intro (inb_of g29) (And.intro (toNat_lt (inb_of g29)) (And.intro b30 (And.intro (inb_of g31) (And.intro (toNat_lt (inb_of g31)) (And.intro b32 (And.intro (inb_of g33) (And.intro (toNat_lt (inb_of g33)) b34)))))))))))))))))))) (by kernel_rfl) (by kernel_rfl) ?_
                        exact J_mk (false) hm (by kernel_rfl) (by kernel_rfl)
                    · replace hm := bif_f b32 hm
                      refine R_rn Tryd.f9 1022 9 [(3, dfx true), (12, dfx true), (21, dfx true), (25, dfx true), (29, dfx true), (36, dfx true), (43, dfx false)] [] 13 ⟨[(0, vb false)], []⟩ (o1 (And.intro b21 (And.intro (inb_of g22) (And.intro (toNat_lt (inb_of g22)) (And.intro (inb_of g23) (And.intro b24 (And.intro (inb_of g22) (And.intro (toNat_lt (inb_of g22)) (And.intro (inb_of g25) (And.intro b26 (And.intro b27 (And.intro b28 (And.intro (inb_of g29) (And.intro (toNat_lt (inb_of g29)) (And.intro b30 (And.intro (inb_of g31) (And.intro (toNat_lt (inb_of g31)) b32))))))))))))))))) (by kernel_rfl) (by kernel_rfl) ?_
                      exact J_mk (false) hm (by kernel_rfl) (by kernel_rfl)
                  · replace hm := bif_f b30 hm
                    refine R_rn Tryd.f9 1022 9 [(3, dfx true), (12, dfx true), (21, dfx true), (25, dfx true), (29, dfx true), (36, dfx false)] [] 13 ⟨[(0, vb false)], []⟩ (o1 (And.intro b21 (And.intro (inb_of g22) (And.intro (toNat_lt (inb_of g22)) (And.intro (inb_of g23) (And.intro b24 (And.intro (inb_of g22) (And.intro (toNat_lt (inb_of g22)) (And.intro (inb_of g25) (And.intro b26 (And.intro b27 (And.intro b28 (And.intro (inb_of g29) (And.intro (toNat_lt (inb_of g29)) b30)))))))))))))) (by kernel_rfl) (by kernel_rfl) ?_
                    exact J_mk (false) hm (by kernel_rfl) (by kernel_rfl)
                · replace hm := bif_f b28 hm
                  refine R_rn Tryd.f9 1022 9 [(3, dfx true), (12, dfx true), (21, dfx true), (25, dfx true), (29, dfx false)] [] 13 ⟨[(0, vb false)], []⟩ (o1 (And.intro b21 (And.intro (inb_of g22) (And.intro (toNat_lt (inb_of g22)) (And.intro (inb_of g23) (And.intro b24 (And.intro (inb_of g22) (And.intro (toNat_lt (inb_of g22)) (And.intro (inb_of g25) (And.intro b26 (And.intro b27 b28))))))))))) (by kernel_rfl) (by kernel_rfl) ?_
                  exact J_mk (false) hm (by kernel_rfl) (by kernel_rfl)
              · replace hm := bif_f b27 hm
                refine R_rn Tryd.f9 1022 9 [(3, dfx true), (12, dfx true), (21, dfx true), (25, dfx false)] [] 13 ⟨[(0, vb false)], []⟩ (o1 (And.intro b21 (And.intro (inb_of g22) (And.intro (toNat_lt (inb_of g22)) (And.intro (inb_of g23) (And.intro b24 (And.intro (inb_of g22) (And.intro (toNat_lt (inb_of g22)) (And.intro (inb_of g25) (And.intro b26 b27)))))))))) (by kernel_rfl) (by kernel_rfl) ?_
                exact J_mk (false) hm (by kernel_rfl) (by kernel_rfl)
            · replace hm := bif_f b26 hm
              refine R_rn Tryd.f9 1022 9 [(3, dfx true), (12, dfx true), (21, dfx false)] [] 13 ⟨[(0, vb false)], []⟩ (o1 (And.intro b21 (And.intro (inb_of g22) (And.intro (toNat_lt (inb_of g22)) (And.intro (inb_of g23) (And.intro b24 (And.intro (inb_of g22) (And.intro (toNat_lt (inb_of g22)) (And.intro (inb_of g25) b26))))))))) (by kernel_rfl) (by kernel_rfl) ?_
              exact J_mk (false) hm (by kernel_rfl) (by kernel_rfl)
          · replace hm := bif_f b24 hm
            refine R_rn Tryd.f9 1022 9 [(3, dfx true), (12, dfx false)] [] 13 ⟨[(0, vb false)], []⟩ (o1 (And.intro b21 (And.intro (inb_of g22) (And.intro (toNat_lt (inb_of g22)) (And.intro (inb_of g23) b24))))) (by kernel_rfl) (by kernel_rfl) ?_
            exact J_mk (false) hm (by kernel_rfl) (by kernel_rfl)
        · replace hm := bif_f b21 hm
          refine R_rn Tryd.f9 1022 9 [(3, dfx false)] [] 13 ⟨[(0, vb false)], []⟩ (o1 b21) (by kernel_rfl) (by kernel_rfl) ?_
          exact J_mk (false) hm (by kernel_rfl) (by kernel_rfl)
  · rcases Bool.eq_false_or_eq_true (v3.2 != 0) with b11 | b11
    · replace hm := bif_t b11 hm
      refine R_rn Tryd.f9 1020 7 [(2, dfx true)] [] 13 ⟨[(2, vp 8 0), (4, vo 9 0 2 v5.1.length), (5, vi v5.2.1), (8, vi v7.2.1), (10, vo 11 0 1 v9.1.length), (11, vo 12 0 1 v9.2.length), (76, vb true)], [(4, ro 0 3 1 v3.1.Sizes.length (rf e_i64 v3.1.Sizes)), (5, ro 0 25 1 v3.1.Gain.length (rf (e_lst e_i64) v3.1.Gain)), (6, ro 0 3 1 v3.1.Chip.length (rf e_i64 v3.1.Chip)), (7, ro 0 3 1 v3.1.Dust.length (rf e_i64 v3.1.Dust)), (8, bx 64 [ci v3.1.Len, ci v3.1.Kerf, ci v3.1.Pitch, .own 4 0 1 v3.1.Sizes.length, .own 5 0 1 v3.1.Gain.length, .own 6 0 1 v3.1.Chip.length, .own 7 0 1 v3.1.Dust.length]), (9, ro 0 80 2 v5.1.length (rf e_Node v5.1)), (11, ro 0 3 1 v9.1.length (rf e_i64 v9.1)), (12, ro 0 3 1 v9.2.length (rf e_i64 v9.2))]⟩ (o1 b11) (by kernel_rfl) (by kernel_rfl) ?_
      exact J_mk (true) hm (by kernel_rfl) (by kernel_rfl)
    · replace hm := bif_f b11 hm
      rcases Bool.eq_false_or_eq_true (v5.2.2 != 0) with b12 | b12
      · replace hm := bif_t b12 hm
        refine R_rn Tryd.f9 1020 7 [(2, dfx false), (6, dfx true)] [] 13 ⟨[(2, vp 8 0), (4, vo 9 0 2 v5.1.length), (5, vi v5.2.1), (8, vi v7.2.1), (10, vo 11 0 1 v9.1.length), (11, vo 12 0 1 v9.2.length), (76, vb true)], [(4, ro 0 3 1 v3.1.Sizes.length (rf e_i64 v3.1.Sizes)), (5, ro 0 25 1 v3.1.Gain.length (rf (e_lst e_i64) v3.1.Gain)), (6, ro 0 3 1 v3.1.Chip.length (rf e_i64 v3.1.Chip)), (7, ro 0 3 1 v3.1.Dust.length (rf e_i64 v3.1.Dust)), (8, bx 64 [ci v3.1.Len, ci v3.1.Kerf, ci v3.1.Pitch, .own 4 0 1 v3.1.Sizes.length, .own 5 0 1 v3.1.Gain.length, .own 6 0 1 v3.1.Chip.length, .own 7 0 1 v3.1.Dust.length]), (9, ro 0 80 2 v5.1.length (rf e_Node v5.1)), (11, ro 0 3 1 v9.1.length (rf e_i64 v9.1)), (12, ro 0 3 1 v9.2.length (rf e_i64 v9.2))]⟩ (o1 (And.intro b11 b12)) (by kernel_rfl) (by kernel_rfl) ?_
        exact J_mk (true) hm (by kernel_rfl) (by kernel_rfl)
      · replace hm := bif_f b12 hm
        rcases Bool.eq_false_or_eq_true (v7.2.2 != 0) with b13 | b13
        · replace hm := bif_t b13 hm
          refine R_rn Tryd.f9 1020 7 [(2, dfx false), (6, dfx false), (10, dfx true)] [] 13 ⟨[(2, vp 8 0), (4, vo 9 0 2 v5.1.length), (5, vi v5.2.1), (8, vi v7.2.1), (10, vo 11 0 1 v9.1.length), (11, vo 12 0 1 v9.2.length), (76, vb true)], [(4, ro 0 3 1 v3.1.Sizes.length (rf e_i64 v3.1.Sizes)), (5, ro 0 25 1 v3.1.Gain.length (rf (e_lst e_i64) v3.1.Gain)), (6, ro 0 3 1 v3.1.Chip.length (rf e_i64 v3.1.Chip)), (7, ro 0 3 1 v3.1.Dust.length (rf e_i64 v3.1.Dust)), (8, bx 64 [ci v3.1.Len, ci v3.1.Kerf, ci v3.1.Pitch, .own 4 0 1 v3.1.Sizes.length, .own 5 0 1 v3.1.Gain.length, .own 6 0 1 v3.1.Chip.length, .own 7 0 1 v3.1.Dust.length]), (9, ro 0 80 2 v5.1.length (rf e_Node v5.1)), (11, ro 0 3 1 v9.1.length (rf e_i64 v9.1)), (12, ro 0 3 1 v9.2.length (rf e_i64 v9.2))]⟩ (o1 (And.intro b11 (And.intro b12 b13))) (by kernel_rfl) (by kernel_rfl) ?_
          exact J_mk (true) hm (by kernel_rfl) (by kernel_rfl)
        · replace hm := bif_f b13 hm
          rcases Bool.eq_false_or_eq_true (((v5.1.length : Nat) : Int) != 3) with b14 | b14
          · replace hm := bif_t b14 hm
            refine R_rn Tryd.f9 1020 7 [(2, dfx false), (6, dfx false), (10, dfx false), (15, dfx true)] [] 13 ⟨[(2, vp 8 0), (4, vo 9 0 2 v5.1.length), (5, vi v5.2.1), (8, vi v7.2.1), (10, vo 11 0 1 v9.1.length), (11, vo 12 0 1 v9.2.length), (76, vb true)], [(4, ro 0 3 1 v3.1.Sizes.length (rf e_i64 v3.1.Sizes)), (5, ro 0 25 1 v3.1.Gain.length (rf (e_lst e_i64) v3.1.Gain)), (6, ro 0 3 1 v3.1.Chip.length (rf e_i64 v3.1.Chip)), (7, ro 0 3 1 v3.1.Dust.length (rf e_i64 v3.1.Dust)), (8, bx 64 [ci v3.1.Len, ci v3.1.Kerf, ci v3.1.Pitch, .own 4 0 1 v3.1.Sizes.length, .own 5 0 1 v3.1.Gain.length, .own 6 0 1 v3.1.Chip.length, .own 7 0 1 v3.1.Dust.length]), (9, ro 0 80 2 v5.1.length (rf e_Node v5.1)), (11, ro 0 3 1 v9.1.length (rf e_i64 v9.1)), (12, ro 0 3 1 v9.2.length (rf e_i64 v9.2))]⟩ (o1 (And.intro b11 (And.intro b12 (And.intro b13 b14)))) (by kernel_rfl) (by kernel_rfl) ?_
            exact J_mk (true) hm (by kernel_rfl) (by kernel_rfl)
          · replace hm := bif_f b14 hm
            rcases Bool.eq_false_or_eq_true (((v9.1.length : Nat) : Int) != 1) with b15 | b15
            · replace hm := bif_t b15 hm
              refine R_rn Tryd.f9 1020 7 [(2, dfx false), (6, dfx false), (10, dfx false), (15, dfx false), (20, dfx true)] [] 13 ⟨[(2, vp 8 0), (4, vo 9 0 2 v5.1.length), (5, vi v5.2.1), (8, vi v7.2.1), (10, vo 11 0 1 v9.1.length), (11, vo 12 0 1 v9.2.length), (76, vb true)], [(4, ro 0 3 1 v3.1.Sizes.length (rf e_i64 v3.1.Sizes)), (5, ro 0 25 1 v3.1.Gain.length (rf (e_lst e_i64) v3.1.Gain)), (6, ro 0 3 1 v3.1.Chip.length (rf e_i64 v3.1.Chip)), (7, ro 0 3 1 v3.1.Dust.length (rf e_i64 v3.1.Dust)), (8, bx 64 [ci v3.1.Len, ci v3.1.Kerf, ci v3.1.Pitch, .own 4 0 1 v3.1.Sizes.length, .own 5 0 1 v3.1.Gain.length, .own 6 0 1 v3.1.Chip.length, .own 7 0 1 v3.1.Dust.length]), (9, ro 0 80 2 v5.1.length (rf e_Node v5.1)), (11, ro 0 3 1 v9.1.length (rf e_i64 v9.1)), (12, ro 0 3 1 v9.2.length (rf e_i64 v9.2))]⟩ (o1 (And.intro b11 (And.intro b12 (And.intro b13 (And.intro b14 b15))))) (by kernel_rfl) (by kernel_rfl) ?_
              exact J_mk (true) hm (by kernel_rfl) (by kernel_rfl)
            · replace hm := bif_f b15 hm
              rcases Bool.eq_false_or_eq_true (((v9.2.length : Nat) : Int) != 1) with b16 | b16
              · replace hm := bif_t b16 hm
                refine R_rn Tryd.f9 1020 7 [(2, dfx false), (6, dfx false), (10, dfx false), (15, dfx false), (20, dfx false), (25, dfx true)] [] 13 ⟨[(2, vp 8 0), (4, vo 9 0 2 v5.1.length), (5, vi v5.2.1), (8, vi v7.2.1), (10, vo 11 0 1 v9.1.length), (11, vo 12 0 1 v9.2.length), (76, vb true)], [(4, ro 0 3 1 v3.1.Sizes.length (rf e_i64 v3.1.Sizes)), (5, ro 0 25 1 v3.1.Gain.length (rf (e_lst e_i64) v3.1.Gain)), (6, ro 0 3 1 v3.1.Chip.length (rf e_i64 v3.1.Chip)), (7, ro 0 3 1 v3.1.Dust.length (rf e_i64 v3.1.Dust)), (8, bx 64 [ci v3.1.Len, ci v3.1.Kerf, ci v3.1.Pitch, .own 4 0 1 v3.1.Sizes.length, .own 5 0 1 v3.1.Gain.length, .own 6 0 1 v3.1.Chip.length, .own 7 0 1 v3.1.Dust.length]), (9, ro 0 80 2 v5.1.length (rf e_Node v5.1)), (11, ro 0 3 1 v9.1.length (rf e_i64 v9.1)), (12, ro 0 3 1 v9.2.length (rf e_i64 v9.2))]⟩ (o1 (And.intro b11 (And.intro b12 (And.intro b13 (And.intro b14 (And.intro b15 b16)))))) (by kernel_rfl) (by kernel_rfl) ?_
                exact J_mk (true) hm (by kernel_rfl) (by kernel_rfl)
              · replace hm := bif_f b16 hm
                rcases Bool.eq_false_or_eq_true (((v3.1.Gain.length : Nat) : Int) != 1) with b17 | b17
                · replace hm := bif_t b17 hm
                  refine R_rn Tryd.f9 1020 7 [(2, dfx false), (6, dfx false), (10, dfx false), (15, dfx false), (20, dfx false), (25, dfx false), (31, dfx true)] [] 13 ⟨[(2, vp 8 0), (4, vo 9 0 2 v5.1.length), (5, vi v5.2.1), (8, vi v7.2.1), (10, vo 11 0 1 v9.1.length), (11, vo 12 0 1 v9.2.length), (76, vb true)], [(4, ro 0 3 1 v3.1.Sizes.length (rf e_i64 v3.1.Sizes)), (5, ro 0 25 1 v3.1.Gain.length (rf (e_lst e_i64) v3.1.Gain)), (6, ro 0 3 1 v3.1.Chip.length (rf e_i64 v3.1.Chip)), (7, ro 0 3 1 v3.1.Dust.length (rf e_i64 v3.1.Dust)), (8, bx 64 [ci v3.1.Len, ci v3.1.Kerf, ci v3.1.Pitch, .own 4 0 1 v3.1.Sizes.length, .own 5 0 1 v3.1.Gain.length, .own 6 0 1 v3.1.Chip.length, .own 7 0 1 v3.1.Dust.length]), (9, ro 0 80 2 v5.1.length (rf e_Node v5.1)), (11, ro 0 3 1 v9.1.length (rf e_i64 v9.1)), (12, ro 0 3 1 v9.2.length (rf e_i64 v9.2))]⟩ (o1 (And.intro b11 (And.intro b12 (And.intro b13 (And.intro b14 (And.intro b15 (And.intro b16 b17))))))) (by kernel_rfl) (by kernel_rfl) ?_
                  exact J_mk (true) hm (by kernel_rfl) (by kernel_rfl)
                · replace hm := bif_f b17 hm
                  obtain ⟨g18, hm⟩ := bif_n hm
                  refine R_rn Tryd.f9 1020 7 [(2, dfx false), (6, dfx false), (10, dfx false), (15, dfx false), (20, dfx false), (25, dfx false), (31, dfx false)] [] 13 ⟨[(2, vp 8 0), (4, vo 9 0 2 v5.1.length), (5, vi v5.2.1), (8, vi v7.2.1), (10, vo 11 0 1 v9.1.length), (11, vo 12 0 1 v9.2.length), (76, vb ((((v3.1.Gain.getD ((0 : Int).toNat) default).length : Nat) : Int) != 6))], [(4, ro 0 3 1 v3.1.Sizes.length (rf e_i64 v3.1.Sizes)), (5, ro 0 25 1 v3.1.Gain.length (rf (e_lst e_i64) v3.1.Gain)), (6, ro 0 3 1 v3.1.Chip.length (rf e_i64 v3.1.Chip)), (7, ro 0 3 1 v3.1.Dust.length (rf e_i64 v3.1.Dust)), (8, bx 64 [ci v3.1.Len, ci v3.1.Kerf, ci v3.1.Pitch, .own 4 0 1 v3.1.Sizes.length, .own 5 0 1 v3.1.Gain.length, .own 6 0 1 v3.1.Chip.length, .own 7 0 1 v3.1.Dust.length]), (9, ro 0 80 2 v5.1.length (rf e_Node v5.1)), (11, ro 0 3 1 v9.1.length (rf e_i64 v9.1)), (12, ro 0 3 1 v9.2.length (rf e_i64 v9.2))]⟩ (o1 (And.intro b11 (And.intro b12 (And.intro b13 (And.intro b14 (And.intro b15 (And.intro b16 (And.intro b17 (And.intro (inb_of g18) (toNat_lt (inb_of g18))))))))))) (by kernel_rfl) (by kernel_rfl) ?_
                  exact J_mk ((((v3.1.Gain.getD ((0 : Int).toNat) default).length : Nat) : Int) != 6) hm (by kernel_rfl) (by kernel_rfl)

end Saw
end Go.SL
