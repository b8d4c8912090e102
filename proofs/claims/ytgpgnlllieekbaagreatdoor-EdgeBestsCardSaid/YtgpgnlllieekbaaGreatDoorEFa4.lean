import Derived.Test.YtgpgnlllieekbaaGreatDoorEBase
import Derived.Test.YtgpgnlllieekbaaGreatDoorEFa1
import Derived.Test.YtgpgnlllieekbaaGreatDoorEFa3
import Derived.Test.YtgpgnlllieekbaaGreatDoorEFa2
set_option linter.unusedVariables false
set_option linter.unusedSimpArgs false
namespace Go.SL
namespace Saw
open Go.Proofs
set_option maxHeartbeats 4000000
set_option maxRecDepth 100000
def qMG (r : Span × Int × Bool) : V := .tup [.agg (e_Span r.1), .one (ci r.2.1), .one (cb r.2.2)]
def qLv (r : Span × Int × Bool) : List (Nat × (Nat × O)) := []
def qBM (a3 : qC) (a5 : Int) (a6 : Int) (v14 : Worth_view × Bool) (x19 : Int) (x24 : Int) (x34 : Int) (x35 : Bool) (x36 : Span) : St :=
 ⟨[(4, vi a5), (5, vi a6), (8, vp 0 0), (12, vp 2 0), (15, vp 5 0), (17, vp 6 0), (18, vi x34), (19, vb x35), (20, vi x19), (54, vc (tl e_i64 default a3.Lengths)), (55, vi ((a3.Lengths.length : Nat) : Int)), (56, vi x24)], [(0, bx 58 (qE a3)), (2, bx 26 [ci 0, ci 0]), (3, ro 0 162 3 v14.1.zones.length (rf qN v14.1.zones)), (4, ro 0 110 7 v14.1.defects.length (rf qH v14.1.defects)), (5, bx 131 [cs v14.1.product.Name, ci v14.1.product.Thick, ci v14.1.product.Width, ci v14.1.product.Allow, ci v14.1.product.Wane, tl e_i64 default v14.1.product.Lengths, tl e_i64 default v14.1.product.Prices, ci v14.1.rect.X.A, ci v14.1.rect.X.B, ci v14.1.rect.Y.A, ci v14.1.rect.Y.B, ci v14.1.length, .own 3 0 3 v14.1.zones.length, .own 4 0 7 v14.1.defects.length]), (6, bx 26 (e_Span x36))]⟩
def qBB (a3 : qC) (a5 : Int) (a6 : Int) (v14 : Worth_view × Bool) (x19 : Int) (x22 : Int) (x23 : Bool) (x24 : Int) (x25 : Span) (v28 : Int × Bool) (x32 : Bool) : St :=
 ⟨[(4, vi a5), (5, vi a6), (8, vp 0 0), (12, vp 2 0), (15, vp 5 0), (17, vp 6 0), (18, vi x22), (19, vb x23), (20, vi x19), (23, vp 7 0), (24, vi v28.1), (54, vc (tl e_i64 default a3.Lengths)), (55, vi ((a3.Lengths.length : Nat) : Int)), (56, vi x24), (81, vb x32)], [(0, bx 58 (qE a3)), (2, bx 26 [ci 0, ci 0]), (3, ro 0 162 3 v14.1.zones.length (rf qN v14.1.zones)), (4, ro 0 110 7 v14.1.defects.length (rf qH v14.1.defects)), (5, bx 131 [cs v14.1.product.Name, ci v14.1.product.Thick, ci v14.1.product.Width, ci v14.1.product.Allow, ci v14.1.product.Wane, tl e_i64 default v14.1.product.Lengths, tl e_i64 default v14.1.product.Prices, ci v14.1.rect.X.A, ci v14.1.rect.X.B, ci v14.1.rect.Y.A, ci v14.1.rect.Y.B, ci v14.1.length, .own 3 0 3 v14.1.zones.length, .own 4 0 7 v14.1.defects.length]), (6, bx 26 (e_Span x25)), (7, bx 26 [ci x19, ci (w64 (x19 + (a3.Lengths.getD x24.toNat default)))])]⟩
def HK (a3 : qC) (a5 : Int) (a6 : Int) (v14 : Worth_view × Bool) (x19 : Int) (x22 : Int) (x23 : Bool) (x24 : Int) (x25 : Span) : St :=
 ⟨[(4, vi a5), (5, vi a6), (8, vp 0 0), (12, vp 2 0), (15, vp 5 0), (17, vp 6 0), (18, vi x22), (19, vb x23), (20, vi x19), (54, vc (tl e_i64 default a3.Lengths)), (55, vi ((a3.Lengths.length : Nat) : Int)), (56, vi x24)], [(0, bx 58 (qE a3)), (2, bx 26 [ci 0, ci 0]), (3, ro 0 162 3 v14.1.zones.length (rf qN v14.1.zones)), (4, ro 0 110 7 v14.1.defects.length (rf qH v14.1.defects)), (5, bx 131 [cs v14.1.product.Name, ci v14.1.product.Thick, ci v14.1.product.Width, ci v14.1.product.Allow, ci v14.1.product.Wane, tl e_i64 default v14.1.product.Lengths, tl e_i64 default v14.1.product.Prices, ci v14.1.rect.X.A, ci v14.1.rect.X.B, ci v14.1.rect.Y.A, ci v14.1.rect.Y.B, ci v14.1.length, .own 3 0 3 v14.1.zones.length, .own 4 0 7 v14.1.defects.length]), (6, bx 26 (e_Span x25))]⟩
def qB9 (a3 : qC) (a5 : Int) (a6 : Int) (v14 : Worth_view × Bool) (x19 : Int) (x37 : Int) (x38 : Bool) (x39 : Span) : St :=
 ⟨[(4, vi a5), (5, vi a6), (8, vp 0 0), (12, vp 2 0), (15, vp 5 0), (17, vp 6 0), (18, vi x37), (19, vb x38), (20, vi x19)], [(0, bx 58 (qE a3)), (2, bx 26 [ci 0, ci 0]), (3, ro 0 162 3 v14.1.zones.length (rf qN v14.1.zones)), (4, ro 0 110 7 v14.1.defects.length (rf qH v14.1.defects)), (5, bx 131 [cs v14.1.product.Name, ci v14.1.product.Thick, ci v14.1.product.Width, ci v14.1.product.Allow, ci v14.1.product.Wane, tl e_i64 default v14.1.product.Lengths, tl e_i64 default v14.1.product.Prices, ci v14.1.rect.X.A, ci v14.1.rect.X.B, ci v14.1.rect.Y.A, ci v14.1.rect.Y.B, ci v14.1.length, .own 3 0 3 v14.1.zones.length, .own 4 0 7 v14.1.defects.length]), (6, bx 26 (e_Span x39))]⟩
def MB (a3 : qC) (a5 : Int) (a6 : Int) (v14 : Worth_view × Bool) (x17 : Int) (x18 : Bool) (x19 : Int) (x20 : Span) : St :=
 ⟨[(4, vi a5), (5, vi a6), (8, vp 0 0), (12, vp 2 0), (15, vp 5 0), (17, vp 6 0), (18, vi x17), (19, vb x18), (20, vi x19)], [(0, bx 58 (qE a3)), (2, bx 26 [ci 0, ci 0]), (3, ro 0 162 3 v14.1.zones.length (rf qN v14.1.zones)), (4, ro 0 110 7 v14.1.defects.length (rf qH v14.1.defects)), (5, bx 131 [cs v14.1.product.Name, ci v14.1.product.Thick, ci v14.1.product.Width, ci v14.1.product.Allow, ci v14.1.product.Wane, tl e_i64 default v14.1.product.Lengths, tl e_i64 default v14.1.product.Prices, ci v14.1.rect.X.A, ci v14.1.rect.X.B, ci v14.1.rect.Y.A, ci v14.1.rect.Y.B, ci v14.1.length, .own 3 0 3 v14.1.zones.length, .own 4 0 7 v14.1.defects.length]), (6, bx 26 (e_Span x20))]⟩
def qB0 (x42 : Int) (x43 : Bool) (x44 : Span) : St :=
 ⟨[(12, vp 2 0), (17, vp 6 0), (18, vi x42), (19, vb x43)], [(2, bx 26 [ci 0, ci 0]), (6, bx 26 (e_Span x44))]⟩
def qBU (a1 : List Slice) (a2 : List Defect) (a3 : qC) (a4 : Rect) (a5 : Int) (a6 : Int) (x12 : Bool) : St :=
 ⟨[(0, vc (tl qG default a1)), (1, vc (tl qH default a2)), (4, vi a5), (5, vi a6), (8, vp 0 0), (9, vp 1 0), (12, vp 2 0), (33, vb x12)], [(0, bx 58 (qE a3)), (1, bx 28 (qK a4)), (2, bx 26 [ci 0, ci 0])]⟩
theorem qGg (E : Env 0) (a3 : qC) (a5 : Int) (a6 : Int) (v14 : Worth_view × Bool) (x19 : Int) : ∀ (n : Nat) (x22 : Int) (x23 : Bool) (x24 : Int) (x25 : Span) (res : Int × Bool × Span), jD a3 a6 v14 x19 n x22 x23 x24 x25 = some res → HL (kx E 88 0) (nd Tryz.f59 130340) (zN 2 (fun o => qB9 a3 a5 a6 v14 x19 o.1 o.2.1 o.2.2) res) n (HK a3 a5 a6 v14 x19 x22 x23 x24 x25) := by
 intro n
 induction n with
 | zero =>
  intro x22 x23 x24 x25 res hm
  cases hm
 | succ n ih =>
  intro x22 x23 x24 x25 res hm
  refine qO ?_
  refine q_sq ?_
  refine q_vu [] 7 [] [(57, vb (decide (x24 < ((a3.Lengths.length : Nat) : Int))))] [] [] ?_
  refine q_sq ?_
  refine q_cn (decide (x24 < ((a3.Lengths.length : Nat) : Int))) (fun b26 => ?_) (fun b26 => ?_)
  ·replace hm := qB b26 hm
   refine q_sk ?_
   refine q_jn (ι := Int × Bool × Span) (fun p => qBM a3 a5 a6 v14 x19 x24 p.1 p.2.1 p.2.2) (fun p => NL x24 (jD a3 a6 v14 x19 n) p.1 p.2.1 p.2.2 = some res) ?_ ?_
   ·rintro ⟨x34, x35, x36⟩ hm
    show H _ (qBM a3 a5 a6 v14 x19 x24 x34 x35 x36) _ _
    refine q_vu [] 8 [56] [(56, vi (w64 (x24 + 1)))] [] [] ?_
    exact q_hl (HK a3 a5 a6 v14 x19 x34 x35 (w64 (x24 + 1)) x36) (ih x34 x35 (w64 (x24 + 1)) x36 _ hm)
   ·refine q_bk 3 ?_
    refine q_sq ?_
    obtain ⟨g27, hm⟩ := qI hm
    refine q_vu [qd 0 (Dir.none) (inb_of g27)] 7 [57] [(22, vi (a3.Lengths.getD x24.toNat default))] [] [] ?_
    refine q_sq ?_
    refine q_vu [] 7 [22] [(23, vp 7 0)] [] [(7, bx 26 [ci x19, ci (w64 (x19 + (a3.Lengths.getD x24.toNat default)))])] ?_
    refine q_sq ?_
    obtain ⟨v28, h29, hm⟩ := qD hm
    refine q_vu [qd 3 (dex (cen [] [] 8 0 (XX v28) (yS v28) [66, 67, 68] [3, 4])) (yJ (K := (kx E 88 0)) (b := false) ⟨[(66, va [cs v14.1.product.Name, ci v14.1.product.Thick, ci v14.1.product.Width, ci v14.1.product.Allow, ci v14.1.product.Wane, tl e_i64 default v14.1.product.Lengths, tl e_i64 default v14.1.product.Prices, ci v14.1.rect.X.A, ci v14.1.rect.X.B, ci v14.1.rect.Y.A, ci v14.1.rect.Y.B, ci v14.1.length, .own 3 0 3 v14.1.zones.length, .own 4 0 7 v14.1.defects.length]), (67, va [ci x19, ci (w64 (x19 + (a3.Lengths.getD x24.toNat default)))]), (68, vi a6)], [(3, ro 0 162 3 v14.1.zones.length (rf qN v14.1.zones)), (4, ro 0 110 7 v14.1.defects.length (rf qH v14.1.defects))]⟩ (opAt (rg Tryz.f59 16683622) 3) [] [] 8 (o1 (And.intro (Nat.le_refl v14.1.zones.length) (Nat.le_refl v14.1.defects.length))) rfl (worth_view_worth_ok (Worth_view.mk v14.1.product v14.1.rect v14.1.length v14.1.zones v14.1.defects) (Span.mk x19 (w64 (x19 + (a3.Lengths.getD x24.toNat default)))) a6 v28 h29) (.inr ⟨(by kernel_rfl), qE1 v28⟩) (by kernel_rfl))] 8 [] [(24, vi v28.1), (25, vb v28.2)] [] [] ?_
    refine q_jn (ι := Bool) (fun p => qBB a3 a5 a6 v14 x19 x22 x23 x24 x25 v28 p) (fun p => TF a3 x19 x22 x23 x24 x25 (jD a3 a6 v14 x19 n) v28 p = some res) ?_ ?_
    ·rintro x32 hm
     show H _ (qBB a3 a5 a6 v14 x19 x22 x23 x24 x25 v28 x32) _ _
     refine q_cn x32 (fun b33 => ?_) (fun b33 => ?_)
     ·replace hm := qB b33 hm
      refine q_vu [] 8 [18, 19, 23, 24, 81] [(18, vi v28.1), (19, vb true)] [6, 7] [(6, bx 26 [ci x19, ci (w64 (x19 + (a3.Lengths.getD x24.toNat default)))])] ?_
      exact q_J (v28.1, true, (Span.mk x19 (w64 (x19 + (a3.Lengths.getD x24.toNat default))))) hm
     ·replace hm := qA b33 hm
      refine q_sk ?_
      exact q_J (x22, x23, x25) hm
    ·rcases Bool.eq_false_or_eq_true v28.2 with b30 | b30
     ·replace hm := qB b30 hm
      rcases Bool.eq_false_or_eq_true (!x23) with b31 | b31
      ·replace hm := qB b31 hm
       refine q_vu [qf 1 b30, qf 4 b31] 8 [25] [(74, vb x23), (75, vb (!x23)), (76, vb true), (80, vb true), (81, vb true)] [] [] ?_
       exact q_J (true) hm
      ·replace hm := qA b31 hm
       refine q_vu [qf 1 b30, qf 4 b31] 8 [25] [(74, vb x23), (75, vb (!x23)), (76, vb false), (77, vi v28.1), (78, vi x22), (79, vb (decide (v28.1 > x22))), (80, vb (decide (v28.1 > x22))), (81, vb (decide (v28.1 > x22)))] [] [] ?_
       exact q_J (decide (v28.1 > x22)) hm
     ·replace hm := qA b30 hm
      refine q_vu [qf 1 b30] 8 [25] [(81, vb false)] [] [] ?_
      exact q_J (false) hm
  ·replace hm := qA b26 hm
   refine q_ex 2 ?_
   obtain rfl := Option.some.inj hm
   exact zX (by kernel_rfl) (by kernel_rfl)
theorem qGj (E : Env 0) (a3 : qC) (a5 : Int) (a6 : Int) (v14 : Worth_view × Bool) : ∀ (n : Nat) (x17 : Int) (x18 : Bool) (x19 : Int) (x20 : Span) (res : Int × Bool × Span), JA a3 a5 a6 v14 n x17 x18 x19 x20 = some res → HL (kx E 88 0) (nd Tryz.f59 2036) (zN 0 (fun o => qB0 o.1 o.2.1 o.2.2) res) n (MB a3 a5 a6 v14 x17 x18 x19 x20) := by
 intro n
 induction n with
 | zero =>
  intro x17 x18 x19 x20 res hm
  cases hm
 | succ n ih =>
  intro x17 x18 x19 x20 res hm
  refine qO ?_
  refine q_sq ?_
  refine q_sq ?_
  refine q_vu [] 7 [] [(49, vb (decide (x19 < v14.1.length)))] [] [] ?_
  refine q_cn (decide (x19 < v14.1.length)) (fun b21 => ?_) (fun b21 => ?_)
  ·replace hm := qB b21 hm
   refine q_sk ?_
   refine q_sq ?_
   refine q_bk 1 ?_
   refine q_sq ?_
   refine q_vu [] 7 [49] [(54, vc (tl e_i64 default a3.Lengths)), (55, vi ((a3.Lengths.length : Nat) : Int)), (56, vi 0)] [] [] ?_
   obtain ⟨o40, h41, hm⟩ := qD hm
   refine zF (nd Tryz.f59 130340) 2 (by kernel_rfl) FUEL (fun o => qB9 a3 a5 a6 v14 x19 o.1 o.2.1 o.2.2) o40 (q_hl (HK a3 a5 a6 v14 x19 x17 x18 0 x20) (qGg E a3 a5 a6 v14 x19 FUEL x17 x18 0 x20 o40 h41)) ?_
   refine q_vu [] 7 [20] [(20, vi (w64 (x19 + a5)))] [] [] ?_
   exact q_hl (MB a3 a5 a6 v14 o40.1 o40.2.1 (w64 (x19 + a5)) o40.2.2) (ih o40.1 o40.2.1 (w64 (x19 + a5)) o40.2.2 _ hm)
  ·replace hm := qA b21 hm
   refine q_ex 0 ?_
   obtain rfl := Option.some.inj hm
   exact zX (by kernel_rfl) (by kernel_rfl)
theorem qKZ (a1 : List Slice) (a2 : List Defect) (a3 : qC) (a4 : Rect) (a5 : Int) (a6 : Int) (r : Span × Int × Bool) (hm : HJ a1 a2 a3 a4 a5 a6 = some r) : CtX Tryz.prog globs 59 0 0 [.one (tl qG default a1), .one (tl qH default a2), .agg (qE a3), .agg (qK a4), .one (ci a5), .one (ci a6)] [] (qMG r) (qLv r) := by
 unfold HJ at hm
 refine q_E Tryz.f59 88 fun E => ?_
 refine q_sq ?_
 refine q_vn [] 0 ⟨[(0, vc (tl qG default a1)), (1, vc (tl qH default a2)), (4, vi a5), (5, vi a6), (8, vp 0 0), (9, vp 1 0), (12, vp 2 0)], [(0, bx 58 (qE a3)), (1, bx 28 (qK a4)), (2, bx 26 [ci 0, ci 0])]⟩ ?_
 refine q_sq ?_
 refine q_jn (ι := Bool) (fun p => qBU a1 a2 a3 a4 a5 a6 p) (fun p => NM a1 a2 a3 a4 a5 a6 p = some r) ?_ ?_
 ·rintro x12 hm
  show H _ (qBU a1 a2 a3 a4 a5 a6 x12) _ _
  refine q_cn x12 (fun b13 => ?_) (fun b13 => ?_)
  ·replace hm := qB b13 hm
   refine q_sq ?_
   refine q_vu [] 3 [0, 1, 4, 5, 8, 9, 33] [(13, vi 0), (14, vb false)] [0, 1] [] ?_
   obtain rfl := Option.some.inj hm
   refine q_rt ?_
   exact q_rm
  ·replace hm := qA b13 hm
   refine q_sk ?_
   refine q_sq ?_
   obtain ⟨v14, h15, hm⟩ := qD hm
   refine q_vu [qc 4 [36, 37, 38, 39] 3 (qKU a1 a2 a3 a4 v14 h15)] 3 [0, 1, 9, 33] [(15, vp 5 0), (16, vb v14.2)] [1] [(3, ro 0 162 3 v14.1.zones.length (rf qN v14.1.zones)), (4, ro 0 110 7 v14.1.defects.length (rf qH v14.1.defects)), (5, bx 131 [cs v14.1.product.Name, ci v14.1.product.Thick, ci v14.1.product.Width, ci v14.1.product.Allow, ci v14.1.product.Wane, tl e_i64 default v14.1.product.Lengths, tl e_i64 default v14.1.product.Prices, ci v14.1.rect.X.A, ci v14.1.rect.X.B, ci v14.1.rect.Y.A, ci v14.1.rect.Y.B, ci v14.1.length, .own 3 0 3 v14.1.zones.length, .own 4 0 7 v14.1.defects.length])] ?_
   refine q_sq ?_
   refine q_sq ?_
   refine q_vu [] 6 [16] [(44, vb (!v14.2))] [] [] ?_
   refine q_cn (!v14.2) (fun b16 => ?_) (fun b16 => ?_)
   ·replace hm := qB b16 hm
    refine q_sq ?_
    refine q_vu [] 6 [4, 5, 8, 15, 44] [(13, vi 0), (14, vb false)] [0, 3, 4, 5] [] ?_
    obtain rfl := Option.some.inj hm
    refine q_rt ?_
    exact q_rm
   ·replace hm := qA b16 hm
    refine q_sk ?_
    refine q_sq ?_
    refine q_vu [] 6 [44] [(17, vp 6 0)] [] [(6, bx 26 [ci 0, ci 0])] ?_
    refine q_sq ?_
    refine q_vu [] 7 [] [(18, vi 0), (19, vb false)] [] [] ?_
    refine q_sq ?_
    refine q_sq ?_
    refine q_vu [] 7 [] [(20, vi 0)] [] [] ?_
    obtain ⟨o45, h46, hm⟩ := qD hm
    refine zF (nd Tryz.f59 2036) 0 (by kernel_rfl) FUEL (fun o => qB0 o.1 o.2.1 o.2.2) o45 (q_hl (MB a3 a5 a6 v14 0 false 0 (Span.mk 0 0)) (qGj E a3 a5 a6 v14 FUEL 0 false 0 (Span.mk 0 0) o45 h46)) ?_
    refine q_sq ?_
    refine q_vn [] 7 ⟨[(12, vp 2 0), (13, vi o45.1), (14, vb o45.2.1)], [(2, bx 26 (e_Span o45.2.2))]⟩ ?_
    obtain rfl := Option.some.inj hm
    refine q_rt ?_
    exact q_rm
 ·obtain ⟨v7, h8, hm⟩ := qD hm
  rcases Bool.eq_false_or_eq_true (!v7) with b9 | b9
  ·replace hm := qB b9 hm
   refine q_vu [qc 1 [26] 3 (SD a5 v7 h8), qf 3 b9] 3 [] [(33, vb true)] [] [] ?_
   exact q_J (true) hm
  ·replace hm := qA b9 hm
   obtain ⟨v10, h11, hm⟩ := qD hm
   refine q_vu [qc 1 [26] 3 (SD a5 v7 h8), qf 3 b9, qk 5 [29, 30] 3 ⟨[(29, vb false), (30, vi a6)], []⟩ (qBO a6 v10 h11)] 3 [] [(33, vb (!v10))] [] [] ?_
   exact q_J (!v10) hm
def qId (r : (List Span)) : V := vo 0 0 2 r.length
def qHs (r : (List Span)) : List (Nat × (Nat × O)) := [(0, ro 0 26 2 r.length (rf e_Span r))]
def VB (a1 : List Slice) (l3 : List Span) (l3n : Nat) (x4 : Int) (x5 : Int) : St :=
 ⟨[(3, vo 0 0 2 l3n), (4, vi x4), (10, vc (tl qG default a1)), (11, vi ((a1.length : Nat) : Int)), (12, vi x5)], [(0, ro 0 26 2 l3n (rf e_Span l3))]⟩
def AI (l9 : List Span) : St :=
 ⟨[(3, vo 0 0 2 l9.length)], [(0, ro 0 26 2 l9.length (rf e_Span l9))]⟩
theorem qEa (E : Env 0) (a1 : List Slice) : ∀ (n : Nat) (l3 : List Span) (l3n : Nat) (x4 : Int) (x5 : Int) (res : (List Span)), l3.length = l3n → ZR a1 n l3 x4 x5 = some res → HL (kx E 32 0) (nd Tryz.f92 244) (zN 0 (fun o => AI o) res) n (VB a1 l3 l3n x4 x5) := by
 intro n
 induction n with
 | zero =>
  intro l3 l3n x4 x5 res hl0 hm
  cases hm
 | succ n ih =>
  intro l3 l3n x4 x5 res hl0 hm
  subst hl0
  refine qO ?_
  refine q_sq ?_
  refine q_vu [] 1 [] [(13, vb (decide (x5 < ((a1.length : Nat) : Int))))] [] [] ?_
  refine q_sq ?_
  refine q_cn (decide (x5 < ((a1.length : Nat) : Int))) (fun b6 => ?_) (fun b6 => ?_)
  ·replace hm := qB b6 hm
   refine q_sk ?_
   refine q_sq ?_
   refine q_bk 1 ?_
   refine q_sq ?_
   obtain ⟨g7, hm⟩ := qI hm
   refine q_vu [qd 1 (Dir.none) (inb_of g7)] 1 [13] [(5, vi x5), (6, vp 1 0)] [] [(1, bx 56 [ci ((a1.getD x5.toNat default).Len), ci (((a1.getD x5.toNat default).Sec).Low), tl e_Span default (((a1.getD x5.toNat default).Sec).Rows)])] ?_
   refine q_sq ?_
   obtain ⟨g8, hm⟩ := qI hm
   refine q_vu [qd 8 (Dir.none) (inb_of g8), qd 9 (drw 0 0 (rf e_Span (l3.set x5.toNat (Span.mk x4 (w64 (x4 + ((a1.getD x5.toNat default).Len))))))) (stP e_Span default (Span.mk x4 (w64 (x4 + ((a1.getD x5.toNat default).Len)))) l3 l3.length x5.toNat 0 [ci x4, ci (w64 (x4 + ((a1.getD x5.toNat default).Len)))] rfl (toNat_lt (inb_of g8)) rfl)] 2 [5] [] [0] [(0, ro 0 26 2 l3.length (rf e_Span (l3.set x5.toNat (Span.mk x4 (w64 (x4 + ((a1.getD x5.toNat default).Len)))))))] ?_
   refine q_vu [] 2 [4, 6] [(4, vi (w64 (x4 + ((a1.getD x5.toNat default).Len))))] [1] [] ?_
   refine q_vu [] 2 [12] [(12, vi (w64 (x5 + 1)))] [] [] ?_
   exact q_hl (VB a1 (l3.set x5.toNat (Span.mk x4 (w64 (x4 + ((a1.getD x5.toNat default).Len))))) l3.length (w64 (x4 + ((a1.getD x5.toNat default).Len))) (w64 (x5 + 1))) (ih (l3.set x5.toNat (Span.mk x4 (w64 (x4 + ((a1.getD x5.toNat default).Len))))) l3.length (w64 (x4 + ((a1.getD x5.toNat default).Len))) (w64 (x5 + 1)) _ (len_set rfl) hm)
  ·replace hm := qA b6 hm
   refine q_ex 0 ?_
   obtain rfl := Option.some.inj hm
   exact zX (by kernel_rfl) (by kernel_rfl)
theorem qGV (a1 : List Slice) (r : (List Span)) (hm : TJ a1 = some r) : CtX Tryz.prog globs 92 0 0 [.one (tl qG default a1)] [] (qId r) (qHs r) := by
 unfold TJ at hm
 refine q_E Tryz.f92 32 fun E => ?_
 refine q_sq ?_
 refine q_vn [] 0 ⟨[(0, vc (tl qG default a1))], []⟩ ?_
 refine q_sq ?_
 obtain ⟨g2, hm⟩ := qI hm
 refine q_vu [qd 2 (drw 0 0 (rf e_Span (List.replicate (((a1.length : Nat) : Int).toNat) (Span.mk 0 0)))) (mkP e_Span default (Span.mk 0 0) ((a1.length : Nat) : Int) 16 [ci 0, ci 0] (qDb g2) rfl)] 0 [] [(3, vo 0 0 2 (((a1.length : Nat) : Int).toNat))] [] [(0, ro 0 26 2 (((a1.length : Nat) : Int).toNat) (rf e_Span (List.replicate (((a1.length : Nat) : Int).toNat) (Span.mk 0 0))))] ?_
 refine q_sq ?_
 refine q_vu [] 1 [] [(4, vi 0)] [] [] ?_
 refine q_sq ?_
 refine q_sq ?_
 refine q_vu [] 1 [0] [(10, vc (tl qG default a1)), (11, vi ((a1.length : Nat) : Int)), (12, vi 0)] [] [] ?_
 obtain ⟨o10, h11, hm⟩ := qD hm
 refine zF (nd Tryz.f92 244) 0 (by kernel_rfl) FUEL (fun o => AI o) o10 (q_hl (VB a1 (List.replicate (((a1.length : Nat) : Int).toNat) (Span.mk 0 0)) (((a1.length : Nat) : Int).toNat) 0 0) (qEa E a1 FUEL (List.replicate (((a1.length : Nat) : Int).toNat) (Span.mk 0 0)) (((a1.length : Nat) : Int).toNat) 0 0 o10 qC7 h11)) ?_
 refine q_sq ?_
 refine q_vu [] 1 [3] [(2, vo 0 0 2 o10.length)] [] [] ?_
 obtain rfl := Option.some.inj hm
 refine q_rt ?_
 exact q_rm
set_option maxRecDepth 100000
def qJv (r : Int) : V := vi r
def qID (r : Int) : List (Nat × (Nat × O)) := []
def OS (a2 : Box) (v3 : (List Slice)) (v5 : (List Span)) (x8 : Int) (x19 : Int) : St :=
 ⟨[(0, vc (tl qG default v3)), (3, vp 0 0), (5, vi x19), (12, vo 1 0 2 v5.length), (13, vi ((v5.length : Nat) : Int)), (14, vi x8)], [(0, bx 108 (zC a2)), (1, ro 0 26 2 v5.length (rf e_Span v5))]⟩
def BC (a2 : Box) (v3 : (List Slice)) (v5 : (List Span)) (x7 : Int) (x8 : Int) : St :=
 ⟨[(0, vc (tl qG default v3)), (3, vp 0 0), (5, vi x7), (12, vo 1 0 2 v5.length), (13, vi ((v5.length : Nat) : Int)), (14, vi x8)], [(0, bx 108 (zC a2)), (1, ro 0 26 2 v5.length (rf e_Span v5))]⟩
def OO (x20 : Int) : St :=
 ⟨[(5, vi x20)], []⟩
theorem qFb (E : Env 0) (a2 : Box) (v3 : (List Slice)) (v5 : (List Span)) : ∀ (n : Nat) (x7 : Int) (x8 : Int) (res : Int), yG a2 v3 v5 n x7 x8 = some res → HL (kx E 43 0) (nd Tryz.f61 244) (zN 0 (fun o => OO o) res) n (BC a2 v3 v5 x7 x8) := by
 intro n
 induction n with
 | zero =>
  intro x7 x8 res hm
  cases hm
 | succ n ih =>
  intro x7 x8 res hm
  refine qO ?_
  refine q_sq ?_
  refine q_vu [] 2 [] [(15, vb (decide (x8 < ((v5.length : Nat) : Int))))] [] [] ?_
  refine q_sq ?_
  refine q_cn (decide (x8 < ((v5.length : Nat) : Int))) (fun b9 => ?_) (fun b9 => ?_)
  ·replace hm := qB b9 hm
   refine q_sk ?_
   refine q_jn (ι := Int) (fun p => OS a2 v3 v5 x8 p) (fun p => TY x8 (yG a2 v3 v5 n) p = some res) ?_ ?_
   ·rintro x19 hm
    show H _ (OS a2 v3 v5 x8 x19) _ _
    refine q_vu [] 3 [14] [(14, vi (w64 (x8 + 1)))] [] [] ?_
    exact q_hl (BC a2 v3 v5 x19 (w64 (x8 + 1))) (ih x19 (w64 (x8 + 1)) _ hm)
   ·refine q_bk 1 ?_
    refine q_sq ?_
    obtain ⟨g10, hm⟩ := qI hm
    refine q_vu [qd 1 (Dir.none) (inb_of g10), qd 2 (Dir.none) (toNat_lt (inb_of g10))] 2 [15] [(6, vi x8), (7, vp 2 0)] [] [(2, bx 26 [ci ((v5.getD x8.toNat default).A), ci ((v5.getD x8.toNat default).B)])] ?_
    refine q_sq ?_
    obtain ⟨v11, h12, hm⟩ := qD hm
    obtain ⟨v13, h14, hm⟩ := qD hm
    refine q_vu [qc 3 [19, 21] 3 (PR (v5.getD x8.toNat default) a2.Z v11 h12), qc 4 [22] 3 (qCF v11 v13 h14)] 3 [7] [(8, vi v13)] [2] [] ?_
    refine q_sq ?_
    refine q_vu [] 3 [] [(25, vb (decide (v13 > 0)))] [] [] ?_
    refine q_cn (decide (v13 > 0)) (fun b15 => ?_) (fun b15 => ?_)
    ·replace hm := qB b15 hm
     obtain ⟨g16, hm⟩ := qI hm
     obtain ⟨v17, h18, hm⟩ := qD hm
     refine q_du [qd 4 (Dir.none) (inb_of g16), qc 12 [32, 37] 3 (CS ((v3.getD x8.toNat default).Sec) (Rect.mk a2.X a2.Y) v17 h18)] [0, 0, 0, 0, 12, 28, 60, 0, 128, 0, 512, 1920, 4092, 8190, 16383, 32767] 3 [5, 6, 8, 25] [(5, vi (w64 (x7 + (w64 (v13 * v17)))))] [] [] ?_
     exact q_J (w64 (x7 + (w64 (v13 * v17)))) hm
    ·replace hm := qA b15 hm
     refine q_sk ?_
     exact q_J (x7) hm
  ·replace hm := qA b9 hm
   refine q_ex 0 ?_
   obtain rfl := Option.some.inj hm
   exact zX (by kernel_rfl) (by kernel_rfl)
theorem qHw (a1 : List Slice) (a2 : Box) (r : Int) (hm : UY a1 a2 = some r) : CtX Tryz.prog globs 61 0 0 [.one (tl qG default a1), .agg (zC a2)] [] (qJv r) (qID r) := by
 unfold UY at hm
 refine q_E Tryz.f61 43 fun E => ?_
 refine q_sq ?_
 refine q_vn [] 0 ⟨[(0, vc (tl qG default a1)), (3, vp 0 0)], [(0, bx 108 (zC a2))]⟩ ?_
 refine q_sq ?_
 obtain ⟨v3, h4, hm⟩ := qD hm
 refine q_vu [qc 1 [9] 1 (qDa a1 v3 h4)] 1 [0] [(0, vc (tl qG default v3))] [] [] ?_
 refine q_sq ?_
 refine q_vu [] 1 [] [(5, vi 0)] [] [] ?_
 refine q_sq ?_
 refine q_sq ?_
 obtain ⟨v5, h6, hm⟩ := qD hm
 refine q_vu [qc 1 [11] 1 (qGV v3 v5 h6)] 1 [] [(12, vo 1 0 2 v5.length), (13, vi ((v5.length : Nat) : Int)), (14, vi 0)] [] [(1, ro 0 26 2 v5.length (rf e_Span v5))] ?_
 obtain ⟨o21, h22, hm⟩ := qD hm
 refine zF (nd Tryz.f61 244) 0 (by kernel_rfl) FUEL (fun o => OO o) o21 (q_hl (BC a2 v3 v5 0 0) (qFb E a2 v3 v5 FUEL 0 0 o21 h22)) ?_
 refine q_sq ?_
 refine q_vn [] 2 ⟨[(4, vi o21)], []⟩ ?_
 obtain rfl := Option.some.inj hm
 refine q_rt ?_
 exact q_rm
open Go.Proofs
set_option maxHeartbeats 4000000
set_option maxRecDepth 100000
def qKX (r : Int) : V := vi r
def qKu (r : Int) : List (Nat × (Nat × O)) := []
theorem KV (a1 : List Slice) (a2 : Rect) (a3 : Span) (r : Int) (hm : ZX a1 a2 a3 = some r) : CtX Tryz.prog globs 35 0 0 [.one (tl qG default a1), .agg (qK a2), .agg (e_Span a3)] [] (qKX r) (qKu r) := by
 unfold ZX at hm
 refine q_E Tryz.f35 15 fun E => ?_
 refine q_sq ?_
 refine q_vn [] 0 ⟨[(0, vc (tl qG default a1)), (4, vp 0 0), (5, vp 1 0)], [(0, bx 28 (qK a2)), (1, bx 26 (e_Span a3))]⟩ ?_
 refine q_sq ?_
 obtain ⟨v4, h5, hm⟩ := qD hm
 refine q_vn [qc 7 [7, 13] 2 (qHw a1 (Box.mk a2.X a2.Y a3) v4 h5)] 2 ⟨[(6, vi v4)], []⟩ ?_
 obtain rfl := Option.some.inj hm
 refine q_rt ?_
 exact q_rm
def qNo (r : Int) : V := vi r
def qNr (r : Int) : List (Nat × (Nat × O)) := []
theorem qL8 (a1 : List Slice) (a2 : List Defect) (a3 : qC) (a4 : Rect) (a5 : Saw) (a6 : Rates) (r : Int) (hm : AX a1 a2 a3 a4 a5 a6 = some r) : CtX Tryz.prog globs 32 0 0 [.one (tl qG default a1), .one (tl qH default a2), .agg (qE a3), .agg (qK a4), .agg (zY a5), .agg (qW a6)] [] (qNo r) (qNr r) := by
 unfold AX at hm
 refine q_E Tryz.f32 89 fun E => ?_
 refine q_sq ?_
 refine q_vn [] 0 ⟨[(0, vc (tl qG default a1)), (1, vc (tl qH default a2)), (8, vp 0 0), (9, vp 1 0), (10, vp 2 0), (11, vp 3 0)], [(0, bx 58 (qE a3)), (1, bx 28 (qK a4)), (2, bx 30 (zY a5)), (3, bx 32 (qW a6))]⟩ ?_
 refine q_sq ?_
 obtain ⟨v7, h8, hm⟩ := qD hm
 refine q_vu [qc 8 [21, 22, 23, 24, 26, 28] 4 (qKZ a1 a2 a3 a4 a5.Step a6.Fine v7 h8)] 4 [1, 8] [(13, vp 4 0), (14, vi v7.2.1), (15, vb v7.2.2)] [0] [(4, bx 26 (e_Span v7.1))] ?_
 refine q_sq ?_
 refine q_sq ?_
 refine q_vu [] 5 [15] [(34, vb (!v7.2.2))] [] [] ?_
 refine q_cn (!v7.2.2) (fun b9 => ?_) (fun b9 => ?_)
 ·replace hm := qB b9 hm
  refine q_sq ?_
  refine q_vn [] 5 ⟨[(12, vi (-1))], []⟩ ?_
  obtain rfl := Option.some.inj hm
  refine q_rt ?_
  exact q_rm
 ·replace hm := qA b9 hm
  refine q_sk ?_
  refine q_sq ?_
  obtain ⟨v10, h11, hm⟩ := qD hm
  refine q_vu [qc 1 [35] 5 (SB a1 v10 h11)] 5 [34] [(16, vi v10)] [] [] ?_
  refine q_sq ?_
  obtain ⟨v12, h13, hm⟩ := qD hm
  refine q_vu [qc 4 [37, 38, 40] 5 (KV a1 a4 (Span.mk 0 v10) v12 h13)] 5 [] [(17, vi v12)] [] [] ?_
  refine q_sq ?_
  obtain ⟨v14, h15, hm⟩ := qD hm
  refine q_vu [qc 3 [42, 43, 44] 5 (KV a1 a4 v7.1 v14 h15)] 5 [] [(18, vi v14)] [] [] ?_
  refine q_sq ?_
  obtain ⟨v16, h17, hm⟩ := qD hm
  refine q_vu [qc 11 [46, 47, 56] 5 (KV a1 a4 (Span.mk (imax 0 (w64 (v7.1.A - a5.Trim))) v7.1.A) v16 h17)] 5 [] [(19, vi v16)] [] [] ?_
  refine q_sq ?_
  obtain ⟨v18, h19, hm⟩ := qD hm
  refine q_vu [qc 13 [59, 60, 70] 5 (KV a1 a4 (Span.mk v7.1.B (imin (w64 (v7.1.B + a5.Trim)) v10)) v18 h19)] 5 [0, 9, 10, 13, 16, 19] [(19, vi (w64 (v16 + v18)))] [1, 2, 4] [] ?_
  refine q_sq ?_
  refine q_vn [] 5 ⟨[(12, vi (w64 ((w64 ((w64 (1000000 * v7.2.1)) + (w64 (a6.Dust * (w64 (v16 + v18)))))) + (w64 (a6.Chip * (w64 ((w64 (v12 - v14)) - (w64 (v16 + v18)))))))))], []⟩ ?_
  obtain rfl := Option.some.inj hm
  refine q_rt ?_
  exact q_rm
set_option maxRecDepth 100000
def qKw (r : Int) : V := vi r
def qK5 (r : Int) : List (Nat × (Nat × O)) := []
def qAZ (x20 : Bool) : St :=
 ⟨[(60, vb x20)], []⟩
def qBx (a2 : Rates) (x12 : Bool) : St :=
 ⟨[(3, vp 1 0), (36, vb x12)], [(1, bx 32 (qW a2))]⟩
def qAz (a1 : Saw) (a2 : Rates) (x6 : Bool) : St :=
 ⟨[(2, vp 0 0), (3, vp 1 0), (22, vb x6)], [(0, bx 30 (zY a1)), (1, bx 32 (qW a2))]⟩
theorem qJl (a1 : Saw) (a2 : Rates) (r : Int) (hm : BS a1 a2 = some r) : CtX Tryz.prog globs 58 0 0 [.agg (zY a1), .agg (qW a2)] [] (qKw r) (qK5 r) := by
 unfold BS at hm
 refine q_E Tryz.f58 61 fun E => ?_
 refine q_sq ?_
 refine q_vn [] 0 ⟨[(2, vp 0 0), (3, vp 1 0)], [(0, bx 30 (zY a1)), (1, bx 32 (qW a2))]⟩ ?_
 refine q_sq ?_
 refine q_jn (ι := Bool) (fun p => qAz a1 a2 p) (fun p => JW a1 a2 p = some r) ?_ ?_
 ·rintro x6 hm
  show H _ (qAz a1 a2 x6) _ _
  refine q_cn x6 (fun b7 => ?_) (fun b7 => ?_)
  ·replace hm := qB b7 hm
   refine q_sq ?_
   refine q_vn [] 2 ⟨[(4, vi 9)], []⟩ ?_
   obtain rfl := Option.some.inj hm
   refine q_rt ?_
   exact q_rm
  ·replace hm := qA b7 hm
   refine q_sk ?_
   refine q_sq ?_
   refine q_jn (ι := Bool) (fun p => qBx a2 p) (fun p => KU a2 p = some r) ?_ ?_
   ·rintro x12 hm
    show H _ (qBx a2 x12) _ _
    refine q_cn x12 (fun b13 => ?_) (fun b13 => ?_)
    ·replace hm := qB b13 hm
     refine q_sq ?_
     refine q_vn [] 2 ⟨[(4, vi 9)], []⟩ ?_
     obtain rfl := Option.some.inj hm
     refine q_rt ?_
     exact q_rm
    ·replace hm := qA b13 hm
     refine q_sk ?_
     refine q_sq ?_
     refine q_jn (ι := Bool) (fun p => qAZ p) (fun p => ZP p = some r) ?_ ?_
     ·rintro x20 hm
      show H _ (qAZ x20) _ _
      refine q_cn x20 (fun b21 => ?_) (fun b21 => ?_)
      ·replace hm := qB b21 hm
       refine q_sq ?_
       refine q_vn [] 2 ⟨[(4, vi 9)], []⟩ ?_
       obtain rfl := Option.some.inj hm
       refine q_rt ?_
       exact q_rm
      ·replace hm := qA b21 hm
       refine q_sk ?_
       refine q_sq ?_
       refine q_vn [] 2 ⟨[(4, vi 0)], []⟩ ?_
       obtain rfl := Option.some.inj hm
       refine q_rt ?_
       exact q_rm
     ·rcases Bool.eq_false_or_eq_true (decide (a2.Chip < 0)) with b14 | b14
      ·replace hm := qB b14 hm
       refine q_vn [qf 3 b14] 2 ⟨[(60, vb true)], []⟩ ?_
       exact q_J (true) hm
      ·replace hm := qA b14 hm
       rcases Bool.eq_false_or_eq_true (decide (a2.Chip > 1000)) with b15 | b15
       ·replace hm := qB b15 hm
        refine q_vn [qf 3 b14, qf 8 b15] 2 ⟨[(60, vb true)], []⟩ ?_
        exact q_J (true) hm
       ·replace hm := qA b15 hm
        rcases Bool.eq_false_or_eq_true (decide (a2.Dust < 0)) with b16 | b16
        ·replace hm := qB b16 hm
         refine q_vn [qf 3 b14, qf 8 b15, qf 13 b16] 2 ⟨[(60, vb true)], []⟩ ?_
         exact q_J (true) hm
        ·replace hm := qA b16 hm
         rcases Bool.eq_false_or_eq_true (decide (a2.Dust > 1000)) with b17 | b17
         ·replace hm := qB b17 hm
          refine q_vn [qf 3 b14, qf 8 b15, qf 13 b16, qf 18 b17] 2 ⟨[(60, vb true)], []⟩ ?_
          exact q_J (true) hm
         ·replace hm := qA b17 hm
          obtain ⟨v18, h19, hm⟩ := qD hm
          refine q_vn [qf 3 b14, qf 8 b15, qf 13 b16, qf 18 b17, qk 21 [55, 57] 2 ⟨[(55, vb false), (57, vi a2.Fine)], []⟩ (qBO a2.Fine v18 h19)] 2 ⟨[(60, vb (!v18))], []⟩ ?_
          exact q_J (!v18) hm
   ·rcases Bool.eq_false_or_eq_true (decide (a1.Pitch < 1)) with b8 | b8
    ·replace hm := qB b8 hm
     refine q_vu [qf 3 b8] 2 [2, 22] [(36, vb true)] [0] [] ?_
     exact q_J (true) hm
    ·replace hm := qA b8 hm
     rcases Bool.eq_false_or_eq_true (decide (a1.Pitch > 2000)) with b9 | b9
     ·replace hm := qB b9 hm
      refine q_vu [qf 3 b8, qf 8 b9] 2 [2, 22] [(36, vb true)] [0] [] ?_
      exact q_J (true) hm
     ·replace hm := qA b9 hm
      obtain ⟨v10, h11, hm⟩ := qD hm
      refine q_vu [qf 3 b8, qf 8 b9, qk 11 [31, 33] 2 ⟨[(31, vb false), (33, vi a1.Step)], []⟩ (SD a1.Step v10 h11)] 2 [2, 22] [(36, vb (!v10))] [0] [] ?_
      exact q_J (!v10) hm
 ·rcases Bool.eq_false_or_eq_true (decide (a1.Kerf < 0)) with b3 | b3
  ·replace hm := qB b3 hm
   refine q_vu [qf 3 b3] 2 [] [(22, vb true)] [] [] ?_
   exact q_J (true) hm
  ·replace hm := qA b3 hm
   rcases Bool.eq_false_or_eq_true (decide (a1.Kerf > 20)) with b4 | b4
   ·replace hm := qB b4 hm
    refine q_vu [qf 3 b3, qf 8 b4] 2 [] [(22, vb true)] [] [] ?_
    exact q_J (true) hm
   ·replace hm := qA b4 hm
    rcases Bool.eq_false_or_eq_true (decide (a1.Trim < 0)) with b5 | b5
    ·replace hm := qB b5 hm
     refine q_vu [qf 3 b3, qf 8 b4, qf 13 b5] 2 [] [(22, vb true)] [] [] ?_
     exact q_J (true) hm
    ·replace hm := qA b5 hm
     refine q_vu [qf 3 b3, qf 8 b4, qf 13 b5] 2 [] [(22, vb (decide (a1.Trim > 20)))] [] [] ?_
     exact q_J (decide (a1.Trim > 20)) hm
open Go.Proofs
set_option maxHeartbeats 4000000
set_option maxRecDepth 100000
def qBj (r : Int) : V := vi r
def qBq (r : Int) : List (Nat × (Nat × O)) := []
def qB8 (a4 : Rect) (x22 : Int) (x26 : Bool) : St :=
 ⟨[(68, va (qK a4)), (69, vi x22), (77, vb x26)], []⟩
def MG (a4 : Rect) (x22 : Int) : St :=
 ⟨[(68, va (qK a4)), (69, vi x22)], []⟩
def qBK : St :=
 ⟨[], []⟩
def qBP (a4 : Rect) (x20 : Bool) : St :=
 ⟨[(9, vp 0 0), (55, vb x20)], [(0, bx 28 (qK a4))]⟩
theorem qGK (E : Env 0) (a4 : Rect) : ∀ (n : Nat) (x22 : Int) (res : Int ⊕ Unit), yL a4 n x22 = some res → HL (kx E 79 0) (nd Tryz.f31 2036) (wC 0 (fun o => qBK) (fun v st => RetQ Tryz.prog Tryz.f31 (qBj v) (qBq v) .ret st) res) n (MG a4 x22) := by
 intro n
 induction n with
 | zero =>
  intro x22 res hm
  cases hm
 | succ n ih =>
  intro x22 res hm
  refine qO ?_
  refine q_sq ?_
  refine q_vu [] 3 [] [(70, vb (decide (x22 < 4)))] [] [] ?_
  refine q_sq ?_
  refine q_cn (decide (x22 < 4)) (fun b23 => ?_) (fun b23 => ?_)
  ·replace hm := qB b23 hm
   refine q_sk ?_
   refine q_sq ?_
   refine q_bk 1 ?_
   refine q_sq ?_
   obtain ⟨g24, hm⟩ := qI hm
   refine q_vu [qd 0 (Dir.none) (inb_of g24)] 3 [70] [(18, vi (([a4.X.A, a4.X.B, a4.Y.A, a4.Y.B] : List Int).getD x22.toNat 0))] [] [] ?_
   refine q_jn (ι := Bool) (fun p => qB8 a4 x22 p) (fun p => NZ x22 (yL a4 n) p = some res) ?_ ?_
   ·rintro x26 hm
    show H _ (qB8 a4 x22 x26) _ _
    refine q_cn x26 (fun b27 => ?_) (fun b27 => ?_)
    ·replace hm := qB b27 hm
     refine q_sq ?_
     refine q_vn [] 3 ⟨[(12, vi 9)], []⟩ ?_
     obtain rfl := Option.some.inj hm
     refine q_rt ?_
     refine qU 9 ?_
     exact q_rm
    ·replace hm := qA b27 hm
     refine q_sk ?_
     refine q_vu [] 3 [69, 77] [(69, vi (w64 (x22 + 1)))] [] [] ?_
     exact q_hl (MG a4 (w64 (x22 + 1))) (ih (w64 (x22 + 1)) _ hm)
   ·rcases Bool.eq_false_or_eq_true (decide ((([a4.X.A, a4.X.B, a4.Y.A, a4.Y.B] : List Int).getD x22.toNat 0) < (-600))) with b25 | b25
    ·replace hm := qB b25 hm
     refine q_vu [qf 2 b25] 3 [18] [(77, vb true)] [] [] ?_
     exact q_J (true) hm
    ·replace hm := qA b25 hm
     refine q_vu [qf 2 b25] 3 [18] [(75, vi (([a4.X.A, a4.X.B, a4.Y.A, a4.Y.B] : List Int).getD x22.toNat 0)), (76, vb (decide ((([a4.X.A, a4.X.B, a4.Y.A, a4.Y.B] : List Int).getD x22.toNat 0) > 600))), (77, vb (decide ((([a4.X.A, a4.X.B, a4.Y.A, a4.Y.B] : List Int).getD x22.toNat 0) > 600)))] [] [] ?_
     exact q_J (decide ((([a4.X.A, a4.X.B, a4.Y.A, a4.Y.B] : List Int).getD x22.toNat 0) > 600)) hm
  ·replace hm := qA b23 hm
   refine q_ex 0 ?_
   obtain rfl := Option.some.inj hm
   exact wF () (by kernel_rfl) (by kernel_rfl)
theorem qKs (a1 : List Slice) (a2 : List Defect) (a3 : List qC) (a4 : Rect) (a5 : Saw) (a6 : Rates) (r : Int) (hm : HZ a1 a2 a3 a4 a5 a6 = some r) : CtX Tryz.prog globs 31 0 0 [.one (tl qG default a1), .one (tl qH default a2), .one (tl qE default a3), .agg (qK a4), .agg (zY a5), .agg (qW a6)] [] (qBj r) (qBq r) := by
 unfold HZ at hm
 refine q_E Tryz.f31 79 fun E => ?_
 refine q_sq ?_
 refine q_vn [] 0 ⟨[(0, vc (tl qG default a1)), (1, vc (tl qH default a2)), (2, vc (tl qE default a3)), (9, vp 0 0), (10, vp 1 0), (11, vp 2 0)], [(0, bx 28 (qK a4)), (1, bx 30 (zY a5)), (2, bx 32 (qW a6))]⟩ ?_
 refine q_sq ?_
 refine q_sq ?_
 obtain ⟨v7, h8, hm⟩ := qD hm
 refine q_vu [qc 1 [19] 3 (JX a1 v7 h8)] 3 [0] [(13, vi v7)] [] [] ?_
 refine q_sq ?_
 refine q_vu [] 3 [] [(22, vb (v7 != 0))] [] [] ?_
 refine q_cn (v7 != 0) (fun b9 => ?_) (fun b9 => ?_)
 ·replace hm := qB b9 hm
  refine q_sq ?_
  refine q_vn [] 3 ⟨[(12, vi v7)], []⟩ ?_
  obtain rfl := Option.some.inj hm
  refine q_rt ?_
  exact q_rm
 ·replace hm := qA b9 hm
  refine q_sk ?_
  refine q_sq ?_
  refine q_sq ?_
  obtain ⟨v10, h11, hm⟩ := qD hm
  refine q_vu [qc 1 [24] 3 (UD a2 v10 h11)] 3 [1, 13, 22] [(14, vi v10)] [] [] ?_
  refine q_sq ?_
  refine q_vu [] 3 [] [(27, vb (v10 != 0))] [] [] ?_
  refine q_cn (v10 != 0) (fun b12 => ?_) (fun b12 => ?_)
  ·replace hm := qB b12 hm
   refine q_sq ?_
   refine q_vn [] 3 ⟨[(12, vi v10)], []⟩ ?_
   obtain rfl := Option.some.inj hm
   refine q_rt ?_
   exact q_rm
  ·replace hm := qA b12 hm
   refine q_sk ?_
   refine q_sq ?_
   refine q_sq ?_
   obtain ⟨v13, h14, hm⟩ := qD hm
   refine q_vu [qc 1 [29] 3 (RK a3 v13 h14)] 3 [2, 14, 27] [(15, vi v13)] [] [] ?_
   refine q_sq ?_
   refine q_vu [] 3 [] [(32, vb (v13 != 0))] [] [] ?_
   refine q_cn (v13 != 0) (fun b15 => ?_) (fun b15 => ?_)
   ·replace hm := qB b15 hm
    refine q_sq ?_
    refine q_vn [] 3 ⟨[(12, vi v13)], []⟩ ?_
    obtain rfl := Option.some.inj hm
    refine q_rt ?_
    exact q_rm
   ·replace hm := qA b15 hm
    refine q_sk ?_
    refine q_sq ?_
    refine q_sq ?_
    obtain ⟨v16, h17, hm⟩ := qD hm
    refine q_vu [qc 2 [34, 35] 3 (qJl a5 a6 v16 h17)] 3 [10, 11, 15, 32] [(16, vi v16)] [1, 2] [] ?_
    refine q_sq ?_
    refine q_vu [] 3 [] [(38, vb (v16 != 0))] [] [] ?_
    refine q_cn (v16 != 0) (fun b18 => ?_) (fun b18 => ?_)
    ·replace hm := qB b18 hm
     refine q_sq ?_
     refine q_vn [] 3 ⟨[(12, vi v16)], []⟩ ?_
     obtain rfl := Option.some.inj hm
     refine q_rt ?_
     exact q_rm
    ·replace hm := qA b18 hm
     refine q_sk ?_
     refine q_sq ?_
     refine q_jn (ι := Bool) (fun p => qBP a4 p) (fun p => NN a4 p = some r) ?_ ?_
     ·rintro x20 hm
      show H _ (qBP a4 x20) _ _
      refine q_cn x20 (fun b21 => ?_) (fun b21 => ?_)
      ·replace hm := qB b21 hm
       refine q_sq ?_
       refine q_vn [] 3 ⟨[(12, vi 19)], []⟩ ?_
       obtain rfl := Option.some.inj hm
       refine q_rt ?_
       exact q_rm
      ·replace hm := qA b21 hm
       refine q_sk ?_
       refine q_sq ?_
       refine q_sq ?_
       refine q_vn [] 3 ⟨[(68, va (qK a4)), (69, vi 0)], []⟩ ?_
       obtain ⟨u30, h29, hm⟩ := qD hm
       refine zI (nd Tryz.f31 2036) 0 (by kernel_rfl) FUEL (fun o => qBK) (fun v st => RetQ Tryz.prog Tryz.f31 (qBj v) (qBq v) .ret st) u30 (q_hl (MG a4 0) (qGK E a4 FUEL 0 u30 h29)) ?_ ?_
       ·rintro v31 rfl st hr
        obtain rfl := Option.some.inj hm
        exact hr
       ·rintro o28 rfl
        replace hm : _ = some r := hm
        refine q_sq ?_
        refine q_vn [] 3 ⟨[(12, vi 0)], []⟩ ?_
        obtain rfl := Option.some.inj hm
        refine q_rt ?_
        exact q_rm
     ·rcases Bool.eq_false_or_eq_true (decide (a4.X.A ≥ a4.X.B)) with b19 | b19
      ·replace hm := qB b19 hm
       refine q_vu [qf 7 b19] 3 [16, 38] [(55, vb true)] [] [] ?_
       exact q_J (true) hm
      ·replace hm := qA b19 hm
       refine q_vu [qf 7 b19] 3 [16, 38] [(55, vb (decide (a4.Y.A ≥ a4.Y.B)))] [] [] ?_
       exact q_J (decide (a4.Y.A ≥ a4.Y.B)) hm
def qMS (r : (List Int) × (List Int)) : V := .tup [.one (.own 0 0 1 r.1.length), .one (.own 1 0 1 r.2.length)]
def qLY (r : (List Int) × (List Int)) : List (Nat × (Nat × O)) := [(0, ro 0 3 1 r.1.length (rf e_i64 r.1)), (1, ro 0 3 1 r.2.length (rf e_i64 r.2))]
def qCm (a1 : List qC) (a2 : Int) (x8 : Int) (l19 : List Int) (l19n : Nat) (l20 : List Int) (l20n : Nat) : St :=
 ⟨[(1, vi a2), (6, vo 0 0 1 l19n), (7, vo 1 0 1 l20n), (15, vc (tl qE default a1)), (16, vi ((a1.length : Nat) : Int)), (17, vi x8)], [(0, ro 0 3 1 l19n (rf e_i64 l19)), (1, ro 0 3 1 l20n (rf e_i64 l20))]⟩
def qCs (a1 : List qC) (a2 : Int) (l7 : List Int) (x8 : Int) (l17 : List Int) (l17n : Nat) : St :=
 ⟨[(1, vi a2), (6, vo 0 0 1 l17n), (7, vo 1 0 1 l7.length), (8, vi x8), (15, vc (tl qE default a1)), (16, vi ((a1.length : Nat) : Int)), (17, vi x8)], [(0, ro 0 3 1 l17n (rf e_i64 l17)), (1, ro 0 3 1 l7.length (rf e_i64 l7))]⟩
def HY (a1 : List qC) (a2 : Int) (l6 : List Int) (l6n : Nat) (l7 : List Int) (l7n : Nat) (x8 : Int) : St :=
 ⟨[(1, vi a2), (6, vo 0 0 1 l6n), (7, vo 1 0 1 l7n), (15, vc (tl qE default a1)), (16, vi ((a1.length : Nat) : Int)), (17, vi x8)], [(0, ro 0 3 1 l6n (rf e_i64 l6)), (1, ro 0 3 1 l7n (rf e_i64 l7))]⟩
def qCy (l21 : List Int) (l22 : List Int) : St :=
 ⟨[(6, vo 0 0 1 l21.length), (7, vo 1 0 1 l22.length)], [(0, ro 0 3 1 l21.length (rf e_i64 l21)), (1, ro 0 3 1 l22.length (rf e_i64 l22))]⟩
theorem qGw (E : Env 0) (a1 : List qC) (a2 : Int) : ∀ (n : Nat) (l6 : List Int) (l6n : Nat) (l7 : List Int) (l7n : Nat) (x8 : Int) (res : (List Int) × (List Int)), l6.length = l6n → l7.length = l7n → jC a1 a2 n l6 l7 x8 = some res → HL (kx E 49 0) (nd Tryz.f16 244) (zN 0 (fun o => qCy o.1 o.2) res) n (HY a1 a2 l6 l6n l7 l7n x8) := by
 intro n
 induction n with
 | zero =>
  intro l6 l6n l7 l7n x8 res hl0 hl1 hm
  cases hm
 | succ n ih =>
  intro l6 l6n l7 l7n x8 res hl0 hl1 hm
  subst hl0
  subst hl1
  refine qO ?_
  refine q_sq ?_
  refine q_vu [] 2 [] [(18, vb (decide (x8 < ((a1.length : Nat) : Int))))] [] [] ?_
  refine q_sq ?_
  refine q_cn (decide (x8 < ((a1.length : Nat) : Int))) (fun b9 => ?_) (fun b9 => ?_)
  ·replace hm := qB b9 hm
   refine q_sk ?_
   refine q_jn (ι := (List Int) × Nat × (List Int) × Nat) (fun p => qCm a1 a2 x8 p.1 p.2.1 p.2.2.1 p.2.2.2) (fun p => p.1.length = p.2.1 ∧ p.2.2.1.length = p.2.2.2 ∧ FA x8 (jC a1 a2 n) p.1 p.2.2.1 = some res) ?_ ?_
   ·rintro ⟨l19, l19n, l20, l20n⟩ ⟨el19, el20, hm⟩
    replace el19 : l19.length = l19n := el19
    subst el19
    replace el20 : l20.length = l20n := el20
    subst el20
    show H _ (qCm a1 a2 x8 l19 l19.length l20 l20.length) _ _
    refine q_vu [] 5 [17] [(17, vi (w64 (x8 + 1)))] [] [] ?_
    exact q_hl (HY a1 a2 l19 l19.length l20 l20.length (w64 (x8 + 1))) (ih l19 l19.length l20 l20.length (w64 (x8 + 1)) _ rfl rfl hm)
   ·refine q_bk 1 ?_
    refine q_sq ?_
    obtain ⟨g10, hm⟩ := qI hm
    refine q_vu [qd 1 (Dir.none) (inb_of g10)] 2 [18] [(8, vi x8), (9, vp 2 0)] [] [(2, bx 58 [cs ((a1.getD x8.toNat default).Name), ci ((a1.getD x8.toNat default).Thick), ci ((a1.getD x8.toNat default).Width), ci ((a1.getD x8.toNat default).Allow), ci ((a1.getD x8.toNat default).Wane), tl e_i64 default ((a1.getD x8.toNat default).Lengths), tl e_i64 default ((a1.getD x8.toNat default).Prices)])] ?_
    refine q_sq ?_
    obtain ⟨v11, h12, hm⟩ := qD hm
    refine q_vu [qc 1 [23] 3 (zaQ (a1.getD x8.toNat default) v11 h12)] 3 [9] [(10, vi v11.1), (11, vi v11.2)] [2] [] ?_
    refine q_jn (ι := (List Int) × Nat) (fun p => qCs a1 a2 l7 x8 p.1 p.2) (fun p => p.1.length = p.2 ∧ NX l7 x8 (jC a1 a2 n) p.1 = some res) ?_ ?_
    ·rintro ⟨l17, l17n⟩ ⟨el17, hm⟩
     replace el17 : l17.length = l17n := el17
     subst el17
     show H _ (qCs a1 a2 l7 x8 l17 l17.length) _ _
     obtain ⟨g18, hm⟩ := qI hm
     refine q_vu [qd 2 (drw 4 0 (rf e_i64 ([x8] : List Int))) (litP e_i64 default 1 (fun _ => rfl) ([x8] : List Int) 1 rfl), qd 3 (drw 1 1 (rf e_i64 (l7 ++ ([x8] : List Int)))) (apP e_i64 default l7 ([x8] : List Int) l7.length 1 1 8 (1 ≤ 1) (Nat.le_refl _) rfl rfl (fun _ => rfl) (zS g18))] 4 [7, 8] [(7, vo 1 1 1 (l7.length + 1))] [1] [(1, ro 1 3 1 (l7.length + 1) (rf e_i64 (l7 ++ ([x8] : List Int))))] ?_
     exact q_J (l17, l17.length, (l7 ++ ([x8] : List Int)), (l7.length + 1)) ⟨rfl, (len_app rfl rfl), hm⟩
    ·refine q_sq ?_
     refine q_vu [] 3 [] [(27, vi a2)] [] [] ?_
     refine q_bk 2 ?_
     refine q_sq ?_
     refine q_vu [] 3 [] [(28, vb (a2 == v11.1))] [] [] ?_
     refine q_cn (a2 == v11.1) (fun b13 => ?_) (fun b13 => ?_)
     ·replace hm := qB b13 hm
      obtain ⟨g14, hm⟩ := qI hm
      refine q_vu [qd 2 (drw 3 0 (rf e_i64 ([v11.2] : List Int))) (litP e_i64 default 1 (fun _ => rfl) ([v11.2] : List Int) 1 rfl), qd 3 (drw 0 1 (rf e_i64 (l6 ++ ([v11.2] : List Int)))) (apP e_i64 default l6 ([v11.2] : List Int) l6.length 1 1 8 (1 ≤ 1) (Nat.le_refl _) rfl rfl (fun _ => rfl) (zS g14))] 3 [6, 10, 11, 27, 28] [(6, vo 0 1 1 (l6.length + 1))] [0] [(0, ro 1 3 1 (l6.length + 1) (rf e_i64 (l6 ++ ([v11.2] : List Int))))] ?_
      exact q_J ((l6 ++ ([v11.2] : List Int)), (l6.length + 1)) ⟨(len_app rfl rfl), hm⟩
     ·replace hm := qA b13 hm
      refine q_sq ?_
      refine q_vu [] 3 [11, 27, 28] [(35, vb (a2 == v11.2))] [] [] ?_
      refine q_cn (a2 == v11.2) (fun b15 => ?_) (fun b15 => ?_)
      ·replace hm := qB b15 hm
       obtain ⟨g16, hm⟩ := qI hm
       refine q_vu [qd 2 (drw 3 0 (rf e_i64 ([v11.1] : List Int))) (litP e_i64 default 1 (fun _ => rfl) ([v11.1] : List Int) 1 rfl), qd 3 (drw 0 1 (rf e_i64 (l6 ++ ([v11.1] : List Int)))) (apP e_i64 default l6 ([v11.1] : List Int) l6.length 1 1 8 (1 ≤ 1) (Nat.le_refl _) rfl rfl (fun _ => rfl) (zS g16))] 3 [6, 10, 35] [(6, vo 0 1 1 (l6.length + 1))] [0] [(0, ro 1 3 1 (l6.length + 1) (rf e_i64 (l6 ++ ([v11.1] : List Int))))] ?_
       exact q_J ((l6 ++ ([v11.1] : List Int)), (l6.length + 1)) ⟨(len_app rfl rfl), hm⟩
      ·replace hm := qA b15 hm
       refine q_ex 1 ?_
       exact q_J (l6, l6.length, l7, l7.length) ⟨rfl, rfl, hm⟩
  ·replace hm := qA b9 hm
   refine q_ex 0 ?_
   obtain rfl := Option.some.inj hm
   exact zX (by kernel_rfl) (by kernel_rfl)
theorem IZ (a1 : List qC) (a2 : Int) (r : (List Int) × (List Int)) (hm : PZ a1 a2 = some r) : CtX Tryz.prog globs 16 0 0 [.one (tl qE default a1), .one (ci a2)] [] (qMS r) (qLY r) := by
 unfold PZ at hm
 refine q_E Tryz.f16 49 fun E => ?_
 refine q_sq ?_
 refine q_vn [] 0 ⟨[(0, vc (tl qE default a1)), (1, vi a2)], []⟩ ?_
 refine q_sq ?_
 refine q_sq ?_
 obtain ⟨v3, h4, hm⟩ := qD hm
 refine q_vu [qc 1 [12] 0 (RK a1 v3 h4)] 0 [] [(14, vb (v3 != 0))] [] [] ?_
 refine q_cn (v3 != 0) (fun b5 => ?_) (fun b5 => ?_)
 ·replace hm := qB b5 hm
  refine q_sq ?_
  refine q_vn [] 0 ⟨[(4, vc (.emp)), (5, vc (.emp))], []⟩ ?_
  refine q_fn [.own 4 0 3 1 (rf e_i64 ([] : List Int))] ⟨[(4, vo 0 0 1 0), (5, vc (.emp))], [(0, ro 0 3 1 0 (rf e_i64 ([] : List Int)))]⟩ o0 ?_
  refine q_fn [.own 5 1 3 1 (rf e_i64 ([] : List Int))] ⟨[(4, vo 0 0 1 0), (5, vo 1 0 1 0)], [(0, ro 0 3 1 0 (rf e_i64 ([] : List Int))), (1, ro 0 3 1 0 (rf e_i64 ([] : List Int)))]⟩ o0 ?_
  refine q_fn [.len 0 (([] : List Int).length)] ⟨[(4, vo 0 0 1 (([] : List Int).length)), (5, vo 1 0 1 0)], [(0, ro 0 3 1 (([] : List Int).length) (rf e_i64 ([] : List Int))), (1, ro 0 3 1 0 (rf e_i64 ([] : List Int)))]⟩ (o1 (And.intro (show 0 = ([] : List Int).length from rfl) (show 0 = ([] : List Int).length from rfl))) ?_
  refine q_fn [.len 1 (([] : List Int).length)] ⟨[(4, vo 0 0 1 (([] : List Int).length)), (5, vo 1 0 1 (([] : List Int).length))], [(0, ro 0 3 1 (([] : List Int).length) (rf e_i64 ([] : List Int))), (1, ro 0 3 1 (([] : List Int).length) (rf e_i64 ([] : List Int)))]⟩ (o1 (And.intro (show 0 = ([] : List Int).length from rfl) (show 0 = ([] : List Int).length from rfl))) ?_
  obtain rfl := Option.some.inj hm
  refine q_rt ?_
  exact q_rm
 ·replace hm := qA b5 hm
  refine q_sk ?_
  refine q_sq ?_
  refine q_vu [] 0 [14] [(6, vc (.emp)), (7, vc (.emp))] [] [] ?_
  refine q_sq ?_
  refine q_sq ?_
  refine q_vu [] 0 [0] [(15, vc (tl qE default a1)), (16, vi ((a1.length : Nat) : Int)), (17, vi 0)] [] [] ?_
  refine q_fn [.own 6 0 3 1 (rf e_i64 ([] : List Int))] ⟨[(1, vi a2), (6, vo 0 0 1 0), (7, vc (.emp)), (15, vc (tl qE default a1)), (16, vi ((a1.length : Nat) : Int)), (17, vi 0)], [(0, ro 0 3 1 0 (rf e_i64 ([] : List Int)))]⟩ o0 ?_
  refine q_fn [.own 7 1 3 1 (rf e_i64 ([] : List Int))] ⟨[(1, vi a2), (6, vo 0 0 1 0), (7, vo 1 0 1 0), (15, vc (tl qE default a1)), (16, vi ((a1.length : Nat) : Int)), (17, vi 0)], [(0, ro 0 3 1 0 (rf e_i64 ([] : List Int))), (1, ro 0 3 1 0 (rf e_i64 ([] : List Int)))]⟩ o0 ?_
  obtain ⟨o23, h24, hm⟩ := qD hm
  refine zF (nd Tryz.f16 244) 0 (by kernel_rfl) FUEL (fun o => qCy o.1 o.2) o23 (q_hl (HY a1 a2 ([] : List Int) 0 ([] : List Int) 0 0) (qGw E a1 a2 FUEL ([] : List Int) 0 ([] : List Int) 0 0 o23 rfl rfl h24)) ?_
  refine q_sq ?_
  refine q_vu [] 2 [6, 7] [(4, vo 0 0 1 o23.1.length), (5, vo 1 0 1 o23.2.length)] [] [] ?_
  obtain rfl := Option.some.inj hm
  refine q_rt ?_
  exact q_rm
end Saw
end Go.SL
