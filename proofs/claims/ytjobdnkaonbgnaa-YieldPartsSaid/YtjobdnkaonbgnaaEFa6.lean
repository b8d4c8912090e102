import Derived.Test.YtjobdnkaonbgnaaEBase
import Derived.Test.YtjobdnkaonbgnaaEFa5
import Derived.Test.YtjobdnkaonbgnaaEFa2
import Derived.Test.YtjobdnkaonbgnaaEFa1
import Derived.Test.YtjobdnkaonbgnaaEFa3
import Derived.Test.YtjobdnkaonbgnaaEFa4
set_option linter.unusedVariables false
set_option linter.unusedSimpArgs false
namespace Go.SL
namespace Saw
open Go.Proofs
set_option maxHeartbeats 4000000
set_option maxRecDepth 100000
def qGf (r : Span × Int × Bool) : V := .tup [.agg (e_Span r.1), .one (ci r.2.1), .one (cb r.2.2)]
def qGK (r : Span × Int × Bool) : List (Nat × (Nat × O)) := []
def EU (a3 : Product) (a5 : Int) (a6 : Int) (v14 : Worth_view × Bool) (x19 : Int) (x24 : Int) (x34 : Int) (x35 : Bool) (x36 : Span) : St :=
 ⟨[(4, vi a5), (5, vi a6), (8, vp 0 0), (12, vp 2 0), (15, vp 5 0), (17, vp 6 0), (18, vi x34), (19, vb x35), (20, vi x19), (54, vc (tl qM default a3.Lengths)), (55, vi ((a3.Lengths.length : Nat) : Int)), (56, vi x24)], [(0, bx 71 (qE a3)), (2, bx 26 [ci 0, ci 0]), (3, ro 0 165 3 v14.1.zones.length (rf qJ v14.1.zones)), (4, ro 0 139 7 v14.1.defects.length (rf qG v14.1.defects)), (5, bx 129 [cs v14.1.product.Name, ci v14.1.product.Thick, ci v14.1.product.Width, ci v14.1.product.Allow, ci v14.1.product.Wane, tl qM default v14.1.product.Lengths, tl qM default v14.1.product.Prices, ci v14.1.rect.X.A, ci v14.1.rect.X.B, ci v14.1.rect.Y.A, ci v14.1.rect.Y.B, ci v14.1.length, .own 3 0 3 v14.1.zones.length, .own 4 0 7 v14.1.defects.length]), (6, bx 26 (e_Span x36))]⟩
def ES (a3 : Product) (a5 : Int) (a6 : Int) (v14 : Worth_view × Bool) (x19 : Int) (x22 : Int) (x23 : Bool) (x24 : Int) (x25 : Span) (v28 : Int × Bool) (x32 : Bool) : St :=
 ⟨[(4, vi a5), (5, vi a6), (8, vp 0 0), (12, vp 2 0), (15, vp 5 0), (17, vp 6 0), (18, vi x22), (19, vb x23), (20, vi x19), (23, vp 7 0), (24, vi v28.1), (54, vc (tl qM default a3.Lengths)), (55, vi ((a3.Lengths.length : Nat) : Int)), (56, vi x24), (81, vb x32)], [(0, bx 71 (qE a3)), (2, bx 26 [ci 0, ci 0]), (3, ro 0 165 3 v14.1.zones.length (rf qJ v14.1.zones)), (4, ro 0 139 7 v14.1.defects.length (rf qG v14.1.defects)), (5, bx 129 [cs v14.1.product.Name, ci v14.1.product.Thick, ci v14.1.product.Width, ci v14.1.product.Allow, ci v14.1.product.Wane, tl qM default v14.1.product.Lengths, tl qM default v14.1.product.Prices, ci v14.1.rect.X.A, ci v14.1.rect.X.B, ci v14.1.rect.Y.A, ci v14.1.rect.Y.B, ci v14.1.length, .own 3 0 3 v14.1.zones.length, .own 4 0 7 v14.1.defects.length]), (6, bx 26 (e_Span x25)), (7, bx 26 [ci x19, ci (w64 (x19 + (a3.Lengths.getD x24.toNat default)))])]⟩
def NM (a3 : Product) (a5 : Int) (a6 : Int) (v14 : Worth_view × Bool) (x19 : Int) (x22 : Int) (x23 : Bool) (x24 : Int) (x25 : Span) : St :=
 ⟨[(4, vi a5), (5, vi a6), (8, vp 0 0), (12, vp 2 0), (15, vp 5 0), (17, vp 6 0), (18, vi x22), (19, vb x23), (20, vi x19), (54, vc (tl qM default a3.Lengths)), (55, vi ((a3.Lengths.length : Nat) : Int)), (56, vi x24)], [(0, bx 71 (qE a3)), (2, bx 26 [ci 0, ci 0]), (3, ro 0 165 3 v14.1.zones.length (rf qJ v14.1.zones)), (4, ro 0 139 7 v14.1.defects.length (rf qG v14.1.defects)), (5, bx 129 [cs v14.1.product.Name, ci v14.1.product.Thick, ci v14.1.product.Width, ci v14.1.product.Allow, ci v14.1.product.Wane, tl qM default v14.1.product.Lengths, tl qM default v14.1.product.Prices, ci v14.1.rect.X.A, ci v14.1.rect.X.B, ci v14.1.rect.Y.A, ci v14.1.rect.Y.B, ci v14.1.length, .own 3 0 3 v14.1.zones.length, .own 4 0 7 v14.1.defects.length]), (6, bx 26 (e_Span x25))]⟩
def AP (a3 : Product) (a5 : Int) (a6 : Int) (v14 : Worth_view × Bool) (x19 : Int) (x37 : Int) (x38 : Bool) (x39 : Span) : St :=
 ⟨[(4, vi a5), (5, vi a6), (8, vp 0 0), (12, vp 2 0), (15, vp 5 0), (17, vp 6 0), (18, vi x37), (19, vb x38), (20, vi x19)], [(0, bx 71 (qE a3)), (2, bx 26 [ci 0, ci 0]), (3, ro 0 165 3 v14.1.zones.length (rf qJ v14.1.zones)), (4, ro 0 139 7 v14.1.defects.length (rf qG v14.1.defects)), (5, bx 129 [cs v14.1.product.Name, ci v14.1.product.Thick, ci v14.1.product.Width, ci v14.1.product.Allow, ci v14.1.product.Wane, tl qM default v14.1.product.Lengths, tl qM default v14.1.product.Prices, ci v14.1.rect.X.A, ci v14.1.rect.X.B, ci v14.1.rect.Y.A, ci v14.1.rect.Y.B, ci v14.1.length, .own 3 0 3 v14.1.zones.length, .own 4 0 7 v14.1.defects.length]), (6, bx 26 (e_Span x39))]⟩
def BK (a3 : Product) (a5 : Int) (a6 : Int) (v14 : Worth_view × Bool) (x17 : Int) (x18 : Bool) (x19 : Int) (x20 : Span) : St :=
 ⟨[(4, vi a5), (5, vi a6), (8, vp 0 0), (12, vp 2 0), (15, vp 5 0), (17, vp 6 0), (18, vi x17), (19, vb x18), (20, vi x19)], [(0, bx 71 (qE a3)), (2, bx 26 [ci 0, ci 0]), (3, ro 0 165 3 v14.1.zones.length (rf qJ v14.1.zones)), (4, ro 0 139 7 v14.1.defects.length (rf qG v14.1.defects)), (5, bx 129 [cs v14.1.product.Name, ci v14.1.product.Thick, ci v14.1.product.Width, ci v14.1.product.Allow, ci v14.1.product.Wane, tl qM default v14.1.product.Lengths, tl qM default v14.1.product.Prices, ci v14.1.rect.X.A, ci v14.1.rect.X.B, ci v14.1.rect.Y.A, ci v14.1.rect.Y.B, ci v14.1.length, .own 3 0 3 v14.1.zones.length, .own 4 0 7 v14.1.defects.length]), (6, bx 26 (e_Span x20))]⟩
def AI (x42 : Int) (x43 : Bool) (x44 : Span) : St :=
 ⟨[(12, vp 2 0), (17, vp 6 0), (18, vi x42), (19, vb x43)], [(2, bx 26 [ci 0, ci 0]), (6, bx 26 (e_Span x44))]⟩
def AE (a1 : List qF) (a2 : List Defect) (a3 : Product) (a4 : Rect) (a5 : Int) (a6 : Int) (x12 : Bool) : St :=
 ⟨[(0, vc (tl qH default a1)), (1, vc (tl qG default a2)), (4, vi a5), (5, vi a6), (8, vp 0 0), (9, vp 1 0), (12, vp 2 0), (33, vb x12)], [(0, bx 71 (qE a3)), (1, bx 28 (qK a4)), (2, bx 26 [ci 0, ci 0])]⟩
theorem qCD (E : Env 0) (a3 : Product) (a5 : Int) (a6 : Int) (v14 : Worth_view × Bool) (x19 : Int) : ∀ (n : Nat) (x22 : Int) (x23 : Bool) (x24 : Int) (x25 : Span) (res : Int × Bool × Span), wK a3 a6 v14 x19 n x22 x23 x24 x25 = some res → HL (kx E 88 0) (nd Try.f42 130340) (jU 2 (fun o => AP a3 a5 a6 v14 x19 o.1 o.2.1 o.2.2) res) n (NM a3 a5 a6 v14 x19 x22 x23 x24 x25) := by
 intro n
 induction n with
 | zero =>
  intro x22 x23 x24 x25 res hm
  cases hm
 | succ n ih =>
  intro x22 x23 x24 x25 res hm
  refine qT ?_
  refine q_sq ?_
  refine q_vu [] 7 [] [(57, vb (decide (x24 < ((a3.Lengths.length : Nat) : Int))))] [] [] ?_
  refine q_sq ?_
  refine q_cn (decide (x24 < ((a3.Lengths.length : Nat) : Int))) (fun b26 => ?_) (fun b26 => ?_)
  ·replace hm := qA b26 hm
   refine q_sk ?_
   refine q_jn (ι := Int × Bool × Span) (fun p => EU a3 a5 a6 v14 x19 x24 p.1 p.2.1 p.2.2) (fun p => GP x24 (wK a3 a6 v14 x19 n) p.1 p.2.1 p.2.2 = some res) ?_ ?_
   ·rintro ⟨x34, x35, x36⟩ hm
    show H _ (EU a3 a5 a6 v14 x19 x24 x34 x35 x36) _ _
    refine q_vu [] 8 [56] [(56, vi (w64 (x24 + 1)))] [] [] ?_
    exact q_hl (NM a3 a5 a6 v14 x19 x34 x35 (w64 (x24 + 1)) x36) (ih x34 x35 (w64 (x24 + 1)) x36 _ hm)
   ·refine q_bk 3 ?_
    refine q_sq ?_
    obtain ⟨g27, hm⟩ := qP hm
    refine q_vu [qd 0 (Dir.none) (inb_of g27)] 7 [57] [(22, vi (a3.Lengths.getD x24.toNat default))] [] [] ?_
    refine q_sq ?_
    refine q_vu [] 7 [22] [(23, vp 7 0)] [] [(7, bx 26 [ci x19, ci (w64 (x19 + (a3.Lengths.getD x24.toNat default)))])] ?_
    refine q_sq ?_
    obtain ⟨v28, h29, hm⟩ := qC hm
    refine q_vu [qd 3 (dex (cen [] [] 8 0 (YL v28) (jY v28) [66, 67, 68] [3, 4])) (GS (K := (kx E 88 0)) (b := false) ⟨[(66, va [cs v14.1.product.Name, ci v14.1.product.Thick, ci v14.1.product.Width, ci v14.1.product.Allow, ci v14.1.product.Wane, tl qM default v14.1.product.Lengths, tl qM default v14.1.product.Prices, ci v14.1.rect.X.A, ci v14.1.rect.X.B, ci v14.1.rect.Y.A, ci v14.1.rect.Y.B, ci v14.1.length, .own 3 0 3 v14.1.zones.length, .own 4 0 7 v14.1.defects.length]), (67, va [ci x19, ci (w64 (x19 + (a3.Lengths.getD x24.toNat default)))]), (68, vi a6)], [(3, ro 0 165 3 v14.1.zones.length (rf qJ v14.1.zones)), (4, ro 0 139 7 v14.1.defects.length (rf qG v14.1.defects))]⟩ (opAt (rg Try.f42 16683622) 3) [] [] 8 (o1 (And.intro (Nat.le_refl v14.1.zones.length) (Nat.le_refl v14.1.defects.length))) rfl (worth_view_worth_ok (Worth_view.mk v14.1.product v14.1.rect v14.1.length v14.1.zones v14.1.defects) (Span.mk x19 (w64 (x19 + (a3.Lengths.getD x24.toNat default)))) a6 v28 h29) (.inr ⟨(by kernel_rfl), qAy v28⟩) (by kernel_rfl))] 8 [] [(24, vi v28.1), (25, vb v28.2)] [] [] ?_
    refine q_jn (ι := Bool) (fun p => ES a3 a5 a6 v14 x19 x22 x23 x24 x25 v28 p) (fun p => PQ a3 x19 x22 x23 x24 x25 (wK a3 a6 v14 x19 n) v28 p = some res) ?_ ?_
    ·rintro x32 hm
     show H _ (ES a3 a5 a6 v14 x19 x22 x23 x24 x25 v28 x32) _ _
     refine q_cn x32 (fun b33 => ?_) (fun b33 => ?_)
     ·replace hm := qA b33 hm
      refine q_vu [] 8 [18, 19, 23, 24, 81] [(18, vi v28.1), (19, vb true)] [6, 7] [(6, bx 26 [ci x19, ci (w64 (x19 + (a3.Lengths.getD x24.toNat default)))])] ?_
      exact q_J (v28.1, true, (Span.mk x19 (w64 (x19 + (a3.Lengths.getD x24.toNat default))))) hm
     ·replace hm := qB b33 hm
      refine q_sk ?_
      exact q_J (x22, x23, x25) hm
    ·rcases Bool.eq_false_or_eq_true v28.2 with b30 | b30
     ·replace hm := qA b30 hm
      rcases Bool.eq_false_or_eq_true (!x23) with b31 | b31
      ·replace hm := qA b31 hm
       refine q_vu [qf 1 b30, qf 4 b31] 8 [25] [(81, vb true)] [] [] ?_
       exact q_J (true) hm
      ·replace hm := qB b31 hm
       refine q_vu [qf 1 b30, qf 4 b31] 8 [25] [(81, vb (decide (v28.1 > x22)))] [] [] ?_
       exact q_J (decide (v28.1 > x22)) hm
     ·replace hm := qB b30 hm
      refine q_vu [qf 1 b30] 8 [25] [(81, vb false)] [] [] ?_
      exact q_J (false) hm
  ·replace hm := qB b26 hm
   refine q_ex 2 ?_
   obtain rfl := Option.some.inj hm
   exact ZP (by kernel_rfl) (by kernel_rfl)
theorem qCe (E : Env 0) (a3 : Product) (a5 : Int) (a6 : Int) (v14 : Worth_view × Bool) : ∀ (n : Nat) (x17 : Int) (x18 : Bool) (x19 : Int) (x20 : Span) (res : Int × Bool × Span), ZV a3 a5 a6 v14 n x17 x18 x19 x20 = some res → HL (kx E 88 0) (nd Try.f42 2036) (jU 0 (fun o => AI o.1 o.2.1 o.2.2) res) n (BK a3 a5 a6 v14 x17 x18 x19 x20) := by
 intro n
 induction n with
 | zero =>
  intro x17 x18 x19 x20 res hm
  cases hm
 | succ n ih =>
  intro x17 x18 x19 x20 res hm
  refine qT ?_
  refine q_sq ?_
  refine q_sq ?_
  refine q_vu [] 7 [] [(49, vb (decide (x19 < v14.1.length)))] [] [] ?_
  refine q_cn (decide (x19 < v14.1.length)) (fun b21 => ?_) (fun b21 => ?_)
  ·replace hm := qA b21 hm
   refine q_sk ?_
   refine q_sq ?_
   refine q_bk 1 ?_
   refine q_sq ?_
   refine q_vu [] 7 [49] [(54, vc (tl qM default a3.Lengths)), (55, vi ((a3.Lengths.length : Nat) : Int)), (56, vi 0)] [] [] ?_
   obtain ⟨o40, h41, hm⟩ := qC hm
   refine jL (nd Try.f42 130340) 2 (by kernel_rfl) FUEL (fun o => AP a3 a5 a6 v14 x19 o.1 o.2.1 o.2.2) o40 (q_hl (NM a3 a5 a6 v14 x19 x17 x18 0 x20) (qCD E a3 a5 a6 v14 x19 FUEL x17 x18 0 x20 o40 h41)) ?_
   refine q_vu [] 7 [20] [(20, vi (w64 (x19 + a5)))] [] [] ?_
   exact q_hl (BK a3 a5 a6 v14 o40.1 o40.2.1 (w64 (x19 + a5)) o40.2.2) (ih o40.1 o40.2.1 (w64 (x19 + a5)) o40.2.2 _ hm)
  ·replace hm := qB b21 hm
   refine q_ex 0 ?_
   obtain rfl := Option.some.inj hm
   exact ZP (by kernel_rfl) (by kernel_rfl)
theorem qFV (a1 : List qF) (a2 : List Defect) (a3 : Product) (a4 : Rect) (a5 : Int) (a6 : Int) (r : Span × Int × Bool) (hm : NE a1 a2 a3 a4 a5 a6 = some r) : CtX Try.prog globs 42 0 0 [.one (tl qH default a1), .one (tl qG default a2), .agg (qE a3), .agg (qK a4), .one (ci a5), .one (ci a6)] [] (qGf r) (qGK r) := by
 unfold NE at hm
 refine q_E Try.f42 88 fun E => ?_
 refine q_sq ?_
 refine q_vn [] 0 ⟨[(0, vc (tl qH default a1)), (1, vc (tl qG default a2)), (4, vi a5), (5, vi a6), (8, vp 0 0), (9, vp 1 0), (12, vp 2 0)], [(0, bx 71 (qE a3)), (1, bx 28 (qK a4)), (2, bx 26 [ci 0, ci 0])]⟩ ?_
 refine q_sq ?_
 refine q_jn (ι := Bool) (fun p => AE a1 a2 a3 a4 a5 a6 p) (fun p => GM a1 a2 a3 a4 a5 a6 p = some r) ?_ ?_
 ·rintro x12 hm
  show H _ (AE a1 a2 a3 a4 a5 a6 x12) _ _
  refine q_cn x12 (fun b13 => ?_) (fun b13 => ?_)
  ·replace hm := qA b13 hm
   refine q_sq ?_
   refine q_vu [] 3 [0, 1, 4, 5, 8, 9, 33] [(13, vi 0), (14, vb false)] [0, 1] [] ?_
   obtain rfl := Option.some.inj hm
   refine q_rt ?_
   exact q_rm
  ·replace hm := qB b13 hm
   refine q_sk ?_
   refine q_sq ?_
   obtain ⟨v14, h15, hm⟩ := qC hm
   refine q_vu [qc 4 [36, 37, 38, 39] 3 (qFK a1 a2 a3 a4 v14 h15)] 3 [0, 1, 9, 33] [(15, vp 5 0), (16, vb v14.2)] [1] [(3, ro 0 165 3 v14.1.zones.length (rf qJ v14.1.zones)), (4, ro 0 139 7 v14.1.defects.length (rf qG v14.1.defects)), (5, bx 129 [cs v14.1.product.Name, ci v14.1.product.Thick, ci v14.1.product.Width, ci v14.1.product.Allow, ci v14.1.product.Wane, tl qM default v14.1.product.Lengths, tl qM default v14.1.product.Prices, ci v14.1.rect.X.A, ci v14.1.rect.X.B, ci v14.1.rect.Y.A, ci v14.1.rect.Y.B, ci v14.1.length, .own 3 0 3 v14.1.zones.length, .own 4 0 7 v14.1.defects.length])] ?_
   refine q_sq ?_
   refine q_sq ?_
   refine q_vu [] 6 [16] [(44, vb (!v14.2))] [] [] ?_
   refine q_cn (!v14.2) (fun b16 => ?_) (fun b16 => ?_)
   ·replace hm := qA b16 hm
    refine q_sq ?_
    refine q_vu [] 6 [4, 5, 8, 15, 44] [(13, vi 0), (14, vb false)] [0, 3, 4, 5] [] ?_
    obtain rfl := Option.some.inj hm
    refine q_rt ?_
    exact q_rm
   ·replace hm := qB b16 hm
    refine q_sk ?_
    refine q_sq ?_
    refine q_vu [] 6 [44] [(17, vp 6 0)] [] [(6, bx 26 [ci 0, ci 0])] ?_
    refine q_sq ?_
    refine q_vu [] 7 [] [(18, vi 0), (19, vb false)] [] [] ?_
    refine q_sq ?_
    refine q_sq ?_
    refine q_vu [] 7 [] [(20, vi 0)] [] [] ?_
    obtain ⟨o45, h46, hm⟩ := qC hm
    refine jL (nd Try.f42 2036) 0 (by kernel_rfl) FUEL (fun o => AI o.1 o.2.1 o.2.2) o45 (q_hl (BK a3 a5 a6 v14 0 false 0 (Span.mk 0 0)) (qCe E a3 a5 a6 v14 FUEL 0 false 0 (Span.mk 0 0) o45 h46)) ?_
    refine q_sq ?_
    refine q_vn [] 7 ⟨[(12, vp 2 0), (13, vi o45.1), (14, vb o45.2.1)], [(2, bx 26 (e_Span o45.2.2))]⟩ ?_
    obtain rfl := Option.some.inj hm
    refine q_rt ?_
    exact q_rm
 ·obtain ⟨v7, h8, hm⟩ := qC hm
  rcases Bool.eq_false_or_eq_true (!v7) with b9 | b9
  ·replace hm := qA b9 hm
   refine q_vu [qc 1 [26] 3 (BS a5 v7 h8), qf 3 b9] 3 [] [(33, vb true)] [] [] ?_
   exact q_J (true) hm
  ·replace hm := qB b9 hm
   obtain ⟨v10, h11, hm⟩ := qC hm
   refine q_vu [qc 1 [26] 3 (BS a5 v7 h8), qf 3 b9, qk 5 [29, 30] 3 ⟨[(29, vb false), (30, vi a6)], []⟩ (AX a6 v10 h11)] 3 [] [(33, vb (!v10))] [] [] ?_
   exact q_J (!v10) hm
noncomputable def BQ (a1 : Int) (a2 : Leaf) (a3 : List qF) (a4 : List Defect) (a5 : List Product) (a6 : Saw) (a7 : Int) (a8 : List Yield_Cut) (ri : RI 79) (r : Nat × (List Yield_Cut)) : V := vb (Nat.beq r.1 0)
noncomputable def yield_Boards_rd506_o (a1 : Int) (a2 : Leaf) (a3 : List qF) (a4 : List Defect) (a5 : List Product) (a6 : Saw) (a7 : Int) (a8 : List Yield_Cut) (ri : RI 79) (r : Nat × (List Yield_Cut)) : List (Nat × (Nat × O)) := [(0, lz (rc Try.f25 506 ri) ri.b [] r.1), (1, bx 22 [tl qH default a3]), (2, bx 23 [tl qG default a4]), (3, bx 24 [tl qE default a5]), (4, bx 33 (jD a6)), (5, bx 3 [ci a7]), (6, bx 45 [.own 7 0 9 r.2.length]), (7, ro 0 54 9 r.2.length (rf qL r.2))]
theorem OK (a1 : Int) (a2 : Leaf) (a3 : List qF) (a4 : List Defect) (a5 : List Product) (a6 : Saw) (a7 : Int) (a8 : List Yield_Cut) (ri : RI 79) (r : Nat × (List Yield_Cut)) (hm : YQ a1 a2 a3 a4 a5 a6 a7 a8 = some r) : CtR Try.prog globs (rc Try.f25 506 ri) ri.b [6, 7, 8, 10, 11, 17] 8 7 [.one (ci a1), .agg (qS a2), .one (.bptr 1 0 0), .one (.bptr 2 0 0), .one (.bptr 3 0 0), .one (.bptr 4 0 0), .one (.bptr 5 0 0), .one (.bptr 6 0 0)] [(0, lq (rc Try.f25 506 ri) ri.b), (1, bx 22 [tl qH default a3]), (2, bx 23 [tl qG default a4]), (3, bx 24 [tl qE default a5]), (4, bx 33 (jD a6)), (5, bx 3 [ci a7]), (6, bx 45 [.own 7 0 9 a8.length]), (7, ro 0 54 9 a8.length (rf qL a8))] (BQ a1 a2 a3 a4 a5 a6 a7 a8 ri r) (yield_Boards_rd506_o a1 a2 a3 a4 a5 a6 a7 a8 ri r) := by
 unfold YQ at hm
 refine q_R Try.f25 506 79 ri fun E => ?_
 refine q_sq ?_
 refine q_vn [] 8 ⟨[(6, vp 1 0), (7, vp 2 0), (8, vp 3 0), (10, vp 4 0), (11, vp 5 0), (17, vp 6 0), (18, vi a1), (47, va (qS a2))], [(0, lq (rc Try.f25 506 ri) ri.b), (1, bx 22 [tl qH default a3]), (2, bx 23 [tl qG default a4]), (3, bx 24 [tl qE default a5]), (4, bx 33 (jD a6)), (5, bx 3 [ci a7]), (6, bx 45 [.own 7 0 9 a8.length]), (7, ro 0 54 9 a8.length (rf qL a8))]⟩ ?_
 refine q_vu [] 8 [47] [(19, vp 8 0)] [] [(8, bx 100 (qS a2))] ?_
 refine q_rd ⟨[(6, vp 1 0), (7, vp 2 0), (8, vp 3 0), (10, vp 4 0), (11, vp 5 0), (17, vp 6 0), (18, vi a1), (19, vp 8 0)], [(0, ly (rc Try.f25 506 ri) ri.b), (1, bx 22 [tl qH default a3]), (2, bx 23 [tl qG default a4]), (3, bx 24 [tl qE default a5]), (4, bx 33 (jD a6)), (5, bx 3 [ci a7]), (6, bx 45 [.own 7 0 9 a8.length]), (7, ro 0 54 9 a8.length (rf qL a8)), (8, bx 100 (qS a2))]⟩ ?_
 refine q_bk 1 ?_
 refine q_sq ?_
 obtain ⟨g9, hm⟩ := qP hm
 obtain ⟨v10, h11, hm⟩ := qC hm
 refine q_du [qd 5 (Dir.none) (inb_of g9), qc 12 [49, 50, 55, 57, 59, 60] 9 (qFV a3 a4 (a5.getD a2.Product.toNat default) a2.Rect a6.Step a7 v10 h11)] [0, 0, 0, 0, 8, 28, 60, 0, 128, 0, 512, 0, 4095, 8191, 16383, 16383, 16383, 0, 163839, 458751, 1048575] 9 [6, 7, 8, 10, 11] [(20, vp 9 0), (21, vi v10.2.1), (22, vb v10.2.2)] [] [(9, bx 26 (e_Span v10.1))] ?_
 refine q_sq ?_
 refine q_vu [] 10 [22] [(65, vb v10.2.2)] [] [] ?_
 refine q_cn v10.2.2 (fun b12 => ?_) (fun b12 => ?_)
 ·replace hm := qA b12 hm
  obtain ⟨v13, h14, hm⟩ := qC hm
  obtain ⟨g15, hm⟩ := qP hm
  refine q_xu [] o0 [qc 7 [71, 72] 10 (NN a2.Rect v10.1 v13 h14), qd 10 (drw 10 0 (rf qL ([(Yield_Cut.mk a1 a2.Product v13 v10.2.1)] : List Yield_Cut))) (litP qL default 9 (fun _ => rfl) ([(Yield_Cut.mk a1 a2.Product v13 v10.2.1)] : List Yield_Cut) 1 rfl), qd 11 (drw 7 1 (rf qL (a8 ++ ([(Yield_Cut.mk a1 a2.Product v13 v10.2.1)] : List Yield_Cut)))) (apP qL default a8 ([(Yield_Cut.mk a1 a2.Product v13 v10.2.1)] : List Yield_Cut) a8.length 1 9 72 (1 ≤ 1) (Nat.le_refl _) rfl rfl (fun _ => rfl) (XW g15))] [.len 7 ((a8 ++ ([(Yield_Cut.mk a1 a2.Product v13 v10.2.1)] : List Yield_Cut)).length)] (o1 (And.intro (Eq.symm (show (a8 ++ ([(Yield_Cut.mk a1 a2.Product v13 v10.2.1)] : List Yield_Cut)).length = (a8.length + 1) from (len_app rfl rfl))) (And.intro (Eq.symm (show (a8 ++ ([(Yield_Cut.mk a1 a2.Product v13 v10.2.1)] : List Yield_Cut)).length = (a8.length + 1) from (len_app rfl rfl))) (Eq.symm (show (a8 ++ ([(Yield_Cut.mk a1 a2.Product v13 v10.2.1)] : List Yield_Cut)).length = (a8.length + 1) from (len_app rfl rfl)))))) [0, 0, 0, 4, 0, 16, 0, 112, 0, 510, 1022, 2047, 4095] 10 [17, 18, 19, 20, 21, 65] [] [6, 7, 8, 9] [(6, bx 45 [.own 7 1 9 ((a8 ++ ([(Yield_Cut.mk a1 a2.Product v13 v10.2.1)] : List Yield_Cut)).length)]), (7, ro 1 54 9 ((a8 ++ ([(Yield_Cut.mk a1 a2.Product v13 v10.2.1)] : List Yield_Cut)).length) (rf qL (a8 ++ ([(Yield_Cut.mk a1 a2.Product v13 v10.2.1)] : List Yield_Cut))))] ?_
  obtain rfl := Option.some.inj hm
  exact q_rq
 ·replace hm := qB b12 hm
  refine q_sk ?_
  obtain rfl := Option.some.inj hm
  exact q_rq
set_option maxRecDepth 100000
noncomputable def XF (a1 : List qF) (a2 : List Defect) (a3 : List Product) (a4 : Saw) (a5 : Int) (a6 : List Leaf) (a7 : List Yield_Cut) (ri : RI 79) (r : Nat × (List Yield_Cut)) : V := .undef
noncomputable def KH (a1 : List qF) (a2 : List Defect) (a3 : List Product) (a4 : Saw) (a5 : Int) (a6 : List Leaf) (a7 : List Yield_Cut) (ri : RI 79) (r : Nat × (List Yield_Cut)) : List (Nat × (Nat × O)) := [(0, lz (rc Try.f25 506 ri) ri.b [] r.1), (1, bx 22 [tl qH default a1]), (2, bx 23 [tl qG default a2]), (3, bx 24 [tl qE default a3]), (4, bx 33 (jD a4)), (5, bx 3 [ci a5]), (6, bx 45 [.own 8 0 9 r.2.length]), (7, bx 93 [tl qS default a6]), (8, ro 0 54 9 r.2.length (rf qL r.2))]
noncomputable def TH (ri : RI 79) (a1 : List qF) (a2 : List Defect) (a3 : List Product) (a4 : Saw) (a5 : Int) (a6 : List Leaf) (x8 : Int) (l16 : List Yield_Cut) (l16n : Nat) : St :=
 ⟨[(0, vc (.yl (rc Try.f25 506 ri) ri.b [6, 7, 8, 10, 11, 17] [.bptr 1 0 0, .bptr 2 0 0, .bptr 3 0 0, .bptr 4 0 0, .bptr 5 0 0, .bptr 6 0 0])), (5, vc (tl qS default a6)), (6, vi ((a6.length : Nat) : Int)), (7, vi x8)], [(0, lq (rc Try.f25 506 ri) ri.b), (1, bx 22 [tl qH default a1]), (2, bx 23 [tl qG default a2]), (3, bx 24 [tl qE default a3]), (4, bx 33 (jD a4)), (5, bx 3 [ci a5]), (6, bx 45 [.own 8 0 9 l16n]), (7, bx 93 [tl qS default a6]), (8, ro 0 54 9 l16n (rf qL l16))]⟩
noncomputable def JG (ri : RI 79) (a1 : List qF) (a2 : List Defect) (a3 : List Product) (a4 : Saw) (a5 : Int) (a6 : List Leaf) (x8 : Int) (l9 : List Yield_Cut) (l9n : Nat) : St :=
 ⟨[(0, vc (.yl (rc Try.f25 506 ri) ri.b [6, 7, 8, 10, 11, 17] [.bptr 1 0 0, .bptr 2 0 0, .bptr 3 0 0, .bptr 4 0 0, .bptr 5 0 0, .bptr 6 0 0])), (5, vc (tl qS default a6)), (6, vi ((a6.length : Nat) : Int)), (7, vi x8)], [(0, lq (rc Try.f25 506 ri) ri.b), (1, bx 22 [tl qH default a1]), (2, bx 23 [tl qG default a2]), (3, bx 24 [tl qE default a3]), (4, bx 33 (jD a4)), (5, bx 3 [ci a5]), (6, bx 45 [.own 8 0 9 l9n]), (7, bx 93 [tl qS default a6]), (8, ro 0 54 9 l9n (rf qL l9))]⟩
noncomputable def TX (ri : RI 79) (a1 : List qF) (a2 : List Defect) (a3 : List Product) (a4 : Saw) (a5 : Int) (a6 : List Leaf) (l17 : List Yield_Cut) : St :=
 ⟨[], [(0, lq (rc Try.f25 506 ri) ri.b), (1, bx 22 [tl qH default a1]), (2, bx 23 [tl qG default a2]), (3, bx 24 [tl qE default a3]), (4, bx 33 (jD a4)), (5, bx 3 [ci a5]), (6, bx 45 [.own 8 0 9 l17.length]), (7, bx 93 [tl qS default a6]), (8, ro 0 54 9 l17.length (rf qL l17))]⟩
theorem HN (E : Env 9) (ri : RI 79) (a1 : List qF) (a2 : List Defect) (a3 : List Product) (a4 : Saw) (a5 : Int) (a6 : List Leaf) (a7 : List Yield_Cut) : ∀ (n : Nat) (x8 : Int) (l9 : List Yield_Cut) (l9n : Nat) (res : (Nat × (List Yield_Cut)) ⊕ (List Yield_Cut)), l9.length = l9n → zD a1 a2 a3 a4 a5 a6 n x8 l9 = some res → HL (kx E 23 8) (nd Try.f60 12) (yI 0 (fun o => TX ri a1 a2 a3 a4 a5 a6 o) (fun v st => RetQ Try.prog Try.f60 (XF a1 a2 a3 a4 a5 a6 a7 ri v) (KH a1 a2 a3 a4 a5 a6 a7 ri v) .ret st) res) n (JG ri a1 a2 a3 a4 a5 a6 x8 l9 l9n) := by
 intro n
 induction n with
 | zero =>
  intro x8 l9 l9n res hl0 hm
  cases hm
 | succ n ih =>
  intro x8 l9 l9n res hl0 hm
  subst hl0
  refine qT ?_
  refine q_sq ?_
  refine q_vu [] 9 [] [(8, vb (decide (x8 < ((a6.length : Nat) : Int))))] [] [] ?_
  refine q_sq ?_
  refine q_cn (decide (x8 < ((a6.length : Nat) : Int))) (fun b10 => ?_) (fun b10 => ?_)
  ·replace hm := qA b10 hm
   refine q_sk ?_
   refine q_jn (ι := (List Yield_Cut) × Nat) (fun p => TH ri a1 a2 a3 a4 a5 a6 x8 p.1 p.2) (fun p => p.1.length = p.2 ∧ ZD x8 (zD a1 a2 a3 a4 a5 a6 n) p.1 = some res) ?_ ?_
   ·rintro ⟨l16, l16n⟩ ⟨el16, hm⟩
    replace el16 : l16.length = l16n := el16
    subst el16
    show H _ (TH ri a1 a2 a3 a4 a5 a6 x8 l16 l16.length) _ _
    refine q_vu [] 10 [7] [(7, vi (w64 (x8 + 1)))] [] [] ?_
    exact q_hl (JG ri a1 a2 a3 a4 a5 a6 (w64 (x8 + 1)) l16 l16.length) (ih (w64 (x8 + 1)) l16 l16.length _ rfl hm)
   ·refine q_bk 1 ?_
    refine q_sq ?_
    obtain ⟨g11, hm⟩ := qP hm
    refine q_vu [qd 1 (Dir.none) (inb_of g11)] 9 [8] [(3, vi x8), (4, vp 9 0)] [] [(9, bx 100 [ci ((((a6.getD x8.toNat default).Rect).X).A), ci ((((a6.getD x8.toNat default).Rect).X).B), ci ((((a6.getD x8.toNat default).Rect).Y).A), ci ((((a6.getD x8.toNat default).Rect).Y).B), ci ((a6.getD x8.toNat default).Product)])] ?_
    refine q_sq ?_
    rcases Bool.eq_false_or_eq_true (((a6.getD x8.toNat default).Product) != (-1)) with b12 | b12
    ·replace hm := qA b12 hm
     obtain ⟨v13, h14, hm⟩ := qC hm
     refine q_vu [qf 3 b12, qd 7 (dex (cen [(0, 0), (1, 0), (2, 0), (3, 0), (4, 0), (5, 0), (6, 0), (8, 0)] [0, 0, 0, 0, 0, 0, 0, 1] 2 7 (BQ x8 (a6.getD x8.toNat default) a1 a2 a3 a4 a5 l9 ri v13) (yield_Boards_rd506_o x8 (a6.getD x8.toNat default) a1 a2 a3 a4 a5 l9 ri v13) [15, 16, 17, 18] [0, 1, 2, 3, 4, 5, 6, 8])) (HR (K := (kx E 23 8)) ⟨[(15, vb true), (16, vc (.yl (rc Try.f25 506 ri) ri.b [6, 7, 8, 10, 11, 17] [.bptr 1 0 0, .bptr 2 0 0, .bptr 3 0 0, .bptr 4 0 0, .bptr 5 0 0, .bptr 6 0 0])), (17, vi x8), (18, va [ci ((((a6.getD x8.toNat default).Rect).X).A), ci ((((a6.getD x8.toNat default).Rect).X).B), ci ((((a6.getD x8.toNat default).Rect).Y).A), ci ((((a6.getD x8.toNat default).Rect).Y).B), ci ((a6.getD x8.toNat default).Product)])], [(0, lq (rc Try.f25 506 ri) ri.b), (1, bx 22 [tl qH default a1]), (2, bx 23 [tl qG default a2]), (3, bx 24 [tl qE default a3]), (4, bx 33 (jD a4)), (5, bx 3 [ci a5]), (6, bx 45 [.own 8 0 9 l9.length]), (8, ro 0 54 9 l9.length (rf qL l9))]⟩ (opAt (rg Try.f60 818) 7) [(0, 0), (1, 0), (2, 0), (3, 0), (4, 0), (5, 0), (6, 0), (8, 0)] [0, 0, 0, 0, 0, 0, 0, 1] 2 0 o0 rfl (OK x8 (a6.getD x8.toNat default) a1 a2 a3 a4 a5 l9 ri v13 h14) (.inl rfl) (by kernel_rfl))] 10 [3, 4] [(21, vb (!(Nat.beq v13.1 0)))] [0, 6, 8, 9] [(0, lz (rc Try.f25 506 ri) ri.b [] v13.1), (6, bx 45 [.own 8 1 9 v13.2.length]), (8, ro 1 54 9 v13.2.length (rf qL v13.2))] ?_
     refine q_cn (!(Nat.beq v13.1 0)) (fun b15 => ?_) (fun b15 => ?_)
     ·replace hm := qA b15 hm
      obtain rfl := Option.some.inj hm
      refine q_rt ?_
      refine zL (v13.1, v13.2) ?_
      exact q_rm
     ·replace hm := qB b15 hm
      refine q_fn [.lpn 0 .ready none] ⟨[(0, vc (.yl (rc Try.f25 506 ri) ri.b [6, 7, 8, 10, 11, 17] [.bptr 1 0 0, .bptr 2 0 0, .bptr 3 0 0, .bptr 4 0 0, .bptr 5 0 0, .bptr 6 0 0])), (5, vc (tl qS default a6)), (6, vi ((a6.length : Nat) : Int)), (7, vi x8), (21, vb (!(Nat.beq v13.1 0)))], [(0, lq (rc Try.f25 506 ri) ri.b), (1, bx 22 [tl qH default a1]), (2, bx 23 [tl qG default a2]), (3, bx 24 [tl qE default a3]), (4, bx 33 (jD a4)), (5, bx 3 [ci a5]), (6, bx 45 [.own 8 1 9 v13.2.length]), (7, bx 93 [tl qS default a6]), (8, ro 1 54 9 v13.2.length (rf qL v13.2))]⟩ (o1 (qDa (js := []) b15)) ?_
      refine q_sk ?_
      exact q_J (v13.2, v13.2.length) ⟨rfl, hm⟩
    ·replace hm := qB b12 hm
     refine q_vu [qf 3 b12] 10 [3, 4] [(21, vb false)] [9] [] ?_
     refine R_cnF Try.f60 (.tmp 21) 1638 1639 (by kernel_rfl) (by kernel_rfl) ?_
     refine q_sk ?_
     exact q_J (l9, l9.length) ⟨rfl, hm⟩
  ·replace hm := qB b10 hm
   refine q_ex 0 ?_
   obtain rfl := Option.some.inj hm
   exact yP l9 (by kernel_rfl) (by kernel_rfl)
theorem IG (a1 : List qF) (a2 : List Defect) (a3 : List Product) (a4 : Saw) (a5 : Int) (a6 : List Leaf) (a7 : List Yield_Cut) (ri : RI 79) (r : Nat × (List Yield_Cut)) (hm : QJ a1 a2 a3 a4 a5 a6 a7 = some r) : CtX Try.prog globs 60 9 8 [.one (.yl (rc Try.f25 506 ri) ri.b [6, 7, 8, 10, 11, 17] [.bptr 1 0 0, .bptr 2 0 0, .bptr 3 0 0, .bptr 4 0 0, .bptr 5 0 0, .bptr 6 0 0]), .one (.bptr 7 0 0)] [(0, lq (rc Try.f25 506 ri) ri.b), (1, bx 22 [tl qH default a1]), (2, bx 23 [tl qG default a2]), (3, bx 24 [tl qE default a3]), (4, bx 33 (jD a4)), (5, bx 3 [ci a5]), (6, bx 45 [.own 8 0 9 a7.length]), (7, bx 93 [tl qS default a6]), (8, ro 0 54 9 a7.length (rf qL a7))] (XF a1 a2 a3 a4 a5 a6 a7 ri r) (KH a1 a2 a3 a4 a5 a6 a7 ri r) := by
 unfold QJ at hm
 refine q_E Try.f60 23 fun E => ?_
 refine q_sq ?_
 refine q_vn [] 9 ⟨[(0, vc (.yl (rc Try.f25 506 ri) ri.b [6, 7, 8, 10, 11, 17] [.bptr 1 0 0, .bptr 2 0 0, .bptr 3 0 0, .bptr 4 0 0, .bptr 5 0 0, .bptr 6 0 0])), (5, vc (tl qS default a6)), (6, vi ((a6.length : Nat) : Int)), (7, vi 0)], [(0, lq (rc Try.f25 506 ri) ri.b), (1, bx 22 [tl qH default a1]), (2, bx 23 [tl qG default a2]), (3, bx 24 [tl qE default a3]), (4, bx 33 (jD a4)), (5, bx 3 [ci a5]), (6, bx 45 [.own 8 0 9 a7.length]), (7, bx 93 [tl qS default a6]), (8, ro 0 54 9 a7.length (rf qL a7))]⟩ ?_
 obtain ⟨u20, h19, hm⟩ := qC hm
 refine zW (nd Try.f60 12) 0 (by kernel_rfl) FUEL (fun o => TX ri a1 a2 a3 a4 a5 a6 o) (fun v st => RetQ Try.prog Try.f60 (XF a1 a2 a3 a4 a5 a6 a7 ri v) (KH a1 a2 a3 a4 a5 a6 a7 ri v) .ret st) u20 (q_hl (JG ri a1 a2 a3 a4 a5 a6 0 a7 a7.length) (HN E ri a1 a2 a3 a4 a5 a6 a7 FUEL 0 a7 a7.length u20 rfl h19)) ?_ ?_
 ·rintro v21 rfl st hr
  obtain rfl := Option.some.inj hm
  exact hr
 ·rintro o18 rfl
  replace hm : _ = some r := hm
  obtain rfl := Option.some.inj hm
  exact q_rm
open Go.Proofs
set_option maxHeartbeats 4000000
set_option maxRecDepth 100000
def qEA (r : (List Yield_Cut) × Int) : V := .tup [.one (.own 0 0 9 r.1.length), .one (ci r.2)]
def qEc (r : (List Yield_Cut) × Int) : List (Nat × (Nat × O)) := [(0, ro 0 54 9 r.1.length (rf qL r.1))]
theorem AQ (a1 : List qF) (a2 : List Defect) (a3 : List Product) (a4 : Pattern) (a5 : Saw) (a6 : Int) (r : (List Yield_Cut) × Int) (hm : ZH a1 a2 a3 a4 a5 a6 = some r) : CtX Try.prog globs 25 0 0 [.one (tl qH default a1), .one (tl qG default a2), .one (tl qE default a3), .agg (qD a4), .agg (jD a5), .one (ci a6)] [] (qEA r) (qEc r) := by
 unfold ZH at hm
 refine q_E Try.f25 79 fun E => ?_
 refine q_sq ?_
 refine q_vn [] 0 ⟨[(6, vp 0 0), (7, vp 1 0), (8, vp 2 0), (9, vp 3 0), (10, vp 4 0), (11, vp 5 0)], [(0, bx 22 [tl qH default a1]), (1, bx 23 [tl qG default a2]), (2, bx 24 [tl qE default a3]), (3, bx 31 (qD a4)), (4, bx 33 (jD a5)), (5, bx 3 [ci a6])]⟩ ?_
 refine q_sq ?_
 refine q_sq ?_
 obtain ⟨v7, h8, hm⟩ := qC hm
 refine q_vu [qc 7 [23, 24, 25, 26, 27, 29] 6 (OL a1 a2 a3 a4 a5 (Rates.mk 0 0 a6) v7 h8)] 6 [] [(14, vi v7)] [] [] ?_
 refine q_sq ?_
 refine q_vu [] 6 [] [(32, vb (v7 != 0))] [] [] ?_
 refine q_cn (v7 != 0) (fun b9 => ?_) (fun b9 => ?_)
 ·replace hm := qA b9 hm
  refine q_sq ?_
  refine q_vn [] 6 ⟨[(12, vc (.emp)), (13, vi v7)], []⟩ ?_
  refine q_fn [.own 12 6 54 9 (rf qL ([] : List Yield_Cut))] ⟨[(12, vo 6 0 9 0), (13, vi v7)], [(6, ro 0 54 9 0 (rf qL ([] : List Yield_Cut)))]⟩ o0 ?_
  refine q_fn [.len 6 (([] : List Yield_Cut).length)] ⟨[(12, vo 6 0 9 (([] : List Yield_Cut).length)), (13, vi v7)], [(6, ro 0 54 9 (([] : List Yield_Cut).length) (rf qL ([] : List Yield_Cut)))]⟩ (o1 (And.intro (show 0 = ([] : List Yield_Cut).length from rfl) (show 0 = ([] : List Yield_Cut).length from rfl))) ?_
  obtain rfl := Option.some.inj hm
  refine jO 6 0 (by kernel_rfl) ?_
  refine q_rt ?_
  exact q_rm
 ·replace hm := qB b9 hm
  refine q_sk ?_
  refine q_sq ?_
  obtain ⟨v10, h11, hm⟩ := qC hm
  refine q_vu [qc 3 [35, 37] 6 (qBz a4 a5.Kerf v10 h11)] 6 [9, 14, 32] [(15, vo 6 0 5 v10.1.length), (16, vi v10.2)] [3] [(6, ro 0 100 5 v10.1.length (rf qS v10.1))] ?_
  refine q_sq ?_
  refine q_sq ?_
  refine q_vu [] 7 [] [(42, vb (v10.2 != 0))] [] [] ?_
  refine q_cn (v10.2 != 0) (fun b12 => ?_) (fun b12 => ?_)
  ·replace hm := qA b12 hm
   refine q_sq ?_
   refine q_vn [] 7 ⟨[(12, vc (.emp)), (13, vi v10.2)], []⟩ ?_
   refine q_fn [.own 12 7 54 9 (rf qL ([] : List Yield_Cut))] ⟨[(12, vo 7 0 9 0), (13, vi v10.2)], [(7, ro 0 54 9 0 (rf qL ([] : List Yield_Cut)))]⟩ o0 ?_
   refine q_fn [.len 7 (([] : List Yield_Cut).length)] ⟨[(12, vo 7 0 9 (([] : List Yield_Cut).length)), (13, vi v10.2)], [(7, ro 0 54 9 (([] : List Yield_Cut).length) (rf qL ([] : List Yield_Cut)))]⟩ (o1 (And.intro (show 0 = ([] : List Yield_Cut).length from rfl) (show 0 = ([] : List Yield_Cut).length from rfl))) ?_
   obtain rfl := Option.some.inj hm
   refine jO 7 0 (by kernel_rfl) ?_
   refine q_rt ?_
   exact q_rm
  ·replace hm := qB b12 hm
   refine q_sk ?_
   refine q_sq ?_
   refine q_vu [] 7 [16, 42] [(17, vp 7 0)] [] [(7, bx 45 [.emp])] ?_
   refine q_sq ?_
   refine q_sq ?_
   obtain ⟨v13, h14, hm⟩ := qC hm
   refine q_vu [qd 1 (dpr [.frz 6] (dex (cen [] [] 8 0 (NW v13) (NP v13) [44] []))) (And.intro (Nat.le_refl v10.1.length) (Nat.le_refl v10.1.length)), qd 1 (Dir.none) (GS (K := (kx E 79 0)) ⟨[(44, vc (tl qS default v10.1))], []⟩ (opAt (rg Try.f25 252) 1) [] [] 8 o0 rfl (OY v10.1 v13 h14) (.inl rfl) (by kernel_rfl))] 8 [15] [(45, vc (.fn 60 [.bptr 8 0 0]))] [6] [(8, bx 93 [tl qS default v13])] ?_
   refine q_bk 0 ?_
   refine q_fn [.ownB 7 0 9 54 9 (rf qL ([] : List Yield_Cut))] ⟨[(6, vp 0 0), (7, vp 1 0), (8, vp 2 0), (10, vp 4 0), (11, vp 5 0), (17, vp 7 0), (45, vc (.fn 60 [.bptr 8 0 0]))], [(0, bx 22 [tl qH default a1]), (1, bx 23 [tl qG default a2]), (2, bx 24 [tl qE default a3]), (4, bx 33 (jD a5)), (5, bx 3 [ci a6]), (7, bx 45 [.own 9 0 9 0]), (8, bx 93 [tl qS default v13]), (9, ro 0 54 9 0 (rf qL ([] : List Yield_Cut)))]⟩ o0 ?_
   refine q_fn [.len 9 (([] : List Yield_Cut).length)] ⟨[(6, vp 0 0), (7, vp 1 0), (8, vp 2 0), (10, vp 4 0), (11, vp 5 0), (17, vp 7 0), (45, vc (.fn 60 [.bptr 8 0 0]))], [(0, bx 22 [tl qH default a1]), (1, bx 23 [tl qG default a2]), (2, bx 24 [tl qE default a3]), (4, bx 33 (jD a5)), (5, bx 3 [ci a6]), (7, bx 45 [.own 9 0 9 (([] : List Yield_Cut).length)]), (8, bx 93 [tl qS default v13]), (9, ro 0 54 9 (([] : List Yield_Cut).length) (rf qL ([] : List Yield_Cut)))]⟩ (o1 (And.intro (show 0 = ([] : List Yield_Cut).length from rfl) (show 0 = ([] : List Yield_Cut).length from rfl))) ?_
   obtain ⟨v15, h16, hm⟩ := qC hm
   refine q_rf (.tmp 45) [6, 7, 8, 10, 11, 17] 10 [(10, 0), (0, 0), (1, 0), (2, 0), (4, 0), (5, 0), (7, 0), (8, 0), (9, 0)] [0, 0, 0, 0, 0, 0, 0, 0, 1] 2 8 [] v15.1 0 ⟨[(17, vp 7 0)], [(7, bx 45 [.own 9 0 9 v15.2.length]), (9, ro 0 54 9 v15.2.length (rf qL v15.2))]⟩ (fun ri => IG a1 a2 a3 a5 a6 v13 ([] : List Yield_Cut) ri v15 h16) ?_
   rcases Bool.eq_false_or_eq_true (Nat.beq v15.1 0) with b17 | b17
   ·replace hm := qA b17 hm
    refine JQ_n b17 ?_
    refine q_sq ?_
    refine q_vu [] 11 [17] [(12, vo 9 0 9 v15.2.length), (13, vi 0)] [7] [] ?_
    obtain rfl := Option.some.inj hm
    refine jO 9 0 (by kernel_rfl) ?_
    refine q_rt ?_
    exact q_rm
   ·replace hm := qB b17 hm
    cases hm
noncomputable def KY (a1 : Int) (a2 : Pattern_place) (a3 : Pattern) (a4 : Int) (a5 : List Rect) (ri : RI 47) (r : Nat × (List Rect)) : V := vb (Nat.beq r.1 0)
noncomputable def PD (a1 : Int) (a2 : Pattern_place) (a3 : Pattern) (a4 : Int) (a5 : List Rect) (ri : RI 47) (r : Nat × (List Rect)) : List (Nat × (Nat × O)) := [(0, lz (rc Try.f38 122 ri) ri.b [] r.1), (1, bx 31 (qD a3)), (2, bx 3 [ci a4]), (3, bx 89 [.own 4 0 4 r.2.length]), (4, ro 0 28 4 r.2.length (rf qK r.2))]
theorem DW (a1 : Int) (a2 : Pattern_place) (a3 : Pattern) (a4 : Int) (a5 : List Rect) (ri : RI 47) (r : Nat × (List Rect)) (hm : wV a1 a2 a3 a4 a5 = some r) : CtR Try.prog globs (rc Try.f38 122 ri) ri.b [2, 3, 7] 5 4 [.one (ci a1), .agg (e_Pattern_place a2), .one (.bptr 1 0 0), .one (.bptr 2 0 0), .one (.bptr 3 0 0)] [(0, lq (rc Try.f38 122 ri) ri.b), (1, bx 31 (qD a3)), (2, bx 3 [ci a4]), (3, bx 89 [.own 4 0 4 a5.length]), (4, ro 0 28 4 a5.length (rf qK a5))] (KY a1 a2 a3 a4 a5 ri r) (PD a1 a2 a3 a4 a5 ri r) := by
 unfold wV at hm
 refine q_R Try.f38 122 47 ri fun E => ?_
 refine q_sq ?_
 refine q_vn [] 5 ⟨[(2, vp 1 0), (3, vp 2 0), (7, vp 3 0), (8, vi a1), (24, va (e_Pattern_place a2))], [(0, lq (rc Try.f38 122 ri) ri.b), (1, bx 31 (qD a3)), (2, bx 3 [ci a4]), (3, bx 89 [.own 4 0 4 a5.length]), (4, ro 0 28 4 a5.length (rf qK a5))]⟩ ?_
 refine q_vu [] 5 [24] [(9, vp 5 0)] [] [(5, bx 123 (e_Pattern_place a2))] ?_
 refine q_rd ⟨[(2, vp 1 0), (3, vp 2 0), (7, vp 3 0), (8, vi a1), (9, vp 5 0)], [(0, ly (rc Try.f38 122 ri) ri.b), (1, bx 31 (qD a3)), (2, bx 3 [ci a4]), (3, bx 89 [.own 4 0 4 a5.length]), (4, ro 0 28 4 a5.length (rf qK a5)), (5, bx 123 (e_Pattern_place a2))]⟩ ?_
 refine q_bk 1 ?_
 refine q_sq ?_
 obtain ⟨g6, hm⟩ := qP hm
 refine q_vu [qd 3 (Dir.none) (inb_of g6)] 6 [2, 8] [(10, vp 6 0)] [] [(6, bx 59 [ci ((a3.Nodes.getD a1.toNat default).Kind), ci ((a3.Nodes.getD a1.toNat default).At)])] ?_
 refine q_sq ?_
 obtain ⟨v7, h8, hm⟩ := qC hm
 refine q_vu [qc 2 [31] 7 (QW ((a3.Nodes.getD a1.toNat default).Kind) v7 h8)] 7 [] [(32, vb v7)] [] [] ?_
 refine q_cn v7 (fun b9 => ?_) (fun b9 => ?_)
 ·replace hm := qA b9 hm
  refine q_sq ?_
  obtain ⟨v10, h11, hm⟩ := qC hm
  refine q_vu [qc 4 [35, 36, 37] 7 (WX a2.rect (a3.Nodes.getD a1.toNat default) a4 v10 h11)] 7 [3, 9, 10, 32] [(12, vp 8 0)] [5, 6] [(8, bx 28 (qK v10.2.1))] ?_
  obtain ⟨g12, hm⟩ := qP hm
  refine q_wu [qd 2 (drw 10 0 (rf qK ([v10.2.1] : List Rect))) (litP qK default 4 (fun _ => rfl) ([v10.2.1] : List Rect) 1 rfl), qd 3 (drw 4 1 (rf qK (a5 ++ ([v10.2.1] : List Rect)))) (apP qK default a5 ([v10.2.1] : List Rect) a5.length 1 4 32 (1 ≤ 1) (Nat.le_refl _) rfl rfl (fun _ => rfl) (XW g12))] [.len 4 ((a5 ++ ([v10.2.1] : List Rect)).length)] (o1 (And.intro (Eq.symm (show (a5 ++ ([v10.2.1] : List Rect)).length = (a5.length + 1) from (len_app rfl rfl))) (And.intro (Eq.symm (show (a5 ++ ([v10.2.1] : List Rect)).length = (a5.length + 1) from (len_app rfl rfl))) (Eq.symm (show (a5 ++ ([v10.2.1] : List Rect)).length = (a5.length + 1) from (len_app rfl rfl)))))) 10 [7, 12] [] [3, 4, 8] [(3, bx 89 [.own 4 1 4 ((a5 ++ ([v10.2.1] : List Rect)).length)]), (4, ro 1 28 4 ((a5 ++ ([v10.2.1] : List Rect)).length) (rf qK (a5 ++ ([v10.2.1] : List Rect))))] ?_
  obtain rfl := Option.some.inj hm
  exact q_rq
 ·replace hm := qB b9 hm
  refine q_sk ?_
  obtain rfl := Option.some.inj hm
  exact q_rq
set_option maxRecDepth 100000
noncomputable def XU (a1 : Pattern) (a2 : Int) (a3 : Pattern) (a4 : Int) (a5 : List Rect) (ri : RI 47) (r : Nat × (List Rect)) : V := .undef
noncomputable def XO (a1 : Pattern) (a2 : Int) (a3 : Pattern) (a4 : Int) (a5 : List Rect) (ri : RI 47) (r : Nat × (List Rect)) : List (Nat × (Nat × O)) := [(0, lz (rc Try.f38 122 ri) ri.b [] r.1), (1, bx 31 (qD a1)), (2, bx 3 [ci a2]), (3, bx 89 [.own 6 0 4 r.2.length]), (4, bx 31 (qD a3)), (5, bx 3 [ci a4]), (6, ro 0 28 4 r.2.length (rf qK r.2))]
noncomputable def UN (ri : RI 47) (a1 : Pattern) (a2 : Int) (a3 : Pattern) (a4 : Int) (x7 : Int) (l23 : List Pattern_place) (l23n : Nat) (l24 : List Rect) (l24n : Nat) : St :=
 ⟨[(0, vc (.yl (rc Try.f38 122 ri) ri.b [2, 3, 7] [.bptr 1 0 0, .bptr 2 0 0, .bptr 3 0 0])), (1, vp 4 0), (2, vp 5 0), (4, vo 7 0 5 l23n), (5, vi x7)], [(0, lq (rc Try.f38 122 ri) ri.b), (1, bx 31 (qD a1)), (2, bx 3 [ci a2]), (3, bx 89 [.own 6 0 4 l24n]), (4, bx 31 (qD a3)), (5, bx 3 [ci a4]), (6, ro 0 28 4 l24n (rf qK l24)), (7, ro 0 123 5 l23n (rf e_Pattern_place l23))]⟩
noncomputable def JB (ri : RI 47) (a1 : Pattern) (a2 : Int) (a3 : Pattern) (a4 : Int) (l6 : List Pattern_place) (l6n : Nat) (x7 : Int) (l8 : List Rect) (l8n : Nat) : St :=
 ⟨[(0, vc (.yl (rc Try.f38 122 ri) ri.b [2, 3, 7] [.bptr 1 0 0, .bptr 2 0 0, .bptr 3 0 0])), (1, vp 4 0), (2, vp 5 0), (4, vo 7 0 5 l6n), (5, vi x7)], [(0, lq (rc Try.f38 122 ri) ri.b), (1, bx 31 (qD a1)), (2, bx 3 [ci a2]), (3, bx 89 [.own 6 0 4 l8n]), (4, bx 31 (qD a3)), (5, bx 3 [ci a4]), (6, ro 0 28 4 l8n (rf qK l8)), (7, ro 0 123 5 l6n (rf e_Pattern_place l6))]⟩
noncomputable def UG (ri : RI 47) (a1 : Pattern) (a2 : Int) (a3 : Pattern) (a4 : Int) (l25 : List Rect) : St :=
 ⟨[], [(0, lq (rc Try.f38 122 ri) ri.b), (1, bx 31 (qD a1)), (2, bx 3 [ci a2]), (3, bx 89 [.own 6 0 4 l25.length]), (4, bx 31 (qD a3)), (5, bx 3 [ci a4]), (6, ro 0 28 4 l25.length (rf qK l25))]⟩
theorem HQ (E : Env 7) (ri : RI 47) (a1 : Pattern) (a2 : Int) (a3 : Pattern) (a4 : Int) (a5 : List Rect) : ∀ (n : Nat) (l6 : List Pattern_place) (l6n : Nat) (x7 : Int) (l8 : List Rect) (l8n : Nat) (res : (Nat × (List Rect)) ⊕ (List Rect)), l6.length = l6n → l8.length = l8n → zT a1 a2 a3 a4 n l6 x7 l8 = some res → HL (kx E 73 6) (nd Try.f75 28) (yI 0 (fun o => UG ri a1 a2 a3 a4 o) (fun v st => RetQ Try.prog Try.f75 (XU a1 a2 a3 a4 a5 ri v) (XO a1 a2 a3 a4 a5 ri v) .ret st) res) n (JB ri a1 a2 a3 a4 l6 l6n x7 l8 l8n) := by
 intro n
 induction n with
 | zero =>
  intro l6 l6n x7 l8 l8n res hl0 hl1 hm
  cases hm
 | succ n ih =>
  intro l6 l6n x7 l8 l8n res hl0 hl1 hm
  subst hl0
  subst hl1
  refine qT ?_
  refine q_sq ?_
  refine q_sq ?_
  refine q_vu [] 8 [] [(17, vb (decide (((l6.length : Nat) : Int) > 0)))] [] [] ?_
  refine q_cn (decide (((l6.length : Nat) : Int) > 0)) (fun b9 => ?_) (fun b9 => ?_)
  ·replace hm := qA b9 hm
   refine q_sk ?_
   refine q_jn (ι := (List Pattern_place) × Nat × (List Rect) × Nat) (fun p => UN ri a1 a2 a3 a4 x7 p.1 p.2.1 p.2.2.1 p.2.2.2) (fun p => p.1.length = p.2.1 ∧ p.2.2.1.length = p.2.2.2 ∧ ZF x7 (zT a1 a2 a3 a4 n) p.1 p.2.2.1 = some res) ?_ ?_
   ·rintro ⟨l23, l23n, l24, l24n⟩ ⟨el23, el24, hm⟩
    replace el23 : l23.length = l23n := el23
    subst el23
    replace el24 : l24.length = l24n := el24
    subst el24
    show H _ (UN ri a1 a2 a3 a4 x7 l23 l23.length l24 l24.length) _ _
    refine q_vu [] 14 [5] [(5, vi (w64 (x7 + 1)))] [] [] ?_
    exact q_hl (JB ri a1 a2 a3 a4 l23 l23.length (w64 (x7 + 1)) l24 l24.length) (ih l23 l23.length (w64 (x7 + 1)) l24 l24.length _ rfl rfl hm)
   ·refine q_bk 1 ?_
    refine q_sq ?_
    obtain ⟨g10, hm⟩ := qP hm
    refine q_vu [qd 4 (Dir.none) (inb_of g10), qd 5 (Dir.none) (toNat_lt (inb_of g10))] 8 [17] [(6, vp 8 0)] [] [(8, bx 123 [ci ((((l6.getD ((w64 (((l6.length : Nat) : Int) - 1)).toNat) default).rect).X).A), ci ((((l6.getD ((w64 (((l6.length : Nat) : Int) - 1)).toNat) default).rect).X).B), ci ((((l6.getD ((w64 (((l6.length : Nat) : Int) - 1)).toNat) default).rect).Y).A), ci ((((l6.getD ((w64 (((l6.length : Nat) : Int) - 1)).toNat) default).rect).Y).B), ci ((l6.getD ((w64 (((l6.length : Nat) : Int) - 1)).toNat) default).level)])] ?_
    refine q_sq ?_
    obtain ⟨g11, hm⟩ := qP hm
    refine q_wu [qd 4 (Dir.none) (And.intro (slOk_of g11).2.1 (slOk_of g11).2.2)] [.row 7 ((w64 (((l6.length : Nat) : Int) - 1)).toNat) (rf e_Pattern_place (l6.take ((w64 (((l6.length : Nat) : Int) - 1)).toNat)))] (o1 (tkP e_Pattern_place default l6 l6.length ((w64 (((l6.length : Nat) : Int) - 1)).toNat) (show (w64 (((l6.length : Nat) : Int) - 1)).toNat ≤ l6.length by have := (slOk_of g11); omega))) 9 [4] [(4, vo 7 0 5 ((w64 (((l6.length : Nat) : Int) - 1)).toNat))] [7] [(7, ro 0 123 5 ((w64 (((l6.length : Nat) : Int) - 1)).toNat) (rf e_Pattern_place (l6.take ((w64 (((l6.length : Nat) : Int) - 1)).toNat))))] ?_
    refine q_sq ?_
    refine q_sq ?_
    obtain ⟨v12, h13, hm⟩ := qC hm
    rcases Bool.eq_false_or_eq_true (!(Nat.beq v12.1 0)) with b14 | b14
    ·replace hm := qA b14 hm
     refine q_vu [qd 3 (dex (cen [(0, 0), (1, 0), (2, 0), (3, 0), (6, 0)] [0, 0, 0, 0, 1] 4 4 (KY x7 (l6.getD ((w64 (((l6.length : Nat) : Int) - 1)).toNat) default) a1 a2 l8 ri v12) (PD x7 (l6.getD ((w64 (((l6.length : Nat) : Int) - 1)).toNat) default) a1 a2 l8 ri v12) [31, 32, 33] [0, 1, 2, 3, 6])) (HR (K := (kx E 73 6)) ⟨[(31, vc (.yl (rc Try.f38 122 ri) ri.b [2, 3, 7] [.bptr 1 0 0, .bptr 2 0 0, .bptr 3 0 0])), (32, vi x7), (33, va [ci ((((l6.getD ((w64 (((l6.length : Nat) : Int) - 1)).toNat) default).rect).X).A), ci ((((l6.getD ((w64 (((l6.length : Nat) : Int) - 1)).toNat) default).rect).X).B), ci ((((l6.getD ((w64 (((l6.length : Nat) : Int) - 1)).toNat) default).rect).Y).A), ci ((((l6.getD ((w64 (((l6.length : Nat) : Int) - 1)).toNat) default).rect).Y).B), ci ((l6.getD ((w64 (((l6.length : Nat) : Int) - 1)).toNat) default).level)])], [(0, lq (rc Try.f38 122 ri) ri.b), (1, bx 31 (qD a1)), (2, bx 3 [ci a2]), (3, bx 89 [.own 6 0 4 l8.length]), (6, ro 0 28 4 l8.length (rf qK l8))]⟩ (opAt (rg Try.f75 3660) 3) [(0, 0), (1, 0), (2, 0), (3, 0), (6, 0)] [0, 0, 0, 0, 1] 4 0 o0 rfl (DW x7 (l6.getD ((w64 (((l6.length : Nat) : Int) - 1)).toNat) default) a1 a2 l8 ri v12 h13) (.inl rfl) (by kernel_rfl)), qf 5 b14] 9 [] [(42, vb true)] [0, 3, 6] [(0, lz (rc Try.f38 122 ri) ri.b [] v12.1), (3, bx 89 [.own 6 1 4 v12.2.length]), (6, ro 1 28 4 v12.2.length (rf qK v12.2))] ?_
     refine qF2 Try.f75 (.tmp 42) 7322 7323 (by kernel_rfl) (by kernel_rfl) ?_
     obtain rfl := Option.some.inj hm
     refine q_rt ?_
     refine zL (v12.1, v12.2) ?_
     exact q_rm
    ·replace hm := qB b14 hm
     refine q_wu [qd 3 (dex (cen [(0, 0), (1, 0), (2, 0), (3, 0), (6, 0)] [0, 0, 0, 0, 1] 4 4 (KY x7 (l6.getD ((w64 (((l6.length : Nat) : Int) - 1)).toNat) default) a1 a2 l8 ri v12) (PD x7 (l6.getD ((w64 (((l6.length : Nat) : Int) - 1)).toNat) default) a1 a2 l8 ri v12) [31, 32, 33] [0, 1, 2, 3, 6])) (HR (K := (kx E 73 6)) ⟨[(31, vc (.yl (rc Try.f38 122 ri) ri.b [2, 3, 7] [.bptr 1 0 0, .bptr 2 0 0, .bptr 3 0 0])), (32, vi x7), (33, va [ci ((((l6.getD ((w64 (((l6.length : Nat) : Int) - 1)).toNat) default).rect).X).A), ci ((((l6.getD ((w64 (((l6.length : Nat) : Int) - 1)).toNat) default).rect).X).B), ci ((((l6.getD ((w64 (((l6.length : Nat) : Int) - 1)).toNat) default).rect).Y).A), ci ((((l6.getD ((w64 (((l6.length : Nat) : Int) - 1)).toNat) default).rect).Y).B), ci ((l6.getD ((w64 (((l6.length : Nat) : Int) - 1)).toNat) default).level)])], [(0, lq (rc Try.f38 122 ri) ri.b), (1, bx 31 (qD a1)), (2, bx 3 [ci a2]), (3, bx 89 [.own 6 0 4 l8.length]), (6, ro 0 28 4 l8.length (rf qK l8))]⟩ (opAt (rg Try.f75 3660) 3) [(0, 0), (1, 0), (2, 0), (3, 0), (6, 0)] [0, 0, 0, 0, 1] 4 0 o0 rfl (DW x7 (l6.getD ((w64 (((l6.length : Nat) : Int) - 1)).toNat) default) a1 a2 l8 ri v12 h13) (.inl rfl) (by kernel_rfl)), qf 5 b14] [.lpn 0 .ready none] (o1 (qDa (js := []) b14)) 9 [] [(42, vb (decide (x7 ≥ ((a3.Nodes.length : Nat) : Int))))] [3, 6] [(3, bx 89 [.own 6 1 4 v12.2.length]), (6, ro 1 28 4 v12.2.length (rf qK v12.2))] ?_
     refine q_cn (decide (x7 ≥ ((a3.Nodes.length : Nat) : Int))) (fun b15 => ?_) (fun b15 => ?_)
     ·replace hm := qA b15 hm
      obtain rfl := Option.some.inj hm
      refine q_rt ?_
      refine zL (0, v12.2) ?_
      exact q_rm
     ·replace hm := qB b15 hm
      refine q_sk ?_
      refine q_sq ?_
      obtain ⟨g16, hm⟩ := qP hm
      refine q_vu [qd 3 (Dir.none) (inb_of g16)] 9 [42] [(7, vp 9 0)] [] [(9, bx 59 [ci ((a3.Nodes.getD x7.toNat default).Kind), ci ((a3.Nodes.getD x7.toNat default).At)])] ?_
      refine q_sq ?_
      obtain ⟨v17, h18, hm⟩ := qC hm
      refine q_vu [qc 2 [49] 10 (QW ((a3.Nodes.getD x7.toNat default).Kind) v17 h18)] 10 [] [(50, vb v17)] [] [] ?_
      refine q_cn v17 (fun b19 => ?_) (fun b19 => ?_)
      ·replace hm := qA b19 hm
       refine q_sq ?_
       obtain ⟨v20, h21, hm⟩ := qC hm
       refine q_vu [qc 4 [53, 54, 55] 10 (WX ((l6.getD ((w64 (((l6.length : Nat) : Int) - 1)).toNat) default).rect) (a3.Nodes.getD x7.toNat default) a4 v20 h21)] 10 [7, 50] [(8, vp 10 0), (10, vp 12 0)] [9] [(10, bx 28 (qK v20.1)), (12, bx 28 (qK v20.2.2))] ?_
       obtain ⟨g22, hm⟩ := qP hm
       refine q_vu [qd 11 (drw 13 0 (rf e_Pattern_place ([(Pattern_place.mk v20.2.2 (w64 (((l6.getD ((w64 (((l6.length : Nat) : Int) - 1)).toNat) default).level) + 1))), (Pattern_place.mk v20.1 (w64 (((l6.getD ((w64 (((l6.length : Nat) : Int) - 1)).toNat) default).level) + 1)))] : List Pattern_place))) (litP e_Pattern_place default 5 (fun _ => rfl) ([(Pattern_place.mk v20.2.2 (w64 (((l6.getD ((w64 (((l6.length : Nat) : Int) - 1)).toNat) default).level) + 1))), (Pattern_place.mk v20.1 (w64 (((l6.getD ((w64 (((l6.length : Nat) : Int) - 1)).toNat) default).level) + 1)))] : List Pattern_place) 2 rfl), qd 12 (drw 7 1 (rf e_Pattern_place ((l6.take ((w64 (((l6.length : Nat) : Int) - 1)).toNat)) ++ ([(Pattern_place.mk v20.2.2 (w64 (((l6.getD ((w64 (((l6.length : Nat) : Int) - 1)).toNat) default).level) + 1))), (Pattern_place.mk v20.1 (w64 (((l6.getD ((w64 (((l6.length : Nat) : Int) - 1)).toNat) default).level) + 1)))] : List Pattern_place)))) (apP e_Pattern_place default (l6.take ((w64 (((l6.length : Nat) : Int) - 1)).toNat)) ([(Pattern_place.mk v20.2.2 (w64 (((l6.getD ((w64 (((l6.length : Nat) : Int) - 1)).toNat) default).level) + 1))), (Pattern_place.mk v20.1 (w64 (((l6.getD ((w64 (((l6.length : Nat) : Int) - 1)).toNat) default).level) + 1)))] : List Pattern_place) ((w64 (((l6.length : Nat) : Int) - 1)).toNat) 2 5 40 (2 ≤ 2) (Nat.le_refl _) (ZW rfl (show (w64 (((l6.length : Nat) : Int) - 1)).toNat ≤ l6.length by have := (slOk_of g11); omega)) rfl (fun _ => rfl) (XW g22))] 13 [4, 6, 8, 10] [(4, vo 7 1 5 ((w64 (((l6.length : Nat) : Int) - 1)).toNat + 2))] [7, 8, 10, 12] [(7, ro 1 123 5 ((w64 (((l6.length : Nat) : Int) - 1)).toNat + 2) (rf e_Pattern_place ((l6.take ((w64 (((l6.length : Nat) : Int) - 1)).toNat)) ++ ([(Pattern_place.mk v20.2.2 (w64 (((l6.getD ((w64 (((l6.length : Nat) : Int) - 1)).toNat) default).level) + 1))), (Pattern_place.mk v20.1 (w64 (((l6.getD ((w64 (((l6.length : Nat) : Int) - 1)).toNat) default).level) + 1)))] : List Pattern_place))))] ?_
       exact q_J (((l6.take ((w64 (((l6.length : Nat) : Int) - 1)).toNat)) ++ ([(Pattern_place.mk v20.2.2 (w64 (((l6.getD ((w64 (((l6.length : Nat) : Int) - 1)).toNat) default).level) + 1))), (Pattern_place.mk v20.1 (w64 (((l6.getD ((w64 (((l6.length : Nat) : Int) - 1)).toNat) default).level) + 1)))] : List Pattern_place)), ((w64 (((l6.length : Nat) : Int) - 1)).toNat + 2), v12.2, v12.2.length) ⟨(len_app (ZW rfl (show (w64 (((l6.length : Nat) : Int) - 1)).toNat ≤ l6.length by have := (slOk_of g11); omega)) rfl), rfl, hm⟩
      ·replace hm := qB b19 hm
       refine q_sk ?_
       exact q_J ((l6.take ((w64 (((l6.length : Nat) : Int) - 1)).toNat)), (w64 (((l6.length : Nat) : Int) - 1)).toNat, v12.2, v12.2.length) ⟨(ZW rfl (show (w64 (((l6.length : Nat) : Int) - 1)).toNat ≤ l6.length by have := (slOk_of g11); omega)), rfl, hm⟩
  ·replace hm := qB b9 hm
   refine q_ex 0 ?_
   obtain rfl := Option.some.inj hm
   exact yP l8 (by kernel_rfl) (by kernel_rfl)
theorem ID (a1 : Pattern) (a2 : Int) (a3 : Pattern) (a4 : Int) (a5 : List Rect) (ri : RI 47) (r : Nat × (List Rect)) (hm : QI a1 a2 a3 a4 a5 = some r) : CtX Try.prog globs 75 7 6 [.one (.yl (rc Try.f38 122 ri) ri.b [2, 3, 7] [.bptr 1 0 0, .bptr 2 0 0, .bptr 3 0 0]), .one (.bptr 4 0 0), .one (.bptr 5 0 0)] [(0, lq (rc Try.f38 122 ri) ri.b), (1, bx 31 (qD a1)), (2, bx 3 [ci a2]), (3, bx 89 [.own 6 0 4 a5.length]), (4, bx 31 (qD a3)), (5, bx 3 [ci a4]), (6, ro 0 28 4 a5.length (rf qK a5))] (XU a1 a2 a3 a4 a5 ri r) (XO a1 a2 a3 a4 a5 ri r) := by
 unfold QI at hm
 refine q_E Try.f75 73 fun E => ?_
 refine q_sq ?_
 refine q_vn [qd 3 (drw 7 0 (rf e_Pattern_place ([(Pattern_place.mk a3.Frame 1)] : List Pattern_place))) (litP e_Pattern_place default 5 (fun _ => rfl) ([(Pattern_place.mk a3.Frame 1)] : List Pattern_place) 1 rfl)] 7 ⟨[(0, vc (.yl (rc Try.f38 122 ri) ri.b [2, 3, 7] [.bptr 1 0 0, .bptr 2 0 0, .bptr 3 0 0])), (1, vp 4 0), (2, vp 5 0), (4, vo 7 0 5 1)], [(0, lq (rc Try.f38 122 ri) ri.b), (1, bx 31 (qD a1)), (2, bx 3 [ci a2]), (3, bx 89 [.own 6 0 4 a5.length]), (4, bx 31 (qD a3)), (5, bx 3 [ci a4]), (6, ro 0 28 4 a5.length (rf qK a5)), (7, ro 0 123 5 1 (rf e_Pattern_place ([(Pattern_place.mk a3.Frame 1)] : List Pattern_place)))]⟩ ?_
 refine q_sq ?_
 refine q_vu [] 8 [] [(5, vi 0)] [] [] ?_
 obtain ⟨u28, h27, hm⟩ := qC hm
 refine zW (nd Try.f75 28) 0 (by kernel_rfl) FUEL (fun o => UG ri a1 a2 a3 a4 o) (fun v st => RetQ Try.prog Try.f75 (XU a1 a2 a3 a4 a5 ri v) (XO a1 a2 a3 a4 a5 ri v) .ret st) u28 (q_hl (JB ri a1 a2 a3 a4 ([(Pattern_place.mk a3.Frame 1)] : List Pattern_place) 1 0 a5 a5.length) (HQ E ri a1 a2 a3 a4 a5 FUEL ([(Pattern_place.mk a3.Frame 1)] : List Pattern_place) 1 0 a5 a5.length u28 rfl rfl h27)) ?_ ?_
 ·rintro v29 rfl st hr
  obtain rfl := Option.some.inj hm
  exact hr
 ·rintro o26 rfl
  replace hm : _ = some r := hm
  obtain rfl := Option.some.inj hm
  exact q_rm
end Saw
end Go.SL
