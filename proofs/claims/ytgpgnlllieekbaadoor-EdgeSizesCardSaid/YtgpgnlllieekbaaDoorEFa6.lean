import Derived.Test.YtgpgnlllieekbaaDoorEBase
import Derived.Test.YtgpgnlllieekbaaDoorEFa1
import Derived.Test.YtgpgnlllieekbaaDoorEFa5
import Derived.Test.YtgpgnlllieekbaaDoorEFa2
import Derived.Test.YtgpgnlllieekbaaDoorEFa3
set_option linter.unusedVariables false
set_option linter.unusedSimpArgs false
namespace Go.SL
namespace Saw
open Go.Proofs
set_option maxHeartbeats 4000000

def worth_Best_x (r : Span × Int × Bool) : V := .tup [.agg [ci r.1.A, ci r.1.B], .one (ci r.2.1), .one (cb r.2.2)]

def worth_Best_o (r : Span × Int × Bool) : List (Nat × (Nat × O)) := []

theorem worth_Best_f (r : Span × Int × Bool) : Frozen (worth_Best_o r) := by
  intro i k o h
  unfold worth_Best_o at h
  cases h

def worth_Best_k5_S (a3 : Product) (a5 : Int) (a6 : Int) (v14 : Worth_view × Bool) (x19 : Int) (x24 : Int) (x34 : Int) (x35 : Bool) (x36 : Span) : St :=
  ⟨[(4, vi a5), (5, vi a6), (8, vp 0 0), (12, vp 2 0), (15, vp 5 0), (17, vp 6 0), (18, vi x34), (19, vb x35), (20, vi x19), (54, vc (tl e_i64 default a3.Lengths)), (55, vi ((a3.Lengths.length : Nat) : Int)), (56, vi x24)], [(0, bx 43 [cs a3.Name, ci a3.Thick, ci a3.Width, ci a3.Allow, ci a3.Wane, tl e_i64 default a3.Lengths, tl e_i64 default a3.Prices]), (2, bx 33 [ci 0, ci 0]), (3, ro 0 195 3 v14.1.zones.length (rf e_Worth_zone v14.1.zones)), (4, ro 0 59 7 v14.1.defects.length (rf e_Defect v14.1.defects)), (5, bx 175 [cs v14.1.product.Name, ci v14.1.product.Thick, ci v14.1.product.Width, ci v14.1.product.Allow, ci v14.1.product.Wane, tl e_i64 default v14.1.product.Lengths, tl e_i64 default v14.1.product.Prices, ci v14.1.rect.X.A, ci v14.1.rect.X.B, ci v14.1.rect.Y.A, ci v14.1.rect.Y.B, ci v14.1.length, .own 3 0 3 v14.1.zones.length, .own 4 0 7 v14.1.defects.length]), (6, bx 33 [ci x36.A, ci x36.B])]⟩

def worth_Best_k4_S (a3 : Product) (a5 : Int) (a6 : Int) (v14 : Worth_view × Bool) (x19 : Int) (x22 : Int) (x23 : Bool) (x24 : Int) (x25 : Span) (v28 : Int × Bool) (x32 : Bool) : St :=
  ⟨[(4, vi a5), (5, vi a6), (8, vp 0 0), (12, vp 2 0), (15, vp 5 0), (17, vp 6 0), (18, vi x22), (19, vb x23), (20, vi x19), (23, vp 7 0), (24, vi v28.1), (54, vc (tl e_i64 default a3.Lengths)), (55, vi ((a3.Lengths.length : Nat) : Int)), (56, vi x24), (81, vb x32)], [(0, bx 43 [cs a3.Name, ci a3.Thick, ci a3.Width, ci a3.Allow, ci a3.Wane, tl e_i64 default a3.Lengths, tl e_i64 default a3.Prices]), (2, bx 33 [ci 0, ci 0]), (3, ro 0 195 3 v14.1.zones.length (rf e_Worth_zone v14.1.zones)), (4, ro 0 59 7 v14.1.defects.length (rf e_Defect v14.1.defects)), (5, bx 175 [cs v14.1.product.Name, ci v14.1.product.Thick, ci v14.1.product.Width, ci v14.1.product.Allow, ci v14.1.product.Wane, tl e_i64 default v14.1.product.Lengths, tl e_i64 default v14.1.product.Prices, ci v14.1.rect.X.A, ci v14.1.rect.X.B, ci v14.1.rect.Y.A, ci v14.1.rect.Y.B, ci v14.1.length, .own 3 0 3 v14.1.zones.length, .own 4 0 7 v14.1.defects.length]), (6, bx 33 [ci x25.A, ci x25.B]), (7, bx 33 [ci x19, ci (w64 (x19 + (a3.Lengths.getD x24.toNat default)))])]⟩

def worth_Best_L3_S (a3 : Product) (a5 : Int) (a6 : Int) (v14 : Worth_view × Bool) (x19 : Int) (x22 : Int) (x23 : Bool) (x24 : Int) (x25 : Span) : St :=
  ⟨[(4, vi a5), (5, vi a6), (8, vp 0 0), (12, vp 2 0), (15, vp 5 0), (17, vp 6 0), (18, vi x22), (19, vb x23), (20, vi x19), (54, vc (tl e_i64 default a3.Lengths)), (55, vi ((a3.Lengths.length : Nat) : Int)), (56, vi x24)], [(0, bx 43 [cs a3.Name, ci a3.Thick, ci a3.Width, ci a3.Allow, ci a3.Wane, tl e_i64 default a3.Lengths, tl e_i64 default a3.Prices]), (2, bx 33 [ci 0, ci 0]), (3, ro 0 195 3 v14.1.zones.length (rf e_Worth_zone v14.1.zones)), (4, ro 0 59 7 v14.1.defects.length (rf e_Defect v14.1.defects)), (5, bx 175 [cs v14.1.product.Name, ci v14.1.product.Thick, ci v14.1.product.Width, ci v14.1.product.Allow, ci v14.1.product.Wane, tl e_i64 default v14.1.product.Lengths, tl e_i64 default v14.1.product.Prices, ci v14.1.rect.X.A, ci v14.1.rect.X.B, ci v14.1.rect.Y.A, ci v14.1.rect.Y.B, ci v14.1.length, .own 3 0 3 v14.1.zones.length, .own 4 0 7 v14.1.defects.length]), (6, bx 33 [ci x25.A, ci x25.B])]⟩

def worth_Best_L3_T (a3 : Product) (a5 : Int) (a6 : Int) (v14 : Worth_view × Bool) (x19 : Int) (x37 : Int) (x38 : Bool) (x39 : Span) : St :=
  ⟨[(4, vi a5), (5, vi a6), (8, vp 0 0), (12, vp 2 0), (15, vp 5 0), (17, vp 6 0), (18, vi x37), (19, vb x38), (20, vi x19)], [(0, bx 43 [cs a3.Name, ci a3.Thick, ci a3.Width, ci a3.Allow, ci a3.Wane, tl e_i64 default a3.Lengths, tl e_i64 default a3.Prices]), (2, bx 33 [ci 0, ci 0]), (3, ro 0 195 3 v14.1.zones.length (rf e_Worth_zone v14.1.zones)), (4, ro 0 59 7 v14.1.defects.length (rf e_Defect v14.1.defects)), (5, bx 175 [cs v14.1.product.Name, ci v14.1.product.Thick, ci v14.1.product.Width, ci v14.1.product.Allow, ci v14.1.product.Wane, tl e_i64 default v14.1.product.Lengths, tl e_i64 default v14.1.product.Prices, ci v14.1.rect.X.A, ci v14.1.rect.X.B, ci v14.1.rect.Y.A, ci v14.1.rect.Y.B, ci v14.1.length, .own 3 0 3 v14.1.zones.length, .own 4 0 7 v14.1.defects.length]), (6, bx 33 [ci x39.A, ci x39.B])]⟩

def worth_Best_L2_S (a3 : Product) (a5 : Int) (a6 : Int) (v14 : Worth_view × Bool) (x17 : Int) (x18 : Bool) (x19 : Int) (x20 : Span) : St :=
  ⟨[(4, vi a5), (5, vi a6), (8, vp 0 0), (12, vp 2 0), (15, vp 5 0), (17, vp 6 0), (18, vi x17), (19, vb x18), (20, vi x19)], [(0, bx 43 [cs a3.Name, ci a3.Thick, ci a3.Width, ci a3.Allow, ci a3.Wane, tl e_i64 default a3.Lengths, tl e_i64 default a3.Prices]), (2, bx 33 [ci 0, ci 0]), (3, ro 0 195 3 v14.1.zones.length (rf e_Worth_zone v14.1.zones)), (4, ro 0 59 7 v14.1.defects.length (rf e_Defect v14.1.defects)), (5, bx 175 [cs v14.1.product.Name, ci v14.1.product.Thick, ci v14.1.product.Width, ci v14.1.product.Allow, ci v14.1.product.Wane, tl e_i64 default v14.1.product.Lengths, tl e_i64 default v14.1.product.Prices, ci v14.1.rect.X.A, ci v14.1.rect.X.B, ci v14.1.rect.Y.A, ci v14.1.rect.Y.B, ci v14.1.length, .own 3 0 3 v14.1.zones.length, .own 4 0 7 v14.1.defects.length]), (6, bx 33 [ci x20.A, ci x20.B])]⟩

def worth_Best_L2_T (x42 : Int) (x43 : Bool) (x44 : Span) : St :=
  ⟨[(12, vp 2 0), (17, vp 6 0), (18, vi x42), (19, vb x43)], [(2, bx 33 [ci 0, ci 0]), (6, bx 33 [ci x44.A, ci x44.B])]⟩

def worth_Best_k1_S (a1 : List Slice) (a2 : List Defect) (a3 : Product) (a4 : Rect) (a5 : Int) (a6 : Int) (x12 : Bool) : St :=
  ⟨[(0, vc (tl e_Slice default a1)), (1, vc (tl e_Defect default a2)), (4, vi a5), (5, vi a6), (8, vp 0 0), (9, vp 1 0), (12, vp 2 0), (33, vb x12)], [(0, bx 43 [cs a3.Name, ci a3.Thick, ci a3.Width, ci a3.Allow, ci a3.Wane, tl e_i64 default a3.Lengths, tl e_i64 default a3.Prices]), (1, bx 35 [ci a4.X.A, ci a4.X.B, ci a4.Y.A, ci a4.Y.B]), (2, bx 33 [ci 0, ci 0])]⟩

set_option maxRecDepth 100000 in
theorem worth_Best_L3_ok (E : Env 0) (a3 : Product) (a5 : Int) (a6 : Int) (v14 : Worth_view × Bool) (x19 : Int) : ∀ (n : Nat) (x22 : Int) (x23 : Bool) (x24 : Int) (x25 : Span) (res : Int × Bool × Span), worth_Best_L3 a3 a6 v14 x19 n x22 x23 x24 x25 = some res → HL (kx E 88 0) (nd Tryd.f76 130340) (loopQ0 2 (fun o => worth_Best_L3_T a3 a5 a6 v14 x19 o.1 o.2.1 o.2.2) res) n (worth_Best_L3_S a3 a5 a6 v14 x19 x22 x23 x24 x25) := by
  intro n
  induction n with
  | zero =>
    intro x22 x23 x24 x25 res hm
    cases hm
  | succ n ih =>
    intro x22 x23 x24 x25 res hm
    refine HL_succ ?_
    refine R_sq Tryd.f76 260680 260681 (by kernel_rfl) ?_
    refine R_rn Tryd.f76 260680 12 [] [] 7 ⟨[(4, vi a5), (5, vi a6), (8, vp 0 0), (12, vp 2 0), (15, vp 5 0), (17, vp 6 0), (18, vi x22), (19, vb x23), (20, vi x19), (54, vc (tl e_i64 default a3.Lengths)), (55, vi ((a3.Lengths.length : Nat) : Int)), (56, vi x24), (57, vb (decide (x24 < ((a3.Lengths.length : Nat) : Int))))], [(0, bx 43 [cs a3.Name, ci a3.Thick, ci a3.Width, ci a3.Allow, ci a3.Wane, tl e_i64 default a3.Lengths, tl e_i64 default a3.Prices]), (2, bx 33 [ci 0, ci 0]), (3, ro 0 195 3 v14.1.zones.length (rf e_Worth_zone v14.1.zones)), (4, ro 0 59 7 v14.1.defects.length (rf e_Defect v14.1.defects)), (5, bx 175 [cs v14.1.product.Name, ci v14.1.product.Thick, ci v14.1.product.Width, ci v14.1.product.Allow, ci v14.1.product.Wane, tl e_i64 default v14.1.product.Lengths, tl e_i64 default v14.1.product.Prices, ci v14.1.rect.X.A, ci v14.1.rect.X.B, ci v14.1.rect.Y.A, ci v14.1.rect.Y.B, ci v14.1.length, .own 3 0 3 v14.1.zones.length, .own 4 0 7 v14.1.defects.length]), (6, bx 33 [ci x25.A, ci x25.B])]⟩ o0 (by kernel_rfl) (by kernel_rfl) ?_
    refine R_sq Tryd.f76 521362 521363 (by kernel_rfl) ?_
    refine R_cn Tryd.f76 (.tmp 57) 1042724 1042725 (by kernel_rfl) (decide (x24 < ((a3.Lengths.length : Nat) : Int))) (by kernel_rfl) (fun b26 => ?_) (fun b26 => ?_)
    · replace hm := bif_t b26 hm
      refine R_skip (by kernel_rfl) ?_
      refine R_join (ι := Int × Bool × Span) (nd Tryd.f76 1042726) (nd Tryd.f76 1042727) (by kernel_rfl) (fun p => worth_Best_k5_S a3 a5 a6 v14 x19 x24 p.1 p.2.1 p.2.2) (fun p => worth_Best_k5 x24 (worth_Best_L3 a3 a6 v14 x19 n) p.1 p.2.1 p.2.2 = some res) ?_ ?_
      · rintro ⟨x34, x35, x36⟩ hm
        show H _ (worth_Best_k5_S a3 a5 a6 v14 x19 x24 x34 x35 x36) (nd Tryd.f76 1042727) _
        refine R_rn Tryd.f76 1042727 18 [] [] 8 ⟨[(4, vi a5), (5, vi a6), (8, vp 0 0), (12, vp 2 0), (15, vp 5 0), (17, vp 6 0), (18, vi x34), (19, vb x35), (20, vi x19), (54, vc (tl e_i64 default a3.Lengths)), (55, vi ((a3.Lengths.length : Nat) : Int)), (56, vi (w64 (x24 + 1)))], [(0, bx 43 [cs a3.Name, ci a3.Thick, ci a3.Width, ci a3.Allow, ci a3.Wane, tl e_i64 default a3.Lengths, tl e_i64 default a3.Prices]), (2, bx 33 [ci 0, ci 0]), (3, ro 0 195 3 v14.1.zones.length (rf e_Worth_zone v14.1.zones)), (4, ro 0 59 7 v14.1.defects.length (rf e_Defect v14.1.defects)), (5, bx 175 [cs v14.1.product.Name, ci v14.1.product.Thick, ci v14.1.product.Width, ci v14.1.product.Allow, ci v14.1.product.Wane, tl e_i64 default v14.1.product.Lengths, tl e_i64 default v14.1.product.Prices, ci v14.1.rect.X.A, ci v14.1.rect.X.B, ci v14.1.rect.Y.A, ci v14.1.rect.Y.B, ci v14.1.length, .own 3 0 3 v14.1.zones.length, .own 4 0 7 v14.1.defects.length]), (6, bx 33 [ci x36.A, ci x36.B])]⟩ o0 (by kernel_rfl) (by kernel_rfl) ?_
        exact HL_enter (worth_Best_L3_S a3 a5 a6 v14 x19 x34 x35 (w64 (x24 + 1)) x36) (by kernel_rfl) (by kernel_rfl) (ih x34 x35 (w64 (x24 + 1)) x36 _ hm)
      · refine R_bk Tryd.f76 3 2085452 (by kernel_rfl) ?_
        refine R_sq Tryd.f76 4170904 4170905 (by kernel_rfl) ?_
        obtain ⟨g27, hm⟩ := bif_n hm
        refine R_rn Tryd.f76 4170904 13 [] [] 7 ⟨[(4, vi a5), (5, vi a6), (8, vp 0 0), (12, vp 2 0), (15, vp 5 0), (17, vp 6 0), (18, vi x22), (19, vb x23), (20, vi x19), (22, vi (a3.Lengths.getD x24.toNat default)), (54, vc (tl e_i64 default a3.Lengths)), (55, vi ((a3.Lengths.length : Nat) : Int)), (56, vi x24)], [(0, bx 43 [cs a3.Name, ci a3.Thick, ci a3.Width, ci a3.Allow, ci a3.Wane, tl e_i64 default a3.Lengths, tl e_i64 default a3.Prices]), (2, bx 33 [ci 0, ci 0]), (3, ro 0 195 3 v14.1.zones.length (rf e_Worth_zone v14.1.zones)), (4, ro 0 59 7 v14.1.defects.length (rf e_Defect v14.1.defects)), (5, bx 175 [cs v14.1.product.Name, ci v14.1.product.Thick, ci v14.1.product.Width, ci v14.1.product.Allow, ci v14.1.product.Wane, tl e_i64 default v14.1.product.Lengths, tl e_i64 default v14.1.product.Prices, ci v14.1.rect.X.A, ci v14.1.rect.X.B, ci v14.1.rect.Y.A, ci v14.1.rect.Y.B, ci v14.1.length, .own 3 0 3 v14.1.zones.length, .own 4 0 7 v14.1.defects.length]), (6, bx 33 [ci x25.A, ci x25.B])]⟩ (o1 (inb_of g27)) (by kernel_rfl) (by kernel_rfl) ?_
        refine R_sq Tryd.f76 8341810 8341811 (by kernel_rfl) ?_
        refine R_rn Tryd.f76 8341810 14 [] [] 7 ⟨[(4, vi a5), (5, vi a6), (8, vp 0 0), (12, vp 2 0), (15, vp 5 0), (17, vp 6 0), (18, vi x22), (19, vb x23), (20, vi x19), (23, vp 7 0), (54, vc (tl e_i64 default a3.Lengths)), (55, vi ((a3.Lengths.length : Nat) : Int)), (56, vi x24)], [(0, bx 43 [cs a3.Name, ci a3.Thick, ci a3.Width, ci a3.Allow, ci a3.Wane, tl e_i64 default a3.Lengths, tl e_i64 default a3.Prices]), (2, bx 33 [ci 0, ci 0]), (3, ro 0 195 3 v14.1.zones.length (rf e_Worth_zone v14.1.zones)), (4, ro 0 59 7 v14.1.defects.length (rf e_Defect v14.1.defects)), (5, bx 175 [cs v14.1.product.Name, ci v14.1.product.Thick, ci v14.1.product.Width, ci v14.1.product.Allow, ci v14.1.product.Wane, tl e_i64 default v14.1.product.Lengths, tl e_i64 default v14.1.product.Prices, ci v14.1.rect.X.A, ci v14.1.rect.X.B, ci v14.1.rect.Y.A, ci v14.1.rect.Y.B, ci v14.1.length, .own 3 0 3 v14.1.zones.length, .own 4 0 7 v14.1.defects.length]), (6, bx 33 [ci x25.A, ci x25.B]), (7, bx 33 [ci x19, ci (w64 (x19 + (a3.Lengths.getD x24.toNat default)))])]⟩ o0 (by kernel_rfl) (by kernel_rfl) ?_
        refine R_sq Tryd.f76 16683622 16683623 (by kernel_rfl) ?_
        obtain ⟨v28, h29, hm⟩ := bind_s hm
        refine R_rn Tryd.f76 16683622 15 [(3, dex (cen [] [] 8 0 (worth_view_worth_x v28) (worth_view_worth_o v28) [66, 67, 68] [3, 4]))] [] 8 ⟨[(4, vi a5), (5, vi a6), (8, vp 0 0), (12, vp 2 0), (15, vp 5 0), (17, vp 6 0), (18, vi x22), (19, vb x23), (20, vi x19), (23, vp 7 0), (24, vi v28.1), (25, vb v28.2), (54, vc (tl e_i64 default a3.Lengths)), (55, vi ((a3.Lengths.length : Nat) : Int)), (56, vi x24)], [(0, bx 43 [cs a3.Name, ci a3.Thick, ci a3.Width, ci a3.Allow, ci a3.Wane, tl e_i64 default a3.Lengths, tl e_i64 default a3.Prices]), (2, bx 33 [ci 0, ci 0]), (3, ro 0 195 3 v14.1.zones.length (rf e_Worth_zone v14.1.zones)), (4, ro 0 59 7 v14.1.defects.length (rf e_Defect v14.1.defects)), (5, bx 175 [cs v14.1.product.Name, ci v14.1.product.Thick, ci v14.1.product.Width, ci v14.1.product.Allow, ci v14.1.product.Wane, tl e_i64 default v14.1.product.Lengths, tl e_i64 default v14.1.product.Prices, ci v14.1.rect.X.A, ci v14.1.rect.X.B, ci v14.1.rect.Y.A, ci v14.1.rect.Y.B, ci v14.1.length, .own 3 0 3 v14.1.zones.length, .own 4 0 7 v14.1.defects.length]), (6, bx 33 [ci x25.A, ci x25.B]), (7, bx 33 [ci x19, ci (w64 (x19 + (a3.Lengths.getD x24.toNat default)))])]⟩ (o1 (callS (K := (kx E 88 0)) (b := false) ⟨[(66, va [cs v14.1.product.Name, ci v14.1.product.Thick, ci v14.1.product.Width, ci v14.1.product.Allow, ci v14.1.product.Wane, tl e_i64 default v14.1.product.Lengths, tl e_i64 default v14.1.product.Prices, ci v14.1.rect.X.A, ci v14.1.rect.X.B, ci v14.1.rect.Y.A, ci v14.1.rect.Y.B, ci v14.1.length, .own 3 0 3 v14.1.zones.length, .own 4 0 7 v14.1.defects.length]), (67, va [ci x19, ci (w64 (x19 + (a3.Lengths.getD x24.toNat default)))]), (68, vi a6)], [(3, ro 0 195 3 v14.1.zones.length (rf e_Worth_zone v14.1.zones)), (4, ro 0 59 7 v14.1.defects.length (rf e_Defect v14.1.defects))]⟩ (opAt (rg Tryd.f76 16683622) 3) [] [] 8 (o1 (And.intro (Nat.le_refl v14.1.zones.length) (Nat.le_refl v14.1.defects.length))) rfl (worth_view_worth_ok (Worth_view.mk v14.1.product v14.1.rect v14.1.length v14.1.zones v14.1.defects) (Span.mk x19 (w64 (x19 + (a3.Lengths.getD x24.toNat default)))) a6 v28 h29) (.inr ⟨(by kernel_rfl), worth_view_worth_f v28⟩) (by kernel_rfl))) (by kernel_rfl) (by kernel_rfl) ?_
        refine R_join (ι := Bool) (nd Tryd.f76 33367246) (nd Tryd.f76 33367247) (by kernel_rfl) (fun p => worth_Best_k4_S a3 a5 a6 v14 x19 x22 x23 x24 x25 v28 p) (fun p => worth_Best_k4 a3 x19 x22 x23 x24 x25 (worth_Best_L3 a3 a6 v14 x19 n) v28 p = some res) ?_ ?_
        · rintro x32 hm
          show H _ (worth_Best_k4_S a3 a5 a6 v14 x19 x22 x23 x24 x25 v28 x32) (nd Tryd.f76 33367247) _
          refine R_cn Tryd.f76 (.tmp 81) 66734494 66734495 (by kernel_rfl) x32 (by kernel_rfl) (fun b33 => ?_) (fun b33 => ?_)
          · replace hm := bif_t b33 hm
            refine R_rn Tryd.f76 66734494 17 [] [] 8 ⟨[(4, vi a5), (5, vi a6), (8, vp 0 0), (12, vp 2 0), (15, vp 5 0), (17, vp 6 0), (18, vi v28.1), (19, vb true), (20, vi x19), (54, vc (tl e_i64 default a3.Lengths)), (55, vi ((a3.Lengths.length : Nat) : Int)), (56, vi x24)], [(0, bx 43 [cs a3.Name, ci a3.Thick, ci a3.Width, ci a3.Allow, ci a3.Wane, tl e_i64 default a3.Lengths, tl e_i64 default a3.Prices]), (2, bx 33 [ci 0, ci 0]), (3, ro 0 195 3 v14.1.zones.length (rf e_Worth_zone v14.1.zones)), (4, ro 0 59 7 v14.1.defects.length (rf e_Defect v14.1.defects)), (5, bx 175 [cs v14.1.product.Name, ci v14.1.product.Thick, ci v14.1.product.Width, ci v14.1.product.Allow, ci v14.1.product.Wane, tl e_i64 default v14.1.product.Lengths, tl e_i64 default v14.1.product.Prices, ci v14.1.rect.X.A, ci v14.1.rect.X.B, ci v14.1.rect.Y.A, ci v14.1.rect.Y.B, ci v14.1.length, .own 3 0 3 v14.1.zones.length, .own 4 0 7 v14.1.defects.length]), (6, bx 33 [ci x19, ci (w64 (x19 + (a3.Lengths.getD x24.toNat default)))])]⟩ o0 (by kernel_rfl) (by kernel_rfl) ?_
            exact J_mk (v28.1, true, (Span.mk x19 (w64 (x19 + (a3.Lengths.getD x24.toNat default))))) hm (by kernel_rfl) (by kernel_rfl)
          · replace hm := bif_f b33 hm
            refine R_skip (by kernel_rfl) ?_
            exact J_mk (x22, x23, x25) hm (by kernel_rfl) (by kernel_rfl)
        · rcases Bool.eq_false_or_eq_true v28.2 with b30 | b30
          · replace hm := bif_t b30 hm
            rcases Bool.eq_false_or_eq_true (!x23) with b31 | b31
            · replace hm := bif_t b31 hm
              refine R_rn Tryd.f76 33367246 16 [(1, dfx true), (4, dfx true)] [] 8 ⟨[(4, vi a5), (5, vi a6), (8, vp 0 0), (12, vp 2 0), (15, vp 5 0), (17, vp 6 0), (18, vi x22), (19, vb x23), (20, vi x19), (23, vp 7 0), (24, vi v28.1), (54, vc (tl e_i64 default a3.Lengths)), (55, vi ((a3.Lengths.length : Nat) : Int)), (56, vi x24), (74, vb x23), (75, vb (!x23)), (76, vb true), (80, vb true), (81, vb true)], [(0, bx 43 [cs a3.Name, ci a3.Thick, ci a3.Width, ci a3.Allow, ci a3.Wane, tl e_i64 default a3.Lengths, tl e_i64 default a3.Prices]), (2, bx 33 [ci 0, ci 0]), (3, ro 0 195 3 v14.1.zones.length (rf e_Worth_zone v14.1.zones)), (4, ro 0 59 7 v14.1.defects.length (rf e_Defect v14.1.defects)), (5, bx 175 [cs v14.1.product.Name, ci v14.1.product.Thick, ci v14.1.product.Width, ci v14.1.product.Allow, ci v14.1.product.Wane, tl e_i64 default v14.1.product.Lengths, tl e_i64 default v14.1.product.Prices, ci v14.1.rect.X.A, ci v14.1.rect.X.B, ci v14.1.rect.Y.A, ci v14.1.rect.Y.B, ci v14.1.length, .own 3 0 3 v14.1.zones.length, .own 4 0 7 v14.1.defects.length]), (6, bx 33 [ci x25.A, ci x25.B]), (7, bx 33 [ci x19, ci (w64 (x19 + (a3.Lengths.getD x24.toNat default)))])]⟩ (o1 (And.intro b30 b31)) (by kernel_rfl) (by kernel_rfl) ?_
              exact J_mk (true) hm (by kernel_rfl) (by kernel_rfl)
            · replace hm := bif_f b31 hm
              refine R_rn Tryd.f76 33367246 16 [(1, dfx true), (4, dfx false)] [] 8 ⟨[(4, vi a5), (5, vi a6), (8, vp 0 0), (12, vp 2 0), (15, vp 5 0), (17, vp 6 0), (18, vi x22), (19, vb x23), (20, vi x19), (23, vp 7 0), (24, vi v28.1), (54, vc (tl e_i64 default a3.Lengths)), (55, vi ((a3.Lengths.length : Nat) : Int)), (56, vi x24), (74, vb x23), (75, vb (!x23)), (76, vb false), (77, vi v28.1), (78, vi x22), (79, vb (decide (v28.1 > x22))), (80, vb (decide (v28.1 > x22))), (81, vb (decide (v28.1 > x22)))], [(0, bx 43 [cs a3.Name, ci a3.Thick, ci a3.Width, ci a3.Allow, ci a3.Wane, tl e_i64 default a3.Lengths, tl e_i64 default a3.Prices]), (2, bx 33 [ci 0, ci 0]), (3, ro 0 195 3 v14.1.zones.length (rf e_Worth_zone v14.1.zones)), (4, ro 0 59 7 v14.1.defects.length (rf e_Defect v14.1.defects)), (5, bx 175 [cs v14.1.product.Name, ci v14.1.product.Thick, ci v14.1.product.Width, ci v14.1.product.Allow, ci v14.1.product.Wane, tl e_i64 default v14.1.product.Lengths, tl e_i64 default v14.1.product.Prices, ci v14.1.rect.X.A, ci v14.1.rect.X.B, ci v14.1.rect.Y.A, ci v14.1.rect.Y.B, ci v14.1.length, .own 3 0 3 v14.1.zones.length, .own 4 0 7 v14.1.defects.length]), (6, bx 33 [ci x25.A, ci x25.B]), (7, bx 33 [ci x19, ci (w64 (x19 + (a3.Lengths.getD x24.toNat default)))])]⟩ (o1 (And.intro b30 b31)) (by kernel_rfl) (by kernel_rfl) ?_
              exact J_mk (decide (v28.1 > x22)) hm (by kernel_rfl) (by kernel_rfl)
          · replace hm := bif_f b30 hm
            refine R_rn Tryd.f76 33367246 16 [(1, dfx false)] [] 8 ⟨[(4, vi a5), (5, vi a6), (8, vp 0 0), (12, vp 2 0), (15, vp 5 0), (17, vp 6 0), (18, vi x22), (19, vb x23), (20, vi x19), (23, vp 7 0), (24, vi v28.1), (54, vc (tl e_i64 default a3.Lengths)), (55, vi ((a3.Lengths.length : Nat) : Int)), (56, vi x24), (81, vb false)], [(0, bx 43 [cs a3.Name, ci a3.Thick, ci a3.Width, ci a3.Allow, ci a3.Wane, tl e_i64 default a3.Lengths, tl e_i64 default a3.Prices]), (2, bx 33 [ci 0, ci 0]), (3, ro 0 195 3 v14.1.zones.length (rf e_Worth_zone v14.1.zones)), (4, ro 0 59 7 v14.1.defects.length (rf e_Defect v14.1.defects)), (5, bx 175 [cs v14.1.product.Name, ci v14.1.product.Thick, ci v14.1.product.Width, ci v14.1.product.Allow, ci v14.1.product.Wane, tl e_i64 default v14.1.product.Lengths, tl e_i64 default v14.1.product.Prices, ci v14.1.rect.X.A, ci v14.1.rect.X.B, ci v14.1.rect.Y.A, ci v14.1.rect.Y.B, ci v14.1.length, .own 3 0 3 v14.1.zones.length, .own 4 0 7 v14.1.defects.length]), (6, bx 33 [ci x25.A, ci x25.B]), (7, bx 33 [ci x19, ci (w64 (x19 + (a3.Lengths.getD x24.toNat default)))])]⟩ (o1 b30) (by kernel_rfl) (by kernel_rfl) ?_
            exact J_mk (false) hm (by kernel_rfl) (by kernel_rfl)
    · replace hm := bif_f b26 hm
      refine R_exit 2 (by kernel_rfl) ?_
      obtain rfl := Option.some.inj hm
      exact L0_mk (by kernel_rfl) (by kernel_rfl)

set_option maxRecDepth 100000 in
theorem worth_Best_L2_ok (E : Env 0) (a3 : Product) (a5 : Int) (a6 : Int) (v14 : Worth_view × Bool) : ∀ (n : Nat) (x17 : Int) (x18 : Bool) (x19 : Int) (x20 : Span) (res : Int × Bool × Span), worth_Best_L2 a3 a5 a6 v14 n x17 x18 x19 x20 = some res → HL (kx E 88 0) (nd Tryd.f76 2036) (loopQ0 0 (fun o => worth_Best_L2_T o.1 o.2.1 o.2.2) res) n (worth_Best_L2_S a3 a5 a6 v14 x17 x18 x19 x20) := by
  intro n
  induction n with
  | zero =>
    intro x17 x18 x19 x20 res hm
    cases hm
  | succ n ih =>
    intro x17 x18 x19 x20 res hm
    refine HL_succ ?_
    refine R_sq Tryd.f76 4072 4073 (by kernel_rfl) ?_
    refine R_sq Tryd.f76 8144 8145 (by kernel_rfl) ?_
    refine R_rn Tryd.f76 8144 9 [] [] 7 ⟨[(4, vi a5), (5, vi a6), (8, vp 0 0), (12, vp 2 0), (15, vp 5 0), (17, vp 6 0), (18, vi x17), (19, vb x18), (20, vi x19), (49, vb (decide (x19 < v14.1.length)))], [(0, bx 43 [cs a3.Name, ci a3.Thick, ci a3.Width, ci a3.Allow, ci a3.Wane, tl e_i64 default a3.Lengths, tl e_i64 default a3.Prices]), (2, bx 33 [ci 0, ci 0]), (3, ro 0 195 3 v14.1.zones.length (rf e_Worth_zone v14.1.zones)), (4, ro 0 59 7 v14.1.defects.length (rf e_Defect v14.1.defects)), (5, bx 175 [cs v14.1.product.Name, ci v14.1.product.Thick, ci v14.1.product.Width, ci v14.1.product.Allow, ci v14.1.product.Wane, tl e_i64 default v14.1.product.Lengths, tl e_i64 default v14.1.product.Prices, ci v14.1.rect.X.A, ci v14.1.rect.X.B, ci v14.1.rect.Y.A, ci v14.1.rect.Y.B, ci v14.1.length, .own 3 0 3 v14.1.zones.length, .own 4 0 7 v14.1.defects.length]), (6, bx 33 [ci x20.A, ci x20.B])]⟩ o0 (by kernel_rfl) (by kernel_rfl) ?_
    refine R_cn Tryd.f76 (.tmp 49) 16290 16291 (by kernel_rfl) (decide (x19 < v14.1.length)) (by kernel_rfl) (fun b21 => ?_) (fun b21 => ?_)
    · replace hm := bif_t b21 hm
      refine R_skip (by kernel_rfl) ?_
      refine R_sq Tryd.f76 8146 8147 (by kernel_rfl) ?_
      refine R_bk Tryd.f76 1 16292 (by kernel_rfl) ?_
      refine R_sq Tryd.f76 32584 32585 (by kernel_rfl) ?_
      refine R_rn Tryd.f76 32584 11 [] [] 7 ⟨[(4, vi a5), (5, vi a6), (8, vp 0 0), (12, vp 2 0), (15, vp 5 0), (17, vp 6 0), (18, vi x17), (19, vb x18), (20, vi x19), (54, vc (tl e_i64 default a3.Lengths)), (55, vi ((a3.Lengths.length : Nat) : Int)), (56, vi 0)], [(0, bx 43 [cs a3.Name, ci a3.Thick, ci a3.Width, ci a3.Allow, ci a3.Wane, tl e_i64 default a3.Lengths, tl e_i64 default a3.Prices]), (2, bx 33 [ci 0, ci 0]), (3, ro 0 195 3 v14.1.zones.length (rf e_Worth_zone v14.1.zones)), (4, ro 0 59 7 v14.1.defects.length (rf e_Defect v14.1.defects)), (5, bx 175 [cs v14.1.product.Name, ci v14.1.product.Thick, ci v14.1.product.Width, ci v14.1.product.Allow, ci v14.1.product.Wane, tl e_i64 default v14.1.product.Lengths, tl e_i64 default v14.1.product.Prices, ci v14.1.rect.X.A, ci v14.1.rect.X.B, ci v14.1.rect.Y.A, ci v14.1.rect.Y.B, ci v14.1.length, .own 3 0 3 v14.1.zones.length, .own 4 0 7 v14.1.defects.length]), (6, bx 33 [ci x20.A, ci x20.B])]⟩ o0 (by kernel_rfl) (by kernel_rfl) ?_
      obtain ⟨o40, h41, hm⟩ := bind_s hm
      refine R_loop0 (nd Tryd.f76 130340) 2 (by kernel_rfl) FUEL (fun o => worth_Best_L3_T a3 a5 a6 v14 x19 o.1 o.2.1 o.2.2) o40 (HL_enter (worth_Best_L3_S a3 a5 a6 v14 x19 x17 x18 0 x20) (by kernel_rfl) (by kernel_rfl) (worth_Best_L3_ok E a3 a5 a6 v14 x19 FUEL x17 x18 0 x20 o40 h41)) ?_
      refine R_rn Tryd.f76 8147 10 [] [] 7 ⟨[(4, vi a5), (5, vi a6), (8, vp 0 0), (12, vp 2 0), (15, vp 5 0), (17, vp 6 0), (18, vi o40.1), (19, vb o40.2.1), (20, vi (w64 (x19 + a5)))], [(0, bx 43 [cs a3.Name, ci a3.Thick, ci a3.Width, ci a3.Allow, ci a3.Wane, tl e_i64 default a3.Lengths, tl e_i64 default a3.Prices]), (2, bx 33 [ci 0, ci 0]), (3, ro 0 195 3 v14.1.zones.length (rf e_Worth_zone v14.1.zones)), (4, ro 0 59 7 v14.1.defects.length (rf e_Defect v14.1.defects)), (5, bx 175 [cs v14.1.product.Name, ci v14.1.product.Thick, ci v14.1.product.Width, ci v14.1.product.Allow, ci v14.1.product.Wane, tl e_i64 default v14.1.product.Lengths, tl e_i64 default v14.1.product.Prices, ci v14.1.rect.X.A, ci v14.1.rect.X.B, ci v14.1.rect.Y.A, ci v14.1.rect.Y.B, ci v14.1.length, .own 3 0 3 v14.1.zones.length, .own 4 0 7 v14.1.defects.length]), (6, bx 33 [ci o40.2.2.A, ci o40.2.2.B])]⟩ o0 (by kernel_rfl) (by kernel_rfl) ?_
      exact HL_enter (worth_Best_L2_S a3 a5 a6 v14 o40.1 o40.2.1 (w64 (x19 + a5)) o40.2.2) (by kernel_rfl) (by kernel_rfl) (ih o40.1 o40.2.1 (w64 (x19 + a5)) o40.2.2 _ hm)
    · replace hm := bif_f b21 hm
      refine R_exit 0 (by kernel_rfl) ?_
      obtain rfl := Option.some.inj hm
      exact L0_mk (by kernel_rfl) (by kernel_rfl)

set_option maxRecDepth 100000 in
theorem worth_Best_ok (a1 : List Slice) (a2 : List Defect) (a3 : Product) (a4 : Rect) (a5 : Int) (a6 : Int) (r : Span × Int × Bool) (hm : worth_Best a1 a2 a3 a4 a5 a6 = some r) : CtX Tryd.prog globs 76 0 0 [.one (tl e_Slice default a1), .one (tl e_Defect default a2), .agg [cs a3.Name, ci a3.Thick, ci a3.Width, ci a3.Allow, ci a3.Wane, tl e_i64 default a3.Lengths, tl e_i64 default a3.Prices], .agg [ci a4.X.A, ci a4.X.B, ci a4.Y.A, ci a4.Y.B], .one (ci a5), .one (ci a6)] [] (worth_Best_x r) (worth_Best_o r) := by
  unfold worth_Best at hm
  refine CtX_of_E (fn := Tryd.f76) (c := nd Tryd.f76 1) (nt := 88) (by kernel_rfl) (by kernel_rfl) (by kernel_rfl) (by kernel_rfl) fun E => ?_
  refine R_sq Tryd.f76 2 3 (by kernel_rfl) ?_
  refine R_rn Tryd.f76 2 0 [] [] 0 ⟨[(0, vc (tl e_Slice default a1)), (1, vc (tl e_Defect default a2)), (4, vi a5), (5, vi a6), (8, vp 0 0), (9, vp 1 0), (12, vp 2 0)], [(0, bx 43 [cs a3.Name, ci a3.Thick, ci a3.Width, ci a3.Allow, ci a3.Wane, tl e_i64 default a3.Lengths, tl e_i64 default a3.Prices]), (1, bx 35 [ci a4.X.A, ci a4.X.B, ci a4.Y.A, ci a4.Y.B]), (2, bx 33 [ci 0, ci 0])]⟩ o0 (by kernel_rfl) (by kernel_rfl) ?_
  refine R_sq Tryd.f76 6 7 (by kernel_rfl) ?_
  refine R_join (ι := Bool) (nd Tryd.f76 12) (nd Tryd.f76 13) (by kernel_rfl) (fun p => worth_Best_k1_S a1 a2 a3 a4 a5 a6 p) (fun p => worth_Best_k1 a1 a2 a3 a4 a5 a6 p = some r) ?_ ?_
  · rintro x12 hm
    show H _ (worth_Best_k1_S a1 a2 a3 a4 a5 a6 x12) (nd Tryd.f76 13) _
    refine R_cn Tryd.f76 (.tmp 33) 26 27 (by kernel_rfl) x12 (by kernel_rfl) (fun b13 => ?_) (fun b13 => ?_)
    · replace hm := bif_t b13 hm
      refine R_sq Tryd.f76 52 53 (by kernel_rfl) ?_
      refine R_rn Tryd.f76 52 2 [] [] 3 ⟨[(12, vp 2 0), (13, vi 0), (14, vb false)], [(2, bx 33 [ci 0, ci 0])]⟩ o0 (by kernel_rfl) (by kernel_rfl) ?_
      obtain rfl := Option.some.inj hm
      refine R_ret (by kernel_rfl) ?_
      exact ret_mk (by kernel_rfl) (by kernel_rfl)
    · replace hm := bif_f b13 hm
      refine R_skip (by kernel_rfl) ?_
      refine R_sq Tryd.f76 14 15 (by kernel_rfl) ?_
      obtain ⟨v14, h15, hm⟩ := bind_s hm
      refine R_rn Tryd.f76 14 3 [(4, dex (cen [] [] 3 0 (worth_look_x v14) (worth_look_o v14) [36, 37, 38, 39] []))] [] 3 ⟨[(4, vi a5), (5, vi a6), (8, vp 0 0), (12, vp 2 0), (15, vp 5 0), (16, vb v14.2)], [(0, bx 43 [cs a3.Name, ci a3.Thick, ci a3.Width, ci a3.Allow, ci a3.Wane, tl e_i64 default a3.Lengths, tl e_i64 default a3.Prices]), (2, bx 33 [ci 0, ci 0]), (3, ro 0 195 3 v14.1.zones.length (rf e_Worth_zone v14.1.zones)), (4, ro 0 59 7 v14.1.defects.length (rf e_Defect v14.1.defects)), (5, bx 175 [cs v14.1.product.Name, ci v14.1.product.Thick, ci v14.1.product.Width, ci v14.1.product.Allow, ci v14.1.product.Wane, tl e_i64 default v14.1.product.Lengths, tl e_i64 default v14.1.product.Prices, ci v14.1.rect.X.A, ci v14.1.rect.X.B, ci v14.1.rect.Y.A, ci v14.1.rect.Y.B, ci v14.1.length, .own 3 0 3 v14.1.zones.length, .own 4 0 7 v14.1.defects.length])]⟩ (o1 (callS (K := (kx E 88 0)) ⟨[(36, vc (tl e_Slice default a1)), (37, vc (tl e_Defect default a2)), (38, va [cs a3.Name, ci a3.Thick, ci a3.Width, ci a3.Allow, ci a3.Wane, tl e_i64 default a3.Lengths, tl e_i64 default a3.Prices]), (39, va [ci a4.X.A, ci a4.X.B, ci a4.Y.A, ci a4.Y.B])], []⟩ (opAt (rg Tryd.f76 14) 4) [] [] 3 o0 rfl (worth_look_ok a1 a2 a3 a4 v14 h15) (.inl rfl) (by kernel_rfl))) (by kernel_rfl) (by kernel_rfl) ?_
      refine R_sq Tryd.f76 30 31 (by kernel_rfl) ?_
      refine R_sq Tryd.f76 60 61 (by kernel_rfl) ?_
      refine R_rn Tryd.f76 60 4 [] [] 6 ⟨[(4, vi a5), (5, vi a6), (8, vp 0 0), (12, vp 2 0), (15, vp 5 0), (44, vb (!v14.2))], [(0, bx 43 [cs a3.Name, ci a3.Thick, ci a3.Width, ci a3.Allow, ci a3.Wane, tl e_i64 default a3.Lengths, tl e_i64 default a3.Prices]), (2, bx 33 [ci 0, ci 0]), (3, ro 0 195 3 v14.1.zones.length (rf e_Worth_zone v14.1.zones)), (4, ro 0 59 7 v14.1.defects.length (rf e_Defect v14.1.defects)), (5, bx 175 [cs v14.1.product.Name, ci v14.1.product.Thick, ci v14.1.product.Width, ci v14.1.product.Allow, ci v14.1.product.Wane, tl e_i64 default v14.1.product.Lengths, tl e_i64 default v14.1.product.Prices, ci v14.1.rect.X.A, ci v14.1.rect.X.B, ci v14.1.rect.Y.A, ci v14.1.rect.Y.B, ci v14.1.length, .own 3 0 3 v14.1.zones.length, .own 4 0 7 v14.1.defects.length])]⟩ o0 (by kernel_rfl) (by kernel_rfl) ?_
      refine R_cn Tryd.f76 (.tmp 44) 122 123 (by kernel_rfl) (!v14.2) (by kernel_rfl) (fun b16 => ?_) (fun b16 => ?_)
      · replace hm := bif_t b16 hm
        refine R_sq Tryd.f76 244 245 (by kernel_rfl) ?_
        refine R_rn Tryd.f76 244 5 [] [] 6 ⟨[(12, vp 2 0), (13, vi 0), (14, vb false)], [(2, bx 33 [ci 0, ci 0])]⟩ o0 (by kernel_rfl) (by kernel_rfl) ?_
        obtain rfl := Option.some.inj hm
        refine R_ret (by kernel_rfl) ?_
        exact ret_mk (by kernel_rfl) (by kernel_rfl)
      · replace hm := bif_f b16 hm
        refine R_skip (by kernel_rfl) ?_
        refine R_sq Tryd.f76 62 63 (by kernel_rfl) ?_
        refine R_rn Tryd.f76 62 6 [] [] 6 ⟨[(4, vi a5), (5, vi a6), (8, vp 0 0), (12, vp 2 0), (15, vp 5 0), (17, vp 6 0)], [(0, bx 43 [cs a3.Name, ci a3.Thick, ci a3.Width, ci a3.Allow, ci a3.Wane, tl e_i64 default a3.Lengths, tl e_i64 default a3.Prices]), (2, bx 33 [ci 0, ci 0]), (3, ro 0 195 3 v14.1.zones.length (rf e_Worth_zone v14.1.zones)), (4, ro 0 59 7 v14.1.defects.length (rf e_Defect v14.1.defects)), (5, bx 175 [cs v14.1.product.Name, ci v14.1.product.Thick, ci v14.1.product.Width, ci v14.1.product.Allow, ci v14.1.product.Wane, tl e_i64 default v14.1.product.Lengths, tl e_i64 default v14.1.product.Prices, ci v14.1.rect.X.A, ci v14.1.rect.X.B, ci v14.1.rect.Y.A, ci v14.1.rect.Y.B, ci v14.1.length, .own 3 0 3 v14.1.zones.length, .own 4 0 7 v14.1.defects.length]), (6, bx 33 [ci 0, ci 0])]⟩ o0 (by kernel_rfl) (by kernel_rfl) ?_
        refine R_sq Tryd.f76 126 127 (by kernel_rfl) ?_
        refine R_rn Tryd.f76 126 7 [] [] 7 ⟨[(4, vi a5), (5, vi a6), (8, vp 0 0), (12, vp 2 0), (15, vp 5 0), (17, vp 6 0), (18, vi 0), (19, vb false)], [(0, bx 43 [cs a3.Name, ci a3.Thick, ci a3.Width, ci a3.Allow, ci a3.Wane, tl e_i64 default a3.Lengths, tl e_i64 default a3.Prices]), (2, bx 33 [ci 0, ci 0]), (3, ro 0 195 3 v14.1.zones.length (rf e_Worth_zone v14.1.zones)), (4, ro 0 59 7 v14.1.defects.length (rf e_Defect v14.1.defects)), (5, bx 175 [cs v14.1.product.Name, ci v14.1.product.Thick, ci v14.1.product.Width, ci v14.1.product.Allow, ci v14.1.product.Wane, tl e_i64 default v14.1.product.Lengths, tl e_i64 default v14.1.product.Prices, ci v14.1.rect.X.A, ci v14.1.rect.X.B, ci v14.1.rect.Y.A, ci v14.1.rect.Y.B, ci v14.1.length, .own 3 0 3 v14.1.zones.length, .own 4 0 7 v14.1.defects.length]), (6, bx 33 [ci 0, ci 0])]⟩ o0 (by kernel_rfl) (by kernel_rfl) ?_
        refine R_sq Tryd.f76 254 255 (by kernel_rfl) ?_
        refine R_sq Tryd.f76 508 509 (by kernel_rfl) ?_
        refine R_rn Tryd.f76 508 8 [] [] 7 ⟨[(4, vi a5), (5, vi a6), (8, vp 0 0), (12, vp 2 0), (15, vp 5 0), (17, vp 6 0), (18, vi 0), (19, vb false), (20, vi 0)], [(0, bx 43 [cs a3.Name, ci a3.Thick, ci a3.Width, ci a3.Allow, ci a3.Wane, tl e_i64 default a3.Lengths, tl e_i64 default a3.Prices]), (2, bx 33 [ci 0, ci 0]), (3, ro 0 195 3 v14.1.zones.length (rf e_Worth_zone v14.1.zones)), (4, ro 0 59 7 v14.1.defects.length (rf e_Defect v14.1.defects)), (5, bx 175 [cs v14.1.product.Name, ci v14.1.product.Thick, ci v14.1.product.Width, ci v14.1.product.Allow, ci v14.1.product.Wane, tl e_i64 default v14.1.product.Lengths, tl e_i64 default v14.1.product.Prices, ci v14.1.rect.X.A, ci v14.1.rect.X.B, ci v14.1.rect.Y.A, ci v14.1.rect.Y.B, ci v14.1.length, .own 3 0 3 v14.1.zones.length, .own 4 0 7 v14.1.defects.length]), (6, bx 33 [ci 0, ci 0])]⟩ o0 (by kernel_rfl) (by kernel_rfl) ?_
        obtain ⟨o45, h46, hm⟩ := bind_s hm
        refine R_loop0 (nd Tryd.f76 2036) 0 (by kernel_rfl) FUEL (fun o => worth_Best_L2_T o.1 o.2.1 o.2.2) o45 (HL_enter (worth_Best_L2_S a3 a5 a6 v14 0 false 0 (Span.mk 0 0)) (by kernel_rfl) (by kernel_rfl) (worth_Best_L2_ok E a3 a5 a6 v14 FUEL 0 false 0 (Span.mk 0 0) o45 h46)) ?_
        refine R_sq Tryd.f76 510 511 (by kernel_rfl) ?_
        refine R_rn Tryd.f76 510 19 [] [] 7 ⟨[(12, vp 2 0), (13, vi o45.1), (14, vb o45.2.1)], [(2, bx 33 [ci o45.2.2.A, ci o45.2.2.B])]⟩ o0 (by kernel_rfl) (by kernel_rfl) ?_
        obtain rfl := Option.some.inj hm
        refine R_ret (by kernel_rfl) ?_
        exact ret_mk (by kernel_rfl) (by kernel_rfl)
  · obtain ⟨v7, h8, hm⟩ := bind_s hm
    rcases Bool.eq_false_or_eq_true (!v7) with b9 | b9
    · replace hm := bif_t b9 hm
      refine R_rn Tryd.f76 12 1 [(1, dex (cen [] [] 3 0 (worth_isStep_x v7) (worth_isStep_o v7) [26] [])), (3, dfx true)] [] 3 ⟨[(0, vc (tl e_Slice default a1)), (1, vc (tl e_Defect default a2)), (4, vi a5), (5, vi a6), (8, vp 0 0), (9, vp 1 0), (12, vp 2 0), (33, vb true)], [(0, bx 43 [cs a3.Name, ci a3.Thick, ci a3.Width, ci a3.Allow, ci a3.Wane, tl e_i64 default a3.Lengths, tl e_i64 default a3.Prices]), (1, bx 35 [ci a4.X.A, ci a4.X.B, ci a4.Y.A, ci a4.Y.B]), (2, bx 33 [ci 0, ci 0])]⟩ (o1 (And.intro (callS (K := (kx E 88 0)) ⟨[(26, vi a5)], []⟩ (opAt (rg Tryd.f76 12) 1) [] [] 3 o0 rfl (worth_isStep_ok a5 v7 h8) (.inl rfl) (by kernel_rfl)) b9)) (by kernel_rfl) (by kernel_rfl) ?_
      exact J_mk (true) hm (by kernel_rfl) (by kernel_rfl)
    · replace hm := bif_f b9 hm
      obtain ⟨v10, h11, hm⟩ := bind_s hm
      refine R_rn Tryd.f76 12 1 [(1, dex (cen [] [] 3 0 (worth_isStep_x v7) (worth_isStep_o v7) [26] [])), (3, dfx false), (5, dex (cen [] [] 3 0 (worth_isFine_x v10) (worth_isFine_o v10) [29, 30] []))] [] 3 ⟨[(0, vc (tl e_Slice default a1)), (1, vc (tl e_Defect default a2)), (4, vi a5), (5, vi a6), (8, vp 0 0), (9, vp 1 0), (12, vp 2 0), (33, vb (!v10))], [(0, bx 43 [cs a3.Name, ci a3.Thick, ci a3.Width, ci a3.Allow, ci a3.Wane, tl e_i64 default a3.Lengths, tl e_i64 default a3.Prices]), (1, bx 35 [ci a4.X.A, ci a4.X.B, ci a4.Y.A, ci a4.Y.B]), (2, bx 33 [ci 0, ci 0])]⟩ (o1 (And.intro (callS (K := (kx E 88 0)) ⟨[(26, vi a5)], []⟩ (opAt (rg Tryd.f76 12) 1) [] [] 3 o0 rfl (worth_isStep_ok a5 v7 h8) (.inl rfl) (by kernel_rfl)) (And.intro b9 (callS (K := (kx E 88 0)) ⟨[(29, vb false), (30, vi a6)], []⟩ (opAt (rg Tryd.f76 12) 5) [] [] 3 o0 rfl (worth_isFine_ok a6 v10 h11) (.inl rfl) (by kernel_rfl))))) (by kernel_rfl) (by kernel_rfl) ?_
      exact J_mk (!v10) hm (by kernel_rfl) (by kernel_rfl)

end Saw
end Go.SL

namespace Go.SL
namespace Saw
open Go.Proofs
set_option maxHeartbeats 4000000

def solid_extents_x (r : (List Span)) : V := vo 0 0 2 r.length

def solid_extents_o (r : (List Span)) : List (Nat × (Nat × O)) := [(0, ro 0 33 2 r.length (rf e_Span r))]

theorem solid_extents_f (r : (List Span)) : Frozen (solid_extents_o r) := by
  intro i k o h
  unfold solid_extents_o at h
  rw [look_cons] at h
  split at h
  · cases h; exact fun _ _ => rfl
  · cases h

def solid_extents_L1_S (a1 : List Slice) (l3 : List Span) (l3n : Nat) (x4 : Int) (x5 : Int) : St :=
  ⟨[(3, vo 0 0 2 l3n), (4, vi x4), (10, vc (tl e_Slice default a1)), (11, vi ((a1.length : Nat) : Int)), (12, vi x5)], [(0, ro 0 33 2 l3n (rf e_Span l3))]⟩

def solid_extents_L1_T (l9 : List Span) : St :=
  ⟨[(3, vo 0 0 2 l9.length)], [(0, ro 0 33 2 l9.length (rf e_Span l9))]⟩

set_option maxRecDepth 100000 in
theorem solid_extents_L1_ok (E : Env 0) (a1 : List Slice) : ∀ (n : Nat) (l3 : List Span) (l3n : Nat) (x4 : Int) (x5 : Int) (res : (List Span)), l3.length = l3n → solid_extents_L1 a1 n l3 x4 x5 = some res → HL (kx E 32 0) (nd Tryd.f34 244) (loopQ0 0 (fun o => solid_extents_L1_T o) res) n (solid_extents_L1_S a1 l3 l3n x4 x5) := by
  intro n
  induction n with
  | zero =>
    intro l3 l3n x4 x5 res hl0 hm
    cases hm
  | succ n ih =>
    intro l3 l3n x4 x5 res hl0 hm
    subst hl0
    refine HL_succ ?_
    refine R_sq Tryd.f34 488 489 (by kernel_rfl) ?_
    refine R_rn Tryd.f34 488 4 [] [] 1 ⟨[(3, vo 0 0 2 l3.length), (4, vi x4), (10, vc (tl e_Slice default a1)), (11, vi ((a1.length : Nat) : Int)), (12, vi x5), (13, vb (decide (x5 < ((a1.length : Nat) : Int))))], [(0, ro 0 33 2 l3.length (rf e_Span l3))]⟩ o0 (by kernel_rfl) (by kernel_rfl) ?_
    refine R_sq Tryd.f34 978 979 (by kernel_rfl) ?_
    refine R_cn Tryd.f34 (.tmp 13) 1956 1957 (by kernel_rfl) (decide (x5 < ((a1.length : Nat) : Int))) (by kernel_rfl) (fun b6 => ?_) (fun b6 => ?_)
    · replace hm := bif_t b6 hm
      refine R_skip (by kernel_rfl) ?_
      refine R_sq Tryd.f34 1958 1959 (by kernel_rfl) ?_
      refine R_bk Tryd.f34 1 3916 (by kernel_rfl) ?_
      refine R_sq Tryd.f34 7832 7833 (by kernel_rfl) ?_
      obtain ⟨g7, hm⟩ := bif_n hm
      refine R_rn Tryd.f34 7832 5 [] [] 1 ⟨[(3, vo 0 0 2 l3.length), (4, vi x4), (5, vi x5), (6, vp 1 0), (10, vc (tl e_Slice default a1)), (11, vi ((a1.length : Nat) : Int)), (12, vi x5)], [(0, ro 0 33 2 l3.length (rf e_Span l3)), (1, bx 54 [ci ((a1.getD x5.toNat default).Len), ci (((a1.getD x5.toNat default).Sec).Low), tl e_Span default (((a1.getD x5.toNat default).Sec).Rows)])]⟩ (o1 (inb_of g7)) (by kernel_rfl) (by kernel_rfl) ?_
      refine R_sq Tryd.f34 15666 15667 (by kernel_rfl) ?_
      obtain ⟨g8, hm⟩ := bif_n hm
      refine R_rn Tryd.f34 15666 6 [(9, drw 0 0 (rf e_Span (l3.set x5.toNat (Span.mk x4 (w64 (x4 + ((a1.getD x5.toNat default).Len)))))))] [] 2 ⟨[(3, vo 0 0 2 l3.length), (4, vi x4), (6, vp 1 0), (10, vc (tl e_Slice default a1)), (11, vi ((a1.length : Nat) : Int)), (12, vi x5)], [(0, ro 0 33 2 l3.length (rf e_Span (l3.set x5.toNat (Span.mk x4 (w64 (x4 + ((a1.getD x5.toNat default).Len))))))), (1, bx 54 [ci ((a1.getD x5.toNat default).Len), ci (((a1.getD x5.toNat default).Sec).Low), tl e_Span default (((a1.getD x5.toNat default).Sec).Rows)])]⟩ (o1 (And.intro (inb_of g8) (stP e_Span default (Span.mk x4 (w64 (x4 + ((a1.getD x5.toNat default).Len)))) l3 l3.length x5.toNat 0 [ci x4, ci (w64 (x4 + ((a1.getD x5.toNat default).Len)))] rfl (toNat_lt (inb_of g8)) rfl))) (by kernel_rfl) (by kernel_rfl) ?_
      refine R_rn Tryd.f34 15667 7 [] [] 2 ⟨[(3, vo 0 0 2 l3.length), (4, vi (w64 (x4 + ((a1.getD x5.toNat default).Len)))), (10, vc (tl e_Slice default a1)), (11, vi ((a1.length : Nat) : Int)), (12, vi x5)], [(0, ro 0 33 2 l3.length (rf e_Span (l3.set x5.toNat (Span.mk x4 (w64 (x4 + ((a1.getD x5.toNat default).Len)))))))]⟩ o0 (by kernel_rfl) (by kernel_rfl) ?_
      refine R_rn Tryd.f34 1959 8 [] [] 2 ⟨[(3, vo 0 0 2 l3.length), (4, vi (w64 (x4 + ((a1.getD x5.toNat default).Len)))), (10, vc (tl e_Slice default a1)), (11, vi ((a1.length : Nat) : Int)), (12, vi (w64 (x5 + 1)))], [(0, ro 0 33 2 l3.length (rf e_Span (l3.set x5.toNat (Span.mk x4 (w64 (x4 + ((a1.getD x5.toNat default).Len)))))))]⟩ o0 (by kernel_rfl) (by kernel_rfl) ?_
      exact HL_enter (solid_extents_L1_S a1 (l3.set x5.toNat (Span.mk x4 (w64 (x4 + ((a1.getD x5.toNat default).Len))))) l3.length (w64 (x4 + ((a1.getD x5.toNat default).Len))) (w64 (x5 + 1))) (by kernel_rfl) (by kernel_rfl) (ih (l3.set x5.toNat (Span.mk x4 (w64 (x4 + ((a1.getD x5.toNat default).Len))))) l3.length (w64 (x4 + ((a1.getD x5.toNat default).Len))) (w64 (x5 + 1)) _ (len_set rfl) hm)
    · replace hm := bif_f b6 hm
      refine R_exit 0 (by kernel_rfl) ?_
      obtain rfl := Option.some.inj hm
      exact L0_mk (by kernel_rfl) (by kernel_rfl)

set_option maxRecDepth 100000 in
theorem solid_extents_ok (a1 : List Slice) (r : (List Span)) (hm : solid_extents a1 = some r) : CtX Tryd.prog globs 34 0 0 [.one (tl e_Slice default a1)] [] (solid_extents_x r) (solid_extents_o r) := by
  unfold solid_extents at hm
  refine CtX_of_E (fn := Tryd.f34) (c := nd Tryd.f34 1) (nt := 32) (by kernel_rfl) (by kernel_rfl) (by kernel_rfl) (by kernel_rfl) fun E => ?_
  refine R_sq Tryd.f34 2 3 (by kernel_rfl) ?_
  refine R_rn Tryd.f34 2 0 [] [] 0 ⟨[(0, vc (tl e_Slice default a1))], []⟩ o0 (by kernel_rfl) (by kernel_rfl) ?_
  refine R_sq Tryd.f34 6 7 (by kernel_rfl) ?_
  obtain ⟨g2, hm⟩ := bif_n hm
  refine R_rn Tryd.f34 6 1 [(2, drw 0 0 (rf e_Span (List.replicate (((a1.length : Nat) : Int).toNat) (Span.mk 0 0))))] [] 0 ⟨[(0, vc (tl e_Slice default a1)), (3, vo 0 0 2 (((a1.length : Nat) : Int).toNat))], [(0, ro 0 33 2 (((a1.length : Nat) : Int).toNat) (rf e_Span (List.replicate (((a1.length : Nat) : Int).toNat) (Span.mk 0 0))))]⟩ (o1 (mkP e_Span default (Span.mk 0 0) ((a1.length : Nat) : Int) 16 [ci 0, ci 0] (mkOk_of g2) rfl)) (by kernel_rfl) (by kernel_rfl) ?_
  refine R_sq Tryd.f34 14 15 (by kernel_rfl) ?_
  refine R_rn Tryd.f34 14 2 [] [] 1 ⟨[(0, vc (tl e_Slice default a1)), (3, vo 0 0 2 (((a1.length : Nat) : Int).toNat)), (4, vi 0)], [(0, ro 0 33 2 (((a1.length : Nat) : Int).toNat) (rf e_Span (List.replicate (((a1.length : Nat) : Int).toNat) (Span.mk 0 0))))]⟩ o0 (by kernel_rfl) (by kernel_rfl) ?_
  refine R_sq Tryd.f34 30 31 (by kernel_rfl) ?_
  refine R_sq Tryd.f34 60 61 (by kernel_rfl) ?_
  refine R_rn Tryd.f34 60 3 [] [] 1 ⟨[(3, vo 0 0 2 (((a1.length : Nat) : Int).toNat)), (4, vi 0), (10, vc (tl e_Slice default a1)), (11, vi ((a1.length : Nat) : Int)), (12, vi 0)], [(0, ro 0 33 2 (((a1.length : Nat) : Int).toNat) (rf e_Span (List.replicate (((a1.length : Nat) : Int).toNat) (Span.mk 0 0))))]⟩ o0 (by kernel_rfl) (by kernel_rfl) ?_
  obtain ⟨o10, h11, hm⟩ := bind_s hm
  refine R_loop0 (nd Tryd.f34 244) 0 (by kernel_rfl) FUEL (fun o => solid_extents_L1_T o) o10 (HL_enter (solid_extents_L1_S a1 (List.replicate (((a1.length : Nat) : Int).toNat) (Span.mk 0 0)) (((a1.length : Nat) : Int).toNat) 0 0) (by kernel_rfl) (by kernel_rfl) (solid_extents_L1_ok E a1 FUEL (List.replicate (((a1.length : Nat) : Int).toNat) (Span.mk 0 0)) (((a1.length : Nat) : Int).toNat) 0 0 o10 len_rep h11)) ?_
  refine R_sq Tryd.f34 62 63 (by kernel_rfl) ?_
  refine R_rn Tryd.f34 62 9 [] [] 1 ⟨[(2, vo 0 0 2 o10.length)], [(0, ro 0 33 2 o10.length (rf e_Span o10))]⟩ o0 (by kernel_rfl) (by kernel_rfl) ?_
  obtain rfl := Option.some.inj hm
  refine R_ret (by kernel_rfl) ?_
  exact ret_mk (by kernel_rfl) (by kernel_rfl)

end Saw
end Go.SL

namespace Go.SL
namespace Saw
open Go.Proofs
set_option maxHeartbeats 4000000

def solid_Within_x (r : Int) : V := vi r

def solid_Within_o (r : Int) : List (Nat × (Nat × O)) := []

theorem solid_Within_f (r : Int) : Frozen (solid_Within_o r) := by
  intro i k o h
  unfold solid_Within_o at h
  cases h

def solid_Within_k2_S (a2 : Box) (v3 : (List Slice)) (v5 : (List Span)) (x8 : Int) (x19 : Int) : St :=
  ⟨[(0, vc (tl e_Slice default v3)), (3, vp 0 0), (5, vi x19), (12, vo 1 0 2 v5.length), (13, vi ((v5.length : Nat) : Int)), (14, vi x8)], [(0, bx 57 [ci a2.X.A, ci a2.X.B, ci a2.Y.A, ci a2.Y.B, ci a2.Z.A, ci a2.Z.B]), (1, ro 0 33 2 v5.length (rf e_Span v5))]⟩

def solid_Within_L1_S (a2 : Box) (v3 : (List Slice)) (v5 : (List Span)) (x7 : Int) (x8 : Int) : St :=
  ⟨[(0, vc (tl e_Slice default v3)), (3, vp 0 0), (5, vi x7), (12, vo 1 0 2 v5.length), (13, vi ((v5.length : Nat) : Int)), (14, vi x8)], [(0, bx 57 [ci a2.X.A, ci a2.X.B, ci a2.Y.A, ci a2.Y.B, ci a2.Z.A, ci a2.Z.B]), (1, ro 0 33 2 v5.length (rf e_Span v5))]⟩

def solid_Within_L1_T (x20 : Int) : St :=
  ⟨[(5, vi x20)], []⟩

set_option maxRecDepth 100000 in
theorem solid_Within_L1_ok (E : Env 0) (a2 : Box) (v3 : (List Slice)) (v5 : (List Span)) : ∀ (n : Nat) (x7 : Int) (x8 : Int) (res : Int), solid_Within_L1 a2 v3 v5 n x7 x8 = some res → HL (kx E 43 0) (nd Tryd.f17 244) (loopQ0 0 (fun o => solid_Within_L1_T o) res) n (solid_Within_L1_S a2 v3 v5 x7 x8) := by
  intro n
  induction n with
  | zero =>
    intro x7 x8 res hm
    cases hm
  | succ n ih =>
    intro x7 x8 res hm
    refine HL_succ ?_
    refine R_sq Tryd.f17 488 489 (by kernel_rfl) ?_
    refine R_rn Tryd.f17 488 4 [] [] 2 ⟨[(0, vc (tl e_Slice default v3)), (3, vp 0 0), (5, vi x7), (12, vo 1 0 2 v5.length), (13, vi ((v5.length : Nat) : Int)), (14, vi x8), (15, vb (decide (x8 < ((v5.length : Nat) : Int))))], [(0, bx 57 [ci a2.X.A, ci a2.X.B, ci a2.Y.A, ci a2.Y.B, ci a2.Z.A, ci a2.Z.B]), (1, ro 0 33 2 v5.length (rf e_Span v5))]⟩ o0 (by kernel_rfl) (by kernel_rfl) ?_
    refine R_sq Tryd.f17 978 979 (by kernel_rfl) ?_
    refine R_cn Tryd.f17 (.tmp 15) 1956 1957 (by kernel_rfl) (decide (x8 < ((v5.length : Nat) : Int))) (by kernel_rfl) (fun b9 => ?_) (fun b9 => ?_)
    · replace hm := bif_t b9 hm
      refine R_skip (by kernel_rfl) ?_
      refine R_join (ι := Int) (nd Tryd.f17 1958) (nd Tryd.f17 1959) (by kernel_rfl) (fun p => solid_Within_k2_S a2 v3 v5 x8 p) (fun p => solid_Within_k2 x8 (solid_Within_L1 a2 v3 v5 n) p = some res) ?_ ?_
      · rintro x19 hm
        show H _ (solid_Within_k2_S a2 v3 v5 x8 x19) (nd Tryd.f17 1959) _
        refine R_rn Tryd.f17 1959 9 [] [] 3 ⟨[(0, vc (tl e_Slice default v3)), (3, vp 0 0), (5, vi x19), (12, vo 1 0 2 v5.length), (13, vi ((v5.length : Nat) : Int)), (14, vi (w64 (x8 + 1)))], [(0, bx 57 [ci a2.X.A, ci a2.X.B, ci a2.Y.A, ci a2.Y.B, ci a2.Z.A, ci a2.Z.B]), (1, ro 0 33 2 v5.length (rf e_Span v5))]⟩ o0 (by kernel_rfl) (by kernel_rfl) ?_
        exact HL_enter (solid_Within_L1_S a2 v3 v5 x19 (w64 (x8 + 1))) (by kernel_rfl) (by kernel_rfl) (ih x19 (w64 (x8 + 1)) _ hm)
      · refine R_bk Tryd.f17 1 3916 (by kernel_rfl) ?_
        refine R_sq Tryd.f17 7832 7833 (by kernel_rfl) ?_
        obtain ⟨g10, hm⟩ := bif_n hm
        refine R_rn Tryd.f17 7832 5 [] [] 2 ⟨[(0, vc (tl e_Slice default v3)), (3, vp 0 0), (5, vi x7), (6, vi x8), (7, vp 2 0), (12, vo 1 0 2 v5.length), (13, vi ((v5.length : Nat) : Int)), (14, vi x8)], [(0, bx 57 [ci a2.X.A, ci a2.X.B, ci a2.Y.A, ci a2.Y.B, ci a2.Z.A, ci a2.Z.B]), (1, ro 0 33 2 v5.length (rf e_Span v5)), (2, bx 33 [ci ((v5.getD x8.toNat default).A), ci ((v5.getD x8.toNat default).B)])]⟩ (o1 (And.intro (inb_of g10) (toNat_lt (inb_of g10)))) (by kernel_rfl) (by kernel_rfl) ?_
        refine R_sq Tryd.f17 15666 15667 (by kernel_rfl) ?_
        obtain ⟨v11, h12, hm⟩ := bind_s hm
        obtain ⟨v13, h14, hm⟩ := bind_s hm
        refine R_rn Tryd.f17 15666 6 [(3, dex (cen [] [] 3 0 (span_Meet_x v11) (span_Meet_o v11) [19, 21] [])), (4, dex (cen [] [] 3 0 (span_Len_x v13) (span_Len_o v13) [22] []))] [] 3 ⟨[(0, vc (tl e_Slice default v3)), (3, vp 0 0), (5, vi x7), (6, vi x8), (8, vi v13), (12, vo 1 0 2 v5.length), (13, vi ((v5.length : Nat) : Int)), (14, vi x8)], [(0, bx 57 [ci a2.X.A, ci a2.X.B, ci a2.Y.A, ci a2.Y.B, ci a2.Z.A, ci a2.Z.B]), (1, ro 0 33 2 v5.length (rf e_Span v5))]⟩ (o1 (And.intro (callS (K := (kx E 43 0)) ⟨[(19, va [ci ((v5.getD x8.toNat default).A), ci ((v5.getD x8.toNat default).B)]), (21, va [ci a2.Z.A, ci a2.Z.B])], []⟩ (opAt (rg Tryd.f17 15666) 3) [] [] 3 o0 rfl (span_Meet_ok (v5.getD x8.toNat default) a2.Z v11 h12) (.inl rfl) (by kernel_rfl)) (callS (K := (kx E 43 0)) ⟨[(22, va [ci v11.A, ci v11.B])], []⟩ (opAt (rg Tryd.f17 15666) 4) [] [] 3 o0 rfl (span_Len_ok v11 v13 h14) (.inl rfl) (by kernel_rfl)))) (by kernel_rfl) (by kernel_rfl) ?_
        refine R_sq Tryd.f17 31334 31335 (by kernel_rfl) ?_
        refine R_rn Tryd.f17 31334 7 [] [] 3 ⟨[(0, vc (tl e_Slice default v3)), (3, vp 0 0), (5, vi x7), (6, vi x8), (8, vi v13), (12, vo 1 0 2 v5.length), (13, vi ((v5.length : Nat) : Int)), (14, vi x8), (25, vb (decide (v13 > 0)))], [(0, bx 57 [ci a2.X.A, ci a2.X.B, ci a2.Y.A, ci a2.Y.B, ci a2.Z.A, ci a2.Z.B]), (1, ro 0 33 2 v5.length (rf e_Span v5))]⟩ o0 (by kernel_rfl) (by kernel_rfl) ?_
        refine R_cn Tryd.f17 (.tmp 25) 62670 62671 (by kernel_rfl) (decide (v13 > 0)) (by kernel_rfl) (fun b15 => ?_) (fun b15 => ?_)
        · replace hm := bif_t b15 hm
          obtain ⟨g16, hm⟩ := bif_n hm
          obtain ⟨v17, h18, hm⟩ := bind_s hm
          refine R_dr Tryd.f17 62670 8 [] [(12, dex (cen [] [] 3 0 (section_Within_x v17) (section_Within_o v17) [32, 37] []))] [] [0, 0, 0, 0, 12, 28, 60, 0, 128, 0, 512, 1920, 4092, 8190, 16383, 32767] 3 ⟨[(0, vc (tl e_Slice default v3)), (3, vp 0 0), (5, vi (w64 (x7 + (w64 (v13 * v17))))), (12, vo 1 0 2 v5.length), (13, vi ((v5.length : Nat) : Int)), (14, vi x8)], [(0, bx 57 [ci a2.X.A, ci a2.X.B, ci a2.Y.A, ci a2.Y.B, ci a2.Z.A, ci a2.Z.B]), (1, ro 0 33 2 v5.length (rf e_Span v5))]⟩ (o1 (And.intro (inb_of g16) (callS (K := (kx E 43 0)) ⟨[(32, va [ci (((v3.getD x8.toNat default).Sec).Low), tl e_Span default (((v3.getD x8.toNat default).Sec).Rows)]), (37, va [ci a2.X.A, ci a2.X.B, ci a2.Y.A, ci a2.Y.B])], []⟩ (opAt (rg Tryd.f17 62670) 12) [] [] 3 o0 rfl (section_Within_ok ((v3.getD x8.toNat default).Sec) (Rect.mk a2.X a2.Y) v17 h18) (.inl rfl) (by kernel_rfl)))) (by kernel_rfl) (by kernel_rfl) ?_
          exact J_mk (w64 (x7 + (w64 (v13 * v17)))) hm (by kernel_rfl) (by kernel_rfl)
        · replace hm := bif_f b15 hm
          refine R_skip (by kernel_rfl) ?_
          exact J_mk (x7) hm (by kernel_rfl) (by kernel_rfl)
    · replace hm := bif_f b9 hm
      refine R_exit 0 (by kernel_rfl) ?_
      obtain rfl := Option.some.inj hm
      exact L0_mk (by kernel_rfl) (by kernel_rfl)

set_option maxRecDepth 100000 in
theorem solid_Within_ok (a1 : List Slice) (a2 : Box) (r : Int) (hm : solid_Within a1 a2 = some r) : CtX Tryd.prog globs 17 0 0 [.one (tl e_Slice default a1), .agg [ci a2.X.A, ci a2.X.B, ci a2.Y.A, ci a2.Y.B, ci a2.Z.A, ci a2.Z.B]] [] (solid_Within_x r) (solid_Within_o r) := by
  unfold solid_Within at hm
  refine CtX_of_E (fn := Tryd.f17) (c := nd Tryd.f17 1) (nt := 43) (by kernel_rfl) (by kernel_rfl) (by kernel_rfl) (by kernel_rfl) fun E => ?_
  refine R_sq Tryd.f17 2 3 (by kernel_rfl) ?_
  refine R_rn Tryd.f17 2 0 [] [] 0 ⟨[(0, vc (tl e_Slice default a1)), (3, vp 0 0)], [(0, bx 57 [ci a2.X.A, ci a2.X.B, ci a2.Y.A, ci a2.Y.B, ci a2.Z.A, ci a2.Z.B])]⟩ o0 (by kernel_rfl) (by kernel_rfl) ?_
  refine R_sq Tryd.f17 6 7 (by kernel_rfl) ?_
  obtain ⟨v3, h4, hm⟩ := bind_s hm
  refine R_rn Tryd.f17 6 1 [(1, dex (cen [] [] 1 0 (solid_valid_x v3) (solid_valid_o v3) [9] []))] [] 1 ⟨[(0, vc (tl e_Slice default v3)), (3, vp 0 0)], [(0, bx 57 [ci a2.X.A, ci a2.X.B, ci a2.Y.A, ci a2.Y.B, ci a2.Z.A, ci a2.Z.B])]⟩ (o1 (callS (K := (kx E 43 0)) ⟨[(9, vc (tl e_Slice default a1))], []⟩ (opAt (rg Tryd.f17 6) 1) [] [] 1 o0 rfl (solid_valid_ok a1 v3 h4) (.inl rfl) (by kernel_rfl))) (by kernel_rfl) (by kernel_rfl) ?_
  refine R_sq Tryd.f17 14 15 (by kernel_rfl) ?_
  refine R_rn Tryd.f17 14 2 [] [] 1 ⟨[(0, vc (tl e_Slice default v3)), (3, vp 0 0), (5, vi 0)], [(0, bx 57 [ci a2.X.A, ci a2.X.B, ci a2.Y.A, ci a2.Y.B, ci a2.Z.A, ci a2.Z.B])]⟩ o0 (by kernel_rfl) (by kernel_rfl) ?_
  refine R_sq Tryd.f17 30 31 (by kernel_rfl) ?_
  refine R_sq Tryd.f17 60 61 (by kernel_rfl) ?_
  obtain ⟨v5, h6, hm⟩ := bind_s hm
  refine R_rn Tryd.f17 60 3 [(1, dex (cen [] [] 1 0 (solid_extents_x v5) (solid_extents_o v5) [11] []))] [] 1 ⟨[(0, vc (tl e_Slice default v3)), (3, vp 0 0), (5, vi 0), (12, vo 1 0 2 v5.length), (13, vi ((v5.length : Nat) : Int)), (14, vi 0)], [(0, bx 57 [ci a2.X.A, ci a2.X.B, ci a2.Y.A, ci a2.Y.B, ci a2.Z.A, ci a2.Z.B]), (1, ro 0 33 2 v5.length (rf e_Span v5))]⟩ (o1 (callS (K := (kx E 43 0)) ⟨[(11, vc (tl e_Slice default v3))], []⟩ (opAt (rg Tryd.f17 60) 1) [] [] 1 o0 rfl (solid_extents_ok v3 v5 h6) (.inl rfl) (by kernel_rfl))) (by kernel_rfl) (by kernel_rfl) ?_
  obtain ⟨o21, h22, hm⟩ := bind_s hm
  refine R_loop0 (nd Tryd.f17 244) 0 (by kernel_rfl) FUEL (fun o => solid_Within_L1_T o) o21 (HL_enter (solid_Within_L1_S a2 v3 v5 0 0) (by kernel_rfl) (by kernel_rfl) (solid_Within_L1_ok E a2 v3 v5 FUEL 0 0 o21 h22)) ?_
  refine R_sq Tryd.f17 62 63 (by kernel_rfl) ?_
  refine R_rn Tryd.f17 62 10 [] [] 2 ⟨[(4, vi o21)], []⟩ o0 (by kernel_rfl) (by kernel_rfl) ?_
  obtain rfl := Option.some.inj hm
  refine R_ret (by kernel_rfl) ?_
  exact ret_mk (by kernel_rfl) (by kernel_rfl)

end Saw
end Go.SL

namespace Go.SL
namespace Saw
open Go.Proofs
set_option maxHeartbeats 4000000

def edge_volume_x (r : Int) : V := vi r

def edge_volume_o (r : Int) : List (Nat × (Nat × O)) := []

theorem edge_volume_f (r : Int) : Frozen (edge_volume_o r) := by
  intro i k o h
  unfold edge_volume_o at h
  cases h

set_option maxRecDepth 100000 in
theorem edge_volume_ok (a1 : List Slice) (a2 : Rect) (a3 : Span) (r : Int) (hm : edge_volume a1 a2 a3 = some r) : CtX Tryd.prog globs 62 0 0 [.one (tl e_Slice default a1), .agg [ci a2.X.A, ci a2.X.B, ci a2.Y.A, ci a2.Y.B], .agg [ci a3.A, ci a3.B]] [] (edge_volume_x r) (edge_volume_o r) := by
  unfold edge_volume at hm
  refine CtX_of_E (fn := Tryd.f62) (c := nd Tryd.f62 1) (nt := 15) (by kernel_rfl) (by kernel_rfl) (by kernel_rfl) (by kernel_rfl) fun E => ?_
  refine R_sq Tryd.f62 2 3 (by kernel_rfl) ?_
  refine R_rn Tryd.f62 2 0 [] [] 0 ⟨[(0, vc (tl e_Slice default a1)), (4, vp 0 0), (5, vp 1 0)], [(0, bx 35 [ci a2.X.A, ci a2.X.B, ci a2.Y.A, ci a2.Y.B]), (1, bx 33 [ci a3.A, ci a3.B])]⟩ o0 (by kernel_rfl) (by kernel_rfl) ?_
  refine R_sq Tryd.f62 6 7 (by kernel_rfl) ?_
  obtain ⟨v4, h5, hm⟩ := bind_s hm
  refine R_rn Tryd.f62 6 1 [(7, dex (cen [] [] 2 0 (solid_Within_x v4) (solid_Within_o v4) [7, 13] []))] [] 2 ⟨[(6, vi v4)], []⟩ (o1 (callS (K := (kx E 15 0)) ⟨[(7, vc (tl e_Slice default a1)), (13, va [ci a2.X.A, ci a2.X.B, ci a2.Y.A, ci a2.Y.B, ci a3.A, ci a3.B])], []⟩ (opAt (rg Tryd.f62 6) 7) [] [] 2 o0 rfl (solid_Within_ok a1 (Box.mk a2.X a2.Y a3) v4 h5) (.inl rfl) (by kernel_rfl))) (by kernel_rfl) (by kernel_rfl) ?_
  obtain rfl := Option.some.inj hm
  refine R_ret (by kernel_rfl) ?_
  exact ret_mk (by kernel_rfl) (by kernel_rfl)

end Saw
end Go.SL
