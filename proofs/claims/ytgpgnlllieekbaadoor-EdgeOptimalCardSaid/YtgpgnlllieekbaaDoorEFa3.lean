import Derived.Test.YtgpgnlllieekbaaDoorEBase
import Derived.Test.YtgpgnlllieekbaaDoorEFa2
import Derived.Test.YtgpgnlllieekbaaDoorEFa1
set_option linter.unusedVariables false
set_option linter.unusedSimpArgs false
namespace Go.SL
namespace Saw
open Go.Proofs
set_option maxHeartbeats 4000000

def product_Check_x (r : Int) : V := vi r

def product_Check_o (r : Int) : List (Nat × (Nat × O)) := []

theorem product_Check_f (r : Int) : Frozen (product_Check_o r) := by
 intro i k o h
 unfold product_Check_o at h
 cases h

def product_Check_L1_S (a1 : List Product) (x3 : Int) : St :=
 ⟨[(0, vc (tl e_Product default a1)), (11, vc (tl e_Product default a1)), (12, vi ((a1.length : Nat) : Int)), (13, vi x3)], []⟩

def product_Check_L1_T : St :=
 ⟨[], []⟩

set_option maxRecDepth 100000 in
theorem product_Check_L1_ok (E : Env 0) (a1 : List Product) : ∀ (n : Nat) (x3 : Int) (res : Int ⊕ Unit), product_Check_L1 a1 n x3 = some res → HL (kx E 38 0) (nd Tryd.f23 116) (loopQ 0 (fun o => product_Check_L1_T) (fun v st => RetQ Tryd.prog Tryd.f23 (product_Check_x v) (product_Check_o v) .ret st) res) n (product_Check_L1_S a1 x3) := by
 intro n
 induction n with
 | zero =>
  intro x3 res hm
  cases hm
 | succ n ih =>
  intro x3 res hm
  refine HL_succ ?_
  refine q_sq ?_
  refine q_vu [] 0 [] [(14, vb (decide (x3 < ((a1.length : Nat) : Int))))] [] [] ?_
  refine q_sq ?_
  refine q_cn (decide (x3 < ((a1.length : Nat) : Int))) (fun b4 => ?_) (fun b4 => ?_)
  ·replace hm := bif_t b4 hm
   refine q_sk ?_
   refine q_sq ?_
   refine q_bk 1 ?_
   refine q_sq ?_
   obtain ⟨g5, hm⟩ := bif_n hm
   refine q_vu [qd 1 (Dir.none) (inb_of g5)] 0 [14] [(3, vi x3), (4, vp 0 0)] [] [(0, bx 43 [cs ((a1.getD x3.toNat default).Name), ci ((a1.getD x3.toNat default).Thick), ci ((a1.getD x3.toNat default).Width), ci ((a1.getD x3.toNat default).Allow), ci ((a1.getD x3.toNat default).Wane), tl e_i64 default ((a1.getD x3.toNat default).Lengths), tl e_i64 default ((a1.getD x3.toNat default).Prices)])] ?_
   refine q_sq ?_
   refine q_sq ?_
   obtain ⟨v6, h7, hm⟩ := bind_s hm
   refine q_vu [qc 2 [19] 1 (ident_IsName_ok ((a1.getD x3.toNat default).Name) v6 h7)] 1 [] [(21, vb (!v6))] [] [] ?_
   refine q_cn (!v6) (fun b8 => ?_) (fun b8 => ?_)
   ·replace hm := bif_t b8 hm
    refine q_sq ?_
    refine q_vn [] 1 ⟨[(2, vi 6)], []⟩ ?_
    obtain rfl := Option.some.inj hm
    refine q_rt ?_
    refine L1_ret 6 ?_
    exact q_rm
   ·replace hm := bif_f b8 hm
    refine q_sk ?_
    refine q_sq ?_
    refine q_sq ?_
    obtain ⟨g9, hm⟩ := bif_n hm
    obtain ⟨v10, h11, hm⟩ := bind_s hm
    refine q_du [qd 2 (drw ((a1.take x3.toNat).length) 0 (rf e_Product (a1.take x3.toNat))) (slPhi e_Product default a1 x3 (And.intro (slOk_of g9).2.1 (slOk_of g9).2.2)), qc 5 [25, 27] 1 (product_Find_ok (a1.take x3.toNat) ((a1.getD x3.toNat default).Name) v10 h11)] [0, 0, 3, 0, 8, 31, 63, 127, 127, 255, 1023] 1 [3, 21] [(6, vb v10.2)] [] [] ?_
    refine q_sq ?_
    refine q_vu [] 1 [6] [(31, vb v10.2)] [] [] ?_
    refine q_cn v10.2 (fun b12 => ?_) (fun b12 => ?_)
    ·replace hm := bif_t b12 hm
     refine q_sq ?_
     refine q_vn [] 1 ⟨[(2, vi 7)], []⟩ ?_
     obtain rfl := Option.some.inj hm
     refine q_rt ?_
     refine L1_ret 7 ?_
     exact q_rm
    ·replace hm := bif_f b12 hm
     refine q_sk ?_
     refine q_sq ?_
     obtain ⟨v13, h14, hm⟩ := bind_s hm
     refine q_vu [qc 1 [32] 1 (product_checkNumbers_ok (a1.getD x3.toNat default) v13 h14)] 1 [4, 31] [(7, vi v13)] [0] [] ?_
     refine q_sq ?_
     refine q_vu [] 1 [] [(35, vb (v13 != 0))] [] [] ?_
     refine q_cn (v13 != 0) (fun b15 => ?_) (fun b15 => ?_)
     ·replace hm := bif_t b15 hm
      refine q_sq ?_
      refine q_vn [] 1 ⟨[(2, vi v13)], []⟩ ?_
      obtain rfl := Option.some.inj hm
      refine q_rt ?_
      refine L1_ret v13 ?_
      exact q_rm
     ·replace hm := bif_f b15 hm
      refine q_sk ?_
      refine q_vu [] 1 [7, 13, 35] [(13, vi (w64 (x3 + 1)))] [] [] ?_
      exact q_hl (product_Check_L1_S a1 (w64 (x3 + 1))) (ih (w64 (x3 + 1)) _ hm)
  ·replace hm := bif_f b4 hm
   refine q_ex 0 ?_
   obtain rfl := Option.some.inj hm
   exact L1_mk () (by kernel_rfl) (by kernel_rfl)

set_option maxRecDepth 100000 in
theorem product_Check_ok (a1 : List Product) (r : Int) (hm : product_Check a1 = some r) : CtX Tryd.prog globs 23 0 0 [.one (tl e_Product default a1)] [] (product_Check_x r) (product_Check_o r) := by
 unfold product_Check at hm
 refine q_E Tryd.f23 38 fun E => ?_
 refine q_sq ?_
 refine q_vn [] 0 ⟨[(0, vc (tl e_Product default a1))], []⟩ ?_
 refine q_sq ?_
 refine q_sq ?_
 refine q_vu [] 0 [] [(10, vb (decide (((a1.length : Nat) : Int) > 16)))] [] [] ?_
 refine q_cn (decide (((a1.length : Nat) : Int) > 16)) (fun b2 => ?_) (fun b2 => ?_)
 ·replace hm := bif_t b2 hm
  refine q_sq ?_
  refine q_vn [] 0 ⟨[(2, vi 4)], []⟩ ?_
  obtain rfl := Option.some.inj hm
  refine q_rt ?_
  exact q_rm
 ·replace hm := bif_f b2 hm
  refine q_sk ?_
  refine q_sq ?_
  refine q_sq ?_
  refine q_vu [] 0 [10] [(11, vc (tl e_Product default a1)), (12, vi ((a1.length : Nat) : Int)), (13, vi 0)] [] [] ?_
  obtain ⟨u18, h17, hm⟩ := bind_s hm
  refine R_loop1 (nd Tryd.f23 116) 0 (by kernel_rfl) FUEL (fun o => product_Check_L1_T) (fun v st => RetQ Tryd.prog Tryd.f23 (product_Check_x v) (product_Check_o v) .ret st) u18 (q_hl (product_Check_L1_S a1 0) (product_Check_L1_ok E a1 FUEL 0 u18 h17)) ?_ ?_
  ·rintro v19 rfl st hr
   obtain rfl := Option.some.inj hm
   exact hr
  ·rintro o16 rfl
   replace hm : _ = some r := hm
   refine q_sq ?_
   refine q_vn [] 0 ⟨[(2, vi 0)], []⟩ ?_
   obtain rfl := Option.some.inj hm
   refine q_rt ?_
   exact q_rm

end Saw
end Go.SL

namespace Go.SL
namespace Saw
open Go.Proofs
set_option maxHeartbeats 4000000

def worth_isRect_x (r : Bool) : V := vb r

def worth_isRect_o (r : Bool) : List (Nat × (Nat × O)) := []

theorem worth_isRect_f (r : Bool) : Frozen (worth_isRect_o r) := by
 intro i k o h
 unfold worth_isRect_o at h
 cases h

def worth_isRect_k2_S (a1 : Rect) (x2 : Int) (x7 : Bool) : St :=
 ⟨[(9, va (e_Rect a1)), (10, vi x2), (27, vb x7)], []⟩

def worth_isRect_L1_S (a1 : Rect) (x2 : Int) : St :=
 ⟨[(9, va (e_Rect a1)), (10, vi x2)], []⟩

def worth_isRect_L1_T : St :=
 ⟨[], []⟩

set_option maxRecDepth 100000 in
theorem worth_isRect_L1_ok (E : Env 0) (a1 : Rect) : ∀ (n : Nat) (x2 : Int) (res : Bool ⊕ Unit), worth_isRect_L1 a1 n x2 = some res → HL (kx E 29 0) (nd Tryd.f111 52) (loopQ 0 (fun o => worth_isRect_L1_T) (fun v st => RetQ Tryd.prog Tryd.f111 (worth_isRect_x v) (worth_isRect_o v) .ret st) res) n (worth_isRect_L1_S a1 x2) := by
 intro n
 induction n with
 | zero =>
  intro x2 res hm
  cases hm
 | succ n ih =>
  intro x2 res hm
  refine HL_succ ?_
  refine q_sq ?_
  refine q_vu [] 1 [] [(11, vb (decide (x2 < 2)))] [] [] ?_
  refine q_sq ?_
  refine q_cn (decide (x2 < 2)) (fun b3 => ?_) (fun b3 => ?_)
  ·replace hm := bif_t b3 hm
   refine q_sk ?_
   refine q_sq ?_
   refine q_bk 1 ?_
   refine q_sq ?_
   obtain ⟨g4, hm⟩ := bif_n hm
   refine q_vu [qd 0 (Dir.none) (inb_of g4)] 1 [11] [(4, vp 1 0)] [] [(1, bx 33 [ci (([a1.X.A, a1.X.B, a1.Y.A, a1.Y.B] : List Int).getD (x2.toNat * 2 + 0) 0), ci (([a1.X.A, a1.X.B, a1.Y.A, a1.Y.B] : List Int).getD (x2.toNat * 2 + 1) 0)])] ?_
   refine q_jn (ι := Bool) (fun p => worth_isRect_k2_S a1 x2 p) (fun p => worth_isRect_k2 x2 (worth_isRect_L1 a1 n) p = some res) ?_ ?_
   ·rintro x7 hm
    show H _ (worth_isRect_k2_S a1 x2 x7) _ _
    refine q_cn x7 (fun b8 => ?_) (fun b8 => ?_)
    ·replace hm := bif_t b8 hm
     refine q_sq ?_
     refine q_vn [] 2 ⟨[(2, vb false)], []⟩ ?_
     obtain rfl := Option.some.inj hm
     refine q_rt ?_
     refine L1_ret false ?_
     exact q_rm
    ·replace hm := bif_f b8 hm
     refine q_sk ?_
     refine q_vu [] 2 [10, 27] [(10, vi (w64 (x2 + 1)))] [] [] ?_
     exact q_hl (worth_isRect_L1_S a1 (w64 (x2 + 1))) (ih (w64 (x2 + 1)) _ hm)
   ·rcases Bool.eq_false_or_eq_true (decide ((([a1.X.A, a1.X.B, a1.Y.A, a1.Y.B] : List Int).getD (x2.toNat * 2 + 0) 0) < (-600))) with b5 | b5
    ·replace hm := bif_t b5 hm
     refine q_vu [qf 3 b5] 2 [4] [(27, vb true)] [1] [] ?_
     exact q_J (true) hm
    ·replace hm := bif_f b5 hm
     rcases Bool.eq_false_or_eq_true (decide ((([a1.X.A, a1.X.B, a1.Y.A, a1.Y.B] : List Int).getD (x2.toNat * 2 + 1) 0) > 600)) with b6 | b6
     ·replace hm := bif_t b6 hm
      refine q_vu [qf 3 b5, qf 8 b6] 2 [4] [(17, vp 1 1), (18, vi (([a1.X.A, a1.X.B, a1.Y.A, a1.Y.B] : List Int).getD (x2.toNat * 2 + 1) 0)), (19, vb (decide ((([a1.X.A, a1.X.B, a1.Y.A, a1.Y.B] : List Int).getD (x2.toNat * 2 + 1) 0) > 600))), (27, vb true)] [] [] ?_
      exact q_J (true) hm
     ·replace hm := bif_f b6 hm
      refine q_vu [qf 3 b5, qf 8 b6] 2 [4] [(17, vp 1 1), (18, vi (([a1.X.A, a1.X.B, a1.Y.A, a1.Y.B] : List Int).getD (x2.toNat * 2 + 1) 0)), (19, vb (decide ((([a1.X.A, a1.X.B, a1.Y.A, a1.Y.B] : List Int).getD (x2.toNat * 2 + 1) 0) > 600))), (22, vp 1 0), (23, vi (([a1.X.A, a1.X.B, a1.Y.A, a1.Y.B] : List Int).getD (x2.toNat * 2 + 0) 0)), (24, vp 1 1), (25, vi (([a1.X.A, a1.X.B, a1.Y.A, a1.Y.B] : List Int).getD (x2.toNat * 2 + 1) 0)), (26, vb (decide ((([a1.X.A, a1.X.B, a1.Y.A, a1.Y.B] : List Int).getD (x2.toNat * 2 + 0) 0) ≥ (([a1.X.A, a1.X.B, a1.Y.A, a1.Y.B] : List Int).getD (x2.toNat * 2 + 1) 0)))), (27, vb (decide ((([a1.X.A, a1.X.B, a1.Y.A, a1.Y.B] : List Int).getD (x2.toNat * 2 + 0) 0) ≥ (([a1.X.A, a1.X.B, a1.Y.A, a1.Y.B] : List Int).getD (x2.toNat * 2 + 1) 0))))] [] [] ?_
      exact q_J (decide ((([a1.X.A, a1.X.B, a1.Y.A, a1.Y.B] : List Int).getD (x2.toNat * 2 + 0) 0) ≥ (([a1.X.A, a1.X.B, a1.Y.A, a1.Y.B] : List Int).getD (x2.toNat * 2 + 1) 0))) hm
  ·replace hm := bif_f b3 hm
   refine q_ex 0 ?_
   obtain rfl := Option.some.inj hm
   exact L1_mk () (by kernel_rfl) (by kernel_rfl)

set_option maxRecDepth 100000 in
theorem worth_isRect_ok (a1 : Rect) (r : Bool) (hm : worth_isRect a1 = some r) : CtX Tryd.prog globs 111 0 0 [.agg (e_Rect a1)] [] (worth_isRect_x r) (worth_isRect_o r) := by
 unfold worth_isRect at hm
 refine q_E Tryd.f111 29 fun E => ?_
 refine q_sq ?_
 refine q_vn [] 0 ⟨[(1, vp 0 0)], [(0, bx 35 (e_Rect a1))]⟩ ?_
 refine q_sq ?_
 refine q_sq ?_
 refine q_vn [] 1 ⟨[(9, va (e_Rect a1)), (10, vi 0)], []⟩ ?_
 obtain ⟨u11, h10, hm⟩ := bind_s hm
 refine R_loop1 (nd Tryd.f111 52) 0 (by kernel_rfl) FUEL (fun o => worth_isRect_L1_T) (fun v st => RetQ Tryd.prog Tryd.f111 (worth_isRect_x v) (worth_isRect_o v) .ret st) u11 (q_hl (worth_isRect_L1_S a1 0) (worth_isRect_L1_ok E a1 FUEL 0 u11 h10)) ?_ ?_
 ·rintro v12 rfl st hr
  obtain rfl := Option.some.inj hm
  exact hr
 ·rintro o9 rfl
  replace hm : _ = some r := hm
  refine q_sq ?_
  refine q_vn [] 1 ⟨[(2, vb true)], []⟩ ?_
  obtain rfl := Option.some.inj hm
  refine q_rt ?_
  exact q_rm

end Saw
end Go.SL

namespace Go.SL
namespace Saw
open Go.Proofs
set_option maxHeartbeats 4000000

def worth_look_x (r : Worth_view × Bool) : V := .tup [.agg [cs r.1.product.Name, ci r.1.product.Thick, ci r.1.product.Width, ci r.1.product.Allow, ci r.1.product.Wane, tl e_i64 default r.1.product.Lengths, tl e_i64 default r.1.product.Prices, ci r.1.rect.X.A, ci r.1.rect.X.B, ci r.1.rect.Y.A, ci r.1.rect.Y.B, ci r.1.length, .own 0 0 3 r.1.zones.length, .own 1 0 7 r.1.defects.length], .one (cb r.2)]

def worth_look_o (r : Worth_view × Bool) : List (Nat × (Nat × O)) := [(0, ro 0 195 3 r.1.zones.length (rf e_Worth_zone r.1.zones)), (1, ro 0 59 7 r.1.defects.length (rf e_Defect r.1.defects))]

def worth_look_k4_S (a2 : List Defect) (a3 : Product) (a4 : Rect) (v23 : Int) (v25 : (List Worth_zone)) (v27 : Box) (x29 : Int) (l37 : List Defect) (l37n : Nat) : St :=
 ⟨[(8, vp 2 0), (13, vp 6 0), (14, vp 7 0), (83, vc (tl e_Defect default a2)), (84, vi ((a2.length : Nat) : Int)), (85, vi x29)], [(2, bx 175 [cs (ByteArray.mk #[]), ci 0, ci 0, ci 0, ci 0, .emp, .emp, ci 0, ci 0, ci 0, ci 0, ci 0, .emp, .emp]), (5, ro 0 195 3 v25.length (rf e_Worth_zone v25)), (6, bx 175 [cs a3.Name, ci a3.Thick, ci a3.Width, ci a3.Allow, ci a3.Wane, tl e_i64 default a3.Lengths, tl e_i64 default a3.Prices, ci a4.X.A, ci a4.X.B, ci a4.Y.A, ci a4.Y.B, ci v23, .own 5 0 3 v25.length, .own 8 0 7 l37n]), (7, bx 57 (e_Box v27)), (8, ro 0 59 7 l37n (rf e_Defect l37))]⟩

def worth_look_L3_S (a2 : List Defect) (a3 : Product) (a4 : Rect) (v23 : Int) (v25 : (List Worth_zone)) (v27 : Box) (x29 : Int) (l30 : List Defect) (l30n : Nat) : St :=
 ⟨[(8, vp 2 0), (13, vp 6 0), (14, vp 7 0), (83, vc (tl e_Defect default a2)), (84, vi ((a2.length : Nat) : Int)), (85, vi x29)], [(2, bx 175 [cs (ByteArray.mk #[]), ci 0, ci 0, ci 0, ci 0, .emp, .emp, ci 0, ci 0, ci 0, ci 0, ci 0, .emp, .emp]), (5, ro 0 195 3 v25.length (rf e_Worth_zone v25)), (6, bx 175 [cs a3.Name, ci a3.Thick, ci a3.Width, ci a3.Allow, ci a3.Wane, tl e_i64 default a3.Lengths, tl e_i64 default a3.Prices, ci a4.X.A, ci a4.X.B, ci a4.Y.A, ci a4.Y.B, ci v23, .own 5 0 3 v25.length, .own 8 0 7 l30n]), (7, bx 57 (e_Box v27)), (8, ro 0 59 7 l30n (rf e_Defect l30))]⟩

def worth_look_L3_T (a3 : Product) (a4 : Rect) (v23 : Int) (v25 : (List Worth_zone)) (l38 : List Defect) : St :=
 ⟨[(8, vp 2 0), (13, vp 6 0)], [(2, bx 175 [cs (ByteArray.mk #[]), ci 0, ci 0, ci 0, ci 0, .emp, .emp, ci 0, ci 0, ci 0, ci 0, ci 0, .emp, .emp]), (5, ro 0 195 3 v25.length (rf e_Worth_zone v25)), (6, bx 175 [cs a3.Name, ci a3.Thick, ci a3.Width, ci a3.Allow, ci a3.Wane, tl e_i64 default a3.Lengths, tl e_i64 default a3.Prices, ci a4.X.A, ci a4.X.B, ci a4.Y.A, ci a4.Y.B, ci v23, .own 5 0 3 v25.length, .own 8 0 7 l38.length]), (8, ro 0 59 7 l38.length (rf e_Defect l38))]⟩

def worth_look_k2_S (a1 : List Slice) (a2 : List Defect) (a3 : Product) (a4 : Rect) (x21 : Bool) : St :=
 ⟨[(0, vc (tl e_Slice default a1)), (1, vc (tl e_Defect default a2)), (6, vp 0 0), (7, vp 1 0), (8, vp 2 0), (68, vb x21)], [(0, bx 43 (e_Product a3)), (1, bx 35 (e_Rect a4)), (2, bx 175 [cs (ByteArray.mk #[]), ci 0, ci 0, ci 0, ci 0, .emp, .emp, ci 0, ci 0, ci 0, ci 0, ci 0, .emp, .emp])]⟩

def worth_look_k1_S (a1 : List Slice) (a2 : List Defect) (a3 : Product) (a4 : Rect) (x16 : Bool) : St :=
 ⟨[(0, vc (tl e_Slice default a1)), (1, vc (tl e_Defect default a2)), (6, vp 0 0), (7, vp 1 0), (8, vp 2 0), (35, vb x16)], [(0, bx 43 (e_Product a3)), (1, bx 35 (e_Rect a4)), (2, bx 175 [cs (ByteArray.mk #[]), ci 0, ci 0, ci 0, ci 0, .emp, .emp, ci 0, ci 0, ci 0, ci 0, ci 0, .emp, .emp])]⟩

set_option maxRecDepth 100000 in
theorem worth_look_L3_ok (E : Env 0) (a2 : List Defect) (a3 : Product) (a4 : Rect) (v23 : Int) (v25 : (List Worth_zone)) (v27 : Box) : ∀ (n : Nat) (x29 : Int) (l30 : List Defect) (l30n : Nat) (res : (List Defect)), l30.length = l30n → worth_look_L3 a2 v27 n x29 l30 = some res → HL (kx E 100 0) (nd Tryd.f100 4084) (loopQ0 0 (fun o => worth_look_L3_T a3 a4 v23 v25 o) res) n (worth_look_L3_S a2 a3 a4 v23 v25 v27 x29 l30 l30n) := by
 intro n
 induction n with
 | zero =>
  intro x29 l30 l30n res hl0 hm
  cases hm
 | succ n ih =>
  intro x29 l30 l30n res hl0 hm
  subst hl0
  refine HL_succ ?_
  refine q_sq ?_
  refine q_vu [] 9 [] [(86, vb (decide (x29 < ((a2.length : Nat) : Int))))] [] [] ?_
  refine q_sq ?_
  refine q_cn (decide (x29 < ((a2.length : Nat) : Int))) (fun b31 => ?_) (fun b31 => ?_)
  ·replace hm := bif_t b31 hm
   refine q_sk ?_
   refine q_jn (ι := (List Defect) × Nat) (fun p => worth_look_k4_S a2 a3 a4 v23 v25 v27 x29 p.1 p.2) (fun p => p.1.length = p.2 ∧ worth_look_k4 x29 (worth_look_L3 a2 v27 n) p.1 = some res) ?_ ?_
   ·rintro ⟨l37, l37n⟩ ⟨el37, hm⟩
    replace el37 : l37.length = l37n := el37
    subst el37
    show H _ (worth_look_k4_S a2 a3 a4 v23 v25 v27 x29 l37 l37.length) _ _
    refine q_vu [] 11 [85] [(85, vi (w64 (x29 + 1)))] [] [] ?_
    exact q_hl (worth_look_L3_S a2 a3 a4 v23 v25 v27 (w64 (x29 + 1)) l37 l37.length) (ih (w64 (x29 + 1)) l37 l37.length _ rfl hm)
   ·refine q_bk 1 ?_
    refine q_sq ?_
    obtain ⟨g32, hm⟩ := bif_n hm
    refine q_vu [qd 0 (Dir.none) (inb_of g32)] 9 [86] [(16, vp 9 0)] [] [(9, bx 59 [ci ((a2.getD x29.toNat default).Kind), ci ((((a2.getD x29.toNat default).Box).X).A), ci ((((a2.getD x29.toNat default).Box).X).B), ci ((((a2.getD x29.toNat default).Box).Y).A), ci ((((a2.getD x29.toNat default).Box).Y).B), ci ((((a2.getD x29.toNat default).Box).Z).A), ci ((((a2.getD x29.toNat default).Box).Z).B)])] ?_
    refine q_sq ?_
    obtain ⟨v33, h34, hm⟩ := bind_s hm
    refine q_vu [qc 2 [89, 90] 10 (defect_Touches_ok (a2.getD x29.toNat default) v27 v33 h34)] 10 [] [(91, vb v33)] [] [] ?_
    refine q_cn v33 (fun b35 => ?_) (fun b35 => ?_)
    ·replace hm := bif_t b35 hm
     obtain ⟨g36, hm⟩ := bif_n hm
     refine q_vu [qd 3 (drw 10 0 (rf e_Defect ([(a2.getD x29.toNat default)] : List Defect))) (litP e_Defect default 7 (fun _ => rfl) ([(a2.getD x29.toNat default)] : List Defect) 1 rfl), qd 4 (drw 8 1 (rf e_Defect (l30 ++ ([(a2.getD x29.toNat default)] : List Defect)))) (apP e_Defect default l30 ([(a2.getD x29.toNat default)] : List Defect) l30.length 1 7 56 (1 ≤ 1) (Nat.le_refl _) rfl rfl (fun _ => rfl) (room_of g36))] 10 [16, 91] [] [6, 8, 9] [(6, bx 175 [cs a3.Name, ci a3.Thick, ci a3.Width, ci a3.Allow, ci a3.Wane, tl e_i64 default a3.Lengths, tl e_i64 default a3.Prices, ci a4.X.A, ci a4.X.B, ci a4.Y.A, ci a4.Y.B, ci v23, .own 5 0 3 v25.length, .own 8 1 7 (l30.length + 1)]), (8, ro 1 59 7 (l30.length + 1) (rf e_Defect (l30 ++ ([(a2.getD x29.toNat default)] : List Defect))))] ?_
     exact q_J ((l30 ++ ([(a2.getD x29.toNat default)] : List Defect)), (l30.length + 1)) ⟨(len_app rfl rfl), hm⟩
    ·replace hm := bif_f b35 hm
     refine q_sk ?_
     exact q_J (l30, l30.length) ⟨rfl, hm⟩
  ·replace hm := bif_f b31 hm
   refine q_ex 0 ?_
   obtain rfl := Option.some.inj hm
   exact L0_mk (by kernel_rfl) (by kernel_rfl)

set_option maxRecDepth 100000 in
theorem worth_look_ok (a1 : List Slice) (a2 : List Defect) (a3 : Product) (a4 : Rect) (r : Worth_view × Bool) (hm : worth_look a1 a2 a3 a4 = some r) : CtX Tryd.prog globs 100 0 0 [.one (tl e_Slice default a1), .one (tl e_Defect default a2), .agg (e_Product a3), .agg (e_Rect a4)] [] (worth_look_x r) (worth_look_o r) := by
 unfold worth_look at hm
 refine q_E Tryd.f100 100 fun E => ?_
 refine q_sq ?_
 refine q_vn [] 0 ⟨[(0, vc (tl e_Slice default a1)), (1, vc (tl e_Defect default a2)), (6, vp 0 0), (7, vp 1 0), (8, vp 2 0)], [(0, bx 43 (e_Product a3)), (1, bx 35 (e_Rect a4)), (2, bx 175 [cs (ByteArray.mk #[]), ci 0, ci 0, ci 0, ci 0, .emp, .emp, ci 0, ci 0, ci 0, ci 0, ci 0, .emp, .emp])]⟩ ?_
 refine q_sq ?_
 refine q_jn (ι := Bool) (fun p => worth_look_k1_S a1 a2 a3 a4 p) (fun p => worth_look_k1 a1 a2 a3 a4 p = some r) ?_ ?_
 ·rintro x16 hm
  show H _ (worth_look_k1_S a1 a2 a3 a4 x16) _ _
  refine q_cn x16 (fun b17 => ?_) (fun b17 => ?_)
  ·replace hm := bif_t b17 hm
   refine q_sq ?_
   refine q_vu [] 4 [0, 1, 6, 7, 35] [(9, vb false)] [0, 1] [] ?_
   refine q_fn [.ownB 2 5 4 3 1 (rf e_i64 ([] : List Int))] ⟨[(8, vp 2 0), (9, vb false)], [(2, bx 175 [cs (ByteArray.mk #[]), ci 0, ci 0, ci 0, ci 0, .own 4 0 1 0, .emp, ci 0, ci 0, ci 0, ci 0, ci 0, .emp, .emp]), (4, ro 0 3 1 0 (rf e_i64 ([] : List Int)))]⟩ o0 ?_
   refine q_fn [.ownB 2 6 5 3 1 (rf e_i64 ([] : List Int))] ⟨[(8, vp 2 0), (9, vb false)], [(2, bx 175 [cs (ByteArray.mk #[]), ci 0, ci 0, ci 0, ci 0, .own 4 0 1 0, .own 5 0 1 0, ci 0, ci 0, ci 0, ci 0, ci 0, .emp, .emp]), (4, ro 0 3 1 0 (rf e_i64 ([] : List Int))), (5, ro 0 3 1 0 (rf e_i64 ([] : List Int)))]⟩ o0 ?_
   refine q_fn [.ownB 2 12 6 195 3 (rf e_Worth_zone ([] : List Worth_zone))] ⟨[(8, vp 2 0), (9, vb false)], [(2, bx 175 [cs (ByteArray.mk #[]), ci 0, ci 0, ci 0, ci 0, .own 4 0 1 0, .own 5 0 1 0, ci 0, ci 0, ci 0, ci 0, ci 0, .own 6 0 3 0, .emp]), (4, ro 0 3 1 0 (rf e_i64 ([] : List Int))), (5, ro 0 3 1 0 (rf e_i64 ([] : List Int))), (6, ro 0 195 3 0 (rf e_Worth_zone ([] : List Worth_zone)))]⟩ o0 ?_
   refine q_fn [.ownB 2 13 7 59 7 (rf e_Defect ([] : List Defect))] ⟨[(8, vp 2 0), (9, vb false)], [(2, bx 175 [cs (ByteArray.mk #[]), ci 0, ci 0, ci 0, ci 0, .own 4 0 1 0, .own 5 0 1 0, ci 0, ci 0, ci 0, ci 0, ci 0, .own 6 0 3 0, .own 7 0 7 0]), (4, ro 0 3 1 0 (rf e_i64 ([] : List Int))), (5, ro 0 3 1 0 (rf e_i64 ([] : List Int))), (6, ro 0 195 3 0 (rf e_Worth_zone ([] : List Worth_zone))), (7, ro 0 59 7 0 (rf e_Defect ([] : List Defect)))]⟩ o0 ?_
   refine q_fn [.len 4 (([] : List Int).length), .frz 4] ⟨[(8, vp 2 0), (9, vb false)], [(2, bx 175 [cs (ByteArray.mk #[]), ci 0, ci 0, ci 0, ci 0, tl e_i64 default ([] : List Int), .own 5 0 1 0, ci 0, ci 0, ci 0, ci 0, ci 0, .own 6 0 3 0, .own 7 0 7 0]), (5, ro 0 3 1 0 (rf e_i64 ([] : List Int))), (6, ro 0 195 3 0 (rf e_Worth_zone ([] : List Worth_zone))), (7, ro 0 59 7 0 (rf e_Defect ([] : List Defect)))]⟩ (o1 (And.intro (And.intro (show 0 = ([] : List Int).length from rfl) (show 0 = ([] : List Int).length from rfl)) (Nat.le_refl (([] : List Int).length)))) ?_
   refine q_fn [.len 5 (([] : List Int).length), .frz 5] ⟨[(8, vp 2 0), (9, vb false)], [(2, bx 175 [cs (ByteArray.mk #[]), ci 0, ci 0, ci 0, ci 0, tl e_i64 default ([] : List Int), tl e_i64 default ([] : List Int), ci 0, ci 0, ci 0, ci 0, ci 0, .own 6 0 3 0, .own 7 0 7 0]), (6, ro 0 195 3 0 (rf e_Worth_zone ([] : List Worth_zone))), (7, ro 0 59 7 0 (rf e_Defect ([] : List Defect)))]⟩ (o1 (And.intro (And.intro (show 0 = ([] : List Int).length from rfl) (show 0 = ([] : List Int).length from rfl)) (Nat.le_refl (([] : List Int).length)))) ?_
   refine q_fn [.len 6 (([] : List Worth_zone).length)] ⟨[(8, vp 2 0), (9, vb false)], [(2, bx 175 [cs (ByteArray.mk #[]), ci 0, ci 0, ci 0, ci 0, tl e_i64 default ([] : List Int), tl e_i64 default ([] : List Int), ci 0, ci 0, ci 0, ci 0, ci 0, .own 6 0 3 (([] : List Worth_zone).length), .own 7 0 7 0]), (6, ro 0 195 3 (([] : List Worth_zone).length) (rf e_Worth_zone ([] : List Worth_zone))), (7, ro 0 59 7 0 (rf e_Defect ([] : List Defect)))]⟩ (o1 (And.intro (show 0 = ([] : List Worth_zone).length from rfl) (show 0 = ([] : List Worth_zone).length from rfl))) ?_
   refine q_fn [.len 7 (([] : List Defect).length)] ⟨[(8, vp 2 0), (9, vb false)], [(2, bx 175 [cs (ByteArray.mk #[]), ci 0, ci 0, ci 0, ci 0, tl e_i64 default ([] : List Int), tl e_i64 default ([] : List Int), ci 0, ci 0, ci 0, ci 0, ci 0, .own 6 0 3 (([] : List Worth_zone).length), .own 7 0 7 (([] : List Defect).length)]), (6, ro 0 195 3 (([] : List Worth_zone).length) (rf e_Worth_zone ([] : List Worth_zone))), (7, ro 0 59 7 (([] : List Defect).length) (rf e_Defect ([] : List Defect)))]⟩ (o1 (And.intro (show 0 = ([] : List Defect).length from rfl) (show 0 = ([] : List Defect).length from rfl))) ?_
   obtain rfl := Option.some.inj hm
   refine H_swap 6 0 (by kernel_rfl) ?_
   refine H_swap 7 1 (by kernel_rfl) ?_
   refine q_rt ?_
   exact q_rm
  ·replace hm := bif_f b17 hm
   refine q_sk ?_
   refine q_sq ?_
   obtain ⟨v18, h19, hm⟩ := bind_s hm
   refine q_vu [qc 1 [38] 4 (product_Green_ok a3 v18 h19)] 4 [35] [(10, vi v18.1), (11, vi v18.2)] [] [] ?_
   refine q_sq ?_
   refine q_vu [] 4 [] [(12, vp 4 0)] [] [(4, bx 187 [ci (w64 (a4.X.B - a4.X.A)), ci (w64 (a4.Y.B - a4.Y.A))])] ?_
   refine q_sq ?_
   refine q_jn (ι := Bool) (fun p => worth_look_k2_S a1 a2 a3 a4 p) (fun p => worth_look_k2 a1 a2 a3 a4 p = some r) ?_ ?_
   ·rintro x21 hm
    show H _ (worth_look_k2_S a1 a2 a3 a4 x21) _ _
    refine q_cn x21 (fun b22 => ?_) (fun b22 => ?_)
    ·replace hm := bif_t b22 hm
     refine q_sq ?_
     refine q_vu [] 5 [0, 1, 6, 7, 68] [(9, vb false)] [0, 1] [] ?_
     refine q_fn [.ownB 2 5 5 3 1 (rf e_i64 ([] : List Int))] ⟨[(8, vp 2 0), (9, vb false)], [(2, bx 175 [cs (ByteArray.mk #[]), ci 0, ci 0, ci 0, ci 0, .own 5 0 1 0, .emp, ci 0, ci 0, ci 0, ci 0, ci 0, .emp, .emp]), (5, ro 0 3 1 0 (rf e_i64 ([] : List Int)))]⟩ o0 ?_
     refine q_fn [.ownB 2 6 6 3 1 (rf e_i64 ([] : List Int))] ⟨[(8, vp 2 0), (9, vb false)], [(2, bx 175 [cs (ByteArray.mk #[]), ci 0, ci 0, ci 0, ci 0, .own 5 0 1 0, .own 6 0 1 0, ci 0, ci 0, ci 0, ci 0, ci 0, .emp, .emp]), (5, ro 0 3 1 0 (rf e_i64 ([] : List Int))), (6, ro 0 3 1 0 (rf e_i64 ([] : List Int)))]⟩ o0 ?_
     refine q_fn [.ownB 2 12 7 195 3 (rf e_Worth_zone ([] : List Worth_zone))] ⟨[(8, vp 2 0), (9, vb false)], [(2, bx 175 [cs (ByteArray.mk #[]), ci 0, ci 0, ci 0, ci 0, .own 5 0 1 0, .own 6 0 1 0, ci 0, ci 0, ci 0, ci 0, ci 0, .own 7 0 3 0, .emp]), (5, ro 0 3 1 0 (rf e_i64 ([] : List Int))), (6, ro 0 3 1 0 (rf e_i64 ([] : List Int))), (7, ro 0 195 3 0 (rf e_Worth_zone ([] : List Worth_zone)))]⟩ o0 ?_
     refine q_fn [.ownB 2 13 8 59 7 (rf e_Defect ([] : List Defect))] ⟨[(8, vp 2 0), (9, vb false)], [(2, bx 175 [cs (ByteArray.mk #[]), ci 0, ci 0, ci 0, ci 0, .own 5 0 1 0, .own 6 0 1 0, ci 0, ci 0, ci 0, ci 0, ci 0, .own 7 0 3 0, .own 8 0 7 0]), (5, ro 0 3 1 0 (rf e_i64 ([] : List Int))), (6, ro 0 3 1 0 (rf e_i64 ([] : List Int))), (7, ro 0 195 3 0 (rf e_Worth_zone ([] : List Worth_zone))), (8, ro 0 59 7 0 (rf e_Defect ([] : List Defect)))]⟩ o0 ?_
     refine q_fn [.len 5 (([] : List Int).length), .frz 5] ⟨[(8, vp 2 0), (9, vb false)], [(2, bx 175 [cs (ByteArray.mk #[]), ci 0, ci 0, ci 0, ci 0, tl e_i64 default ([] : List Int), .own 6 0 1 0, ci 0, ci 0, ci 0, ci 0, ci 0, .own 7 0 3 0, .own 8 0 7 0]), (6, ro 0 3 1 0 (rf e_i64 ([] : List Int))), (7, ro 0 195 3 0 (rf e_Worth_zone ([] : List Worth_zone))), (8, ro 0 59 7 0 (rf e_Defect ([] : List Defect)))]⟩ (o1 (And.intro (And.intro (show 0 = ([] : List Int).length from rfl) (show 0 = ([] : List Int).length from rfl)) (Nat.le_refl (([] : List Int).length)))) ?_
     refine q_fn [.len 6 (([] : List Int).length), .frz 6] ⟨[(8, vp 2 0), (9, vb false)], [(2, bx 175 [cs (ByteArray.mk #[]), ci 0, ci 0, ci 0, ci 0, tl e_i64 default ([] : List Int), tl e_i64 default ([] : List Int), ci 0, ci 0, ci 0, ci 0, ci 0, .own 7 0 3 0, .own 8 0 7 0]), (7, ro 0 195 3 0 (rf e_Worth_zone ([] : List Worth_zone))), (8, ro 0 59 7 0 (rf e_Defect ([] : List Defect)))]⟩ (o1 (And.intro (And.intro (show 0 = ([] : List Int).length from rfl) (show 0 = ([] : List Int).length from rfl)) (Nat.le_refl (([] : List Int).length)))) ?_
     refine q_fn [.len 7 (([] : List Worth_zone).length)] ⟨[(8, vp 2 0), (9, vb false)], [(2, bx 175 [cs (ByteArray.mk #[]), ci 0, ci 0, ci 0, ci 0, tl e_i64 default ([] : List Int), tl e_i64 default ([] : List Int), ci 0, ci 0, ci 0, ci 0, ci 0, .own 7 0 3 (([] : List Worth_zone).length), .own 8 0 7 0]), (7, ro 0 195 3 (([] : List Worth_zone).length) (rf e_Worth_zone ([] : List Worth_zone))), (8, ro 0 59 7 0 (rf e_Defect ([] : List Defect)))]⟩ (o1 (And.intro (show 0 = ([] : List Worth_zone).length from rfl) (show 0 = ([] : List Worth_zone).length from rfl))) ?_
     refine q_fn [.len 8 (([] : List Defect).length)] ⟨[(8, vp 2 0), (9, vb false)], [(2, bx 175 [cs (ByteArray.mk #[]), ci 0, ci 0, ci 0, ci 0, tl e_i64 default ([] : List Int), tl e_i64 default ([] : List Int), ci 0, ci 0, ci 0, ci 0, ci 0, .own 7 0 3 (([] : List Worth_zone).length), .own 8 0 7 (([] : List Defect).length)]), (7, ro 0 195 3 (([] : List Worth_zone).length) (rf e_Worth_zone ([] : List Worth_zone))), (8, ro 0 59 7 (([] : List Defect).length) (rf e_Defect ([] : List Defect)))]⟩ (o1 (And.intro (show 0 = ([] : List Defect).length from rfl) (show 0 = ([] : List Defect).length from rfl))) ?_
     obtain rfl := Option.some.inj hm
     refine H_swap 7 0 (by kernel_rfl) ?_
     refine H_swap 8 1 (by kernel_rfl) ?_
     refine q_rt ?_
     exact q_rm
    ·replace hm := bif_f b22 hm
     refine q_sk ?_
     refine q_sq ?_
     obtain ⟨v23, h24, hm⟩ := bind_s hm
     obtain ⟨v25, h26, hm⟩ := bind_s hm
     refine q_du [qc 3 [72] 5 (solid_Length_ok a1 v23 h24), qc 6 [74, 75] 5 (worth_lacks_ok a1 a4 v25 h26)] [0, 0, 0, 4, 0, 0, 60, 127, 0, 511] 5 [0, 6, 7, 68] [(13, vp 6 0)] [0, 1] [(5, ro 0 195 3 v25.length (rf e_Worth_zone v25)), (6, bx 175 [cs a3.Name, ci a3.Thick, ci a3.Width, ci a3.Allow, ci a3.Wane, tl e_i64 default a3.Lengths, tl e_i64 default a3.Prices, ci a4.X.A, ci a4.X.B, ci a4.Y.A, ci a4.Y.B, ci v23, .own 5 0 3 v25.length, .emp])] ?_
     refine q_sq ?_
     obtain ⟨v27, h28, hm⟩ := bind_s hm
     refine q_vu [qd 4 (dex (cen [] [] 7 0 (worth_view_box_x v27) (worth_view_box_o v27) [78, 81] [5])) (callS (K := (kx E 100 0)) (b := false) ⟨[(78, va [cs a3.Name, ci a3.Thick, ci a3.Width, ci a3.Allow, ci a3.Wane, tl e_i64 default a3.Lengths, tl e_i64 default a3.Prices, ci a4.X.A, ci a4.X.B, ci a4.Y.A, ci a4.Y.B, ci v23, .own 5 0 3 v25.length, .emp]), (81, va [ci 0, ci v23])], [(5, ro 0 195 3 v25.length (rf e_Worth_zone v25))]⟩ (opAt (rg Tryd.f100 254) 4) [] [] 7 (o1 (Nat.le_refl v25.length)) rfl (CtX.emp (xs' := [.agg [cs a3.Name, ci a3.Thick, ci a3.Width, ci a3.Allow, ci a3.Wane, tl e_i64 default a3.Lengths, tl e_i64 default a3.Prices, ci a4.X.A, ci a4.X.B, ci a4.Y.A, ci a4.Y.B, ci v23, tl e_Worth_zone default v25, .emp], .agg [ci 0, ci v23]]) (worth_view_box_ok (Worth_view.mk a3 a4 v23 v25 ([] : List Defect)) (Span.mk 0 v23) v27 h28) (And.intro (And.intro rfl (And.intro rfl (And.intro rfl (And.intro rfl (And.intro rfl (And.intro rfl (And.intro rfl (And.intro rfl (And.intro rfl (And.intro rfl (And.intro rfl (And.intro rfl (And.intro rfl (And.intro rfl trivial)))))))))))))) (And.intro (And.intro rfl (And.intro rfl trivial)) trivial))) (.inr ⟨(by kernel_rfl), worth_view_box_f v27⟩) (by kernel_rfl))] 7 [] [(14, vp 7 0)] [] [(7, bx 57 (e_Box v27))] ?_
     refine q_sq ?_
     refine q_sq ?_
     refine q_vu [] 8 [1] [(83, vc (tl e_Defect default a2)), (84, vi ((a2.length : Nat) : Int)), (85, vi 0)] [] [] ?_
     refine q_fn [.ownB 6 13 8 59 7 (rf e_Defect ([] : List Defect))] ⟨[(8, vp 2 0), (13, vp 6 0), (14, vp 7 0), (83, vc (tl e_Defect default a2)), (84, vi ((a2.length : Nat) : Int)), (85, vi 0)], [(2, bx 175 [cs (ByteArray.mk #[]), ci 0, ci 0, ci 0, ci 0, .emp, .emp, ci 0, ci 0, ci 0, ci 0, ci 0, .emp, .emp]), (5, ro 0 195 3 v25.length (rf e_Worth_zone v25)), (6, bx 175 [cs a3.Name, ci a3.Thick, ci a3.Width, ci a3.Allow, ci a3.Wane, tl e_i64 default a3.Lengths, tl e_i64 default a3.Prices, ci a4.X.A, ci a4.X.B, ci a4.Y.A, ci a4.Y.B, ci v23, .own 5 0 3 v25.length, .own 8 0 7 0]), (7, bx 57 (e_Box v27)), (8, ro 0 59 7 0 (rf e_Defect ([] : List Defect)))]⟩ o0 ?_
     obtain ⟨o39, h40, hm⟩ := bind_s hm
     refine R_loop0 (nd Tryd.f100 4084) 0 (by kernel_rfl) FUEL (fun o => worth_look_L3_T a3 a4 v23 v25 o) o39 (q_hl (worth_look_L3_S a2 a3 a4 v23 v25 v27 0 ([] : List Defect) 0) (worth_look_L3_ok E a2 a3 a4 v23 v25 v27 FUEL 0 ([] : List Defect) 0 o39 rfl h40)) ?_
     refine q_sq ?_
     refine q_vu [] 9 [13] [(9, vb true)] [2, 6] [(2, bx 175 [cs a3.Name, ci a3.Thick, ci a3.Width, ci a3.Allow, ci a3.Wane, tl e_i64 default a3.Lengths, tl e_i64 default a3.Prices, ci a4.X.A, ci a4.X.B, ci a4.Y.A, ci a4.Y.B, ci v23, .own 5 0 3 v25.length, .own 8 0 7 o39.length])] ?_
     obtain rfl := Option.some.inj hm
     refine H_swap 5 0 (by kernel_rfl) ?_
     refine H_swap 8 1 (by kernel_rfl) ?_
     refine q_rt ?_
     exact q_rm
   ·rcases Bool.eq_false_or_eq_true (!(((w64 (a4.X.B - a4.X.A)) == v18.1) && (((w64 (a4.Y.B - a4.Y.A)) == v18.2) && true))) with b20 | b20
    ·replace hm := bif_t b20 hm
     refine q_vu [qf 5 b20] 5 [10, 11, 12] [(68, vb (!(((w64 (a4.X.B - a4.X.A)) == v18.2) && (((w64 (a4.Y.B - a4.Y.A)) == v18.1) && true))))] [4] [] ?_
     exact q_J (!(((w64 (a4.X.B - a4.X.A)) == v18.2) && (((w64 (a4.Y.B - a4.Y.A)) == v18.1) && true))) hm
    ·replace hm := bif_f b20 hm
     refine q_vu [qf 5 b20] 5 [10, 11, 12] [(68, vb false)] [4] [] ?_
     exact q_J (false) hm
 ·obtain ⟨v5, h6, hm⟩ := bind_s hm
  rcases Bool.eq_false_or_eq_true (v5 != 0) with b7 | b7
  ·replace hm := bif_t b7 hm
   refine q_vu [qc 1 [17] 3 (solid_Check_ok a1 v5 h6), qf 3 b7] 3 [] [(35, vb true)] [] [] ?_
   exact q_J (true) hm
  ·replace hm := bif_f b7 hm
   obtain ⟨v8, h9, hm⟩ := bind_s hm
   rcases Bool.eq_false_or_eq_true (v8 != 0) with b10 | b10
   ·replace hm := bif_t b10 hm
    refine q_vu [qc 1 [17] 3 (solid_Check_ok a1 v5 h6), qf 3 b7, qk 5 [20, 21] 3 ⟨[(20, vb false), (21, vc (tl e_Defect default a2))], []⟩ (defect_Check_ok a2 v8 h9), qf 8 b10] 3 [] [(35, vb true)] [] [] ?_
    exact q_J (true) hm
   ·replace hm := bif_f b10 hm
    obtain ⟨v11, h12, hm⟩ := bind_s hm
    rcases Bool.eq_false_or_eq_true (v11 != 0) with b13 | b13
    ·replace hm := bif_t b13 hm
     refine q_vu [qc 1 [17] 3 (solid_Check_ok a1 v5 h6), qf 3 b7, qk 5 [20, 21] 3 ⟨[(20, vb false), (21, vc (tl e_Defect default a2))], []⟩ (defect_Check_ok a2 v8 h9), qf 8 b10, qd 10 (drw 3 0 (rf e_Product ([a3] : List Product))) (litP e_Product default 7 (fun _ => rfl) ([a3] : List Product) 1 rfl), qd 11 (dex (cen [] [] 4 0 (product_Check_x v11) (product_Check_o v11) [25, 27] [3])) (callS (K := (kx E 100 0)) (xs' := [.one (.lst 1 (rf e_Product ([a3] : List Product)))]) (b := false) ⟨[(25, vb false), (27, vo 3 0 7 1)], [(3, ro 0 43 7 1 (rf e_Product ([a3] : List Product)))]⟩ (opAt (rg Tryd.f100 12) 11) [] [] 4 (o1 (Nat.le_refl 1)) (by simp only [tl, rf, show ([a3] : List Product).length = 1 from rfl]) (product_Check_ok ([a3] : List Product) v11 h12) (.inr ⟨(by kernel_rfl), product_Check_f v11⟩) (by kernel_rfl)), qf 14 b13] 3 [] [(35, vb true)] [] [] ?_
     exact q_J (true) hm
    ·replace hm := bif_f b13 hm
     obtain ⟨v14, h15, hm⟩ := bind_s hm
     refine q_vu [qc 1 [17] 3 (solid_Check_ok a1 v5 h6), qf 3 b7, qk 5 [20, 21] 3 ⟨[(20, vb false), (21, vc (tl e_Defect default a2))], []⟩ (defect_Check_ok a2 v8 h9), qf 8 b10, qd 10 (drw 3 0 (rf e_Product ([a3] : List Product))) (litP e_Product default 7 (fun _ => rfl) ([a3] : List Product) 1 rfl), qd 11 (dex (cen [] [] 4 0 (product_Check_x v11) (product_Check_o v11) [25, 27] [3])) (callS (K := (kx E 100 0)) (xs' := [.one (.lst 1 (rf e_Product ([a3] : List Product)))]) (b := false) ⟨[(25, vb false), (27, vo 3 0 7 1)], [(3, ro 0 43 7 1 (rf e_Product ([a3] : List Product)))]⟩ (opAt (rg Tryd.f100 12) 11) [] [] 4 (o1 (Nat.le_refl 1)) (by simp only [tl, rf, show ([a3] : List Product).length = 1 from rfl]) (product_Check_ok ([a3] : List Product) v11 h12) (.inr ⟨(by kernel_rfl), product_Check_f v11⟩) (by kernel_rfl)), qf 14 b13, qk 16 [31, 32] 4 ⟨[(31, vb false), (32, va (e_Rect a4))], []⟩ (worth_isRect_ok a4 v14 h15)] 3 [] [(35, vb (!v14))] [] [] ?_
     exact q_J (!v14) hm

end Saw
end Go.SL

namespace Go.SL
namespace Saw
open Go.Proofs
set_option maxHeartbeats 4000000

def worth_isStep_x (r : Bool) : V := vb r

def worth_isStep_o (r : Bool) : List (Nat × (Nat × O)) := []

theorem worth_isStep_f (r : Bool) : Frozen (worth_isStep_o r) := by
 intro i k o h
 unfold worth_isStep_o at h
 cases h

def worth_isStep_k1_S (x3 : Bool) : St :=
 ⟨[(2, vb x3)], []⟩

set_option maxRecDepth 100000 in
theorem worth_isStep_ok (a1 : Int) (r : Bool) (hm : worth_isStep a1 = some r) : CtX Tryd.prog globs 96 0 0 [.one (ci a1)] [] (worth_isStep_x r) (worth_isStep_o r) := by
 unfold worth_isStep at hm
 refine q_E Tryd.f96 9 fun E => ?_
 refine q_sq ?_
 refine q_vn [] 0 ⟨[(0, vi a1)], []⟩ ?_
 refine q_jn (ι := Bool) (fun p => worth_isStep_k1_S p) (fun p => worth_isStep_k1 p = some r) ?_ ?_
 ·rintro x3 hm
  show H _ (worth_isStep_k1_S x3) _ _
  obtain rfl := Option.some.inj hm
  refine q_rt ?_
  exact q_rm
 ·rcases Bool.eq_false_or_eq_true (decide (a1 ≥ 1)) with b2 | b2
  ·replace hm := bif_t b2 hm
   refine q_vn [qf 2 b2] 0 ⟨[(2, vb (decide (a1 ≤ 20000)))], []⟩ ?_
   exact q_J (decide (a1 ≤ 20000)) hm
  ·replace hm := bif_f b2 hm
   refine q_vn [qf 2 b2] 0 ⟨[(2, vb false)], []⟩ ?_
   exact q_J (false) hm

end Saw
end Go.SL

namespace Go.SL
namespace Saw
open Go.Proofs
set_option maxHeartbeats 4000000

def worth_isFine_x (r : Bool) : V := vb r

def worth_isFine_o (r : Bool) : List (Nat × (Nat × O)) := []

theorem worth_isFine_f (r : Bool) : Frozen (worth_isFine_o r) := by
 intro i k o h
 unfold worth_isFine_o at h
 cases h

def worth_isFine_k1_S (x3 : Bool) : St :=
 ⟨[(2, vb x3)], []⟩

set_option maxRecDepth 100000 in
theorem worth_isFine_ok (a1 : Int) (r : Bool) (hm : worth_isFine a1 = some r) : CtX Tryd.prog globs 97 0 0 [.one (ci a1)] [] (worth_isFine_x r) (worth_isFine_o r) := by
 unfold worth_isFine at hm
 refine q_E Tryd.f97 9 fun E => ?_
 refine q_sq ?_
 refine q_vn [] 0 ⟨[(0, vi a1)], []⟩ ?_
 refine q_jn (ι := Bool) (fun p => worth_isFine_k1_S p) (fun p => worth_isFine_k1 p = some r) ?_ ?_
 ·rintro x3 hm
  show H _ (worth_isFine_k1_S x3) _ _
  obtain rfl := Option.some.inj hm
  refine q_rt ?_
  exact q_rm
 ·rcases Bool.eq_false_or_eq_true (decide (a1 ≥ 0)) with b2 | b2
  ·replace hm := bif_t b2 hm
   refine q_vn [qf 2 b2] 0 ⟨[(2, vb (decide (a1 ≤ 1000000)))], []⟩ ?_
   exact q_J (decide (a1 ≤ 1000000)) hm
  ·replace hm := bif_f b2 hm
   refine q_vn [qf 2 b2] 0 ⟨[(2, vb false)], []⟩ ?_
   exact q_J (false) hm

end Saw
end Go.SL

namespace Go.SL
namespace Saw
open Go.Proofs
set_option maxHeartbeats 4000000

def worth_Best_x (r : Span × Int × Bool) : V := .tup [.agg (e_Span r.1), .one (ci r.2.1), .one (cb r.2.2)]

def worth_Best_o (r : Span × Int × Bool) : List (Nat × (Nat × O)) := []

theorem worth_Best_f (r : Span × Int × Bool) : Frozen (worth_Best_o r) := by
 intro i k o h
 unfold worth_Best_o at h
 cases h

def worth_Best_k5_S (a3 : Product) (a5 : Int) (a6 : Int) (v14 : Worth_view × Bool) (x19 : Int) (x24 : Int) (x34 : Int) (x35 : Bool) (x36 : Span) : St :=
 ⟨[(4, vi a5), (5, vi a6), (8, vp 0 0), (12, vp 2 0), (15, vp 5 0), (17, vp 6 0), (18, vi x34), (19, vb x35), (20, vi x19), (54, vc (tl e_i64 default a3.Lengths)), (55, vi ((a3.Lengths.length : Nat) : Int)), (56, vi x24)], [(0, bx 43 (e_Product a3)), (2, bx 33 [ci 0, ci 0]), (3, ro 0 195 3 v14.1.zones.length (rf e_Worth_zone v14.1.zones)), (4, ro 0 59 7 v14.1.defects.length (rf e_Defect v14.1.defects)), (5, bx 175 [cs v14.1.product.Name, ci v14.1.product.Thick, ci v14.1.product.Width, ci v14.1.product.Allow, ci v14.1.product.Wane, tl e_i64 default v14.1.product.Lengths, tl e_i64 default v14.1.product.Prices, ci v14.1.rect.X.A, ci v14.1.rect.X.B, ci v14.1.rect.Y.A, ci v14.1.rect.Y.B, ci v14.1.length, .own 3 0 3 v14.1.zones.length, .own 4 0 7 v14.1.defects.length]), (6, bx 33 (e_Span x36))]⟩

def worth_Best_k4_S (a3 : Product) (a5 : Int) (a6 : Int) (v14 : Worth_view × Bool) (x19 : Int) (x22 : Int) (x23 : Bool) (x24 : Int) (x25 : Span) (v28 : Int × Bool) (x32 : Bool) : St :=
 ⟨[(4, vi a5), (5, vi a6), (8, vp 0 0), (12, vp 2 0), (15, vp 5 0), (17, vp 6 0), (18, vi x22), (19, vb x23), (20, vi x19), (23, vp 7 0), (24, vi v28.1), (54, vc (tl e_i64 default a3.Lengths)), (55, vi ((a3.Lengths.length : Nat) : Int)), (56, vi x24), (81, vb x32)], [(0, bx 43 (e_Product a3)), (2, bx 33 [ci 0, ci 0]), (3, ro 0 195 3 v14.1.zones.length (rf e_Worth_zone v14.1.zones)), (4, ro 0 59 7 v14.1.defects.length (rf e_Defect v14.1.defects)), (5, bx 175 [cs v14.1.product.Name, ci v14.1.product.Thick, ci v14.1.product.Width, ci v14.1.product.Allow, ci v14.1.product.Wane, tl e_i64 default v14.1.product.Lengths, tl e_i64 default v14.1.product.Prices, ci v14.1.rect.X.A, ci v14.1.rect.X.B, ci v14.1.rect.Y.A, ci v14.1.rect.Y.B, ci v14.1.length, .own 3 0 3 v14.1.zones.length, .own 4 0 7 v14.1.defects.length]), (6, bx 33 (e_Span x25)), (7, bx 33 [ci x19, ci (w64 (x19 + (a3.Lengths.getD x24.toNat default)))])]⟩

def worth_Best_L3_S (a3 : Product) (a5 : Int) (a6 : Int) (v14 : Worth_view × Bool) (x19 : Int) (x22 : Int) (x23 : Bool) (x24 : Int) (x25 : Span) : St :=
 ⟨[(4, vi a5), (5, vi a6), (8, vp 0 0), (12, vp 2 0), (15, vp 5 0), (17, vp 6 0), (18, vi x22), (19, vb x23), (20, vi x19), (54, vc (tl e_i64 default a3.Lengths)), (55, vi ((a3.Lengths.length : Nat) : Int)), (56, vi x24)], [(0, bx 43 (e_Product a3)), (2, bx 33 [ci 0, ci 0]), (3, ro 0 195 3 v14.1.zones.length (rf e_Worth_zone v14.1.zones)), (4, ro 0 59 7 v14.1.defects.length (rf e_Defect v14.1.defects)), (5, bx 175 [cs v14.1.product.Name, ci v14.1.product.Thick, ci v14.1.product.Width, ci v14.1.product.Allow, ci v14.1.product.Wane, tl e_i64 default v14.1.product.Lengths, tl e_i64 default v14.1.product.Prices, ci v14.1.rect.X.A, ci v14.1.rect.X.B, ci v14.1.rect.Y.A, ci v14.1.rect.Y.B, ci v14.1.length, .own 3 0 3 v14.1.zones.length, .own 4 0 7 v14.1.defects.length]), (6, bx 33 (e_Span x25))]⟩

def worth_Best_L3_T (a3 : Product) (a5 : Int) (a6 : Int) (v14 : Worth_view × Bool) (x19 : Int) (x37 : Int) (x38 : Bool) (x39 : Span) : St :=
 ⟨[(4, vi a5), (5, vi a6), (8, vp 0 0), (12, vp 2 0), (15, vp 5 0), (17, vp 6 0), (18, vi x37), (19, vb x38), (20, vi x19)], [(0, bx 43 (e_Product a3)), (2, bx 33 [ci 0, ci 0]), (3, ro 0 195 3 v14.1.zones.length (rf e_Worth_zone v14.1.zones)), (4, ro 0 59 7 v14.1.defects.length (rf e_Defect v14.1.defects)), (5, bx 175 [cs v14.1.product.Name, ci v14.1.product.Thick, ci v14.1.product.Width, ci v14.1.product.Allow, ci v14.1.product.Wane, tl e_i64 default v14.1.product.Lengths, tl e_i64 default v14.1.product.Prices, ci v14.1.rect.X.A, ci v14.1.rect.X.B, ci v14.1.rect.Y.A, ci v14.1.rect.Y.B, ci v14.1.length, .own 3 0 3 v14.1.zones.length, .own 4 0 7 v14.1.defects.length]), (6, bx 33 (e_Span x39))]⟩

def worth_Best_L2_S (a3 : Product) (a5 : Int) (a6 : Int) (v14 : Worth_view × Bool) (x17 : Int) (x18 : Bool) (x19 : Int) (x20 : Span) : St :=
 ⟨[(4, vi a5), (5, vi a6), (8, vp 0 0), (12, vp 2 0), (15, vp 5 0), (17, vp 6 0), (18, vi x17), (19, vb x18), (20, vi x19)], [(0, bx 43 (e_Product a3)), (2, bx 33 [ci 0, ci 0]), (3, ro 0 195 3 v14.1.zones.length (rf e_Worth_zone v14.1.zones)), (4, ro 0 59 7 v14.1.defects.length (rf e_Defect v14.1.defects)), (5, bx 175 [cs v14.1.product.Name, ci v14.1.product.Thick, ci v14.1.product.Width, ci v14.1.product.Allow, ci v14.1.product.Wane, tl e_i64 default v14.1.product.Lengths, tl e_i64 default v14.1.product.Prices, ci v14.1.rect.X.A, ci v14.1.rect.X.B, ci v14.1.rect.Y.A, ci v14.1.rect.Y.B, ci v14.1.length, .own 3 0 3 v14.1.zones.length, .own 4 0 7 v14.1.defects.length]), (6, bx 33 (e_Span x20))]⟩

def worth_Best_L2_T (x42 : Int) (x43 : Bool) (x44 : Span) : St :=
 ⟨[(12, vp 2 0), (17, vp 6 0), (18, vi x42), (19, vb x43)], [(2, bx 33 [ci 0, ci 0]), (6, bx 33 (e_Span x44))]⟩

def worth_Best_k1_S (a1 : List Slice) (a2 : List Defect) (a3 : Product) (a4 : Rect) (a5 : Int) (a6 : Int) (x12 : Bool) : St :=
 ⟨[(0, vc (tl e_Slice default a1)), (1, vc (tl e_Defect default a2)), (4, vi a5), (5, vi a6), (8, vp 0 0), (9, vp 1 0), (12, vp 2 0), (33, vb x12)], [(0, bx 43 (e_Product a3)), (1, bx 35 (e_Rect a4)), (2, bx 33 [ci 0, ci 0])]⟩

set_option maxRecDepth 100000 in
theorem worth_Best_L3_ok (E : Env 0) (a3 : Product) (a5 : Int) (a6 : Int) (v14 : Worth_view × Bool) (x19 : Int) : ∀ (n : Nat) (x22 : Int) (x23 : Bool) (x24 : Int) (x25 : Span) (res : Int × Bool × Span), worth_Best_L3 a3 a6 v14 x19 n x22 x23 x24 x25 = some res → HL (kx E 88 0) (nd Tryd.f76 130340) (loopQ0 2 (fun o => worth_Best_L3_T a3 a5 a6 v14 x19 o.1 o.2.1 o.2.2) res) n (worth_Best_L3_S a3 a5 a6 v14 x19 x22 x23 x24 x25) := by
 intro n
 induction n with
 | zero =>
  intro x22 x23 x24 x25 res hm
  cases hm
 | succ n ih =>
  intro x22 x23 x24 x25 res hm
  refine HL_succ ?_
  refine q_sq ?_
  refine q_vu [] 7 [] [(57, vb (decide (x24 < ((a3.Lengths.length : Nat) : Int))))] [] [] ?_
  refine q_sq ?_
  refine q_cn (decide (x24 < ((a3.Lengths.length : Nat) : Int))) (fun b26 => ?_) (fun b26 => ?_)
  ·replace hm := bif_t b26 hm
   refine q_sk ?_
   refine q_jn (ι := Int × Bool × Span) (fun p => worth_Best_k5_S a3 a5 a6 v14 x19 x24 p.1 p.2.1 p.2.2) (fun p => worth_Best_k5 x24 (worth_Best_L3 a3 a6 v14 x19 n) p.1 p.2.1 p.2.2 = some res) ?_ ?_
   ·rintro ⟨x34, x35, x36⟩ hm
    show H _ (worth_Best_k5_S a3 a5 a6 v14 x19 x24 x34 x35 x36) _ _
    refine q_vu [] 8 [56] [(56, vi (w64 (x24 + 1)))] [] [] ?_
    exact q_hl (worth_Best_L3_S a3 a5 a6 v14 x19 x34 x35 (w64 (x24 + 1)) x36) (ih x34 x35 (w64 (x24 + 1)) x36 _ hm)
   ·refine q_bk 3 ?_
    refine q_sq ?_
    obtain ⟨g27, hm⟩ := bif_n hm
    refine q_vu [qd 0 (Dir.none) (inb_of g27)] 7 [57] [(22, vi (a3.Lengths.getD x24.toNat default))] [] [] ?_
    refine q_sq ?_
    refine q_vu [] 7 [22] [(23, vp 7 0)] [] [(7, bx 33 [ci x19, ci (w64 (x19 + (a3.Lengths.getD x24.toNat default)))])] ?_
    refine q_sq ?_
    obtain ⟨v28, h29, hm⟩ := bind_s hm
    refine q_vu [qd 3 (dex (cen [] [] 8 0 (worth_view_worth_x v28) (worth_view_worth_o v28) [66, 67, 68] [3, 4])) (callS (K := (kx E 88 0)) (b := false) ⟨[(66, va [cs v14.1.product.Name, ci v14.1.product.Thick, ci v14.1.product.Width, ci v14.1.product.Allow, ci v14.1.product.Wane, tl e_i64 default v14.1.product.Lengths, tl e_i64 default v14.1.product.Prices, ci v14.1.rect.X.A, ci v14.1.rect.X.B, ci v14.1.rect.Y.A, ci v14.1.rect.Y.B, ci v14.1.length, .own 3 0 3 v14.1.zones.length, .own 4 0 7 v14.1.defects.length]), (67, va [ci x19, ci (w64 (x19 + (a3.Lengths.getD x24.toNat default)))]), (68, vi a6)], [(3, ro 0 195 3 v14.1.zones.length (rf e_Worth_zone v14.1.zones)), (4, ro 0 59 7 v14.1.defects.length (rf e_Defect v14.1.defects))]⟩ (opAt (rg Tryd.f76 16683622) 3) [] [] 8 (o1 (And.intro (Nat.le_refl v14.1.zones.length) (Nat.le_refl v14.1.defects.length))) rfl (worth_view_worth_ok (Worth_view.mk v14.1.product v14.1.rect v14.1.length v14.1.zones v14.1.defects) (Span.mk x19 (w64 (x19 + (a3.Lengths.getD x24.toNat default)))) a6 v28 h29) (.inr ⟨(by kernel_rfl), worth_view_worth_f v28⟩) (by kernel_rfl))] 8 [] [(24, vi v28.1), (25, vb v28.2)] [] [] ?_
    refine q_jn (ι := Bool) (fun p => worth_Best_k4_S a3 a5 a6 v14 x19 x22 x23 x24 x25 v28 p) (fun p => worth_Best_k4 a3 x19 x22 x23 x24 x25 (worth_Best_L3 a3 a6 v14 x19 n) v28 p = some res) ?_ ?_
    ·rintro x32 hm
     show H _ (worth_Best_k4_S a3 a5 a6 v14 x19 x22 x23 x24 x25 v28 x32) _ _
     refine q_cn x32 (fun b33 => ?_) (fun b33 => ?_)
     ·replace hm := bif_t b33 hm
      refine q_vu [] 8 [18, 19, 23, 24, 81] [(18, vi v28.1), (19, vb true)] [6, 7] [(6, bx 33 [ci x19, ci (w64 (x19 + (a3.Lengths.getD x24.toNat default)))])] ?_
      exact q_J (v28.1, true, (Span.mk x19 (w64 (x19 + (a3.Lengths.getD x24.toNat default))))) hm
     ·replace hm := bif_f b33 hm
      refine q_sk ?_
      exact q_J (x22, x23, x25) hm
    ·rcases Bool.eq_false_or_eq_true v28.2 with b30 | b30
     ·replace hm := bif_t b30 hm
      rcases Bool.eq_false_or_eq_true (!x23) with b31 | b31
      ·replace hm := bif_t b31 hm
       refine q_vu [qf 1 b30, qf 4 b31] 8 [25] [(74, vb x23), (75, vb (!x23)), (76, vb true), (80, vb true), (81, vb true)] [] [] ?_
       exact q_J (true) hm
      ·replace hm := bif_f b31 hm
       refine q_vu [qf 1 b30, qf 4 b31] 8 [25] [(74, vb x23), (75, vb (!x23)), (76, vb false), (77, vi v28.1), (78, vi x22), (79, vb (decide (v28.1 > x22))), (80, vb (decide (v28.1 > x22))), (81, vb (decide (v28.1 > x22)))] [] [] ?_
       exact q_J (decide (v28.1 > x22)) hm
     ·replace hm := bif_f b30 hm
      refine q_vu [qf 1 b30] 8 [25] [(81, vb false)] [] [] ?_
      exact q_J (false) hm
  ·replace hm := bif_f b26 hm
   refine q_ex 2 ?_
   obtain rfl := Option.some.inj hm
   exact L0_mk (by kernel_rfl) (by kernel_rfl)

set_option maxRecDepth 100000 in
theorem worth_Best_L2_ok (E : Env 0) (a3 : Product) (a5 : Int) (a6 : Int) (v14 : Worth_view × Bool) : ∀ (n : Nat) (x17 : Int) (x18 : Bool) (x19 : Int) (x20 : Span) (res : Int × Bool × Span), worth_Best_L2 a3 a5 a6 v14 n x17 x18 x19 x20 = some res → HL (kx E 88 0) (nd Tryd.f76 2036) (loopQ0 0 (fun o => worth_Best_L2_T o.1 o.2.1 o.2.2) res) n (worth_Best_L2_S a3 a5 a6 v14 x17 x18 x19 x20) := by
 intro n
 induction n with
 | zero =>
  intro x17 x18 x19 x20 res hm
  cases hm
 | succ n ih =>
  intro x17 x18 x19 x20 res hm
  refine HL_succ ?_
  refine q_sq ?_
  refine q_sq ?_
  refine q_vu [] 7 [] [(49, vb (decide (x19 < v14.1.length)))] [] [] ?_
  refine q_cn (decide (x19 < v14.1.length)) (fun b21 => ?_) (fun b21 => ?_)
  ·replace hm := bif_t b21 hm
   refine q_sk ?_
   refine q_sq ?_
   refine q_bk 1 ?_
   refine q_sq ?_
   refine q_vu [] 7 [49] [(54, vc (tl e_i64 default a3.Lengths)), (55, vi ((a3.Lengths.length : Nat) : Int)), (56, vi 0)] [] [] ?_
   obtain ⟨o40, h41, hm⟩ := bind_s hm
   refine R_loop0 (nd Tryd.f76 130340) 2 (by kernel_rfl) FUEL (fun o => worth_Best_L3_T a3 a5 a6 v14 x19 o.1 o.2.1 o.2.2) o40 (q_hl (worth_Best_L3_S a3 a5 a6 v14 x19 x17 x18 0 x20) (worth_Best_L3_ok E a3 a5 a6 v14 x19 FUEL x17 x18 0 x20 o40 h41)) ?_
   refine q_vu [] 7 [20] [(20, vi (w64 (x19 + a5)))] [] [] ?_
   exact q_hl (worth_Best_L2_S a3 a5 a6 v14 o40.1 o40.2.1 (w64 (x19 + a5)) o40.2.2) (ih o40.1 o40.2.1 (w64 (x19 + a5)) o40.2.2 _ hm)
  ·replace hm := bif_f b21 hm
   refine q_ex 0 ?_
   obtain rfl := Option.some.inj hm
   exact L0_mk (by kernel_rfl) (by kernel_rfl)

set_option maxRecDepth 100000 in
theorem worth_Best_ok (a1 : List Slice) (a2 : List Defect) (a3 : Product) (a4 : Rect) (a5 : Int) (a6 : Int) (r : Span × Int × Bool) (hm : worth_Best a1 a2 a3 a4 a5 a6 = some r) : CtX Tryd.prog globs 76 0 0 [.one (tl e_Slice default a1), .one (tl e_Defect default a2), .agg (e_Product a3), .agg (e_Rect a4), .one (ci a5), .one (ci a6)] [] (worth_Best_x r) (worth_Best_o r) := by
 unfold worth_Best at hm
 refine q_E Tryd.f76 88 fun E => ?_
 refine q_sq ?_
 refine q_vn [] 0 ⟨[(0, vc (tl e_Slice default a1)), (1, vc (tl e_Defect default a2)), (4, vi a5), (5, vi a6), (8, vp 0 0), (9, vp 1 0), (12, vp 2 0)], [(0, bx 43 (e_Product a3)), (1, bx 35 (e_Rect a4)), (2, bx 33 [ci 0, ci 0])]⟩ ?_
 refine q_sq ?_
 refine q_jn (ι := Bool) (fun p => worth_Best_k1_S a1 a2 a3 a4 a5 a6 p) (fun p => worth_Best_k1 a1 a2 a3 a4 a5 a6 p = some r) ?_ ?_
 ·rintro x12 hm
  show H _ (worth_Best_k1_S a1 a2 a3 a4 a5 a6 x12) _ _
  refine q_cn x12 (fun b13 => ?_) (fun b13 => ?_)
  ·replace hm := bif_t b13 hm
   refine q_sq ?_
   refine q_vu [] 3 [0, 1, 4, 5, 8, 9, 33] [(13, vi 0), (14, vb false)] [0, 1] [] ?_
   obtain rfl := Option.some.inj hm
   refine q_rt ?_
   exact q_rm
  ·replace hm := bif_f b13 hm
   refine q_sk ?_
   refine q_sq ?_
   obtain ⟨v14, h15, hm⟩ := bind_s hm
   refine q_vu [qc 4 [36, 37, 38, 39] 3 (worth_look_ok a1 a2 a3 a4 v14 h15)] 3 [0, 1, 9, 33] [(15, vp 5 0), (16, vb v14.2)] [1] [(3, ro 0 195 3 v14.1.zones.length (rf e_Worth_zone v14.1.zones)), (4, ro 0 59 7 v14.1.defects.length (rf e_Defect v14.1.defects)), (5, bx 175 [cs v14.1.product.Name, ci v14.1.product.Thick, ci v14.1.product.Width, ci v14.1.product.Allow, ci v14.1.product.Wane, tl e_i64 default v14.1.product.Lengths, tl e_i64 default v14.1.product.Prices, ci v14.1.rect.X.A, ci v14.1.rect.X.B, ci v14.1.rect.Y.A, ci v14.1.rect.Y.B, ci v14.1.length, .own 3 0 3 v14.1.zones.length, .own 4 0 7 v14.1.defects.length])] ?_
   refine q_sq ?_
   refine q_sq ?_
   refine q_vu [] 6 [16] [(44, vb (!v14.2))] [] [] ?_
   refine q_cn (!v14.2) (fun b16 => ?_) (fun b16 => ?_)
   ·replace hm := bif_t b16 hm
    refine q_sq ?_
    refine q_vu [] 6 [4, 5, 8, 15, 44] [(13, vi 0), (14, vb false)] [0, 3, 4, 5] [] ?_
    obtain rfl := Option.some.inj hm
    refine q_rt ?_
    exact q_rm
   ·replace hm := bif_f b16 hm
    refine q_sk ?_
    refine q_sq ?_
    refine q_vu [] 6 [44] [(17, vp 6 0)] [] [(6, bx 33 [ci 0, ci 0])] ?_
    refine q_sq ?_
    refine q_vu [] 7 [] [(18, vi 0), (19, vb false)] [] [] ?_
    refine q_sq ?_
    refine q_sq ?_
    refine q_vu [] 7 [] [(20, vi 0)] [] [] ?_
    obtain ⟨o45, h46, hm⟩ := bind_s hm
    refine R_loop0 (nd Tryd.f76 2036) 0 (by kernel_rfl) FUEL (fun o => worth_Best_L2_T o.1 o.2.1 o.2.2) o45 (q_hl (worth_Best_L2_S a3 a5 a6 v14 0 false 0 (Span.mk 0 0)) (worth_Best_L2_ok E a3 a5 a6 v14 FUEL 0 false 0 (Span.mk 0 0) o45 h46)) ?_
    refine q_sq ?_
    refine q_vn [] 7 ⟨[(12, vp 2 0), (13, vi o45.1), (14, vb o45.2.1)], [(2, bx 33 (e_Span o45.2.2))]⟩ ?_
    obtain rfl := Option.some.inj hm
    refine q_rt ?_
    exact q_rm
 ·obtain ⟨v7, h8, hm⟩ := bind_s hm
  rcases Bool.eq_false_or_eq_true (!v7) with b9 | b9
  ·replace hm := bif_t b9 hm
   refine q_vu [qc 1 [26] 3 (worth_isStep_ok a5 v7 h8), qf 3 b9] 3 [] [(33, vb true)] [] [] ?_
   exact q_J (true) hm
  ·replace hm := bif_f b9 hm
   obtain ⟨v10, h11, hm⟩ := bind_s hm
   refine q_vu [qc 1 [26] 3 (worth_isStep_ok a5 v7 h8), qf 3 b9, qk 5 [29, 30] 3 ⟨[(29, vb false), (30, vi a6)], []⟩ (worth_isFine_ok a6 v10 h11)] 3 [] [(33, vb (!v10))] [] [] ?_
   exact q_J (!v10) hm

end Saw
end Go.SL

namespace Go.SL
namespace Saw
open Go.Proofs
set_option maxHeartbeats 4000000

def solid_extents_x (r : (List Span)) : V := vo 0 0 2 r.length

def solid_extents_o (r : (List Span)) : List (Nat × (Nat × O)) := [(0, ro 0 33 2 r.length (rf e_Span r))]

theorem solid_extents_f (r : (List Span)) : Frozen (solid_extents_o r) := by
 intro i k o h
 unfold solid_extents_o at h
 rw [look_cons] at h
 split at h
 ·cases h; exact fun _ _ => rfl
 ·cases h

def solid_extents_L1_S (a1 : List Slice) (l3 : List Span) (l3n : Nat) (x4 : Int) (x5 : Int) : St :=
 ⟨[(3, vo 0 0 2 l3n), (4, vi x4), (10, vc (tl e_Slice default a1)), (11, vi ((a1.length : Nat) : Int)), (12, vi x5)], [(0, ro 0 33 2 l3n (rf e_Span l3))]⟩

def solid_extents_L1_T (l9 : List Span) : St :=
 ⟨[(3, vo 0 0 2 l9.length)], [(0, ro 0 33 2 l9.length (rf e_Span l9))]⟩

set_option maxRecDepth 100000 in
theorem solid_extents_L1_ok (E : Env 0) (a1 : List Slice) : ∀ (n : Nat) (l3 : List Span) (l3n : Nat) (x4 : Int) (x5 : Int) (res : (List Span)), l3.length = l3n → solid_extents_L1 a1 n l3 x4 x5 = some res → HL (kx E 32 0) (nd Tryd.f34 244) (loopQ0 0 (fun o => solid_extents_L1_T o) res) n (solid_extents_L1_S a1 l3 l3n x4 x5) := by
 intro n
 induction n with
 | zero =>
  intro l3 l3n x4 x5 res hl0 hm
  cases hm
 | succ n ih =>
  intro l3 l3n x4 x5 res hl0 hm
  subst hl0
  refine HL_succ ?_
  refine q_sq ?_
  refine q_vu [] 1 [] [(13, vb (decide (x5 < ((a1.length : Nat) : Int))))] [] [] ?_
  refine q_sq ?_
  refine q_cn (decide (x5 < ((a1.length : Nat) : Int))) (fun b6 => ?_) (fun b6 => ?_)
  ·replace hm := bif_t b6 hm
   refine q_sk ?_
   refine q_sq ?_
   refine q_bk 1 ?_
   refine q_sq ?_
   obtain ⟨g7, hm⟩ := bif_n hm
   refine q_vu [qd 1 (Dir.none) (inb_of g7)] 1 [13] [(5, vi x5), (6, vp 1 0)] [] [(1, bx 54 [ci ((a1.getD x5.toNat default).Len), ci (((a1.getD x5.toNat default).Sec).Low), tl e_Span default (((a1.getD x5.toNat default).Sec).Rows)])] ?_
   refine q_sq ?_
   obtain ⟨g8, hm⟩ := bif_n hm
   refine q_vu [qd 8 (Dir.none) (inb_of g8), qd 9 (drw 0 0 (rf e_Span (l3.set x5.toNat (Span.mk x4 (w64 (x4 + ((a1.getD x5.toNat default).Len))))))) (stP e_Span default (Span.mk x4 (w64 (x4 + ((a1.getD x5.toNat default).Len)))) l3 l3.length x5.toNat 0 [ci x4, ci (w64 (x4 + ((a1.getD x5.toNat default).Len)))] rfl (toNat_lt (inb_of g8)) rfl)] 2 [5] [] [0] [(0, ro 0 33 2 l3.length (rf e_Span (l3.set x5.toNat (Span.mk x4 (w64 (x4 + ((a1.getD x5.toNat default).Len)))))))] ?_
   refine q_vu [] 2 [4, 6] [(4, vi (w64 (x4 + ((a1.getD x5.toNat default).Len))))] [1] [] ?_
   refine q_vu [] 2 [12] [(12, vi (w64 (x5 + 1)))] [] [] ?_
   exact q_hl (solid_extents_L1_S a1 (l3.set x5.toNat (Span.mk x4 (w64 (x4 + ((a1.getD x5.toNat default).Len))))) l3.length (w64 (x4 + ((a1.getD x5.toNat default).Len))) (w64 (x5 + 1))) (ih (l3.set x5.toNat (Span.mk x4 (w64 (x4 + ((a1.getD x5.toNat default).Len))))) l3.length (w64 (x4 + ((a1.getD x5.toNat default).Len))) (w64 (x5 + 1)) _ (len_set rfl) hm)
  ·replace hm := bif_f b6 hm
   refine q_ex 0 ?_
   obtain rfl := Option.some.inj hm
   exact L0_mk (by kernel_rfl) (by kernel_rfl)

set_option maxRecDepth 100000 in
theorem solid_extents_ok (a1 : List Slice) (r : (List Span)) (hm : solid_extents a1 = some r) : CtX Tryd.prog globs 34 0 0 [.one (tl e_Slice default a1)] [] (solid_extents_x r) (solid_extents_o r) := by
 unfold solid_extents at hm
 refine q_E Tryd.f34 32 fun E => ?_
 refine q_sq ?_
 refine q_vn [] 0 ⟨[(0, vc (tl e_Slice default a1))], []⟩ ?_
 refine q_sq ?_
 obtain ⟨g2, hm⟩ := bif_n hm
 refine q_vu [qd 2 (drw 0 0 (rf e_Span (List.replicate (((a1.length : Nat) : Int).toNat) (Span.mk 0 0)))) (mkP e_Span default (Span.mk 0 0) ((a1.length : Nat) : Int) 16 [ci 0, ci 0] (mkOk_of g2) rfl)] 0 [] [(3, vo 0 0 2 (((a1.length : Nat) : Int).toNat))] [] [(0, ro 0 33 2 (((a1.length : Nat) : Int).toNat) (rf e_Span (List.replicate (((a1.length : Nat) : Int).toNat) (Span.mk 0 0))))] ?_
 refine q_sq ?_
 refine q_vu [] 1 [] [(4, vi 0)] [] [] ?_
 refine q_sq ?_
 refine q_sq ?_
 refine q_vu [] 1 [0] [(10, vc (tl e_Slice default a1)), (11, vi ((a1.length : Nat) : Int)), (12, vi 0)] [] [] ?_
 obtain ⟨o10, h11, hm⟩ := bind_s hm
 refine R_loop0 (nd Tryd.f34 244) 0 (by kernel_rfl) FUEL (fun o => solid_extents_L1_T o) o10 (q_hl (solid_extents_L1_S a1 (List.replicate (((a1.length : Nat) : Int).toNat) (Span.mk 0 0)) (((a1.length : Nat) : Int).toNat) 0 0) (solid_extents_L1_ok E a1 FUEL (List.replicate (((a1.length : Nat) : Int).toNat) (Span.mk 0 0)) (((a1.length : Nat) : Int).toNat) 0 0 o10 len_rep h11)) ?_
 refine q_sq ?_
 refine q_vu [] 1 [3] [(2, vo 0 0 2 o10.length)] [] [] ?_
 obtain rfl := Option.some.inj hm
 refine q_rt ?_
 exact q_rm

end Saw
end Go.SL
