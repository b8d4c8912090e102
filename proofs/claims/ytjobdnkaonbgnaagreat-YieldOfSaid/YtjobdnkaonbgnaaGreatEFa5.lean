import Derived.Test.YtjobdnkaonbgnaaGreatEBase
import Derived.Test.YtjobdnkaonbgnaaGreatEFa1
import Derived.Test.YtjobdnkaonbgnaaGreatEFa4
import Derived.Test.YtjobdnkaonbgnaaGreatEFa2
set_option linter.unusedVariables false
set_option linter.unusedSimpArgs false
namespace Go.SL
namespace Saw
open Go.Proofs
set_option maxHeartbeats 4000000
set_option maxRecDepth 100000
def qLq (r : (List Worth_zone)) : V := vo 0 0 3 r.length
def qK9 (r : (List Worth_zone)) : List (Nat × (Nat × O)) := [(0, ro 0 187 3 r.length (rf qN r))]
def HQ (a1 : List Slice) (a2 : Rect) (l3 : List Worth_zone) (l3n : Nat) (x4 : Int) (x5 : Int) : St :=
 ⟨[(3, vp 0 0), (5, vi (w64 ((w64 (a2.X.B - a2.X.A)) * (w64 (a2.Y.B - a2.Y.A))))), (6, vo 1 0 3 l3n), (7, vi x4), (27, vc (tl qH default a1)), (28, vi ((a1.length : Nat) : Int)), (29, vi x5)], [(0, bx 28 (qE a2)), (1, ro 0 187 3 l3n (rf qN l3))]⟩
def qBC (l12 : List Worth_zone) : St :=
 ⟨[(6, vo 1 0 3 l12.length)], [(1, ro 0 187 3 l12.length (rf qN l12))]⟩
theorem qFY (E : Env 0) (a1 : List Slice) (a2 : Rect) : ∀ (n : Nat) (l3 : List Worth_zone) (l3n : Nat) (x4 : Int) (x5 : Int) (res : (List Worth_zone)), l3.length = l3n → YR a1 a2 n l3 x4 x5 = some res → HL (kx E 61 0) (nd Tryz.f104 500) (wC 0 (fun o => qBC o) res) n (HQ a1 a2 l3 l3n x4 x5) := by
 intro n
 induction n with
 | zero =>
  intro l3 l3n x4 x5 res hl0 hm
  cases hm
 | succ n ih =>
  intro l3 l3n x4 x5 res hl0 hm
  subst hl0
  refine qQ ?_
  refine s_vu [] 2 [] [(30, vb (decide (x5 < ((a1.length : Nat) : Int))))] [] [] ?_
  refine q_sq ?_
  refine q_cn (decide (x5 < ((a1.length : Nat) : Int))) (fun b6 => ?_) (fun b6 => ?_)
  ·replace hm := qB b6 hm
   refine q_sk ?_
   refine q_sq ?_
   refine q_bk 1 ?_
   obtain ⟨g7, hm⟩ := qM hm
   refine s_vu [qd 0 (Dir.none) (inb_of g7)] 2 [30] [(9, vp 2 0)] [] [(2, bx 59 [ci ((a1.getD x5.toNat default).Len), ci (((a1.getD x5.toNat default).Sec).Low), tl e_Span default (((a1.getD x5.toNat default).Sec).Rows)])] ?_
   obtain ⟨v8, h9, hm⟩ := qD hm
   refine s_vu [qc 4 [35, 36] 3 (CY ((a1.getD x5.toNat default).Sec) a2 v8 h9)] 3 [] [(10, vi (w64 ((w64 ((w64 (a2.X.B - a2.X.A)) * (w64 (a2.Y.B - a2.Y.A)))) - v8)))] [] [] ?_
   refine s_vu [] 3 [7, 9] [(11, vp 3 0)] [2] [(3, bx 26 [ci x4, ci (w64 (x4 + ((a1.getD x5.toNat default).Len)))])] ?_
   obtain ⟨g10, hm⟩ := qM hm
   obtain ⟨g11, hm⟩ := qM hm
   refine s_du [qd 8 (Dir.none) (qIE g10), qd 10 (drw 4 0 (rf qN ([(Worth_zone.mk (Span.mk x4 (w64 (x4 + ((a1.getD x5.toNat default).Len)))) (w64 (Int.tdiv (w64 ((w64 ((w64 (1000 * (w64 ((w64 ((w64 (a2.X.B - a2.X.A)) * (w64 (a2.Y.B - a2.Y.A)))) - v8)))) + (w64 ((w64 (a2.X.B - a2.X.A)) * (w64 (a2.Y.B - a2.Y.A)))))) - 1)) (w64 ((w64 (a2.X.B - a2.X.A)) * (w64 (a2.Y.B - a2.Y.A)))))))] : List Worth_zone))) (litP qN default 3 (fun _ => rfl) ([(Worth_zone.mk (Span.mk x4 (w64 (x4 + ((a1.getD x5.toNat default).Len)))) (w64 (Int.tdiv (w64 ((w64 ((w64 (1000 * (w64 ((w64 ((w64 (a2.X.B - a2.X.A)) * (w64 (a2.Y.B - a2.Y.A)))) - v8)))) + (w64 ((w64 (a2.X.B - a2.X.A)) * (w64 (a2.Y.B - a2.Y.A)))))) - 1)) (w64 ((w64 (a2.X.B - a2.X.A)) * (w64 (a2.Y.B - a2.Y.A)))))))] : List Worth_zone) 1 rfl), qd 11 (drw 1 1 (rf qN (l3 ++ ([(Worth_zone.mk (Span.mk x4 (w64 (x4 + ((a1.getD x5.toNat default).Len)))) (w64 (Int.tdiv (w64 ((w64 ((w64 (1000 * (w64 ((w64 ((w64 (a2.X.B - a2.X.A)) * (w64 (a2.Y.B - a2.Y.A)))) - v8)))) + (w64 ((w64 (a2.X.B - a2.X.A)) * (w64 (a2.Y.B - a2.Y.A)))))) - 1)) (w64 ((w64 (a2.X.B - a2.X.A)) * (w64 (a2.Y.B - a2.Y.A)))))))] : List Worth_zone)))) (apP qN default l3 ([(Worth_zone.mk (Span.mk x4 (w64 (x4 + ((a1.getD x5.toNat default).Len)))) (w64 (Int.tdiv (w64 ((w64 ((w64 (1000 * (w64 ((w64 ((w64 (a2.X.B - a2.X.A)) * (w64 (a2.Y.B - a2.Y.A)))) - v8)))) + (w64 ((w64 (a2.X.B - a2.X.A)) * (w64 (a2.Y.B - a2.Y.A)))))) - 1)) (w64 ((w64 (a2.X.B - a2.X.A)) * (w64 (a2.Y.B - a2.Y.A)))))))] : List Worth_zone) l3.length 1 3 24 (1 ≤ 1) (Nat.le_refl _) rfl rfl (fun _ => rfl) (wV g11))] [0, 0, 0, 4, 0, 28, 60, 0, 252, 510, 1022, 2047, 4095] 4 [6, 10] [(6, vo 1 1 3 (l3.length + 1))] [1] [(1, ro 1 187 3 (l3.length + 1) (rf qN (l3 ++ ([(Worth_zone.mk (Span.mk x4 (w64 (x4 + ((a1.getD x5.toNat default).Len)))) (w64 (Int.tdiv (w64 ((w64 ((w64 (1000 * (w64 ((w64 ((w64 (a2.X.B - a2.X.A)) * (w64 (a2.Y.B - a2.Y.A)))) - v8)))) + (w64 ((w64 (a2.X.B - a2.X.A)) * (w64 (a2.Y.B - a2.Y.A)))))) - 1)) (w64 ((w64 (a2.X.B - a2.X.A)) * (w64 (a2.Y.B - a2.Y.A)))))))] : List Worth_zone))))] ?_
   refine q_vu [] 5 [11] [(7, vi (w64 (x4 + ((a1.getD x5.toNat default).Len))))] [3] [] ?_
   refine q_vu [] 5 [29] [(29, vi (w64 (x5 + 1)))] [] [] ?_
   exact q_hl (HQ a1 a2 (l3 ++ ([(Worth_zone.mk (Span.mk x4 (w64 (x4 + ((a1.getD x5.toNat default).Len)))) (w64 (Int.tdiv (w64 ((w64 ((w64 (1000 * (w64 ((w64 ((w64 (a2.X.B - a2.X.A)) * (w64 (a2.Y.B - a2.Y.A)))) - v8)))) + (w64 ((w64 (a2.X.B - a2.X.A)) * (w64 (a2.Y.B - a2.Y.A)))))) - 1)) (w64 ((w64 (a2.X.B - a2.X.A)) * (w64 (a2.Y.B - a2.Y.A)))))))] : List Worth_zone)) (l3.length + 1) (w64 (x4 + ((a1.getD x5.toNat default).Len))) (w64 (x5 + 1))) (ih (l3 ++ ([(Worth_zone.mk (Span.mk x4 (w64 (x4 + ((a1.getD x5.toNat default).Len)))) (w64 (Int.tdiv (w64 ((w64 ((w64 (1000 * (w64 ((w64 ((w64 (a2.X.B - a2.X.A)) * (w64 (a2.Y.B - a2.Y.A)))) - v8)))) + (w64 ((w64 (a2.X.B - a2.X.A)) * (w64 (a2.Y.B - a2.Y.A)))))) - 1)) (w64 ((w64 (a2.X.B - a2.X.A)) * (w64 (a2.Y.B - a2.Y.A)))))))] : List Worth_zone)) (l3.length + 1) (w64 (x4 + ((a1.getD x5.toNat default).Len))) (w64 (x5 + 1)) _ (len_app rfl rfl) hm)
  ·replace hm := qC b6 hm
   refine q_ex 0 ?_
   obtain rfl := oi hm
   exact jP (by kernel_rfl) (by kernel_rfl)
theorem qJW (a1 : List Slice) (a2 : Rect) (r : (List Worth_zone)) (hm : LR a1 a2 = some r) : CtX Tryz.prog globs 104 0 0 [.one (tl qH default a1), .agg (qE a2)] [] (qLq r) (qK9 r) := by
 unfold LR at hm
 refine q_E Tryz.f104 61 fun E => ?_
 refine s_vn [] 0 ⟨[(0, vc (tl qH default a1)), (3, vp 0 0)], [(0, bx 28 (qE a2))]⟩ ?_
 refine s_vu [] 1 [] [(5, vi (w64 ((w64 (a2.X.B - a2.X.A)) * (w64 (a2.Y.B - a2.Y.A)))))] [] [] ?_
 refine s_vu [] 1 [] [(6, vc (.emp))] [] [] ?_
 refine s_vu [] 1 [] [(7, vi 0)] [] [] ?_
 refine q_sq ?_
 refine s_vu [] 1 [0] [(27, vc (tl qH default a1)), (28, vi ((a1.length : Nat) : Int)), (29, vi 0)] [] [] ?_
 refine q_fn [.own 6 1 187 3 (rf qN ([] : List Worth_zone))] ⟨[(3, vp 0 0), (5, vi (w64 ((w64 (a2.X.B - a2.X.A)) * (w64 (a2.Y.B - a2.Y.A))))), (6, vo 1 0 3 0), (7, vi 0), (27, vc (tl qH default a1)), (28, vi ((a1.length : Nat) : Int)), (29, vi 0)], [(0, bx 28 (qE a2)), (1, ro 0 187 3 0 (rf qN ([] : List Worth_zone)))]⟩ o0 ?_
 obtain ⟨o13, h14, hm⟩ := qD hm
 refine zX (nd Tryz.f104 500) 0 (by kernel_rfl) FUEL (fun o => qBC o) o13 (q_hl (HQ a1 a2 ([] : List Worth_zone) 0 0 0) (qFY E a1 a2 FUEL ([] : List Worth_zone) 0 0 0 o13 rfl h14)) ?_
 refine s_vu [] 2 [6] [(4, vo 1 0 3 o13.length)] [] [] ?_
 obtain rfl := oi hm
 refine qS 1 0 (by kernel_rfl) ?_
 refine q_rt ?_
 exact q_rm
def AT (r : Bool) : V := vb r
def ID (r : Bool) : List (Nat × (Nat × O)) := []
def qAo (a1 : Rect) (x2 : Int) (x7 : Bool) : St :=
 ⟨[(9, va (qE a1)), (10, vi x2), (27, vb x7)], []⟩
def FU (a1 : Rect) (x2 : Int) : St :=
 ⟨[(9, va (qE a1)), (10, vi x2)], []⟩
def CP : St :=
 ⟨[], []⟩
theorem qFi (E : Env 0) (a1 : Rect) : ∀ (n : Nat) (x2 : Int) (res : Bool ⊕ Unit), wB a1 n x2 = some res → HL (kx E 29 0) (nd Tryz.f103 52) (wN 0 (fun o => CP) (fun v st => RetQ Tryz.prog Tryz.f103 (AT v) (ID v) .ret st) res) n (FU a1 x2) := by
 intro n
 induction n with
 | zero =>
  intro x2 res hm
  cases hm
 | succ n ih =>
  intro x2 res hm
  refine qQ ?_
  refine s_vu [] 1 [] [(11, vb (decide (x2 < 2)))] [] [] ?_
  refine q_sq ?_
  refine q_cn (decide (x2 < 2)) (fun b3 => ?_) (fun b3 => ?_)
  ·replace hm := qB b3 hm
   refine q_sk ?_
   refine q_sq ?_
   refine q_bk 1 ?_
   obtain ⟨g4, hm⟩ := qM hm
   refine s_vu [qd 0 (Dir.none) (inb_of g4)] 1 [11] [(4, vp 1 0)] [] [(1, bx 26 [ci (([a1.X.A, a1.X.B, a1.Y.A, a1.Y.B] : List Int).getD (x2.toNat * 2 + 0) 0), ci (([a1.X.A, a1.X.B, a1.Y.A, a1.Y.B] : List Int).getD (x2.toNat * 2 + 1) 0)])] ?_
   refine q_jn (ι := Bool) (fun p => qAo a1 x2 p) (fun p => yT x2 (wB a1 n) p = some res) ?_ ?_
   ·rintro x7 hm
    show H _ (qAo a1 x2 x7) _ _
    refine q_cn x7 (fun b8 => ?_) (fun b8 => ?_)
    ·replace hm := qB b8 hm
     refine s_vn [] 2 ⟨[(2, vb false)], []⟩ ?_
     obtain rfl := oi hm
     refine q_rt ?_
     refine zB false ?_
     exact q_rm
    ·replace hm := qC b8 hm
     refine q_sk ?_
     refine q_vu [] 2 [10, 27] [(10, vi (w64 (x2 + 1)))] [] [] ?_
     exact q_hl (FU a1 (w64 (x2 + 1))) (ih (w64 (x2 + 1)) _ hm)
   ·rcases Bool.eq_false_or_eq_true (decide ((([a1.X.A, a1.X.B, a1.Y.A, a1.Y.B] : List Int).getD (x2.toNat * 2 + 0) 0) < (-600))) with b5 | b5
    ·replace hm := qB b5 hm
     refine q_vu [qf 3 b5] 2 [4] [(27, vb true)] [1] [] ?_
     exact q_J (true) hm
    ·replace hm := qC b5 hm
     rcases Bool.eq_false_or_eq_true (decide ((([a1.X.A, a1.X.B, a1.Y.A, a1.Y.B] : List Int).getD (x2.toNat * 2 + 1) 0) > 600)) with b6 | b6
     ·replace hm := qB b6 hm
      refine q_vu [qf 3 b5, qf 8 b6] 2 [4] [(27, vb true)] [1] [] ?_
      exact q_J (true) hm
     ·replace hm := qC b6 hm
      refine q_vu [qf 3 b5, qf 8 b6] 2 [4] [(27, vb (decide ((([a1.X.A, a1.X.B, a1.Y.A, a1.Y.B] : List Int).getD (x2.toNat * 2 + 0) 0) ≥ (([a1.X.A, a1.X.B, a1.Y.A, a1.Y.B] : List Int).getD (x2.toNat * 2 + 1) 0))))] [1] [] ?_
      exact q_J (decide ((([a1.X.A, a1.X.B, a1.Y.A, a1.Y.B] : List Int).getD (x2.toNat * 2 + 0) 0) ≥ (([a1.X.A, a1.X.B, a1.Y.A, a1.Y.B] : List Int).getD (x2.toNat * 2 + 1) 0))) hm
  ·replace hm := qC b3 hm
   refine q_ex 0 ?_
   obtain rfl := oi hm
   exact wR () (by kernel_rfl) (by kernel_rfl)
theorem qIv (a1 : Rect) (r : Bool) (hm : BP a1 = some r) : CtX Tryz.prog globs 103 0 0 [.agg (qE a1)] [] (AT r) (ID r) := by
 unfold BP at hm
 refine q_E Tryz.f103 29 fun E => ?_
 refine s_vn [] 0 ⟨[(1, vp 0 0)], [(0, bx 28 (qE a1))]⟩ ?_
 refine q_sq ?_
 refine s_vn [] 1 ⟨[(9, va (qE a1)), (10, vi 0)], []⟩ ?_
 obtain ⟨u11, h10, hm⟩ := qD hm
 refine zP (nd Tryz.f103 52) 0 (by kernel_rfl) FUEL (fun o => CP) (fun v st => RetQ Tryz.prog Tryz.f103 (AT v) (ID v) .ret st) u11 (q_hl (FU a1 0) (qFi E a1 FUEL 0 u11 h10)) ?_ ?_
 ·rintro v12 rfl st hr
  obtain rfl := oi hm
  exact hr
 ·rintro o9 rfl
  replace hm : _ = some r := hm
  refine s_vn [] 1 ⟨[(2, vb true)], []⟩ ?_
  obtain rfl := oi hm
  refine q_rt ?_
  exact q_rm
def qL2 (r : Worth_view × Bool) : V := .tup [.agg [cs r.1.product.Name, ci r.1.product.Thick, ci r.1.product.Width, ci r.1.product.Allow, ci r.1.product.Wane, tl qO default r.1.product.Lengths, tl qO default r.1.product.Prices, ci r.1.rect.X.A, ci r.1.rect.X.B, ci r.1.rect.Y.A, ci r.1.rect.Y.B, ci r.1.length, .own 0 0 3 r.1.zones.length, .own 1 0 7 r.1.defects.length], .one (cb r.2)]
def qMw (r : Worth_view × Bool) : List (Nat × (Nat × O)) := [(0, ro 0 187 3 r.1.zones.length (rf qN r.1.zones)), (1, ro 0 135 7 r.1.defects.length (rf qI r.1.defects))]
def qCw (a2 : List Defect) (a3 : Product) (a4 : Rect) (v23 : Int) (v25 : (List Worth_zone)) (v27 : Box) (x29 : Int) (l37 : List Defect) (l37n : Nat) : St :=
 ⟨[(8, vp 2 0), (13, vp 6 0), (14, vp 7 0), (83, vc (tl qI default a2)), (84, vi ((a2.length : Nat) : Int)), (85, vi x29)], [(2, bx 128 [cs (ByteArray.mk #[]), ci 0, ci 0, ci 0, ci 0, .emp, .emp, ci 0, ci 0, ci 0, ci 0, ci 0, .emp, .emp]), (5, ro 0 187 3 v25.length (rf qN v25)), (6, bx 128 [cs a3.Name, ci a3.Thick, ci a3.Width, ci a3.Allow, ci a3.Wane, tl qO default a3.Lengths, tl qO default a3.Prices, ci a4.X.A, ci a4.X.B, ci a4.Y.A, ci a4.Y.B, ci v23, .own 5 0 3 v25.length, .own 8 0 7 l37n]), (7, bx 67 (zC v27)), (8, ro 0 135 7 l37n (rf qI l37))]⟩
def SH (a2 : List Defect) (a3 : Product) (a4 : Rect) (v23 : Int) (v25 : (List Worth_zone)) (v27 : Box) (x29 : Int) (l30 : List Defect) (l30n : Nat) : St :=
 ⟨[(8, vp 2 0), (13, vp 6 0), (14, vp 7 0), (83, vc (tl qI default a2)), (84, vi ((a2.length : Nat) : Int)), (85, vi x29)], [(2, bx 128 [cs (ByteArray.mk #[]), ci 0, ci 0, ci 0, ci 0, .emp, .emp, ci 0, ci 0, ci 0, ci 0, ci 0, .emp, .emp]), (5, ro 0 187 3 v25.length (rf qN v25)), (6, bx 128 [cs a3.Name, ci a3.Thick, ci a3.Width, ci a3.Allow, ci a3.Wane, tl qO default a3.Lengths, tl qO default a3.Prices, ci a4.X.A, ci a4.X.B, ci a4.Y.A, ci a4.Y.B, ci v23, .own 5 0 3 v25.length, .own 8 0 7 l30n]), (7, bx 67 (zC v27)), (8, ro 0 135 7 l30n (rf qI l30))]⟩
def qCi (a3 : Product) (a4 : Rect) (v23 : Int) (v25 : (List Worth_zone)) (l38 : List Defect) : St :=
 ⟨[(8, vp 2 0), (13, vp 6 0)], [(2, bx 128 [cs (ByteArray.mk #[]), ci 0, ci 0, ci 0, ci 0, .emp, .emp, ci 0, ci 0, ci 0, ci 0, ci 0, .emp, .emp]), (5, ro 0 187 3 v25.length (rf qN v25)), (6, bx 128 [cs a3.Name, ci a3.Thick, ci a3.Width, ci a3.Allow, ci a3.Wane, tl qO default a3.Lengths, tl qO default a3.Prices, ci a4.X.A, ci a4.X.B, ci a4.Y.A, ci a4.Y.B, ci v23, .own 5 0 3 v25.length, .own 8 0 7 l38.length]), (8, ro 0 135 7 l38.length (rf qI l38))]⟩
def qCF (a1 : List Slice) (a2 : List Defect) (a3 : Product) (a4 : Rect) (x21 : Bool) : St :=
 ⟨[(0, vc (tl qH default a1)), (1, vc (tl qI default a2)), (6, vp 0 0), (7, vp 1 0), (8, vp 2 0), (68, vb x21)], [(0, bx 62 (qA a3)), (1, bx 28 (qE a4)), (2, bx 128 [cs (ByteArray.mk #[]), ci 0, ci 0, ci 0, ci 0, .emp, .emp, ci 0, ci 0, ci 0, ci 0, ci 0, .emp, .emp])]⟩
def qCU (a1 : List Slice) (a2 : List Defect) (a3 : Product) (a4 : Rect) (x16 : Bool) : St :=
 ⟨[(0, vc (tl qH default a1)), (1, vc (tl qI default a2)), (6, vp 0 0), (7, vp 1 0), (8, vp 2 0), (35, vb x16)], [(0, bx 62 (qA a3)), (1, bx 28 (qE a4)), (2, bx 128 [cs (ByteArray.mk #[]), ci 0, ci 0, ci 0, ci 0, .emp, .emp, ci 0, ci 0, ci 0, ci 0, ci 0, .emp, .emp])]⟩
theorem qGZ (E : Env 0) (a2 : List Defect) (a3 : Product) (a4 : Rect) (v23 : Int) (v25 : (List Worth_zone)) (v27 : Box) : ∀ (n : Nat) (x29 : Int) (l30 : List Defect) (l30n : Nat) (res : (List Defect)), l30.length = l30n → ZP a2 v27 n x29 l30 = some res → HL (kx E 100 0) (nd Tryz.f67 4084) (wC 0 (fun o => qCi a3 a4 v23 v25 o) res) n (SH a2 a3 a4 v23 v25 v27 x29 l30 l30n) := by
 intro n
 induction n with
 | zero =>
  intro x29 l30 l30n res hl0 hm
  cases hm
 | succ n ih =>
  intro x29 l30 l30n res hl0 hm
  subst hl0
  refine qQ ?_
  refine s_vu [] 9 [] [(86, vb (decide (x29 < ((a2.length : Nat) : Int))))] [] [] ?_
  refine q_sq ?_
  refine q_cn (decide (x29 < ((a2.length : Nat) : Int))) (fun b31 => ?_) (fun b31 => ?_)
  ·replace hm := qB b31 hm
   refine q_sk ?_
   refine q_jn (ι := (List Defect) × Nat) (fun p => qCw a2 a3 a4 v23 v25 v27 x29 p.1 p.2) (fun p => p.1.length = p.2 ∧ MI x29 (ZP a2 v27 n) p.1 = some res) ?_ ?_
   ·rintro ⟨l37, l37n⟩ ⟨el37, hm⟩
    replace el37 : l37.length = l37n := el37
    subst el37
    show H _ (qCw a2 a3 a4 v23 v25 v27 x29 l37 l37.length) _ _
    refine q_vu [] 11 [85] [(85, vi (w64 (x29 + 1)))] [] [] ?_
    exact q_hl (SH a2 a3 a4 v23 v25 v27 (w64 (x29 + 1)) l37 l37.length) (ih (w64 (x29 + 1)) l37 l37.length _ rfl hm)
   ·refine q_bk 1 ?_
    obtain ⟨g32, hm⟩ := qM hm
    refine s_vu [qd 0 (Dir.none) (inb_of g32)] 9 [86] [(16, vp 9 0)] [] [(9, bx 135 [ci ((a2.getD x29.toNat default).Kind), ci ((((a2.getD x29.toNat default).Box).X).A), ci ((((a2.getD x29.toNat default).Box).X).B), ci ((((a2.getD x29.toNat default).Box).Y).A), ci ((((a2.getD x29.toNat default).Box).Y).B), ci ((((a2.getD x29.toNat default).Box).Z).A), ci ((((a2.getD x29.toNat default).Box).Z).B)])] ?_
    obtain ⟨v33, h34, hm⟩ := qD hm
    refine s_vu [qc 2 [89, 90] 10 (CR (a2.getD x29.toNat default) v27 v33 h34)] 10 [] [(91, vb v33)] [] [] ?_
    refine q_cn v33 (fun b35 => ?_) (fun b35 => ?_)
    ·replace hm := qB b35 hm
     obtain ⟨g36, hm⟩ := qM hm
     refine q_vu [qd 3 (drw 10 0 (rf qI ([(a2.getD x29.toNat default)] : List Defect))) (litP qI default 7 (fun _ => rfl) ([(a2.getD x29.toNat default)] : List Defect) 1 rfl), qd 4 (drw 8 1 (rf qI (l30 ++ ([(a2.getD x29.toNat default)] : List Defect)))) (apP qI default l30 ([(a2.getD x29.toNat default)] : List Defect) l30.length 1 7 56 (1 ≤ 1) (Nat.le_refl _) rfl rfl (fun _ => rfl) (wV g36))] 10 [16, 91] [] [6, 8, 9] [(6, bx 128 [cs a3.Name, ci a3.Thick, ci a3.Width, ci a3.Allow, ci a3.Wane, tl qO default a3.Lengths, tl qO default a3.Prices, ci a4.X.A, ci a4.X.B, ci a4.Y.A, ci a4.Y.B, ci v23, .own 5 0 3 v25.length, .own 8 1 7 (l30.length + 1)]), (8, ro 1 135 7 (l30.length + 1) (rf qI (l30 ++ ([(a2.getD x29.toNat default)] : List Defect))))] ?_
     exact q_J ((l30 ++ ([(a2.getD x29.toNat default)] : List Defect)), (l30.length + 1)) ⟨(len_app rfl rfl), hm⟩
    ·replace hm := qC b35 hm
     refine q_sk ?_
     exact q_J (l30, l30.length) ⟨rfl, hm⟩
  ·replace hm := qC b31 hm
   refine q_ex 0 ?_
   obtain rfl := oi hm
   exact jP (by kernel_rfl) (by kernel_rfl)
theorem qLx (a1 : List Slice) (a2 : List Defect) (a3 : Product) (a4 : Rect) (r : Worth_view × Bool) (hm : EK a1 a2 a3 a4 = some r) : CtX Tryz.prog globs 67 0 0 [.one (tl qH default a1), .one (tl qI default a2), .agg (qA a3), .agg (qE a4)] [] (qL2 r) (qMw r) := by
 unfold EK at hm
 refine q_E Tryz.f67 100 fun E => ?_
 refine s_vn [] 0 ⟨[(0, vc (tl qH default a1)), (1, vc (tl qI default a2)), (6, vp 0 0), (7, vp 1 0), (8, vp 2 0)], [(0, bx 62 (qA a3)), (1, bx 28 (qE a4)), (2, bx 128 [cs (ByteArray.mk #[]), ci 0, ci 0, ci 0, ci 0, .emp, .emp, ci 0, ci 0, ci 0, ci 0, ci 0, .emp, .emp])]⟩ ?_
 refine q_sq ?_
 refine q_jn (ι := Bool) (fun p => qCU a1 a2 a3 a4 p) (fun p => KH a1 a2 a3 a4 p = some r) ?_ ?_
 ·rintro x16 hm
  show H _ (qCU a1 a2 a3 a4 x16) _ _
  refine q_cn x16 (fun b17 => ?_) (fun b17 => ?_)
  ·replace hm := qB b17 hm
   refine s_vu [] 4 [0, 1, 6, 7, 35] [(9, vb false)] [0, 1] [] ?_
   refine q_fn [.ownB 2 5 4 3 1 (rf qO ([] : List Int))] ⟨[(8, vp 2 0), (9, vb false)], [(2, bx 128 [cs (ByteArray.mk #[]), ci 0, ci 0, ci 0, ci 0, .own 4 0 1 0, .emp, ci 0, ci 0, ci 0, ci 0, ci 0, .emp, .emp]), (4, ro 0 3 1 0 (rf qO ([] : List Int)))]⟩ o0 ?_
   refine q_fn [.ownB 2 6 5 3 1 (rf qO ([] : List Int))] ⟨[(8, vp 2 0), (9, vb false)], [(2, bx 128 [cs (ByteArray.mk #[]), ci 0, ci 0, ci 0, ci 0, .own 4 0 1 0, .own 5 0 1 0, ci 0, ci 0, ci 0, ci 0, ci 0, .emp, .emp]), (4, ro 0 3 1 0 (rf qO ([] : List Int))), (5, ro 0 3 1 0 (rf qO ([] : List Int)))]⟩ o0 ?_
   refine q_fn [.ownB 2 12 6 187 3 (rf qN ([] : List Worth_zone))] ⟨[(8, vp 2 0), (9, vb false)], [(2, bx 128 [cs (ByteArray.mk #[]), ci 0, ci 0, ci 0, ci 0, .own 4 0 1 0, .own 5 0 1 0, ci 0, ci 0, ci 0, ci 0, ci 0, .own 6 0 3 0, .emp]), (4, ro 0 3 1 0 (rf qO ([] : List Int))), (5, ro 0 3 1 0 (rf qO ([] : List Int))), (6, ro 0 187 3 0 (rf qN ([] : List Worth_zone)))]⟩ o0 ?_
   refine q_fn [.ownB 2 13 7 135 7 (rf qI ([] : List Defect))] ⟨[(8, vp 2 0), (9, vb false)], [(2, bx 128 [cs (ByteArray.mk #[]), ci 0, ci 0, ci 0, ci 0, .own 4 0 1 0, .own 5 0 1 0, ci 0, ci 0, ci 0, ci 0, ci 0, .own 6 0 3 0, .own 7 0 7 0]), (4, ro 0 3 1 0 (rf qO ([] : List Int))), (5, ro 0 3 1 0 (rf qO ([] : List Int))), (6, ro 0 187 3 0 (rf qN ([] : List Worth_zone))), (7, ro 0 135 7 0 (rf qI ([] : List Defect)))]⟩ o0 ?_
   refine q_fn [.len 4 (([] : List Int).length), .frz 4] ⟨[(8, vp 2 0), (9, vb false)], [(2, bx 128 [cs (ByteArray.mk #[]), ci 0, ci 0, ci 0, ci 0, tl qO default ([] : List Int), .own 5 0 1 0, ci 0, ci 0, ci 0, ci 0, ci 0, .own 6 0 3 0, .own 7 0 7 0]), (5, ro 0 3 1 0 (rf qO ([] : List Int))), (6, ro 0 187 3 0 (rf qN ([] : List Worth_zone))), (7, ro 0 135 7 0 (rf qI ([] : List Defect)))]⟩ (o1 (And.intro (And.intro (show 0 = ([] : List Int).length from rfl) (show 0 = ([] : List Int).length from rfl)) (Nat.le_refl (([] : List Int).length)))) ?_
   refine q_fn [.len 5 (([] : List Int).length), .frz 5] ⟨[(8, vp 2 0), (9, vb false)], [(2, bx 128 [cs (ByteArray.mk #[]), ci 0, ci 0, ci 0, ci 0, tl qO default ([] : List Int), tl qO default ([] : List Int), ci 0, ci 0, ci 0, ci 0, ci 0, .own 6 0 3 0, .own 7 0 7 0]), (6, ro 0 187 3 0 (rf qN ([] : List Worth_zone))), (7, ro 0 135 7 0 (rf qI ([] : List Defect)))]⟩ (o1 (And.intro (And.intro (show 0 = ([] : List Int).length from rfl) (show 0 = ([] : List Int).length from rfl)) (Nat.le_refl (([] : List Int).length)))) ?_
   refine q_fn [.len 6 (([] : List Worth_zone).length)] ⟨[(8, vp 2 0), (9, vb false)], [(2, bx 128 [cs (ByteArray.mk #[]), ci 0, ci 0, ci 0, ci 0, tl qO default ([] : List Int), tl qO default ([] : List Int), ci 0, ci 0, ci 0, ci 0, ci 0, .own 6 0 3 (([] : List Worth_zone).length), .own 7 0 7 0]), (6, ro 0 187 3 (([] : List Worth_zone).length) (rf qN ([] : List Worth_zone))), (7, ro 0 135 7 0 (rf qI ([] : List Defect)))]⟩ (o1 (And.intro (show 0 = ([] : List Worth_zone).length from rfl) (show 0 = ([] : List Worth_zone).length from rfl))) ?_
   refine q_fn [.len 7 (([] : List Defect).length)] ⟨[(8, vp 2 0), (9, vb false)], [(2, bx 128 [cs (ByteArray.mk #[]), ci 0, ci 0, ci 0, ci 0, tl qO default ([] : List Int), tl qO default ([] : List Int), ci 0, ci 0, ci 0, ci 0, ci 0, .own 6 0 3 (([] : List Worth_zone).length), .own 7 0 7 (([] : List Defect).length)]), (6, ro 0 187 3 (([] : List Worth_zone).length) (rf qN ([] : List Worth_zone))), (7, ro 0 135 7 (([] : List Defect).length) (rf qI ([] : List Defect)))]⟩ (o1 (And.intro (show 0 = ([] : List Defect).length from rfl) (show 0 = ([] : List Defect).length from rfl))) ?_
   obtain rfl := oi hm
   refine qS 6 0 (by kernel_rfl) ?_
   refine qS 7 1 (by kernel_rfl) ?_
   refine q_rt ?_
   exact q_rm
  ·replace hm := qC b17 hm
   refine q_sk ?_
   obtain ⟨v18, h19, hm⟩ := qD hm
   refine s_vu [qc 1 [38] 4 (HB a3 v18 h19)] 4 [35] [(10, vi v18.1), (11, vi v18.2)] [] [] ?_
   refine s_vu [] 4 [] [(12, vp 4 0)] [] [(4, bx 165 [ci (w64 (a4.X.B - a4.X.A)), ci (w64 (a4.Y.B - a4.Y.A))])] ?_
   refine q_sq ?_
   refine q_jn (ι := Bool) (fun p => qCF a1 a2 a3 a4 p) (fun p => UO a1 a2 a3 a4 p = some r) ?_ ?_
   ·rintro x21 hm
    show H _ (qCF a1 a2 a3 a4 x21) _ _
    refine q_cn x21 (fun b22 => ?_) (fun b22 => ?_)
    ·replace hm := qB b22 hm
     refine s_vu [] 5 [0, 1, 6, 7, 68] [(9, vb false)] [0, 1] [] ?_
     refine q_fn [.ownB 2 5 5 3 1 (rf qO ([] : List Int))] ⟨[(8, vp 2 0), (9, vb false)], [(2, bx 128 [cs (ByteArray.mk #[]), ci 0, ci 0, ci 0, ci 0, .own 5 0 1 0, .emp, ci 0, ci 0, ci 0, ci 0, ci 0, .emp, .emp]), (5, ro 0 3 1 0 (rf qO ([] : List Int)))]⟩ o0 ?_
     refine q_fn [.ownB 2 6 6 3 1 (rf qO ([] : List Int))] ⟨[(8, vp 2 0), (9, vb false)], [(2, bx 128 [cs (ByteArray.mk #[]), ci 0, ci 0, ci 0, ci 0, .own 5 0 1 0, .own 6 0 1 0, ci 0, ci 0, ci 0, ci 0, ci 0, .emp, .emp]), (5, ro 0 3 1 0 (rf qO ([] : List Int))), (6, ro 0 3 1 0 (rf qO ([] : List Int)))]⟩ o0 ?_
     refine q_fn [.ownB 2 12 7 187 3 (rf qN ([] : List Worth_zone))] ⟨[(8, vp 2 0), (9, vb false)], [(2, bx 128 [cs (ByteArray.mk #[]), ci 0, ci 0, ci 0, ci 0, .own 5 0 1 0, .own 6 0 1 0, ci 0, ci 0, ci 0, ci 0, ci 0, .own 7 0 3 0, .emp]), (5, ro 0 3 1 0 (rf qO ([] : List Int))), (6, ro 0 3 1 0 (rf qO ([] : List Int))), (7, ro 0 187 3 0 (rf qN ([] : List Worth_zone)))]⟩ o0 ?_
     refine q_fn [.ownB 2 13 8 135 7 (rf qI ([] : List Defect))] ⟨[(8, vp 2 0), (9, vb false)], [(2, bx 128 [cs (ByteArray.mk #[]), ci 0, ci 0, ci 0, ci 0, .own 5 0 1 0, .own 6 0 1 0, ci 0, ci 0, ci 0, ci 0, ci 0, .own 7 0 3 0, .own 8 0 7 0]), (5, ro 0 3 1 0 (rf qO ([] : List Int))), (6, ro 0 3 1 0 (rf qO ([] : List Int))), (7, ro 0 187 3 0 (rf qN ([] : List Worth_zone))), (8, ro 0 135 7 0 (rf qI ([] : List Defect)))]⟩ o0 ?_
     refine q_fn [.len 5 (([] : List Int).length), .frz 5] ⟨[(8, vp 2 0), (9, vb false)], [(2, bx 128 [cs (ByteArray.mk #[]), ci 0, ci 0, ci 0, ci 0, tl qO default ([] : List Int), .own 6 0 1 0, ci 0, ci 0, ci 0, ci 0, ci 0, .own 7 0 3 0, .own 8 0 7 0]), (6, ro 0 3 1 0 (rf qO ([] : List Int))), (7, ro 0 187 3 0 (rf qN ([] : List Worth_zone))), (8, ro 0 135 7 0 (rf qI ([] : List Defect)))]⟩ (o1 (And.intro (And.intro (show 0 = ([] : List Int).length from rfl) (show 0 = ([] : List Int).length from rfl)) (Nat.le_refl (([] : List Int).length)))) ?_
     refine q_fn [.len 6 (([] : List Int).length), .frz 6] ⟨[(8, vp 2 0), (9, vb false)], [(2, bx 128 [cs (ByteArray.mk #[]), ci 0, ci 0, ci 0, ci 0, tl qO default ([] : List Int), tl qO default ([] : List Int), ci 0, ci 0, ci 0, ci 0, ci 0, .own 7 0 3 0, .own 8 0 7 0]), (7, ro 0 187 3 0 (rf qN ([] : List Worth_zone))), (8, ro 0 135 7 0 (rf qI ([] : List Defect)))]⟩ (o1 (And.intro (And.intro (show 0 = ([] : List Int).length from rfl) (show 0 = ([] : List Int).length from rfl)) (Nat.le_refl (([] : List Int).length)))) ?_
     refine q_fn [.len 7 (([] : List Worth_zone).length)] ⟨[(8, vp 2 0), (9, vb false)], [(2, bx 128 [cs (ByteArray.mk #[]), ci 0, ci 0, ci 0, ci 0, tl qO default ([] : List Int), tl qO default ([] : List Int), ci 0, ci 0, ci 0, ci 0, ci 0, .own 7 0 3 (([] : List Worth_zone).length), .own 8 0 7 0]), (7, ro 0 187 3 (([] : List Worth_zone).length) (rf qN ([] : List Worth_zone))), (8, ro 0 135 7 0 (rf qI ([] : List Defect)))]⟩ (o1 (And.intro (show 0 = ([] : List Worth_zone).length from rfl) (show 0 = ([] : List Worth_zone).length from rfl))) ?_
     refine q_fn [.len 8 (([] : List Defect).length)] ⟨[(8, vp 2 0), (9, vb false)], [(2, bx 128 [cs (ByteArray.mk #[]), ci 0, ci 0, ci 0, ci 0, tl qO default ([] : List Int), tl qO default ([] : List Int), ci 0, ci 0, ci 0, ci 0, ci 0, .own 7 0 3 (([] : List Worth_zone).length), .own 8 0 7 (([] : List Defect).length)]), (7, ro 0 187 3 (([] : List Worth_zone).length) (rf qN ([] : List Worth_zone))), (8, ro 0 135 7 (([] : List Defect).length) (rf qI ([] : List Defect)))]⟩ (o1 (And.intro (show 0 = ([] : List Defect).length from rfl) (show 0 = ([] : List Defect).length from rfl))) ?_
     obtain rfl := oi hm
     refine qS 7 0 (by kernel_rfl) ?_
     refine qS 8 1 (by kernel_rfl) ?_
     refine q_rt ?_
     exact q_rm
    ·replace hm := qC b22 hm
     refine q_sk ?_
     obtain ⟨v23, h24, hm⟩ := qD hm
     obtain ⟨v25, h26, hm⟩ := qD hm
     refine s_du [qc 3 [72] 5 (qCQ a1 v23 h24), qc 6 [74, 75] 5 (qJW a1 a4 v25 h26)] [0, 0, 0, 4, 0, 0, 60, 127, 0, 511] 5 [0, 6, 7, 68] [(13, vp 6 0)] [0, 1] [(5, ro 0 187 3 v25.length (rf qN v25)), (6, bx 128 [cs a3.Name, ci a3.Thick, ci a3.Width, ci a3.Allow, ci a3.Wane, tl qO default a3.Lengths, tl qO default a3.Prices, ci a4.X.A, ci a4.X.B, ci a4.Y.A, ci a4.Y.B, ci v23, .own 5 0 3 v25.length, .emp])] ?_
     obtain ⟨v27, h28, hm⟩ := qD hm
     refine s_vu [qd 4 (dex (cen [] [] 7 0 (qBT v27) (TW v27) [78, 81] [5])) (ZC (K := (kx E 100 0)) (b := false) ⟨[(78, va [cs a3.Name, ci a3.Thick, ci a3.Width, ci a3.Allow, ci a3.Wane, tl qO default a3.Lengths, tl qO default a3.Prices, ci a4.X.A, ci a4.X.B, ci a4.Y.A, ci a4.Y.B, ci v23, .own 5 0 3 v25.length, .emp]), (81, va [ci 0, ci v23])], [(5, ro 0 187 3 v25.length (rf qN v25))]⟩ (opAt (rg Tryz.f67 254) 4) [] [] 7 (o1 (Nat.le_refl v25.length)) rfl (CtX.emp (xs' := [.agg [cs a3.Name, ci a3.Thick, ci a3.Width, ci a3.Allow, ci a3.Wane, tl qO default a3.Lengths, tl qO default a3.Prices, ci a4.X.A, ci a4.X.B, ci a4.Y.A, ci a4.Y.B, ci v23, tl qN default v25, .emp], .agg [ci 0, ci v23]]) (qAn (Worth_view.mk a3 a4 v23 v25 ([] : List Defect)) (Span.mk 0 v23) v27 h28) (And.intro (And.intro rfl (And.intro rfl (And.intro rfl (And.intro rfl (And.intro rfl (And.intro rfl (And.intro rfl (And.intro rfl (And.intro rfl (And.intro rfl (And.intro rfl (And.intro rfl (And.intro rfl (And.intro rfl trivial)))))))))))))) (And.intro (And.intro rfl (And.intro rfl trivial)) trivial))) (.inr ⟨(by kernel_rfl), qG4 v27⟩) (by kernel_rfl))] 7 [] [(14, vp 7 0)] [] [(7, bx 67 (zC v27))] ?_
     refine q_sq ?_
     refine s_vu [] 8 [1] [(83, vc (tl qI default a2)), (84, vi ((a2.length : Nat) : Int)), (85, vi 0)] [] [] ?_
     refine q_fn [.ownB 6 13 8 135 7 (rf qI ([] : List Defect))] ⟨[(8, vp 2 0), (13, vp 6 0), (14, vp 7 0), (83, vc (tl qI default a2)), (84, vi ((a2.length : Nat) : Int)), (85, vi 0)], [(2, bx 128 [cs (ByteArray.mk #[]), ci 0, ci 0, ci 0, ci 0, .emp, .emp, ci 0, ci 0, ci 0, ci 0, ci 0, .emp, .emp]), (5, ro 0 187 3 v25.length (rf qN v25)), (6, bx 128 [cs a3.Name, ci a3.Thick, ci a3.Width, ci a3.Allow, ci a3.Wane, tl qO default a3.Lengths, tl qO default a3.Prices, ci a4.X.A, ci a4.X.B, ci a4.Y.A, ci a4.Y.B, ci v23, .own 5 0 3 v25.length, .own 8 0 7 0]), (7, bx 67 (zC v27)), (8, ro 0 135 7 0 (rf qI ([] : List Defect)))]⟩ o0 ?_
     obtain ⟨o39, h40, hm⟩ := qD hm
     refine zX (nd Tryz.f67 4084) 0 (by kernel_rfl) FUEL (fun o => qCi a3 a4 v23 v25 o) o39 (q_hl (SH a2 a3 a4 v23 v25 v27 0 ([] : List Defect) 0) (qGZ E a2 a3 a4 v23 v25 v27 FUEL 0 ([] : List Defect) 0 o39 rfl h40)) ?_
     refine s_vu [] 9 [13] [(9, vb true)] [2, 6] [(2, bx 128 [cs a3.Name, ci a3.Thick, ci a3.Width, ci a3.Allow, ci a3.Wane, tl qO default a3.Lengths, tl qO default a3.Prices, ci a4.X.A, ci a4.X.B, ci a4.Y.A, ci a4.Y.B, ci v23, .own 5 0 3 v25.length, .own 8 0 7 o39.length])] ?_
     obtain rfl := oi hm
     refine qS 5 0 (by kernel_rfl) ?_
     refine qS 8 1 (by kernel_rfl) ?_
     refine q_rt ?_
     exact q_rm
   ·rcases Bool.eq_false_or_eq_true (!(((w64 (a4.X.B - a4.X.A)) == v18.1) && (((w64 (a4.Y.B - a4.Y.A)) == v18.2) && true))) with b20 | b20
    ·replace hm := qB b20 hm
     refine q_vu [qf 5 b20] 5 [10, 11, 12] [(68, vb (!(((w64 (a4.X.B - a4.X.A)) == v18.2) && (((w64 (a4.Y.B - a4.Y.A)) == v18.1) && true))))] [4] [] ?_
     exact q_J (!(((w64 (a4.X.B - a4.X.A)) == v18.2) && (((w64 (a4.Y.B - a4.Y.A)) == v18.1) && true))) hm
    ·replace hm := qC b20 hm
     refine q_vu [qf 5 b20] 5 [10, 11, 12] [(68, vb false)] [4] [] ?_
     exact q_J (false) hm
 ·obtain ⟨v5, h6, hm⟩ := qD hm
  rcases Bool.eq_false_or_eq_true (v5 != 0) with b7 | b7
  ·replace hm := qB b7 hm
   refine q_vu [qc 1 [17] 3 (YO a1 v5 h6), qf 3 b7] 3 [] [(35, vb true)] [] [] ?_
   exact q_J (true) hm
  ·replace hm := qC b7 hm
   obtain ⟨v8, h9, hm⟩ := qD hm
   rcases Bool.eq_false_or_eq_true (v8 != 0) with b10 | b10
   ·replace hm := qB b10 hm
    refine q_vu [qc 1 [17] 3 (YO a1 v5 h6), qf 3 b7, qk 5 [20, 21] 3 ⟨[(20, vb false), (21, vc (tl qI default a2))], []⟩ (DQ a2 v8 h9), qf 8 b10] 3 [] [(35, vb true)] [] [] ?_
    exact q_J (true) hm
   ·replace hm := qC b10 hm
    obtain ⟨v11, h12, hm⟩ := qD hm
    rcases Bool.eq_false_or_eq_true (v11 != 0) with b13 | b13
    ·replace hm := qB b13 hm
     refine q_vu [qc 1 [17] 3 (YO a1 v5 h6), qf 3 b7, qk 5 [20, 21] 3 ⟨[(20, vb false), (21, vc (tl qI default a2))], []⟩ (DQ a2 v8 h9), qf 8 b10, qd 10 (drw 3 0 (rf qA ([a3] : List Product))) (litP qA default 7 (fun _ => rfl) ([a3] : List Product) 1 rfl), qd 11 (dex (cen [] [] 4 0 (PH v11) (ZD v11) [25, 27] [3])) (ZC (K := (kx E 100 0)) (xs' := [.one (.lst 1 (rf qA ([a3] : List Product)))]) (b := false) ⟨[(25, vb false), (27, vo 3 0 7 1)], [(3, ro 0 62 7 1 (rf qA ([a3] : List Product)))]⟩ (opAt (rg Tryz.f67 12) 11) [] [] 4 (o1 (Nat.le_refl 1)) (by simp only [tl, rf, show ([a3] : List Product).length = 1 from rfl]) (MY ([a3] : List Product) v11 h12) (.inr ⟨(by kernel_rfl), qCB v11⟩) (by kernel_rfl)), qf 14 b13] 3 [] [(35, vb true)] [] [] ?_
     exact q_J (true) hm
    ·replace hm := qC b13 hm
     obtain ⟨v14, h15, hm⟩ := qD hm
     refine q_vu [qc 1 [17] 3 (YO a1 v5 h6), qf 3 b7, qk 5 [20, 21] 3 ⟨[(20, vb false), (21, vc (tl qI default a2))], []⟩ (DQ a2 v8 h9), qf 8 b10, qd 10 (drw 3 0 (rf qA ([a3] : List Product))) (litP qA default 7 (fun _ => rfl) ([a3] : List Product) 1 rfl), qd 11 (dex (cen [] [] 4 0 (PH v11) (ZD v11) [25, 27] [3])) (ZC (K := (kx E 100 0)) (xs' := [.one (.lst 1 (rf qA ([a3] : List Product)))]) (b := false) ⟨[(25, vb false), (27, vo 3 0 7 1)], [(3, ro 0 62 7 1 (rf qA ([a3] : List Product)))]⟩ (opAt (rg Tryz.f67 12) 11) [] [] 4 (o1 (Nat.le_refl 1)) (by simp only [tl, rf, show ([a3] : List Product).length = 1 from rfl]) (MY ([a3] : List Product) v11 h12) (.inr ⟨(by kernel_rfl), qCB v11⟩) (by kernel_rfl)), qf 14 b13, qk 16 [31, 32] 4 ⟨[(31, vb false), (32, va (qE a4))], []⟩ (qIv a4 v14 h15)] 3 [] [(35, vb (!v14))] [] [] ?_
     exact q_J (!v14) hm
def qL4 (r : Span × Int × Bool) : V := .tup [.agg (e_Span r.1), .one (ci r.2.1), .one (cb r.2.2)]
def qNd (r : Span × Int × Bool) : List (Nat × (Nat × O)) := []
def qCE (a3 : Product) (a5 : Int) (a6 : Int) (v14 : Worth_view × Bool) (x19 : Int) (x24 : Int) (x34 : Int) (x35 : Bool) (x36 : Span) : St :=
 ⟨[(4, vi a5), (5, vi a6), (8, vp 0 0), (12, vp 2 0), (15, vp 5 0), (17, vp 6 0), (18, vi x34), (19, vb x35), (20, vi x19), (54, vc (tl qO default a3.Lengths)), (55, vi ((a3.Lengths.length : Nat) : Int)), (56, vi x24)], [(0, bx 62 (qA a3)), (2, bx 26 [ci 0, ci 0]), (3, ro 0 187 3 v14.1.zones.length (rf qN v14.1.zones)), (4, ro 0 135 7 v14.1.defects.length (rf qI v14.1.defects)), (5, bx 128 [cs v14.1.product.Name, ci v14.1.product.Thick, ci v14.1.product.Width, ci v14.1.product.Allow, ci v14.1.product.Wane, tl qO default v14.1.product.Lengths, tl qO default v14.1.product.Prices, ci v14.1.rect.X.A, ci v14.1.rect.X.B, ci v14.1.rect.Y.A, ci v14.1.rect.Y.B, ci v14.1.length, .own 3 0 3 v14.1.zones.length, .own 4 0 7 v14.1.defects.length]), (6, bx 26 (e_Span x36))]⟩
def qCs (a3 : Product) (a5 : Int) (a6 : Int) (v14 : Worth_view × Bool) (x19 : Int) (x22 : Int) (x23 : Bool) (x24 : Int) (x25 : Span) (v28 : Int × Bool) (x32 : Bool) : St :=
 ⟨[(4, vi a5), (5, vi a6), (8, vp 0 0), (12, vp 2 0), (15, vp 5 0), (17, vp 6 0), (18, vi x22), (19, vb x23), (20, vi x19), (23, vp 7 0), (24, vi v28.1), (54, vc (tl qO default a3.Lengths)), (55, vi ((a3.Lengths.length : Nat) : Int)), (56, vi x24), (81, vb x32)], [(0, bx 62 (qA a3)), (2, bx 26 [ci 0, ci 0]), (3, ro 0 187 3 v14.1.zones.length (rf qN v14.1.zones)), (4, ro 0 135 7 v14.1.defects.length (rf qI v14.1.defects)), (5, bx 128 [cs v14.1.product.Name, ci v14.1.product.Thick, ci v14.1.product.Width, ci v14.1.product.Allow, ci v14.1.product.Wane, tl qO default v14.1.product.Lengths, tl qO default v14.1.product.Prices, ci v14.1.rect.X.A, ci v14.1.rect.X.B, ci v14.1.rect.Y.A, ci v14.1.rect.Y.B, ci v14.1.length, .own 3 0 3 v14.1.zones.length, .own 4 0 7 v14.1.defects.length]), (6, bx 26 (e_Span x25)), (7, bx 26 [ci x19, ci (w64 (x19 + (a3.Lengths.getD x24.toNat default)))])]⟩
def EQ (a3 : Product) (a5 : Int) (a6 : Int) (v14 : Worth_view × Bool) (x19 : Int) (x22 : Int) (x23 : Bool) (x24 : Int) (x25 : Span) : St :=
 ⟨[(4, vi a5), (5, vi a6), (8, vp 0 0), (12, vp 2 0), (15, vp 5 0), (17, vp 6 0), (18, vi x22), (19, vb x23), (20, vi x19), (54, vc (tl qO default a3.Lengths)), (55, vi ((a3.Lengths.length : Nat) : Int)), (56, vi x24)], [(0, bx 62 (qA a3)), (2, bx 26 [ci 0, ci 0]), (3, ro 0 187 3 v14.1.zones.length (rf qN v14.1.zones)), (4, ro 0 135 7 v14.1.defects.length (rf qI v14.1.defects)), (5, bx 128 [cs v14.1.product.Name, ci v14.1.product.Thick, ci v14.1.product.Width, ci v14.1.product.Allow, ci v14.1.product.Wane, tl qO default v14.1.product.Lengths, tl qO default v14.1.product.Prices, ci v14.1.rect.X.A, ci v14.1.rect.X.B, ci v14.1.rect.Y.A, ci v14.1.rect.Y.B, ci v14.1.length, .own 3 0 3 v14.1.zones.length, .own 4 0 7 v14.1.defects.length]), (6, bx 26 (e_Span x25))]⟩
def qCD (a3 : Product) (a5 : Int) (a6 : Int) (v14 : Worth_view × Bool) (x19 : Int) (x37 : Int) (x38 : Bool) (x39 : Span) : St :=
 ⟨[(4, vi a5), (5, vi a6), (8, vp 0 0), (12, vp 2 0), (15, vp 5 0), (17, vp 6 0), (18, vi x37), (19, vb x38), (20, vi x19)], [(0, bx 62 (qA a3)), (2, bx 26 [ci 0, ci 0]), (3, ro 0 187 3 v14.1.zones.length (rf qN v14.1.zones)), (4, ro 0 135 7 v14.1.defects.length (rf qI v14.1.defects)), (5, bx 128 [cs v14.1.product.Name, ci v14.1.product.Thick, ci v14.1.product.Width, ci v14.1.product.Allow, ci v14.1.product.Wane, tl qO default v14.1.product.Lengths, tl qO default v14.1.product.Prices, ci v14.1.rect.X.A, ci v14.1.rect.X.B, ci v14.1.rect.Y.A, ci v14.1.rect.Y.B, ci v14.1.length, .own 3 0 3 v14.1.zones.length, .own 4 0 7 v14.1.defects.length]), (6, bx 26 (e_Span x39))]⟩
def ET (a3 : Product) (a5 : Int) (a6 : Int) (v14 : Worth_view × Bool) (x17 : Int) (x18 : Bool) (x19 : Int) (x20 : Span) : St :=
 ⟨[(4, vi a5), (5, vi a6), (8, vp 0 0), (12, vp 2 0), (15, vp 5 0), (17, vp 6 0), (18, vi x17), (19, vb x18), (20, vi x19)], [(0, bx 62 (qA a3)), (2, bx 26 [ci 0, ci 0]), (3, ro 0 187 3 v14.1.zones.length (rf qN v14.1.zones)), (4, ro 0 135 7 v14.1.defects.length (rf qI v14.1.defects)), (5, bx 128 [cs v14.1.product.Name, ci v14.1.product.Thick, ci v14.1.product.Width, ci v14.1.product.Allow, ci v14.1.product.Wane, tl qO default v14.1.product.Lengths, tl qO default v14.1.product.Prices, ci v14.1.rect.X.A, ci v14.1.rect.X.B, ci v14.1.rect.Y.A, ci v14.1.rect.Y.B, ci v14.1.length, .own 3 0 3 v14.1.zones.length, .own 4 0 7 v14.1.defects.length]), (6, bx 26 (e_Span x20))]⟩
def qCy (x42 : Int) (x43 : Bool) (x44 : Span) : St :=
 ⟨[(12, vp 2 0), (17, vp 6 0), (18, vi x42), (19, vb x43)], [(2, bx 26 [ci 0, ci 0]), (6, bx 26 (e_Span x44))]⟩
def qCk (a1 : List Slice) (a2 : List Defect) (a3 : Product) (a4 : Rect) (a5 : Int) (a6 : Int) (x12 : Bool) : St :=
 ⟨[(0, vc (tl qH default a1)), (1, vc (tl qI default a2)), (4, vi a5), (5, vi a6), (8, vp 0 0), (9, vp 1 0), (12, vp 2 0), (33, vb x12)], [(0, bx 62 (qA a3)), (1, bx 28 (qE a4)), (2, bx 26 [ci 0, ci 0])]⟩
theorem qGT (E : Env 0) (a3 : Product) (a5 : Int) (a6 : Int) (v14 : Worth_view × Bool) (x19 : Int) : ∀ (n : Nat) (x22 : Int) (x23 : Bool) (x24 : Int) (x25 : Span) (res : Int × Bool × Span), jF a3 a6 v14 x19 n x22 x23 x24 x25 = some res → HL (kx E 88 0) (nd Tryz.f33 130340) (wC 2 (fun o => qCD a3 a5 a6 v14 x19 o.1 o.2.1 o.2.2) res) n (EQ a3 a5 a6 v14 x19 x22 x23 x24 x25) := by
 intro n
 induction n with
 | zero =>
  intro x22 x23 x24 x25 res hm
  cases hm
 | succ n ih =>
  intro x22 x23 x24 x25 res hm
  refine qQ ?_
  refine s_vu [] 7 [] [(57, vb (decide (x24 < ((a3.Lengths.length : Nat) : Int))))] [] [] ?_
  refine q_sq ?_
  refine q_cn (decide (x24 < ((a3.Lengths.length : Nat) : Int))) (fun b26 => ?_) (fun b26 => ?_)
  ·replace hm := qB b26 hm
   refine q_sk ?_
   refine q_jn (ι := Int × Bool × Span) (fun p => qCE a3 a5 a6 v14 x19 x24 p.1 p.2.1 p.2.2) (fun p => MK x24 (jF a3 a6 v14 x19 n) p.1 p.2.1 p.2.2 = some res) ?_ ?_
   ·rintro ⟨x34, x35, x36⟩ hm
    show H _ (qCE a3 a5 a6 v14 x19 x24 x34 x35 x36) _ _
    refine q_vu [] 8 [56] [(56, vi (w64 (x24 + 1)))] [] [] ?_
    exact q_hl (EQ a3 a5 a6 v14 x19 x34 x35 (w64 (x24 + 1)) x36) (ih x34 x35 (w64 (x24 + 1)) x36 _ hm)
   ·refine q_bk 3 ?_
    obtain ⟨g27, hm⟩ := qM hm
    refine s_vu [qd 0 (Dir.none) (inb_of g27)] 7 [57] [(22, vi (a3.Lengths.getD x24.toNat default))] [] [] ?_
    refine s_vu [] 7 [22] [(23, vp 7 0)] [] [(7, bx 26 [ci x19, ci (w64 (x19 + (a3.Lengths.getD x24.toNat default)))])] ?_
    obtain ⟨v28, h29, hm⟩ := qD hm
    refine s_vu [qd 3 (dex (cen [] [] 8 0 (PF v28) (QJ v28) [66, 67, 68] [3, 4])) (ZC (K := (kx E 88 0)) (b := false) ⟨[(66, va [cs v14.1.product.Name, ci v14.1.product.Thick, ci v14.1.product.Width, ci v14.1.product.Allow, ci v14.1.product.Wane, tl qO default v14.1.product.Lengths, tl qO default v14.1.product.Prices, ci v14.1.rect.X.A, ci v14.1.rect.X.B, ci v14.1.rect.Y.A, ci v14.1.rect.Y.B, ci v14.1.length, .own 3 0 3 v14.1.zones.length, .own 4 0 7 v14.1.defects.length]), (67, va [ci x19, ci (w64 (x19 + (a3.Lengths.getD x24.toNat default)))]), (68, vi a6)], [(3, ro 0 187 3 v14.1.zones.length (rf qN v14.1.zones)), (4, ro 0 135 7 v14.1.defects.length (rf qI v14.1.defects))]⟩ (opAt (rg Tryz.f33 16683622) 3) [] [] 8 (o1 (And.intro (Nat.le_refl v14.1.zones.length) (Nat.le_refl v14.1.defects.length))) rfl (worth_view_worth_ok (Worth_view.mk v14.1.product v14.1.rect v14.1.length v14.1.zones v14.1.defects) (Span.mk x19 (w64 (x19 + (a3.Lengths.getD x24.toNat default)))) a6 v28 h29) (.inr ⟨(by kernel_rfl), qFh v28⟩) (by kernel_rfl))] 8 [] [(24, vi v28.1), (25, vb v28.2)] [] [] ?_
    refine q_jn (ι := Bool) (fun p => qCs a3 a5 a6 v14 x19 x22 x23 x24 x25 v28 p) (fun p => VH a3 x19 x22 x23 x24 x25 (jF a3 a6 v14 x19 n) v28 p = some res) ?_ ?_
    ·rintro x32 hm
     show H _ (qCs a3 a5 a6 v14 x19 x22 x23 x24 x25 v28 x32) _ _
     refine q_cn x32 (fun b33 => ?_) (fun b33 => ?_)
     ·replace hm := qB b33 hm
      refine q_vu [] 8 [18, 19, 23, 24, 81] [(18, vi v28.1), (19, vb true)] [6, 7] [(6, bx 26 [ci x19, ci (w64 (x19 + (a3.Lengths.getD x24.toNat default)))])] ?_
      exact q_J (v28.1, true, (Span.mk x19 (w64 (x19 + (a3.Lengths.getD x24.toNat default))))) hm
     ·replace hm := qC b33 hm
      refine q_sk ?_
      exact q_J (x22, x23, x25) hm
    ·rcases Bool.eq_false_or_eq_true v28.2 with b30 | b30
     ·replace hm := qB b30 hm
      rcases Bool.eq_false_or_eq_true (!x23) with b31 | b31
      ·replace hm := qB b31 hm
       refine q_vu [qf 1 b30, qf 4 b31] 8 [25] [(81, vb true)] [] [] ?_
       exact q_J (true) hm
      ·replace hm := qC b31 hm
       refine q_vu [qf 1 b30, qf 4 b31] 8 [25] [(81, vb (decide (v28.1 > x22)))] [] [] ?_
       exact q_J (decide (v28.1 > x22)) hm
     ·replace hm := qC b30 hm
      refine q_vu [qf 1 b30] 8 [25] [(81, vb false)] [] [] ?_
      exact q_J (false) hm
  ·replace hm := qC b26 hm
   refine q_ex 2 ?_
   obtain rfl := oi hm
   exact jP (by kernel_rfl) (by kernel_rfl)
theorem qG2 (E : Env 0) (a3 : Product) (a5 : Int) (a6 : Int) (v14 : Worth_view × Bool) : ∀ (n : Nat) (x17 : Int) (x18 : Bool) (x19 : Int) (x20 : Span) (res : Int × Bool × Span), JU a3 a5 a6 v14 n x17 x18 x19 x20 = some res → HL (kx E 88 0) (nd Tryz.f33 2036) (wC 0 (fun o => qCy o.1 o.2.1 o.2.2) res) n (ET a3 a5 a6 v14 x17 x18 x19 x20) := by
 intro n
 induction n with
 | zero =>
  intro x17 x18 x19 x20 res hm
  cases hm
 | succ n ih =>
  intro x17 x18 x19 x20 res hm
  refine qQ ?_
  refine q_sq ?_
  refine s_vu [] 7 [] [(49, vb (decide (x19 < v14.1.length)))] [] [] ?_
  refine q_cn (decide (x19 < v14.1.length)) (fun b21 => ?_) (fun b21 => ?_)
  ·replace hm := qB b21 hm
   refine q_sk ?_
   refine q_sq ?_
   refine q_bk 1 ?_
   refine s_vu [] 7 [49] [(54, vc (tl qO default a3.Lengths)), (55, vi ((a3.Lengths.length : Nat) : Int)), (56, vi 0)] [] [] ?_
   obtain ⟨o40, h41, hm⟩ := qD hm
   refine zX (nd Tryz.f33 130340) 2 (by kernel_rfl) FUEL (fun o => qCD a3 a5 a6 v14 x19 o.1 o.2.1 o.2.2) o40 (q_hl (EQ a3 a5 a6 v14 x19 x17 x18 0 x20) (qGT E a3 a5 a6 v14 x19 FUEL x17 x18 0 x20 o40 h41)) ?_
   refine q_vu [] 7 [20] [(20, vi (w64 (x19 + a5)))] [] [] ?_
   exact q_hl (ET a3 a5 a6 v14 o40.1 o40.2.1 (w64 (x19 + a5)) o40.2.2) (ih o40.1 o40.2.1 (w64 (x19 + a5)) o40.2.2 _ hm)
  ·replace hm := qC b21 hm
   refine q_ex 0 ?_
   obtain rfl := oi hm
   exact jP (by kernel_rfl) (by kernel_rfl)
theorem qLo (a1 : List Slice) (a2 : List Defect) (a3 : Product) (a4 : Rect) (a5 : Int) (a6 : Int) (r : Span × Int × Bool) (hm : EP a1 a2 a3 a4 a5 a6 = some r) : CtX Tryz.prog globs 33 0 0 [.one (tl qH default a1), .one (tl qI default a2), .agg (qA a3), .agg (qE a4), .one (ci a5), .one (ci a6)] [] (qL4 r) (qNd r) := by
 unfold EP at hm
 refine q_E Tryz.f33 88 fun E => ?_
 refine s_vn [] 0 ⟨[(0, vc (tl qH default a1)), (1, vc (tl qI default a2)), (4, vi a5), (5, vi a6), (8, vp 0 0), (9, vp 1 0), (12, vp 2 0)], [(0, bx 62 (qA a3)), (1, bx 28 (qE a4)), (2, bx 26 [ci 0, ci 0])]⟩ ?_
 refine q_sq ?_
 refine q_jn (ι := Bool) (fun p => qCk a1 a2 a3 a4 a5 a6 p) (fun p => MN a1 a2 a3 a4 a5 a6 p = some r) ?_ ?_
 ·rintro x12 hm
  show H _ (qCk a1 a2 a3 a4 a5 a6 x12) _ _
  refine q_cn x12 (fun b13 => ?_) (fun b13 => ?_)
  ·replace hm := qB b13 hm
   refine s_vu [] 3 [0, 1, 4, 5, 8, 9, 33] [(13, vi 0), (14, vb false)] [0, 1] [] ?_
   obtain rfl := oi hm
   refine q_rt ?_
   exact q_rm
  ·replace hm := qC b13 hm
   refine q_sk ?_
   obtain ⟨v14, h15, hm⟩ := qD hm
   refine s_vu [qc 4 [36, 37, 38, 39] 3 (qLx a1 a2 a3 a4 v14 h15)] 3 [0, 1, 9, 33] [(15, vp 5 0), (16, vb v14.2)] [1] [(3, ro 0 187 3 v14.1.zones.length (rf qN v14.1.zones)), (4, ro 0 135 7 v14.1.defects.length (rf qI v14.1.defects)), (5, bx 128 [cs v14.1.product.Name, ci v14.1.product.Thick, ci v14.1.product.Width, ci v14.1.product.Allow, ci v14.1.product.Wane, tl qO default v14.1.product.Lengths, tl qO default v14.1.product.Prices, ci v14.1.rect.X.A, ci v14.1.rect.X.B, ci v14.1.rect.Y.A, ci v14.1.rect.Y.B, ci v14.1.length, .own 3 0 3 v14.1.zones.length, .own 4 0 7 v14.1.defects.length])] ?_
   refine q_sq ?_
   refine s_vu [] 6 [16] [(44, vb (!v14.2))] [] [] ?_
   refine q_cn (!v14.2) (fun b16 => ?_) (fun b16 => ?_)
   ·replace hm := qB b16 hm
    refine s_vu [] 6 [4, 5, 8, 15, 44] [(13, vi 0), (14, vb false)] [0, 3, 4, 5] [] ?_
    obtain rfl := oi hm
    refine q_rt ?_
    exact q_rm
   ·replace hm := qC b16 hm
    refine q_sk ?_
    refine s_vu [] 6 [44] [(17, vp 6 0)] [] [(6, bx 26 [ci 0, ci 0])] ?_
    refine s_vu [] 7 [] [(18, vi 0), (19, vb false)] [] [] ?_
    refine q_sq ?_
    refine s_vu [] 7 [] [(20, vi 0)] [] [] ?_
    obtain ⟨o45, h46, hm⟩ := qD hm
    refine zX (nd Tryz.f33 2036) 0 (by kernel_rfl) FUEL (fun o => qCy o.1 o.2.1 o.2.2) o45 (q_hl (ET a3 a5 a6 v14 0 false 0 (Span.mk 0 0)) (qG2 E a3 a5 a6 v14 FUEL 0 false 0 (Span.mk 0 0) o45 h46)) ?_
    refine s_vn [] 7 ⟨[(12, vp 2 0), (13, vi o45.1), (14, vb o45.2.1)], [(2, bx 26 (e_Span o45.2.2))]⟩ ?_
    obtain rfl := oi hm
    refine q_rt ?_
    exact q_rm
 ·obtain ⟨v7, h8, hm⟩ := qD hm
  rcases Bool.eq_false_or_eq_true (!v7) with b9 | b9
  ·replace hm := qB b9 hm
   refine q_vu [qc 1 [26] 3 (ES a5 v7 h8), qf 3 b9] 3 [] [(33, vb true)] [] [] ?_
   exact q_J (true) hm
  ·replace hm := qC b9 hm
   obtain ⟨v10, h11, hm⟩ := qD hm
   refine q_vu [qc 1 [26] 3 (ES a5 v7 h8), qf 3 b9, qk 5 [29, 30] 3 ⟨[(29, vb false), (30, vi a6)], []⟩ (qCC a6 v10 h11)] 3 [] [(33, vb (!v10))] [] [] ?_
   exact q_J (!v10) hm
noncomputable def AA (a1 : Int) (a2 : Leaf) (a3 : List Slice) (a4 : List Defect) (a5 : List Product) (a6 : Saw) (a7 : Int) (a8 : List Yield_Cut) (ri : RI 79) (r : Nat × (List Yield_Cut)) : V := vb (Nat.beq r.1 0)
noncomputable def yield_Boards_rd506_o (a1 : Int) (a2 : Leaf) (a3 : List Slice) (a4 : List Defect) (a5 : List Product) (a6 : Saw) (a7 : Int) (a8 : List Yield_Cut) (ri : RI 79) (r : Nat × (List Yield_Cut)) : List (Nat × (Nat × O)) := [(0, lz (rc Tryz.f17 506 ri) ri.b [] r.1), (1, bx 22 [tl qH default a3]), (2, bx 23 [tl qI default a4]), (3, bx 24 [tl qA default a5]), (4, bx 33 (zZ a6)), (5, bx 3 [ci a7]), (6, bx 40 [.own 7 0 9 r.2.length]), (7, ro 0 69 9 r.2.length (rf qR r.2))]
theorem qDx (a1 : Int) (a2 : Leaf) (a3 : List Slice) (a4 : List Defect) (a5 : List Product) (a6 : Saw) (a7 : Int) (a8 : List Yield_Cut) (ri : RI 79) (r : Nat × (List Yield_Cut)) (hm : KR a1 a2 a3 a4 a5 a6 a7 a8 = some r) : CtR Tryz.prog globs (rc Tryz.f17 506 ri) ri.b [6, 7, 8, 10, 11, 17] 8 7 [.one (ci a1), .agg (qG a2), .one (.bptr 1 0 0), .one (.bptr 2 0 0), .one (.bptr 3 0 0), .one (.bptr 4 0 0), .one (.bptr 5 0 0), .one (.bptr 6 0 0)] [(0, lq (rc Tryz.f17 506 ri) ri.b), (1, bx 22 [tl qH default a3]), (2, bx 23 [tl qI default a4]), (3, bx 24 [tl qA default a5]), (4, bx 33 (zZ a6)), (5, bx 3 [ci a7]), (6, bx 40 [.own 7 0 9 a8.length]), (7, ro 0 69 9 a8.length (rf qR a8))] (AA a1 a2 a3 a4 a5 a6 a7 a8 ri r) (yield_Boards_rd506_o a1 a2 a3 a4 a5 a6 a7 a8 ri r) := by
 unfold KR at hm
 refine q_R Tryz.f17 506 79 ri fun E => ?_
 refine q_sq ?_
 refine q_vn [] 8 ⟨[(6, vp 1 0), (7, vp 2 0), (8, vp 3 0), (10, vp 4 0), (11, vp 5 0), (17, vp 6 0), (18, vi a1), (47, va (qG a2))], [(0, lq (rc Tryz.f17 506 ri) ri.b), (1, bx 22 [tl qH default a3]), (2, bx 23 [tl qI default a4]), (3, bx 24 [tl qA default a5]), (4, bx 33 (zZ a6)), (5, bx 3 [ci a7]), (6, bx 40 [.own 7 0 9 a8.length]), (7, ro 0 69 9 a8.length (rf qR a8))]⟩ ?_
 refine q_vu [] 8 [47] [(19, vp 8 0)] [] [(8, bx 78 (qG a2))] ?_
 refine q_rd ⟨[(6, vp 1 0), (7, vp 2 0), (8, vp 3 0), (10, vp 4 0), (11, vp 5 0), (17, vp 6 0), (18, vi a1), (19, vp 8 0)], [(0, ly (rc Tryz.f17 506 ri) ri.b), (1, bx 22 [tl qH default a3]), (2, bx 23 [tl qI default a4]), (3, bx 24 [tl qA default a5]), (4, bx 33 (zZ a6)), (5, bx 3 [ci a7]), (6, bx 40 [.own 7 0 9 a8.length]), (7, ro 0 69 9 a8.length (rf qR a8)), (8, bx 78 (qG a2))]⟩ ?_
 refine q_bk 1 ?_
 refine q_sq ?_
 obtain ⟨g9, hm⟩ := qM hm
 obtain ⟨v10, h11, hm⟩ := qD hm
 refine q_du [qd 5 (Dir.none) (inb_of g9), qc 12 [49, 50, 55, 57, 59, 60] 9 (qLo a3 a4 (a5.getD a2.Product.toNat default) a2.Rect a6.Step a7 v10 h11)] [0, 0, 0, 0, 8, 28, 60, 0, 128, 0, 512, 0, 4095, 8191, 16383, 16383, 16383, 0, 163839, 458751, 1048575] 9 [6, 7, 8, 10, 11] [(20, vp 9 0), (21, vi v10.2.1), (22, vb v10.2.2)] [] [(9, bx 26 (e_Span v10.1))] ?_
 refine q_sq ?_
 refine q_vu [] 10 [22] [(65, vb v10.2.2)] [] [] ?_
 refine q_cn v10.2.2 (fun b12 => ?_) (fun b12 => ?_)
 ·replace hm := qB b12 hm
  obtain ⟨v13, h14, hm⟩ := qD hm
  obtain ⟨g15, hm⟩ := qM hm
  refine q_xu [] o0 [qc 7 [71, 72] 10 (SN a2.Rect v10.1 v13 h14), qd 10 (drw 10 0 (rf qR ([(Yield_Cut.mk a1 a2.Product v13 v10.2.1)] : List Yield_Cut))) (litP qR default 9 (fun _ => rfl) ([(Yield_Cut.mk a1 a2.Product v13 v10.2.1)] : List Yield_Cut) 1 rfl), qd 11 (drw 7 1 (rf qR (a8 ++ ([(Yield_Cut.mk a1 a2.Product v13 v10.2.1)] : List Yield_Cut)))) (apP qR default a8 ([(Yield_Cut.mk a1 a2.Product v13 v10.2.1)] : List Yield_Cut) a8.length 1 9 72 (1 ≤ 1) (Nat.le_refl _) rfl rfl (fun _ => rfl) (wV g15))] [.len 7 ((a8 ++ ([(Yield_Cut.mk a1 a2.Product v13 v10.2.1)] : List Yield_Cut)).length)] (o1 (And.intro (Eq.symm (show (a8 ++ ([(Yield_Cut.mk a1 a2.Product v13 v10.2.1)] : List Yield_Cut)).length = (a8.length + 1) from (len_app rfl rfl))) (And.intro (Eq.symm (show (a8 ++ ([(Yield_Cut.mk a1 a2.Product v13 v10.2.1)] : List Yield_Cut)).length = (a8.length + 1) from (len_app rfl rfl))) (Eq.symm (show (a8 ++ ([(Yield_Cut.mk a1 a2.Product v13 v10.2.1)] : List Yield_Cut)).length = (a8.length + 1) from (len_app rfl rfl)))))) [0, 0, 0, 4, 0, 16, 0, 112, 0, 510, 1022, 2047, 4095] 10 [17, 18, 19, 20, 21, 65] [] [6, 7, 8, 9] [(6, bx 40 [.own 7 1 9 ((a8 ++ ([(Yield_Cut.mk a1 a2.Product v13 v10.2.1)] : List Yield_Cut)).length)]), (7, ro 1 69 9 ((a8 ++ ([(Yield_Cut.mk a1 a2.Product v13 v10.2.1)] : List Yield_Cut)).length) (rf qR (a8 ++ ([(Yield_Cut.mk a1 a2.Product v13 v10.2.1)] : List Yield_Cut))))] ?_
  obtain rfl := oi hm
  exact q_rq
 ·replace hm := qC b12 hm
  refine q_sk ?_
  obtain rfl := oi hm
  exact q_rq
end Saw
end Go.SL
