import Derived.Test.YtjobdnkaonbgnaaEBase
import Derived.Test.YtjobdnkaonbgnaaEFa4
import Derived.Test.YtjobdnkaonbgnaaEFa1
import Derived.Test.YtjobdnkaonbgnaaEFa2
set_option linter.unusedVariables false
set_option linter.unusedSimpArgs false
namespace Go.SL
namespace Saw
open Go.Proofs
set_option maxHeartbeats 4000000
set_option maxRecDepth 100000
def qFL (r : Int) : V := vi r
def qFH (r : Int) : List (Nat × (Nat × O)) := []
def EG (a1 : List Worth_zone) (a2 : Span) (x4 : Int) (x10 : Int) : St :=
 ⟨[(3, vp 0 0), (5, vi x10), (8, vc (tl qJ default a1)), (9, vi ((a1.length : Nat) : Int)), (10, vi x4)], [(0, bx 26 (e_Span a2))]⟩
def EH (a1 : List Worth_zone) (a2 : Span) (x3 : Int) (x4 : Int) (x8 : Bool) : St :=
 ⟨[(3, vp 0 0), (5, vi x3), (7, vp 1 0), (8, vc (tl qJ default a1)), (9, vi ((a1.length : Nat) : Int)), (10, vi x4), (27, vb x8)], [(0, bx 26 (e_Span a2)), (1, bx 165 [ci (((a1.getD x4.toNat default).z).A), ci (((a1.getD x4.toNat default).z).B), ci ((a1.getD x4.toNat default).lack)])]⟩
def DF (a1 : List Worth_zone) (a2 : Span) (x3 : Int) (x4 : Int) : St :=
 ⟨[(3, vp 0 0), (5, vi x3), (8, vc (tl qJ default a1)), (9, vi ((a1.length : Nat) : Int)), (10, vi x4)], [(0, bx 26 (e_Span a2))]⟩
def SA (x11 : Int) : St :=
 ⟨[(5, vi x11)], []⟩
theorem qBM (E : Env 0) (a1 : List Worth_zone) (a2 : Span) : ∀ (n : Nat) (x3 : Int) (x4 : Int) (res : Int), jA a1 a2 n x3 x4 = some res → HL (kx E 34 0) (nd Try.f84 116) (jU 0 (fun o => SA o) res) n (DF a1 a2 x3 x4) := by
 intro n
 induction n with
 | zero =>
  intro x3 x4 res hm
  cases hm
 | succ n ih =>
  intro x3 x4 res hm
  refine qT ?_
  refine q_sq ?_
  refine q_vu [] 1 [] [(11, vb (decide (x4 < ((a1.length : Nat) : Int))))] [] [] ?_
  refine q_sq ?_
  refine q_cn (decide (x4 < ((a1.length : Nat) : Int))) (fun b5 => ?_) (fun b5 => ?_)
  ·replace hm := qA b5 hm
   refine q_sk ?_
   refine q_jn (ι := Int) (fun p => EG a1 a2 x4 p) (fun p => VF x4 (jA a1 a2 n) p = some res) ?_ ?_
   ·rintro x10 hm
    show H _ (EG a1 a2 x4 x10) _ _
    refine q_vu [] 2 [10] [(10, vi (w64 (x4 + 1)))] [] [] ?_
    exact q_hl (DF a1 a2 x10 (w64 (x4 + 1))) (ih x10 (w64 (x4 + 1)) _ hm)
   ·refine q_bk 1 ?_
    refine q_sq ?_
    obtain ⟨g6, hm⟩ := qP hm
    refine q_vu [qd 0 (Dir.none) (inb_of g6)] 1 [11] [(7, vp 1 0)] [] [(1, bx 165 [ci (((a1.getD x4.toNat default).z).A), ci (((a1.getD x4.toNat default).z).B), ci ((a1.getD x4.toNat default).lack)])] ?_
    refine q_jn (ι := Bool) (fun p => EH a1 a2 x3 x4 p) (fun p => UX a1 x3 x4 (jA a1 a2 n) p = some res) ?_ ?_
    ·rintro x8 hm
     show H _ (EH a1 a2 x3 x4 x8) _ _
     refine q_cn x8 (fun b9 => ?_) (fun b9 => ?_)
     ·replace hm := qA b9 hm
      refine q_vu [] 2 [5, 7, 27] [(5, vi (imax x3 ((a1.getD x4.toNat default).lack)))] [1] [] ?_
      exact q_J (imax x3 ((a1.getD x4.toNat default).lack)) hm
     ·replace hm := qB b9 hm
      refine q_sk ?_
      exact q_J (x3) hm
    ·rcases Bool.eq_false_or_eq_true (decide ((((a1.getD x4.toNat default).z).A) < a2.B)) with b7 | b7
     ·replace hm := qA b7 hm
      refine q_vu [qf 6 b7] 2 [] [(27, vb (decide (a2.A < (((a1.getD x4.toNat default).z).B))))] [] [] ?_
      exact q_J (decide (a2.A < (((a1.getD x4.toNat default).z).B))) hm
     ·replace hm := qB b7 hm
      refine q_vu [qf 6 b7] 2 [] [(27, vb false)] [] [] ?_
      exact q_J (false) hm
  ·replace hm := qB b5 hm
   refine q_ex 0 ?_
   obtain rfl := Option.some.inj hm
   exact ZP (by kernel_rfl) (by kernel_rfl)
theorem qEM (a1 : List Worth_zone) (a2 : Span) (r : Int) (hm : GJ a1 a2 = some r) : CtX Try.prog globs 84 0 0 [.one (tl qJ default a1), .agg (e_Span a2)] [] (qFL r) (qFH r) := by
 unfold GJ at hm
 refine q_E Try.f84 34 fun E => ?_
 refine q_sq ?_
 refine q_vn [] 0 ⟨[(0, vc (tl qJ default a1)), (3, vp 0 0)], [(0, bx 26 (e_Span a2))]⟩ ?_
 refine q_sq ?_
 refine q_vu [] 1 [] [(5, vi 0)] [] [] ?_
 refine q_sq ?_
 refine q_sq ?_
 refine q_vu [] 1 [0] [(8, vc (tl qJ default a1)), (9, vi ((a1.length : Nat) : Int)), (10, vi 0)] [] [] ?_
 obtain ⟨o12, h13, hm⟩ := qC hm
 refine jL (nd Try.f84 116) 0 (by kernel_rfl) FUEL (fun o => SA o) o12 (q_hl (DF a1 a2 0 0) (qBM E a1 a2 FUEL 0 0 o12 h13)) ?_
 refine q_sq ?_
 refine q_vn [] 1 ⟨[(4, vi o12)], []⟩ ?_
 obtain rfl := Option.some.inj hm
 refine q_rt ?_
 exact q_rm
def YL (r : Int × Bool) : V := .tup [.one (ci r.1), .one (cb r.2)]
def jY (r : Int × Bool) : List (Nat × (Nat × O)) := []
theorem qAy (r : Int × Bool) : TE (jY r) := by
 intro i k o h
 unfold jY at h
 cases h
def DU (a1 : Worth_view) (a3 : Int) (v14 : Box) (x17 : Int) (x24 : Int) : St :=
 ⟨[(2, vi a3), (8, vi x24), (10, vp 2 0), (45, vc (tl qG default a1.defects)), (46, vi ((a1.defects.length : Nat) : Int)), (47, vi x17)], [(2, bx 52 (wT v14))]⟩
def XN (a1 : Worth_view) (a3 : Int) (v14 : Box) (x16 : Int) (x17 : Int) : St :=
 ⟨[(2, vi a3), (8, vi x16), (10, vp 2 0), (45, vc (tl qG default a1.defects)), (46, vi ((a1.defects.length : Nat) : Int)), (47, vi x17)], [(2, bx 52 (wT v14))]⟩
def DI (x25 : Int) : St :=
 ⟨[(8, vi x25)], []⟩
def DS (a1 : Worth_view) (a2 : Span) (a3 : Int) (v7 : Int × Bool) (x12 : Bool) : St :=
 ⟨[(2, vi a3), (3, vp 0 0), (4, vp 1 0), (8, vi v7.1), (40, vb x12)], [(0, bx 129 (TN a1)), (1, bx 26 (e_Span a2))]⟩
theorem IQ (E : Env 0) (a1 : Worth_view) (a3 : Int) (v14 : Box) : ∀ (n : Nat) (x16 : Int) (x17 : Int) (res : (Int × Bool) ⊕ Int), zC a1 a3 v14 n x16 x17 = some res → HL (kx E 64 0) (nd Try.f64 1012) (yI 0 (fun o => DI o) (fun v st => RetQ Try.prog Try.f64 (YL v) (jY v) .ret st) res) n (XN a1 a3 v14 x16 x17) := by
 intro n
 induction n with
 | zero =>
  intro x16 x17 res hm
  cases hm
 | succ n ih =>
  intro x16 x17 res hm
  refine qT ?_
  refine q_sq ?_
  refine q_vu [] 3 [] [(48, vb (decide (x17 < ((a1.defects.length : Nat) : Int))))] [] [] ?_
  refine q_sq ?_
  refine q_cn (decide (x17 < ((a1.defects.length : Nat) : Int))) (fun b18 => ?_) (fun b18 => ?_)
  ·replace hm := qA b18 hm
   refine q_sk ?_
   refine q_jn (ι := Int) (fun p => DU a1 a3 v14 x17 p) (fun p => JI x17 (zC a1 a3 v14 n) p = some res) ?_ ?_
   ·rintro x24 hm
    show H _ (DU a1 a3 v14 x17 x24) _ _
    refine q_vu [] 4 [47] [(47, vi (w64 (x17 + 1)))] [] [] ?_
    exact q_hl (XN a1 a3 v14 x24 (w64 (x17 + 1))) (ih x24 (w64 (x17 + 1)) _ hm)
   ·refine q_bk 1 ?_
    refine q_sq ?_
    obtain ⟨g19, hm⟩ := qP hm
    refine q_vu [qd 0 (Dir.none) (inb_of g19)] 3 [48] [(12, vp 3 0)] [] [(3, bx 139 [ci ((a1.defects.getD x17.toNat default).Kind), ci ((((a1.defects.getD x17.toNat default).Box).X).A), ci ((((a1.defects.getD x17.toNat default).Box).X).B), ci ((((a1.defects.getD x17.toNat default).Box).Y).A), ci ((((a1.defects.getD x17.toNat default).Box).Y).B), ci ((((a1.defects.getD x17.toNat default).Box).Z).A), ci ((((a1.defects.getD x17.toNat default).Box).Z).B)])] ?_
    refine q_sq ?_
    refine q_sq ?_
    obtain ⟨v20, h21, hm⟩ := qC hm
    refine q_vu [qc 2 [51, 52] 4 (MO (a1.defects.getD x17.toNat default) v14 v20 h21)] 4 [] [(54, vb (!v20))] [] [] ?_
    refine q_cn (!v20) (fun b22 => ?_) (fun b22 => ?_)
    ·replace hm := qA b22 hm
     refine q_ex 1 ?_
     exact q_J (x16) hm
    ·replace hm := qB b22 hm
     refine q_sk ?_
     refine q_sq ?_
     refine q_sq ?_
     refine q_vu [] 4 [12, 54] [(57, vb (((a1.defects.getD x17.toNat default).Kind) == 3))] [3] [] ?_
     refine q_cn (((a1.defects.getD x17.toNat default).Kind) == 3) (fun b23 => ?_) (fun b23 => ?_)
     ·replace hm := qA b23 hm
      refine q_sq ?_
      refine q_vn [] 4 ⟨[(6, vi 0), (7, vb false)], []⟩ ?_
      obtain rfl := Option.some.inj hm
      refine q_rt ?_
      refine zL (0, false) ?_
      exact q_rm
     ·replace hm := qB b23 hm
      refine q_sk ?_
      refine q_vu [] 4 [8, 57] [(8, vi (w64 (x16 - a3)))] [] [] ?_
      exact q_J (w64 (x16 - a3)) hm
  ·replace hm := qB b18 hm
   refine q_ex 0 ?_
   obtain rfl := Option.some.inj hm
   exact yP x16 (by kernel_rfl) (by kernel_rfl)
theorem worth_view_worth_ok (a1 : Worth_view) (a2 : Span) (a3 : Int) (r : Int × Bool) (hm : QS a1 a2 a3 = some r) : CtX Try.prog globs 64 0 0 [.agg (TN a1), .agg (e_Span a2), .one (ci a3)] [] (YL r) (jY r) := by
 unfold QS at hm
 refine q_E Try.f64 64 fun E => ?_
 refine q_sq ?_
 refine q_vn [] 0 ⟨[(2, vi a3), (3, vp 0 0), (4, vp 1 0)], [(0, bx 129 (TN a1)), (1, bx 26 (e_Span a2))]⟩ ?_
 refine q_sq ?_
 refine q_sq ?_
 obtain ⟨v4, h5, hm⟩ := qC hm
 refine q_vu [qc 3 [13, 15] 2 (qBx a2 a1.length v4 h5)] 2 [] [(17, vb (!v4))] [] [] ?_
 refine q_cn (!v4) (fun b6 => ?_) (fun b6 => ?_)
 ·replace hm := qA b6 hm
  refine q_sq ?_
  refine q_vn [] 2 ⟨[(6, vi 0), (7, vb false)], []⟩ ?_
  obtain rfl := Option.some.inj hm
  refine q_rt ?_
  exact q_rm
 ·replace hm := qB b6 hm
  refine q_sk ?_
  refine q_sq ?_
  obtain ⟨v7, h8, hm⟩ := qC hm
  refine q_vu [qc 7 [20, 25] 2 (qCN a1.product (w64 (a2.B - a2.A)) v7 h8)] 2 [17] [(8, vi v7.1), (9, vb v7.2)] [] [] ?_
  refine q_sq ?_
  refine q_jn (ι := Bool) (fun p => DS a1 a2 a3 v7 p) (fun p => JK a1 a2 a3 v7 p = some r) ?_ ?_
  ·rintro x12 hm
   show H _ (DS a1 a2 a3 v7 x12) _ _
   refine q_cn x12 (fun b13 => ?_) (fun b13 => ?_)
   ·replace hm := qA b13 hm
    refine q_sq ?_
    refine q_vn [] 2 ⟨[(6, vi 0), (7, vb false)], []⟩ ?_
    obtain rfl := Option.some.inj hm
    refine q_rt ?_
    exact q_rm
   ·replace hm := qB b13 hm
    refine q_sk ?_
    refine q_sq ?_
    obtain ⟨v14, h15, hm⟩ := qC hm
    refine q_vu [qc 2 [41, 42] 2 (HI a1 a2 v14 h15)] 2 [4, 40] [(10, vp 2 0)] [1] [(2, bx 52 (wT v14))] ?_
    refine q_sq ?_
    refine q_sq ?_
    refine q_vu [] 3 [3] [(45, vc (tl qG default a1.defects)), (46, vi ((a1.defects.length : Nat) : Int)), (47, vi 0)] [0] [] ?_
    obtain ⟨u28, h27, hm⟩ := qC hm
    refine zW (nd Try.f64 1012) 0 (by kernel_rfl) FUEL (fun o => DI o) (fun v st => RetQ Try.prog Try.f64 (YL v) (jY v) .ret st) u28 (q_hl (XN a1 a3 v14 v7.1 0) (IQ E a1 a3 v14 FUEL v7.1 0 u28 h27)) ?_ ?_
    ·rintro v29 rfl st hr
     obtain rfl := Option.some.inj hm
     exact hr
    ·rintro o26 rfl
     replace hm : _ = some r := hm
     refine q_sq ?_
     refine q_vn [] 3 ⟨[(6, vi (imax o26 0)), (7, vb true)], []⟩ ?_
     obtain rfl := Option.some.inj hm
     refine q_rt ?_
     exact q_rm
  ·rcases Bool.eq_false_or_eq_true (!v7.2) with b9 | b9
   ·replace hm := qA b9 hm
    refine q_du [qf 2 b9] [0, 1, 3, 7, 15, 7, 63, 7, 135, 391, 1023, 2047] 2 [9] [(40, vb true)] [] [] ?_
    exact q_J (true) hm
   ·replace hm := qB b9 hm
    obtain ⟨v10, h11, hm⟩ := qC hm
    refine q_du [qf 2 b9, qk 6 [31, 33, 34] 2 ⟨[(31, vb false), (33, vc (tl qJ default a1.zones)), (34, va (e_Span a2))], []⟩ (qEM a1.zones a2 v10 h11)] [0, 1, 3, 7, 15, 7, 63, 7, 135, 391, 1023, 2047] 2 [9] [(40, vb (decide (v10 > a1.product.Wane)))] [] [] ?_
    exact q_J (decide (v10 > a1.product.Wane)) hm
set_option maxRecDepth 100000
def qFJ (r : (List Worth_zone)) : V := vo 0 0 3 r.length
def qFI (r : (List Worth_zone)) : List (Nat × (Nat × O)) := [(0, ro 0 165 3 r.length (rf qJ r))]
def GY (a1 : List qF) (a2 : Rect) (l3 : List Worth_zone) (l3n : Nat) (x4 : Int) (x5 : Int) : St :=
 ⟨[(3, vp 0 0), (5, vi (w64 ((w64 (a2.X.B - a2.X.A)) * (w64 (a2.Y.B - a2.Y.A))))), (6, vo 1 0 3 l3n), (7, vi x4), (27, vc (tl qH default a1)), (28, vi ((a1.length : Nat) : Int)), (29, vi x5)], [(0, bx 28 (qK a2)), (1, ro 0 165 3 l3n (rf qJ l3))]⟩
def EI (l12 : List Worth_zone) : St :=
 ⟨[(6, vo 1 0 3 l12.length)], [(1, ro 0 165 3 l12.length (rf qJ l12))]⟩
theorem qBH (E : Env 0) (a1 : List qF) (a2 : Rect) : ∀ (n : Nat) (l3 : List Worth_zone) (l3n : Nat) (x4 : Int) (x5 : Int) (res : (List Worth_zone)), l3.length = l3n → WQ a1 a2 n l3 x4 x5 = some res → HL (kx E 61 0) (nd Try.f79 500) (jU 0 (fun o => EI o) res) n (GY a1 a2 l3 l3n x4 x5) := by
 intro n
 induction n with
 | zero =>
  intro l3 l3n x4 x5 res hl0 hm
  cases hm
 | succ n ih =>
  intro l3 l3n x4 x5 res hl0 hm
  subst hl0
  refine qT ?_
  refine q_sq ?_
  refine q_vu [] 2 [] [(30, vb (decide (x5 < ((a1.length : Nat) : Int))))] [] [] ?_
  refine q_sq ?_
  refine q_cn (decide (x5 < ((a1.length : Nat) : Int))) (fun b6 => ?_) (fun b6 => ?_)
  ·replace hm := qA b6 hm
   refine q_sk ?_
   refine q_sq ?_
   refine q_bk 1 ?_
   refine q_sq ?_
   obtain ⟨g7, hm⟩ := qP hm
   refine q_vu [qd 0 (Dir.none) (inb_of g7)] 2 [30] [(9, vp 2 0)] [] [(2, bx 68 [ci ((a1.getD x5.toNat default).Len), ci (((a1.getD x5.toNat default).Sec).Low), tl e_Span default (((a1.getD x5.toNat default).Sec).Rows)])] ?_
   refine q_sq ?_
   obtain ⟨v8, h9, hm⟩ := qC hm
   refine q_vu [qc 4 [35, 36] 3 (HC ((a1.getD x5.toNat default).Sec) a2 v8 h9)] 3 [] [(10, vi (w64 ((w64 ((w64 (a2.X.B - a2.X.A)) * (w64 (a2.Y.B - a2.Y.A)))) - v8)))] [] [] ?_
   refine q_sq ?_
   refine q_vu [] 3 [7, 9] [(11, vp 3 0)] [2] [(3, bx 26 [ci x4, ci (w64 (x4 + ((a1.getD x5.toNat default).Len)))])] ?_
   refine q_sq ?_
   obtain ⟨g10, hm⟩ := qP hm
   obtain ⟨g11, hm⟩ := qP hm
   refine q_du [qd 8 (Dir.none) (qBq g10), qd 10 (drw 4 0 (rf qJ ([(Worth_zone.mk (Span.mk x4 (w64 (x4 + ((a1.getD x5.toNat default).Len)))) (w64 (Int.tdiv (w64 ((w64 ((w64 (1000 * (w64 ((w64 ((w64 (a2.X.B - a2.X.A)) * (w64 (a2.Y.B - a2.Y.A)))) - v8)))) + (w64 ((w64 (a2.X.B - a2.X.A)) * (w64 (a2.Y.B - a2.Y.A)))))) - 1)) (w64 ((w64 (a2.X.B - a2.X.A)) * (w64 (a2.Y.B - a2.Y.A)))))))] : List Worth_zone))) (litP qJ default 3 (fun _ => rfl) ([(Worth_zone.mk (Span.mk x4 (w64 (x4 + ((a1.getD x5.toNat default).Len)))) (w64 (Int.tdiv (w64 ((w64 ((w64 (1000 * (w64 ((w64 ((w64 (a2.X.B - a2.X.A)) * (w64 (a2.Y.B - a2.Y.A)))) - v8)))) + (w64 ((w64 (a2.X.B - a2.X.A)) * (w64 (a2.Y.B - a2.Y.A)))))) - 1)) (w64 ((w64 (a2.X.B - a2.X.A)) * (w64 (a2.Y.B - a2.Y.A)))))))] : List Worth_zone) 1 rfl), qd 11 (drw 1 1 (rf qJ (l3 ++ ([(Worth_zone.mk (Span.mk x4 (w64 (x4 + ((a1.getD x5.toNat default).Len)))) (w64 (Int.tdiv (w64 ((w64 ((w64 (1000 * (w64 ((w64 ((w64 (a2.X.B - a2.X.A)) * (w64 (a2.Y.B - a2.Y.A)))) - v8)))) + (w64 ((w64 (a2.X.B - a2.X.A)) * (w64 (a2.Y.B - a2.Y.A)))))) - 1)) (w64 ((w64 (a2.X.B - a2.X.A)) * (w64 (a2.Y.B - a2.Y.A)))))))] : List Worth_zone)))) (apP qJ default l3 ([(Worth_zone.mk (Span.mk x4 (w64 (x4 + ((a1.getD x5.toNat default).Len)))) (w64 (Int.tdiv (w64 ((w64 ((w64 (1000 * (w64 ((w64 ((w64 (a2.X.B - a2.X.A)) * (w64 (a2.Y.B - a2.Y.A)))) - v8)))) + (w64 ((w64 (a2.X.B - a2.X.A)) * (w64 (a2.Y.B - a2.Y.A)))))) - 1)) (w64 ((w64 (a2.X.B - a2.X.A)) * (w64 (a2.Y.B - a2.Y.A)))))))] : List Worth_zone) l3.length 1 3 24 (1 ≤ 1) (Nat.le_refl _) rfl rfl (fun _ => rfl) (XW g11))] [0, 0, 0, 4, 0, 28, 60, 0, 252, 510, 1022, 2047, 4095] 4 [6, 10] [(6, vo 1 1 3 (l3.length + 1))] [1] [(1, ro 1 165 3 (l3.length + 1) (rf qJ (l3 ++ ([(Worth_zone.mk (Span.mk x4 (w64 (x4 + ((a1.getD x5.toNat default).Len)))) (w64 (Int.tdiv (w64 ((w64 ((w64 (1000 * (w64 ((w64 ((w64 (a2.X.B - a2.X.A)) * (w64 (a2.Y.B - a2.Y.A)))) - v8)))) + (w64 ((w64 (a2.X.B - a2.X.A)) * (w64 (a2.Y.B - a2.Y.A)))))) - 1)) (w64 ((w64 (a2.X.B - a2.X.A)) * (w64 (a2.Y.B - a2.Y.A)))))))] : List Worth_zone))))] ?_
   refine q_vu [] 5 [11] [(7, vi (w64 (x4 + ((a1.getD x5.toNat default).Len))))] [3] [] ?_
   refine q_vu [] 5 [29] [(29, vi (w64 (x5 + 1)))] [] [] ?_
   exact q_hl (GY a1 a2 (l3 ++ ([(Worth_zone.mk (Span.mk x4 (w64 (x4 + ((a1.getD x5.toNat default).Len)))) (w64 (Int.tdiv (w64 ((w64 ((w64 (1000 * (w64 ((w64 ((w64 (a2.X.B - a2.X.A)) * (w64 (a2.Y.B - a2.Y.A)))) - v8)))) + (w64 ((w64 (a2.X.B - a2.X.A)) * (w64 (a2.Y.B - a2.Y.A)))))) - 1)) (w64 ((w64 (a2.X.B - a2.X.A)) * (w64 (a2.Y.B - a2.Y.A)))))))] : List Worth_zone)) (l3.length + 1) (w64 (x4 + ((a1.getD x5.toNat default).Len))) (w64 (x5 + 1))) (ih (l3 ++ ([(Worth_zone.mk (Span.mk x4 (w64 (x4 + ((a1.getD x5.toNat default).Len)))) (w64 (Int.tdiv (w64 ((w64 ((w64 (1000 * (w64 ((w64 ((w64 (a2.X.B - a2.X.A)) * (w64 (a2.Y.B - a2.Y.A)))) - v8)))) + (w64 ((w64 (a2.X.B - a2.X.A)) * (w64 (a2.Y.B - a2.Y.A)))))) - 1)) (w64 ((w64 (a2.X.B - a2.X.A)) * (w64 (a2.Y.B - a2.Y.A)))))))] : List Worth_zone)) (l3.length + 1) (w64 (x4 + ((a1.getD x5.toNat default).Len))) (w64 (x5 + 1)) _ (len_app rfl rfl) hm)
  ·replace hm := qB b6 hm
   refine q_ex 0 ?_
   obtain rfl := Option.some.inj hm
   exact ZP (by kernel_rfl) (by kernel_rfl)
theorem qEh (a1 : List qF) (a2 : Rect) (r : (List Worth_zone)) (hm : GE a1 a2 = some r) : CtX Try.prog globs 79 0 0 [.one (tl qH default a1), .agg (qK a2)] [] (qFJ r) (qFI r) := by
 unfold GE at hm
 refine q_E Try.f79 61 fun E => ?_
 refine q_sq ?_
 refine q_vn [] 0 ⟨[(0, vc (tl qH default a1)), (3, vp 0 0)], [(0, bx 28 (qK a2))]⟩ ?_
 refine q_sq ?_
 refine q_vu [] 1 [] [(5, vi (w64 ((w64 (a2.X.B - a2.X.A)) * (w64 (a2.Y.B - a2.Y.A)))))] [] [] ?_
 refine q_sq ?_
 refine q_vu [] 1 [] [(6, vc (.emp))] [] [] ?_
 refine q_sq ?_
 refine q_vu [] 1 [] [(7, vi 0)] [] [] ?_
 refine q_sq ?_
 refine q_sq ?_
 refine q_vu [] 1 [0] [(27, vc (tl qH default a1)), (28, vi ((a1.length : Nat) : Int)), (29, vi 0)] [] [] ?_
 refine q_fn [.own 6 1 165 3 (rf qJ ([] : List Worth_zone))] ⟨[(3, vp 0 0), (5, vi (w64 ((w64 (a2.X.B - a2.X.A)) * (w64 (a2.Y.B - a2.Y.A))))), (6, vo 1 0 3 0), (7, vi 0), (27, vc (tl qH default a1)), (28, vi ((a1.length : Nat) : Int)), (29, vi 0)], [(0, bx 28 (qK a2)), (1, ro 0 165 3 0 (rf qJ ([] : List Worth_zone)))]⟩ o0 ?_
 obtain ⟨o13, h14, hm⟩ := qC hm
 refine jL (nd Try.f79 500) 0 (by kernel_rfl) FUEL (fun o => EI o) o13 (q_hl (GY a1 a2 ([] : List Worth_zone) 0 0 0) (qBH E a1 a2 FUEL ([] : List Worth_zone) 0 0 0 o13 rfl h14)) ?_
 refine q_sq ?_
 refine q_vu [] 2 [6] [(4, vo 1 0 3 o13.length)] [] [] ?_
 obtain rfl := Option.some.inj hm
 refine jO 1 0 (by kernel_rfl) ?_
 refine q_rt ?_
 exact q_rm
open Go.Proofs
set_option maxHeartbeats 4000000
set_option maxRecDepth 100000
def FO (r : Bool) : V := vb r
def NZ (r : Bool) : List (Nat × (Nat × O)) := []
def MX (a1 : Rect) (x2 : Int) (x7 : Bool) : St :=
 ⟨[(9, va (qK a1)), (10, vi x2), (27, vb x7)], []⟩
def VI (a1 : Rect) (x2 : Int) : St :=
 ⟨[(9, va (qK a1)), (10, vi x2)], []⟩
def HH : St :=
 ⟨[], []⟩
theorem qAD (E : Env 0) (a1 : Rect) : ∀ (n : Nat) (x2 : Int) (res : Bool ⊕ Unit), zO a1 n x2 = some res → HL (kx E 29 0) (nd Try.f78 52) (yI 0 (fun o => HH) (fun v st => RetQ Try.prog Try.f78 (FO v) (NZ v) .ret st) res) n (VI a1 x2) := by
 intro n
 induction n with
 | zero =>
  intro x2 res hm
  cases hm
 | succ n ih =>
  intro x2 res hm
  refine qT ?_
  refine q_sq ?_
  refine q_vu [] 1 [] [(11, vb (decide (x2 < 2)))] [] [] ?_
  refine q_sq ?_
  refine q_cn (decide (x2 < 2)) (fun b3 => ?_) (fun b3 => ?_)
  ·replace hm := qA b3 hm
   refine q_sk ?_
   refine q_sq ?_
   refine q_bk 1 ?_
   refine q_sq ?_
   obtain ⟨g4, hm⟩ := qP hm
   refine q_vu [qd 0 (Dir.none) (inb_of g4)] 1 [11] [(4, vp 1 0)] [] [(1, bx 26 [ci (([a1.X.A, a1.X.B, a1.Y.A, a1.Y.B] : List Int).getD (x2.toNat * 2 + 0) 0), ci (([a1.X.A, a1.X.B, a1.Y.A, a1.Y.B] : List Int).getD (x2.toNat * 2 + 1) 0)])] ?_
   refine q_jn (ι := Bool) (fun p => MX a1 x2 p) (fun p => jJ x2 (zO a1 n) p = some res) ?_ ?_
   ·rintro x7 hm
    show H _ (MX a1 x2 x7) _ _
    refine q_cn x7 (fun b8 => ?_) (fun b8 => ?_)
    ·replace hm := qA b8 hm
     refine q_sq ?_
     refine q_vn [] 2 ⟨[(2, vb false)], []⟩ ?_
     obtain rfl := Option.some.inj hm
     refine q_rt ?_
     refine zL false ?_
     exact q_rm
    ·replace hm := qB b8 hm
     refine q_sk ?_
     refine q_vu [] 2 [10, 27] [(10, vi (w64 (x2 + 1)))] [] [] ?_
     exact q_hl (VI a1 (w64 (x2 + 1))) (ih (w64 (x2 + 1)) _ hm)
   ·rcases Bool.eq_false_or_eq_true (decide ((([a1.X.A, a1.X.B, a1.Y.A, a1.Y.B] : List Int).getD (x2.toNat * 2 + 0) 0) < (-600))) with b5 | b5
    ·replace hm := qA b5 hm
     refine q_vu [qf 3 b5] 2 [4] [(27, vb true)] [1] [] ?_
     exact q_J (true) hm
    ·replace hm := qB b5 hm
     rcases Bool.eq_false_or_eq_true (decide ((([a1.X.A, a1.X.B, a1.Y.A, a1.Y.B] : List Int).getD (x2.toNat * 2 + 1) 0) > 600)) with b6 | b6
     ·replace hm := qA b6 hm
      refine q_vu [qf 3 b5, qf 8 b6] 2 [4] [(27, vb true)] [1] [] ?_
      exact q_J (true) hm
     ·replace hm := qB b6 hm
      refine q_vu [qf 3 b5, qf 8 b6] 2 [4] [(27, vb (decide ((([a1.X.A, a1.X.B, a1.Y.A, a1.Y.B] : List Int).getD (x2.toNat * 2 + 0) 0) ≥ (([a1.X.A, a1.X.B, a1.Y.A, a1.Y.B] : List Int).getD (x2.toNat * 2 + 1) 0))))] [1] [] ?_
      exact q_J (decide ((([a1.X.A, a1.X.B, a1.Y.A, a1.Y.B] : List Int).getD (x2.toNat * 2 + 0) 0) ≥ (([a1.X.A, a1.X.B, a1.Y.A, a1.Y.B] : List Int).getD (x2.toNat * 2 + 1) 0))) hm
  ·replace hm := qB b3 hm
   refine q_ex 0 ?_
   obtain rfl := Option.some.inj hm
   exact yP () (by kernel_rfl) (by kernel_rfl)
theorem qCU (a1 : Rect) (r : Bool) (hm : TV a1 = some r) : CtX Try.prog globs 78 0 0 [.agg (qK a1)] [] (FO r) (NZ r) := by
 unfold TV at hm
 refine q_E Try.f78 29 fun E => ?_
 refine q_sq ?_
 refine q_vn [] 0 ⟨[(1, vp 0 0)], [(0, bx 28 (qK a1))]⟩ ?_
 refine q_sq ?_
 refine q_sq ?_
 refine q_vn [] 1 ⟨[(9, va (qK a1)), (10, vi 0)], []⟩ ?_
 obtain ⟨u11, h10, hm⟩ := qC hm
 refine zW (nd Try.f78 52) 0 (by kernel_rfl) FUEL (fun o => HH) (fun v st => RetQ Try.prog Try.f78 (FO v) (NZ v) .ret st) u11 (q_hl (VI a1 0) (qAD E a1 FUEL 0 u11 h10)) ?_ ?_
 ·rintro v12 rfl st hr
  obtain rfl := Option.some.inj hm
  exact hr
 ·rintro o9 rfl
  replace hm : _ = some r := hm
  refine q_sq ?_
  refine q_vn [] 1 ⟨[(2, vb true)], []⟩ ?_
  obtain rfl := Option.some.inj hm
  refine q_rt ?_
  exact q_rm
def qGy (r : Worth_view × Bool) : V := .tup [.agg [cs r.1.product.Name, ci r.1.product.Thick, ci r.1.product.Width, ci r.1.product.Allow, ci r.1.product.Wane, tl qM default r.1.product.Lengths, tl qM default r.1.product.Prices, ci r.1.rect.X.A, ci r.1.rect.X.B, ci r.1.rect.Y.A, ci r.1.rect.Y.B, ci r.1.length, .own 0 0 3 r.1.zones.length, .own 1 0 7 r.1.defects.length], .one (cb r.2)]
def qGq (r : Worth_view × Bool) : List (Nat × (Nat × O)) := [(0, ro 0 165 3 r.1.zones.length (rf qJ r.1.zones)), (1, ro 0 139 7 r.1.defects.length (rf qG r.1.defects))]
def AJ (a2 : List Defect) (a3 : Product) (a4 : Rect) (v23 : Int) (v25 : (List Worth_zone)) (v27 : Box) (x29 : Int) (l37 : List Defect) (l37n : Nat) : St :=
 ⟨[(8, vp 2 0), (13, vp 6 0), (14, vp 7 0), (83, vc (tl qG default a2)), (84, vi ((a2.length : Nat) : Int)), (85, vi x29)], [(2, bx 129 [cs (ByteArray.mk #[]), ci 0, ci 0, ci 0, ci 0, .emp, .emp, ci 0, ci 0, ci 0, ci 0, ci 0, .emp, .emp]), (5, ro 0 165 3 v25.length (rf qJ v25)), (6, bx 129 [cs a3.Name, ci a3.Thick, ci a3.Width, ci a3.Allow, ci a3.Wane, tl qM default a3.Lengths, tl qM default a3.Prices, ci a4.X.A, ci a4.X.B, ci a4.Y.A, ci a4.Y.B, ci v23, .own 5 0 3 v25.length, .own 8 0 7 l37n]), (7, bx 52 (wT v27)), (8, ro 0 139 7 l37n (rf qG l37))]⟩
def BT (a2 : List Defect) (a3 : Product) (a4 : Rect) (v23 : Int) (v25 : (List Worth_zone)) (v27 : Box) (x29 : Int) (l30 : List Defect) (l30n : Nat) : St :=
 ⟨[(8, vp 2 0), (13, vp 6 0), (14, vp 7 0), (83, vc (tl qG default a2)), (84, vi ((a2.length : Nat) : Int)), (85, vi x29)], [(2, bx 129 [cs (ByteArray.mk #[]), ci 0, ci 0, ci 0, ci 0, .emp, .emp, ci 0, ci 0, ci 0, ci 0, ci 0, .emp, .emp]), (5, ro 0 165 3 v25.length (rf qJ v25)), (6, bx 129 [cs a3.Name, ci a3.Thick, ci a3.Width, ci a3.Allow, ci a3.Wane, tl qM default a3.Lengths, tl qM default a3.Prices, ci a4.X.A, ci a4.X.B, ci a4.Y.A, ci a4.Y.B, ci v23, .own 5 0 3 v25.length, .own 8 0 7 l30n]), (7, bx 52 (wT v27)), (8, ro 0 139 7 l30n (rf qG l30))]⟩
def AA (a3 : Product) (a4 : Rect) (v23 : Int) (v25 : (List Worth_zone)) (l38 : List Defect) : St :=
 ⟨[(8, vp 2 0), (13, vp 6 0)], [(2, bx 129 [cs (ByteArray.mk #[]), ci 0, ci 0, ci 0, ci 0, .emp, .emp, ci 0, ci 0, ci 0, ci 0, ci 0, .emp, .emp]), (5, ro 0 165 3 v25.length (rf qJ v25)), (6, bx 129 [cs a3.Name, ci a3.Thick, ci a3.Width, ci a3.Allow, ci a3.Wane, tl qM default a3.Lengths, tl qM default a3.Prices, ci a4.X.A, ci a4.X.B, ci a4.Y.A, ci a4.Y.B, ci v23, .own 5 0 3 v25.length, .own 8 0 7 l38.length]), (8, ro 0 139 7 l38.length (rf qG l38))]⟩
def AT (a1 : List qF) (a2 : List Defect) (a3 : Product) (a4 : Rect) (x21 : Bool) : St :=
 ⟨[(0, vc (tl qH default a1)), (1, vc (tl qG default a2)), (6, vp 0 0), (7, vp 1 0), (8, vp 2 0), (68, vb x21)], [(0, bx 71 (qE a3)), (1, bx 28 (qK a4)), (2, bx 129 [cs (ByteArray.mk #[]), ci 0, ci 0, ci 0, ci 0, .emp, .emp, ci 0, ci 0, ci 0, ci 0, ci 0, .emp, .emp])]⟩
def AG (a1 : List qF) (a2 : List Defect) (a3 : Product) (a4 : Rect) (x16 : Bool) : St :=
 ⟨[(0, vc (tl qH default a1)), (1, vc (tl qG default a2)), (6, vp 0 0), (7, vp 1 0), (8, vp 2 0), (35, vb x16)], [(0, bx 71 (qE a3)), (1, bx 28 (qK a4)), (2, bx 129 [cs (ByteArray.mk #[]), ci 0, ci 0, ci 0, ci 0, .emp, .emp, ci 0, ci 0, ci 0, ci 0, ci 0, .emp, .emp])]⟩
theorem qCM (E : Env 0) (a2 : List Defect) (a3 : Product) (a4 : Rect) (v23 : Int) (v25 : (List Worth_zone)) (v27 : Box) : ∀ (n : Nat) (x29 : Int) (l30 : List Defect) (l30n : Nat) (res : (List Defect)), l30.length = l30n → QC a2 v27 n x29 l30 = some res → HL (kx E 100 0) (nd Try.f63 4084) (jU 0 (fun o => AA a3 a4 v23 v25 o) res) n (BT a2 a3 a4 v23 v25 v27 x29 l30 l30n) := by
 intro n
 induction n with
 | zero =>
  intro x29 l30 l30n res hl0 hm
  cases hm
 | succ n ih =>
  intro x29 l30 l30n res hl0 hm
  subst hl0
  refine qT ?_
  refine q_sq ?_
  refine q_vu [] 9 [] [(86, vb (decide (x29 < ((a2.length : Nat) : Int))))] [] [] ?_
  refine q_sq ?_
  refine q_cn (decide (x29 < ((a2.length : Nat) : Int))) (fun b31 => ?_) (fun b31 => ?_)
  ·replace hm := qA b31 hm
   refine q_sk ?_
   refine q_jn (ι := (List Defect) × Nat) (fun p => AJ a2 a3 a4 v23 v25 v27 x29 p.1 p.2) (fun p => p.1.length = p.2 ∧ GN x29 (QC a2 v27 n) p.1 = some res) ?_ ?_
   ·rintro ⟨l37, l37n⟩ ⟨el37, hm⟩
    replace el37 : l37.length = l37n := el37
    subst el37
    show H _ (AJ a2 a3 a4 v23 v25 v27 x29 l37 l37.length) _ _
    refine q_vu [] 11 [85] [(85, vi (w64 (x29 + 1)))] [] [] ?_
    exact q_hl (BT a2 a3 a4 v23 v25 v27 (w64 (x29 + 1)) l37 l37.length) (ih (w64 (x29 + 1)) l37 l37.length _ rfl hm)
   ·refine q_bk 1 ?_
    refine q_sq ?_
    obtain ⟨g32, hm⟩ := qP hm
    refine q_vu [qd 0 (Dir.none) (inb_of g32)] 9 [86] [(16, vp 9 0)] [] [(9, bx 139 [ci ((a2.getD x29.toNat default).Kind), ci ((((a2.getD x29.toNat default).Box).X).A), ci ((((a2.getD x29.toNat default).Box).X).B), ci ((((a2.getD x29.toNat default).Box).Y).A), ci ((((a2.getD x29.toNat default).Box).Y).B), ci ((((a2.getD x29.toNat default).Box).Z).A), ci ((((a2.getD x29.toNat default).Box).Z).B)])] ?_
    refine q_sq ?_
    obtain ⟨v33, h34, hm⟩ := qC hm
    refine q_vu [qc 2 [89, 90] 10 (MO (a2.getD x29.toNat default) v27 v33 h34)] 10 [] [(91, vb v33)] [] [] ?_
    refine q_cn v33 (fun b35 => ?_) (fun b35 => ?_)
    ·replace hm := qA b35 hm
     obtain ⟨g36, hm⟩ := qP hm
     refine q_vu [qd 3 (drw 10 0 (rf qG ([(a2.getD x29.toNat default)] : List Defect))) (litP qG default 7 (fun _ => rfl) ([(a2.getD x29.toNat default)] : List Defect) 1 rfl), qd 4 (drw 8 1 (rf qG (l30 ++ ([(a2.getD x29.toNat default)] : List Defect)))) (apP qG default l30 ([(a2.getD x29.toNat default)] : List Defect) l30.length 1 7 56 (1 ≤ 1) (Nat.le_refl _) rfl rfl (fun _ => rfl) (XW g36))] 10 [16, 91] [] [6, 8, 9] [(6, bx 129 [cs a3.Name, ci a3.Thick, ci a3.Width, ci a3.Allow, ci a3.Wane, tl qM default a3.Lengths, tl qM default a3.Prices, ci a4.X.A, ci a4.X.B, ci a4.Y.A, ci a4.Y.B, ci v23, .own 5 0 3 v25.length, .own 8 1 7 (l30.length + 1)]), (8, ro 1 139 7 (l30.length + 1) (rf qG (l30 ++ ([(a2.getD x29.toNat default)] : List Defect))))] ?_
     exact q_J ((l30 ++ ([(a2.getD x29.toNat default)] : List Defect)), (l30.length + 1)) ⟨(len_app rfl rfl), hm⟩
    ·replace hm := qB b35 hm
     refine q_sk ?_
     exact q_J (l30, l30.length) ⟨rfl, hm⟩
  ·replace hm := qB b31 hm
   refine q_ex 0 ?_
   obtain rfl := Option.some.inj hm
   exact ZP (by kernel_rfl) (by kernel_rfl)
theorem qFK (a1 : List qF) (a2 : List Defect) (a3 : Product) (a4 : Rect) (r : Worth_view × Bool) (hm : BO a1 a2 a3 a4 = some r) : CtX Try.prog globs 63 0 0 [.one (tl qH default a1), .one (tl qG default a2), .agg (qE a3), .agg (qK a4)] [] (qGy r) (qGq r) := by
 unfold BO at hm
 refine q_E Try.f63 100 fun E => ?_
 refine q_sq ?_
 refine q_vn [] 0 ⟨[(0, vc (tl qH default a1)), (1, vc (tl qG default a2)), (6, vp 0 0), (7, vp 1 0), (8, vp 2 0)], [(0, bx 71 (qE a3)), (1, bx 28 (qK a4)), (2, bx 129 [cs (ByteArray.mk #[]), ci 0, ci 0, ci 0, ci 0, .emp, .emp, ci 0, ci 0, ci 0, ci 0, ci 0, .emp, .emp])]⟩ ?_
 refine q_sq ?_
 refine q_jn (ι := Bool) (fun p => AG a1 a2 a3 a4 p) (fun p => JV a1 a2 a3 a4 p = some r) ?_ ?_
 ·rintro x16 hm
  show H _ (AG a1 a2 a3 a4 x16) _ _
  refine q_cn x16 (fun b17 => ?_) (fun b17 => ?_)
  ·replace hm := qA b17 hm
   refine q_sq ?_
   refine q_vu [] 4 [0, 1, 6, 7, 35] [(9, vb false)] [0, 1] [] ?_
   refine q_fn [.ownB 2 5 4 3 1 (rf qM ([] : List Int))] ⟨[(8, vp 2 0), (9, vb false)], [(2, bx 129 [cs (ByteArray.mk #[]), ci 0, ci 0, ci 0, ci 0, .own 4 0 1 0, .emp, ci 0, ci 0, ci 0, ci 0, ci 0, .emp, .emp]), (4, ro 0 3 1 0 (rf qM ([] : List Int)))]⟩ o0 ?_
   refine q_fn [.ownB 2 6 5 3 1 (rf qM ([] : List Int))] ⟨[(8, vp 2 0), (9, vb false)], [(2, bx 129 [cs (ByteArray.mk #[]), ci 0, ci 0, ci 0, ci 0, .own 4 0 1 0, .own 5 0 1 0, ci 0, ci 0, ci 0, ci 0, ci 0, .emp, .emp]), (4, ro 0 3 1 0 (rf qM ([] : List Int))), (5, ro 0 3 1 0 (rf qM ([] : List Int)))]⟩ o0 ?_
   refine q_fn [.ownB 2 12 6 165 3 (rf qJ ([] : List Worth_zone))] ⟨[(8, vp 2 0), (9, vb false)], [(2, bx 129 [cs (ByteArray.mk #[]), ci 0, ci 0, ci 0, ci 0, .own 4 0 1 0, .own 5 0 1 0, ci 0, ci 0, ci 0, ci 0, ci 0, .own 6 0 3 0, .emp]), (4, ro 0 3 1 0 (rf qM ([] : List Int))), (5, ro 0 3 1 0 (rf qM ([] : List Int))), (6, ro 0 165 3 0 (rf qJ ([] : List Worth_zone)))]⟩ o0 ?_
   refine q_fn [.ownB 2 13 7 139 7 (rf qG ([] : List Defect))] ⟨[(8, vp 2 0), (9, vb false)], [(2, bx 129 [cs (ByteArray.mk #[]), ci 0, ci 0, ci 0, ci 0, .own 4 0 1 0, .own 5 0 1 0, ci 0, ci 0, ci 0, ci 0, ci 0, .own 6 0 3 0, .own 7 0 7 0]), (4, ro 0 3 1 0 (rf qM ([] : List Int))), (5, ro 0 3 1 0 (rf qM ([] : List Int))), (6, ro 0 165 3 0 (rf qJ ([] : List Worth_zone))), (7, ro 0 139 7 0 (rf qG ([] : List Defect)))]⟩ o0 ?_
   refine q_fn [.len 4 (([] : List Int).length), .frz 4] ⟨[(8, vp 2 0), (9, vb false)], [(2, bx 129 [cs (ByteArray.mk #[]), ci 0, ci 0, ci 0, ci 0, tl qM default ([] : List Int), .own 5 0 1 0, ci 0, ci 0, ci 0, ci 0, ci 0, .own 6 0 3 0, .own 7 0 7 0]), (5, ro 0 3 1 0 (rf qM ([] : List Int))), (6, ro 0 165 3 0 (rf qJ ([] : List Worth_zone))), (7, ro 0 139 7 0 (rf qG ([] : List Defect)))]⟩ (o1 (And.intro (And.intro (show 0 = ([] : List Int).length from rfl) (show 0 = ([] : List Int).length from rfl)) (Nat.le_refl (([] : List Int).length)))) ?_
   refine q_fn [.len 5 (([] : List Int).length), .frz 5] ⟨[(8, vp 2 0), (9, vb false)], [(2, bx 129 [cs (ByteArray.mk #[]), ci 0, ci 0, ci 0, ci 0, tl qM default ([] : List Int), tl qM default ([] : List Int), ci 0, ci 0, ci 0, ci 0, ci 0, .own 6 0 3 0, .own 7 0 7 0]), (6, ro 0 165 3 0 (rf qJ ([] : List Worth_zone))), (7, ro 0 139 7 0 (rf qG ([] : List Defect)))]⟩ (o1 (And.intro (And.intro (show 0 = ([] : List Int).length from rfl) (show 0 = ([] : List Int).length from rfl)) (Nat.le_refl (([] : List Int).length)))) ?_
   refine q_fn [.len 6 (([] : List Worth_zone).length)] ⟨[(8, vp 2 0), (9, vb false)], [(2, bx 129 [cs (ByteArray.mk #[]), ci 0, ci 0, ci 0, ci 0, tl qM default ([] : List Int), tl qM default ([] : List Int), ci 0, ci 0, ci 0, ci 0, ci 0, .own 6 0 3 (([] : List Worth_zone).length), .own 7 0 7 0]), (6, ro 0 165 3 (([] : List Worth_zone).length) (rf qJ ([] : List Worth_zone))), (7, ro 0 139 7 0 (rf qG ([] : List Defect)))]⟩ (o1 (And.intro (show 0 = ([] : List Worth_zone).length from rfl) (show 0 = ([] : List Worth_zone).length from rfl))) ?_
   refine q_fn [.len 7 (([] : List Defect).length)] ⟨[(8, vp 2 0), (9, vb false)], [(2, bx 129 [cs (ByteArray.mk #[]), ci 0, ci 0, ci 0, ci 0, tl qM default ([] : List Int), tl qM default ([] : List Int), ci 0, ci 0, ci 0, ci 0, ci 0, .own 6 0 3 (([] : List Worth_zone).length), .own 7 0 7 (([] : List Defect).length)]), (6, ro 0 165 3 (([] : List Worth_zone).length) (rf qJ ([] : List Worth_zone))), (7, ro 0 139 7 (([] : List Defect).length) (rf qG ([] : List Defect)))]⟩ (o1 (And.intro (show 0 = ([] : List Defect).length from rfl) (show 0 = ([] : List Defect).length from rfl))) ?_
   obtain rfl := Option.some.inj hm
   refine jO 6 0 (by kernel_rfl) ?_
   refine jO 7 1 (by kernel_rfl) ?_
   refine q_rt ?_
   exact q_rm
  ·replace hm := qB b17 hm
   refine q_sk ?_
   refine q_sq ?_
   obtain ⟨v18, h19, hm⟩ := qC hm
   refine q_vu [qc 1 [38] 4 (DC a3 v18 h19)] 4 [35] [(10, vi v18.1), (11, vi v18.2)] [] [] ?_
   refine q_sq ?_
   refine q_vu [] 4 [] [(12, vp 4 0)] [] [(4, bx 152 [ci (w64 (a4.X.B - a4.X.A)), ci (w64 (a4.Y.B - a4.Y.A))])] ?_
   refine q_sq ?_
   refine q_jn (ι := Bool) (fun p => AT a1 a2 a3 a4 p) (fun p => PM a1 a2 a3 a4 p = some r) ?_ ?_
   ·rintro x21 hm
    show H _ (AT a1 a2 a3 a4 x21) _ _
    refine q_cn x21 (fun b22 => ?_) (fun b22 => ?_)
    ·replace hm := qA b22 hm
     refine q_sq ?_
     refine q_vu [] 5 [0, 1, 6, 7, 68] [(9, vb false)] [0, 1] [] ?_
     refine q_fn [.ownB 2 5 5 3 1 (rf qM ([] : List Int))] ⟨[(8, vp 2 0), (9, vb false)], [(2, bx 129 [cs (ByteArray.mk #[]), ci 0, ci 0, ci 0, ci 0, .own 5 0 1 0, .emp, ci 0, ci 0, ci 0, ci 0, ci 0, .emp, .emp]), (5, ro 0 3 1 0 (rf qM ([] : List Int)))]⟩ o0 ?_
     refine q_fn [.ownB 2 6 6 3 1 (rf qM ([] : List Int))] ⟨[(8, vp 2 0), (9, vb false)], [(2, bx 129 [cs (ByteArray.mk #[]), ci 0, ci 0, ci 0, ci 0, .own 5 0 1 0, .own 6 0 1 0, ci 0, ci 0, ci 0, ci 0, ci 0, .emp, .emp]), (5, ro 0 3 1 0 (rf qM ([] : List Int))), (6, ro 0 3 1 0 (rf qM ([] : List Int)))]⟩ o0 ?_
     refine q_fn [.ownB 2 12 7 165 3 (rf qJ ([] : List Worth_zone))] ⟨[(8, vp 2 0), (9, vb false)], [(2, bx 129 [cs (ByteArray.mk #[]), ci 0, ci 0, ci 0, ci 0, .own 5 0 1 0, .own 6 0 1 0, ci 0, ci 0, ci 0, ci 0, ci 0, .own 7 0 3 0, .emp]), (5, ro 0 3 1 0 (rf qM ([] : List Int))), (6, ro 0 3 1 0 (rf qM ([] : List Int))), (7, ro 0 165 3 0 (rf qJ ([] : List Worth_zone)))]⟩ o0 ?_
     refine q_fn [.ownB 2 13 8 139 7 (rf qG ([] : List Defect))] ⟨[(8, vp 2 0), (9, vb false)], [(2, bx 129 [cs (ByteArray.mk #[]), ci 0, ci 0, ci 0, ci 0, .own 5 0 1 0, .own 6 0 1 0, ci 0, ci 0, ci 0, ci 0, ci 0, .own 7 0 3 0, .own 8 0 7 0]), (5, ro 0 3 1 0 (rf qM ([] : List Int))), (6, ro 0 3 1 0 (rf qM ([] : List Int))), (7, ro 0 165 3 0 (rf qJ ([] : List Worth_zone))), (8, ro 0 139 7 0 (rf qG ([] : List Defect)))]⟩ o0 ?_
     refine q_fn [.len 5 (([] : List Int).length), .frz 5] ⟨[(8, vp 2 0), (9, vb false)], [(2, bx 129 [cs (ByteArray.mk #[]), ci 0, ci 0, ci 0, ci 0, tl qM default ([] : List Int), .own 6 0 1 0, ci 0, ci 0, ci 0, ci 0, ci 0, .own 7 0 3 0, .own 8 0 7 0]), (6, ro 0 3 1 0 (rf qM ([] : List Int))), (7, ro 0 165 3 0 (rf qJ ([] : List Worth_zone))), (8, ro 0 139 7 0 (rf qG ([] : List Defect)))]⟩ (o1 (And.intro (And.intro (show 0 = ([] : List Int).length from rfl) (show 0 = ([] : List Int).length from rfl)) (Nat.le_refl (([] : List Int).length)))) ?_
     refine q_fn [.len 6 (([] : List Int).length), .frz 6] ⟨[(8, vp 2 0), (9, vb false)], [(2, bx 129 [cs (ByteArray.mk #[]), ci 0, ci 0, ci 0, ci 0, tl qM default ([] : List Int), tl qM default ([] : List Int), ci 0, ci 0, ci 0, ci 0, ci 0, .own 7 0 3 0, .own 8 0 7 0]), (7, ro 0 165 3 0 (rf qJ ([] : List Worth_zone))), (8, ro 0 139 7 0 (rf qG ([] : List Defect)))]⟩ (o1 (And.intro (And.intro (show 0 = ([] : List Int).length from rfl) (show 0 = ([] : List Int).length from rfl)) (Nat.le_refl (([] : List Int).length)))) ?_
     refine q_fn [.len 7 (([] : List Worth_zone).length)] ⟨[(8, vp 2 0), (9, vb false)], [(2, bx 129 [cs (ByteArray.mk #[]), ci 0, ci 0, ci 0, ci 0, tl qM default ([] : List Int), tl qM default ([] : List Int), ci 0, ci 0, ci 0, ci 0, ci 0, .own 7 0 3 (([] : List Worth_zone).length), .own 8 0 7 0]), (7, ro 0 165 3 (([] : List Worth_zone).length) (rf qJ ([] : List Worth_zone))), (8, ro 0 139 7 0 (rf qG ([] : List Defect)))]⟩ (o1 (And.intro (show 0 = ([] : List Worth_zone).length from rfl) (show 0 = ([] : List Worth_zone).length from rfl))) ?_
     refine q_fn [.len 8 (([] : List Defect).length)] ⟨[(8, vp 2 0), (9, vb false)], [(2, bx 129 [cs (ByteArray.mk #[]), ci 0, ci 0, ci 0, ci 0, tl qM default ([] : List Int), tl qM default ([] : List Int), ci 0, ci 0, ci 0, ci 0, ci 0, .own 7 0 3 (([] : List Worth_zone).length), .own 8 0 7 (([] : List Defect).length)]), (7, ro 0 165 3 (([] : List Worth_zone).length) (rf qJ ([] : List Worth_zone))), (8, ro 0 139 7 (([] : List Defect).length) (rf qG ([] : List Defect)))]⟩ (o1 (And.intro (show 0 = ([] : List Defect).length from rfl) (show 0 = ([] : List Defect).length from rfl))) ?_
     obtain rfl := Option.some.inj hm
     refine jO 7 0 (by kernel_rfl) ?_
     refine jO 8 1 (by kernel_rfl) ?_
     refine q_rt ?_
     exact q_rm
    ·replace hm := qB b22 hm
     refine q_sk ?_
     refine q_sq ?_
     obtain ⟨v23, h24, hm⟩ := qC hm
     obtain ⟨v25, h26, hm⟩ := qC hm
     refine q_du [qc 3 [72] 5 (RS a1 v23 h24), qc 6 [74, 75] 5 (qEh a1 a4 v25 h26)] [0, 0, 0, 4, 0, 0, 60, 127, 0, 511] 5 [0, 6, 7, 68] [(13, vp 6 0)] [0, 1] [(5, ro 0 165 3 v25.length (rf qJ v25)), (6, bx 129 [cs a3.Name, ci a3.Thick, ci a3.Width, ci a3.Allow, ci a3.Wane, tl qM default a3.Lengths, tl qM default a3.Prices, ci a4.X.A, ci a4.X.B, ci a4.Y.A, ci a4.Y.B, ci v23, .own 5 0 3 v25.length, .emp])] ?_
     refine q_sq ?_
     obtain ⟨v27, h28, hm⟩ := qC hm
     refine q_vu [qd 4 (dex (cen [] [] 7 0 (SG v27) (PG v27) [78, 81] [5])) (GS (K := (kx E 100 0)) (b := false) ⟨[(78, va [cs a3.Name, ci a3.Thick, ci a3.Width, ci a3.Allow, ci a3.Wane, tl qM default a3.Lengths, tl qM default a3.Prices, ci a4.X.A, ci a4.X.B, ci a4.Y.A, ci a4.Y.B, ci v23, .own 5 0 3 v25.length, .emp]), (81, va [ci 0, ci v23])], [(5, ro 0 165 3 v25.length (rf qJ v25))]⟩ (opAt (rg Try.f63 254) 4) [] [] 7 (o1 (Nat.le_refl v25.length)) rfl (CtX.emp (xs' := [.agg [cs a3.Name, ci a3.Thick, ci a3.Width, ci a3.Allow, ci a3.Wane, tl qM default a3.Lengths, tl qM default a3.Prices, ci a4.X.A, ci a4.X.B, ci a4.Y.A, ci a4.Y.B, ci v23, tl qJ default v25, .emp], .agg [ci 0, ci v23]]) (HI (Worth_view.mk a3 a4 v23 v25 ([] : List Defect)) (Span.mk 0 v23) v27 h28) (And.intro (And.intro rfl (And.intro rfl (And.intro rfl (And.intro rfl (And.intro rfl (And.intro rfl (And.intro rfl (And.intro rfl (And.intro rfl (And.intro rfl (And.intro rfl (And.intro rfl (And.intro rfl (And.intro rfl trivial)))))))))))))) (And.intro (And.intro rfl (And.intro rfl trivial)) trivial))) (.inr ⟨(by kernel_rfl), qCn v27⟩) (by kernel_rfl))] 7 [] [(14, vp 7 0)] [] [(7, bx 52 (wT v27))] ?_
     refine q_sq ?_
     refine q_sq ?_
     refine q_vu [] 8 [1] [(83, vc (tl qG default a2)), (84, vi ((a2.length : Nat) : Int)), (85, vi 0)] [] [] ?_
     refine q_fn [.ownB 6 13 8 139 7 (rf qG ([] : List Defect))] ⟨[(8, vp 2 0), (13, vp 6 0), (14, vp 7 0), (83, vc (tl qG default a2)), (84, vi ((a2.length : Nat) : Int)), (85, vi 0)], [(2, bx 129 [cs (ByteArray.mk #[]), ci 0, ci 0, ci 0, ci 0, .emp, .emp, ci 0, ci 0, ci 0, ci 0, ci 0, .emp, .emp]), (5, ro 0 165 3 v25.length (rf qJ v25)), (6, bx 129 [cs a3.Name, ci a3.Thick, ci a3.Width, ci a3.Allow, ci a3.Wane, tl qM default a3.Lengths, tl qM default a3.Prices, ci a4.X.A, ci a4.X.B, ci a4.Y.A, ci a4.Y.B, ci v23, .own 5 0 3 v25.length, .own 8 0 7 0]), (7, bx 52 (wT v27)), (8, ro 0 139 7 0 (rf qG ([] : List Defect)))]⟩ o0 ?_
     obtain ⟨o39, h40, hm⟩ := qC hm
     refine jL (nd Try.f63 4084) 0 (by kernel_rfl) FUEL (fun o => AA a3 a4 v23 v25 o) o39 (q_hl (BT a2 a3 a4 v23 v25 v27 0 ([] : List Defect) 0) (qCM E a2 a3 a4 v23 v25 v27 FUEL 0 ([] : List Defect) 0 o39 rfl h40)) ?_
     refine q_sq ?_
     refine q_vu [] 9 [13] [(9, vb true)] [2, 6] [(2, bx 129 [cs a3.Name, ci a3.Thick, ci a3.Width, ci a3.Allow, ci a3.Wane, tl qM default a3.Lengths, tl qM default a3.Prices, ci a4.X.A, ci a4.X.B, ci a4.Y.A, ci a4.Y.B, ci v23, .own 5 0 3 v25.length, .own 8 0 7 o39.length])] ?_
     obtain rfl := Option.some.inj hm
     refine jO 5 0 (by kernel_rfl) ?_
     refine jO 8 1 (by kernel_rfl) ?_
     refine q_rt ?_
     exact q_rm
   ·rcases Bool.eq_false_or_eq_true (!(((w64 (a4.X.B - a4.X.A)) == v18.1) && (((w64 (a4.Y.B - a4.Y.A)) == v18.2) && true))) with b20 | b20
    ·replace hm := qA b20 hm
     refine q_vu [qf 5 b20] 5 [10, 11, 12] [(68, vb (!(((w64 (a4.X.B - a4.X.A)) == v18.2) && (((w64 (a4.Y.B - a4.Y.A)) == v18.1) && true))))] [4] [] ?_
     exact q_J (!(((w64 (a4.X.B - a4.X.A)) == v18.2) && (((w64 (a4.Y.B - a4.Y.A)) == v18.1) && true))) hm
    ·replace hm := qB b20 hm
     refine q_vu [qf 5 b20] 5 [10, 11, 12] [(68, vb false)] [4] [] ?_
     exact q_J (false) hm
 ·obtain ⟨v5, h6, hm⟩ := qC hm
  rcases Bool.eq_false_or_eq_true (v5 != 0) with b7 | b7
  ·replace hm := qA b7 hm
   refine q_vu [qc 1 [17] 3 (WI a1 v5 h6), qf 3 b7] 3 [] [(35, vb true)] [] [] ?_
   exact q_J (true) hm
  ·replace hm := qB b7 hm
   obtain ⟨v8, h9, hm⟩ := qC hm
   rcases Bool.eq_false_or_eq_true (v8 != 0) with b10 | b10
   ·replace hm := qA b10 hm
    refine q_vu [qc 1 [17] 3 (WI a1 v5 h6), qf 3 b7, qk 5 [20, 21] 3 ⟨[(20, vb false), (21, vc (tl qG default a2))], []⟩ (TA a2 v8 h9), qf 8 b10] 3 [] [(35, vb true)] [] [] ?_
    exact q_J (true) hm
   ·replace hm := qB b10 hm
    obtain ⟨v11, h12, hm⟩ := qC hm
    rcases Bool.eq_false_or_eq_true (v11 != 0) with b13 | b13
    ·replace hm := qA b13 hm
     refine q_vu [qc 1 [17] 3 (WI a1 v5 h6), qf 3 b7, qk 5 [20, 21] 3 ⟨[(20, vb false), (21, vc (tl qG default a2))], []⟩ (TA a2 v8 h9), qf 8 b10, qd 10 (drw 3 0 (rf qE ([a3] : List Product))) (litP qE default 7 (fun _ => rfl) ([a3] : List Product) 1 rfl), qd 11 (dex (cen [] [] 4 0 (JY v11) (yO v11) [25, 27] [3])) (GS (K := (kx E 100 0)) (xs' := [.one (.lst 1 (rf qE ([a3] : List Product)))]) (b := false) ⟨[(25, vb false), (27, vo 3 0 7 1)], [(3, ro 0 71 7 1 (rf qE ([a3] : List Product)))]⟩ (opAt (rg Try.f63 12) 11) [] [] 4 (o1 (Nat.le_refl 1)) (by simp only [tl, rf, show ([a3] : List Product).length = 1 from rfl]) (GW ([a3] : List Product) v11 h12) (.inr ⟨(by kernel_rfl), AC v11⟩) (by kernel_rfl)), qf 14 b13] 3 [] [(35, vb true)] [] [] ?_
     exact q_J (true) hm
    ·replace hm := qB b13 hm
     obtain ⟨v14, h15, hm⟩ := qC hm
     refine q_vu [qc 1 [17] 3 (WI a1 v5 h6), qf 3 b7, qk 5 [20, 21] 3 ⟨[(20, vb false), (21, vc (tl qG default a2))], []⟩ (TA a2 v8 h9), qf 8 b10, qd 10 (drw 3 0 (rf qE ([a3] : List Product))) (litP qE default 7 (fun _ => rfl) ([a3] : List Product) 1 rfl), qd 11 (dex (cen [] [] 4 0 (JY v11) (yO v11) [25, 27] [3])) (GS (K := (kx E 100 0)) (xs' := [.one (.lst 1 (rf qE ([a3] : List Product)))]) (b := false) ⟨[(25, vb false), (27, vo 3 0 7 1)], [(3, ro 0 71 7 1 (rf qE ([a3] : List Product)))]⟩ (opAt (rg Try.f63 12) 11) [] [] 4 (o1 (Nat.le_refl 1)) (by simp only [tl, rf, show ([a3] : List Product).length = 1 from rfl]) (GW ([a3] : List Product) v11 h12) (.inr ⟨(by kernel_rfl), AC v11⟩) (by kernel_rfl)), qf 14 b13, qk 16 [31, 32] 4 ⟨[(31, vb false), (32, va (qK a4))], []⟩ (qCU a4 v14 h15)] 3 [] [(35, vb (!v14))] [] [] ?_
     exact q_J (!v14) hm
end Saw
end Go.SL
