import Derived.Test.YtjobdnkaonbgnaaEBase
import Derived.Test.YtjobdnkaonbgnaaEFa2
set_option linter.unusedVariables false
set_option linter.unusedSimpArgs false
namespace Go.SL
namespace Saw
open Go.Proofs
set_option maxHeartbeats 4000000
set_option maxRecDepth 100000
def CP (r : Int) : V := vi r
def qAb (r : Int) : List (Nat × (Nat × O)) := []
def JM (a2 : Rect) (v3 : qT) (x5 : Int) (x6 : Int) : St :=
 ⟨[(2, vp 0 0), (3, vp 1 0), (5, vi x5), (12, vc (tl e_Span default v3.Rows)), (13, vi ((v3.Rows.length : Nat) : Int)), (14, vi x6)], [(0, bx 66 (zJ v3)), (1, bx 28 (qK a2))]⟩
def VC (x19 : Int) : St :=
 ⟨[(5, vi x19)], []⟩
theorem SM (E : Env 0) (a2 : Rect) (v3 : qT) : ∀ (n : Nat) (x5 : Int) (x6 : Int) (res : Int), KM a2 v3 n x5 x6 = some res → HL (kx E 44 0) (nd Try.f32 244) (wK 0 (fun o => VC o) res) n (JM a2 v3 x5 x6) := by
 intro n
 induction n with
 | zero =>
  intro x5 x6 res hm
  cases hm
 | succ n ih =>
  intro x5 x6 res hm
  refine qV ?_
  refine q_sq ?_
  refine q_vu [] 2 [] [(15, vb (decide (x6 < ((v3.Rows.length : Nat) : Int))))] [] [] ?_
  refine q_sq ?_
  refine q_cn (decide (x6 < ((v3.Rows.length : Nat) : Int))) (fun b7 => ?_) (fun b7 => ?_)
  ·replace hm := qA b7 hm
   refine q_sk ?_
   refine q_sq ?_
   refine q_bk 1 ?_
   refine q_sq ?_
   obtain ⟨g8, hm⟩ := qO hm
   refine q_vu [qd 1 (Dir.none) (inb_of g8)] 2 [15] [(6, vi x6), (7, vp 2 0)] [] [(2, bx 26 [ci ((v3.Rows.getD x6.toNat default).A), ci ((v3.Rows.getD x6.toNat default).B)])] ?_
   refine q_sq ?_
   obtain ⟨v9, h10, hm⟩ := qC hm
   refine q_vu [qc 9 [22, 27] 3 (AO (w64 (v3.Low + x6)) (w64 ((w64 (v3.Low + x6)) + 1)) v9 h10)] 3 [6] [(8, vp 3 0)] [] [(3, bx 26 (e_Span v9))] ?_
   obtain ⟨v11, h12, hm⟩ := qC hm
   obtain ⟨v13, h14, hm⟩ := qC hm
   obtain ⟨v15, h16, hm⟩ := qC hm
   obtain ⟨v17, h18, hm⟩ := qC hm
   refine q_du [qc 4 [30, 32] 4 (ZS (v3.Rows.getD x6.toNat default) a2.X v11 h12), qc 5 [33] 4 (JA v11 v13 h14), qc 9 [35, 37] 4 (ZS v9 a2.Y v15 h16), qc 10 [38] 4 (JA v15 v17 h18)] [0, 0, 0, 4, 14, 30, 0, 0, 128, 510, 1022, 2046, 4095, 8191] 4 [5, 7, 8] [(5, vi (w64 (x5 + (w64 (v13 * v17)))))] [2, 3] [] ?_
   refine q_vu [] 4 [14] [(14, vi (w64 (x6 + 1)))] [] [] ?_
   exact q_hl (JM a2 v3 (w64 (x5 + (w64 (v13 * v17)))) (w64 (x6 + 1))) (ih (w64 (x5 + (w64 (v13 * v17)))) (w64 (x6 + 1)) _ hm)
  ·replace hm := qB b7 hm
   refine q_ex 0 ?_
   obtain rfl := Option.some.inj hm
   exact jR (by kernel_rfl) (by kernel_rfl)
theorem BH (a1 : qT) (a2 : Rect) (r : Int) (hm : XR a1 a2 = some r) : CtX Try.prog globs 32 0 0 [.agg (zJ a1), .agg (qK a2)] [] (CP r) (qAb r) := by
 unfold XR at hm
 refine q_E Try.f32 44 fun E => ?_
 refine q_sq ?_
 refine q_vn [] 0 ⟨[(2, vp 0 0), (3, vp 1 0)], [(0, bx 66 (zJ a1)), (1, bx 28 (qK a2))]⟩ ?_
 refine q_sq ?_
 obtain ⟨v3, h4, hm⟩ := qC hm
 refine q_vu [qc 1 [9] 2 (FB a1 v3 h4)] 2 [] [] [0] [(0, bx 66 (zJ v3))] ?_
 refine q_sq ?_
 refine q_vu [] 2 [] [(5, vi 0)] [] [] ?_
 refine q_sq ?_
 refine q_sq ?_
 refine q_vu [] 2 [] [(12, vc (tl e_Span default v3.Rows)), (13, vi ((v3.Rows.length : Nat) : Int)), (14, vi 0)] [] [] ?_
 obtain ⟨o20, h21, hm⟩ := qC hm
 refine zY (nd Try.f32 244) 0 (by kernel_rfl) FUEL (fun o => VC o) o20 (q_hl (JM a2 v3 0 0) (SM E a2 v3 FUEL 0 0 o20 h21)) ?_
 refine q_sq ?_
 refine q_vn [] 2 ⟨[(4, vi o20)], []⟩ ?_
 obtain rfl := Option.some.inj hm
 refine q_rt ?_
 exact q_rm
def DT (r : Int) : V := vi r
def DS (r : Int) : List (Nat × (Nat × O)) := []
def FA (a1 : List qJ) (x4 : Int) (x5 : Int) (x13 : Bool) : St :=
 ⟨[(3, vi x4), (5, vp 0 0), (13, vc (tl qI default a1)), (14, vi ((a1.length : Nat) : Int)), (15, vi x5), (39, vb x13)], [(0, bx 68 [ci ((a1.getD x5.toNat default).Len), ci (((a1.getD x5.toNat default).Sec).Low), tl e_Span default (((a1.getD x5.toNat default).Sec).Rows)])]⟩
def PU (a1 : List qJ) (x4 : Int) (x5 : Int) : St :=
 ⟨[(3, vi x4), (13, vc (tl qI default a1)), (14, vi ((a1.length : Nat) : Int)), (15, vi x5)], []⟩
def NY : St :=
 ⟨[], []⟩
theorem IS (E : Env 0) (a1 : List qJ) : ∀ (n : Nat) (x4 : Int) (x5 : Int) (res : Int ⊕ Unit), ZJ a1 n x4 x5 = some res → HL (kx E 45 0) (nd Try.f43 500) (jD 0 (fun o => NY) (fun v st => RetQ Try.prog Try.f43 (DT v) (DS v) .ret st) res) n (PU a1 x4 x5) := by
 intro n
 induction n with
 | zero =>
  intro x4 x5 res hm
  cases hm
 | succ n ih =>
  intro x4 x5 res hm
  refine qV ?_
  refine q_sq ?_
  refine q_vu [] 0 [] [(16, vb (decide (x5 < ((a1.length : Nat) : Int))))] [] [] ?_
  refine q_sq ?_
  refine q_cn (decide (x5 < ((a1.length : Nat) : Int))) (fun b6 => ?_) (fun b6 => ?_)
  ·replace hm := qA b6 hm
   refine q_sk ?_
   refine q_sq ?_
   refine q_bk 1 ?_
   refine q_sq ?_
   obtain ⟨g7, hm⟩ := qO hm
   refine q_vu [qd 0 (Dir.none) (inb_of g7)] 0 [16] [(5, vp 0 0)] [] [(0, bx 68 [ci ((a1.getD x5.toNat default).Len), ci (((a1.getD x5.toNat default).Sec).Low), tl e_Span default (((a1.getD x5.toNat default).Sec).Rows)])] ?_
   refine q_sq ?_
   refine q_sq ?_
   obtain ⟨v8, h9, hm⟩ := qC hm
   refine q_vu [qc 2 [20] 1 (FP ((a1.getD x5.toNat default).Sec) v8 h9)] 1 [] [(6, vi v8)] [] [] ?_
   refine q_sq ?_
   refine q_vu [] 1 [] [(23, vb (v8 != 0))] [] [] ?_
   refine q_cn (v8 != 0) (fun b10 => ?_) (fun b10 => ?_)
   ·replace hm := qA b10 hm
    refine q_sq ?_
    refine q_vn [] 1 ⟨[(2, vi v8)], []⟩ ?_
    obtain rfl := Option.some.inj hm
    refine q_rt ?_
    refine zB v8 ?_
    exact q_rm
   ·replace hm := qB b10 hm
    refine q_sk ?_
    refine q_sq ?_
    refine q_sq ?_
    refine q_vu [] 1 [6, 23] [(29, vb ((((((a1.getD x5.toNat default).Sec).Rows).length : Nat) : Int) == 0))] [] [] ?_
    refine q_cn ((((((a1.getD x5.toNat default).Sec).Rows).length : Nat) : Int) == 0) (fun b11 => ?_) (fun b11 => ?_)
    ·replace hm := qA b11 hm
     refine q_sq ?_
     refine q_vn [] 1 ⟨[(2, vi 18)], []⟩ ?_
     obtain rfl := Option.some.inj hm
     refine q_rt ?_
     refine zB 18 ?_
     exact q_rm
    ·replace hm := qB b11 hm
     refine q_sk ?_
     refine q_sq ?_
     refine q_jn (ι := Bool) (fun p => FA a1 x4 x5 p) (fun p => GD a1 x4 x5 (ZJ a1 n) p = some res) ?_ ?_
     ·rintro x13 hm
      show H _ (FA a1 x4 x5 x13) _ _
      refine q_cn x13 (fun b14 => ?_) (fun b14 => ?_)
      ·replace hm := qA b14 hm
       refine q_sq ?_
       refine q_vn [] 1 ⟨[(2, vi 9)], []⟩ ?_
       obtain rfl := Option.some.inj hm
       refine q_rt ?_
       refine zB 9 ?_
       exact q_rm
      ·replace hm := qB b14 hm
       refine q_sk ?_
       refine q_vu [] 1 [3, 5, 39] [(3, vi (w64 (x4 + ((a1.getD x5.toNat default).Len))))] [0] [] ?_
       refine q_vu [] 1 [15] [(15, vi (w64 (x5 + 1)))] [] [] ?_
       exact q_hl (PU a1 (w64 (x4 + ((a1.getD x5.toNat default).Len))) (w64 (x5 + 1))) (ih (w64 (x4 + ((a1.getD x5.toNat default).Len))) (w64 (x5 + 1)) _ hm)
     ·rcases Bool.eq_false_or_eq_true (decide (((a1.getD x5.toNat default).Len) < 1)) with b12 | b12
      ·replace hm := qA b12 hm
       refine q_vu [qf 3 b12] 1 [29] [(39, vb true)] [] [] ?_
       exact q_J (true) hm
      ·replace hm := qB b12 hm
       refine q_vu [qf 3 b12] 1 [29] [(39, vb (decide (((a1.getD x5.toNat default).Len) > (w64 (20000 - x4)))))] [] [] ?_
       exact q_J (decide (((a1.getD x5.toNat default).Len) > (w64 (20000 - x4)))) hm
  ·replace hm := qB b6 hm
   refine q_ex 0 ?_
   obtain rfl := Option.some.inj hm
   exact jJ () (by kernel_rfl) (by kernel_rfl)
theorem yI (a1 : List qJ) (r : Int) (hm : KR a1 = some r) : CtX Try.prog globs 43 0 0 [.one (tl qI default a1)] [] (DT r) (DS r) := by
 unfold KR at hm
 refine q_E Try.f43 45 fun E => ?_
 refine q_sq ?_
 refine q_vn [] 0 ⟨[(0, vc (tl qI default a1))], []⟩ ?_
 refine q_sq ?_
 refine q_sq ?_
 refine q_vu [] 0 [] [(9, vb (((a1.length : Nat) : Int) == 0))] [] [] ?_
 refine q_cn (((a1.length : Nat) : Int) == 0) (fun b2 => ?_) (fun b2 => ?_)
 ·replace hm := qA b2 hm
  refine q_sq ?_
  refine q_vn [] 0 ⟨[(2, vi 3)], []⟩ ?_
  obtain rfl := Option.some.inj hm
  refine q_rt ?_
  exact q_rm
 ·replace hm := qB b2 hm
  refine q_sk ?_
  refine q_sq ?_
  refine q_sq ?_
  refine q_vu [] 0 [9] [(12, vb (decide (((a1.length : Nat) : Int) > 24)))] [] [] ?_
  refine q_cn (decide (((a1.length : Nat) : Int) > 24)) (fun b3 => ?_) (fun b3 => ?_)
  ·replace hm := qA b3 hm
   refine q_sq ?_
   refine q_vn [] 0 ⟨[(2, vi 4)], []⟩ ?_
   obtain rfl := Option.some.inj hm
   refine q_rt ?_
   exact q_rm
  ·replace hm := qB b3 hm
   refine q_sk ?_
   refine q_sq ?_
   refine q_vu [] 0 [12] [(3, vi 0)] [] [] ?_
   refine q_sq ?_
   refine q_sq ?_
   refine q_vu [] 0 [0] [(13, vc (tl qI default a1)), (14, vi ((a1.length : Nat) : Int)), (15, vi 0)] [] [] ?_
   obtain ⟨u17, h16, hm⟩ := qC hm
   refine zI (nd Try.f43 500) 0 (by kernel_rfl) FUEL (fun o => NY) (fun v st => RetQ Try.prog Try.f43 (DT v) (DS v) .ret st) u17 (q_hl (PU a1 0 0) (IS E a1 FUEL 0 0 u17 h16)) ?_ ?_
   ·rintro v18 rfl st hr
    obtain rfl := Option.some.inj hm
    exact hr
   ·rintro o15 rfl
    replace hm : _ = some r := hm
    refine q_sq ?_
    refine q_vn [] 0 ⟨[(2, vi 0)], []⟩ ?_
    obtain rfl := Option.some.inj hm
    refine q_rt ?_
    exact q_rm
set_option maxRecDepth 100000
def qCG (r : (List qJ)) : V := vc (tl qI default r)
def qCv (r : (List qJ)) : List (Nat × (Nat × O)) := []
theorem GB (a1 : List qJ) (r : (List qJ)) (hm : KZ a1 = some r) : CtX Try.prog globs 26 0 0 [.one (tl qI default a1)] [] (qCG r) (qCv r) := by
 unfold KZ at hm
 refine q_E Try.f26 7 fun E => ?_
 refine q_sq ?_
 refine q_vn [] 0 ⟨[(0, vc (tl qI default a1))], []⟩ ?_
 refine q_sq ?_
 refine q_sq ?_
 obtain ⟨v2, h3, hm⟩ := qC hm
 refine q_vu [qc 1 [3] 0 (yI a1 v2 h3)] 0 [] [(5, vb (v2 != 0))] [] [] ?_
 refine q_cn (v2 != 0) (fun b4 => ?_) (fun b4 => ?_)
 ·replace hm := qA b4 hm
  refine q_sq ?_
  refine q_vn [] 0 ⟨[(2, vc (.emp))], []⟩ ?_
  refine q_fn [.own 2 0 68 3 (rf qI ([] : List qJ))] ⟨[(2, vo 0 0 3 0)], [(0, ro 0 68 3 0 (rf qI ([] : List qJ)))]⟩ o0 ?_
  refine q_fn [.len 0 (([] : List qJ).length), .frz 0] ⟨[(2, vc (tl qI default ([] : List qJ)))], []⟩ (o1 (And.intro (And.intro (show 0 = ([] : List qJ).length from rfl) (show 0 = ([] : List qJ).length from rfl)) (Nat.le_refl (([] : List qJ).length)))) ?_
  obtain rfl := Option.some.inj hm
  refine q_rt ?_
  exact q_rm
 ·replace hm := qB b4 hm
  refine q_sk ?_
  refine q_sq ?_
  refine q_vn [] 0 ⟨[(2, vc (tl qI default a1))], []⟩ ?_
  obtain rfl := Option.some.inj hm
  refine q_rt ?_
  exact q_rm
open Go.Proofs
set_option maxHeartbeats 4000000
set_option maxRecDepth 100000
def qAH (r : (List Span)) : V := vo 0 0 2 r.length
def qAQ (r : (List Span)) : List (Nat × (Nat × O)) := [(0, ro 0 26 2 r.length (rf e_Span r))]
def YS (a1 : List qJ) (l3 : List Span) (l3n : Nat) (x4 : Int) (x5 : Int) : St :=
 ⟨[(3, vo 0 0 2 l3n), (4, vi x4), (10, vc (tl qI default a1)), (11, vi ((a1.length : Nat) : Int)), (12, vi x5)], [(0, ro 0 26 2 l3n (rf e_Span l3))]⟩
def GU (l9 : List Span) : St :=
 ⟨[(3, vo 0 0 2 l9.length)], [(0, ro 0 26 2 l9.length (rf e_Span l9))]⟩
theorem EL (E : Env 0) (a1 : List qJ) : ∀ (n : Nat) (l3 : List Span) (l3n : Nat) (x4 : Int) (x5 : Int) (res : (List Span)), l3.length = l3n → PO a1 n l3 x4 x5 = some res → HL (kx E 32 0) (nd Try.f29 244) (wK 0 (fun o => GU o) res) n (YS a1 l3 l3n x4 x5) := by
 intro n
 induction n with
 | zero =>
  intro l3 l3n x4 x5 res hl0 hm
  cases hm
 | succ n ih =>
  intro l3 l3n x4 x5 res hl0 hm
  subst hl0
  refine qV ?_
  refine q_sq ?_
  refine q_vu [] 1 [] [(13, vb (decide (x5 < ((a1.length : Nat) : Int))))] [] [] ?_
  refine q_sq ?_
  refine q_cn (decide (x5 < ((a1.length : Nat) : Int))) (fun b6 => ?_) (fun b6 => ?_)
  ·replace hm := qA b6 hm
   refine q_sk ?_
   refine q_sq ?_
   refine q_bk 1 ?_
   refine q_sq ?_
   obtain ⟨g7, hm⟩ := qO hm
   refine q_vu [qd 1 (Dir.none) (inb_of g7)] 1 [13] [(5, vi x5), (6, vp 1 0)] [] [(1, bx 68 [ci ((a1.getD x5.toNat default).Len), ci (((a1.getD x5.toNat default).Sec).Low), tl e_Span default (((a1.getD x5.toNat default).Sec).Rows)])] ?_
   refine q_sq ?_
   obtain ⟨g8, hm⟩ := qO hm
   refine q_vu [qd 8 (Dir.none) (inb_of g8), qd 9 (drw 0 0 (rf e_Span (l3.set x5.toNat (Span.mk x4 (w64 (x4 + ((a1.getD x5.toNat default).Len))))))) (stP e_Span default (Span.mk x4 (w64 (x4 + ((a1.getD x5.toNat default).Len)))) l3 l3.length x5.toNat 0 [ci x4, ci (w64 (x4 + ((a1.getD x5.toNat default).Len)))] rfl (toNat_lt (inb_of g8)) rfl)] 2 [5] [] [0] [(0, ro 0 26 2 l3.length (rf e_Span (l3.set x5.toNat (Span.mk x4 (w64 (x4 + ((a1.getD x5.toNat default).Len)))))))] ?_
   refine q_vu [] 2 [4, 6] [(4, vi (w64 (x4 + ((a1.getD x5.toNat default).Len))))] [1] [] ?_
   refine q_vu [] 2 [12] [(12, vi (w64 (x5 + 1)))] [] [] ?_
   exact q_hl (YS a1 (l3.set x5.toNat (Span.mk x4 (w64 (x4 + ((a1.getD x5.toNat default).Len))))) l3.length (w64 (x4 + ((a1.getD x5.toNat default).Len))) (w64 (x5 + 1))) (ih (l3.set x5.toNat (Span.mk x4 (w64 (x4 + ((a1.getD x5.toNat default).Len))))) l3.length (w64 (x4 + ((a1.getD x5.toNat default).Len))) (w64 (x5 + 1)) _ (len_set rfl) hm)
  ·replace hm := qB b6 hm
   refine q_ex 0 ?_
   obtain rfl := Option.some.inj hm
   exact jR (by kernel_rfl) (by kernel_rfl)
theorem CG (a1 : List qJ) (r : (List Span)) (hm : DV a1 = some r) : CtX Try.prog globs 29 0 0 [.one (tl qI default a1)] [] (qAH r) (qAQ r) := by
 unfold DV at hm
 refine q_E Try.f29 32 fun E => ?_
 refine q_sq ?_
 refine q_vn [] 0 ⟨[(0, vc (tl qI default a1))], []⟩ ?_
 refine q_sq ?_
 obtain ⟨g2, hm⟩ := qO hm
 refine q_vu [qd 2 (drw 0 0 (rf e_Span (List.replicate (((a1.length : Nat) : Int).toNat) (Span.mk 0 0)))) (mkP e_Span default (Span.mk 0 0) ((a1.length : Nat) : Int) 16 [ci 0, ci 0] (mkOk_of g2) rfl)] 0 [] [(3, vo 0 0 2 (((a1.length : Nat) : Int).toNat))] [] [(0, ro 0 26 2 (((a1.length : Nat) : Int).toNat) (rf e_Span (List.replicate (((a1.length : Nat) : Int).toNat) (Span.mk 0 0))))] ?_
 refine q_sq ?_
 refine q_vu [] 1 [] [(4, vi 0)] [] [] ?_
 refine q_sq ?_
 refine q_sq ?_
 refine q_vu [] 1 [0] [(10, vc (tl qI default a1)), (11, vi ((a1.length : Nat) : Int)), (12, vi 0)] [] [] ?_
 obtain ⟨o10, h11, hm⟩ := qC hm
 refine zY (nd Try.f29 244) 0 (by kernel_rfl) FUEL (fun o => GU o) o10 (q_hl (YS a1 (List.replicate (((a1.length : Nat) : Int).toNat) (Span.mk 0 0)) (((a1.length : Nat) : Int).toNat) 0 0) (EL E a1 FUEL (List.replicate (((a1.length : Nat) : Int).toNat) (Span.mk 0 0)) (((a1.length : Nat) : Int).toNat) 0 0 o10 len_rep h11)) ?_
 refine q_sq ?_
 refine q_vu [] 1 [3] [(2, vo 0 0 2 o10.length)] [] [] ?_
 obtain rfl := Option.some.inj hm
 refine q_rt ?_
 exact q_rm
def qBr (r : Int) : V := vi r
def qBx (r : Int) : List (Nat × (Nat × O)) := []
def BV (a2 : Box) (v3 : (List qJ)) (v5 : (List Span)) (x8 : Int) (x19 : Int) : St :=
 ⟨[(0, vc (tl qI default v3)), (3, vp 0 0), (5, vi x19), (12, vo 1 0 2 v5.length), (13, vi ((v5.length : Nat) : Int)), (14, vi x8)], [(0, bx 52 (wU a2)), (1, ro 0 26 2 v5.length (rf e_Span v5))]⟩
def KH (a2 : Box) (v3 : (List qJ)) (v5 : (List Span)) (x7 : Int) (x8 : Int) : St :=
 ⟨[(0, vc (tl qI default v3)), (3, vp 0 0), (5, vi x7), (12, vo 1 0 2 v5.length), (13, vi ((v5.length : Nat) : Int)), (14, vi x8)], [(0, bx 52 (wU a2)), (1, ro 0 26 2 v5.length (rf e_Span v5))]⟩
def BK (x20 : Int) : St :=
 ⟨[(5, vi x20)], []⟩
theorem ER (E : Env 0) (a2 : Box) (v3 : (List qJ)) (v5 : (List Span)) : ∀ (n : Nat) (x7 : Int) (x8 : Int) (res : Int), yY a2 v3 v5 n x7 x8 = some res → HL (kx E 43 0) (nd Try.f17 244) (wK 0 (fun o => BK o) res) n (KH a2 v3 v5 x7 x8) := by
 intro n
 induction n with
 | zero =>
  intro x7 x8 res hm
  cases hm
 | succ n ih =>
  intro x7 x8 res hm
  refine qV ?_
  refine q_sq ?_
  refine q_vu [] 2 [] [(15, vb (decide (x8 < ((v5.length : Nat) : Int))))] [] [] ?_
  refine q_sq ?_
  refine q_cn (decide (x8 < ((v5.length : Nat) : Int))) (fun b9 => ?_) (fun b9 => ?_)
  ·replace hm := qA b9 hm
   refine q_sk ?_
   refine q_jn (ι := Int) (fun p => BV a2 v3 v5 x8 p) (fun p => UM x8 (yY a2 v3 v5 n) p = some res) ?_ ?_
   ·rintro x19 hm
    show H _ (BV a2 v3 v5 x8 x19) _ _
    refine q_vu [] 3 [14] [(14, vi (w64 (x8 + 1)))] [] [] ?_
    exact q_hl (KH a2 v3 v5 x19 (w64 (x8 + 1))) (ih x19 (w64 (x8 + 1)) _ hm)
   ·refine q_bk 1 ?_
    refine q_sq ?_
    obtain ⟨g10, hm⟩ := qO hm
    refine q_vu [qd 1 (Dir.none) (inb_of g10), qd 2 (Dir.none) (toNat_lt (inb_of g10))] 2 [15] [(6, vi x8), (7, vp 2 0)] [] [(2, bx 26 [ci ((v5.getD x8.toNat default).A), ci ((v5.getD x8.toNat default).B)])] ?_
    refine q_sq ?_
    obtain ⟨v11, h12, hm⟩ := qC hm
    obtain ⟨v13, h14, hm⟩ := qC hm
    refine q_vu [qc 3 [19, 21] 3 (ZS (v5.getD x8.toNat default) a2.Z v11 h12), qc 4 [22] 3 (JA v11 v13 h14)] 3 [7] [(8, vi v13)] [2] [] ?_
    refine q_sq ?_
    refine q_vu [] 3 [] [(25, vb (decide (v13 > 0)))] [] [] ?_
    refine q_cn (decide (v13 > 0)) (fun b15 => ?_) (fun b15 => ?_)
    ·replace hm := qA b15 hm
     obtain ⟨g16, hm⟩ := qO hm
     obtain ⟨v17, h18, hm⟩ := qC hm
     refine q_du [qd 4 (Dir.none) (inb_of g16), qc 12 [32, 37] 3 (BH ((v3.getD x8.toNat default).Sec) (Rect.mk a2.X a2.Y) v17 h18)] [0, 0, 0, 0, 12, 28, 60, 0, 128, 0, 512, 1920, 4092, 8190, 16383, 32767] 3 [5, 6, 8, 25] [(5, vi (w64 (x7 + (w64 (v13 * v17)))))] [] [] ?_
     exact q_J (w64 (x7 + (w64 (v13 * v17)))) hm
    ·replace hm := qB b15 hm
     refine q_sk ?_
     exact q_J (x7) hm
  ·replace hm := qB b9 hm
   refine q_ex 0 ?_
   obtain rfl := Option.some.inj hm
   exact jR (by kernel_rfl) (by kernel_rfl)
theorem JV (a1 : List qJ) (a2 : Box) (r : Int) (hm : ZH a1 a2 = some r) : CtX Try.prog globs 17 0 0 [.one (tl qI default a1), .agg (wU a2)] [] (qBr r) (qBx r) := by
 unfold ZH at hm
 refine q_E Try.f17 43 fun E => ?_
 refine q_sq ?_
 refine q_vn [] 0 ⟨[(0, vc (tl qI default a1)), (3, vp 0 0)], [(0, bx 52 (wU a2))]⟩ ?_
 refine q_sq ?_
 obtain ⟨v3, h4, hm⟩ := qC hm
 refine q_vu [qc 1 [9] 1 (GB a1 v3 h4)] 1 [0] [(0, vc (tl qI default v3))] [] [] ?_
 refine q_sq ?_
 refine q_vu [] 1 [] [(5, vi 0)] [] [] ?_
 refine q_sq ?_
 refine q_sq ?_
 obtain ⟨v5, h6, hm⟩ := qC hm
 refine q_vu [qc 1 [11] 1 (CG v3 v5 h6)] 1 [] [(12, vo 1 0 2 v5.length), (13, vi ((v5.length : Nat) : Int)), (14, vi 0)] [] [(1, ro 0 26 2 v5.length (rf e_Span v5))] ?_
 obtain ⟨o21, h22, hm⟩ := qC hm
 refine zY (nd Try.f17 244) 0 (by kernel_rfl) FUEL (fun o => BK o) o21 (q_hl (KH a2 v3 v5 0 0) (ER E a2 v3 v5 FUEL 0 0 o21 h22)) ?_
 refine q_sq ?_
 refine q_vn [] 2 ⟨[(4, vi o21)], []⟩ ?_
 obtain rfl := Option.some.inj hm
 refine q_rt ?_
 exact q_rm
set_option maxRecDepth 100000
def qA5 (r : Bool) : V := vb r
def qAU (r : Bool) : List (Nat × (Nat × O)) := []
def GZ (x5 : Bool) : St :=
 ⟨[(6, vb x5)], []⟩
theorem jH (a1 : Span) (a2 : Int) (a3 : Int) (r : Bool) (hm : WY a1 a2 a3 = some r) : CtX Try.prog globs 89 0 0 [.agg (e_Span a1), .one (ci a2), .one (ci a3)] [] (qA5 r) (qAU r) := by
 unfold WY at hm
 refine q_E Try.f89 23 fun E => ?_
 refine q_sq ?_
 refine q_vn [] 0 ⟨[(1, vi a2), (2, vi a3), (3, vp 0 0)], [(0, bx 26 (e_Span a1))]⟩ ?_
 refine q_jn (ι := Bool) (fun p => GZ p) (fun p => PS p = some r) ?_ ?_
 ·rintro x5 hm
  show H _ (GZ x5) _ _
  obtain rfl := Option.some.inj hm
  refine q_rt ?_
  exact q_rm
 ·rcases Bool.eq_false_or_eq_true (decide ((imin a1.A a1.B) ≥ a2)) with b4 | b4
  ·replace hm := qA b4 hm
   refine q_vn [qf 7 b4] 1 ⟨[(6, vb (decide ((imax a1.A a1.B) ≤ a3)))], []⟩ ?_
   exact q_J (decide ((imax a1.A a1.B) ≤ a3)) hm
  ·replace hm := qB b4 hm
   refine q_vn [qf 7 b4] 1 ⟨[(6, vb false)], []⟩ ?_
   exact q_J (false) hm
open Go.Proofs
set_option maxHeartbeats 4000000
set_option maxRecDepth 100000
def CD (r : Bool) : V := vb r
def qAc (r : Bool) : List (Nat × (Nat × O)) := []
theorem qY (a1 : Span) (r : Bool) (hm : wP a1 = some r) : CtX Try.prog globs 88 0 0 [.agg (e_Span a1)] [] (CD r) (qAc r) := by
 unfold wP at hm
 refine q_E Try.f88 8 fun E => ?_
 refine q_sq ?_
 refine q_vn [] 0 ⟨[(1, vp 0 0)], [(0, bx 26 (e_Span a1))]⟩ ?_
 refine q_sq ?_
 refine q_vn [] 1 ⟨[(2, vb (decide (a1.A ≥ a1.B)))], []⟩ ?_
 obtain rfl := Option.some.inj hm
 refine q_rt ?_
 exact q_rm
def qBv (r : Int) : V := vi r
def qBB (r : Int) : List (Nat × (Nat × O)) := []
def BN (x23 : Bool) : St :=
 ⟨[(29, vb x23)], []⟩
def BU (a1 : Defect) (x13 : Bool) : St :=
 ⟨[(3, vp 1 0), (15, vb x13)], [(1, bx 52 (wU a1.Box))]⟩
def BQ (a1 : Defect) (x3 : Bool) : St :=
 ⟨[(3, vp 1 0), (6, vb x3)], [(1, bx 52 (wU a1.Box))]⟩
theorem qAT (a1 : Defect) (r : Int) (hm : NW a1 = some r) : CtX Try.prog globs 67 0 0 [.agg (qF a1)] [] (qBv r) (qBB r) := by
 unfold NW at hm
 refine q_E Try.f67 46 fun E => ?_
 refine q_sq ?_
 refine q_vn [] 0 ⟨[(1, vp 0 0)], [(0, bx 139 (qF a1))]⟩ ?_
 refine q_sq ?_
 refine q_vu [] 1 [] [(3, vp 1 0)] [] [(1, bx 52 (wU a1.Box))] ?_
 refine q_sq ?_
 refine q_bk 0 ?_
 refine q_jn (ι := Bool) (fun p => BQ a1 p) (fun p => TN a1 p = some r) ?_ ?_
 ·rintro x3 hm
  show H _ (BQ a1 x3) _ _
  refine q_cn x3 (fun b4 => ?_) (fun b4 => ?_)
  ·replace hm := qA b4 hm
   refine q_sq ?_
   refine q_vn [] 2 ⟨[(2, vi 10)], []⟩ ?_
   obtain rfl := Option.some.inj hm
   refine q_rt ?_
   exact q_rm
  ·replace hm := qB b4 hm
   refine q_jn (ι := Bool) (fun p => BU a1 p) (fun p => JW a1 p = some r) ?_ ?_
   ·rintro x13 hm
    show H _ (BU a1 x13) _ _
    refine q_cn x13 (fun b14 => ?_) (fun b14 => ?_)
    ·replace hm := qA b14 hm
     refine q_sq ?_
     refine q_vn [] 2 ⟨[(2, vi 19)], []⟩ ?_
     obtain rfl := Option.some.inj hm
     refine q_rt ?_
     exact q_rm
    ·replace hm := qB b14 hm
     refine q_jn (ι := Bool) (fun p => BN p) (fun p => YH p = some r) ?_ ?_
     ·rintro x23 hm
      show H _ (BN x23) _ _
      refine q_cn x23 (fun b24 => ?_) (fun b24 => ?_)
      ·replace hm := qA b24 hm
       refine q_sq ?_
       refine q_vn [] 2 ⟨[(2, vi 9)], []⟩ ?_
       obtain rfl := Option.some.inj hm
       refine q_rt ?_
       exact q_rm
      ·replace hm := qB b24 hm
       refine q_sk ?_
       refine q_sq ?_
       refine q_vn [] 2 ⟨[(2, vi 0)], []⟩ ?_
       obtain rfl := Option.some.inj hm
       refine q_rt ?_
       exact q_rm
     ·obtain ⟨v15, h16, hm⟩ := qC hm
      rcases Bool.eq_false_or_eq_true (!v15) with b17 | b17
      ·replace hm := qA b17 hm
       refine q_vn [qk 2 [31] 2 ⟨[(31, va (e_Span a1.Box.X))], []⟩ (jH a1.Box.X (-600) 600 v15 h16), qf 4 b17] 2 ⟨[(29, vb true)], []⟩ ?_
       exact q_J (true) hm
      ·replace hm := qB b17 hm
       obtain ⟨v18, h19, hm⟩ := qC hm
       rcases Bool.eq_false_or_eq_true (!v18) with b20 | b20
       ·replace hm := qA b20 hm
        refine q_vn [qk 2 [31] 2 ⟨[(31, va (e_Span a1.Box.X))], []⟩ (jH a1.Box.X (-600) 600 v15 h16), qf 4 b17, qk 7 [34, 36] 2 ⟨[(34, vb false), (36, va (e_Span a1.Box.Y))], []⟩ (jH a1.Box.Y (-600) 600 v18 h19), qf 10 b20] 2 ⟨[(29, vb true)], []⟩ ?_
        exact q_J (true) hm
       ·replace hm := qB b20 hm
        obtain ⟨v21, h22, hm⟩ := qC hm
        refine q_vn [qk 2 [31] 2 ⟨[(31, va (e_Span a1.Box.X))], []⟩ (jH a1.Box.X (-600) 600 v15 h16), qf 4 b17, qk 7 [34, 36] 2 ⟨[(34, vb false), (36, va (e_Span a1.Box.Y))], []⟩ (jH a1.Box.Y (-600) 600 v18 h19), qf 10 b20, qk 13 [40, 42] 2 ⟨[(40, vb false), (42, va (e_Span a1.Box.Z))], []⟩ (jH a1.Box.Z 0 20000 v21 h22)] 2 ⟨[(29, vb (!v21))], []⟩ ?_
        exact q_J (!v21) hm
   ·obtain ⟨v5, h6, hm⟩ := qC hm
    rcases Bool.eq_false_or_eq_true v5 with b7 | b7
    ·replace hm := qA b7 hm
     refine q_vu [qc 2 [17] 2 (qY a1.Box.X v5 h6), qf 3 b7] 2 [6] [(15, vb true)] [] [] ?_
     exact q_J (true) hm
    ·replace hm := qB b7 hm
     obtain ⟨v8, h9, hm⟩ := qC hm
     rcases Bool.eq_false_or_eq_true v8 with b10 | b10
     ·replace hm := qA b10 hm
      refine q_vu [qc 2 [17] 2 (qY a1.Box.X v5 h6), qf 3 b7, qk 6 [19, 21] 2 ⟨[(19, vb false), (21, va (e_Span a1.Box.Y))], []⟩ (qY a1.Box.Y v8 h9), qf 8 b10] 2 [6] [(15, vb true)] [] [] ?_
      exact q_J (true) hm
     ·replace hm := qB b10 hm
      obtain ⟨v11, h12, hm⟩ := qC hm
      refine q_vu [qc 2 [17] 2 (qY a1.Box.X v5 h6), qf 3 b7, qk 6 [19, 21] 2 ⟨[(19, vb false), (21, va (e_Span a1.Box.Y))], []⟩ (qY a1.Box.Y v8 h9), qf 8 b10, qk 11 [24, 26] 2 ⟨[(24, vb false), (26, va (e_Span a1.Box.Z))], []⟩ (qY a1.Box.Z v11 h12)] 2 [6] [(15, vb v11)] [] [] ?_
      exact q_J (v11) hm
 ·rcases Bool.eq_false_or_eq_true (decide (a1.Kind < 1)) with b2 | b2
  ·replace hm := qA b2 hm
   refine q_vu [qf 3 b2] 2 [1] [(6, vb true)] [0] [] ?_
   exact q_J (true) hm
  ·replace hm := qB b2 hm
   refine q_vu [qf 3 b2] 2 [1] [(6, vb (decide (a1.Kind > 6)))] [0] [] ?_
   exact q_J (decide (a1.Kind > 6)) hm
set_option maxRecDepth 100000
def VT (r : Int) : V := vi r
def VV (r : Int) : List (Nat × (Nat × O)) := []
def KI (a1 : List Defect) (x3 : Int) : St :=
 ⟨[(9, vc (tl qF default a1)), (10, vi ((a1.length : Nat) : Int)), (11, vi x3)], []⟩
def NE : St :=
 ⟨[], []⟩
theorem AP (E : Env 0) (a1 : List Defect) : ∀ (n : Nat) (x3 : Int) (res : Int ⊕ Unit), TH a1 n x3 = some res → HL (kx E 21 0) (nd Try.f51 116) (jD 0 (fun o => NE) (fun v st => RetQ Try.prog Try.f51 (VT v) (VV v) .ret st) res) n (KI a1 x3) := by
 intro n
 induction n with
 | zero =>
  intro x3 res hm
  cases hm
 | succ n ih =>
  intro x3 res hm
  refine qV ?_
  refine q_sq ?_
  refine q_vu [] 0 [] [(12, vb (decide (x3 < ((a1.length : Nat) : Int))))] [] [] ?_
  refine q_sq ?_
  refine q_cn (decide (x3 < ((a1.length : Nat) : Int))) (fun b4 => ?_) (fun b4 => ?_)
  ·replace hm := qA b4 hm
   refine q_sk ?_
   refine q_sq ?_
   refine q_bk 1 ?_
   refine q_sq ?_
   obtain ⟨g5, hm⟩ := qO hm
   refine q_vu [qd 0 (Dir.none) (inb_of g5)] 0 [12] [(4, vp 0 0)] [] [(0, bx 139 [ci ((a1.getD x3.toNat default).Kind), ci ((((a1.getD x3.toNat default).Box).X).A), ci ((((a1.getD x3.toNat default).Box).X).B), ci ((((a1.getD x3.toNat default).Box).Y).A), ci ((((a1.getD x3.toNat default).Box).Y).B), ci ((((a1.getD x3.toNat default).Box).Z).A), ci ((((a1.getD x3.toNat default).Box).Z).B)])] ?_
   refine q_sq ?_
   obtain ⟨v6, h7, hm⟩ := qC hm
   refine q_vu [qc 1 [15] 1 (qAT (a1.getD x3.toNat default) v6 h7)] 1 [4] [(5, vi v6)] [0] [] ?_
   refine q_sq ?_
   refine q_vu [] 1 [] [(18, vb (v6 != 0))] [] [] ?_
   refine q_cn (v6 != 0) (fun b8 => ?_) (fun b8 => ?_)
   ·replace hm := qA b8 hm
    refine q_sq ?_
    refine q_vn [] 1 ⟨[(2, vi v6)], []⟩ ?_
    obtain rfl := Option.some.inj hm
    refine q_rt ?_
    refine zB v6 ?_
    exact q_rm
   ·replace hm := qB b8 hm
    refine q_sk ?_
    refine q_vu [] 1 [5, 11, 18] [(11, vi (w64 (x3 + 1)))] [] [] ?_
    exact q_hl (KI a1 (w64 (x3 + 1))) (ih (w64 (x3 + 1)) _ hm)
  ·replace hm := qB b4 hm
   refine q_ex 0 ?_
   obtain rfl := Option.some.inj hm
   exact jJ () (by kernel_rfl) (by kernel_rfl)
theorem YL (a1 : List Defect) (r : Int) (hm : UE a1 = some r) : CtX Try.prog globs 51 0 0 [.one (tl qF default a1)] [] (VT r) (VV r) := by
 unfold UE at hm
 refine q_E Try.f51 21 fun E => ?_
 refine q_sq ?_
 refine q_vn [] 0 ⟨[(0, vc (tl qF default a1))], []⟩ ?_
 refine q_sq ?_
 refine q_sq ?_
 refine q_vu [] 0 [] [(8, vb (decide (((a1.length : Nat) : Int) > 64)))] [] [] ?_
 refine q_cn (decide (((a1.length : Nat) : Int) > 64)) (fun b2 => ?_) (fun b2 => ?_)
 ·replace hm := qA b2 hm
  refine q_sq ?_
  refine q_vn [] 0 ⟨[(2, vi 4)], []⟩ ?_
  obtain rfl := Option.some.inj hm
  refine q_rt ?_
  exact q_rm
 ·replace hm := qB b2 hm
  refine q_sk ?_
  refine q_sq ?_
  refine q_sq ?_
  refine q_vn [] 0 ⟨[(9, vc (tl qF default a1)), (10, vi ((a1.length : Nat) : Int)), (11, vi 0)], []⟩ ?_
  obtain ⟨u11, h10, hm⟩ := qC hm
  refine zI (nd Try.f51 116) 0 (by kernel_rfl) FUEL (fun o => NE) (fun v st => RetQ Try.prog Try.f51 (VT v) (VV v) .ret st) u11 (q_hl (KI a1 0) (AP E a1 FUEL 0 u11 h10)) ?_ ?_
  ·rintro v12 rfl st hr
   obtain rfl := Option.some.inj hm
   exact hr
  ·rintro o9 rfl
   replace hm : _ = some r := hm
   refine q_sq ?_
   refine q_vn [] 0 ⟨[(2, vi 0)], []⟩ ?_
   obtain rfl := Option.some.inj hm
   refine q_rt ?_
   exact q_rm
open Go.Proofs
set_option maxHeartbeats 4000000
set_option maxRecDepth 100000
def qBd (r : Bool) : V := vb r
def qAn (r : Bool) : List (Nat × (Nat × O)) := []
def GS (x3 : Bool) : St :=
 ⟨[(2, vb x3)], []⟩
theorem WR (a1 : Int) (r : Bool) (hm : PC a1 = some r) : CtX Try.prog globs 90 0 0 [.one (.val (.int .u8 a1))] [] (qBd r) (qAn r) := by
 unfold PC at hm
 refine q_E Try.f90 9 fun E => ?_
 refine q_sq ?_
 refine q_vn [] 0 ⟨[(0, vc (.val (.int .u8 a1)))], []⟩ ?_
 refine q_jn (ι := Bool) (fun p => GS p) (fun p => PT p = some r) ?_ ?_
 ·rintro x3 hm
  show H _ (GS x3) _ _
  obtain rfl := Option.some.inj hm
  refine q_rt ?_
  exact q_rm
 ·rcases Bool.eq_false_or_eq_true (decide (97 ≤ a1)) with b2 | b2
  ·replace hm := qA b2 hm
   refine q_vn [qf 2 b2] 0 ⟨[(2, vb (decide (a1 ≤ 122)))], []⟩ ?_
   exact q_J (decide (a1 ≤ 122)) hm
  ·replace hm := qB b2 hm
   refine q_vn [qf 2 b2] 0 ⟨[(2, vb false)], []⟩ ?_
   exact q_J (false) hm
def qBa (r : Bool) : V := vb r
def qA1 (r : Bool) : List (Nat × (Nat × O)) := []
def DL (x3 : Bool) : St :=
 ⟨[(2, vb x3)], []⟩
theorem NV (a1 : Int) (r : Bool) (hm : BA a1 = some r) : CtX Try.prog globs 91 0 0 [.one (.val (.int .u8 a1))] [] (qBa r) (qA1 r) := by
 unfold BA at hm
 refine q_E Try.f91 9 fun E => ?_
 refine q_sq ?_
 refine q_vn [] 0 ⟨[(0, vc (.val (.int .u8 a1)))], []⟩ ?_
 refine q_jn (ι := Bool) (fun p => DL p) (fun p => PJ p = some r) ?_ ?_
 ·rintro x3 hm
  show H _ (DL x3) _ _
  obtain rfl := Option.some.inj hm
  refine q_rt ?_
  exact q_rm
 ·rcases Bool.eq_false_or_eq_true (decide (48 ≤ a1)) with b2 | b2
  ·replace hm := qA b2 hm
   refine q_vn [qf 2 b2] 0 ⟨[(2, vb (decide (a1 ≤ 57)))], []⟩ ?_
   exact q_J (decide (a1 ≤ 57)) hm
  ·replace hm := qB b2 hm
   refine q_vn [qf 2 b2] 0 ⟨[(2, vb false)], []⟩ ?_
   exact q_J (false) hm
set_option maxRecDepth 100000
def VK (r : Bool) : V := vb r
def VZ (r : Bool) : List (Nat × (Nat × O)) := []
def ND (a1 : ByteArray) (x9 : Int) (x18 : Bool) : St :=
 ⟨[(0, vc (cs a1)), (3, vi x9), (39, vb x18)], []⟩
def KE (a1 : ByteArray) (x9 : Int) : St :=
 ⟨[(0, vc (cs a1)), (3, vi x9)], []⟩
def BS : St :=
 ⟨[], []⟩
def BZ (a1 : ByteArray) (x7 : Bool) : St :=
 ⟨[(0, vc (cs a1)), (18, vb x7)], []⟩
theorem ET (E : Env 0) (a1 : ByteArray) : ∀ (n : Nat) (x9 : Int) (res : Bool ⊕ Unit), jP a1 n x9 = some res → HL (kx E 40 0) (nd Try.f68 116) (jD 0 (fun o => BS) (fun v st => RetQ Try.prog Try.f68 (VK v) (VZ v) .ret st) res) n (KE a1 x9) := by
 intro n
 induction n with
 | zero =>
  intro x9 res hm
  cases hm
 | succ n ih =>
  intro x9 res hm
  refine qV ?_
  refine q_sq ?_
  refine q_sq ?_
  refine q_vu [] 0 [] [(22, vb (decide (x9 < ((a1.size : Nat) : Int))))] [] [] ?_
  refine q_cn (decide (x9 < ((a1.size : Nat) : Int))) (fun b10 => ?_) (fun b10 => ?_)
  ·replace hm := qA b10 hm
   refine q_sk ?_
   refine q_sq ?_
   refine q_bk 1 ?_
   refine q_sq ?_
   obtain ⟨g11, hm⟩ := qO hm
   refine q_vu [qd 2 (Dir.none) (inb_of g11)] 0 [22] [(4, vc (.val (.int .u8 (wH a1 x9.toNat))))] [] [] ?_
   refine q_jn (ι := Bool) (fun p => ND a1 x9 p) (fun p => JZ x9 (jP a1 n) p = some res) ?_ ?_
   ·rintro x18 hm
    show H _ (ND a1 x9 x18) _ _
    refine q_cn x18 (fun b19 => ?_) (fun b19 => ?_)
    ·replace hm := qA b19 hm
     refine q_sq ?_
     refine q_vn [] 0 ⟨[(2, vb false)], []⟩ ?_
     obtain rfl := Option.some.inj hm
     refine q_rt ?_
     refine zB false ?_
     exact q_rm
    ·replace hm := qB b19 hm
     refine q_sk ?_
     refine q_vu [] 0 [3, 39] [(3, vi (w64 (x9 + 1)))] [] [] ?_
     exact q_hl (KE a1 (w64 (x9 + 1))) (ih (w64 (x9 + 1)) _ hm)
   ·obtain ⟨v12, h13, hm⟩ := qC hm
    rcases Bool.eq_false_or_eq_true (!v12) with b14 | b14
    ·replace hm := qA b14 hm
     obtain ⟨v15, h16, hm⟩ := qC hm
     rcases Bool.eq_false_or_eq_true (!v15) with b17 | b17
     ·replace hm := qA b17 hm
      refine q_vu [qc 1 [28] 0 (WR (wH a1 x9.toNat) v12 h13), qf 3 b14, qk 5 [31, 32] 0 ⟨[(31, vb true), (32, vc (.val (.int .u8 (wH a1 x9.toNat))))], []⟩ (NV (wH a1 x9.toNat) v15 h16), qf 8 b17] 0 [4] [(39, vb ((wH a1 x9.toNat) != 95))] [] [] ?_
      exact q_J ((wH a1 x9.toNat) != 95) hm
     ·replace hm := qB b17 hm
      refine q_vu [qc 1 [28] 0 (WR (wH a1 x9.toNat) v12 h13), qf 3 b14, qk 5 [31, 32] 0 ⟨[(31, vb true), (32, vc (.val (.int .u8 (wH a1 x9.toNat))))], []⟩ (NV (wH a1 x9.toNat) v15 h16), qf 8 b17] 0 [4] [(39, vb false)] [] [] ?_
      exact q_J (false) hm
    ·replace hm := qB b14 hm
     refine q_vu [qc 1 [28] 0 (WR (wH a1 x9.toNat) v12 h13), qf 3 b14] 0 [4] [(39, vb false)] [] [] ?_
     exact q_J (false) hm
  ·replace hm := qB b10 hm
   refine q_ex 0 ?_
   obtain rfl := Option.some.inj hm
   exact jJ () (by kernel_rfl) (by kernel_rfl)
theorem qAR (a1 : ByteArray) (r : Bool) (hm : FK a1 = some r) : CtX Try.prog globs 68 0 0 [.one (cs a1)] [] (VK r) (VZ r) := by
 unfold FK at hm
 refine q_E Try.f68 40 fun E => ?_
 refine q_sq ?_
 refine q_vn [] 0 ⟨[(0, vc (cs a1))], []⟩ ?_
 refine q_sq ?_
 refine q_jn (ι := Bool) (fun p => BZ a1 p) (fun p => YC a1 p = some r) ?_ ?_
 ·rintro x7 hm
  show H _ (BZ a1 x7) _ _
  refine q_cn x7 (fun b8 => ?_) (fun b8 => ?_)
  ·replace hm := qA b8 hm
   refine q_sq ?_
   refine q_vn [] 0 ⟨[(2, vb false)], []⟩ ?_
   obtain rfl := Option.some.inj hm
   refine q_rt ?_
   exact q_rm
  ·replace hm := qB b8 hm
   refine q_sk ?_
   refine q_sq ?_
   refine q_sq ?_
   refine q_vu [] 0 [18] [(3, vi 1)] [] [] ?_
   obtain ⟨u22, h21, hm⟩ := qC hm
   refine zI (nd Try.f68 116) 0 (by kernel_rfl) FUEL (fun o => BS) (fun v st => RetQ Try.prog Try.f68 (VK v) (VZ v) .ret st) u22 (q_hl (KE a1 1) (ET E a1 FUEL 1 u22 h21)) ?_ ?_
   ·rintro v23 rfl st hr
    obtain rfl := Option.some.inj hm
    exact hr
   ·rintro o20 rfl
    replace hm : _ = some r := hm
    refine q_sq ?_
    refine q_vn [] 0 ⟨[(2, vb true)], []⟩ ?_
    obtain rfl := Option.some.inj hm
    refine q_rt ?_
    exact q_rm
 ·rcases Bool.eq_false_or_eq_true (decide (((a1.size : Nat) : Int) < 1)) with b2 | b2
  ·replace hm := qA b2 hm
   refine q_vu [qf 3 b2] 0 [] [(18, vb true)] [] [] ?_
   exact q_J (true) hm
  ·replace hm := qB b2 hm
   rcases Bool.eq_false_or_eq_true (decide (((a1.size : Nat) : Int) > 16)) with b3 | b3
   ·replace hm := qA b3 hm
    refine q_vu [qf 3 b2, qf 8 b3] 0 [] [(18, vb true)] [] [] ?_
    exact q_J (true) hm
   ·replace hm := qB b3 hm
    obtain ⟨g4, hm⟩ := qO hm
    obtain ⟨v5, h6, hm⟩ := qC hm
    refine q_vu [qf 3 b2, qf 8 b3, qd 10 (Dir.none) (inb_of g4), qk 11 [13, 15] 0 ⟨[(13, vb false), (15, vc (.val (.int .u8 (wH a1 ((0 : Int).toNat)))))], []⟩ (WR (wH a1 ((0 : Int).toNat)) v5 h6)] 0 [] [(18, vb (!v5))] [] [] ?_
    exact q_J (!v5) hm
open Go.Proofs
set_option maxHeartbeats 4000000
set_option maxRecDepth 100000
def GC (r : Int × Bool) : V := .tup [.one (ci r.1), .one (cb r.2)]
def VX (r : Int × Bool) : List (Nat × (Nat × O)) := []
def KP (a1 : List Product) (a2 : ByteArray) (x3 : Int) : St :=
 ⟨[(1, vc (cs a2)), (8, vc (tl qE default a1)), (9, vi ((a1.length : Nat) : Int)), (10, vi x3)], []⟩
def BY : St :=
 ⟨[], []⟩
theorem AL (E : Env 0) (a1 : List Product) (a2 : ByteArray) : ∀ (n : Nat) (x3 : Int) (res : (Int × Bool) ⊕ Unit), TW a1 a2 n x3 = some res → HL (kx E 21 0) (nd Try.f69 52) (jD 0 (fun o => BY) (fun v st => RetQ Try.prog Try.f69 (GC v) (VX v) .ret st) res) n (KP a1 a2 x3) := by
 intro n
 induction n with
 | zero =>
  intro x3 res hm
  cases hm
 | succ n ih =>
  intro x3 res hm
  refine qV ?_
  refine q_sq ?_
  refine q_vu [] 0 [] [(11, vb (decide (x3 < ((a1.length : Nat) : Int))))] [] [] ?_
  refine q_sq ?_
  refine q_cn (decide (x3 < ((a1.length : Nat) : Int))) (fun b4 => ?_) (fun b4 => ?_)
  ·replace hm := qA b4 hm
   refine q_sk ?_
   refine q_sq ?_
   refine q_bk 1 ?_
   refine q_sq ?_
   obtain ⟨g5, hm⟩ := qO hm
   refine q_vu [qd 1 (Dir.none) (inb_of g5)] 0 [11] [(6, vi x3), (7, vp 0 0)] [] [(0, bx 71 [cs ((a1.getD x3.toNat default).Name), ci ((a1.getD x3.toNat default).Thick), ci ((a1.getD x3.toNat default).Width), ci ((a1.getD x3.toNat default).Allow), ci ((a1.getD x3.toNat default).Wane), tl qL default ((a1.getD x3.toNat default).Lengths), tl qL default ((a1.getD x3.toNat default).Prices)])] ?_
   refine q_sq ?_
   refine q_vu [] 1 [7] [(18, vb (SX ((a1.getD x3.toNat default).Name) a2))] [0] [] ?_
   refine q_cn (SX ((a1.getD x3.toNat default).Name) a2) (fun b6 => ?_) (fun b6 => ?_)
   ·replace hm := qA b6 hm
    refine q_sq ?_
    refine q_vn [] 1 ⟨[(4, vi x3), (5, vb true)], []⟩ ?_
    obtain rfl := Option.some.inj hm
    refine q_rt ?_
    refine zB (x3, true) ?_
    exact q_rm
   ·replace hm := qB b6 hm
    refine q_sk ?_
    refine q_vu [] 1 [6, 10, 18] [(10, vi (w64 (x3 + 1)))] [] [] ?_
    exact q_hl (KP a1 a2 (w64 (x3 + 1))) (ih (w64 (x3 + 1)) _ hm)
  ·replace hm := qB b4 hm
   refine q_ex 0 ?_
   obtain rfl := Option.some.inj hm
   exact jJ () (by kernel_rfl) (by kernel_rfl)
theorem qAN (a1 : List Product) (a2 : ByteArray) (r : Int × Bool) (hm : NS a1 a2 = some r) : CtX Try.prog globs 69 0 0 [.one (tl qE default a1), .one (cs a2)] [] (GC r) (VX r) := by
 unfold NS at hm
 refine q_E Try.f69 21 fun E => ?_
 refine q_sq ?_
 refine q_vn [] 0 ⟨[(0, vc (tl qE default a1)), (1, vc (cs a2))], []⟩ ?_
 refine q_sq ?_
 refine q_sq ?_
 refine q_vu [] 0 [0] [(8, vc (tl qE default a1)), (9, vi ((a1.length : Nat) : Int)), (10, vi 0)] [] [] ?_
 obtain ⟨u9, h8, hm⟩ := qC hm
 refine zI (nd Try.f69 52) 0 (by kernel_rfl) FUEL (fun o => BY) (fun v st => RetQ Try.prog Try.f69 (GC v) (VX v) .ret st) u9 (q_hl (KP a1 a2 0) (AL E a1 a2 FUEL 0 u9 h8)) ?_ ?_
 ·rintro v10 rfl st hr
  obtain rfl := Option.some.inj hm
  exact hr
 ·rintro o7 rfl
  replace hm : _ = some r := hm
  refine q_sq ?_
  refine q_vn [] 0 ⟨[(4, vi 0), (5, vb false)], []⟩ ?_
  obtain rfl := Option.some.inj hm
  refine q_rt ?_
  exact q_rm
def qBn (r : Int) : V := vi r
def qBP (r : Int) : List (Nat × (Nat × O)) := []
theorem LZ (a1 : Int) (a2 : Int) (r : Int) (hm : UA a1 a2 = some r) : CtX Try.prog globs 93 0 0 [.one (ci a1), .one (ci a2)] [] (qBn r) (qBP r) := by
 unfold UA at hm
 refine q_E Try.f93 11 fun E => ?_
 refine q_sq ?_
 refine q_vn [] 0 ⟨[(0, vi a1), (1, vi a2)], []⟩ ?_
 refine q_sq ?_
 refine q_vn [qd 5 (Dir.none) (show (1000 : Int) ≠ 0 by decide)] 0 ⟨[(4, vi (w64 (Int.tdiv (w64 ((w64 (a1 * (w64 (1000 + a2)))) + 999)) 1000)))], []⟩ ?_
 obtain rfl := Option.some.inj hm
 refine q_rt ?_
 exact q_rm
set_option maxRecDepth 100000
def CI (r : Bool) : V := vb r
def CE (r : Bool) : List (Nat × (Nat × O)) := []
def VF (x3 : Bool) : St :=
 ⟨[(2, vb x3)], []⟩
theorem zT (a1 : Int) (r : Bool) (hm : XS a1 = some r) : CtX Try.prog globs 92 0 0 [.one (ci a1)] [] (CI r) (CE r) := by
 unfold XS at hm
 refine q_E Try.f92 9 fun E => ?_
 refine q_sq ?_
 refine q_vn [] 0 ⟨[(0, vi a1)], []⟩ ?_
 refine q_jn (ι := Bool) (fun p => VF p) (fun p => KN p = some r) ?_ ?_
 ·rintro x3 hm
  show H _ (VF x3) _ _
  obtain rfl := Option.some.inj hm
  refine q_rt ?_
  exact q_rm
 ·rcases Bool.eq_false_or_eq_true (decide (a1 ≥ 1)) with b2 | b2
  ·replace hm := qA b2 hm
   refine q_vn [qf 2 b2] 0 ⟨[(2, vb (decide (a1 ≤ 600)))], []⟩ ?_
   exact q_J (decide (a1 ≤ 600)) hm
  ·replace hm := qB b2 hm
   refine q_vn [qf 2 b2] 0 ⟨[(2, vb false)], []⟩ ?_
   exact q_J (false) hm
open Go.Proofs
set_option maxHeartbeats 4000000
set_option maxRecDepth 100000
def qAC (r : Int × Int) : V := .tup [.one (ci r.1), .one (ci r.2)]
def qAv (r : Int × Int) : List (Nat × (Nat × O)) := []
def GT (a1 : Product) (x9 : Bool) : St :=
 ⟨[(1, vp 0 0), (23, vb x9)], [(0, bx 71 (qE a1))]⟩
theorem RA (a1 : Product) (r : Int × Int) (hm : WX a1 = some r) : CtX Try.prog globs 72 0 0 [.agg (qE a1)] [] (qAC r) (qAv r) := by
 unfold WX at hm
 refine q_E Try.f72 34 fun E => ?_
 refine q_sq ?_
 refine q_vn [] 0 ⟨[(1, vp 0 0)], [(0, bx 71 (qE a1))]⟩ ?_
 refine q_sq ?_
 refine q_jn (ι := Bool) (fun p => GT a1 p) (fun p => yR a1 p = some r) ?_ ?_
 ·rintro x9 hm
  show H _ (GT a1 x9) _ _
  refine q_cn x9 (fun b10 => ?_) (fun b10 => ?_)
  ·replace hm := qA b10 hm
   refine q_sq ?_
   refine q_vn [] 1 ⟨[(2, vi 0), (3, vi 0)], []⟩ ?_
   obtain rfl := Option.some.inj hm
   refine q_rt ?_
   exact q_rm
  ·replace hm := qB b10 hm
   refine q_sk ?_
   refine q_sq ?_
   obtain ⟨v11, h12, hm⟩ := qC hm
   obtain ⟨v13, h14, hm⟩ := qC hm
   refine q_dn [qc 4 [25, 27] 1 (LZ a1.Thick a1.Allow v11 h12), qc 9 [30, 32] 1 (LZ a1.Width a1.Allow v13 h14)] [0, 1, 0, 4, 15, 0, 32, 0, 128, 511, 1023, 2047] 1 ⟨[(2, vi v11), (3, vi v13)], []⟩ ?_
   obtain rfl := Option.some.inj hm
   refine q_rt ?_
   exact q_rm
 ·obtain ⟨v2, h3, hm⟩ := qC hm
  rcases Bool.eq_false_or_eq_true (!v2) with b4 | b4
  ·replace hm := qA b4 hm
   refine q_vu [qc 2 [5] 1 (zT a1.Thick v2 h3), qf 4 b4] 1 [] [(23, vb true)] [] [] ?_
   exact q_J (true) hm
  ·replace hm := qB b4 hm
   obtain ⟨v5, h6, hm⟩ := qC hm
   rcases Bool.eq_false_or_eq_true (!v5) with b7 | b7
   ·replace hm := qA b7 hm
    refine q_vu [qc 2 [5] 1 (zT a1.Thick v2 h3), qf 4 b4, qk 7 [8, 10] 1 ⟨[(8, vb false), (10, vi a1.Width)], []⟩ (zT a1.Width v5 h6), qf 10 b7] 1 [] [(23, vb true)] [] [] ?_
    exact q_J (true) hm
   ·replace hm := qB b7 hm
    rcases Bool.eq_false_or_eq_true (decide (a1.Allow < 0)) with b8 | b8
    ·replace hm := qA b8 hm
     refine q_vu [qc 2 [5] 1 (zT a1.Thick v2 h3), qf 4 b4, qk 7 [8, 10] 1 ⟨[(8, vb false), (10, vi a1.Width)], []⟩ (zT a1.Width v5 h6), qf 10 b7, qf 15 b8] 1 [] [(23, vb true)] [] [] ?_
     exact q_J (true) hm
    ·replace hm := qB b8 hm
     refine q_vu [qc 2 [5] 1 (zT a1.Thick v2 h3), qf 4 b4, qk 7 [8, 10] 1 ⟨[(8, vb false), (10, vi a1.Width)], []⟩ (zT a1.Width v5 h6), qf 10 b7, qf 15 b8] 1 [] [(23, vb (decide (a1.Allow > 200)))] [] [] ?_
     exact q_J (decide (a1.Allow > 200)) hm
end Saw
end Go.SL
