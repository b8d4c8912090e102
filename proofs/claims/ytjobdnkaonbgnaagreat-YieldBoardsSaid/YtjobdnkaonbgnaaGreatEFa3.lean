import Derived.Test.YtjobdnkaonbgnaaGreatEBase
import Derived.Test.YtjobdnkaonbgnaaGreatEFa2
import Derived.Test.YtjobdnkaonbgnaaGreatEFa1
set_option linter.unusedVariables false
set_option linter.unusedSimpArgs false
namespace Go.SL
namespace Saw
open Go.Proofs
set_option maxHeartbeats 4000000
set_option maxRecDepth 100000
noncomputable def RL (a1 : Int) (a2 : Pattern_place) (a3 : Pattern) (a4 : List Product) (a5 : Int) (a6 : Int) (ri : RI 67) (r : Nat × Int × Int) : V := vb (Nat.beq r.1 0)
noncomputable def RA (a1 : Int) (a2 : Pattern_place) (a3 : Pattern) (a4 : List Product) (a5 : Int) (a6 : Int) (ri : RI 67) (r : Nat × Int × Int) : List (Nat × (Nat × O)) := [(0, lz (rc Tryz.f61 506 ri) ri.b [.ret] r.1), (1, bx 31 (qG a3)), (2, bx 118 [.fn 98 [.bptr 3 0 0]]), (3, bx 24 [tl qA default a4]), (4, bx 41 [ci r.2.1]), (5, bx 3 [ci r.2.2])]
noncomputable def BN (ri : RI 67) (a1 : Int) (a3 : Pattern) (a4 : List Product) (a5 : Int) (a6 : Int) (x16 : Int) : St :=
 ⟨[(6, vp 4 0), (7, vp 5 0), (8, vi a1), (11, vi x16)], [(0, ly (rc Tryz.f61 506 ri) ri.b), (1, bx 31 (qG a3)), (2, bx 118 [.fn 98 [.bptr 3 0 0]]), (3, bx 24 [tl qA default a4]), (4, bx 41 [ci a5]), (5, bx 3 [ci a6])]⟩
noncomputable def DQ (ri : RI 67) (a1 : Int) (a2 : Pattern_place) (a3 : Pattern) (a4 : List Product) (a5 : Int) (a6 : Int) (v9 : Int) (x12 : Bool) : St :=
 ⟨[(5, vp 2 0), (6, vp 4 0), (7, vp 5 0), (8, vi a1), (9, vp 6 0), (10, vp 7 0), (11, vi v9), (50, vb x12)], [(0, ly (rc Tryz.f61 506 ri) ri.b), (1, bx 31 (qG a3)), (2, bx 118 [.fn 98 [.bptr 3 0 0]]), (3, bx 24 [tl qA default a4]), (4, bx 41 [ci a5]), (5, bx 3 [ci a6]), (6, bx 123 (e_Pattern_place a2)), (7, bx 65 [ci ((a3.Nodes.getD a1.toNat default).Kind), ci ((a3.Nodes.getD a1.toNat default).At)])]⟩
theorem FO (a1 : Int) (a2 : Pattern_place) (a3 : Pattern) (a4 : List Product) (a5 : Int) (a6 : Int) (ri : RI 67) (r : Nat × Int × Int) (hm : jG a1 a2 a3 a4 a5 a6 = some r) : CtR Tryz.prog globs (rc Tryz.f61 506 ri) ri.b [3, 5, 6, 7] 6 6 [.one (ci a1), .agg (e_Pattern_place a2), .one (.bptr 1 0 0), .one (.bptr 2 0 0), .one (.bptr 4 0 0), .one (.bptr 5 0 0)] [(0, lq (rc Tryz.f61 506 ri) ri.b), (1, bx 31 (qG a3)), (2, bx 118 [.fn 98 [.bptr 3 0 0]]), (3, bx 24 [tl qA default a4]), (4, bx 41 [ci a5]), (5, bx 3 [ci a6])] (RL a1 a2 a3 a4 a5 a6 ri r) (RA a1 a2 a3 a4 a5 a6 ri r) := by
 unfold jG at hm
 refine q_R Tryz.f61 506 67 ri fun E => ?_
 refine q_sq ?_
 refine q_vn [] 6 ⟨[(3, vp 1 0), (5, vp 2 0), (6, vp 4 0), (7, vp 5 0), (8, vi a1), (30, va (e_Pattern_place a2))], [(0, lq (rc Tryz.f61 506 ri) ri.b), (1, bx 31 (qG a3)), (2, bx 118 [.fn 98 [.bptr 3 0 0]]), (3, bx 24 [tl qA default a4]), (4, bx 41 [ci a5]), (5, bx 3 [ci a6])]⟩ ?_
 refine q_vu [] 6 [30] [(9, vp 6 0)] [] [(6, bx 123 (e_Pattern_place a2))] ?_
 refine q_rd ⟨[(3, vp 1 0), (5, vp 2 0), (6, vp 4 0), (7, vp 5 0), (8, vi a1), (9, vp 6 0)], [(0, ly (rc Tryz.f61 506 ri) ri.b), (1, bx 31 (qG a3)), (2, bx 118 [.fn 98 [.bptr 3 0 0]]), (3, bx 24 [tl qA default a4]), (4, bx 41 [ci a5]), (5, bx 3 [ci a6]), (6, bx 123 (e_Pattern_place a2))]⟩ ?_
 refine q_bk 1 ?_
 refine q_sq ?_
 refine q_sq ?_
 refine q_vu [] 7 [] [(35, vb (decide (a1 ≥ ((a3.Nodes.length : Nat) : Int))))] [] [] ?_
 refine q_cn (decide (a1 ≥ ((a3.Nodes.length : Nat) : Int))) (fun b7 => ?_) (fun b7 => ?_)
 ·replace hm := qC b7 hm
  refine q_sq ?_
  refine q_vu [] 7 [3, 5, 6, 7, 8, 9, 35] [] [4, 6] [(4, bx 41 [ci 3])] ?_
  obtain rfl := Option.some.inj hm
  refine q_rt ?_
  exact q_rq
 ·replace hm := qB b7 hm
  refine q_sk ?_
  refine q_sq ?_
  obtain ⟨g8, hm⟩ := qL hm
  refine q_vu [qd 3 (Dir.none) (inb_of g8)] 7 [3, 35] [(10, vp 7 0)] [] [(7, bx 65 [ci ((a3.Nodes.getD a1.toNat default).Kind), ci ((a3.Nodes.getD a1.toNat default).At)])] ?_
  refine q_sq ?_
  obtain ⟨v9, h10, hm⟩ := qD hm
  refine q_vu [qc 2 [41, 42] 8 (SO (a3.Nodes.getD a1.toNat default) a2 v9 h10)] 8 [] [(11, vi v9)] [] [] ?_
  refine q_jn (ι := Int) (fun p => BN ri a1 a3 a4 a5 a6 p) (fun p => ZY a1 a5 a6 p = some r) ?_ ?_
  ·rintro x16 hm
   show H _ (BN ri a1 a3 a4 a5 a6 x16) _ _
   refine q_sq ?_
   refine q_sq ?_
   refine q_vu [] 8 [] [(58, vb (x16 != 0))] [] [] ?_
   refine q_cn (x16 != 0) (fun b17 => ?_) (fun b17 => ?_)
   ·replace hm := qC b17 hm
    refine q_sq ?_
    refine q_vu [] 8 [6, 7, 8, 11, 58] [] [4] [(4, bx 41 [ci x16])] ?_
    obtain rfl := Option.some.inj hm
    refine q_rt ?_
    exact q_rq
   ·replace hm := qB b17 hm
    refine q_sk ?_
    refine q_vu [] 8 [6, 7, 8, 11, 58] [] [5] [(5, bx 3 [ci (w64 (a1 + 1))])] ?_
    obtain rfl := Option.some.inj hm
    exact q_rq
  ·refine q_jn (ι := Bool) (fun p => DQ ri a1 a2 a3 a4 a5 a6 v9 p) (fun p => WG a1 a2 a3 a4 a5 a6 v9 p = some r) ?_ ?_
   ·rintro x12 hm
    show H _ (DQ ri a1 a2 a3 a4 a5 a6 v9 x12) _ _
    refine q_cn x12 (fun b13 => ?_) (fun b13 => ?_)
    ·replace hm := qC b13 hm
     obtain ⟨v14, h15, hm⟩ := qD hm
     refine q_vu [qd 5 (dex (cen [(3, 0)] [0] 7 1 (qAn a2.rect ((a3.Nodes.getD a1.toNat default).At) a4 v14) (pattern_Check_1_o a2.rect ((a3.Nodes.getD a1.toNat default).At) a4 v14) [51, 53, 55] [3])) (jI (K := (kr E 67 6 ri.b)) ⟨[(51, vc (.fn 98 [.bptr 3 0 0])), (53, va (qE a2.rect)), (55, vi ((a3.Nodes.getD a1.toNat default).At))], [(3, bx 24 [tl qA default a4])]⟩ (opAt (rg Tryz.f61 129722) 5) [(3, 0)] [0] 7 o0 rfl (qEn a2.rect ((a3.Nodes.getD a1.toNat default).At) a4 v14 h15) (.inl rfl) (by kernel_rfl))] 8 [5, 9, 10, 11, 50] [(11, vi v14)] [6, 7] [] ?_
     exact q_J (v14) hm
    ·replace hm := qB b13 hm
     refine q_sk ?_
     exact q_J (v9) hm
   ·rcases Bool.eq_false_or_eq_true (v9 == 0) with b11 | b11
    ·replace hm := qC b11 hm
     refine q_vu [qf 2 b11] 8 [] [(50, vb (((a3.Nodes.getD a1.toNat default).Kind) == 1))] [] [] ?_
     exact q_J (((a3.Nodes.getD a1.toNat default).Kind) == 1) hm
    ·replace hm := qB b11 hm
     refine q_vu [qf 2 b11] 8 [] [(50, vb false)] [] [] ?_
     exact q_J (false) hm
def qIr (r : Rect) : V := va (qE r)
def qIB (r : Rect) : List (Nat × (Nat × O)) := []
def CK (x5 : Rect) : St :=
 ⟨[(3, vp 0 0), (6, vp 2 0)], [(0, bx 28 (qE x5)), (2, bx 28 [ci 0, ci 0, ci 0, ci 0])]⟩
theorem SY (a1 : Rect) (a2 : Int) (a3 : Span) (r : Rect) (hm : YM a1 a2 a3 = some r) : CtX Tryz.prog globs 121 0 0 [.agg (qE a1), .one (ci a2), .agg (e_Span a3)] [] (qIr r) (qIB r) := by
 unfold YM at hm
 refine q_E Tryz.f121 14 fun E => ?_
 refine q_sq ?_
 refine q_vn [] 0 ⟨[(1, vi a2), (3, vp 0 0), (5, vp 1 0), (6, vp 2 0)], [(0, bx 28 (qE a1)), (1, bx 26 (e_Span a3)), (2, bx 28 [ci 0, ci 0, ci 0, ci 0])]⟩ ?_
 refine q_jn (ι := Rect) (fun p => CK p) (fun p => GP p = some r) ?_ ?_
 ·rintro x5 hm
  show H _ (CK x5) _ _
  refine q_sq ?_
  refine q_vu [] 3 [3] [] [0, 2] [(2, bx 28 (qE x5))] ?_
  obtain rfl := Option.some.inj hm
  refine q_rt ?_
  exact q_rm
 ·refine q_sq ?_
  refine q_vu [] 3 [1] [(8, vb (a2 == 2))] [] [] ?_
  refine q_cn (a2 == 2) (fun b4 => ?_) (fun b4 => ?_)
  ·replace hm := qC b4 hm
   refine q_vu [] 3 [5, 8] [] [0, 1] [(0, bx 28 [ci a3.A, ci a3.B, ci a1.Y.A, ci a1.Y.B])] ?_
   exact q_J ((Rect.mk a3 a1.Y)) hm
  ·replace hm := qB b4 hm
   refine q_vu [] 3 [5, 8] [] [0, 1] [(0, bx 28 [ci a1.X.A, ci a1.X.B, ci a3.A, ci a3.B])] ?_
   exact q_J ((Rect.mk a1.X a3)) hm
set_option maxRecDepth 100000
def qHD (r : Rect × Rect × Rect) : V := .tup [.agg (qE r.1), .agg (qE r.2.1), .agg (qE r.2.2)]
def qH0 (r : Rect × Rect × Rect) : List (Nat × (Nat × O)) := []
theorem YT (a1 : Rect) (a2 : Node) (a3 : Int) (r : Rect × Rect × Rect) (hm : jS a1 a2 a3 = some r) : CtX Tryz.prog globs 82 0 0 [.agg (qE a1), .agg (qJ a2), .one (ci a3)] [] (qHD r) (qH0 r) := by
 unfold jS at hm
 refine q_E Tryz.f82 50 fun E => ?_
 refine q_sq ?_
 refine q_vn [] 0 ⟨[(2, vi a3), (3, vp 0 0), (4, vp 1 0), (6, vp 2 0), (7, vp 3 0), (8, vp 4 0)], [(0, bx 28 (qE a1)), (1, bx 65 (qJ a2)), (2, bx 28 [ci 0, ci 0, ci 0, ci 0]), (3, bx 28 [ci 0, ci 0, ci 0, ci 0]), (4, bx 28 [ci 0, ci 0, ci 0, ci 0])]⟩ ?_
 refine q_sq ?_
 obtain ⟨v4, h5, hm⟩ := qD hm
 refine q_vu [qc 3 [11, 13] 5 (qAM a1 a2.Kind v4 h5)] 5 [] [(9, vp 5 0)] [] [(5, bx 26 (e_Span v4))] ?_
 refine q_sq ?_
 refine q_vu [] 6 [2] [(10, vi (imin (w64 (a2.At + a3)) v4.B))] [] [] ?_
 refine q_sq ?_
 obtain ⟨v6, h7, hm⟩ := qD hm
 refine q_vu [qc 8 [22, 24, 29] 6 (SY a1 a2.Kind (Span.mk v4.A a2.At) v6 h7)] 6 [] [] [2] [(2, bx 28 (qE v6))] ?_
 refine q_sq ?_
 obtain ⟨v8, h9, hm⟩ := qD hm
 refine q_vu [qc 7 [31, 33, 37] 6 (SY a1 a2.Kind (Span.mk a2.At (imin (w64 (a2.At + a3)) v4.B)) v8 h9)] 6 [] [] [3] [(3, bx 28 (qE v8))] ?_
 refine q_sq ?_
 obtain ⟨v10, h11, hm⟩ := qD hm
 refine q_vu [qc 7 [39, 41, 45] 6 (SY a1 a2.Kind (Span.mk (imin (w64 (a2.At + a3)) v4.B) v4.B) v10 h11)] 6 [3, 4, 9, 10] [] [0, 1, 4, 5] [(4, bx 28 (qE v10))] ?_
 refine q_sq ?_
 refine q_du [] [0, 0, 0, 1, 11, 31] 6 [] [] [] [] ?_
 obtain rfl := Option.some.inj hm
 refine q_rt ?_
 exact q_rm
open Go.Proofs
set_option maxHeartbeats 4000000
set_option maxRecDepth 100000
noncomputable def DK (a1 : Pattern) (a2 : List Product) (a3 : Int) (a4 : Int) (a5 : Pattern) (a6 : Int) (ri : RI 67) (r : Nat × Int × Int) : V := .undef
noncomputable def BF (a1 : Pattern) (a2 : List Product) (a3 : Int) (a4 : Int) (a5 : Pattern) (a6 : Int) (ri : RI 67) (r : Nat × Int × Int) : List (Nat × (Nat × O)) := [(0, lz (rc Tryz.f61 506 ri) ri.b [.ret] r.1), (1, bx 31 (qG a1)), (2, bx 118 [.fn 98 [.bptr 3 0 0]]), (3, bx 24 [tl qA default a2]), (4, bx 41 [ci r.2.1]), (5, bx 3 [ci r.2.2]), (6, bx 31 (qG a5)), (7, bx 3 [ci a6])]
noncomputable def HG (ri : RI 67) (a1 : Pattern) (a2 : List Product) (a5 : Pattern) (a6 : Int) (x8 : Int) (l25 : List Pattern_place) (l25n : Nat) (x26 : Int) (x27 : Int) : St :=
 ⟨[(0, vc (.yl (rc Tryz.f61 506 ri) ri.b [3, 5, 6, 7] [.bptr 1 0 0, .bptr 2 0 0, .bptr 4 0 0, .bptr 5 0 0])), (1, vp 6 0), (2, vp 7 0), (4, vo 8 0 5 l25n), (5, vi x8)], [(0, lq (rc Tryz.f61 506 ri) ri.b), (1, bx 31 (qG a1)), (2, bx 118 [.fn 98 [.bptr 3 0 0]]), (3, bx 24 [tl qA default a2]), (4, bx 41 [ci x27]), (5, bx 3 [ci x26]), (6, bx 31 (qG a5)), (7, bx 3 [ci a6]), (8, ro 0 123 5 l25n (rf e_Pattern_place l25))]⟩
noncomputable def RN (ri : RI 67) (a1 : Pattern) (a2 : List Product) (a5 : Pattern) (a6 : Int) (l7 : List Pattern_place) (l7n : Nat) (x8 : Int) (x9 : Int) (x10 : Int) : St :=
 ⟨[(0, vc (.yl (rc Tryz.f61 506 ri) ri.b [3, 5, 6, 7] [.bptr 1 0 0, .bptr 2 0 0, .bptr 4 0 0, .bptr 5 0 0])), (1, vp 6 0), (2, vp 7 0), (4, vo 8 0 5 l7n), (5, vi x8)], [(0, lq (rc Tryz.f61 506 ri) ri.b), (1, bx 31 (qG a1)), (2, bx 118 [.fn 98 [.bptr 3 0 0]]), (3, bx 24 [tl qA default a2]), (4, bx 41 [ci x9]), (5, bx 3 [ci x10]), (6, bx 31 (qG a5)), (7, bx 3 [ci a6]), (8, ro 0 123 5 l7n (rf e_Pattern_place l7))]⟩
noncomputable def HF (ri : RI 67) (a1 : Pattern) (a2 : List Product) (a5 : Pattern) (a6 : Int) (x28 : Int) (x29 : Int) : St :=
 ⟨[], [(0, lq (rc Tryz.f61 506 ri) ri.b), (1, bx 31 (qG a1)), (2, bx 118 [.fn 98 [.bptr 3 0 0]]), (3, bx 24 [tl qA default a2]), (4, bx 41 [ci x29]), (5, bx 3 [ci x28]), (6, bx 31 (qG a5)), (7, bx 3 [ci a6])]⟩
theorem qCK (E : Env 8) (ri : RI 67) (a1 : Pattern) (a2 : List Product) (a3 : Int) (a4 : Int) (a5 : Pattern) (a6 : Int) : ∀ (n : Nat) (l7 : List Pattern_place) (l7n : Nat) (x8 : Int) (x9 : Int) (x10 : Int) (res : (Nat × Int × Int) ⊕ (Int × Int)), l7.length = l7n → jH a1 a2 a5 a6 n l7 x8 x9 x10 = some res → HL (kx E 73 8) (nd Tryz.f102 28) (wI 0 (fun o => HF ri a1 a2 a5 a6 o.1 o.2) (fun v st => RetQ Tryz.prog Tryz.f102 (DK a1 a2 a3 a4 a5 a6 ri v) (BF a1 a2 a3 a4 a5 a6 ri v) .ret st) res) n (RN ri a1 a2 a5 a6 l7 l7n x8 x9 x10) := by
 intro n
 induction n with
 | zero =>
  intro l7 l7n x8 x9 x10 res hl0 hm
  cases hm
 | succ n ih =>
  intro l7 l7n x8 x9 x10 res hl0 hm
  subst hl0
  refine qR ?_
  refine q_sq ?_
  refine q_sq ?_
  refine q_vu [] 9 [] [(17, vb (decide (((l7.length : Nat) : Int) > 0)))] [] [] ?_
  refine q_cn (decide (((l7.length : Nat) : Int) > 0)) (fun b11 => ?_) (fun b11 => ?_)
  ·replace hm := qC b11 hm
   refine q_sk ?_
   refine q_jn (ι := (List Pattern_place) × Nat × Int × Int) (fun p => HG ri a1 a2 a5 a6 x8 p.1 p.2.1 p.2.2.1 p.2.2.2) (fun p => p.1.length = p.2.1 ∧ XA x8 (jH a1 a2 a5 a6 n) p.1 p.2.2.1 p.2.2.2 = some res) ?_ ?_
   ·rintro ⟨l25, l25n, x26, x27⟩ ⟨el25, hm⟩
    replace el25 : l25.length = l25n := el25
    subst el25
    show H _ (HG ri a1 a2 a5 a6 x8 l25 l25.length x26 x27) _ _
    refine q_vu [] 15 [5] [(5, vi (w64 (x8 + 1)))] [] [] ?_
    exact q_hl (RN ri a1 a2 a5 a6 l25 l25.length (w64 (x8 + 1)) x27 x26) (ih l25 l25.length (w64 (x8 + 1)) x27 x26 _ rfl hm)
   ·refine q_bk 1 ?_
    refine q_sq ?_
    obtain ⟨g12, hm⟩ := qL hm
    refine q_vu [qd 4 (Dir.none) (inb_of g12), qd 5 (Dir.none) (toNat_lt (inb_of g12))] 9 [17] [(6, vp 9 0)] [] [(9, bx 123 [ci ((((l7.getD ((w64 (((l7.length : Nat) : Int) - 1)).toNat) default).rect).X).A), ci ((((l7.getD ((w64 (((l7.length : Nat) : Int) - 1)).toNat) default).rect).X).B), ci ((((l7.getD ((w64 (((l7.length : Nat) : Int) - 1)).toNat) default).rect).Y).A), ci ((((l7.getD ((w64 (((l7.length : Nat) : Int) - 1)).toNat) default).rect).Y).B), ci ((l7.getD ((w64 (((l7.length : Nat) : Int) - 1)).toNat) default).level)])] ?_
    refine q_sq ?_
    obtain ⟨g13, hm⟩ := qL hm
    refine q_wu [qd 4 (Dir.none) (And.intro (slOk_of g13).2.1 (slOk_of g13).2.2)] [.row 8 ((w64 (((l7.length : Nat) : Int) - 1)).toNat) (rf e_Pattern_place (l7.take ((w64 (((l7.length : Nat) : Int) - 1)).toNat)))] (o1 (tkP e_Pattern_place default l7 l7.length ((w64 (((l7.length : Nat) : Int) - 1)).toNat) (show (w64 (((l7.length : Nat) : Int) - 1)).toNat ≤ l7.length by have := (slOk_of g13); omega))) 10 [4] [(4, vo 8 0 5 ((w64 (((l7.length : Nat) : Int) - 1)).toNat))] [8] [(8, ro 0 123 5 ((w64 (((l7.length : Nat) : Int) - 1)).toNat) (rf e_Pattern_place (l7.take ((w64 (((l7.length : Nat) : Int) - 1)).toNat))))] ?_
    refine q_sq ?_
    refine q_sq ?_
    obtain ⟨v14, h15, hm⟩ := qD hm
    rcases Bool.eq_false_or_eq_true (!(Nat.beq v14.1 0)) with b16 | b16
    ·replace hm := qC b16 hm
     refine q_vu [qd 3 (dex (cen [(0, 0), (1, 0), (2, 0), (3, 0), (4, 0), (5, 0)] [0, 0, 0, 0, 0, 0] 4 6 (RL x8 (l7.getD ((w64 (((l7.length : Nat) : Int) - 1)).toNat) default) a1 a2 x9 x10 ri v14) (RA x8 (l7.getD ((w64 (((l7.length : Nat) : Int) - 1)).toNat) default) a1 a2 x9 x10 ri v14) [31, 32, 33] [0, 1, 2, 3, 4, 5])) (qAI (K := (kx E 73 8)) ⟨[(31, vc (.yl (rc Tryz.f61 506 ri) ri.b [3, 5, 6, 7] [.bptr 1 0 0, .bptr 2 0 0, .bptr 4 0 0, .bptr 5 0 0])), (32, vi x8), (33, va [ci ((((l7.getD ((w64 (((l7.length : Nat) : Int) - 1)).toNat) default).rect).X).A), ci ((((l7.getD ((w64 (((l7.length : Nat) : Int) - 1)).toNat) default).rect).X).B), ci ((((l7.getD ((w64 (((l7.length : Nat) : Int) - 1)).toNat) default).rect).Y).A), ci ((((l7.getD ((w64 (((l7.length : Nat) : Int) - 1)).toNat) default).rect).Y).B), ci ((l7.getD ((w64 (((l7.length : Nat) : Int) - 1)).toNat) default).level)])], [(0, lq (rc Tryz.f61 506 ri) ri.b), (1, bx 31 (qG a1)), (2, bx 118 [.fn 98 [.bptr 3 0 0]]), (3, bx 24 [tl qA default a2]), (4, bx 41 [ci x9]), (5, bx 3 [ci x10])]⟩ (opAt (rg Tryz.f102 3660) 3) [(0, 0), (1, 0), (2, 0), (3, 0), (4, 0), (5, 0)] [0, 0, 0, 0, 0, 0] 4 0 o0 rfl (FO x8 (l7.getD ((w64 (((l7.length : Nat) : Int) - 1)).toNat) default) a1 a2 x9 x10 ri v14 h15) (.inl rfl) (by kernel_rfl)), qf 5 b16] 10 [] [(42, vb true)] [0, 4, 5] [(0, lz (rc Tryz.f61 506 ri) ri.b [.ret] v14.1), (4, bx 41 [ci v14.2.1]), (5, bx 3 [ci v14.2.2])] ?_
     refine qLh Tryz.f102 (.tmp 42) 7322 7323 (by kernel_rfl) (by kernel_rfl) ?_
     obtain rfl := Option.some.inj hm
     refine q_rt ?_
     refine qY (v14.1, v14.2.1, v14.2.2) ?_
     exact q_rm
    ·replace hm := qB b16 hm
     refine q_wu [qd 3 (dex (cen [(0, 0), (1, 0), (2, 0), (3, 0), (4, 0), (5, 0)] [0, 0, 0, 0, 0, 0] 4 6 (RL x8 (l7.getD ((w64 (((l7.length : Nat) : Int) - 1)).toNat) default) a1 a2 x9 x10 ri v14) (RA x8 (l7.getD ((w64 (((l7.length : Nat) : Int) - 1)).toNat) default) a1 a2 x9 x10 ri v14) [31, 32, 33] [0, 1, 2, 3, 4, 5])) (qAI (K := (kx E 73 8)) ⟨[(31, vc (.yl (rc Tryz.f61 506 ri) ri.b [3, 5, 6, 7] [.bptr 1 0 0, .bptr 2 0 0, .bptr 4 0 0, .bptr 5 0 0])), (32, vi x8), (33, va [ci ((((l7.getD ((w64 (((l7.length : Nat) : Int) - 1)).toNat) default).rect).X).A), ci ((((l7.getD ((w64 (((l7.length : Nat) : Int) - 1)).toNat) default).rect).X).B), ci ((((l7.getD ((w64 (((l7.length : Nat) : Int) - 1)).toNat) default).rect).Y).A), ci ((((l7.getD ((w64 (((l7.length : Nat) : Int) - 1)).toNat) default).rect).Y).B), ci ((l7.getD ((w64 (((l7.length : Nat) : Int) - 1)).toNat) default).level)])], [(0, lq (rc Tryz.f61 506 ri) ri.b), (1, bx 31 (qG a1)), (2, bx 118 [.fn 98 [.bptr 3 0 0]]), (3, bx 24 [tl qA default a2]), (4, bx 41 [ci x9]), (5, bx 3 [ci x10])]⟩ (opAt (rg Tryz.f102 3660) 3) [(0, 0), (1, 0), (2, 0), (3, 0), (4, 0), (5, 0)] [0, 0, 0, 0, 0, 0] 4 0 o0 rfl (FO x8 (l7.getD ((w64 (((l7.length : Nat) : Int) - 1)).toNat) default) a1 a2 x9 x10 ri v14 h15) (.inl rfl) (by kernel_rfl)), qf 5 b16] [.lpn 0 .ready none] (o1 (qH6 (js := [.ret]) b16)) 10 [] [(42, vb (decide (x8 ≥ ((a5.Nodes.length : Nat) : Int))))] [4, 5] [(4, bx 41 [ci v14.2.1]), (5, bx 3 [ci v14.2.2])] ?_
     refine q_cn (decide (x8 ≥ ((a5.Nodes.length : Nat) : Int))) (fun b17 => ?_) (fun b17 => ?_)
     ·replace hm := qC b17 hm
      obtain rfl := Option.some.inj hm
      refine q_rt ?_
      refine qY (0, v14.2.1, v14.2.2) ?_
      exact q_rm
     ·replace hm := qB b17 hm
      refine q_sk ?_
      refine q_sq ?_
      obtain ⟨g18, hm⟩ := qL hm
      refine q_vu [qd 3 (Dir.none) (inb_of g18)] 10 [42] [(7, vp 10 0)] [] [(10, bx 65 [ci ((a5.Nodes.getD x8.toNat default).Kind), ci ((a5.Nodes.getD x8.toNat default).At)])] ?_
      refine q_sq ?_
      obtain ⟨v19, h20, hm⟩ := qD hm
      refine q_vu [qc 2 [49] 11 (ZQ ((a5.Nodes.getD x8.toNat default).Kind) v19 h20)] 11 [] [(50, vb v19)] [] [] ?_
      refine q_cn v19 (fun b21 => ?_) (fun b21 => ?_)
      ·replace hm := qC b21 hm
       refine q_sq ?_
       obtain ⟨v22, h23, hm⟩ := qD hm
       refine q_vu [qc 4 [53, 54, 55] 11 (YT ((l7.getD ((w64 (((l7.length : Nat) : Int) - 1)).toNat) default).rect) (a5.Nodes.getD x8.toNat default) a6 v22 h23)] 11 [7, 50] [(8, vp 11 0), (10, vp 13 0)] [10] [(11, bx 28 (qE v22.1)), (13, bx 28 (qE v22.2.2))] ?_
       obtain ⟨g24, hm⟩ := qL hm
       refine q_vu [qd 11 (drw 14 0 (rf e_Pattern_place ([(Pattern_place.mk v22.2.2 (w64 (((l7.getD ((w64 (((l7.length : Nat) : Int) - 1)).toNat) default).level) + 1))), (Pattern_place.mk v22.1 (w64 (((l7.getD ((w64 (((l7.length : Nat) : Int) - 1)).toNat) default).level) + 1)))] : List Pattern_place))) (litP e_Pattern_place default 5 (fun _ => rfl) ([(Pattern_place.mk v22.2.2 (w64 (((l7.getD ((w64 (((l7.length : Nat) : Int) - 1)).toNat) default).level) + 1))), (Pattern_place.mk v22.1 (w64 (((l7.getD ((w64 (((l7.length : Nat) : Int) - 1)).toNat) default).level) + 1)))] : List Pattern_place) 2 rfl), qd 12 (drw 8 1 (rf e_Pattern_place ((l7.take ((w64 (((l7.length : Nat) : Int) - 1)).toNat)) ++ ([(Pattern_place.mk v22.2.2 (w64 (((l7.getD ((w64 (((l7.length : Nat) : Int) - 1)).toNat) default).level) + 1))), (Pattern_place.mk v22.1 (w64 (((l7.getD ((w64 (((l7.length : Nat) : Int) - 1)).toNat) default).level) + 1)))] : List Pattern_place)))) (apP e_Pattern_place default (l7.take ((w64 (((l7.length : Nat) : Int) - 1)).toNat)) ([(Pattern_place.mk v22.2.2 (w64 (((l7.getD ((w64 (((l7.length : Nat) : Int) - 1)).toNat) default).level) + 1))), (Pattern_place.mk v22.1 (w64 (((l7.getD ((w64 (((l7.length : Nat) : Int) - 1)).toNat) default).level) + 1)))] : List Pattern_place) ((w64 (((l7.length : Nat) : Int) - 1)).toNat) 2 5 40 (2 ≤ 2) (Nat.le_refl _) (JE rfl (show (w64 (((l7.length : Nat) : Int) - 1)).toNat ≤ l7.length by have := (slOk_of g13); omega)) rfl (fun _ => rfl) (wL g24))] 14 [4, 6, 8, 10] [(4, vo 8 1 5 ((w64 (((l7.length : Nat) : Int) - 1)).toNat + 2))] [8, 9, 11, 13] [(8, ro 1 123 5 ((w64 (((l7.length : Nat) : Int) - 1)).toNat + 2) (rf e_Pattern_place ((l7.take ((w64 (((l7.length : Nat) : Int) - 1)).toNat)) ++ ([(Pattern_place.mk v22.2.2 (w64 (((l7.getD ((w64 (((l7.length : Nat) : Int) - 1)).toNat) default).level) + 1))), (Pattern_place.mk v22.1 (w64 (((l7.getD ((w64 (((l7.length : Nat) : Int) - 1)).toNat) default).level) + 1)))] : List Pattern_place))))] ?_
       exact q_J (((l7.take ((w64 (((l7.length : Nat) : Int) - 1)).toNat)) ++ ([(Pattern_place.mk v22.2.2 (w64 (((l7.getD ((w64 (((l7.length : Nat) : Int) - 1)).toNat) default).level) + 1))), (Pattern_place.mk v22.1 (w64 (((l7.getD ((w64 (((l7.length : Nat) : Int) - 1)).toNat) default).level) + 1)))] : List Pattern_place)), ((w64 (((l7.length : Nat) : Int) - 1)).toNat + 2), v14.2.2, v14.2.1) ⟨(len_app (JE rfl (show (w64 (((l7.length : Nat) : Int) - 1)).toNat ≤ l7.length by have := (slOk_of g13); omega)) rfl), hm⟩
      ·replace hm := qB b21 hm
       refine q_sk ?_
       exact q_J ((l7.take ((w64 (((l7.length : Nat) : Int) - 1)).toNat)), (w64 (((l7.length : Nat) : Int) - 1)).toNat, v14.2.2, v14.2.1) ⟨(JE rfl (show (w64 (((l7.length : Nat) : Int) - 1)).toNat ≤ l7.length by have := (slOk_of g13); omega)), hm⟩
  ·replace hm := qB b11 hm
   refine q_ex 0 ?_
   obtain rfl := Option.some.inj hm
   exact wJ (x10, x9) (by kernel_rfl) (by kernel_rfl)
theorem qEg (a1 : Pattern) (a2 : List Product) (a3 : Int) (a4 : Int) (a5 : Pattern) (a6 : Int) (ri : RI 67) (r : Nat × Int × Int) (hm : YO a1 a2 a3 a4 a5 a6 = some r) : CtX Tryz.prog globs 102 8 8 [.one (.yl (rc Tryz.f61 506 ri) ri.b [3, 5, 6, 7] [.bptr 1 0 0, .bptr 2 0 0, .bptr 4 0 0, .bptr 5 0 0]), .one (.bptr 6 0 0), .one (.bptr 7 0 0)] [(0, lq (rc Tryz.f61 506 ri) ri.b), (1, bx 31 (qG a1)), (2, bx 118 [.fn 98 [.bptr 3 0 0]]), (3, bx 24 [tl qA default a2]), (4, bx 41 [ci a3]), (5, bx 3 [ci a4]), (6, bx 31 (qG a5)), (7, bx 3 [ci a6])] (DK a1 a2 a3 a4 a5 a6 ri r) (BF a1 a2 a3 a4 a5 a6 ri r) := by
 unfold YO at hm
 refine q_E Tryz.f102 73 fun E => ?_
 refine q_sq ?_
 refine q_vn [qd 3 (drw 8 0 (rf e_Pattern_place ([(Pattern_place.mk a5.Frame 1)] : List Pattern_place))) (litP e_Pattern_place default 5 (fun _ => rfl) ([(Pattern_place.mk a5.Frame 1)] : List Pattern_place) 1 rfl)] 8 ⟨[(0, vc (.yl (rc Tryz.f61 506 ri) ri.b [3, 5, 6, 7] [.bptr 1 0 0, .bptr 2 0 0, .bptr 4 0 0, .bptr 5 0 0])), (1, vp 6 0), (2, vp 7 0), (4, vo 8 0 5 1)], [(0, lq (rc Tryz.f61 506 ri) ri.b), (1, bx 31 (qG a1)), (2, bx 118 [.fn 98 [.bptr 3 0 0]]), (3, bx 24 [tl qA default a2]), (4, bx 41 [ci a3]), (5, bx 3 [ci a4]), (6, bx 31 (qG a5)), (7, bx 3 [ci a6]), (8, ro 0 123 5 1 (rf e_Pattern_place ([(Pattern_place.mk a5.Frame 1)] : List Pattern_place)))]⟩ ?_
 refine q_sq ?_
 refine q_vu [] 9 [] [(5, vi 0)] [] [] ?_
 obtain ⟨u32, h31, hm⟩ := qD hm
 refine zM (nd Tryz.f102 28) 0 (by kernel_rfl) FUEL (fun o => HF ri a1 a2 a5 a6 o.1 o.2) (fun v st => RetQ Tryz.prog Tryz.f102 (DK a1 a2 a3 a4 a5 a6 ri v) (BF a1 a2 a3 a4 a5 a6 ri v) .ret st) u32 (q_hl (RN ri a1 a2 a5 a6 ([(Pattern_place.mk a5.Frame 1)] : List Pattern_place) 1 0 a3 a4) (qCK E ri a1 a2 a3 a4 a5 a6 FUEL ([(Pattern_place.mk a5.Frame 1)] : List Pattern_place) 1 0 a3 a4 u32 rfl h31)) ?_ ?_
 ·rintro v33 rfl st hr
  obtain rfl := Option.some.inj hm
  exact hr
 ·rintro o30 rfl
  replace hm : _ = some r := hm
  obtain rfl := Option.some.inj hm
  exact q_rm
def qCE (a1 : Pattern) (a2 : Int) (a3 : List Product) (r : Int) : V := vi r
def qCz (a1 : Pattern) (a2 : Int) (a3 : List Product) (r : Int) : List (Nat × (Nat × O)) := [(0, bx 24 [tl qA default a3])]
def zbQ (a1 : Pattern) (a2 : Int) (a3 : List Product) (x8 : Bool) : St :=
 ⟨[(1, vi a2), (3, vp 1 0), (5, vp 2 0), (6, vp 3 0), (21, vb x8)], [(0, bx 24 [tl qA default a3]), (1, bx 31 (qG a1)), (2, bx 118 [.fn 98 [.bptr 0 0 0]]), (3, bx 41 [ci 0])]⟩
theorem qGN (a1 : Pattern) (a2 : Int) (a3 : List Product) (r : Int) (hm : LX a1 a2 a3 = some r) : CtX Tryz.prog globs 61 1 1 [.agg (qG a1), .one (ci a2), .one (.fn 98 [.bptr 0 0 0])] [(0, bx 24 [tl qA default a3])] (qCE a1 a2 a3 r) (qCz a1 a2 a3 r) := by
 unfold LX at hm
 refine q_E Tryz.f61 67 fun E => ?_
 refine q_sq ?_
 refine q_vn [] 1 ⟨[(1, vi a2), (3, vp 1 0), (5, vp 2 0), (6, vp 3 0)], [(0, bx 24 [tl qA default a3]), (1, bx 31 (qG a1)), (2, bx 118 [.fn 98 [.bptr 0 0 0]]), (3, bx 41 [ci 0])]⟩ ?_
 refine q_sq ?_
 refine q_sq ?_
 obtain ⟨v4, h5, hm⟩ := qD hm
 refine q_vu [qc 2 [13] 4 (OK a1.Frame v4 h5)] 4 [] [(15, vb (!v4))] [] [] ?_
 refine q_cn (!v4) (fun b6 => ?_) (fun b6 => ?_)
 ·replace hm := qC b6 hm
  refine q_sq ?_
  refine q_vu [] 4 [1, 3, 5, 15] [] [1, 2, 3] [(3, bx 41 [ci 19])] ?_
  obtain rfl := Option.some.inj hm
  refine q_rt ?_
  exact q_rm
 ·replace hm := qB b6 hm
  refine q_sk ?_
  refine q_sq ?_
  refine q_jn (ι := Bool) (fun p => zbQ a1 a2 a3 p) (fun p => ZO a1 a2 a3 p = some r) ?_ ?_
  ·rintro x8 hm
   show H _ (zbQ a1 a2 a3 x8) _ _
   refine q_cn x8 (fun b9 => ?_) (fun b9 => ?_)
   ·replace hm := qC b9 hm
    refine q_sq ?_
    refine q_vu [] 4 [1, 3, 5, 21] [] [1, 2, 3] [(3, bx 41 [ci 9])] ?_
    obtain rfl := Option.some.inj hm
    refine q_rt ?_
    exact q_rm
   ·replace hm := qB b9 hm
    refine q_sk ?_
    refine q_sq ?_
    refine q_sq ?_
    refine q_vu [] 4 [21] [(25, vb (decide (((a1.Nodes.length : Nat) : Int) > 127)))] [] [] ?_
    refine q_cn (decide (((a1.Nodes.length : Nat) : Int) > 127)) (fun b10 => ?_) (fun b10 => ?_)
    ·replace hm := qC b10 hm
     refine q_sq ?_
     refine q_vu [] 4 [1, 3, 5, 25] [] [1, 2, 3] [(3, bx 41 [ci 4])] ?_
     obtain rfl := Option.some.inj hm
     refine q_rt ?_
     exact q_rm
    ·replace hm := qB b10 hm
     refine q_sk ?_
     refine q_sq ?_
     refine q_vu [] 4 [25] [(7, vp 4 0)] [] [(4, bx 3 [ci 0])] ?_
     refine q_sq ?_
     refine q_sq ?_
     obtain ⟨v11, h12, hm⟩ := qD hm
     refine q_vu [qc 2 [26, 27] 5 (PF a1 a2 v11 h12)] 5 [1] [(28, vc (.fn 102 [.bptr 5 0 0, .bptr 6 0 0]))] [] [(5, bx 31 (qG v11.1)), (6, bx 3 [ci v11.2])] ?_
     refine q_bk 0 ?_
     obtain ⟨v13, h14, hm⟩ := qD hm
     refine q_rf (.tmp 28) [3, 5, 6, 7] 7 [(7, 0), (1, 0), (2, 0), (0, 0), (3, 0), (4, 0), (5, 0), (6, 0)] [0, 0, 0, 0, 0, 0, 0, 0] 0 8 [.ret] v13.1 0 ⟨[(3, vp 1 0), (6, vp 3 0), (7, vp 4 0)], [(0, bx 24 [tl qA default a3]), (1, bx 31 (qG a1)), (3, bx 41 [ci v13.2.1]), (4, bx 3 [ci v13.2.2])]⟩ (fun ri => qEg a1 a3 0 0 v11.1 v11.2 ri v13 h14) ?_
     rcases Bool.eq_false_or_eq_true (Nat.beq v13.1 0) with b15 | b15
     ·replace hm := qC b15 hm
      refine JQ_n b15 ?_
      refine q_sq ?_
      refine q_sq ?_
      refine q_vu [] 8 [3, 7] [(66, vb (decide (v13.2.2 < ((a1.Nodes.length : Nat) : Int))))] [1, 4] [] ?_
      refine q_cn (decide (v13.2.2 < ((a1.Nodes.length : Nat) : Int))) (fun b17 => ?_) (fun b17 => ?_)
      ·replace hm := qC b17 hm
       refine q_sq ?_
       refine q_vu [] 8 [66] [] [3] [(3, bx 41 [ci 4])] ?_
       obtain rfl := Option.some.inj hm
       refine q_rt ?_
       exact q_rm
      ·replace hm := qB b17 hm
       refine q_sk ?_
       refine q_sq ?_
       refine q_vu [] 8 [66] [] [3] [(3, bx 41 [ci 0])] ?_
       obtain rfl := Option.some.inj hm
       refine q_rt ?_
       exact q_rm
     ·replace hm := qB b15 hm
      rcases Bool.eq_false_or_eq_true (Nat.beq v13.1 1) with b16 | b16
      ·replace hm := qC b16 hm
       refine JQ_j 0 .ret b16 (by kernel_rfl) ?_
       obtain rfl := Option.some.inj hm
       refine q_rt ?_
       exact q_rm
      ·replace hm := qB b16 hm
       cases hm
  ·rcases Bool.eq_false_or_eq_true (decide (a2 < 0)) with b7 | b7
   ·replace hm := qC b7 hm
    refine q_vu [qf 2 b7] 4 [15] [(21, vb true)] [] [] ?_
    exact q_J (true) hm
   ·replace hm := qB b7 hm
    refine q_vu [qf 2 b7] 4 [15] [(21, vb (decide (a2 > 20)))] [] [] ?_
    exact q_J (decide (a2 > 20)) hm
set_option maxRecDepth 100000
def qHw (r : Int) : V := vi r
def qHj (r : Int) : List (Nat × (Nat × O)) := []
theorem qGl (a1 : Pattern) (a2 : List Product) (a3 : Int) (r : Int) (hm : UU a1 a2 a3 = some r) : CtX Tryz.prog globs 60 0 0 [.agg (qG a1), .one (tl qA default a2), .one (ci a3)] [] (qHw r) (qHj r) := by
 unfold UU at hm
 refine q_E Tryz.f60 11 fun E => ?_
 refine q_sq ?_
 refine q_vn [] 0 ⟨[(2, vi a3), (3, vp 0 0), (4, vp 1 0)], [(0, bx 31 (qG a1)), (1, bx 24 [tl qA default a2])]⟩ ?_
 refine q_sq ?_
 obtain ⟨v4, h5, hm⟩ := qD hm
 refine q_vn [qd 3 (dex (cen [(1, 0)] [0] 1 1 (qCE a1 a3 a2 v4) (qCz a1 a3 a2 v4) [7, 8, 9] [1])) (jI (K := (kx E 11 0)) ⟨[(7, va (qG a1)), (8, vi a3), (9, vc (.fn 98 [.bptr 1 0 0]))], [(1, bx 24 [tl qA default a2])]⟩ (opAt (rg Tryz.f60 6) 3) [(1, 0)] [0] 1 o0 rfl (qGN a1 a3 a2 v4 h5) (.inl rfl) (by kernel_rfl))] 2 ⟨[(6, vi v4)], []⟩ ?_
 obtain rfl := Option.some.inj hm
 refine q_rt ?_
 exact q_rm
open Go.Proofs
set_option maxHeartbeats 4000000
set_option maxRecDepth 100000
def qKE (r : Int) : V := vi r
def qKO (r : Int) : List (Nat × (Nat × O)) := []
theorem qDk (a1 : List Slice) (a2 : List Defect) (a3 : List Product) (a4 : Pattern) (a5 : Saw) (a6 : Rates) (r : Int) (hm : VG a1 a2 a3 a4 a5 a6 = some r) : CtX Tryz.prog globs 30 0 0 [.one (tl qI default a1), .one (tl qH default a2), .one (tl qA default a3), .agg (qG a4), .agg (wC a5), .agg (yP a6)] [] (qKE r) (qKO r) := by
 unfold VG at hm
 refine q_E Tryz.f30 43 fun E => ?_
 refine q_sq ?_
 refine q_vn [] 0 ⟨[(0, vc (tl qI default a1)), (1, vc (tl qH default a2)), (2, vc (tl qA default a3)), (9, vp 0 0), (10, vp 1 0), (11, vp 2 0)], [(0, bx 31 (qG a4)), (1, bx 33 (wC a5)), (2, bx 35 (yP a6))]⟩ ?_
 refine q_sq ?_
 refine q_sq ?_
 obtain ⟨v7, h8, hm⟩ := qD hm
 refine q_vu [qc 1 [17] 3 (YC a1 v7 h8)] 3 [0] [(13, vi v7)] [] [] ?_
 refine q_sq ?_
 refine q_vu [] 3 [] [(20, vb (v7 != 0))] [] [] ?_
 refine q_cn (v7 != 0) (fun b9 => ?_) (fun b9 => ?_)
 ·replace hm := qC b9 hm
  refine q_sq ?_
  refine q_vn [] 3 ⟨[(12, vi v7)], []⟩ ?_
  obtain rfl := Option.some.inj hm
  refine q_rt ?_
  exact q_rm
 ·replace hm := qB b9 hm
  refine q_sk ?_
  refine q_sq ?_
  refine q_sq ?_
  obtain ⟨v10, h11, hm⟩ := qD hm
  refine q_vu [qc 1 [22] 3 (GT a2 v10 h11)] 3 [1, 13, 20] [(14, vi v10)] [] [] ?_
  refine q_sq ?_
  refine q_vu [] 3 [] [(25, vb (v10 != 0))] [] [] ?_
  refine q_cn (v10 != 0) (fun b12 => ?_) (fun b12 => ?_)
  ·replace hm := qC b12 hm
   refine q_sq ?_
   refine q_vn [] 3 ⟨[(12, vi v10)], []⟩ ?_
   obtain rfl := Option.some.inj hm
   refine q_rt ?_
   exact q_rm
  ·replace hm := qB b12 hm
   refine q_sk ?_
   refine q_sq ?_
   refine q_sq ?_
   obtain ⟨v13, h14, hm⟩ := qD hm
   refine q_vu [qc 1 [27] 3 (MQ a3 v13 h14)] 3 [14, 25] [(15, vi v13)] [] [] ?_
   refine q_sq ?_
   refine q_vu [] 3 [] [(30, vb (v13 != 0))] [] [] ?_
   refine q_cn (v13 != 0) (fun b15 => ?_) (fun b15 => ?_)
   ·replace hm := qC b15 hm
    refine q_sq ?_
    refine q_vn [] 3 ⟨[(12, vi v13)], []⟩ ?_
    obtain rfl := Option.some.inj hm
    refine q_rt ?_
    exact q_rm
   ·replace hm := qB b15 hm
    refine q_sk ?_
    refine q_sq ?_
    refine q_sq ?_
    obtain ⟨v16, h17, hm⟩ := qD hm
    refine q_vu [qc 2 [32, 33] 3 (qIF a5 a6 v16 h17)] 3 [11, 15, 30] [(16, vi v16)] [2] [] ?_
    refine q_sq ?_
    refine q_vu [] 3 [] [(36, vb (v16 != 0))] [] [] ?_
    refine q_cn (v16 != 0) (fun b18 => ?_) (fun b18 => ?_)
    ·replace hm := qC b18 hm
     refine q_sq ?_
     refine q_vn [] 3 ⟨[(12, vi v16)], []⟩ ?_
     obtain rfl := Option.some.inj hm
     refine q_rt ?_
     exact q_rm
    ·replace hm := qB b18 hm
     refine q_sk ?_
     refine q_sq ?_
     obtain ⟨v19, h20, hm⟩ := qD hm
     refine q_vn [qc 4 [38, 39, 41] 3 (qGl a4 a3 a5.Kerf v19 h20)] 3 ⟨[(12, vi v19)], []⟩ ?_
     obtain rfl := Option.some.inj hm
     refine q_rt ?_
     exact q_rm
def qEv (r : Int) : V := vi r
def qEm (r : Int) : List (Nat × (Nat × O)) := []
def HA (x4 : Bool) : St :=
 ⟨[(10, vb x4)], []⟩
theorem qEb (a1 : Rect) (a2 : Int) (r : Int) (hm : YR a1 a2 = some r) : CtX Tryz.prog globs 62 0 0 [.agg (qE a1), .one (ci a2)] [] (qEv r) (qEm r) := by
 unfold YR at hm
 refine q_E Tryz.f62 11 fun E => ?_
 refine q_sq ?_
 refine q_vn [] 0 ⟨[(1, vi a2)], []⟩ ?_
 refine q_sq ?_
 refine q_jn (ι := Bool) (fun p => HA p) (fun p => YX p = some r) ?_ ?_
 ·rintro x4 hm
  show H _ (HA x4) _ _
  refine q_cn x4 (fun b5 => ?_) (fun b5 => ?_)
  ·replace hm := qC b5 hm
   refine q_sq ?_
   refine q_vn [] 1 ⟨[(4, vi 8)], []⟩ ?_
   obtain rfl := Option.some.inj hm
   refine q_rt ?_
   exact q_rm
  ·replace hm := qB b5 hm
   refine q_sk ?_
   refine q_sq ?_
   refine q_vn [] 1 ⟨[(4, vi 0)], []⟩ ?_
   obtain rfl := Option.some.inj hm
   refine q_rt ?_
   exact q_rm
 ·rcases Bool.eq_false_or_eq_true (decide (a2 < 0)) with b3 | b3
  ·replace hm := qC b3 hm
   refine q_vn [qf 2 b3] 1 ⟨[(10, vb true)], []⟩ ?_
   exact q_J (true) hm
  ·replace hm := qB b3 hm
   refine q_vn [qf 2 b3] 1 ⟨[(10, vb (decide (a2 ≥ 16)))], []⟩ ?_
   exact q_J (decide (a2 ≥ 16)) hm
set_option maxRecDepth 100000
noncomputable def YW (a1 : Int) (a2 : Pattern_place) (a3 : Pattern) (a4 : Int) (a5 : Int) (ri : RI 67) (r : Nat × Int × Int) : V := vb (Nat.beq r.1 0)
noncomputable def YK (a1 : Int) (a2 : Pattern_place) (a3 : Pattern) (a4 : Int) (a5 : Int) (ri : RI 67) (r : Nat × Int × Int) : List (Nat × (Nat × O)) := [(0, lz (rc Tryz.f61 506 ri) ri.b [.ret] r.1), (1, bx 31 (qG a3)), (2, bx 118 [.fn 62 []]), (3, bx 41 [ci r.2.1]), (4, bx 3 [ci r.2.2])]
noncomputable def RY (ri : RI 67) (a1 : Int) (a3 : Pattern) (a4 : Int) (a5 : Int) (x15 : Int) : St :=
 ⟨[(6, vp 3 0), (7, vp 4 0), (8, vi a1), (11, vi x15)], [(0, ly (rc Tryz.f61 506 ri) ri.b), (1, bx 31 (qG a3)), (2, bx 118 [.fn 62 []]), (3, bx 41 [ci a4]), (4, bx 3 [ci a5])]⟩
noncomputable def TA (ri : RI 67) (a1 : Int) (a2 : Pattern_place) (a3 : Pattern) (a4 : Int) (a5 : Int) (v8 : Int) (x11 : Bool) : St :=
 ⟨[(5, vp 2 0), (6, vp 3 0), (7, vp 4 0), (8, vi a1), (9, vp 5 0), (10, vp 6 0), (11, vi v8), (50, vb x11)], [(0, ly (rc Tryz.f61 506 ri) ri.b), (1, bx 31 (qG a3)), (2, bx 118 [.fn 62 []]), (3, bx 41 [ci a4]), (4, bx 3 [ci a5]), (5, bx 123 (e_Pattern_place a2)), (6, bx 65 [ci ((a3.Nodes.getD a1.toNat default).Kind), ci ((a3.Nodes.getD a1.toNat default).At)])]⟩
theorem GH (a1 : Int) (a2 : Pattern_place) (a3 : Pattern) (a4 : Int) (a5 : Int) (ri : RI 67) (r : Nat × Int × Int) (hm : wF a1 a2 a3 a4 a5 = some r) : CtR Tryz.prog globs (rc Tryz.f61 506 ri) ri.b [3, 5, 6, 7] 5 5 [.one (ci a1), .agg (e_Pattern_place a2), .one (.bptr 1 0 0), .one (.bptr 2 0 0), .one (.bptr 3 0 0), .one (.bptr 4 0 0)] [(0, lq (rc Tryz.f61 506 ri) ri.b), (1, bx 31 (qG a3)), (2, bx 118 [.fn 62 []]), (3, bx 41 [ci a4]), (4, bx 3 [ci a5])] (YW a1 a2 a3 a4 a5 ri r) (YK a1 a2 a3 a4 a5 ri r) := by
 unfold wF at hm
 refine q_R Tryz.f61 506 67 ri fun E => ?_
 refine q_sq ?_
 refine q_vn [] 5 ⟨[(3, vp 1 0), (5, vp 2 0), (6, vp 3 0), (7, vp 4 0), (8, vi a1), (30, va (e_Pattern_place a2))], [(0, lq (rc Tryz.f61 506 ri) ri.b), (1, bx 31 (qG a3)), (2, bx 118 [.fn 62 []]), (3, bx 41 [ci a4]), (4, bx 3 [ci a5])]⟩ ?_
 refine q_vu [] 5 [30] [(9, vp 5 0)] [] [(5, bx 123 (e_Pattern_place a2))] ?_
 refine q_rd ⟨[(3, vp 1 0), (5, vp 2 0), (6, vp 3 0), (7, vp 4 0), (8, vi a1), (9, vp 5 0)], [(0, ly (rc Tryz.f61 506 ri) ri.b), (1, bx 31 (qG a3)), (2, bx 118 [.fn 62 []]), (3, bx 41 [ci a4]), (4, bx 3 [ci a5]), (5, bx 123 (e_Pattern_place a2))]⟩ ?_
 refine q_bk 1 ?_
 refine q_sq ?_
 refine q_sq ?_
 refine q_vu [] 6 [] [(35, vb (decide (a1 ≥ ((a3.Nodes.length : Nat) : Int))))] [] [] ?_
 refine q_cn (decide (a1 ≥ ((a3.Nodes.length : Nat) : Int))) (fun b6 => ?_) (fun b6 => ?_)
 ·replace hm := qC b6 hm
  refine q_sq ?_
  refine q_vu [] 6 [3, 5, 6, 7, 8, 9, 35] [] [3, 5] [(3, bx 41 [ci 3])] ?_
  obtain rfl := Option.some.inj hm
  refine q_rt ?_
  exact q_rq
 ·replace hm := qB b6 hm
  refine q_sk ?_
  refine q_sq ?_
  obtain ⟨g7, hm⟩ := qL hm
  refine q_vu [qd 3 (Dir.none) (inb_of g7)] 6 [3, 35] [(10, vp 6 0)] [] [(6, bx 65 [ci ((a3.Nodes.getD a1.toNat default).Kind), ci ((a3.Nodes.getD a1.toNat default).At)])] ?_
  refine q_sq ?_
  obtain ⟨v8, h9, hm⟩ := qD hm
  refine q_vu [qc 2 [41, 42] 7 (SO (a3.Nodes.getD a1.toNat default) a2 v8 h9)] 7 [] [(11, vi v8)] [] [] ?_
  refine q_jn (ι := Int) (fun p => RY ri a1 a3 a4 a5 p) (fun p => QG a1 a4 a5 p = some r) ?_ ?_
  ·rintro x15 hm
   show H _ (RY ri a1 a3 a4 a5 x15) _ _
   refine q_sq ?_
   refine q_sq ?_
   refine q_vu [] 7 [] [(58, vb (x15 != 0))] [] [] ?_
   refine q_cn (x15 != 0) (fun b16 => ?_) (fun b16 => ?_)
   ·replace hm := qC b16 hm
    refine q_sq ?_
    refine q_vu [] 7 [6, 7, 8, 11, 58] [] [3] [(3, bx 41 [ci x15])] ?_
    obtain rfl := Option.some.inj hm
    refine q_rt ?_
    exact q_rq
   ·replace hm := qB b16 hm
    refine q_sk ?_
    refine q_vu [] 7 [6, 7, 8, 11, 58] [] [4] [(4, bx 3 [ci (w64 (a1 + 1))])] ?_
    obtain rfl := Option.some.inj hm
    exact q_rq
  ·refine q_jn (ι := Bool) (fun p => TA ri a1 a2 a3 a4 a5 v8 p) (fun p => QH a1 a2 a3 a4 a5 v8 p = some r) ?_ ?_
   ·rintro x11 hm
    show H _ (TA ri a1 a2 a3 a4 a5 v8 x11) _ _
    refine q_cn x11 (fun b12 => ?_) (fun b12 => ?_)
    ·replace hm := qC b12 hm
     obtain ⟨v13, h14, hm⟩ := qD hm
     refine q_vu [qk 5 [51, 53, 55] 7 ⟨[(51, vc (.fn 62 [])), (53, va (qE a2.rect)), (55, vi ((a3.Nodes.getD a1.toNat default).At))], []⟩ (qEb a2.rect ((a3.Nodes.getD a1.toNat default).At) v13 h14)] 7 [5, 9, 10, 11, 50] [(11, vi v13)] [5, 6] [] ?_
     exact q_J (v13) hm
    ·replace hm := qB b12 hm
     refine q_sk ?_
     exact q_J (v8) hm
   ·rcases Bool.eq_false_or_eq_true (v8 == 0) with b10 | b10
    ·replace hm := qC b10 hm
     refine q_vu [qf 2 b10] 7 [] [(50, vb (((a3.Nodes.getD a1.toNat default).Kind) == 1))] [] [] ?_
     exact q_J (((a3.Nodes.getD a1.toNat default).Kind) == 1) hm
    ·replace hm := qB b10 hm
     refine q_vu [qf 2 b10] 7 [] [(50, vb false)] [] [] ?_
     exact q_J (false) hm
open Go.Proofs
set_option maxHeartbeats 4000000
set_option maxRecDepth 100000
noncomputable def RJ (a1 : Pattern) (a2 : Int) (a3 : Int) (a4 : Pattern) (a5 : Int) (ri : RI 67) (r : Nat × Int × Int) : V := .undef
noncomputable def PP (a1 : Pattern) (a2 : Int) (a3 : Int) (a4 : Pattern) (a5 : Int) (ri : RI 67) (r : Nat × Int × Int) : List (Nat × (Nat × O)) := [(0, lz (rc Tryz.f61 506 ri) ri.b [.ret] r.1), (1, bx 31 (qG a1)), (2, bx 118 [.fn 62 []]), (3, bx 41 [ci r.2.1]), (4, bx 3 [ci r.2.2]), (5, bx 31 (qG a4)), (6, bx 3 [ci a5])]
noncomputable def BG (ri : RI 67) (a1 : Pattern) (a4 : Pattern) (a5 : Int) (x7 : Int) (l24 : List Pattern_place) (l24n : Nat) (x25 : Int) (x26 : Int) : St :=
 ⟨[(0, vc (.yl (rc Tryz.f61 506 ri) ri.b [3, 5, 6, 7] [.bptr 1 0 0, .bptr 2 0 0, .bptr 3 0 0, .bptr 4 0 0])), (1, vp 5 0), (2, vp 6 0), (4, vo 7 0 5 l24n), (5, vi x7)], [(0, lq (rc Tryz.f61 506 ri) ri.b), (1, bx 31 (qG a1)), (2, bx 118 [.fn 62 []]), (3, bx 41 [ci x26]), (4, bx 3 [ci x25]), (5, bx 31 (qG a4)), (6, bx 3 [ci a5]), (7, ro 0 123 5 l24n (rf e_Pattern_place l24))]⟩
noncomputable def YP (ri : RI 67) (a1 : Pattern) (a4 : Pattern) (a5 : Int) (l6 : List Pattern_place) (l6n : Nat) (x7 : Int) (x8 : Int) (x9 : Int) : St :=
 ⟨[(0, vc (.yl (rc Tryz.f61 506 ri) ri.b [3, 5, 6, 7] [.bptr 1 0 0, .bptr 2 0 0, .bptr 3 0 0, .bptr 4 0 0])), (1, vp 5 0), (2, vp 6 0), (4, vo 7 0 5 l6n), (5, vi x7)], [(0, lq (rc Tryz.f61 506 ri) ri.b), (1, bx 31 (qG a1)), (2, bx 118 [.fn 62 []]), (3, bx 41 [ci x8]), (4, bx 3 [ci x9]), (5, bx 31 (qG a4)), (6, bx 3 [ci a5]), (7, ro 0 123 5 l6n (rf e_Pattern_place l6))]⟩
noncomputable def GY (ri : RI 67) (a1 : Pattern) (a4 : Pattern) (a5 : Int) (x27 : Int) (x28 : Int) : St :=
 ⟨[], [(0, lq (rc Tryz.f61 506 ri) ri.b), (1, bx 31 (qG a1)), (2, bx 118 [.fn 62 []]), (3, bx 41 [ci x28]), (4, bx 3 [ci x27]), (5, bx 31 (qG a4)), (6, bx 3 [ci a5])]⟩
theorem qAH (E : Env 7) (ri : RI 67) (a1 : Pattern) (a2 : Int) (a3 : Int) (a4 : Pattern) (a5 : Int) : ∀ (n : Nat) (l6 : List Pattern_place) (l6n : Nat) (x7 : Int) (x8 : Int) (x9 : Int) (res : (Nat × Int × Int) ⊕ (Int × Int)), l6.length = l6n → wG a1 a4 a5 n l6 x7 x8 x9 = some res → HL (kx E 73 7) (nd Tryz.f102 28) (wI 0 (fun o => GY ri a1 a4 a5 o.1 o.2) (fun v st => RetQ Tryz.prog Tryz.f102 (RJ a1 a2 a3 a4 a5 ri v) (PP a1 a2 a3 a4 a5 ri v) .ret st) res) n (YP ri a1 a4 a5 l6 l6n x7 x8 x9) := by
 intro n
 induction n with
 | zero =>
  intro l6 l6n x7 x8 x9 res hl0 hm
  cases hm
 | succ n ih =>
  intro l6 l6n x7 x8 x9 res hl0 hm
  subst hl0
  refine qR ?_
  refine q_sq ?_
  refine q_sq ?_
  refine q_vu [] 8 [] [(17, vb (decide (((l6.length : Nat) : Int) > 0)))] [] [] ?_
  refine q_cn (decide (((l6.length : Nat) : Int) > 0)) (fun b10 => ?_) (fun b10 => ?_)
  ·replace hm := qC b10 hm
   refine q_sk ?_
   refine q_jn (ι := (List Pattern_place) × Nat × Int × Int) (fun p => BG ri a1 a4 a5 x7 p.1 p.2.1 p.2.2.1 p.2.2.2) (fun p => p.1.length = p.2.1 ∧ WD x7 (wG a1 a4 a5 n) p.1 p.2.2.1 p.2.2.2 = some res) ?_ ?_
   ·rintro ⟨l24, l24n, x25, x26⟩ ⟨el24, hm⟩
    replace el24 : l24.length = l24n := el24
    subst el24
    show H _ (BG ri a1 a4 a5 x7 l24 l24.length x25 x26) _ _
    refine q_vu [] 14 [5] [(5, vi (w64 (x7 + 1)))] [] [] ?_
    exact q_hl (YP ri a1 a4 a5 l24 l24.length (w64 (x7 + 1)) x26 x25) (ih l24 l24.length (w64 (x7 + 1)) x26 x25 _ rfl hm)
   ·refine q_bk 1 ?_
    refine q_sq ?_
    obtain ⟨g11, hm⟩ := qL hm
    refine q_vu [qd 4 (Dir.none) (inb_of g11), qd 5 (Dir.none) (toNat_lt (inb_of g11))] 8 [17] [(6, vp 8 0)] [] [(8, bx 123 [ci ((((l6.getD ((w64 (((l6.length : Nat) : Int) - 1)).toNat) default).rect).X).A), ci ((((l6.getD ((w64 (((l6.length : Nat) : Int) - 1)).toNat) default).rect).X).B), ci ((((l6.getD ((w64 (((l6.length : Nat) : Int) - 1)).toNat) default).rect).Y).A), ci ((((l6.getD ((w64 (((l6.length : Nat) : Int) - 1)).toNat) default).rect).Y).B), ci ((l6.getD ((w64 (((l6.length : Nat) : Int) - 1)).toNat) default).level)])] ?_
    refine q_sq ?_
    obtain ⟨g12, hm⟩ := qL hm
    refine q_wu [qd 4 (Dir.none) (And.intro (slOk_of g12).2.1 (slOk_of g12).2.2)] [.row 7 ((w64 (((l6.length : Nat) : Int) - 1)).toNat) (rf e_Pattern_place (l6.take ((w64 (((l6.length : Nat) : Int) - 1)).toNat)))] (o1 (tkP e_Pattern_place default l6 l6.length ((w64 (((l6.length : Nat) : Int) - 1)).toNat) (show (w64 (((l6.length : Nat) : Int) - 1)).toNat ≤ l6.length by have := (slOk_of g12); omega))) 9 [4] [(4, vo 7 0 5 ((w64 (((l6.length : Nat) : Int) - 1)).toNat))] [7] [(7, ro 0 123 5 ((w64 (((l6.length : Nat) : Int) - 1)).toNat) (rf e_Pattern_place (l6.take ((w64 (((l6.length : Nat) : Int) - 1)).toNat))))] ?_
    refine q_sq ?_
    refine q_sq ?_
    obtain ⟨v13, h14, hm⟩ := qD hm
    rcases Bool.eq_false_or_eq_true (!(Nat.beq v13.1 0)) with b15 | b15
    ·replace hm := qC b15 hm
     refine q_vu [qd 3 (dex (cen [(0, 0), (1, 0), (2, 0), (3, 0), (4, 0)] [0, 0, 0, 0, 0] 4 5 (YW x7 (l6.getD ((w64 (((l6.length : Nat) : Int) - 1)).toNat) default) a1 x8 x9 ri v13) (YK x7 (l6.getD ((w64 (((l6.length : Nat) : Int) - 1)).toNat) default) a1 x8 x9 ri v13) [31, 32, 33] [0, 1, 2, 3, 4])) (qAI (K := (kx E 73 7)) ⟨[(31, vc (.yl (rc Tryz.f61 506 ri) ri.b [3, 5, 6, 7] [.bptr 1 0 0, .bptr 2 0 0, .bptr 3 0 0, .bptr 4 0 0])), (32, vi x7), (33, va [ci ((((l6.getD ((w64 (((l6.length : Nat) : Int) - 1)).toNat) default).rect).X).A), ci ((((l6.getD ((w64 (((l6.length : Nat) : Int) - 1)).toNat) default).rect).X).B), ci ((((l6.getD ((w64 (((l6.length : Nat) : Int) - 1)).toNat) default).rect).Y).A), ci ((((l6.getD ((w64 (((l6.length : Nat) : Int) - 1)).toNat) default).rect).Y).B), ci ((l6.getD ((w64 (((l6.length : Nat) : Int) - 1)).toNat) default).level)])], [(0, lq (rc Tryz.f61 506 ri) ri.b), (1, bx 31 (qG a1)), (2, bx 118 [.fn 62 []]), (3, bx 41 [ci x8]), (4, bx 3 [ci x9])]⟩ (opAt (rg Tryz.f102 3660) 3) [(0, 0), (1, 0), (2, 0), (3, 0), (4, 0)] [0, 0, 0, 0, 0] 4 0 o0 rfl (GH x7 (l6.getD ((w64 (((l6.length : Nat) : Int) - 1)).toNat) default) a1 x8 x9 ri v13 h14) (.inl rfl) (by kernel_rfl)), qf 5 b15] 9 [] [(42, vb true)] [0, 3, 4] [(0, lz (rc Tryz.f61 506 ri) ri.b [.ret] v13.1), (3, bx 41 [ci v13.2.1]), (4, bx 3 [ci v13.2.2])] ?_
     refine qLh Tryz.f102 (.tmp 42) 7322 7323 (by kernel_rfl) (by kernel_rfl) ?_
     obtain rfl := Option.some.inj hm
     refine q_rt ?_
     refine qY (v13.1, v13.2.1, v13.2.2) ?_
     exact q_rm
    ·replace hm := qB b15 hm
     refine q_wu [qd 3 (dex (cen [(0, 0), (1, 0), (2, 0), (3, 0), (4, 0)] [0, 0, 0, 0, 0] 4 5 (YW x7 (l6.getD ((w64 (((l6.length : Nat) : Int) - 1)).toNat) default) a1 x8 x9 ri v13) (YK x7 (l6.getD ((w64 (((l6.length : Nat) : Int) - 1)).toNat) default) a1 x8 x9 ri v13) [31, 32, 33] [0, 1, 2, 3, 4])) (qAI (K := (kx E 73 7)) ⟨[(31, vc (.yl (rc Tryz.f61 506 ri) ri.b [3, 5, 6, 7] [.bptr 1 0 0, .bptr 2 0 0, .bptr 3 0 0, .bptr 4 0 0])), (32, vi x7), (33, va [ci ((((l6.getD ((w64 (((l6.length : Nat) : Int) - 1)).toNat) default).rect).X).A), ci ((((l6.getD ((w64 (((l6.length : Nat) : Int) - 1)).toNat) default).rect).X).B), ci ((((l6.getD ((w64 (((l6.length : Nat) : Int) - 1)).toNat) default).rect).Y).A), ci ((((l6.getD ((w64 (((l6.length : Nat) : Int) - 1)).toNat) default).rect).Y).B), ci ((l6.getD ((w64 (((l6.length : Nat) : Int) - 1)).toNat) default).level)])], [(0, lq (rc Tryz.f61 506 ri) ri.b), (1, bx 31 (qG a1)), (2, bx 118 [.fn 62 []]), (3, bx 41 [ci x8]), (4, bx 3 [ci x9])]⟩ (opAt (rg Tryz.f102 3660) 3) [(0, 0), (1, 0), (2, 0), (3, 0), (4, 0)] [0, 0, 0, 0, 0] 4 0 o0 rfl (GH x7 (l6.getD ((w64 (((l6.length : Nat) : Int) - 1)).toNat) default) a1 x8 x9 ri v13 h14) (.inl rfl) (by kernel_rfl)), qf 5 b15] [.lpn 0 .ready none] (o1 (qH6 (js := [.ret]) b15)) 9 [] [(42, vb (decide (x7 ≥ ((a4.Nodes.length : Nat) : Int))))] [3, 4] [(3, bx 41 [ci v13.2.1]), (4, bx 3 [ci v13.2.2])] ?_
     refine q_cn (decide (x7 ≥ ((a4.Nodes.length : Nat) : Int))) (fun b16 => ?_) (fun b16 => ?_)
     ·replace hm := qC b16 hm
      obtain rfl := Option.some.inj hm
      refine q_rt ?_
      refine qY (0, v13.2.1, v13.2.2) ?_
      exact q_rm
     ·replace hm := qB b16 hm
      refine q_sk ?_
      refine q_sq ?_
      obtain ⟨g17, hm⟩ := qL hm
      refine q_vu [qd 3 (Dir.none) (inb_of g17)] 9 [42] [(7, vp 9 0)] [] [(9, bx 65 [ci ((a4.Nodes.getD x7.toNat default).Kind), ci ((a4.Nodes.getD x7.toNat default).At)])] ?_
      refine q_sq ?_
      obtain ⟨v18, h19, hm⟩ := qD hm
      refine q_vu [qc 2 [49] 10 (ZQ ((a4.Nodes.getD x7.toNat default).Kind) v18 h19)] 10 [] [(50, vb v18)] [] [] ?_
      refine q_cn v18 (fun b20 => ?_) (fun b20 => ?_)
      ·replace hm := qC b20 hm
       refine q_sq ?_
       obtain ⟨v21, h22, hm⟩ := qD hm
       refine q_vu [qc 4 [53, 54, 55] 10 (YT ((l6.getD ((w64 (((l6.length : Nat) : Int) - 1)).toNat) default).rect) (a4.Nodes.getD x7.toNat default) a5 v21 h22)] 10 [7, 50] [(8, vp 10 0), (10, vp 12 0)] [9] [(10, bx 28 (qE v21.1)), (12, bx 28 (qE v21.2.2))] ?_
       obtain ⟨g23, hm⟩ := qL hm
       refine q_vu [qd 11 (drw 13 0 (rf e_Pattern_place ([(Pattern_place.mk v21.2.2 (w64 (((l6.getD ((w64 (((l6.length : Nat) : Int) - 1)).toNat) default).level) + 1))), (Pattern_place.mk v21.1 (w64 (((l6.getD ((w64 (((l6.length : Nat) : Int) - 1)).toNat) default).level) + 1)))] : List Pattern_place))) (litP e_Pattern_place default 5 (fun _ => rfl) ([(Pattern_place.mk v21.2.2 (w64 (((l6.getD ((w64 (((l6.length : Nat) : Int) - 1)).toNat) default).level) + 1))), (Pattern_place.mk v21.1 (w64 (((l6.getD ((w64 (((l6.length : Nat) : Int) - 1)).toNat) default).level) + 1)))] : List Pattern_place) 2 rfl), qd 12 (drw 7 1 (rf e_Pattern_place ((l6.take ((w64 (((l6.length : Nat) : Int) - 1)).toNat)) ++ ([(Pattern_place.mk v21.2.2 (w64 (((l6.getD ((w64 (((l6.length : Nat) : Int) - 1)).toNat) default).level) + 1))), (Pattern_place.mk v21.1 (w64 (((l6.getD ((w64 (((l6.length : Nat) : Int) - 1)).toNat) default).level) + 1)))] : List Pattern_place)))) (apP e_Pattern_place default (l6.take ((w64 (((l6.length : Nat) : Int) - 1)).toNat)) ([(Pattern_place.mk v21.2.2 (w64 (((l6.getD ((w64 (((l6.length : Nat) : Int) - 1)).toNat) default).level) + 1))), (Pattern_place.mk v21.1 (w64 (((l6.getD ((w64 (((l6.length : Nat) : Int) - 1)).toNat) default).level) + 1)))] : List Pattern_place) ((w64 (((l6.length : Nat) : Int) - 1)).toNat) 2 5 40 (2 ≤ 2) (Nat.le_refl _) (JE rfl (show (w64 (((l6.length : Nat) : Int) - 1)).toNat ≤ l6.length by have := (slOk_of g12); omega)) rfl (fun _ => rfl) (wL g23))] 13 [4, 6, 8, 10] [(4, vo 7 1 5 ((w64 (((l6.length : Nat) : Int) - 1)).toNat + 2))] [7, 8, 10, 12] [(7, ro 1 123 5 ((w64 (((l6.length : Nat) : Int) - 1)).toNat + 2) (rf e_Pattern_place ((l6.take ((w64 (((l6.length : Nat) : Int) - 1)).toNat)) ++ ([(Pattern_place.mk v21.2.2 (w64 (((l6.getD ((w64 (((l6.length : Nat) : Int) - 1)).toNat) default).level) + 1))), (Pattern_place.mk v21.1 (w64 (((l6.getD ((w64 (((l6.length : Nat) : Int) - 1)).toNat) default).level) + 1)))] : List Pattern_place))))] ?_
       exact q_J (((l6.take ((w64 (((l6.length : Nat) : Int) - 1)).toNat)) ++ ([(Pattern_place.mk v21.2.2 (w64 (((l6.getD ((w64 (((l6.length : Nat) : Int) - 1)).toNat) default).level) + 1))), (Pattern_place.mk v21.1 (w64 (((l6.getD ((w64 (((l6.length : Nat) : Int) - 1)).toNat) default).level) + 1)))] : List Pattern_place)), ((w64 (((l6.length : Nat) : Int) - 1)).toNat + 2), v13.2.2, v13.2.1) ⟨(len_app (JE rfl (show (w64 (((l6.length : Nat) : Int) - 1)).toNat ≤ l6.length by have := (slOk_of g12); omega)) rfl), hm⟩
      ·replace hm := qB b20 hm
       refine q_sk ?_
       exact q_J ((l6.take ((w64 (((l6.length : Nat) : Int) - 1)).toNat)), (w64 (((l6.length : Nat) : Int) - 1)).toNat, v13.2.2, v13.2.1) ⟨(JE rfl (show (w64 (((l6.length : Nat) : Int) - 1)).toNat ≤ l6.length by have := (slOk_of g12); omega)), hm⟩
  ·replace hm := qB b10 hm
   refine q_ex 0 ?_
   obtain rfl := Option.some.inj hm
   exact wJ (x9, x8) (by kernel_rfl) (by kernel_rfl)
theorem qCU (a1 : Pattern) (a2 : Int) (a3 : Int) (a4 : Pattern) (a5 : Int) (ri : RI 67) (r : Nat × Int × Int) (hm : ZN a1 a2 a3 a4 a5 = some r) : CtX Tryz.prog globs 102 7 7 [.one (.yl (rc Tryz.f61 506 ri) ri.b [3, 5, 6, 7] [.bptr 1 0 0, .bptr 2 0 0, .bptr 3 0 0, .bptr 4 0 0]), .one (.bptr 5 0 0), .one (.bptr 6 0 0)] [(0, lq (rc Tryz.f61 506 ri) ri.b), (1, bx 31 (qG a1)), (2, bx 118 [.fn 62 []]), (3, bx 41 [ci a2]), (4, bx 3 [ci a3]), (5, bx 31 (qG a4)), (6, bx 3 [ci a5])] (RJ a1 a2 a3 a4 a5 ri r) (PP a1 a2 a3 a4 a5 ri r) := by
 unfold ZN at hm
 refine q_E Tryz.f102 73 fun E => ?_
 refine q_sq ?_
 refine q_vn [qd 3 (drw 7 0 (rf e_Pattern_place ([(Pattern_place.mk a4.Frame 1)] : List Pattern_place))) (litP e_Pattern_place default 5 (fun _ => rfl) ([(Pattern_place.mk a4.Frame 1)] : List Pattern_place) 1 rfl)] 7 ⟨[(0, vc (.yl (rc Tryz.f61 506 ri) ri.b [3, 5, 6, 7] [.bptr 1 0 0, .bptr 2 0 0, .bptr 3 0 0, .bptr 4 0 0])), (1, vp 5 0), (2, vp 6 0), (4, vo 7 0 5 1)], [(0, lq (rc Tryz.f61 506 ri) ri.b), (1, bx 31 (qG a1)), (2, bx 118 [.fn 62 []]), (3, bx 41 [ci a2]), (4, bx 3 [ci a3]), (5, bx 31 (qG a4)), (6, bx 3 [ci a5]), (7, ro 0 123 5 1 (rf e_Pattern_place ([(Pattern_place.mk a4.Frame 1)] : List Pattern_place)))]⟩ ?_
 refine q_sq ?_
 refine q_vu [] 8 [] [(5, vi 0)] [] [] ?_
 obtain ⟨u31, h30, hm⟩ := qD hm
 refine zM (nd Tryz.f102 28) 0 (by kernel_rfl) FUEL (fun o => GY ri a1 a4 a5 o.1 o.2) (fun v st => RetQ Tryz.prog Tryz.f102 (RJ a1 a2 a3 a4 a5 ri v) (PP a1 a2 a3 a4 a5 ri v) .ret st) u31 (q_hl (YP ri a1 a4 a5 ([(Pattern_place.mk a4.Frame 1)] : List Pattern_place) 1 0 a2 a3) (qAH E ri a1 a2 a3 a4 a5 FUEL ([(Pattern_place.mk a4.Frame 1)] : List Pattern_place) 1 0 a2 a3 u31 rfl h30)) ?_ ?_
 ·rintro v32 rfl st hr
  obtain rfl := Option.some.inj hm
  exact hr
 ·rintro o29 rfl
  replace hm : _ = some r := hm
  obtain rfl := Option.some.inj hm
  exact q_rm
end Saw
end Go.SL
