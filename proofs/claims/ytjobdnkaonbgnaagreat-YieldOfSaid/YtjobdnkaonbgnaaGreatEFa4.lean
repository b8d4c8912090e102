import Derived.Test.YtjobdnkaonbgnaaGreatEBase
import Derived.Test.YtjobdnkaonbgnaaGreatEFa2
import Derived.Test.YtjobdnkaonbgnaaGreatEFa3
import Derived.Test.YtjobdnkaonbgnaaGreatEFa1
set_option linter.unusedVariables false
set_option linter.unusedSimpArgs false
namespace Go.SL
namespace Saw
open Go.Proofs
set_option maxHeartbeats 4000000
set_option maxRecDepth 100000
def qE9 (r : Int) : V := vi r
def qFs (r : Int) : List (Nat × (Nat × O)) := []
def HS (a1 : Pattern) (a2 : Int) (x7 : Bool) : St :=
 ⟨[(1, vi a2), (3, vp 0 0), (5, vp 1 0), (6, vp 2 0), (21, vb x7)], [(0, bx 31 (qF a1)), (1, bx 118 [.fn 62 []]), (2, bx 41 [ci 0])]⟩
theorem AC (a1 : Pattern) (a2 : Int) (r : Int) (hm : WD a1 a2 = some r) : CtX Tryz.prog globs 61 0 0 [.agg (qF a1), .one (ci a2), .one (.fn 62 [])] [] (qE9 r) (qFs r) := by
 unfold WD at hm
 refine q_E Tryz.f61 67 fun E => ?_
 refine s_vn [] 0 ⟨[(1, vi a2), (3, vp 0 0), (5, vp 1 0), (6, vp 2 0)], [(0, bx 31 (qF a1)), (1, bx 118 [.fn 62 []]), (2, bx 41 [ci 0])]⟩ ?_
 refine q_sq ?_
 obtain ⟨v3, h4, hm⟩ := qD hm
 refine s_vu [qc 2 [13] 3 (OQ a1.Frame v3 h4)] 3 [] [(15, vb (!v3))] [] [] ?_
 refine q_cn (!v3) (fun b5 => ?_) (fun b5 => ?_)
 ·replace hm := qB b5 hm
  refine s_vn [] 3 ⟨[(6, vp 2 0)], [(2, bx 41 [ci 19])]⟩ ?_
  obtain rfl := oi hm
  refine q_rt ?_
  exact q_rm
 ·replace hm := qC b5 hm
  refine q_sk ?_
  refine q_sq ?_
  refine q_jn (ι := Bool) (fun p => HS a1 a2 p) (fun p => XN a1 a2 p = some r) ?_ ?_
  ·rintro x7 hm
   show H _ (HS a1 a2 x7) _ _
   refine q_cn x7 (fun b8 => ?_) (fun b8 => ?_)
   ·replace hm := qB b8 hm
    refine s_vn [] 3 ⟨[(6, vp 2 0)], [(2, bx 41 [ci 9])]⟩ ?_
    obtain rfl := oi hm
    refine q_rt ?_
    exact q_rm
   ·replace hm := qC b8 hm
    refine q_sk ?_
    refine q_sq ?_
    refine s_vu [] 3 [21] [(25, vb (decide (((a1.Nodes.length : Nat) : Int) > 127)))] [] [] ?_
    refine q_cn (decide (((a1.Nodes.length : Nat) : Int) > 127)) (fun b9 => ?_) (fun b9 => ?_)
    ·replace hm := qB b9 hm
     refine s_vn [] 3 ⟨[(6, vp 2 0)], [(2, bx 41 [ci 4])]⟩ ?_
     obtain rfl := oi hm
     refine q_rt ?_
     exact q_rm
    ·replace hm := qC b9 hm
     refine q_sk ?_
     refine s_vu [] 3 [25] [(7, vp 3 0)] [] [(3, bx 3 [ci 0])] ?_
     refine q_sq ?_
     obtain ⟨v10, h11, hm⟩ := qD hm
     refine s_vu [qc 2 [26, 27] 4 (PU a1 a2 v10 h11)] 4 [1] [(28, vc (.fn 102 [.bptr 4 0 0, .bptr 5 0 0]))] [] [(4, bx 31 (qF v10.1)), (5, bx 3 [ci v10.2])] ?_
     refine q_bk 0 ?_
     obtain ⟨v12, h13, hm⟩ := qD hm
     refine q_rf (.tmp 28) [3, 5, 6, 7] 6 [(6, 0), (0, 0), (1, 0), (2, 0), (3, 0), (4, 0), (5, 0)] [0, 0, 0, 0, 0, 0, 0] 0 7 [.ret] v12.1 0 ⟨[(3, vp 0 0), (6, vp 2 0), (7, vp 3 0)], [(0, bx 31 (qF a1)), (2, bx 41 [ci v12.2.1]), (3, bx 3 [ci v12.2.2])]⟩ (fun ri => qC3 a1 0 0 v10.1 v10.2 ri v12 h13) ?_
     rcases Bool.eq_false_or_eq_true (Nat.beq v12.1 0) with b14 | b14
     ·replace hm := qB b14 hm
      refine JQ_n b14 ?_
      refine q_sq ?_
      refine s_vu [] 7 [3, 7] [(66, vb (decide (v12.2.2 < ((a1.Nodes.length : Nat) : Int))))] [0, 3] [] ?_
      refine q_cn (decide (v12.2.2 < ((a1.Nodes.length : Nat) : Int))) (fun b16 => ?_) (fun b16 => ?_)
      ·replace hm := qB b16 hm
       refine s_vu [] 7 [66] [] [2] [(2, bx 41 [ci 4])] ?_
       obtain rfl := oi hm
       refine q_rt ?_
       exact q_rm
      ·replace hm := qC b16 hm
       refine q_sk ?_
       refine s_vu [] 7 [66] [] [2] [(2, bx 41 [ci 0])] ?_
       obtain rfl := oi hm
       refine q_rt ?_
       exact q_rm
     ·replace hm := qC b14 hm
      rcases Bool.eq_false_or_eq_true (Nat.beq v12.1 1) with b15 | b15
      ·replace hm := qB b15 hm
       refine JQ_j 0 .ret b15 (by kernel_rfl) ?_
       obtain rfl := oi hm
       refine q_rt ?_
       exact q_rm
      ·replace hm := qC b15 hm
       cases hm
  ·rcases Bool.eq_false_or_eq_true (decide (a2 < 0)) with b6 | b6
   ·replace hm := qB b6 hm
    refine q_vu [qf 2 b6] 3 [15] [(21, vb true)] [] [] ?_
    exact q_J (true) hm
   ·replace hm := qC b6 hm
    refine q_vu [qf 2 b6] 3 [15] [(21, vb (decide (a2 > 20)))] [] [] ?_
    exact q_J (decide (a2 > 20)) hm
noncomputable def PM (a1 : Int) (a2 : Pattern_place) (a3 : Pattern) (a4 : List Leaf) (ri : RI 48) (r : Nat × (List Leaf)) : V := vb (Nat.beq r.1 0)
noncomputable def PN (a1 : Int) (a2 : Pattern_place) (a3 : Pattern) (a4 : List Leaf) (ri : RI 48) (r : Nat × (List Leaf)) : List (Nat × (Nat × O)) := [(0, lz (rc Tryz.f31 122 ri) ri.b [] r.1), (1, bx 31 (qF a3)), (2, bx 74 [.own 3 0 5 r.2.length]), (3, ro 0 78 5 r.2.length (rf qG r.2))]
theorem FM (a1 : Int) (a2 : Pattern_place) (a3 : Pattern) (a4 : List Leaf) (ri : RI 48) (r : Nat × (List Leaf)) (hm : wZ a1 a2 a3 a4 = some r) : CtR Tryz.prog globs (rc Tryz.f31 122 ri) ri.b [2, 7] 4 3 [.one (ci a1), .agg (e_Pattern_place a2), .one (.bptr 1 0 0), .one (.bptr 2 0 0)] [(0, lq (rc Tryz.f31 122 ri) ri.b), (1, bx 31 (qF a3)), (2, bx 74 [.own 3 0 5 a4.length]), (3, ro 0 78 5 a4.length (rf qG a4))] (PM a1 a2 a3 a4 ri r) (PN a1 a2 a3 a4 ri r) := by
 unfold wZ at hm
 refine q_R Tryz.f31 122 48 ri fun E => ?_
 refine q_sq ?_
 refine q_vn [] 4 ⟨[(2, vp 1 0), (7, vp 2 0), (8, vi a1), (21, va (e_Pattern_place a2))], [(0, lq (rc Tryz.f31 122 ri) ri.b), (1, bx 31 (qF a3)), (2, bx 74 [.own 3 0 5 a4.length]), (3, ro 0 78 5 a4.length (rf qG a4))]⟩ ?_
 refine q_vu [] 4 [21] [(9, vp 4 0)] [] [(4, bx 123 (e_Pattern_place a2))] ?_
 refine q_rd ⟨[(2, vp 1 0), (7, vp 2 0), (8, vi a1), (9, vp 4 0)], [(0, ly (rc Tryz.f31 122 ri) ri.b), (1, bx 31 (qF a3)), (2, bx 74 [.own 3 0 5 a4.length]), (3, ro 0 78 5 a4.length (rf qG a4)), (4, bx 123 (e_Pattern_place a2))]⟩ ?_
 refine q_bk 1 ?_
 refine q_sq ?_
 obtain ⟨g5, hm⟩ := qM hm
 refine q_vu [qd 3 (Dir.none) (inb_of g5)] 5 [2, 8] [(10, vp 5 0)] [] [(5, bx 65 [ci ((a3.Nodes.getD a1.toNat default).Kind), ci ((a3.Nodes.getD a1.toNat default).At)])] ?_
 refine q_sq ?_
 refine q_vu [] 6 [] [(28, vi ((a3.Nodes.getD a1.toNat default).Kind))] [] [] ?_
 refine q_bk 2 ?_
 refine q_sq ?_
 refine q_vu [] 6 [] [(29, vb (((a3.Nodes.getD a1.toNat default).Kind) == 0))] [] [] ?_
 refine q_cn (((a3.Nodes.getD a1.toNat default).Kind) == 0) (fun b6 => ?_) (fun b6 => ?_)
 ·replace hm := qB b6 hm
  obtain ⟨g7, hm⟩ := qM hm
  refine q_wu [qd 4 (drw 6 0 (rf qG ([(Leaf.mk a2.rect (-1))] : List Leaf))) (litP qG default 5 (fun _ => rfl) ([(Leaf.mk a2.rect (-1))] : List Leaf) 1 rfl), qd 5 (drw 3 1 (rf qG (a4 ++ ([(Leaf.mk a2.rect (-1))] : List Leaf)))) (apP qG default a4 ([(Leaf.mk a2.rect (-1))] : List Leaf) a4.length 1 5 40 (1 ≤ 1) (Nat.le_refl _) rfl rfl (fun _ => rfl) (wV g7))] [.len 3 ((a4 ++ ([(Leaf.mk a2.rect (-1))] : List Leaf)).length)] (o1 (And.intro (Eq.symm (show (a4 ++ ([(Leaf.mk a2.rect (-1))] : List Leaf)).length = (a4.length + 1) from (len_app rfl rfl))) (And.intro (Eq.symm (show (a4 ++ ([(Leaf.mk a2.rect (-1))] : List Leaf)).length = (a4.length + 1) from (len_app rfl rfl))) (Eq.symm (show (a4 ++ ([(Leaf.mk a2.rect (-1))] : List Leaf)).length = (a4.length + 1) from (len_app rfl rfl)))))) 6 [7, 9, 10, 28, 29] [] [2, 3, 4, 5] [(2, bx 74 [.own 3 1 5 ((a4 ++ ([(Leaf.mk a2.rect (-1))] : List Leaf)).length)]), (3, ro 1 78 5 ((a4 ++ ([(Leaf.mk a2.rect (-1))] : List Leaf)).length) (rf qG (a4 ++ ([(Leaf.mk a2.rect (-1))] : List Leaf))))] ?_
  obtain rfl := oi hm
  exact q_rq
 ·replace hm := qC b6 hm
  refine q_sq ?_
  refine q_vu [] 6 [28, 29] [(37, vb (((a3.Nodes.getD a1.toNat default).Kind) == 1))] [] [] ?_
  refine q_cn (((a3.Nodes.getD a1.toNat default).Kind) == 1) (fun b8 => ?_) (fun b8 => ?_)
  ·replace hm := qB b8 hm
   obtain ⟨g9, hm⟩ := qM hm
   refine q_wu [qd 6 (drw 6 0 (rf qG ([(Leaf.mk a2.rect ((a3.Nodes.getD a1.toNat default).At))] : List Leaf))) (litP qG default 5 (fun _ => rfl) ([(Leaf.mk a2.rect ((a3.Nodes.getD a1.toNat default).At))] : List Leaf) 1 rfl), qd 7 (drw 3 1 (rf qG (a4 ++ ([(Leaf.mk a2.rect ((a3.Nodes.getD a1.toNat default).At))] : List Leaf)))) (apP qG default a4 ([(Leaf.mk a2.rect ((a3.Nodes.getD a1.toNat default).At))] : List Leaf) a4.length 1 5 40 (1 ≤ 1) (Nat.le_refl _) rfl rfl (fun _ => rfl) (wV g9))] [.len 3 ((a4 ++ ([(Leaf.mk a2.rect ((a3.Nodes.getD a1.toNat default).At))] : List Leaf)).length)] (o1 (And.intro (Eq.symm (show (a4 ++ ([(Leaf.mk a2.rect ((a3.Nodes.getD a1.toNat default).At))] : List Leaf)).length = (a4.length + 1) from (len_app rfl rfl))) (And.intro (Eq.symm (show (a4 ++ ([(Leaf.mk a2.rect ((a3.Nodes.getD a1.toNat default).At))] : List Leaf)).length = (a4.length + 1) from (len_app rfl rfl))) (Eq.symm (show (a4 ++ ([(Leaf.mk a2.rect ((a3.Nodes.getD a1.toNat default).At))] : List Leaf)).length = (a4.length + 1) from (len_app rfl rfl)))))) 6 [7, 9, 10, 37] [] [2, 3, 4, 5] [(2, bx 74 [.own 3 1 5 ((a4 ++ ([(Leaf.mk a2.rect ((a3.Nodes.getD a1.toNat default).At))] : List Leaf)).length)]), (3, ro 1 78 5 ((a4 ++ ([(Leaf.mk a2.rect ((a3.Nodes.getD a1.toNat default).At))] : List Leaf)).length) (rf qG (a4 ++ ([(Leaf.mk a2.rect ((a3.Nodes.getD a1.toNat default).At))] : List Leaf))))] ?_
   obtain rfl := oi hm
   exact q_rq
  ·replace hm := qC b8 hm
   refine q_sk ?_
   obtain rfl := oi hm
   exact q_rq
noncomputable def TA (a1 : Pattern) (a2 : Pattern) (a3 : Int) (a4 : List Leaf) (ri : RI 48) (r : Nat × (List Leaf)) : V := .undef
noncomputable def RA (a1 : Pattern) (a2 : Pattern) (a3 : Int) (a4 : List Leaf) (ri : RI 48) (r : Nat × (List Leaf)) : List (Nat × (Nat × O)) := [(0, lz (rc Tryz.f31 122 ri) ri.b [] r.1), (1, bx 31 (qF a1)), (2, bx 74 [.own 5 0 5 r.2.length]), (3, bx 31 (qF a2)), (4, bx 3 [ci a3]), (5, ro 0 78 5 r.2.length (rf qG r.2))]
noncomputable def BT (ri : RI 48) (a1 : Pattern) (a2 : Pattern) (a3 : Int) (x6 : Int) (l22 : List Pattern_place) (l22n : Nat) (l23 : List Leaf) (l23n : Nat) : St :=
 ⟨[(0, vc (.yl (rc Tryz.f31 122 ri) ri.b [2, 7] [.bptr 1 0 0, .bptr 2 0 0])), (1, vp 3 0), (2, vp 4 0), (4, vo 6 0 5 l22n), (5, vi x6)], [(0, lq (rc Tryz.f31 122 ri) ri.b), (1, bx 31 (qF a1)), (2, bx 74 [.own 5 0 5 l23n]), (3, bx 31 (qF a2)), (4, bx 3 [ci a3]), (5, ro 0 78 5 l23n (rf qG l23)), (6, ro 0 123 5 l22n (rf e_Pattern_place l22))]⟩
noncomputable def XB (ri : RI 48) (a1 : Pattern) (a2 : Pattern) (a3 : Int) (l5 : List Pattern_place) (l5n : Nat) (x6 : Int) (l7 : List Leaf) (l7n : Nat) : St :=
 ⟨[(0, vc (.yl (rc Tryz.f31 122 ri) ri.b [2, 7] [.bptr 1 0 0, .bptr 2 0 0])), (1, vp 3 0), (2, vp 4 0), (4, vo 6 0 5 l5n), (5, vi x6)], [(0, lq (rc Tryz.f31 122 ri) ri.b), (1, bx 31 (qF a1)), (2, bx 74 [.own 5 0 5 l7n]), (3, bx 31 (qF a2)), (4, bx 3 [ci a3]), (5, ro 0 78 5 l7n (rf qG l7)), (6, ro 0 123 5 l5n (rf e_Pattern_place l5))]⟩
noncomputable def BL (ri : RI 48) (a1 : Pattern) (a2 : Pattern) (a3 : Int) (l24 : List Leaf) : St :=
 ⟨[], [(0, lq (rc Tryz.f31 122 ri) ri.b), (1, bx 31 (qF a1)), (2, bx 74 [.own 5 0 5 l24.length]), (3, bx 31 (qF a2)), (4, bx 3 [ci a3]), (5, ro 0 78 5 l24.length (rf qG l24))]⟩
theorem qAM (E : Env 6) (ri : RI 48) (a1 : Pattern) (a2 : Pattern) (a3 : Int) (a4 : List Leaf) : ∀ (n : Nat) (l5 : List Pattern_place) (l5n : Nat) (x6 : Int) (l7 : List Leaf) (l7n : Nat) (res : (Nat × (List Leaf)) ⊕ (List Leaf)), l5.length = l5n → l7.length = l7n → wK a1 a2 a3 n l5 x6 l7 = some res → HL (kx E 73 5) (nd Tryz.f102 28) (wN 0 (fun o => BL ri a1 a2 a3 o) (fun v st => RetQ Tryz.prog Tryz.f102 (TA a1 a2 a3 a4 ri v) (RA a1 a2 a3 a4 ri v) .ret st) res) n (XB ri a1 a2 a3 l5 l5n x6 l7 l7n) := by
 intro n
 induction n with
 | zero =>
  intro l5 l5n x6 l7 l7n res hl0 hl1 hm
  cases hm
 | succ n ih =>
  intro l5 l5n x6 l7 l7n res hl0 hl1 hm
  subst hl0
  subst hl1
  refine qQ ?_
  refine q_sq ?_
  refine s_vu [] 7 [] [(17, vb (decide (((l5.length : Nat) : Int) > 0)))] [] [] ?_
  refine q_cn (decide (((l5.length : Nat) : Int) > 0)) (fun b8 => ?_) (fun b8 => ?_)
  ·replace hm := qB b8 hm
   refine q_sk ?_
   refine q_jn (ι := (List Pattern_place) × Nat × (List Leaf) × Nat) (fun p => BT ri a1 a2 a3 x6 p.1 p.2.1 p.2.2.1 p.2.2.2) (fun p => p.1.length = p.2.1 ∧ p.2.2.1.length = p.2.2.2 ∧ WP x6 (wK a1 a2 a3 n) p.1 p.2.2.1 = some res) ?_ ?_
   ·rintro ⟨l22, l22n, l23, l23n⟩ ⟨el22, el23, hm⟩
    replace el22 : l22.length = l22n := el22
    subst el22
    replace el23 : l23.length = l23n := el23
    subst el23
    show H _ (BT ri a1 a2 a3 x6 l22 l22.length l23 l23.length) _ _
    refine q_vu [] 13 [5] [(5, vi (w64 (x6 + 1)))] [] [] ?_
    exact q_hl (XB ri a1 a2 a3 l22 l22.length (w64 (x6 + 1)) l23 l23.length) (ih l22 l22.length (w64 (x6 + 1)) l23 l23.length _ rfl rfl hm)
   ·refine q_bk 1 ?_
    obtain ⟨g9, hm⟩ := qM hm
    refine s_vu [qd 4 (Dir.none) (inb_of g9), qd 5 (Dir.none) (toNat_lt (inb_of g9))] 7 [17] [(6, vp 7 0)] [] [(7, bx 123 [ci ((((l5.getD ((w64 (((l5.length : Nat) : Int) - 1)).toNat) default).rect).X).A), ci ((((l5.getD ((w64 (((l5.length : Nat) : Int) - 1)).toNat) default).rect).X).B), ci ((((l5.getD ((w64 (((l5.length : Nat) : Int) - 1)).toNat) default).rect).Y).A), ci ((((l5.getD ((w64 (((l5.length : Nat) : Int) - 1)).toNat) default).rect).Y).B), ci ((l5.getD ((w64 (((l5.length : Nat) : Int) - 1)).toNat) default).level)])] ?_
    obtain ⟨g10, hm⟩ := qM hm
    refine s_wu [qd 4 (Dir.none) (And.intro (slOk_of g10).2.1 (slOk_of g10).2.2)] [.row 6 ((w64 (((l5.length : Nat) : Int) - 1)).toNat) (rf e_Pattern_place (l5.take ((w64 (((l5.length : Nat) : Int) - 1)).toNat)))] (o1 (tkP e_Pattern_place default l5 l5.length ((w64 (((l5.length : Nat) : Int) - 1)).toNat) (show (w64 (((l5.length : Nat) : Int) - 1)).toNat ≤ l5.length by have := (slOk_of g10); omega))) 8 [4] [(4, vo 6 0 5 ((w64 (((l5.length : Nat) : Int) - 1)).toNat))] [6] [(6, ro 0 123 5 ((w64 (((l5.length : Nat) : Int) - 1)).toNat) (rf e_Pattern_place (l5.take ((w64 (((l5.length : Nat) : Int) - 1)).toNat))))] ?_
    refine q_sq ?_
    refine q_sq ?_
    obtain ⟨v11, h12, hm⟩ := qD hm
    rcases Bool.eq_false_or_eq_true (!(Nat.beq v11.1 0)) with b13 | b13
    ·replace hm := qB b13 hm
     refine q_vu [qd 3 (dex (cen [(0, 0), (1, 0), (2, 0), (5, 0)] [0, 0, 0, 1] 4 3 (PM x6 (l5.getD ((w64 (((l5.length : Nat) : Int) - 1)).toNat) default) a1 l7 ri v11) (PN x6 (l5.getD ((w64 (((l5.length : Nat) : Int) - 1)).toNat) default) a1 l7 ri v11) [31, 32, 33] [0, 1, 2, 5])) (qAT (K := (kx E 73 5)) ⟨[(31, vc (.yl (rc Tryz.f31 122 ri) ri.b [2, 7] [.bptr 1 0 0, .bptr 2 0 0])), (32, vi x6), (33, va [ci ((((l5.getD ((w64 (((l5.length : Nat) : Int) - 1)).toNat) default).rect).X).A), ci ((((l5.getD ((w64 (((l5.length : Nat) : Int) - 1)).toNat) default).rect).X).B), ci ((((l5.getD ((w64 (((l5.length : Nat) : Int) - 1)).toNat) default).rect).Y).A), ci ((((l5.getD ((w64 (((l5.length : Nat) : Int) - 1)).toNat) default).rect).Y).B), ci ((l5.getD ((w64 (((l5.length : Nat) : Int) - 1)).toNat) default).level)])], [(0, lq (rc Tryz.f31 122 ri) ri.b), (1, bx 31 (qF a1)), (2, bx 74 [.own 5 0 5 l7.length]), (5, ro 0 78 5 l7.length (rf qG l7))]⟩ (opAt (rg Tryz.f102 3660) 3) [(0, 0), (1, 0), (2, 0), (5, 0)] [0, 0, 0, 1] 4 0 o0 rfl (FM x6 (l5.getD ((w64 (((l5.length : Nat) : Int) - 1)).toNat) default) a1 l7 ri v11 h12) (.inl rfl) (by kernel_rfl)), qf 5 b13] 8 [] [(42, vb true)] [0, 2, 5] [(0, lz (rc Tryz.f31 122 ri) ri.b [] v11.1), (2, bx 74 [.own 5 1 5 v11.2.length]), (5, ro 1 78 5 v11.2.length (rf qG v11.2))] ?_
     refine qLW Tryz.f102 (.tmp 42) 7322 7323 (by kernel_rfl) (by kernel_rfl) ?_
     obtain rfl := oi hm
     refine q_rt ?_
     refine zB (v11.1, v11.2) ?_
     exact q_rm
    ·replace hm := qC b13 hm
     refine q_wu [qd 3 (dex (cen [(0, 0), (1, 0), (2, 0), (5, 0)] [0, 0, 0, 1] 4 3 (PM x6 (l5.getD ((w64 (((l5.length : Nat) : Int) - 1)).toNat) default) a1 l7 ri v11) (PN x6 (l5.getD ((w64 (((l5.length : Nat) : Int) - 1)).toNat) default) a1 l7 ri v11) [31, 32, 33] [0, 1, 2, 5])) (qAT (K := (kx E 73 5)) ⟨[(31, vc (.yl (rc Tryz.f31 122 ri) ri.b [2, 7] [.bptr 1 0 0, .bptr 2 0 0])), (32, vi x6), (33, va [ci ((((l5.getD ((w64 (((l5.length : Nat) : Int) - 1)).toNat) default).rect).X).A), ci ((((l5.getD ((w64 (((l5.length : Nat) : Int) - 1)).toNat) default).rect).X).B), ci ((((l5.getD ((w64 (((l5.length : Nat) : Int) - 1)).toNat) default).rect).Y).A), ci ((((l5.getD ((w64 (((l5.length : Nat) : Int) - 1)).toNat) default).rect).Y).B), ci ((l5.getD ((w64 (((l5.length : Nat) : Int) - 1)).toNat) default).level)])], [(0, lq (rc Tryz.f31 122 ri) ri.b), (1, bx 31 (qF a1)), (2, bx 74 [.own 5 0 5 l7.length]), (5, ro 0 78 5 l7.length (rf qG l7))]⟩ (opAt (rg Tryz.f102 3660) 3) [(0, 0), (1, 0), (2, 0), (5, 0)] [0, 0, 0, 1] 4 0 o0 rfl (FM x6 (l5.getD ((w64 (((l5.length : Nat) : Int) - 1)).toNat) default) a1 l7 ri v11 h12) (.inl rfl) (by kernel_rfl)), qf 5 b13] [.lpn 0 .ready none] (o1 (qId (js := []) b13)) 8 [] [(42, vb (decide (x6 ≥ ((a2.Nodes.length : Nat) : Int))))] [2, 5] [(2, bx 74 [.own 5 1 5 v11.2.length]), (5, ro 1 78 5 v11.2.length (rf qG v11.2))] ?_
     refine q_cn (decide (x6 ≥ ((a2.Nodes.length : Nat) : Int))) (fun b14 => ?_) (fun b14 => ?_)
     ·replace hm := qB b14 hm
      obtain rfl := oi hm
      refine q_rt ?_
      refine zB (0, v11.2) ?_
      exact q_rm
     ·replace hm := qC b14 hm
      refine q_sk ?_
      obtain ⟨g15, hm⟩ := qM hm
      refine s_vu [qd 3 (Dir.none) (inb_of g15)] 8 [42] [(7, vp 8 0)] [] [(8, bx 65 [ci ((a2.Nodes.getD x6.toNat default).Kind), ci ((a2.Nodes.getD x6.toNat default).At)])] ?_
      obtain ⟨v16, h17, hm⟩ := qD hm
      refine s_vu [qc 2 [49] 9 (WC ((a2.Nodes.getD x6.toNat default).Kind) v16 h17)] 9 [] [(50, vb v16)] [] [] ?_
      refine q_cn v16 (fun b18 => ?_) (fun b18 => ?_)
      ·replace hm := qB b18 hm
       obtain ⟨v19, h20, hm⟩ := qD hm
       refine s_vu [qc 4 [53, 54, 55] 9 (XG ((l5.getD ((w64 (((l5.length : Nat) : Int) - 1)).toNat) default).rect) (a2.Nodes.getD x6.toNat default) a3 v19 h20)] 9 [7, 50] [(8, vp 9 0), (10, vp 11 0)] [8] [(9, bx 28 (qE v19.1)), (11, bx 28 (qE v19.2.2))] ?_
       obtain ⟨g21, hm⟩ := qM hm
       refine q_vu [qd 11 (drw 12 0 (rf e_Pattern_place ([(Pattern_place.mk v19.2.2 (w64 (((l5.getD ((w64 (((l5.length : Nat) : Int) - 1)).toNat) default).level) + 1))), (Pattern_place.mk v19.1 (w64 (((l5.getD ((w64 (((l5.length : Nat) : Int) - 1)).toNat) default).level) + 1)))] : List Pattern_place))) (litP e_Pattern_place default 5 (fun _ => rfl) ([(Pattern_place.mk v19.2.2 (w64 (((l5.getD ((w64 (((l5.length : Nat) : Int) - 1)).toNat) default).level) + 1))), (Pattern_place.mk v19.1 (w64 (((l5.getD ((w64 (((l5.length : Nat) : Int) - 1)).toNat) default).level) + 1)))] : List Pattern_place) 2 rfl), qd 12 (drw 6 1 (rf e_Pattern_place ((l5.take ((w64 (((l5.length : Nat) : Int) - 1)).toNat)) ++ ([(Pattern_place.mk v19.2.2 (w64 (((l5.getD ((w64 (((l5.length : Nat) : Int) - 1)).toNat) default).level) + 1))), (Pattern_place.mk v19.1 (w64 (((l5.getD ((w64 (((l5.length : Nat) : Int) - 1)).toNat) default).level) + 1)))] : List Pattern_place)))) (apP e_Pattern_place default (l5.take ((w64 (((l5.length : Nat) : Int) - 1)).toNat)) ([(Pattern_place.mk v19.2.2 (w64 (((l5.getD ((w64 (((l5.length : Nat) : Int) - 1)).toNat) default).level) + 1))), (Pattern_place.mk v19.1 (w64 (((l5.getD ((w64 (((l5.length : Nat) : Int) - 1)).toNat) default).level) + 1)))] : List Pattern_place) ((w64 (((l5.length : Nat) : Int) - 1)).toNat) 2 5 40 (2 ≤ 2) (Nat.le_refl _) (JY rfl (show (w64 (((l5.length : Nat) : Int) - 1)).toNat ≤ l5.length by have := (slOk_of g10); omega)) rfl (fun _ => rfl) (wV g21))] 12 [4, 6, 8, 10] [(4, vo 6 1 5 ((w64 (((l5.length : Nat) : Int) - 1)).toNat + 2))] [6, 7, 9, 11] [(6, ro 1 123 5 ((w64 (((l5.length : Nat) : Int) - 1)).toNat + 2) (rf e_Pattern_place ((l5.take ((w64 (((l5.length : Nat) : Int) - 1)).toNat)) ++ ([(Pattern_place.mk v19.2.2 (w64 (((l5.getD ((w64 (((l5.length : Nat) : Int) - 1)).toNat) default).level) + 1))), (Pattern_place.mk v19.1 (w64 (((l5.getD ((w64 (((l5.length : Nat) : Int) - 1)).toNat) default).level) + 1)))] : List Pattern_place))))] ?_
       exact q_J (((l5.take ((w64 (((l5.length : Nat) : Int) - 1)).toNat)) ++ ([(Pattern_place.mk v19.2.2 (w64 (((l5.getD ((w64 (((l5.length : Nat) : Int) - 1)).toNat) default).level) + 1))), (Pattern_place.mk v19.1 (w64 (((l5.getD ((w64 (((l5.length : Nat) : Int) - 1)).toNat) default).level) + 1)))] : List Pattern_place)), ((w64 (((l5.length : Nat) : Int) - 1)).toNat + 2), v11.2, v11.2.length) ⟨(len_app (JY rfl (show (w64 (((l5.length : Nat) : Int) - 1)).toNat ≤ l5.length by have := (slOk_of g10); omega)) rfl), rfl, hm⟩
      ·replace hm := qC b18 hm
       refine q_sk ?_
       exact q_J ((l5.take ((w64 (((l5.length : Nat) : Int) - 1)).toNat)), (w64 (((l5.length : Nat) : Int) - 1)).toNat, v11.2, v11.2.length) ⟨(JY rfl (show (w64 (((l5.length : Nat) : Int) - 1)).toNat ≤ l5.length by have := (slOk_of g10); omega)), rfl, hm⟩
  ·replace hm := qC b8 hm
   refine q_ex 0 ?_
   obtain rfl := oi hm
   exact wR l7 (by kernel_rfl) (by kernel_rfl)
theorem qC6 (a1 : Pattern) (a2 : Pattern) (a3 : Int) (a4 : List Leaf) (ri : RI 48) (r : Nat × (List Leaf)) (hm : ZW a1 a2 a3 a4 = some r) : CtX Tryz.prog globs 102 6 5 [.one (.yl (rc Tryz.f31 122 ri) ri.b [2, 7] [.bptr 1 0 0, .bptr 2 0 0]), .one (.bptr 3 0 0), .one (.bptr 4 0 0)] [(0, lq (rc Tryz.f31 122 ri) ri.b), (1, bx 31 (qF a1)), (2, bx 74 [.own 5 0 5 a4.length]), (3, bx 31 (qF a2)), (4, bx 3 [ci a3]), (5, ro 0 78 5 a4.length (rf qG a4))] (TA a1 a2 a3 a4 ri r) (RA a1 a2 a3 a4 ri r) := by
 unfold ZW at hm
 refine q_E Tryz.f102 73 fun E => ?_
 refine s_vn [qd 3 (drw 6 0 (rf e_Pattern_place ([(Pattern_place.mk a2.Frame 1)] : List Pattern_place))) (litP e_Pattern_place default 5 (fun _ => rfl) ([(Pattern_place.mk a2.Frame 1)] : List Pattern_place) 1 rfl)] 6 ⟨[(0, vc (.yl (rc Tryz.f31 122 ri) ri.b [2, 7] [.bptr 1 0 0, .bptr 2 0 0])), (1, vp 3 0), (2, vp 4 0), (4, vo 6 0 5 1)], [(0, lq (rc Tryz.f31 122 ri) ri.b), (1, bx 31 (qF a1)), (2, bx 74 [.own 5 0 5 a4.length]), (3, bx 31 (qF a2)), (4, bx 3 [ci a3]), (5, ro 0 78 5 a4.length (rf qG a4)), (6, ro 0 123 5 1 (rf e_Pattern_place ([(Pattern_place.mk a2.Frame 1)] : List Pattern_place)))]⟩ ?_
 refine s_vu [] 7 [] [(5, vi 0)] [] [] ?_
 obtain ⟨u27, h26, hm⟩ := qD hm
 refine zP (nd Tryz.f102 28) 0 (by kernel_rfl) FUEL (fun o => BL ri a1 a2 a3 o) (fun v st => RetQ Tryz.prog Tryz.f102 (TA a1 a2 a3 a4 ri v) (RA a1 a2 a3 a4 ri v) .ret st) u27 (q_hl (XB ri a1 a2 a3 ([(Pattern_place.mk a2.Frame 1)] : List Pattern_place) 1 0 a4 a4.length) (qAM E ri a1 a2 a3 a4 FUEL ([(Pattern_place.mk a2.Frame 1)] : List Pattern_place) 1 0 a4 a4.length u27 rfl rfl h26)) ?_ ?_
 ·rintro v28 rfl st hr
  obtain rfl := oi hm
  exact hr
 ·rintro o25 rfl
  replace hm : _ = some r := hm
  obtain rfl := oi hm
  exact q_rm
def qG7 (r : (List Leaf) × Int) : V := .tup [.one (.own 0 0 5 r.1.length), .one (ci r.2)]
def qGR (r : (List Leaf) × Int) : List (Nat × (Nat × O)) := [(0, ro 0 78 5 r.1.length (rf qG r.1))]
theorem qFQ (a1 : Pattern) (a2 : Int) (r : (List Leaf) × Int) (hm : RR a1 a2 = some r) : CtX Tryz.prog globs 31 0 0 [.agg (qF a1), .one (ci a2)] [] (qG7 r) (qGR r) := by
 unfold RR at hm
 refine q_E Tryz.f31 48 fun E => ?_
 refine s_vn [] 0 ⟨[(1, vi a2), (2, vp 0 0)], [(0, bx 31 (qF a1))]⟩ ?_
 refine q_sq ?_
 obtain ⟨v3, h4, hm⟩ := qD hm
 refine s_vu [qk 2 [11, 12] 1 ⟨[(11, va (qF a1)), (12, vi a2)], []⟩ (AC a1 a2 v3 h4)] 1 [] [(6, vi v3)] [] [] ?_
 refine s_vu [] 1 [] [(15, vb (v3 != 0))] [] [] ?_
 refine q_cn (v3 != 0) (fun b5 => ?_) (fun b5 => ?_)
 ·replace hm := qB b5 hm
  refine s_vn [] 1 ⟨[(4, vc (.emp)), (5, vi v3)], []⟩ ?_
  refine q_fn [.own 4 1 78 5 (rf qG ([] : List Leaf))] ⟨[(4, vo 1 0 5 0), (5, vi v3)], [(1, ro 0 78 5 0 (rf qG ([] : List Leaf)))]⟩ o0 ?_
  refine q_fn [.len 1 (([] : List Leaf).length)] ⟨[(4, vo 1 0 5 (([] : List Leaf).length)), (5, vi v3)], [(1, ro 0 78 5 (([] : List Leaf).length) (rf qG ([] : List Leaf)))]⟩ (o1 (And.intro (show 0 = ([] : List Leaf).length from rfl) (show 0 = ([] : List Leaf).length from rfl))) ?_
  obtain rfl := oi hm
  refine qS 1 0 (by kernel_rfl) ?_
  refine q_rt ?_
  exact q_rm
 ·replace hm := qC b5 hm
  refine q_sk ?_
  refine s_vu [] 1 [6, 15] [(7, vp 1 0)] [] [(1, bx 74 [.emp])] ?_
  refine q_sq ?_
  obtain ⟨v6, h7, hm⟩ := qD hm
  refine s_vu [qc 2 [17, 18] 2 (PU a1 a2 v6 h7)] 2 [1] [(19, vc (.fn 102 [.bptr 2 0 0, .bptr 3 0 0]))] [] [(2, bx 31 (qF v6.1)), (3, bx 3 [ci v6.2])] ?_
  refine q_bk 0 ?_
  refine q_fn [.ownB 1 0 4 78 5 (rf qG ([] : List Leaf))] ⟨[(2, vp 0 0), (7, vp 1 0), (19, vc (.fn 102 [.bptr 2 0 0, .bptr 3 0 0]))], [(0, bx 31 (qF a1)), (1, bx 74 [.own 4 0 5 0]), (2, bx 31 (qF v6.1)), (3, bx 3 [ci v6.2]), (4, ro 0 78 5 0 (rf qG ([] : List Leaf)))]⟩ o0 ?_
  refine q_fn [.len 4 (([] : List Leaf).length)] ⟨[(2, vp 0 0), (7, vp 1 0), (19, vc (.fn 102 [.bptr 2 0 0, .bptr 3 0 0]))], [(0, bx 31 (qF a1)), (1, bx 74 [.own 4 0 5 (([] : List Leaf).length)]), (2, bx 31 (qF v6.1)), (3, bx 3 [ci v6.2]), (4, ro 0 78 5 (([] : List Leaf).length) (rf qG ([] : List Leaf)))]⟩ (o1 (And.intro (show 0 = ([] : List Leaf).length from rfl) (show 0 = ([] : List Leaf).length from rfl))) ?_
  obtain ⟨v8, h9, hm⟩ := qD hm
  refine q_rf (.tmp 19) [2, 7] 5 [(5, 0), (0, 0), (1, 0), (2, 0), (3, 0), (4, 0)] [0, 0, 0, 0, 0, 1] 0 5 [] v8.1 0 ⟨[(7, vp 1 0)], [(1, bx 74 [.own 4 0 5 v8.2.length]), (4, ro 0 78 5 v8.2.length (rf qG v8.2))]⟩ (fun ri => qC6 a1 v6.1 v6.2 ([] : List Leaf) ri v8 h9) ?_
  rcases Bool.eq_false_or_eq_true (Nat.beq v8.1 0) with b10 | b10
  ·replace hm := qB b10 hm
   refine JQ_n b10 ?_
   refine s_vu [] 6 [7] [(4, vo 4 0 5 v8.2.length), (5, vi 0)] [1] [] ?_
   obtain rfl := oi hm
   refine qS 4 0 (by kernel_rfl) ?_
   refine q_rt ?_
   exact q_rm
  ·replace hm := qC b10 hm
   cases hm
def AL (r : (List Leaf)) : V := vc (.fn 64 [.bptr 0 0 0])
def AK (r : (List Leaf)) : List (Nat × (Nat × O)) := [(0, bx 74 [tl qG default r])]
theorem qDY (a1 : List Leaf) (r : (List Leaf)) (hm : PQ a1 = some r) : CtX Tryz.prog globs 32 0 0 [.one (tl qG default a1)] [] (AL r) (AK r) := by
 unfold PQ at hm
 refine q_E Tryz.f32 4 fun E => ?_
 refine s_vn [] 0 ⟨[(1, vp 0 0)], [(0, bx 74 [tl qG default a1])]⟩ ?_
 refine s_vu [] 1 [1] [(2, vc (.fn 64 [.bptr 0 0 0]))] [] [] ?_
 obtain rfl := oi hm
 refine q_rt ?_
 exact q_rm
def qLP (r : Box × Bool) : V := .tup [.agg (zC r.1), .one (cb r.2)]
def qLr (r : Box × Bool) : List (Nat × (Nat × O)) := []
def qBl (v3 : Span) (v5 : Span) (v7 : Span) (x17 : Bool) : St :=
 ⟨[(4, vp 2 0), (6, vp 3 0), (35, vb x17)], [(2, bx 67 [ci 0, ci 0, ci 0, ci 0, ci 0, ci 0]), (3, bx 67 [ci v3.A, ci v3.B, ci v5.A, ci v5.B, ci v7.A, ci v7.B])]⟩
theorem qJL (a1 : Box) (a2 : Box) (r : Box × Bool) (hm : IW a1 a2 = some r) : CtX Tryz.prog globs 135 0 0 [.agg (zC a1), .agg (zC a2)] [] (qLP r) (qLr r) := by
 unfold IW at hm
 refine q_E Tryz.f135 38 fun E => ?_
 refine s_vn [] 0 ⟨[(2, vp 0 0), (3, vp 1 0), (4, vp 2 0)], [(0, bx 67 (zC a1)), (1, bx 67 (zC a2)), (2, bx 67 [ci 0, ci 0, ci 0, ci 0, ci 0, ci 0])]⟩ ?_
 obtain ⟨v3, h4, hm⟩ := qD hm
 obtain ⟨v5, h6, hm⟩ := qD hm
 obtain ⟨v7, h8, hm⟩ := qD hm
 refine s_du [qc 4 [8, 10] 3 (RL a1.X a2.X v3 h4), qc 9 [13, 15] 3 (RL a1.Y a2.Y v5 h6), qc 14 [18, 20] 3 (RL a1.Z a2.Z v7 h8)] [0, 1, 0, 4, 15, 0, 32, 0, 128, 511, 0, 1024, 0, 4096, 16383, 32767, 0, 131071] 3 [2, 3] [(6, vp 3 0)] [0, 1] [(3, bx 67 [ci v3.A, ci v3.B, ci v5.A, ci v5.B, ci v7.A, ci v7.B])] ?_
 refine q_sq ?_
 refine q_jn (ι := Bool) (fun p => qBl v3 v5 v7 p) (fun p => RE v3 v5 v7 p = some r) ?_ ?_
 ·rintro x17 hm
  show H _ (qBl v3 v5 v7 x17) _ _
  refine q_cn x17 (fun b18 => ?_) (fun b18 => ?_)
  ·replace hm := qB b18 hm
   refine s_vu [] 4 [6, 35] [(5, vb false)] [3] [] ?_
   obtain rfl := oi hm
   refine q_rt ?_
   exact q_rm
  ·replace hm := qC b18 hm
   refine q_sk ?_
   refine s_vu [] 4 [6, 35] [(5, vb true)] [2, 3] [(2, bx 67 [ci v3.A, ci v3.B, ci v5.A, ci v5.B, ci v7.A, ci v7.B])] ?_
   obtain rfl := oi hm
   refine q_rt ?_
   exact q_rm
 ·obtain ⟨v9, h10, hm⟩ := qD hm
  rcases Bool.eq_false_or_eq_true v9 with b11 | b11
  ·replace hm := qB b11 hm
   refine q_vu [qc 2 [24] 4 (zU v3 v9 h10), qf 3 b11] 4 [] [(35, vb true)] [] [] ?_
   exact q_J (true) hm
  ·replace hm := qC b11 hm
   obtain ⟨v12, h13, hm⟩ := qD hm
   rcases Bool.eq_false_or_eq_true v12 with b14 | b14
   ·replace hm := qB b14 hm
    refine q_vu [qc 2 [24] 4 (zU v3 v9 h10), qf 3 b11, qk 6 [26, 28] 4 ⟨[(26, vb false), (28, va (e_Span v5))], []⟩ (zU v5 v12 h13), qf 8 b14] 4 [] [(35, vb true)] [] [] ?_
    exact q_J (true) hm
   ·replace hm := qC b14 hm
    obtain ⟨v15, h16, hm⟩ := qD hm
    refine q_vu [qc 2 [24] 4 (zU v3 v9 h10), qf 3 b11, qk 6 [26, 28] 4 ⟨[(26, vb false), (28, va (e_Span v5))], []⟩ (zU v5 v12 h13), qf 8 b14, qk 11 [31, 33] 4 ⟨[(31, vb false), (33, va (e_Span v7))], []⟩ (zU v7 v15 h16)] 4 [] [(35, vb v15)] [] [] ?_
    exact q_J (v15) hm
def qGw (r : Bool) : V := vb r
def qGL (r : Bool) : List (Nat × (Nat × O)) := []
theorem CR (a1 : Defect) (a2 : Box) (r : Bool) (hm : YL a1 a2 = some r) : CtX Tryz.prog globs 106 0 0 [.agg (qI a1), .agg (zC a2)] [] (qGw r) (qGL r) := by
 unfold YL at hm
 refine q_E Tryz.f106 15 fun E => ?_
 refine s_vn [] 0 ⟨[(2, vp 0 0), (3, vp 1 0)], [(0, bx 135 (qI a1)), (1, bx 67 (zC a2))]⟩ ?_
 obtain ⟨v3, h4, hm⟩ := qD hm
 refine s_vn [qc 3 [9, 10] 2 (qJL a1.Box a2 v3 h4)] 2 ⟨[(6, vb v3.2)], []⟩ ?_
 refine s_vn [] 3 ⟨[(4, vb v3.2)], []⟩ ?_
 obtain rfl := oi hm
 refine q_rt ?_
 exact q_rm
def qHj (r : Bool) : V := vb r
def qGI (r : Bool) : List (Nat × (Nat × O)) := []
def AG (x5 : Bool) : St :=
 ⟨[(4, vb x5)], []⟩
theorem qF7 (a1 : Span) (a2 : Int) (r : Bool) (hm : NP a1 a2 = some r) : CtX Tryz.prog globs 107 0 0 [.agg (e_Span a1), .one (ci a2)] [] (qHj r) (qGI r) := by
 unfold NP at hm
 refine q_E Tryz.f107 21 fun E => ?_
 refine s_vn [] 0 ⟨[(1, vi a2), (2, vp 0 0)], [(0, bx 26 (e_Span a1))]⟩ ?_
 refine q_jn (ι := Bool) (fun p => AG p) (fun p => YA p = some r) ?_ ?_
 ·rintro x5 hm
  show H _ (AG x5) _ _
  obtain rfl := oi hm
  refine q_rt ?_
  exact q_rm
 ·rcases Bool.eq_false_or_eq_true (decide (a1.A ≥ 0)) with b3 | b3
  ·replace hm := qB b3 hm
   rcases Bool.eq_false_or_eq_true (decide (a1.A < a1.B)) with b4 | b4
   ·replace hm := qB b4 hm
    refine q_vn [qf 3 b3, qf 10 b4] 1 ⟨[(4, vb (decide (a1.B ≤ a2)))], []⟩ ?_
    exact q_J (decide (a1.B ≤ a2)) hm
   ·replace hm := qC b4 hm
    refine q_vn [qf 3 b3, qf 10 b4] 1 ⟨[(4, vb false)], []⟩ ?_
    exact q_J (false) hm
  ·replace hm := qC b3 hm
   refine q_vn [qf 3 b3] 1 ⟨[(4, vb false)], []⟩ ?_
   exact q_J (false) hm
def SO (r : Int × Bool) : V := .tup [.one (ci r.1), .one (cb r.2)]
def ST (r : Int × Bool) : List (Nat × (Nat × O)) := []
def BV (a1 : Product) (a2 : Int) (x3 : Int) : St :=
 ⟨[(1, vi a2), (2, vp 0 0), (9, vc (tl qO default a1.Lengths)), (10, vi ((a1.Lengths.length : Nat) : Int)), (11, vi x3)], [(0, bx 62 (qA a1))]⟩
def OF : St :=
 ⟨[], []⟩
theorem qEo (E : Env 0) (a1 : Product) (a2 : Int) : ∀ (n : Nat) (x3 : Int) (res : (Int × Bool) ⊕ Unit), QC a1 a2 n x3 = some res → HL (kx E 30 0) (nd Tryz.f108 52) (wN 0 (fun o => OF) (fun v st => RetQ Tryz.prog Tryz.f108 (SO v) (ST v) .ret st) res) n (BV a1 a2 x3) := by
 intro n
 induction n with
 | zero =>
  intro x3 res hm
  cases hm
 | succ n ih =>
  intro x3 res hm
  refine qQ ?_
  refine s_vu [] 1 [] [(12, vb (decide (x3 < ((a1.Lengths.length : Nat) : Int))))] [] [] ?_
  refine q_sq ?_
  refine q_cn (decide (x3 < ((a1.Lengths.length : Nat) : Int))) (fun b4 => ?_) (fun b4 => ?_)
  ·replace hm := qB b4 hm
   refine q_sk ?_
   refine q_sq ?_
   refine q_bk 1 ?_
   obtain ⟨g5, hm⟩ := qM hm
   refine s_vu [qd 1 (Dir.none) (inb_of g5)] 1 [12] [(6, vi x3), (7, vi (a1.Lengths.getD x3.toNat default))] [] [] ?_
   refine q_sq ?_
   refine s_vu [] 1 [7] [(18, vb ((a1.Lengths.getD x3.toNat default) != a2))] [] [] ?_
   refine q_cn ((a1.Lengths.getD x3.toNat default) != a2) (fun b6 => ?_) (fun b6 => ?_)
   ·replace hm := qB b6 hm
    refine q_ex 1 ?_
    refine q_vu [] 1 [6, 11, 18] [(11, vi (w64 (x3 + 1)))] [] [] ?_
    exact q_hl (BV a1 a2 (w64 (x3 + 1))) (ih (w64 (x3 + 1)) _ hm)
   ·replace hm := qC b6 hm
    refine q_sk ?_
    refine q_sq ?_
    refine s_vu [] 1 [1, 9, 10, 11, 18] [(23, vb (decide (x3 ≥ ((a1.Prices.length : Nat) : Int))))] [] [] ?_
    refine q_cn (decide (x3 ≥ ((a1.Prices.length : Nat) : Int))) (fun b7 => ?_) (fun b7 => ?_)
    ·replace hm := qB b7 hm
     refine s_vn [] 1 ⟨[(4, vi 0), (5, vb false)], []⟩ ?_
     obtain rfl := oi hm
     refine q_rt ?_
     refine zB (0, false) ?_
     exact q_rm
    ·replace hm := qC b7 hm
     refine q_sk ?_
     obtain ⟨g8, hm⟩ := qM hm
     refine s_vn [qd 3 (Dir.none) (inb_of g8)] 1 ⟨[(4, vi (a1.Prices.getD x3.toNat default)), (5, vb true)], []⟩ ?_
     obtain rfl := oi hm
     refine q_rt ?_
     refine zB ((a1.Prices.getD x3.toNat default), true) ?_
     exact q_rm
  ·replace hm := qC b4 hm
   refine q_ex 0 ?_
   obtain rfl := oi hm
   exact wR () (by kernel_rfl) (by kernel_rfl)
theorem qHd (a1 : Product) (a2 : Int) (r : Int × Bool) (hm : UK a1 a2 = some r) : CtX Tryz.prog globs 108 0 0 [.agg (qA a1), .one (ci a2)] [] (SO r) (ST r) := by
 unfold UK at hm
 refine q_E Tryz.f108 30 fun E => ?_
 refine s_vn [] 0 ⟨[(1, vi a2), (2, vp 0 0)], [(0, bx 62 (qA a1))]⟩ ?_
 refine q_sq ?_
 refine s_vu [] 1 [] [(9, vc (tl qO default a1.Lengths)), (10, vi ((a1.Lengths.length : Nat) : Int)), (11, vi 0)] [] [] ?_
 obtain ⟨u11, h10, hm⟩ := qD hm
 refine zP (nd Tryz.f108 52) 0 (by kernel_rfl) FUEL (fun o => OF) (fun v st => RetQ Tryz.prog Tryz.f108 (SO v) (ST v) .ret st) u11 (q_hl (BV a1 a2 0) (qEo E a1 a2 FUEL 0 u11 h10)) ?_ ?_
 ·rintro v12 rfl st hr
  obtain rfl := oi hm
  exact hr
 ·rintro o9 rfl
  replace hm : _ = some r := hm
  refine s_vn [] 1 ⟨[(4, vi 0), (5, vb false)], []⟩ ?_
  obtain rfl := oi hm
  refine q_rt ?_
  exact q_rm
def qBT (r : Box) : V := va (zC r)
def TW (r : Box) : List (Nat × (Nat × O)) := []
theorem qG4 (r : Box) : VB (TW r) := by
 intro i k o h
 unfold TW at h
 cases h
theorem qAn (a1 : Worth_view) (a2 : Span) (r : Box) (hm : YN a1 a2 = some r) : CtX Tryz.prog globs 105 0 0 [.agg (BN a1), .agg (e_Span a2)] [] (qBT r) (TW r) := by
 unfold YN at hm
 refine q_E Tryz.f105 13 fun E => ?_
 refine s_vn [] 0 ⟨[(2, vp 0 0), (3, vp 1 0), (4, vp 2 0)], [(0, bx 128 (BN a1)), (1, bx 26 (e_Span a2)), (2, bx 67 [ci 0, ci 0, ci 0, ci 0, ci 0, ci 0])]⟩ ?_
 refine s_vn [] 3 ⟨[(4, vp 2 0)], [(2, bx 67 [ci a1.rect.X.A, ci a1.rect.X.B, ci a1.rect.Y.A, ci a1.rect.Y.B, ci a2.A, ci a2.B])]⟩ ?_
 obtain rfl := oi hm
 refine q_rt ?_
 exact q_rm
def qLg (r : Int) : V := vi r
def qLw (r : Int) : List (Nat × (Nat × O)) := []
def qBr (a1 : List Worth_zone) (a2 : Span) (x4 : Int) (x10 : Int) : St :=
 ⟨[(3, vp 0 0), (5, vi x10), (8, vc (tl qN default a1)), (9, vi ((a1.length : Nat) : Int)), (10, vi x4)], [(0, bx 26 (e_Span a2))]⟩
def qBf (a1 : List Worth_zone) (a2 : Span) (x3 : Int) (x4 : Int) (x8 : Bool) : St :=
 ⟨[(3, vp 0 0), (5, vi x3), (7, vp 1 0), (8, vc (tl qN default a1)), (9, vi ((a1.length : Nat) : Int)), (10, vi x4), (27, vb x8)], [(0, bx 26 (e_Span a2)), (1, bx 187 [ci (((a1.getD x4.toNat default).z).A), ci (((a1.getD x4.toNat default).z).B), ci ((a1.getD x4.toNat default).lack)])]⟩
def MV (a1 : List Worth_zone) (a2 : Span) (x3 : Int) (x4 : Int) : St :=
 ⟨[(3, vp 0 0), (5, vi x3), (8, vc (tl qN default a1)), (9, vi ((a1.length : Nat) : Int)), (10, vi x4)], [(0, bx 26 (e_Span a2))]⟩
def qBu (x11 : Int) : St :=
 ⟨[(5, vi x11)], []⟩
theorem qGg (E : Env 0) (a1 : List Worth_zone) (a2 : Span) : ∀ (n : Nat) (x3 : Int) (x4 : Int) (res : Int), jY a1 a2 n x3 x4 = some res → HL (kx E 34 0) (nd Tryz.f109 116) (wC 0 (fun o => qBu o) res) n (MV a1 a2 x3 x4) := by
 intro n
 induction n with
 | zero =>
  intro x3 x4 res hm
  cases hm
 | succ n ih =>
  intro x3 x4 res hm
  refine qQ ?_
  refine s_vu [] 1 [] [(11, vb (decide (x4 < ((a1.length : Nat) : Int))))] [] [] ?_
  refine q_sq ?_
  refine q_cn (decide (x4 < ((a1.length : Nat) : Int))) (fun b5 => ?_) (fun b5 => ?_)
  ·replace hm := qB b5 hm
   refine q_sk ?_
   refine q_jn (ι := Int) (fun p => qBr a1 a2 x4 p) (fun p => FG x4 (jY a1 a2 n) p = some res) ?_ ?_
   ·rintro x10 hm
    show H _ (qBr a1 a2 x4 x10) _ _
    refine q_vu [] 2 [10] [(10, vi (w64 (x4 + 1)))] [] [] ?_
    exact q_hl (MV a1 a2 x10 (w64 (x4 + 1))) (ih x10 (w64 (x4 + 1)) _ hm)
   ·refine q_bk 1 ?_
    obtain ⟨g6, hm⟩ := qM hm
    refine s_vu [qd 0 (Dir.none) (inb_of g6)] 1 [11] [(7, vp 1 0)] [] [(1, bx 187 [ci (((a1.getD x4.toNat default).z).A), ci (((a1.getD x4.toNat default).z).B), ci ((a1.getD x4.toNat default).lack)])] ?_
    refine q_jn (ι := Bool) (fun p => qBf a1 a2 x3 x4 p) (fun p => NN a1 x3 x4 (jY a1 a2 n) p = some res) ?_ ?_
    ·rintro x8 hm
     show H _ (qBf a1 a2 x3 x4 x8) _ _
     refine q_cn x8 (fun b9 => ?_) (fun b9 => ?_)
     ·replace hm := qB b9 hm
      refine q_vu [] 2 [5, 7, 27] [(5, vi (imax x3 ((a1.getD x4.toNat default).lack)))] [1] [] ?_
      exact q_J (imax x3 ((a1.getD x4.toNat default).lack)) hm
     ·replace hm := qC b9 hm
      refine q_sk ?_
      exact q_J (x3) hm
    ·rcases Bool.eq_false_or_eq_true (decide ((((a1.getD x4.toNat default).z).A) < a2.B)) with b7 | b7
     ·replace hm := qB b7 hm
      refine q_vu [qf 6 b7] 2 [] [(27, vb (decide (a2.A < (((a1.getD x4.toNat default).z).B))))] [] [] ?_
      exact q_J (decide (a2.A < (((a1.getD x4.toNat default).z).B))) hm
     ·replace hm := qC b7 hm
      refine q_vu [qf 6 b7] 2 [] [(27, vb false)] [] [] ?_
      exact q_J (false) hm
  ·replace hm := qC b5 hm
   refine q_ex 0 ?_
   obtain rfl := oi hm
   exact jP (by kernel_rfl) (by kernel_rfl)
theorem qIM (a1 : List Worth_zone) (a2 : Span) (r : Int) (hm : LM a1 a2 = some r) : CtX Tryz.prog globs 109 0 0 [.one (tl qN default a1), .agg (e_Span a2)] [] (qLg r) (qLw r) := by
 unfold LM at hm
 refine q_E Tryz.f109 34 fun E => ?_
 refine s_vn [] 0 ⟨[(0, vc (tl qN default a1)), (3, vp 0 0)], [(0, bx 26 (e_Span a2))]⟩ ?_
 refine s_vu [] 1 [] [(5, vi 0)] [] [] ?_
 refine q_sq ?_
 refine s_vu [] 1 [0] [(8, vc (tl qN default a1)), (9, vi ((a1.length : Nat) : Int)), (10, vi 0)] [] [] ?_
 obtain ⟨o12, h13, hm⟩ := qD hm
 refine zX (nd Tryz.f109 116) 0 (by kernel_rfl) FUEL (fun o => qBu o) o12 (q_hl (MV a1 a2 0 0) (qGg E a1 a2 FUEL 0 0 o12 h13)) ?_
 refine s_vn [] 1 ⟨[(4, vi o12)], []⟩ ?_
 obtain rfl := oi hm
 refine q_rt ?_
 exact q_rm
def PF (r : Int × Bool) : V := .tup [.one (ci r.1), .one (cb r.2)]
def QJ (r : Int × Bool) : List (Nat × (Nat × O)) := []
theorem qFh (r : Int × Bool) : VB (QJ r) := by
 intro i k o h
 unfold QJ at h
 cases h
def SF (a1 : Worth_view) (a3 : Int) (v14 : Box) (x17 : Int) (x24 : Int) : St :=
 ⟨[(2, vi a3), (8, vi x24), (10, vp 2 0), (45, vc (tl qI default a1.defects)), (46, vi ((a1.defects.length : Nat) : Int)), (47, vi x17)], [(2, bx 67 (zC v14))]⟩
def RO (a1 : Worth_view) (a3 : Int) (v14 : Box) (x16 : Int) (x17 : Int) : St :=
 ⟨[(2, vi a3), (8, vi x16), (10, vp 2 0), (45, vc (tl qI default a1.defects)), (46, vi ((a1.defects.length : Nat) : Int)), (47, vi x17)], [(2, bx 67 (zC v14))]⟩
def SB (x25 : Int) : St :=
 ⟨[(8, vi x25)], []⟩
def HV (a1 : Worth_view) (a2 : Span) (a3 : Int) (v7 : Int × Bool) (x12 : Bool) : St :=
 ⟨[(2, vi a3), (3, vp 0 0), (4, vp 1 0), (8, vi v7.1), (40, vb x12)], [(0, bx 128 (BN a1)), (1, bx 26 (e_Span a2))]⟩
theorem qC5 (E : Env 0) (a1 : Worth_view) (a3 : Int) (v14 : Box) : ∀ (n : Nat) (x16 : Int) (x17 : Int) (res : (Int × Bool) ⊕ Int), zL a1 a3 v14 n x16 x17 = some res → HL (kx E 64 0) (nd Tryz.f68 1012) (wN 0 (fun o => SB o) (fun v st => RetQ Tryz.prog Tryz.f68 (PF v) (QJ v) .ret st) res) n (RO a1 a3 v14 x16 x17) := by
 intro n
 induction n with
 | zero =>
  intro x16 x17 res hm
  cases hm
 | succ n ih =>
  intro x16 x17 res hm
  refine qQ ?_
  refine s_vu [] 3 [] [(48, vb (decide (x17 < ((a1.defects.length : Nat) : Int))))] [] [] ?_
  refine q_sq ?_
  refine q_cn (decide (x17 < ((a1.defects.length : Nat) : Int))) (fun b18 => ?_) (fun b18 => ?_)
  ·replace hm := qB b18 hm
   refine q_sk ?_
   refine q_jn (ι := Int) (fun p => SF a1 a3 v14 x17 p) (fun p => XK x17 (zL a1 a3 v14 n) p = some res) ?_ ?_
   ·rintro x24 hm
    show H _ (SF a1 a3 v14 x17 x24) _ _
    refine q_vu [] 4 [47] [(47, vi (w64 (x17 + 1)))] [] [] ?_
    exact q_hl (RO a1 a3 v14 x24 (w64 (x17 + 1))) (ih x24 (w64 (x17 + 1)) _ hm)
   ·refine q_bk 1 ?_
    obtain ⟨g19, hm⟩ := qM hm
    refine s_vu [qd 0 (Dir.none) (inb_of g19)] 3 [48] [(12, vp 3 0)] [] [(3, bx 135 [ci ((a1.defects.getD x17.toNat default).Kind), ci ((((a1.defects.getD x17.toNat default).Box).X).A), ci ((((a1.defects.getD x17.toNat default).Box).X).B), ci ((((a1.defects.getD x17.toNat default).Box).Y).A), ci ((((a1.defects.getD x17.toNat default).Box).Y).B), ci ((((a1.defects.getD x17.toNat default).Box).Z).A), ci ((((a1.defects.getD x17.toNat default).Box).Z).B)])] ?_
    refine q_sq ?_
    obtain ⟨v20, h21, hm⟩ := qD hm
    refine s_vu [qc 2 [51, 52] 4 (CR (a1.defects.getD x17.toNat default) v14 v20 h21)] 4 [] [(54, vb (!v20))] [] [] ?_
    refine q_cn (!v20) (fun b22 => ?_) (fun b22 => ?_)
    ·replace hm := qB b22 hm
     refine q_ex 1 ?_
     exact q_J (x16) hm
    ·replace hm := qC b22 hm
     refine q_sk ?_
     refine q_sq ?_
     refine s_vu [] 4 [12, 54] [(57, vb (((a1.defects.getD x17.toNat default).Kind) == 3))] [3] [] ?_
     refine q_cn (((a1.defects.getD x17.toNat default).Kind) == 3) (fun b23 => ?_) (fun b23 => ?_)
     ·replace hm := qB b23 hm
      refine s_vn [] 4 ⟨[(6, vi 0), (7, vb false)], []⟩ ?_
      obtain rfl := oi hm
      refine q_rt ?_
      refine zB (0, false) ?_
      exact q_rm
     ·replace hm := qC b23 hm
      refine q_sk ?_
      refine q_vu [] 4 [8, 57] [(8, vi (w64 (x16 - a3)))] [] [] ?_
      exact q_J (w64 (x16 - a3)) hm
  ·replace hm := qC b18 hm
   refine q_ex 0 ?_
   obtain rfl := oi hm
   exact wR x16 (by kernel_rfl) (by kernel_rfl)
theorem worth_view_worth_ok (a1 : Worth_view) (a2 : Span) (a3 : Int) (r : Int × Bool) (hm : WG a1 a2 a3 = some r) : CtX Tryz.prog globs 68 0 0 [.agg (BN a1), .agg (e_Span a2), .one (ci a3)] [] (PF r) (QJ r) := by
 unfold WG at hm
 refine q_E Tryz.f68 64 fun E => ?_
 refine s_vn [] 0 ⟨[(2, vi a3), (3, vp 0 0), (4, vp 1 0)], [(0, bx 128 (BN a1)), (1, bx 26 (e_Span a2))]⟩ ?_
 refine q_sq ?_
 obtain ⟨v4, h5, hm⟩ := qD hm
 refine s_vu [qc 3 [13, 15] 2 (qF7 a2 a1.length v4 h5)] 2 [] [(17, vb (!v4))] [] [] ?_
 refine q_cn (!v4) (fun b6 => ?_) (fun b6 => ?_)
 ·replace hm := qB b6 hm
  refine s_vn [] 2 ⟨[(6, vi 0), (7, vb false)], []⟩ ?_
  obtain rfl := oi hm
  refine q_rt ?_
  exact q_rm
 ·replace hm := qC b6 hm
  refine q_sk ?_
  obtain ⟨v7, h8, hm⟩ := qD hm
  refine s_vu [qc 7 [20, 25] 2 (qHd a1.product (w64 (a2.B - a2.A)) v7 h8)] 2 [17] [(8, vi v7.1), (9, vb v7.2)] [] [] ?_
  refine q_sq ?_
  refine q_jn (ι := Bool) (fun p => HV a1 a2 a3 v7 p) (fun p => XM a1 a2 a3 v7 p = some r) ?_ ?_
  ·rintro x12 hm
   show H _ (HV a1 a2 a3 v7 x12) _ _
   refine q_cn x12 (fun b13 => ?_) (fun b13 => ?_)
   ·replace hm := qB b13 hm
    refine s_vn [] 2 ⟨[(6, vi 0), (7, vb false)], []⟩ ?_
    obtain rfl := oi hm
    refine q_rt ?_
    exact q_rm
   ·replace hm := qC b13 hm
    refine q_sk ?_
    obtain ⟨v14, h15, hm⟩ := qD hm
    refine s_vu [qc 2 [41, 42] 2 (qAn a1 a2 v14 h15)] 2 [4, 40] [(10, vp 2 0)] [1] [(2, bx 67 (zC v14))] ?_
    refine q_sq ?_
    refine s_vu [] 3 [3] [(45, vc (tl qI default a1.defects)), (46, vi ((a1.defects.length : Nat) : Int)), (47, vi 0)] [0] [] ?_
    obtain ⟨u28, h27, hm⟩ := qD hm
    refine zP (nd Tryz.f68 1012) 0 (by kernel_rfl) FUEL (fun o => SB o) (fun v st => RetQ Tryz.prog Tryz.f68 (PF v) (QJ v) .ret st) u28 (q_hl (RO a1 a3 v14 v7.1 0) (qC5 E a1 a3 v14 FUEL v7.1 0 u28 h27)) ?_ ?_
    ·rintro v29 rfl st hr
     obtain rfl := oi hm
     exact hr
    ·rintro o26 rfl
     replace hm : _ = some r := hm
     refine s_vn [] 3 ⟨[(6, vi (imax o26 0)), (7, vb true)], []⟩ ?_
     obtain rfl := oi hm
     refine q_rt ?_
     exact q_rm
  ·rcases Bool.eq_false_or_eq_true (!v7.2) with b9 | b9
   ·replace hm := qB b9 hm
    refine q_du [qf 2 b9] [0, 1, 3, 7, 15, 7, 63, 7, 135, 391, 1023, 2047] 2 [9] [(40, vb true)] [] [] ?_
    exact q_J (true) hm
   ·replace hm := qC b9 hm
    obtain ⟨v10, h11, hm⟩ := qD hm
    refine q_du [qf 2 b9, qk 6 [31, 33, 34] 2 ⟨[(31, vb false), (33, vc (tl qN default a1.zones)), (34, va (e_Span a2))], []⟩ (qIM a1.zones a2 v10 h11)] [0, 1, 3, 7, 15, 7, 63, 7, 135, 391, 1023, 2047] 2 [9] [(40, vb (decide (v10 > a1.product.Wane)))] [] [] ?_
    exact q_J (decide (v10 > a1.product.Wane)) hm
def qJG (r : Int) : V := vi r
def qJu (r : Int) : List (Nat × (Nat × O)) := []
def FT (v2 : (List Slice)) (x4 : Int) (x5 : Int) : St :=
 ⟨[(3, vi x4), (7, vc (tl qH default v2)), (8, vi ((v2.length : Nat) : Int)), (9, vi x5)], []⟩
def qAB (x8 : Int) : St :=
 ⟨[(3, vi x8)], []⟩
theorem qE5 (E : Env 0) (v2 : (List Slice)) : ∀ (n : Nat) (x4 : Int) (x5 : Int) (res : Int), ZB v2 n x4 x5 = some res → HL (kx E 19 0) (nd Tryz.f47 116) (wC 0 (fun o => qAB o) res) n (FT v2 x4 x5) := by
 intro n
 induction n with
 | zero =>
  intro x4 x5 res hm
  cases hm
 | succ n ih =>
  intro x4 x5 res hm
  refine qQ ?_
  refine s_vu [] 0 [] [(10, vb (decide (x5 < ((v2.length : Nat) : Int))))] [] [] ?_
  refine q_sq ?_
  refine q_cn (decide (x5 < ((v2.length : Nat) : Int))) (fun b6 => ?_) (fun b6 => ?_)
  ·replace hm := qB b6 hm
   refine q_sk ?_
   refine q_sq ?_
   refine q_bk 1 ?_
   obtain ⟨g7, hm⟩ := qM hm
   refine s_vu [qd 0 (Dir.none) (inb_of g7)] 0 [10] [(5, vp 0 0)] [] [(0, bx 59 [ci ((v2.getD x5.toNat default).Len), ci (((v2.getD x5.toNat default).Sec).Low), tl e_Span default (((v2.getD x5.toNat default).Sec).Rows)])] ?_
   refine q_vu [] 1 [3, 5] [(3, vi (w64 (x4 + ((v2.getD x5.toNat default).Len))))] [0] [] ?_
   refine q_vu [] 1 [9] [(9, vi (w64 (x5 + 1)))] [] [] ?_
   exact q_hl (FT v2 (w64 (x4 + ((v2.getD x5.toNat default).Len))) (w64 (x5 + 1))) (ih (w64 (x4 + ((v2.getD x5.toNat default).Len))) (w64 (x5 + 1)) _ hm)
  ·replace hm := qC b6 hm
   refine q_ex 0 ?_
   obtain rfl := oi hm
   exact jP (by kernel_rfl) (by kernel_rfl)
theorem qCQ (a1 : List Slice) (r : Int) (hm : RV a1 = some r) : CtX Tryz.prog globs 47 0 0 [.one (tl qH default a1)] [] (qJG r) (qJu r) := by
 unfold RV at hm
 refine q_E Tryz.f47 19 fun E => ?_
 refine s_vn [] 0 ⟨[(0, vc (tl qH default a1))], []⟩ ?_
 refine s_vu [] 0 [] [(3, vi 0)] [] [] ?_
 refine q_sq ?_
 obtain ⟨v2, h3, hm⟩ := qD hm
 refine s_vu [qc 1 [6] 0 (AQ a1 v2 h3)] 0 [0] [(7, vc (tl qH default v2)), (8, vi ((v2.length : Nat) : Int)), (9, vi 0)] [] [] ?_
 obtain ⟨o9, h10, hm⟩ := qD hm
 refine zX (nd Tryz.f47 116) 0 (by kernel_rfl) FUEL (fun o => qAB o) o9 (q_hl (FT v2 0 0) (qE5 E v2 FUEL 0 0 o9 h10)) ?_
 refine s_vn [] 0 ⟨[(2, vi o9)], []⟩ ?_
 obtain rfl := oi hm
 refine q_rt ?_
 exact q_rm
end Saw
end Go.SL
