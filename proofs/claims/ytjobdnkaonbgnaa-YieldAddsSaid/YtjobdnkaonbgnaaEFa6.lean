import Derived.Test.YtjobdnkaonbgnaaEBase
import Derived.Test.YtjobdnkaonbgnaaEFa5
import Derived.Test.YtjobdnkaonbgnaaEFa4
import Derived.Test.YtjobdnkaonbgnaaEFa2
import Derived.Test.YtjobdnkaonbgnaaEFa3
set_option linter.unusedVariables false
set_option linter.unusedSimpArgs false
namespace Go.SL
namespace Saw
open Go.Proofs
set_option maxHeartbeats 4000000
set_option maxRecDepth 100000
noncomputable def ZL (a1 : Pattern) (a2 : Pattern) (a3 : Int) (a4 : List Leaf) (ri : RI 48) (r : Nat × (List Leaf)) : V := .undef
noncomputable def ZO (a1 : Pattern) (a2 : Pattern) (a3 : Int) (a4 : List Leaf) (ri : RI 48) (r : Nat × (List Leaf)) : List (Nat × (Nat × O)) := [(0, lz (rc Try.f40 122 ri) ri.b [] r.1), (1, bx 31 (qD a1)), (2, bx 93 [.own 5 0 5 r.2.length]), (3, bx 31 (qD a2)), (4, bx 3 [ci a3]), (5, ro 0 100 5 r.2.length (rf qS r.2))]
noncomputable def YX (ri : RI 48) (a1 : Pattern) (a2 : Pattern) (a3 : Int) (x6 : Int) (l22 : List Pattern_place) (l22n : Nat) (l23 : List Leaf) (l23n : Nat) : St :=
 ⟨[(0, vc (.yl (rc Try.f40 122 ri) ri.b [2, 7] [.bptr 1 0 0, .bptr 2 0 0])), (1, vp 3 0), (2, vp 4 0), (4, vo 6 0 5 l22n), (5, vi x6)], [(0, lq (rc Try.f40 122 ri) ri.b), (1, bx 31 (qD a1)), (2, bx 93 [.own 5 0 5 l23n]), (3, bx 31 (qD a2)), (4, bx 3 [ci a3]), (5, ro 0 100 5 l23n (rf qS l23)), (6, ro 0 123 5 l22n (rf e_Pattern_place l22))]⟩
noncomputable def yL (ri : RI 48) (a1 : Pattern) (a2 : Pattern) (a3 : Int) (l5 : List Pattern_place) (l5n : Nat) (x6 : Int) (l7 : List Leaf) (l7n : Nat) : St :=
 ⟨[(0, vc (.yl (rc Try.f40 122 ri) ri.b [2, 7] [.bptr 1 0 0, .bptr 2 0 0])), (1, vp 3 0), (2, vp 4 0), (4, vo 6 0 5 l5n), (5, vi x6)], [(0, lq (rc Try.f40 122 ri) ri.b), (1, bx 31 (qD a1)), (2, bx 93 [.own 5 0 5 l7n]), (3, bx 31 (qD a2)), (4, bx 3 [ci a3]), (5, ro 0 100 5 l7n (rf qS l7)), (6, ro 0 123 5 l5n (rf e_Pattern_place l5))]⟩
noncomputable def YP (ri : RI 48) (a1 : Pattern) (a2 : Pattern) (a3 : Int) (l24 : List Leaf) : St :=
 ⟨[], [(0, lq (rc Try.f40 122 ri) ri.b), (1, bx 31 (qD a1)), (2, bx 93 [.own 5 0 5 l24.length]), (3, bx 31 (qD a2)), (4, bx 3 [ci a3]), (5, ro 0 100 5 l24.length (rf qS l24))]⟩
theorem NH (E : Env 6) (ri : RI 48) (a1 : Pattern) (a2 : Pattern) (a3 : Int) (a4 : List Leaf) : ∀ (n : Nat) (l5 : List Pattern_place) (l5n : Nat) (x6 : Int) (l7 : List Leaf) (l7n : Nat) (res : (Nat × (List Leaf)) ⊕ (List Leaf)), l5.length = l5n → l7.length = l7n → wF a1 a2 a3 n l5 x6 l7 = some res → HL (kx E 73 5) (nd Try.f75 28) (jD 0 (fun o => YP ri a1 a2 a3 o) (fun v st => RetQ Try.prog Try.f75 (ZL a1 a2 a3 a4 ri v) (ZO a1 a2 a3 a4 ri v) .ret st) res) n (yL ri a1 a2 a3 l5 l5n x6 l7 l7n) := by
 intro n
 induction n with
 | zero =>
  intro l5 l5n x6 l7 l7n res hl0 hl1 hm
  cases hm
 | succ n ih =>
  intro l5 l5n x6 l7 l7n res hl0 hl1 hm
  subst hl0
  subst hl1
  refine qV ?_
  refine q_sq ?_
  refine q_sq ?_
  refine q_vu [] 7 [] [(17, vb (decide (((l5.length : Nat) : Int) > 0)))] [] [] ?_
  refine q_cn (decide (((l5.length : Nat) : Int) > 0)) (fun b8 => ?_) (fun b8 => ?_)
  ·replace hm := qA b8 hm
   refine q_sk ?_
   refine q_jn (ι := (List Pattern_place) × Nat × (List Leaf) × Nat) (fun p => YX ri a1 a2 a3 x6 p.1 p.2.1 p.2.2.1 p.2.2.2) (fun p => p.1.length = p.2.1 ∧ p.2.2.1.length = p.2.2.2 ∧ QU x6 (wF a1 a2 a3 n) p.1 p.2.2.1 = some res) ?_ ?_
   ·rintro ⟨l22, l22n, l23, l23n⟩ ⟨el22, el23, hm⟩
    replace el22 : l22.length = l22n := el22
    subst el22
    replace el23 : l23.length = l23n := el23
    subst el23
    show H _ (YX ri a1 a2 a3 x6 l22 l22.length l23 l23.length) _ _
    refine q_vu [] 13 [5] [(5, vi (w64 (x6 + 1)))] [] [] ?_
    exact q_hl (yL ri a1 a2 a3 l22 l22.length (w64 (x6 + 1)) l23 l23.length) (ih l22 l22.length (w64 (x6 + 1)) l23 l23.length _ rfl rfl hm)
   ·refine q_bk 1 ?_
    refine q_sq ?_
    obtain ⟨g9, hm⟩ := qO hm
    refine q_vu [qd 4 (Dir.none) (inb_of g9), qd 5 (Dir.none) (toNat_lt (inb_of g9))] 7 [17] [(6, vp 7 0)] [] [(7, bx 123 [ci ((((l5.getD ((w64 (((l5.length : Nat) : Int) - 1)).toNat) default).rect).X).A), ci ((((l5.getD ((w64 (((l5.length : Nat) : Int) - 1)).toNat) default).rect).X).B), ci ((((l5.getD ((w64 (((l5.length : Nat) : Int) - 1)).toNat) default).rect).Y).A), ci ((((l5.getD ((w64 (((l5.length : Nat) : Int) - 1)).toNat) default).rect).Y).B), ci ((l5.getD ((w64 (((l5.length : Nat) : Int) - 1)).toNat) default).level)])] ?_
    refine q_sq ?_
    obtain ⟨g10, hm⟩ := qO hm
    refine q_wu [qd 4 (Dir.none) (And.intro (slOk_of g10).2.1 (slOk_of g10).2.2)] [.row 6 ((w64 (((l5.length : Nat) : Int) - 1)).toNat) (rf e_Pattern_place (l5.take ((w64 (((l5.length : Nat) : Int) - 1)).toNat)))] (o1 (tkP e_Pattern_place default l5 l5.length ((w64 (((l5.length : Nat) : Int) - 1)).toNat) (show (w64 (((l5.length : Nat) : Int) - 1)).toNat ≤ l5.length by have := (slOk_of g10); omega))) 8 [4] [(4, vo 6 0 5 ((w64 (((l5.length : Nat) : Int) - 1)).toNat))] [6] [(6, ro 0 123 5 ((w64 (((l5.length : Nat) : Int) - 1)).toNat) (rf e_Pattern_place (l5.take ((w64 (((l5.length : Nat) : Int) - 1)).toNat))))] ?_
    refine q_sq ?_
    refine q_sq ?_
    obtain ⟨v11, h12, hm⟩ := qC hm
    rcases Bool.eq_false_or_eq_true (!(Nat.beq v11.1 0)) with b13 | b13
    ·replace hm := qA b13 hm
     refine q_vu [qd 3 (dex (cen [(0, 0), (1, 0), (2, 0), (5, 0)] [0, 0, 0, 1] 4 3 (QS x6 (l5.getD ((w64 (((l5.length : Nat) : Int) - 1)).toNat) default) a1 l7 ri v11) (QQ x6 (l5.getD ((w64 (((l5.length : Nat) : Int) - 1)).toNat) default) a1 l7 ri v11) [31, 32, 33] [0, 1, 2, 5])) (NM (K := (kx E 73 5)) ⟨[(31, vc (.yl (rc Try.f40 122 ri) ri.b [2, 7] [.bptr 1 0 0, .bptr 2 0 0])), (32, vi x6), (33, va [ci ((((l5.getD ((w64 (((l5.length : Nat) : Int) - 1)).toNat) default).rect).X).A), ci ((((l5.getD ((w64 (((l5.length : Nat) : Int) - 1)).toNat) default).rect).X).B), ci ((((l5.getD ((w64 (((l5.length : Nat) : Int) - 1)).toNat) default).rect).Y).A), ci ((((l5.getD ((w64 (((l5.length : Nat) : Int) - 1)).toNat) default).rect).Y).B), ci ((l5.getD ((w64 (((l5.length : Nat) : Int) - 1)).toNat) default).level)])], [(0, lq (rc Try.f40 122 ri) ri.b), (1, bx 31 (qD a1)), (2, bx 93 [.own 5 0 5 l7.length]), (5, ro 0 100 5 l7.length (rf qS l7))]⟩ (opAt (rg Try.f75 3660) 3) [(0, 0), (1, 0), (2, 0), (5, 0)] [0, 0, 0, 1] 4 0 o0 rfl (KB x6 (l5.getD ((w64 (((l5.length : Nat) : Int) - 1)).toNat) default) a1 l7 ri v11 h12) (.inl rfl) (by kernel_rfl)), qf 5 b13] 8 [] [(42, vb true)] [0, 2, 5] [(0, lz (rc Try.f40 122 ri) ri.b [] v11.1), (2, bx 93 [.own 5 1 5 v11.2.length]), (5, ro 1 100 5 v11.2.length (rf qS v11.2))] ?_
     refine qCL Try.f75 (.tmp 42) 7322 7323 (by kernel_rfl) (by kernel_rfl) ?_
     obtain rfl := Option.some.inj hm
     refine q_rt ?_
     refine zB (v11.1, v11.2) ?_
     exact q_rm
    ·replace hm := qB b13 hm
     refine q_wu [qd 3 (dex (cen [(0, 0), (1, 0), (2, 0), (5, 0)] [0, 0, 0, 1] 4 3 (QS x6 (l5.getD ((w64 (((l5.length : Nat) : Int) - 1)).toNat) default) a1 l7 ri v11) (QQ x6 (l5.getD ((w64 (((l5.length : Nat) : Int) - 1)).toNat) default) a1 l7 ri v11) [31, 32, 33] [0, 1, 2, 5])) (NM (K := (kx E 73 5)) ⟨[(31, vc (.yl (rc Try.f40 122 ri) ri.b [2, 7] [.bptr 1 0 0, .bptr 2 0 0])), (32, vi x6), (33, va [ci ((((l5.getD ((w64 (((l5.length : Nat) : Int) - 1)).toNat) default).rect).X).A), ci ((((l5.getD ((w64 (((l5.length : Nat) : Int) - 1)).toNat) default).rect).X).B), ci ((((l5.getD ((w64 (((l5.length : Nat) : Int) - 1)).toNat) default).rect).Y).A), ci ((((l5.getD ((w64 (((l5.length : Nat) : Int) - 1)).toNat) default).rect).Y).B), ci ((l5.getD ((w64 (((l5.length : Nat) : Int) - 1)).toNat) default).level)])], [(0, lq (rc Try.f40 122 ri) ri.b), (1, bx 31 (qD a1)), (2, bx 93 [.own 5 0 5 l7.length]), (5, ro 0 100 5 l7.length (rf qS l7))]⟩ (opAt (rg Try.f75 3660) 3) [(0, 0), (1, 0), (2, 0), (5, 0)] [0, 0, 0, 1] 4 0 o0 rfl (KB x6 (l5.getD ((w64 (((l5.length : Nat) : Int) - 1)).toNat) default) a1 l7 ri v11 h12) (.inl rfl) (by kernel_rfl)), qf 5 b13] [.lpn 0 .ready none] (o1 (qAz (js := []) b13)) 8 [] [(42, vb (decide (x6 ≥ ((a2.Nodes.length : Nat) : Int))))] [2, 5] [(2, bx 93 [.own 5 1 5 v11.2.length]), (5, ro 1 100 5 v11.2.length (rf qS v11.2))] ?_
     refine q_cn (decide (x6 ≥ ((a2.Nodes.length : Nat) : Int))) (fun b14 => ?_) (fun b14 => ?_)
     ·replace hm := qA b14 hm
      obtain rfl := Option.some.inj hm
      refine q_rt ?_
      refine zB (0, v11.2) ?_
      exact q_rm
     ·replace hm := qB b14 hm
      refine q_sk ?_
      refine q_sq ?_
      obtain ⟨g15, hm⟩ := qO hm
      refine q_vu [qd 3 (Dir.none) (inb_of g15)] 8 [42] [(7, vp 8 0)] [] [(8, bx 59 [ci ((a2.Nodes.getD x6.toNat default).Kind), ci ((a2.Nodes.getD x6.toNat default).At)])] ?_
      refine q_sq ?_
      obtain ⟨v16, h17, hm⟩ := qC hm
      refine q_vu [qc 2 [49] 9 (jI ((a2.Nodes.getD x6.toNat default).Kind) v16 h17)] 9 [] [(50, vb v16)] [] [] ?_
      refine q_cn v16 (fun b18 => ?_) (fun b18 => ?_)
      ·replace hm := qA b18 hm
       refine q_sq ?_
       obtain ⟨v19, h20, hm⟩ := qC hm
       refine q_vu [qc 4 [53, 54, 55] 9 (yM ((l5.getD ((w64 (((l5.length : Nat) : Int) - 1)).toNat) default).rect) (a2.Nodes.getD x6.toNat default) a3 v19 h20)] 9 [7, 50] [(8, vp 9 0), (10, vp 11 0)] [8] [(9, bx 28 (qK v19.1)), (11, bx 28 (qK v19.2.2))] ?_
       obtain ⟨g21, hm⟩ := qO hm
       refine q_vu [qd 11 (drw 12 0 (rf e_Pattern_place ([(Pattern_place.mk v19.2.2 (w64 (((l5.getD ((w64 (((l5.length : Nat) : Int) - 1)).toNat) default).level) + 1))), (Pattern_place.mk v19.1 (w64 (((l5.getD ((w64 (((l5.length : Nat) : Int) - 1)).toNat) default).level) + 1)))] : List Pattern_place))) (litP e_Pattern_place default 5 (fun _ => rfl) ([(Pattern_place.mk v19.2.2 (w64 (((l5.getD ((w64 (((l5.length : Nat) : Int) - 1)).toNat) default).level) + 1))), (Pattern_place.mk v19.1 (w64 (((l5.getD ((w64 (((l5.length : Nat) : Int) - 1)).toNat) default).level) + 1)))] : List Pattern_place) 2 rfl), qd 12 (drw 6 1 (rf e_Pattern_place ((l5.take ((w64 (((l5.length : Nat) : Int) - 1)).toNat)) ++ ([(Pattern_place.mk v19.2.2 (w64 (((l5.getD ((w64 (((l5.length : Nat) : Int) - 1)).toNat) default).level) + 1))), (Pattern_place.mk v19.1 (w64 (((l5.getD ((w64 (((l5.length : Nat) : Int) - 1)).toNat) default).level) + 1)))] : List Pattern_place)))) (apP e_Pattern_place default (l5.take ((w64 (((l5.length : Nat) : Int) - 1)).toNat)) ([(Pattern_place.mk v19.2.2 (w64 (((l5.getD ((w64 (((l5.length : Nat) : Int) - 1)).toNat) default).level) + 1))), (Pattern_place.mk v19.1 (w64 (((l5.getD ((w64 (((l5.length : Nat) : Int) - 1)).toNat) default).level) + 1)))] : List Pattern_place) ((w64 (((l5.length : Nat) : Int) - 1)).toNat) 2 5 40 (2 ≤ 2) (Nat.le_refl _) (jT rfl (show (w64 (((l5.length : Nat) : Int) - 1)).toNat ≤ l5.length by have := (slOk_of g10); omega)) rfl (fun _ => rfl) (ZX g21))] 12 [4, 6, 8, 10] [(4, vo 6 1 5 ((w64 (((l5.length : Nat) : Int) - 1)).toNat + 2))] [6, 7, 9, 11] [(6, ro 1 123 5 ((w64 (((l5.length : Nat) : Int) - 1)).toNat + 2) (rf e_Pattern_place ((l5.take ((w64 (((l5.length : Nat) : Int) - 1)).toNat)) ++ ([(Pattern_place.mk v19.2.2 (w64 (((l5.getD ((w64 (((l5.length : Nat) : Int) - 1)).toNat) default).level) + 1))), (Pattern_place.mk v19.1 (w64 (((l5.getD ((w64 (((l5.length : Nat) : Int) - 1)).toNat) default).level) + 1)))] : List Pattern_place))))] ?_
       exact q_J (((l5.take ((w64 (((l5.length : Nat) : Int) - 1)).toNat)) ++ ([(Pattern_place.mk v19.2.2 (w64 (((l5.getD ((w64 (((l5.length : Nat) : Int) - 1)).toNat) default).level) + 1))), (Pattern_place.mk v19.1 (w64 (((l5.getD ((w64 (((l5.length : Nat) : Int) - 1)).toNat) default).level) + 1)))] : List Pattern_place)), ((w64 (((l5.length : Nat) : Int) - 1)).toNat + 2), v11.2, v11.2.length) ⟨(len_app (jT rfl (show (w64 (((l5.length : Nat) : Int) - 1)).toNat ≤ l5.length by have := (slOk_of g10); omega)) rfl), rfl, hm⟩
      ·replace hm := qB b18 hm
       refine q_sk ?_
       exact q_J ((l5.take ((w64 (((l5.length : Nat) : Int) - 1)).toNat)), (w64 (((l5.length : Nat) : Int) - 1)).toNat, v11.2, v11.2.length) ⟨(jT rfl (show (w64 (((l5.length : Nat) : Int) - 1)).toNat ≤ l5.length by have := (slOk_of g10); omega)), rfl, hm⟩
  ·replace hm := qB b8 hm
   refine q_ex 0 ?_
   obtain rfl := Option.some.inj hm
   exact jJ l7 (by kernel_rfl) (by kernel_rfl)
theorem ML (a1 : Pattern) (a2 : Pattern) (a3 : Int) (a4 : List Leaf) (ri : RI 48) (r : Nat × (List Leaf)) (hm : JL a1 a2 a3 a4 = some r) : CtX Try.prog globs 75 6 5 [.one (.yl (rc Try.f40 122 ri) ri.b [2, 7] [.bptr 1 0 0, .bptr 2 0 0]), .one (.bptr 3 0 0), .one (.bptr 4 0 0)] [(0, lq (rc Try.f40 122 ri) ri.b), (1, bx 31 (qD a1)), (2, bx 93 [.own 5 0 5 a4.length]), (3, bx 31 (qD a2)), (4, bx 3 [ci a3]), (5, ro 0 100 5 a4.length (rf qS a4))] (ZL a1 a2 a3 a4 ri r) (ZO a1 a2 a3 a4 ri r) := by
 unfold JL at hm
 refine q_E Try.f75 73 fun E => ?_
 refine q_sq ?_
 refine q_vn [qd 3 (drw 6 0 (rf e_Pattern_place ([(Pattern_place.mk a2.Frame 1)] : List Pattern_place))) (litP e_Pattern_place default 5 (fun _ => rfl) ([(Pattern_place.mk a2.Frame 1)] : List Pattern_place) 1 rfl)] 6 ⟨[(0, vc (.yl (rc Try.f40 122 ri) ri.b [2, 7] [.bptr 1 0 0, .bptr 2 0 0])), (1, vp 3 0), (2, vp 4 0), (4, vo 6 0 5 1)], [(0, lq (rc Try.f40 122 ri) ri.b), (1, bx 31 (qD a1)), (2, bx 93 [.own 5 0 5 a4.length]), (3, bx 31 (qD a2)), (4, bx 3 [ci a3]), (5, ro 0 100 5 a4.length (rf qS a4)), (6, ro 0 123 5 1 (rf e_Pattern_place ([(Pattern_place.mk a2.Frame 1)] : List Pattern_place)))]⟩ ?_
 refine q_sq ?_
 refine q_vu [] 7 [] [(5, vi 0)] [] [] ?_
 obtain ⟨u27, h26, hm⟩ := qC hm
 refine zI (nd Try.f75 28) 0 (by kernel_rfl) FUEL (fun o => YP ri a1 a2 a3 o) (fun v st => RetQ Try.prog Try.f75 (ZL a1 a2 a3 a4 ri v) (ZO a1 a2 a3 a4 ri v) .ret st) u27 (q_hl (yL ri a1 a2 a3 ([(Pattern_place.mk a2.Frame 1)] : List Pattern_place) 1 0 a4 a4.length) (NH E ri a1 a2 a3 a4 FUEL ([(Pattern_place.mk a2.Frame 1)] : List Pattern_place) 1 0 a4 a4.length u27 rfl rfl h26)) ?_ ?_
 ·rintro v28 rfl st hr
  obtain rfl := Option.some.inj hm
  exact hr
 ·rintro o25 rfl
  replace hm : _ = some r := hm
  obtain rfl := Option.some.inj hm
  exact q_rm
def CZ (r : (List Leaf) × Int) : V := .tup [.one (.own 0 0 5 r.1.length), .one (ci r.2)]
def CO (r : (List Leaf) × Int) : List (Nat × (Nat × O)) := [(0, ro 0 100 5 r.1.length (rf qS r.1))]
theorem IU (a1 : Pattern) (a2 : Int) (r : (List Leaf) × Int) (hm : VJ a1 a2 = some r) : CtX Try.prog globs 40 0 0 [.agg (qD a1), .one (ci a2)] [] (CZ r) (CO r) := by
 unfold VJ at hm
 refine q_E Try.f40 48 fun E => ?_
 refine q_sq ?_
 refine q_vn [] 0 ⟨[(1, vi a2), (2, vp 0 0)], [(0, bx 31 (qD a1))]⟩ ?_
 refine q_sq ?_
 refine q_sq ?_
 obtain ⟨v3, h4, hm⟩ := qC hm
 refine q_vu [qk 2 [11, 12] 1 ⟨[(11, va (qD a1)), (12, vi a2)], []⟩ (UW a1 a2 v3 h4)] 1 [] [(6, vi v3)] [] [] ?_
 refine q_sq ?_
 refine q_vu [] 1 [] [(15, vb (v3 != 0))] [] [] ?_
 refine q_cn (v3 != 0) (fun b5 => ?_) (fun b5 => ?_)
 ·replace hm := qA b5 hm
  refine q_sq ?_
  refine q_vn [] 1 ⟨[(4, vc (.emp)), (5, vi v3)], []⟩ ?_
  refine q_fn [.own 4 1 100 5 (rf qS ([] : List Leaf))] ⟨[(4, vo 1 0 5 0), (5, vi v3)], [(1, ro 0 100 5 0 (rf qS ([] : List Leaf)))]⟩ o0 ?_
  refine q_fn [.len 1 (([] : List Leaf).length)] ⟨[(4, vo 1 0 5 (([] : List Leaf).length)), (5, vi v3)], [(1, ro 0 100 5 (([] : List Leaf).length) (rf qS ([] : List Leaf)))]⟩ (o1 (And.intro (show 0 = ([] : List Leaf).length from rfl) (show 0 = ([] : List Leaf).length from rfl))) ?_
  obtain rfl := Option.some.inj hm
  refine wB 1 0 (by kernel_rfl) ?_
  refine q_rt ?_
  exact q_rm
 ·replace hm := qB b5 hm
  refine q_sk ?_
  refine q_sq ?_
  refine q_vu [] 1 [6, 15] [(7, vp 1 0)] [] [(1, bx 93 [.emp])] ?_
  refine q_sq ?_
  refine q_sq ?_
  obtain ⟨v6, h7, hm⟩ := qC hm
  refine q_vu [qc 2 [17, 18] 2 (ZC a1 a2 v6 h7)] 2 [1] [(19, vc (.fn 75 [.bptr 2 0 0, .bptr 3 0 0]))] [] [(2, bx 31 (qD v6.1)), (3, bx 3 [ci v6.2])] ?_
  refine q_bk 0 ?_
  refine q_fn [.ownB 1 0 4 100 5 (rf qS ([] : List Leaf))] ⟨[(2, vp 0 0), (7, vp 1 0), (19, vc (.fn 75 [.bptr 2 0 0, .bptr 3 0 0]))], [(0, bx 31 (qD a1)), (1, bx 93 [.own 4 0 5 0]), (2, bx 31 (qD v6.1)), (3, bx 3 [ci v6.2]), (4, ro 0 100 5 0 (rf qS ([] : List Leaf)))]⟩ o0 ?_
  refine q_fn [.len 4 (([] : List Leaf).length)] ⟨[(2, vp 0 0), (7, vp 1 0), (19, vc (.fn 75 [.bptr 2 0 0, .bptr 3 0 0]))], [(0, bx 31 (qD a1)), (1, bx 93 [.own 4 0 5 (([] : List Leaf).length)]), (2, bx 31 (qD v6.1)), (3, bx 3 [ci v6.2]), (4, ro 0 100 5 (([] : List Leaf).length) (rf qS ([] : List Leaf)))]⟩ (o1 (And.intro (show 0 = ([] : List Leaf).length from rfl) (show 0 = ([] : List Leaf).length from rfl))) ?_
  obtain ⟨v8, h9, hm⟩ := qC hm
  refine q_rf (.tmp 19) [2, 7] 5 [(5, 0), (0, 0), (1, 0), (2, 0), (3, 0), (4, 0)] [0, 0, 0, 0, 0, 1] 0 5 [] v8.1 0 ⟨[(7, vp 1 0)], [(1, bx 93 [.own 4 0 5 v8.2.length]), (4, ro 0 100 5 v8.2.length (rf qS v8.2))]⟩ (fun ri => ML a1 v6.1 v6.2 ([] : List Leaf) ri v8 h9) ?_
  rcases Bool.eq_false_or_eq_true (Nat.beq v8.1 0) with b10 | b10
  ·replace hm := qA b10 hm
   refine JQ_n b10 ?_
   refine q_sq ?_
   refine q_vu [] 6 [7] [(4, vo 4 0 5 v8.2.length), (5, vi 0)] [1] [] ?_
   obtain rfl := Option.some.inj hm
   refine wB 4 0 (by kernel_rfl) ?_
   refine q_rt ?_
   exact q_rm
  ·replace hm := qB b10 hm
   cases hm
set_option maxRecDepth 100000
def VE (r : (List Leaf)) : V := vc (.fn 60 [.bptr 0 0 0])
def VA (r : (List Leaf)) : List (Nat × (Nat × O)) := [(0, bx 93 [tl qS default r])]
theorem SK (a1 : List Leaf) (r : (List Leaf)) (hm : KG a1 = some r) : CtX Try.prog globs 41 0 0 [.one (tl qS default a1)] [] (VE r) (VA r) := by
 unfold KG at hm
 refine q_E Try.f41 4 fun E => ?_
 refine q_sq ?_
 refine q_vn [] 0 ⟨[(1, vp 0 0)], [(0, bx 93 [tl qS default a1])]⟩ ?_
 refine q_sq ?_
 refine q_vu [] 1 [1] [(2, vc (.fn 60 [.bptr 0 0 0]))] [] [] ?_
 obtain rfl := Option.some.inj hm
 refine q_rt ?_
 exact q_rm
open Go.Proofs
set_option maxHeartbeats 4000000
set_option maxRecDepth 100000
def qCx (r : Box × Bool) : V := .tup [.agg (wU r.1), .one (cb r.2)]
def qCu (r : Box × Bool) : List (Nat × (Nat × O)) := []
def FO (v3 : Span) (v5 : Span) (v7 : Span) (x17 : Bool) : St :=
 ⟨[(4, vp 2 0), (6, vp 3 0), (35, vb x17)], [(2, bx 52 [ci 0, ci 0, ci 0, ci 0, ci 0, ci 0]), (3, bx 52 [ci v3.A, ci v3.B, ci v5.A, ci v5.B, ci v7.A, ci v7.B])]⟩
theorem qBI (a1 : Box) (a2 : Box) (r : Box × Bool) (hm : MI a1 a2 = some r) : CtX Try.prog globs 94 0 0 [.agg (wU a1), .agg (wU a2)] [] (qCx r) (qCu r) := by
 unfold MI at hm
 refine q_E Try.f94 38 fun E => ?_
 refine q_sq ?_
 refine q_vn [] 0 ⟨[(2, vp 0 0), (3, vp 1 0), (4, vp 2 0)], [(0, bx 52 (wU a1)), (1, bx 52 (wU a2)), (2, bx 52 [ci 0, ci 0, ci 0, ci 0, ci 0, ci 0])]⟩ ?_
 refine q_sq ?_
 obtain ⟨v3, h4, hm⟩ := qC hm
 obtain ⟨v5, h6, hm⟩ := qC hm
 obtain ⟨v7, h8, hm⟩ := qC hm
 refine q_du [qc 4 [8, 10] 3 (ZS a1.X a2.X v3 h4), qc 9 [13, 15] 3 (ZS a1.Y a2.Y v5 h6), qc 14 [18, 20] 3 (ZS a1.Z a2.Z v7 h8)] [0, 1, 0, 4, 15, 0, 32, 0, 128, 511, 0, 1024, 0, 4096, 16383, 32767, 0, 131071] 3 [2, 3] [(6, vp 3 0)] [0, 1] [(3, bx 52 [ci v3.A, ci v3.B, ci v5.A, ci v5.B, ci v7.A, ci v7.B])] ?_
 refine q_sq ?_
 refine q_jn (ι := Bool) (fun p => FO v3 v5 v7 p) (fun p => XV v3 v5 v7 p = some r) ?_ ?_
 ·rintro x17 hm
  show H _ (FO v3 v5 v7 x17) _ _
  refine q_cn x17 (fun b18 => ?_) (fun b18 => ?_)
  ·replace hm := qA b18 hm
   refine q_sq ?_
   refine q_vu [] 4 [6, 35] [(5, vb false)] [3] [] ?_
   obtain rfl := Option.some.inj hm
   refine q_rt ?_
   exact q_rm
  ·replace hm := qB b18 hm
   refine q_sk ?_
   refine q_sq ?_
   refine q_vu [] 4 [6, 35] [(5, vb true)] [2, 3] [(2, bx 52 [ci v3.A, ci v3.B, ci v5.A, ci v5.B, ci v7.A, ci v7.B])] ?_
   obtain rfl := Option.some.inj hm
   refine q_rt ?_
   exact q_rm
 ·obtain ⟨v9, h10, hm⟩ := qC hm
  rcases Bool.eq_false_or_eq_true v9 with b11 | b11
  ·replace hm := qA b11 hm
   refine q_vu [qc 2 [24] 4 (qY v3 v9 h10), qf 3 b11] 4 [] [(35, vb true)] [] [] ?_
   exact q_J (true) hm
  ·replace hm := qB b11 hm
   obtain ⟨v12, h13, hm⟩ := qC hm
   rcases Bool.eq_false_or_eq_true v12 with b14 | b14
   ·replace hm := qA b14 hm
    refine q_vu [qc 2 [24] 4 (qY v3 v9 h10), qf 3 b11, qk 6 [26, 28] 4 ⟨[(26, vb false), (28, va (e_Span v5))], []⟩ (qY v5 v12 h13), qf 8 b14] 4 [] [(35, vb true)] [] [] ?_
    exact q_J (true) hm
   ·replace hm := qB b14 hm
    obtain ⟨v15, h16, hm⟩ := qC hm
    refine q_vu [qc 2 [24] 4 (qY v3 v9 h10), qf 3 b11, qk 6 [26, 28] 4 ⟨[(26, vb false), (28, va (e_Span v5))], []⟩ (qY v5 v12 h13), qf 8 b14, qk 11 [31, 33] 4 ⟨[(31, vb false), (33, va (e_Span v7))], []⟩ (qY v7 v15 h16)] 4 [] [(35, vb v15)] [] [] ?_
    exact q_J (v15) hm
def CF (r : Bool) : V := vb r
def CK (r : Bool) : List (Nat × (Nat × O)) := []
theorem NF (a1 : Defect) (a2 : Box) (r : Bool) (hm : XY a1 a2 = some r) : CtX Try.prog globs 81 0 0 [.agg (qF a1), .agg (wU a2)] [] (CF r) (CK r) := by
 unfold XY at hm
 refine q_E Try.f81 15 fun E => ?_
 refine q_sq ?_
 refine q_vn [] 0 ⟨[(2, vp 0 0), (3, vp 1 0)], [(0, bx 139 (qF a1)), (1, bx 52 (wU a2))]⟩ ?_
 refine q_sq ?_
 obtain ⟨v3, h4, hm⟩ := qC hm
 refine q_vn [qc 3 [9, 10] 2 (qBI a1.Box a2 v3 h4)] 2 ⟨[(6, vb v3.2)], []⟩ ?_
 refine q_sq ?_
 refine q_vn [] 3 ⟨[(4, vb v3.2)], []⟩ ?_
 obtain rfl := Option.some.inj hm
 refine q_rt ?_
 exact q_rm
set_option maxRecDepth 100000
def CC (r : Bool) : V := vb r
def CS (r : Bool) : List (Nat × (Nat × O)) := []
def UV (x5 : Bool) : St :=
 ⟨[(4, vb x5)], []⟩
theorem ON (a1 : Span) (a2 : Int) (r : Bool) (hm : GA a1 a2 = some r) : CtX Try.prog globs 82 0 0 [.agg (e_Span a1), .one (ci a2)] [] (CC r) (CS r) := by
 unfold GA at hm
 refine q_E Try.f82 21 fun E => ?_
 refine q_sq ?_
 refine q_vn [] 0 ⟨[(1, vi a2), (2, vp 0 0)], [(0, bx 26 (e_Span a1))]⟩ ?_
 refine q_jn (ι := Bool) (fun p => UV p) (fun p => ZA p = some r) ?_ ?_
 ·rintro x5 hm
  show H _ (UV x5) _ _
  obtain rfl := Option.some.inj hm
  refine q_rt ?_
  exact q_rm
 ·rcases Bool.eq_false_or_eq_true (decide (a1.A ≥ 0)) with b3 | b3
  ·replace hm := qA b3 hm
   rcases Bool.eq_false_or_eq_true (decide (a1.A < a1.B)) with b4 | b4
   ·replace hm := qA b4 hm
    refine q_vn [qf 3 b3, qf 10 b4] 1 ⟨[(4, vb (decide (a1.B ≤ a2)))], []⟩ ?_
    exact q_J (decide (a1.B ≤ a2)) hm
   ·replace hm := qB b4 hm
    refine q_vn [qf 3 b3, qf 10 b4] 1 ⟨[(4, vb false)], []⟩ ?_
    exact q_J (false) hm
  ·replace hm := qB b3 hm
   refine q_vn [qf 3 b3] 1 ⟨[(4, vb false)], []⟩ ?_
   exact q_J (false) hm
open Go.Proofs
set_option maxHeartbeats 4000000
set_option maxRecDepth 100000
def TZ (r : Int × Bool) : V := .tup [.one (ci r.1), .one (cb r.2)]
def UK (r : Int × Bool) : List (Nat × (Nat × O)) := []
def XD (a1 : Product) (a2 : Int) (x3 : Int) : St :=
 ⟨[(1, vi a2), (2, vp 0 0), (9, vc (tl qL default a1.Lengths)), (10, vi ((a1.Lengths.length : Nat) : Int)), (11, vi x3)], [(0, bx 71 (qE a1))]⟩
def DH : St :=
 ⟨[], []⟩
theorem EJ (E : Env 0) (a1 : Product) (a2 : Int) : ∀ (n : Nat) (x3 : Int) (res : (Int × Bool) ⊕ Unit), PR a1 a2 n x3 = some res → HL (kx E 30 0) (nd Try.f83 52) (jD 0 (fun o => DH) (fun v st => RetQ Try.prog Try.f83 (TZ v) (UK v) .ret st) res) n (XD a1 a2 x3) := by
 intro n
 induction n with
 | zero =>
  intro x3 res hm
  cases hm
 | succ n ih =>
  intro x3 res hm
  refine qV ?_
  refine q_sq ?_
  refine q_vu [] 1 [] [(12, vb (decide (x3 < ((a1.Lengths.length : Nat) : Int))))] [] [] ?_
  refine q_sq ?_
  refine q_cn (decide (x3 < ((a1.Lengths.length : Nat) : Int))) (fun b4 => ?_) (fun b4 => ?_)
  ·replace hm := qA b4 hm
   refine q_sk ?_
   refine q_sq ?_
   refine q_bk 1 ?_
   refine q_sq ?_
   obtain ⟨g5, hm⟩ := qO hm
   refine q_vu [qd 1 (Dir.none) (inb_of g5)] 1 [12] [(6, vi x3), (7, vi (a1.Lengths.getD x3.toNat default))] [] [] ?_
   refine q_sq ?_
   refine q_sq ?_
   refine q_vu [] 1 [7] [(18, vb ((a1.Lengths.getD x3.toNat default) != a2))] [] [] ?_
   refine q_cn ((a1.Lengths.getD x3.toNat default) != a2) (fun b6 => ?_) (fun b6 => ?_)
   ·replace hm := qA b6 hm
    refine q_ex 1 ?_
    refine q_vu [] 1 [6, 11, 18] [(11, vi (w64 (x3 + 1)))] [] [] ?_
    exact q_hl (XD a1 a2 (w64 (x3 + 1))) (ih (w64 (x3 + 1)) _ hm)
   ·replace hm := qB b6 hm
    refine q_sk ?_
    refine q_sq ?_
    refine q_sq ?_
    refine q_vu [] 1 [1, 9, 10, 11, 18] [(23, vb (decide (x3 ≥ ((a1.Prices.length : Nat) : Int))))] [] [] ?_
    refine q_cn (decide (x3 ≥ ((a1.Prices.length : Nat) : Int))) (fun b7 => ?_) (fun b7 => ?_)
    ·replace hm := qA b7 hm
     refine q_sq ?_
     refine q_vn [] 1 ⟨[(4, vi 0), (5, vb false)], []⟩ ?_
     obtain rfl := Option.some.inj hm
     refine q_rt ?_
     refine zB (0, false) ?_
     exact q_rm
    ·replace hm := qB b7 hm
     refine q_sk ?_
     refine q_sq ?_
     obtain ⟨g8, hm⟩ := qO hm
     refine q_vn [qd 3 (Dir.none) (inb_of g8)] 1 ⟨[(4, vi (a1.Prices.getD x3.toNat default)), (5, vb true)], []⟩ ?_
     obtain rfl := Option.some.inj hm
     refine q_rt ?_
     refine zB ((a1.Prices.getD x3.toNat default), true) ?_
     exact q_rm
  ·replace hm := qB b4 hm
   refine q_ex 0 ?_
   obtain rfl := Option.some.inj hm
   exact jJ () (by kernel_rfl) (by kernel_rfl)
theorem CY (a1 : Product) (a2 : Int) (r : Int × Bool) (hm : BC a1 a2 = some r) : CtX Try.prog globs 83 0 0 [.agg (qE a1), .one (ci a2)] [] (TZ r) (UK r) := by
 unfold BC at hm
 refine q_E Try.f83 30 fun E => ?_
 refine q_sq ?_
 refine q_vn [] 0 ⟨[(1, vi a2), (2, vp 0 0)], [(0, bx 71 (qE a1))]⟩ ?_
 refine q_sq ?_
 refine q_sq ?_
 refine q_vu [] 1 [] [(9, vc (tl qL default a1.Lengths)), (10, vi ((a1.Lengths.length : Nat) : Int)), (11, vi 0)] [] [] ?_
 obtain ⟨u11, h10, hm⟩ := qC hm
 refine zI (nd Try.f83 52) 0 (by kernel_rfl) FUEL (fun o => DH) (fun v st => RetQ Try.prog Try.f83 (TZ v) (UK v) .ret st) u11 (q_hl (XD a1 a2 0) (EJ E a1 a2 FUEL 0 u11 h10)) ?_ ?_
 ·rintro v12 rfl st hr
  obtain rfl := Option.some.inj hm
  exact hr
 ·rintro o9 rfl
  replace hm : _ = some r := hm
  refine q_sq ?_
  refine q_vn [] 1 ⟨[(4, vi 0), (5, vb false)], []⟩ ?_
  obtain rfl := Option.some.inj hm
  refine q_rt ?_
  exact q_rm
def FD (r : Box) : V := va (wU r)
def WM (r : Box) : List (Nat × (Nat × O)) := []
theorem OZ (r : Box) : XE (WM r) := by
 intro i k o h
 unfold WM at h
 cases h
theorem BT (a1 : Worth_view) (a2 : Span) (r : Box) (hm : KA a1 a2 = some r) : CtX Try.prog globs 80 0 0 [.agg (XB a1), .agg (e_Span a2)] [] (FD r) (WM r) := by
 unfold KA at hm
 refine q_E Try.f80 13 fun E => ?_
 refine q_sq ?_
 refine q_vn [] 0 ⟨[(2, vp 0 0), (3, vp 1 0), (4, vp 2 0)], [(0, bx 129 (XB a1)), (1, bx 26 (e_Span a2)), (2, bx 52 [ci 0, ci 0, ci 0, ci 0, ci 0, ci 0])]⟩ ?_
 refine q_sq ?_
 refine q_vn [] 3 ⟨[(4, vp 2 0)], [(2, bx 52 [ci a1.rect.X.A, ci a1.rect.X.B, ci a1.rect.Y.A, ci a1.rect.Y.B, ci a2.A, ci a2.B])]⟩ ?_
 obtain rfl := Option.some.inj hm
 refine q_rt ?_
 exact q_rm
set_option maxRecDepth 100000
def qCt (r : Int) : V := vi r
def qCy (r : Int) : List (Nat × (Nat × O)) := []
def FG (a1 : List Worth_zone) (a2 : Span) (x4 : Int) (x10 : Int) : St :=
 ⟨[(3, vp 0 0), (5, vi x10), (8, vc (tl qG default a1)), (9, vi ((a1.length : Nat) : Int)), (10, vi x4)], [(0, bx 26 (e_Span a2))]⟩
def NT (a1 : List Worth_zone) (a2 : Span) (x3 : Int) (x4 : Int) (x8 : Bool) : St :=
 ⟨[(3, vp 0 0), (5, vi x3), (7, vp 1 0), (8, vc (tl qG default a1)), (9, vi ((a1.length : Nat) : Int)), (10, vi x4), (27, vb x8)], [(0, bx 26 (e_Span a2)), (1, bx 165 [ci (((a1.getD x4.toNat default).z).A), ci (((a1.getD x4.toNat default).z).B), ci ((a1.getD x4.toNat default).lack)])]⟩
def PM (a1 : List Worth_zone) (a2 : Span) (x3 : Int) (x4 : Int) : St :=
 ⟨[(3, vp 0 0), (5, vi x3), (8, vc (tl qG default a1)), (9, vi ((a1.length : Nat) : Int)), (10, vi x4)], [(0, bx 26 (e_Span a2))]⟩
def FR (x11 : Int) : St :=
 ⟨[(5, vi x11)], []⟩
theorem IX (E : Env 0) (a1 : List Worth_zone) (a2 : Span) : ∀ (n : Nat) (x3 : Int) (x4 : Int) (res : Int), yF a1 a2 n x3 x4 = some res → HL (kx E 34 0) (nd Try.f84 116) (wK 0 (fun o => FR o) res) n (PM a1 a2 x3 x4) := by
 intro n
 induction n with
 | zero =>
  intro x3 x4 res hm
  cases hm
 | succ n ih =>
  intro x3 x4 res hm
  refine qV ?_
  refine q_sq ?_
  refine q_vu [] 1 [] [(11, vb (decide (x4 < ((a1.length : Nat) : Int))))] [] [] ?_
  refine q_sq ?_
  refine q_cn (decide (x4 < ((a1.length : Nat) : Int))) (fun b5 => ?_) (fun b5 => ?_)
  ·replace hm := qA b5 hm
   refine q_sk ?_
   refine q_jn (ι := Int) (fun p => FG a1 a2 x4 p) (fun p => VU x4 (yF a1 a2 n) p = some res) ?_ ?_
   ·rintro x10 hm
    show H _ (FG a1 a2 x4 x10) _ _
    refine q_vu [] 2 [10] [(10, vi (w64 (x4 + 1)))] [] [] ?_
    exact q_hl (PM a1 a2 x10 (w64 (x4 + 1))) (ih x10 (w64 (x4 + 1)) _ hm)
   ·refine q_bk 1 ?_
    refine q_sq ?_
    obtain ⟨g6, hm⟩ := qO hm
    refine q_vu [qd 0 (Dir.none) (inb_of g6)] 1 [11] [(7, vp 1 0)] [] [(1, bx 165 [ci (((a1.getD x4.toNat default).z).A), ci (((a1.getD x4.toNat default).z).B), ci ((a1.getD x4.toNat default).lack)])] ?_
    refine q_jn (ι := Bool) (fun p => NT a1 a2 x3 x4 p) (fun p => VW a1 x3 x4 (yF a1 a2 n) p = some res) ?_ ?_
    ·rintro x8 hm
     show H _ (NT a1 a2 x3 x4 x8) _ _
     refine q_cn x8 (fun b9 => ?_) (fun b9 => ?_)
     ·replace hm := qA b9 hm
      refine q_vu [] 2 [5, 7, 27] [(5, vi (imax x3 ((a1.getD x4.toNat default).lack)))] [1] [] ?_
      exact q_J (imax x3 ((a1.getD x4.toNat default).lack)) hm
     ·replace hm := qB b9 hm
      refine q_sk ?_
      exact q_J (x3) hm
    ·rcases Bool.eq_false_or_eq_true (decide ((((a1.getD x4.toNat default).z).A) < a2.B)) with b7 | b7
     ·replace hm := qA b7 hm
      refine q_vu [qf 6 b7] 2 [] [(27, vb (decide (a2.A < (((a1.getD x4.toNat default).z).B))))] [] [] ?_
      exact q_J (decide (a2.A < (((a1.getD x4.toNat default).z).B))) hm
     ·replace hm := qB b7 hm
      refine q_vu [qf 6 b7] 2 [] [(27, vb false)] [] [] ?_
      exact q_J (false) hm
  ·replace hm := qB b5 hm
   refine q_ex 0 ?_
   obtain rfl := Option.some.inj hm
   exact jR (by kernel_rfl) (by kernel_rfl)
theorem qB0 (a1 : List Worth_zone) (a2 : Span) (r : Int) (hm : MR a1 a2 = some r) : CtX Try.prog globs 84 0 0 [.one (tl qG default a1), .agg (e_Span a2)] [] (qCt r) (qCy r) := by
 unfold MR at hm
 refine q_E Try.f84 34 fun E => ?_
 refine q_sq ?_
 refine q_vn [] 0 ⟨[(0, vc (tl qG default a1)), (3, vp 0 0)], [(0, bx 26 (e_Span a2))]⟩ ?_
 refine q_sq ?_
 refine q_vu [] 1 [] [(5, vi 0)] [] [] ?_
 refine q_sq ?_
 refine q_sq ?_
 refine q_vu [] 1 [0] [(8, vc (tl qG default a1)), (9, vi ((a1.length : Nat) : Int)), (10, vi 0)] [] [] ?_
 obtain ⟨o12, h13, hm⟩ := qC hm
 refine zY (nd Try.f84 116) 0 (by kernel_rfl) FUEL (fun o => FR o) o12 (q_hl (PM a1 a2 0 0) (IX E a1 a2 FUEL 0 0 o12 h13)) ?_
 refine q_sq ?_
 refine q_vn [] 1 ⟨[(4, vi o12)], []⟩ ?_
 obtain rfl := Option.some.inj hm
 refine q_rt ?_
 exact q_rm
open Go.Proofs
set_option maxHeartbeats 4000000
set_option maxRecDepth 100000
def QK (r : Int × Bool) : V := .tup [.one (ci r.1), .one (cb r.2)]
def wQ (r : Int × Bool) : List (Nat × (Nat × O)) := []
theorem AB (r : Int × Bool) : XE (wQ r) := by
 intro i k o h
 unfold wQ at h
 cases h
def RM (a1 : Worth_view) (a3 : Int) (v14 : Box) (x17 : Int) (x24 : Int) : St :=
 ⟨[(2, vi a3), (8, vi x24), (10, vp 2 0), (45, vc (tl qF default a1.defects)), (46, vi ((a1.defects.length : Nat) : Int)), (47, vi x17)], [(2, bx 52 (wU v14))]⟩
def ZK (a1 : Worth_view) (a3 : Int) (v14 : Box) (x16 : Int) (x17 : Int) : St :=
 ⟨[(2, vi a3), (8, vi x16), (10, vp 2 0), (45, vc (tl qF default a1.defects)), (46, vi ((a1.defects.length : Nat) : Int)), (47, vi x17)], [(2, bx 52 (wU v14))]⟩
def RX (x25 : Int) : St :=
 ⟨[(8, vi x25)], []⟩
def RL (a1 : Worth_view) (a2 : Span) (a3 : Int) (v7 : Int × Bool) (x12 : Bool) : St :=
 ⟨[(2, vi a3), (3, vp 0 0), (4, vp 1 0), (8, vi v7.1), (40, vb x12)], [(0, bx 129 (XB a1)), (1, bx 26 (e_Span a2))]⟩
theorem MT (E : Env 0) (a1 : Worth_view) (a3 : Int) (v14 : Box) : ∀ (n : Nat) (x16 : Int) (x17 : Int) (res : (Int × Bool) ⊕ Int), jE a1 a3 v14 n x16 x17 = some res → HL (kx E 64 0) (nd Try.f64 1012) (jD 0 (fun o => RX o) (fun v st => RetQ Try.prog Try.f64 (QK v) (wQ v) .ret st) res) n (ZK a1 a3 v14 x16 x17) := by
 intro n
 induction n with
 | zero =>
  intro x16 x17 res hm
  cases hm
 | succ n ih =>
  intro x16 x17 res hm
  refine qV ?_
  refine q_sq ?_
  refine q_vu [] 3 [] [(48, vb (decide (x17 < ((a1.defects.length : Nat) : Int))))] [] [] ?_
  refine q_sq ?_
  refine q_cn (decide (x17 < ((a1.defects.length : Nat) : Int))) (fun b18 => ?_) (fun b18 => ?_)
  ·replace hm := qA b18 hm
   refine q_sk ?_
   refine q_jn (ι := Int) (fun p => RM a1 a3 v14 x17 p) (fun p => JH x17 (jE a1 a3 v14 n) p = some res) ?_ ?_
   ·rintro x24 hm
    show H _ (RM a1 a3 v14 x17 x24) _ _
    refine q_vu [] 4 [47] [(47, vi (w64 (x17 + 1)))] [] [] ?_
    exact q_hl (ZK a1 a3 v14 x24 (w64 (x17 + 1))) (ih x24 (w64 (x17 + 1)) _ hm)
   ·refine q_bk 1 ?_
    refine q_sq ?_
    obtain ⟨g19, hm⟩ := qO hm
    refine q_vu [qd 0 (Dir.none) (inb_of g19)] 3 [48] [(12, vp 3 0)] [] [(3, bx 139 [ci ((a1.defects.getD x17.toNat default).Kind), ci ((((a1.defects.getD x17.toNat default).Box).X).A), ci ((((a1.defects.getD x17.toNat default).Box).X).B), ci ((((a1.defects.getD x17.toNat default).Box).Y).A), ci ((((a1.defects.getD x17.toNat default).Box).Y).B), ci ((((a1.defects.getD x17.toNat default).Box).Z).A), ci ((((a1.defects.getD x17.toNat default).Box).Z).B)])] ?_
    refine q_sq ?_
    refine q_sq ?_
    obtain ⟨v20, h21, hm⟩ := qC hm
    refine q_vu [qc 2 [51, 52] 4 (NF (a1.defects.getD x17.toNat default) v14 v20 h21)] 4 [] [(54, vb (!v20))] [] [] ?_
    refine q_cn (!v20) (fun b22 => ?_) (fun b22 => ?_)
    ·replace hm := qA b22 hm
     refine q_ex 1 ?_
     exact q_J (x16) hm
    ·replace hm := qB b22 hm
     refine q_sk ?_
     refine q_sq ?_
     refine q_sq ?_
     refine q_vu [] 4 [12, 54] [(57, vb (((a1.defects.getD x17.toNat default).Kind) == 3))] [3] [] ?_
     refine q_cn (((a1.defects.getD x17.toNat default).Kind) == 3) (fun b23 => ?_) (fun b23 => ?_)
     ·replace hm := qA b23 hm
      refine q_sq ?_
      refine q_vn [] 4 ⟨[(6, vi 0), (7, vb false)], []⟩ ?_
      obtain rfl := Option.some.inj hm
      refine q_rt ?_
      refine zB (0, false) ?_
      exact q_rm
     ·replace hm := qB b23 hm
      refine q_sk ?_
      refine q_vu [] 4 [8, 57] [(8, vi (w64 (x16 - a3)))] [] [] ?_
      exact q_J (w64 (x16 - a3)) hm
  ·replace hm := qB b18 hm
   refine q_ex 0 ?_
   obtain rfl := Option.some.inj hm
   exact jJ x16 (by kernel_rfl) (by kernel_rfl)
theorem worth_view_worth_ok (a1 : Worth_view) (a2 : Span) (a3 : Int) (r : Int × Bool) (hm : PL a1 a2 a3 = some r) : CtX Try.prog globs 64 0 0 [.agg (XB a1), .agg (e_Span a2), .one (ci a3)] [] (QK r) (wQ r) := by
 unfold PL at hm
 refine q_E Try.f64 64 fun E => ?_
 refine q_sq ?_
 refine q_vn [] 0 ⟨[(2, vi a3), (3, vp 0 0), (4, vp 1 0)], [(0, bx 129 (XB a1)), (1, bx 26 (e_Span a2))]⟩ ?_
 refine q_sq ?_
 refine q_sq ?_
 obtain ⟨v4, h5, hm⟩ := qC hm
 refine q_vu [qc 3 [13, 15] 2 (ON a2 a1.length v4 h5)] 2 [] [(17, vb (!v4))] [] [] ?_
 refine q_cn (!v4) (fun b6 => ?_) (fun b6 => ?_)
 ·replace hm := qA b6 hm
  refine q_sq ?_
  refine q_vn [] 2 ⟨[(6, vi 0), (7, vb false)], []⟩ ?_
  obtain rfl := Option.some.inj hm
  refine q_rt ?_
  exact q_rm
 ·replace hm := qB b6 hm
  refine q_sk ?_
  refine q_sq ?_
  obtain ⟨v7, h8, hm⟩ := qC hm
  refine q_vu [qc 7 [20, 25] 2 (CY a1.product (w64 (a2.B - a2.A)) v7 h8)] 2 [17] [(8, vi v7.1), (9, vb v7.2)] [] [] ?_
  refine q_sq ?_
  refine q_jn (ι := Bool) (fun p => RL a1 a2 a3 v7 p) (fun p => JS a1 a2 a3 v7 p = some r) ?_ ?_
  ·rintro x12 hm
   show H _ (RL a1 a2 a3 v7 x12) _ _
   refine q_cn x12 (fun b13 => ?_) (fun b13 => ?_)
   ·replace hm := qA b13 hm
    refine q_sq ?_
    refine q_vn [] 2 ⟨[(6, vi 0), (7, vb false)], []⟩ ?_
    obtain rfl := Option.some.inj hm
    refine q_rt ?_
    exact q_rm
   ·replace hm := qB b13 hm
    refine q_sk ?_
    refine q_sq ?_
    obtain ⟨v14, h15, hm⟩ := qC hm
    refine q_vu [qc 2 [41, 42] 2 (BT a1 a2 v14 h15)] 2 [4, 40] [(10, vp 2 0)] [1] [(2, bx 52 (wU v14))] ?_
    refine q_sq ?_
    refine q_sq ?_
    refine q_vu [] 3 [3] [(45, vc (tl qF default a1.defects)), (46, vi ((a1.defects.length : Nat) : Int)), (47, vi 0)] [0] [] ?_
    obtain ⟨u28, h27, hm⟩ := qC hm
    refine zI (nd Try.f64 1012) 0 (by kernel_rfl) FUEL (fun o => RX o) (fun v st => RetQ Try.prog Try.f64 (QK v) (wQ v) .ret st) u28 (q_hl (ZK a1 a3 v14 v7.1 0) (MT E a1 a3 v14 FUEL v7.1 0 u28 h27)) ?_ ?_
    ·rintro v29 rfl st hr
     obtain rfl := Option.some.inj hm
     exact hr
    ·rintro o26 rfl
     replace hm : _ = some r := hm
     refine q_sq ?_
     refine q_vn [] 3 ⟨[(6, vi (imax o26 0)), (7, vb true)], []⟩ ?_
     obtain rfl := Option.some.inj hm
     refine q_rt ?_
     exact q_rm
  ·rcases Bool.eq_false_or_eq_true (!v7.2) with b9 | b9
   ·replace hm := qA b9 hm
    refine q_du [qf 2 b9] [0, 1, 3, 7, 15, 7, 63, 7, 135, 391, 1023, 2047] 2 [9] [(40, vb true)] [] [] ?_
    exact q_J (true) hm
   ·replace hm := qB b9 hm
    obtain ⟨v10, h11, hm⟩ := qC hm
    refine q_du [qf 2 b9, qk 6 [31, 33, 34] 2 ⟨[(31, vb false), (33, vc (tl qG default a1.zones)), (34, va (e_Span a2))], []⟩ (qB0 a1.zones a2 v10 h11)] [0, 1, 3, 7, 15, 7, 63, 7, 135, 391, 1023, 2047] 2 [9] [(40, vb (decide (v10 > a1.product.Wane)))] [] [] ?_
    exact q_J (decide (v10 > a1.product.Wane)) hm
def qBY (r : Int) : V := vi r
def qBT (r : Int) : List (Nat × (Nat × O)) := []
def KL (v2 : (List qJ)) (x4 : Int) (x5 : Int) : St :=
 ⟨[(3, vi x4), (7, vc (tl qI default v2)), (8, vi ((v2.length : Nat) : Int)), (9, vi x5)], []⟩
def NA (x8 : Int) : St :=
 ⟨[(3, vi x8)], []⟩
theorem IA (E : Env 0) (v2 : (List qJ)) : ∀ (n : Nat) (x4 : Int) (x5 : Int) (res : Int), TK v2 n x4 x5 = some res → HL (kx E 19 0) (nd Try.f15 116) (wK 0 (fun o => NA o) res) n (KL v2 x4 x5) := by
 intro n
 induction n with
 | zero =>
  intro x4 x5 res hm
  cases hm
 | succ n ih =>
  intro x4 x5 res hm
  refine qV ?_
  refine q_sq ?_
  refine q_vu [] 0 [] [(10, vb (decide (x5 < ((v2.length : Nat) : Int))))] [] [] ?_
  refine q_sq ?_
  refine q_cn (decide (x5 < ((v2.length : Nat) : Int))) (fun b6 => ?_) (fun b6 => ?_)
  ·replace hm := qA b6 hm
   refine q_sk ?_
   refine q_sq ?_
   refine q_bk 1 ?_
   refine q_sq ?_
   obtain ⟨g7, hm⟩ := qO hm
   refine q_vu [qd 0 (Dir.none) (inb_of g7)] 0 [10] [(5, vp 0 0)] [] [(0, bx 68 [ci ((v2.getD x5.toNat default).Len), ci (((v2.getD x5.toNat default).Sec).Low), tl e_Span default (((v2.getD x5.toNat default).Sec).Rows)])] ?_
   refine q_vu [] 1 [3, 5] [(3, vi (w64 (x4 + ((v2.getD x5.toNat default).Len))))] [0] [] ?_
   refine q_vu [] 1 [9] [(9, vi (w64 (x5 + 1)))] [] [] ?_
   exact q_hl (KL v2 (w64 (x4 + ((v2.getD x5.toNat default).Len))) (w64 (x5 + 1))) (ih (w64 (x4 + ((v2.getD x5.toNat default).Len))) (w64 (x5 + 1)) _ hm)
  ·replace hm := qB b6 hm
   refine q_ex 0 ?_
   obtain rfl := Option.some.inj hm
   exact jR (by kernel_rfl) (by kernel_rfl)
theorem LJ (a1 : List qJ) (r : Int) (hm : TD a1 = some r) : CtX Try.prog globs 15 0 0 [.one (tl qI default a1)] [] (qBY r) (qBT r) := by
 unfold TD at hm
 refine q_E Try.f15 19 fun E => ?_
 refine q_sq ?_
 refine q_vn [] 0 ⟨[(0, vc (tl qI default a1))], []⟩ ?_
 refine q_sq ?_
 refine q_vu [] 0 [] [(3, vi 0)] [] [] ?_
 refine q_sq ?_
 refine q_sq ?_
 obtain ⟨v2, h3, hm⟩ := qC hm
 refine q_vu [qc 1 [6] 0 (GB a1 v2 h3)] 0 [0] [(7, vc (tl qI default v2)), (8, vi ((v2.length : Nat) : Int)), (9, vi 0)] [] [] ?_
 obtain ⟨o9, h10, hm⟩ := qC hm
 refine zY (nd Try.f15 116) 0 (by kernel_rfl) FUEL (fun o => NA o) o9 (q_hl (KL v2 0 0) (IA E v2 FUEL 0 0 o9 h10)) ?_
 refine q_sq ?_
 refine q_vn [] 0 ⟨[(2, vi o9)], []⟩ ?_
 obtain rfl := Option.some.inj hm
 refine q_rt ?_
 exact q_rm
set_option maxRecDepth 100000
def qCq (r : (List Worth_zone)) : V := vo 0 0 3 r.length
def qCD (r : (List Worth_zone)) : List (Nat × (Nat × O)) := [(0, ro 0 165 3 r.length (rf qG r))]
def PN (a1 : List qJ) (a2 : Rect) (l3 : List Worth_zone) (l3n : Nat) (x4 : Int) (x5 : Int) : St :=
 ⟨[(3, vp 0 0), (5, vi (w64 ((w64 (a2.X.B - a2.X.A)) * (w64 (a2.Y.B - a2.Y.A))))), (6, vo 1 0 3 l3n), (7, vi x4), (27, vc (tl qI default a1)), (28, vi ((a1.length : Nat) : Int)), (29, vi x5)], [(0, bx 28 (qK a2)), (1, ro 0 165 3 l3n (rf qG l3))]⟩
def FT (l12 : List Worth_zone) : St :=
 ⟨[(6, vo 1 0 3 l12.length)], [(1, ro 0 165 3 l12.length (rf qG l12))]⟩
theorem OB (E : Env 0) (a1 : List qJ) (a2 : Rect) : ∀ (n : Nat) (l3 : List Worth_zone) (l3n : Nat) (x4 : Int) (x5 : Int) (res : (List Worth_zone)), l3.length = l3n → VM a1 a2 n l3 x4 x5 = some res → HL (kx E 61 0) (nd Try.f79 500) (wK 0 (fun o => FT o) res) n (PN a1 a2 l3 l3n x4 x5) := by
 intro n
 induction n with
 | zero =>
  intro l3 l3n x4 x5 res hl0 hm
  cases hm
 | succ n ih =>
  intro l3 l3n x4 x5 res hl0 hm
  subst hl0
  refine qV ?_
  refine q_sq ?_
  refine q_vu [] 2 [] [(30, vb (decide (x5 < ((a1.length : Nat) : Int))))] [] [] ?_
  refine q_sq ?_
  refine q_cn (decide (x5 < ((a1.length : Nat) : Int))) (fun b6 => ?_) (fun b6 => ?_)
  ·replace hm := qA b6 hm
   refine q_sk ?_
   refine q_sq ?_
   refine q_bk 1 ?_
   refine q_sq ?_
   obtain ⟨g7, hm⟩ := qO hm
   refine q_vu [qd 0 (Dir.none) (inb_of g7)] 2 [30] [(9, vp 2 0)] [] [(2, bx 68 [ci ((a1.getD x5.toNat default).Len), ci (((a1.getD x5.toNat default).Sec).Low), tl e_Span default (((a1.getD x5.toNat default).Sec).Rows)])] ?_
   refine q_sq ?_
   obtain ⟨v8, h9, hm⟩ := qC hm
   refine q_vu [qc 4 [35, 36] 3 (BH ((a1.getD x5.toNat default).Sec) a2 v8 h9)] 3 [] [(10, vi (w64 ((w64 ((w64 (a2.X.B - a2.X.A)) * (w64 (a2.Y.B - a2.Y.A)))) - v8)))] [] [] ?_
   refine q_sq ?_
   refine q_vu [] 3 [7, 9] [(11, vp 3 0)] [2] [(3, bx 26 [ci x4, ci (w64 (x4 + ((a1.getD x5.toNat default).Len)))])] ?_
   refine q_sq ?_
   obtain ⟨g10, hm⟩ := qO hm
   obtain ⟨g11, hm⟩ := qO hm
   refine q_du [qd 8 (Dir.none) (SS g10), qd 10 (drw 4 0 (rf qG ([(Worth_zone.mk (Span.mk x4 (w64 (x4 + ((a1.getD x5.toNat default).Len)))) (w64 (Int.tdiv (w64 ((w64 ((w64 (1000 * (w64 ((w64 ((w64 (a2.X.B - a2.X.A)) * (w64 (a2.Y.B - a2.Y.A)))) - v8)))) + (w64 ((w64 (a2.X.B - a2.X.A)) * (w64 (a2.Y.B - a2.Y.A)))))) - 1)) (w64 ((w64 (a2.X.B - a2.X.A)) * (w64 (a2.Y.B - a2.Y.A)))))))] : List Worth_zone))) (litP qG default 3 (fun _ => rfl) ([(Worth_zone.mk (Span.mk x4 (w64 (x4 + ((a1.getD x5.toNat default).Len)))) (w64 (Int.tdiv (w64 ((w64 ((w64 (1000 * (w64 ((w64 ((w64 (a2.X.B - a2.X.A)) * (w64 (a2.Y.B - a2.Y.A)))) - v8)))) + (w64 ((w64 (a2.X.B - a2.X.A)) * (w64 (a2.Y.B - a2.Y.A)))))) - 1)) (w64 ((w64 (a2.X.B - a2.X.A)) * (w64 (a2.Y.B - a2.Y.A)))))))] : List Worth_zone) 1 rfl), qd 11 (drw 1 1 (rf qG (l3 ++ ([(Worth_zone.mk (Span.mk x4 (w64 (x4 + ((a1.getD x5.toNat default).Len)))) (w64 (Int.tdiv (w64 ((w64 ((w64 (1000 * (w64 ((w64 ((w64 (a2.X.B - a2.X.A)) * (w64 (a2.Y.B - a2.Y.A)))) - v8)))) + (w64 ((w64 (a2.X.B - a2.X.A)) * (w64 (a2.Y.B - a2.Y.A)))))) - 1)) (w64 ((w64 (a2.X.B - a2.X.A)) * (w64 (a2.Y.B - a2.Y.A)))))))] : List Worth_zone)))) (apP qG default l3 ([(Worth_zone.mk (Span.mk x4 (w64 (x4 + ((a1.getD x5.toNat default).Len)))) (w64 (Int.tdiv (w64 ((w64 ((w64 (1000 * (w64 ((w64 ((w64 (a2.X.B - a2.X.A)) * (w64 (a2.Y.B - a2.Y.A)))) - v8)))) + (w64 ((w64 (a2.X.B - a2.X.A)) * (w64 (a2.Y.B - a2.Y.A)))))) - 1)) (w64 ((w64 (a2.X.B - a2.X.A)) * (w64 (a2.Y.B - a2.Y.A)))))))] : List Worth_zone) l3.length 1 3 24 (1 ≤ 1) (Nat.le_refl _) rfl rfl (fun _ => rfl) (ZX g11))] [0, 0, 0, 4, 0, 28, 60, 0, 252, 510, 1022, 2047, 4095] 4 [6, 10] [(6, vo 1 1 3 (l3.length + 1))] [1] [(1, ro 1 165 3 (l3.length + 1) (rf qG (l3 ++ ([(Worth_zone.mk (Span.mk x4 (w64 (x4 + ((a1.getD x5.toNat default).Len)))) (w64 (Int.tdiv (w64 ((w64 ((w64 (1000 * (w64 ((w64 ((w64 (a2.X.B - a2.X.A)) * (w64 (a2.Y.B - a2.Y.A)))) - v8)))) + (w64 ((w64 (a2.X.B - a2.X.A)) * (w64 (a2.Y.B - a2.Y.A)))))) - 1)) (w64 ((w64 (a2.X.B - a2.X.A)) * (w64 (a2.Y.B - a2.Y.A)))))))] : List Worth_zone))))] ?_
   refine q_vu [] 5 [11] [(7, vi (w64 (x4 + ((a1.getD x5.toNat default).Len))))] [3] [] ?_
   refine q_vu [] 5 [29] [(29, vi (w64 (x5 + 1)))] [] [] ?_
   exact q_hl (PN a1 a2 (l3 ++ ([(Worth_zone.mk (Span.mk x4 (w64 (x4 + ((a1.getD x5.toNat default).Len)))) (w64 (Int.tdiv (w64 ((w64 ((w64 (1000 * (w64 ((w64 ((w64 (a2.X.B - a2.X.A)) * (w64 (a2.Y.B - a2.Y.A)))) - v8)))) + (w64 ((w64 (a2.X.B - a2.X.A)) * (w64 (a2.Y.B - a2.Y.A)))))) - 1)) (w64 ((w64 (a2.X.B - a2.X.A)) * (w64 (a2.Y.B - a2.Y.A)))))))] : List Worth_zone)) (l3.length + 1) (w64 (x4 + ((a1.getD x5.toNat default).Len))) (w64 (x5 + 1))) (ih (l3 ++ ([(Worth_zone.mk (Span.mk x4 (w64 (x4 + ((a1.getD x5.toNat default).Len)))) (w64 (Int.tdiv (w64 ((w64 ((w64 (1000 * (w64 ((w64 ((w64 (a2.X.B - a2.X.A)) * (w64 (a2.Y.B - a2.Y.A)))) - v8)))) + (w64 ((w64 (a2.X.B - a2.X.A)) * (w64 (a2.Y.B - a2.Y.A)))))) - 1)) (w64 ((w64 (a2.X.B - a2.X.A)) * (w64 (a2.Y.B - a2.Y.A)))))))] : List Worth_zone)) (l3.length + 1) (w64 (x4 + ((a1.getD x5.toNat default).Len))) (w64 (x5 + 1)) _ (len_app rfl rfl) hm)
  ·replace hm := qB b6 hm
   refine q_ex 0 ?_
   obtain rfl := Option.some.inj hm
   exact jR (by kernel_rfl) (by kernel_rfl)
theorem qBX (a1 : List qJ) (a2 : Rect) (r : (List Worth_zone)) (hm : MQ a1 a2 = some r) : CtX Try.prog globs 79 0 0 [.one (tl qI default a1), .agg (qK a2)] [] (qCq r) (qCD r) := by
 unfold MQ at hm
 refine q_E Try.f79 61 fun E => ?_
 refine q_sq ?_
 refine q_vn [] 0 ⟨[(0, vc (tl qI default a1)), (3, vp 0 0)], [(0, bx 28 (qK a2))]⟩ ?_
 refine q_sq ?_
 refine q_vu [] 1 [] [(5, vi (w64 ((w64 (a2.X.B - a2.X.A)) * (w64 (a2.Y.B - a2.Y.A)))))] [] [] ?_
 refine q_sq ?_
 refine q_vu [] 1 [] [(6, vc (.emp))] [] [] ?_
 refine q_sq ?_
 refine q_vu [] 1 [] [(7, vi 0)] [] [] ?_
 refine q_sq ?_
 refine q_sq ?_
 refine q_vu [] 1 [0] [(27, vc (tl qI default a1)), (28, vi ((a1.length : Nat) : Int)), (29, vi 0)] [] [] ?_
 refine q_fn [.own 6 1 165 3 (rf qG ([] : List Worth_zone))] ⟨[(3, vp 0 0), (5, vi (w64 ((w64 (a2.X.B - a2.X.A)) * (w64 (a2.Y.B - a2.Y.A))))), (6, vo 1 0 3 0), (7, vi 0), (27, vc (tl qI default a1)), (28, vi ((a1.length : Nat) : Int)), (29, vi 0)], [(0, bx 28 (qK a2)), (1, ro 0 165 3 0 (rf qG ([] : List Worth_zone)))]⟩ o0 ?_
 obtain ⟨o13, h14, hm⟩ := qC hm
 refine zY (nd Try.f79 500) 0 (by kernel_rfl) FUEL (fun o => FT o) o13 (q_hl (PN a1 a2 ([] : List Worth_zone) 0 0 0) (OB E a1 a2 FUEL ([] : List Worth_zone) 0 0 0 o13 rfl h14)) ?_
 refine q_sq ?_
 refine q_vu [] 2 [6] [(4, vo 1 0 3 o13.length)] [] [] ?_
 obtain rfl := Option.some.inj hm
 refine wB 1 0 (by kernel_rfl) ?_
 refine q_rt ?_
 exact q_rm
open Go.Proofs
set_option maxHeartbeats 4000000
set_option maxRecDepth 100000
def GE (r : Bool) : V := vb r
def VY (r : Bool) : List (Nat × (Nat × O)) := []
def NB (a1 : Rect) (x2 : Int) (x7 : Bool) : St :=
 ⟨[(9, va (qK a1)), (10, vi x2), (27, vb x7)], []⟩
def KF (a1 : Rect) (x2 : Int) : St :=
 ⟨[(9, va (qK a1)), (10, vi x2)], []⟩
def BX : St :=
 ⟨[], []⟩
theorem AY (E : Env 0) (a1 : Rect) : ∀ (n : Nat) (x2 : Int) (res : Bool ⊕ Unit), jQ a1 n x2 = some res → HL (kx E 29 0) (nd Try.f78 52) (jD 0 (fun o => BX) (fun v st => RetQ Try.prog Try.f78 (GE v) (VY v) .ret st) res) n (KF a1 x2) := by
 intro n
 induction n with
 | zero =>
  intro x2 res hm
  cases hm
 | succ n ih =>
  intro x2 res hm
  refine qV ?_
  refine q_sq ?_
  refine q_vu [] 1 [] [(11, vb (decide (x2 < 2)))] [] [] ?_
  refine q_sq ?_
  refine q_cn (decide (x2 < 2)) (fun b3 => ?_) (fun b3 => ?_)
  ·replace hm := qA b3 hm
   refine q_sk ?_
   refine q_sq ?_
   refine q_bk 1 ?_
   refine q_sq ?_
   obtain ⟨g4, hm⟩ := qO hm
   refine q_vu [qd 0 (Dir.none) (inb_of g4)] 1 [11] [(4, vp 1 0)] [] [(1, bx 26 [ci (([a1.X.A, a1.X.B, a1.Y.A, a1.Y.B] : List Int).getD (x2.toNat * 2 + 0) 0), ci (([a1.X.A, a1.X.B, a1.Y.A, a1.Y.B] : List Int).getD (x2.toNat * 2 + 1) 0)])] ?_
   refine q_jn (ι := Bool) (fun p => NB a1 x2 p) (fun p => JX x2 (jQ a1 n) p = some res) ?_ ?_
   ·rintro x7 hm
    show H _ (NB a1 x2 x7) _ _
    refine q_cn x7 (fun b8 => ?_) (fun b8 => ?_)
    ·replace hm := qA b8 hm
     refine q_sq ?_
     refine q_vn [] 2 ⟨[(2, vb false)], []⟩ ?_
     obtain rfl := Option.some.inj hm
     refine q_rt ?_
     refine zB false ?_
     exact q_rm
    ·replace hm := qB b8 hm
     refine q_sk ?_
     refine q_vu [] 2 [10, 27] [(10, vi (w64 (x2 + 1)))] [] [] ?_
     exact q_hl (KF a1 (w64 (x2 + 1))) (ih (w64 (x2 + 1)) _ hm)
   ·rcases Bool.eq_false_or_eq_true (decide ((([a1.X.A, a1.X.B, a1.Y.A, a1.Y.B] : List Int).getD (x2.toNat * 2 + 0) 0) < (-600))) with b5 | b5
    ·replace hm := qA b5 hm
     refine q_vu [qf 3 b5] 2 [4] [(27, vb true)] [1] [] ?_
     exact q_J (true) hm
    ·replace hm := qB b5 hm
     rcases Bool.eq_false_or_eq_true (decide ((([a1.X.A, a1.X.B, a1.Y.A, a1.Y.B] : List Int).getD (x2.toNat * 2 + 1) 0) > 600)) with b6 | b6
     ·replace hm := qA b6 hm
      refine q_vu [qf 3 b5, qf 8 b6] 2 [4] [(27, vb true)] [1] [] ?_
      exact q_J (true) hm
     ·replace hm := qB b6 hm
      refine q_vu [qf 3 b5, qf 8 b6] 2 [4] [(27, vb (decide ((([a1.X.A, a1.X.B, a1.Y.A, a1.Y.B] : List Int).getD (x2.toNat * 2 + 0) 0) ≥ (([a1.X.A, a1.X.B, a1.Y.A, a1.Y.B] : List Int).getD (x2.toNat * 2 + 1) 0))))] [1] [] ?_
      exact q_J (decide ((([a1.X.A, a1.X.B, a1.Y.A, a1.Y.B] : List Int).getD (x2.toNat * 2 + 0) 0) ≥ (([a1.X.A, a1.X.B, a1.Y.A, a1.Y.B] : List Int).getD (x2.toNat * 2 + 1) 0))) hm
  ·replace hm := qB b3 hm
   refine q_ex 0 ?_
   obtain rfl := Option.some.inj hm
   exact jJ () (by kernel_rfl) (by kernel_rfl)
theorem qBf (a1 : Rect) (r : Bool) (hm : FU a1 = some r) : CtX Try.prog globs 78 0 0 [.agg (qK a1)] [] (GE r) (VY r) := by
 unfold FU at hm
 refine q_E Try.f78 29 fun E => ?_
 refine q_sq ?_
 refine q_vn [] 0 ⟨[(1, vp 0 0)], [(0, bx 28 (qK a1))]⟩ ?_
 refine q_sq ?_
 refine q_sq ?_
 refine q_vn [] 1 ⟨[(9, va (qK a1)), (10, vi 0)], []⟩ ?_
 obtain ⟨u11, h10, hm⟩ := qC hm
 refine zI (nd Try.f78 52) 0 (by kernel_rfl) FUEL (fun o => BX) (fun v st => RetQ Try.prog Try.f78 (GE v) (VY v) .ret st) u11 (q_hl (KF a1 0) (AY E a1 FUEL 0 u11 h10)) ?_ ?_
 ·rintro v12 rfl st hr
  obtain rfl := Option.some.inj hm
  exact hr
 ·rintro o9 rfl
  replace hm : _ = some r := hm
  refine q_sq ?_
  refine q_vn [] 1 ⟨[(2, vb true)], []⟩ ?_
  obtain rfl := Option.some.inj hm
  refine q_rt ?_
  exact q_rm
end Saw
end Go.SL
