import Derived.Test.YtjobdnkaonbgnaaEBase
import Derived.Test.YtjobdnkaonbgnaaEFa4
import Derived.Test.YtjobdnkaonbgnaaEFa3
set_option linter.unusedVariables false
set_option linter.unusedSimpArgs false
namespace Go.SL
namespace Saw
open Go.Proofs
set_option maxHeartbeats 4000000
set_option maxRecDepth 100000
noncomputable def XM (a1 : Pattern) (a2 : List Product) (a3 : Int) (a4 : Int) (a5 : Pattern) (a6 : Int) (ri : RI 67) (r : Nat × Int × Int) : V := .undef
noncomputable def YN (a1 : Pattern) (a2 : List Product) (a3 : Int) (a4 : Int) (a5 : Pattern) (a6 : Int) (ri : RI 67) (r : Nat × Int × Int) : List (Nat × (Nat × O)) := [(0, lz (rc Try.f55 506 ri) ri.b [.ret] r.1), (1, bx 31 (qD a1)), (2, bx 118 [.fn 71 [.bptr 3 0 0]]), (3, bx 24 [tl qE default a2]), (4, bx 42 [ci r.2.1]), (5, bx 3 [ci r.2.2]), (6, bx 31 (qD a5)), (7, bx 3 [ci a6])]
noncomputable def RR (ri : RI 67) (a1 : Pattern) (a2 : List Product) (a5 : Pattern) (a6 : Int) (x8 : Int) (l25 : List Pattern_place) (l25n : Nat) (x26 : Int) (x27 : Int) : St :=
 ⟨[(0, vc (.yl (rc Try.f55 506 ri) ri.b [3, 5, 6, 7] [.bptr 1 0 0, .bptr 2 0 0, .bptr 4 0 0, .bptr 5 0 0])), (1, vp 6 0), (2, vp 7 0), (4, vo 8 0 5 l25n), (5, vi x8)], [(0, lq (rc Try.f55 506 ri) ri.b), (1, bx 31 (qD a1)), (2, bx 118 [.fn 71 [.bptr 3 0 0]]), (3, bx 24 [tl qE default a2]), (4, bx 42 [ci x27]), (5, bx 3 [ci x26]), (6, bx 31 (qD a5)), (7, bx 3 [ci a6]), (8, ro 0 123 5 l25n (rf e_Pattern_place l25))]⟩
noncomputable def ZQ (ri : RI 67) (a1 : Pattern) (a2 : List Product) (a5 : Pattern) (a6 : Int) (l7 : List Pattern_place) (l7n : Nat) (x8 : Int) (x9 : Int) (x10 : Int) : St :=
 ⟨[(0, vc (.yl (rc Try.f55 506 ri) ri.b [3, 5, 6, 7] [.bptr 1 0 0, .bptr 2 0 0, .bptr 4 0 0, .bptr 5 0 0])), (1, vp 6 0), (2, vp 7 0), (4, vo 8 0 5 l7n), (5, vi x8)], [(0, lq (rc Try.f55 506 ri) ri.b), (1, bx 31 (qD a1)), (2, bx 118 [.fn 71 [.bptr 3 0 0]]), (3, bx 24 [tl qE default a2]), (4, bx 42 [ci x9]), (5, bx 3 [ci x10]), (6, bx 31 (qD a5)), (7, bx 3 [ci a6]), (8, ro 0 123 5 l7n (rf e_Pattern_place l7))]⟩
noncomputable def RO (ri : RI 67) (a1 : Pattern) (a2 : List Product) (a5 : Pattern) (a6 : Int) (x28 : Int) (x29 : Int) : St :=
 ⟨[], [(0, lq (rc Try.f55 506 ri) ri.b), (1, bx 31 (qD a1)), (2, bx 118 [.fn 71 [.bptr 3 0 0]]), (3, bx 24 [tl qE default a2]), (4, bx 42 [ci x29]), (5, bx 3 [ci x28]), (6, bx 31 (qD a5)), (7, bx 3 [ci a6])]⟩
theorem MW (E : Env 8) (ri : RI 67) (a1 : Pattern) (a2 : List Product) (a3 : Int) (a4 : Int) (a5 : Pattern) (a6 : Int) : ∀ (n : Nat) (l7 : List Pattern_place) (l7n : Nat) (x8 : Int) (x9 : Int) (x10 : Int) (res : (Nat × Int × Int) ⊕ (Int × Int)), l7.length = l7n → jF a1 a2 a5 a6 n l7 x8 x9 x10 = some res → HL (kx E 73 8) (nd Try.f75 28) (jD 0 (fun o => RO ri a1 a2 a5 a6 o.1 o.2) (fun v st => RetQ Try.prog Try.f75 (XM a1 a2 a3 a4 a5 a6 ri v) (YN a1 a2 a3 a4 a5 a6 ri v) .ret st) res) n (ZQ ri a1 a2 a5 a6 l7 l7n x8 x9 x10) := by
 intro n
 induction n with
 | zero =>
  intro l7 l7n x8 x9 x10 res hl0 hm
  cases hm
 | succ n ih =>
  intro l7 l7n x8 x9 x10 res hl0 hm
  subst hl0
  refine qV ?_
  refine q_sq ?_
  refine q_sq ?_
  refine q_vu [] 9 [] [(17, vb (decide (((l7.length : Nat) : Int) > 0)))] [] [] ?_
  refine q_cn (decide (((l7.length : Nat) : Int) > 0)) (fun b11 => ?_) (fun b11 => ?_)
  ·replace hm := qA b11 hm
   refine q_sk ?_
   refine q_jn (ι := (List Pattern_place) × Nat × Int × Int) (fun p => RR ri a1 a2 a5 a6 x8 p.1 p.2.1 p.2.2.1 p.2.2.2) (fun p => p.1.length = p.2.1 ∧ JK x8 (jF a1 a2 a5 a6 n) p.1 p.2.2.1 p.2.2.2 = some res) ?_ ?_
   ·rintro ⟨l25, l25n, x26, x27⟩ ⟨el25, hm⟩
    replace el25 : l25.length = l25n := el25
    subst el25
    show H _ (RR ri a1 a2 a5 a6 x8 l25 l25.length x26 x27) _ _
    refine q_vu [] 15 [5] [(5, vi (w64 (x8 + 1)))] [] [] ?_
    exact q_hl (ZQ ri a1 a2 a5 a6 l25 l25.length (w64 (x8 + 1)) x27 x26) (ih l25 l25.length (w64 (x8 + 1)) x27 x26 _ rfl hm)
   ·refine q_bk 1 ?_
    refine q_sq ?_
    obtain ⟨g12, hm⟩ := qO hm
    refine q_vu [qd 4 (Dir.none) (inb_of g12), qd 5 (Dir.none) (toNat_lt (inb_of g12))] 9 [17] [(6, vp 9 0)] [] [(9, bx 123 [ci ((((l7.getD ((w64 (((l7.length : Nat) : Int) - 1)).toNat) default).rect).X).A), ci ((((l7.getD ((w64 (((l7.length : Nat) : Int) - 1)).toNat) default).rect).X).B), ci ((((l7.getD ((w64 (((l7.length : Nat) : Int) - 1)).toNat) default).rect).Y).A), ci ((((l7.getD ((w64 (((l7.length : Nat) : Int) - 1)).toNat) default).rect).Y).B), ci ((l7.getD ((w64 (((l7.length : Nat) : Int) - 1)).toNat) default).level)])] ?_
    refine q_sq ?_
    obtain ⟨g13, hm⟩ := qO hm
    refine q_wu [qd 4 (Dir.none) (And.intro (slOk_of g13).2.1 (slOk_of g13).2.2)] [.row 8 ((w64 (((l7.length : Nat) : Int) - 1)).toNat) (rf e_Pattern_place (l7.take ((w64 (((l7.length : Nat) : Int) - 1)).toNat)))] (o1 (tkP e_Pattern_place default l7 l7.length ((w64 (((l7.length : Nat) : Int) - 1)).toNat) (show (w64 (((l7.length : Nat) : Int) - 1)).toNat ≤ l7.length by have := (slOk_of g13); omega))) 10 [4] [(4, vo 8 0 5 ((w64 (((l7.length : Nat) : Int) - 1)).toNat))] [8] [(8, ro 0 123 5 ((w64 (((l7.length : Nat) : Int) - 1)).toNat) (rf e_Pattern_place (l7.take ((w64 (((l7.length : Nat) : Int) - 1)).toNat))))] ?_
    refine q_sq ?_
    refine q_sq ?_
    obtain ⟨v14, h15, hm⟩ := qC hm
    rcases Bool.eq_false_or_eq_true (!(Nat.beq v14.1 0)) with b16 | b16
    ·replace hm := qA b16 hm
     refine q_vu [qd 3 (dex (cen [(0, 0), (1, 0), (2, 0), (3, 0), (4, 0), (5, 0)] [0, 0, 0, 0, 0, 0] 4 6 (ZP x8 (l7.getD ((w64 (((l7.length : Nat) : Int) - 1)).toNat) default) a1 a2 x9 x10 ri v14) (ZG x8 (l7.getD ((w64 (((l7.length : Nat) : Int) - 1)).toNat) default) a1 a2 x9 x10 ri v14) [31, 32, 33] [0, 1, 2, 3, 4, 5])) (NM (K := (kx E 73 8)) ⟨[(31, vc (.yl (rc Try.f55 506 ri) ri.b [3, 5, 6, 7] [.bptr 1 0 0, .bptr 2 0 0, .bptr 4 0 0, .bptr 5 0 0])), (32, vi x8), (33, va [ci ((((l7.getD ((w64 (((l7.length : Nat) : Int) - 1)).toNat) default).rect).X).A), ci ((((l7.getD ((w64 (((l7.length : Nat) : Int) - 1)).toNat) default).rect).X).B), ci ((((l7.getD ((w64 (((l7.length : Nat) : Int) - 1)).toNat) default).rect).Y).A), ci ((((l7.getD ((w64 (((l7.length : Nat) : Int) - 1)).toNat) default).rect).Y).B), ci ((l7.getD ((w64 (((l7.length : Nat) : Int) - 1)).toNat) default).level)])], [(0, lq (rc Try.f55 506 ri) ri.b), (1, bx 31 (qD a1)), (2, bx 118 [.fn 71 [.bptr 3 0 0]]), (3, bx 24 [tl qE default a2]), (4, bx 42 [ci x9]), (5, bx 3 [ci x10])]⟩ (opAt (rg Try.f75 3660) 3) [(0, 0), (1, 0), (2, 0), (3, 0), (4, 0), (5, 0)] [0, 0, 0, 0, 0, 0] 4 0 o0 rfl (KV x8 (l7.getD ((w64 (((l7.length : Nat) : Int) - 1)).toNat) default) a1 a2 x9 x10 ri v14 h15) (.inl rfl) (by kernel_rfl)), qf 5 b16] 10 [] [(42, vb true)] [0, 4, 5] [(0, lz (rc Try.f55 506 ri) ri.b [.ret] v14.1), (4, bx 42 [ci v14.2.1]), (5, bx 3 [ci v14.2.2])] ?_
     refine qCL Try.f75 (.tmp 42) 7322 7323 (by kernel_rfl) (by kernel_rfl) ?_
     obtain rfl := Option.some.inj hm
     refine q_rt ?_
     refine zB (v14.1, v14.2.1, v14.2.2) ?_
     exact q_rm
    ·replace hm := qB b16 hm
     refine q_wu [qd 3 (dex (cen [(0, 0), (1, 0), (2, 0), (3, 0), (4, 0), (5, 0)] [0, 0, 0, 0, 0, 0] 4 6 (ZP x8 (l7.getD ((w64 (((l7.length : Nat) : Int) - 1)).toNat) default) a1 a2 x9 x10 ri v14) (ZG x8 (l7.getD ((w64 (((l7.length : Nat) : Int) - 1)).toNat) default) a1 a2 x9 x10 ri v14) [31, 32, 33] [0, 1, 2, 3, 4, 5])) (NM (K := (kx E 73 8)) ⟨[(31, vc (.yl (rc Try.f55 506 ri) ri.b [3, 5, 6, 7] [.bptr 1 0 0, .bptr 2 0 0, .bptr 4 0 0, .bptr 5 0 0])), (32, vi x8), (33, va [ci ((((l7.getD ((w64 (((l7.length : Nat) : Int) - 1)).toNat) default).rect).X).A), ci ((((l7.getD ((w64 (((l7.length : Nat) : Int) - 1)).toNat) default).rect).X).B), ci ((((l7.getD ((w64 (((l7.length : Nat) : Int) - 1)).toNat) default).rect).Y).A), ci ((((l7.getD ((w64 (((l7.length : Nat) : Int) - 1)).toNat) default).rect).Y).B), ci ((l7.getD ((w64 (((l7.length : Nat) : Int) - 1)).toNat) default).level)])], [(0, lq (rc Try.f55 506 ri) ri.b), (1, bx 31 (qD a1)), (2, bx 118 [.fn 71 [.bptr 3 0 0]]), (3, bx 24 [tl qE default a2]), (4, bx 42 [ci x9]), (5, bx 3 [ci x10])]⟩ (opAt (rg Try.f75 3660) 3) [(0, 0), (1, 0), (2, 0), (3, 0), (4, 0), (5, 0)] [0, 0, 0, 0, 0, 0] 4 0 o0 rfl (KV x8 (l7.getD ((w64 (((l7.length : Nat) : Int) - 1)).toNat) default) a1 a2 x9 x10 ri v14 h15) (.inl rfl) (by kernel_rfl)), qf 5 b16] [.lpn 0 .ready none] (o1 (qAz (js := [.ret]) b16)) 10 [] [(42, vb (decide (x8 ≥ ((a5.Nodes.length : Nat) : Int))))] [4, 5] [(4, bx 42 [ci v14.2.1]), (5, bx 3 [ci v14.2.2])] ?_
     refine q_cn (decide (x8 ≥ ((a5.Nodes.length : Nat) : Int))) (fun b17 => ?_) (fun b17 => ?_)
     ·replace hm := qA b17 hm
      obtain rfl := Option.some.inj hm
      refine q_rt ?_
      refine zB (0, v14.2.1, v14.2.2) ?_
      exact q_rm
     ·replace hm := qB b17 hm
      refine q_sk ?_
      refine q_sq ?_
      obtain ⟨g18, hm⟩ := qO hm
      refine q_vu [qd 3 (Dir.none) (inb_of g18)] 10 [42] [(7, vp 10 0)] [] [(10, bx 59 [ci ((a5.Nodes.getD x8.toNat default).Kind), ci ((a5.Nodes.getD x8.toNat default).At)])] ?_
      refine q_sq ?_
      obtain ⟨v19, h20, hm⟩ := qC hm
      refine q_vu [qc 2 [49] 11 (jI ((a5.Nodes.getD x8.toNat default).Kind) v19 h20)] 11 [] [(50, vb v19)] [] [] ?_
      refine q_cn v19 (fun b21 => ?_) (fun b21 => ?_)
      ·replace hm := qA b21 hm
       refine q_sq ?_
       obtain ⟨v22, h23, hm⟩ := qC hm
       refine q_vu [qc 4 [53, 54, 55] 11 (yM ((l7.getD ((w64 (((l7.length : Nat) : Int) - 1)).toNat) default).rect) (a5.Nodes.getD x8.toNat default) a6 v22 h23)] 11 [7, 50] [(8, vp 11 0), (10, vp 13 0)] [10] [(11, bx 28 (qK v22.1)), (13, bx 28 (qK v22.2.2))] ?_
       obtain ⟨g24, hm⟩ := qO hm
       refine q_vu [qd 11 (drw 14 0 (rf e_Pattern_place ([(Pattern_place.mk v22.2.2 (w64 (((l7.getD ((w64 (((l7.length : Nat) : Int) - 1)).toNat) default).level) + 1))), (Pattern_place.mk v22.1 (w64 (((l7.getD ((w64 (((l7.length : Nat) : Int) - 1)).toNat) default).level) + 1)))] : List Pattern_place))) (litP e_Pattern_place default 5 (fun _ => rfl) ([(Pattern_place.mk v22.2.2 (w64 (((l7.getD ((w64 (((l7.length : Nat) : Int) - 1)).toNat) default).level) + 1))), (Pattern_place.mk v22.1 (w64 (((l7.getD ((w64 (((l7.length : Nat) : Int) - 1)).toNat) default).level) + 1)))] : List Pattern_place) 2 rfl), qd 12 (drw 8 1 (rf e_Pattern_place ((l7.take ((w64 (((l7.length : Nat) : Int) - 1)).toNat)) ++ ([(Pattern_place.mk v22.2.2 (w64 (((l7.getD ((w64 (((l7.length : Nat) : Int) - 1)).toNat) default).level) + 1))), (Pattern_place.mk v22.1 (w64 (((l7.getD ((w64 (((l7.length : Nat) : Int) - 1)).toNat) default).level) + 1)))] : List Pattern_place)))) (apP e_Pattern_place default (l7.take ((w64 (((l7.length : Nat) : Int) - 1)).toNat)) ([(Pattern_place.mk v22.2.2 (w64 (((l7.getD ((w64 (((l7.length : Nat) : Int) - 1)).toNat) default).level) + 1))), (Pattern_place.mk v22.1 (w64 (((l7.getD ((w64 (((l7.length : Nat) : Int) - 1)).toNat) default).level) + 1)))] : List Pattern_place) ((w64 (((l7.length : Nat) : Int) - 1)).toNat) 2 5 40 (2 ≤ 2) (Nat.le_refl _) (jT rfl (show (w64 (((l7.length : Nat) : Int) - 1)).toNat ≤ l7.length by have := (slOk_of g13); omega)) rfl (fun _ => rfl) (ZX g24))] 14 [4, 6, 8, 10] [(4, vo 8 1 5 ((w64 (((l7.length : Nat) : Int) - 1)).toNat + 2))] [8, 9, 11, 13] [(8, ro 1 123 5 ((w64 (((l7.length : Nat) : Int) - 1)).toNat + 2) (rf e_Pattern_place ((l7.take ((w64 (((l7.length : Nat) : Int) - 1)).toNat)) ++ ([(Pattern_place.mk v22.2.2 (w64 (((l7.getD ((w64 (((l7.length : Nat) : Int) - 1)).toNat) default).level) + 1))), (Pattern_place.mk v22.1 (w64 (((l7.getD ((w64 (((l7.length : Nat) : Int) - 1)).toNat) default).level) + 1)))] : List Pattern_place))))] ?_
       exact q_J (((l7.take ((w64 (((l7.length : Nat) : Int) - 1)).toNat)) ++ ([(Pattern_place.mk v22.2.2 (w64 (((l7.getD ((w64 (((l7.length : Nat) : Int) - 1)).toNat) default).level) + 1))), (Pattern_place.mk v22.1 (w64 (((l7.getD ((w64 (((l7.length : Nat) : Int) - 1)).toNat) default).level) + 1)))] : List Pattern_place)), ((w64 (((l7.length : Nat) : Int) - 1)).toNat + 2), v14.2.2, v14.2.1) ⟨(len_app (jT rfl (show (w64 (((l7.length : Nat) : Int) - 1)).toNat ≤ l7.length by have := (slOk_of g13); omega)) rfl), hm⟩
      ·replace hm := qB b21 hm
       refine q_sk ?_
       exact q_J ((l7.take ((w64 (((l7.length : Nat) : Int) - 1)).toNat)), (w64 (((l7.length : Nat) : Int) - 1)).toNat, v14.2.2, v14.2.1) ⟨(jT rfl (show (w64 (((l7.length : Nat) : Int) - 1)).toNat ≤ l7.length by have := (slOk_of g13); omega)), hm⟩
  ·replace hm := qB b11 hm
   refine q_ex 0 ?_
   obtain rfl := Option.some.inj hm
   exact jJ (x10, x9) (by kernel_rfl) (by kernel_rfl)
theorem EF (a1 : Pattern) (a2 : List Product) (a3 : Int) (a4 : Int) (a5 : Pattern) (a6 : Int) (ri : RI 67) (r : Nat × Int × Int) (hm : RF a1 a2 a3 a4 a5 a6 = some r) : CtX Try.prog globs 75 8 8 [.one (.yl (rc Try.f55 506 ri) ri.b [3, 5, 6, 7] [.bptr 1 0 0, .bptr 2 0 0, .bptr 4 0 0, .bptr 5 0 0]), .one (.bptr 6 0 0), .one (.bptr 7 0 0)] [(0, lq (rc Try.f55 506 ri) ri.b), (1, bx 31 (qD a1)), (2, bx 118 [.fn 71 [.bptr 3 0 0]]), (3, bx 24 [tl qE default a2]), (4, bx 42 [ci a3]), (5, bx 3 [ci a4]), (6, bx 31 (qD a5)), (7, bx 3 [ci a6])] (XM a1 a2 a3 a4 a5 a6 ri r) (YN a1 a2 a3 a4 a5 a6 ri r) := by
 unfold RF at hm
 refine q_E Try.f75 73 fun E => ?_
 refine q_sq ?_
 refine q_vn [qd 3 (drw 8 0 (rf e_Pattern_place ([(Pattern_place.mk a5.Frame 1)] : List Pattern_place))) (litP e_Pattern_place default 5 (fun _ => rfl) ([(Pattern_place.mk a5.Frame 1)] : List Pattern_place) 1 rfl)] 8 ⟨[(0, vc (.yl (rc Try.f55 506 ri) ri.b [3, 5, 6, 7] [.bptr 1 0 0, .bptr 2 0 0, .bptr 4 0 0, .bptr 5 0 0])), (1, vp 6 0), (2, vp 7 0), (4, vo 8 0 5 1)], [(0, lq (rc Try.f55 506 ri) ri.b), (1, bx 31 (qD a1)), (2, bx 118 [.fn 71 [.bptr 3 0 0]]), (3, bx 24 [tl qE default a2]), (4, bx 42 [ci a3]), (5, bx 3 [ci a4]), (6, bx 31 (qD a5)), (7, bx 3 [ci a6]), (8, ro 0 123 5 1 (rf e_Pattern_place ([(Pattern_place.mk a5.Frame 1)] : List Pattern_place)))]⟩ ?_
 refine q_sq ?_
 refine q_vu [] 9 [] [(5, vi 0)] [] [] ?_
 obtain ⟨u32, h31, hm⟩ := qC hm
 refine zI (nd Try.f75 28) 0 (by kernel_rfl) FUEL (fun o => RO ri a1 a2 a5 a6 o.1 o.2) (fun v st => RetQ Try.prog Try.f75 (XM a1 a2 a3 a4 a5 a6 ri v) (YN a1 a2 a3 a4 a5 a6 ri v) .ret st) u32 (q_hl (ZQ ri a1 a2 a5 a6 ([(Pattern_place.mk a5.Frame 1)] : List Pattern_place) 1 0 a3 a4) (MW E ri a1 a2 a3 a4 a5 a6 FUEL ([(Pattern_place.mk a5.Frame 1)] : List Pattern_place) 1 0 a3 a4 u32 rfl h31)) ?_ ?_
 ·rintro v33 rfl st hr
  obtain rfl := Option.some.inj hm
  exact hr
 ·rintro o30 rfl
  replace hm : _ = some r := hm
  obtain rfl := Option.some.inj hm
  exact q_rm
def LY (a1 : Pattern) (a2 : Int) (a3 : List Product) (r : Int) : V := vi r
def LE (a1 : Pattern) (a2 : Int) (a3 : List Product) (r : Int) : List (Nat × (Nat × O)) := [(0, bx 24 [tl qE default a3])]
def DB (a1 : Pattern) (a2 : Int) (a3 : List Product) (x8 : Bool) : St :=
 ⟨[(1, vi a2), (3, vp 1 0), (5, vp 2 0), (6, vp 3 0), (21, vb x8)], [(0, bx 24 [tl qE default a3]), (1, bx 31 (qD a1)), (2, bx 118 [.fn 71 [.bptr 0 0 0]]), (3, bx 42 [ci 0])]⟩
theorem CB (a1 : Pattern) (a2 : Int) (a3 : List Product) (r : Int) (hm : DU a1 a2 a3 = some r) : CtX Try.prog globs 55 1 1 [.agg (qD a1), .one (ci a2), .one (.fn 71 [.bptr 0 0 0])] [(0, bx 24 [tl qE default a3])] (LY a1 a2 a3 r) (LE a1 a2 a3 r) := by
 unfold DU at hm
 refine q_E Try.f55 67 fun E => ?_
 refine q_sq ?_
 refine q_vn [] 1 ⟨[(1, vi a2), (3, vp 1 0), (5, vp 2 0), (6, vp 3 0)], [(0, bx 24 [tl qE default a3]), (1, bx 31 (qD a1)), (2, bx 118 [.fn 71 [.bptr 0 0 0]]), (3, bx 42 [ci 0])]⟩ ?_
 refine q_sq ?_
 refine q_sq ?_
 obtain ⟨v4, h5, hm⟩ := qC hm
 refine q_vu [qc 2 [13] 4 (DM a1.Frame v4 h5)] 4 [] [(15, vb (!v4))] [] [] ?_
 refine q_cn (!v4) (fun b6 => ?_) (fun b6 => ?_)
 ·replace hm := qA b6 hm
  refine q_sq ?_
  refine q_vu [] 4 [1, 3, 5, 15] [] [1, 2, 3] [(3, bx 42 [ci 19])] ?_
  obtain rfl := Option.some.inj hm
  refine q_rt ?_
  exact q_rm
 ·replace hm := qB b6 hm
  refine q_sk ?_
  refine q_sq ?_
  refine q_jn (ι := Bool) (fun p => DB a1 a2 a3 p) (fun p => RK a1 a2 a3 p = some r) ?_ ?_
  ·rintro x8 hm
   show H _ (DB a1 a2 a3 x8) _ _
   refine q_cn x8 (fun b9 => ?_) (fun b9 => ?_)
   ·replace hm := qA b9 hm
    refine q_sq ?_
    refine q_vu [] 4 [1, 3, 5, 21] [] [1, 2, 3] [(3, bx 42 [ci 9])] ?_
    obtain rfl := Option.some.inj hm
    refine q_rt ?_
    exact q_rm
   ·replace hm := qB b9 hm
    refine q_sk ?_
    refine q_sq ?_
    refine q_sq ?_
    refine q_vu [] 4 [21] [(25, vb (decide (((a1.Nodes.length : Nat) : Int) > 127)))] [] [] ?_
    refine q_cn (decide (((a1.Nodes.length : Nat) : Int) > 127)) (fun b10 => ?_) (fun b10 => ?_)
    ·replace hm := qA b10 hm
     refine q_sq ?_
     refine q_vu [] 4 [1, 3, 5, 25] [] [1, 2, 3] [(3, bx 42 [ci 4])] ?_
     obtain rfl := Option.some.inj hm
     refine q_rt ?_
     exact q_rm
    ·replace hm := qB b10 hm
     refine q_sk ?_
     refine q_sq ?_
     refine q_vu [] 4 [25] [(7, vp 4 0)] [] [(4, bx 3 [ci 0])] ?_
     refine q_sq ?_
     refine q_sq ?_
     obtain ⟨v11, h12, hm⟩ := qC hm
     refine q_vu [qc 2 [26, 27] 5 (ZC a1 a2 v11 h12)] 5 [1] [(28, vc (.fn 75 [.bptr 5 0 0, .bptr 6 0 0]))] [] [(5, bx 31 (qD v11.1)), (6, bx 3 [ci v11.2])] ?_
     refine q_bk 0 ?_
     obtain ⟨v13, h14, hm⟩ := qC hm
     refine q_rf (.tmp 28) [3, 5, 6, 7] 7 [(7, 0), (1, 0), (2, 0), (0, 0), (3, 0), (4, 0), (5, 0), (6, 0)] [0, 0, 0, 0, 0, 0, 0, 0] 0 8 [.ret] v13.1 0 ⟨[(3, vp 1 0), (6, vp 3 0), (7, vp 4 0)], [(0, bx 24 [tl qE default a3]), (1, bx 31 (qD a1)), (3, bx 42 [ci v13.2.1]), (4, bx 3 [ci v13.2.2])]⟩ (fun ri => EF a1 a3 0 0 v11.1 v11.2 ri v13 h14) ?_
     rcases Bool.eq_false_or_eq_true (Nat.beq v13.1 0) with b15 | b15
     ·replace hm := qA b15 hm
      refine JQ_n b15 ?_
      refine q_sq ?_
      refine q_sq ?_
      refine q_vu [] 8 [3, 7] [(66, vb (decide (v13.2.2 < ((a1.Nodes.length : Nat) : Int))))] [1, 4] [] ?_
      refine q_cn (decide (v13.2.2 < ((a1.Nodes.length : Nat) : Int))) (fun b17 => ?_) (fun b17 => ?_)
      ·replace hm := qA b17 hm
       refine q_sq ?_
       refine q_vu [] 8 [66] [] [3] [(3, bx 42 [ci 4])] ?_
       obtain rfl := Option.some.inj hm
       refine q_rt ?_
       exact q_rm
      ·replace hm := qB b17 hm
       refine q_sk ?_
       refine q_sq ?_
       refine q_vu [] 8 [66] [] [3] [(3, bx 42 [ci 0])] ?_
       obtain rfl := Option.some.inj hm
       refine q_rt ?_
       exact q_rm
     ·replace hm := qB b15 hm
      rcases Bool.eq_false_or_eq_true (Nat.beq v13.1 1) with b16 | b16
      ·replace hm := qA b16 hm
       refine JQ_j 0 .ret b16 (by kernel_rfl) ?_
       obtain rfl := Option.some.inj hm
       refine q_rt ?_
       exact q_rm
      ·replace hm := qB b16 hm
       cases hm
  ·rcases Bool.eq_false_or_eq_true (decide (a2 < 0)) with b7 | b7
   ·replace hm := qA b7 hm
    refine q_vu [qf 2 b7] 4 [15] [(21, vb true)] [] [] ?_
    exact q_J (true) hm
   ·replace hm := qB b7 hm
    refine q_vu [qf 2 b7] 4 [15] [(21, vb (decide (a2 > 20)))] [] [] ?_
    exact q_J (decide (a2 > 20)) hm
set_option maxRecDepth 100000
def qAX (r : Int) : V := vi r
def qAG (r : Int) : List (Nat × (Nat × O)) := []
theorem CT (a1 : Pattern) (a2 : List Product) (a3 : Int) (r : Int) (hm : DR a1 a2 a3 = some r) : CtX Try.prog globs 54 0 0 [.agg (qD a1), .one (tl qE default a2), .one (ci a3)] [] (qAX r) (qAG r) := by
 unfold DR at hm
 refine q_E Try.f54 11 fun E => ?_
 refine q_sq ?_
 refine q_vn [] 0 ⟨[(2, vi a3), (3, vp 0 0), (4, vp 1 0)], [(0, bx 31 (qD a1)), (1, bx 24 [tl qE default a2])]⟩ ?_
 refine q_sq ?_
 obtain ⟨v4, h5, hm⟩ := qC hm
 refine q_vn [qd 3 (dex (cen [(1, 0)] [0] 1 1 (LY a1 a3 a2 v4) (LE a1 a3 a2 v4) [7, 8, 9] [1])) (PB (K := (kx E 11 0)) ⟨[(7, va (qD a1)), (8, vi a3), (9, vc (.fn 71 [.bptr 1 0 0]))], [(1, bx 24 [tl qE default a2])]⟩ (opAt (rg Try.f54 6) 3) [(1, 0)] [0] 1 o0 rfl (CB a1 a3 a2 v4 h5) (.inl rfl) (by kernel_rfl))] 2 ⟨[(6, vi v4)], []⟩ ?_
 obtain rfl := Option.some.inj hm
 refine q_rt ?_
 exact q_rm
open Go.Proofs
set_option maxHeartbeats 4000000
set_option maxRecDepth 100000
def qCF (r : Int) : V := vi r
def qCE (r : Int) : List (Nat × (Nat × O)) := []
theorem MZ (a1 : List qJ) (a2 : List Defect) (a3 : List Product) (a4 : Pattern) (a5 : Saw) (a6 : Rates) (r : Int) (hm : GN a1 a2 a3 a4 a5 a6 = some r) : CtX Try.prog globs 37 0 0 [.one (tl qI default a1), .one (tl qF default a2), .one (tl qE default a3), .agg (qD a4), .agg (zX a5), .agg (yX a6)] [] (qCF r) (qCE r) := by
 unfold GN at hm
 refine q_E Try.f37 43 fun E => ?_
 refine q_sq ?_
 refine q_vn [] 0 ⟨[(0, vc (tl qI default a1)), (1, vc (tl qF default a2)), (2, vc (tl qE default a3)), (9, vp 0 0), (10, vp 1 0), (11, vp 2 0)], [(0, bx 31 (qD a4)), (1, bx 33 (zX a5)), (2, bx 35 (yX a6))]⟩ ?_
 refine q_sq ?_
 refine q_sq ?_
 obtain ⟨v7, h8, hm⟩ := qC hm
 refine q_vu [qc 1 [17] 3 (yI a1 v7 h8)] 3 [0] [(13, vi v7)] [] [] ?_
 refine q_sq ?_
 refine q_vu [] 3 [] [(20, vb (v7 != 0))] [] [] ?_
 refine q_cn (v7 != 0) (fun b9 => ?_) (fun b9 => ?_)
 ·replace hm := qA b9 hm
  refine q_sq ?_
  refine q_vn [] 3 ⟨[(12, vi v7)], []⟩ ?_
  obtain rfl := Option.some.inj hm
  refine q_rt ?_
  exact q_rm
 ·replace hm := qB b9 hm
  refine q_sk ?_
  refine q_sq ?_
  refine q_sq ?_
  obtain ⟨v10, h11, hm⟩ := qC hm
  refine q_vu [qc 1 [22] 3 (YL a2 v10 h11)] 3 [1, 13, 20] [(14, vi v10)] [] [] ?_
  refine q_sq ?_
  refine q_vu [] 3 [] [(25, vb (v10 != 0))] [] [] ?_
  refine q_cn (v10 != 0) (fun b12 => ?_) (fun b12 => ?_)
  ·replace hm := qA b12 hm
   refine q_sq ?_
   refine q_vn [] 3 ⟨[(12, vi v10)], []⟩ ?_
   obtain rfl := Option.some.inj hm
   refine q_rt ?_
   exact q_rm
  ·replace hm := qB b12 hm
   refine q_sk ?_
   refine q_sq ?_
   refine q_sq ?_
   obtain ⟨v13, h14, hm⟩ := qC hm
   refine q_vu [qc 1 [27] 3 (PV a3 v13 h14)] 3 [14, 25] [(15, vi v13)] [] [] ?_
   refine q_sq ?_
   refine q_vu [] 3 [] [(30, vb (v13 != 0))] [] [] ?_
   refine q_cn (v13 != 0) (fun b15 => ?_) (fun b15 => ?_)
   ·replace hm := qA b15 hm
    refine q_sq ?_
    refine q_vn [] 3 ⟨[(12, vi v13)], []⟩ ?_
    obtain rfl := Option.some.inj hm
    refine q_rt ?_
    exact q_rm
   ·replace hm := qB b15 hm
    refine q_sk ?_
    refine q_sq ?_
    refine q_sq ?_
    obtain ⟨v16, h17, hm⟩ := qC hm
    refine q_vu [qc 2 [32, 33] 3 (qBl a5 a6 v16 h17)] 3 [11, 15, 30] [(16, vi v16)] [2] [] ?_
    refine q_sq ?_
    refine q_vu [] 3 [] [(36, vb (v16 != 0))] [] [] ?_
    refine q_cn (v16 != 0) (fun b18 => ?_) (fun b18 => ?_)
    ·replace hm := qA b18 hm
     refine q_sq ?_
     refine q_vn [] 3 ⟨[(12, vi v16)], []⟩ ?_
     obtain rfl := Option.some.inj hm
     refine q_rt ?_
     exact q_rm
    ·replace hm := qB b18 hm
     refine q_sk ?_
     refine q_sq ?_
     obtain ⟨v19, h20, hm⟩ := qC hm
     refine q_vn [qc 4 [38, 39, 41] 3 (CT a4 a3 a5.Kerf v19 h20)] 3 ⟨[(12, vi v19)], []⟩ ?_
     obtain rfl := Option.some.inj hm
     refine q_rt ?_
     exact q_rm
def II (r : Int) : V := vi r
def IE (r : Int) : List (Nat × (Nat × O)) := []
def RV (x4 : Bool) : St :=
 ⟨[(10, vb x4)], []⟩
theorem EM (a1 : Rect) (a2 : Int) (r : Int) (hm : RE a1 a2 = some r) : CtX Try.prog globs 56 0 0 [.agg (qK a1), .one (ci a2)] [] (II r) (IE r) := by
 unfold RE at hm
 refine q_E Try.f56 11 fun E => ?_
 refine q_sq ?_
 refine q_vn [] 0 ⟨[(1, vi a2)], []⟩ ?_
 refine q_sq ?_
 refine q_jn (ι := Bool) (fun p => RV p) (fun p => JG p = some r) ?_ ?_
 ·rintro x4 hm
  show H _ (RV x4) _ _
  refine q_cn x4 (fun b5 => ?_) (fun b5 => ?_)
  ·replace hm := qA b5 hm
   refine q_sq ?_
   refine q_vn [] 1 ⟨[(4, vi 8)], []⟩ ?_
   obtain rfl := Option.some.inj hm
   refine q_rt ?_
   exact q_rm
  ·replace hm := qB b5 hm
   refine q_sk ?_
   refine q_sq ?_
   refine q_vn [] 1 ⟨[(4, vi 0)], []⟩ ?_
   obtain rfl := Option.some.inj hm
   refine q_rt ?_
   exact q_rm
 ·rcases Bool.eq_false_or_eq_true (decide (a2 < 0)) with b3 | b3
  ·replace hm := qA b3 hm
   refine q_vn [qf 2 b3] 1 ⟨[(10, vb true)], []⟩ ?_
   exact q_J (true) hm
  ·replace hm := qB b3 hm
   refine q_vn [qf 2 b3] 1 ⟨[(10, vb (decide (a2 ≥ 16)))], []⟩ ?_
   exact q_J (decide (a2 ≥ 16)) hm
set_option maxRecDepth 100000
noncomputable def yK (a1 : Int) (a2 : Pattern_place) (a3 : Pattern) (a4 : Int) (a5 : Int) (ri : RI 67) (r : Nat × Int × Int) : V := vb (Nat.beq r.1 0)
noncomputable def yS (a1 : Int) (a2 : Pattern_place) (a3 : Pattern) (a4 : Int) (a5 : Int) (ri : RI 67) (r : Nat × Int × Int) : List (Nat × (Nat × O)) := [(0, lz (rc Try.f55 506 ri) ri.b [.ret] r.1), (1, bx 31 (qD a3)), (2, bx 118 [.fn 56 []]), (3, bx 42 [ci r.2.1]), (4, bx 3 [ci r.2.2])]
noncomputable def WC (ri : RI 67) (a1 : Int) (a3 : Pattern) (a4 : Int) (a5 : Int) (x15 : Int) : St :=
 ⟨[(6, vp 3 0), (7, vp 4 0), (8, vi a1), (11, vi x15)], [(0, ly (rc Try.f55 506 ri) ri.b), (1, bx 31 (qD a3)), (2, bx 118 [.fn 56 []]), (3, bx 42 [ci a4]), (4, bx 3 [ci a5])]⟩
noncomputable def WD (ri : RI 67) (a1 : Int) (a2 : Pattern_place) (a3 : Pattern) (a4 : Int) (a5 : Int) (v8 : Int) (x11 : Bool) : St :=
 ⟨[(5, vp 2 0), (6, vp 3 0), (7, vp 4 0), (8, vi a1), (9, vp 5 0), (10, vp 6 0), (11, vi v8), (50, vb x11)], [(0, ly (rc Try.f55 506 ri) ri.b), (1, bx 31 (qD a3)), (2, bx 118 [.fn 56 []]), (3, bx 42 [ci a4]), (4, bx 3 [ci a5]), (5, bx 123 (e_Pattern_place a2)), (6, bx 59 [ci ((a3.Nodes.getD a1.toNat default).Kind), ci ((a3.Nodes.getD a1.toNat default).At)])]⟩
theorem YE (a1 : Int) (a2 : Pattern_place) (a3 : Pattern) (a4 : Int) (a5 : Int) (ri : RI 67) (r : Nat × Int × Int) (hm : QP a1 a2 a3 a4 a5 = some r) : CtR Try.prog globs (rc Try.f55 506 ri) ri.b [3, 5, 6, 7] 5 5 [.one (ci a1), .agg (e_Pattern_place a2), .one (.bptr 1 0 0), .one (.bptr 2 0 0), .one (.bptr 3 0 0), .one (.bptr 4 0 0)] [(0, lq (rc Try.f55 506 ri) ri.b), (1, bx 31 (qD a3)), (2, bx 118 [.fn 56 []]), (3, bx 42 [ci a4]), (4, bx 3 [ci a5])] (yK a1 a2 a3 a4 a5 ri r) (yS a1 a2 a3 a4 a5 ri r) := by
 unfold QP at hm
 refine q_R Try.f55 506 67 ri fun E => ?_
 refine q_sq ?_
 refine q_vn [] 5 ⟨[(3, vp 1 0), (5, vp 2 0), (6, vp 3 0), (7, vp 4 0), (8, vi a1), (30, va (e_Pattern_place a2))], [(0, lq (rc Try.f55 506 ri) ri.b), (1, bx 31 (qD a3)), (2, bx 118 [.fn 56 []]), (3, bx 42 [ci a4]), (4, bx 3 [ci a5])]⟩ ?_
 refine q_vu [] 5 [30] [(9, vp 5 0)] [] [(5, bx 123 (e_Pattern_place a2))] ?_
 refine q_rd ⟨[(3, vp 1 0), (5, vp 2 0), (6, vp 3 0), (7, vp 4 0), (8, vi a1), (9, vp 5 0)], [(0, ly (rc Try.f55 506 ri) ri.b), (1, bx 31 (qD a3)), (2, bx 118 [.fn 56 []]), (3, bx 42 [ci a4]), (4, bx 3 [ci a5]), (5, bx 123 (e_Pattern_place a2))]⟩ ?_
 refine q_bk 1 ?_
 refine q_sq ?_
 refine q_sq ?_
 refine q_vu [] 6 [] [(35, vb (decide (a1 ≥ ((a3.Nodes.length : Nat) : Int))))] [] [] ?_
 refine q_cn (decide (a1 ≥ ((a3.Nodes.length : Nat) : Int))) (fun b6 => ?_) (fun b6 => ?_)
 ·replace hm := qA b6 hm
  refine q_sq ?_
  refine q_vu [] 6 [3, 5, 6, 7, 8, 9, 35] [] [3, 5] [(3, bx 42 [ci 3])] ?_
  obtain rfl := Option.some.inj hm
  refine q_rt ?_
  exact q_rq
 ·replace hm := qB b6 hm
  refine q_sk ?_
  refine q_sq ?_
  obtain ⟨g7, hm⟩ := qO hm
  refine q_vu [qd 3 (Dir.none) (inb_of g7)] 6 [3, 35] [(10, vp 6 0)] [] [(6, bx 59 [ci ((a3.Nodes.getD a1.toNat default).Kind), ci ((a3.Nodes.getD a1.toNat default).At)])] ?_
  refine q_sq ?_
  obtain ⟨v8, h9, hm⟩ := qC hm
  refine q_vu [qc 2 [41, 42] 7 (UB (a3.Nodes.getD a1.toNat default) a2 v8 h9)] 7 [] [(11, vi v8)] [] [] ?_
  refine q_jn (ι := Int) (fun p => WC ri a1 a3 a4 a5 p) (fun p => yA a1 a4 a5 p = some r) ?_ ?_
  ·rintro x15 hm
   show H _ (WC ri a1 a3 a4 a5 x15) _ _
   refine q_sq ?_
   refine q_sq ?_
   refine q_vu [] 7 [] [(58, vb (x15 != 0))] [] [] ?_
   refine q_cn (x15 != 0) (fun b16 => ?_) (fun b16 => ?_)
   ·replace hm := qA b16 hm
    refine q_sq ?_
    refine q_vu [] 7 [6, 7, 8, 11, 58] [] [3] [(3, bx 42 [ci x15])] ?_
    obtain rfl := Option.some.inj hm
    refine q_rt ?_
    exact q_rq
   ·replace hm := qB b16 hm
    refine q_sk ?_
    refine q_vu [] 7 [6, 7, 8, 11, 58] [] [4] [(4, bx 3 [ci (w64 (a1 + 1))])] ?_
    obtain rfl := Option.some.inj hm
    exact q_rq
  ·refine q_jn (ι := Bool) (fun p => WD ri a1 a2 a3 a4 a5 v8 p) (fun p => jY a1 a2 a3 a4 a5 v8 p = some r) ?_ ?_
   ·rintro x11 hm
    show H _ (WD ri a1 a2 a3 a4 a5 v8 x11) _ _
    refine q_cn x11 (fun b12 => ?_) (fun b12 => ?_)
    ·replace hm := qA b12 hm
     obtain ⟨v13, h14, hm⟩ := qC hm
     refine q_vu [qk 5 [51, 53, 55] 7 ⟨[(51, vc (.fn 56 [])), (53, va (qK a2.rect)), (55, vi ((a3.Nodes.getD a1.toNat default).At))], []⟩ (EM a2.rect ((a3.Nodes.getD a1.toNat default).At) v13 h14)] 7 [5, 9, 10, 11, 50] [(11, vi v13)] [5, 6] [] ?_
     exact q_J (v13) hm
    ·replace hm := qB b12 hm
     refine q_sk ?_
     exact q_J (v8) hm
   ·rcases Bool.eq_false_or_eq_true (v8 == 0) with b10 | b10
    ·replace hm := qA b10 hm
     refine q_vu [qf 2 b10] 7 [] [(50, vb (((a3.Nodes.getD a1.toNat default).Kind) == 1))] [] [] ?_
     exact q_J (((a3.Nodes.getD a1.toNat default).Kind) == 1) hm
    ·replace hm := qB b10 hm
     refine q_vu [qf 2 b10] 7 [] [(50, vb false)] [] [] ?_
     exact q_J (false) hm
open Go.Proofs
set_option maxHeartbeats 4000000
set_option maxRecDepth 100000
noncomputable def ZU (a1 : Pattern) (a2 : Int) (a3 : Int) (a4 : Pattern) (a5 : Int) (ri : RI 67) (r : Nat × Int × Int) : V := .undef
noncomputable def ZR (a1 : Pattern) (a2 : Int) (a3 : Int) (a4 : Pattern) (a5 : Int) (ri : RI 67) (r : Nat × Int × Int) : List (Nat × (Nat × O)) := [(0, lz (rc Try.f55 506 ri) ri.b [.ret] r.1), (1, bx 31 (qD a1)), (2, bx 118 [.fn 56 []]), (3, bx 42 [ci r.2.1]), (4, bx 3 [ci r.2.2]), (5, bx 31 (qD a4)), (6, bx 3 [ci a5])]
noncomputable def YW (ri : RI 67) (a1 : Pattern) (a4 : Pattern) (a5 : Int) (x7 : Int) (l24 : List Pattern_place) (l24n : Nat) (x25 : Int) (x26 : Int) : St :=
 ⟨[(0, vc (.yl (rc Try.f55 506 ri) ri.b [3, 5, 6, 7] [.bptr 1 0 0, .bptr 2 0 0, .bptr 3 0 0, .bptr 4 0 0])), (1, vp 5 0), (2, vp 6 0), (4, vo 7 0 5 l24n), (5, vi x7)], [(0, lq (rc Try.f55 506 ri) ri.b), (1, bx 31 (qD a1)), (2, bx 118 [.fn 56 []]), (3, bx 42 [ci x26]), (4, bx 3 [ci x25]), (5, bx 31 (qD a4)), (6, bx 3 [ci a5]), (7, ro 0 123 5 l24n (rf e_Pattern_place l24))]⟩
noncomputable def yQ (ri : RI 67) (a1 : Pattern) (a4 : Pattern) (a5 : Int) (l6 : List Pattern_place) (l6n : Nat) (x7 : Int) (x8 : Int) (x9 : Int) : St :=
 ⟨[(0, vc (.yl (rc Try.f55 506 ri) ri.b [3, 5, 6, 7] [.bptr 1 0 0, .bptr 2 0 0, .bptr 3 0 0, .bptr 4 0 0])), (1, vp 5 0), (2, vp 6 0), (4, vo 7 0 5 l6n), (5, vi x7)], [(0, lq (rc Try.f55 506 ri) ri.b), (1, bx 31 (qD a1)), (2, bx 118 [.fn 56 []]), (3, bx 42 [ci x8]), (4, bx 3 [ci x9]), (5, bx 31 (qD a4)), (6, bx 3 [ci a5]), (7, ro 0 123 5 l6n (rf e_Pattern_place l6))]⟩
noncomputable def YZ (ri : RI 67) (a1 : Pattern) (a4 : Pattern) (a5 : Int) (x27 : Int) (x28 : Int) : St :=
 ⟨[], [(0, lq (rc Try.f55 506 ri) ri.b), (1, bx 31 (qD a1)), (2, bx 118 [.fn 56 []]), (3, bx 42 [ci x28]), (4, bx 3 [ci x27]), (5, bx 31 (qD a4)), (6, bx 3 [ci a5])]⟩
theorem NN (E : Env 7) (ri : RI 67) (a1 : Pattern) (a2 : Int) (a3 : Int) (a4 : Pattern) (a5 : Int) : ∀ (n : Nat) (l6 : List Pattern_place) (l6n : Nat) (x7 : Int) (x8 : Int) (x9 : Int) (res : (Nat × Int × Int) ⊕ (Int × Int)), l6.length = l6n → wE a1 a4 a5 n l6 x7 x8 x9 = some res → HL (kx E 73 7) (nd Try.f75 28) (jD 0 (fun o => YZ ri a1 a4 a5 o.1 o.2) (fun v st => RetQ Try.prog Try.f75 (ZU a1 a2 a3 a4 a5 ri v) (ZR a1 a2 a3 a4 a5 ri v) .ret st) res) n (yQ ri a1 a4 a5 l6 l6n x7 x8 x9) := by
 intro n
 induction n with
 | zero =>
  intro l6 l6n x7 x8 x9 res hl0 hm
  cases hm
 | succ n ih =>
  intro l6 l6n x7 x8 x9 res hl0 hm
  subst hl0
  refine qV ?_
  refine q_sq ?_
  refine q_sq ?_
  refine q_vu [] 8 [] [(17, vb (decide (((l6.length : Nat) : Int) > 0)))] [] [] ?_
  refine q_cn (decide (((l6.length : Nat) : Int) > 0)) (fun b10 => ?_) (fun b10 => ?_)
  ·replace hm := qA b10 hm
   refine q_sk ?_
   refine q_jn (ι := (List Pattern_place) × Nat × Int × Int) (fun p => YW ri a1 a4 a5 x7 p.1 p.2.1 p.2.2.1 p.2.2.2) (fun p => p.1.length = p.2.1 ∧ QR x7 (wE a1 a4 a5 n) p.1 p.2.2.1 p.2.2.2 = some res) ?_ ?_
   ·rintro ⟨l24, l24n, x25, x26⟩ ⟨el24, hm⟩
    replace el24 : l24.length = l24n := el24
    subst el24
    show H _ (YW ri a1 a4 a5 x7 l24 l24.length x25 x26) _ _
    refine q_vu [] 14 [5] [(5, vi (w64 (x7 + 1)))] [] [] ?_
    exact q_hl (yQ ri a1 a4 a5 l24 l24.length (w64 (x7 + 1)) x26 x25) (ih l24 l24.length (w64 (x7 + 1)) x26 x25 _ rfl hm)
   ·refine q_bk 1 ?_
    refine q_sq ?_
    obtain ⟨g11, hm⟩ := qO hm
    refine q_vu [qd 4 (Dir.none) (inb_of g11), qd 5 (Dir.none) (toNat_lt (inb_of g11))] 8 [17] [(6, vp 8 0)] [] [(8, bx 123 [ci ((((l6.getD ((w64 (((l6.length : Nat) : Int) - 1)).toNat) default).rect).X).A), ci ((((l6.getD ((w64 (((l6.length : Nat) : Int) - 1)).toNat) default).rect).X).B), ci ((((l6.getD ((w64 (((l6.length : Nat) : Int) - 1)).toNat) default).rect).Y).A), ci ((((l6.getD ((w64 (((l6.length : Nat) : Int) - 1)).toNat) default).rect).Y).B), ci ((l6.getD ((w64 (((l6.length : Nat) : Int) - 1)).toNat) default).level)])] ?_
    refine q_sq ?_
    obtain ⟨g12, hm⟩ := qO hm
    refine q_wu [qd 4 (Dir.none) (And.intro (slOk_of g12).2.1 (slOk_of g12).2.2)] [.row 7 ((w64 (((l6.length : Nat) : Int) - 1)).toNat) (rf e_Pattern_place (l6.take ((w64 (((l6.length : Nat) : Int) - 1)).toNat)))] (o1 (tkP e_Pattern_place default l6 l6.length ((w64 (((l6.length : Nat) : Int) - 1)).toNat) (show (w64 (((l6.length : Nat) : Int) - 1)).toNat ≤ l6.length by have := (slOk_of g12); omega))) 9 [4] [(4, vo 7 0 5 ((w64 (((l6.length : Nat) : Int) - 1)).toNat))] [7] [(7, ro 0 123 5 ((w64 (((l6.length : Nat) : Int) - 1)).toNat) (rf e_Pattern_place (l6.take ((w64 (((l6.length : Nat) : Int) - 1)).toNat))))] ?_
    refine q_sq ?_
    refine q_sq ?_
    obtain ⟨v13, h14, hm⟩ := qC hm
    rcases Bool.eq_false_or_eq_true (!(Nat.beq v13.1 0)) with b15 | b15
    ·replace hm := qA b15 hm
     refine q_vu [qd 3 (dex (cen [(0, 0), (1, 0), (2, 0), (3, 0), (4, 0)] [0, 0, 0, 0, 0] 4 5 (yK x7 (l6.getD ((w64 (((l6.length : Nat) : Int) - 1)).toNat) default) a1 x8 x9 ri v13) (yS x7 (l6.getD ((w64 (((l6.length : Nat) : Int) - 1)).toNat) default) a1 x8 x9 ri v13) [31, 32, 33] [0, 1, 2, 3, 4])) (NM (K := (kx E 73 7)) ⟨[(31, vc (.yl (rc Try.f55 506 ri) ri.b [3, 5, 6, 7] [.bptr 1 0 0, .bptr 2 0 0, .bptr 3 0 0, .bptr 4 0 0])), (32, vi x7), (33, va [ci ((((l6.getD ((w64 (((l6.length : Nat) : Int) - 1)).toNat) default).rect).X).A), ci ((((l6.getD ((w64 (((l6.length : Nat) : Int) - 1)).toNat) default).rect).X).B), ci ((((l6.getD ((w64 (((l6.length : Nat) : Int) - 1)).toNat) default).rect).Y).A), ci ((((l6.getD ((w64 (((l6.length : Nat) : Int) - 1)).toNat) default).rect).Y).B), ci ((l6.getD ((w64 (((l6.length : Nat) : Int) - 1)).toNat) default).level)])], [(0, lq (rc Try.f55 506 ri) ri.b), (1, bx 31 (qD a1)), (2, bx 118 [.fn 56 []]), (3, bx 42 [ci x8]), (4, bx 3 [ci x9])]⟩ (opAt (rg Try.f75 3660) 3) [(0, 0), (1, 0), (2, 0), (3, 0), (4, 0)] [0, 0, 0, 0, 0] 4 0 o0 rfl (YE x7 (l6.getD ((w64 (((l6.length : Nat) : Int) - 1)).toNat) default) a1 x8 x9 ri v13 h14) (.inl rfl) (by kernel_rfl)), qf 5 b15] 9 [] [(42, vb true)] [0, 3, 4] [(0, lz (rc Try.f55 506 ri) ri.b [.ret] v13.1), (3, bx 42 [ci v13.2.1]), (4, bx 3 [ci v13.2.2])] ?_
     refine qCL Try.f75 (.tmp 42) 7322 7323 (by kernel_rfl) (by kernel_rfl) ?_
     obtain rfl := Option.some.inj hm
     refine q_rt ?_
     refine zB (v13.1, v13.2.1, v13.2.2) ?_
     exact q_rm
    ·replace hm := qB b15 hm
     refine q_wu [qd 3 (dex (cen [(0, 0), (1, 0), (2, 0), (3, 0), (4, 0)] [0, 0, 0, 0, 0] 4 5 (yK x7 (l6.getD ((w64 (((l6.length : Nat) : Int) - 1)).toNat) default) a1 x8 x9 ri v13) (yS x7 (l6.getD ((w64 (((l6.length : Nat) : Int) - 1)).toNat) default) a1 x8 x9 ri v13) [31, 32, 33] [0, 1, 2, 3, 4])) (NM (K := (kx E 73 7)) ⟨[(31, vc (.yl (rc Try.f55 506 ri) ri.b [3, 5, 6, 7] [.bptr 1 0 0, .bptr 2 0 0, .bptr 3 0 0, .bptr 4 0 0])), (32, vi x7), (33, va [ci ((((l6.getD ((w64 (((l6.length : Nat) : Int) - 1)).toNat) default).rect).X).A), ci ((((l6.getD ((w64 (((l6.length : Nat) : Int) - 1)).toNat) default).rect).X).B), ci ((((l6.getD ((w64 (((l6.length : Nat) : Int) - 1)).toNat) default).rect).Y).A), ci ((((l6.getD ((w64 (((l6.length : Nat) : Int) - 1)).toNat) default).rect).Y).B), ci ((l6.getD ((w64 (((l6.length : Nat) : Int) - 1)).toNat) default).level)])], [(0, lq (rc Try.f55 506 ri) ri.b), (1, bx 31 (qD a1)), (2, bx 118 [.fn 56 []]), (3, bx 42 [ci x8]), (4, bx 3 [ci x9])]⟩ (opAt (rg Try.f75 3660) 3) [(0, 0), (1, 0), (2, 0), (3, 0), (4, 0)] [0, 0, 0, 0, 0] 4 0 o0 rfl (YE x7 (l6.getD ((w64 (((l6.length : Nat) : Int) - 1)).toNat) default) a1 x8 x9 ri v13 h14) (.inl rfl) (by kernel_rfl)), qf 5 b15] [.lpn 0 .ready none] (o1 (qAz (js := [.ret]) b15)) 9 [] [(42, vb (decide (x7 ≥ ((a4.Nodes.length : Nat) : Int))))] [3, 4] [(3, bx 42 [ci v13.2.1]), (4, bx 3 [ci v13.2.2])] ?_
     refine q_cn (decide (x7 ≥ ((a4.Nodes.length : Nat) : Int))) (fun b16 => ?_) (fun b16 => ?_)
     ·replace hm := qA b16 hm
      obtain rfl := Option.some.inj hm
      refine q_rt ?_
      refine zB (0, v13.2.1, v13.2.2) ?_
      exact q_rm
     ·replace hm := qB b16 hm
      refine q_sk ?_
      refine q_sq ?_
      obtain ⟨g17, hm⟩ := qO hm
      refine q_vu [qd 3 (Dir.none) (inb_of g17)] 9 [42] [(7, vp 9 0)] [] [(9, bx 59 [ci ((a4.Nodes.getD x7.toNat default).Kind), ci ((a4.Nodes.getD x7.toNat default).At)])] ?_
      refine q_sq ?_
      obtain ⟨v18, h19, hm⟩ := qC hm
      refine q_vu [qc 2 [49] 10 (jI ((a4.Nodes.getD x7.toNat default).Kind) v18 h19)] 10 [] [(50, vb v18)] [] [] ?_
      refine q_cn v18 (fun b20 => ?_) (fun b20 => ?_)
      ·replace hm := qA b20 hm
       refine q_sq ?_
       obtain ⟨v21, h22, hm⟩ := qC hm
       refine q_vu [qc 4 [53, 54, 55] 10 (yM ((l6.getD ((w64 (((l6.length : Nat) : Int) - 1)).toNat) default).rect) (a4.Nodes.getD x7.toNat default) a5 v21 h22)] 10 [7, 50] [(8, vp 10 0), (10, vp 12 0)] [9] [(10, bx 28 (qK v21.1)), (12, bx 28 (qK v21.2.2))] ?_
       obtain ⟨g23, hm⟩ := qO hm
       refine q_vu [qd 11 (drw 13 0 (rf e_Pattern_place ([(Pattern_place.mk v21.2.2 (w64 (((l6.getD ((w64 (((l6.length : Nat) : Int) - 1)).toNat) default).level) + 1))), (Pattern_place.mk v21.1 (w64 (((l6.getD ((w64 (((l6.length : Nat) : Int) - 1)).toNat) default).level) + 1)))] : List Pattern_place))) (litP e_Pattern_place default 5 (fun _ => rfl) ([(Pattern_place.mk v21.2.2 (w64 (((l6.getD ((w64 (((l6.length : Nat) : Int) - 1)).toNat) default).level) + 1))), (Pattern_place.mk v21.1 (w64 (((l6.getD ((w64 (((l6.length : Nat) : Int) - 1)).toNat) default).level) + 1)))] : List Pattern_place) 2 rfl), qd 12 (drw 7 1 (rf e_Pattern_place ((l6.take ((w64 (((l6.length : Nat) : Int) - 1)).toNat)) ++ ([(Pattern_place.mk v21.2.2 (w64 (((l6.getD ((w64 (((l6.length : Nat) : Int) - 1)).toNat) default).level) + 1))), (Pattern_place.mk v21.1 (w64 (((l6.getD ((w64 (((l6.length : Nat) : Int) - 1)).toNat) default).level) + 1)))] : List Pattern_place)))) (apP e_Pattern_place default (l6.take ((w64 (((l6.length : Nat) : Int) - 1)).toNat)) ([(Pattern_place.mk v21.2.2 (w64 (((l6.getD ((w64 (((l6.length : Nat) : Int) - 1)).toNat) default).level) + 1))), (Pattern_place.mk v21.1 (w64 (((l6.getD ((w64 (((l6.length : Nat) : Int) - 1)).toNat) default).level) + 1)))] : List Pattern_place) ((w64 (((l6.length : Nat) : Int) - 1)).toNat) 2 5 40 (2 ≤ 2) (Nat.le_refl _) (jT rfl (show (w64 (((l6.length : Nat) : Int) - 1)).toNat ≤ l6.length by have := (slOk_of g12); omega)) rfl (fun _ => rfl) (ZX g23))] 13 [4, 6, 8, 10] [(4, vo 7 1 5 ((w64 (((l6.length : Nat) : Int) - 1)).toNat + 2))] [7, 8, 10, 12] [(7, ro 1 123 5 ((w64 (((l6.length : Nat) : Int) - 1)).toNat + 2) (rf e_Pattern_place ((l6.take ((w64 (((l6.length : Nat) : Int) - 1)).toNat)) ++ ([(Pattern_place.mk v21.2.2 (w64 (((l6.getD ((w64 (((l6.length : Nat) : Int) - 1)).toNat) default).level) + 1))), (Pattern_place.mk v21.1 (w64 (((l6.getD ((w64 (((l6.length : Nat) : Int) - 1)).toNat) default).level) + 1)))] : List Pattern_place))))] ?_
       exact q_J (((l6.take ((w64 (((l6.length : Nat) : Int) - 1)).toNat)) ++ ([(Pattern_place.mk v21.2.2 (w64 (((l6.getD ((w64 (((l6.length : Nat) : Int) - 1)).toNat) default).level) + 1))), (Pattern_place.mk v21.1 (w64 (((l6.getD ((w64 (((l6.length : Nat) : Int) - 1)).toNat) default).level) + 1)))] : List Pattern_place)), ((w64 (((l6.length : Nat) : Int) - 1)).toNat + 2), v13.2.2, v13.2.1) ⟨(len_app (jT rfl (show (w64 (((l6.length : Nat) : Int) - 1)).toNat ≤ l6.length by have := (slOk_of g12); omega)) rfl), hm⟩
      ·replace hm := qB b20 hm
       refine q_sk ?_
       exact q_J ((l6.take ((w64 (((l6.length : Nat) : Int) - 1)).toNat)), (w64 (((l6.length : Nat) : Int) - 1)).toNat, v13.2.2, v13.2.1) ⟨(jT rfl (show (w64 (((l6.length : Nat) : Int) - 1)).toNat ≤ l6.length by have := (slOk_of g12); omega)), hm⟩
  ·replace hm := qB b10 hm
   refine q_ex 0 ?_
   obtain rfl := Option.some.inj hm
   exact jJ (x9, x8) (by kernel_rfl) (by kernel_rfl)
theorem MP (a1 : Pattern) (a2 : Int) (a3 : Int) (a4 : Pattern) (a5 : Int) (ri : RI 67) (r : Nat × Int × Int) (hm : JI a1 a2 a3 a4 a5 = some r) : CtX Try.prog globs 75 7 7 [.one (.yl (rc Try.f55 506 ri) ri.b [3, 5, 6, 7] [.bptr 1 0 0, .bptr 2 0 0, .bptr 3 0 0, .bptr 4 0 0]), .one (.bptr 5 0 0), .one (.bptr 6 0 0)] [(0, lq (rc Try.f55 506 ri) ri.b), (1, bx 31 (qD a1)), (2, bx 118 [.fn 56 []]), (3, bx 42 [ci a2]), (4, bx 3 [ci a3]), (5, bx 31 (qD a4)), (6, bx 3 [ci a5])] (ZU a1 a2 a3 a4 a5 ri r) (ZR a1 a2 a3 a4 a5 ri r) := by
 unfold JI at hm
 refine q_E Try.f75 73 fun E => ?_
 refine q_sq ?_
 refine q_vn [qd 3 (drw 7 0 (rf e_Pattern_place ([(Pattern_place.mk a4.Frame 1)] : List Pattern_place))) (litP e_Pattern_place default 5 (fun _ => rfl) ([(Pattern_place.mk a4.Frame 1)] : List Pattern_place) 1 rfl)] 7 ⟨[(0, vc (.yl (rc Try.f55 506 ri) ri.b [3, 5, 6, 7] [.bptr 1 0 0, .bptr 2 0 0, .bptr 3 0 0, .bptr 4 0 0])), (1, vp 5 0), (2, vp 6 0), (4, vo 7 0 5 1)], [(0, lq (rc Try.f55 506 ri) ri.b), (1, bx 31 (qD a1)), (2, bx 118 [.fn 56 []]), (3, bx 42 [ci a2]), (4, bx 3 [ci a3]), (5, bx 31 (qD a4)), (6, bx 3 [ci a5]), (7, ro 0 123 5 1 (rf e_Pattern_place ([(Pattern_place.mk a4.Frame 1)] : List Pattern_place)))]⟩ ?_
 refine q_sq ?_
 refine q_vu [] 8 [] [(5, vi 0)] [] [] ?_
 obtain ⟨u31, h30, hm⟩ := qC hm
 refine zI (nd Try.f75 28) 0 (by kernel_rfl) FUEL (fun o => YZ ri a1 a4 a5 o.1 o.2) (fun v st => RetQ Try.prog Try.f75 (ZU a1 a2 a3 a4 a5 ri v) (ZR a1 a2 a3 a4 a5 ri v) .ret st) u31 (q_hl (yQ ri a1 a4 a5 ([(Pattern_place.mk a4.Frame 1)] : List Pattern_place) 1 0 a2 a3) (NN E ri a1 a2 a3 a4 a5 FUEL ([(Pattern_place.mk a4.Frame 1)] : List Pattern_place) 1 0 a2 a3 u31 rfl h30)) ?_ ?_
 ·rintro v32 rfl st hr
  obtain rfl := Option.some.inj hm
  exact hr
 ·rintro o29 rfl
  replace hm : _ = some r := hm
  obtain rfl := Option.some.inj hm
  exact q_rm
def IJ (r : Int) : V := vi r
def IG (r : Int) : List (Nat × (Nat × O)) := []
def RQ (a1 : Pattern) (a2 : Int) (x7 : Bool) : St :=
 ⟨[(1, vi a2), (3, vp 0 0), (5, vp 1 0), (6, vp 2 0), (21, vb x7)], [(0, bx 31 (qD a1)), (1, bx 118 [.fn 56 []]), (2, bx 42 [ci 0])]⟩
theorem UW (a1 : Pattern) (a2 : Int) (r : Int) (hm : WG a1 a2 = some r) : CtX Try.prog globs 55 0 0 [.agg (qD a1), .one (ci a2), .one (.fn 56 [])] [] (IJ r) (IG r) := by
 unfold WG at hm
 refine q_E Try.f55 67 fun E => ?_
 refine q_sq ?_
 refine q_vn [] 0 ⟨[(1, vi a2), (3, vp 0 0), (5, vp 1 0), (6, vp 2 0)], [(0, bx 31 (qD a1)), (1, bx 118 [.fn 56 []]), (2, bx 42 [ci 0])]⟩ ?_
 refine q_sq ?_
 refine q_sq ?_
 obtain ⟨v3, h4, hm⟩ := qC hm
 refine q_vu [qc 2 [13] 3 (DM a1.Frame v3 h4)] 3 [] [(15, vb (!v3))] [] [] ?_
 refine q_cn (!v3) (fun b5 => ?_) (fun b5 => ?_)
 ·replace hm := qA b5 hm
  refine q_sq ?_
  refine q_vn [] 3 ⟨[(6, vp 2 0)], [(2, bx 42 [ci 19])]⟩ ?_
  obtain rfl := Option.some.inj hm
  refine q_rt ?_
  exact q_rm
 ·replace hm := qB b5 hm
  refine q_sk ?_
  refine q_sq ?_
  refine q_jn (ι := Bool) (fun p => RQ a1 a2 p) (fun p => JN a1 a2 p = some r) ?_ ?_
  ·rintro x7 hm
   show H _ (RQ a1 a2 x7) _ _
   refine q_cn x7 (fun b8 => ?_) (fun b8 => ?_)
   ·replace hm := qA b8 hm
    refine q_sq ?_
    refine q_vn [] 3 ⟨[(6, vp 2 0)], [(2, bx 42 [ci 9])]⟩ ?_
    obtain rfl := Option.some.inj hm
    refine q_rt ?_
    exact q_rm
   ·replace hm := qB b8 hm
    refine q_sk ?_
    refine q_sq ?_
    refine q_sq ?_
    refine q_vu [] 3 [21] [(25, vb (decide (((a1.Nodes.length : Nat) : Int) > 127)))] [] [] ?_
    refine q_cn (decide (((a1.Nodes.length : Nat) : Int) > 127)) (fun b9 => ?_) (fun b9 => ?_)
    ·replace hm := qA b9 hm
     refine q_sq ?_
     refine q_vn [] 3 ⟨[(6, vp 2 0)], [(2, bx 42 [ci 4])]⟩ ?_
     obtain rfl := Option.some.inj hm
     refine q_rt ?_
     exact q_rm
    ·replace hm := qB b9 hm
     refine q_sk ?_
     refine q_sq ?_
     refine q_vu [] 3 [25] [(7, vp 3 0)] [] [(3, bx 3 [ci 0])] ?_
     refine q_sq ?_
     refine q_sq ?_
     obtain ⟨v10, h11, hm⟩ := qC hm
     refine q_vu [qc 2 [26, 27] 4 (ZC a1 a2 v10 h11)] 4 [1] [(28, vc (.fn 75 [.bptr 4 0 0, .bptr 5 0 0]))] [] [(4, bx 31 (qD v10.1)), (5, bx 3 [ci v10.2])] ?_
     refine q_bk 0 ?_
     obtain ⟨v12, h13, hm⟩ := qC hm
     refine q_rf (.tmp 28) [3, 5, 6, 7] 6 [(6, 0), (0, 0), (1, 0), (2, 0), (3, 0), (4, 0), (5, 0)] [0, 0, 0, 0, 0, 0, 0] 0 7 [.ret] v12.1 0 ⟨[(3, vp 0 0), (6, vp 2 0), (7, vp 3 0)], [(0, bx 31 (qD a1)), (2, bx 42 [ci v12.2.1]), (3, bx 3 [ci v12.2.2])]⟩ (fun ri => MP a1 0 0 v10.1 v10.2 ri v12 h13) ?_
     rcases Bool.eq_false_or_eq_true (Nat.beq v12.1 0) with b14 | b14
     ·replace hm := qA b14 hm
      refine JQ_n b14 ?_
      refine q_sq ?_
      refine q_sq ?_
      refine q_vu [] 7 [3, 7] [(66, vb (decide (v12.2.2 < ((a1.Nodes.length : Nat) : Int))))] [0, 3] [] ?_
      refine q_cn (decide (v12.2.2 < ((a1.Nodes.length : Nat) : Int))) (fun b16 => ?_) (fun b16 => ?_)
      ·replace hm := qA b16 hm
       refine q_sq ?_
       refine q_vu [] 7 [66] [] [2] [(2, bx 42 [ci 4])] ?_
       obtain rfl := Option.some.inj hm
       refine q_rt ?_
       exact q_rm
      ·replace hm := qB b16 hm
       refine q_sk ?_
       refine q_sq ?_
       refine q_vu [] 7 [66] [] [2] [(2, bx 42 [ci 0])] ?_
       obtain rfl := Option.some.inj hm
       refine q_rt ?_
       exact q_rm
     ·replace hm := qB b14 hm
      rcases Bool.eq_false_or_eq_true (Nat.beq v12.1 1) with b15 | b15
      ·replace hm := qA b15 hm
       refine JQ_j 0 .ret b15 (by kernel_rfl) ?_
       obtain rfl := Option.some.inj hm
       refine q_rt ?_
       exact q_rm
      ·replace hm := qB b15 hm
       cases hm
  ·rcases Bool.eq_false_or_eq_true (decide (a2 < 0)) with b6 | b6
   ·replace hm := qA b6 hm
    refine q_vu [qf 2 b6] 3 [15] [(21, vb true)] [] [] ?_
    exact q_J (true) hm
   ·replace hm := qB b6 hm
    refine q_vu [qf 2 b6] 3 [15] [(21, vb (decide (a2 > 20)))] [] [] ?_
    exact q_J (decide (a2 > 20)) hm
set_option maxRecDepth 100000
noncomputable def QS (a1 : Int) (a2 : Pattern_place) (a3 : Pattern) (a4 : List Leaf) (ri : RI 48) (r : Nat × (List Leaf)) : V := vb (Nat.beq r.1 0)
noncomputable def QQ (a1 : Int) (a2 : Pattern_place) (a3 : Pattern) (a4 : List Leaf) (ri : RI 48) (r : Nat × (List Leaf)) : List (Nat × (Nat × O)) := [(0, lz (rc Try.f40 122 ri) ri.b [] r.1), (1, bx 31 (qD a3)), (2, bx 93 [.own 3 0 5 r.2.length]), (3, ro 0 100 5 r.2.length (rf qS r.2))]
theorem KB (a1 : Int) (a2 : Pattern_place) (a3 : Pattern) (a4 : List Leaf) (ri : RI 48) (r : Nat × (List Leaf)) (hm : WL a1 a2 a3 a4 = some r) : CtR Try.prog globs (rc Try.f40 122 ri) ri.b [2, 7] 4 3 [.one (ci a1), .agg (e_Pattern_place a2), .one (.bptr 1 0 0), .one (.bptr 2 0 0)] [(0, lq (rc Try.f40 122 ri) ri.b), (1, bx 31 (qD a3)), (2, bx 93 [.own 3 0 5 a4.length]), (3, ro 0 100 5 a4.length (rf qS a4))] (QS a1 a2 a3 a4 ri r) (QQ a1 a2 a3 a4 ri r) := by
 unfold WL at hm
 refine q_R Try.f40 122 48 ri fun E => ?_
 refine q_sq ?_
 refine q_vn [] 4 ⟨[(2, vp 1 0), (7, vp 2 0), (8, vi a1), (21, va (e_Pattern_place a2))], [(0, lq (rc Try.f40 122 ri) ri.b), (1, bx 31 (qD a3)), (2, bx 93 [.own 3 0 5 a4.length]), (3, ro 0 100 5 a4.length (rf qS a4))]⟩ ?_
 refine q_vu [] 4 [21] [(9, vp 4 0)] [] [(4, bx 123 (e_Pattern_place a2))] ?_
 refine q_rd ⟨[(2, vp 1 0), (7, vp 2 0), (8, vi a1), (9, vp 4 0)], [(0, ly (rc Try.f40 122 ri) ri.b), (1, bx 31 (qD a3)), (2, bx 93 [.own 3 0 5 a4.length]), (3, ro 0 100 5 a4.length (rf qS a4)), (4, bx 123 (e_Pattern_place a2))]⟩ ?_
 refine q_bk 1 ?_
 refine q_sq ?_
 obtain ⟨g5, hm⟩ := qO hm
 refine q_vu [qd 3 (Dir.none) (inb_of g5)] 5 [2, 8] [(10, vp 5 0)] [] [(5, bx 59 [ci ((a3.Nodes.getD a1.toNat default).Kind), ci ((a3.Nodes.getD a1.toNat default).At)])] ?_
 refine q_sq ?_
 refine q_vu [] 6 [] [(28, vi ((a3.Nodes.getD a1.toNat default).Kind))] [] [] ?_
 refine q_bk 2 ?_
 refine q_sq ?_
 refine q_vu [] 6 [] [(29, vb (((a3.Nodes.getD a1.toNat default).Kind) == 0))] [] [] ?_
 refine q_cn (((a3.Nodes.getD a1.toNat default).Kind) == 0) (fun b6 => ?_) (fun b6 => ?_)
 ·replace hm := qA b6 hm
  obtain ⟨g7, hm⟩ := qO hm
  refine q_wu [qd 4 (drw 6 0 (rf qS ([(Leaf.mk a2.rect (-1))] : List Leaf))) (litP qS default 5 (fun _ => rfl) ([(Leaf.mk a2.rect (-1))] : List Leaf) 1 rfl), qd 5 (drw 3 1 (rf qS (a4 ++ ([(Leaf.mk a2.rect (-1))] : List Leaf)))) (apP qS default a4 ([(Leaf.mk a2.rect (-1))] : List Leaf) a4.length 1 5 40 (1 ≤ 1) (Nat.le_refl _) rfl rfl (fun _ => rfl) (ZX g7))] [.len 3 ((a4 ++ ([(Leaf.mk a2.rect (-1))] : List Leaf)).length)] (o1 (And.intro (Eq.symm (show (a4 ++ ([(Leaf.mk a2.rect (-1))] : List Leaf)).length = (a4.length + 1) from (len_app rfl rfl))) (And.intro (Eq.symm (show (a4 ++ ([(Leaf.mk a2.rect (-1))] : List Leaf)).length = (a4.length + 1) from (len_app rfl rfl))) (Eq.symm (show (a4 ++ ([(Leaf.mk a2.rect (-1))] : List Leaf)).length = (a4.length + 1) from (len_app rfl rfl)))))) 6 [7, 9, 10, 28, 29] [] [2, 3, 4, 5] [(2, bx 93 [.own 3 1 5 ((a4 ++ ([(Leaf.mk a2.rect (-1))] : List Leaf)).length)]), (3, ro 1 100 5 ((a4 ++ ([(Leaf.mk a2.rect (-1))] : List Leaf)).length) (rf qS (a4 ++ ([(Leaf.mk a2.rect (-1))] : List Leaf))))] ?_
  obtain rfl := Option.some.inj hm
  exact q_rq
 ·replace hm := qB b6 hm
  refine q_sq ?_
  refine q_vu [] 6 [28, 29] [(37, vb (((a3.Nodes.getD a1.toNat default).Kind) == 1))] [] [] ?_
  refine q_cn (((a3.Nodes.getD a1.toNat default).Kind) == 1) (fun b8 => ?_) (fun b8 => ?_)
  ·replace hm := qA b8 hm
   obtain ⟨g9, hm⟩ := qO hm
   refine q_wu [qd 6 (drw 6 0 (rf qS ([(Leaf.mk a2.rect ((a3.Nodes.getD a1.toNat default).At))] : List Leaf))) (litP qS default 5 (fun _ => rfl) ([(Leaf.mk a2.rect ((a3.Nodes.getD a1.toNat default).At))] : List Leaf) 1 rfl), qd 7 (drw 3 1 (rf qS (a4 ++ ([(Leaf.mk a2.rect ((a3.Nodes.getD a1.toNat default).At))] : List Leaf)))) (apP qS default a4 ([(Leaf.mk a2.rect ((a3.Nodes.getD a1.toNat default).At))] : List Leaf) a4.length 1 5 40 (1 ≤ 1) (Nat.le_refl _) rfl rfl (fun _ => rfl) (ZX g9))] [.len 3 ((a4 ++ ([(Leaf.mk a2.rect ((a3.Nodes.getD a1.toNat default).At))] : List Leaf)).length)] (o1 (And.intro (Eq.symm (show (a4 ++ ([(Leaf.mk a2.rect ((a3.Nodes.getD a1.toNat default).At))] : List Leaf)).length = (a4.length + 1) from (len_app rfl rfl))) (And.intro (Eq.symm (show (a4 ++ ([(Leaf.mk a2.rect ((a3.Nodes.getD a1.toNat default).At))] : List Leaf)).length = (a4.length + 1) from (len_app rfl rfl))) (Eq.symm (show (a4 ++ ([(Leaf.mk a2.rect ((a3.Nodes.getD a1.toNat default).At))] : List Leaf)).length = (a4.length + 1) from (len_app rfl rfl)))))) 6 [7, 9, 10, 37] [] [2, 3, 4, 5] [(2, bx 93 [.own 3 1 5 ((a4 ++ ([(Leaf.mk a2.rect ((a3.Nodes.getD a1.toNat default).At))] : List Leaf)).length)]), (3, ro 1 100 5 ((a4 ++ ([(Leaf.mk a2.rect ((a3.Nodes.getD a1.toNat default).At))] : List Leaf)).length) (rf qS (a4 ++ ([(Leaf.mk a2.rect ((a3.Nodes.getD a1.toNat default).At))] : List Leaf))))] ?_
   obtain rfl := Option.some.inj hm
   exact q_rq
  ·replace hm := qB b8 hm
   refine q_sk ?_
   obtain rfl := Option.some.inj hm
   exact q_rq
end Saw
end Go.SL
