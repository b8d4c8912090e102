import Derived.Test.YtjobdnkaonbgnaaEBase
import Derived.Test.YtjobdnkaonbgnaaEFa3
import Derived.Test.YtjobdnkaonbgnaaEFa2
import Derived.Test.YtjobdnkaonbgnaaEFa1
set_option linter.unusedVariables false
set_option linter.unusedSimpArgs false
namespace Go.SL
namespace Saw
open Go.Proofs
set_option maxHeartbeats 4000000
set_option maxRecDepth 100000
noncomputable def KB (a1 : Pattern) (a2 : Int) (a3 : Int) (a4 : Pattern) (a5 : Int) (ri : RI 67) (r : Nat × Int × Int) : V := .undef
noncomputable def KI (a1 : Pattern) (a2 : Int) (a3 : Int) (a4 : Pattern) (a5 : Int) (ri : RI 67) (r : Nat × Int × Int) : List (Nat × (Nat × O)) := [(0, lz (rc Try.f55 506 ri) ri.b [.ret] r.1), (1, bx 31 (qD a1)), (2, bx 118 [.fn 56 []]), (3, bx 42 [ci r.2.1]), (4, bx 3 [ci r.2.2]), (5, bx 31 (qD a4)), (6, bx 3 [ci a5])]
noncomputable def UP (ri : RI 67) (a1 : Pattern) (a4 : Pattern) (a5 : Int) (x7 : Int) (l24 : List Pattern_place) (l24n : Nat) (x25 : Int) (x26 : Int) : St :=
 ⟨[(0, vc (.yl (rc Try.f55 506 ri) ri.b [3, 5, 6, 7] [.bptr 1 0 0, .bptr 2 0 0, .bptr 3 0 0, .bptr 4 0 0])), (1, vp 5 0), (2, vp 6 0), (4, vo 7 0 5 l24n), (5, vi x7)], [(0, lq (rc Try.f55 506 ri) ri.b), (1, bx 31 (qD a1)), (2, bx 118 [.fn 56 []]), (3, bx 42 [ci x26]), (4, bx 3 [ci x25]), (5, bx 31 (qD a4)), (6, bx 3 [ci a5]), (7, ro 0 123 5 l24n (rf e_Pattern_place l24))]⟩
noncomputable def JC (ri : RI 67) (a1 : Pattern) (a4 : Pattern) (a5 : Int) (l6 : List Pattern_place) (l6n : Nat) (x7 : Int) (x8 : Int) (x9 : Int) : St :=
 ⟨[(0, vc (.yl (rc Try.f55 506 ri) ri.b [3, 5, 6, 7] [.bptr 1 0 0, .bptr 2 0 0, .bptr 3 0 0, .bptr 4 0 0])), (1, vp 5 0), (2, vp 6 0), (4, vo 7 0 5 l6n), (5, vi x7)], [(0, lq (rc Try.f55 506 ri) ri.b), (1, bx 31 (qD a1)), (2, bx 118 [.fn 56 []]), (3, bx 42 [ci x8]), (4, bx 3 [ci x9]), (5, bx 31 (qD a4)), (6, bx 3 [ci a5]), (7, ro 0 123 5 l6n (rf e_Pattern_place l6))]⟩
noncomputable def TF (ri : RI 67) (a1 : Pattern) (a4 : Pattern) (a5 : Int) (x27 : Int) (x28 : Int) : St :=
 ⟨[], [(0, lq (rc Try.f55 506 ri) ri.b), (1, bx 31 (qD a1)), (2, bx 118 [.fn 56 []]), (3, bx 42 [ci x28]), (4, bx 3 [ci x27]), (5, bx 31 (qD a4)), (6, bx 3 [ci a5])]⟩
theorem HK (E : Env 7) (ri : RI 67) (a1 : Pattern) (a2 : Int) (a3 : Int) (a4 : Pattern) (a5 : Int) : ∀ (n : Nat) (l6 : List Pattern_place) (l6n : Nat) (x7 : Int) (x8 : Int) (x9 : Int) (res : (Nat × Int × Int) ⊕ (Int × Int)), l6.length = l6n → zU a1 a4 a5 n l6 x7 x8 x9 = some res → HL (kx E 73 7) (nd Try.f75 28) (yI 0 (fun o => TF ri a1 a4 a5 o.1 o.2) (fun v st => RetQ Try.prog Try.f75 (KB a1 a2 a3 a4 a5 ri v) (KI a1 a2 a3 a4 a5 ri v) .ret st) res) n (JC ri a1 a4 a5 l6 l6n x7 x8 x9) := by
 intro n
 induction n with
 | zero =>
  intro l6 l6n x7 x8 x9 res hl0 hm
  cases hm
 | succ n ih =>
  intro l6 l6n x7 x8 x9 res hl0 hm
  subst hl0
  refine qT ?_
  refine q_sq ?_
  refine q_sq ?_
  refine q_vu [] 8 [] [(17, vb (decide (((l6.length : Nat) : Int) > 0)))] [] [] ?_
  refine q_cn (decide (((l6.length : Nat) : Int) > 0)) (fun b10 => ?_) (fun b10 => ?_)
  ·replace hm := qA b10 hm
   refine q_sk ?_
   refine q_jn (ι := (List Pattern_place) × Nat × Int × Int) (fun p => UP ri a1 a4 a5 x7 p.1 p.2.1 p.2.2.1 p.2.2.2) (fun p => p.1.length = p.2.1 ∧ ZA x7 (zU a1 a4 a5 n) p.1 p.2.2.1 p.2.2.2 = some res) ?_ ?_
   ·rintro ⟨l24, l24n, x25, x26⟩ ⟨el24, hm⟩
    replace el24 : l24.length = l24n := el24
    subst el24
    show H _ (UP ri a1 a4 a5 x7 l24 l24.length x25 x26) _ _
    refine q_vu [] 14 [5] [(5, vi (w64 (x7 + 1)))] [] [] ?_
    exact q_hl (JC ri a1 a4 a5 l24 l24.length (w64 (x7 + 1)) x26 x25) (ih l24 l24.length (w64 (x7 + 1)) x26 x25 _ rfl hm)
   ·refine q_bk 1 ?_
    refine q_sq ?_
    obtain ⟨g11, hm⟩ := qP hm
    refine q_vu [qd 4 (Dir.none) (inb_of g11), qd 5 (Dir.none) (toNat_lt (inb_of g11))] 8 [17] [(6, vp 8 0)] [] [(8, bx 123 [ci ((((l6.getD ((w64 (((l6.length : Nat) : Int) - 1)).toNat) default).rect).X).A), ci ((((l6.getD ((w64 (((l6.length : Nat) : Int) - 1)).toNat) default).rect).X).B), ci ((((l6.getD ((w64 (((l6.length : Nat) : Int) - 1)).toNat) default).rect).Y).A), ci ((((l6.getD ((w64 (((l6.length : Nat) : Int) - 1)).toNat) default).rect).Y).B), ci ((l6.getD ((w64 (((l6.length : Nat) : Int) - 1)).toNat) default).level)])] ?_
    refine q_sq ?_
    obtain ⟨g12, hm⟩ := qP hm
    refine q_wu [qd 4 (Dir.none) (And.intro (slOk_of g12).2.1 (slOk_of g12).2.2)] [.row 7 ((w64 (((l6.length : Nat) : Int) - 1)).toNat) (rf e_Pattern_place (l6.take ((w64 (((l6.length : Nat) : Int) - 1)).toNat)))] (o1 (tkP e_Pattern_place default l6 l6.length ((w64 (((l6.length : Nat) : Int) - 1)).toNat) (show (w64 (((l6.length : Nat) : Int) - 1)).toNat ≤ l6.length by have := (slOk_of g12); omega))) 9 [4] [(4, vo 7 0 5 ((w64 (((l6.length : Nat) : Int) - 1)).toNat))] [7] [(7, ro 0 123 5 ((w64 (((l6.length : Nat) : Int) - 1)).toNat) (rf e_Pattern_place (l6.take ((w64 (((l6.length : Nat) : Int) - 1)).toNat))))] ?_
    refine q_sq ?_
    refine q_sq ?_
    obtain ⟨v13, h14, hm⟩ := qC hm
    rcases Bool.eq_false_or_eq_true (!(Nat.beq v13.1 0)) with b15 | b15
    ·replace hm := qA b15 hm
     refine q_vu [qd 3 (dex (cen [(0, 0), (1, 0), (2, 0), (3, 0), (4, 0)] [0, 0, 0, 0, 0] 4 5 (JD x7 (l6.getD ((w64 (((l6.length : Nat) : Int) - 1)).toNat) default) a1 x8 x9 ri v13) (JH x7 (l6.getD ((w64 (((l6.length : Nat) : Int) - 1)).toNat) default) a1 x8 x9 ri v13) [31, 32, 33] [0, 1, 2, 3, 4])) (HR (K := (kx E 73 7)) ⟨[(31, vc (.yl (rc Try.f55 506 ri) ri.b [3, 5, 6, 7] [.bptr 1 0 0, .bptr 2 0 0, .bptr 3 0 0, .bptr 4 0 0])), (32, vi x7), (33, va [ci ((((l6.getD ((w64 (((l6.length : Nat) : Int) - 1)).toNat) default).rect).X).A), ci ((((l6.getD ((w64 (((l6.length : Nat) : Int) - 1)).toNat) default).rect).X).B), ci ((((l6.getD ((w64 (((l6.length : Nat) : Int) - 1)).toNat) default).rect).Y).A), ci ((((l6.getD ((w64 (((l6.length : Nat) : Int) - 1)).toNat) default).rect).Y).B), ci ((l6.getD ((w64 (((l6.length : Nat) : Int) - 1)).toNat) default).level)])], [(0, lq (rc Try.f55 506 ri) ri.b), (1, bx 31 (qD a1)), (2, bx 118 [.fn 56 []]), (3, bx 42 [ci x8]), (4, bx 3 [ci x9])]⟩ (opAt (rg Try.f75 3660) 3) [(0, 0), (1, 0), (2, 0), (3, 0), (4, 0)] [0, 0, 0, 0, 0] 4 0 o0 rfl (RM x7 (l6.getD ((w64 (((l6.length : Nat) : Int) - 1)).toNat) default) a1 x8 x9 ri v13 h14) (.inl rfl) (by kernel_rfl)), qf 5 b15] 9 [] [(42, vb true)] [0, 3, 4] [(0, lz (rc Try.f55 506 ri) ri.b [.ret] v13.1), (3, bx 42 [ci v13.2.1]), (4, bx 3 [ci v13.2.2])] ?_
     refine qF2 Try.f75 (.tmp 42) 7322 7323 (by kernel_rfl) (by kernel_rfl) ?_
     obtain rfl := Option.some.inj hm
     refine q_rt ?_
     refine zL (v13.1, v13.2.1, v13.2.2) ?_
     exact q_rm
    ·replace hm := qB b15 hm
     refine q_wu [qd 3 (dex (cen [(0, 0), (1, 0), (2, 0), (3, 0), (4, 0)] [0, 0, 0, 0, 0] 4 5 (JD x7 (l6.getD ((w64 (((l6.length : Nat) : Int) - 1)).toNat) default) a1 x8 x9 ri v13) (JH x7 (l6.getD ((w64 (((l6.length : Nat) : Int) - 1)).toNat) default) a1 x8 x9 ri v13) [31, 32, 33] [0, 1, 2, 3, 4])) (HR (K := (kx E 73 7)) ⟨[(31, vc (.yl (rc Try.f55 506 ri) ri.b [3, 5, 6, 7] [.bptr 1 0 0, .bptr 2 0 0, .bptr 3 0 0, .bptr 4 0 0])), (32, vi x7), (33, va [ci ((((l6.getD ((w64 (((l6.length : Nat) : Int) - 1)).toNat) default).rect).X).A), ci ((((l6.getD ((w64 (((l6.length : Nat) : Int) - 1)).toNat) default).rect).X).B), ci ((((l6.getD ((w64 (((l6.length : Nat) : Int) - 1)).toNat) default).rect).Y).A), ci ((((l6.getD ((w64 (((l6.length : Nat) : Int) - 1)).toNat) default).rect).Y).B), ci ((l6.getD ((w64 (((l6.length : Nat) : Int) - 1)).toNat) default).level)])], [(0, lq (rc Try.f55 506 ri) ri.b), (1, bx 31 (qD a1)), (2, bx 118 [.fn 56 []]), (3, bx 42 [ci x8]), (4, bx 3 [ci x9])]⟩ (opAt (rg Try.f75 3660) 3) [(0, 0), (1, 0), (2, 0), (3, 0), (4, 0)] [0, 0, 0, 0, 0] 4 0 o0 rfl (RM x7 (l6.getD ((w64 (((l6.length : Nat) : Int) - 1)).toNat) default) a1 x8 x9 ri v13 h14) (.inl rfl) (by kernel_rfl)), qf 5 b15] [.lpn 0 .ready none] (o1 (qDa (js := [.ret]) b15)) 9 [] [(42, vb (decide (x7 ≥ ((a4.Nodes.length : Nat) : Int))))] [3, 4] [(3, bx 42 [ci v13.2.1]), (4, bx 3 [ci v13.2.2])] ?_
     refine q_cn (decide (x7 ≥ ((a4.Nodes.length : Nat) : Int))) (fun b16 => ?_) (fun b16 => ?_)
     ·replace hm := qA b16 hm
      obtain rfl := Option.some.inj hm
      refine q_rt ?_
      refine zL (0, v13.2.1, v13.2.2) ?_
      exact q_rm
     ·replace hm := qB b16 hm
      refine q_sk ?_
      refine q_sq ?_
      obtain ⟨g17, hm⟩ := qP hm
      refine q_vu [qd 3 (Dir.none) (inb_of g17)] 9 [42] [(7, vp 9 0)] [] [(9, bx 59 [ci ((a4.Nodes.getD x7.toNat default).Kind), ci ((a4.Nodes.getD x7.toNat default).At)])] ?_
      refine q_sq ?_
      obtain ⟨v18, h19, hm⟩ := qC hm
      refine q_vu [qc 2 [49] 10 (QW ((a4.Nodes.getD x7.toNat default).Kind) v18 h19)] 10 [] [(50, vb v18)] [] [] ?_
      refine q_cn v18 (fun b20 => ?_) (fun b20 => ?_)
      ·replace hm := qA b20 hm
       refine q_sq ?_
       obtain ⟨v21, h22, hm⟩ := qC hm
       refine q_vu [qc 4 [53, 54, 55] 10 (WX ((l6.getD ((w64 (((l6.length : Nat) : Int) - 1)).toNat) default).rect) (a4.Nodes.getD x7.toNat default) a5 v21 h22)] 10 [7, 50] [(8, vp 10 0), (10, vp 12 0)] [9] [(10, bx 28 (qK v21.1)), (12, bx 28 (qK v21.2.2))] ?_
       obtain ⟨g23, hm⟩ := qP hm
       refine q_vu [qd 11 (drw 13 0 (rf e_Pattern_place ([(Pattern_place.mk v21.2.2 (w64 (((l6.getD ((w64 (((l6.length : Nat) : Int) - 1)).toNat) default).level) + 1))), (Pattern_place.mk v21.1 (w64 (((l6.getD ((w64 (((l6.length : Nat) : Int) - 1)).toNat) default).level) + 1)))] : List Pattern_place))) (litP e_Pattern_place default 5 (fun _ => rfl) ([(Pattern_place.mk v21.2.2 (w64 (((l6.getD ((w64 (((l6.length : Nat) : Int) - 1)).toNat) default).level) + 1))), (Pattern_place.mk v21.1 (w64 (((l6.getD ((w64 (((l6.length : Nat) : Int) - 1)).toNat) default).level) + 1)))] : List Pattern_place) 2 rfl), qd 12 (drw 7 1 (rf e_Pattern_place ((l6.take ((w64 (((l6.length : Nat) : Int) - 1)).toNat)) ++ ([(Pattern_place.mk v21.2.2 (w64 (((l6.getD ((w64 (((l6.length : Nat) : Int) - 1)).toNat) default).level) + 1))), (Pattern_place.mk v21.1 (w64 (((l6.getD ((w64 (((l6.length : Nat) : Int) - 1)).toNat) default).level) + 1)))] : List Pattern_place)))) (apP e_Pattern_place default (l6.take ((w64 (((l6.length : Nat) : Int) - 1)).toNat)) ([(Pattern_place.mk v21.2.2 (w64 (((l6.getD ((w64 (((l6.length : Nat) : Int) - 1)).toNat) default).level) + 1))), (Pattern_place.mk v21.1 (w64 (((l6.getD ((w64 (((l6.length : Nat) : Int) - 1)).toNat) default).level) + 1)))] : List Pattern_place) ((w64 (((l6.length : Nat) : Int) - 1)).toNat) 2 5 40 (2 ≤ 2) (Nat.le_refl _) (ZW rfl (show (w64 (((l6.length : Nat) : Int) - 1)).toNat ≤ l6.length by have := (slOk_of g12); omega)) rfl (fun _ => rfl) (XW g23))] 13 [4, 6, 8, 10] [(4, vo 7 1 5 ((w64 (((l6.length : Nat) : Int) - 1)).toNat + 2))] [7, 8, 10, 12] [(7, ro 1 123 5 ((w64 (((l6.length : Nat) : Int) - 1)).toNat + 2) (rf e_Pattern_place ((l6.take ((w64 (((l6.length : Nat) : Int) - 1)).toNat)) ++ ([(Pattern_place.mk v21.2.2 (w64 (((l6.getD ((w64 (((l6.length : Nat) : Int) - 1)).toNat) default).level) + 1))), (Pattern_place.mk v21.1 (w64 (((l6.getD ((w64 (((l6.length : Nat) : Int) - 1)).toNat) default).level) + 1)))] : List Pattern_place))))] ?_
       exact q_J (((l6.take ((w64 (((l6.length : Nat) : Int) - 1)).toNat)) ++ ([(Pattern_place.mk v21.2.2 (w64 (((l6.getD ((w64 (((l6.length : Nat) : Int) - 1)).toNat) default).level) + 1))), (Pattern_place.mk v21.1 (w64 (((l6.getD ((w64 (((l6.length : Nat) : Int) - 1)).toNat) default).level) + 1)))] : List Pattern_place)), ((w64 (((l6.length : Nat) : Int) - 1)).toNat + 2), v13.2.2, v13.2.1) ⟨(len_app (ZW rfl (show (w64 (((l6.length : Nat) : Int) - 1)).toNat ≤ l6.length by have := (slOk_of g12); omega)) rfl), hm⟩
      ·replace hm := qB b20 hm
       refine q_sk ?_
       exact q_J ((l6.take ((w64 (((l6.length : Nat) : Int) - 1)).toNat)), (w64 (((l6.length : Nat) : Int) - 1)).toNat, v13.2.2, v13.2.1) ⟨(ZW rfl (show (w64 (((l6.length : Nat) : Int) - 1)).toNat ≤ l6.length by have := (slOk_of g12); omega)), hm⟩
  ·replace hm := qB b10 hm
   refine q_ex 0 ?_
   obtain rfl := Option.some.inj hm
   exact yP (x9, x8) (by kernel_rfl) (by kernel_rfl)
theorem IR (a1 : Pattern) (a2 : Int) (a3 : Int) (a4 : Pattern) (a5 : Int) (ri : RI 67) (r : Nat × Int × Int) (hm : QL a1 a2 a3 a4 a5 = some r) : CtX Try.prog globs 75 7 7 [.one (.yl (rc Try.f55 506 ri) ri.b [3, 5, 6, 7] [.bptr 1 0 0, .bptr 2 0 0, .bptr 3 0 0, .bptr 4 0 0]), .one (.bptr 5 0 0), .one (.bptr 6 0 0)] [(0, lq (rc Try.f55 506 ri) ri.b), (1, bx 31 (qD a1)), (2, bx 118 [.fn 56 []]), (3, bx 42 [ci a2]), (4, bx 3 [ci a3]), (5, bx 31 (qD a4)), (6, bx 3 [ci a5])] (KB a1 a2 a3 a4 a5 ri r) (KI a1 a2 a3 a4 a5 ri r) := by
 unfold QL at hm
 refine q_E Try.f75 73 fun E => ?_
 refine q_sq ?_
 refine q_vn [qd 3 (drw 7 0 (rf e_Pattern_place ([(Pattern_place.mk a4.Frame 1)] : List Pattern_place))) (litP e_Pattern_place default 5 (fun _ => rfl) ([(Pattern_place.mk a4.Frame 1)] : List Pattern_place) 1 rfl)] 7 ⟨[(0, vc (.yl (rc Try.f55 506 ri) ri.b [3, 5, 6, 7] [.bptr 1 0 0, .bptr 2 0 0, .bptr 3 0 0, .bptr 4 0 0])), (1, vp 5 0), (2, vp 6 0), (4, vo 7 0 5 1)], [(0, lq (rc Try.f55 506 ri) ri.b), (1, bx 31 (qD a1)), (2, bx 118 [.fn 56 []]), (3, bx 42 [ci a2]), (4, bx 3 [ci a3]), (5, bx 31 (qD a4)), (6, bx 3 [ci a5]), (7, ro 0 123 5 1 (rf e_Pattern_place ([(Pattern_place.mk a4.Frame 1)] : List Pattern_place)))]⟩ ?_
 refine q_sq ?_
 refine q_vu [] 8 [] [(5, vi 0)] [] [] ?_
 obtain ⟨u31, h30, hm⟩ := qC hm
 refine zW (nd Try.f75 28) 0 (by kernel_rfl) FUEL (fun o => TF ri a1 a4 a5 o.1 o.2) (fun v st => RetQ Try.prog Try.f75 (KB a1 a2 a3 a4 a5 ri v) (KI a1 a2 a3 a4 a5 ri v) .ret st) u31 (q_hl (JC ri a1 a4 a5 ([(Pattern_place.mk a4.Frame 1)] : List Pattern_place) 1 0 a2 a3) (HK E ri a1 a2 a3 a4 a5 FUEL ([(Pattern_place.mk a4.Frame 1)] : List Pattern_place) 1 0 a2 a3 u31 rfl h30)) ?_ ?_
 ·rintro v32 rfl st hr
  obtain rfl := Option.some.inj hm
  exact hr
 ·rintro o29 rfl
  replace hm : _ = some r := hm
  obtain rfl := Option.some.inj hm
  exact q_rm
def qAT (r : Int) : V := vi r
def qAx (r : Int) : List (Nat × (Nat × O)) := []
def DP (a1 : Pattern) (a2 : Int) (x7 : Bool) : St :=
 ⟨[(1, vi a2), (3, vp 0 0), (5, vp 1 0), (6, vp 2 0), (21, vb x7)], [(0, bx 31 (qD a1)), (1, bx 118 [.fn 56 []]), (2, bx 42 [ci 0])]⟩
theorem NS (a1 : Pattern) (a2 : Int) (r : Int) (hm : QU a1 a2 = some r) : CtX Try.prog globs 55 0 0 [.agg (qD a1), .one (ci a2), .one (.fn 56 [])] [] (qAT r) (qAx r) := by
 unfold QU at hm
 refine q_E Try.f55 67 fun E => ?_
 refine q_sq ?_
 refine q_vn [] 0 ⟨[(1, vi a2), (3, vp 0 0), (5, vp 1 0), (6, vp 2 0)], [(0, bx 31 (qD a1)), (1, bx 118 [.fn 56 []]), (2, bx 42 [ci 0])]⟩ ?_
 refine q_sq ?_
 refine q_sq ?_
 obtain ⟨v3, h4, hm⟩ := qC hm
 refine q_vu [qc 2 [13] 3 (MB a1.Frame v3 h4)] 3 [] [(15, vb (!v3))] [] [] ?_
 refine q_cn (!v3) (fun b5 => ?_) (fun b5 => ?_)
 ·replace hm := qA b5 hm
  refine q_sq ?_
  refine q_vn [] 3 ⟨[(6, vp 2 0)], [(2, bx 42 [ci 19])]⟩ ?_
  obtain rfl := Option.some.inj hm
  refine q_rt ?_
  exact q_rm
 ·replace hm := qB b5 hm
  refine q_sk ?_
  refine q_sq ?_
  refine q_jn (ι := Bool) (fun p => DP a1 a2 p) (fun p => JM a1 a2 p = some r) ?_ ?_
  ·rintro x7 hm
   show H _ (DP a1 a2 x7) _ _
   refine q_cn x7 (fun b8 => ?_) (fun b8 => ?_)
   ·replace hm := qA b8 hm
    refine q_sq ?_
    refine q_vn [] 3 ⟨[(6, vp 2 0)], [(2, bx 42 [ci 9])]⟩ ?_
    obtain rfl := Option.some.inj hm
    refine q_rt ?_
    exact q_rm
   ·replace hm := qB b8 hm
    refine q_sk ?_
    refine q_sq ?_
    refine q_sq ?_
    refine q_vu [] 3 [21] [(25, vb (decide (((a1.Nodes.length : Nat) : Int) > 127)))] [] [] ?_
    refine q_cn (decide (((a1.Nodes.length : Nat) : Int) > 127)) (fun b9 => ?_) (fun b9 => ?_)
    ·replace hm := qA b9 hm
     refine q_sq ?_
     refine q_vn [] 3 ⟨[(6, vp 2 0)], [(2, bx 42 [ci 4])]⟩ ?_
     obtain rfl := Option.some.inj hm
     refine q_rt ?_
     exact q_rm
    ·replace hm := qB b9 hm
     refine q_sk ?_
     refine q_sq ?_
     refine q_vu [] 3 [25] [(7, vp 3 0)] [] [(3, bx 3 [ci 0])] ?_
     refine q_sq ?_
     refine q_sq ?_
     obtain ⟨v10, h11, hm⟩ := qC hm
     refine q_vu [qc 2 [26, 27] 4 (XE a1 a2 v10 h11)] 4 [1] [(28, vc (.fn 75 [.bptr 4 0 0, .bptr 5 0 0]))] [] [(4, bx 31 (qD v10.1)), (5, bx 3 [ci v10.2])] ?_
     refine q_bk 0 ?_
     obtain ⟨v12, h13, hm⟩ := qC hm
     refine q_rf (.tmp 28) [3, 5, 6, 7] 6 [(6, 0), (0, 0), (1, 0), (2, 0), (3, 0), (4, 0), (5, 0)] [0, 0, 0, 0, 0, 0, 0] 0 7 [.ret] v12.1 0 ⟨[(3, vp 0 0), (6, vp 2 0), (7, vp 3 0)], [(0, bx 31 (qD a1)), (2, bx 42 [ci v12.2.1]), (3, bx 3 [ci v12.2.2])]⟩ (fun ri => IR a1 0 0 v10.1 v10.2 ri v12 h13) ?_
     rcases Bool.eq_false_or_eq_true (Nat.beq v12.1 0) with b14 | b14
     ·replace hm := qA b14 hm
      refine JQ_n b14 ?_
      refine q_sq ?_
      refine q_sq ?_
      refine q_vu [] 7 [3, 7] [(66, vb (decide (v12.2.2 < ((a1.Nodes.length : Nat) : Int))))] [0, 3] [] ?_
      refine q_cn (decide (v12.2.2 < ((a1.Nodes.length : Nat) : Int))) (fun b16 => ?_) (fun b16 => ?_)
      ·replace hm := qA b16 hm
       refine q_sq ?_
       refine q_vu [] 7 [66] [] [2] [(2, bx 42 [ci 4])] ?_
       obtain rfl := Option.some.inj hm
       refine q_rt ?_
       exact q_rm
      ·replace hm := qB b16 hm
       refine q_sk ?_
       refine q_sq ?_
       refine q_vu [] 7 [66] [] [2] [(2, bx 42 [ci 0])] ?_
       obtain rfl := Option.some.inj hm
       refine q_rt ?_
       exact q_rm
     ·replace hm := qB b14 hm
      rcases Bool.eq_false_or_eq_true (Nat.beq v12.1 1) with b15 | b15
      ·replace hm := qA b15 hm
       refine JQ_j 0 .ret b15 (by kernel_rfl) ?_
       obtain rfl := Option.some.inj hm
       refine q_rt ?_
       exact q_rm
      ·replace hm := qB b15 hm
       cases hm
  ·rcases Bool.eq_false_or_eq_true (decide (a2 < 0)) with b6 | b6
   ·replace hm := qA b6 hm
    refine q_vu [qf 2 b6] 3 [15] [(21, vb true)] [] [] ?_
    exact q_J (true) hm
   ·replace hm := qB b6 hm
    refine q_vu [qf 2 b6] 3 [15] [(21, vb (decide (a2 > 20)))] [] [] ?_
    exact q_J (decide (a2 > 20)) hm
set_option maxRecDepth 100000
noncomputable def YV (a1 : Int) (a2 : Pattern_place) (a3 : Pattern) (a4 : List Leaf) (ri : RI 48) (r : Nat × (List Leaf)) : V := vb (Nat.beq r.1 0)
noncomputable def YX (a1 : Int) (a2 : Pattern_place) (a3 : Pattern) (a4 : List Leaf) (ri : RI 48) (r : Nat × (List Leaf)) : List (Nat × (Nat × O)) := [(0, lz (rc Try.f40 122 ri) ri.b [] r.1), (1, bx 31 (qD a3)), (2, bx 93 [.own 3 0 5 r.2.length]), (3, ro 0 100 5 r.2.length (rf qS r.2))]
theorem VH (a1 : Int) (a2 : Pattern_place) (a3 : Pattern) (a4 : List Leaf) (ri : RI 48) (r : Nat × (List Leaf)) (hm : wG a1 a2 a3 a4 = some r) : CtR Try.prog globs (rc Try.f40 122 ri) ri.b [2, 7] 4 3 [.one (ci a1), .agg (e_Pattern_place a2), .one (.bptr 1 0 0), .one (.bptr 2 0 0)] [(0, lq (rc Try.f40 122 ri) ri.b), (1, bx 31 (qD a3)), (2, bx 93 [.own 3 0 5 a4.length]), (3, ro 0 100 5 a4.length (rf qS a4))] (YV a1 a2 a3 a4 ri r) (YX a1 a2 a3 a4 ri r) := by
 unfold wG at hm
 refine q_R Try.f40 122 48 ri fun E => ?_
 refine q_sq ?_
 refine q_vn [] 4 ⟨[(2, vp 1 0), (7, vp 2 0), (8, vi a1), (21, va (e_Pattern_place a2))], [(0, lq (rc Try.f40 122 ri) ri.b), (1, bx 31 (qD a3)), (2, bx 93 [.own 3 0 5 a4.length]), (3, ro 0 100 5 a4.length (rf qS a4))]⟩ ?_
 refine q_vu [] 4 [21] [(9, vp 4 0)] [] [(4, bx 123 (e_Pattern_place a2))] ?_
 refine q_rd ⟨[(2, vp 1 0), (7, vp 2 0), (8, vi a1), (9, vp 4 0)], [(0, ly (rc Try.f40 122 ri) ri.b), (1, bx 31 (qD a3)), (2, bx 93 [.own 3 0 5 a4.length]), (3, ro 0 100 5 a4.length (rf qS a4)), (4, bx 123 (e_Pattern_place a2))]⟩ ?_
 refine q_bk 1 ?_
 refine q_sq ?_
 obtain ⟨g5, hm⟩ := qP hm
 refine q_vu [qd 3 (Dir.none) (inb_of g5)] 5 [2, 8] [(10, vp 5 0)] [] [(5, bx 59 [ci ((a3.Nodes.getD a1.toNat default).Kind), ci ((a3.Nodes.getD a1.toNat default).At)])] ?_
 refine q_sq ?_
 refine q_vu [] 6 [] [(28, vi ((a3.Nodes.getD a1.toNat default).Kind))] [] [] ?_
 refine q_bk 2 ?_
 refine q_sq ?_
 refine q_vu [] 6 [] [(29, vb (((a3.Nodes.getD a1.toNat default).Kind) == 0))] [] [] ?_
 refine q_cn (((a3.Nodes.getD a1.toNat default).Kind) == 0) (fun b6 => ?_) (fun b6 => ?_)
 ·replace hm := qA b6 hm
  obtain ⟨g7, hm⟩ := qP hm
  refine q_wu [qd 4 (drw 6 0 (rf qS ([(Leaf.mk a2.rect (-1))] : List Leaf))) (litP qS default 5 (fun _ => rfl) ([(Leaf.mk a2.rect (-1))] : List Leaf) 1 rfl), qd 5 (drw 3 1 (rf qS (a4 ++ ([(Leaf.mk a2.rect (-1))] : List Leaf)))) (apP qS default a4 ([(Leaf.mk a2.rect (-1))] : List Leaf) a4.length 1 5 40 (1 ≤ 1) (Nat.le_refl _) rfl rfl (fun _ => rfl) (XW g7))] [.len 3 ((a4 ++ ([(Leaf.mk a2.rect (-1))] : List Leaf)).length)] (o1 (And.intro (Eq.symm (show (a4 ++ ([(Leaf.mk a2.rect (-1))] : List Leaf)).length = (a4.length + 1) from (len_app rfl rfl))) (And.intro (Eq.symm (show (a4 ++ ([(Leaf.mk a2.rect (-1))] : List Leaf)).length = (a4.length + 1) from (len_app rfl rfl))) (Eq.symm (show (a4 ++ ([(Leaf.mk a2.rect (-1))] : List Leaf)).length = (a4.length + 1) from (len_app rfl rfl)))))) 6 [7, 9, 10, 28, 29] [] [2, 3, 4, 5] [(2, bx 93 [.own 3 1 5 ((a4 ++ ([(Leaf.mk a2.rect (-1))] : List Leaf)).length)]), (3, ro 1 100 5 ((a4 ++ ([(Leaf.mk a2.rect (-1))] : List Leaf)).length) (rf qS (a4 ++ ([(Leaf.mk a2.rect (-1))] : List Leaf))))] ?_
  obtain rfl := Option.some.inj hm
  exact q_rq
 ·replace hm := qB b6 hm
  refine q_sq ?_
  refine q_vu [] 6 [28, 29] [(37, vb (((a3.Nodes.getD a1.toNat default).Kind) == 1))] [] [] ?_
  refine q_cn (((a3.Nodes.getD a1.toNat default).Kind) == 1) (fun b8 => ?_) (fun b8 => ?_)
  ·replace hm := qA b8 hm
   obtain ⟨g9, hm⟩ := qP hm
   refine q_wu [qd 6 (drw 6 0 (rf qS ([(Leaf.mk a2.rect ((a3.Nodes.getD a1.toNat default).At))] : List Leaf))) (litP qS default 5 (fun _ => rfl) ([(Leaf.mk a2.rect ((a3.Nodes.getD a1.toNat default).At))] : List Leaf) 1 rfl), qd 7 (drw 3 1 (rf qS (a4 ++ ([(Leaf.mk a2.rect ((a3.Nodes.getD a1.toNat default).At))] : List Leaf)))) (apP qS default a4 ([(Leaf.mk a2.rect ((a3.Nodes.getD a1.toNat default).At))] : List Leaf) a4.length 1 5 40 (1 ≤ 1) (Nat.le_refl _) rfl rfl (fun _ => rfl) (XW g9))] [.len 3 ((a4 ++ ([(Leaf.mk a2.rect ((a3.Nodes.getD a1.toNat default).At))] : List Leaf)).length)] (o1 (And.intro (Eq.symm (show (a4 ++ ([(Leaf.mk a2.rect ((a3.Nodes.getD a1.toNat default).At))] : List Leaf)).length = (a4.length + 1) from (len_app rfl rfl))) (And.intro (Eq.symm (show (a4 ++ ([(Leaf.mk a2.rect ((a3.Nodes.getD a1.toNat default).At))] : List Leaf)).length = (a4.length + 1) from (len_app rfl rfl))) (Eq.symm (show (a4 ++ ([(Leaf.mk a2.rect ((a3.Nodes.getD a1.toNat default).At))] : List Leaf)).length = (a4.length + 1) from (len_app rfl rfl)))))) 6 [7, 9, 10, 37] [] [2, 3, 4, 5] [(2, bx 93 [.own 3 1 5 ((a4 ++ ([(Leaf.mk a2.rect ((a3.Nodes.getD a1.toNat default).At))] : List Leaf)).length)]), (3, ro 1 100 5 ((a4 ++ ([(Leaf.mk a2.rect ((a3.Nodes.getD a1.toNat default).At))] : List Leaf)).length) (rf qS (a4 ++ ([(Leaf.mk a2.rect ((a3.Nodes.getD a1.toNat default).At))] : List Leaf))))] ?_
   obtain rfl := Option.some.inj hm
   exact q_rq
  ·replace hm := qB b8 hm
   refine q_sk ?_
   obtain rfl := Option.some.inj hm
   exact q_rq
open Go.Proofs
set_option maxHeartbeats 4000000
set_option maxRecDepth 100000
noncomputable def XK (a1 : Pattern) (a2 : Pattern) (a3 : Int) (a4 : List Leaf) (ri : RI 48) (r : Nat × (List Leaf)) : V := .undef
noncomputable def XJ (a1 : Pattern) (a2 : Pattern) (a3 : Int) (a4 : List Leaf) (ri : RI 48) (r : Nat × (List Leaf)) : List (Nat × (Nat × O)) := [(0, lz (rc Try.f40 122 ri) ri.b [] r.1), (1, bx 31 (qD a1)), (2, bx 93 [.own 5 0 5 r.2.length]), (3, bx 31 (qD a2)), (4, bx 3 [ci a3]), (5, ro 0 100 5 r.2.length (rf qS r.2))]
noncomputable def TP (ri : RI 48) (a1 : Pattern) (a2 : Pattern) (a3 : Int) (x6 : Int) (l22 : List Pattern_place) (l22n : Nat) (l23 : List Leaf) (l23n : Nat) : St :=
 ⟨[(0, vc (.yl (rc Try.f40 122 ri) ri.b [2, 7] [.bptr 1 0 0, .bptr 2 0 0])), (1, vp 3 0), (2, vp 4 0), (4, vo 6 0 5 l22n), (5, vi x6)], [(0, lq (rc Try.f40 122 ri) ri.b), (1, bx 31 (qD a1)), (2, bx 93 [.own 5 0 5 l23n]), (3, bx 31 (qD a2)), (4, bx 3 [ci a3]), (5, ro 0 100 5 l23n (rf qS l23)), (6, ro 0 123 5 l22n (rf e_Pattern_place l22))]⟩
noncomputable def JE (ri : RI 48) (a1 : Pattern) (a2 : Pattern) (a3 : Int) (l5 : List Pattern_place) (l5n : Nat) (x6 : Int) (l7 : List Leaf) (l7n : Nat) : St :=
 ⟨[(0, vc (.yl (rc Try.f40 122 ri) ri.b [2, 7] [.bptr 1 0 0, .bptr 2 0 0])), (1, vp 3 0), (2, vp 4 0), (4, vo 6 0 5 l5n), (5, vi x6)], [(0, lq (rc Try.f40 122 ri) ri.b), (1, bx 31 (qD a1)), (2, bx 93 [.own 5 0 5 l7n]), (3, bx 31 (qD a2)), (4, bx 3 [ci a3]), (5, ro 0 100 5 l7n (rf qS l7)), (6, ro 0 123 5 l5n (rf e_Pattern_place l5))]⟩
noncomputable def UL (ri : RI 48) (a1 : Pattern) (a2 : Pattern) (a3 : Int) (l24 : List Leaf) : St :=
 ⟨[], [(0, lq (rc Try.f40 122 ri) ri.b), (1, bx 31 (qD a1)), (2, bx 93 [.own 5 0 5 l24.length]), (3, bx 31 (qD a2)), (4, bx 3 [ci a3]), (5, ro 0 100 5 l24.length (rf qS l24))]⟩
theorem HT (E : Env 6) (ri : RI 48) (a1 : Pattern) (a2 : Pattern) (a3 : Int) (a4 : List Leaf) : ∀ (n : Nat) (l5 : List Pattern_place) (l5n : Nat) (x6 : Int) (l7 : List Leaf) (l7n : Nat) (res : (Nat × (List Leaf)) ⊕ (List Leaf)), l5.length = l5n → l7.length = l7n → zS a1 a2 a3 n l5 x6 l7 = some res → HL (kx E 73 5) (nd Try.f75 28) (yI 0 (fun o => UL ri a1 a2 a3 o) (fun v st => RetQ Try.prog Try.f75 (XK a1 a2 a3 a4 ri v) (XJ a1 a2 a3 a4 ri v) .ret st) res) n (JE ri a1 a2 a3 l5 l5n x6 l7 l7n) := by
 intro n
 induction n with
 | zero =>
  intro l5 l5n x6 l7 l7n res hl0 hl1 hm
  cases hm
 | succ n ih =>
  intro l5 l5n x6 l7 l7n res hl0 hl1 hm
  subst hl0
  subst hl1
  refine qT ?_
  refine q_sq ?_
  refine q_sq ?_
  refine q_vu [] 7 [] [(17, vb (decide (((l5.length : Nat) : Int) > 0)))] [] [] ?_
  refine q_cn (decide (((l5.length : Nat) : Int) > 0)) (fun b8 => ?_) (fun b8 => ?_)
  ·replace hm := qA b8 hm
   refine q_sk ?_
   refine q_jn (ι := (List Pattern_place) × Nat × (List Leaf) × Nat) (fun p => TP ri a1 a2 a3 x6 p.1 p.2.1 p.2.2.1 p.2.2.2) (fun p => p.1.length = p.2.1 ∧ p.2.2.1.length = p.2.2.2 ∧ ZE x6 (zS a1 a2 a3 n) p.1 p.2.2.1 = some res) ?_ ?_
   ·rintro ⟨l22, l22n, l23, l23n⟩ ⟨el22, el23, hm⟩
    replace el22 : l22.length = l22n := el22
    subst el22
    replace el23 : l23.length = l23n := el23
    subst el23
    show H _ (TP ri a1 a2 a3 x6 l22 l22.length l23 l23.length) _ _
    refine q_vu [] 13 [5] [(5, vi (w64 (x6 + 1)))] [] [] ?_
    exact q_hl (JE ri a1 a2 a3 l22 l22.length (w64 (x6 + 1)) l23 l23.length) (ih l22 l22.length (w64 (x6 + 1)) l23 l23.length _ rfl rfl hm)
   ·refine q_bk 1 ?_
    refine q_sq ?_
    obtain ⟨g9, hm⟩ := qP hm
    refine q_vu [qd 4 (Dir.none) (inb_of g9), qd 5 (Dir.none) (toNat_lt (inb_of g9))] 7 [17] [(6, vp 7 0)] [] [(7, bx 123 [ci ((((l5.getD ((w64 (((l5.length : Nat) : Int) - 1)).toNat) default).rect).X).A), ci ((((l5.getD ((w64 (((l5.length : Nat) : Int) - 1)).toNat) default).rect).X).B), ci ((((l5.getD ((w64 (((l5.length : Nat) : Int) - 1)).toNat) default).rect).Y).A), ci ((((l5.getD ((w64 (((l5.length : Nat) : Int) - 1)).toNat) default).rect).Y).B), ci ((l5.getD ((w64 (((l5.length : Nat) : Int) - 1)).toNat) default).level)])] ?_
    refine q_sq ?_
    obtain ⟨g10, hm⟩ := qP hm
    refine q_wu [qd 4 (Dir.none) (And.intro (slOk_of g10).2.1 (slOk_of g10).2.2)] [.row 6 ((w64 (((l5.length : Nat) : Int) - 1)).toNat) (rf e_Pattern_place (l5.take ((w64 (((l5.length : Nat) : Int) - 1)).toNat)))] (o1 (tkP e_Pattern_place default l5 l5.length ((w64 (((l5.length : Nat) : Int) - 1)).toNat) (show (w64 (((l5.length : Nat) : Int) - 1)).toNat ≤ l5.length by have := (slOk_of g10); omega))) 8 [4] [(4, vo 6 0 5 ((w64 (((l5.length : Nat) : Int) - 1)).toNat))] [6] [(6, ro 0 123 5 ((w64 (((l5.length : Nat) : Int) - 1)).toNat) (rf e_Pattern_place (l5.take ((w64 (((l5.length : Nat) : Int) - 1)).toNat))))] ?_
    refine q_sq ?_
    refine q_sq ?_
    obtain ⟨v11, h12, hm⟩ := qC hm
    rcases Bool.eq_false_or_eq_true (!(Nat.beq v11.1 0)) with b13 | b13
    ·replace hm := qA b13 hm
     refine q_vu [qd 3 (dex (cen [(0, 0), (1, 0), (2, 0), (5, 0)] [0, 0, 0, 1] 4 3 (YV x6 (l5.getD ((w64 (((l5.length : Nat) : Int) - 1)).toNat) default) a1 l7 ri v11) (YX x6 (l5.getD ((w64 (((l5.length : Nat) : Int) - 1)).toNat) default) a1 l7 ri v11) [31, 32, 33] [0, 1, 2, 5])) (HR (K := (kx E 73 5)) ⟨[(31, vc (.yl (rc Try.f40 122 ri) ri.b [2, 7] [.bptr 1 0 0, .bptr 2 0 0])), (32, vi x6), (33, va [ci ((((l5.getD ((w64 (((l5.length : Nat) : Int) - 1)).toNat) default).rect).X).A), ci ((((l5.getD ((w64 (((l5.length : Nat) : Int) - 1)).toNat) default).rect).X).B), ci ((((l5.getD ((w64 (((l5.length : Nat) : Int) - 1)).toNat) default).rect).Y).A), ci ((((l5.getD ((w64 (((l5.length : Nat) : Int) - 1)).toNat) default).rect).Y).B), ci ((l5.getD ((w64 (((l5.length : Nat) : Int) - 1)).toNat) default).level)])], [(0, lq (rc Try.f40 122 ri) ri.b), (1, bx 31 (qD a1)), (2, bx 93 [.own 5 0 5 l7.length]), (5, ro 0 100 5 l7.length (rf qS l7))]⟩ (opAt (rg Try.f75 3660) 3) [(0, 0), (1, 0), (2, 0), (5, 0)] [0, 0, 0, 1] 4 0 o0 rfl (VH x6 (l5.getD ((w64 (((l5.length : Nat) : Int) - 1)).toNat) default) a1 l7 ri v11 h12) (.inl rfl) (by kernel_rfl)), qf 5 b13] 8 [] [(42, vb true)] [0, 2, 5] [(0, lz (rc Try.f40 122 ri) ri.b [] v11.1), (2, bx 93 [.own 5 1 5 v11.2.length]), (5, ro 1 100 5 v11.2.length (rf qS v11.2))] ?_
     refine qF2 Try.f75 (.tmp 42) 7322 7323 (by kernel_rfl) (by kernel_rfl) ?_
     obtain rfl := Option.some.inj hm
     refine q_rt ?_
     refine zL (v11.1, v11.2) ?_
     exact q_rm
    ·replace hm := qB b13 hm
     refine q_wu [qd 3 (dex (cen [(0, 0), (1, 0), (2, 0), (5, 0)] [0, 0, 0, 1] 4 3 (YV x6 (l5.getD ((w64 (((l5.length : Nat) : Int) - 1)).toNat) default) a1 l7 ri v11) (YX x6 (l5.getD ((w64 (((l5.length : Nat) : Int) - 1)).toNat) default) a1 l7 ri v11) [31, 32, 33] [0, 1, 2, 5])) (HR (K := (kx E 73 5)) ⟨[(31, vc (.yl (rc Try.f40 122 ri) ri.b [2, 7] [.bptr 1 0 0, .bptr 2 0 0])), (32, vi x6), (33, va [ci ((((l5.getD ((w64 (((l5.length : Nat) : Int) - 1)).toNat) default).rect).X).A), ci ((((l5.getD ((w64 (((l5.length : Nat) : Int) - 1)).toNat) default).rect).X).B), ci ((((l5.getD ((w64 (((l5.length : Nat) : Int) - 1)).toNat) default).rect).Y).A), ci ((((l5.getD ((w64 (((l5.length : Nat) : Int) - 1)).toNat) default).rect).Y).B), ci ((l5.getD ((w64 (((l5.length : Nat) : Int) - 1)).toNat) default).level)])], [(0, lq (rc Try.f40 122 ri) ri.b), (1, bx 31 (qD a1)), (2, bx 93 [.own 5 0 5 l7.length]), (5, ro 0 100 5 l7.length (rf qS l7))]⟩ (opAt (rg Try.f75 3660) 3) [(0, 0), (1, 0), (2, 0), (5, 0)] [0, 0, 0, 1] 4 0 o0 rfl (VH x6 (l5.getD ((w64 (((l5.length : Nat) : Int) - 1)).toNat) default) a1 l7 ri v11 h12) (.inl rfl) (by kernel_rfl)), qf 5 b13] [.lpn 0 .ready none] (o1 (qDa (js := []) b13)) 8 [] [(42, vb (decide (x6 ≥ ((a2.Nodes.length : Nat) : Int))))] [2, 5] [(2, bx 93 [.own 5 1 5 v11.2.length]), (5, ro 1 100 5 v11.2.length (rf qS v11.2))] ?_
     refine q_cn (decide (x6 ≥ ((a2.Nodes.length : Nat) : Int))) (fun b14 => ?_) (fun b14 => ?_)
     ·replace hm := qA b14 hm
      obtain rfl := Option.some.inj hm
      refine q_rt ?_
      refine zL (0, v11.2) ?_
      exact q_rm
     ·replace hm := qB b14 hm
      refine q_sk ?_
      refine q_sq ?_
      obtain ⟨g15, hm⟩ := qP hm
      refine q_vu [qd 3 (Dir.none) (inb_of g15)] 8 [42] [(7, vp 8 0)] [] [(8, bx 59 [ci ((a2.Nodes.getD x6.toNat default).Kind), ci ((a2.Nodes.getD x6.toNat default).At)])] ?_
      refine q_sq ?_
      obtain ⟨v16, h17, hm⟩ := qC hm
      refine q_vu [qc 2 [49] 9 (QW ((a2.Nodes.getD x6.toNat default).Kind) v16 h17)] 9 [] [(50, vb v16)] [] [] ?_
      refine q_cn v16 (fun b18 => ?_) (fun b18 => ?_)
      ·replace hm := qA b18 hm
       refine q_sq ?_
       obtain ⟨v19, h20, hm⟩ := qC hm
       refine q_vu [qc 4 [53, 54, 55] 9 (WX ((l5.getD ((w64 (((l5.length : Nat) : Int) - 1)).toNat) default).rect) (a2.Nodes.getD x6.toNat default) a3 v19 h20)] 9 [7, 50] [(8, vp 9 0), (10, vp 11 0)] [8] [(9, bx 28 (qK v19.1)), (11, bx 28 (qK v19.2.2))] ?_
       obtain ⟨g21, hm⟩ := qP hm
       refine q_vu [qd 11 (drw 12 0 (rf e_Pattern_place ([(Pattern_place.mk v19.2.2 (w64 (((l5.getD ((w64 (((l5.length : Nat) : Int) - 1)).toNat) default).level) + 1))), (Pattern_place.mk v19.1 (w64 (((l5.getD ((w64 (((l5.length : Nat) : Int) - 1)).toNat) default).level) + 1)))] : List Pattern_place))) (litP e_Pattern_place default 5 (fun _ => rfl) ([(Pattern_place.mk v19.2.2 (w64 (((l5.getD ((w64 (((l5.length : Nat) : Int) - 1)).toNat) default).level) + 1))), (Pattern_place.mk v19.1 (w64 (((l5.getD ((w64 (((l5.length : Nat) : Int) - 1)).toNat) default).level) + 1)))] : List Pattern_place) 2 rfl), qd 12 (drw 6 1 (rf e_Pattern_place ((l5.take ((w64 (((l5.length : Nat) : Int) - 1)).toNat)) ++ ([(Pattern_place.mk v19.2.2 (w64 (((l5.getD ((w64 (((l5.length : Nat) : Int) - 1)).toNat) default).level) + 1))), (Pattern_place.mk v19.1 (w64 (((l5.getD ((w64 (((l5.length : Nat) : Int) - 1)).toNat) default).level) + 1)))] : List Pattern_place)))) (apP e_Pattern_place default (l5.take ((w64 (((l5.length : Nat) : Int) - 1)).toNat)) ([(Pattern_place.mk v19.2.2 (w64 (((l5.getD ((w64 (((l5.length : Nat) : Int) - 1)).toNat) default).level) + 1))), (Pattern_place.mk v19.1 (w64 (((l5.getD ((w64 (((l5.length : Nat) : Int) - 1)).toNat) default).level) + 1)))] : List Pattern_place) ((w64 (((l5.length : Nat) : Int) - 1)).toNat) 2 5 40 (2 ≤ 2) (Nat.le_refl _) (ZW rfl (show (w64 (((l5.length : Nat) : Int) - 1)).toNat ≤ l5.length by have := (slOk_of g10); omega)) rfl (fun _ => rfl) (XW g21))] 12 [4, 6, 8, 10] [(4, vo 6 1 5 ((w64 (((l5.length : Nat) : Int) - 1)).toNat + 2))] [6, 7, 9, 11] [(6, ro 1 123 5 ((w64 (((l5.length : Nat) : Int) - 1)).toNat + 2) (rf e_Pattern_place ((l5.take ((w64 (((l5.length : Nat) : Int) - 1)).toNat)) ++ ([(Pattern_place.mk v19.2.2 (w64 (((l5.getD ((w64 (((l5.length : Nat) : Int) - 1)).toNat) default).level) + 1))), (Pattern_place.mk v19.1 (w64 (((l5.getD ((w64 (((l5.length : Nat) : Int) - 1)).toNat) default).level) + 1)))] : List Pattern_place))))] ?_
       exact q_J (((l5.take ((w64 (((l5.length : Nat) : Int) - 1)).toNat)) ++ ([(Pattern_place.mk v19.2.2 (w64 (((l5.getD ((w64 (((l5.length : Nat) : Int) - 1)).toNat) default).level) + 1))), (Pattern_place.mk v19.1 (w64 (((l5.getD ((w64 (((l5.length : Nat) : Int) - 1)).toNat) default).level) + 1)))] : List Pattern_place)), ((w64 (((l5.length : Nat) : Int) - 1)).toNat + 2), v11.2, v11.2.length) ⟨(len_app (ZW rfl (show (w64 (((l5.length : Nat) : Int) - 1)).toNat ≤ l5.length by have := (slOk_of g10); omega)) rfl), rfl, hm⟩
      ·replace hm := qB b18 hm
       refine q_sk ?_
       exact q_J ((l5.take ((w64 (((l5.length : Nat) : Int) - 1)).toNat)), (w64 (((l5.length : Nat) : Int) - 1)).toNat, v11.2, v11.2.length) ⟨(ZW rfl (show (w64 (((l5.length : Nat) : Int) - 1)).toNat ≤ l5.length by have := (slOk_of g10); omega)), rfl, hm⟩
  ·replace hm := qB b8 hm
   refine q_ex 0 ?_
   obtain rfl := Option.some.inj hm
   exact yP l7 (by kernel_rfl) (by kernel_rfl)
theorem zbQ (a1 : Pattern) (a2 : Pattern) (a3 : Int) (a4 : List Leaf) (ri : RI 48) (r : Nat × (List Leaf)) (hm : QK a1 a2 a3 a4 = some r) : CtX Try.prog globs 75 6 5 [.one (.yl (rc Try.f40 122 ri) ri.b [2, 7] [.bptr 1 0 0, .bptr 2 0 0]), .one (.bptr 3 0 0), .one (.bptr 4 0 0)] [(0, lq (rc Try.f40 122 ri) ri.b), (1, bx 31 (qD a1)), (2, bx 93 [.own 5 0 5 a4.length]), (3, bx 31 (qD a2)), (4, bx 3 [ci a3]), (5, ro 0 100 5 a4.length (rf qS a4))] (XK a1 a2 a3 a4 ri r) (XJ a1 a2 a3 a4 ri r) := by
 unfold QK at hm
 refine q_E Try.f75 73 fun E => ?_
 refine q_sq ?_
 refine q_vn [qd 3 (drw 6 0 (rf e_Pattern_place ([(Pattern_place.mk a2.Frame 1)] : List Pattern_place))) (litP e_Pattern_place default 5 (fun _ => rfl) ([(Pattern_place.mk a2.Frame 1)] : List Pattern_place) 1 rfl)] 6 ⟨[(0, vc (.yl (rc Try.f40 122 ri) ri.b [2, 7] [.bptr 1 0 0, .bptr 2 0 0])), (1, vp 3 0), (2, vp 4 0), (4, vo 6 0 5 1)], [(0, lq (rc Try.f40 122 ri) ri.b), (1, bx 31 (qD a1)), (2, bx 93 [.own 5 0 5 a4.length]), (3, bx 31 (qD a2)), (4, bx 3 [ci a3]), (5, ro 0 100 5 a4.length (rf qS a4)), (6, ro 0 123 5 1 (rf e_Pattern_place ([(Pattern_place.mk a2.Frame 1)] : List Pattern_place)))]⟩ ?_
 refine q_sq ?_
 refine q_vu [] 7 [] [(5, vi 0)] [] [] ?_
 obtain ⟨u27, h26, hm⟩ := qC hm
 refine zW (nd Try.f75 28) 0 (by kernel_rfl) FUEL (fun o => UL ri a1 a2 a3 o) (fun v st => RetQ Try.prog Try.f75 (XK a1 a2 a3 a4 ri v) (XJ a1 a2 a3 a4 ri v) .ret st) u27 (q_hl (JE ri a1 a2 a3 ([(Pattern_place.mk a2.Frame 1)] : List Pattern_place) 1 0 a4 a4.length) (HT E ri a1 a2 a3 a4 FUEL ([(Pattern_place.mk a2.Frame 1)] : List Pattern_place) 1 0 a4 a4.length u27 rfl rfl h26)) ?_ ?_
 ·rintro v28 rfl st hr
  obtain rfl := Option.some.inj hm
  exact hr
 ·rintro o25 rfl
  replace hm : _ = some r := hm
  obtain rfl := Option.some.inj hm
  exact q_rm
def qB6 (r : (List Leaf) × Int) : V := .tup [.one (.own 0 0 5 r.1.length), .one (ci r.2)]
def qCy (r : (List Leaf) × Int) : List (Nat × (Nat × O)) := [(0, ro 0 100 5 r.1.length (rf qS r.1))]
theorem qBz (a1 : Pattern) (a2 : Int) (r : (List Leaf) × Int) (hm : XZ a1 a2 = some r) : CtX Try.prog globs 40 0 0 [.agg (qD a1), .one (ci a2)] [] (qB6 r) (qCy r) := by
 unfold XZ at hm
 refine q_E Try.f40 48 fun E => ?_
 refine q_sq ?_
 refine q_vn [] 0 ⟨[(1, vi a2), (2, vp 0 0)], [(0, bx 31 (qD a1))]⟩ ?_
 refine q_sq ?_
 refine q_sq ?_
 obtain ⟨v3, h4, hm⟩ := qC hm
 refine q_vu [qk 2 [11, 12] 1 ⟨[(11, va (qD a1)), (12, vi a2)], []⟩ (NS a1 a2 v3 h4)] 1 [] [(6, vi v3)] [] [] ?_
 refine q_sq ?_
 refine q_vu [] 1 [] [(15, vb (v3 != 0))] [] [] ?_
 refine q_cn (v3 != 0) (fun b5 => ?_) (fun b5 => ?_)
 ·replace hm := qA b5 hm
  refine q_sq ?_
  refine q_vn [] 1 ⟨[(4, vc (.emp)), (5, vi v3)], []⟩ ?_
  refine q_fn [.own 4 1 100 5 (rf qS ([] : List Leaf))] ⟨[(4, vo 1 0 5 0), (5, vi v3)], [(1, ro 0 100 5 0 (rf qS ([] : List Leaf)))]⟩ o0 ?_
  refine q_fn [.len 1 (([] : List Leaf).length)] ⟨[(4, vo 1 0 5 (([] : List Leaf).length)), (5, vi v3)], [(1, ro 0 100 5 (([] : List Leaf).length) (rf qS ([] : List Leaf)))]⟩ (o1 (And.intro (show 0 = ([] : List Leaf).length from rfl) (show 0 = ([] : List Leaf).length from rfl))) ?_
  obtain rfl := Option.some.inj hm
  refine jO 1 0 (by kernel_rfl) ?_
  refine q_rt ?_
  exact q_rm
 ·replace hm := qB b5 hm
  refine q_sk ?_
  refine q_sq ?_
  refine q_vu [] 1 [6, 15] [(7, vp 1 0)] [] [(1, bx 93 [.emp])] ?_
  refine q_sq ?_
  refine q_sq ?_
  obtain ⟨v6, h7, hm⟩ := qC hm
  refine q_vu [qc 2 [17, 18] 2 (XE a1 a2 v6 h7)] 2 [1] [(19, vc (.fn 75 [.bptr 2 0 0, .bptr 3 0 0]))] [] [(2, bx 31 (qD v6.1)), (3, bx 3 [ci v6.2])] ?_
  refine q_bk 0 ?_
  refine q_fn [.ownB 1 0 4 100 5 (rf qS ([] : List Leaf))] ⟨[(2, vp 0 0), (7, vp 1 0), (19, vc (.fn 75 [.bptr 2 0 0, .bptr 3 0 0]))], [(0, bx 31 (qD a1)), (1, bx 93 [.own 4 0 5 0]), (2, bx 31 (qD v6.1)), (3, bx 3 [ci v6.2]), (4, ro 0 100 5 0 (rf qS ([] : List Leaf)))]⟩ o0 ?_
  refine q_fn [.len 4 (([] : List Leaf).length)] ⟨[(2, vp 0 0), (7, vp 1 0), (19, vc (.fn 75 [.bptr 2 0 0, .bptr 3 0 0]))], [(0, bx 31 (qD a1)), (1, bx 93 [.own 4 0 5 (([] : List Leaf).length)]), (2, bx 31 (qD v6.1)), (3, bx 3 [ci v6.2]), (4, ro 0 100 5 (([] : List Leaf).length) (rf qS ([] : List Leaf)))]⟩ (o1 (And.intro (show 0 = ([] : List Leaf).length from rfl) (show 0 = ([] : List Leaf).length from rfl))) ?_
  obtain ⟨v8, h9, hm⟩ := qC hm
  refine q_rf (.tmp 19) [2, 7] 5 [(5, 0), (0, 0), (1, 0), (2, 0), (3, 0), (4, 0)] [0, 0, 0, 0, 0, 1] 0 5 [] v8.1 0 ⟨[(7, vp 1 0)], [(1, bx 93 [.own 4 0 5 v8.2.length]), (4, ro 0 100 5 v8.2.length (rf qS v8.2))]⟩ (fun ri => zbQ a1 v6.1 v6.2 ([] : List Leaf) ri v8 h9) ?_
  rcases Bool.eq_false_or_eq_true (Nat.beq v8.1 0) with b10 | b10
  ·replace hm := qA b10 hm
   refine JQ_n b10 ?_
   refine q_sq ?_
   refine q_vu [] 6 [7] [(4, vo 4 0 5 v8.2.length), (5, vi 0)] [1] [] ?_
   obtain rfl := Option.some.inj hm
   refine jO 4 0 (by kernel_rfl) ?_
   refine q_rt ?_
   exact q_rm
  ·replace hm := qB b10 hm
   cases hm
set_option maxRecDepth 100000
def NW (r : (List Leaf)) : V := vc (.fn 60 [.bptr 0 0 0])
def NP (r : (List Leaf)) : List (Nat × (Nat × O)) := [(0, bx 93 [tl qS default r])]
theorem OY (a1 : List Leaf) (r : (List Leaf)) (hm : YZ a1 = some r) : CtX Try.prog globs 41 0 0 [.one (tl qS default a1)] [] (NW r) (NP r) := by
 unfold YZ at hm
 refine q_E Try.f41 4 fun E => ?_
 refine q_sq ?_
 refine q_vn [] 0 ⟨[(1, vp 0 0)], [(0, bx 93 [tl qS default a1])]⟩ ?_
 refine q_sq ?_
 refine q_vu [] 1 [1] [(2, vc (.fn 60 [.bptr 0 0 0]))] [] [] ?_
 obtain rfl := Option.some.inj hm
 refine q_rt ?_
 exact q_rm
open Go.Proofs
set_option maxHeartbeats 4000000
set_option maxRecDepth 100000
def qFY (r : Box × Bool) : V := .tup [.agg (wT r.1), .one (cb r.2)]
def qFO (r : Box × Bool) : List (Nat × (Nat × O)) := []
def SK (v3 : Span) (v5 : Span) (v7 : Span) (x17 : Bool) : St :=
 ⟨[(4, vp 2 0), (6, vp 3 0), (35, vb x17)], [(2, bx 52 [ci 0, ci 0, ci 0, ci 0, ci 0, ci 0]), (3, bx 52 [ci v3.A, ci v3.B, ci v5.A, ci v5.B, ci v7.A, ci v7.B])]⟩
theorem qEL (a1 : Box) (a2 : Box) (r : Box × Bool) (hm : FV a1 a2 = some r) : CtX Try.prog globs 94 0 0 [.agg (wT a1), .agg (wT a2)] [] (qFY r) (qFO r) := by
 unfold FV at hm
 refine q_E Try.f94 38 fun E => ?_
 refine q_sq ?_
 refine q_vn [] 0 ⟨[(2, vp 0 0), (3, vp 1 0), (4, vp 2 0)], [(0, bx 52 (wT a1)), (1, bx 52 (wT a2)), (2, bx 52 [ci 0, ci 0, ci 0, ci 0, ci 0, ci 0])]⟩ ?_
 refine q_sq ?_
 obtain ⟨v3, h4, hm⟩ := qC hm
 obtain ⟨v5, h6, hm⟩ := qC hm
 obtain ⟨v7, h8, hm⟩ := qC hm
 refine q_du [qc 4 [8, 10] 3 (XP a1.X a2.X v3 h4), qc 9 [13, 15] 3 (XP a1.Y a2.Y v5 h6), qc 14 [18, 20] 3 (XP a1.Z a2.Z v7 h8)] [0, 1, 0, 4, 15, 0, 32, 0, 128, 511, 0, 1024, 0, 4096, 16383, 32767, 0, 131071] 3 [2, 3] [(6, vp 3 0)] [0, 1] [(3, bx 52 [ci v3.A, ci v3.B, ci v5.A, ci v5.B, ci v7.A, ci v7.B])] ?_
 refine q_sq ?_
 refine q_jn (ι := Bool) (fun p => SK v3 v5 v7 p) (fun p => KE v3 v5 v7 p = some r) ?_ ?_
 ·rintro x17 hm
  show H _ (SK v3 v5 v7 x17) _ _
  refine q_cn x17 (fun b18 => ?_) (fun b18 => ?_)
  ·replace hm := qA b18 hm
   refine q_sq ?_
   refine q_vu [] 4 [6, 35] [(5, vb false)] [3] [] ?_
   obtain rfl := Option.some.inj hm
   refine q_rt ?_
   exact q_rm
  ·replace hm := qB b18 hm
   refine q_sk ?_
   refine q_sq ?_
   refine q_vu [] 4 [6, 35] [(5, vb true)] [2, 3] [(2, bx 52 [ci v3.A, ci v3.B, ci v5.A, ci v5.B, ci v7.A, ci v7.B])] ?_
   obtain rfl := Option.some.inj hm
   refine q_rt ?_
   exact q_rm
 ·obtain ⟨v9, h10, hm⟩ := qC hm
  rcases Bool.eq_false_or_eq_true v9 with b11 | b11
  ·replace hm := qA b11 hm
   refine q_vu [qc 2 [24] 4 (zI v3 v9 h10), qf 3 b11] 4 [] [(35, vb true)] [] [] ?_
   exact q_J (true) hm
  ·replace hm := qB b11 hm
   obtain ⟨v12, h13, hm⟩ := qC hm
   rcases Bool.eq_false_or_eq_true v12 with b14 | b14
   ·replace hm := qA b14 hm
    refine q_vu [qc 2 [24] 4 (zI v3 v9 h10), qf 3 b11, qk 6 [26, 28] 4 ⟨[(26, vb false), (28, va (e_Span v5))], []⟩ (zI v5 v12 h13), qf 8 b14] 4 [] [(35, vb true)] [] [] ?_
    exact q_J (true) hm
   ·replace hm := qB b14 hm
    obtain ⟨v15, h16, hm⟩ := qC hm
    refine q_vu [qc 2 [24] 4 (zI v3 v9 h10), qf 3 b11, qk 6 [26, 28] 4 ⟨[(26, vb false), (28, va (e_Span v5))], []⟩ (zI v5 v12 h13), qf 8 b14, qk 11 [31, 33] 4 ⟨[(31, vb false), (33, va (e_Span v7))], []⟩ (zI v7 v15 h16)] 4 [] [(35, vb v15)] [] [] ?_
    exact q_J (v15) hm
def qCj (r : Bool) : V := vb r
def qCx (r : Bool) : List (Nat × (Nat × O)) := []
theorem MO (a1 : Defect) (a2 : Box) (r : Bool) (hm : WK a1 a2 = some r) : CtX Try.prog globs 81 0 0 [.agg (qG a1), .agg (wT a2)] [] (qCj r) (qCx r) := by
 unfold WK at hm
 refine q_E Try.f81 15 fun E => ?_
 refine q_sq ?_
 refine q_vn [] 0 ⟨[(2, vp 0 0), (3, vp 1 0)], [(0, bx 139 (qG a1)), (1, bx 52 (wT a2))]⟩ ?_
 refine q_sq ?_
 obtain ⟨v3, h4, hm⟩ := qC hm
 refine q_vn [qc 3 [9, 10] 2 (qEL a1.Box a2 v3 h4)] 2 ⟨[(6, vb v3.2)], []⟩ ?_
 refine q_sq ?_
 refine q_vn [] 3 ⟨[(4, vb v3.2)], []⟩ ?_
 obtain rfl := Option.some.inj hm
 refine q_rt ?_
 exact q_rm
set_option maxRecDepth 100000
def qCJ (r : Bool) : V := vb r
def qB8 (r : Bool) : List (Nat × (Nat × O)) := []
def NX (x5 : Bool) : St :=
 ⟨[(4, vb x5)], []⟩
theorem qBx (a1 : Span) (a2 : Int) (r : Bool) (hm : VB a1 a2 = some r) : CtX Try.prog globs 82 0 0 [.agg (e_Span a1), .one (ci a2)] [] (qCJ r) (qB8 r) := by
 unfold VB at hm
 refine q_E Try.f82 21 fun E => ?_
 refine q_sq ?_
 refine q_vn [] 0 ⟨[(1, vi a2), (2, vp 0 0)], [(0, bx 26 (e_Span a1))]⟩ ?_
 refine q_jn (ι := Bool) (fun p => NX p) (fun p => WB p = some r) ?_ ?_
 ·rintro x5 hm
  show H _ (NX x5) _ _
  obtain rfl := Option.some.inj hm
  refine q_rt ?_
  exact q_rm
 ·rcases Bool.eq_false_or_eq_true (decide (a1.A ≥ 0)) with b3 | b3
  ·replace hm := qA b3 hm
   rcases Bool.eq_false_or_eq_true (decide (a1.A < a1.B)) with b4 | b4
   ·replace hm := qA b4 hm
    refine q_vn [qf 3 b3, qf 10 b4] 1 ⟨[(4, vb (decide (a1.B ≤ a2)))], []⟩ ?_
    exact q_J (decide (a1.B ≤ a2)) hm
   ·replace hm := qB b4 hm
    refine q_vn [qf 3 b3, qf 10 b4] 1 ⟨[(4, vb false)], []⟩ ?_
    exact q_J (false) hm
  ·replace hm := qB b3 hm
   refine q_vn [qf 3 b3] 1 ⟨[(4, vb false)], []⟩ ?_
   exact q_J (false) hm
open Go.Proofs
set_option maxHeartbeats 4000000
set_option maxRecDepth 100000
def NC (r : Int × Bool) : V := .tup [.one (ci r.1), .one (cb r.2)]
def ND (r : Int × Bool) : List (Nat × (Nat × O)) := []
def UO (a1 : Product) (a2 : Int) (x3 : Int) : St :=
 ⟨[(1, vi a2), (2, vp 0 0), (9, vc (tl qM default a1.Lengths)), (10, vi ((a1.Lengths.length : Nat) : Int)), (11, vi x3)], [(0, bx 71 (qE a1))]⟩
def LZ : St :=
 ⟨[], []⟩
theorem qAj (E : Env 0) (a1 : Product) (a2 : Int) : ∀ (n : Nat) (x3 : Int) (res : (Int × Bool) ⊕ Unit), jQ a1 a2 n x3 = some res → HL (kx E 30 0) (nd Try.f83 52) (yI 0 (fun o => LZ) (fun v st => RetQ Try.prog Try.f83 (NC v) (ND v) .ret st) res) n (UO a1 a2 x3) := by
 intro n
 induction n with
 | zero =>
  intro x3 res hm
  cases hm
 | succ n ih =>
  intro x3 res hm
  refine qT ?_
  refine q_sq ?_
  refine q_vu [] 1 [] [(12, vb (decide (x3 < ((a1.Lengths.length : Nat) : Int))))] [] [] ?_
  refine q_sq ?_
  refine q_cn (decide (x3 < ((a1.Lengths.length : Nat) : Int))) (fun b4 => ?_) (fun b4 => ?_)
  ·replace hm := qA b4 hm
   refine q_sk ?_
   refine q_sq ?_
   refine q_bk 1 ?_
   refine q_sq ?_
   obtain ⟨g5, hm⟩ := qP hm
   refine q_vu [qd 1 (Dir.none) (inb_of g5)] 1 [12] [(6, vi x3), (7, vi (a1.Lengths.getD x3.toNat default))] [] [] ?_
   refine q_sq ?_
   refine q_sq ?_
   refine q_vu [] 1 [7] [(18, vb ((a1.Lengths.getD x3.toNat default) != a2))] [] [] ?_
   refine q_cn ((a1.Lengths.getD x3.toNat default) != a2) (fun b6 => ?_) (fun b6 => ?_)
   ·replace hm := qA b6 hm
    refine q_ex 1 ?_
    refine q_vu [] 1 [6, 11, 18] [(11, vi (w64 (x3 + 1)))] [] [] ?_
    exact q_hl (UO a1 a2 (w64 (x3 + 1))) (ih (w64 (x3 + 1)) _ hm)
   ·replace hm := qB b6 hm
    refine q_sk ?_
    refine q_sq ?_
    refine q_sq ?_
    refine q_vu [] 1 [1, 9, 10, 11, 18] [(23, vb (decide (x3 ≥ ((a1.Prices.length : Nat) : Int))))] [] [] ?_
    refine q_cn (decide (x3 ≥ ((a1.Prices.length : Nat) : Int))) (fun b7 => ?_) (fun b7 => ?_)
    ·replace hm := qA b7 hm
     refine q_sq ?_
     refine q_vn [] 1 ⟨[(4, vi 0), (5, vb false)], []⟩ ?_
     obtain rfl := Option.some.inj hm
     refine q_rt ?_
     refine zL (0, false) ?_
     exact q_rm
    ·replace hm := qB b7 hm
     refine q_sk ?_
     refine q_sq ?_
     obtain ⟨g8, hm⟩ := qP hm
     refine q_vn [qd 3 (Dir.none) (inb_of g8)] 1 ⟨[(4, vi (a1.Prices.getD x3.toNat default)), (5, vb true)], []⟩ ?_
     obtain rfl := Option.some.inj hm
     refine q_rt ?_
     refine zL ((a1.Prices.getD x3.toNat default), true) ?_
     exact q_rm
  ·replace hm := qB b4 hm
   refine q_ex 0 ?_
   obtain rfl := Option.some.inj hm
   exact yP () (by kernel_rfl) (by kernel_rfl)
theorem qCN (a1 : Product) (a2 : Int) (r : Int × Bool) (hm : PK a1 a2 = some r) : CtX Try.prog globs 83 0 0 [.agg (qE a1), .one (ci a2)] [] (NC r) (ND r) := by
 unfold PK at hm
 refine q_E Try.f83 30 fun E => ?_
 refine q_sq ?_
 refine q_vn [] 0 ⟨[(1, vi a2), (2, vp 0 0)], [(0, bx 71 (qE a1))]⟩ ?_
 refine q_sq ?_
 refine q_sq ?_
 refine q_vu [] 1 [] [(9, vc (tl qM default a1.Lengths)), (10, vi ((a1.Lengths.length : Nat) : Int)), (11, vi 0)] [] [] ?_
 obtain ⟨u11, h10, hm⟩ := qC hm
 refine zW (nd Try.f83 52) 0 (by kernel_rfl) FUEL (fun o => LZ) (fun v st => RetQ Try.prog Try.f83 (NC v) (ND v) .ret st) u11 (q_hl (UO a1 a2 0) (qAj E a1 a2 FUEL 0 u11 h10)) ?_ ?_
 ·rintro v12 rfl st hr
  obtain rfl := Option.some.inj hm
  exact hr
 ·rintro o9 rfl
  replace hm : _ = some r := hm
  refine q_sq ?_
  refine q_vn [] 1 ⟨[(4, vi 0), (5, vb false)], []⟩ ?_
  obtain rfl := Option.some.inj hm
  refine q_rt ?_
  exact q_rm
def SG (r : Box) : V := va (wT r)
def PG (r : Box) : List (Nat × (Nat × O)) := []
theorem qCn (r : Box) : TE (PG r) := by
 intro i k o h
 unfold PG at h
 cases h
theorem HI (a1 : Worth_view) (a2 : Span) (r : Box) (hm : WO a1 a2 = some r) : CtX Try.prog globs 80 0 0 [.agg (TN a1), .agg (e_Span a2)] [] (SG r) (PG r) := by
 unfold WO at hm
 refine q_E Try.f80 13 fun E => ?_
 refine q_sq ?_
 refine q_vn [] 0 ⟨[(2, vp 0 0), (3, vp 1 0), (4, vp 2 0)], [(0, bx 129 (TN a1)), (1, bx 26 (e_Span a2)), (2, bx 52 [ci 0, ci 0, ci 0, ci 0, ci 0, ci 0])]⟩ ?_
 refine q_sq ?_
 refine q_vn [] 3 ⟨[(4, vp 2 0)], [(2, bx 52 [ci a1.rect.X.A, ci a1.rect.X.B, ci a1.rect.Y.A, ci a1.rect.Y.B, ci a2.A, ci a2.B])]⟩ ?_
 obtain rfl := Option.some.inj hm
 refine q_rt ?_
 exact q_rm
end Saw
end Go.SL
