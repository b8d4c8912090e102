import Derived.Test.YtpphchcejhodkaaDoorEBase
import Derived.Test.YtpphchcejhodkaaDoorEFa8
import Derived.Test.YtpphchcejhodkaaDoorEFa6
import Derived.Test.YtpphchcejhodkaaDoorEFa7
import Derived.Test.YtpphchcejhodkaaDoorEFa4
set_option linter.unusedVariables false
set_option linter.unusedSimpArgs false
namespace Go.SL
namespace Saw
open Go.Proofs
set_option maxHeartbeats 4000000
set_option maxRecDepth 100000
noncomputable def PI (a1 : qF) (a2 : qF) (a3 : Int) (a4 : List Leaf) (ri : RI 48) (r : Nat × (List Leaf)) : V := .undef
noncomputable def RK (a1 : qF) (a2 : qF) (a3 : Int) (a4 : List Leaf) (ri : RI 48) (r : Nat × (List Leaf)) : List (Nat × (Nat × O)) := [(0, lz (rc Tryd.f40 122 ri) ri.b [] r.1), (1, bx 46 (qG a1)), (2, bx 106 [.own 5 0 5 r.2.length]), (3, bx 46 (qG a2)), (4, bx 3 [ci a3]), (5, ro 0 113 5 r.2.length (rf qW r.2))]
noncomputable def GL (ri : RI 48) (a1 : qF) (a2 : qF) (a3 : Int) (x6 : Int) (l22 : List Pattern_place) (l22n : Nat) (l23 : List Leaf) (l23n : Nat) : St :=
 ⟨[(0, vc (.yl (rc Tryd.f40 122 ri) ri.b [2, 7] [.bptr 1 0 0, .bptr 2 0 0])), (1, vp 3 0), (2, vp 4 0), (4, vo 6 0 5 l22n), (5, vi x6)], [(0, lq (rc Tryd.f40 122 ri) ri.b), (1, bx 46 (qG a1)), (2, bx 106 [.own 5 0 5 l23n]), (3, bx 46 (qG a2)), (4, bx 3 [ci a3]), (5, ro 0 113 5 l23n (rf qW l23)), (6, ro 0 122 5 l22n (rf e_Pattern_place l22))]⟩
noncomputable def YL (ri : RI 48) (a1 : qF) (a2 : qF) (a3 : Int) (l5 : List Pattern_place) (l5n : Nat) (x6 : Int) (l7 : List Leaf) (l7n : Nat) : St :=
 ⟨[(0, vc (.yl (rc Tryd.f40 122 ri) ri.b [2, 7] [.bptr 1 0 0, .bptr 2 0 0])), (1, vp 3 0), (2, vp 4 0), (4, vo 6 0 5 l5n), (5, vi x6)], [(0, lq (rc Tryd.f40 122 ri) ri.b), (1, bx 46 (qG a1)), (2, bx 106 [.own 5 0 5 l7n]), (3, bx 46 (qG a2)), (4, bx 3 [ci a3]), (5, ro 0 113 5 l7n (rf qW l7)), (6, ro 0 122 5 l5n (rf e_Pattern_place l5))]⟩
noncomputable def GS (ri : RI 48) (a1 : qF) (a2 : qF) (a3 : Int) (l24 : List Leaf) : St :=
 ⟨[], [(0, lq (rc Tryd.f40 122 ri) ri.b), (1, bx 46 (qG a1)), (2, bx 106 [.own 5 0 5 l24.length]), (3, bx 46 (qG a2)), (4, bx 3 [ci a3]), (5, ro 0 113 5 l24.length (rf qW l24))]⟩
theorem OG (E : Env 6) (ri : RI 48) (a1 : qF) (a2 : qF) (a3 : Int) (a4 : List Leaf) : ∀ (n : Nat) (l5 : List Pattern_place) (l5n : Nat) (x6 : Int) (l7 : List Leaf) (l7n : Nat) (res : (Nat × (List Leaf)) ⊕ (List Leaf)), l5.length = l5n → l7.length = l7n → wI a1 a2 a3 n l5 x6 l7 = some res → HL (kx E 73 5) (nd Tryd.f77 28) (wW 0 (fun o => GS ri a1 a2 a3 o) (fun v st => RetQ Tryd.prog Tryd.f77 (PI a1 a2 a3 a4 ri v) (RK a1 a2 a3 a4 ri v) .ret st) res) n (YL ri a1 a2 a3 l5 l5n x6 l7 l7n) := by
 intro n
 induction n with
 | zero =>
  intro l5 l5n x6 l7 l7n res hl0 hl1 hm
  cases hm
 | succ n ih =>
  intro l5 l5n x6 l7 l7n res hl0 hl1 hm
  subst hl0
  subst hl1
  refine qQ ?_
  refine q_sq ?_
  refine q_sq ?_
  refine q_vu [] 7 [] [(17, vb (decide (((l5.length : Nat) : Int) > 0)))] [] [] ?_
  refine q_cn (decide (((l5.length : Nat) : Int) > 0)) (fun b8 => ?_) (fun b8 => ?_)
  ·replace hm := qA b8 hm
   refine q_sk ?_
   refine q_jn (ι := (List Pattern_place) × Nat × (List Leaf) × Nat) (fun p => GL ri a1 a2 a3 x6 p.1 p.2.1 p.2.2.1 p.2.2.2) (fun p => p.1.length = p.2.1 ∧ p.2.2.1.length = p.2.2.2 ∧ WC x6 (wI a1 a2 a3 n) p.1 p.2.2.1 = some res) ?_ ?_
   ·rintro ⟨l22, l22n, l23, l23n⟩ ⟨el22, el23, hm⟩
    replace el22 : l22.length = l22n := el22
    subst el22
    replace el23 : l23.length = l23n := el23
    subst el23
    show H _ (GL ri a1 a2 a3 x6 l22 l22.length l23 l23.length) _ _
    refine q_vu [] 13 [5] [(5, vi (w64 (x6 + 1)))] [] [] ?_
    exact q_hl (YL ri a1 a2 a3 l22 l22.length (w64 (x6 + 1)) l23 l23.length) (ih l22 l22.length (w64 (x6 + 1)) l23 l23.length _ rfl rfl hm)
   ·refine q_bk 1 ?_
    refine q_sq ?_
    obtain ⟨g9, hm⟩ := qM hm
    refine q_vu [qd 4 (Dir.none) (inb_of g9), qd 5 (Dir.none) (toNat_lt (inb_of g9))] 7 [17] [(6, vp 7 0)] [] [(7, bx 122 [ci ((((l5.getD ((w64 (((l5.length : Nat) : Int) - 1)).toNat) default).rect).X).A), ci ((((l5.getD ((w64 (((l5.length : Nat) : Int) - 1)).toNat) default).rect).X).B), ci ((((l5.getD ((w64 (((l5.length : Nat) : Int) - 1)).toNat) default).rect).Y).A), ci ((((l5.getD ((w64 (((l5.length : Nat) : Int) - 1)).toNat) default).rect).Y).B), ci ((l5.getD ((w64 (((l5.length : Nat) : Int) - 1)).toNat) default).level)])] ?_
    refine q_sq ?_
    obtain ⟨g10, hm⟩ := qM hm
    refine q_wu [qd 4 (Dir.none) (And.intro (slOk_of g10).2.1 (slOk_of g10).2.2)] [.row 6 ((w64 (((l5.length : Nat) : Int) - 1)).toNat) (rf e_Pattern_place (l5.take ((w64 (((l5.length : Nat) : Int) - 1)).toNat)))] (o1 (tkP e_Pattern_place default l5 l5.length ((w64 (((l5.length : Nat) : Int) - 1)).toNat) (show (w64 (((l5.length : Nat) : Int) - 1)).toNat ≤ l5.length by have := (slOk_of g10); omega))) 8 [4] [(4, vo 6 0 5 ((w64 (((l5.length : Nat) : Int) - 1)).toNat))] [6] [(6, ro 0 122 5 ((w64 (((l5.length : Nat) : Int) - 1)).toNat) (rf e_Pattern_place (l5.take ((w64 (((l5.length : Nat) : Int) - 1)).toNat))))] ?_
    refine q_sq ?_
    refine q_sq ?_
    obtain ⟨v11, h12, hm⟩ := qC hm
    rcases Bool.eq_false_or_eq_true (!(Nat.beq v11.1 0)) with b13 | b13
    ·replace hm := qA b13 hm
     refine q_vu [qd 3 (dex (cen [(0, 0), (1, 0), (2, 0), (5, 0)] [0, 0, 0, 1] 4 3 (KT x6 (l5.getD ((w64 (((l5.length : Nat) : Int) - 1)).toNat) default) a1 l7 ri v11) (KQ x6 (l5.getD ((w64 (((l5.length : Nat) : Int) - 1)).toNat) default) a1 l7 ri v11) [31, 32, 33] [0, 1, 2, 5])) (OL (K := (kx E 73 5)) ⟨[(31, vc (.yl (rc Tryd.f40 122 ri) ri.b [2, 7] [.bptr 1 0 0, .bptr 2 0 0])), (32, vi x6), (33, va [ci ((((l5.getD ((w64 (((l5.length : Nat) : Int) - 1)).toNat) default).rect).X).A), ci ((((l5.getD ((w64 (((l5.length : Nat) : Int) - 1)).toNat) default).rect).X).B), ci ((((l5.getD ((w64 (((l5.length : Nat) : Int) - 1)).toNat) default).rect).Y).A), ci ((((l5.getD ((w64 (((l5.length : Nat) : Int) - 1)).toNat) default).rect).Y).B), ci ((l5.getD ((w64 (((l5.length : Nat) : Int) - 1)).toNat) default).level)])], [(0, lq (rc Tryd.f40 122 ri) ri.b), (1, bx 46 (qG a1)), (2, bx 106 [.own 5 0 5 l7.length]), (5, ro 0 113 5 l7.length (rf qW l7))]⟩ (opAt (rg Tryd.f77 3660) 3) [(0, 0), (1, 0), (2, 0), (5, 0)] [0, 0, 0, 1] 4 0 o0 rfl (BF x6 (l5.getD ((w64 (((l5.length : Nat) : Int) - 1)).toNat) default) a1 l7 ri v11 h12) (.inl rfl) (by kernel_rfl)), qf 5 b13] 8 [] [(42, vb true)] [0, 2, 5] [(0, lz (rc Tryd.f40 122 ri) ri.b [] v11.1), (2, bx 106 [.own 5 1 5 v11.2.length]), (5, ro 1 113 5 v11.2.length (rf qW v11.2))] ?_
     refine qJj Tryd.f77 (.tmp 42) 7322 7323 (by kernel_rfl) (by kernel_rfl) ?_
     obtain rfl := Option.some.inj hm
     refine q_rt ?_
     refine zB (v11.1, v11.2) ?_
     exact q_rm
    ·replace hm := qB b13 hm
     refine q_wu [qd 3 (dex (cen [(0, 0), (1, 0), (2, 0), (5, 0)] [0, 0, 0, 1] 4 3 (KT x6 (l5.getD ((w64 (((l5.length : Nat) : Int) - 1)).toNat) default) a1 l7 ri v11) (KQ x6 (l5.getD ((w64 (((l5.length : Nat) : Int) - 1)).toNat) default) a1 l7 ri v11) [31, 32, 33] [0, 1, 2, 5])) (OL (K := (kx E 73 5)) ⟨[(31, vc (.yl (rc Tryd.f40 122 ri) ri.b [2, 7] [.bptr 1 0 0, .bptr 2 0 0])), (32, vi x6), (33, va [ci ((((l5.getD ((w64 (((l5.length : Nat) : Int) - 1)).toNat) default).rect).X).A), ci ((((l5.getD ((w64 (((l5.length : Nat) : Int) - 1)).toNat) default).rect).X).B), ci ((((l5.getD ((w64 (((l5.length : Nat) : Int) - 1)).toNat) default).rect).Y).A), ci ((((l5.getD ((w64 (((l5.length : Nat) : Int) - 1)).toNat) default).rect).Y).B), ci ((l5.getD ((w64 (((l5.length : Nat) : Int) - 1)).toNat) default).level)])], [(0, lq (rc Tryd.f40 122 ri) ri.b), (1, bx 46 (qG a1)), (2, bx 106 [.own 5 0 5 l7.length]), (5, ro 0 113 5 l7.length (rf qW l7))]⟩ (opAt (rg Tryd.f77 3660) 3) [(0, 0), (1, 0), (2, 0), (5, 0)] [0, 0, 0, 1] 4 0 o0 rfl (BF x6 (l5.getD ((w64 (((l5.length : Nat) : Int) - 1)).toNat) default) a1 l7 ri v11 h12) (.inl rfl) (by kernel_rfl)), qf 5 b13] [.lpn 0 .ready none] (o1 (qGz (js := []) b13)) 8 [] [(42, vb (decide (x6 ≥ ((a2.Nodes.length : Nat) : Int))))] [2, 5] [(2, bx 106 [.own 5 1 5 v11.2.length]), (5, ro 1 113 5 v11.2.length (rf qW v11.2))] ?_
     refine q_cn (decide (x6 ≥ ((a2.Nodes.length : Nat) : Int))) (fun b14 => ?_) (fun b14 => ?_)
     ·replace hm := qA b14 hm
      obtain rfl := Option.some.inj hm
      refine q_rt ?_
      refine zB (0, v11.2) ?_
      exact q_rm
     ·replace hm := qB b14 hm
      refine q_sk ?_
      refine q_sq ?_
      obtain ⟨g15, hm⟩ := qM hm
      refine q_vu [qd 3 (Dir.none) (inb_of g15)] 8 [42] [(7, vp 8 0)] [] [(8, bx 69 [ci ((a2.Nodes.getD x6.toNat default).Kind), ci ((a2.Nodes.getD x6.toNat default).At)])] ?_
      refine q_sq ?_
      obtain ⟨v16, h17, hm⟩ := qC hm
      refine q_vu [qc 2 [49] 9 (yX ((a2.Nodes.getD x6.toNat default).Kind) v16 h17)] 9 [] [(50, vb v16)] [] [] ?_
      refine q_cn v16 (fun b18 => ?_) (fun b18 => ?_)
      ·replace hm := qA b18 hm
       refine q_sq ?_
       obtain ⟨v19, h20, hm⟩ := qC hm
       refine q_vu [qc 4 [53, 54, 55] 9 (YJ ((l5.getD ((w64 (((l5.length : Nat) : Int) - 1)).toNat) default).rect) (a2.Nodes.getD x6.toNat default) a3 v19 h20)] 9 [7, 50] [(8, vp 9 0), (10, vp 11 0)] [8] [(9, bx 28 (qK v19.1)), (11, bx 28 (qK v19.2.2))] ?_
       obtain ⟨g21, hm⟩ := qM hm
       refine q_vu [qd 11 (drw 12 0 (rf e_Pattern_place ([(Pattern_place.mk v19.2.2 (w64 (((l5.getD ((w64 (((l5.length : Nat) : Int) - 1)).toNat) default).level) + 1))), (Pattern_place.mk v19.1 (w64 (((l5.getD ((w64 (((l5.length : Nat) : Int) - 1)).toNat) default).level) + 1)))] : List Pattern_place))) (litP e_Pattern_place default 5 (fun _ => rfl) ([(Pattern_place.mk v19.2.2 (w64 (((l5.getD ((w64 (((l5.length : Nat) : Int) - 1)).toNat) default).level) + 1))), (Pattern_place.mk v19.1 (w64 (((l5.getD ((w64 (((l5.length : Nat) : Int) - 1)).toNat) default).level) + 1)))] : List Pattern_place) 2 rfl), qd 12 (drw 6 1 (rf e_Pattern_place ((l5.take ((w64 (((l5.length : Nat) : Int) - 1)).toNat)) ++ ([(Pattern_place.mk v19.2.2 (w64 (((l5.getD ((w64 (((l5.length : Nat) : Int) - 1)).toNat) default).level) + 1))), (Pattern_place.mk v19.1 (w64 (((l5.getD ((w64 (((l5.length : Nat) : Int) - 1)).toNat) default).level) + 1)))] : List Pattern_place)))) (apP e_Pattern_place default (l5.take ((w64 (((l5.length : Nat) : Int) - 1)).toNat)) ([(Pattern_place.mk v19.2.2 (w64 (((l5.getD ((w64 (((l5.length : Nat) : Int) - 1)).toNat) default).level) + 1))), (Pattern_place.mk v19.1 (w64 (((l5.getD ((w64 (((l5.length : Nat) : Int) - 1)).toNat) default).level) + 1)))] : List Pattern_place) ((w64 (((l5.length : Nat) : Int) - 1)).toNat) 2 5 40 (2 ≤ 2) (Nat.le_refl _) (JA rfl (show (w64 (((l5.length : Nat) : Int) - 1)).toNat ≤ l5.length by have := (slOk_of g10); omega)) rfl (fun _ => rfl) (wR g21))] 12 [4, 6, 8, 10] [(4, vo 6 1 5 ((w64 (((l5.length : Nat) : Int) - 1)).toNat + 2))] [6, 7, 9, 11] [(6, ro 1 122 5 ((w64 (((l5.length : Nat) : Int) - 1)).toNat + 2) (rf e_Pattern_place ((l5.take ((w64 (((l5.length : Nat) : Int) - 1)).toNat)) ++ ([(Pattern_place.mk v19.2.2 (w64 (((l5.getD ((w64 (((l5.length : Nat) : Int) - 1)).toNat) default).level) + 1))), (Pattern_place.mk v19.1 (w64 (((l5.getD ((w64 (((l5.length : Nat) : Int) - 1)).toNat) default).level) + 1)))] : List Pattern_place))))] ?_
       exact q_J (((l5.take ((w64 (((l5.length : Nat) : Int) - 1)).toNat)) ++ ([(Pattern_place.mk v19.2.2 (w64 (((l5.getD ((w64 (((l5.length : Nat) : Int) - 1)).toNat) default).level) + 1))), (Pattern_place.mk v19.1 (w64 (((l5.getD ((w64 (((l5.length : Nat) : Int) - 1)).toNat) default).level) + 1)))] : List Pattern_place)), ((w64 (((l5.length : Nat) : Int) - 1)).toNat + 2), v11.2, v11.2.length) ⟨(len_app (JA rfl (show (w64 (((l5.length : Nat) : Int) - 1)).toNat ≤ l5.length by have := (slOk_of g10); omega)) rfl), rfl, hm⟩
      ·replace hm := qB b18 hm
       refine q_sk ?_
       exact q_J ((l5.take ((w64 (((l5.length : Nat) : Int) - 1)).toNat)), (w64 (((l5.length : Nat) : Int) - 1)).toNat, v11.2, v11.2.length) ⟨(JA rfl (show (w64 (((l5.length : Nat) : Int) - 1)).toNat ≤ l5.length by have := (slOk_of g10); omega)), rfl, hm⟩
  ·replace hm := qB b8 hm
   refine q_ex 0 ?_
   obtain rfl := Option.some.inj hm
   exact jE l7 (by kernel_rfl) (by kernel_rfl)
theorem qBm (a1 : qF) (a2 : qF) (a3 : Int) (a4 : List Leaf) (ri : RI 48) (r : Nat × (List Leaf)) (hm : ZK a1 a2 a3 a4 = some r) : CtX Tryd.prog globs 77 6 5 [.one (.yl (rc Tryd.f40 122 ri) ri.b [2, 7] [.bptr 1 0 0, .bptr 2 0 0]), .one (.bptr 3 0 0), .one (.bptr 4 0 0)] [(0, lq (rc Tryd.f40 122 ri) ri.b), (1, bx 46 (qG a1)), (2, bx 106 [.own 5 0 5 a4.length]), (3, bx 46 (qG a2)), (4, bx 3 [ci a3]), (5, ro 0 113 5 a4.length (rf qW a4))] (PI a1 a2 a3 a4 ri r) (RK a1 a2 a3 a4 ri r) := by
 unfold ZK at hm
 refine q_E Tryd.f77 73 fun E => ?_
 refine q_sq ?_
 refine q_vn [qd 3 (drw 6 0 (rf e_Pattern_place ([(Pattern_place.mk a2.Frame 1)] : List Pattern_place))) (litP e_Pattern_place default 5 (fun _ => rfl) ([(Pattern_place.mk a2.Frame 1)] : List Pattern_place) 1 rfl)] 6 ⟨[(0, vc (.yl (rc Tryd.f40 122 ri) ri.b [2, 7] [.bptr 1 0 0, .bptr 2 0 0])), (1, vp 3 0), (2, vp 4 0), (4, vo 6 0 5 1)], [(0, lq (rc Tryd.f40 122 ri) ri.b), (1, bx 46 (qG a1)), (2, bx 106 [.own 5 0 5 a4.length]), (3, bx 46 (qG a2)), (4, bx 3 [ci a3]), (5, ro 0 113 5 a4.length (rf qW a4)), (6, ro 0 122 5 1 (rf e_Pattern_place ([(Pattern_place.mk a2.Frame 1)] : List Pattern_place)))]⟩ ?_
 refine q_sq ?_
 refine q_vu [] 7 [] [(5, vi 0)] [] [] ?_
 obtain ⟨u27, h26, hm⟩ := qC hm
 refine zP (nd Tryd.f77 28) 0 (by kernel_rfl) FUEL (fun o => GS ri a1 a2 a3 o) (fun v st => RetQ Tryd.prog Tryd.f77 (PI a1 a2 a3 a4 ri v) (RK a1 a2 a3 a4 ri v) .ret st) u27 (q_hl (YL ri a1 a2 a3 ([(Pattern_place.mk a2.Frame 1)] : List Pattern_place) 1 0 a4 a4.length) (OG E ri a1 a2 a3 a4 FUEL ([(Pattern_place.mk a2.Frame 1)] : List Pattern_place) 1 0 a4 a4.length u27 rfl rfl h26)) ?_ ?_
 ·rintro v28 rfl st hr
  obtain rfl := Option.some.inj hm
  exact hr
 ·rintro o25 rfl
  replace hm : _ = some r := hm
  obtain rfl := Option.some.inj hm
  exact q_rm
def qFa (r : (List Leaf) × Int) : V := .tup [.one (.own 0 0 5 r.1.length), .one (ci r.2)]
def qFg (r : (List Leaf) × Int) : List (Nat × (Nat × O)) := [(0, ro 0 113 5 r.1.length (rf qW r.1))]
theorem qEy (a1 : qF) (a2 : Int) (r : (List Leaf) × Int) (hm : PS a1 a2 = some r) : CtX Tryd.prog globs 40 0 0 [.agg (qG a1), .one (ci a2)] [] (qFa r) (qFg r) := by
 unfold PS at hm
 refine q_E Tryd.f40 48 fun E => ?_
 refine q_sq ?_
 refine q_vn [] 0 ⟨[(1, vi a2), (2, vp 0 0)], [(0, bx 46 (qG a1))]⟩ ?_
 refine q_sq ?_
 refine q_sq ?_
 obtain ⟨v3, h4, hm⟩ := qC hm
 refine q_vu [qk 2 [11, 12] 1 ⟨[(11, va (qG a1)), (12, vi a2)], []⟩ (HI a1 a2 v3 h4)] 1 [] [(6, vi v3)] [] [] ?_
 refine q_sq ?_
 refine q_vu [] 1 [] [(15, vb (v3 != 0))] [] [] ?_
 refine q_cn (v3 != 0) (fun b5 => ?_) (fun b5 => ?_)
 ·replace hm := qA b5 hm
  refine q_sq ?_
  refine q_vn [] 1 ⟨[(4, vc (.emp)), (5, vi v3)], []⟩ ?_
  refine q_fn [.own 4 1 113 5 (rf qW ([] : List Leaf))] ⟨[(4, vo 1 0 5 0), (5, vi v3)], [(1, ro 0 113 5 0 (rf qW ([] : List Leaf)))]⟩ o0 ?_
  refine q_fn [.len 1 (([] : List Leaf).length)] ⟨[(4, vo 1 0 5 (([] : List Leaf).length)), (5, vi v3)], [(1, ro 0 113 5 (([] : List Leaf).length) (rf qW ([] : List Leaf)))]⟩ (o1 (And.intro (show 0 = ([] : List Leaf).length from rfl) (show 0 = ([] : List Leaf).length from rfl))) ?_
  obtain rfl := Option.some.inj hm
  refine qZ 1 0 (by kernel_rfl) ?_
  refine q_rt ?_
  exact q_rm
 ·replace hm := qB b5 hm
  refine q_sk ?_
  refine q_sq ?_
  refine q_vu [] 1 [6, 15] [(7, vp 1 0)] [] [(1, bx 106 [.emp])] ?_
  refine q_sq ?_
  refine q_sq ?_
  obtain ⟨v6, h7, hm⟩ := qC hm
  refine q_vu [qc 2 [17, 18] 2 (KW a1 a2 v6 h7)] 2 [1] [(19, vc (.fn 77 [.bptr 2 0 0, .bptr 3 0 0]))] [] [(2, bx 46 (qG v6.1)), (3, bx 3 [ci v6.2])] ?_
  refine q_bk 0 ?_
  refine q_fn [.ownB 1 0 4 113 5 (rf qW ([] : List Leaf))] ⟨[(2, vp 0 0), (7, vp 1 0), (19, vc (.fn 77 [.bptr 2 0 0, .bptr 3 0 0]))], [(0, bx 46 (qG a1)), (1, bx 106 [.own 4 0 5 0]), (2, bx 46 (qG v6.1)), (3, bx 3 [ci v6.2]), (4, ro 0 113 5 0 (rf qW ([] : List Leaf)))]⟩ o0 ?_
  refine q_fn [.len 4 (([] : List Leaf).length)] ⟨[(2, vp 0 0), (7, vp 1 0), (19, vc (.fn 77 [.bptr 2 0 0, .bptr 3 0 0]))], [(0, bx 46 (qG a1)), (1, bx 106 [.own 4 0 5 (([] : List Leaf).length)]), (2, bx 46 (qG v6.1)), (3, bx 3 [ci v6.2]), (4, ro 0 113 5 (([] : List Leaf).length) (rf qW ([] : List Leaf)))]⟩ (o1 (And.intro (show 0 = ([] : List Leaf).length from rfl) (show 0 = ([] : List Leaf).length from rfl))) ?_
  obtain ⟨v8, h9, hm⟩ := qC hm
  refine q_rf (.tmp 19) [2, 7] 5 [(5, 0), (0, 0), (1, 0), (2, 0), (3, 0), (4, 0)] [0, 0, 0, 0, 0, 1] 0 5 [] v8.1 0 ⟨[(7, vp 1 0)], [(1, bx 106 [.own 4 0 5 v8.2.length]), (4, ro 0 113 5 v8.2.length (rf qW v8.2))]⟩ (fun ri => qBm a1 v6.1 v6.2 ([] : List Leaf) ri v8 h9) ?_
  rcases Bool.eq_false_or_eq_true (Nat.beq v8.1 0) with b10 | b10
  ·replace hm := qA b10 hm
   refine JQ_n b10 ?_
   refine q_sq ?_
   refine q_vu [] 6 [7] [(4, vo 4 0 5 v8.2.length), (5, vi 0)] [1] [] ?_
   obtain rfl := Option.some.inj hm
   refine qZ 4 0 (by kernel_rfl) ?_
   refine q_rt ?_
   exact q_rm
  ·replace hm := qB b10 hm
   cases hm
set_option maxRecDepth 100000
def HE (r : (List Leaf)) : V := vc (.fn 73 [.bptr 0 0 0])
def HF (r : (List Leaf)) : List (Nat × (Nat × O)) := [(0, bx 106 [tl qW default r])]
theorem qB8 (a1 : List Leaf) (r : (List Leaf)) (hm : KV a1 = some r) : CtX Tryd.prog globs 41 0 0 [.one (tl qW default a1)] [] (HE r) (HF r) := by
 unfold KV at hm
 refine q_E Tryd.f41 4 fun E => ?_
 refine q_sq ?_
 refine q_vn [] 0 ⟨[(1, vp 0 0)], [(0, bx 106 [tl qW default a1])]⟩ ?_
 refine q_sq ?_
 refine q_vu [] 1 [1] [(2, vc (.fn 73 [.bptr 0 0 0]))] [] [] ?_
 obtain rfl := Option.some.inj hm
 refine q_rt ?_
 exact q_rm
open Go.Proofs
set_option maxHeartbeats 4000000
set_option maxRecDepth 100000
noncomputable def LY (a1 : Int) (a2 : Leaf) (a3 : List qD) (a4 : List Defect) (a5 : List Product) (a6 : Saw) (a7 : Int) (a8 : List Yield_Cut) (ri : RI 79) (r : Nat × (List Yield_Cut)) : V := vb (Nat.beq r.1 0)
noncomputable def yield_Boards_rd506_o (a1 : Int) (a2 : Leaf) (a3 : List qD) (a4 : List Defect) (a5 : List Product) (a6 : Saw) (a7 : Int) (a8 : List Yield_Cut) (ri : RI 79) (r : Nat × (List Yield_Cut)) : List (Nat × (Nat × O)) := [(0, lz (rc Tryd.f18 506 ri) ri.b [] r.1), (1, bx 22 [tl qI default a3]), (2, bx 23 [tl qH default a4]), (3, bx 24 [tl qE default a5]), (4, bx 30 (zL a6)), (5, bx 3 [ci a7]), (6, bx 72 [.own 7 0 9 r.2.length]), (7, ro 0 80 9 r.2.length (rf qT r.2))]
theorem qBH (a1 : Int) (a2 : Leaf) (a3 : List qD) (a4 : List Defect) (a5 : List Product) (a6 : Saw) (a7 : Int) (a8 : List Yield_Cut) (ri : RI 79) (r : Nat × (List Yield_Cut)) (hm : XL a1 a2 a3 a4 a5 a6 a7 a8 = some r) : CtR Tryd.prog globs (rc Tryd.f18 506 ri) ri.b [6, 7, 8, 10, 11, 17] 8 7 [.one (ci a1), .agg (qW a2), .one (.bptr 1 0 0), .one (.bptr 2 0 0), .one (.bptr 3 0 0), .one (.bptr 4 0 0), .one (.bptr 5 0 0), .one (.bptr 6 0 0)] [(0, lq (rc Tryd.f18 506 ri) ri.b), (1, bx 22 [tl qI default a3]), (2, bx 23 [tl qH default a4]), (3, bx 24 [tl qE default a5]), (4, bx 30 (zL a6)), (5, bx 3 [ci a7]), (6, bx 72 [.own 7 0 9 a8.length]), (7, ro 0 80 9 a8.length (rf qT a8))] (LY a1 a2 a3 a4 a5 a6 a7 a8 ri r) (yield_Boards_rd506_o a1 a2 a3 a4 a5 a6 a7 a8 ri r) := by
 unfold XL at hm
 refine q_R Tryd.f18 506 79 ri fun E => ?_
 refine q_sq ?_
 refine q_vn [] 8 ⟨[(6, vp 1 0), (7, vp 2 0), (8, vp 3 0), (10, vp 4 0), (11, vp 5 0), (17, vp 6 0), (18, vi a1), (47, va (qW a2))], [(0, lq (rc Tryd.f18 506 ri) ri.b), (1, bx 22 [tl qI default a3]), (2, bx 23 [tl qH default a4]), (3, bx 24 [tl qE default a5]), (4, bx 30 (zL a6)), (5, bx 3 [ci a7]), (6, bx 72 [.own 7 0 9 a8.length]), (7, ro 0 80 9 a8.length (rf qT a8))]⟩ ?_
 refine q_vu [] 8 [47] [(19, vp 8 0)] [] [(8, bx 113 (qW a2))] ?_
 refine q_rd ⟨[(6, vp 1 0), (7, vp 2 0), (8, vp 3 0), (10, vp 4 0), (11, vp 5 0), (17, vp 6 0), (18, vi a1), (19, vp 8 0)], [(0, ly (rc Tryd.f18 506 ri) ri.b), (1, bx 22 [tl qI default a3]), (2, bx 23 [tl qH default a4]), (3, bx 24 [tl qE default a5]), (4, bx 30 (zL a6)), (5, bx 3 [ci a7]), (6, bx 72 [.own 7 0 9 a8.length]), (7, ro 0 80 9 a8.length (rf qT a8)), (8, bx 113 (qW a2))]⟩ ?_
 refine q_bk 1 ?_
 refine q_sq ?_
 obtain ⟨g9, hm⟩ := qM hm
 obtain ⟨v10, h11, hm⟩ := qC hm
 refine q_du [qd 5 (Dir.none) (inb_of g9), qc 12 [49, 50, 55, 57, 59, 60] 9 (qCB a3 a4 (a5.getD a2.Product.toNat default) a2.Rect a6.Step a7 v10 h11)] [0, 0, 0, 0, 8, 28, 60, 0, 128, 0, 512, 0, 4095, 8191, 16383, 16383, 16383, 0, 163839, 458751, 1048575] 9 [6, 7, 8, 10, 11] [(20, vp 9 0), (21, vi v10.2.1), (22, vb v10.2.2)] [] [(9, bx 26 (e_Span v10.1))] ?_
 refine q_sq ?_
 refine q_vu [] 10 [22] [(65, vb v10.2.2)] [] [] ?_
 refine q_cn v10.2.2 (fun b12 => ?_) (fun b12 => ?_)
 ·replace hm := qA b12 hm
  obtain ⟨v13, h14, hm⟩ := qC hm
  obtain ⟨g15, hm⟩ := qM hm
  refine q_xu [] o0 [qc 7 [71, 72] 10 (MR a2.Rect v10.1 v13 h14), qd 10 (drw 10 0 (rf qT ([(Yield_Cut.mk a1 a2.Product v13 v10.2.1)] : List Yield_Cut))) (litP qT default 9 (fun _ => rfl) ([(Yield_Cut.mk a1 a2.Product v13 v10.2.1)] : List Yield_Cut) 1 rfl), qd 11 (drw 7 1 (rf qT (a8 ++ ([(Yield_Cut.mk a1 a2.Product v13 v10.2.1)] : List Yield_Cut)))) (apP qT default a8 ([(Yield_Cut.mk a1 a2.Product v13 v10.2.1)] : List Yield_Cut) a8.length 1 9 72 (1 ≤ 1) (Nat.le_refl _) rfl rfl (fun _ => rfl) (wR g15))] [.len 7 ((a8 ++ ([(Yield_Cut.mk a1 a2.Product v13 v10.2.1)] : List Yield_Cut)).length)] (o1 (And.intro (Eq.symm (show (a8 ++ ([(Yield_Cut.mk a1 a2.Product v13 v10.2.1)] : List Yield_Cut)).length = (a8.length + 1) from (len_app rfl rfl))) (And.intro (Eq.symm (show (a8 ++ ([(Yield_Cut.mk a1 a2.Product v13 v10.2.1)] : List Yield_Cut)).length = (a8.length + 1) from (len_app rfl rfl))) (Eq.symm (show (a8 ++ ([(Yield_Cut.mk a1 a2.Product v13 v10.2.1)] : List Yield_Cut)).length = (a8.length + 1) from (len_app rfl rfl)))))) [0, 0, 0, 4, 0, 16, 0, 112, 0, 510, 1022, 2047, 4095] 10 [17, 18, 19, 20, 21, 65] [] [6, 7, 8, 9] [(6, bx 72 [.own 7 1 9 ((a8 ++ ([(Yield_Cut.mk a1 a2.Product v13 v10.2.1)] : List Yield_Cut)).length)]), (7, ro 1 80 9 ((a8 ++ ([(Yield_Cut.mk a1 a2.Product v13 v10.2.1)] : List Yield_Cut)).length) (rf qT (a8 ++ ([(Yield_Cut.mk a1 a2.Product v13 v10.2.1)] : List Yield_Cut))))] ?_
  obtain rfl := Option.some.inj hm
  exact q_rq
 ·replace hm := qB b12 hm
  refine q_sk ?_
  obtain rfl := Option.some.inj hm
  exact q_rq
noncomputable def PN (a1 : List qD) (a2 : List Defect) (a3 : List Product) (a4 : Saw) (a5 : Int) (a6 : List Leaf) (a7 : List Yield_Cut) (ri : RI 79) (r : Nat × (List Yield_Cut)) : V := .undef
noncomputable def PX (a1 : List qD) (a2 : List Defect) (a3 : List Product) (a4 : Saw) (a5 : Int) (a6 : List Leaf) (a7 : List Yield_Cut) (ri : RI 79) (r : Nat × (List Yield_Cut)) : List (Nat × (Nat × O)) := [(0, lz (rc Tryd.f18 506 ri) ri.b [] r.1), (1, bx 22 [tl qI default a1]), (2, bx 23 [tl qH default a2]), (3, bx 24 [tl qE default a3]), (4, bx 30 (zL a4)), (5, bx 3 [ci a5]), (6, bx 72 [.own 8 0 9 r.2.length]), (7, bx 106 [tl qW default a6]), (8, ro 0 80 9 r.2.length (rf qT r.2))]
noncomputable def VZ (ri : RI 79) (a1 : List qD) (a2 : List Defect) (a3 : List Product) (a4 : Saw) (a5 : Int) (a6 : List Leaf) (x8 : Int) (l16 : List Yield_Cut) (l16n : Nat) : St :=
 ⟨[(0, vc (.yl (rc Tryd.f18 506 ri) ri.b [6, 7, 8, 10, 11, 17] [.bptr 1 0 0, .bptr 2 0 0, .bptr 3 0 0, .bptr 4 0 0, .bptr 5 0 0, .bptr 6 0 0])), (5, vc (tl qW default a6)), (6, vi ((a6.length : Nat) : Int)), (7, vi x8)], [(0, lq (rc Tryd.f18 506 ri) ri.b), (1, bx 22 [tl qI default a1]), (2, bx 23 [tl qH default a2]), (3, bx 24 [tl qE default a3]), (4, bx 30 (zL a4)), (5, bx 3 [ci a5]), (6, bx 72 [.own 8 0 9 l16n]), (7, bx 106 [tl qW default a6]), (8, ro 0 80 9 l16n (rf qT l16))]⟩
noncomputable def YT (ri : RI 79) (a1 : List qD) (a2 : List Defect) (a3 : List Product) (a4 : Saw) (a5 : Int) (a6 : List Leaf) (x8 : Int) (l9 : List Yield_Cut) (l9n : Nat) : St :=
 ⟨[(0, vc (.yl (rc Tryd.f18 506 ri) ri.b [6, 7, 8, 10, 11, 17] [.bptr 1 0 0, .bptr 2 0 0, .bptr 3 0 0, .bptr 4 0 0, .bptr 5 0 0, .bptr 6 0 0])), (5, vc (tl qW default a6)), (6, vi ((a6.length : Nat) : Int)), (7, vi x8)], [(0, lq (rc Tryd.f18 506 ri) ri.b), (1, bx 22 [tl qI default a1]), (2, bx 23 [tl qH default a2]), (3, bx 24 [tl qE default a3]), (4, bx 30 (zL a4)), (5, bx 3 [ci a5]), (6, bx 72 [.own 8 0 9 l9n]), (7, bx 106 [tl qW default a6]), (8, ro 0 80 9 l9n (rf qT l9))]⟩
noncomputable def GI (ri : RI 79) (a1 : List qD) (a2 : List Defect) (a3 : List Product) (a4 : Saw) (a5 : Int) (a6 : List Leaf) (l17 : List Yield_Cut) : St :=
 ⟨[], [(0, lq (rc Tryd.f18 506 ri) ri.b), (1, bx 22 [tl qI default a1]), (2, bx 23 [tl qH default a2]), (3, bx 24 [tl qE default a3]), (4, bx 30 (zL a4)), (5, bx 3 [ci a5]), (6, bx 72 [.own 8 0 9 l17.length]), (7, bx 106 [tl qW default a6]), (8, ro 0 80 9 l17.length (rf qT l17))]⟩
theorem OK (E : Env 9) (ri : RI 79) (a1 : List qD) (a2 : List Defect) (a3 : List Product) (a4 : Saw) (a5 : Int) (a6 : List Leaf) (a7 : List Yield_Cut) : ∀ (n : Nat) (x8 : Int) (l9 : List Yield_Cut) (l9n : Nat) (res : (Nat × (List Yield_Cut)) ⊕ (List Yield_Cut)), l9.length = l9n → zK a1 a2 a3 a4 a5 a6 n x8 l9 = some res → HL (kx E 23 8) (nd Tryd.f73 12) (wW 0 (fun o => GI ri a1 a2 a3 a4 a5 a6 o) (fun v st => RetQ Tryd.prog Tryd.f73 (PN a1 a2 a3 a4 a5 a6 a7 ri v) (PX a1 a2 a3 a4 a5 a6 a7 ri v) .ret st) res) n (YT ri a1 a2 a3 a4 a5 a6 x8 l9 l9n) := by
 intro n
 induction n with
 | zero =>
  intro x8 l9 l9n res hl0 hm
  cases hm
 | succ n ih =>
  intro x8 l9 l9n res hl0 hm
  subst hl0
  refine qQ ?_
  refine q_sq ?_
  refine q_vu [] 9 [] [(8, vb (decide (x8 < ((a6.length : Nat) : Int))))] [] [] ?_
  refine q_sq ?_
  refine q_cn (decide (x8 < ((a6.length : Nat) : Int))) (fun b10 => ?_) (fun b10 => ?_)
  ·replace hm := qA b10 hm
   refine q_sk ?_
   refine q_jn (ι := (List Yield_Cut) × Nat) (fun p => VZ ri a1 a2 a3 a4 a5 a6 x8 p.1 p.2) (fun p => p.1.length = p.2 ∧ WE x8 (zK a1 a2 a3 a4 a5 a6 n) p.1 = some res) ?_ ?_
   ·rintro ⟨l16, l16n⟩ ⟨el16, hm⟩
    replace el16 : l16.length = l16n := el16
    subst el16
    show H _ (VZ ri a1 a2 a3 a4 a5 a6 x8 l16 l16.length) _ _
    refine q_vu [] 10 [7] [(7, vi (w64 (x8 + 1)))] [] [] ?_
    exact q_hl (YT ri a1 a2 a3 a4 a5 a6 (w64 (x8 + 1)) l16 l16.length) (ih (w64 (x8 + 1)) l16 l16.length _ rfl hm)
   ·refine q_bk 1 ?_
    refine q_sq ?_
    obtain ⟨g11, hm⟩ := qM hm
    refine q_vu [qd 1 (Dir.none) (inb_of g11)] 9 [8] [(3, vi x8), (4, vp 9 0)] [] [(9, bx 113 [ci ((((a6.getD x8.toNat default).Rect).X).A), ci ((((a6.getD x8.toNat default).Rect).X).B), ci ((((a6.getD x8.toNat default).Rect).Y).A), ci ((((a6.getD x8.toNat default).Rect).Y).B), ci ((a6.getD x8.toNat default).Product)])] ?_
    refine q_sq ?_
    rcases Bool.eq_false_or_eq_true (((a6.getD x8.toNat default).Product) != (-1)) with b12 | b12
    ·replace hm := qA b12 hm
     obtain ⟨v13, h14, hm⟩ := qC hm
     refine q_vu [qf 3 b12, qd 7 (dex (cen [(0, 0), (1, 0), (2, 0), (3, 0), (4, 0), (5, 0), (6, 0), (8, 0)] [0, 0, 0, 0, 0, 0, 0, 1] 2 7 (LY x8 (a6.getD x8.toNat default) a1 a2 a3 a4 a5 l9 ri v13) (yield_Boards_rd506_o x8 (a6.getD x8.toNat default) a1 a2 a3 a4 a5 l9 ri v13) [15, 16, 17, 18] [0, 1, 2, 3, 4, 5, 6, 8])) (OL (K := (kx E 23 8)) ⟨[(15, vb true), (16, vc (.yl (rc Tryd.f18 506 ri) ri.b [6, 7, 8, 10, 11, 17] [.bptr 1 0 0, .bptr 2 0 0, .bptr 3 0 0, .bptr 4 0 0, .bptr 5 0 0, .bptr 6 0 0])), (17, vi x8), (18, va [ci ((((a6.getD x8.toNat default).Rect).X).A), ci ((((a6.getD x8.toNat default).Rect).X).B), ci ((((a6.getD x8.toNat default).Rect).Y).A), ci ((((a6.getD x8.toNat default).Rect).Y).B), ci ((a6.getD x8.toNat default).Product)])], [(0, lq (rc Tryd.f18 506 ri) ri.b), (1, bx 22 [tl qI default a1]), (2, bx 23 [tl qH default a2]), (3, bx 24 [tl qE default a3]), (4, bx 30 (zL a4)), (5, bx 3 [ci a5]), (6, bx 72 [.own 8 0 9 l9.length]), (8, ro 0 80 9 l9.length (rf qT l9))]⟩ (opAt (rg Tryd.f73 818) 7) [(0, 0), (1, 0), (2, 0), (3, 0), (4, 0), (5, 0), (6, 0), (8, 0)] [0, 0, 0, 0, 0, 0, 0, 1] 2 0 o0 rfl (qBH x8 (a6.getD x8.toNat default) a1 a2 a3 a4 a5 l9 ri v13 h14) (.inl rfl) (by kernel_rfl))] 10 [3, 4] [(21, vb (!(Nat.beq v13.1 0)))] [0, 6, 8, 9] [(0, lz (rc Tryd.f18 506 ri) ri.b [] v13.1), (6, bx 72 [.own 8 1 9 v13.2.length]), (8, ro 1 80 9 v13.2.length (rf qT v13.2))] ?_
     refine q_cn (!(Nat.beq v13.1 0)) (fun b15 => ?_) (fun b15 => ?_)
     ·replace hm := qA b15 hm
      obtain rfl := Option.some.inj hm
      refine q_rt ?_
      refine zB (v13.1, v13.2) ?_
      exact q_rm
     ·replace hm := qB b15 hm
      refine q_fn [.lpn 0 .ready none] ⟨[(0, vc (.yl (rc Tryd.f18 506 ri) ri.b [6, 7, 8, 10, 11, 17] [.bptr 1 0 0, .bptr 2 0 0, .bptr 3 0 0, .bptr 4 0 0, .bptr 5 0 0, .bptr 6 0 0])), (5, vc (tl qW default a6)), (6, vi ((a6.length : Nat) : Int)), (7, vi x8), (21, vb (!(Nat.beq v13.1 0)))], [(0, lq (rc Tryd.f18 506 ri) ri.b), (1, bx 22 [tl qI default a1]), (2, bx 23 [tl qH default a2]), (3, bx 24 [tl qE default a3]), (4, bx 30 (zL a4)), (5, bx 3 [ci a5]), (6, bx 72 [.own 8 1 9 v13.2.length]), (7, bx 106 [tl qW default a6]), (8, ro 1 80 9 v13.2.length (rf qT v13.2))]⟩ (o1 (qGz (js := []) b15)) ?_
      refine q_sk ?_
      exact q_J (v13.2, v13.2.length) ⟨rfl, hm⟩
    ·replace hm := qB b12 hm
     refine q_vu [qf 3 b12] 10 [3, 4] [(21, vb false)] [9] [] ?_
     refine R_cnF Tryd.f73 (.tmp 21) 1638 1639 (by kernel_rfl) (by kernel_rfl) ?_
     refine q_sk ?_
     exact q_J (l9, l9.length) ⟨rfl, hm⟩
  ·replace hm := qB b10 hm
   refine q_ex 0 ?_
   obtain rfl := Option.some.inj hm
   exact jE l9 (by kernel_rfl) (by kernel_rfl)
theorem qBg (a1 : List qD) (a2 : List Defect) (a3 : List Product) (a4 : Saw) (a5 : Int) (a6 : List Leaf) (a7 : List Yield_Cut) (ri : RI 79) (r : Nat × (List Yield_Cut)) (hm : ZJ a1 a2 a3 a4 a5 a6 a7 = some r) : CtX Tryd.prog globs 73 9 8 [.one (.yl (rc Tryd.f18 506 ri) ri.b [6, 7, 8, 10, 11, 17] [.bptr 1 0 0, .bptr 2 0 0, .bptr 3 0 0, .bptr 4 0 0, .bptr 5 0 0, .bptr 6 0 0]), .one (.bptr 7 0 0)] [(0, lq (rc Tryd.f18 506 ri) ri.b), (1, bx 22 [tl qI default a1]), (2, bx 23 [tl qH default a2]), (3, bx 24 [tl qE default a3]), (4, bx 30 (zL a4)), (5, bx 3 [ci a5]), (6, bx 72 [.own 8 0 9 a7.length]), (7, bx 106 [tl qW default a6]), (8, ro 0 80 9 a7.length (rf qT a7))] (PN a1 a2 a3 a4 a5 a6 a7 ri r) (PX a1 a2 a3 a4 a5 a6 a7 ri r) := by
 unfold ZJ at hm
 refine q_E Tryd.f73 23 fun E => ?_
 refine q_sq ?_
 refine q_vn [] 9 ⟨[(0, vc (.yl (rc Tryd.f18 506 ri) ri.b [6, 7, 8, 10, 11, 17] [.bptr 1 0 0, .bptr 2 0 0, .bptr 3 0 0, .bptr 4 0 0, .bptr 5 0 0, .bptr 6 0 0])), (5, vc (tl qW default a6)), (6, vi ((a6.length : Nat) : Int)), (7, vi 0)], [(0, lq (rc Tryd.f18 506 ri) ri.b), (1, bx 22 [tl qI default a1]), (2, bx 23 [tl qH default a2]), (3, bx 24 [tl qE default a3]), (4, bx 30 (zL a4)), (5, bx 3 [ci a5]), (6, bx 72 [.own 8 0 9 a7.length]), (7, bx 106 [tl qW default a6]), (8, ro 0 80 9 a7.length (rf qT a7))]⟩ ?_
 obtain ⟨u20, h19, hm⟩ := qC hm
 refine zP (nd Tryd.f73 12) 0 (by kernel_rfl) FUEL (fun o => GI ri a1 a2 a3 a4 a5 a6 o) (fun v st => RetQ Tryd.prog Tryd.f73 (PN a1 a2 a3 a4 a5 a6 a7 ri v) (PX a1 a2 a3 a4 a5 a6 a7 ri v) .ret st) u20 (q_hl (YT ri a1 a2 a3 a4 a5 a6 0 a7 a7.length) (OK E ri a1 a2 a3 a4 a5 a6 a7 FUEL 0 a7 a7.length u20 rfl h19)) ?_ ?_
 ·rintro v21 rfl st hr
  obtain rfl := Option.some.inj hm
  exact hr
 ·rintro o18 rfl
  replace hm : _ = some r := hm
  obtain rfl := Option.some.inj hm
  exact q_rm
set_option maxRecDepth 100000
def qHN (r : (List Yield_Cut) × Int) : V := .tup [.one (.own 0 0 9 r.1.length), .one (ci r.2)]
def qG3 (r : (List Yield_Cut) × Int) : List (Nat × (Nat × O)) := [(0, ro 0 80 9 r.1.length (rf qT r.1))]
theorem qGV (a1 : List qD) (a2 : List Defect) (a3 : List Product) (a4 : qF) (a5 : Saw) (a6 : Int) (r : (List Yield_Cut) × Int) (hm : DB a1 a2 a3 a4 a5 a6 = some r) : CtX Tryd.prog globs 18 0 0 [.one (tl qI default a1), .one (tl qH default a2), .one (tl qE default a3), .agg (qG a4), .agg (zL a5), .one (ci a6)] [] (qHN r) (qG3 r) := by
 unfold DB at hm
 refine q_E Tryd.f18 79 fun E => ?_
 refine q_sq ?_
 refine q_vn [] 0 ⟨[(6, vp 0 0), (7, vp 1 0), (8, vp 2 0), (9, vp 3 0), (10, vp 4 0), (11, vp 5 0)], [(0, bx 22 [tl qI default a1]), (1, bx 23 [tl qH default a2]), (2, bx 24 [tl qE default a3]), (3, bx 46 (qG a4)), (4, bx 30 (zL a5)), (5, bx 3 [ci a6])]⟩ ?_
 refine q_sq ?_
 refine q_sq ?_
 obtain ⟨v7, h8, hm⟩ := qC hm
 refine q_vu [qc 7 [23, 24, 25, 26, 27, 29] 6 (qBy a1 a2 a3 a4 a5 (Rates.mk 0 0 a6) v7 h8)] 6 [] [(14, vi v7)] [] [] ?_
 refine q_sq ?_
 refine q_vu [] 6 [] [(32, vb (v7 != 0))] [] [] ?_
 refine q_cn (v7 != 0) (fun b9 => ?_) (fun b9 => ?_)
 ·replace hm := qA b9 hm
  refine q_sq ?_
  refine q_vn [] 6 ⟨[(12, vc (.emp)), (13, vi v7)], []⟩ ?_
  refine q_fn [.own 12 6 80 9 (rf qT ([] : List Yield_Cut))] ⟨[(12, vo 6 0 9 0), (13, vi v7)], [(6, ro 0 80 9 0 (rf qT ([] : List Yield_Cut)))]⟩ o0 ?_
  refine q_fn [.len 6 (([] : List Yield_Cut).length)] ⟨[(12, vo 6 0 9 (([] : List Yield_Cut).length)), (13, vi v7)], [(6, ro 0 80 9 (([] : List Yield_Cut).length) (rf qT ([] : List Yield_Cut)))]⟩ (o1 (And.intro (show 0 = ([] : List Yield_Cut).length from rfl) (show 0 = ([] : List Yield_Cut).length from rfl))) ?_
  obtain rfl := Option.some.inj hm
  refine qZ 6 0 (by kernel_rfl) ?_
  refine q_rt ?_
  exact q_rm
 ·replace hm := qB b9 hm
  refine q_sk ?_
  refine q_sq ?_
  obtain ⟨v10, h11, hm⟩ := qC hm
  refine q_vu [qc 3 [35, 37] 6 (qEy a4 a5.Kerf v10 h11)] 6 [9, 14, 32] [(15, vo 6 0 5 v10.1.length), (16, vi v10.2)] [3] [(6, ro 0 113 5 v10.1.length (rf qW v10.1))] ?_
  refine q_sq ?_
  refine q_sq ?_
  refine q_vu [] 7 [] [(42, vb (v10.2 != 0))] [] [] ?_
  refine q_cn (v10.2 != 0) (fun b12 => ?_) (fun b12 => ?_)
  ·replace hm := qA b12 hm
   refine q_sq ?_
   refine q_vn [] 7 ⟨[(12, vc (.emp)), (13, vi v10.2)], []⟩ ?_
   refine q_fn [.own 12 7 80 9 (rf qT ([] : List Yield_Cut))] ⟨[(12, vo 7 0 9 0), (13, vi v10.2)], [(7, ro 0 80 9 0 (rf qT ([] : List Yield_Cut)))]⟩ o0 ?_
   refine q_fn [.len 7 (([] : List Yield_Cut).length)] ⟨[(12, vo 7 0 9 (([] : List Yield_Cut).length)), (13, vi v10.2)], [(7, ro 0 80 9 (([] : List Yield_Cut).length) (rf qT ([] : List Yield_Cut)))]⟩ (o1 (And.intro (show 0 = ([] : List Yield_Cut).length from rfl) (show 0 = ([] : List Yield_Cut).length from rfl))) ?_
   obtain rfl := Option.some.inj hm
   refine qZ 7 0 (by kernel_rfl) ?_
   refine q_rt ?_
   exact q_rm
  ·replace hm := qB b12 hm
   refine q_sk ?_
   refine q_sq ?_
   refine q_vu [] 7 [16, 42] [(17, vp 7 0)] [] [(7, bx 72 [.emp])] ?_
   refine q_sq ?_
   refine q_sq ?_
   obtain ⟨v13, h14, hm⟩ := qC hm
   refine q_vu [qd 1 (dpr [.frz 6] (dex (cen [] [] 8 0 (HE v13) (HF v13) [44] []))) (And.intro (Nat.le_refl v10.1.length) (Nat.le_refl v10.1.length)), qd 1 (Dir.none) (WA (K := (kx E 79 0)) ⟨[(44, vc (tl qW default v10.1))], []⟩ (opAt (rg Tryd.f18 252) 1) [] [] 8 o0 rfl (qB8 v10.1 v13 h14) (.inl rfl) (by kernel_rfl))] 8 [15] [(45, vc (.fn 73 [.bptr 8 0 0]))] [6] [(8, bx 106 [tl qW default v13])] ?_
   refine q_bk 0 ?_
   refine q_fn [.ownB 7 0 9 80 9 (rf qT ([] : List Yield_Cut))] ⟨[(6, vp 0 0), (7, vp 1 0), (8, vp 2 0), (10, vp 4 0), (11, vp 5 0), (17, vp 7 0), (45, vc (.fn 73 [.bptr 8 0 0]))], [(0, bx 22 [tl qI default a1]), (1, bx 23 [tl qH default a2]), (2, bx 24 [tl qE default a3]), (4, bx 30 (zL a5)), (5, bx 3 [ci a6]), (7, bx 72 [.own 9 0 9 0]), (8, bx 106 [tl qW default v13]), (9, ro 0 80 9 0 (rf qT ([] : List Yield_Cut)))]⟩ o0 ?_
   refine q_fn [.len 9 (([] : List Yield_Cut).length)] ⟨[(6, vp 0 0), (7, vp 1 0), (8, vp 2 0), (10, vp 4 0), (11, vp 5 0), (17, vp 7 0), (45, vc (.fn 73 [.bptr 8 0 0]))], [(0, bx 22 [tl qI default a1]), (1, bx 23 [tl qH default a2]), (2, bx 24 [tl qE default a3]), (4, bx 30 (zL a5)), (5, bx 3 [ci a6]), (7, bx 72 [.own 9 0 9 (([] : List Yield_Cut).length)]), (8, bx 106 [tl qW default v13]), (9, ro 0 80 9 (([] : List Yield_Cut).length) (rf qT ([] : List Yield_Cut)))]⟩ (o1 (And.intro (show 0 = ([] : List Yield_Cut).length from rfl) (show 0 = ([] : List Yield_Cut).length from rfl))) ?_
   obtain ⟨v15, h16, hm⟩ := qC hm
   refine q_rf (.tmp 45) [6, 7, 8, 10, 11, 17] 10 [(10, 0), (0, 0), (1, 0), (2, 0), (4, 0), (5, 0), (7, 0), (8, 0), (9, 0)] [0, 0, 0, 0, 0, 0, 0, 0, 1] 2 8 [] v15.1 0 ⟨[(17, vp 7 0)], [(7, bx 72 [.own 9 0 9 v15.2.length]), (9, ro 0 80 9 v15.2.length (rf qT v15.2))]⟩ (fun ri => qBg a1 a2 a3 a5 a6 v13 ([] : List Yield_Cut) ri v15 h16) ?_
   rcases Bool.eq_false_or_eq_true (Nat.beq v15.1 0) with b17 | b17
   ·replace hm := qA b17 hm
    refine JQ_n b17 ?_
    refine q_sq ?_
    refine q_vu [] 11 [17] [(12, vo 9 0 9 v15.2.length), (13, vi 0)] [7] [] ?_
    obtain rfl := Option.some.inj hm
    refine qZ 9 0 (by kernel_rfl) ?_
    refine q_rt ?_
    exact q_rm
   ·replace hm := qB b17 hm
    cases hm
open Go.Proofs
set_option maxHeartbeats 4000000
set_option maxRecDepth 100000
noncomputable def TO (a1 : Int) (a2 : Pattern_place) (a3 : qF) (a4 : Int) (a5 : List Rect) (ri : RI 47) (r : Nat × (List Rect)) : V := vb (Nat.beq r.1 0)
noncomputable def TK (a1 : Int) (a2 : Pattern_place) (a3 : qF) (a4 : Int) (a5 : List Rect) (ri : RI 47) (r : Nat × (List Rect)) : List (Nat × (Nat × O)) := [(0, lz (rc Tryd.f19 122 ri) ri.b [] r.1), (1, bx 46 (qG a3)), (2, bx 3 [ci a4]), (3, bx 75 [.own 4 0 4 r.2.length]), (4, ro 0 28 4 r.2.length (rf qK r.2))]
theorem LH (a1 : Int) (a2 : Pattern_place) (a3 : qF) (a4 : Int) (a5 : List Rect) (ri : RI 47) (r : Nat × (List Rect)) (hm : jR a1 a2 a3 a4 a5 = some r) : CtR Tryd.prog globs (rc Tryd.f19 122 ri) ri.b [2, 3, 7] 5 4 [.one (ci a1), .agg (e_Pattern_place a2), .one (.bptr 1 0 0), .one (.bptr 2 0 0), .one (.bptr 3 0 0)] [(0, lq (rc Tryd.f19 122 ri) ri.b), (1, bx 46 (qG a3)), (2, bx 3 [ci a4]), (3, bx 75 [.own 4 0 4 a5.length]), (4, ro 0 28 4 a5.length (rf qK a5))] (TO a1 a2 a3 a4 a5 ri r) (TK a1 a2 a3 a4 a5 ri r) := by
 unfold jR at hm
 refine q_R Tryd.f19 122 47 ri fun E => ?_
 refine q_sq ?_
 refine q_vn [] 5 ⟨[(2, vp 1 0), (3, vp 2 0), (7, vp 3 0), (8, vi a1), (24, va (e_Pattern_place a2))], [(0, lq (rc Tryd.f19 122 ri) ri.b), (1, bx 46 (qG a3)), (2, bx 3 [ci a4]), (3, bx 75 [.own 4 0 4 a5.length]), (4, ro 0 28 4 a5.length (rf qK a5))]⟩ ?_
 refine q_vu [] 5 [24] [(9, vp 5 0)] [] [(5, bx 122 (e_Pattern_place a2))] ?_
 refine q_rd ⟨[(2, vp 1 0), (3, vp 2 0), (7, vp 3 0), (8, vi a1), (9, vp 5 0)], [(0, ly (rc Tryd.f19 122 ri) ri.b), (1, bx 46 (qG a3)), (2, bx 3 [ci a4]), (3, bx 75 [.own 4 0 4 a5.length]), (4, ro 0 28 4 a5.length (rf qK a5)), (5, bx 122 (e_Pattern_place a2))]⟩ ?_
 refine q_bk 1 ?_
 refine q_sq ?_
 obtain ⟨g6, hm⟩ := qM hm
 refine q_vu [qd 3 (Dir.none) (inb_of g6)] 6 [2, 8] [(10, vp 6 0)] [] [(6, bx 69 [ci ((a3.Nodes.getD a1.toNat default).Kind), ci ((a3.Nodes.getD a1.toNat default).At)])] ?_
 refine q_sq ?_
 obtain ⟨v7, h8, hm⟩ := qC hm
 refine q_vu [qc 2 [31] 7 (yX ((a3.Nodes.getD a1.toNat default).Kind) v7 h8)] 7 [] [(32, vb v7)] [] [] ?_
 refine q_cn v7 (fun b9 => ?_) (fun b9 => ?_)
 ·replace hm := qA b9 hm
  refine q_sq ?_
  obtain ⟨v10, h11, hm⟩ := qC hm
  refine q_vu [qc 4 [35, 36, 37] 7 (YJ a2.rect (a3.Nodes.getD a1.toNat default) a4 v10 h11)] 7 [3, 9, 10, 32] [(12, vp 8 0)] [5, 6] [(8, bx 28 (qK v10.2.1))] ?_
  obtain ⟨g12, hm⟩ := qM hm
  refine q_wu [qd 2 (drw 10 0 (rf qK ([v10.2.1] : List Rect))) (litP qK default 4 (fun _ => rfl) ([v10.2.1] : List Rect) 1 rfl), qd 3 (drw 4 1 (rf qK (a5 ++ ([v10.2.1] : List Rect)))) (apP qK default a5 ([v10.2.1] : List Rect) a5.length 1 4 32 (1 ≤ 1) (Nat.le_refl _) rfl rfl (fun _ => rfl) (wR g12))] [.len 4 ((a5 ++ ([v10.2.1] : List Rect)).length)] (o1 (And.intro (Eq.symm (show (a5 ++ ([v10.2.1] : List Rect)).length = (a5.length + 1) from (len_app rfl rfl))) (And.intro (Eq.symm (show (a5 ++ ([v10.2.1] : List Rect)).length = (a5.length + 1) from (len_app rfl rfl))) (Eq.symm (show (a5 ++ ([v10.2.1] : List Rect)).length = (a5.length + 1) from (len_app rfl rfl)))))) 10 [7, 12] [] [3, 4, 8] [(3, bx 75 [.own 4 1 4 ((a5 ++ ([v10.2.1] : List Rect)).length)]), (4, ro 1 28 4 ((a5 ++ ([v10.2.1] : List Rect)).length) (rf qK (a5 ++ ([v10.2.1] : List Rect))))] ?_
  obtain rfl := Option.some.inj hm
  exact q_rq
 ·replace hm := qB b9 hm
  refine q_sk ?_
  obtain rfl := Option.some.inj hm
  exact q_rq
end Saw
end Go.SL
