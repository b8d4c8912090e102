import Derived.Test.YtpphchcejhodkaaDoorEBase
import Derived.Test.YtpphchcejhodkaaDoorEFa9
import Derived.Test.YtpphchcejhodkaaDoorEFa6
import Derived.Test.YtpphchcejhodkaaDoorEFa8
import Derived.Test.YtpphchcejhodkaaDoorEFa7
import Derived.Test.YtpphchcejhodkaaDoorEFa2
import Derived.Test.YtpphchcejhodkaaDoorEFa4
set_option linter.unusedVariables false
set_option linter.unusedSimpArgs false
namespace Go.SL
namespace Saw
open Go.Proofs
set_option maxHeartbeats 4000000
set_option maxRecDepth 100000
noncomputable def PE (a1 : qF) (a2 : Int) (a3 : qF) (a4 : Int) (a5 : List Rect) (ri : RI 47) (r : Nat × (List Rect)) : V := .undef
noncomputable def RH (a1 : qF) (a2 : Int) (a3 : qF) (a4 : Int) (a5 : List Rect) (ri : RI 47) (r : Nat × (List Rect)) : List (Nat × (Nat × O)) := [(0, lz (rc Tryd.f19 122 ri) ri.b [] r.1), (1, bx 46 (qG a1)), (2, bx 3 [ci a2]), (3, bx 75 [.own 6 0 4 r.2.length]), (4, bx 46 (qG a3)), (5, bx 3 [ci a4]), (6, ro 0 28 4 r.2.length (rf qK r.2))]
noncomputable def GF (ri : RI 47) (a1 : qF) (a2 : Int) (a3 : qF) (a4 : Int) (x7 : Int) (l23 : List Pattern_place) (l23n : Nat) (l24 : List Rect) (l24n : Nat) : St :=
 ⟨[(0, vc (.yl (rc Tryd.f19 122 ri) ri.b [2, 3, 7] [.bptr 1 0 0, .bptr 2 0 0, .bptr 3 0 0])), (1, vp 4 0), (2, vp 5 0), (4, vo 7 0 5 l23n), (5, vi x7)], [(0, lq (rc Tryd.f19 122 ri) ri.b), (1, bx 46 (qG a1)), (2, bx 3 [ci a2]), (3, bx 75 [.own 6 0 4 l24n]), (4, bx 46 (qG a3)), (5, bx 3 [ci a4]), (6, ro 0 28 4 l24n (rf qK l24)), (7, ro 0 122 5 l23n (rf e_Pattern_place l23))]⟩
noncomputable def YI (ri : RI 47) (a1 : qF) (a2 : Int) (a3 : qF) (a4 : Int) (l6 : List Pattern_place) (l6n : Nat) (x7 : Int) (l8 : List Rect) (l8n : Nat) : St :=
 ⟨[(0, vc (.yl (rc Tryd.f19 122 ri) ri.b [2, 3, 7] [.bptr 1 0 0, .bptr 2 0 0, .bptr 3 0 0])), (1, vp 4 0), (2, vp 5 0), (4, vo 7 0 5 l6n), (5, vi x7)], [(0, lq (rc Tryd.f19 122 ri) ri.b), (1, bx 46 (qG a1)), (2, bx 3 [ci a2]), (3, bx 75 [.own 6 0 4 l8n]), (4, bx 46 (qG a3)), (5, bx 3 [ci a4]), (6, ro 0 28 4 l8n (rf qK l8)), (7, ro 0 122 5 l6n (rf e_Pattern_place l6))]⟩
noncomputable def GK (ri : RI 47) (a1 : qF) (a2 : Int) (a3 : qF) (a4 : Int) (l25 : List Rect) : St :=
 ⟨[], [(0, lq (rc Tryd.f19 122 ri) ri.b), (1, bx 46 (qG a1)), (2, bx 3 [ci a2]), (3, bx 75 [.own 6 0 4 l25.length]), (4, bx 46 (qG a3)), (5, bx 3 [ci a4]), (6, ro 0 28 4 l25.length (rf qK l25))]⟩
theorem OH (E : Env 7) (ri : RI 47) (a1 : qF) (a2 : Int) (a3 : qF) (a4 : Int) (a5 : List Rect) : ∀ (n : Nat) (l6 : List Pattern_place) (l6n : Nat) (x7 : Int) (l8 : List Rect) (l8n : Nat) (res : (Nat × (List Rect)) ⊕ (List Rect)), l6.length = l6n → l8.length = l8n → wJ a1 a2 a3 a4 n l6 x7 l8 = some res → HL (kx E 73 6) (nd Tryd.f77 28) (wW 0 (fun o => GK ri a1 a2 a3 a4 o) (fun v st => RetQ Tryd.prog Tryd.f77 (PE a1 a2 a3 a4 a5 ri v) (RH a1 a2 a3 a4 a5 ri v) .ret st) res) n (YI ri a1 a2 a3 a4 l6 l6n x7 l8 l8n) := by
 intro n
 induction n with
 | zero =>
  intro l6 l6n x7 l8 l8n res hl0 hl1 hm
  cases hm
 | succ n ih =>
  intro l6 l6n x7 l8 l8n res hl0 hl1 hm
  subst hl0
  subst hl1
  refine qQ ?_
  refine q_sq ?_
  refine q_sq ?_
  refine q_vu [] 8 [] [(17, vb (decide (((l6.length : Nat) : Int) > 0)))] [] [] ?_
  refine q_cn (decide (((l6.length : Nat) : Int) > 0)) (fun b9 => ?_) (fun b9 => ?_)
  ·replace hm := qA b9 hm
   refine q_sk ?_
   refine q_jn (ι := (List Pattern_place) × Nat × (List Rect) × Nat) (fun p => GF ri a1 a2 a3 a4 x7 p.1 p.2.1 p.2.2.1 p.2.2.2) (fun p => p.1.length = p.2.1 ∧ p.2.2.1.length = p.2.2.2 ∧ WB x7 (wJ a1 a2 a3 a4 n) p.1 p.2.2.1 = some res) ?_ ?_
   ·rintro ⟨l23, l23n, l24, l24n⟩ ⟨el23, el24, hm⟩
    replace el23 : l23.length = l23n := el23
    subst el23
    replace el24 : l24.length = l24n := el24
    subst el24
    show H _ (GF ri a1 a2 a3 a4 x7 l23 l23.length l24 l24.length) _ _
    refine q_vu [] 14 [5] [(5, vi (w64 (x7 + 1)))] [] [] ?_
    exact q_hl (YI ri a1 a2 a3 a4 l23 l23.length (w64 (x7 + 1)) l24 l24.length) (ih l23 l23.length (w64 (x7 + 1)) l24 l24.length _ rfl rfl hm)
   ·refine q_bk 1 ?_
    refine q_sq ?_
    obtain ⟨g10, hm⟩ := qM hm
    refine q_vu [qd 4 (Dir.none) (inb_of g10), qd 5 (Dir.none) (toNat_lt (inb_of g10))] 8 [17] [(6, vp 8 0)] [] [(8, bx 122 [ci ((((l6.getD ((w64 (((l6.length : Nat) : Int) - 1)).toNat) default).rect).X).A), ci ((((l6.getD ((w64 (((l6.length : Nat) : Int) - 1)).toNat) default).rect).X).B), ci ((((l6.getD ((w64 (((l6.length : Nat) : Int) - 1)).toNat) default).rect).Y).A), ci ((((l6.getD ((w64 (((l6.length : Nat) : Int) - 1)).toNat) default).rect).Y).B), ci ((l6.getD ((w64 (((l6.length : Nat) : Int) - 1)).toNat) default).level)])] ?_
    refine q_sq ?_
    obtain ⟨g11, hm⟩ := qM hm
    refine q_wu [qd 4 (Dir.none) (And.intro (slOk_of g11).2.1 (slOk_of g11).2.2)] [.row 7 ((w64 (((l6.length : Nat) : Int) - 1)).toNat) (rf e_Pattern_place (l6.take ((w64 (((l6.length : Nat) : Int) - 1)).toNat)))] (o1 (tkP e_Pattern_place default l6 l6.length ((w64 (((l6.length : Nat) : Int) - 1)).toNat) (show (w64 (((l6.length : Nat) : Int) - 1)).toNat ≤ l6.length by have := (slOk_of g11); omega))) 9 [4] [(4, vo 7 0 5 ((w64 (((l6.length : Nat) : Int) - 1)).toNat))] [7] [(7, ro 0 122 5 ((w64 (((l6.length : Nat) : Int) - 1)).toNat) (rf e_Pattern_place (l6.take ((w64 (((l6.length : Nat) : Int) - 1)).toNat))))] ?_
    refine q_sq ?_
    refine q_sq ?_
    obtain ⟨v12, h13, hm⟩ := qC hm
    rcases Bool.eq_false_or_eq_true (!(Nat.beq v12.1 0)) with b14 | b14
    ·replace hm := qA b14 hm
     refine q_vu [qd 3 (dex (cen [(0, 0), (1, 0), (2, 0), (3, 0), (6, 0)] [0, 0, 0, 0, 1] 4 4 (TO x7 (l6.getD ((w64 (((l6.length : Nat) : Int) - 1)).toNat) default) a1 a2 l8 ri v12) (TK x7 (l6.getD ((w64 (((l6.length : Nat) : Int) - 1)).toNat) default) a1 a2 l8 ri v12) [31, 32, 33] [0, 1, 2, 3, 6])) (OL (K := (kx E 73 6)) ⟨[(31, vc (.yl (rc Tryd.f19 122 ri) ri.b [2, 3, 7] [.bptr 1 0 0, .bptr 2 0 0, .bptr 3 0 0])), (32, vi x7), (33, va [ci ((((l6.getD ((w64 (((l6.length : Nat) : Int) - 1)).toNat) default).rect).X).A), ci ((((l6.getD ((w64 (((l6.length : Nat) : Int) - 1)).toNat) default).rect).X).B), ci ((((l6.getD ((w64 (((l6.length : Nat) : Int) - 1)).toNat) default).rect).Y).A), ci ((((l6.getD ((w64 (((l6.length : Nat) : Int) - 1)).toNat) default).rect).Y).B), ci ((l6.getD ((w64 (((l6.length : Nat) : Int) - 1)).toNat) default).level)])], [(0, lq (rc Tryd.f19 122 ri) ri.b), (1, bx 46 (qG a1)), (2, bx 3 [ci a2]), (3, bx 75 [.own 6 0 4 l8.length]), (6, ro 0 28 4 l8.length (rf qK l8))]⟩ (opAt (rg Tryd.f77 3660) 3) [(0, 0), (1, 0), (2, 0), (3, 0), (6, 0)] [0, 0, 0, 0, 1] 4 0 o0 rfl (LH x7 (l6.getD ((w64 (((l6.length : Nat) : Int) - 1)).toNat) default) a1 a2 l8 ri v12 h13) (.inl rfl) (by kernel_rfl)), qf 5 b14] 9 [] [(42, vb true)] [0, 3, 6] [(0, lz (rc Tryd.f19 122 ri) ri.b [] v12.1), (3, bx 75 [.own 6 1 4 v12.2.length]), (6, ro 1 28 4 v12.2.length (rf qK v12.2))] ?_
     refine qJj Tryd.f77 (.tmp 42) 7322 7323 (by kernel_rfl) (by kernel_rfl) ?_
     obtain rfl := Option.some.inj hm
     refine q_rt ?_
     refine zB (v12.1, v12.2) ?_
     exact q_rm
    ·replace hm := qB b14 hm
     refine q_wu [qd 3 (dex (cen [(0, 0), (1, 0), (2, 0), (3, 0), (6, 0)] [0, 0, 0, 0, 1] 4 4 (TO x7 (l6.getD ((w64 (((l6.length : Nat) : Int) - 1)).toNat) default) a1 a2 l8 ri v12) (TK x7 (l6.getD ((w64 (((l6.length : Nat) : Int) - 1)).toNat) default) a1 a2 l8 ri v12) [31, 32, 33] [0, 1, 2, 3, 6])) (OL (K := (kx E 73 6)) ⟨[(31, vc (.yl (rc Tryd.f19 122 ri) ri.b [2, 3, 7] [.bptr 1 0 0, .bptr 2 0 0, .bptr 3 0 0])), (32, vi x7), (33, va [ci ((((l6.getD ((w64 (((l6.length : Nat) : Int) - 1)).toNat) default).rect).X).A), ci ((((l6.getD ((w64 (((l6.length : Nat) : Int) - 1)).toNat) default).rect).X).B), ci ((((l6.getD ((w64 (((l6.length : Nat) : Int) - 1)).toNat) default).rect).Y).A), ci ((((l6.getD ((w64 (((l6.length : Nat) : Int) - 1)).toNat) default).rect).Y).B), ci ((l6.getD ((w64 (((l6.length : Nat) : Int) - 1)).toNat) default).level)])], [(0, lq (rc Tryd.f19 122 ri) ri.b), (1, bx 46 (qG a1)), (2, bx 3 [ci a2]), (3, bx 75 [.own 6 0 4 l8.length]), (6, ro 0 28 4 l8.length (rf qK l8))]⟩ (opAt (rg Tryd.f77 3660) 3) [(0, 0), (1, 0), (2, 0), (3, 0), (6, 0)] [0, 0, 0, 0, 1] 4 0 o0 rfl (LH x7 (l6.getD ((w64 (((l6.length : Nat) : Int) - 1)).toNat) default) a1 a2 l8 ri v12 h13) (.inl rfl) (by kernel_rfl)), qf 5 b14] [.lpn 0 .ready none] (o1 (qGz (js := []) b14)) 9 [] [(42, vb (decide (x7 ≥ ((a3.Nodes.length : Nat) : Int))))] [3, 6] [(3, bx 75 [.own 6 1 4 v12.2.length]), (6, ro 1 28 4 v12.2.length (rf qK v12.2))] ?_
     refine q_cn (decide (x7 ≥ ((a3.Nodes.length : Nat) : Int))) (fun b15 => ?_) (fun b15 => ?_)
     ·replace hm := qA b15 hm
      obtain rfl := Option.some.inj hm
      refine q_rt ?_
      refine zB (0, v12.2) ?_
      exact q_rm
     ·replace hm := qB b15 hm
      refine q_sk ?_
      refine q_sq ?_
      obtain ⟨g16, hm⟩ := qM hm
      refine q_vu [qd 3 (Dir.none) (inb_of g16)] 9 [42] [(7, vp 9 0)] [] [(9, bx 69 [ci ((a3.Nodes.getD x7.toNat default).Kind), ci ((a3.Nodes.getD x7.toNat default).At)])] ?_
      refine q_sq ?_
      obtain ⟨v17, h18, hm⟩ := qC hm
      refine q_vu [qc 2 [49] 10 (yX ((a3.Nodes.getD x7.toNat default).Kind) v17 h18)] 10 [] [(50, vb v17)] [] [] ?_
      refine q_cn v17 (fun b19 => ?_) (fun b19 => ?_)
      ·replace hm := qA b19 hm
       refine q_sq ?_
       obtain ⟨v20, h21, hm⟩ := qC hm
       refine q_vu [qc 4 [53, 54, 55] 10 (YJ ((l6.getD ((w64 (((l6.length : Nat) : Int) - 1)).toNat) default).rect) (a3.Nodes.getD x7.toNat default) a4 v20 h21)] 10 [7, 50] [(8, vp 10 0), (10, vp 12 0)] [9] [(10, bx 28 (qK v20.1)), (12, bx 28 (qK v20.2.2))] ?_
       obtain ⟨g22, hm⟩ := qM hm
       refine q_vu [qd 11 (drw 13 0 (rf e_Pattern_place ([(Pattern_place.mk v20.2.2 (w64 (((l6.getD ((w64 (((l6.length : Nat) : Int) - 1)).toNat) default).level) + 1))), (Pattern_place.mk v20.1 (w64 (((l6.getD ((w64 (((l6.length : Nat) : Int) - 1)).toNat) default).level) + 1)))] : List Pattern_place))) (litP e_Pattern_place default 5 (fun _ => rfl) ([(Pattern_place.mk v20.2.2 (w64 (((l6.getD ((w64 (((l6.length : Nat) : Int) - 1)).toNat) default).level) + 1))), (Pattern_place.mk v20.1 (w64 (((l6.getD ((w64 (((l6.length : Nat) : Int) - 1)).toNat) default).level) + 1)))] : List Pattern_place) 2 rfl), qd 12 (drw 7 1 (rf e_Pattern_place ((l6.take ((w64 (((l6.length : Nat) : Int) - 1)).toNat)) ++ ([(Pattern_place.mk v20.2.2 (w64 (((l6.getD ((w64 (((l6.length : Nat) : Int) - 1)).toNat) default).level) + 1))), (Pattern_place.mk v20.1 (w64 (((l6.getD ((w64 (((l6.length : Nat) : Int) - 1)).toNat) default).level) + 1)))] : List Pattern_place)))) (apP e_Pattern_place default (l6.take ((w64 (((l6.length : Nat) : Int) - 1)).toNat)) ([(Pattern_place.mk v20.2.2 (w64 (((l6.getD ((w64 (((l6.length : Nat) : Int) - 1)).toNat) default).level) + 1))), (Pattern_place.mk v20.1 (w64 (((l6.getD ((w64 (((l6.length : Nat) : Int) - 1)).toNat) default).level) + 1)))] : List Pattern_place) ((w64 (((l6.length : Nat) : Int) - 1)).toNat) 2 5 40 (2 ≤ 2) (Nat.le_refl _) (JA rfl (show (w64 (((l6.length : Nat) : Int) - 1)).toNat ≤ l6.length by have := (slOk_of g11); omega)) rfl (fun _ => rfl) (wR g22))] 13 [4, 6, 8, 10] [(4, vo 7 1 5 ((w64 (((l6.length : Nat) : Int) - 1)).toNat + 2))] [7, 8, 10, 12] [(7, ro 1 122 5 ((w64 (((l6.length : Nat) : Int) - 1)).toNat + 2) (rf e_Pattern_place ((l6.take ((w64 (((l6.length : Nat) : Int) - 1)).toNat)) ++ ([(Pattern_place.mk v20.2.2 (w64 (((l6.getD ((w64 (((l6.length : Nat) : Int) - 1)).toNat) default).level) + 1))), (Pattern_place.mk v20.1 (w64 (((l6.getD ((w64 (((l6.length : Nat) : Int) - 1)).toNat) default).level) + 1)))] : List Pattern_place))))] ?_
       exact q_J (((l6.take ((w64 (((l6.length : Nat) : Int) - 1)).toNat)) ++ ([(Pattern_place.mk v20.2.2 (w64 (((l6.getD ((w64 (((l6.length : Nat) : Int) - 1)).toNat) default).level) + 1))), (Pattern_place.mk v20.1 (w64 (((l6.getD ((w64 (((l6.length : Nat) : Int) - 1)).toNat) default).level) + 1)))] : List Pattern_place)), ((w64 (((l6.length : Nat) : Int) - 1)).toNat + 2), v12.2, v12.2.length) ⟨(len_app (JA rfl (show (w64 (((l6.length : Nat) : Int) - 1)).toNat ≤ l6.length by have := (slOk_of g11); omega)) rfl), rfl, hm⟩
      ·replace hm := qB b19 hm
       refine q_sk ?_
       exact q_J ((l6.take ((w64 (((l6.length : Nat) : Int) - 1)).toNat)), (w64 (((l6.length : Nat) : Int) - 1)).toNat, v12.2, v12.2.length) ⟨(JA rfl (show (w64 (((l6.length : Nat) : Int) - 1)).toNat ≤ l6.length by have := (slOk_of g11); omega)), rfl, hm⟩
  ·replace hm := qB b9 hm
   refine q_ex 0 ?_
   obtain rfl := Option.some.inj hm
   exact jE l8 (by kernel_rfl) (by kernel_rfl)
theorem qBt (a1 : qF) (a2 : Int) (a3 : qF) (a4 : Int) (a5 : List Rect) (ri : RI 47) (r : Nat × (List Rect)) (hm : ZL a1 a2 a3 a4 a5 = some r) : CtX Tryd.prog globs 77 7 6 [.one (.yl (rc Tryd.f19 122 ri) ri.b [2, 3, 7] [.bptr 1 0 0, .bptr 2 0 0, .bptr 3 0 0]), .one (.bptr 4 0 0), .one (.bptr 5 0 0)] [(0, lq (rc Tryd.f19 122 ri) ri.b), (1, bx 46 (qG a1)), (2, bx 3 [ci a2]), (3, bx 75 [.own 6 0 4 a5.length]), (4, bx 46 (qG a3)), (5, bx 3 [ci a4]), (6, ro 0 28 4 a5.length (rf qK a5))] (PE a1 a2 a3 a4 a5 ri r) (RH a1 a2 a3 a4 a5 ri r) := by
 unfold ZL at hm
 refine q_E Tryd.f77 73 fun E => ?_
 refine q_sq ?_
 refine q_vn [qd 3 (drw 7 0 (rf e_Pattern_place ([(Pattern_place.mk a3.Frame 1)] : List Pattern_place))) (litP e_Pattern_place default 5 (fun _ => rfl) ([(Pattern_place.mk a3.Frame 1)] : List Pattern_place) 1 rfl)] 7 ⟨[(0, vc (.yl (rc Tryd.f19 122 ri) ri.b [2, 3, 7] [.bptr 1 0 0, .bptr 2 0 0, .bptr 3 0 0])), (1, vp 4 0), (2, vp 5 0), (4, vo 7 0 5 1)], [(0, lq (rc Tryd.f19 122 ri) ri.b), (1, bx 46 (qG a1)), (2, bx 3 [ci a2]), (3, bx 75 [.own 6 0 4 a5.length]), (4, bx 46 (qG a3)), (5, bx 3 [ci a4]), (6, ro 0 28 4 a5.length (rf qK a5)), (7, ro 0 122 5 1 (rf e_Pattern_place ([(Pattern_place.mk a3.Frame 1)] : List Pattern_place)))]⟩ ?_
 refine q_sq ?_
 refine q_vu [] 8 [] [(5, vi 0)] [] [] ?_
 obtain ⟨u28, h27, hm⟩ := qC hm
 refine zP (nd Tryd.f77 28) 0 (by kernel_rfl) FUEL (fun o => GK ri a1 a2 a3 a4 o) (fun v st => RetQ Tryd.prog Tryd.f77 (PE a1 a2 a3 a4 a5 ri v) (RH a1 a2 a3 a4 a5 ri v) .ret st) u28 (q_hl (YI ri a1 a2 a3 a4 ([(Pattern_place.mk a3.Frame 1)] : List Pattern_place) 1 0 a5 a5.length) (OH E ri a1 a2 a3 a4 a5 FUEL ([(Pattern_place.mk a3.Frame 1)] : List Pattern_place) 1 0 a5 a5.length u28 rfl rfl h27)) ?_ ?_
 ·rintro v29 rfl st hr
  obtain rfl := Option.some.inj hm
  exact hr
 ·rintro o26 rfl
  replace hm : _ = some r := hm
  obtain rfl := Option.some.inj hm
  exact q_rm
def qHS (r : (List Rect) × Int) : V := .tup [.one (.own 0 0 4 r.1.length), .one (ci r.2)]
def qHO (r : (List Rect) × Int) : List (Nat × (Nat × O)) := [(0, ro 0 28 4 r.1.length (rf qK r.1))]
theorem qGU (a1 : qF) (a2 : Int) (r : (List Rect) × Int) (hm : VJ a1 a2 = some r) : CtX Tryd.prog globs 19 0 0 [.agg (qG a1), .one (ci a2)] [] (qHS r) (qHO r) := by
 unfold VJ at hm
 refine q_E Tryd.f19 47 fun E => ?_
 refine q_sq ?_
 refine q_vn [] 0 ⟨[(2, vp 0 0), (3, vp 1 0)], [(0, bx 46 (qG a1)), (1, bx 3 [ci a2])]⟩ ?_
 refine q_sq ?_
 refine q_sq ?_
 obtain ⟨v3, h4, hm⟩ := qC hm
 refine q_vu [qk 2 [14, 15] 2 ⟨[(14, va (qG a1)), (15, vi a2)], []⟩ (HI a1 a2 v3 h4)] 2 [] [(6, vi v3)] [] [] ?_
 refine q_sq ?_
 refine q_vu [] 2 [] [(18, vb (v3 != 0))] [] [] ?_
 refine q_cn (v3 != 0) (fun b5 => ?_) (fun b5 => ?_)
 ·replace hm := qA b5 hm
  refine q_sq ?_
  refine q_vn [] 2 ⟨[(4, vc (.emp)), (5, vi v3)], []⟩ ?_
  refine q_fn [.own 4 2 28 4 (rf qK ([] : List Rect))] ⟨[(4, vo 2 0 4 0), (5, vi v3)], [(2, ro 0 28 4 0 (rf qK ([] : List Rect)))]⟩ o0 ?_
  refine q_fn [.len 2 (([] : List Rect).length)] ⟨[(4, vo 2 0 4 (([] : List Rect).length)), (5, vi v3)], [(2, ro 0 28 4 (([] : List Rect).length) (rf qK ([] : List Rect)))]⟩ (o1 (And.intro (show 0 = ([] : List Rect).length from rfl) (show 0 = ([] : List Rect).length from rfl))) ?_
  obtain rfl := Option.some.inj hm
  refine qZ 2 0 (by kernel_rfl) ?_
  refine q_rt ?_
  exact q_rm
 ·replace hm := qB b5 hm
  refine q_sk ?_
  refine q_sq ?_
  refine q_vu [] 2 [6, 18] [(7, vp 2 0)] [] [(2, bx 75 [.emp])] ?_
  refine q_sq ?_
  refine q_sq ?_
  obtain ⟨v6, h7, hm⟩ := qC hm
  refine q_vu [qc 2 [20, 21] 3 (KW a1 a2 v6 h7)] 3 [] [(22, vc (.fn 77 [.bptr 3 0 0, .bptr 4 0 0]))] [] [(3, bx 46 (qG v6.1)), (4, bx 3 [ci v6.2])] ?_
  refine q_bk 0 ?_
  refine q_fn [.ownB 2 0 5 28 4 (rf qK ([] : List Rect))] ⟨[(2, vp 0 0), (3, vp 1 0), (7, vp 2 0), (22, vc (.fn 77 [.bptr 3 0 0, .bptr 4 0 0]))], [(0, bx 46 (qG a1)), (1, bx 3 [ci a2]), (2, bx 75 [.own 5 0 4 0]), (3, bx 46 (qG v6.1)), (4, bx 3 [ci v6.2]), (5, ro 0 28 4 0 (rf qK ([] : List Rect)))]⟩ o0 ?_
  refine q_fn [.len 5 (([] : List Rect).length)] ⟨[(2, vp 0 0), (3, vp 1 0), (7, vp 2 0), (22, vc (.fn 77 [.bptr 3 0 0, .bptr 4 0 0]))], [(0, bx 46 (qG a1)), (1, bx 3 [ci a2]), (2, bx 75 [.own 5 0 4 (([] : List Rect).length)]), (3, bx 46 (qG v6.1)), (4, bx 3 [ci v6.2]), (5, ro 0 28 4 (([] : List Rect).length) (rf qK ([] : List Rect)))]⟩ (o1 (And.intro (show 0 = ([] : List Rect).length from rfl) (show 0 = ([] : List Rect).length from rfl))) ?_
  obtain ⟨v8, h9, hm⟩ := qC hm
  refine q_rf (.tmp 22) [2, 3, 7] 6 [(6, 0), (0, 0), (1, 0), (2, 0), (3, 0), (4, 0), (5, 0)] [0, 0, 0, 0, 0, 0, 1] 0 6 [] v8.1 0 ⟨[(7, vp 2 0)], [(2, bx 75 [.own 5 0 4 v8.2.length]), (5, ro 0 28 4 v8.2.length (rf qK v8.2))]⟩ (fun ri => qBt a1 a2 v6.1 v6.2 ([] : List Rect) ri v8 h9) ?_
  rcases Bool.eq_false_or_eq_true (Nat.beq v8.1 0) with b10 | b10
  ·replace hm := qA b10 hm
   refine JQ_n b10 ?_
   refine q_sq ?_
   refine q_vu [] 7 [7] [(4, vo 5 0 4 v8.2.length), (5, vi 0)] [2] [] ?_
   obtain rfl := Option.some.inj hm
   refine qZ 5 0 (by kernel_rfl) ?_
   refine q_rt ?_
   exact q_rm
  ·replace hm := qB b10 hm
   cases hm
set_option maxRecDepth 100000
def qHJ (r : Int) : V := vi r
def qG2 (r : Int) : List (Nat × (Nat × O)) := []
def BT (v2 : qL) (x4 : Int) (x5 : Int) : St :=
 ⟨[(3, vi x4), (8, vc (tl e_Span default v2.Rows)), (9, vi ((v2.Rows.length : Nat) : Int)), (10, vi x5)], []⟩
def IY (x10 : Int) : St :=
 ⟨[(3, vi x10)], []⟩
theorem qDh (E : Env 0) (v2 : qL) : ∀ (n : Nat) (x4 : Int) (x5 : Int) (res : Int), WV v2 n x4 x5 = some res → HL (kx E 21 0) (nd Tryd.f26 116) (wO 0 (fun o => IY o) res) n (BT v2 x4 x5) := by
 intro n
 induction n with
 | zero =>
  intro x4 x5 res hm
  cases hm
 | succ n ih =>
  intro x4 x5 res hm
  refine qQ ?_
  refine q_sq ?_
  refine q_vu [] 1 [] [(11, vb (decide (x5 < ((v2.Rows.length : Nat) : Int))))] [] [] ?_
  refine q_sq ?_
  refine q_cn (decide (x5 < ((v2.Rows.length : Nat) : Int))) (fun b6 => ?_) (fun b6 => ?_)
  ·replace hm := qA b6 hm
   refine q_sk ?_
   refine q_sq ?_
   refine q_bk 1 ?_
   refine q_sq ?_
   obtain ⟨g7, hm⟩ := qM hm
   refine q_vu [qd 0 (Dir.none) (inb_of g7)] 1 [11] [(5, vp 1 0)] [] [(1, bx 26 [ci ((v2.Rows.getD x5.toNat default).A), ci ((v2.Rows.getD x5.toNat default).B)])] ?_
   obtain ⟨v8, h9, hm⟩ := qC hm
   refine q_vu [qc 2 [15] 2 (UG (v2.Rows.getD x5.toNat default) v8 h9)] 2 [3, 5] [(3, vi (w64 (x4 + v8)))] [1] [] ?_
   refine q_vu [] 2 [10] [(10, vi (w64 (x5 + 1)))] [] [] ?_
   exact q_hl (BT v2 (w64 (x4 + v8)) (w64 (x5 + 1))) (ih (w64 (x4 + v8)) (w64 (x5 + 1)) _ hm)
  ·replace hm := qB b6 hm
   refine q_ex 0 ?_
   obtain rfl := Option.some.inj hm
   exact yM (by kernel_rfl) (by kernel_rfl)
theorem qGK (a1 : qL) (r : Int) (hm : DA a1 = some r) : CtX Tryd.prog globs 26 0 0 [.agg (zJ a1)] [] (qHJ r) (qG2 r) := by
 unfold DA at hm
 refine q_E Tryd.f26 21 fun E => ?_
 refine q_sq ?_
 refine q_vn [] 0 ⟨[(1, vp 0 0)], [(0, bx 54 (zJ a1))]⟩ ?_
 refine q_sq ?_
 refine q_vu [] 1 [] [(3, vi 0)] [] [] ?_
 refine q_sq ?_
 refine q_sq ?_
 obtain ⟨v2, h3, hm⟩ := qC hm
 refine q_vu [qc 1 [6] 1 (qAp a1 v2 h3)] 1 [1] [(8, vc (tl e_Span default v2.Rows)), (9, vi ((v2.Rows.length : Nat) : Int)), (10, vi 0)] [0] [] ?_
 obtain ⟨o11, h12, hm⟩ := qC hm
 refine wB (nd Tryd.f26 116) 0 (by kernel_rfl) FUEL (fun o => IY o) o11 (q_hl (BT v2 0 0) (qDh E v2 FUEL 0 0 o11 h12)) ?_
 refine q_sq ?_
 refine q_vn [] 1 ⟨[(2, vi (w64 (10 * o11)))], []⟩ ?_
 obtain rfl := Option.some.inj hm
 refine q_rt ?_
 exact q_rm
open Go.Proofs
set_option maxHeartbeats 4000000
set_option maxRecDepth 100000
def qHU (r : Int) : V := vi r
def qG1 (r : Int) : List (Nat × (Nat × O)) := []
def BH (v2 : (List qD)) (x4 : Int) (x5 : Int) : St :=
 ⟨[(3, vi x4), (7, vc (tl qI default v2)), (8, vi ((v2.length : Nat) : Int)), (9, vi x5)], []⟩
def IF (x10 : Int) : St :=
 ⟨[(3, vi x10)], []⟩
theorem qDW (E : Env 0) (v2 : (List qD)) : ∀ (n : Nat) (x4 : Int) (x5 : Int) (res : Int), WO v2 n x4 x5 = some res → HL (kx E 23 0) (nd Tryd.f10 116) (wO 0 (fun o => IF o) res) n (BH v2 x4 x5) := by
 intro n
 induction n with
 | zero =>
  intro x4 x5 res hm
  cases hm
 | succ n ih =>
  intro x4 x5 res hm
  refine qQ ?_
  refine q_sq ?_
  refine q_vu [] 0 [] [(10, vb (decide (x5 < ((v2.length : Nat) : Int))))] [] [] ?_
  refine q_sq ?_
  refine q_cn (decide (x5 < ((v2.length : Nat) : Int))) (fun b6 => ?_) (fun b6 => ?_)
  ·replace hm := qA b6 hm
   refine q_sk ?_
   refine q_sq ?_
   refine q_bk 1 ?_
   refine q_sq ?_
   obtain ⟨g7, hm⟩ := qM hm
   refine q_vu [qd 0 (Dir.none) (inb_of g7)] 0 [10] [(5, vp 0 0)] [] [(0, bx 56 [ci ((v2.getD x5.toNat default).Len), ci (((v2.getD x5.toNat default).Sec).Low), tl e_Span default (((v2.getD x5.toNat default).Sec).Rows)])] ?_
   obtain ⟨v8, h9, hm⟩ := qC hm
   refine q_du [qc 5 [17] 1 (qGK ((v2.getD x5.toNat default).Sec) v8 h9)] [0, 0, 2, 0, 8, 24, 62, 127, 255] 1 [3, 5] [(3, vi (w64 (x4 + (w64 (((v2.getD x5.toNat default).Len) * v8)))))] [0] [] ?_
   refine q_vu [] 1 [9] [(9, vi (w64 (x5 + 1)))] [] [] ?_
   exact q_hl (BH v2 (w64 (x4 + (w64 (((v2.getD x5.toNat default).Len) * v8)))) (w64 (x5 + 1))) (ih (w64 (x4 + (w64 (((v2.getD x5.toNat default).Len) * v8)))) (w64 (x5 + 1)) _ hm)
  ·replace hm := qB b6 hm
   refine q_ex 0 ?_
   obtain rfl := Option.some.inj hm
   exact yM (by kernel_rfl) (by kernel_rfl)
theorem MY (a1 : List qD) (r : Int) (hm : PV a1 = some r) : CtX Tryd.prog globs 10 0 0 [.one (tl qI default a1)] [] (qHU r) (qG1 r) := by
 unfold PV at hm
 refine q_E Tryd.f10 23 fun E => ?_
 refine q_sq ?_
 refine q_vn [] 0 ⟨[(0, vc (tl qI default a1))], []⟩ ?_
 refine q_sq ?_
 refine q_vu [] 0 [] [(3, vi 0)] [] [] ?_
 refine q_sq ?_
 refine q_sq ?_
 obtain ⟨v2, h3, hm⟩ := qC hm
 refine q_vu [qc 1 [6] 0 (HT a1 v2 h3)] 0 [0] [(7, vc (tl qI default v2)), (8, vi ((v2.length : Nat) : Int)), (9, vi 0)] [] [] ?_
 obtain ⟨o11, h12, hm⟩ := qC hm
 refine wB (nd Tryd.f10 116) 0 (by kernel_rfl) FUEL (fun o => IF o) o11 (q_hl (BH v2 0 0) (qDW E v2 FUEL 0 0 o11 h12)) ?_
 refine q_sq ?_
 refine q_vn [] 0 ⟨[(2, vi o11)], []⟩ ?_
 obtain rfl := Option.some.inj hm
 refine q_rt ?_
 exact q_rm
def qFS (r : Yield × Int) : V := .tup [.agg (qD6 r.1), .one (ci r.2)]
def OD (r : Yield × Int) : List (Nat × (Nat × O)) := []
theorem qMp (r : Yield × Int) : JD (OD r) := by
 intro i k o h
 unfold OD at h
 cases h
def AN (a1 : List qD) (a5 : Saw) (a6 : Rates) (v10 : (List Yield_Cut) × Int) (v13 : (List Rect) × Int) (v16 : Int) (v18 : Int) (x20 : Int) (x21 : Int) : St :=
 ⟨[(0, vc (tl qI default a1)), (10, vp 1 0), (11, vp 2 0), (12, vp 3 0), (15, vo 4 0 9 v10.1.length), (18, vi v16), (19, vp 6 0), (68, vo 5 0 4 v13.1.length), (69, vi ((v13.1.length : Nat) : Int)), (70, vi x20)], [(1, bx 30 (zL a5)), (2, bx 32 (zM a6)), (3, bx 42 [ci 0, ci 0, ci 0, ci 0, ci 0]), (4, ro 0 80 9 v10.1.length (rf qT v10.1)), (5, ro 0 28 4 v13.1.length (rf qK v13.1)), (6, bx 42 [ci v18, ci 0, ci 0, ci x21, ci 0])]⟩
def qCF (a1 : List qD) (a5 : Saw) (a6 : Rates) (v10 : (List Yield_Cut) × Int) (v16 : Int) (x28 : Yield) : St :=
 ⟨[(0, vc (tl qI default a1)), (10, vp 1 0), (11, vp 2 0), (12, vp 3 0), (15, vo 4 0 9 v10.1.length), (18, vi v16), (19, vp 6 0)], [(1, bx 30 (zL a5)), (2, bx 32 (zM a6)), (3, bx 42 [ci 0, ci 0, ci 0, ci 0, ci 0]), (4, ro 0 80 9 v10.1.length (rf qT v10.1)), (6, bx 42 (qD6 x28))]⟩
def AO (a1 : List qD) (a5 : Saw) (a6 : Rates) (v10 : (List Yield_Cut) × Int) (v16 : Int) (o29 : Yield) (x31 : Int) (x32 : Int) (x33 : Int) (x34 : Int) : St :=
 ⟨[(0, vc (tl qI default a1)), (10, vp 1 0), (11, vp 2 0), (12, vp 3 0), (18, vi v16), (19, vp 6 0), (85, vo 4 0 9 v10.1.length), (86, vi ((v10.1.length : Nat) : Int)), (87, vi x31)], [(1, bx 30 (zL a5)), (2, bx 32 (zM a6)), (3, bx 42 [ci 0, ci 0, ci 0, ci 0, ci 0]), (4, ro 0 80 9 v10.1.length (rf qT v10.1)), (6, bx 42 [ci o29.Log, ci x32, ci o29.Chips, ci x33, ci x34])]⟩
def qCD (a6 : Rates) (x47 : Yield) : St :=
 ⟨[(11, vp 2 0), (12, vp 3 0), (19, vp 6 0)], [(2, bx 32 (zM a6)), (3, bx 42 [ci 0, ci 0, ci 0, ci 0, ci 0]), (6, bx 42 (qD6 x47))]⟩
theorem qHW (E : Env 0) (a1 : List qD) (a5 : Saw) (a6 : Rates) (v10 : (List Yield_Cut) × Int) (v13 : (List Rect) × Int) (v16 : Int) (v18 : Int) : ∀ (n : Nat) (x20 : Int) (x21 : Int) (res : Yield), KR a1 v13 v16 v18 n x20 x21 = some res → HL (kx E 177 0) (nd Tryd.f7 8180) (wO 0 (fun o => qCF a1 a5 a6 v10 v16 o) res) n (AN a1 a5 a6 v10 v13 v16 v18 x20 x21) := by
 intro n
 induction n with
 | zero =>
  intro x20 x21 res hm
  cases hm
 | succ n ih =>
  intro x20 x21 res hm
  refine qQ ?_
  refine q_sq ?_
  refine q_vu [] 7 [] [(71, vb (decide (x20 < ((v13.1.length : Nat) : Int))))] [] [] ?_
  refine q_sq ?_
  refine q_cn (decide (x20 < ((v13.1.length : Nat) : Int))) (fun b22 => ?_) (fun b22 => ?_)
  ·replace hm := qA b22 hm
   refine q_sk ?_
   refine q_sq ?_
   refine q_bk 1 ?_
   refine q_sq ?_
   obtain ⟨g23, hm⟩ := qM hm
   refine q_vu [qd 0 (Dir.none) (inb_of g23), qd 1 (Dir.none) (toNat_lt (inb_of g23))] 7 [71] [(21, vp 7 0)] [] [(7, bx 28 [ci (((v13.1.getD x20.toNat default).X).A), ci (((v13.1.getD x20.toNat default).X).B), ci (((v13.1.getD x20.toNat default).Y).A), ci (((v13.1.getD x20.toNat default).Y).B)])] ?_
   obtain ⟨v24, h25, hm⟩ := qC hm
   obtain ⟨v26, h27, hm⟩ := qC hm
   refine q_du [qc 6 [77, 79] 8 (MR (v13.1.getD x20.toNat default) (Span.mk 0 v16) v24 h25), qc 7 [76, 80] 8 (WQ a1 v24 v26 h27)] [0, 1, 0, 0, 0, 16, 56, 124, 255, 511, 1023] 8 [21] [] [6, 7] [(6, bx 42 [ci v18, ci 0, ci 0, ci (w64 (x21 + v26)), ci 0])] ?_
   refine q_vu [] 8 [70] [(70, vi (w64 (x20 + 1)))] [] [] ?_
   exact q_hl (AN a1 a5 a6 v10 v13 v16 v18 (w64 (x20 + 1)) (w64 (x21 + v26))) (ih (w64 (x20 + 1)) (w64 (x21 + v26)) _ hm)
  ·replace hm := qB b22 hm
   refine q_ex 0 ?_
   obtain rfl := Option.some.inj hm
   exact yM (by kernel_rfl) (by kernel_rfl)
theorem qHY (E : Env 0) (a1 : List qD) (a5 : Saw) (a6 : Rates) (v10 : (List Yield_Cut) × Int) (v16 : Int) (o29 : Yield) : ∀ (n : Nat) (x31 : Int) (x32 : Int) (x33 : Int) (x34 : Int) (res : Yield), KP a1 a5 v10 v16 o29 n x31 x32 x33 x34 = some res → HL (kx E 177 0) (nd Tryd.f7 16372) (wO 2 (fun o => qCD a6 o) res) n (AO a1 a5 a6 v10 v16 o29 x31 x32 x33 x34) := by
 intro n
 induction n with
 | zero =>
  intro x31 x32 x33 x34 res hm
  cases hm
 | succ n ih =>
  intro x31 x32 x33 x34 res hm
  refine qQ ?_
  refine q_sq ?_
  refine q_vu [] 7 [] [(88, vb (decide (x31 < ((v10.1.length : Nat) : Int))))] [] [] ?_
  refine q_sq ?_
  refine q_cn (decide (x31 < ((v10.1.length : Nat) : Int))) (fun b35 => ?_) (fun b35 => ?_)
  ·replace hm := qA b35 hm
   refine q_sk ?_
   refine q_sq ?_
   refine q_bk 3 ?_
   refine q_sq ?_
   obtain ⟨g36, hm⟩ := qM hm
   refine q_vu [qd 0 (Dir.none) (inb_of g36), qd 1 (Dir.none) (toNat_lt (inb_of g36))] 7 [88] [(23, vp 7 0)] [] [(7, bx 80 [ci ((v10.1.getD x31.toNat default).Leaf), ci ((v10.1.getD x31.toNat default).Product), ci ((((v10.1.getD x31.toNat default).Box).X).A), ci ((((v10.1.getD x31.toNat default).Box).X).B), ci ((((v10.1.getD x31.toNat default).Box).Y).A), ci ((((v10.1.getD x31.toNat default).Box).Y).B), ci ((((v10.1.getD x31.toNat default).Box).Z).A), ci ((((v10.1.getD x31.toNat default).Box).Z).B), ci ((v10.1.getD x31.toNat default).Worth)])] ?_
   refine q_sq ?_
   obtain ⟨v37, h38, hm⟩ := qC hm
   refine q_du [qc 5 [93, 95] 8 (WQ a1 ((v10.1.getD x31.toNat default).Box) v37 h38)] [0, 1, 0, 0, 8, 28, 63, 127, 255] 8 [] [] [6] [(6, bx 42 [ci o29.Log, ci (w64 (x32 + v37)), ci o29.Chips, ci x33, ci x34])] ?_
   refine q_sq ?_
   refine q_vu [] 8 [] [] [6] [(6, bx 42 [ci o29.Log, ci (w64 (x32 + v37)), ci o29.Chips, ci x33, ci (w64 (x34 + (w64 (1000000 * ((v10.1.getD x31.toNat default).Worth)))))])] ?_
   refine q_sq ?_
   refine q_vu [] 8 [] [(24, vp 8 0)] [] [(8, bx 28 [ci ((((v10.1.getD x31.toNat default).Box).X).A), ci ((((v10.1.getD x31.toNat default).Box).X).B), ci ((((v10.1.getD x31.toNat default).Box).Y).A), ci ((((v10.1.getD x31.toNat default).Box).Y).B)])] ?_
   refine q_sq ?_
   refine q_vu [] 9 [23] [(25, vp 9 0)] [7] [(9, bx 26 [ci ((((v10.1.getD x31.toNat default).Box).Z).A), ci ((((v10.1.getD x31.toNat default).Box).Z).B)])] ?_
   refine q_sq ?_
   obtain ⟨v39, h40, hm⟩ := qC hm
   obtain ⟨v41, h42, hm⟩ := qC hm
   refine q_du [qc 13 [119, 128] 10 (MR (Rect.mk (((v10.1.getD x31.toNat default).Box).X) (((v10.1.getD x31.toNat default).Box).Y)) (Span.mk (imax 0 (w64 (((((v10.1.getD x31.toNat default).Box).Z).A) - a5.Trim))) ((((v10.1.getD x31.toNat default).Box).Z).A)) v39 h40), qc 14 [118, 129] 10 (WQ a1 v39 v41 h42)] [0, 1, 0, 0, 0, 16, 0, 64, 240, 496, 0, 1024, 4080, 8184, 16380, 32767, 65535, 131071] 10 [] [] [6] [(6, bx 42 [ci o29.Log, ci (w64 (x32 + v37)), ci o29.Chips, ci (w64 (x33 + v41)), ci (w64 (x34 + (w64 (1000000 * ((v10.1.getD x31.toNat default).Worth)))))])] ?_
   obtain ⟨v43, h44, hm⟩ := qC hm
   obtain ⟨v45, h46, hm⟩ := qC hm
   refine q_du [qc 14 [136, 146] 10 (MR (Rect.mk (((v10.1.getD x31.toNat default).Box).X) (((v10.1.getD x31.toNat default).Box).Y)) (Span.mk ((((v10.1.getD x31.toNat default).Box).Z).B) (imin (w64 (((((v10.1.getD x31.toNat default).Box).Z).B) + a5.Trim)) v16)) v43 h44), qc 15 [135, 147] 10 (WQ a1 v43 v45 h46)] [0, 1, 0, 0, 0, 16, 0, 64, 0, 256, 960, 0, 4032, 8176, 16376, 32764, 65535, 131071, 262143] 10 [24, 25] [] [6, 8, 9] [(6, bx 42 [ci o29.Log, ci (w64 (x32 + v37)), ci o29.Chips, ci (w64 ((w64 (x33 + v41)) + v45)), ci (w64 (x34 + (w64 (1000000 * ((v10.1.getD x31.toNat default).Worth)))))])] ?_
   refine q_vu [] 10 [87] [(87, vi (w64 (x31 + 1)))] [] [] ?_
   exact q_hl (AO a1 a5 a6 v10 v16 o29 (w64 (x31 + 1)) (w64 (x32 + v37)) (w64 ((w64 (x33 + v41)) + v45)) (w64 (x34 + (w64 (1000000 * ((v10.1.getD x31.toNat default).Worth)))))) (ih (w64 (x31 + 1)) (w64 (x32 + v37)) (w64 ((w64 (x33 + v41)) + v45)) (w64 (x34 + (w64 (1000000 * ((v10.1.getD x31.toNat default).Worth))))) _ hm)
  ·replace hm := qB b35 hm
   refine q_ex 2 ?_
   obtain rfl := Option.some.inj hm
   exact yM (by kernel_rfl) (by kernel_rfl)
theorem qLh (a1 : List qD) (a2 : List Defect) (a3 : List Product) (a4 : qF) (a5 : Saw) (a6 : Rates) (r : Yield × Int) (hm : CH a1 a2 a3 a4 a5 a6 = some r) : CtX Tryd.prog globs 7 0 0 [.one (tl qI default a1), .one (tl qH default a2), .one (tl qE default a3), .agg (qG a4), .agg (zL a5), .agg (zM a6)] [] (qFS r) (OD r) := by
 unfold CH at hm
 refine q_E Tryd.f7 177 fun E => ?_
 refine q_sq ?_
 refine q_vn [] 0 ⟨[(0, vc (tl qI default a1)), (1, vc (tl qH default a2)), (2, vc (tl qE default a3)), (9, vp 0 0), (10, vp 1 0), (11, vp 2 0), (12, vp 3 0)], [(0, bx 46 (qG a4)), (1, bx 30 (zL a5)), (2, bx 32 (zM a6)), (3, bx 42 [ci 0, ci 0, ci 0, ci 0, ci 0])]⟩ ?_
 refine q_sq ?_
 refine q_sq ?_
 obtain ⟨v7, h8, hm⟩ := qC hm
 refine q_vu [qc 6 [26, 27, 28, 29, 30, 31] 4 (qBy a1 a2 a3 a4 a5 a6 v7 h8)] 4 [] [(14, vi v7)] [] [] ?_
 refine q_sq ?_
 refine q_vu [] 4 [] [(34, vb (v7 != 0))] [] [] ?_
 refine q_cn (v7 != 0) (fun b9 => ?_) (fun b9 => ?_)
 ·replace hm := qA b9 hm
  refine q_sq ?_
  refine q_vu [] 4 [0, 1, 2, 9, 10, 11, 14, 34] [(13, vi v7)] [0, 1, 2] [] ?_
  obtain rfl := Option.some.inj hm
  refine q_rt ?_
  exact q_rm
 ·replace hm := qB b9 hm
  refine q_sk ?_
  refine q_sq ?_
  obtain ⟨v10, h11, hm⟩ := qC hm
  refine q_vu [qc 7 [38, 39, 40, 41, 42, 44] 4 (qGV a1 a2 a3 a4 a5 a6.Fine v10 h11)] 4 [1, 2, 14, 34] [(15, vo 4 0 9 v10.1.length), (16, vi v10.2)] [] [(4, ro 0 80 9 v10.1.length (rf qT v10.1))] ?_
  refine q_sq ?_
  refine q_sq ?_
  refine q_vu [] 5 [] [(49, vb (v10.2 != 0))] [] [] ?_
  refine q_cn (v10.2 != 0) (fun b12 => ?_) (fun b12 => ?_)
  ·replace hm := qA b12 hm
   refine q_sq ?_
   refine q_vu [] 5 [0, 9, 10, 11, 15, 16, 49] [(13, vi v10.2)] [0, 1, 2, 4] [] ?_
   obtain rfl := Option.some.inj hm
   refine q_rt ?_
   exact q_rm
  ·replace hm := qB b12 hm
   refine q_sk ?_
   refine q_sq ?_
   obtain ⟨v13, h14, hm⟩ := qC hm
   refine q_vu [qc 3 [53, 55] 5 (qGU a4 a5.Kerf v13 h14)] 5 [9, 16, 49] [(16, vi v13.2), (17, vo 5 0 4 v13.1.length)] [0] [(5, ro 0 28 4 v13.1.length (rf qK v13.1))] ?_
   refine q_sq ?_
   refine q_sq ?_
   refine q_vu [] 6 [] [(60, vb (v13.2 != 0))] [] [] ?_
   refine q_cn (v13.2 != 0) (fun b15 => ?_) (fun b15 => ?_)
   ·replace hm := qA b15 hm
    refine q_sq ?_
    refine q_vu [] 6 [0, 10, 11, 15, 16, 17, 60] [(13, vi v13.2)] [1, 2, 4, 5] [] ?_
    obtain rfl := Option.some.inj hm
    refine q_rt ?_
    exact q_rm
   ·replace hm := qB b15 hm
    refine q_sk ?_
    refine q_sq ?_
    obtain ⟨v16, h17, hm⟩ := qC hm
    refine q_vu [qc 1 [63] 6 (XQ a1 v16 h17)] 6 [16, 60] [(18, vi v16)] [] [] ?_
    refine q_sq ?_
    obtain ⟨v18, h19, hm⟩ := qC hm
    refine q_vu [qc 1 [65] 6 (MY a1 v18 h19)] 6 [] [(19, vp 6 0)] [] [(6, bx 42 [ci v18, ci 0, ci 0, ci 0, ci 0])] ?_
    refine q_sq ?_
    refine q_sq ?_
    refine q_vu [] 7 [17] [(68, vo 5 0 4 v13.1.length), (69, vi ((v13.1.length : Nat) : Int)), (70, vi 0)] [] [] ?_
    obtain ⟨o29, h30, hm⟩ := qC hm
    refine wB (nd Tryd.f7 8180) 0 (by kernel_rfl) FUEL (fun o => qCF a1 a5 a6 v10 v16 o) o29 (q_hl (AN a1 a5 a6 v10 v13 v16 v18 0 0) (qHW E a1 a5 a6 v10 v13 v16 v18 FUEL 0 0 o29 h30)) ?_
    refine q_sq ?_
    refine q_sq ?_
    refine q_vu [] 7 [15] [(85, vo 4 0 9 v10.1.length), (86, vi ((v10.1.length : Nat) : Int)), (87, vi 0)] [] [] ?_
    obtain ⟨o48, h49, hm⟩ := qC hm
    refine wB (nd Tryd.f7 16372) 2 (by kernel_rfl) FUEL (fun o => qCD a6 o) o48 (q_hl (AO a1 a5 a6 v10 v16 o29 0 o29.Boards o29.Dust o29.Value) (qHY E a1 a5 a6 v10 v16 o29 FUEL 0 o29.Boards o29.Dust o29.Value o48 h49)) ?_
    refine q_sq ?_
    refine q_vu [] 7 [] [] [6] [(6, bx 42 [ci o48.Log, ci o48.Boards, ci (w64 ((w64 (o48.Log - o48.Boards)) - o48.Dust)), ci o48.Dust, ci o48.Value])] ?_
    refine q_sq ?_
    refine q_vu [] 7 [11] [] [2, 6] [(6, bx 42 [ci o48.Log, ci o48.Boards, ci (w64 ((w64 (o48.Log - o48.Boards)) - o48.Dust)), ci o48.Dust, ci (w64 (o48.Value + (w64 ((w64 (a6.Chip * (w64 ((w64 (o48.Log - o48.Boards)) - o48.Dust)))) + (w64 (a6.Dust * o48.Dust))))))])] ?_
    refine q_sq ?_
    refine q_vu [] 7 [19] [(13, vi 0)] [3, 6] [(3, bx 42 [ci o48.Log, ci o48.Boards, ci (w64 ((w64 (o48.Log - o48.Boards)) - o48.Dust)), ci o48.Dust, ci (w64 (o48.Value + (w64 ((w64 (a6.Chip * (w64 ((w64 (o48.Log - o48.Boards)) - o48.Dust)))) + (w64 (a6.Dust * o48.Dust))))))])] ?_
    obtain rfl := Option.some.inj hm
    refine q_rt ?_
    exact q_rm
end Saw
end Go.SL
