import Derived.Test.YtpphchcejhodkaaDoorEBase
import Derived.Test.YtpphchcejhodkaaDoorEFa6
import Derived.Test.YtpphchcejhodkaaDoorEFa7
import Derived.Test.YtpphchcejhodkaaDoorEFa2
import Derived.Test.YtpphchcejhodkaaDoorEFa3
import Derived.Test.YtpphchcejhodkaaDoorEFa4
set_option linter.unusedVariables false
set_option linter.unusedSimpArgs false
namespace Go.SL
namespace Saw
open Go.Proofs
set_option maxHeartbeats 4000000
set_option maxRecDepth 100000
def qG0 (r : Rect × Rect × Rect) : V := .tup [.agg (qK r.1), .agg (qK r.2.1), .agg (qK r.2.2)]
def qFQ (r : Rect × Rect × Rect) : List (Nat × (Nat × O)) := []
theorem YJ (a1 : Rect) (a2 : Node) (a3 : Int) (r : Rect × Rect × Rect) (hm : jS a1 a2 a3 = some r) : CtX Tryd.prog globs 47 0 0 [.agg (qK a1), .agg (e_Node a2), .one (ci a3)] [] (qG0 r) (qFQ r) := by
 unfold jS at hm
 refine q_E Tryd.f47 50 fun E => ?_
 refine q_sq ?_
 refine q_vn [] 0 ⟨[(2, vi a3), (3, vp 0 0), (4, vp 1 0), (6, vp 2 0), (7, vp 3 0), (8, vp 4 0)], [(0, bx 28 (qK a1)), (1, bx 69 (e_Node a2)), (2, bx 28 [ci 0, ci 0, ci 0, ci 0]), (3, bx 28 [ci 0, ci 0, ci 0, ci 0]), (4, bx 28 [ci 0, ci 0, ci 0, ci 0])]⟩ ?_
 refine q_sq ?_
 obtain ⟨v4, h5, hm⟩ := qC hm
 refine q_vu [qc 3 [11, 13] 5 (FP a1 a2.Kind v4 h5)] 5 [] [(9, vp 5 0)] [] [(5, bx 26 (e_Span v4))] ?_
 refine q_sq ?_
 refine q_vu [] 6 [2] [(10, vi (imin (w64 (a2.At + a3)) v4.B))] [] [] ?_
 refine q_sq ?_
 obtain ⟨v6, h7, hm⟩ := qC hm
 refine q_vu [qc 8 [22, 24, 29] 6 (LM a1 a2.Kind (Span.mk v4.A a2.At) v6 h7)] 6 [] [] [2] [(2, bx 28 (qK v6))] ?_
 refine q_sq ?_
 obtain ⟨v8, h9, hm⟩ := qC hm
 refine q_vu [qc 7 [31, 33, 37] 6 (LM a1 a2.Kind (Span.mk a2.At (imin (w64 (a2.At + a3)) v4.B)) v8 h9)] 6 [] [] [3] [(3, bx 28 (qK v8))] ?_
 refine q_sq ?_
 obtain ⟨v10, h11, hm⟩ := qC hm
 refine q_vu [qc 7 [39, 41, 45] 6 (LM a1 a2.Kind (Span.mk (imin (w64 (a2.At + a3)) v4.B) v4.B) v10 h11)] 6 [3, 4, 9, 10] [] [0, 1, 4, 5] [(4, bx 28 (qK v10))] ?_
 refine q_sq ?_
 refine q_du [] [0, 0, 0, 1, 11, 31] 6 [] [] [] [] ?_
 obtain rfl := Option.some.inj hm
 refine q_rt ?_
 exact q_rm
noncomputable def GV (a1 : qF) (a2 : List Product) (a3 : Int) (a4 : Int) (a5 : qF) (a6 : Int) (ri : RI 67) (r : Nat × Int × Int) : V := .undef
noncomputable def GN (a1 : qF) (a2 : List Product) (a3 : Int) (a4 : Int) (a5 : qF) (a6 : Int) (ri : RI 67) (r : Nat × Int × Int) : List (Nat × (Nat × O)) := [(0, lz (rc Tryd.f43 506 ri) ri.b [.ret] r.1), (1, bx 46 (qG a1)), (2, bx 117 [.fn 72 [.bptr 3 0 0]]), (3, bx 24 [tl qE default a2]), (4, bx 38 [ci r.2.1]), (5, bx 3 [ci r.2.2]), (6, bx 46 (qG a5)), (7, bx 3 [ci a6])]
noncomputable def FX (ri : RI 67) (a1 : qF) (a2 : List Product) (a5 : qF) (a6 : Int) (x8 : Int) (l25 : List Pattern_place) (l25n : Nat) (x26 : Int) (x27 : Int) : St :=
 ⟨[(0, vc (.yl (rc Tryd.f43 506 ri) ri.b [3, 5, 6, 7] [.bptr 1 0 0, .bptr 2 0 0, .bptr 4 0 0, .bptr 5 0 0])), (1, vp 6 0), (2, vp 7 0), (4, vo 8 0 5 l25n), (5, vi x8)], [(0, lq (rc Tryd.f43 506 ri) ri.b), (1, bx 46 (qG a1)), (2, bx 117 [.fn 72 [.bptr 3 0 0]]), (3, bx 24 [tl qE default a2]), (4, bx 38 [ci x27]), (5, bx 3 [ci x26]), (6, bx 46 (qG a5)), (7, bx 3 [ci a6]), (8, ro 0 122 5 l25n (rf e_Pattern_place l25))]⟩
noncomputable def PU (ri : RI 67) (a1 : qF) (a2 : List Product) (a5 : qF) (a6 : Int) (l7 : List Pattern_place) (l7n : Nat) (x8 : Int) (x9 : Int) (x10 : Int) : St :=
 ⟨[(0, vc (.yl (rc Tryd.f43 506 ri) ri.b [3, 5, 6, 7] [.bptr 1 0 0, .bptr 2 0 0, .bptr 4 0 0, .bptr 5 0 0])), (1, vp 6 0), (2, vp 7 0), (4, vo 8 0 5 l7n), (5, vi x8)], [(0, lq (rc Tryd.f43 506 ri) ri.b), (1, bx 46 (qG a1)), (2, bx 117 [.fn 72 [.bptr 3 0 0]]), (3, bx 24 [tl qE default a2]), (4, bx 38 [ci x9]), (5, bx 3 [ci x10]), (6, bx 46 (qG a5)), (7, bx 3 [ci a6]), (8, ro 0 122 5 l7n (rf e_Pattern_place l7))]⟩
noncomputable def LC (ri : RI 67) (a1 : qF) (a2 : List Product) (a5 : qF) (a6 : Int) (x28 : Int) (x29 : Int) : St :=
 ⟨[], [(0, lq (rc Tryd.f43 506 ri) ri.b), (1, bx 46 (qG a1)), (2, bx 117 [.fn 72 [.bptr 3 0 0]]), (3, bx 24 [tl qE default a2]), (4, bx 38 [ci x29]), (5, bx 3 [ci x28]), (6, bx 46 (qG a5)), (7, bx 3 [ci a6])]⟩
theorem qBq (E : Env 8) (ri : RI 67) (a1 : qF) (a2 : List Product) (a3 : Int) (a4 : Int) (a5 : qF) (a6 : Int) : ∀ (n : Nat) (l7 : List Pattern_place) (l7n : Nat) (x8 : Int) (x9 : Int) (x10 : Int) (res : (Nat × Int × Int) ⊕ (Int × Int)), l7.length = l7n → jG a1 a2 a5 a6 n l7 x8 x9 x10 = some res → HL (kx E 73 8) (nd Tryd.f77 28) (wW 0 (fun o => LC ri a1 a2 a5 a6 o.1 o.2) (fun v st => RetQ Tryd.prog Tryd.f77 (GV a1 a2 a3 a4 a5 a6 ri v) (GN a1 a2 a3 a4 a5 a6 ri v) .ret st) res) n (PU ri a1 a2 a5 a6 l7 l7n x8 x9 x10) := by
 intro n
 induction n with
 | zero =>
  intro l7 l7n x8 x9 x10 res hl0 hm
  cases hm
 | succ n ih =>
  intro l7 l7n x8 x9 x10 res hl0 hm
  subst hl0
  refine qQ ?_
  refine q_sq ?_
  refine q_sq ?_
  refine q_vu [] 9 [] [(17, vb (decide (((l7.length : Nat) : Int) > 0)))] [] [] ?_
  refine q_cn (decide (((l7.length : Nat) : Int) > 0)) (fun b11 => ?_) (fun b11 => ?_)
  ·replace hm := qA b11 hm
   refine q_sk ?_
   refine q_jn (ι := (List Pattern_place) × Nat × Int × Int) (fun p => FX ri a1 a2 a5 a6 x8 p.1 p.2.1 p.2.2.1 p.2.2.2) (fun p => p.1.length = p.2.1 ∧ YU x8 (jG a1 a2 a5 a6 n) p.1 p.2.2.1 p.2.2.2 = some res) ?_ ?_
   ·rintro ⟨l25, l25n, x26, x27⟩ ⟨el25, hm⟩
    replace el25 : l25.length = l25n := el25
    subst el25
    show H _ (FX ri a1 a2 a5 a6 x8 l25 l25.length x26 x27) _ _
    refine q_vu [] 15 [5] [(5, vi (w64 (x8 + 1)))] [] [] ?_
    exact q_hl (PU ri a1 a2 a5 a6 l25 l25.length (w64 (x8 + 1)) x27 x26) (ih l25 l25.length (w64 (x8 + 1)) x27 x26 _ rfl hm)
   ·refine q_bk 1 ?_
    refine q_sq ?_
    obtain ⟨g12, hm⟩ := qM hm
    refine q_vu [qd 4 (Dir.none) (inb_of g12), qd 5 (Dir.none) (toNat_lt (inb_of g12))] 9 [17] [(6, vp 9 0)] [] [(9, bx 122 [ci ((((l7.getD ((w64 (((l7.length : Nat) : Int) - 1)).toNat) default).rect).X).A), ci ((((l7.getD ((w64 (((l7.length : Nat) : Int) - 1)).toNat) default).rect).X).B), ci ((((l7.getD ((w64 (((l7.length : Nat) : Int) - 1)).toNat) default).rect).Y).A), ci ((((l7.getD ((w64 (((l7.length : Nat) : Int) - 1)).toNat) default).rect).Y).B), ci ((l7.getD ((w64 (((l7.length : Nat) : Int) - 1)).toNat) default).level)])] ?_
    refine q_sq ?_
    obtain ⟨g13, hm⟩ := qM hm
    refine q_wu [qd 4 (Dir.none) (And.intro (slOk_of g13).2.1 (slOk_of g13).2.2)] [.row 8 ((w64 (((l7.length : Nat) : Int) - 1)).toNat) (rf e_Pattern_place (l7.take ((w64 (((l7.length : Nat) : Int) - 1)).toNat)))] (o1 (tkP e_Pattern_place default l7 l7.length ((w64 (((l7.length : Nat) : Int) - 1)).toNat) (show (w64 (((l7.length : Nat) : Int) - 1)).toNat ≤ l7.length by have := (slOk_of g13); omega))) 10 [4] [(4, vo 8 0 5 ((w64 (((l7.length : Nat) : Int) - 1)).toNat))] [8] [(8, ro 0 122 5 ((w64 (((l7.length : Nat) : Int) - 1)).toNat) (rf e_Pattern_place (l7.take ((w64 (((l7.length : Nat) : Int) - 1)).toNat))))] ?_
    refine q_sq ?_
    refine q_sq ?_
    obtain ⟨v14, h15, hm⟩ := qC hm
    rcases Bool.eq_false_or_eq_true (!(Nat.beq v14.1 0)) with b16 | b16
    ·replace hm := qA b16 hm
     refine q_vu [qd 3 (dex (cen [(0, 0), (1, 0), (2, 0), (3, 0), (4, 0), (5, 0)] [0, 0, 0, 0, 0, 0] 4 6 (PQ x8 (l7.getD ((w64 (((l7.length : Nat) : Int) - 1)).toNat) default) a1 a2 x9 x10 ri v14) (RD x8 (l7.getD ((w64 (((l7.length : Nat) : Int) - 1)).toNat) default) a1 a2 x9 x10 ri v14) [31, 32, 33] [0, 1, 2, 3, 4, 5])) (OL (K := (kx E 73 8)) ⟨[(31, vc (.yl (rc Tryd.f43 506 ri) ri.b [3, 5, 6, 7] [.bptr 1 0 0, .bptr 2 0 0, .bptr 4 0 0, .bptr 5 0 0])), (32, vi x8), (33, va [ci ((((l7.getD ((w64 (((l7.length : Nat) : Int) - 1)).toNat) default).rect).X).A), ci ((((l7.getD ((w64 (((l7.length : Nat) : Int) - 1)).toNat) default).rect).X).B), ci ((((l7.getD ((w64 (((l7.length : Nat) : Int) - 1)).toNat) default).rect).Y).A), ci ((((l7.getD ((w64 (((l7.length : Nat) : Int) - 1)).toNat) default).rect).Y).B), ci ((l7.getD ((w64 (((l7.length : Nat) : Int) - 1)).toNat) default).level)])], [(0, lq (rc Tryd.f43 506 ri) ri.b), (1, bx 46 (qG a1)), (2, bx 117 [.fn 72 [.bptr 3 0 0]]), (3, bx 24 [tl qE default a2]), (4, bx 38 [ci x9]), (5, bx 3 [ci x10])]⟩ (opAt (rg Tryd.f77 3660) 3) [(0, 0), (1, 0), (2, 0), (3, 0), (4, 0), (5, 0)] [0, 0, 0, 0, 0, 0] 4 0 o0 rfl (NF x8 (l7.getD ((w64 (((l7.length : Nat) : Int) - 1)).toNat) default) a1 a2 x9 x10 ri v14 h15) (.inl rfl) (by kernel_rfl)), qf 5 b16] 10 [] [(42, vb true)] [0, 4, 5] [(0, lz (rc Tryd.f43 506 ri) ri.b [.ret] v14.1), (4, bx 38 [ci v14.2.1]), (5, bx 3 [ci v14.2.2])] ?_
     refine qJj Tryd.f77 (.tmp 42) 7322 7323 (by kernel_rfl) (by kernel_rfl) ?_
     obtain rfl := Option.some.inj hm
     refine q_rt ?_
     refine zB (v14.1, v14.2.1, v14.2.2) ?_
     exact q_rm
    ·replace hm := qB b16 hm
     refine q_wu [qd 3 (dex (cen [(0, 0), (1, 0), (2, 0), (3, 0), (4, 0), (5, 0)] [0, 0, 0, 0, 0, 0] 4 6 (PQ x8 (l7.getD ((w64 (((l7.length : Nat) : Int) - 1)).toNat) default) a1 a2 x9 x10 ri v14) (RD x8 (l7.getD ((w64 (((l7.length : Nat) : Int) - 1)).toNat) default) a1 a2 x9 x10 ri v14) [31, 32, 33] [0, 1, 2, 3, 4, 5])) (OL (K := (kx E 73 8)) ⟨[(31, vc (.yl (rc Tryd.f43 506 ri) ri.b [3, 5, 6, 7] [.bptr 1 0 0, .bptr 2 0 0, .bptr 4 0 0, .bptr 5 0 0])), (32, vi x8), (33, va [ci ((((l7.getD ((w64 (((l7.length : Nat) : Int) - 1)).toNat) default).rect).X).A), ci ((((l7.getD ((w64 (((l7.length : Nat) : Int) - 1)).toNat) default).rect).X).B), ci ((((l7.getD ((w64 (((l7.length : Nat) : Int) - 1)).toNat) default).rect).Y).A), ci ((((l7.getD ((w64 (((l7.length : Nat) : Int) - 1)).toNat) default).rect).Y).B), ci ((l7.getD ((w64 (((l7.length : Nat) : Int) - 1)).toNat) default).level)])], [(0, lq (rc Tryd.f43 506 ri) ri.b), (1, bx 46 (qG a1)), (2, bx 117 [.fn 72 [.bptr 3 0 0]]), (3, bx 24 [tl qE default a2]), (4, bx 38 [ci x9]), (5, bx 3 [ci x10])]⟩ (opAt (rg Tryd.f77 3660) 3) [(0, 0), (1, 0), (2, 0), (3, 0), (4, 0), (5, 0)] [0, 0, 0, 0, 0, 0] 4 0 o0 rfl (NF x8 (l7.getD ((w64 (((l7.length : Nat) : Int) - 1)).toNat) default) a1 a2 x9 x10 ri v14 h15) (.inl rfl) (by kernel_rfl)), qf 5 b16] [.lpn 0 .ready none] (o1 (qGz (js := [.ret]) b16)) 10 [] [(42, vb (decide (x8 ≥ ((a5.Nodes.length : Nat) : Int))))] [4, 5] [(4, bx 38 [ci v14.2.1]), (5, bx 3 [ci v14.2.2])] ?_
     refine q_cn (decide (x8 ≥ ((a5.Nodes.length : Nat) : Int))) (fun b17 => ?_) (fun b17 => ?_)
     ·replace hm := qA b17 hm
      obtain rfl := Option.some.inj hm
      refine q_rt ?_
      refine zB (0, v14.2.1, v14.2.2) ?_
      exact q_rm
     ·replace hm := qB b17 hm
      refine q_sk ?_
      refine q_sq ?_
      obtain ⟨g18, hm⟩ := qM hm
      refine q_vu [qd 3 (Dir.none) (inb_of g18)] 10 [42] [(7, vp 10 0)] [] [(10, bx 69 [ci ((a5.Nodes.getD x8.toNat default).Kind), ci ((a5.Nodes.getD x8.toNat default).At)])] ?_
      refine q_sq ?_
      obtain ⟨v19, h20, hm⟩ := qC hm
      refine q_vu [qc 2 [49] 11 (yX ((a5.Nodes.getD x8.toNat default).Kind) v19 h20)] 11 [] [(50, vb v19)] [] [] ?_
      refine q_cn v19 (fun b21 => ?_) (fun b21 => ?_)
      ·replace hm := qA b21 hm
       refine q_sq ?_
       obtain ⟨v22, h23, hm⟩ := qC hm
       refine q_vu [qc 4 [53, 54, 55] 11 (YJ ((l7.getD ((w64 (((l7.length : Nat) : Int) - 1)).toNat) default).rect) (a5.Nodes.getD x8.toNat default) a6 v22 h23)] 11 [7, 50] [(8, vp 11 0), (10, vp 13 0)] [10] [(11, bx 28 (qK v22.1)), (13, bx 28 (qK v22.2.2))] ?_
       obtain ⟨g24, hm⟩ := qM hm
       refine q_vu [qd 11 (drw 14 0 (rf e_Pattern_place ([(Pattern_place.mk v22.2.2 (w64 (((l7.getD ((w64 (((l7.length : Nat) : Int) - 1)).toNat) default).level) + 1))), (Pattern_place.mk v22.1 (w64 (((l7.getD ((w64 (((l7.length : Nat) : Int) - 1)).toNat) default).level) + 1)))] : List Pattern_place))) (litP e_Pattern_place default 5 (fun _ => rfl) ([(Pattern_place.mk v22.2.2 (w64 (((l7.getD ((w64 (((l7.length : Nat) : Int) - 1)).toNat) default).level) + 1))), (Pattern_place.mk v22.1 (w64 (((l7.getD ((w64 (((l7.length : Nat) : Int) - 1)).toNat) default).level) + 1)))] : List Pattern_place) 2 rfl), qd 12 (drw 8 1 (rf e_Pattern_place ((l7.take ((w64 (((l7.length : Nat) : Int) - 1)).toNat)) ++ ([(Pattern_place.mk v22.2.2 (w64 (((l7.getD ((w64 (((l7.length : Nat) : Int) - 1)).toNat) default).level) + 1))), (Pattern_place.mk v22.1 (w64 (((l7.getD ((w64 (((l7.length : Nat) : Int) - 1)).toNat) default).level) + 1)))] : List Pattern_place)))) (apP e_Pattern_place default (l7.take ((w64 (((l7.length : Nat) : Int) - 1)).toNat)) ([(Pattern_place.mk v22.2.2 (w64 (((l7.getD ((w64 (((l7.length : Nat) : Int) - 1)).toNat) default).level) + 1))), (Pattern_place.mk v22.1 (w64 (((l7.getD ((w64 (((l7.length : Nat) : Int) - 1)).toNat) default).level) + 1)))] : List Pattern_place) ((w64 (((l7.length : Nat) : Int) - 1)).toNat) 2 5 40 (2 ≤ 2) (Nat.le_refl _) (JA rfl (show (w64 (((l7.length : Nat) : Int) - 1)).toNat ≤ l7.length by have := (slOk_of g13); omega)) rfl (fun _ => rfl) (wR g24))] 14 [4, 6, 8, 10] [(4, vo 8 1 5 ((w64 (((l7.length : Nat) : Int) - 1)).toNat + 2))] [8, 9, 11, 13] [(8, ro 1 122 5 ((w64 (((l7.length : Nat) : Int) - 1)).toNat + 2) (rf e_Pattern_place ((l7.take ((w64 (((l7.length : Nat) : Int) - 1)).toNat)) ++ ([(Pattern_place.mk v22.2.2 (w64 (((l7.getD ((w64 (((l7.length : Nat) : Int) - 1)).toNat) default).level) + 1))), (Pattern_place.mk v22.1 (w64 (((l7.getD ((w64 (((l7.length : Nat) : Int) - 1)).toNat) default).level) + 1)))] : List Pattern_place))))] ?_
       exact q_J (((l7.take ((w64 (((l7.length : Nat) : Int) - 1)).toNat)) ++ ([(Pattern_place.mk v22.2.2 (w64 (((l7.getD ((w64 (((l7.length : Nat) : Int) - 1)).toNat) default).level) + 1))), (Pattern_place.mk v22.1 (w64 (((l7.getD ((w64 (((l7.length : Nat) : Int) - 1)).toNat) default).level) + 1)))] : List Pattern_place)), ((w64 (((l7.length : Nat) : Int) - 1)).toNat + 2), v14.2.2, v14.2.1) ⟨(len_app (JA rfl (show (w64 (((l7.length : Nat) : Int) - 1)).toNat ≤ l7.length by have := (slOk_of g13); omega)) rfl), hm⟩
      ·replace hm := qB b21 hm
       refine q_sk ?_
       exact q_J ((l7.take ((w64 (((l7.length : Nat) : Int) - 1)).toNat)), (w64 (((l7.length : Nat) : Int) - 1)).toNat, v14.2.2, v14.2.1) ⟨(JA rfl (show (w64 (((l7.length : Nat) : Int) - 1)).toNat ≤ l7.length by have := (slOk_of g13); omega)), hm⟩
  ·replace hm := qB b11 hm
   refine q_ex 0 ?_
   obtain rfl := Option.some.inj hm
   exact jE (x10, x9) (by kernel_rfl) (by kernel_rfl)
theorem qCN (a1 : qF) (a2 : List Product) (a3 : Int) (a4 : Int) (a5 : qF) (a6 : Int) (ri : RI 67) (r : Nat × Int × Int) (hm : YN a1 a2 a3 a4 a5 a6 = some r) : CtX Tryd.prog globs 77 8 8 [.one (.yl (rc Tryd.f43 506 ri) ri.b [3, 5, 6, 7] [.bptr 1 0 0, .bptr 2 0 0, .bptr 4 0 0, .bptr 5 0 0]), .one (.bptr 6 0 0), .one (.bptr 7 0 0)] [(0, lq (rc Tryd.f43 506 ri) ri.b), (1, bx 46 (qG a1)), (2, bx 117 [.fn 72 [.bptr 3 0 0]]), (3, bx 24 [tl qE default a2]), (4, bx 38 [ci a3]), (5, bx 3 [ci a4]), (6, bx 46 (qG a5)), (7, bx 3 [ci a6])] (GV a1 a2 a3 a4 a5 a6 ri r) (GN a1 a2 a3 a4 a5 a6 ri r) := by
 unfold YN at hm
 refine q_E Tryd.f77 73 fun E => ?_
 refine q_sq ?_
 refine q_vn [qd 3 (drw 8 0 (rf e_Pattern_place ([(Pattern_place.mk a5.Frame 1)] : List Pattern_place))) (litP e_Pattern_place default 5 (fun _ => rfl) ([(Pattern_place.mk a5.Frame 1)] : List Pattern_place) 1 rfl)] 8 ⟨[(0, vc (.yl (rc Tryd.f43 506 ri) ri.b [3, 5, 6, 7] [.bptr 1 0 0, .bptr 2 0 0, .bptr 4 0 0, .bptr 5 0 0])), (1, vp 6 0), (2, vp 7 0), (4, vo 8 0 5 1)], [(0, lq (rc Tryd.f43 506 ri) ri.b), (1, bx 46 (qG a1)), (2, bx 117 [.fn 72 [.bptr 3 0 0]]), (3, bx 24 [tl qE default a2]), (4, bx 38 [ci a3]), (5, bx 3 [ci a4]), (6, bx 46 (qG a5)), (7, bx 3 [ci a6]), (8, ro 0 122 5 1 (rf e_Pattern_place ([(Pattern_place.mk a5.Frame 1)] : List Pattern_place)))]⟩ ?_
 refine q_sq ?_
 refine q_vu [] 9 [] [(5, vi 0)] [] [] ?_
 obtain ⟨u32, h31, hm⟩ := qC hm
 refine zP (nd Tryd.f77 28) 0 (by kernel_rfl) FUEL (fun o => LC ri a1 a2 a5 a6 o.1 o.2) (fun v st => RetQ Tryd.prog Tryd.f77 (GV a1 a2 a3 a4 a5 a6 ri v) (GN a1 a2 a3 a4 a5 a6 ri v) .ret st) u32 (q_hl (PU ri a1 a2 a5 a6 ([(Pattern_place.mk a5.Frame 1)] : List Pattern_place) 1 0 a3 a4) (qBq E ri a1 a2 a3 a4 a5 a6 FUEL ([(Pattern_place.mk a5.Frame 1)] : List Pattern_place) 1 0 a3 a4 u32 rfl h31)) ?_ ?_
 ·rintro v33 rfl st hr
  obtain rfl := Option.some.inj hm
  exact hr
 ·rintro o30 rfl
  replace hm : _ = some r := hm
  obtain rfl := Option.some.inj hm
  exact q_rm
set_option maxRecDepth 100000
def qA4 (a1 : qF) (a2 : Int) (a3 : List Product) (r : Int) : V := vi r
def qAT (a1 : qF) (a2 : Int) (a3 : List Product) (r : Int) : List (Nat × (Nat × O)) := [(0, bx 24 [tl qE default a3])]
def EL (a1 : qF) (a2 : Int) (a3 : List Product) (x8 : Bool) : St :=
 ⟨[(1, vi a2), (3, vp 1 0), (5, vp 2 0), (6, vp 3 0), (21, vb x8)], [(0, bx 24 [tl qE default a3]), (1, bx 46 (qG a1)), (2, bx 117 [.fn 72 [.bptr 0 0 0]]), (3, bx 38 [ci 0])]⟩
theorem qFu (a1 : qF) (a2 : Int) (a3 : List Product) (r : Int) (hm : NQ a1 a2 a3 = some r) : CtX Tryd.prog globs 43 1 1 [.agg (qG a1), .one (ci a2), .one (.fn 72 [.bptr 0 0 0])] [(0, bx 24 [tl qE default a3])] (qA4 a1 a2 a3 r) (qAT a1 a2 a3 r) := by
 unfold NQ at hm
 refine q_E Tryd.f43 67 fun E => ?_
 refine q_sq ?_
 refine q_vn [] 1 ⟨[(1, vi a2), (3, vp 1 0), (5, vp 2 0), (6, vp 3 0)], [(0, bx 24 [tl qE default a3]), (1, bx 46 (qG a1)), (2, bx 117 [.fn 72 [.bptr 0 0 0]]), (3, bx 38 [ci 0])]⟩ ?_
 refine q_sq ?_
 refine q_sq ?_
 obtain ⟨v4, h5, hm⟩ := qC hm
 refine q_vu [qc 2 [13] 4 (XW a1.Frame v4 h5)] 4 [] [(15, vb (!v4))] [] [] ?_
 refine q_cn (!v4) (fun b6 => ?_) (fun b6 => ?_)
 ·replace hm := qA b6 hm
  refine q_sq ?_
  refine q_vu [] 4 [1, 3, 5, 15] [] [1, 2, 3] [(3, bx 38 [ci 19])] ?_
  obtain rfl := Option.some.inj hm
  refine q_rt ?_
  exact q_rm
 ·replace hm := qB b6 hm
  refine q_sk ?_
  refine q_sq ?_
  refine q_jn (ι := Bool) (fun p => EL a1 a2 a3 p) (fun p => ZX a1 a2 a3 p = some r) ?_ ?_
  ·rintro x8 hm
   show H _ (EL a1 a2 a3 x8) _ _
   refine q_cn x8 (fun b9 => ?_) (fun b9 => ?_)
   ·replace hm := qA b9 hm
    refine q_sq ?_
    refine q_vu [] 4 [1, 3, 5, 21] [] [1, 2, 3] [(3, bx 38 [ci 9])] ?_
    obtain rfl := Option.some.inj hm
    refine q_rt ?_
    exact q_rm
   ·replace hm := qB b9 hm
    refine q_sk ?_
    refine q_sq ?_
    refine q_sq ?_
    refine q_vu [] 4 [21] [(25, vb (decide (((a1.Nodes.length : Nat) : Int) > 127)))] [] [] ?_
    refine q_cn (decide (((a1.Nodes.length : Nat) : Int) > 127)) (fun b10 => ?_) (fun b10 => ?_)
    ·replace hm := qA b10 hm
     refine q_sq ?_
     refine q_vu [] 4 [1, 3, 5, 25] [] [1, 2, 3] [(3, bx 38 [ci 4])] ?_
     obtain rfl := Option.some.inj hm
     refine q_rt ?_
     exact q_rm
    ·replace hm := qB b10 hm
     refine q_sk ?_
     refine q_sq ?_
     refine q_vu [] 4 [25] [(7, vp 4 0)] [] [(4, bx 3 [ci 0])] ?_
     refine q_sq ?_
     refine q_sq ?_
     obtain ⟨v11, h12, hm⟩ := qC hm
     refine q_vu [qc 2 [26, 27] 5 (KW a1 a2 v11 h12)] 5 [1] [(28, vc (.fn 77 [.bptr 5 0 0, .bptr 6 0 0]))] [] [(5, bx 46 (qG v11.1)), (6, bx 3 [ci v11.2])] ?_
     refine q_bk 0 ?_
     obtain ⟨v13, h14, hm⟩ := qC hm
     refine q_rf (.tmp 28) [3, 5, 6, 7] 7 [(7, 0), (1, 0), (2, 0), (0, 0), (3, 0), (4, 0), (5, 0), (6, 0)] [0, 0, 0, 0, 0, 0, 0, 0] 0 8 [.ret] v13.1 0 ⟨[(3, vp 1 0), (6, vp 3 0), (7, vp 4 0)], [(0, bx 24 [tl qE default a3]), (1, bx 46 (qG a1)), (3, bx 38 [ci v13.2.1]), (4, bx 3 [ci v13.2.2])]⟩ (fun ri => qCN a1 a3 0 0 v11.1 v11.2 ri v13 h14) ?_
     rcases Bool.eq_false_or_eq_true (Nat.beq v13.1 0) with b15 | b15
     ·replace hm := qA b15 hm
      refine JQ_n b15 ?_
      refine q_sq ?_
      refine q_sq ?_
      refine q_vu [] 8 [3, 7] [(66, vb (decide (v13.2.2 < ((a1.Nodes.length : Nat) : Int))))] [1, 4] [] ?_
      refine q_cn (decide (v13.2.2 < ((a1.Nodes.length : Nat) : Int))) (fun b17 => ?_) (fun b17 => ?_)
      ·replace hm := qA b17 hm
       refine q_sq ?_
       refine q_vu [] 8 [66] [] [3] [(3, bx 38 [ci 4])] ?_
       obtain rfl := Option.some.inj hm
       refine q_rt ?_
       exact q_rm
      ·replace hm := qB b17 hm
       refine q_sk ?_
       refine q_sq ?_
       refine q_vu [] 8 [66] [] [3] [(3, bx 38 [ci 0])] ?_
       obtain rfl := Option.some.inj hm
       refine q_rt ?_
       exact q_rm
     ·replace hm := qB b15 hm
      rcases Bool.eq_false_or_eq_true (Nat.beq v13.1 1) with b16 | b16
      ·replace hm := qA b16 hm
       refine JQ_j 0 .ret b16 (by kernel_rfl) ?_
       obtain rfl := Option.some.inj hm
       refine q_rt ?_
       exact q_rm
      ·replace hm := qB b16 hm
       cases hm
  ·rcases Bool.eq_false_or_eq_true (decide (a2 < 0)) with b7 | b7
   ·replace hm := qA b7 hm
    refine q_vu [qf 2 b7] 4 [15] [(21, vb true)] [] [] ?_
    exact q_J (true) hm
   ·replace hm := qB b7 hm
    refine q_vu [qf 2 b7] 4 [15] [(21, vb (decide (a2 > 20)))] [] [] ?_
    exact q_J (decide (a2 > 20)) hm
open Go.Proofs
set_option maxHeartbeats 4000000
set_option maxRecDepth 100000
def qGM (r : Int) : V := vi r
def qGs (r : Int) : List (Nat × (Nat × O)) := []
theorem qE1 (a1 : qF) (a2 : List Product) (a3 : Int) (r : Int) (hm : UB a1 a2 a3 = some r) : CtX Tryd.prog globs 39 0 0 [.agg (qG a1), .one (tl qE default a2), .one (ci a3)] [] (qGM r) (qGs r) := by
 unfold UB at hm
 refine q_E Tryd.f39 11 fun E => ?_
 refine q_sq ?_
 refine q_vn [] 0 ⟨[(2, vi a3), (3, vp 0 0), (4, vp 1 0)], [(0, bx 46 (qG a1)), (1, bx 24 [tl qE default a2])]⟩ ?_
 refine q_sq ?_
 obtain ⟨v4, h5, hm⟩ := qC hm
 refine q_vn [qd 3 (dex (cen [(1, 0)] [0] 1 1 (qA4 a1 a3 a2 v4) (qAT a1 a3 a2 v4) [7, 8, 9] [1])) (WA (K := (kx E 11 0)) ⟨[(7, va (qG a1)), (8, vi a3), (9, vc (.fn 72 [.bptr 1 0 0]))], [(1, bx 24 [tl qE default a2])]⟩ (opAt (rg Tryd.f39 6) 3) [(1, 0)] [0] 1 o0 rfl (qFu a1 a3 a2 v4 h5) (.inl rfl) (by kernel_rfl))] 2 ⟨[(6, vi v4)], []⟩ ?_
 obtain rfl := Option.some.inj hm
 refine q_rt ?_
 exact q_rm
def qI4 (r : Int) : V := vi r
def qIO (r : Int) : List (Nat × (Nat × O)) := []
theorem qBy (a1 : List qD) (a2 : List Defect) (a3 : List Product) (a4 : qF) (a5 : Saw) (a6 : Rates) (r : Int) (hm : UI a1 a2 a3 a4 a5 a6 = some r) : CtX Tryd.prog globs 17 0 0 [.one (tl qI default a1), .one (tl qH default a2), .one (tl qE default a3), .agg (qG a4), .agg (zL a5), .agg (zM a6)] [] (qI4 r) (qIO r) := by
 unfold UI at hm
 refine q_E Tryd.f17 43 fun E => ?_
 refine q_sq ?_
 refine q_vn [] 0 ⟨[(0, vc (tl qI default a1)), (1, vc (tl qH default a2)), (2, vc (tl qE default a3)), (9, vp 0 0), (10, vp 1 0), (11, vp 2 0)], [(0, bx 46 (qG a4)), (1, bx 30 (zL a5)), (2, bx 32 (zM a6))]⟩ ?_
 refine q_sq ?_
 refine q_sq ?_
 obtain ⟨v7, h8, hm⟩ := qC hm
 refine q_vu [qc 1 [17] 3 (ZP a1 v7 h8)] 3 [0] [(13, vi v7)] [] [] ?_
 refine q_sq ?_
 refine q_vu [] 3 [] [(20, vb (v7 != 0))] [] [] ?_
 refine q_cn (v7 != 0) (fun b9 => ?_) (fun b9 => ?_)
 ·replace hm := qA b9 hm
  refine q_sq ?_
  refine q_vn [] 3 ⟨[(12, vi v7)], []⟩ ?_
  obtain rfl := Option.some.inj hm
  refine q_rt ?_
  exact q_rm
 ·replace hm := qB b9 hm
  refine q_sk ?_
  refine q_sq ?_
  refine q_sq ?_
  obtain ⟨v10, h11, hm⟩ := qC hm
  refine q_vu [qc 1 [22] 3 (KL a2 v10 h11)] 3 [1, 13, 20] [(14, vi v10)] [] [] ?_
  refine q_sq ?_
  refine q_vu [] 3 [] [(25, vb (v10 != 0))] [] [] ?_
  refine q_cn (v10 != 0) (fun b12 => ?_) (fun b12 => ?_)
  ·replace hm := qA b12 hm
   refine q_sq ?_
   refine q_vn [] 3 ⟨[(12, vi v10)], []⟩ ?_
   obtain rfl := Option.some.inj hm
   refine q_rt ?_
   exact q_rm
  ·replace hm := qB b12 hm
   refine q_sk ?_
   refine q_sq ?_
   refine q_sq ?_
   obtain ⟨v13, h14, hm⟩ := qC hm
   refine q_vu [qc 1 [27] 3 (YD a3 v13 h14)] 3 [14, 25] [(15, vi v13)] [] [] ?_
   refine q_sq ?_
   refine q_vu [] 3 [] [(30, vb (v13 != 0))] [] [] ?_
   refine q_cn (v13 != 0) (fun b15 => ?_) (fun b15 => ?_)
   ·replace hm := qA b15 hm
    refine q_sq ?_
    refine q_vn [] 3 ⟨[(12, vi v13)], []⟩ ?_
    obtain rfl := Option.some.inj hm
    refine q_rt ?_
    exact q_rm
   ·replace hm := qB b15 hm
    refine q_sk ?_
    refine q_sq ?_
    refine q_sq ?_
    obtain ⟨v16, h17, hm⟩ := qC hm
    refine q_vu [qc 2 [32, 33] 3 (qBG a5 a6 v16 h17)] 3 [11, 15, 30] [(16, vi v16)] [2] [] ?_
    refine q_sq ?_
    refine q_vu [] 3 [] [(36, vb (v16 != 0))] [] [] ?_
    refine q_cn (v16 != 0) (fun b18 => ?_) (fun b18 => ?_)
    ·replace hm := qA b18 hm
     refine q_sq ?_
     refine q_vn [] 3 ⟨[(12, vi v16)], []⟩ ?_
     obtain rfl := Option.some.inj hm
     refine q_rt ?_
     exact q_rm
    ·replace hm := qB b18 hm
     refine q_sk ?_
     refine q_sq ?_
     obtain ⟨v19, h20, hm⟩ := qC hm
     refine q_vn [qc 4 [38, 39, 41] 3 (qE1 a4 a3 a5.Kerf v19 h20)] 3 ⟨[(12, vi v19)], []⟩ ?_
     obtain rfl := Option.some.inj hm
     refine q_rt ?_
     exact q_rm
set_option maxRecDepth 100000
def qC9 (r : Int) : V := vi r
def qDj (r : Int) : List (Nat × (Nat × O)) := []
def FQ (x4 : Bool) : St :=
 ⟨[(10, vb x4)], []⟩
theorem qCT (a1 : Rect) (a2 : Int) (r : Int) (hm : YE a1 a2 = some r) : CtX Tryd.prog globs 44 0 0 [.agg (qK a1), .one (ci a2)] [] (qC9 r) (qDj r) := by
 unfold YE at hm
 refine q_E Tryd.f44 11 fun E => ?_
 refine q_sq ?_
 refine q_vn [] 0 ⟨[(1, vi a2)], []⟩ ?_
 refine q_sq ?_
 refine q_jn (ι := Bool) (fun p => FQ p) (fun p => XB p = some r) ?_ ?_
 ·rintro x4 hm
  show H _ (FQ x4) _ _
  refine q_cn x4 (fun b5 => ?_) (fun b5 => ?_)
  ·replace hm := qA b5 hm
   refine q_sq ?_
   refine q_vn [] 1 ⟨[(4, vi 8)], []⟩ ?_
   obtain rfl := Option.some.inj hm
   refine q_rt ?_
   exact q_rm
  ·replace hm := qB b5 hm
   refine q_sk ?_
   refine q_sq ?_
   refine q_vn [] 1 ⟨[(4, vi 0)], []⟩ ?_
   obtain rfl := Option.some.inj hm
   refine q_rt ?_
   exact q_rm
 ·rcases Bool.eq_false_or_eq_true (decide (a2 < 0)) with b3 | b3
  ·replace hm := qA b3 hm
   refine q_vn [qf 2 b3] 1 ⟨[(10, vb true)], []⟩ ?_
   exact q_J (true) hm
  ·replace hm := qB b3 hm
   refine q_vn [qf 2 b3] 1 ⟨[(10, vb (decide (a2 ≥ 16)))], []⟩ ?_
   exact q_J (decide (a2 ≥ 16)) hm
open Go.Proofs
set_option maxHeartbeats 4000000
set_option maxRecDepth 100000
noncomputable def YH (a1 : Int) (a2 : Pattern_place) (a3 : qF) (a4 : Int) (a5 : Int) (ri : RI 67) (r : Nat × Int × Int) : V := vb (Nat.beq r.1 0)
noncomputable def YM (a1 : Int) (a2 : Pattern_place) (a3 : qF) (a4 : Int) (a5 : Int) (ri : RI 67) (r : Nat × Int × Int) : List (Nat × (Nat × O)) := [(0, lz (rc Tryd.f43 506 ri) ri.b [.ret] r.1), (1, bx 46 (qG a3)), (2, bx 117 [.fn 44 []]), (3, bx 38 [ci r.2.1]), (4, bx 3 [ci r.2.2])]
noncomputable def RO (ri : RI 67) (a1 : Int) (a3 : qF) (a4 : Int) (a5 : Int) (x15 : Int) : St :=
 ⟨[(6, vp 3 0), (7, vp 4 0), (8, vi a1), (11, vi x15)], [(0, ly (rc Tryd.f43 506 ri) ri.b), (1, bx 46 (qG a3)), (2, bx 117 [.fn 44 []]), (3, bx 38 [ci a4]), (4, bx 3 [ci a5])]⟩
noncomputable def RM (ri : RI 67) (a1 : Int) (a2 : Pattern_place) (a3 : qF) (a4 : Int) (a5 : Int) (v8 : Int) (x11 : Bool) : St :=
 ⟨[(5, vp 2 0), (6, vp 3 0), (7, vp 4 0), (8, vi a1), (9, vp 5 0), (10, vp 6 0), (11, vi v8), (50, vb x11)], [(0, ly (rc Tryd.f43 506 ri) ri.b), (1, bx 46 (qG a3)), (2, bx 117 [.fn 44 []]), (3, bx 38 [ci a4]), (4, bx 3 [ci a5]), (5, bx 122 (e_Pattern_place a2)), (6, bx 69 [ci ((a3.Nodes.getD a1.toNat default).Kind), ci ((a3.Nodes.getD a1.toNat default).At)])]⟩
theorem UT (a1 : Int) (a2 : Pattern_place) (a3 : qF) (a4 : Int) (a5 : Int) (ri : RI 67) (r : Nat × Int × Int) (hm : wH a1 a2 a3 a4 a5 = some r) : CtR Tryd.prog globs (rc Tryd.f43 506 ri) ri.b [3, 5, 6, 7] 5 5 [.one (ci a1), .agg (e_Pattern_place a2), .one (.bptr 1 0 0), .one (.bptr 2 0 0), .one (.bptr 3 0 0), .one (.bptr 4 0 0)] [(0, lq (rc Tryd.f43 506 ri) ri.b), (1, bx 46 (qG a3)), (2, bx 117 [.fn 44 []]), (3, bx 38 [ci a4]), (4, bx 3 [ci a5])] (YH a1 a2 a3 a4 a5 ri r) (YM a1 a2 a3 a4 a5 ri r) := by
 unfold wH at hm
 refine q_R Tryd.f43 506 67 ri fun E => ?_
 refine q_sq ?_
 refine q_vn [] 5 ⟨[(3, vp 1 0), (5, vp 2 0), (6, vp 3 0), (7, vp 4 0), (8, vi a1), (30, va (e_Pattern_place a2))], [(0, lq (rc Tryd.f43 506 ri) ri.b), (1, bx 46 (qG a3)), (2, bx 117 [.fn 44 []]), (3, bx 38 [ci a4]), (4, bx 3 [ci a5])]⟩ ?_
 refine q_vu [] 5 [30] [(9, vp 5 0)] [] [(5, bx 122 (e_Pattern_place a2))] ?_
 refine q_rd ⟨[(3, vp 1 0), (5, vp 2 0), (6, vp 3 0), (7, vp 4 0), (8, vi a1), (9, vp 5 0)], [(0, ly (rc Tryd.f43 506 ri) ri.b), (1, bx 46 (qG a3)), (2, bx 117 [.fn 44 []]), (3, bx 38 [ci a4]), (4, bx 3 [ci a5]), (5, bx 122 (e_Pattern_place a2))]⟩ ?_
 refine q_bk 1 ?_
 refine q_sq ?_
 refine q_sq ?_
 refine q_vu [] 6 [] [(35, vb (decide (a1 ≥ ((a3.Nodes.length : Nat) : Int))))] [] [] ?_
 refine q_cn (decide (a1 ≥ ((a3.Nodes.length : Nat) : Int))) (fun b6 => ?_) (fun b6 => ?_)
 ·replace hm := qA b6 hm
  refine q_sq ?_
  refine q_vu [] 6 [3, 5, 6, 7, 8, 9, 35] [] [3, 5] [(3, bx 38 [ci 3])] ?_
  obtain rfl := Option.some.inj hm
  refine q_rt ?_
  exact q_rq
 ·replace hm := qB b6 hm
  refine q_sk ?_
  refine q_sq ?_
  obtain ⟨g7, hm⟩ := qM hm
  refine q_vu [qd 3 (Dir.none) (inb_of g7)] 6 [3, 35] [(10, vp 6 0)] [] [(6, bx 69 [ci ((a3.Nodes.getD a1.toNat default).Kind), ci ((a3.Nodes.getD a1.toNat default).At)])] ?_
  refine q_sq ?_
  obtain ⟨v8, h9, hm⟩ := qC hm
  refine q_vu [qc 2 [41, 42] 7 (MD (a3.Nodes.getD a1.toNat default) a2 v8 h9)] 7 [] [(11, vi v8)] [] [] ?_
  refine q_jn (ι := Int) (fun p => RO ri a1 a3 a4 a5 p) (fun p => QF a1 a4 a5 p = some r) ?_ ?_
  ·rintro x15 hm
   show H _ (RO ri a1 a3 a4 a5 x15) _ _
   refine q_sq ?_
   refine q_sq ?_
   refine q_vu [] 7 [] [(58, vb (x15 != 0))] [] [] ?_
   refine q_cn (x15 != 0) (fun b16 => ?_) (fun b16 => ?_)
   ·replace hm := qA b16 hm
    refine q_sq ?_
    refine q_vu [] 7 [6, 7, 8, 11, 58] [] [3] [(3, bx 38 [ci x15])] ?_
    obtain rfl := Option.some.inj hm
    refine q_rt ?_
    exact q_rq
   ·replace hm := qB b16 hm
    refine q_sk ?_
    refine q_vu [] 7 [6, 7, 8, 11, 58] [] [4] [(4, bx 3 [ci (w64 (a1 + 1))])] ?_
    obtain rfl := Option.some.inj hm
    exact q_rq
  ·refine q_jn (ι := Bool) (fun p => RM ri a1 a2 a3 a4 a5 v8 p) (fun p => QD a1 a2 a3 a4 a5 v8 p = some r) ?_ ?_
   ·rintro x11 hm
    show H _ (RM ri a1 a2 a3 a4 a5 v8 x11) _ _
    refine q_cn x11 (fun b12 => ?_) (fun b12 => ?_)
    ·replace hm := qA b12 hm
     obtain ⟨v13, h14, hm⟩ := qC hm
     refine q_vu [qk 5 [51, 53, 55] 7 ⟨[(51, vc (.fn 44 [])), (53, va (qK a2.rect)), (55, vi ((a3.Nodes.getD a1.toNat default).At))], []⟩ (qCT a2.rect ((a3.Nodes.getD a1.toNat default).At) v13 h14)] 7 [5, 9, 10, 11, 50] [(11, vi v13)] [5, 6] [] ?_
     exact q_J (v13) hm
    ·replace hm := qB b12 hm
     refine q_sk ?_
     exact q_J (v8) hm
   ·rcases Bool.eq_false_or_eq_true (v8 == 0) with b10 | b10
    ·replace hm := qA b10 hm
     refine q_vu [qf 2 b10] 7 [] [(50, vb (((a3.Nodes.getD a1.toNat default).Kind) == 1))] [] [] ?_
     exact q_J (((a3.Nodes.getD a1.toNat default).Kind) == 1) hm
    ·replace hm := qB b10 hm
     refine q_vu [qf 2 b10] 7 [] [(50, vb false)] [] [] ?_
     exact q_J (false) hm
noncomputable def PM (a1 : qF) (a2 : Int) (a3 : Int) (a4 : qF) (a5 : Int) (ri : RI 67) (r : Nat × Int × Int) : V := .undef
noncomputable def PD (a1 : qF) (a2 : Int) (a3 : Int) (a4 : qF) (a5 : Int) (ri : RI 67) (r : Nat × Int × Int) : List (Nat × (Nat × O)) := [(0, lz (rc Tryd.f43 506 ri) ri.b [.ret] r.1), (1, bx 46 (qG a1)), (2, bx 117 [.fn 44 []]), (3, bx 38 [ci r.2.1]), (4, bx 3 [ci r.2.2]), (5, bx 46 (qG a4)), (6, bx 3 [ci a5])]
noncomputable def GR (ri : RI 67) (a1 : qF) (a4 : qF) (a5 : Int) (x7 : Int) (l24 : List Pattern_place) (l24n : Nat) (x25 : Int) (x26 : Int) : St :=
 ⟨[(0, vc (.yl (rc Tryd.f43 506 ri) ri.b [3, 5, 6, 7] [.bptr 1 0 0, .bptr 2 0 0, .bptr 3 0 0, .bptr 4 0 0])), (1, vp 5 0), (2, vp 6 0), (4, vo 7 0 5 l24n), (5, vi x7)], [(0, lq (rc Tryd.f43 506 ri) ri.b), (1, bx 46 (qG a1)), (2, bx 117 [.fn 44 []]), (3, bx 38 [ci x26]), (4, bx 3 [ci x25]), (5, bx 46 (qG a4)), (6, bx 3 [ci a5]), (7, ro 0 122 5 l24n (rf e_Pattern_place l24))]⟩
noncomputable def YR (ri : RI 67) (a1 : qF) (a4 : qF) (a5 : Int) (l6 : List Pattern_place) (l6n : Nat) (x7 : Int) (x8 : Int) (x9 : Int) : St :=
 ⟨[(0, vc (.yl (rc Tryd.f43 506 ri) ri.b [3, 5, 6, 7] [.bptr 1 0 0, .bptr 2 0 0, .bptr 3 0 0, .bptr 4 0 0])), (1, vp 5 0), (2, vp 6 0), (4, vo 7 0 5 l6n), (5, vi x7)], [(0, lq (rc Tryd.f43 506 ri) ri.b), (1, bx 46 (qG a1)), (2, bx 117 [.fn 44 []]), (3, bx 38 [ci x8]), (4, bx 3 [ci x9]), (5, bx 46 (qG a4)), (6, bx 3 [ci a5]), (7, ro 0 122 5 l6n (rf e_Pattern_place l6))]⟩
noncomputable def GW (ri : RI 67) (a1 : qF) (a4 : qF) (a5 : Int) (x27 : Int) (x28 : Int) : St :=
 ⟨[], [(0, lq (rc Tryd.f43 506 ri) ri.b), (1, bx 46 (qG a1)), (2, bx 117 [.fn 44 []]), (3, bx 38 [ci x28]), (4, bx 3 [ci x27]), (5, bx 46 (qG a4)), (6, bx 3 [ci a5])]⟩
theorem OE (E : Env 7) (ri : RI 67) (a1 : qF) (a2 : Int) (a3 : Int) (a4 : qF) (a5 : Int) : ∀ (n : Nat) (l6 : List Pattern_place) (l6n : Nat) (x7 : Int) (x8 : Int) (x9 : Int) (res : (Nat × Int × Int) ⊕ (Int × Int)), l6.length = l6n → wG a1 a4 a5 n l6 x7 x8 x9 = some res → HL (kx E 73 7) (nd Tryd.f77 28) (wW 0 (fun o => GW ri a1 a4 a5 o.1 o.2) (fun v st => RetQ Tryd.prog Tryd.f77 (PM a1 a2 a3 a4 a5 ri v) (PD a1 a2 a3 a4 a5 ri v) .ret st) res) n (YR ri a1 a4 a5 l6 l6n x7 x8 x9) := by
 intro n
 induction n with
 | zero =>
  intro l6 l6n x7 x8 x9 res hl0 hm
  cases hm
 | succ n ih =>
  intro l6 l6n x7 x8 x9 res hl0 hm
  subst hl0
  refine qQ ?_
  refine q_sq ?_
  refine q_sq ?_
  refine q_vu [] 8 [] [(17, vb (decide (((l6.length : Nat) : Int) > 0)))] [] [] ?_
  refine q_cn (decide (((l6.length : Nat) : Int) > 0)) (fun b10 => ?_) (fun b10 => ?_)
  ·replace hm := qA b10 hm
   refine q_sk ?_
   refine q_jn (ι := (List Pattern_place) × Nat × Int × Int) (fun p => GR ri a1 a4 a5 x7 p.1 p.2.1 p.2.2.1 p.2.2.2) (fun p => p.1.length = p.2.1 ∧ WG x7 (wG a1 a4 a5 n) p.1 p.2.2.1 p.2.2.2 = some res) ?_ ?_
   ·rintro ⟨l24, l24n, x25, x26⟩ ⟨el24, hm⟩
    replace el24 : l24.length = l24n := el24
    subst el24
    show H _ (GR ri a1 a4 a5 x7 l24 l24.length x25 x26) _ _
    refine q_vu [] 14 [5] [(5, vi (w64 (x7 + 1)))] [] [] ?_
    exact q_hl (YR ri a1 a4 a5 l24 l24.length (w64 (x7 + 1)) x26 x25) (ih l24 l24.length (w64 (x7 + 1)) x26 x25 _ rfl hm)
   ·refine q_bk 1 ?_
    refine q_sq ?_
    obtain ⟨g11, hm⟩ := qM hm
    refine q_vu [qd 4 (Dir.none) (inb_of g11), qd 5 (Dir.none) (toNat_lt (inb_of g11))] 8 [17] [(6, vp 8 0)] [] [(8, bx 122 [ci ((((l6.getD ((w64 (((l6.length : Nat) : Int) - 1)).toNat) default).rect).X).A), ci ((((l6.getD ((w64 (((l6.length : Nat) : Int) - 1)).toNat) default).rect).X).B), ci ((((l6.getD ((w64 (((l6.length : Nat) : Int) - 1)).toNat) default).rect).Y).A), ci ((((l6.getD ((w64 (((l6.length : Nat) : Int) - 1)).toNat) default).rect).Y).B), ci ((l6.getD ((w64 (((l6.length : Nat) : Int) - 1)).toNat) default).level)])] ?_
    refine q_sq ?_
    obtain ⟨g12, hm⟩ := qM hm
    refine q_wu [qd 4 (Dir.none) (And.intro (slOk_of g12).2.1 (slOk_of g12).2.2)] [.row 7 ((w64 (((l6.length : Nat) : Int) - 1)).toNat) (rf e_Pattern_place (l6.take ((w64 (((l6.length : Nat) : Int) - 1)).toNat)))] (o1 (tkP e_Pattern_place default l6 l6.length ((w64 (((l6.length : Nat) : Int) - 1)).toNat) (show (w64 (((l6.length : Nat) : Int) - 1)).toNat ≤ l6.length by have := (slOk_of g12); omega))) 9 [4] [(4, vo 7 0 5 ((w64 (((l6.length : Nat) : Int) - 1)).toNat))] [7] [(7, ro 0 122 5 ((w64 (((l6.length : Nat) : Int) - 1)).toNat) (rf e_Pattern_place (l6.take ((w64 (((l6.length : Nat) : Int) - 1)).toNat))))] ?_
    refine q_sq ?_
    refine q_sq ?_
    obtain ⟨v13, h14, hm⟩ := qC hm
    rcases Bool.eq_false_or_eq_true (!(Nat.beq v13.1 0)) with b15 | b15
    ·replace hm := qA b15 hm
     refine q_vu [qd 3 (dex (cen [(0, 0), (1, 0), (2, 0), (3, 0), (4, 0)] [0, 0, 0, 0, 0] 4 5 (YH x7 (l6.getD ((w64 (((l6.length : Nat) : Int) - 1)).toNat) default) a1 x8 x9 ri v13) (YM x7 (l6.getD ((w64 (((l6.length : Nat) : Int) - 1)).toNat) default) a1 x8 x9 ri v13) [31, 32, 33] [0, 1, 2, 3, 4])) (OL (K := (kx E 73 7)) ⟨[(31, vc (.yl (rc Tryd.f43 506 ri) ri.b [3, 5, 6, 7] [.bptr 1 0 0, .bptr 2 0 0, .bptr 3 0 0, .bptr 4 0 0])), (32, vi x7), (33, va [ci ((((l6.getD ((w64 (((l6.length : Nat) : Int) - 1)).toNat) default).rect).X).A), ci ((((l6.getD ((w64 (((l6.length : Nat) : Int) - 1)).toNat) default).rect).X).B), ci ((((l6.getD ((w64 (((l6.length : Nat) : Int) - 1)).toNat) default).rect).Y).A), ci ((((l6.getD ((w64 (((l6.length : Nat) : Int) - 1)).toNat) default).rect).Y).B), ci ((l6.getD ((w64 (((l6.length : Nat) : Int) - 1)).toNat) default).level)])], [(0, lq (rc Tryd.f43 506 ri) ri.b), (1, bx 46 (qG a1)), (2, bx 117 [.fn 44 []]), (3, bx 38 [ci x8]), (4, bx 3 [ci x9])]⟩ (opAt (rg Tryd.f77 3660) 3) [(0, 0), (1, 0), (2, 0), (3, 0), (4, 0)] [0, 0, 0, 0, 0] 4 0 o0 rfl (UT x7 (l6.getD ((w64 (((l6.length : Nat) : Int) - 1)).toNat) default) a1 x8 x9 ri v13 h14) (.inl rfl) (by kernel_rfl)), qf 5 b15] 9 [] [(42, vb true)] [0, 3, 4] [(0, lz (rc Tryd.f43 506 ri) ri.b [.ret] v13.1), (3, bx 38 [ci v13.2.1]), (4, bx 3 [ci v13.2.2])] ?_
     refine qJj Tryd.f77 (.tmp 42) 7322 7323 (by kernel_rfl) (by kernel_rfl) ?_
     obtain rfl := Option.some.inj hm
     refine q_rt ?_
     refine zB (v13.1, v13.2.1, v13.2.2) ?_
     exact q_rm
    ·replace hm := qB b15 hm
     refine q_wu [qd 3 (dex (cen [(0, 0), (1, 0), (2, 0), (3, 0), (4, 0)] [0, 0, 0, 0, 0] 4 5 (YH x7 (l6.getD ((w64 (((l6.length : Nat) : Int) - 1)).toNat) default) a1 x8 x9 ri v13) (YM x7 (l6.getD ((w64 (((l6.length : Nat) : Int) - 1)).toNat) default) a1 x8 x9 ri v13) [31, 32, 33] [0, 1, 2, 3, 4])) (OL (K := (kx E 73 7)) ⟨[(31, vc (.yl (rc Tryd.f43 506 ri) ri.b [3, 5, 6, 7] [.bptr 1 0 0, .bptr 2 0 0, .bptr 3 0 0, .bptr 4 0 0])), (32, vi x7), (33, va [ci ((((l6.getD ((w64 (((l6.length : Nat) : Int) - 1)).toNat) default).rect).X).A), ci ((((l6.getD ((w64 (((l6.length : Nat) : Int) - 1)).toNat) default).rect).X).B), ci ((((l6.getD ((w64 (((l6.length : Nat) : Int) - 1)).toNat) default).rect).Y).A), ci ((((l6.getD ((w64 (((l6.length : Nat) : Int) - 1)).toNat) default).rect).Y).B), ci ((l6.getD ((w64 (((l6.length : Nat) : Int) - 1)).toNat) default).level)])], [(0, lq (rc Tryd.f43 506 ri) ri.b), (1, bx 46 (qG a1)), (2, bx 117 [.fn 44 []]), (3, bx 38 [ci x8]), (4, bx 3 [ci x9])]⟩ (opAt (rg Tryd.f77 3660) 3) [(0, 0), (1, 0), (2, 0), (3, 0), (4, 0)] [0, 0, 0, 0, 0] 4 0 o0 rfl (UT x7 (l6.getD ((w64 (((l6.length : Nat) : Int) - 1)).toNat) default) a1 x8 x9 ri v13 h14) (.inl rfl) (by kernel_rfl)), qf 5 b15] [.lpn 0 .ready none] (o1 (qGz (js := [.ret]) b15)) 9 [] [(42, vb (decide (x7 ≥ ((a4.Nodes.length : Nat) : Int))))] [3, 4] [(3, bx 38 [ci v13.2.1]), (4, bx 3 [ci v13.2.2])] ?_
     refine q_cn (decide (x7 ≥ ((a4.Nodes.length : Nat) : Int))) (fun b16 => ?_) (fun b16 => ?_)
     ·replace hm := qA b16 hm
      obtain rfl := Option.some.inj hm
      refine q_rt ?_
      refine zB (0, v13.2.1, v13.2.2) ?_
      exact q_rm
     ·replace hm := qB b16 hm
      refine q_sk ?_
      refine q_sq ?_
      obtain ⟨g17, hm⟩ := qM hm
      refine q_vu [qd 3 (Dir.none) (inb_of g17)] 9 [42] [(7, vp 9 0)] [] [(9, bx 69 [ci ((a4.Nodes.getD x7.toNat default).Kind), ci ((a4.Nodes.getD x7.toNat default).At)])] ?_
      refine q_sq ?_
      obtain ⟨v18, h19, hm⟩ := qC hm
      refine q_vu [qc 2 [49] 10 (yX ((a4.Nodes.getD x7.toNat default).Kind) v18 h19)] 10 [] [(50, vb v18)] [] [] ?_
      refine q_cn v18 (fun b20 => ?_) (fun b20 => ?_)
      ·replace hm := qA b20 hm
       refine q_sq ?_
       obtain ⟨v21, h22, hm⟩ := qC hm
       refine q_vu [qc 4 [53, 54, 55] 10 (YJ ((l6.getD ((w64 (((l6.length : Nat) : Int) - 1)).toNat) default).rect) (a4.Nodes.getD x7.toNat default) a5 v21 h22)] 10 [7, 50] [(8, vp 10 0), (10, vp 12 0)] [9] [(10, bx 28 (qK v21.1)), (12, bx 28 (qK v21.2.2))] ?_
       obtain ⟨g23, hm⟩ := qM hm
       refine q_vu [qd 11 (drw 13 0 (rf e_Pattern_place ([(Pattern_place.mk v21.2.2 (w64 (((l6.getD ((w64 (((l6.length : Nat) : Int) - 1)).toNat) default).level) + 1))), (Pattern_place.mk v21.1 (w64 (((l6.getD ((w64 (((l6.length : Nat) : Int) - 1)).toNat) default).level) + 1)))] : List Pattern_place))) (litP e_Pattern_place default 5 (fun _ => rfl) ([(Pattern_place.mk v21.2.2 (w64 (((l6.getD ((w64 (((l6.length : Nat) : Int) - 1)).toNat) default).level) + 1))), (Pattern_place.mk v21.1 (w64 (((l6.getD ((w64 (((l6.length : Nat) : Int) - 1)).toNat) default).level) + 1)))] : List Pattern_place) 2 rfl), qd 12 (drw 7 1 (rf e_Pattern_place ((l6.take ((w64 (((l6.length : Nat) : Int) - 1)).toNat)) ++ ([(Pattern_place.mk v21.2.2 (w64 (((l6.getD ((w64 (((l6.length : Nat) : Int) - 1)).toNat) default).level) + 1))), (Pattern_place.mk v21.1 (w64 (((l6.getD ((w64 (((l6.length : Nat) : Int) - 1)).toNat) default).level) + 1)))] : List Pattern_place)))) (apP e_Pattern_place default (l6.take ((w64 (((l6.length : Nat) : Int) - 1)).toNat)) ([(Pattern_place.mk v21.2.2 (w64 (((l6.getD ((w64 (((l6.length : Nat) : Int) - 1)).toNat) default).level) + 1))), (Pattern_place.mk v21.1 (w64 (((l6.getD ((w64 (((l6.length : Nat) : Int) - 1)).toNat) default).level) + 1)))] : List Pattern_place) ((w64 (((l6.length : Nat) : Int) - 1)).toNat) 2 5 40 (2 ≤ 2) (Nat.le_refl _) (JA rfl (show (w64 (((l6.length : Nat) : Int) - 1)).toNat ≤ l6.length by have := (slOk_of g12); omega)) rfl (fun _ => rfl) (wR g23))] 13 [4, 6, 8, 10] [(4, vo 7 1 5 ((w64 (((l6.length : Nat) : Int) - 1)).toNat + 2))] [7, 8, 10, 12] [(7, ro 1 122 5 ((w64 (((l6.length : Nat) : Int) - 1)).toNat + 2) (rf e_Pattern_place ((l6.take ((w64 (((l6.length : Nat) : Int) - 1)).toNat)) ++ ([(Pattern_place.mk v21.2.2 (w64 (((l6.getD ((w64 (((l6.length : Nat) : Int) - 1)).toNat) default).level) + 1))), (Pattern_place.mk v21.1 (w64 (((l6.getD ((w64 (((l6.length : Nat) : Int) - 1)).toNat) default).level) + 1)))] : List Pattern_place))))] ?_
       exact q_J (((l6.take ((w64 (((l6.length : Nat) : Int) - 1)).toNat)) ++ ([(Pattern_place.mk v21.2.2 (w64 (((l6.getD ((w64 (((l6.length : Nat) : Int) - 1)).toNat) default).level) + 1))), (Pattern_place.mk v21.1 (w64 (((l6.getD ((w64 (((l6.length : Nat) : Int) - 1)).toNat) default).level) + 1)))] : List Pattern_place)), ((w64 (((l6.length : Nat) : Int) - 1)).toNat + 2), v13.2.2, v13.2.1) ⟨(len_app (JA rfl (show (w64 (((l6.length : Nat) : Int) - 1)).toNat ≤ l6.length by have := (slOk_of g12); omega)) rfl), hm⟩
      ·replace hm := qB b20 hm
       refine q_sk ?_
       exact q_J ((l6.take ((w64 (((l6.length : Nat) : Int) - 1)).toNat)), (w64 (((l6.length : Nat) : Int) - 1)).toNat, v13.2.2, v13.2.1) ⟨(JA rfl (show (w64 (((l6.length : Nat) : Int) - 1)).toNat ≤ l6.length by have := (slOk_of g12); omega)), hm⟩
  ·replace hm := qB b10 hm
   refine q_ex 0 ?_
   obtain rfl := Option.some.inj hm
   exact jE (x9, x8) (by kernel_rfl) (by kernel_rfl)
theorem qBs (a1 : qF) (a2 : Int) (a3 : Int) (a4 : qF) (a5 : Int) (ri : RI 67) (r : Nat × Int × Int) (hm : ZI a1 a2 a3 a4 a5 = some r) : CtX Tryd.prog globs 77 7 7 [.one (.yl (rc Tryd.f43 506 ri) ri.b [3, 5, 6, 7] [.bptr 1 0 0, .bptr 2 0 0, .bptr 3 0 0, .bptr 4 0 0]), .one (.bptr 5 0 0), .one (.bptr 6 0 0)] [(0, lq (rc Tryd.f43 506 ri) ri.b), (1, bx 46 (qG a1)), (2, bx 117 [.fn 44 []]), (3, bx 38 [ci a2]), (4, bx 3 [ci a3]), (5, bx 46 (qG a4)), (6, bx 3 [ci a5])] (PM a1 a2 a3 a4 a5 ri r) (PD a1 a2 a3 a4 a5 ri r) := by
 unfold ZI at hm
 refine q_E Tryd.f77 73 fun E => ?_
 refine q_sq ?_
 refine q_vn [qd 3 (drw 7 0 (rf e_Pattern_place ([(Pattern_place.mk a4.Frame 1)] : List Pattern_place))) (litP e_Pattern_place default 5 (fun _ => rfl) ([(Pattern_place.mk a4.Frame 1)] : List Pattern_place) 1 rfl)] 7 ⟨[(0, vc (.yl (rc Tryd.f43 506 ri) ri.b [3, 5, 6, 7] [.bptr 1 0 0, .bptr 2 0 0, .bptr 3 0 0, .bptr 4 0 0])), (1, vp 5 0), (2, vp 6 0), (4, vo 7 0 5 1)], [(0, lq (rc Tryd.f43 506 ri) ri.b), (1, bx 46 (qG a1)), (2, bx 117 [.fn 44 []]), (3, bx 38 [ci a2]), (4, bx 3 [ci a3]), (5, bx 46 (qG a4)), (6, bx 3 [ci a5]), (7, ro 0 122 5 1 (rf e_Pattern_place ([(Pattern_place.mk a4.Frame 1)] : List Pattern_place)))]⟩ ?_
 refine q_sq ?_
 refine q_vu [] 8 [] [(5, vi 0)] [] [] ?_
 obtain ⟨u31, h30, hm⟩ := qC hm
 refine zP (nd Tryd.f77 28) 0 (by kernel_rfl) FUEL (fun o => GW ri a1 a4 a5 o.1 o.2) (fun v st => RetQ Tryd.prog Tryd.f77 (PM a1 a2 a3 a4 a5 ri v) (PD a1 a2 a3 a4 a5 ri v) .ret st) u31 (q_hl (YR ri a1 a4 a5 ([(Pattern_place.mk a4.Frame 1)] : List Pattern_place) 1 0 a2 a3) (OE E ri a1 a2 a3 a4 a5 FUEL ([(Pattern_place.mk a4.Frame 1)] : List Pattern_place) 1 0 a2 a3 u31 rfl h30)) ?_ ?_
 ·rintro v32 rfl st hr
  obtain rfl := Option.some.inj hm
  exact hr
 ·rintro o29 rfl
  replace hm : _ = some r := hm
  obtain rfl := Option.some.inj hm
  exact q_rm
set_option maxRecDepth 100000
def qDM (r : Int) : V := vi r
def qDP (r : Int) : List (Nat × (Nat × O)) := []
def zaQ (a1 : qF) (a2 : Int) (x7 : Bool) : St :=
 ⟨[(1, vi a2), (3, vp 0 0), (5, vp 1 0), (6, vp 2 0), (21, vb x7)], [(0, bx 46 (qG a1)), (1, bx 117 [.fn 44 []]), (2, bx 38 [ci 0])]⟩
theorem HI (a1 : qF) (a2 : Int) (r : Int) (hm : ZQ a1 a2 = some r) : CtX Tryd.prog globs 43 0 0 [.agg (qG a1), .one (ci a2), .one (.fn 44 [])] [] (qDM r) (qDP r) := by
 unfold ZQ at hm
 refine q_E Tryd.f43 67 fun E => ?_
 refine q_sq ?_
 refine q_vn [] 0 ⟨[(1, vi a2), (3, vp 0 0), (5, vp 1 0), (6, vp 2 0)], [(0, bx 46 (qG a1)), (1, bx 117 [.fn 44 []]), (2, bx 38 [ci 0])]⟩ ?_
 refine q_sq ?_
 refine q_sq ?_
 obtain ⟨v3, h4, hm⟩ := qC hm
 refine q_vu [qc 2 [13] 3 (XW a1.Frame v3 h4)] 3 [] [(15, vb (!v3))] [] [] ?_
 refine q_cn (!v3) (fun b5 => ?_) (fun b5 => ?_)
 ·replace hm := qA b5 hm
  refine q_sq ?_
  refine q_vn [] 3 ⟨[(6, vp 2 0)], [(2, bx 38 [ci 19])]⟩ ?_
  obtain rfl := Option.some.inj hm
  refine q_rt ?_
  exact q_rm
 ·replace hm := qB b5 hm
  refine q_sk ?_
  refine q_sq ?_
  refine q_jn (ι := Bool) (fun p => zaQ a1 a2 p) (fun p => XD a1 a2 p = some r) ?_ ?_
  ·rintro x7 hm
   show H _ (zaQ a1 a2 x7) _ _
   refine q_cn x7 (fun b8 => ?_) (fun b8 => ?_)
   ·replace hm := qA b8 hm
    refine q_sq ?_
    refine q_vn [] 3 ⟨[(6, vp 2 0)], [(2, bx 38 [ci 9])]⟩ ?_
    obtain rfl := Option.some.inj hm
    refine q_rt ?_
    exact q_rm
   ·replace hm := qB b8 hm
    refine q_sk ?_
    refine q_sq ?_
    refine q_sq ?_
    refine q_vu [] 3 [21] [(25, vb (decide (((a1.Nodes.length : Nat) : Int) > 127)))] [] [] ?_
    refine q_cn (decide (((a1.Nodes.length : Nat) : Int) > 127)) (fun b9 => ?_) (fun b9 => ?_)
    ·replace hm := qA b9 hm
     refine q_sq ?_
     refine q_vn [] 3 ⟨[(6, vp 2 0)], [(2, bx 38 [ci 4])]⟩ ?_
     obtain rfl := Option.some.inj hm
     refine q_rt ?_
     exact q_rm
    ·replace hm := qB b9 hm
     refine q_sk ?_
     refine q_sq ?_
     refine q_vu [] 3 [25] [(7, vp 3 0)] [] [(3, bx 3 [ci 0])] ?_
     refine q_sq ?_
     refine q_sq ?_
     obtain ⟨v10, h11, hm⟩ := qC hm
     refine q_vu [qc 2 [26, 27] 4 (KW a1 a2 v10 h11)] 4 [1] [(28, vc (.fn 77 [.bptr 4 0 0, .bptr 5 0 0]))] [] [(4, bx 46 (qG v10.1)), (5, bx 3 [ci v10.2])] ?_
     refine q_bk 0 ?_
     obtain ⟨v12, h13, hm⟩ := qC hm
     refine q_rf (.tmp 28) [3, 5, 6, 7] 6 [(6, 0), (0, 0), (1, 0), (2, 0), (3, 0), (4, 0), (5, 0)] [0, 0, 0, 0, 0, 0, 0] 0 7 [.ret] v12.1 0 ⟨[(3, vp 0 0), (6, vp 2 0), (7, vp 3 0)], [(0, bx 46 (qG a1)), (2, bx 38 [ci v12.2.1]), (3, bx 3 [ci v12.2.2])]⟩ (fun ri => qBs a1 0 0 v10.1 v10.2 ri v12 h13) ?_
     rcases Bool.eq_false_or_eq_true (Nat.beq v12.1 0) with b14 | b14
     ·replace hm := qA b14 hm
      refine JQ_n b14 ?_
      refine q_sq ?_
      refine q_sq ?_
      refine q_vu [] 7 [3, 7] [(66, vb (decide (v12.2.2 < ((a1.Nodes.length : Nat) : Int))))] [0, 3] [] ?_
      refine q_cn (decide (v12.2.2 < ((a1.Nodes.length : Nat) : Int))) (fun b16 => ?_) (fun b16 => ?_)
      ·replace hm := qA b16 hm
       refine q_sq ?_
       refine q_vu [] 7 [66] [] [2] [(2, bx 38 [ci 4])] ?_
       obtain rfl := Option.some.inj hm
       refine q_rt ?_
       exact q_rm
      ·replace hm := qB b16 hm
       refine q_sk ?_
       refine q_sq ?_
       refine q_vu [] 7 [66] [] [2] [(2, bx 38 [ci 0])] ?_
       obtain rfl := Option.some.inj hm
       refine q_rt ?_
       exact q_rm
     ·replace hm := qB b14 hm
      rcases Bool.eq_false_or_eq_true (Nat.beq v12.1 1) with b15 | b15
      ·replace hm := qA b15 hm
       refine JQ_j 0 .ret b15 (by kernel_rfl) ?_
       obtain rfl := Option.some.inj hm
       refine q_rt ?_
       exact q_rm
      ·replace hm := qB b15 hm
       cases hm
  ·rcases Bool.eq_false_or_eq_true (decide (a2 < 0)) with b6 | b6
   ·replace hm := qA b6 hm
    refine q_vu [qf 2 b6] 3 [15] [(21, vb true)] [] [] ?_
    exact q_J (true) hm
   ·replace hm := qB b6 hm
    refine q_vu [qf 2 b6] 3 [15] [(21, vb (decide (a2 > 20)))] [] [] ?_
    exact q_J (decide (a2 > 20)) hm
open Go.Proofs
set_option maxHeartbeats 4000000
set_option maxRecDepth 100000
noncomputable def KT (a1 : Int) (a2 : Pattern_place) (a3 : qF) (a4 : List Leaf) (ri : RI 48) (r : Nat × (List Leaf)) : V := vb (Nat.beq r.1 0)
noncomputable def KQ (a1 : Int) (a2 : Pattern_place) (a3 : qF) (a4 : List Leaf) (ri : RI 48) (r : Nat × (List Leaf)) : List (Nat × (Nat × O)) := [(0, lz (rc Tryd.f40 122 ri) ri.b [] r.1), (1, bx 46 (qG a3)), (2, bx 106 [.own 3 0 5 r.2.length]), (3, ro 0 113 5 r.2.length (rf qW r.2))]
theorem BF (a1 : Int) (a2 : Pattern_place) (a3 : qF) (a4 : List Leaf) (ri : RI 48) (r : Nat × (List Leaf)) (hm : wX a1 a2 a3 a4 = some r) : CtR Tryd.prog globs (rc Tryd.f40 122 ri) ri.b [2, 7] 4 3 [.one (ci a1), .agg (e_Pattern_place a2), .one (.bptr 1 0 0), .one (.bptr 2 0 0)] [(0, lq (rc Tryd.f40 122 ri) ri.b), (1, bx 46 (qG a3)), (2, bx 106 [.own 3 0 5 a4.length]), (3, ro 0 113 5 a4.length (rf qW a4))] (KT a1 a2 a3 a4 ri r) (KQ a1 a2 a3 a4 ri r) := by
 unfold wX at hm
 refine q_R Tryd.f40 122 48 ri fun E => ?_
 refine q_sq ?_
 refine q_vn [] 4 ⟨[(2, vp 1 0), (7, vp 2 0), (8, vi a1), (21, va (e_Pattern_place a2))], [(0, lq (rc Tryd.f40 122 ri) ri.b), (1, bx 46 (qG a3)), (2, bx 106 [.own 3 0 5 a4.length]), (3, ro 0 113 5 a4.length (rf qW a4))]⟩ ?_
 refine q_vu [] 4 [21] [(9, vp 4 0)] [] [(4, bx 122 (e_Pattern_place a2))] ?_
 refine q_rd ⟨[(2, vp 1 0), (7, vp 2 0), (8, vi a1), (9, vp 4 0)], [(0, ly (rc Tryd.f40 122 ri) ri.b), (1, bx 46 (qG a3)), (2, bx 106 [.own 3 0 5 a4.length]), (3, ro 0 113 5 a4.length (rf qW a4)), (4, bx 122 (e_Pattern_place a2))]⟩ ?_
 refine q_bk 1 ?_
 refine q_sq ?_
 obtain ⟨g5, hm⟩ := qM hm
 refine q_vu [qd 3 (Dir.none) (inb_of g5)] 5 [2, 8] [(10, vp 5 0)] [] [(5, bx 69 [ci ((a3.Nodes.getD a1.toNat default).Kind), ci ((a3.Nodes.getD a1.toNat default).At)])] ?_
 refine q_sq ?_
 refine q_vu [] 6 [] [(28, vi ((a3.Nodes.getD a1.toNat default).Kind))] [] [] ?_
 refine q_bk 2 ?_
 refine q_sq ?_
 refine q_vu [] 6 [] [(29, vb (((a3.Nodes.getD a1.toNat default).Kind) == 0))] [] [] ?_
 refine q_cn (((a3.Nodes.getD a1.toNat default).Kind) == 0) (fun b6 => ?_) (fun b6 => ?_)
 ·replace hm := qA b6 hm
  obtain ⟨g7, hm⟩ := qM hm
  refine q_wu [qd 4 (drw 6 0 (rf qW ([(Leaf.mk a2.rect (-1))] : List Leaf))) (litP qW default 5 (fun _ => rfl) ([(Leaf.mk a2.rect (-1))] : List Leaf) 1 rfl), qd 5 (drw 3 1 (rf qW (a4 ++ ([(Leaf.mk a2.rect (-1))] : List Leaf)))) (apP qW default a4 ([(Leaf.mk a2.rect (-1))] : List Leaf) a4.length 1 5 40 (1 ≤ 1) (Nat.le_refl _) rfl rfl (fun _ => rfl) (wR g7))] [.len 3 ((a4 ++ ([(Leaf.mk a2.rect (-1))] : List Leaf)).length)] (o1 (And.intro (Eq.symm (show (a4 ++ ([(Leaf.mk a2.rect (-1))] : List Leaf)).length = (a4.length + 1) from (len_app rfl rfl))) (And.intro (Eq.symm (show (a4 ++ ([(Leaf.mk a2.rect (-1))] : List Leaf)).length = (a4.length + 1) from (len_app rfl rfl))) (Eq.symm (show (a4 ++ ([(Leaf.mk a2.rect (-1))] : List Leaf)).length = (a4.length + 1) from (len_app rfl rfl)))))) 6 [7, 9, 10, 28, 29] [] [2, 3, 4, 5] [(2, bx 106 [.own 3 1 5 ((a4 ++ ([(Leaf.mk a2.rect (-1))] : List Leaf)).length)]), (3, ro 1 113 5 ((a4 ++ ([(Leaf.mk a2.rect (-1))] : List Leaf)).length) (rf qW (a4 ++ ([(Leaf.mk a2.rect (-1))] : List Leaf))))] ?_
  obtain rfl := Option.some.inj hm
  exact q_rq
 ·replace hm := qB b6 hm
  refine q_sq ?_
  refine q_vu [] 6 [28, 29] [(37, vb (((a3.Nodes.getD a1.toNat default).Kind) == 1))] [] [] ?_
  refine q_cn (((a3.Nodes.getD a1.toNat default).Kind) == 1) (fun b8 => ?_) (fun b8 => ?_)
  ·replace hm := qA b8 hm
   obtain ⟨g9, hm⟩ := qM hm
   refine q_wu [qd 6 (drw 6 0 (rf qW ([(Leaf.mk a2.rect ((a3.Nodes.getD a1.toNat default).At))] : List Leaf))) (litP qW default 5 (fun _ => rfl) ([(Leaf.mk a2.rect ((a3.Nodes.getD a1.toNat default).At))] : List Leaf) 1 rfl), qd 7 (drw 3 1 (rf qW (a4 ++ ([(Leaf.mk a2.rect ((a3.Nodes.getD a1.toNat default).At))] : List Leaf)))) (apP qW default a4 ([(Leaf.mk a2.rect ((a3.Nodes.getD a1.toNat default).At))] : List Leaf) a4.length 1 5 40 (1 ≤ 1) (Nat.le_refl _) rfl rfl (fun _ => rfl) (wR g9))] [.len 3 ((a4 ++ ([(Leaf.mk a2.rect ((a3.Nodes.getD a1.toNat default).At))] : List Leaf)).length)] (o1 (And.intro (Eq.symm (show (a4 ++ ([(Leaf.mk a2.rect ((a3.Nodes.getD a1.toNat default).At))] : List Leaf)).length = (a4.length + 1) from (len_app rfl rfl))) (And.intro (Eq.symm (show (a4 ++ ([(Leaf.mk a2.rect ((a3.Nodes.getD a1.toNat default).At))] : List Leaf)).length = (a4.length + 1) from (len_app rfl rfl))) (Eq.symm (show (a4 ++ ([(Leaf.mk a2.rect ((a3.Nodes.getD a1.toNat default).At))] : List Leaf)).length = (a4.length + 1) from (len_app rfl rfl)))))) 6 [7, 9, 10, 37] [] [2, 3, 4, 5] [(2, bx 106 [.own 3 1 5 ((a4 ++ ([(Leaf.mk a2.rect ((a3.Nodes.getD a1.toNat default).At))] : List Leaf)).length)]), (3, ro 1 113 5 ((a4 ++ ([(Leaf.mk a2.rect ((a3.Nodes.getD a1.toNat default).At))] : List Leaf)).length) (rf qW (a4 ++ ([(Leaf.mk a2.rect ((a3.Nodes.getD a1.toNat default).At))] : List Leaf))))] ?_
   obtain rfl := Option.some.inj hm
   exact q_rq
  ·replace hm := qB b8 hm
   refine q_sk ?_
   obtain rfl := Option.some.inj hm
   exact q_rq
end Saw
end Go.SL
