import Derived.Test.YtjobdnkaonbgnaaGreatEBase
import Derived.Test.YtjobdnkaonbgnaaGreatEFa5
import Derived.Test.YtjobdnkaonbgnaaGreatEFa3
import Derived.Test.YtjobdnkaonbgnaaGreatEFa4
import Derived.Test.YtjobdnkaonbgnaaGreatEFa2
import Derived.Test.YtjobdnkaonbgnaaGreatEFa1
set_option linter.unusedVariables false
set_option linter.unusedSimpArgs false
namespace Go.SL
namespace Saw
open Go.Proofs
set_option maxHeartbeats 4000000
set_option maxRecDepth 100000
noncomputable def RS (a1 : List Slice) (a2 : List Defect) (a3 : List Product) (a4 : Saw) (a5 : Int) (a6 : List Leaf) (a7 : List Yield_Cut) (ri : RI 79) (r : Nat × (List Yield_Cut)) : V := .undef
noncomputable def PY (a1 : List Slice) (a2 : List Defect) (a3 : List Product) (a4 : Saw) (a5 : Int) (a6 : List Leaf) (a7 : List Yield_Cut) (ri : RI 79) (r : Nat × (List Yield_Cut)) : List (Nat × (Nat × O)) := [(0, lz (rc Tryz.f17 506 ri) ri.b [] r.1), (1, bx 22 [tl qH default a1]), (2, bx 23 [tl qI default a2]), (3, bx 24 [tl qA default a3]), (4, bx 33 (zZ a4)), (5, bx 3 [ci a5]), (6, bx 40 [.own 8 0 9 r.2.length]), (7, bx 74 [tl qG default a6]), (8, ro 0 69 9 r.2.length (rf qR r.2))]
noncomputable def BQ (ri : RI 79) (a1 : List Slice) (a2 : List Defect) (a3 : List Product) (a4 : Saw) (a5 : Int) (a6 : List Leaf) (x8 : Int) (l16 : List Yield_Cut) (l16n : Nat) : St :=
 ⟨[(0, vc (.yl (rc Tryz.f17 506 ri) ri.b [6, 7, 8, 10, 11, 17] [.bptr 1 0 0, .bptr 2 0 0, .bptr 3 0 0, .bptr 4 0 0, .bptr 5 0 0, .bptr 6 0 0])), (5, vc (tl qG default a6)), (6, vi ((a6.length : Nat) : Int)), (7, vi x8)], [(0, lq (rc Tryz.f17 506 ri) ri.b), (1, bx 22 [tl qH default a1]), (2, bx 23 [tl qI default a2]), (3, bx 24 [tl qA default a3]), (4, bx 33 (zZ a4)), (5, bx 3 [ci a5]), (6, bx 40 [.own 8 0 9 l16n]), (7, bx 74 [tl qG default a6]), (8, ro 0 69 9 l16n (rf qR l16))]⟩
noncomputable def YZ (ri : RI 79) (a1 : List Slice) (a2 : List Defect) (a3 : List Product) (a4 : Saw) (a5 : Int) (a6 : List Leaf) (x8 : Int) (l9 : List Yield_Cut) (l9n : Nat) : St :=
 ⟨[(0, vc (.yl (rc Tryz.f17 506 ri) ri.b [6, 7, 8, 10, 11, 17] [.bptr 1 0 0, .bptr 2 0 0, .bptr 3 0 0, .bptr 4 0 0, .bptr 5 0 0, .bptr 6 0 0])), (5, vc (tl qG default a6)), (6, vi ((a6.length : Nat) : Int)), (7, vi x8)], [(0, lq (rc Tryz.f17 506 ri) ri.b), (1, bx 22 [tl qH default a1]), (2, bx 23 [tl qI default a2]), (3, bx 24 [tl qA default a3]), (4, bx 33 (zZ a4)), (5, bx 3 [ci a5]), (6, bx 40 [.own 8 0 9 l9n]), (7, bx 74 [tl qG default a6]), (8, ro 0 69 9 l9n (rf qR l9))]⟩
noncomputable def BD (ri : RI 79) (a1 : List Slice) (a2 : List Defect) (a3 : List Product) (a4 : Saw) (a5 : Int) (a6 : List Leaf) (l17 : List Yield_Cut) : St :=
 ⟨[], [(0, lq (rc Tryz.f17 506 ri) ri.b), (1, bx 22 [tl qH default a1]), (2, bx 23 [tl qI default a2]), (3, bx 24 [tl qA default a3]), (4, bx 33 (zZ a4)), (5, bx 3 [ci a5]), (6, bx 40 [.own 8 0 9 l17.length]), (7, bx 74 [tl qG default a6]), (8, ro 0 69 9 l17.length (rf qR l17))]⟩
theorem qAW (E : Env 9) (ri : RI 79) (a1 : List Slice) (a2 : List Defect) (a3 : List Product) (a4 : Saw) (a5 : Int) (a6 : List Leaf) (a7 : List Yield_Cut) : ∀ (n : Nat) (x8 : Int) (l9 : List Yield_Cut) (l9n : Nat) (res : (Nat × (List Yield_Cut)) ⊕ (List Yield_Cut)), l9.length = l9n → zN a1 a2 a3 a4 a5 a6 n x8 l9 = some res → HL (kx E 23 8) (nd Tryz.f64 12) (wN 0 (fun o => BD ri a1 a2 a3 a4 a5 a6 o) (fun v st => RetQ Tryz.prog Tryz.f64 (RS a1 a2 a3 a4 a5 a6 a7 ri v) (PY a1 a2 a3 a4 a5 a6 a7 ri v) .ret st) res) n (YZ ri a1 a2 a3 a4 a5 a6 x8 l9 l9n) := by
 intro n
 induction n with
 | zero =>
  intro x8 l9 l9n res hl0 hm
  cases hm
 | succ n ih =>
  intro x8 l9 l9n res hl0 hm
  subst hl0
  refine qQ ?_
  refine s_vu [] 9 [] [(8, vb (decide (x8 < ((a6.length : Nat) : Int))))] [] [] ?_
  refine q_sq ?_
  refine q_cn (decide (x8 < ((a6.length : Nat) : Int))) (fun b10 => ?_) (fun b10 => ?_)
  ·replace hm := qB b10 hm
   refine q_sk ?_
   refine q_jn (ι := (List Yield_Cut) × Nat) (fun p => BQ ri a1 a2 a3 a4 a5 a6 x8 p.1 p.2) (fun p => p.1.length = p.2 ∧ WO x8 (zN a1 a2 a3 a4 a5 a6 n) p.1 = some res) ?_ ?_
   ·rintro ⟨l16, l16n⟩ ⟨el16, hm⟩
    replace el16 : l16.length = l16n := el16
    subst el16
    show H _ (BQ ri a1 a2 a3 a4 a5 a6 x8 l16 l16.length) _ _
    refine q_vu [] 10 [7] [(7, vi (w64 (x8 + 1)))] [] [] ?_
    exact q_hl (YZ ri a1 a2 a3 a4 a5 a6 (w64 (x8 + 1)) l16 l16.length) (ih (w64 (x8 + 1)) l16 l16.length _ rfl hm)
   ·refine q_bk 1 ?_
    obtain ⟨g11, hm⟩ := qM hm
    refine s_vu [qd 1 (Dir.none) (inb_of g11)] 9 [8] [(3, vi x8), (4, vp 9 0)] [] [(9, bx 78 [ci ((((a6.getD x8.toNat default).Rect).X).A), ci ((((a6.getD x8.toNat default).Rect).X).B), ci ((((a6.getD x8.toNat default).Rect).Y).A), ci ((((a6.getD x8.toNat default).Rect).Y).B), ci ((a6.getD x8.toNat default).Product)])] ?_
    refine q_sq ?_
    rcases Bool.eq_false_or_eq_true (((a6.getD x8.toNat default).Product) != (-1)) with b12 | b12
    ·replace hm := qB b12 hm
     obtain ⟨v13, h14, hm⟩ := qD hm
     refine q_vu [qf 3 b12, qd 7 (dex (cen [(0, 0), (1, 0), (2, 0), (3, 0), (4, 0), (5, 0), (6, 0), (8, 0)] [0, 0, 0, 0, 0, 0, 0, 1] 2 7 (AA x8 (a6.getD x8.toNat default) a1 a2 a3 a4 a5 l9 ri v13) (yield_Boards_rd506_o x8 (a6.getD x8.toNat default) a1 a2 a3 a4 a5 l9 ri v13) [15, 16, 17, 18] [0, 1, 2, 3, 4, 5, 6, 8])) (qAT (K := (kx E 23 8)) ⟨[(15, vb true), (16, vc (.yl (rc Tryz.f17 506 ri) ri.b [6, 7, 8, 10, 11, 17] [.bptr 1 0 0, .bptr 2 0 0, .bptr 3 0 0, .bptr 4 0 0, .bptr 5 0 0, .bptr 6 0 0])), (17, vi x8), (18, va [ci ((((a6.getD x8.toNat default).Rect).X).A), ci ((((a6.getD x8.toNat default).Rect).X).B), ci ((((a6.getD x8.toNat default).Rect).Y).A), ci ((((a6.getD x8.toNat default).Rect).Y).B), ci ((a6.getD x8.toNat default).Product)])], [(0, lq (rc Tryz.f17 506 ri) ri.b), (1, bx 22 [tl qH default a1]), (2, bx 23 [tl qI default a2]), (3, bx 24 [tl qA default a3]), (4, bx 33 (zZ a4)), (5, bx 3 [ci a5]), (6, bx 40 [.own 8 0 9 l9.length]), (8, ro 0 69 9 l9.length (rf qR l9))]⟩ (opAt (rg Tryz.f64 818) 7) [(0, 0), (1, 0), (2, 0), (3, 0), (4, 0), (5, 0), (6, 0), (8, 0)] [0, 0, 0, 0, 0, 0, 0, 1] 2 0 o0 rfl (qDx x8 (a6.getD x8.toNat default) a1 a2 a3 a4 a5 l9 ri v13 h14) (.inl rfl) (by kernel_rfl))] 10 [3, 4] [(21, vb (!(Nat.beq v13.1 0)))] [0, 6, 8, 9] [(0, lz (rc Tryz.f17 506 ri) ri.b [] v13.1), (6, bx 40 [.own 8 1 9 v13.2.length]), (8, ro 1 69 9 v13.2.length (rf qR v13.2))] ?_
     refine q_cn (!(Nat.beq v13.1 0)) (fun b15 => ?_) (fun b15 => ?_)
     ·replace hm := qB b15 hm
      obtain rfl := oi hm
      refine q_rt ?_
      refine zB (v13.1, v13.2) ?_
      exact q_rm
     ·replace hm := qC b15 hm
      refine q_fn [.lpn 0 .ready none] ⟨[(0, vc (.yl (rc Tryz.f17 506 ri) ri.b [6, 7, 8, 10, 11, 17] [.bptr 1 0 0, .bptr 2 0 0, .bptr 3 0 0, .bptr 4 0 0, .bptr 5 0 0, .bptr 6 0 0])), (5, vc (tl qG default a6)), (6, vi ((a6.length : Nat) : Int)), (7, vi x8), (21, vb (!(Nat.beq v13.1 0)))], [(0, lq (rc Tryz.f17 506 ri) ri.b), (1, bx 22 [tl qH default a1]), (2, bx 23 [tl qI default a2]), (3, bx 24 [tl qA default a3]), (4, bx 33 (zZ a4)), (5, bx 3 [ci a5]), (6, bx 40 [.own 8 1 9 v13.2.length]), (7, bx 74 [tl qG default a6]), (8, ro 1 69 9 v13.2.length (rf qR v13.2))]⟩ (o1 (qId (js := []) b15)) ?_
      refine q_sk ?_
      exact q_J (v13.2, v13.2.length) ⟨rfl, hm⟩
    ·replace hm := qC b12 hm
     refine q_vu [qf 3 b12] 10 [3, 4] [(21, vb false)] [9] [] ?_
     refine R_cnF Tryz.f64 (.tmp 21) 1638 1639 (by kernel_rfl) (by kernel_rfl) ?_
     refine q_sk ?_
     exact q_J (l9, l9.length) ⟨rfl, hm⟩
  ·replace hm := qC b10 hm
   refine q_ex 0 ?_
   obtain rfl := oi hm
   exact wR l9 (by kernel_rfl) (by kernel_rfl)
theorem qC8 (a1 : List Slice) (a2 : List Defect) (a3 : List Product) (a4 : Saw) (a5 : Int) (a6 : List Leaf) (a7 : List Yield_Cut) (ri : RI 79) (r : Nat × (List Yield_Cut)) (hm : ZY a1 a2 a3 a4 a5 a6 a7 = some r) : CtX Tryz.prog globs 64 9 8 [.one (.yl (rc Tryz.f17 506 ri) ri.b [6, 7, 8, 10, 11, 17] [.bptr 1 0 0, .bptr 2 0 0, .bptr 3 0 0, .bptr 4 0 0, .bptr 5 0 0, .bptr 6 0 0]), .one (.bptr 7 0 0)] [(0, lq (rc Tryz.f17 506 ri) ri.b), (1, bx 22 [tl qH default a1]), (2, bx 23 [tl qI default a2]), (3, bx 24 [tl qA default a3]), (4, bx 33 (zZ a4)), (5, bx 3 [ci a5]), (6, bx 40 [.own 8 0 9 a7.length]), (7, bx 74 [tl qG default a6]), (8, ro 0 69 9 a7.length (rf qR a7))] (RS a1 a2 a3 a4 a5 a6 a7 ri r) (PY a1 a2 a3 a4 a5 a6 a7 ri r) := by
 unfold ZY at hm
 refine q_E Tryz.f64 23 fun E => ?_
 refine s_vn [] 9 ⟨[(0, vc (.yl (rc Tryz.f17 506 ri) ri.b [6, 7, 8, 10, 11, 17] [.bptr 1 0 0, .bptr 2 0 0, .bptr 3 0 0, .bptr 4 0 0, .bptr 5 0 0, .bptr 6 0 0])), (5, vc (tl qG default a6)), (6, vi ((a6.length : Nat) : Int)), (7, vi 0)], [(0, lq (rc Tryz.f17 506 ri) ri.b), (1, bx 22 [tl qH default a1]), (2, bx 23 [tl qI default a2]), (3, bx 24 [tl qA default a3]), (4, bx 33 (zZ a4)), (5, bx 3 [ci a5]), (6, bx 40 [.own 8 0 9 a7.length]), (7, bx 74 [tl qG default a6]), (8, ro 0 69 9 a7.length (rf qR a7))]⟩ ?_
 obtain ⟨u20, h19, hm⟩ := qD hm
 refine zP (nd Tryz.f64 12) 0 (by kernel_rfl) FUEL (fun o => BD ri a1 a2 a3 a4 a5 a6 o) (fun v st => RetQ Tryz.prog Tryz.f64 (RS a1 a2 a3 a4 a5 a6 a7 ri v) (PY a1 a2 a3 a4 a5 a6 a7 ri v) .ret st) u20 (q_hl (YZ ri a1 a2 a3 a4 a5 a6 0 a7 a7.length) (qAW E ri a1 a2 a3 a4 a5 a6 a7 FUEL 0 a7 a7.length u20 rfl h19)) ?_ ?_
 ·rintro v21 rfl st hr
  obtain rfl := oi hm
  exact hr
 ·rintro o18 rfl
  replace hm : _ = some r := hm
  obtain rfl := oi hm
  exact q_rm
def qJ1 (r : (List Yield_Cut) × Int) : V := .tup [.one (.own 0 0 9 r.1.length), .one (ci r.2)]
def qJE (r : (List Yield_Cut) × Int) : List (Nat × (Nat × O)) := [(0, ro 0 69 9 r.1.length (rf qR r.1))]
theorem qCn (a1 : List Slice) (a2 : List Defect) (a3 : List Product) (a4 : Pattern) (a5 : Saw) (a6 : Int) (r : (List Yield_Cut) × Int) (hm : RW a1 a2 a3 a4 a5 a6 = some r) : CtX Tryz.prog globs 17 0 0 [.one (tl qH default a1), .one (tl qI default a2), .one (tl qA default a3), .agg (qF a4), .agg (zZ a5), .one (ci a6)] [] (qJ1 r) (qJE r) := by
 unfold RW at hm
 refine q_E Tryz.f17 79 fun E => ?_
 refine s_vn [] 0 ⟨[(6, vp 0 0), (7, vp 1 0), (8, vp 2 0), (9, vp 3 0), (10, vp 4 0), (11, vp 5 0)], [(0, bx 22 [tl qH default a1]), (1, bx 23 [tl qI default a2]), (2, bx 24 [tl qA default a3]), (3, bx 31 (qF a4)), (4, bx 33 (zZ a5)), (5, bx 3 [ci a6])]⟩ ?_
 refine q_sq ?_
 obtain ⟨v7, h8, hm⟩ := qD hm
 refine s_vu [qc 7 [23, 24, 25, 26, 27, 29] 6 (qDb a1 a2 a3 a4 a5 (Rates.mk 0 0 a6) v7 h8)] 6 [] [(14, vi v7)] [] [] ?_
 refine s_vu [] 6 [] [(32, vb (v7 != 0))] [] [] ?_
 refine q_cn (v7 != 0) (fun b9 => ?_) (fun b9 => ?_)
 ·replace hm := qB b9 hm
  refine s_vn [] 6 ⟨[(12, vc (.emp)), (13, vi v7)], []⟩ ?_
  refine q_fn [.own 12 6 69 9 (rf qR ([] : List Yield_Cut))] ⟨[(12, vo 6 0 9 0), (13, vi v7)], [(6, ro 0 69 9 0 (rf qR ([] : List Yield_Cut)))]⟩ o0 ?_
  refine q_fn [.len 6 (([] : List Yield_Cut).length)] ⟨[(12, vo 6 0 9 (([] : List Yield_Cut).length)), (13, vi v7)], [(6, ro 0 69 9 (([] : List Yield_Cut).length) (rf qR ([] : List Yield_Cut)))]⟩ (o1 (And.intro (show 0 = ([] : List Yield_Cut).length from rfl) (show 0 = ([] : List Yield_Cut).length from rfl))) ?_
  obtain rfl := oi hm
  refine qS 6 0 (by kernel_rfl) ?_
  refine q_rt ?_
  exact q_rm
 ·replace hm := qC b9 hm
  refine q_sk ?_
  obtain ⟨v10, h11, hm⟩ := qD hm
  refine s_vu [qc 3 [35, 37] 6 (qFQ a4 a5.Kerf v10 h11)] 6 [9, 14, 32] [(15, vo 6 0 5 v10.1.length), (16, vi v10.2)] [3] [(6, ro 0 78 5 v10.1.length (rf qG v10.1))] ?_
  refine q_sq ?_
  refine s_vu [] 7 [] [(42, vb (v10.2 != 0))] [] [] ?_
  refine q_cn (v10.2 != 0) (fun b12 => ?_) (fun b12 => ?_)
  ·replace hm := qB b12 hm
   refine s_vn [] 7 ⟨[(12, vc (.emp)), (13, vi v10.2)], []⟩ ?_
   refine q_fn [.own 12 7 69 9 (rf qR ([] : List Yield_Cut))] ⟨[(12, vo 7 0 9 0), (13, vi v10.2)], [(7, ro 0 69 9 0 (rf qR ([] : List Yield_Cut)))]⟩ o0 ?_
   refine q_fn [.len 7 (([] : List Yield_Cut).length)] ⟨[(12, vo 7 0 9 (([] : List Yield_Cut).length)), (13, vi v10.2)], [(7, ro 0 69 9 (([] : List Yield_Cut).length) (rf qR ([] : List Yield_Cut)))]⟩ (o1 (And.intro (show 0 = ([] : List Yield_Cut).length from rfl) (show 0 = ([] : List Yield_Cut).length from rfl))) ?_
   obtain rfl := oi hm
   refine qS 7 0 (by kernel_rfl) ?_
   refine q_rt ?_
   exact q_rm
  ·replace hm := qC b12 hm
   refine q_sk ?_
   refine s_vu [] 7 [16, 42] [(17, vp 7 0)] [] [(7, bx 40 [.emp])] ?_
   refine q_sq ?_
   obtain ⟨v13, h14, hm⟩ := qD hm
   refine s_vu [qd 1 (dpr [.frz 6] (dex (cen [] [] 8 0 (AL v13) (AK v13) [44] []))) (And.intro (Nat.le_refl v10.1.length) (Nat.le_refl v10.1.length)), qd 1 (Dir.none) (ZC (K := (kx E 79 0)) ⟨[(44, vc (tl qG default v10.1))], []⟩ (opAt (rg Tryz.f17 252) 1) [] [] 8 o0 rfl (qDY v10.1 v13 h14) (.inl rfl) (by kernel_rfl))] 8 [15] [(45, vc (.fn 64 [.bptr 8 0 0]))] [6] [(8, bx 74 [tl qG default v13])] ?_
   refine q_bk 0 ?_
   refine q_fn [.ownB 7 0 9 69 9 (rf qR ([] : List Yield_Cut))] ⟨[(6, vp 0 0), (7, vp 1 0), (8, vp 2 0), (10, vp 4 0), (11, vp 5 0), (17, vp 7 0), (45, vc (.fn 64 [.bptr 8 0 0]))], [(0, bx 22 [tl qH default a1]), (1, bx 23 [tl qI default a2]), (2, bx 24 [tl qA default a3]), (4, bx 33 (zZ a5)), (5, bx 3 [ci a6]), (7, bx 40 [.own 9 0 9 0]), (8, bx 74 [tl qG default v13]), (9, ro 0 69 9 0 (rf qR ([] : List Yield_Cut)))]⟩ o0 ?_
   refine q_fn [.len 9 (([] : List Yield_Cut).length)] ⟨[(6, vp 0 0), (7, vp 1 0), (8, vp 2 0), (10, vp 4 0), (11, vp 5 0), (17, vp 7 0), (45, vc (.fn 64 [.bptr 8 0 0]))], [(0, bx 22 [tl qH default a1]), (1, bx 23 [tl qI default a2]), (2, bx 24 [tl qA default a3]), (4, bx 33 (zZ a5)), (5, bx 3 [ci a6]), (7, bx 40 [.own 9 0 9 (([] : List Yield_Cut).length)]), (8, bx 74 [tl qG default v13]), (9, ro 0 69 9 (([] : List Yield_Cut).length) (rf qR ([] : List Yield_Cut)))]⟩ (o1 (And.intro (show 0 = ([] : List Yield_Cut).length from rfl) (show 0 = ([] : List Yield_Cut).length from rfl))) ?_
   obtain ⟨v15, h16, hm⟩ := qD hm
   refine q_rf (.tmp 45) [6, 7, 8, 10, 11, 17] 10 [(10, 0), (0, 0), (1, 0), (2, 0), (4, 0), (5, 0), (7, 0), (8, 0), (9, 0)] [0, 0, 0, 0, 0, 0, 0, 0, 1] 2 8 [] v15.1 0 ⟨[(17, vp 7 0)], [(7, bx 40 [.own 9 0 9 v15.2.length]), (9, ro 0 69 9 v15.2.length (rf qR v15.2))]⟩ (fun ri => qC8 a1 a2 a3 a5 a6 v13 ([] : List Yield_Cut) ri v15 h16) ?_
   rcases Bool.eq_false_or_eq_true (Nat.beq v15.1 0) with b17 | b17
   ·replace hm := qB b17 hm
    refine JQ_n b17 ?_
    refine s_vu [] 11 [17] [(12, vo 9 0 9 v15.2.length), (13, vi 0)] [7] [] ?_
    obtain rfl := oi hm
    refine qS 9 0 (by kernel_rfl) ?_
    refine q_rt ?_
    exact q_rm
   ·replace hm := qC b17 hm
    cases hm
noncomputable def TS (a1 : Int) (a2 : Pattern_place) (a3 : Pattern) (a4 : Int) (a5 : List Rect) (ri : RI 47) (r : Nat × (List Rect)) : V := vb (Nat.beq r.1 0)
noncomputable def UE (a1 : Int) (a2 : Pattern_place) (a3 : Pattern) (a4 : Int) (a5 : List Rect) (ri : RI 47) (r : Nat × (List Rect)) : List (Nat × (Nat × O)) := [(0, lz (rc Tryz.f46 122 ri) ri.b [] r.1), (1, bx 31 (qF a3)), (2, bx 3 [ci a4]), (3, bx 82 [.own 4 0 4 r.2.length]), (4, ro 0 28 4 r.2.length (rf qE r.2))]
theorem SC (a1 : Int) (a2 : Pattern_place) (a3 : Pattern) (a4 : Int) (a5 : List Rect) (ri : RI 47) (r : Nat × (List Rect)) (hm : jT a1 a2 a3 a4 a5 = some r) : CtR Tryz.prog globs (rc Tryz.f46 122 ri) ri.b [2, 3, 7] 5 4 [.one (ci a1), .agg (e_Pattern_place a2), .one (.bptr 1 0 0), .one (.bptr 2 0 0), .one (.bptr 3 0 0)] [(0, lq (rc Tryz.f46 122 ri) ri.b), (1, bx 31 (qF a3)), (2, bx 3 [ci a4]), (3, bx 82 [.own 4 0 4 a5.length]), (4, ro 0 28 4 a5.length (rf qE a5))] (TS a1 a2 a3 a4 a5 ri r) (UE a1 a2 a3 a4 a5 ri r) := by
 unfold jT at hm
 refine q_R Tryz.f46 122 47 ri fun E => ?_
 refine q_sq ?_
 refine q_vn [] 5 ⟨[(2, vp 1 0), (3, vp 2 0), (7, vp 3 0), (8, vi a1), (24, va (e_Pattern_place a2))], [(0, lq (rc Tryz.f46 122 ri) ri.b), (1, bx 31 (qF a3)), (2, bx 3 [ci a4]), (3, bx 82 [.own 4 0 4 a5.length]), (4, ro 0 28 4 a5.length (rf qE a5))]⟩ ?_
 refine q_vu [] 5 [24] [(9, vp 5 0)] [] [(5, bx 123 (e_Pattern_place a2))] ?_
 refine q_rd ⟨[(2, vp 1 0), (3, vp 2 0), (7, vp 3 0), (8, vi a1), (9, vp 5 0)], [(0, ly (rc Tryz.f46 122 ri) ri.b), (1, bx 31 (qF a3)), (2, bx 3 [ci a4]), (3, bx 82 [.own 4 0 4 a5.length]), (4, ro 0 28 4 a5.length (rf qE a5)), (5, bx 123 (e_Pattern_place a2))]⟩ ?_
 refine q_bk 1 ?_
 refine q_sq ?_
 obtain ⟨g6, hm⟩ := qM hm
 refine q_vu [qd 3 (Dir.none) (inb_of g6)] 6 [2, 8] [(10, vp 6 0)] [] [(6, bx 65 [ci ((a3.Nodes.getD a1.toNat default).Kind), ci ((a3.Nodes.getD a1.toNat default).At)])] ?_
 refine q_sq ?_
 obtain ⟨v7, h8, hm⟩ := qD hm
 refine q_vu [qc 2 [31] 7 (WC ((a3.Nodes.getD a1.toNat default).Kind) v7 h8)] 7 [] [(32, vb v7)] [] [] ?_
 refine q_cn v7 (fun b9 => ?_) (fun b9 => ?_)
 ·replace hm := qB b9 hm
  refine q_sq ?_
  obtain ⟨v10, h11, hm⟩ := qD hm
  refine q_vu [qc 4 [35, 36, 37] 7 (XG a2.rect (a3.Nodes.getD a1.toNat default) a4 v10 h11)] 7 [3, 9, 10, 32] [(12, vp 8 0)] [5, 6] [(8, bx 28 (qE v10.2.1))] ?_
  obtain ⟨g12, hm⟩ := qM hm
  refine q_wu [qd 2 (drw 10 0 (rf qE ([v10.2.1] : List Rect))) (litP qE default 4 (fun _ => rfl) ([v10.2.1] : List Rect) 1 rfl), qd 3 (drw 4 1 (rf qE (a5 ++ ([v10.2.1] : List Rect)))) (apP qE default a5 ([v10.2.1] : List Rect) a5.length 1 4 32 (1 ≤ 1) (Nat.le_refl _) rfl rfl (fun _ => rfl) (wV g12))] [.len 4 ((a5 ++ ([v10.2.1] : List Rect)).length)] (o1 (And.intro (Eq.symm (show (a5 ++ ([v10.2.1] : List Rect)).length = (a5.length + 1) from (len_app rfl rfl))) (And.intro (Eq.symm (show (a5 ++ ([v10.2.1] : List Rect)).length = (a5.length + 1) from (len_app rfl rfl))) (Eq.symm (show (a5 ++ ([v10.2.1] : List Rect)).length = (a5.length + 1) from (len_app rfl rfl)))))) 10 [7, 12] [] [3, 4, 8] [(3, bx 82 [.own 4 1 4 ((a5 ++ ([v10.2.1] : List Rect)).length)]), (4, ro 1 28 4 ((a5 ++ ([v10.2.1] : List Rect)).length) (rf qE (a5 ++ ([v10.2.1] : List Rect))))] ?_
  obtain rfl := oi hm
  exact q_rq
 ·replace hm := qC b9 hm
  refine q_sk ?_
  obtain rfl := oi hm
  exact q_rq
noncomputable def RT (a1 : Pattern) (a2 : Int) (a3 : Pattern) (a4 : Int) (a5 : List Rect) (ri : RI 47) (r : Nat × (List Rect)) : V := .undef
noncomputable def RY (a1 : Pattern) (a2 : Int) (a3 : Pattern) (a4 : Int) (a5 : List Rect) (ri : RI 47) (r : Nat × (List Rect)) : List (Nat × (Nat × O)) := [(0, lz (rc Tryz.f46 122 ri) ri.b [] r.1), (1, bx 31 (qF a1)), (2, bx 3 [ci a2]), (3, bx 82 [.own 6 0 4 r.2.length]), (4, bx 31 (qF a3)), (5, bx 3 [ci a4]), (6, ro 0 28 4 r.2.length (rf qE r.2))]
noncomputable def NG (ri : RI 47) (a1 : Pattern) (a2 : Int) (a3 : Pattern) (a4 : Int) (x7 : Int) (l23 : List Pattern_place) (l23n : Nat) (l24 : List Rect) (l24n : Nat) : St :=
 ⟨[(0, vc (.yl (rc Tryz.f46 122 ri) ri.b [2, 3, 7] [.bptr 1 0 0, .bptr 2 0 0, .bptr 3 0 0])), (1, vp 4 0), (2, vp 5 0), (4, vo 7 0 5 l23n), (5, vi x7)], [(0, lq (rc Tryz.f46 122 ri) ri.b), (1, bx 31 (qF a1)), (2, bx 3 [ci a2]), (3, bx 82 [.own 6 0 4 l24n]), (4, bx 31 (qF a3)), (5, bx 3 [ci a4]), (6, ro 0 28 4 l24n (rf qE l24)), (7, ro 0 123 5 l23n (rf e_Pattern_place l23))]⟩
noncomputable def YY (ri : RI 47) (a1 : Pattern) (a2 : Int) (a3 : Pattern) (a4 : Int) (l6 : List Pattern_place) (l6n : Nat) (x7 : Int) (l8 : List Rect) (l8n : Nat) : St :=
 ⟨[(0, vc (.yl (rc Tryz.f46 122 ri) ri.b [2, 3, 7] [.bptr 1 0 0, .bptr 2 0 0, .bptr 3 0 0])), (1, vp 4 0), (2, vp 5 0), (4, vo 7 0 5 l6n), (5, vi x7)], [(0, lq (rc Tryz.f46 122 ri) ri.b), (1, bx 31 (qF a1)), (2, bx 3 [ci a2]), (3, bx 82 [.own 6 0 4 l8n]), (4, bx 31 (qF a3)), (5, bx 3 [ci a4]), (6, ro 0 28 4 l8n (rf qE l8)), (7, ro 0 123 5 l6n (rf e_Pattern_place l6))]⟩
noncomputable def BU (ri : RI 47) (a1 : Pattern) (a2 : Int) (a3 : Pattern) (a4 : Int) (l25 : List Rect) : St :=
 ⟨[], [(0, lq (rc Tryz.f46 122 ri) ri.b), (1, bx 31 (qF a1)), (2, bx 3 [ci a2]), (3, bx 82 [.own 6 0 4 l25.length]), (4, bx 31 (qF a3)), (5, bx 3 [ci a4]), (6, ro 0 28 4 l25.length (rf qE l25))]⟩
theorem qAU (E : Env 7) (ri : RI 47) (a1 : Pattern) (a2 : Int) (a3 : Pattern) (a4 : Int) (a5 : List Rect) : ∀ (n : Nat) (l6 : List Pattern_place) (l6n : Nat) (x7 : Int) (l8 : List Rect) (l8n : Nat) (res : (Nat × (List Rect)) ⊕ (List Rect)), l6.length = l6n → l8.length = l8n → wI a1 a2 a3 a4 n l6 x7 l8 = some res → HL (kx E 73 6) (nd Tryz.f102 28) (wN 0 (fun o => BU ri a1 a2 a3 a4 o) (fun v st => RetQ Tryz.prog Tryz.f102 (RT a1 a2 a3 a4 a5 ri v) (RY a1 a2 a3 a4 a5 ri v) .ret st) res) n (YY ri a1 a2 a3 a4 l6 l6n x7 l8 l8n) := by
 intro n
 induction n with
 | zero =>
  intro l6 l6n x7 l8 l8n res hl0 hl1 hm
  cases hm
 | succ n ih =>
  intro l6 l6n x7 l8 l8n res hl0 hl1 hm
  subst hl0
  subst hl1
  refine qQ ?_
  refine q_sq ?_
  refine s_vu [] 8 [] [(17, vb (decide (((l6.length : Nat) : Int) > 0)))] [] [] ?_
  refine q_cn (decide (((l6.length : Nat) : Int) > 0)) (fun b9 => ?_) (fun b9 => ?_)
  ·replace hm := qB b9 hm
   refine q_sk ?_
   refine q_jn (ι := (List Pattern_place) × Nat × (List Rect) × Nat) (fun p => NG ri a1 a2 a3 a4 x7 p.1 p.2.1 p.2.2.1 p.2.2.2) (fun p => p.1.length = p.2.1 ∧ p.2.2.1.length = p.2.2.2 ∧ WV x7 (wI a1 a2 a3 a4 n) p.1 p.2.2.1 = some res) ?_ ?_
   ·rintro ⟨l23, l23n, l24, l24n⟩ ⟨el23, el24, hm⟩
    replace el23 : l23.length = l23n := el23
    subst el23
    replace el24 : l24.length = l24n := el24
    subst el24
    show H _ (NG ri a1 a2 a3 a4 x7 l23 l23.length l24 l24.length) _ _
    refine q_vu [] 14 [5] [(5, vi (w64 (x7 + 1)))] [] [] ?_
    exact q_hl (YY ri a1 a2 a3 a4 l23 l23.length (w64 (x7 + 1)) l24 l24.length) (ih l23 l23.length (w64 (x7 + 1)) l24 l24.length _ rfl rfl hm)
   ·refine q_bk 1 ?_
    obtain ⟨g10, hm⟩ := qM hm
    refine s_vu [qd 4 (Dir.none) (inb_of g10), qd 5 (Dir.none) (toNat_lt (inb_of g10))] 8 [17] [(6, vp 8 0)] [] [(8, bx 123 [ci ((((l6.getD ((w64 (((l6.length : Nat) : Int) - 1)).toNat) default).rect).X).A), ci ((((l6.getD ((w64 (((l6.length : Nat) : Int) - 1)).toNat) default).rect).X).B), ci ((((l6.getD ((w64 (((l6.length : Nat) : Int) - 1)).toNat) default).rect).Y).A), ci ((((l6.getD ((w64 (((l6.length : Nat) : Int) - 1)).toNat) default).rect).Y).B), ci ((l6.getD ((w64 (((l6.length : Nat) : Int) - 1)).toNat) default).level)])] ?_
    obtain ⟨g11, hm⟩ := qM hm
    refine s_wu [qd 4 (Dir.none) (And.intro (slOk_of g11).2.1 (slOk_of g11).2.2)] [.row 7 ((w64 (((l6.length : Nat) : Int) - 1)).toNat) (rf e_Pattern_place (l6.take ((w64 (((l6.length : Nat) : Int) - 1)).toNat)))] (o1 (tkP e_Pattern_place default l6 l6.length ((w64 (((l6.length : Nat) : Int) - 1)).toNat) (show (w64 (((l6.length : Nat) : Int) - 1)).toNat ≤ l6.length by have := (slOk_of g11); omega))) 9 [4] [(4, vo 7 0 5 ((w64 (((l6.length : Nat) : Int) - 1)).toNat))] [7] [(7, ro 0 123 5 ((w64 (((l6.length : Nat) : Int) - 1)).toNat) (rf e_Pattern_place (l6.take ((w64 (((l6.length : Nat) : Int) - 1)).toNat))))] ?_
    refine q_sq ?_
    refine q_sq ?_
    obtain ⟨v12, h13, hm⟩ := qD hm
    rcases Bool.eq_false_or_eq_true (!(Nat.beq v12.1 0)) with b14 | b14
    ·replace hm := qB b14 hm
     refine q_vu [qd 3 (dex (cen [(0, 0), (1, 0), (2, 0), (3, 0), (6, 0)] [0, 0, 0, 0, 1] 4 4 (TS x7 (l6.getD ((w64 (((l6.length : Nat) : Int) - 1)).toNat) default) a1 a2 l8 ri v12) (UE x7 (l6.getD ((w64 (((l6.length : Nat) : Int) - 1)).toNat) default) a1 a2 l8 ri v12) [31, 32, 33] [0, 1, 2, 3, 6])) (qAT (K := (kx E 73 6)) ⟨[(31, vc (.yl (rc Tryz.f46 122 ri) ri.b [2, 3, 7] [.bptr 1 0 0, .bptr 2 0 0, .bptr 3 0 0])), (32, vi x7), (33, va [ci ((((l6.getD ((w64 (((l6.length : Nat) : Int) - 1)).toNat) default).rect).X).A), ci ((((l6.getD ((w64 (((l6.length : Nat) : Int) - 1)).toNat) default).rect).X).B), ci ((((l6.getD ((w64 (((l6.length : Nat) : Int) - 1)).toNat) default).rect).Y).A), ci ((((l6.getD ((w64 (((l6.length : Nat) : Int) - 1)).toNat) default).rect).Y).B), ci ((l6.getD ((w64 (((l6.length : Nat) : Int) - 1)).toNat) default).level)])], [(0, lq (rc Tryz.f46 122 ri) ri.b), (1, bx 31 (qF a1)), (2, bx 3 [ci a2]), (3, bx 82 [.own 6 0 4 l8.length]), (6, ro 0 28 4 l8.length (rf qE l8))]⟩ (opAt (rg Tryz.f102 3660) 3) [(0, 0), (1, 0), (2, 0), (3, 0), (6, 0)] [0, 0, 0, 0, 1] 4 0 o0 rfl (SC x7 (l6.getD ((w64 (((l6.length : Nat) : Int) - 1)).toNat) default) a1 a2 l8 ri v12 h13) (.inl rfl) (by kernel_rfl)), qf 5 b14] 9 [] [(42, vb true)] [0, 3, 6] [(0, lz (rc Tryz.f46 122 ri) ri.b [] v12.1), (3, bx 82 [.own 6 1 4 v12.2.length]), (6, ro 1 28 4 v12.2.length (rf qE v12.2))] ?_
     refine qLW Tryz.f102 (.tmp 42) 7322 7323 (by kernel_rfl) (by kernel_rfl) ?_
     obtain rfl := oi hm
     refine q_rt ?_
     refine zB (v12.1, v12.2) ?_
     exact q_rm
    ·replace hm := qC b14 hm
     refine q_wu [qd 3 (dex (cen [(0, 0), (1, 0), (2, 0), (3, 0), (6, 0)] [0, 0, 0, 0, 1] 4 4 (TS x7 (l6.getD ((w64 (((l6.length : Nat) : Int) - 1)).toNat) default) a1 a2 l8 ri v12) (UE x7 (l6.getD ((w64 (((l6.length : Nat) : Int) - 1)).toNat) default) a1 a2 l8 ri v12) [31, 32, 33] [0, 1, 2, 3, 6])) (qAT (K := (kx E 73 6)) ⟨[(31, vc (.yl (rc Tryz.f46 122 ri) ri.b [2, 3, 7] [.bptr 1 0 0, .bptr 2 0 0, .bptr 3 0 0])), (32, vi x7), (33, va [ci ((((l6.getD ((w64 (((l6.length : Nat) : Int) - 1)).toNat) default).rect).X).A), ci ((((l6.getD ((w64 (((l6.length : Nat) : Int) - 1)).toNat) default).rect).X).B), ci ((((l6.getD ((w64 (((l6.length : Nat) : Int) - 1)).toNat) default).rect).Y).A), ci ((((l6.getD ((w64 (((l6.length : Nat) : Int) - 1)).toNat) default).rect).Y).B), ci ((l6.getD ((w64 (((l6.length : Nat) : Int) - 1)).toNat) default).level)])], [(0, lq (rc Tryz.f46 122 ri) ri.b), (1, bx 31 (qF a1)), (2, bx 3 [ci a2]), (3, bx 82 [.own 6 0 4 l8.length]), (6, ro 0 28 4 l8.length (rf qE l8))]⟩ (opAt (rg Tryz.f102 3660) 3) [(0, 0), (1, 0), (2, 0), (3, 0), (6, 0)] [0, 0, 0, 0, 1] 4 0 o0 rfl (SC x7 (l6.getD ((w64 (((l6.length : Nat) : Int) - 1)).toNat) default) a1 a2 l8 ri v12 h13) (.inl rfl) (by kernel_rfl)), qf 5 b14] [.lpn 0 .ready none] (o1 (qId (js := []) b14)) 9 [] [(42, vb (decide (x7 ≥ ((a3.Nodes.length : Nat) : Int))))] [3, 6] [(3, bx 82 [.own 6 1 4 v12.2.length]), (6, ro 1 28 4 v12.2.length (rf qE v12.2))] ?_
     refine q_cn (decide (x7 ≥ ((a3.Nodes.length : Nat) : Int))) (fun b15 => ?_) (fun b15 => ?_)
     ·replace hm := qB b15 hm
      obtain rfl := oi hm
      refine q_rt ?_
      refine zB (0, v12.2) ?_
      exact q_rm
     ·replace hm := qC b15 hm
      refine q_sk ?_
      obtain ⟨g16, hm⟩ := qM hm
      refine s_vu [qd 3 (Dir.none) (inb_of g16)] 9 [42] [(7, vp 9 0)] [] [(9, bx 65 [ci ((a3.Nodes.getD x7.toNat default).Kind), ci ((a3.Nodes.getD x7.toNat default).At)])] ?_
      obtain ⟨v17, h18, hm⟩ := qD hm
      refine s_vu [qc 2 [49] 10 (WC ((a3.Nodes.getD x7.toNat default).Kind) v17 h18)] 10 [] [(50, vb v17)] [] [] ?_
      refine q_cn v17 (fun b19 => ?_) (fun b19 => ?_)
      ·replace hm := qB b19 hm
       obtain ⟨v20, h21, hm⟩ := qD hm
       refine s_vu [qc 4 [53, 54, 55] 10 (XG ((l6.getD ((w64 (((l6.length : Nat) : Int) - 1)).toNat) default).rect) (a3.Nodes.getD x7.toNat default) a4 v20 h21)] 10 [7, 50] [(8, vp 10 0), (10, vp 12 0)] [9] [(10, bx 28 (qE v20.1)), (12, bx 28 (qE v20.2.2))] ?_
       obtain ⟨g22, hm⟩ := qM hm
       refine q_vu [qd 11 (drw 13 0 (rf e_Pattern_place ([(Pattern_place.mk v20.2.2 (w64 (((l6.getD ((w64 (((l6.length : Nat) : Int) - 1)).toNat) default).level) + 1))), (Pattern_place.mk v20.1 (w64 (((l6.getD ((w64 (((l6.length : Nat) : Int) - 1)).toNat) default).level) + 1)))] : List Pattern_place))) (litP e_Pattern_place default 5 (fun _ => rfl) ([(Pattern_place.mk v20.2.2 (w64 (((l6.getD ((w64 (((l6.length : Nat) : Int) - 1)).toNat) default).level) + 1))), (Pattern_place.mk v20.1 (w64 (((l6.getD ((w64 (((l6.length : Nat) : Int) - 1)).toNat) default).level) + 1)))] : List Pattern_place) 2 rfl), qd 12 (drw 7 1 (rf e_Pattern_place ((l6.take ((w64 (((l6.length : Nat) : Int) - 1)).toNat)) ++ ([(Pattern_place.mk v20.2.2 (w64 (((l6.getD ((w64 (((l6.length : Nat) : Int) - 1)).toNat) default).level) + 1))), (Pattern_place.mk v20.1 (w64 (((l6.getD ((w64 (((l6.length : Nat) : Int) - 1)).toNat) default).level) + 1)))] : List Pattern_place)))) (apP e_Pattern_place default (l6.take ((w64 (((l6.length : Nat) : Int) - 1)).toNat)) ([(Pattern_place.mk v20.2.2 (w64 (((l6.getD ((w64 (((l6.length : Nat) : Int) - 1)).toNat) default).level) + 1))), (Pattern_place.mk v20.1 (w64 (((l6.getD ((w64 (((l6.length : Nat) : Int) - 1)).toNat) default).level) + 1)))] : List Pattern_place) ((w64 (((l6.length : Nat) : Int) - 1)).toNat) 2 5 40 (2 ≤ 2) (Nat.le_refl _) (JY rfl (show (w64 (((l6.length : Nat) : Int) - 1)).toNat ≤ l6.length by have := (slOk_of g11); omega)) rfl (fun _ => rfl) (wV g22))] 13 [4, 6, 8, 10] [(4, vo 7 1 5 ((w64 (((l6.length : Nat) : Int) - 1)).toNat + 2))] [7, 8, 10, 12] [(7, ro 1 123 5 ((w64 (((l6.length : Nat) : Int) - 1)).toNat + 2) (rf e_Pattern_place ((l6.take ((w64 (((l6.length : Nat) : Int) - 1)).toNat)) ++ ([(Pattern_place.mk v20.2.2 (w64 (((l6.getD ((w64 (((l6.length : Nat) : Int) - 1)).toNat) default).level) + 1))), (Pattern_place.mk v20.1 (w64 (((l6.getD ((w64 (((l6.length : Nat) : Int) - 1)).toNat) default).level) + 1)))] : List Pattern_place))))] ?_
       exact q_J (((l6.take ((w64 (((l6.length : Nat) : Int) - 1)).toNat)) ++ ([(Pattern_place.mk v20.2.2 (w64 (((l6.getD ((w64 (((l6.length : Nat) : Int) - 1)).toNat) default).level) + 1))), (Pattern_place.mk v20.1 (w64 (((l6.getD ((w64 (((l6.length : Nat) : Int) - 1)).toNat) default).level) + 1)))] : List Pattern_place)), ((w64 (((l6.length : Nat) : Int) - 1)).toNat + 2), v12.2, v12.2.length) ⟨(len_app (JY rfl (show (w64 (((l6.length : Nat) : Int) - 1)).toNat ≤ l6.length by have := (slOk_of g11); omega)) rfl), rfl, hm⟩
      ·replace hm := qC b19 hm
       refine q_sk ?_
       exact q_J ((l6.take ((w64 (((l6.length : Nat) : Int) - 1)).toNat)), (w64 (((l6.length : Nat) : Int) - 1)).toNat, v12.2, v12.2.length) ⟨(JY rfl (show (w64 (((l6.length : Nat) : Int) - 1)).toNat ≤ l6.length by have := (slOk_of g11); omega)), rfl, hm⟩
  ·replace hm := qC b9 hm
   refine q_ex 0 ?_
   obtain rfl := oi hm
   exact wR l8 (by kernel_rfl) (by kernel_rfl)
theorem qCW (a1 : Pattern) (a2 : Int) (a3 : Pattern) (a4 : Int) (a5 : List Rect) (ri : RI 47) (r : Nat × (List Rect)) (hm : ZX a1 a2 a3 a4 a5 = some r) : CtX Tryz.prog globs 102 7 6 [.one (.yl (rc Tryz.f46 122 ri) ri.b [2, 3, 7] [.bptr 1 0 0, .bptr 2 0 0, .bptr 3 0 0]), .one (.bptr 4 0 0), .one (.bptr 5 0 0)] [(0, lq (rc Tryz.f46 122 ri) ri.b), (1, bx 31 (qF a1)), (2, bx 3 [ci a2]), (3, bx 82 [.own 6 0 4 a5.length]), (4, bx 31 (qF a3)), (5, bx 3 [ci a4]), (6, ro 0 28 4 a5.length (rf qE a5))] (RT a1 a2 a3 a4 a5 ri r) (RY a1 a2 a3 a4 a5 ri r) := by
 unfold ZX at hm
 refine q_E Tryz.f102 73 fun E => ?_
 refine s_vn [qd 3 (drw 7 0 (rf e_Pattern_place ([(Pattern_place.mk a3.Frame 1)] : List Pattern_place))) (litP e_Pattern_place default 5 (fun _ => rfl) ([(Pattern_place.mk a3.Frame 1)] : List Pattern_place) 1 rfl)] 7 ⟨[(0, vc (.yl (rc Tryz.f46 122 ri) ri.b [2, 3, 7] [.bptr 1 0 0, .bptr 2 0 0, .bptr 3 0 0])), (1, vp 4 0), (2, vp 5 0), (4, vo 7 0 5 1)], [(0, lq (rc Tryz.f46 122 ri) ri.b), (1, bx 31 (qF a1)), (2, bx 3 [ci a2]), (3, bx 82 [.own 6 0 4 a5.length]), (4, bx 31 (qF a3)), (5, bx 3 [ci a4]), (6, ro 0 28 4 a5.length (rf qE a5)), (7, ro 0 123 5 1 (rf e_Pattern_place ([(Pattern_place.mk a3.Frame 1)] : List Pattern_place)))]⟩ ?_
 refine s_vu [] 8 [] [(5, vi 0)] [] [] ?_
 obtain ⟨u28, h27, hm⟩ := qD hm
 refine zP (nd Tryz.f102 28) 0 (by kernel_rfl) FUEL (fun o => BU ri a1 a2 a3 a4 o) (fun v st => RetQ Tryz.prog Tryz.f102 (RT a1 a2 a3 a4 a5 ri v) (RY a1 a2 a3 a4 a5 ri v) .ret st) u28 (q_hl (YY ri a1 a2 a3 a4 ([(Pattern_place.mk a3.Frame 1)] : List Pattern_place) 1 0 a5 a5.length) (qAU E ri a1 a2 a3 a4 a5 FUEL ([(Pattern_place.mk a3.Frame 1)] : List Pattern_place) 1 0 a5 a5.length u28 rfl rfl h27)) ?_ ?_
 ·rintro v29 rfl st hr
  obtain rfl := oi hm
  exact hr
 ·rintro o26 rfl
  replace hm : _ = some r := hm
  obtain rfl := oi hm
  exact q_rm
def qIN (r : (List Rect) × Int) : V := .tup [.one (.own 0 0 4 r.1.length), .one (ci r.2)]
def qJe (r : (List Rect) × Int) : List (Nat × (Nat × O)) := [(0, ro 0 28 4 r.1.length (rf qE r.1))]
theorem qHB (a1 : Pattern) (a2 : Int) (r : (List Rect) × Int) (hm : NK a1 a2 = some r) : CtX Tryz.prog globs 46 0 0 [.agg (qF a1), .one (ci a2)] [] (qIN r) (qJe r) := by
 unfold NK at hm
 refine q_E Tryz.f46 47 fun E => ?_
 refine s_vn [] 0 ⟨[(2, vp 0 0), (3, vp 1 0)], [(0, bx 31 (qF a1)), (1, bx 3 [ci a2])]⟩ ?_
 refine q_sq ?_
 obtain ⟨v3, h4, hm⟩ := qD hm
 refine s_vu [qk 2 [14, 15] 2 ⟨[(14, va (qF a1)), (15, vi a2)], []⟩ (AC a1 a2 v3 h4)] 2 [] [(6, vi v3)] [] [] ?_
 refine s_vu [] 2 [] [(18, vb (v3 != 0))] [] [] ?_
 refine q_cn (v3 != 0) (fun b5 => ?_) (fun b5 => ?_)
 ·replace hm := qB b5 hm
  refine s_vn [] 2 ⟨[(4, vc (.emp)), (5, vi v3)], []⟩ ?_
  refine q_fn [.own 4 2 28 4 (rf qE ([] : List Rect))] ⟨[(4, vo 2 0 4 0), (5, vi v3)], [(2, ro 0 28 4 0 (rf qE ([] : List Rect)))]⟩ o0 ?_
  refine q_fn [.len 2 (([] : List Rect).length)] ⟨[(4, vo 2 0 4 (([] : List Rect).length)), (5, vi v3)], [(2, ro 0 28 4 (([] : List Rect).length) (rf qE ([] : List Rect)))]⟩ (o1 (And.intro (show 0 = ([] : List Rect).length from rfl) (show 0 = ([] : List Rect).length from rfl))) ?_
  obtain rfl := oi hm
  refine qS 2 0 (by kernel_rfl) ?_
  refine q_rt ?_
  exact q_rm
 ·replace hm := qC b5 hm
  refine q_sk ?_
  refine s_vu [] 2 [6, 18] [(7, vp 2 0)] [] [(2, bx 82 [.emp])] ?_
  refine q_sq ?_
  obtain ⟨v6, h7, hm⟩ := qD hm
  refine s_vu [qc 2 [20, 21] 3 (PU a1 a2 v6 h7)] 3 [] [(22, vc (.fn 102 [.bptr 3 0 0, .bptr 4 0 0]))] [] [(3, bx 31 (qF v6.1)), (4, bx 3 [ci v6.2])] ?_
  refine q_bk 0 ?_
  refine q_fn [.ownB 2 0 5 28 4 (rf qE ([] : List Rect))] ⟨[(2, vp 0 0), (3, vp 1 0), (7, vp 2 0), (22, vc (.fn 102 [.bptr 3 0 0, .bptr 4 0 0]))], [(0, bx 31 (qF a1)), (1, bx 3 [ci a2]), (2, bx 82 [.own 5 0 4 0]), (3, bx 31 (qF v6.1)), (4, bx 3 [ci v6.2]), (5, ro 0 28 4 0 (rf qE ([] : List Rect)))]⟩ o0 ?_
  refine q_fn [.len 5 (([] : List Rect).length)] ⟨[(2, vp 0 0), (3, vp 1 0), (7, vp 2 0), (22, vc (.fn 102 [.bptr 3 0 0, .bptr 4 0 0]))], [(0, bx 31 (qF a1)), (1, bx 3 [ci a2]), (2, bx 82 [.own 5 0 4 (([] : List Rect).length)]), (3, bx 31 (qF v6.1)), (4, bx 3 [ci v6.2]), (5, ro 0 28 4 (([] : List Rect).length) (rf qE ([] : List Rect)))]⟩ (o1 (And.intro (show 0 = ([] : List Rect).length from rfl) (show 0 = ([] : List Rect).length from rfl))) ?_
  obtain ⟨v8, h9, hm⟩ := qD hm
  refine q_rf (.tmp 22) [2, 3, 7] 6 [(6, 0), (0, 0), (1, 0), (2, 0), (3, 0), (4, 0), (5, 0)] [0, 0, 0, 0, 0, 0, 1] 0 6 [] v8.1 0 ⟨[(7, vp 2 0)], [(2, bx 82 [.own 5 0 4 v8.2.length]), (5, ro 0 28 4 v8.2.length (rf qE v8.2))]⟩ (fun ri => qCW a1 a2 v6.1 v6.2 ([] : List Rect) ri v8 h9) ?_
  rcases Bool.eq_false_or_eq_true (Nat.beq v8.1 0) with b10 | b10
  ·replace hm := qB b10 hm
   refine JQ_n b10 ?_
   refine s_vu [] 7 [7] [(4, vo 5 0 4 v8.2.length), (5, vi 0)] [2] [] ?_
   obtain rfl := oi hm
   refine qS 5 0 (by kernel_rfl) ?_
   refine q_rt ?_
   exact q_rm
  ·replace hm := qC b10 hm
   cases hm
def qJp (r : Int) : V := vi r
def qIR (r : Int) : List (Nat × (Nat × O)) := []
def LK (v2 : qK) (x4 : Int) (x5 : Int) : St :=
 ⟨[(3, vi x4), (8, vc (tl e_Span default v2.Rows)), (9, vi ((v2.Rows.length : Nat) : Int)), (10, vi x5)], []⟩
def qAA (x10 : Int) : St :=
 ⟨[(3, vi x10)], []⟩
theorem qFf (E : Env 0) (v2 : qK) : ∀ (n : Nat) (x4 : Int) (x5 : Int) (res : Int), JO v2 n x4 x5 = some res → HL (kx E 21 0) (nd Tryz.f84 116) (wC 0 (fun o => qAA o) res) n (LK v2 x4 x5) := by
 intro n
 induction n with
 | zero =>
  intro x4 x5 res hm
  cases hm
 | succ n ih =>
  intro x4 x5 res hm
  refine qQ ?_
  refine s_vu [] 1 [] [(11, vb (decide (x5 < ((v2.Rows.length : Nat) : Int))))] [] [] ?_
  refine q_sq ?_
  refine q_cn (decide (x5 < ((v2.Rows.length : Nat) : Int))) (fun b6 => ?_) (fun b6 => ?_)
  ·replace hm := qB b6 hm
   refine q_sk ?_
   refine q_sq ?_
   refine q_bk 1 ?_
   obtain ⟨g7, hm⟩ := qM hm
   refine s_vu [qd 0 (Dir.none) (inb_of g7)] 1 [11] [(5, vp 1 0)] [] [(1, bx 26 [ci ((v2.Rows.getD x5.toNat default).A), ci ((v2.Rows.getD x5.toNat default).B)])] ?_
   obtain ⟨v8, h9, hm⟩ := qD hm
   refine q_vu [qc 2 [15] 2 (VX (v2.Rows.getD x5.toNat default) v8 h9)] 2 [3, 5] [(3, vi (w64 (x4 + v8)))] [1] [] ?_
   refine q_vu [] 2 [10] [(10, vi (w64 (x5 + 1)))] [] [] ?_
   exact q_hl (LK v2 (w64 (x4 + v8)) (w64 (x5 + 1))) (ih (w64 (x4 + v8)) (w64 (x5 + 1)) _ hm)
  ·replace hm := qC b6 hm
   refine q_ex 0 ?_
   obtain rfl := oi hm
   exact jP (by kernel_rfl) (by kernel_rfl)
theorem qHt (a1 : qK) (r : Int) (hm : BJ a1 = some r) : CtX Tryz.prog globs 84 0 0 [.agg (qW a1)] [] (qJp r) (qIR r) := by
 unfold BJ at hm
 refine q_E Tryz.f84 21 fun E => ?_
 refine s_vn [] 0 ⟨[(1, vp 0 0)], [(0, bx 57 (qW a1))]⟩ ?_
 refine s_vu [] 1 [] [(3, vi 0)] [] [] ?_
 refine q_sq ?_
 obtain ⟨v2, h3, hm⟩ := qD hm
 refine s_vu [qc 1 [6] 1 (qBd a1 v2 h3)] 1 [1] [(8, vc (tl e_Span default v2.Rows)), (9, vi ((v2.Rows.length : Nat) : Int)), (10, vi 0)] [0] [] ?_
 obtain ⟨o11, h12, hm⟩ := qD hm
 refine zX (nd Tryz.f84 116) 0 (by kernel_rfl) FUEL (fun o => qAA o) o11 (q_hl (LK v2 0 0) (qFf E v2 FUEL 0 0 o11 h12)) ?_
 refine s_vn [] 1 ⟨[(2, vi (w64 (10 * o11)))], []⟩ ?_
 obtain rfl := oi hm
 refine q_rt ?_
 exact q_rm
def qJq (r : Int) : V := vi r
def qJa (r : Int) : List (Nat × (Nat × O)) := []
def LJ (v2 : (List Slice)) (x4 : Int) (x5 : Int) : St :=
 ⟨[(3, vi x4), (7, vc (tl qH default v2)), (8, vi ((v2.length : Nat) : Int)), (9, vi x5)], []⟩
def qAH (x10 : Int) : St :=
 ⟨[(3, vi x10)], []⟩
theorem qFo (E : Env 0) (v2 : (List Slice)) : ∀ (n : Nat) (x4 : Int) (x5 : Int) (res : Int), JG v2 n x4 x5 = some res → HL (kx E 23 0) (nd Tryz.f48 116) (wC 0 (fun o => qAH o) res) n (LJ v2 x4 x5) := by
 intro n
 induction n with
 | zero =>
  intro x4 x5 res hm
  cases hm
 | succ n ih =>
  intro x4 x5 res hm
  refine qQ ?_
  refine s_vu [] 0 [] [(10, vb (decide (x5 < ((v2.length : Nat) : Int))))] [] [] ?_
  refine q_sq ?_
  refine q_cn (decide (x5 < ((v2.length : Nat) : Int))) (fun b6 => ?_) (fun b6 => ?_)
  ·replace hm := qB b6 hm
   refine q_sk ?_
   refine q_sq ?_
   refine q_bk 1 ?_
   obtain ⟨g7, hm⟩ := qM hm
   refine s_vu [qd 0 (Dir.none) (inb_of g7)] 0 [10] [(5, vp 0 0)] [] [(0, bx 59 [ci ((v2.getD x5.toNat default).Len), ci (((v2.getD x5.toNat default).Sec).Low), tl e_Span default (((v2.getD x5.toNat default).Sec).Rows)])] ?_
   obtain ⟨v8, h9, hm⟩ := qD hm
   refine q_du [qc 5 [17] 1 (qHt ((v2.getD x5.toNat default).Sec) v8 h9)] [0, 0, 2, 0, 8, 24, 62, 127, 255] 1 [3, 5] [(3, vi (w64 (x4 + (w64 (((v2.getD x5.toNat default).Len) * v8)))))] [0] [] ?_
   refine q_vu [] 1 [9] [(9, vi (w64 (x5 + 1)))] [] [] ?_
   exact q_hl (LJ v2 (w64 (x4 + (w64 (((v2.getD x5.toNat default).Len) * v8)))) (w64 (x5 + 1))) (ih (w64 (x4 + (w64 (((v2.getD x5.toNat default).Len) * v8)))) (w64 (x5 + 1)) _ hm)
  ·replace hm := qC b6 hm
   refine q_ex 0 ?_
   obtain rfl := oi hm
   exact jP (by kernel_rfl) (by kernel_rfl)
theorem qHq (a1 : List Slice) (r : Int) (hm : BF a1 = some r) : CtX Tryz.prog globs 48 0 0 [.one (tl qH default a1)] [] (qJq r) (qJa r) := by
 unfold BF at hm
 refine q_E Tryz.f48 23 fun E => ?_
 refine s_vn [] 0 ⟨[(0, vc (tl qH default a1))], []⟩ ?_
 refine s_vu [] 0 [] [(3, vi 0)] [] [] ?_
 refine q_sq ?_
 obtain ⟨v2, h3, hm⟩ := qD hm
 refine s_vu [qc 1 [6] 0 (AQ a1 v2 h3)] 0 [0] [(7, vc (tl qH default v2)), (8, vi ((v2.length : Nat) : Int)), (9, vi 0)] [] [] ?_
 obtain ⟨o11, h12, hm⟩ := qD hm
 refine zX (nd Tryz.f48 116) 0 (by kernel_rfl) FUEL (fun o => qAH o) o11 (q_hl (LJ v2 0 0) (qFo E v2 FUEL 0 0 o11 h12)) ?_
 refine s_vn [] 0 ⟨[(2, vi o11)], []⟩ ?_
 obtain rfl := oi hm
 refine q_rt ?_
 exact q_rm
def qOM (r : Yield × Int) : V := .tup [.agg (wG r.1), .one (ci r.2)]
def qO3 (r : Yield × Int) : List (Nat × (Nat × O)) := []
def CO (a1 : List Slice) (a5 : Saw) (a6 : Rates) (v10 : (List Yield_Cut) × Int) (v13 : (List Rect) × Int) (v16 : Int) (v18 : Int) (x20 : Int) (x21 : Int) : St :=
 ⟨[(0, vc (tl qH default a1)), (10, vp 1 0), (11, vp 2 0), (12, vp 3 0), (15, vo 4 0 9 v10.1.length), (18, vi v16), (19, vp 6 0), (68, vo 5 0 4 v13.1.length), (69, vi ((v13.1.length : Nat) : Int)), (70, vi x20)], [(1, bx 33 (zZ a5)), (2, bx 35 (wM a6)), (3, bx 50 [ci 0, ci 0, ci 0, ci 0, ci 0]), (4, ro 0 69 9 v10.1.length (rf qR v10.1)), (5, ro 0 28 4 v13.1.length (rf qE v13.1)), (6, bx 50 [ci v18, ci 0, ci 0, ci x21, ci 0])]⟩
def qEh (a1 : List Slice) (a5 : Saw) (a6 : Rates) (v10 : (List Yield_Cut) × Int) (v16 : Int) (x28 : Yield) : St :=
 ⟨[(0, vc (tl qH default a1)), (10, vp 1 0), (11, vp 2 0), (12, vp 3 0), (15, vo 4 0 9 v10.1.length), (18, vi v16), (19, vp 6 0)], [(1, bx 33 (zZ a5)), (2, bx 35 (wM a6)), (3, bx 50 [ci 0, ci 0, ci 0, ci 0, ci 0]), (4, ro 0 69 9 v10.1.length (rf qR v10.1)), (6, bx 50 (wG x28))]⟩
def CH (a1 : List Slice) (a5 : Saw) (a6 : Rates) (v10 : (List Yield_Cut) × Int) (v16 : Int) (o29 : Yield) (x31 : Int) (x32 : Int) (x33 : Int) (x34 : Int) : St :=
 ⟨[(0, vc (tl qH default a1)), (10, vp 1 0), (11, vp 2 0), (12, vp 3 0), (18, vi v16), (19, vp 6 0), (85, vo 4 0 9 v10.1.length), (86, vi ((v10.1.length : Nat) : Int)), (87, vi x31)], [(1, bx 33 (zZ a5)), (2, bx 35 (wM a6)), (3, bx 50 [ci 0, ci 0, ci 0, ci 0, ci 0]), (4, ro 0 69 9 v10.1.length (rf qR v10.1)), (6, bx 50 [ci o29.Log, ci x32, ci o29.Chips, ci x33, ci x34])]⟩
def qEe (a6 : Rates) (x47 : Yield) : St :=
 ⟨[(11, vp 2 0), (12, vp 3 0), (19, vp 6 0)], [(2, bx 35 (wM a6)), (3, bx 50 [ci 0, ci 0, ci 0, ci 0, ci 0]), (6, bx 50 (wG x47))]⟩
theorem qJB (E : Env 0) (a1 : List Slice) (a5 : Saw) (a6 : Rates) (v10 : (List Yield_Cut) × Int) (v13 : (List Rect) × Int) (v16 : Int) (v18 : Int) : ∀ (n : Nat) (x20 : Int) (x21 : Int) (res : Yield), PJ a1 v13 v16 v18 n x20 x21 = some res → HL (kx E 177 0) (nd Tryz.f21 8180) (wC 0 (fun o => qEh a1 a5 a6 v10 v16 o) res) n (CO a1 a5 a6 v10 v13 v16 v18 x20 x21) := by
 intro n
 induction n with
 | zero =>
  intro x20 x21 res hm
  cases hm
 | succ n ih =>
  intro x20 x21 res hm
  refine qQ ?_
  refine s_vu [] 7 [] [(71, vb (decide (x20 < ((v13.1.length : Nat) : Int))))] [] [] ?_
  refine q_sq ?_
  refine q_cn (decide (x20 < ((v13.1.length : Nat) : Int))) (fun b22 => ?_) (fun b22 => ?_)
  ·replace hm := qB b22 hm
   refine q_sk ?_
   refine q_sq ?_
   refine q_bk 1 ?_
   obtain ⟨g23, hm⟩ := qM hm
   refine s_vu [qd 0 (Dir.none) (inb_of g23), qd 1 (Dir.none) (toNat_lt (inb_of g23))] 7 [71] [(21, vp 7 0)] [] [(7, bx 28 [ci (((v13.1.getD x20.toNat default).X).A), ci (((v13.1.getD x20.toNat default).X).B), ci (((v13.1.getD x20.toNat default).Y).A), ci (((v13.1.getD x20.toNat default).Y).B)])] ?_
   obtain ⟨v24, h25, hm⟩ := qD hm
   obtain ⟨v26, h27, hm⟩ := qD hm
   refine q_du [qc 6 [77, 79] 8 (SN (v13.1.getD x20.toNat default) (Span.mk 0 v16) v24 h25), qc 7 [76, 80] 8 (GY a1 v24 v26 h27)] [0, 1, 0, 0, 0, 16, 56, 124, 255, 511, 1023] 8 [21] [] [6, 7] [(6, bx 50 [ci v18, ci 0, ci 0, ci (w64 (x21 + v26)), ci 0])] ?_
   refine q_vu [] 8 [70] [(70, vi (w64 (x20 + 1)))] [] [] ?_
   exact q_hl (CO a1 a5 a6 v10 v13 v16 v18 (w64 (x20 + 1)) (w64 (x21 + v26))) (ih (w64 (x20 + 1)) (w64 (x21 + v26)) _ hm)
  ·replace hm := qC b22 hm
   refine q_ex 0 ?_
   obtain rfl := oi hm
   exact jP (by kernel_rfl) (by kernel_rfl)
theorem qI1 (E : Env 0) (a1 : List Slice) (a5 : Saw) (a6 : Rates) (v10 : (List Yield_Cut) × Int) (v16 : Int) (o29 : Yield) : ∀ (n : Nat) (x31 : Int) (x32 : Int) (x33 : Int) (x34 : Int) (res : Yield), PI a1 a5 v10 v16 o29 n x31 x32 x33 x34 = some res → HL (kx E 177 0) (nd Tryz.f21 16372) (wC 2 (fun o => qEe a6 o) res) n (CH a1 a5 a6 v10 v16 o29 x31 x32 x33 x34) := by
 intro n
 induction n with
 | zero =>
  intro x31 x32 x33 x34 res hm
  cases hm
 | succ n ih =>
  intro x31 x32 x33 x34 res hm
  refine qQ ?_
  refine s_vu [] 7 [] [(88, vb (decide (x31 < ((v10.1.length : Nat) : Int))))] [] [] ?_
  refine q_sq ?_
  refine q_cn (decide (x31 < ((v10.1.length : Nat) : Int))) (fun b35 => ?_) (fun b35 => ?_)
  ·replace hm := qB b35 hm
   refine q_sk ?_
   refine q_sq ?_
   refine q_bk 3 ?_
   obtain ⟨g36, hm⟩ := qM hm
   refine s_vu [qd 0 (Dir.none) (inb_of g36), qd 1 (Dir.none) (toNat_lt (inb_of g36))] 7 [88] [(23, vp 7 0)] [] [(7, bx 69 [ci ((v10.1.getD x31.toNat default).Leaf), ci ((v10.1.getD x31.toNat default).Product), ci ((((v10.1.getD x31.toNat default).Box).X).A), ci ((((v10.1.getD x31.toNat default).Box).X).B), ci ((((v10.1.getD x31.toNat default).Box).Y).A), ci ((((v10.1.getD x31.toNat default).Box).Y).B), ci ((((v10.1.getD x31.toNat default).Box).Z).A), ci ((((v10.1.getD x31.toNat default).Box).Z).B), ci ((v10.1.getD x31.toNat default).Worth)])] ?_
   obtain ⟨v37, h38, hm⟩ := qD hm
   refine s_du [qc 5 [93, 95] 8 (GY a1 ((v10.1.getD x31.toNat default).Box) v37 h38)] [0, 1, 0, 0, 8, 28, 63, 127, 255] 8 [] [] [6] [(6, bx 50 [ci o29.Log, ci (w64 (x32 + v37)), ci o29.Chips, ci x33, ci x34])] ?_
   refine s_vu [] 8 [] [] [6] [(6, bx 50 [ci o29.Log, ci (w64 (x32 + v37)), ci o29.Chips, ci x33, ci (w64 (x34 + (w64 (1000000 * ((v10.1.getD x31.toNat default).Worth)))))])] ?_
   refine s_vu [] 8 [] [(24, vp 8 0)] [] [(8, bx 28 [ci ((((v10.1.getD x31.toNat default).Box).X).A), ci ((((v10.1.getD x31.toNat default).Box).X).B), ci ((((v10.1.getD x31.toNat default).Box).Y).A), ci ((((v10.1.getD x31.toNat default).Box).Y).B)])] ?_
   refine s_vu [] 9 [23] [(25, vp 9 0)] [7] [(9, bx 26 [ci ((((v10.1.getD x31.toNat default).Box).Z).A), ci ((((v10.1.getD x31.toNat default).Box).Z).B)])] ?_
   obtain ⟨v39, h40, hm⟩ := qD hm
   obtain ⟨v41, h42, hm⟩ := qD hm
   refine s_du [qc 13 [119, 128] 10 (SN (Rect.mk (((v10.1.getD x31.toNat default).Box).X) (((v10.1.getD x31.toNat default).Box).Y)) (Span.mk (imax 0 (w64 (((((v10.1.getD x31.toNat default).Box).Z).A) - a5.Trim))) ((((v10.1.getD x31.toNat default).Box).Z).A)) v39 h40), qc 14 [118, 129] 10 (GY a1 v39 v41 h42)] [0, 1, 0, 0, 0, 16, 0, 64, 240, 496, 0, 1024, 4080, 8184, 16380, 32767, 65535, 131071] 10 [] [] [6] [(6, bx 50 [ci o29.Log, ci (w64 (x32 + v37)), ci o29.Chips, ci (w64 (x33 + v41)), ci (w64 (x34 + (w64 (1000000 * ((v10.1.getD x31.toNat default).Worth)))))])] ?_
   obtain ⟨v43, h44, hm⟩ := qD hm
   obtain ⟨v45, h46, hm⟩ := qD hm
   refine q_du [qc 14 [136, 146] 10 (SN (Rect.mk (((v10.1.getD x31.toNat default).Box).X) (((v10.1.getD x31.toNat default).Box).Y)) (Span.mk ((((v10.1.getD x31.toNat default).Box).Z).B) (imin (w64 (((((v10.1.getD x31.toNat default).Box).Z).B) + a5.Trim)) v16)) v43 h44), qc 15 [135, 147] 10 (GY a1 v43 v45 h46)] [0, 1, 0, 0, 0, 16, 0, 64, 0, 256, 960, 0, 4032, 8176, 16376, 32764, 65535, 131071, 262143] 10 [24, 25] [] [6, 8, 9] [(6, bx 50 [ci o29.Log, ci (w64 (x32 + v37)), ci o29.Chips, ci (w64 ((w64 (x33 + v41)) + v45)), ci (w64 (x34 + (w64 (1000000 * ((v10.1.getD x31.toNat default).Worth)))))])] ?_
   refine q_vu [] 10 [87] [(87, vi (w64 (x31 + 1)))] [] [] ?_
   exact q_hl (CH a1 a5 a6 v10 v16 o29 (w64 (x31 + 1)) (w64 (x32 + v37)) (w64 ((w64 (x33 + v41)) + v45)) (w64 (x34 + (w64 (1000000 * ((v10.1.getD x31.toNat default).Worth)))))) (ih (w64 (x31 + 1)) (w64 (x32 + v37)) (w64 ((w64 (x33 + v41)) + v45)) (w64 (x34 + (w64 (1000000 * ((v10.1.getD x31.toNat default).Worth))))) _ hm)
  ·replace hm := qC b35 hm
   refine q_ex 2 ?_
   obtain rfl := oi hm
   exact jP (by kernel_rfl) (by kernel_rfl)
theorem qNE (a1 : List Slice) (a2 : List Defect) (a3 : List Product) (a4 : Pattern) (a5 : Saw) (a6 : Rates) (r : Yield × Int) (hm : HC a1 a2 a3 a4 a5 a6 = some r) : CtX Tryz.prog globs 21 0 0 [.one (tl qH default a1), .one (tl qI default a2), .one (tl qA default a3), .agg (qF a4), .agg (zZ a5), .agg (wM a6)] [] (qOM r) (qO3 r) := by
 unfold HC at hm
 refine q_E Tryz.f21 177 fun E => ?_
 refine s_vn [] 0 ⟨[(0, vc (tl qH default a1)), (1, vc (tl qI default a2)), (2, vc (tl qA default a3)), (9, vp 0 0), (10, vp 1 0), (11, vp 2 0), (12, vp 3 0)], [(0, bx 31 (qF a4)), (1, bx 33 (zZ a5)), (2, bx 35 (wM a6)), (3, bx 50 [ci 0, ci 0, ci 0, ci 0, ci 0])]⟩ ?_
 refine q_sq ?_
 obtain ⟨v7, h8, hm⟩ := qD hm
 refine s_vu [qc 6 [26, 27, 28, 29, 30, 31] 4 (qDb a1 a2 a3 a4 a5 a6 v7 h8)] 4 [] [(14, vi v7)] [] [] ?_
 refine s_vu [] 4 [] [(34, vb (v7 != 0))] [] [] ?_
 refine q_cn (v7 != 0) (fun b9 => ?_) (fun b9 => ?_)
 ·replace hm := qB b9 hm
  refine s_vu [] 4 [0, 1, 2, 9, 10, 11, 14, 34] [(13, vi v7)] [0, 1, 2] [] ?_
  obtain rfl := oi hm
  refine q_rt ?_
  exact q_rm
 ·replace hm := qC b9 hm
  refine q_sk ?_
  obtain ⟨v10, h11, hm⟩ := qD hm
  refine s_vu [qc 7 [38, 39, 40, 41, 42, 44] 4 (qCn a1 a2 a3 a4 a5 a6.Fine v10 h11)] 4 [1, 2, 14, 34] [(15, vo 4 0 9 v10.1.length), (16, vi v10.2)] [] [(4, ro 0 69 9 v10.1.length (rf qR v10.1))] ?_
  refine q_sq ?_
  refine s_vu [] 5 [] [(49, vb (v10.2 != 0))] [] [] ?_
  refine q_cn (v10.2 != 0) (fun b12 => ?_) (fun b12 => ?_)
  ·replace hm := qB b12 hm
   refine s_vu [] 5 [0, 9, 10, 11, 15, 16, 49] [(13, vi v10.2)] [0, 1, 2, 4] [] ?_
   obtain rfl := oi hm
   refine q_rt ?_
   exact q_rm
  ·replace hm := qC b12 hm
   refine q_sk ?_
   obtain ⟨v13, h14, hm⟩ := qD hm
   refine s_vu [qc 3 [53, 55] 5 (qHB a4 a5.Kerf v13 h14)] 5 [9, 16, 49] [(16, vi v13.2), (17, vo 5 0 4 v13.1.length)] [0] [(5, ro 0 28 4 v13.1.length (rf qE v13.1))] ?_
   refine q_sq ?_
   refine s_vu [] 6 [] [(60, vb (v13.2 != 0))] [] [] ?_
   refine q_cn (v13.2 != 0) (fun b15 => ?_) (fun b15 => ?_)
   ·replace hm := qB b15 hm
    refine s_vu [] 6 [0, 10, 11, 15, 16, 17, 60] [(13, vi v13.2)] [1, 2, 4, 5] [] ?_
    obtain rfl := oi hm
    refine q_rt ?_
    exact q_rm
   ·replace hm := qC b15 hm
    refine q_sk ?_
    obtain ⟨v16, h17, hm⟩ := qD hm
    refine s_vu [qc 1 [63] 6 (qCQ a1 v16 h17)] 6 [16, 60] [(18, vi v16)] [] [] ?_
    obtain ⟨v18, h19, hm⟩ := qD hm
    refine s_vu [qc 1 [65] 6 (qHq a1 v18 h19)] 6 [] [(19, vp 6 0)] [] [(6, bx 50 [ci v18, ci 0, ci 0, ci 0, ci 0])] ?_
    refine q_sq ?_
    refine s_vu [] 7 [17] [(68, vo 5 0 4 v13.1.length), (69, vi ((v13.1.length : Nat) : Int)), (70, vi 0)] [] [] ?_
    obtain ⟨o29, h30, hm⟩ := qD hm
    refine zX (nd Tryz.f21 8180) 0 (by kernel_rfl) FUEL (fun o => qEh a1 a5 a6 v10 v16 o) o29 (q_hl (CO a1 a5 a6 v10 v13 v16 v18 0 0) (qJB E a1 a5 a6 v10 v13 v16 v18 FUEL 0 0 o29 h30)) ?_
    refine q_sq ?_
    refine s_vu [] 7 [15] [(85, vo 4 0 9 v10.1.length), (86, vi ((v10.1.length : Nat) : Int)), (87, vi 0)] [] [] ?_
    obtain ⟨o48, h49, hm⟩ := qD hm
    refine zX (nd Tryz.f21 16372) 2 (by kernel_rfl) FUEL (fun o => qEe a6 o) o48 (q_hl (CH a1 a5 a6 v10 v16 o29 0 o29.Boards o29.Dust o29.Value) (qI1 E a1 a5 a6 v10 v16 o29 FUEL 0 o29.Boards o29.Dust o29.Value o48 h49)) ?_
    refine s_vu [] 7 [] [] [6] [(6, bx 50 [ci o48.Log, ci o48.Boards, ci (w64 ((w64 (o48.Log - o48.Boards)) - o48.Dust)), ci o48.Dust, ci o48.Value])] ?_
    refine s_vu [] 7 [11] [] [2, 6] [(6, bx 50 [ci o48.Log, ci o48.Boards, ci (w64 ((w64 (o48.Log - o48.Boards)) - o48.Dust)), ci o48.Dust, ci (w64 (o48.Value + (w64 ((w64 (a6.Chip * (w64 ((w64 (o48.Log - o48.Boards)) - o48.Dust)))) + (w64 (a6.Dust * o48.Dust))))))])] ?_
    refine s_vu [] 7 [19] [(13, vi 0)] [3, 6] [(3, bx 50 [ci o48.Log, ci o48.Boards, ci (w64 ((w64 (o48.Log - o48.Boards)) - o48.Dust)), ci o48.Dust, ci (w64 (o48.Value + (w64 ((w64 (a6.Chip * (w64 ((w64 (o48.Log - o48.Boards)) - o48.Dust)))) + (w64 (a6.Dust * o48.Dust))))))])] ?_
    obtain rfl := oi hm
    refine q_rt ?_
    exact q_rm
def qFS (r : Int) : V := vc (.val (.int .u64 r))
def qGc (r : Int) : List (Nat × (Nat × O)) := []
theorem OS (a1 : Int) (r : Int) (hm : GU a1 = some r) : CtX Tryz.prog globs 54 0 0 [.one (ci a1)] [] (qFS r) (qGc r) := by
 unfold GU at hm
 refine q_E Tryz.f54 10 fun E => ?_
 refine s_vn [] 0 ⟨[(0, vi a1)], []⟩ ?_
 refine q_sq ?_
 refine s_vu [] 0 [] [(4, vb (decide (a1 < 0)))] [] [] ?_
 refine q_cn (decide (a1 < 0)) (fun b2 => ?_) (fun b2 => ?_)
 ·replace hm := qB b2 hm
  refine s_vn [] 0 ⟨[(2, vc (.val (.int .u64 (IntKind.u64.wrap (0 - (IntKind.u64.wrap (a1)))))))], []⟩ ?_
  obtain rfl := oi hm
  refine q_rt ?_
  exact q_rm
 ·replace hm := qC b2 hm
  refine q_sk ?_
  refine s_vn [] 0 ⟨[(2, vc (.val (.int .u64 (IntKind.u64.wrap (a1)))))], []⟩ ?_
  obtain rfl := oi hm
  refine q_rt ?_
  exact q_rm
end Saw
end Go.SL
