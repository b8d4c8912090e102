import Derived.Test.YtgpgnlllieekbaaGreatDoorEBase
import Derived.Test.YtgpgnlllieekbaaGreatDoorEFa7
import Derived.Test.YtgpgnlllieekbaaGreatDoorEFa10
import Derived.Test.YtgpgnlllieekbaaGreatDoorEFa11
set_option linter.unusedVariables false
set_option linter.unusedSimpArgs false
namespace Go.SL
namespace Saw
open Go.Proofs
set_option maxHeartbeats 4000000
set_option maxRecDepth 100000
def qMC (r : (List Node) × Int × Int) : V := .tup [.one (.own 0 0 2 r.1.length), .one (ci r.2.1), .one (ci r.2.2)]
def qL2 (r : (List Node) × Int × Int) : List (Nat × (Nat × O)) := [(0, ro 0 64 2 r.1.length (rf e_Node r.1))]
def HI (a4 : Rect) (a5 : Saw) (v7 : Line × Int) (v10 : (List Int) × (List Int)) (v12 : (List Piece) × Int × Int) (l15 : List Span) (l15n : Nat) (l16 : List (List Node)) (l16n : Nat) (x17 : Int) : St :=
 ⟨[(9, vp 0 0), (10, vp 1 0), (15, vp 7 0), (18, vo 9 0 1 v10.2.length), (19, vo 10 0 2 v12.1.length), (20, vi v12.2.1), (22, vo 11 0 2 l15n), (23, vo 12 0 1 l16n), (24, vi x17)], [(0, bx 28 (qK a4)), (1, bx 30 (zY a5)), (3, ro 0 3 1 v7.1.Sizes.length (rf e_i64 v7.1.Sizes)), (4, ro 0 37 1 v7.1.Gain.length (rf (qL e_i64) v7.1.Gain)), (5, ro 0 3 1 v7.1.Chip.length (rf e_i64 v7.1.Chip)), (6, ro 0 3 1 v7.1.Dust.length (rf e_i64 v7.1.Dust)), (7, bx 40 [ci v7.1.Len, ci v7.1.Kerf, ci v7.1.Pitch, .own 3 0 1 v7.1.Sizes.length, .own 4 0 1 v7.1.Gain.length, .own 5 0 1 v7.1.Chip.length, .own 6 0 1 v7.1.Dust.length]), (9, ro 0 3 1 v10.2.length (rf e_i64 v10.2)), (10, ro 0 75 2 v12.1.length (rf zD v12.1)), (11, ro 0 26 2 l15n (rf e_Span l15)), (12, ro 0 46 1 l16n (rf (qL e_Node) l16))]⟩
def qCB (a4 : Rect) (a5 : Saw) (v12 : (List Piece) × Int × Int) (l26 : List Span) (l27 : List (List Node)) : St :=
 ⟨[(9, vp 0 0), (10, vp 1 0), (20, vi v12.2.1), (22, vo 11 0 2 l26.length), (23, vo 12 0 1 l27.length)], [(0, bx 28 (qK a4)), (1, bx 30 (zY a5)), (11, ro 0 26 2 l26.length (rf e_Span l26)), (12, ro 0 46 1 l27.length (rf (qL e_Node) l27))]⟩
theorem qGn (E : Env 0) (a4 : Rect) (a5 : Saw) (v7 : Line × Int) (v10 : (List Int) × (List Int)) (v12 : (List Piece) × Int × Int) : ∀ (n : Nat) (l15 : List Span) (l15n : Nat) (l16 : List (List Node)) (l16n : Nat) (x17 : Int) (res : (List Span) × (List (List Node))), l15.length = l15n → l16.length = l16n → YU a4 v7 v10 v12 n l15 l16 x17 = some res → HL (kx E 113 0) (nd Tryz.f11 8180) (zN 0 (fun o => qCB a4 a5 v12 o.1 o.2) res) n (HI a4 a5 v7 v10 v12 l15 l15n l16 l16n x17) := by
 intro n
 induction n with
 | zero =>
  intro l15 l15n l16 l16n x17 res hl0 hl1 hm
  cases hm
 | succ n ih =>
  intro l15 l15n l16 l16n x17 res hl0 hl1 hm
  subst hl0
  subst hl1
  refine qO ?_
  refine q_sq ?_
  refine q_sq ?_
  refine q_vu [] 13 [] [(65, vb (decide (x17 < ((v12.1.length : Nat) : Int))))] [] [] ?_
  refine q_cn (decide (x17 < ((v12.1.length : Nat) : Int))) (fun b18 => ?_) (fun b18 => ?_)
  ·replace hm := qB b18 hm
   refine q_sk ?_
   refine q_sq ?_
   refine q_bk 1 ?_
   refine q_sq ?_
   obtain ⟨g19, hm⟩ := qI hm
   refine q_vu [qd 2 (Dir.none) (inb_of g19), qd 3 (Dir.none) (toNat_lt (inb_of g19))] 13 [65] [(25, vp 13 0)] [] [(13, bx 75 [ci ((v12.1.getD x17.toNat default).Size), ci ((v12.1.getD x17.toNat default).At)])] ?_
   refine q_sq ?_
   obtain ⟨g20, hm⟩ := qI hm
   obtain ⟨v21, h22, hm⟩ := qD hm
   obtain ⟨g23, hm⟩ := qI hm
   refine q_du [qd 10 (Dir.none) (inb_of g20), qd 11 (Dir.none) (toNat_lt (inb_of g20)), qc 13 [73, 75, 84] 14 (IW a4 ((v12.1.getD x17.toNat default).At) (w64 (((v12.1.getD x17.toNat default).At) + (v7.1.Sizes.getD (((v12.1.getD x17.toNat default).Size).toNat) default))) v21 h22), qd 15 (drw 14 0 (rf e_Span ([v21.X] : List Span))) (litP e_Span default 2 (fun _ => rfl) ([v21.X] : List Span) 1 rfl), qd 16 (drw 11 1 (rf e_Span (l15 ++ ([v21.X] : List Span)))) (apP e_Span default l15 ([v21.X] : List Span) l15.length 1 2 16 (1 ≤ 1) (Nat.le_refl _) rfl rfl (fun _ => rfl) (zS g23))] [0, 0, 0, 4, 0, 16, 0, 64, 0, 256, 960, 1984, 4080, 8190, 16382, 32766, 65535, 131071] 14 [22] [(22, vo 11 1 2 (l15.length + 1))] [11] [(11, ro 1 26 2 (l15.length + 1) (rf e_Span (l15 ++ ([v21.X] : List Span))))] ?_
   obtain ⟨g24, hm⟩ := qI hm
   obtain ⟨g25, hm⟩ := qI hm
   refine q_vu [qd 4 (Dir.none) (inb_of g24), qd 5 (Dir.none) (toNat_lt (inb_of g24)), qd 7 (drw 15 0 (rf e_Node ([(Node.mk 1 (v10.2.getD (((v12.1.getD x17.toNat default).Size).toNat) default))] : List Node))) (litP e_Node default 2 (fun _ => rfl) ([(Node.mk 1 (v10.2.getD (((v12.1.getD x17.toNat default).Size).toNat) default))] : List Node) 1 rfl), qd 8 (dpr [.len 15 (([(Node.mk 1 (v10.2.getD (((v12.1.getD x17.toNat default).Size).toNat) default))] : List Node).length), .frz 15] (drw 16 0 (rf (qL e_Node) ([([(Node.mk 1 (v10.2.getD (((v12.1.getD x17.toNat default).Size).toNat) default))] : List Node)] : List (List Node))))) (And.intro (And.intro (show 1 = ([(Node.mk 1 (v10.2.getD (((v12.1.getD x17.toNat default).Size).toNat) default))] : List Node).length from rfl) (show 1 = ([(Node.mk 1 (v10.2.getD (((v12.1.getD x17.toNat default).Size).toNat) default))] : List Node).length from rfl)) (Nat.le_refl (([(Node.mk 1 (v10.2.getD (((v12.1.getD x17.toNat default).Size).toNat) default))] : List Node).length))), qd 8 (Dir.none) (litP (qL e_Node) default 1 (fun _ => rfl) ([([(Node.mk 1 (v10.2.getD (((v12.1.getD x17.toNat default).Size).toNat) default))] : List Node)] : List (List Node)) 1 rfl), qd 9 (drw 12 1 (rf (qL e_Node) (l16 ++ ([([(Node.mk 1 (v10.2.getD (((v12.1.getD x17.toNat default).Size).toNat) default))] : List Node)] : List (List Node))))) (apP (qL e_Node) default l16 ([([(Node.mk 1 (v10.2.getD (((v12.1.getD x17.toNat default).Size).toNat) default))] : List Node)] : List (List Node)) l16.length 1 1 24 (1 ≤ 1) (Nat.le_refl _) rfl rfl (fun _ => rfl) (zS g25))] 15 [23, 25] [(23, vo 12 1 1 (l16.length + 1))] [12, 13] [(12, ro 1 46 1 (l16.length + 1) (rf (qL e_Node) (l16 ++ ([([(Node.mk 1 (v10.2.getD (((v12.1.getD x17.toNat default).Size).toNat) default))] : List Node)] : List (List Node)))))] ?_
   refine q_vu [] 17 [24] [(24, vi (w64 (x17 + 1)))] [] [] ?_
   exact q_hl (HI a4 a5 v7 v10 v12 (l15 ++ ([v21.X] : List Span)) (l15.length + 1) (l16 ++ ([([(Node.mk 1 (v10.2.getD (((v12.1.getD x17.toNat default).Size).toNat) default))] : List Node)] : List (List Node))) (l16.length + 1) (w64 (x17 + 1))) (ih (l15 ++ ([v21.X] : List Span)) (l15.length + 1) (l16 ++ ([([(Node.mk 1 (v10.2.getD (((v12.1.getD x17.toNat default).Size).toNat) default))] : List Node)] : List (List Node))) (l16.length + 1) (w64 (x17 + 1)) _ (len_app rfl rfl) (len_app rfl rfl) hm)
  ·replace hm := qA b18 hm
   refine q_ex 0 ?_
   obtain rfl := Option.some.inj hm
   exact zX (by kernel_rfl) (by kernel_rfl)
theorem qK8 (a1 : List Slice) (a2 : List Defect) (a3 : List qC) (a4 : Rect) (a5 : Saw) (a6 : Rates) (r : (List Node) × Int × Int) (hm : MD a1 a2 a3 a4 a5 a6 = some r) : CtX Tryz.prog globs 11 0 0 [.one (tl qG default a1), .one (tl qH default a2), .one (tl qE default a3), .agg (qK a4), .agg (zY a5), .agg (qW a6)] [] (qMC r) (qL2 r) := by
 unfold MD at hm
 refine q_E Tryz.f11 113 fun E => ?_
 refine q_sq ?_
 refine q_vn [] 0 ⟨[(0, vc (tl qG default a1)), (1, vc (tl qH default a2)), (2, vc (tl qE default a3)), (9, vp 0 0), (10, vp 1 0), (11, vp 2 0)], [(0, bx 28 (qK a4)), (1, bx 30 (zY a5)), (2, bx 32 (qW a6))]⟩ ?_
 refine q_sq ?_
 obtain ⟨v7, h8, hm⟩ := qD hm
 refine q_vu [qc 6 [29, 30, 31, 32, 33, 34] 3 (qK0 a1 a2 a3 a4 a5 a6 v7 h8)] 3 [0, 1, 11] [(15, vp 7 0), (16, vi v7.2)] [2] [(3, ro 0 3 1 v7.1.Sizes.length (rf e_i64 v7.1.Sizes)), (4, ro 0 37 1 v7.1.Gain.length (rf (qL e_i64) v7.1.Gain)), (5, ro 0 3 1 v7.1.Chip.length (rf e_i64 v7.1.Chip)), (6, ro 0 3 1 v7.1.Dust.length (rf e_i64 v7.1.Dust)), (7, bx 40 [ci v7.1.Len, ci v7.1.Kerf, ci v7.1.Pitch, .own 3 0 1 v7.1.Sizes.length, .own 4 0 1 v7.1.Gain.length, .own 5 0 1 v7.1.Chip.length, .own 6 0 1 v7.1.Dust.length])] ?_
 refine q_sq ?_
 refine q_sq ?_
 refine q_vu [] 8 [] [(39, vb (v7.2 != 0))] [] [] ?_
 refine q_cn (v7.2 != 0) (fun b9 => ?_) (fun b9 => ?_)
 ·replace hm := qB b9 hm
  refine q_sq ?_
  refine q_vn [] 8 ⟨[(12, vc (.emp)), (13, vi 0), (14, vi v7.2)], []⟩ ?_
  refine q_fn [.own 12 8 64 2 (rf e_Node ([] : List Node))] ⟨[(12, vo 8 0 2 0), (13, vi 0), (14, vi v7.2)], [(8, ro 0 64 2 0 (rf e_Node ([] : List Node)))]⟩ o0 ?_
  refine q_fn [.len 8 (([] : List Node).length)] ⟨[(12, vo 8 0 2 (([] : List Node).length)), (13, vi 0), (14, vi v7.2)], [(8, ro 0 64 2 (([] : List Node).length) (rf e_Node ([] : List Node)))]⟩ (o1 (And.intro (show 0 = ([] : List Node).length from rfl) (show 0 = ([] : List Node).length from rfl))) ?_
  obtain rfl := Option.some.inj hm
  refine qR 8 0 (by kernel_rfl) ?_
  refine q_rt ?_
  exact q_rm
 ·replace hm := qA b9 hm
  refine q_sk ?_
  refine q_sq ?_
  obtain ⟨v10, h11, hm⟩ := qD hm
  refine q_vu [qc 8 [42, 49] 8 (qC6 a3 (w64 (a4.Y.B - a4.Y.A)) v10 h11)] 8 [2, 16, 39] [(18, vo 9 0 1 v10.2.length)] [] [(9, ro 0 3 1 v10.2.length (rf e_i64 v10.2))] ?_
  refine q_sq ?_
  obtain ⟨v12, h13, hm⟩ := qD hm
  refine q_vu [qd 1 (dex (cen [] [] 10 0 (qEA v12) (LZ v12) [54] [3, 4, 5, 6])) (yJ (K := (kx E 113 0)) (b := false) ⟨[(54, va [ci v7.1.Len, ci v7.1.Kerf, ci v7.1.Pitch, .own 3 0 1 v7.1.Sizes.length, .own 4 0 1 v7.1.Gain.length, .own 5 0 1 v7.1.Chip.length, .own 6 0 1 v7.1.Dust.length])], [(3, ro 0 3 1 v7.1.Sizes.length (rf e_i64 v7.1.Sizes)), (4, ro 0 37 1 v7.1.Gain.length (rf (qL e_i64) v7.1.Gain)), (5, ro 0 3 1 v7.1.Chip.length (rf e_i64 v7.1.Chip)), (6, ro 0 3 1 v7.1.Dust.length (rf e_i64 v7.1.Dust))]⟩ (opAt (rg Tryz.f11 62) 1) [] [] 10 (o1 (And.intro (Nat.le_refl v7.1.Sizes.length) (And.intro (Nat.le_refl v7.1.Gain.length) (And.intro (Nat.le_refl v7.1.Chip.length) (Nat.le_refl v7.1.Dust.length))))) rfl (ref17_Best_ok (Line.mk v7.1.Len v7.1.Kerf v7.1.Pitch v7.1.Sizes v7.1.Gain v7.1.Chip v7.1.Dust) v12 h13) (.inr ⟨(by kernel_rfl), qLP v12⟩) (by kernel_rfl))] 10 [] [(19, vo 10 0 2 v12.1.length), (20, vi v12.2.1), (21, vi v12.2.2)] [] [(10, ro 0 75 2 v12.1.length (rf zD v12.1))] ?_
  refine q_sq ?_
  refine q_sq ?_
  refine q_vu [] 11 [] [(60, vb (v12.2.2 != 0))] [] [] ?_
  refine q_cn (v12.2.2 != 0) (fun b14 => ?_) (fun b14 => ?_)
  ·replace hm := qB b14 hm
   refine q_sq ?_
   refine q_vn [] 11 ⟨[(12, vc (.emp)), (13, vi 0), (14, vi v12.2.2)], []⟩ ?_
   refine q_fn [.own 12 11 64 2 (rf e_Node ([] : List Node))] ⟨[(12, vo 11 0 2 0), (13, vi 0), (14, vi v12.2.2)], [(11, ro 0 64 2 0 (rf e_Node ([] : List Node)))]⟩ o0 ?_
   refine q_fn [.len 11 (([] : List Node).length)] ⟨[(12, vo 11 0 2 (([] : List Node).length)), (13, vi 0), (14, vi v12.2.2)], [(11, ro 0 64 2 (([] : List Node).length) (rf e_Node ([] : List Node)))]⟩ (o1 (And.intro (show 0 = ([] : List Node).length from rfl) (show 0 = ([] : List Node).length from rfl))) ?_
   obtain rfl := Option.some.inj hm
   refine qR 11 0 (by kernel_rfl) ?_
   refine q_rt ?_
   exact q_rm
  ·replace hm := qA b14 hm
   refine q_sk ?_
   refine q_sq ?_
   refine q_vu [] 11 [21, 60] [(22, vc (.emp))] [] [] ?_
   refine q_sq ?_
   refine q_vu [] 11 [] [(23, vc (.emp))] [] [] ?_
   refine q_sq ?_
   refine q_sq ?_
   refine q_vu [] 11 [] [(24, vi 0)] [] [] ?_
   refine q_fn [.own 22 11 26 2 (rf e_Span ([] : List Span))] ⟨[(9, vp 0 0), (10, vp 1 0), (15, vp 7 0), (18, vo 9 0 1 v10.2.length), (19, vo 10 0 2 v12.1.length), (20, vi v12.2.1), (22, vo 11 0 2 0), (23, vc (.emp)), (24, vi 0)], [(0, bx 28 (qK a4)), (1, bx 30 (zY a5)), (3, ro 0 3 1 v7.1.Sizes.length (rf e_i64 v7.1.Sizes)), (4, ro 0 37 1 v7.1.Gain.length (rf (qL e_i64) v7.1.Gain)), (5, ro 0 3 1 v7.1.Chip.length (rf e_i64 v7.1.Chip)), (6, ro 0 3 1 v7.1.Dust.length (rf e_i64 v7.1.Dust)), (7, bx 40 [ci v7.1.Len, ci v7.1.Kerf, ci v7.1.Pitch, .own 3 0 1 v7.1.Sizes.length, .own 4 0 1 v7.1.Gain.length, .own 5 0 1 v7.1.Chip.length, .own 6 0 1 v7.1.Dust.length]), (9, ro 0 3 1 v10.2.length (rf e_i64 v10.2)), (10, ro 0 75 2 v12.1.length (rf zD v12.1)), (11, ro 0 26 2 0 (rf e_Span ([] : List Span)))]⟩ o0 ?_
   refine q_fn [.own 23 12 46 1 (rf (qL e_Node) ([] : List (List Node)))] ⟨[(9, vp 0 0), (10, vp 1 0), (15, vp 7 0), (18, vo 9 0 1 v10.2.length), (19, vo 10 0 2 v12.1.length), (20, vi v12.2.1), (22, vo 11 0 2 0), (23, vo 12 0 1 0), (24, vi 0)], [(0, bx 28 (qK a4)), (1, bx 30 (zY a5)), (3, ro 0 3 1 v7.1.Sizes.length (rf e_i64 v7.1.Sizes)), (4, ro 0 37 1 v7.1.Gain.length (rf (qL e_i64) v7.1.Gain)), (5, ro 0 3 1 v7.1.Chip.length (rf e_i64 v7.1.Chip)), (6, ro 0 3 1 v7.1.Dust.length (rf e_i64 v7.1.Dust)), (7, bx 40 [ci v7.1.Len, ci v7.1.Kerf, ci v7.1.Pitch, .own 3 0 1 v7.1.Sizes.length, .own 4 0 1 v7.1.Gain.length, .own 5 0 1 v7.1.Chip.length, .own 6 0 1 v7.1.Dust.length]), (9, ro 0 3 1 v10.2.length (rf e_i64 v10.2)), (10, ro 0 75 2 v12.1.length (rf zD v12.1)), (11, ro 0 26 2 0 (rf e_Span ([] : List Span))), (12, ro 0 46 1 0 (rf (qL e_Node) ([] : List (List Node))))]⟩ o0 ?_
   obtain ⟨o28, h29, hm⟩ := qD hm
   refine zF (nd Tryz.f11 8180) 0 (by kernel_rfl) FUEL (fun o => qCB a4 a5 v12 o.1 o.2) o28 (q_hl (HI a4 a5 v7 v10 v12 ([] : List Span) 0 ([] : List (List Node)) 0 0) (qGn E a4 a5 v7 v10 v12 FUEL ([] : List Span) 0 ([] : List (List Node)) 0 0 o28 rfl rfl h29)) ?_
   refine q_sq ?_
   obtain ⟨v30, h31, hm⟩ := qD hm
   refine q_vn [qd 5 (dex (cen [] [] 13 0 (EW v30) (TQ v30) [100, 102, 103, 104] [11, 12])) (yJ (K := (kx E 113 0)) (b := false) ⟨[(100, va (qK a4)), (102, vi a5.Kerf), (103, vo 11 0 2 o28.1.length), (104, vo 12 0 1 o28.2.length)], [(11, ro 0 26 2 o28.1.length (rf e_Span o28.1)), (12, ro 0 46 1 o28.2.length (rf (qL e_Node) o28.2))]⟩ (opAt (rg Tryz.f11 2046) 5) [] [] 13 (o1 (And.intro (Nat.le_refl o28.1.length) (Nat.le_refl o28.2.length))) rfl (ref21_Row_ok a4 2 a5.Kerf o28.1 o28.2 v30 h31) (.inr ⟨(by kernel_rfl), qNb v30⟩) (by kernel_rfl))] 13 ⟨[(20, vi v12.2.1), (26, vo 13 0 2 v30.1.length), (27, vi v30.2)], [(13, ro 0 64 2 v30.1.length (rf e_Node v30.1))]⟩ ?_
   refine q_sq ?_
   refine q_sq ?_
   refine q_vu [] 14 [] [(109, vb (v30.2 != 0))] [] [] ?_
   refine q_cn (v30.2 != 0) (fun b32 => ?_) (fun b32 => ?_)
   ·replace hm := qB b32 hm
    refine q_sq ?_
    refine q_vn [] 14 ⟨[(12, vc (.emp)), (13, vi 0), (14, vi v30.2)], []⟩ ?_
    refine q_fn [.own 12 14 64 2 (rf e_Node ([] : List Node))] ⟨[(12, vo 14 0 2 0), (13, vi 0), (14, vi v30.2)], [(14, ro 0 64 2 0 (rf e_Node ([] : List Node)))]⟩ o0 ?_
    refine q_fn [.len 14 (([] : List Node).length)] ⟨[(12, vo 14 0 2 (([] : List Node).length)), (13, vi 0), (14, vi v30.2)], [(14, ro 0 64 2 (([] : List Node).length) (rf e_Node ([] : List Node)))]⟩ (o1 (And.intro (show 0 = ([] : List Node).length from rfl) (show 0 = ([] : List Node).length from rfl))) ?_
    obtain rfl := Option.some.inj hm
    refine qR 14 0 (by kernel_rfl) ?_
    refine q_rt ?_
    exact q_rm
   ·replace hm := qA b32 hm
    refine q_sk ?_
    refine q_sq ?_
    refine q_vu [] 14 [20, 26, 27, 109] [(12, vo 13 0 2 v30.1.length), (13, vi v12.2.1), (14, vi 0)] [] [] ?_
    obtain rfl := Option.some.inj hm
    refine qR 13 0 (by kernel_rfl) ?_
    refine q_rt ?_
    exact q_rm
def yC (r : Bool) : V := vb r
def wP (r : Bool) : List (Nat × (Nat × O)) := []
theorem KM (r : Bool) : WC (wP r) := by
 intro i k o h
 unfold wP at h
 cases h
def PW (a1 : List Node) (a2 : List Node) (x4 : Int) : St :=
 ⟨[(0, vc (tl e_Node default a1)), (1, vc (tl e_Node default a2)), (5, vi x4)], []⟩
def LX : St :=
 ⟨[], []⟩
theorem qC4 (E : Env 0) (a1 : List Node) (a2 : List Node) : ∀ (n : Nat) (x4 : Int) (res : Bool ⊕ Unit), yW a1 a2 n x4 = some res → HL (kx E 26 0) (nd Tryz.f12 116) (wC 0 (fun o => LX) (fun v st => RetQ Tryz.prog Tryz.f12 (yC v) (wP v) .ret st) res) n (PW a1 a2 x4) := by
 intro n
 induction n with
 | zero =>
  intro x4 res hm
  cases hm
 | succ n ih =>
  intro x4 res hm
  refine qO ?_
  refine q_sq ?_
  refine q_sq ?_
  refine q_vu [] 0 [] [(14, vb (decide (x4 < ((a1.length : Nat) : Int))))] [] [] ?_
  refine q_cn (decide (x4 < ((a1.length : Nat) : Int))) (fun b5 => ?_) (fun b5 => ?_)
  ·replace hm := qB b5 hm
   refine q_sk ?_
   refine q_sq ?_
   refine q_bk 1 ?_
   refine q_sq ?_
   obtain ⟨g6, hm⟩ := qI hm
   obtain ⟨g7, hm⟩ := qI hm
   refine q_du [qd 2 (Dir.none) (inb_of g6), qd 6 (Dir.none) (inb_of g7)] [0, 0, 3, 7, 0, 0, 48, 112, 255] 0 [14] [(25, vb (!((((a1.getD x4.toNat default).Kind) == ((a2.getD x4.toNat default).Kind)) && ((((a1.getD x4.toNat default).At) == ((a2.getD x4.toNat default).At)) && true))))] [] [] ?_
   refine q_cn (!((((a1.getD x4.toNat default).Kind) == ((a2.getD x4.toNat default).Kind)) && ((((a1.getD x4.toNat default).At) == ((a2.getD x4.toNat default).At)) && true))) (fun b8 => ?_) (fun b8 => ?_)
   ·replace hm := qB b8 hm
    refine q_sq ?_
    refine q_vn [] 0 ⟨[(4, vb false)], []⟩ ?_
    obtain rfl := Option.some.inj hm
    refine q_rt ?_
    refine qU false ?_
    exact q_rm
   ·replace hm := qA b8 hm
    refine q_sk ?_
    refine q_vu [] 0 [5, 25] [(5, vi (w64 (x4 + 1)))] [] [] ?_
    exact q_hl (PW a1 a2 (w64 (x4 + 1))) (ih (w64 (x4 + 1)) _ hm)
  ·replace hm := qA b5 hm
   refine q_ex 0 ?_
   obtain rfl := Option.some.inj hm
   exact wF () (by kernel_rfl) (by kernel_rfl)
theorem ref23_SameNodes_ok (a1 : List Node) (a2 : List Node) (r : Bool) (hm : XK a1 a2 = some r) : CtX Tryz.prog globs 12 0 0 [.one (tl e_Node default a1), .one (tl e_Node default a2)] [] (yC r) (wP r) := by
 unfold XK at hm
 refine q_E Tryz.f12 26 fun E => ?_
 refine q_sq ?_
 refine q_vn [] 0 ⟨[(0, vc (tl e_Node default a1)), (1, vc (tl e_Node default a2))], []⟩ ?_
 refine q_sq ?_
 refine q_sq ?_
 refine q_vu [] 0 [] [(10, vb (((a1.length : Nat) : Int) != ((a2.length : Nat) : Int)))] [] [] ?_
 refine q_cn (((a1.length : Nat) : Int) != ((a2.length : Nat) : Int)) (fun b3 => ?_) (fun b3 => ?_)
 ·replace hm := qB b3 hm
  refine q_sq ?_
  refine q_vn [] 0 ⟨[(4, vb false)], []⟩ ?_
  obtain rfl := Option.some.inj hm
  refine q_rt ?_
  exact q_rm
 ·replace hm := qA b3 hm
  refine q_sk ?_
  refine q_sq ?_
  refine q_sq ?_
  refine q_vu [] 0 [10] [(5, vi 0)] [] [] ?_
  obtain ⟨u11, h10, hm⟩ := qD hm
  refine zI (nd Tryz.f12 116) 0 (by kernel_rfl) FUEL (fun o => LX) (fun v st => RetQ Tryz.prog Tryz.f12 (yC v) (wP v) .ret st) u11 (q_hl (PW a1 a2 0) (qC4 E a1 a2 FUEL 0 u11 h10)) ?_ ?_
  ·rintro v12 rfl st hr
   obtain rfl := Option.some.inj hm
   exact hr
  ·rintro o9 rfl
   replace hm : _ = some r := hm
   refine q_sq ?_
   refine q_vn [] 0 ⟨[(4, vb true)], []⟩ ?_
   obtain rfl := Option.some.inj hm
   refine q_rt ?_
   exact q_rm
end Saw
end Go.SL
