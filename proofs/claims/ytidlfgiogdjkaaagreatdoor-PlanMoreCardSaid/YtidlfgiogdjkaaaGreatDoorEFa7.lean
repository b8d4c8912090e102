import Derived.Test.YtidlfgiogdjkaaaGreatDoorEBase
import Derived.Test.YtidlfgiogdjkaaaGreatDoorEFa1
import Derived.Test.YtidlfgiogdjkaaaGreatDoorEFa2
import Derived.Test.YtidlfgiogdjkaaaGreatDoorEFa6
set_option linter.unusedVariables false
set_option linter.unusedSimpArgs false
namespace Go.SL
namespace Saw
open Go.Proofs
set_option maxHeartbeats 4000000
set_option maxRecDepth 100000
def qC0 (r : (List Int)) : V := vo 0 0 1 r.length
def DO (r : (List Int)) : List (Nat × (Nat × O)) := [(0, ro 0 3 1 r.length (rf e_i64 r))]
theorem qI3 (r : (List Int)) : yJ (DO r) := by
 intro i k o h
 unfold DO at h
 rw [look_cons] at h
 split at h
 ·cases h; exact fun _ _ => rfl
 ·cases h
def NI (a1 : List Product) (l5 : List Int) (l5n : Nat) (x6 : Int) : St :=
 ⟨[(3, vo 0 0 1 l5n), (11, vc (tl qC default a1)), (12, vi ((a1.length : Nat) : Int)), (13, vi x6)], [(0, ro 0 3 1 l5n (rf e_i64 l5))]⟩
def OV (l12 : List Int) : St :=
 ⟨[(3, vo 0 0 1 l12.length)], [(0, ro 0 3 1 l12.length (rf e_i64 l12))]⟩
theorem qEM (E : Env 0) (a1 : List Product) : ∀ (n : Nat) (l5 : List Int) (l5n : Nat) (x6 : Int) (res : (List Int)), l5.length = l5n → JC a1 n l5 x6 = some res → HL (kx E 32 0) (nd Tryz.f14 244) (zQ 0 (fun o => OV o) res) n (NI a1 l5 l5n x6) := by
 intro n
 induction n with
 | zero =>
  intro l5 l5n x6 res hl0 hm
  cases hm
 | succ n ih =>
  intro l5 l5n x6 res hl0 hm
  subst hl0
  refine qN ?_
  refine s_vu [] 1 [] [(14, vb (decide (x6 < ((a1.length : Nat) : Int))))] [] [] ?_
  refine q_sq ?_
  refine q_cm hm (fun b7 hm => ?_) (fun b7 hm => ?_)
  ·refine q_sk ?_
   refine q_sq ?_
   refine q_bk 1 ?_
   obtain ⟨g8, hm⟩ := qI hm
   refine s_vu [qd 0 (Dir.none) (inb_of g8)] 1 [14] [(5, vp 1 0)] [] [(1, bx 54 [cs ((a1.getD x6.toNat default).Name), ci ((a1.getD x6.toNat default).Thick), ci ((a1.getD x6.toNat default).Width), ci ((a1.getD x6.toNat default).Allow), ci ((a1.getD x6.toNat default).Wane), tl e_i64 default ((a1.getD x6.toNat default).Lengths), tl e_i64 default ((a1.getD x6.toNat default).Prices)])] ?_
   obtain ⟨v9, h10, hm⟩ := qB hm
   refine s_vu [qc 1 [18] 2 (TR (a1.getD x6.toNat default) v9 h10)] 2 [5] [(6, vi v9.1), (7, vi v9.2)] [1] [] ?_
   obtain ⟨g11, hm⟩ := qI hm
   refine q_vu [qd 3 (drw 2 0 (rf e_i64 ([v9.1, v9.2] : List Int))) (litP e_i64 default 1 (fun _ => rfl) ([v9.1, v9.2] : List Int) 2 rfl), qd 4 (drw 0 1 (rf e_i64 (l5 ++ ([v9.1, v9.2] : List Int)))) (apP e_i64 default l5 ([v9.1, v9.2] : List Int) l5.length 2 1 8 (2 ≤ 2) (Nat.le_refl _) rfl rfl (fun _ => rfl) (zO g11))] 2 [3, 6, 7] [(3, vo 0 1 1 (l5.length + 2))] [0] [(0, ro 1 3 1 (l5.length + 2) (rf e_i64 (l5 ++ ([v9.1, v9.2] : List Int))))] ?_
   refine q_vu [] 3 [13] [(13, vi (w64 (x6 + 1)))] [] [] ?_
   exact q_hl (NI a1 (l5 ++ ([v9.1, v9.2] : List Int)) (l5.length + 2) (w64 (x6 + 1))) (ih (l5 ++ ([v9.1, v9.2] : List Int)) (l5.length + 2) (w64 (x6 + 1)) _ (len_app rfl rfl) hm)
  ·refine q_ex 0 ?_
   obtain rfl := oi hm
   exact wM (by kernel_rfl) (by kernel_rfl)
theorem LW (a1 : List Product) (r : (List Int)) (hm : WN a1 = some r) : CtX Tryz.prog globs 14 0 0 [.one (tl qC default a1)] [] (qC0 r) (DO r) := by
 unfold WN at hm
 refine q_E Tryz.f14 32 fun E => ?_
 refine s_vn [] 0 ⟨[(0, vc (tl qC default a1))], []⟩ ?_
 refine q_sq ?_
 obtain ⟨v2, h3, hm⟩ := qB hm
 refine s_vu [qc 1 [8] 0 (wV a1 v2 h3)] 0 [] [(10, vb (v2 != 0))] [] [] ?_
 refine q_cm hm (fun b4 hm => ?_) (fun b4 hm => ?_)
 ·refine s_vn [] 0 ⟨[(2, vc (.emp))], []⟩ ?_
  refine q_fn [.own 2 0 3 1 (rf e_i64 ([] : List Int))] ⟨[(2, vo 0 0 1 0)], [(0, ro 0 3 1 0 (rf e_i64 ([] : List Int)))]⟩ o0 ?_
  refine q_fn [.len 0 (([] : List Int).length)] ⟨[(2, vo 0 0 1 (([] : List Int).length))], [(0, ro 0 3 1 (([] : List Int).length) (rf e_i64 ([] : List Int)))]⟩ (o1 (And.intro (show 0 = ([] : List Int).length from rfl) (show 0 = ([] : List Int).length from rfl))) ?_
  obtain rfl := oi hm
  refine q_rt ?_
  exact q_rm
 ·refine q_sk ?_
  refine s_vu [] 0 [10] [(3, vc (.emp))] [] [] ?_
  refine q_sq ?_
  refine s_vu [] 0 [0] [(11, vc (tl qC default a1)), (12, vi ((a1.length : Nat) : Int)), (13, vi 0)] [] [] ?_
  refine q_fn [.own 3 0 3 1 (rf e_i64 ([] : List Int))] ⟨[(3, vo 0 0 1 0), (11, vc (tl qC default a1)), (12, vi ((a1.length : Nat) : Int)), (13, vi 0)], [(0, ro 0 3 1 0 (rf e_i64 ([] : List Int)))]⟩ o0 ?_
  obtain ⟨o13, h14, hm⟩ := qB hm
  refine zL (nd Tryz.f14 244) 0 (by kernel_rfl) FUEL (fun o => OV o) o13 (q_hl (NI a1 ([] : List Int) 0 0) (qEM E a1 FUEL ([] : List Int) 0 0 o13 rfl h14)) ?_
  obtain ⟨v15, h16, hm⟩ := qB hm
  obtain ⟨g17, hm⟩ := qI hm
  refine s_wu [qd 1 (dex (cen [(0, 0)] [0] 0 1 (AO o13 v15) (AY o13 v15) [28] [0])) (wR (K := (kx E 32 0)) ⟨[(28, vo 0 0 1 o13.length)], [(0, ro 0 3 1 o13.length (rf e_i64 o13))]⟩ (opAt (rg Tryz.f14 62) 1) [(0, 0)] [0] 0 o0 rfl (qEf o13 v15 h16) (.inl rfl) (by kernel_rfl))] [.len 0 o13.length] (o1 (And.intro (And.intro (Eq.refl o13.length) (Eq.refl o13.length)) (And.intro (of_beq g17) (Eq.refl o13.length)))) 1 [] [] [0] [(0, ro 0 3 1 o13.length (rf e_i64 v15))] ?_
  obtain ⟨v18, h19, hm⟩ := qB hm
  refine s_vn [qd 1 (dpr [.len 0 v15.length] (dex (cen [(0, 0)] [0] 0 1 (WX v15 v18) (JH v15 v18) [30] [0]))) (And.intro (And.intro (Eq.symm (show v15.length = o13.length from (of_beq g17))) (Eq.symm (show v15.length = o13.length from (of_beq g17)))) (Eq.symm (show v15.length = o13.length from (of_beq g17)))), qd 1 (Dir.none) (wR (K := (kx E 32 0)) ⟨[(30, vo 0 0 1 v15.length)], [(0, ro 0 3 1 v15.length (rf e_i64 v15))]⟩ (opAt (rg Tryz.f14 126) 1) [(0, 0)] [0] 0 o0 rfl (qCi v15 v18 h19) (.inl rfl) (by kernel_rfl))] 1 ⟨[(2, vo 0 0 1 v18.2.length)], [(0, ro 0 3 1 v18.2.length (rf e_i64 v18.2))]⟩ ?_
  obtain rfl := oi hm
  refine q_rt ?_
  exact q_rm
def qM0 (r : Line × (List (List (List Node)))) : V := .tup [.agg [ci r.1.Len, ci r.1.Kerf, ci r.1.Pitch, .own 0 0 1 r.1.Sizes.length, .own 1 0 1 r.1.Gain.length, .own 2 0 1 r.1.Chip.length, .own 3 0 1 r.1.Dust.length], .one (.own 4 0 1 r.2.length)]
def qNf (r : Line × (List (List (List Node)))) : List (Nat × (Nat × O)) := [(0, ro 0 3 1 r.1.Sizes.length (rf e_i64 r.1.Sizes)), (1, ro 0 28 1 r.1.Gain.length (rf (qD e_i64) r.1.Gain)), (2, ro 0 3 1 r.1.Chip.length (rf e_i64 r.1.Chip)), (3, ro 0 3 1 r.1.Dust.length (rf e_i64 r.1.Dust)), (4, ro 0 89 1 r.2.length (rf (qD (qD e_Node)) r.2))]
def qCZ (a1 : List qA) (a2 : List Defect) (a3 : List Product) (a4 : Rect) (a5 : Saw) (a6 : Rates) (v7 : (List Int)) (l9 : List (List (List Node))) (x10 : Int) (l11 : List (List Int)) (l14 : List Int) (l15 : List (List Node)) (x16 : Int) (x30 : Int) (l31 : List Node) (l31n : Nat) : St :=
 ⟨[(0, vc (tl qG default a1)), (1, vc (tl qF default a2)), (2, vc (tl qC default a3)), (9, vp 0 0), (10, vp 1 0), (11, vp 2 0), (12, vp 3 0), (14, vi (w64 (a4.Y.B - a4.Y.A))), (15, vp 5 0), (16, vo 6 0 1 l9.length), (18, vi (v7.getD x10.toNat default)), (19, vo 8 0 1 l14.length), (20, vo 9 0 1 l15.length), (21, vi x16), (22, vi x30), (23, vo 10 0 2 l31n), (43, vo 4 0 1 v7.length), (44, vi ((v7.length : Nat) : Int)), (45, vi x10)], [(0, bx 33 (qH a4)), (1, bx 38 (qT a5)), (2, bx 40 (qQ a6)), (3, bx 84 [ci 0, ci 0, ci 0, .emp, .emp, .emp, .emp]), (4, ro 0 3 1 v7.length (rf e_i64 v7)), (5, bx 84 [ci (w64 (a4.Y.B - a4.Y.A)), ci a5.Kerf, ci 1, .own 4 0 1 v7.length, .own 7 0 1 l11.length, .emp, .emp]), (6, ro 0 89 1 l9.length (rf (qD (qD e_Node)) l9)), (7, ro 0 28 1 l11.length (rf (qD e_i64) l11)), (8, ro 0 3 1 l14.length (rf e_i64 l14)), (9, ro 0 44 1 l15.length (rf (qD e_Node) l15)), (10, ro 0 65 2 l31n (rf e_Node l31))]⟩
def qCS (a1 : List qA) (a2 : List Defect) (a3 : List Product) (a4 : Rect) (a5 : Saw) (a6 : Rates) (v7 : (List Int)) (l9 : List (List (List Node))) (x10 : Int) (l11 : List (List Int)) (l14 : List Int) (l15 : List (List Node)) (x16 : Int) (v22 : (List Node) × Int × Int) (x27 : Bool) : St :=
 ⟨[(0, vc (tl qG default a1)), (1, vc (tl qF default a2)), (2, vc (tl qC default a3)), (9, vp 0 0), (10, vp 1 0), (11, vp 2 0), (12, vp 3 0), (14, vi (w64 (a4.Y.B - a4.Y.A))), (15, vp 5 0), (16, vo 6 0 1 l9.length), (18, vi (v7.getD x10.toNat default)), (19, vo 8 0 1 l14.length), (20, vo 9 0 1 l15.length), (21, vi x16), (22, vi (-1)), (23, vc (.emp)), (24, vo 10 0 2 v22.1.length), (25, vi v22.2.1), (43, vo 4 0 1 v7.length), (44, vi ((v7.length : Nat) : Int)), (45, vi x10), (82, vb x27)], [(0, bx 33 (qH a4)), (1, bx 38 (qT a5)), (2, bx 40 (qQ a6)), (3, bx 84 [ci 0, ci 0, ci 0, .emp, .emp, .emp, .emp]), (4, ro 0 3 1 v7.length (rf e_i64 v7)), (5, bx 84 [ci (w64 (a4.Y.B - a4.Y.A)), ci a5.Kerf, ci 1, .own 4 0 1 v7.length, .own 7 0 1 l11.length, .emp, .emp]), (6, ro 0 89 1 l9.length (rf (qD (qD e_Node)) l9)), (7, ro 0 28 1 l11.length (rf (qD e_i64) l11)), (8, ro 0 3 1 l14.length (rf e_i64 l14)), (9, ro 0 44 1 l15.length (rf (qD e_Node) l15)), (10, ro 0 65 2 v22.1.length (rf e_Node v22.1))]⟩
def EO (a1 : List qA) (a2 : List Defect) (a3 : List Product) (a4 : Rect) (a5 : Saw) (a6 : Rates) (v7 : (List Int)) (l9 : List (List (List Node))) (x10 : Int) (l11 : List (List Int)) (l14 : List Int) (l14n : Nat) (l15 : List (List Node)) (l15n : Nat) (x16 : Int) : St :=
 ⟨[(0, vc (tl qG default a1)), (1, vc (tl qF default a2)), (2, vc (tl qC default a3)), (9, vp 0 0), (10, vp 1 0), (11, vp 2 0), (12, vp 3 0), (14, vi (w64 (a4.Y.B - a4.Y.A))), (15, vp 5 0), (16, vo 6 0 1 l9.length), (18, vi (v7.getD x10.toNat default)), (19, vo 8 0 1 l14n), (20, vo 9 0 1 l15n), (21, vi x16), (43, vo 4 0 1 v7.length), (44, vi ((v7.length : Nat) : Int)), (45, vi x10)], [(0, bx 33 (qH a4)), (1, bx 38 (qT a5)), (2, bx 40 (qQ a6)), (3, bx 84 [ci 0, ci 0, ci 0, .emp, .emp, .emp, .emp]), (4, ro 0 3 1 v7.length (rf e_i64 v7)), (5, bx 84 [ci (w64 (a4.Y.B - a4.Y.A)), ci a5.Kerf, ci 1, .own 4 0 1 v7.length, .own 7 0 1 l11.length, .emp, .emp]), (6, ro 0 89 1 l9.length (rf (qD (qD e_Node)) l9)), (7, ro 0 28 1 l11.length (rf (qD e_i64) l11)), (8, ro 0 3 1 l14n (rf e_i64 l14)), (9, ro 0 44 1 l15n (rf (qD e_Node) l15))]⟩
def qC1 (a1 : List qA) (a2 : List Defect) (a3 : List Product) (a4 : Rect) (a5 : Saw) (a6 : Rates) (v7 : (List Int)) (l9 : List (List (List Node))) (x10 : Int) (l11 : List (List Int)) (l34 : List Int) (l35 : List (List Node)) : St :=
 ⟨[(0, vc (tl qG default a1)), (1, vc (tl qF default a2)), (2, vc (tl qC default a3)), (9, vp 0 0), (10, vp 1 0), (11, vp 2 0), (12, vp 3 0), (14, vi (w64 (a4.Y.B - a4.Y.A))), (15, vp 5 0), (16, vo 6 0 1 l9.length), (19, vo 8 0 1 l34.length), (20, vo 9 0 1 l35.length), (43, vo 4 0 1 v7.length), (44, vi ((v7.length : Nat) : Int)), (45, vi x10)], [(0, bx 33 (qH a4)), (1, bx 38 (qT a5)), (2, bx 40 (qQ a6)), (3, bx 84 [ci 0, ci 0, ci 0, .emp, .emp, .emp, .emp]), (4, ro 0 3 1 v7.length (rf e_i64 v7)), (5, bx 84 [ci (w64 (a4.Y.B - a4.Y.A)), ci a5.Kerf, ci 1, .own 4 0 1 v7.length, .own 7 0 1 l11.length, .emp, .emp]), (6, ro 0 89 1 l9.length (rf (qD (qD e_Node)) l9)), (7, ro 0 28 1 l11.length (rf (qD e_i64) l11)), (8, ro 0 3 1 l34.length (rf e_i64 l34)), (9, ro 0 44 1 l35.length (rf (qD e_Node) l35))]⟩
def ER (a1 : List qA) (a2 : List Defect) (a3 : List Product) (a4 : Rect) (a5 : Saw) (a6 : Rates) (v7 : (List Int)) (l9 : List (List (List Node))) (l9n : Nat) (x10 : Int) (l11 : List (List Int)) (l11n : Nat) : St :=
 ⟨[(0, vc (tl qG default a1)), (1, vc (tl qF default a2)), (2, vc (tl qC default a3)), (9, vp 0 0), (10, vp 1 0), (11, vp 2 0), (12, vp 3 0), (14, vi (w64 (a4.Y.B - a4.Y.A))), (15, vp 5 0), (16, vo 6 0 1 l9n), (43, vo 4 0 1 v7.length), (44, vi ((v7.length : Nat) : Int)), (45, vi x10)], [(0, bx 33 (qH a4)), (1, bx 38 (qT a5)), (2, bx 40 (qQ a6)), (3, bx 84 [ci 0, ci 0, ci 0, .emp, .emp, .emp, .emp]), (4, ro 0 3 1 v7.length (rf e_i64 v7)), (5, bx 84 [ci (w64 (a4.Y.B - a4.Y.A)), ci a5.Kerf, ci 1, .own 4 0 1 v7.length, .own 7 0 1 l11n, .emp, .emp]), (6, ro 0 89 1 l9n (rf (qD (qD e_Node)) l9)), (7, ro 0 28 1 l11n (rf (qD e_i64) l11))]⟩
def qC4 (a1 : List qA) (a4 : Rect) (a5 : Saw) (a6 : Rates) (v7 : (List Int)) (l40 : List (List (List Node))) (l41 : List (List Int)) : St :=
 ⟨[(0, vc (tl qG default a1)), (9, vp 0 0), (11, vp 2 0), (12, vp 3 0), (14, vi (w64 (a4.Y.B - a4.Y.A))), (15, vp 5 0), (16, vo 6 0 1 l40.length)], [(0, bx 33 (qH a4)), (2, bx 40 (qQ a6)), (3, bx 84 [ci 0, ci 0, ci 0, .emp, .emp, .emp, .emp]), (4, ro 0 3 1 v7.length (rf e_i64 v7)), (5, bx 84 [ci (w64 (a4.Y.B - a4.Y.A)), ci a5.Kerf, ci 1, .own 4 0 1 v7.length, .own 7 0 1 l41.length, .emp, .emp]), (6, ro 0 89 1 l40.length (rf (qD (qD e_Node)) l40)), (7, ro 0 28 1 l41.length (rf (qD e_i64) l41))]⟩
def SV (a1 : List qA) (a4 : Rect) (a5 : Saw) (a6 : Rates) (v7 : (List Int)) (o42 : (List (List (List Node))) × (List (List Int))) (x44 : Int) (l45 : List Int) (l45n : Nat) (l46 : List Int) (l46n : Nat) : St :=
 ⟨[(0, vc (tl qG default a1)), (9, vp 0 0), (11, vp 2 0), (12, vp 3 0), (15, vp 5 0), (16, vo 6 0 1 o42.1.length), (104, vi (w64 (a4.Y.B - a4.Y.A))), (105, vi x44)], [(0, bx 33 (qH a4)), (2, bx 40 (qQ a6)), (3, bx 84 [ci 0, ci 0, ci 0, .emp, .emp, .emp, .emp]), (4, ro 0 3 1 v7.length (rf e_i64 v7)), (5, bx 84 [ci (w64 (a4.Y.B - a4.Y.A)), ci a5.Kerf, ci 1, .own 4 0 1 v7.length, .own 7 0 1 o42.2.length, .own 8 0 1 l45n, .own 9 0 1 l46n]), (6, ro 0 89 1 o42.1.length (rf (qD (qD e_Node)) o42.1)), (7, ro 0 28 1 o42.2.length (rf (qD e_i64) o42.2)), (8, ro 0 3 1 l45n (rf e_i64 l45)), (9, ro 0 3 1 l46n (rf e_i64 l46))]⟩
def qC7 (a4 : Rect) (a5 : Saw) (v7 : (List Int)) (o42 : (List (List (List Node))) × (List (List Int))) (l54 : List Int) (l55 : List Int) : St :=
 ⟨[(12, vp 3 0), (15, vp 5 0), (16, vo 6 0 1 o42.1.length)], [(3, bx 84 [ci 0, ci 0, ci 0, .emp, .emp, .emp, .emp]), (4, ro 0 3 1 v7.length (rf e_i64 v7)), (5, bx 84 [ci (w64 (a4.Y.B - a4.Y.A)), ci a5.Kerf, ci 1, .own 4 0 1 v7.length, .own 7 0 1 o42.2.length, .own 8 0 1 l54.length, .own 9 0 1 l55.length]), (6, ro 0 89 1 o42.1.length (rf (qD (qD e_Node)) o42.1)), (7, ro 0 28 1 o42.2.length (rf (qD e_i64) o42.2)), (8, ro 0 3 1 l54.length (rf e_i64 l54)), (9, ro 0 3 1 l55.length (rf e_i64 l55))]⟩
theorem qH2 (E : Env 0) (a1 : List qA) (a2 : List Defect) (a3 : List Product) (a4 : Rect) (a5 : Saw) (a6 : Rates) (v7 : (List Int)) (l9 : List (List (List Node))) (x10 : Int) (l11 : List (List Int)) : ∀ (n : Nat) (l14 : List Int) (l14n : Nat) (l15 : List (List Node)) (l15n : Nat) (x16 : Int) (res : (List Int) × (List (List Node))), l14.length = l14n → l15.length = l15n → jL a1 a2 a3 a4 a5 a6 v7 x10 n l14 l15 x16 = some res → HL (kx E 136 0) (nd Tryz.f86 1025652) (zQ 2 (fun o => qC1 a1 a2 a3 a4 a5 a6 v7 l9 x10 l11 o.1 o.2) res) n (EO a1 a2 a3 a4 a5 a6 v7 l9 x10 l11 l14 l14n l15 l15n x16) := by
 intro n
 induction n with
 | zero =>
  intro l14 l14n l15 l15n x16 res hl0 hl1 hm
  cases hm
 | succ n ih =>
  intro l14 l14n l15 l15n x16 res hl0 hl1 hm
  subst hl0
  subst hl1
  refine qN ?_
  refine q_sq ?_
  refine s_vu [] 10 [] [(53, vb (decide ((w64 (x16 + (v7.getD x10.toNat default))) ≤ (w64 (a4.Y.B - a4.Y.A)))))] [] [] ?_
  refine q_cm hm (fun b17 hm => ?_) (fun b17 hm => ?_)
  ·refine q_sk ?_
   refine q_sq ?_
   refine q_bk 3 ?_
   refine s_vu [] 10 [53] [(22, vi (-1))] [] [] ?_
   refine s_vu [] 10 [] [(23, vc (.emp))] [] [] ?_
   refine q_jn (ι := Int × (List Node) × Nat) (fun p => qCZ a1 a2 a3 a4 a5 a6 v7 l9 x10 l11 l14 l15 x16 p.1 p.2.1 p.2.2) (fun p => p.2.1.length = p.2.2 ∧ GZ l14 l15 x16 (jL a1 a2 a3 a4 a5 a6 v7 x10 n) p.1 p.2.1 = some res) ?_ ?_
   ·rintro ⟨x30, l31, l31n⟩ ⟨el31, hm⟩
    replace el31 : l31.length = l31n := el31
    subst el31
    show H _ (qCZ a1 a2 a3 a4 a5 a6 v7 l9 x10 l11 l14 l15 x16 x30 l31 l31.length) _ _
    obtain ⟨g32, hm⟩ := qI hm
    refine s_vu [qd 2 (drw 12 0 (rf e_i64 ([x30] : List Int))) (litP e_i64 default 1 (fun _ => rfl) ([x30] : List Int) 1 rfl), qd 3 (drw 8 1 (rf e_i64 (l14 ++ ([x30] : List Int)))) (apP e_i64 default l14 ([x30] : List Int) l14.length 1 1 8 (1 ≤ 1) (Nat.le_refl _) rfl rfl (fun _ => rfl) (zO g32))] 12 [19, 22] [(19, vo 8 1 1 (l14.length + 1))] [8] [(8, ro 1 3 1 (l14.length + 1) (rf e_i64 (l14 ++ ([x30] : List Int))))] ?_
    obtain ⟨g33, hm⟩ := qI hm
    refine q_vu [qd 2 (dpr [.frz 10] (drw 13 0 (rf (qD e_Node) ([l31] : List (List Node))))) (And.intro (Nat.le_refl l31.length) (Nat.le_refl l31.length)), qd 2 (Dir.none) (litP (qD e_Node) default 1 (fun _ => rfl) ([l31] : List (List Node)) 1 rfl), qd 3 (drw 9 1 (rf (qD e_Node) (l15 ++ ([l31] : List (List Node))))) (apP (qD e_Node) default l15 ([l31] : List (List Node)) l15.length 1 1 24 (1 ≤ 1) (Nat.le_refl _) rfl rfl (fun _ => rfl) (zO g33))] 13 [20, 23] [(20, vo 9 1 1 (l15.length + 1))] [9, 10] [(9, ro 1 44 1 (l15.length + 1) (rf (qD e_Node) (l15 ++ ([l31] : List (List Node)))))] ?_
    refine q_vu [] 14 [21] [(21, vi (w64 (x16 + 1)))] [] [] ?_
    exact q_hl (EO a1 a2 a3 a4 a5 a6 v7 l9 x10 l11 (l14 ++ ([x30] : List Int)) (l14.length + 1) (l15 ++ ([l31] : List (List Node))) (l15.length + 1) (w64 (x16 + 1))) (ih (l14 ++ ([x30] : List Int)) (l14.length + 1) (l15 ++ ([l31] : List (List Node))) (l15.length + 1) (w64 (x16 + 1)) _ (len_app rfl rfl) (len_app rfl rfl) hm)
   ·obtain ⟨g18, hm⟩ := qI hm
    refine s_vu [qd 3 (Dir.none) (ET g18)] 10 [] [(60, vb ((Int.tmod x16 a5.Pitch) == 0))] [] [] ?_
    refine q_cm hm (fun b19 hm => ?_) (fun b19 hm => ?_)
    ·obtain ⟨v20, h21, hm⟩ := qB hm
     obtain ⟨v22, h23, hm⟩ := qB hm
     refine s_du [qc 8 [65, 66, 69] 10 (ON a4 x16 (w64 (x16 + (v7.getD x10.toNat default))) v20 h21), qc 11 [62, 63, 64, 70, 71, 72] 10 (qL1 a1 a2 a3 v20 a5 a6 v22 h23)] [0, 0, 0, 0, 0, 0, 0, 96, 248, 0, 0, 2047, 4095, 8191, 8191, 8191, 16383, 98303, 262143] 10 [60] [(24, vo 10 0 2 v22.1.length), (25, vi v22.2.1), (26, vi v22.2.2)] [] [(10, ro 0 65 2 v22.1.length (rf e_Node v22.1))] ?_
     refine q_jn (ι := Bool) (fun p => qCS a1 a2 a3 a4 a5 a6 v7 l9 x10 l11 l14 l15 x16 v22 p) (fun p => HH l14 l15 x16 (jL a1 a2 a3 a4 a5 a6 v7 x10 n) v22 p = some res) ?_ ?_
     ·rintro x27 hm
      show H _ (qCS a1 a2 a3 a4 a5 a6 v7 l9 x10 l11 l14 l15 x16 v22 x27) _ _
      refine q_cm hm (fun b28 hm => ?_) (fun b28 hm => ?_)
      ·refine q_vu [] 11 [22, 23, 24, 25, 82] [(22, vi v22.2.1), (23, vo 10 0 2 v22.1.length)] [] [] ?_
       exact q_J (v22.2.1, v22.1, v22.1.length) ⟨rfl, hm⟩
      ·refine q_fn [.swp 10 11] ⟨[(0, vc (tl qG default a1)), (1, vc (tl qF default a2)), (2, vc (tl qC default a3)), (9, vp 0 0), (10, vp 1 0), (11, vp 2 0), (12, vp 3 0), (14, vi (w64 (a4.Y.B - a4.Y.A))), (15, vp 5 0), (16, vo 6 0 1 l9.length), (18, vi (v7.getD x10.toNat default)), (19, vo 8 0 1 l14.length), (20, vo 9 0 1 l15.length), (21, vi x16), (22, vi (-1)), (23, vc (.emp)), (24, vo 11 0 2 v22.1.length), (25, vi v22.2.1), (43, vo 4 0 1 v7.length), (44, vi ((v7.length : Nat) : Int)), (45, vi x10), (82, vb x27)], [(0, bx 33 (qH a4)), (1, bx 38 (qT a5)), (2, bx 40 (qQ a6)), (3, bx 84 [ci 0, ci 0, ci 0, .emp, .emp, .emp, .emp]), (4, ro 0 3 1 v7.length (rf e_i64 v7)), (5, bx 84 [ci (w64 (a4.Y.B - a4.Y.A)), ci a5.Kerf, ci 1, .own 4 0 1 v7.length, .own 7 0 1 l11.length, .emp, .emp]), (6, ro 0 89 1 l9.length (rf (qD (qD e_Node)) l9)), (7, ro 0 28 1 l11.length (rf (qD e_i64) l11)), (8, ro 0 3 1 l14.length (rf e_i64 l14)), (9, ro 0 44 1 l15.length (rf (qD e_Node) l15)), (11, ro 0 65 2 v22.1.length (rf e_Node v22.1))]⟩ o0 ?_
       refine q_fn [.own 23 10 65 2 (rf e_Node ([] : List Node))] ⟨[(0, vc (tl qG default a1)), (1, vc (tl qF default a2)), (2, vc (tl qC default a3)), (9, vp 0 0), (10, vp 1 0), (11, vp 2 0), (12, vp 3 0), (14, vi (w64 (a4.Y.B - a4.Y.A))), (15, vp 5 0), (16, vo 6 0 1 l9.length), (18, vi (v7.getD x10.toNat default)), (19, vo 8 0 1 l14.length), (20, vo 9 0 1 l15.length), (21, vi x16), (22, vi (-1)), (23, vo 10 0 2 0), (24, vo 11 0 2 v22.1.length), (25, vi v22.2.1), (43, vo 4 0 1 v7.length), (44, vi ((v7.length : Nat) : Int)), (45, vi x10), (82, vb x27)], [(0, bx 33 (qH a4)), (1, bx 38 (qT a5)), (2, bx 40 (qQ a6)), (3, bx 84 [ci 0, ci 0, ci 0, .emp, .emp, .emp, .emp]), (4, ro 0 3 1 v7.length (rf e_i64 v7)), (5, bx 84 [ci (w64 (a4.Y.B - a4.Y.A)), ci a5.Kerf, ci 1, .own 4 0 1 v7.length, .own 7 0 1 l11.length, .emp, .emp]), (6, ro 0 89 1 l9.length (rf (qD (qD e_Node)) l9)), (7, ro 0 28 1 l11.length (rf (qD e_i64) l11)), (8, ro 0 3 1 l14.length (rf e_i64 l14)), (9, ro 0 44 1 l15.length (rf (qD e_Node) l15)), (10, ro 0 65 2 0 (rf e_Node ([] : List Node))), (11, ro 0 65 2 v22.1.length (rf e_Node v22.1))]⟩ o0 ?_
       refine q_sk ?_
       exact q_J ((-1), ([] : List Node), 0) ⟨rfl, hm⟩
     ·rcases bif_c hm with ⟨b24, hm⟩ | ⟨b24, hm⟩
      ·obtain ⟨v25, h26, hm⟩ := qB hm
       refine q_vu [qf 2 b24, qd 4 (dex (cen [] [] 11 0 (qBw v25) (VU v25) [79, 80] [10])) (wR (K := (kx E 136 0)) (b := false) ⟨[(79, vb true), (80, vo 10 0 2 v22.1.length)], [(10, ro 0 65 2 v22.1.length (rf e_Node v22.1))]⟩ (opAt (rg Tryz.f86 1050268266) 4) [] [] 11 (o1 (Nat.le_refl v22.1.length)) rfl (qGv v22.1 v25 h26) (.inr ⟨(by kernel_rfl), qHa v25⟩) (by kernel_rfl))] 11 [26] [(82, vb v25)] [] [] ?_
       exact q_J (v25) hm
      ·refine q_vu [qf 2 b24] 11 [26] [(82, vb false)] [] [] ?_
       exact q_J (false) hm
    ·refine q_fn [.own 23 10 65 2 (rf e_Node ([] : List Node))] ⟨[(0, vc (tl qG default a1)), (1, vc (tl qF default a2)), (2, vc (tl qC default a3)), (9, vp 0 0), (10, vp 1 0), (11, vp 2 0), (12, vp 3 0), (14, vi (w64 (a4.Y.B - a4.Y.A))), (15, vp 5 0), (16, vo 6 0 1 l9.length), (18, vi (v7.getD x10.toNat default)), (19, vo 8 0 1 l14.length), (20, vo 9 0 1 l15.length), (21, vi x16), (22, vi (-1)), (23, vo 10 0 2 0), (43, vo 4 0 1 v7.length), (44, vi ((v7.length : Nat) : Int)), (45, vi x10), (60, vb ((Int.tmod x16 a5.Pitch) == 0))], [(0, bx 33 (qH a4)), (1, bx 38 (qT a5)), (2, bx 40 (qQ a6)), (3, bx 84 [ci 0, ci 0, ci 0, .emp, .emp, .emp, .emp]), (4, ro 0 3 1 v7.length (rf e_i64 v7)), (5, bx 84 [ci (w64 (a4.Y.B - a4.Y.A)), ci a5.Kerf, ci 1, .own 4 0 1 v7.length, .own 7 0 1 l11.length, .emp, .emp]), (6, ro 0 89 1 l9.length (rf (qD (qD e_Node)) l9)), (7, ro 0 28 1 l11.length (rf (qD e_i64) l11)), (8, ro 0 3 1 l14.length (rf e_i64 l14)), (9, ro 0 44 1 l15.length (rf (qD e_Node) l15)), (10, ro 0 65 2 0 (rf e_Node ([] : List Node)))]⟩ o0 ?_
     refine q_sk ?_
     exact q_J ((-1), ([] : List Node), 0) ⟨rfl, hm⟩
  ·refine q_ex 2 ?_
   obtain rfl := oi hm
   exact wM (by kernel_rfl) (by kernel_rfl)
theorem qIn (E : Env 0) (a1 : List qA) (a2 : List Defect) (a3 : List Product) (a4 : Rect) (a5 : Saw) (a6 : Rates) (v7 : (List Int)) : ∀ (n : Nat) (l9 : List (List (List Node))) (l9n : Nat) (x10 : Int) (l11 : List (List Int)) (l11n : Nat) (res : (List (List (List Node))) × (List (List Int))), l9.length = l9n → l11.length = l11n → PJ a1 a2 a3 a4 a5 a6 v7 n l9 x10 l11 = some res → HL (kx E 136 0) (nd Tryz.f86 500) (zQ 0 (fun o => qC4 a1 a4 a5 a6 v7 o.1 o.2) res) n (ER a1 a2 a3 a4 a5 a6 v7 l9 l9n x10 l11 l11n) := by
 intro n
 induction n with
 | zero =>
  intro l9 l9n x10 l11 l11n res hl0 hl1 hm
  cases hm
 | succ n ih =>
  intro l9 l9n x10 l11 l11n res hl0 hl1 hm
  subst hl0
  subst hl1
  refine qN ?_
  refine s_vu [] 8 [] [(46, vb (decide (x10 < ((v7.length : Nat) : Int))))] [] [] ?_
  refine q_sq ?_
  refine q_cm hm (fun b12 hm => ?_) (fun b12 hm => ?_)
  ·refine q_sk ?_
   refine q_sq ?_
   refine q_bk 1 ?_
   obtain ⟨g13, hm⟩ := qI hm
   refine s_vu [qd 0 (Dir.none) (inb_of g13), qd 1 (Dir.none) (toNat_lt (inb_of g13))] 8 [46] [(18, vi (v7.getD x10.toNat default))] [] [] ?_
   refine s_vu [] 8 [] [(19, vc (.emp))] [] [] ?_
   refine s_vu [] 8 [] [(20, vc (.emp))] [] [] ?_
   refine q_sq ?_
   refine s_vu [] 8 [] [(21, vi 0)] [] [] ?_
   refine q_fn [.own 19 8 3 1 (rf e_i64 ([] : List Int))] ⟨[(0, vc (tl qG default a1)), (1, vc (tl qF default a2)), (2, vc (tl qC default a3)), (9, vp 0 0), (10, vp 1 0), (11, vp 2 0), (12, vp 3 0), (14, vi (w64 (a4.Y.B - a4.Y.A))), (15, vp 5 0), (16, vo 6 0 1 l9.length), (18, vi (v7.getD x10.toNat default)), (19, vo 8 0 1 0), (20, vc (.emp)), (21, vi 0), (43, vo 4 0 1 v7.length), (44, vi ((v7.length : Nat) : Int)), (45, vi x10)], [(0, bx 33 (qH a4)), (1, bx 38 (qT a5)), (2, bx 40 (qQ a6)), (3, bx 84 [ci 0, ci 0, ci 0, .emp, .emp, .emp, .emp]), (4, ro 0 3 1 v7.length (rf e_i64 v7)), (5, bx 84 [ci (w64 (a4.Y.B - a4.Y.A)), ci a5.Kerf, ci 1, .own 4 0 1 v7.length, .own 7 0 1 l11.length, .emp, .emp]), (6, ro 0 89 1 l9.length (rf (qD (qD e_Node)) l9)), (7, ro 0 28 1 l11.length (rf (qD e_i64) l11)), (8, ro 0 3 1 0 (rf e_i64 ([] : List Int)))]⟩ o0 ?_
   refine q_fn [.own 20 9 44 1 (rf (qD e_Node) ([] : List (List Node)))] ⟨[(0, vc (tl qG default a1)), (1, vc (tl qF default a2)), (2, vc (tl qC default a3)), (9, vp 0 0), (10, vp 1 0), (11, vp 2 0), (12, vp 3 0), (14, vi (w64 (a4.Y.B - a4.Y.A))), (15, vp 5 0), (16, vo 6 0 1 l9.length), (18, vi (v7.getD x10.toNat default)), (19, vo 8 0 1 0), (20, vo 9 0 1 0), (21, vi 0), (43, vo 4 0 1 v7.length), (44, vi ((v7.length : Nat) : Int)), (45, vi x10)], [(0, bx 33 (qH a4)), (1, bx 38 (qT a5)), (2, bx 40 (qQ a6)), (3, bx 84 [ci 0, ci 0, ci 0, .emp, .emp, .emp, .emp]), (4, ro 0 3 1 v7.length (rf e_i64 v7)), (5, bx 84 [ci (w64 (a4.Y.B - a4.Y.A)), ci a5.Kerf, ci 1, .own 4 0 1 v7.length, .own 7 0 1 l11.length, .emp, .emp]), (6, ro 0 89 1 l9.length (rf (qD (qD e_Node)) l9)), (7, ro 0 28 1 l11.length (rf (qD e_i64) l11)), (8, ro 0 3 1 0 (rf e_i64 ([] : List Int))), (9, ro 0 44 1 0 (rf (qD e_Node) ([] : List (List Node))))]⟩ o0 ?_
   obtain ⟨o36, h37, hm⟩ := qB hm
   refine zL (nd Tryz.f86 1025652) 2 (by kernel_rfl) FUEL (fun o => qC1 a1 a2 a3 a4 a5 a6 v7 l9 x10 l11 o.1 o.2) o36 (q_hl (EO a1 a2 a3 a4 a5 a6 v7 l9 x10 l11 ([] : List Int) 0 ([] : List (List Node)) 0 0) (qH2 E a1 a2 a3 a4 a5 a6 v7 l9 x10 l11 FUEL ([] : List Int) 0 ([] : List (List Node)) 0 0 o36 rfl rfl h37)) ?_
   obtain ⟨g38, hm⟩ := qI hm
   refine s_vu [qd 3 (dpr [.frz 8] (drw 10 0 (rf (qD e_i64) ([o36.1] : List (List Int))))) (And.intro (Nat.le_refl o36.1.length) (Nat.le_refl o36.1.length)), qd 3 (Dir.none) (litP (qD e_i64) default 1 (fun _ => rfl) ([o36.1] : List (List Int)) 1 rfl), qd 4 (drw 7 1 (rf (qD e_i64) (l11 ++ ([o36.1] : List (List Int))))) (apP (qD e_i64) default l11 ([o36.1] : List (List Int)) l11.length 1 1 24 (1 ≤ 1) (Nat.le_refl _) rfl rfl (fun _ => rfl) (zO g38))] 10 [19] [] [5, 7, 8] [(5, bx 84 [ci (w64 (a4.Y.B - a4.Y.A)), ci a5.Kerf, ci 1, .own 4 0 1 v7.length, .own 7 1 1 (l11.length + 1), .emp, .emp]), (7, ro 1 28 1 (l11.length + 1) (rf (qD e_i64) (l11 ++ ([o36.1] : List (List Int)))))] ?_
   obtain ⟨g39, hm⟩ := qI hm
   refine q_vu [qd 2 (dpr [.frz 9] (drw 11 0 (rf (qD (qD e_Node)) ([o36.2] : List (List (List Node)))))) (And.intro (Nat.le_refl o36.2.length) (Nat.le_refl o36.2.length)), qd 2 (Dir.none) (litP (qD (qD e_Node)) default 1 (fun _ => rfl) ([o36.2] : List (List (List Node))) 1 rfl), qd 3 (drw 6 1 (rf (qD (qD e_Node)) (l9 ++ ([o36.2] : List (List (List Node)))))) (apP (qD (qD e_Node)) default l9 ([o36.2] : List (List (List Node))) l9.length 1 1 24 (1 ≤ 1) (Nat.le_refl _) rfl rfl (fun _ => rfl) (zO g39))] 11 [16, 20] [(16, vo 6 1 1 (l9.length + 1))] [6, 9] [(6, ro 1 89 1 (l9.length + 1) (rf (qD (qD e_Node)) (l9 ++ ([o36.2] : List (List (List Node))))))] ?_
   refine q_vu [] 12 [45] [(45, vi (w64 (x10 + 1)))] [] [] ?_
   exact q_hl (ER a1 a2 a3 a4 a5 a6 v7 (l9 ++ ([o36.2] : List (List (List Node)))) (l9.length + 1) (w64 (x10 + 1)) (l11 ++ ([o36.1] : List (List Int))) (l11.length + 1)) (ih (l9 ++ ([o36.2] : List (List (List Node)))) (l9.length + 1) (w64 (x10 + 1)) (l11 ++ ([o36.1] : List (List Int))) (l11.length + 1) _ (len_app rfl rfl) (len_app rfl rfl) hm)
  ·refine q_ex 0 ?_
   obtain rfl := oi hm
   exact wM (by kernel_rfl) (by kernel_rfl)
theorem qHC (E : Env 0) (a1 : List qA) (a4 : Rect) (a5 : Saw) (a6 : Rates) (v7 : (List Int)) (o42 : (List (List (List Node))) × (List (List Int))) : ∀ (n : Nat) (x44 : Int) (l45 : List Int) (l45n : Nat) (l46 : List Int) (l46n : Nat) (res : (List Int) × (List Int)), l45.length = l45n → l46.length = l46n → PU a1 a4 a6 n x44 l45 l46 = some res → HL (kx E 136 0) (nd Tryz.f86 1012) (zQ 4 (fun o => qC7 a4 a5 v7 o42 o.1 o.2) res) n (SV a1 a4 a5 a6 v7 o42 x44 l45 l45n l46 l46n) := by
 intro n
 induction n with
 | zero =>
  intro x44 l45 l45n l46 l46n res hl0 hl1 hm
  cases hm
 | succ n ih =>
  intro x44 l45 l45n l46 l46n res hl0 hl1 hm
  subst hl0
  subst hl1
  refine qN ?_
  refine s_vu [] 10 [] [(106, vb (decide (x44 < (w64 (a4.Y.B - a4.Y.A)))))] [] [] ?_
  refine q_sq ?_
  refine q_cm hm (fun b47 hm => ?_) (fun b47 hm => ?_)
  ·refine q_sk ?_
   refine q_sq ?_
   refine q_bk 5 ?_
   refine s_vu [] 10 [106] [(27, vi x44)] [] [] ?_
   obtain ⟨v48, h49, hm⟩ := qB hm
   obtain ⟨v50, h51, hm⟩ := qB hm
   refine s_vu [qc 5 [109, 110, 112] 10 (ON a4 x44 (w64 (x44 + 1)) v48 h49), qc 6 [108, 113] 10 (qCU a1 v48 v50 h51)] 10 [27] [(28, vi v50)] [] [] ?_
   obtain ⟨g52, hm⟩ := qI hm
   refine s_vu [qd 6 (drw 10 0 (rf e_i64 ([w64 (a6.Chip * v50)] : List Int))) (litP e_i64 default 1 (fun _ => rfl) ([w64 (a6.Chip * v50)] : List Int) 1 rfl), qd 7 (drw 8 1 (rf e_i64 (l45 ++ ([w64 (a6.Chip * v50)] : List Int)))) (apP e_i64 default l45 ([w64 (a6.Chip * v50)] : List Int) l45.length 1 1 8 (1 ≤ 1) (Nat.le_refl _) rfl rfl (fun _ => rfl) (zO g52))] 10 [] [] [5, 8] [(5, bx 84 [ci (w64 (a4.Y.B - a4.Y.A)), ci a5.Kerf, ci 1, .own 4 0 1 v7.length, .own 7 0 1 o42.2.length, .own 8 1 1 (l45.length + 1), .own 9 0 1 l46.length]), (8, ro 1 3 1 (l45.length + 1) (rf e_i64 (l45 ++ ([w64 (a6.Chip * v50)] : List Int))))] ?_
   obtain ⟨g53, hm⟩ := qI hm
   refine q_vu [qd 6 (drw 11 0 (rf e_i64 ([w64 (a6.Dust * v50)] : List Int))) (litP e_i64 default 1 (fun _ => rfl) ([w64 (a6.Dust * v50)] : List Int) 1 rfl), qd 7 (drw 9 1 (rf e_i64 (l46 ++ ([w64 (a6.Dust * v50)] : List Int)))) (apP e_i64 default l46 ([w64 (a6.Dust * v50)] : List Int) l46.length 1 1 8 (1 ≤ 1) (Nat.le_refl _) rfl rfl (fun _ => rfl) (zO g53))] 11 [28] [] [5, 9] [(5, bx 84 [ci (w64 (a4.Y.B - a4.Y.A)), ci a5.Kerf, ci 1, .own 4 0 1 v7.length, .own 7 0 1 o42.2.length, .own 8 1 1 (l45.length + 1), .own 9 1 1 (l46.length + 1)]), (9, ro 1 3 1 (l46.length + 1) (rf e_i64 (l46 ++ ([w64 (a6.Dust * v50)] : List Int))))] ?_
   refine q_vu [] 12 [105] [(105, vi (w64 (x44 + 1)))] [] [] ?_
   exact q_hl (SV a1 a4 a5 a6 v7 o42 (w64 (x44 + 1)) (l45 ++ ([w64 (a6.Chip * v50)] : List Int)) (l45.length + 1) (l46 ++ ([w64 (a6.Dust * v50)] : List Int)) (l46.length + 1)) (ih (w64 (x44 + 1)) (l45 ++ ([w64 (a6.Chip * v50)] : List Int)) (l45.length + 1) (l46 ++ ([w64 (a6.Dust * v50)] : List Int)) (l46.length + 1) _ (len_app rfl rfl) (len_app rfl rfl) hm)
  ·refine q_ex 4 ?_
   obtain rfl := oi hm
   exact wM (by kernel_rfl) (by kernel_rfl)
theorem qL6 (a1 : List qA) (a2 : List Defect) (a3 : List Product) (a4 : Rect) (a5 : Saw) (a6 : Rates) (r : Line × (List (List (List Node)))) (hm : IK a1 a2 a3 a4 a5 a6 = some r) : CtX Tryz.prog globs 86 0 0 [.one (tl qG default a1), .one (tl qF default a2), .one (tl qC default a3), .agg (qH a4), .agg (qT a5), .agg (qQ a6)] [] (qM0 r) (qNf r) := by
 unfold IK at hm
 refine q_E Tryz.f86 136 fun E => ?_
 refine s_vn [] 0 ⟨[(0, vc (tl qG default a1)), (1, vc (tl qF default a2)), (2, vc (tl qC default a3)), (9, vp 0 0), (10, vp 1 0), (11, vp 2 0), (12, vp 3 0)], [(0, bx 33 (qH a4)), (1, bx 38 (qT a5)), (2, bx 40 (qQ a6)), (3, bx 84 [ci 0, ci 0, ci 0, .emp, .emp, .emp, .emp])]⟩ ?_
 refine s_vu [] 4 [] [(14, vi (w64 (a4.Y.B - a4.Y.A)))] [] [] ?_
 obtain ⟨v7, h8, hm⟩ := qB hm
 refine s_du [qc 4 [39] 4 (LW a3 v7 h8)] [0, 0, 2, 0, 8, 31, 0, 127] 4 [] [(15, vp 5 0)] [] [(4, ro 0 3 1 v7.length (rf e_i64 v7)), (5, bx 84 [ci (w64 (a4.Y.B - a4.Y.A)), ci a5.Kerf, ci 1, .own 4 0 1 v7.length, .emp, .emp, .emp])] ?_
 refine s_vu [] 6 [] [(16, vc (.emp))] [] [] ?_
 refine q_sq ?_
 refine s_vu [] 6 [] [(43, vo 4 0 1 v7.length), (44, vi ((v7.length : Nat) : Int)), (45, vi 0)] [] [] ?_
 refine q_fn [.own 16 6 89 1 (rf (qD (qD e_Node)) ([] : List (List (List Node))))] ⟨[(0, vc (tl qG default a1)), (1, vc (tl qF default a2)), (2, vc (tl qC default a3)), (9, vp 0 0), (10, vp 1 0), (11, vp 2 0), (12, vp 3 0), (14, vi (w64 (a4.Y.B - a4.Y.A))), (15, vp 5 0), (16, vo 6 0 1 0), (43, vo 4 0 1 v7.length), (44, vi ((v7.length : Nat) : Int)), (45, vi 0)], [(0, bx 33 (qH a4)), (1, bx 38 (qT a5)), (2, bx 40 (qQ a6)), (3, bx 84 [ci 0, ci 0, ci 0, .emp, .emp, .emp, .emp]), (4, ro 0 3 1 v7.length (rf e_i64 v7)), (5, bx 84 [ci (w64 (a4.Y.B - a4.Y.A)), ci a5.Kerf, ci 1, .own 4 0 1 v7.length, .emp, .emp, .emp]), (6, ro 0 89 1 0 (rf (qD (qD e_Node)) ([] : List (List (List Node)))))]⟩ o0 ?_
 refine q_fn [.ownB 5 4 7 28 1 (rf (qD e_i64) ([] : List (List Int)))] ⟨[(0, vc (tl qG default a1)), (1, vc (tl qF default a2)), (2, vc (tl qC default a3)), (9, vp 0 0), (10, vp 1 0), (11, vp 2 0), (12, vp 3 0), (14, vi (w64 (a4.Y.B - a4.Y.A))), (15, vp 5 0), (16, vo 6 0 1 0), (43, vo 4 0 1 v7.length), (44, vi ((v7.length : Nat) : Int)), (45, vi 0)], [(0, bx 33 (qH a4)), (1, bx 38 (qT a5)), (2, bx 40 (qQ a6)), (3, bx 84 [ci 0, ci 0, ci 0, .emp, .emp, .emp, .emp]), (4, ro 0 3 1 v7.length (rf e_i64 v7)), (5, bx 84 [ci (w64 (a4.Y.B - a4.Y.A)), ci a5.Kerf, ci 1, .own 4 0 1 v7.length, .own 7 0 1 0, .emp, .emp]), (6, ro 0 89 1 0 (rf (qD (qD e_Node)) ([] : List (List (List Node))))), (7, ro 0 28 1 0 (rf (qD e_i64) ([] : List (List Int))))]⟩ o0 ?_
 obtain ⟨o42, h43, hm⟩ := qB hm
 refine zL (nd Tryz.f86 500) 0 (by kernel_rfl) FUEL (fun o => qC4 a1 a4 a5 a6 v7 o.1 o.2) o42 (q_hl (ER a1 a2 a3 a4 a5 a6 v7 ([] : List (List (List Node))) 0 0 ([] : List (List Int)) 0) (qIn E a1 a2 a3 a4 a5 a6 v7 FUEL ([] : List (List (List Node))) 0 0 ([] : List (List Int)) 0 o42 rfl rfl h43)) ?_
 refine q_sq ?_
 refine s_vu [] 8 [14] [(104, vi (w64 (a4.Y.B - a4.Y.A))), (105, vi 0)] [] [] ?_
 refine q_fn [.ownB 5 5 8 3 1 (rf e_i64 ([] : List Int))] ⟨[(0, vc (tl qG default a1)), (9, vp 0 0), (11, vp 2 0), (12, vp 3 0), (15, vp 5 0), (16, vo 6 0 1 o42.1.length), (104, vi (w64 (a4.Y.B - a4.Y.A))), (105, vi 0)], [(0, bx 33 (qH a4)), (2, bx 40 (qQ a6)), (3, bx 84 [ci 0, ci 0, ci 0, .emp, .emp, .emp, .emp]), (4, ro 0 3 1 v7.length (rf e_i64 v7)), (5, bx 84 [ci (w64 (a4.Y.B - a4.Y.A)), ci a5.Kerf, ci 1, .own 4 0 1 v7.length, .own 7 0 1 o42.2.length, .own 8 0 1 0, .emp]), (6, ro 0 89 1 o42.1.length (rf (qD (qD e_Node)) o42.1)), (7, ro 0 28 1 o42.2.length (rf (qD e_i64) o42.2)), (8, ro 0 3 1 0 (rf e_i64 ([] : List Int)))]⟩ o0 ?_
 refine q_fn [.ownB 5 6 9 3 1 (rf e_i64 ([] : List Int))] ⟨[(0, vc (tl qG default a1)), (9, vp 0 0), (11, vp 2 0), (12, vp 3 0), (15, vp 5 0), (16, vo 6 0 1 o42.1.length), (104, vi (w64 (a4.Y.B - a4.Y.A))), (105, vi 0)], [(0, bx 33 (qH a4)), (2, bx 40 (qQ a6)), (3, bx 84 [ci 0, ci 0, ci 0, .emp, .emp, .emp, .emp]), (4, ro 0 3 1 v7.length (rf e_i64 v7)), (5, bx 84 [ci (w64 (a4.Y.B - a4.Y.A)), ci a5.Kerf, ci 1, .own 4 0 1 v7.length, .own 7 0 1 o42.2.length, .own 8 0 1 0, .own 9 0 1 0]), (6, ro 0 89 1 o42.1.length (rf (qD (qD e_Node)) o42.1)), (7, ro 0 28 1 o42.2.length (rf (qD e_i64) o42.2)), (8, ro 0 3 1 0 (rf e_i64 ([] : List Int))), (9, ro 0 3 1 0 (rf e_i64 ([] : List Int)))]⟩ o0 ?_
 obtain ⟨o56, h57, hm⟩ := qB hm
 refine zL (nd Tryz.f86 1012) 4 (by kernel_rfl) FUEL (fun o => qC7 a4 a5 v7 o42 o.1 o.2) o56 (q_hl (SV a1 a4 a5 a6 v7 o42 0 ([] : List Int) 0 ([] : List Int) 0) (qHC E a1 a4 a5 a6 v7 o42 FUEL 0 ([] : List Int) 0 ([] : List Int) 0 o56 rfl rfl h57)) ?_
 refine s_vu [] 10 [15, 16] [(13, vo 6 0 1 o42.1.length)] [3, 5] [(3, bx 84 [ci (w64 (a4.Y.B - a4.Y.A)), ci a5.Kerf, ci 1, .own 4 0 1 v7.length, .own 7 0 1 o42.2.length, .own 8 0 1 o56.1.length, .own 9 0 1 o56.2.length])] ?_
 obtain rfl := oi hm
 refine qU 4 0 (by kernel_rfl) ?_
 refine qU 7 1 (by kernel_rfl) ?_
 refine qU 8 2 (by kernel_rfl) ?_
 refine qU 9 3 (by kernel_rfl) ?_
 refine qU 6 4 (by kernel_rfl) ?_
 refine q_rt ?_
 exact q_rm
def qIQ (r : Int) : V := vi r
def qIP (r : Int) : List (Nat × (Nat × O)) := []
def BY (v2 : qJ) (x4 : Int) (x5 : Int) : St :=
 ⟨[(3, vi x4), (8, vc (tl e_Span default v2.Rows)), (9, vi ((v2.Rows.length : Nat) : Int)), (10, vi x5)], []⟩
def CB (x10 : Int) : St :=
 ⟨[(3, vi x10)], []⟩
theorem qEy (E : Env 0) (v2 : qJ) : ∀ (n : Nat) (x4 : Int) (x5 : Int) (res : Int), JE v2 n x4 x5 = some res → HL (kx E 21 0) (nd Tryz.f71 116) (zQ 0 (fun o => CB o) res) n (BY v2 x4 x5) := by
 intro n
 induction n with
 | zero =>
  intro x4 x5 res hm
  cases hm
 | succ n ih =>
  intro x4 x5 res hm
  refine qN ?_
  refine s_vu [] 1 [] [(11, vb (decide (x5 < ((v2.Rows.length : Nat) : Int))))] [] [] ?_
  refine q_sq ?_
  refine q_cm hm (fun b6 hm => ?_) (fun b6 hm => ?_)
  ·refine q_sk ?_
   refine q_sq ?_
   refine q_bk 1 ?_
   obtain ⟨g7, hm⟩ := qI hm
   refine s_vu [qd 0 (Dir.none) (inb_of g7)] 1 [11] [(5, vp 1 0)] [] [(1, bx 31 [ci ((v2.Rows.getD x5.toNat default).A), ci ((v2.Rows.getD x5.toNat default).B)])] ?_
   obtain ⟨v8, h9, hm⟩ := qB hm
   refine q_vu [qc 2 [15] 2 (AC (v2.Rows.getD x5.toNat default) v8 h9)] 2 [3, 5] [(3, vi (w64 (x4 + v8)))] [1] [] ?_
   refine q_vu [] 2 [10] [(10, vi (w64 (x5 + 1)))] [] [] ?_
   exact q_hl (BY v2 (w64 (x4 + v8)) (w64 (x5 + 1))) (ih (w64 (x4 + v8)) (w64 (x5 + 1)) _ hm)
  ·refine q_ex 0 ?_
   obtain rfl := oi hm
   exact wM (by kernel_rfl) (by kernel_rfl)
theorem qHn (a1 : qJ) (r : Int) (hm : DG a1 = some r) : CtX Tryz.prog globs 71 0 0 [.agg (zP a1)] [] (qIQ r) (qIP r) := by
 unfold DG at hm
 refine q_E Tryz.f71 21 fun E => ?_
 refine s_vn [] 0 ⟨[(1, vp 0 0)], [(0, bx 70 (zP a1))]⟩ ?_
 refine s_vu [] 1 [] [(3, vi 0)] [] [] ?_
 refine q_sq ?_
 obtain ⟨v2, h3, hm⟩ := qB hm
 refine s_vu [qc 1 [6] 1 (FX a1 v2 h3)] 1 [1] [(8, vc (tl e_Span default v2.Rows)), (9, vi ((v2.Rows.length : Nat) : Int)), (10, vi 0)] [0] [] ?_
 obtain ⟨o11, h12, hm⟩ := qB hm
 refine zL (nd Tryz.f71 116) 0 (by kernel_rfl) FUEL (fun o => CB o) o11 (q_hl (BY v2 0 0) (qEy E v2 FUEL 0 0 o11 h12)) ?_
 refine s_vn [] 1 ⟨[(2, vi (w64 (10 * o11)))], []⟩ ?_
 obtain rfl := oi hm
 refine q_rt ?_
 exact q_rm
def qJo (r : Int) : V := vi r
def qIW (r : Int) : List (Nat × (Nat × O)) := []
def NH (v2 : (List qA)) (x4 : Int) (x5 : Int) : St :=
 ⟨[(3, vi x4), (7, vc (tl qG default v2)), (8, vi ((v2.length : Nat) : Int)), (9, vi x5)], []⟩
def OT (x10 : Int) : St :=
 ⟨[(3, vi x10)], []⟩
theorem qEr (E : Env 0) (v2 : (List qA)) : ∀ (n : Nat) (x4 : Int) (x5 : Int) (res : Int), JD v2 n x4 x5 = some res → HL (kx E 23 0) (nd Tryz.f28 116) (zQ 0 (fun o => OT o) res) n (NH v2 x4 x5) := by
 intro n
 induction n with
 | zero =>
  intro x4 x5 res hm
  cases hm
 | succ n ih =>
  intro x4 x5 res hm
  refine qN ?_
  refine s_vu [] 0 [] [(10, vb (decide (x5 < ((v2.length : Nat) : Int))))] [] [] ?_
  refine q_sq ?_
  refine q_cm hm (fun b6 hm => ?_) (fun b6 hm => ?_)
  ·refine q_sk ?_
   refine q_sq ?_
   refine q_bk 1 ?_
   obtain ⟨g7, hm⟩ := qI hm
   refine s_vu [qd 0 (Dir.none) (inb_of g7)] 0 [10] [(5, vp 0 0)] [] [(0, bx 72 [ci ((v2.getD x5.toNat default).Len), ci (((v2.getD x5.toNat default).Sec).Low), tl e_Span default (((v2.getD x5.toNat default).Sec).Rows)])] ?_
   obtain ⟨v8, h9, hm⟩ := qB hm
   refine q_du [qc 5 [17] 1 (qHn ((v2.getD x5.toNat default).Sec) v8 h9)] [0, 0, 2, 0, 8, 24, 62, 127, 255] 1 [3, 5] [(3, vi (w64 (x4 + (w64 (((v2.getD x5.toNat default).Len) * v8)))))] [0] [] ?_
   refine q_vu [] 1 [9] [(9, vi (w64 (x5 + 1)))] [] [] ?_
   exact q_hl (NH v2 (w64 (x4 + (w64 (((v2.getD x5.toNat default).Len) * v8)))) (w64 (x5 + 1))) (ih (w64 (x4 + (w64 (((v2.getD x5.toNat default).Len) * v8)))) (w64 (x5 + 1)) _ hm)
  ·refine q_ex 0 ?_
   obtain rfl := oi hm
   exact wM (by kernel_rfl) (by kernel_rfl)
theorem qHW (a1 : List qA) (r : Int) (hm : PM a1 = some r) : CtX Tryz.prog globs 28 0 0 [.one (tl qG default a1)] [] (qJo r) (qIW r) := by
 unfold PM at hm
 refine q_E Tryz.f28 23 fun E => ?_
 refine s_vn [] 0 ⟨[(0, vc (tl qG default a1))], []⟩ ?_
 refine s_vu [] 0 [] [(3, vi 0)] [] [] ?_
 refine q_sq ?_
 obtain ⟨v2, h3, hm⟩ := qB hm
 refine s_vu [qc 1 [6] 0 (BH a1 v2 h3)] 0 [0] [(7, vc (tl qG default v2)), (8, vi ((v2.length : Nat) : Int)), (9, vi 0)] [] [] ?_
 obtain ⟨o11, h12, hm⟩ := qB hm
 refine zL (nd Tryz.f28 116) 0 (by kernel_rfl) FUEL (fun o => OT o) o11 (q_hl (NH v2 0 0) (qEr E v2 FUEL 0 0 o11 h12)) ?_
 refine s_vn [] 0 ⟨[(2, vi o11)], []⟩ ?_
 obtain rfl := oi hm
 refine q_rt ?_
 exact q_rm
end Saw
end Go.SL
