import Derived.Test.YtpphchcejhodkaaDoorEBase
import Derived.Test.YtpphchcejhodkaaDoorEFa1
import Derived.Test.YtpphchcejhodkaaDoorEFa4
import Derived.Test.YtpphchcejhodkaaDoorEFa2
set_option linter.unusedVariables false
set_option linter.unusedSimpArgs false
namespace Go.SL
namespace Saw
open Go.Proofs
set_option maxHeartbeats 4000000
set_option maxRecDepth 100000
def qLy (r : Line × Int) : V := .tup [.agg [ci r.1.Len, ci r.1.Kerf, ci r.1.Pitch, .own 0 0 1 r.1.Sizes.length, .own 1 0 1 r.1.Gain.length, .own 2 0 1 r.1.Chip.length, .own 3 0 1 r.1.Dust.length], .one (ci r.2)]
def qLp (r : Line × Int) : List (Nat × (Nat × O)) := [(0, ro 0 3 1 r.1.Sizes.length (rf e_i64 r.1.Sizes)), (1, ro 0 57 1 r.1.Gain.length (rf (qV e_i64) r.1.Gain)), (2, ro 0 3 1 r.1.Chip.length (rf e_i64 r.1.Chip)), (3, ro 0 3 1 r.1.Dust.length (rf e_i64 r.1.Dust))]
def qBI (a1 : List qD) (a2 : List Defect) (a3 : List Product) (a4 : Rect) (a5 : Saw) (a6 : Rates) (v10 : (List Int) × (List Int)) (x12 : Int) (l13 : List (List Int)) (l16 : List Int) (x17 : Int) (x27 : Int) : St :=
 ⟨[(0, vc (tl qI default a1)), (1, vc (tl qH default a2)), (2, vc (tl qE default a3)), (9, vp 0 0), (10, vp 1 0), (11, vp 2 0), (12, vp 3 0), (15, vi (w64 (a4.X.B - a4.X.A))), (17, vo 5 0 1 v10.2.length), (18, vp 6 0), (19, vi x12), (20, vi (v10.1.getD x12.toNat default)), (21, vo 8 0 1 l16.length), (22, vi x17), (23, vi x27), (62, vo 4 0 1 v10.1.length), (63, vi ((v10.1.length : Nat) : Int)), (64, vi x12)], [(0, bx 28 (qK a4)), (1, bx 30 (zL a5)), (2, bx 32 (zM a6)), (3, bx 63 [ci 0, ci 0, ci 0, .emp, .emp, .emp, .emp]), (4, ro 0 3 1 v10.1.length (rf e_i64 v10.1)), (5, ro 0 3 1 v10.2.length (rf e_i64 v10.2)), (6, bx 63 [ci (w64 (a4.X.B - a4.X.A)), ci a5.Kerf, ci 1, .own 4 0 1 v10.1.length, .own 7 0 1 l13.length, .emp, .emp]), (7, ro 0 57 1 l13.length (rf (qV e_i64) l13)), (8, ro 0 3 1 l16.length (rf e_i64 l16))]⟩
def HW (a1 : List qD) (a2 : List Defect) (a3 : List Product) (a4 : Rect) (a5 : Saw) (a6 : Rates) (v10 : (List Int) × (List Int)) (x12 : Int) (l13 : List (List Int)) (l16 : List Int) (l16n : Nat) (x17 : Int) : St :=
 ⟨[(0, vc (tl qI default a1)), (1, vc (tl qH default a2)), (2, vc (tl qE default a3)), (9, vp 0 0), (10, vp 1 0), (11, vp 2 0), (12, vp 3 0), (15, vi (w64 (a4.X.B - a4.X.A))), (17, vo 5 0 1 v10.2.length), (18, vp 6 0), (19, vi x12), (20, vi (v10.1.getD x12.toNat default)), (21, vo 8 0 1 l16n), (22, vi x17), (62, vo 4 0 1 v10.1.length), (63, vi ((v10.1.length : Nat) : Int)), (64, vi x12)], [(0, bx 28 (qK a4)), (1, bx 30 (zL a5)), (2, bx 32 (zM a6)), (3, bx 63 [ci 0, ci 0, ci 0, .emp, .emp, .emp, .emp]), (4, ro 0 3 1 v10.1.length (rf e_i64 v10.1)), (5, ro 0 3 1 v10.2.length (rf e_i64 v10.2)), (6, bx 63 [ci (w64 (a4.X.B - a4.X.A)), ci a5.Kerf, ci 1, .own 4 0 1 v10.1.length, .own 7 0 1 l13.length, .emp, .emp]), (7, ro 0 57 1 l13.length (rf (qV e_i64) l13)), (8, ro 0 3 1 l16n (rf e_i64 l16))]⟩
def qBQ (a1 : List qD) (a2 : List Defect) (a3 : List Product) (a4 : Rect) (a5 : Saw) (a6 : Rates) (v10 : (List Int) × (List Int)) (x12 : Int) (l13 : List (List Int)) (l29 : List Int) : St :=
 ⟨[(0, vc (tl qI default a1)), (1, vc (tl qH default a2)), (2, vc (tl qE default a3)), (9, vp 0 0), (10, vp 1 0), (11, vp 2 0), (12, vp 3 0), (15, vi (w64 (a4.X.B - a4.X.A))), (17, vo 5 0 1 v10.2.length), (18, vp 6 0), (21, vo 8 0 1 l29.length), (62, vo 4 0 1 v10.1.length), (63, vi ((v10.1.length : Nat) : Int)), (64, vi x12)], [(0, bx 28 (qK a4)), (1, bx 30 (zL a5)), (2, bx 32 (zM a6)), (3, bx 63 [ci 0, ci 0, ci 0, .emp, .emp, .emp, .emp]), (4, ro 0 3 1 v10.1.length (rf e_i64 v10.1)), (5, ro 0 3 1 v10.2.length (rf e_i64 v10.2)), (6, bx 63 [ci (w64 (a4.X.B - a4.X.A)), ci a5.Kerf, ci 1, .own 4 0 1 v10.1.length, .own 7 0 1 l13.length, .emp, .emp]), (7, ro 0 57 1 l13.length (rf (qV e_i64) l13)), (8, ro 0 3 1 l29.length (rf e_i64 l29))]⟩
def HR (a1 : List qD) (a2 : List Defect) (a3 : List Product) (a4 : Rect) (a5 : Saw) (a6 : Rates) (v10 : (List Int) × (List Int)) (x12 : Int) (l13 : List (List Int)) (l13n : Nat) : St :=
 ⟨[(0, vc (tl qI default a1)), (1, vc (tl qH default a2)), (2, vc (tl qE default a3)), (9, vp 0 0), (10, vp 1 0), (11, vp 2 0), (12, vp 3 0), (15, vi (w64 (a4.X.B - a4.X.A))), (17, vo 5 0 1 v10.2.length), (18, vp 6 0), (62, vo 4 0 1 v10.1.length), (63, vi ((v10.1.length : Nat) : Int)), (64, vi x12)], [(0, bx 28 (qK a4)), (1, bx 30 (zL a5)), (2, bx 32 (zM a6)), (3, bx 63 [ci 0, ci 0, ci 0, .emp, .emp, .emp, .emp]), (4, ro 0 3 1 v10.1.length (rf e_i64 v10.1)), (5, ro 0 3 1 v10.2.length (rf e_i64 v10.2)), (6, bx 63 [ci (w64 (a4.X.B - a4.X.A)), ci a5.Kerf, ci 1, .own 4 0 1 v10.1.length, .own 7 0 1 l13n, .emp, .emp]), (7, ro 0 57 1 l13n (rf (qV e_i64) l13))]⟩
def qBv (a1 : List qD) (a4 : Rect) (a5 : Saw) (a6 : Rates) (v10 : (List Int) × (List Int)) (l33 : List (List Int)) : St :=
 ⟨[(0, vc (tl qI default a1)), (9, vp 0 0), (11, vp 2 0), (12, vp 3 0), (15, vi (w64 (a4.X.B - a4.X.A))), (18, vp 6 0)], [(0, bx 28 (qK a4)), (2, bx 32 (zM a6)), (3, bx 63 [ci 0, ci 0, ci 0, .emp, .emp, .emp, .emp]), (4, ro 0 3 1 v10.1.length (rf e_i64 v10.1)), (6, bx 63 [ci (w64 (a4.X.B - a4.X.A)), ci a5.Kerf, ci 1, .own 4 0 1 v10.1.length, .own 7 0 1 l33.length, .emp, .emp]), (7, ro 0 57 1 l33.length (rf (qV e_i64) l33))]⟩
def SG (a1 : List qD) (a4 : Rect) (a5 : Saw) (a6 : Rates) (v10 : (List Int) × (List Int)) (o34 : (List (List Int))) (v36 : Int) (x38 : Int) (l39 : List Int) (l39n : Nat) (l40 : List Int) (l40n : Nat) : St :=
 ⟨[(0, vc (tl qI default a1)), (9, vp 0 0), (11, vp 2 0), (12, vp 3 0), (18, vp 6 0), (24, vp 8 0), (113, vi (w64 (a4.X.B - a4.X.A))), (114, vi x38)], [(0, bx 28 (qK a4)), (2, bx 32 (zM a6)), (3, bx 63 [ci 0, ci 0, ci 0, .emp, .emp, .emp, .emp]), (4, ro 0 3 1 v10.1.length (rf e_i64 v10.1)), (6, bx 63 [ci (w64 (a4.X.B - a4.X.A)), ci a5.Kerf, ci 1, .own 4 0 1 v10.1.length, .own 7 0 1 o34.length, .own 9 0 1 l39n, .own 10 0 1 l40n]), (7, ro 0 57 1 o34.length (rf (qV e_i64) o34)), (8, bx 26 [ci 0, ci v36]), (9, ro 0 3 1 l39n (rf e_i64 l39)), (10, ro 0 3 1 l40n (rf e_i64 l40))]⟩
def qBW (a4 : Rect) (a5 : Saw) (v10 : (List Int) × (List Int)) (o34 : (List (List Int))) (l48 : List Int) (l49 : List Int) : St :=
 ⟨[(12, vp 3 0), (18, vp 6 0)], [(3, bx 63 [ci 0, ci 0, ci 0, .emp, .emp, .emp, .emp]), (4, ro 0 3 1 v10.1.length (rf e_i64 v10.1)), (6, bx 63 [ci (w64 (a4.X.B - a4.X.A)), ci a5.Kerf, ci 1, .own 4 0 1 v10.1.length, .own 7 0 1 o34.length, .own 9 0 1 l48.length, .own 10 0 1 l49.length]), (7, ro 0 57 1 o34.length (rf (qV e_i64) o34)), (9, ro 0 3 1 l48.length (rf e_i64 l48)), (10, ro 0 3 1 l49.length (rf e_i64 l49))]⟩
theorem qGh (E : Env 0) (a1 : List qD) (a2 : List Defect) (a3 : List Product) (a4 : Rect) (a5 : Saw) (a6 : Rates) (v10 : (List Int) × (List Int)) (x12 : Int) (l13 : List (List Int)) : ∀ (n : Nat) (l16 : List Int) (l16n : Nat) (x17 : Int) (res : (List Int)), l16.length = l16n → QJ a1 a2 a3 a4 a5 a6 v10 x12 n l16 x17 = some res → HL (kx E 145 0) (nd Tryd.f29 1037108) (wO 2 (fun o => qBQ a1 a2 a3 a4 a5 a6 v10 x12 l13 o) res) n (HW a1 a2 a3 a4 a5 a6 v10 x12 l13 l16 l16n x17) := by
 intro n
 induction n with
 | zero =>
  intro l16 l16n x17 res hl0 hm
  cases hm
 | succ n ih =>
  intro l16 l16n x17 res hl0 hm
  subst hl0
  refine qQ ?_
  refine q_sq ?_
  refine q_sq ?_
  refine q_vu [] 9 [] [(73, vb (decide ((w64 (x17 + (v10.1.getD x12.toNat default))) ≤ (w64 (a4.X.B - a4.X.A)))))] [] [] ?_
  refine q_cn (decide ((w64 (x17 + (v10.1.getD x12.toNat default))) ≤ (w64 (a4.X.B - a4.X.A)))) (fun b18 => ?_) (fun b18 => ?_)
  ·replace hm := qA b18 hm
   refine q_sk ?_
   refine q_sq ?_
   refine q_bk 3 ?_
   refine q_sq ?_
   refine q_vu [] 9 [73] [(23, vi (-1))] [] [] ?_
   refine q_jn (ι := Int) (fun p => qBI a1 a2 a3 a4 a5 a6 v10 x12 l13 l16 x17 p) (fun p => MI l16 x17 (QJ a1 a2 a3 a4 a5 a6 v10 x12 n) p = some res) ?_ ?_
   ·rintro x27 hm
    show H _ (qBI a1 a2 a3 a4 a5 a6 v10 x12 l13 l16 x17 x27) _ _
    obtain ⟨g28, hm⟩ := qM hm
    refine q_vu [qd 2 (drw 9 0 (rf e_i64 ([x27] : List Int))) (litP e_i64 default 1 (fun _ => rfl) ([x27] : List Int) 1 rfl), qd 3 (drw 8 1 (rf e_i64 (l16 ++ ([x27] : List Int)))) (apP e_i64 default l16 ([x27] : List Int) l16.length 1 1 8 (1 ≤ 1) (Nat.le_refl _) rfl rfl (fun _ => rfl) (wR g28))] 9 [21, 23] [(21, vo 8 1 1 (l16.length + 1))] [8] [(8, ro 1 3 1 (l16.length + 1) (rf e_i64 (l16 ++ ([x27] : List Int))))] ?_
    refine q_vu [] 10 [22] [(22, vi (w64 (x17 + 1)))] [] [] ?_
    exact q_hl (HW a1 a2 a3 a4 a5 a6 v10 x12 l13 (l16 ++ ([x27] : List Int)) (l16.length + 1) (w64 (x17 + 1))) (ih (l16 ++ ([x27] : List Int)) (l16.length + 1) (w64 (x17 + 1)) _ (len_app rfl rfl) hm)
   ·refine q_sq ?_
    obtain ⟨g19, hm⟩ := qM hm
    refine q_vu [qd 3 (Dir.none) (nz_of g19)] 9 [] [(80, vb ((Int.tmod x17 a5.Pitch) == 0))] [] [] ?_
    refine q_cn ((Int.tmod x17 a5.Pitch) == 0) (fun b20 => ?_) (fun b20 => ?_)
    ·replace hm := qA b20 hm
     obtain ⟨g21, hm⟩ := qM hm
     obtain ⟨g22, hm⟩ := qM hm
     obtain ⟨v23, h24, hm⟩ := qC hm
     obtain ⟨v25, h26, hm⟩ := qC hm
     refine q_du [qd 5 (Dir.none) (inb_of g21), qd 6 (Dir.none) (toNat_lt (inb_of g21)), qd 7 (Dir.none) (inb_of g22), qc 14 [90, 91, 94] 9 (CD a4 x17 (w64 (x17 + (v10.1.getD x12.toNat default))) v23 h24), qc 17 [81, 82, 89, 95, 96, 97] 9 (qJz a1 a2 (a3.getD (v10.2.getD x12.toNat default).toNat default) v23 a5 a6 v25 h26)] [0, 0, 0, 0, 0, 24, 56, 124, 252, 0, 0, 0, 0, 6144, 15872, 0, 0, 131071, 262143] 9 [23, 80] [(23, vi v25)] [] [] ?_
     exact q_J (v25) hm
    ·replace hm := qB b20 hm
     refine q_sk ?_
     exact q_J ((-1)) hm
  ·replace hm := qB b18 hm
   refine q_ex 2 ?_
   obtain rfl := Option.some.inj hm
   exact yM (by kernel_rfl) (by kernel_rfl)
theorem qGe (E : Env 0) (a1 : List qD) (a2 : List Defect) (a3 : List Product) (a4 : Rect) (a5 : Saw) (a6 : Rates) (v10 : (List Int) × (List Int)) : ∀ (n : Nat) (x12 : Int) (l13 : List (List Int)) (l13n : Nat) (res : (List (List Int))), l13.length = l13n → YQ a1 a2 a3 a4 a5 a6 v10 n x12 l13 = some res → HL (kx E 145 0) (nd Tryd.f29 1012) (wO 0 (fun o => qBv a1 a4 a5 a6 v10 o) res) n (HR a1 a2 a3 a4 a5 a6 v10 x12 l13 l13n) := by
 intro n
 induction n with
 | zero =>
  intro x12 l13 l13n res hl0 hm
  cases hm
 | succ n ih =>
  intro x12 l13 l13n res hl0 hm
  subst hl0
  refine qQ ?_
  refine q_sq ?_
  refine q_vu [] 8 [] [(65, vb (decide (x12 < ((v10.1.length : Nat) : Int))))] [] [] ?_
  refine q_sq ?_
  refine q_cn (decide (x12 < ((v10.1.length : Nat) : Int))) (fun b14 => ?_) (fun b14 => ?_)
  ·replace hm := qA b14 hm
   refine q_sk ?_
   refine q_sq ?_
   refine q_bk 1 ?_
   refine q_sq ?_
   obtain ⟨g15, hm⟩ := qM hm
   refine q_vu [qd 1 (Dir.none) (inb_of g15), qd 2 (Dir.none) (toNat_lt (inb_of g15))] 8 [65] [(19, vi x12), (20, vi (v10.1.getD x12.toNat default))] [] [] ?_
   refine q_sq ?_
   refine q_vu [] 8 [] [(21, vc (.emp))] [] [] ?_
   refine q_sq ?_
   refine q_sq ?_
   refine q_vu [] 8 [] [(22, vi 0)] [] [] ?_
   refine q_fn [.own 21 8 3 1 (rf e_i64 ([] : List Int))] ⟨[(0, vc (tl qI default a1)), (1, vc (tl qH default a2)), (2, vc (tl qE default a3)), (9, vp 0 0), (10, vp 1 0), (11, vp 2 0), (12, vp 3 0), (15, vi (w64 (a4.X.B - a4.X.A))), (17, vo 5 0 1 v10.2.length), (18, vp 6 0), (19, vi x12), (20, vi (v10.1.getD x12.toNat default)), (21, vo 8 0 1 0), (22, vi 0), (62, vo 4 0 1 v10.1.length), (63, vi ((v10.1.length : Nat) : Int)), (64, vi x12)], [(0, bx 28 (qK a4)), (1, bx 30 (zL a5)), (2, bx 32 (zM a6)), (3, bx 63 [ci 0, ci 0, ci 0, .emp, .emp, .emp, .emp]), (4, ro 0 3 1 v10.1.length (rf e_i64 v10.1)), (5, ro 0 3 1 v10.2.length (rf e_i64 v10.2)), (6, bx 63 [ci (w64 (a4.X.B - a4.X.A)), ci a5.Kerf, ci 1, .own 4 0 1 v10.1.length, .own 7 0 1 l13.length, .emp, .emp]), (7, ro 0 57 1 l13.length (rf (qV e_i64) l13)), (8, ro 0 3 1 0 (rf e_i64 ([] : List Int)))]⟩ o0 ?_
   obtain ⟨o30, h31, hm⟩ := qC hm
   refine wB (nd Tryd.f29 1037108) 2 (by kernel_rfl) FUEL (fun o => qBQ a1 a2 a3 a4 a5 a6 v10 x12 l13 o) o30 (q_hl (HW a1 a2 a3 a4 a5 a6 v10 x12 l13 ([] : List Int) 0 0) (qGh E a1 a2 a3 a4 a5 a6 v10 x12 l13 FUEL ([] : List Int) 0 0 o30 rfl h31)) ?_
   obtain ⟨g32, hm⟩ := qM hm
   refine q_vu [qd 3 (dpr [.frz 8] (drw 9 0 (rf (qV e_i64) ([o30] : List (List Int))))) (And.intro (Nat.le_refl o30.length) (Nat.le_refl o30.length)), qd 3 (Dir.none) (litP (qV e_i64) default 1 (fun _ => rfl) ([o30] : List (List Int)) 1 rfl), qd 4 (drw 7 1 (rf (qV e_i64) (l13 ++ ([o30] : List (List Int))))) (apP (qV e_i64) default l13 ([o30] : List (List Int)) l13.length 1 1 24 (1 ≤ 1) (Nat.le_refl _) rfl rfl (fun _ => rfl) (wR g32))] 9 [21] [] [6, 7, 8] [(6, bx 63 [ci (w64 (a4.X.B - a4.X.A)), ci a5.Kerf, ci 1, .own 4 0 1 v10.1.length, .own 7 1 1 (l13.length + 1), .emp, .emp]), (7, ro 1 57 1 (l13.length + 1) (rf (qV e_i64) (l13 ++ ([o30] : List (List Int)))))] ?_
   refine q_vu [] 10 [64] [(64, vi (w64 (x12 + 1)))] [] [] ?_
   exact q_hl (HR a1 a2 a3 a4 a5 a6 v10 (w64 (x12 + 1)) (l13 ++ ([o30] : List (List Int))) (l13.length + 1)) (ih (w64 (x12 + 1)) (l13 ++ ([o30] : List (List Int))) (l13.length + 1) _ (len_app rfl rfl) hm)
  ·replace hm := qB b14 hm
   refine q_ex 0 ?_
   obtain rfl := Option.some.inj hm
   exact yM (by kernel_rfl) (by kernel_rfl)
theorem qGf (E : Env 0) (a1 : List qD) (a4 : Rect) (a5 : Saw) (a6 : Rates) (v10 : (List Int) × (List Int)) (o34 : (List (List Int))) (v36 : Int) : ∀ (n : Nat) (x38 : Int) (l39 : List Int) (l39n : Nat) (l40 : List Int) (l40n : Nat) (res : (List Int) × (List Int)), l39.length = l39n → l40.length = l40n → YO a1 a4 a6 v36 n x38 l39 l40 = some res → HL (kx E 145 0) (nd Tryd.f29 4084) (wO 4 (fun o => qBW a4 a5 v10 o34 o.1 o.2) res) n (SG a1 a4 a5 a6 v10 o34 v36 x38 l39 l39n l40 l40n) := by
 intro n
 induction n with
 | zero =>
  intro x38 l39 l39n l40 l40n res hl0 hl1 hm
  cases hm
 | succ n ih =>
  intro x38 l39 l39n l40 l40n res hl0 hl1 hm
  subst hl0
  subst hl1
  refine qQ ?_
  refine q_sq ?_
  refine q_vu [] 11 [] [(115, vb (decide (x38 < (w64 (a4.X.B - a4.X.A)))))] [] [] ?_
  refine q_sq ?_
  refine q_cn (decide (x38 < (w64 (a4.X.B - a4.X.A)))) (fun b41 => ?_) (fun b41 => ?_)
  ·replace hm := qA b41 hm
   refine q_sk ?_
   refine q_sq ?_
   refine q_bk 5 ?_
   refine q_sq ?_
   refine q_vu [] 11 [115] [(25, vi x38)] [] [] ?_
   refine q_sq ?_
   obtain ⟨v42, h43, hm⟩ := qC hm
   obtain ⟨v44, h45, hm⟩ := qC hm
   refine q_du [qc 5 [118, 119, 121] 11 (CD a4 x38 (w64 (x38 + 1)) v42 h43), qc 7 [117, 122, 123] 11 (PL a1 v42 (Span.mk 0 v36) v44 h45)] [0, 0, 0, 0, 8, 30, 0, 127, 255] 11 [25] [(26, vi v44)] [] [] ?_
   refine q_sq ?_
   obtain ⟨g46, hm⟩ := qM hm
   refine q_vu [qd 6 (drw 11 0 (rf e_i64 ([w64 (a6.Chip * v44)] : List Int))) (litP e_i64 default 1 (fun _ => rfl) ([w64 (a6.Chip * v44)] : List Int) 1 rfl), qd 7 (drw 9 1 (rf e_i64 (l39 ++ ([w64 (a6.Chip * v44)] : List Int)))) (apP e_i64 default l39 ([w64 (a6.Chip * v44)] : List Int) l39.length 1 1 8 (1 ≤ 1) (Nat.le_refl _) rfl rfl (fun _ => rfl) (wR g46))] 11 [] [] [6, 9] [(6, bx 63 [ci (w64 (a4.X.B - a4.X.A)), ci a5.Kerf, ci 1, .own 4 0 1 v10.1.length, .own 7 0 1 o34.length, .own 9 1 1 (l39.length + 1), .own 10 0 1 l40.length]), (9, ro 1 3 1 (l39.length + 1) (rf e_i64 (l39 ++ ([w64 (a6.Chip * v44)] : List Int))))] ?_
   obtain ⟨g47, hm⟩ := qM hm
   refine q_vu [qd 6 (drw 12 0 (rf e_i64 ([w64 (a6.Dust * v44)] : List Int))) (litP e_i64 default 1 (fun _ => rfl) ([w64 (a6.Dust * v44)] : List Int) 1 rfl), qd 7 (drw 10 1 (rf e_i64 (l40 ++ ([w64 (a6.Dust * v44)] : List Int)))) (apP e_i64 default l40 ([w64 (a6.Dust * v44)] : List Int) l40.length 1 1 8 (1 ≤ 1) (Nat.le_refl _) rfl rfl (fun _ => rfl) (wR g47))] 12 [26] [] [6, 10] [(6, bx 63 [ci (w64 (a4.X.B - a4.X.A)), ci a5.Kerf, ci 1, .own 4 0 1 v10.1.length, .own 7 0 1 o34.length, .own 9 1 1 (l39.length + 1), .own 10 1 1 (l40.length + 1)]), (10, ro 1 3 1 (l40.length + 1) (rf e_i64 (l40 ++ ([w64 (a6.Dust * v44)] : List Int))))] ?_
   refine q_vu [] 13 [114] [(114, vi (w64 (x38 + 1)))] [] [] ?_
   exact q_hl (SG a1 a4 a5 a6 v10 o34 v36 (w64 (x38 + 1)) (l39 ++ ([w64 (a6.Chip * v44)] : List Int)) (l39.length + 1) (l40 ++ ([w64 (a6.Dust * v44)] : List Int)) (l40.length + 1)) (ih (w64 (x38 + 1)) (l39 ++ ([w64 (a6.Chip * v44)] : List Int)) (l39.length + 1) (l40 ++ ([w64 (a6.Dust * v44)] : List Int)) (l40.length + 1) _ (len_app rfl rfl) (len_app rfl rfl) hm)
  ·replace hm := qB b41 hm
   refine q_ex 4 ?_
   obtain rfl := Option.some.inj hm
   exact yM (by kernel_rfl) (by kernel_rfl)
theorem qDS (a1 : List qD) (a2 : List Defect) (a3 : List Product) (a4 : Rect) (a5 : Saw) (a6 : Rates) (r : Line × Int) (hm : LE a1 a2 a3 a4 a5 a6 = some r) : CtX Tryd.prog globs 29 0 0 [.one (tl qI default a1), .one (tl qH default a2), .one (tl qE default a3), .agg (qK a4), .agg (zL a5), .agg (zM a6)] [] (qLy r) (qLp r) := by
 unfold LE at hm
 refine q_E Tryd.f29 145 fun E => ?_
 refine q_sq ?_
 refine q_vn [] 0 ⟨[(0, vc (tl qI default a1)), (1, vc (tl qH default a2)), (2, vc (tl qE default a3)), (9, vp 0 0), (10, vp 1 0), (11, vp 2 0), (12, vp 3 0)], [(0, bx 28 (qK a4)), (1, bx 30 (zL a5)), (2, bx 32 (zM a6)), (3, bx 63 [ci 0, ci 0, ci 0, .emp, .emp, .emp, .emp])]⟩ ?_
 refine q_sq ?_
 refine q_sq ?_
 obtain ⟨v7, h8, hm⟩ := qC hm
 refine q_vu [qc 6 [27, 28, 29, 30, 31, 32] 4 (qI6 a1 a2 a3 a4 a5 a6 v7 h8)] 4 [] [(14, vi v7)] [] [] ?_
 refine q_sq ?_
 refine q_vu [] 4 [] [(35, vb (v7 != 0))] [] [] ?_
 refine q_cn (v7 != 0) (fun b9 => ?_) (fun b9 => ?_)
 ·replace hm := qA b9 hm
  refine q_sq ?_
  refine q_vu [] 4 [0, 1, 2, 9, 10, 11, 14, 35] [(13, vi v7)] [0, 1, 2] [] ?_
  refine q_fn [.ownB 3 3 4 3 1 (rf e_i64 ([] : List Int))] ⟨[(12, vp 3 0), (13, vi v7)], [(3, bx 63 [ci 0, ci 0, ci 0, .own 4 0 1 0, .emp, .emp, .emp]), (4, ro 0 3 1 0 (rf e_i64 ([] : List Int)))]⟩ o0 ?_
  refine q_fn [.ownB 3 4 5 57 1 (rf (qV e_i64) ([] : List (List Int)))] ⟨[(12, vp 3 0), (13, vi v7)], [(3, bx 63 [ci 0, ci 0, ci 0, .own 4 0 1 0, .own 5 0 1 0, .emp, .emp]), (4, ro 0 3 1 0 (rf e_i64 ([] : List Int))), (5, ro 0 57 1 0 (rf (qV e_i64) ([] : List (List Int))))]⟩ o0 ?_
  refine q_fn [.ownB 3 5 6 3 1 (rf e_i64 ([] : List Int))] ⟨[(12, vp 3 0), (13, vi v7)], [(3, bx 63 [ci 0, ci 0, ci 0, .own 4 0 1 0, .own 5 0 1 0, .own 6 0 1 0, .emp]), (4, ro 0 3 1 0 (rf e_i64 ([] : List Int))), (5, ro 0 57 1 0 (rf (qV e_i64) ([] : List (List Int)))), (6, ro 0 3 1 0 (rf e_i64 ([] : List Int)))]⟩ o0 ?_
  refine q_fn [.ownB 3 6 7 3 1 (rf e_i64 ([] : List Int))] ⟨[(12, vp 3 0), (13, vi v7)], [(3, bx 63 [ci 0, ci 0, ci 0, .own 4 0 1 0, .own 5 0 1 0, .own 6 0 1 0, .own 7 0 1 0]), (4, ro 0 3 1 0 (rf e_i64 ([] : List Int))), (5, ro 0 57 1 0 (rf (qV e_i64) ([] : List (List Int)))), (6, ro 0 3 1 0 (rf e_i64 ([] : List Int))), (7, ro 0 3 1 0 (rf e_i64 ([] : List Int)))]⟩ o0 ?_
  refine q_fn [.len 4 (([] : List Int).length)] ⟨[(12, vp 3 0), (13, vi v7)], [(3, bx 63 [ci 0, ci 0, ci 0, .own 4 0 1 (([] : List Int).length), .own 5 0 1 0, .own 6 0 1 0, .own 7 0 1 0]), (4, ro 0 3 1 (([] : List Int).length) (rf e_i64 ([] : List Int))), (5, ro 0 57 1 0 (rf (qV e_i64) ([] : List (List Int)))), (6, ro 0 3 1 0 (rf e_i64 ([] : List Int))), (7, ro 0 3 1 0 (rf e_i64 ([] : List Int)))]⟩ (o1 (And.intro (show 0 = ([] : List Int).length from rfl) (show 0 = ([] : List Int).length from rfl))) ?_
  refine q_fn [.len 5 (([] : List (List Int)).length)] ⟨[(12, vp 3 0), (13, vi v7)], [(3, bx 63 [ci 0, ci 0, ci 0, .own 4 0 1 (([] : List Int).length), .own 5 0 1 (([] : List (List Int)).length), .own 6 0 1 0, .own 7 0 1 0]), (4, ro 0 3 1 (([] : List Int).length) (rf e_i64 ([] : List Int))), (5, ro 0 57 1 (([] : List (List Int)).length) (rf (qV e_i64) ([] : List (List Int)))), (6, ro 0 3 1 0 (rf e_i64 ([] : List Int))), (7, ro 0 3 1 0 (rf e_i64 ([] : List Int)))]⟩ (o1 (And.intro (show 0 = ([] : List (List Int)).length from rfl) (show 0 = ([] : List (List Int)).length from rfl))) ?_
  refine q_fn [.len 6 (([] : List Int).length)] ⟨[(12, vp 3 0), (13, vi v7)], [(3, bx 63 [ci 0, ci 0, ci 0, .own 4 0 1 (([] : List Int).length), .own 5 0 1 (([] : List (List Int)).length), .own 6 0 1 (([] : List Int).length), .own 7 0 1 0]), (4, ro 0 3 1 (([] : List Int).length) (rf e_i64 ([] : List Int))), (5, ro 0 57 1 (([] : List (List Int)).length) (rf (qV e_i64) ([] : List (List Int)))), (6, ro 0 3 1 (([] : List Int).length) (rf e_i64 ([] : List Int))), (7, ro 0 3 1 0 (rf e_i64 ([] : List Int)))]⟩ (o1 (And.intro (show 0 = ([] : List Int).length from rfl) (show 0 = ([] : List Int).length from rfl))) ?_
  refine q_fn [.len 7 (([] : List Int).length)] ⟨[(12, vp 3 0), (13, vi v7)], [(3, bx 63 [ci 0, ci 0, ci 0, .own 4 0 1 (([] : List Int).length), .own 5 0 1 (([] : List (List Int)).length), .own 6 0 1 (([] : List Int).length), .own 7 0 1 (([] : List Int).length)]), (4, ro 0 3 1 (([] : List Int).length) (rf e_i64 ([] : List Int))), (5, ro 0 57 1 (([] : List (List Int)).length) (rf (qV e_i64) ([] : List (List Int)))), (6, ro 0 3 1 (([] : List Int).length) (rf e_i64 ([] : List Int))), (7, ro 0 3 1 (([] : List Int).length) (rf e_i64 ([] : List Int)))]⟩ (o1 (And.intro (show 0 = ([] : List Int).length from rfl) (show 0 = ([] : List Int).length from rfl))) ?_
  obtain rfl := Option.some.inj hm
  refine qZ 4 0 (by kernel_rfl) ?_
  refine qZ 5 1 (by kernel_rfl) ?_
  refine qZ 6 2 (by kernel_rfl) ?_
  refine qZ 7 3 (by kernel_rfl) ?_
  refine q_rt ?_
  exact q_rm
 ·replace hm := qB b9 hm
  refine q_sk ?_
  refine q_sq ?_
  refine q_vu [] 4 [14, 35] [(15, vi (w64 (a4.X.B - a4.X.A)))] [] [] ?_
  refine q_sq ?_
  obtain ⟨v10, h11, hm⟩ := qC hm
  refine q_vu [qc 8 [46, 53] 4 (AV a3 (w64 (a4.Y.B - a4.Y.A)) v10 h11)] 4 [] [(16, vo 4 0 1 v10.1.length), (17, vo 5 0 1 v10.2.length)] [] [(4, ro 0 3 1 v10.1.length (rf e_i64 v10.1)), (5, ro 0 3 1 v10.2.length (rf e_i64 v10.2))] ?_
  refine q_sq ?_
  refine q_vu [] 6 [] [(18, vp 6 0)] [] [(6, bx 63 [ci (w64 (a4.X.B - a4.X.A)), ci a5.Kerf, ci 1, .own 4 0 1 v10.1.length, .emp, .emp, .emp])] ?_
  refine q_sq ?_
  refine q_sq ?_
  refine q_vu [] 7 [16] [(62, vo 4 0 1 v10.1.length), (63, vi ((v10.1.length : Nat) : Int)), (64, vi 0)] [] [] ?_
  refine q_fn [.ownB 6 4 7 57 1 (rf (qV e_i64) ([] : List (List Int)))] ⟨[(0, vc (tl qI default a1)), (1, vc (tl qH default a2)), (2, vc (tl qE default a3)), (9, vp 0 0), (10, vp 1 0), (11, vp 2 0), (12, vp 3 0), (15, vi (w64 (a4.X.B - a4.X.A))), (17, vo 5 0 1 v10.2.length), (18, vp 6 0), (62, vo 4 0 1 v10.1.length), (63, vi ((v10.1.length : Nat) : Int)), (64, vi 0)], [(0, bx 28 (qK a4)), (1, bx 30 (zL a5)), (2, bx 32 (zM a6)), (3, bx 63 [ci 0, ci 0, ci 0, .emp, .emp, .emp, .emp]), (4, ro 0 3 1 v10.1.length (rf e_i64 v10.1)), (5, ro 0 3 1 v10.2.length (rf e_i64 v10.2)), (6, bx 63 [ci (w64 (a4.X.B - a4.X.A)), ci a5.Kerf, ci 1, .own 4 0 1 v10.1.length, .own 7 0 1 0, .emp, .emp]), (7, ro 0 57 1 0 (rf (qV e_i64) ([] : List (List Int))))]⟩ o0 ?_
  obtain ⟨o34, h35, hm⟩ := qC hm
  refine wB (nd Tryd.f29 1012) 0 (by kernel_rfl) FUEL (fun o => qBv a1 a4 a5 a6 v10 o) o34 (q_hl (HR a1 a2 a3 a4 a5 a6 v10 0 ([] : List (List Int)) 0) (qGe E a1 a2 a3 a4 a5 a6 v10 FUEL 0 ([] : List (List Int)) 0 o34 rfl h35)) ?_
  refine q_sq ?_
  obtain ⟨v36, h37, hm⟩ := qC hm
  refine q_vu [qc 1 [110] 8 (XQ a1 v36 h37)] 8 [] [(24, vp 8 0)] [] [(8, bx 26 [ci 0, ci v36])] ?_
  refine q_sq ?_
  refine q_sq ?_
  refine q_vu [] 9 [15] [(113, vi (w64 (a4.X.B - a4.X.A))), (114, vi 0)] [] [] ?_
  refine q_fn [.ownB 6 5 9 3 1 (rf e_i64 ([] : List Int))] ⟨[(0, vc (tl qI default a1)), (9, vp 0 0), (11, vp 2 0), (12, vp 3 0), (18, vp 6 0), (24, vp 8 0), (113, vi (w64 (a4.X.B - a4.X.A))), (114, vi 0)], [(0, bx 28 (qK a4)), (2, bx 32 (zM a6)), (3, bx 63 [ci 0, ci 0, ci 0, .emp, .emp, .emp, .emp]), (4, ro 0 3 1 v10.1.length (rf e_i64 v10.1)), (6, bx 63 [ci (w64 (a4.X.B - a4.X.A)), ci a5.Kerf, ci 1, .own 4 0 1 v10.1.length, .own 7 0 1 o34.length, .own 9 0 1 0, .emp]), (7, ro 0 57 1 o34.length (rf (qV e_i64) o34)), (8, bx 26 [ci 0, ci v36]), (9, ro 0 3 1 0 (rf e_i64 ([] : List Int)))]⟩ o0 ?_
  refine q_fn [.ownB 6 6 10 3 1 (rf e_i64 ([] : List Int))] ⟨[(0, vc (tl qI default a1)), (9, vp 0 0), (11, vp 2 0), (12, vp 3 0), (18, vp 6 0), (24, vp 8 0), (113, vi (w64 (a4.X.B - a4.X.A))), (114, vi 0)], [(0, bx 28 (qK a4)), (2, bx 32 (zM a6)), (3, bx 63 [ci 0, ci 0, ci 0, .emp, .emp, .emp, .emp]), (4, ro 0 3 1 v10.1.length (rf e_i64 v10.1)), (6, bx 63 [ci (w64 (a4.X.B - a4.X.A)), ci a5.Kerf, ci 1, .own 4 0 1 v10.1.length, .own 7 0 1 o34.length, .own 9 0 1 0, .own 10 0 1 0]), (7, ro 0 57 1 o34.length (rf (qV e_i64) o34)), (8, bx 26 [ci 0, ci v36]), (9, ro 0 3 1 0 (rf e_i64 ([] : List Int))), (10, ro 0 3 1 0 (rf e_i64 ([] : List Int)))]⟩ o0 ?_
  obtain ⟨o50, h51, hm⟩ := qC hm
  refine wB (nd Tryd.f29 4084) 4 (by kernel_rfl) FUEL (fun o => qBW a4 a5 v10 o34 o.1 o.2) o50 (q_hl (SG a1 a4 a5 a6 v10 o34 v36 0 ([] : List Int) 0 ([] : List Int) 0) (qGf E a1 a4 a5 a6 v10 o34 v36 FUEL 0 ([] : List Int) 0 ([] : List Int) 0 o50 rfl rfl h51)) ?_
  refine q_sq ?_
  refine q_vu [] 11 [18] [(13, vi 0)] [3, 6] [(3, bx 63 [ci (w64 (a4.X.B - a4.X.A)), ci a5.Kerf, ci 1, .own 4 0 1 v10.1.length, .own 7 0 1 o34.length, .own 9 0 1 o50.1.length, .own 10 0 1 o50.2.length])] ?_
  obtain rfl := Option.some.inj hm
  refine qZ 4 0 (by kernel_rfl) ?_
  refine qZ 7 1 (by kernel_rfl) ?_
  refine qZ 9 2 (by kernel_rfl) ?_
  refine qZ 10 3 (by kernel_rfl) ?_
  refine q_rt ?_
  exact q_rm
def MO (r : List Node) : V := vo 0 0 2 r.length
def JE (r : List Node) : List (Nat × (Nat × O)) := [(0, ro 0 69 2 r.length (rf e_Node r))]
theorem qB3 (r : List Node) : JD (JE r) := by
 intro i k o h
 unfold JE at h
 rw [look_cons] at h
 split at h
 ·cases h; exact fun _ _ => rfl
 ·cases h
theorem qBB (a1 : List Node) (r : List Node) (hm : WL a1 = some r) : CtX Tryd.prog globs 64 0 0 [.one (tl e_Node default a1)] [] (MO r) (JE r) := by
 unfold WL at hm
 obtain ⟨g1, hm⟩ := qM hm
 obtain rfl := Option.some.inj hm
 refine qJT (fn := Tryd.f64) (c := nd Tryd.f64 1) (nt := 8) (by kernel_rfl) (by kernel_rfl) (by kernel_rfl) (by kernel_rfl) fun E => ?_
 refine R_sq Tryd.f64 2 3 (by kernel_rfl) ?_
 refine R_rn Tryd.f64 2 0 [] [] 0 ⟨[(0, vc (tl e_Node default a1))], []⟩ o0 (by kernel_rfl) (by kernel_rfl) ?_
 refine R_sq Tryd.f64 6 7 (by kernel_rfl) ?_
 refine R_sq Tryd.f64 12 13 (by kernel_rfl) ?_
 refine R_nil Tryd.f64 12 1 1 ⟨[(0, vc (tl e_Node default a1)), (3, vc (tl e_Node default a1))], []⟩ 37 37 69 4 (.tmp 3) a1.length (rf e_Node a1) (by kernel_rfl) (by kernel_rfl) (by kernel_rfl) (fun b hb => ?_)
 refine R_cn Tryd.f64 (.tmp 4) 26 27 (by kernel_rfl) b (by kernel_rfl) (fun b6 => ?_) (fun b6 => ?_)
 ·obtain rfl : a1 = [] := List.eq_nil_of_length_eq_zero (hb b6)
  refine R_sq Tryd.f64 52 53 (by kernel_rfl) ?_
  refine R_rn Tryd.f64 52 2 [] [.own 2 0 69 2 (rf e_Node ([] : List Node))] 0 ⟨[(2, vo 0 0 2 0)], [(0, ro 0 69 2 0 (rf e_Node ([] : List Node)))]⟩ o0 (by kernel_rfl) (by kernel_rfl) ?_
  refine R_ret (by kernel_rfl) ?_
  exact qKP (by kernel_rfl) (by kernel_rfl)
 ·refine qNS (by kernel_rfl) ?_
  refine R_sq Tryd.f64 14 15 (by kernel_rfl) ?_
  refine R_rn Tryd.f64 14 3 [(0, drw 0 0 (rf e_Node ([] : List Node))), (2, drw 0 1 (rf e_Node ([] ++ a1)))] [.len 0 a1.length] 0 ⟨[(2, vo 0 1 2 a1.length)], [(0, ro 1 69 2 a1.length (rf e_Node ([] ++ a1)))]⟩ (o1 (And.intro (And.intro (litP e_Node default 2 (fun _ => rfl) ([] : List Node) 0 rfl) (apP e_Node default ([] : List Node) a1 0 a1.length 2 16 True trivial rfl rfl (fun _ => rfl) (by have := wR g1; rw [Nat.zero_add]; exact this))) (And.intro (And.intro (Nat.zero_add a1.length) (Nat.zero_add a1.length)) (Nat.zero_add a1.length)))) (by kernel_rfl) (by kernel_rfl) ?_
  refine R_ret (by kernel_rfl) ?_
  exact qKP (by kernel_rfl) (by kernel_rfl)
set_option maxRecDepth 100000
def IZ (a1 : List (List Node)) (a2 : List Node) (r : (List (List Node)) × (List (List Node))) : V := vo 0 0 1 r.2.length
def IL (a1 : List (List Node)) (a2 : List Node) (r : (List (List Node)) × (List (List Node))) : List (Nat × (Nat × O)) := [(0, ro 0 37 1 r.2.length (rf (qV e_Node) r.2)), (1, ro 0 69 2 a2.length (rf e_Node a2))]
theorem qDe (a1 : List (List Node)) (a2 : List Node) (r : (List (List Node)) × (List (List Node))) (hm : VH a1 a2 = some r) : CtX Tryd.prog globs 34 2 0 [.one (.own 0 0 1 a1.length), .one (.own 1 0 2 a2.length)] [(0, ro 0 37 1 a1.length (rf (qV e_Node) a1)), (1, ro 0 69 2 a2.length (rf e_Node a2))] (IZ a1 a2 r) (IL a1 a2 r) := by
 unfold VH at hm
 refine q_E Tryd.f34 10 fun E => ?_
 refine q_sq ?_
 refine q_vn [] 2 ⟨[(0, vo 0 0 1 a1.length), (1, vo 1 0 2 a2.length)], [(0, ro 0 37 1 a1.length (rf (qV e_Node) a1)), (1, ro 0 69 2 a2.length (rf e_Node a2))]⟩ ?_
 refine q_sq ?_
 obtain ⟨v3, h4, hm⟩ := qC hm
 obtain ⟨g5, hm⟩ := qM hm
 refine q_vu [qd 2 (dex (cen [] [] 2 0 (MO v3) (JE v3) [6] [1])) (WA (K := (kx E 10 0)) (b := false) ⟨[(6, vo 1 0 2 a2.length)], [(1, ro 0 69 2 a2.length (rf e_Node a2))]⟩ (opAt (rg Tryd.f34 6) 2) [] [] 2 (o1 (Nat.le_refl a2.length)) rfl (qBB a2 v3 h4) (.inr ⟨(by kernel_rfl), qB3 v3⟩) (by kernel_rfl)), qd 3 (dpr [.frz 2] (drw 3 0 (rf (qV e_Node) ([v3] : List (List Node))))) (Nat.le_refl v3.length), qd 3 (Dir.none) (litP (qV e_Node) default 1 (fun _ => rfl) ([v3] : List (List Node)) 1 rfl), qd 4 (drw 0 1 (rf (qV e_Node) (a1 ++ ([v3] : List (List Node))))) (apP (qV e_Node) default a1 ([v3] : List (List Node)) a1.length 1 1 24 (1 ≤ 1) (Nat.le_refl _) rfl rfl (fun _ => rfl) (wR g5))] 2 [0, 1] [(4, vo 0 1 1 (a1.length + 1))] [0] [(0, ro 1 37 1 (a1.length + 1) (rf (qV e_Node) (a1 ++ ([v3] : List (List Node)))))] ?_
 refine q_fn [.len 0 ((a1 ++ ([v3] : List (List Node))).length)] ⟨[(4, vo 0 1 1 ((a1 ++ ([v3] : List (List Node))).length))], [(0, ro 1 37 1 ((a1 ++ ([v3] : List (List Node))).length) (rf (qV e_Node) (a1 ++ ([v3] : List (List Node))))), (1, ro 0 69 2 a2.length (rf e_Node a2))]⟩ (o1 (And.intro (Eq.symm (show (a1 ++ ([v3] : List (List Node))).length = (a1.length + 1) from (len_app rfl rfl))) (Eq.symm (show (a1 ++ ([v3] : List (List Node))).length = (a1.length + 1) from (len_app rfl rfl))))) ?_
 obtain rfl := Option.some.inj hm
 refine q_rt ?_
 exact q_rm
open Go.Proofs
set_option maxHeartbeats 4000000
set_option maxRecDepth 100000
def qFH (r : Int) : V := vi r
def qFr (r : Int) : List (Nat × (Nat × O)) := []
theorem AZ (a1 : Line) (a2 : Int) (r : Int) (hm : YC a1 a2 = some r) : CtX Tryd.prog globs 63 0 0 [.agg (zT a1), .one (ci a2)] [] (qFH r) (qFr r) := by
 unfold YC at hm
 refine q_E Tryd.f63 16 fun E => ?_
 refine q_sq ?_
 refine q_vn [] 0 ⟨[(1, vi a2), (2, vp 0 0)], [(0, bx 63 (zT a1))]⟩ ?_
 refine q_sq ?_
 refine q_sq ?_
 refine q_vu [] 1 [] [(8, vb (a2 == a1.Len))] [] [] ?_
 refine q_cn (a2 == a1.Len) (fun b3 => ?_) (fun b3 => ?_)
 ·replace hm := qA b3 hm
  refine q_sq ?_
  refine q_vn [] 1 ⟨[(4, vi (-1))], []⟩ ?_
  obtain rfl := Option.some.inj hm
  refine q_rt ?_
  exact q_rm
 ·replace hm := qB b3 hm
  refine q_sk ?_
  refine q_sq ?_
  refine q_vn [] 1 ⟨[(4, vi (imin (w64 (a2 + a1.Kerf)) a1.Len))], []⟩ ?_
  obtain rfl := Option.some.inj hm
  refine q_rt ?_
  exact q_rm
def qFF (r : Int) : V := vi r
def qFb (r : Int) : List (Nat × (Nat × O)) := []
theorem qEr (a1 : Line) (a2 : Int) (r : Int) (hm : DZ a1 a2 = some r) : CtX Tryd.prog globs 84 0 0 [.agg (zT a1), .one (ci a2)] [] (qFF r) (qFb r) := by
 unfold DZ at hm
 refine q_E Tryd.f84 11 fun E => ?_
 refine q_sq ?_
 refine q_vn [] 0 ⟨[(1, vi a2), (2, vp 0 0)], [(0, bx 63 (zT a1))]⟩ ?_
 refine q_sq ?_
 refine q_vn [] 1 ⟨[(4, vi (imax 0 (w64 ((w64 (a1.Len - a2)) + 1))))], []⟩ ?_
 obtain rfl := Option.some.inj hm
 refine q_rt ?_
 exact q_rm
set_option maxRecDepth 100000
def VN (r : Int) : V := vi r
def GA (r : Int) : List (Nat × (Nat × O)) := []
def FT (a1 : Line) (x10 : Int) (x14 : Bool) : St :=
 ⟨[(38, vc (tl e_i64 default a1.Sizes)), (39, vi ((a1.Sizes.length : Nat) : Int)), (40, vi x10), (49, vb x14)], []⟩
def RB (a1 : Line) (x10 : Int) : St :=
 ⟨[(38, vc (tl e_i64 default a1.Sizes)), (39, vi ((a1.Sizes.length : Nat) : Int)), (40, vi x10)], []⟩
def LG : St :=
 ⟨[], []⟩
def LI (a1 : Line) (x7 : Bool) : St :=
 ⟨[(1, vp 0 0), (32, vb x7)], [(0, bx 63 (zT a1))]⟩
theorem qBk (E : Env 0) (a1 : Line) : ∀ (n : Nat) (x10 : Int) (res : Int ⊕ Unit), wK a1 n x10 = some res → HL (kx E 51 0) (nd Tryd.f83 244) (wW 0 (fun o => LG) (fun v st => RetQ Tryd.prog Tryd.f83 (VN v) (GA v) .ret st) res) n (RB a1 x10) := by
 intro n
 induction n with
 | zero =>
  intro x10 res hm
  cases hm
 | succ n ih =>
  intro x10 res hm
  refine qQ ?_
  refine q_sq ?_
  refine q_vu [] 1 [] [(41, vb (decide (x10 < ((a1.Sizes.length : Nat) : Int))))] [] [] ?_
  refine q_sq ?_
  refine q_cn (decide (x10 < ((a1.Sizes.length : Nat) : Int))) (fun b11 => ?_) (fun b11 => ?_)
  ·replace hm := qA b11 hm
   refine q_sk ?_
   refine q_sq ?_
   refine q_bk 1 ?_
   refine q_sq ?_
   obtain ⟨g12, hm⟩ := qM hm
   refine q_vu [qd 0 (Dir.none) (inb_of g12)] 1 [41] [(4, vi (a1.Sizes.getD x10.toNat default))] [] [] ?_
   refine q_jn (ι := Bool) (fun p => FT a1 x10 p) (fun p => XC x10 (wK a1 n) p = some res) ?_ ?_
   ·rintro x14 hm
    show H _ (FT a1 x10 x14) _ _
    refine q_cn x14 (fun b15 => ?_) (fun b15 => ?_)
    ·replace hm := qA b15 hm
     refine q_sq ?_
     refine q_vn [] 1 ⟨[(2, vi 9)], []⟩ ?_
     obtain rfl := Option.some.inj hm
     refine q_rt ?_
     refine zB 9 ?_
     exact q_rm
    ·replace hm := qB b15 hm
     refine q_sk ?_
     refine q_vu [] 1 [40, 49] [(40, vi (w64 (x10 + 1)))] [] [] ?_
     exact q_hl (RB a1 (w64 (x10 + 1))) (ih (w64 (x10 + 1)) _ hm)
   ·rcases Bool.eq_false_or_eq_true (decide ((a1.Sizes.getD x10.toNat default) < 1)) with b13 | b13
    ·replace hm := qA b13 hm
     refine q_vu [qf 2 b13] 1 [4] [(49, vb true)] [] [] ?_
     exact q_J (true) hm
    ·replace hm := qB b13 hm
     refine q_vu [qf 2 b13] 1 [4] [(49, vb (decide ((a1.Sizes.getD x10.toNat default) > 2000)))] [] [] ?_
     exact q_J (decide ((a1.Sizes.getD x10.toNat default) > 2000)) hm
  ·replace hm := qB b11 hm
   refine q_ex 0 ?_
   obtain rfl := Option.some.inj hm
   exact jE () (by kernel_rfl) (by kernel_rfl)
theorem qCK (a1 : Line) (r : Int) (hm : YP a1 = some r) : CtX Tryd.prog globs 83 0 0 [.agg (zT a1)] [] (VN r) (GA r) := by
 unfold YP at hm
 refine q_E Tryd.f83 51 fun E => ?_
 refine q_sq ?_
 refine q_vn [] 0 ⟨[(1, vp 0 0)], [(0, bx 63 (zT a1))]⟩ ?_
 refine q_sq ?_
 refine q_jn (ι := Bool) (fun p => LI a1 p) (fun p => wL a1 p = some r) ?_ ?_
 ·rintro x7 hm
  show H _ (LI a1 x7) _ _
  refine q_cn x7 (fun b8 => ?_) (fun b8 => ?_)
  ·replace hm := qA b8 hm
   refine q_sq ?_
   refine q_vn [] 1 ⟨[(2, vi 9)], []⟩ ?_
   obtain rfl := Option.some.inj hm
   refine q_rt ?_
   exact q_rm
  ·replace hm := qB b8 hm
   refine q_sk ?_
   refine q_sq ?_
   refine q_sq ?_
   refine q_vu [] 1 [32] [(36, vb (decide (((a1.Sizes.length : Nat) : Int) > 32)))] [] [] ?_
   refine q_cn (decide (((a1.Sizes.length : Nat) : Int) > 32)) (fun b9 => ?_) (fun b9 => ?_)
   ·replace hm := qA b9 hm
    refine q_sq ?_
    refine q_vn [] 1 ⟨[(2, vi 4)], []⟩ ?_
    obtain rfl := Option.some.inj hm
    refine q_rt ?_
    exact q_rm
   ·replace hm := qB b9 hm
    refine q_sk ?_
    refine q_sq ?_
    refine q_sq ?_
    refine q_vn [] 1 ⟨[(38, vc (tl e_i64 default a1.Sizes)), (39, vi ((a1.Sizes.length : Nat) : Int)), (40, vi 0)], []⟩ ?_
    obtain ⟨u18, h17, hm⟩ := qC hm
    refine zP (nd Tryd.f83 244) 0 (by kernel_rfl) FUEL (fun o => LG) (fun v st => RetQ Tryd.prog Tryd.f83 (VN v) (GA v) .ret st) u18 (q_hl (RB a1 0) (qBk E a1 FUEL 0 u18 h17)) ?_ ?_
    ·rintro v19 rfl st hr
     obtain rfl := Option.some.inj hm
     exact hr
    ·rintro o16 rfl
     replace hm : _ = some r := hm
     refine q_sq ?_
     refine q_vn [] 1 ⟨[(2, vi 0)], []⟩ ?_
     obtain rfl := Option.some.inj hm
     refine q_rt ?_
     exact q_rm
 ·rcases Bool.eq_false_or_eq_true (decide (a1.Len < 0)) with b2 | b2
  ·replace hm := qA b2 hm
   refine q_vu [qf 3 b2] 1 [] [(32, vb true)] [] [] ?_
   exact q_J (true) hm
  ·replace hm := qB b2 hm
   rcases Bool.eq_false_or_eq_true (decide (a1.Len > 2000)) with b3 | b3
   ·replace hm := qA b3 hm
    refine q_vu [qf 3 b2, qf 8 b3] 1 [] [(32, vb true)] [] [] ?_
    exact q_J (true) hm
   ·replace hm := qB b3 hm
    rcases Bool.eq_false_or_eq_true (decide (a1.Kerf < 0)) with b4 | b4
    ·replace hm := qA b4 hm
     refine q_vu [qf 3 b2, qf 8 b3, qf 13 b4] 1 [] [(32, vb true)] [] [] ?_
     exact q_J (true) hm
    ·replace hm := qB b4 hm
     rcases Bool.eq_false_or_eq_true (decide (a1.Kerf > 20)) with b5 | b5
     ·replace hm := qA b5 hm
      refine q_vu [qf 3 b2, qf 8 b3, qf 13 b4, qf 18 b5] 1 [] [(32, vb true)] [] [] ?_
      exact q_J (true) hm
     ·replace hm := qB b5 hm
      rcases Bool.eq_false_or_eq_true (decide (a1.Pitch < 1)) with b6 | b6
      ·replace hm := qA b6 hm
       refine q_vu [qf 3 b2, qf 8 b3, qf 13 b4, qf 18 b5, qf 23 b6] 1 [] [(32, vb true)] [] [] ?_
       exact q_J (true) hm
      ·replace hm := qB b6 hm
       refine q_vu [qf 3 b2, qf 8 b3, qf 13 b4, qf 18 b5, qf 23 b6] 1 [] [(32, vb (decide (a1.Pitch > 2000)))] [] [] ?_
       exact q_J (decide (a1.Pitch > 2000)) hm
open Go.Proofs
set_option maxHeartbeats 4000000
set_option maxRecDepth 100000
def WN (r : Bool) : V := vb r
def yK (r : Bool) : List (Nat × (Nat × O)) := []
theorem qFK (r : Bool) : JD (yK r) := by
 intro i k o h
 unfold yK at h
 cases h
def AI (a1 : List (List Int)) (x2 : Int) (x5 : Int) (x9 : Bool) : St :=
 ⟨[(7, vc (tl (qV e_i64) default a1)), (8, vi ((a1.length : Nat) : Int)), (9, vi x2), (13, vc (tl e_i64 default (a1.getD x2.toNat default))), (14, vi (((a1.getD x2.toNat default).length : Nat) : Int)), (15, vi x5), (24, vb x9)], []⟩
def VK (a1 : List (List Int)) (x2 : Int) (x5 : Int) : St :=
 ⟨[(7, vc (tl (qV e_i64) default a1)), (8, vi ((a1.length : Nat) : Int)), (9, vi x2), (13, vc (tl e_i64 default (a1.getD x2.toNat default))), (14, vi (((a1.getD x2.toNat default).length : Nat) : Int)), (15, vi x5)], []⟩
def EN (a1 : List (List Int)) (x2 : Int) : St :=
 ⟨[(7, vc (tl (qV e_i64) default a1)), (8, vi ((a1.length : Nat) : Int)), (9, vi x2)], []⟩
def GD (a1 : List (List Int)) (x2 : Int) : St :=
 ⟨[(7, vc (tl (qV e_i64) default a1)), (8, vi ((a1.length : Nat) : Int)), (9, vi x2)], []⟩
def EV : St :=
 ⟨[], []⟩
theorem qCI (E : Env 0) (a1 : List (List Int)) (x2 : Int) : ∀ (n : Nat) (x5 : Int) (res : Bool ⊕ Unit), jM a1 x2 n x5 = some res → HL (kx E 27 0) (nd Tryd.f85 13516) (wW 2 (fun o => EN a1 x2) (fun v st => RetQ Tryd.prog Tryd.f85 (WN v) (yK v) .ret st) res) n (VK a1 x2 x5) := by
 intro n
 induction n with
 | zero =>
  intro x5 res hm
  cases hm
 | succ n ih =>
  intro x5 res hm
  refine qQ ?_
  refine q_sq ?_
  refine q_vu [] 0 [] [(16, vb (decide (x5 < (((a1.getD x2.toNat default).length : Nat) : Int))))] [] [] ?_
  refine q_sq ?_
  refine q_cn (decide (x5 < (((a1.getD x2.toNat default).length : Nat) : Int))) (fun b6 => ?_) (fun b6 => ?_)
  ·replace hm := qA b6 hm
   refine q_sk ?_
   refine q_sq ?_
   refine q_bk 3 ?_
   refine q_sq ?_
   obtain ⟨g7, hm⟩ := qM hm
   refine q_vu [qd 0 (Dir.none) (inb_of g7)] 0 [16] [(6, vi ((a1.getD x2.toNat default).getD x5.toNat default))] [] [] ?_
   refine q_jn (ι := Bool) (fun p => AI a1 x2 x5 p) (fun p => TP x5 (jM a1 x2 n) p = some res) ?_ ?_
   ·rintro x9 hm
    show H _ (AI a1 x2 x5 x9) _ _
    refine q_cn x9 (fun b10 => ?_) (fun b10 => ?_)
    ·replace hm := qA b10 hm
     refine q_sq ?_
     refine q_vn [] 0 ⟨[(2, vb false)], []⟩ ?_
     obtain rfl := Option.some.inj hm
     refine q_rt ?_
     refine zB false ?_
     exact q_rm
    ·replace hm := qB b10 hm
     refine q_sk ?_
     refine q_vu [] 0 [15, 24] [(15, vi (w64 (x5 + 1)))] [] [] ?_
     exact q_hl (VK a1 x2 (w64 (x5 + 1))) (ih (w64 (x5 + 1)) _ hm)
   ·rcases Bool.eq_false_or_eq_true (decide (((a1.getD x2.toNat default).getD x5.toNat default) < (-1125899906842624))) with b8 | b8
    ·replace hm := qA b8 hm
     refine q_vu [qf 2 b8] 0 [6] [(24, vb true)] [] [] ?_
     exact q_J (true) hm
    ·replace hm := qB b8 hm
     refine q_vu [qf 2 b8] 0 [6] [(24, vb (decide (((a1.getD x2.toNat default).getD x5.toNat default) > 1125899906842624)))] [] [] ?_
     exact q_J (decide (((a1.getD x2.toNat default).getD x5.toNat default) > 1125899906842624)) hm
  ·replace hm := qB b6 hm
   refine q_ex 2 ?_
   obtain rfl := Option.some.inj hm
   exact jE () (by kernel_rfl) (by kernel_rfl)
theorem qCQ (E : Env 0) (a1 : List (List Int)) : ∀ (n : Nat) (x2 : Int) (res : Bool ⊕ Unit), ZW a1 n x2 = some res → HL (kx E 27 0) (nd Tryd.f85 52) (wW 0 (fun o => EV) (fun v st => RetQ Tryd.prog Tryd.f85 (WN v) (yK v) .ret st) res) n (GD a1 x2) := by
 intro n
 induction n with
 | zero =>
  intro x2 res hm
  cases hm
 | succ n ih =>
  intro x2 res hm
  refine qQ ?_
  refine q_sq ?_
  refine q_vu [] 0 [] [(10, vb (decide (x2 < ((a1.length : Nat) : Int))))] [] [] ?_
  refine q_sq ?_
  refine q_cn (decide (x2 < ((a1.length : Nat) : Int))) (fun b3 => ?_) (fun b3 => ?_)
  ·replace hm := qA b3 hm
   refine q_sk ?_
   refine q_sq ?_
   refine q_bk 1 ?_
   refine q_sq ?_
   obtain ⟨g4, hm⟩ := qM hm
   refine q_vu [qd 0 (Dir.none) (inb_of g4)] 0 [10] [(4, vc (tl e_i64 default (a1.getD x2.toNat default)))] [] [] ?_
   refine q_sq ?_
   refine q_vu [] 0 [4] [(13, vc (tl e_i64 default (a1.getD x2.toNat default))), (14, vi (((a1.getD x2.toNat default).length : Nat) : Int)), (15, vi 0)] [] [] ?_
   obtain ⟨u13, h12, hm⟩ := qC hm
   refine zP (nd Tryd.f85 13516) 2 (by kernel_rfl) FUEL (fun o => EN a1 x2) (fun v st => RetQ Tryd.prog Tryd.f85 (WN v) (yK v) .ret st) u13 (q_hl (VK a1 x2 0) (qCI E a1 x2 FUEL 0 u13 h12)) ?_ ?_
   ·rintro v14 rfl st hr
    obtain rfl := Option.some.inj hm
    exact zB v14 hr
   ·rintro o11 rfl
    replace hm : _ = some res := hm
    refine q_vu [] 0 [9] [(9, vi (w64 (x2 + 1)))] [] [] ?_
    exact q_hl (GD a1 (w64 (x2 + 1))) (ih (w64 (x2 + 1)) _ hm)
  ·replace hm := qB b3 hm
   refine q_ex 0 ?_
   obtain rfl := Option.some.inj hm
   exact jE () (by kernel_rfl) (by kernel_rfl)
theorem FB (a1 : List (List Int)) (r : Bool) (hm : XH a1 = some r) : CtX Tryd.prog globs 85 0 0 [.one (tl (qV e_i64) default a1)] [] (WN r) (yK r) := by
 unfold XH at hm
 refine q_E Tryd.f85 27 fun E => ?_
 refine q_sq ?_
 refine q_vn [] 0 ⟨[(0, vc (tl (qV e_i64) default a1))], []⟩ ?_
 refine q_sq ?_
 refine q_sq ?_
 refine q_vn [] 0 ⟨[(7, vc (tl (qV e_i64) default a1)), (8, vi ((a1.length : Nat) : Int)), (9, vi 0)], []⟩ ?_
 obtain ⟨u17, h16, hm⟩ := qC hm
 refine zP (nd Tryd.f85 52) 0 (by kernel_rfl) FUEL (fun o => EV) (fun v st => RetQ Tryd.prog Tryd.f85 (WN v) (yK v) .ret st) u17 (q_hl (GD a1 0) (qCQ E a1 FUEL 0 u17 h16)) ?_ ?_
 ·rintro v18 rfl st hr
  obtain rfl := Option.some.inj hm
  exact hr
 ·rintro o15 rfl
  replace hm : _ = some r := hm
  refine q_sq ?_
  refine q_vn [] 0 ⟨[(2, vb true)], []⟩ ?_
  obtain rfl := Option.some.inj hm
  refine q_rt ?_
  exact q_rm
def MQ (r : Int) : V := vi r
def LU (r : Int) : List (Nat × (Nat × O)) := []
def VU (a1 : Line) (x9 : Int) : St :=
 ⟨[(1, vp 0 0), (35, vc (tl (qV e_i64) default a1.Gain)), (36, vi ((a1.Gain.length : Nat) : Int)), (37, vi x9)], [(0, bx 63 (zT a1))]⟩
def AH (a1 : Line) : St :=
 ⟨[(1, vp 0 0)], [(0, bx 63 (zT a1))]⟩
def ED (x25 : Bool) : St :=
 ⟨[(65, vb x25)], []⟩
def AE (a1 : Line) (x7 : Bool) : St :=
 ⟨[(1, vp 0 0), (33, vb x7)], [(0, bx 63 (zT a1))]⟩
theorem qCL (E : Env 0) (a1 : Line) : ∀ (n : Nat) (x9 : Int) (res : Int ⊕ Unit), ZM a1 n x9 = some res → HL (kx E 66 0) (nd Tryd.f61 244) (wW 0 (fun o => AH a1) (fun v st => RetQ Tryd.prog Tryd.f61 (MQ v) (LU v) .ret st) res) n (VU a1 x9) := by
 intro n
 induction n with
 | zero =>
  intro x9 res hm
  cases hm
 | succ n ih =>
  intro x9 res hm
  refine qQ ?_
  refine q_sq ?_
  refine q_vu [] 1 [] [(38, vb (decide (x9 < ((a1.Gain.length : Nat) : Int))))] [] [] ?_
  refine q_sq ?_
  refine q_cn (decide (x9 < ((a1.Gain.length : Nat) : Int))) (fun b10 => ?_) (fun b10 => ?_)
  ·replace hm := qA b10 hm
   refine q_sk ?_
   refine q_sq ?_
   refine q_bk 1 ?_
   refine q_sq ?_
   obtain ⟨g11, hm⟩ := qM hm
   refine q_vu [qd 1 (Dir.none) (inb_of g11)] 1 [38] [(4, vi x9), (5, vc (tl e_i64 default (a1.Gain.getD x9.toNat default)))] [] [] ?_
   refine q_sq ?_
   obtain ⟨g12, hm⟩ := qM hm
   obtain ⟨v13, h14, hm⟩ := qC hm
   refine q_du [qd 6 (Dir.none) (inb_of g12), qc 8 [44, 49] 1 (qEr a1 (a1.Sizes.getD x9.toNat default) v13 h14)] [0, 1, 0, 0, 8, 0, 56, 120, 252, 511] 1 [4, 5] [(51, vb ((((a1.Gain.getD x9.toNat default).length : Nat) : Int) != v13))] [] [] ?_
   refine q_cn ((((a1.Gain.getD x9.toNat default).length : Nat) : Int) != v13) (fun b15 => ?_) (fun b15 => ?_)
   ·replace hm := qA b15 hm
    refine q_sq ?_
    refine q_vn [] 1 ⟨[(2, vi 19)], []⟩ ?_
    obtain rfl := Option.some.inj hm
    refine q_rt ?_
    refine zB 19 ?_
    exact q_rm
   ·replace hm := qB b15 hm
    refine q_sk ?_
    refine q_vu [] 1 [37, 51] [(37, vi (w64 (x9 + 1)))] [] [] ?_
    exact q_hl (VU a1 (w64 (x9 + 1))) (ih (w64 (x9 + 1)) _ hm)
  ·replace hm := qB b10 hm
   refine q_ex 0 ?_
   obtain rfl := Option.some.inj hm
   exact jE () (by kernel_rfl) (by kernel_rfl)
theorem qE4 (a1 : Line) (r : Int) (hm : UE a1 = some r) : CtX Tryd.prog globs 61 0 0 [.agg (zT a1)] [] (MQ r) (LU r) := by
 unfold UE at hm
 refine q_E Tryd.f61 66 fun E => ?_
 refine q_sq ?_
 refine q_vn [] 0 ⟨[(1, vp 0 0)], [(0, bx 63 (zT a1))]⟩ ?_
 refine q_sq ?_
 refine q_sq ?_
 obtain ⟨v2, h3, hm⟩ := qC hm
 refine q_vu [qc 1 [6] 1 (qCK a1 v2 h3)] 1 [] [(3, vi v2)] [] [] ?_
 refine q_sq ?_
 refine q_vu [] 1 [] [(9, vb (v2 != 0))] [] [] ?_
 refine q_cn (v2 != 0) (fun b4 => ?_) (fun b4 => ?_)
 ·replace hm := qA b4 hm
  refine q_sq ?_
  refine q_vn [] 1 ⟨[(2, vi v2)], []⟩ ?_
  obtain rfl := Option.some.inj hm
  refine q_rt ?_
  exact q_rm
 ·replace hm := qB b4 hm
  refine q_sk ?_
  refine q_sq ?_
  refine q_jn (ι := Bool) (fun p => AE a1 p) (fun p => YF a1 p = some r) ?_ ?_
  ·rintro x7 hm
   show H _ (AE a1 x7) _ _
   refine q_cn x7 (fun b8 => ?_) (fun b8 => ?_)
   ·replace hm := qA b8 hm
    refine q_sq ?_
    refine q_vn [] 1 ⟨[(2, vi 19)], []⟩ ?_
    obtain rfl := Option.some.inj hm
    refine q_rt ?_
    exact q_rm
   ·replace hm := qB b8 hm
    refine q_sk ?_
    refine q_sq ?_
    refine q_sq ?_
    refine q_vu [] 1 [33] [(35, vc (tl (qV e_i64) default a1.Gain)), (36, vi ((a1.Gain.length : Nat) : Int)), (37, vi 0)] [] [] ?_
    obtain ⟨u18, h17, hm⟩ := qC hm
    refine zP (nd Tryd.f61 244) 0 (by kernel_rfl) FUEL (fun o => AH a1) (fun v st => RetQ Tryd.prog Tryd.f61 (MQ v) (LU v) .ret st) u18 (q_hl (VU a1 0) (qCL E a1 FUEL 0 u18 h17)) ?_ ?_
    ·rintro v19 rfl st hr
     obtain rfl := Option.some.inj hm
     exact hr
    ·rintro o16 rfl
     replace hm : _ = some r := hm
     refine q_sq ?_
     refine q_jn (ι := Bool) (fun p => ED p) (fun p => TC p = some r) ?_ ?_
     ·rintro x25 hm
      show H _ (ED x25) _ _
      refine q_cn x25 (fun b26 => ?_) (fun b26 => ?_)
      ·replace hm := qA b26 hm
       refine q_sq ?_
       refine q_vn [] 2 ⟨[(2, vi 9)], []⟩ ?_
       obtain rfl := Option.some.inj hm
       refine q_rt ?_
       exact q_rm
      ·replace hm := qB b26 hm
       refine q_sk ?_
       refine q_sq ?_
       refine q_vn [] 2 ⟨[(2, vi 0)], []⟩ ?_
       obtain rfl := Option.some.inj hm
       refine q_rt ?_
       exact q_rm
     ·obtain ⟨v20, h21, hm⟩ := qC hm
      rcases Bool.eq_false_or_eq_true (!v20) with b22 | b22
      ·replace hm := qA b22 hm
       refine q_vn [qc 2 [54] 1 (FB a1.Gain v20 h21), qf 4 b22] 1 ⟨[(65, vb true)], []⟩ ?_
       exact q_J (true) hm
      ·replace hm := qB b22 hm
       obtain ⟨v23, h24, hm⟩ := qC hm
       refine q_vn [qc 2 [54] 1 (FB a1.Gain v20 h21), qf 4 b22, qd 9 (drw 1 0 (rf (qV e_i64) ([a1.Chip, a1.Dust] : List (List Int)))) (litP (qV e_i64) default 1 (fun _ => rfl) ([a1.Chip, a1.Dust] : List (List Int)) 2 rfl), qd 10 (dex (cen [] [] 2 0 (WN v23) (yK v23) [57, 62] [1])) (WA (K := (kx E 66 0)) (xs' := [.one (.lst 2 (rf (qV e_i64) ([a1.Chip, a1.Dust] : List (List Int))))]) (b := false) ⟨[(57, vb false), (62, vo 1 0 1 2)], [(1, ro 0 57 1 2 (rf (qV e_i64) ([a1.Chip, a1.Dust] : List (List Int))))]⟩ (opAt (rg Tryd.f61 124) 10) [] [] 2 (o1 (Nat.le_refl 2)) (by simp only [tl, rf, show ([a1.Chip, a1.Dust] : List (List Int)).length = 2 from rfl]) (FB ([a1.Chip, a1.Dust] : List (List Int)) v23 h24) (.inr ⟨(by kernel_rfl), qFK v23⟩) (by kernel_rfl))] 1 ⟨[(65, vb (!v23))], []⟩ ?_
       exact q_J (!v23) hm
  ·rcases Bool.eq_false_or_eq_true (((a1.Gain.length : Nat) : Int) != ((a1.Sizes.length : Nat) : Int)) with b5 | b5
   ·replace hm := qA b5 hm
    refine q_vu [qf 7 b5] 1 [3, 9] [(33, vb true)] [] [] ?_
    exact q_J (true) hm
   ·replace hm := qB b5 hm
    rcases Bool.eq_false_or_eq_true (((a1.Chip.length : Nat) : Int) != a1.Len) with b6 | b6
    ·replace hm := qA b6 hm
     refine q_vu [qf 7 b5, qf 15 b6] 1 [3, 9] [(33, vb true)] [] [] ?_
     exact q_J (true) hm
    ·replace hm := qB b6 hm
     refine q_vu [qf 7 b5, qf 15 b6] 1 [3, 9] [(33, vb (((a1.Dust.length : Nat) : Int) != a1.Len))] [] [] ?_
     exact q_J (((a1.Dust.length : Nat) : Int) != a1.Len) hm
end Saw
end Go.SL
