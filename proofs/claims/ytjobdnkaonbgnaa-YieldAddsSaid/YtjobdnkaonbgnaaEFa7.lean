import Derived.Test.YtjobdnkaonbgnaaEBase
import Derived.Test.YtjobdnkaonbgnaaEFa6
import Derived.Test.YtjobdnkaonbgnaaEFa3
import Derived.Test.YtjobdnkaonbgnaaEFa4
import Derived.Test.YtjobdnkaonbgnaaEFa2
set_option linter.unusedVariables false
set_option linter.unusedSimpArgs false
namespace Go.SL
namespace Saw
open Go.Proofs
set_option maxHeartbeats 4000000
set_option maxRecDepth 100000
def qDn (r : Worth_view × Bool) : V := .tup [.agg [cs r.1.product.Name, ci r.1.product.Thick, ci r.1.product.Width, ci r.1.product.Allow, ci r.1.product.Wane, tl qL default r.1.product.Lengths, tl qL default r.1.product.Prices, ci r.1.rect.X.A, ci r.1.rect.X.B, ci r.1.rect.Y.A, ci r.1.rect.Y.B, ci r.1.length, .own 0 0 3 r.1.zones.length, .own 1 0 7 r.1.defects.length], .one (cb r.2)]
def qCX (r : Worth_view × Bool) : List (Nat × (Nat × O)) := [(0, ro 0 165 3 r.1.zones.length (rf qG r.1.zones)), (1, ro 0 139 7 r.1.defects.length (rf qF r.1.defects))]
def LX (a2 : List Defect) (a3 : Product) (a4 : Rect) (v23 : Int) (v25 : (List Worth_zone)) (v27 : Box) (x29 : Int) (l37 : List Defect) (l37n : Nat) : St :=
 ⟨[(8, vp 2 0), (13, vp 6 0), (14, vp 7 0), (83, vc (tl qF default a2)), (84, vi ((a2.length : Nat) : Int)), (85, vi x29)], [(2, bx 129 [cs (ByteArray.mk #[]), ci 0, ci 0, ci 0, ci 0, .emp, .emp, ci 0, ci 0, ci 0, ci 0, ci 0, .emp, .emp]), (5, ro 0 165 3 v25.length (rf qG v25)), (6, bx 129 [cs a3.Name, ci a3.Thick, ci a3.Width, ci a3.Allow, ci a3.Wane, tl qL default a3.Lengths, tl qL default a3.Prices, ci a4.X.A, ci a4.X.B, ci a4.Y.A, ci a4.Y.B, ci v23, .own 5 0 3 v25.length, .own 8 0 7 l37n]), (7, bx 52 (wU v27)), (8, ro 0 139 7 l37n (rf qF l37))]⟩
def UR (a2 : List Defect) (a3 : Product) (a4 : Rect) (v23 : Int) (v25 : (List Worth_zone)) (v27 : Box) (x29 : Int) (l30 : List Defect) (l30n : Nat) : St :=
 ⟨[(8, vp 2 0), (13, vp 6 0), (14, vp 7 0), (83, vc (tl qF default a2)), (84, vi ((a2.length : Nat) : Int)), (85, vi x29)], [(2, bx 129 [cs (ByteArray.mk #[]), ci 0, ci 0, ci 0, ci 0, .emp, .emp, ci 0, ci 0, ci 0, ci 0, ci 0, .emp, .emp]), (5, ro 0 165 3 v25.length (rf qG v25)), (6, bx 129 [cs a3.Name, ci a3.Thick, ci a3.Width, ci a3.Allow, ci a3.Wane, tl qL default a3.Lengths, tl qL default a3.Prices, ci a4.X.A, ci a4.X.B, ci a4.Y.A, ci a4.Y.B, ci v23, .own 5 0 3 v25.length, .own 8 0 7 l30n]), (7, bx 52 (wU v27)), (8, ro 0 139 7 l30n (rf qF l30))]⟩
def LN (a3 : Product) (a4 : Rect) (v23 : Int) (v25 : (List Worth_zone)) (l38 : List Defect) : St :=
 ⟨[(8, vp 2 0), (13, vp 6 0)], [(2, bx 129 [cs (ByteArray.mk #[]), ci 0, ci 0, ci 0, ci 0, .emp, .emp, ci 0, ci 0, ci 0, ci 0, ci 0, .emp, .emp]), (5, ro 0 165 3 v25.length (rf qG v25)), (6, bx 129 [cs a3.Name, ci a3.Thick, ci a3.Width, ci a3.Allow, ci a3.Wane, tl qL default a3.Lengths, tl qL default a3.Prices, ci a4.X.A, ci a4.X.B, ci a4.Y.A, ci a4.Y.B, ci v23, .own 5 0 3 v25.length, .own 8 0 7 l38.length]), (8, ro 0 139 7 l38.length (rf qF l38))]⟩
def LH (a1 : List qJ) (a2 : List Defect) (a3 : Product) (a4 : Rect) (x21 : Bool) : St :=
 ⟨[(0, vc (tl qI default a1)), (1, vc (tl qF default a2)), (6, vp 0 0), (7, vp 1 0), (8, vp 2 0), (68, vb x21)], [(0, bx 71 (qE a3)), (1, bx 28 (qK a4)), (2, bx 129 [cs (ByteArray.mk #[]), ci 0, ci 0, ci 0, ci 0, .emp, .emp, ci 0, ci 0, ci 0, ci 0, ci 0, .emp, .emp])]⟩
def LQ (a1 : List qJ) (a2 : List Defect) (a3 : Product) (a4 : Rect) (x16 : Bool) : St :=
 ⟨[(0, vc (tl qI default a1)), (1, vc (tl qF default a2)), (6, vp 0 0), (7, vp 1 0), (8, vp 2 0), (35, vb x16)], [(0, bx 71 (qE a3)), (1, bx 28 (qK a4)), (2, bx 129 [cs (ByteArray.mk #[]), ci 0, ci 0, ci 0, ci 0, .emp, .emp, ci 0, ci 0, ci 0, ci 0, ci 0, .emp, .emp])]⟩
theorem CU (E : Env 0) (a2 : List Defect) (a3 : Product) (a4 : Rect) (v23 : Int) (v25 : (List Worth_zone)) (v27 : Box) : ∀ (n : Nat) (x29 : Int) (l30 : List Defect) (l30n : Nat) (res : (List Defect)), l30.length = l30n → WU a2 v27 n x29 l30 = some res → HL (kx E 100 0) (nd Try.f63 4084) (wK 0 (fun o => LN a3 a4 v23 v25 o) res) n (UR a2 a3 a4 v23 v25 v27 x29 l30 l30n) := by
 intro n
 induction n with
 | zero =>
  intro x29 l30 l30n res hl0 hm
  cases hm
 | succ n ih =>
  intro x29 l30 l30n res hl0 hm
  subst hl0
  refine qV ?_
  refine q_sq ?_
  refine q_vu [] 9 [] [(86, vb (decide (x29 < ((a2.length : Nat) : Int))))] [] [] ?_
  refine q_sq ?_
  refine q_cn (decide (x29 < ((a2.length : Nat) : Int))) (fun b31 => ?_) (fun b31 => ?_)
  ·replace hm := qA b31 hm
   refine q_sk ?_
   refine q_jn (ι := (List Defect) × Nat) (fun p => LX a2 a3 a4 v23 v25 v27 x29 p.1 p.2) (fun p => p.1.length = p.2 ∧ BG x29 (WU a2 v27 n) p.1 = some res) ?_ ?_
   ·rintro ⟨l37, l37n⟩ ⟨el37, hm⟩
    replace el37 : l37.length = l37n := el37
    subst el37
    show H _ (LX a2 a3 a4 v23 v25 v27 x29 l37 l37.length) _ _
    refine q_vu [] 11 [85] [(85, vi (w64 (x29 + 1)))] [] [] ?_
    exact q_hl (UR a2 a3 a4 v23 v25 v27 (w64 (x29 + 1)) l37 l37.length) (ih (w64 (x29 + 1)) l37 l37.length _ rfl hm)
   ·refine q_bk 1 ?_
    refine q_sq ?_
    obtain ⟨g32, hm⟩ := qO hm
    refine q_vu [qd 0 (Dir.none) (inb_of g32)] 9 [86] [(16, vp 9 0)] [] [(9, bx 139 [ci ((a2.getD x29.toNat default).Kind), ci ((((a2.getD x29.toNat default).Box).X).A), ci ((((a2.getD x29.toNat default).Box).X).B), ci ((((a2.getD x29.toNat default).Box).Y).A), ci ((((a2.getD x29.toNat default).Box).Y).B), ci ((((a2.getD x29.toNat default).Box).Z).A), ci ((((a2.getD x29.toNat default).Box).Z).B)])] ?_
    refine q_sq ?_
    obtain ⟨v33, h34, hm⟩ := qC hm
    refine q_vu [qc 2 [89, 90] 10 (NF (a2.getD x29.toNat default) v27 v33 h34)] 10 [] [(91, vb v33)] [] [] ?_
    refine q_cn v33 (fun b35 => ?_) (fun b35 => ?_)
    ·replace hm := qA b35 hm
     obtain ⟨g36, hm⟩ := qO hm
     refine q_vu [qd 3 (drw 10 0 (rf qF ([(a2.getD x29.toNat default)] : List Defect))) (litP qF default 7 (fun _ => rfl) ([(a2.getD x29.toNat default)] : List Defect) 1 rfl), qd 4 (drw 8 1 (rf qF (l30 ++ ([(a2.getD x29.toNat default)] : List Defect)))) (apP qF default l30 ([(a2.getD x29.toNat default)] : List Defect) l30.length 1 7 56 (1 ≤ 1) (Nat.le_refl _) rfl rfl (fun _ => rfl) (ZX g36))] 10 [16, 91] [] [6, 8, 9] [(6, bx 129 [cs a3.Name, ci a3.Thick, ci a3.Width, ci a3.Allow, ci a3.Wane, tl qL default a3.Lengths, tl qL default a3.Prices, ci a4.X.A, ci a4.X.B, ci a4.Y.A, ci a4.Y.B, ci v23, .own 5 0 3 v25.length, .own 8 1 7 (l30.length + 1)]), (8, ro 1 139 7 (l30.length + 1) (rf qF (l30 ++ ([(a2.getD x29.toNat default)] : List Defect))))] ?_
     exact q_J ((l30 ++ ([(a2.getD x29.toNat default)] : List Defect)), (l30.length + 1)) ⟨(len_app rfl rfl), hm⟩
    ·replace hm := qB b35 hm
     refine q_sk ?_
     exact q_J (l30, l30.length) ⟨rfl, hm⟩
  ·replace hm := qB b31 hm
   refine q_ex 0 ?_
   obtain rfl := Option.some.inj hm
   exact jR (by kernel_rfl) (by kernel_rfl)
theorem qCo (a1 : List qJ) (a2 : List Defect) (a3 : Product) (a4 : Rect) (r : Worth_view × Bool) (hm : SJ a1 a2 a3 a4 = some r) : CtX Try.prog globs 63 0 0 [.one (tl qI default a1), .one (tl qF default a2), .agg (qE a3), .agg (qK a4)] [] (qDn r) (qCX r) := by
 unfold SJ at hm
 refine q_E Try.f63 100 fun E => ?_
 refine q_sq ?_
 refine q_vn [] 0 ⟨[(0, vc (tl qI default a1)), (1, vc (tl qF default a2)), (6, vp 0 0), (7, vp 1 0), (8, vp 2 0)], [(0, bx 71 (qE a3)), (1, bx 28 (qK a4)), (2, bx 129 [cs (ByteArray.mk #[]), ci 0, ci 0, ci 0, ci 0, .emp, .emp, ci 0, ci 0, ci 0, ci 0, ci 0, .emp, .emp])]⟩ ?_
 refine q_sq ?_
 refine q_jn (ι := Bool) (fun p => LQ a1 a2 a3 a4 p) (fun p => WS a1 a2 a3 a4 p = some r) ?_ ?_
 ·rintro x16 hm
  show H _ (LQ a1 a2 a3 a4 x16) _ _
  refine q_cn x16 (fun b17 => ?_) (fun b17 => ?_)
  ·replace hm := qA b17 hm
   refine q_sq ?_
   refine q_vu [] 4 [0, 1, 6, 7, 35] [(9, vb false)] [0, 1] [] ?_
   refine q_fn [.ownB 2 5 4 3 1 (rf qL ([] : List Int))] ⟨[(8, vp 2 0), (9, vb false)], [(2, bx 129 [cs (ByteArray.mk #[]), ci 0, ci 0, ci 0, ci 0, .own 4 0 1 0, .emp, ci 0, ci 0, ci 0, ci 0, ci 0, .emp, .emp]), (4, ro 0 3 1 0 (rf qL ([] : List Int)))]⟩ o0 ?_
   refine q_fn [.ownB 2 6 5 3 1 (rf qL ([] : List Int))] ⟨[(8, vp 2 0), (9, vb false)], [(2, bx 129 [cs (ByteArray.mk #[]), ci 0, ci 0, ci 0, ci 0, .own 4 0 1 0, .own 5 0 1 0, ci 0, ci 0, ci 0, ci 0, ci 0, .emp, .emp]), (4, ro 0 3 1 0 (rf qL ([] : List Int))), (5, ro 0 3 1 0 (rf qL ([] : List Int)))]⟩ o0 ?_
   refine q_fn [.ownB 2 12 6 165 3 (rf qG ([] : List Worth_zone))] ⟨[(8, vp 2 0), (9, vb false)], [(2, bx 129 [cs (ByteArray.mk #[]), ci 0, ci 0, ci 0, ci 0, .own 4 0 1 0, .own 5 0 1 0, ci 0, ci 0, ci 0, ci 0, ci 0, .own 6 0 3 0, .emp]), (4, ro 0 3 1 0 (rf qL ([] : List Int))), (5, ro 0 3 1 0 (rf qL ([] : List Int))), (6, ro 0 165 3 0 (rf qG ([] : List Worth_zone)))]⟩ o0 ?_
   refine q_fn [.ownB 2 13 7 139 7 (rf qF ([] : List Defect))] ⟨[(8, vp 2 0), (9, vb false)], [(2, bx 129 [cs (ByteArray.mk #[]), ci 0, ci 0, ci 0, ci 0, .own 4 0 1 0, .own 5 0 1 0, ci 0, ci 0, ci 0, ci 0, ci 0, .own 6 0 3 0, .own 7 0 7 0]), (4, ro 0 3 1 0 (rf qL ([] : List Int))), (5, ro 0 3 1 0 (rf qL ([] : List Int))), (6, ro 0 165 3 0 (rf qG ([] : List Worth_zone))), (7, ro 0 139 7 0 (rf qF ([] : List Defect)))]⟩ o0 ?_
   refine q_fn [.len 4 (([] : List Int).length), .frz 4] ⟨[(8, vp 2 0), (9, vb false)], [(2, bx 129 [cs (ByteArray.mk #[]), ci 0, ci 0, ci 0, ci 0, tl qL default ([] : List Int), .own 5 0 1 0, ci 0, ci 0, ci 0, ci 0, ci 0, .own 6 0 3 0, .own 7 0 7 0]), (5, ro 0 3 1 0 (rf qL ([] : List Int))), (6, ro 0 165 3 0 (rf qG ([] : List Worth_zone))), (7, ro 0 139 7 0 (rf qF ([] : List Defect)))]⟩ (o1 (And.intro (And.intro (show 0 = ([] : List Int).length from rfl) (show 0 = ([] : List Int).length from rfl)) (Nat.le_refl (([] : List Int).length)))) ?_
   refine q_fn [.len 5 (([] : List Int).length), .frz 5] ⟨[(8, vp 2 0), (9, vb false)], [(2, bx 129 [cs (ByteArray.mk #[]), ci 0, ci 0, ci 0, ci 0, tl qL default ([] : List Int), tl qL default ([] : List Int), ci 0, ci 0, ci 0, ci 0, ci 0, .own 6 0 3 0, .own 7 0 7 0]), (6, ro 0 165 3 0 (rf qG ([] : List Worth_zone))), (7, ro 0 139 7 0 (rf qF ([] : List Defect)))]⟩ (o1 (And.intro (And.intro (show 0 = ([] : List Int).length from rfl) (show 0 = ([] : List Int).length from rfl)) (Nat.le_refl (([] : List Int).length)))) ?_
   refine q_fn [.len 6 (([] : List Worth_zone).length)] ⟨[(8, vp 2 0), (9, vb false)], [(2, bx 129 [cs (ByteArray.mk #[]), ci 0, ci 0, ci 0, ci 0, tl qL default ([] : List Int), tl qL default ([] : List Int), ci 0, ci 0, ci 0, ci 0, ci 0, .own 6 0 3 (([] : List Worth_zone).length), .own 7 0 7 0]), (6, ro 0 165 3 (([] : List Worth_zone).length) (rf qG ([] : List Worth_zone))), (7, ro 0 139 7 0 (rf qF ([] : List Defect)))]⟩ (o1 (And.intro (show 0 = ([] : List Worth_zone).length from rfl) (show 0 = ([] : List Worth_zone).length from rfl))) ?_
   refine q_fn [.len 7 (([] : List Defect).length)] ⟨[(8, vp 2 0), (9, vb false)], [(2, bx 129 [cs (ByteArray.mk #[]), ci 0, ci 0, ci 0, ci 0, tl qL default ([] : List Int), tl qL default ([] : List Int), ci 0, ci 0, ci 0, ci 0, ci 0, .own 6 0 3 (([] : List Worth_zone).length), .own 7 0 7 (([] : List Defect).length)]), (6, ro 0 165 3 (([] : List Worth_zone).length) (rf qG ([] : List Worth_zone))), (7, ro 0 139 7 (([] : List Defect).length) (rf qF ([] : List Defect)))]⟩ (o1 (And.intro (show 0 = ([] : List Defect).length from rfl) (show 0 = ([] : List Defect).length from rfl))) ?_
   obtain rfl := Option.some.inj hm
   refine wB 6 0 (by kernel_rfl) ?_
   refine wB 7 1 (by kernel_rfl) ?_
   refine q_rt ?_
   exact q_rm
  ·replace hm := qB b17 hm
   refine q_sk ?_
   refine q_sq ?_
   obtain ⟨v18, h19, hm⟩ := qC hm
   refine q_vu [qc 1 [38] 4 (RA a3 v18 h19)] 4 [35] [(10, vi v18.1), (11, vi v18.2)] [] [] ?_
   refine q_sq ?_
   refine q_vu [] 4 [] [(12, vp 4 0)] [] [(4, bx 152 [ci (w64 (a4.X.B - a4.X.A)), ci (w64 (a4.Y.B - a4.Y.A))])] ?_
   refine q_sq ?_
   refine q_jn (ι := Bool) (fun p => LH a1 a2 a3 a4 p) (fun p => BE a1 a2 a3 a4 p = some r) ?_ ?_
   ·rintro x21 hm
    show H _ (LH a1 a2 a3 a4 x21) _ _
    refine q_cn x21 (fun b22 => ?_) (fun b22 => ?_)
    ·replace hm := qA b22 hm
     refine q_sq ?_
     refine q_vu [] 5 [0, 1, 6, 7, 68] [(9, vb false)] [0, 1] [] ?_
     refine q_fn [.ownB 2 5 5 3 1 (rf qL ([] : List Int))] ⟨[(8, vp 2 0), (9, vb false)], [(2, bx 129 [cs (ByteArray.mk #[]), ci 0, ci 0, ci 0, ci 0, .own 5 0 1 0, .emp, ci 0, ci 0, ci 0, ci 0, ci 0, .emp, .emp]), (5, ro 0 3 1 0 (rf qL ([] : List Int)))]⟩ o0 ?_
     refine q_fn [.ownB 2 6 6 3 1 (rf qL ([] : List Int))] ⟨[(8, vp 2 0), (9, vb false)], [(2, bx 129 [cs (ByteArray.mk #[]), ci 0, ci 0, ci 0, ci 0, .own 5 0 1 0, .own 6 0 1 0, ci 0, ci 0, ci 0, ci 0, ci 0, .emp, .emp]), (5, ro 0 3 1 0 (rf qL ([] : List Int))), (6, ro 0 3 1 0 (rf qL ([] : List Int)))]⟩ o0 ?_
     refine q_fn [.ownB 2 12 7 165 3 (rf qG ([] : List Worth_zone))] ⟨[(8, vp 2 0), (9, vb false)], [(2, bx 129 [cs (ByteArray.mk #[]), ci 0, ci 0, ci 0, ci 0, .own 5 0 1 0, .own 6 0 1 0, ci 0, ci 0, ci 0, ci 0, ci 0, .own 7 0 3 0, .emp]), (5, ro 0 3 1 0 (rf qL ([] : List Int))), (6, ro 0 3 1 0 (rf qL ([] : List Int))), (7, ro 0 165 3 0 (rf qG ([] : List Worth_zone)))]⟩ o0 ?_
     refine q_fn [.ownB 2 13 8 139 7 (rf qF ([] : List Defect))] ⟨[(8, vp 2 0), (9, vb false)], [(2, bx 129 [cs (ByteArray.mk #[]), ci 0, ci 0, ci 0, ci 0, .own 5 0 1 0, .own 6 0 1 0, ci 0, ci 0, ci 0, ci 0, ci 0, .own 7 0 3 0, .own 8 0 7 0]), (5, ro 0 3 1 0 (rf qL ([] : List Int))), (6, ro 0 3 1 0 (rf qL ([] : List Int))), (7, ro 0 165 3 0 (rf qG ([] : List Worth_zone))), (8, ro 0 139 7 0 (rf qF ([] : List Defect)))]⟩ o0 ?_
     refine q_fn [.len 5 (([] : List Int).length), .frz 5] ⟨[(8, vp 2 0), (9, vb false)], [(2, bx 129 [cs (ByteArray.mk #[]), ci 0, ci 0, ci 0, ci 0, tl qL default ([] : List Int), .own 6 0 1 0, ci 0, ci 0, ci 0, ci 0, ci 0, .own 7 0 3 0, .own 8 0 7 0]), (6, ro 0 3 1 0 (rf qL ([] : List Int))), (7, ro 0 165 3 0 (rf qG ([] : List Worth_zone))), (8, ro 0 139 7 0 (rf qF ([] : List Defect)))]⟩ (o1 (And.intro (And.intro (show 0 = ([] : List Int).length from rfl) (show 0 = ([] : List Int).length from rfl)) (Nat.le_refl (([] : List Int).length)))) ?_
     refine q_fn [.len 6 (([] : List Int).length), .frz 6] ⟨[(8, vp 2 0), (9, vb false)], [(2, bx 129 [cs (ByteArray.mk #[]), ci 0, ci 0, ci 0, ci 0, tl qL default ([] : List Int), tl qL default ([] : List Int), ci 0, ci 0, ci 0, ci 0, ci 0, .own 7 0 3 0, .own 8 0 7 0]), (7, ro 0 165 3 0 (rf qG ([] : List Worth_zone))), (8, ro 0 139 7 0 (rf qF ([] : List Defect)))]⟩ (o1 (And.intro (And.intro (show 0 = ([] : List Int).length from rfl) (show 0 = ([] : List Int).length from rfl)) (Nat.le_refl (([] : List Int).length)))) ?_
     refine q_fn [.len 7 (([] : List Worth_zone).length)] ⟨[(8, vp 2 0), (9, vb false)], [(2, bx 129 [cs (ByteArray.mk #[]), ci 0, ci 0, ci 0, ci 0, tl qL default ([] : List Int), tl qL default ([] : List Int), ci 0, ci 0, ci 0, ci 0, ci 0, .own 7 0 3 (([] : List Worth_zone).length), .own 8 0 7 0]), (7, ro 0 165 3 (([] : List Worth_zone).length) (rf qG ([] : List Worth_zone))), (8, ro 0 139 7 0 (rf qF ([] : List Defect)))]⟩ (o1 (And.intro (show 0 = ([] : List Worth_zone).length from rfl) (show 0 = ([] : List Worth_zone).length from rfl))) ?_
     refine q_fn [.len 8 (([] : List Defect).length)] ⟨[(8, vp 2 0), (9, vb false)], [(2, bx 129 [cs (ByteArray.mk #[]), ci 0, ci 0, ci 0, ci 0, tl qL default ([] : List Int), tl qL default ([] : List Int), ci 0, ci 0, ci 0, ci 0, ci 0, .own 7 0 3 (([] : List Worth_zone).length), .own 8 0 7 (([] : List Defect).length)]), (7, ro 0 165 3 (([] : List Worth_zone).length) (rf qG ([] : List Worth_zone))), (8, ro 0 139 7 (([] : List Defect).length) (rf qF ([] : List Defect)))]⟩ (o1 (And.intro (show 0 = ([] : List Defect).length from rfl) (show 0 = ([] : List Defect).length from rfl))) ?_
     obtain rfl := Option.some.inj hm
     refine wB 7 0 (by kernel_rfl) ?_
     refine wB 8 1 (by kernel_rfl) ?_
     refine q_rt ?_
     exact q_rm
    ·replace hm := qB b22 hm
     refine q_sk ?_
     refine q_sq ?_
     obtain ⟨v23, h24, hm⟩ := qC hm
     obtain ⟨v25, h26, hm⟩ := qC hm
     refine q_du [qc 3 [72] 5 (LJ a1 v23 h24), qc 6 [74, 75] 5 (qBX a1 a4 v25 h26)] [0, 0, 0, 4, 0, 0, 60, 127, 0, 511] 5 [0, 6, 7, 68] [(13, vp 6 0)] [0, 1] [(5, ro 0 165 3 v25.length (rf qG v25)), (6, bx 129 [cs a3.Name, ci a3.Thick, ci a3.Width, ci a3.Allow, ci a3.Wane, tl qL default a3.Lengths, tl qL default a3.Prices, ci a4.X.A, ci a4.X.B, ci a4.Y.A, ci a4.Y.B, ci v23, .own 5 0 3 v25.length, .emp])] ?_
     refine q_sq ?_
     obtain ⟨v27, h28, hm⟩ := qC hm
     refine q_vu [qd 4 (dex (cen [] [] 7 0 (FD v27) (WM v27) [78, 81] [5])) (PB (K := (kx E 100 0)) (b := false) ⟨[(78, va [cs a3.Name, ci a3.Thick, ci a3.Width, ci a3.Allow, ci a3.Wane, tl qL default a3.Lengths, tl qL default a3.Prices, ci a4.X.A, ci a4.X.B, ci a4.Y.A, ci a4.Y.B, ci v23, .own 5 0 3 v25.length, .emp]), (81, va [ci 0, ci v23])], [(5, ro 0 165 3 v25.length (rf qG v25))]⟩ (opAt (rg Try.f63 254) 4) [] [] 7 (o1 (Nat.le_refl v25.length)) rfl (CtX.emp (xs' := [.agg [cs a3.Name, ci a3.Thick, ci a3.Width, ci a3.Allow, ci a3.Wane, tl qL default a3.Lengths, tl qL default a3.Prices, ci a4.X.A, ci a4.X.B, ci a4.Y.A, ci a4.Y.B, ci v23, tl qG default v25, .emp], .agg [ci 0, ci v23]]) (BT (Worth_view.mk a3 a4 v23 v25 ([] : List Defect)) (Span.mk 0 v23) v27 h28) (And.intro (And.intro rfl (And.intro rfl (And.intro rfl (And.intro rfl (And.intro rfl (And.intro rfl (And.intro rfl (And.intro rfl (And.intro rfl (And.intro rfl (And.intro rfl (And.intro rfl (And.intro rfl (And.intro rfl trivial)))))))))))))) (And.intro (And.intro rfl (And.intro rfl trivial)) trivial))) (.inr ⟨(by kernel_rfl), OZ v27⟩) (by kernel_rfl))] 7 [] [(14, vp 7 0)] [] [(7, bx 52 (wU v27))] ?_
     refine q_sq ?_
     refine q_sq ?_
     refine q_vu [] 8 [1] [(83, vc (tl qF default a2)), (84, vi ((a2.length : Nat) : Int)), (85, vi 0)] [] [] ?_
     refine q_fn [.ownB 6 13 8 139 7 (rf qF ([] : List Defect))] ⟨[(8, vp 2 0), (13, vp 6 0), (14, vp 7 0), (83, vc (tl qF default a2)), (84, vi ((a2.length : Nat) : Int)), (85, vi 0)], [(2, bx 129 [cs (ByteArray.mk #[]), ci 0, ci 0, ci 0, ci 0, .emp, .emp, ci 0, ci 0, ci 0, ci 0, ci 0, .emp, .emp]), (5, ro 0 165 3 v25.length (rf qG v25)), (6, bx 129 [cs a3.Name, ci a3.Thick, ci a3.Width, ci a3.Allow, ci a3.Wane, tl qL default a3.Lengths, tl qL default a3.Prices, ci a4.X.A, ci a4.X.B, ci a4.Y.A, ci a4.Y.B, ci v23, .own 5 0 3 v25.length, .own 8 0 7 0]), (7, bx 52 (wU v27)), (8, ro 0 139 7 0 (rf qF ([] : List Defect)))]⟩ o0 ?_
     obtain ⟨o39, h40, hm⟩ := qC hm
     refine zY (nd Try.f63 4084) 0 (by kernel_rfl) FUEL (fun o => LN a3 a4 v23 v25 o) o39 (q_hl (UR a2 a3 a4 v23 v25 v27 0 ([] : List Defect) 0) (CU E a2 a3 a4 v23 v25 v27 FUEL 0 ([] : List Defect) 0 o39 rfl h40)) ?_
     refine q_sq ?_
     refine q_vu [] 9 [13] [(9, vb true)] [2, 6] [(2, bx 129 [cs a3.Name, ci a3.Thick, ci a3.Width, ci a3.Allow, ci a3.Wane, tl qL default a3.Lengths, tl qL default a3.Prices, ci a4.X.A, ci a4.X.B, ci a4.Y.A, ci a4.Y.B, ci v23, .own 5 0 3 v25.length, .own 8 0 7 o39.length])] ?_
     obtain rfl := Option.some.inj hm
     refine wB 5 0 (by kernel_rfl) ?_
     refine wB 8 1 (by kernel_rfl) ?_
     refine q_rt ?_
     exact q_rm
   ·rcases Bool.eq_false_or_eq_true (!(((w64 (a4.X.B - a4.X.A)) == v18.1) && (((w64 (a4.Y.B - a4.Y.A)) == v18.2) && true))) with b20 | b20
    ·replace hm := qA b20 hm
     refine q_vu [qf 5 b20] 5 [10, 11, 12] [(68, vb (!(((w64 (a4.X.B - a4.X.A)) == v18.2) && (((w64 (a4.Y.B - a4.Y.A)) == v18.1) && true))))] [4] [] ?_
     exact q_J (!(((w64 (a4.X.B - a4.X.A)) == v18.2) && (((w64 (a4.Y.B - a4.Y.A)) == v18.1) && true))) hm
    ·replace hm := qB b20 hm
     refine q_vu [qf 5 b20] 5 [10, 11, 12] [(68, vb false)] [4] [] ?_
     exact q_J (false) hm
 ·obtain ⟨v5, h6, hm⟩ := qC hm
  rcases Bool.eq_false_or_eq_true (v5 != 0) with b7 | b7
  ·replace hm := qA b7 hm
   refine q_vu [qc 1 [17] 3 (yI a1 v5 h6), qf 3 b7] 3 [] [(35, vb true)] [] [] ?_
   exact q_J (true) hm
  ·replace hm := qB b7 hm
   obtain ⟨v8, h9, hm⟩ := qC hm
   rcases Bool.eq_false_or_eq_true (v8 != 0) with b10 | b10
   ·replace hm := qA b10 hm
    refine q_vu [qc 1 [17] 3 (yI a1 v5 h6), qf 3 b7, qk 5 [20, 21] 3 ⟨[(20, vb false), (21, vc (tl qF default a2))], []⟩ (YL a2 v8 h9), qf 8 b10] 3 [] [(35, vb true)] [] [] ?_
    exact q_J (true) hm
   ·replace hm := qB b10 hm
    obtain ⟨v11, h12, hm⟩ := qC hm
    rcases Bool.eq_false_or_eq_true (v11 != 0) with b13 | b13
    ·replace hm := qA b13 hm
     refine q_vu [qc 1 [17] 3 (yI a1 v5 h6), qf 3 b7, qk 5 [20, 21] 3 ⟨[(20, vb false), (21, vc (tl qF default a2))], []⟩ (YL a2 v8 h9), qf 8 b10, qd 10 (drw 3 0 (rf qE ([a3] : List Product))) (litP qE default 7 (fun _ => rfl) ([a3] : List Product) 1 rfl), qd 11 (dex (cen [] [] 4 0 (QF v11) (wS v11) [25, 27] [3])) (PB (K := (kx E 100 0)) (xs' := [.one (.lst 1 (rf qE ([a3] : List Product)))]) (b := false) ⟨[(25, vb false), (27, vo 3 0 7 1)], [(3, ro 0 71 7 1 (rf qE ([a3] : List Product)))]⟩ (opAt (rg Try.f63 12) 11) [] [] 4 (o1 (Nat.le_refl 1)) (by simp only [tl, rf, show ([a3] : List Product).length = 1 from rfl]) (PV ([a3] : List Product) v11 h12) (.inr ⟨(by kernel_rfl), LP v11⟩) (by kernel_rfl)), qf 14 b13] 3 [] [(35, vb true)] [] [] ?_
     exact q_J (true) hm
    ·replace hm := qB b13 hm
     obtain ⟨v14, h15, hm⟩ := qC hm
     refine q_vu [qc 1 [17] 3 (yI a1 v5 h6), qf 3 b7, qk 5 [20, 21] 3 ⟨[(20, vb false), (21, vc (tl qF default a2))], []⟩ (YL a2 v8 h9), qf 8 b10, qd 10 (drw 3 0 (rf qE ([a3] : List Product))) (litP qE default 7 (fun _ => rfl) ([a3] : List Product) 1 rfl), qd 11 (dex (cen [] [] 4 0 (QF v11) (wS v11) [25, 27] [3])) (PB (K := (kx E 100 0)) (xs' := [.one (.lst 1 (rf qE ([a3] : List Product)))]) (b := false) ⟨[(25, vb false), (27, vo 3 0 7 1)], [(3, ro 0 71 7 1 (rf qE ([a3] : List Product)))]⟩ (opAt (rg Try.f63 12) 11) [] [] 4 (o1 (Nat.le_refl 1)) (by simp only [tl, rf, show ([a3] : List Product).length = 1 from rfl]) (PV ([a3] : List Product) v11 h12) (.inr ⟨(by kernel_rfl), LP v11⟩) (by kernel_rfl)), qf 14 b13, qk 16 [31, 32] 4 ⟨[(31, vb false), (32, va (qK a4))], []⟩ (qBf a4 v14 h15)] 3 [] [(35, vb (!v14))] [] [] ?_
     exact q_J (!v14) hm
def qCU (r : Span × Int × Bool) : V := .tup [.agg (e_Span r.1), .one (ci r.2.1), .one (cb r.2.2)]
def qC7 (r : Span × Int × Bool) : List (Nat × (Nat × O)) := []
def MB (a3 : Product) (a5 : Int) (a6 : Int) (v14 : Worth_view × Bool) (x19 : Int) (x24 : Int) (x34 : Int) (x35 : Bool) (x36 : Span) : St :=
 ⟨[(4, vi a5), (5, vi a6), (8, vp 0 0), (12, vp 2 0), (15, vp 5 0), (17, vp 6 0), (18, vi x34), (19, vb x35), (20, vi x19), (54, vc (tl qL default a3.Lengths)), (55, vi ((a3.Lengths.length : Nat) : Int)), (56, vi x24)], [(0, bx 71 (qE a3)), (2, bx 26 [ci 0, ci 0]), (3, ro 0 165 3 v14.1.zones.length (rf qG v14.1.zones)), (4, ro 0 139 7 v14.1.defects.length (rf qF v14.1.defects)), (5, bx 129 [cs v14.1.product.Name, ci v14.1.product.Thick, ci v14.1.product.Width, ci v14.1.product.Allow, ci v14.1.product.Wane, tl qL default v14.1.product.Lengths, tl qL default v14.1.product.Prices, ci v14.1.rect.X.A, ci v14.1.rect.X.B, ci v14.1.rect.Y.A, ci v14.1.rect.Y.B, ci v14.1.length, .own 3 0 3 v14.1.zones.length, .own 4 0 7 v14.1.defects.length]), (6, bx 26 (e_Span x36))]⟩
def LW (a3 : Product) (a5 : Int) (a6 : Int) (v14 : Worth_view × Bool) (x19 : Int) (x22 : Int) (x23 : Bool) (x24 : Int) (x25 : Span) (v28 : Int × Bool) (x32 : Bool) : St :=
 ⟨[(4, vi a5), (5, vi a6), (8, vp 0 0), (12, vp 2 0), (15, vp 5 0), (17, vp 6 0), (18, vi x22), (19, vb x23), (20, vi x19), (23, vp 7 0), (24, vi v28.1), (54, vc (tl qL default a3.Lengths)), (55, vi ((a3.Lengths.length : Nat) : Int)), (56, vi x24), (81, vb x32)], [(0, bx 71 (qE a3)), (2, bx 26 [ci 0, ci 0]), (3, ro 0 165 3 v14.1.zones.length (rf qG v14.1.zones)), (4, ro 0 139 7 v14.1.defects.length (rf qF v14.1.defects)), (5, bx 129 [cs v14.1.product.Name, ci v14.1.product.Thick, ci v14.1.product.Width, ci v14.1.product.Allow, ci v14.1.product.Wane, tl qL default v14.1.product.Lengths, tl qL default v14.1.product.Prices, ci v14.1.rect.X.A, ci v14.1.rect.X.B, ci v14.1.rect.Y.A, ci v14.1.rect.Y.B, ci v14.1.length, .own 3 0 3 v14.1.zones.length, .own 4 0 7 v14.1.defects.length]), (6, bx 26 (e_Span x25)), (7, bx 26 [ci x19, ci (w64 (x19 + (a3.Lengths.getD x24.toNat default)))])]⟩
def UL (a3 : Product) (a5 : Int) (a6 : Int) (v14 : Worth_view × Bool) (x19 : Int) (x22 : Int) (x23 : Bool) (x24 : Int) (x25 : Span) : St :=
 ⟨[(4, vi a5), (5, vi a6), (8, vp 0 0), (12, vp 2 0), (15, vp 5 0), (17, vp 6 0), (18, vi x22), (19, vb x23), (20, vi x19), (54, vc (tl qL default a3.Lengths)), (55, vi ((a3.Lengths.length : Nat) : Int)), (56, vi x24)], [(0, bx 71 (qE a3)), (2, bx 26 [ci 0, ci 0]), (3, ro 0 165 3 v14.1.zones.length (rf qG v14.1.zones)), (4, ro 0 139 7 v14.1.defects.length (rf qF v14.1.defects)), (5, bx 129 [cs v14.1.product.Name, ci v14.1.product.Thick, ci v14.1.product.Width, ci v14.1.product.Allow, ci v14.1.product.Wane, tl qL default v14.1.product.Lengths, tl qL default v14.1.product.Prices, ci v14.1.rect.X.A, ci v14.1.rect.X.B, ci v14.1.rect.Y.A, ci v14.1.rect.Y.B, ci v14.1.length, .own 3 0 3 v14.1.zones.length, .own 4 0 7 v14.1.defects.length]), (6, bx 26 (e_Span x25))]⟩
def LL (a3 : Product) (a5 : Int) (a6 : Int) (v14 : Worth_view × Bool) (x19 : Int) (x37 : Int) (x38 : Bool) (x39 : Span) : St :=
 ⟨[(4, vi a5), (5, vi a6), (8, vp 0 0), (12, vp 2 0), (15, vp 5 0), (17, vp 6 0), (18, vi x37), (19, vb x38), (20, vi x19)], [(0, bx 71 (qE a3)), (2, bx 26 [ci 0, ci 0]), (3, ro 0 165 3 v14.1.zones.length (rf qG v14.1.zones)), (4, ro 0 139 7 v14.1.defects.length (rf qF v14.1.defects)), (5, bx 129 [cs v14.1.product.Name, ci v14.1.product.Thick, ci v14.1.product.Width, ci v14.1.product.Allow, ci v14.1.product.Wane, tl qL default v14.1.product.Lengths, tl qL default v14.1.product.Prices, ci v14.1.rect.X.A, ci v14.1.rect.X.B, ci v14.1.rect.Y.A, ci v14.1.rect.Y.B, ci v14.1.length, .own 3 0 3 v14.1.zones.length, .own 4 0 7 v14.1.defects.length]), (6, bx 26 (e_Span x39))]⟩
def RZ (a3 : Product) (a5 : Int) (a6 : Int) (v14 : Worth_view × Bool) (x17 : Int) (x18 : Bool) (x19 : Int) (x20 : Span) : St :=
 ⟨[(4, vi a5), (5, vi a6), (8, vp 0 0), (12, vp 2 0), (15, vp 5 0), (17, vp 6 0), (18, vi x17), (19, vb x18), (20, vi x19)], [(0, bx 71 (qE a3)), (2, bx 26 [ci 0, ci 0]), (3, ro 0 165 3 v14.1.zones.length (rf qG v14.1.zones)), (4, ro 0 139 7 v14.1.defects.length (rf qF v14.1.defects)), (5, bx 129 [cs v14.1.product.Name, ci v14.1.product.Thick, ci v14.1.product.Width, ci v14.1.product.Allow, ci v14.1.product.Wane, tl qL default v14.1.product.Lengths, tl qL default v14.1.product.Prices, ci v14.1.rect.X.A, ci v14.1.rect.X.B, ci v14.1.rect.Y.A, ci v14.1.rect.Y.B, ci v14.1.length, .own 3 0 3 v14.1.zones.length, .own 4 0 7 v14.1.defects.length]), (6, bx 26 (e_Span x20))]⟩
def LG (x42 : Int) (x43 : Bool) (x44 : Span) : St :=
 ⟨[(12, vp 2 0), (17, vp 6 0), (18, vi x42), (19, vb x43)], [(2, bx 26 [ci 0, ci 0]), (6, bx 26 (e_Span x44))]⟩
def LU (a1 : List qJ) (a2 : List Defect) (a3 : Product) (a4 : Rect) (a5 : Int) (a6 : Int) (x12 : Bool) : St :=
 ⟨[(0, vc (tl qI default a1)), (1, vc (tl qF default a2)), (4, vi a5), (5, vi a6), (8, vp 0 0), (9, vp 1 0), (12, vp 2 0), (33, vb x12)], [(0, bx 71 (qE a3)), (1, bx 28 (qK a4)), (2, bx 26 [ci 0, ci 0])]⟩
theorem CV (E : Env 0) (a3 : Product) (a5 : Int) (a6 : Int) (v14 : Worth_view × Bool) (x19 : Int) : ∀ (n : Nat) (x22 : Int) (x23 : Bool) (x24 : Int) (x25 : Span) (res : Int × Bool × Span), jU a3 a6 v14 x19 n x22 x23 x24 x25 = some res → HL (kx E 88 0) (nd Try.f42 130340) (wK 2 (fun o => LL a3 a5 a6 v14 x19 o.1 o.2.1 o.2.2) res) n (UL a3 a5 a6 v14 x19 x22 x23 x24 x25) := by
 intro n
 induction n with
 | zero =>
  intro x22 x23 x24 x25 res hm
  cases hm
 | succ n ih =>
  intro x22 x23 x24 x25 res hm
  refine qV ?_
  refine q_sq ?_
  refine q_vu [] 7 [] [(57, vb (decide (x24 < ((a3.Lengths.length : Nat) : Int))))] [] [] ?_
  refine q_sq ?_
  refine q_cn (decide (x24 < ((a3.Lengths.length : Nat) : Int))) (fun b26 => ?_) (fun b26 => ?_)
  ·replace hm := qA b26 hm
   refine q_sk ?_
   refine q_jn (ι := Int × Bool × Span) (fun p => MB a3 a5 a6 v14 x19 x24 p.1 p.2.1 p.2.2) (fun p => BD x24 (jU a3 a6 v14 x19 n) p.1 p.2.1 p.2.2 = some res) ?_ ?_
   ·rintro ⟨x34, x35, x36⟩ hm
    show H _ (MB a3 a5 a6 v14 x19 x24 x34 x35 x36) _ _
    refine q_vu [] 8 [56] [(56, vi (w64 (x24 + 1)))] [] [] ?_
    exact q_hl (UL a3 a5 a6 v14 x19 x34 x35 (w64 (x24 + 1)) x36) (ih x34 x35 (w64 (x24 + 1)) x36 _ hm)
   ·refine q_bk 3 ?_
    refine q_sq ?_
    obtain ⟨g27, hm⟩ := qO hm
    refine q_vu [qd 0 (Dir.none) (inb_of g27)] 7 [57] [(22, vi (a3.Lengths.getD x24.toNat default))] [] [] ?_
    refine q_sq ?_
    refine q_vu [] 7 [22] [(23, vp 7 0)] [] [(7, bx 26 [ci x19, ci (w64 (x19 + (a3.Lengths.getD x24.toNat default)))])] ?_
    refine q_sq ?_
    obtain ⟨v28, h29, hm⟩ := qC hm
    refine q_vu [qd 3 (dex (cen [] [] 8 0 (QK v28) (wQ v28) [66, 67, 68] [3, 4])) (PB (K := (kx E 88 0)) (b := false) ⟨[(66, va [cs v14.1.product.Name, ci v14.1.product.Thick, ci v14.1.product.Width, ci v14.1.product.Allow, ci v14.1.product.Wane, tl qL default v14.1.product.Lengths, tl qL default v14.1.product.Prices, ci v14.1.rect.X.A, ci v14.1.rect.X.B, ci v14.1.rect.Y.A, ci v14.1.rect.Y.B, ci v14.1.length, .own 3 0 3 v14.1.zones.length, .own 4 0 7 v14.1.defects.length]), (67, va [ci x19, ci (w64 (x19 + (a3.Lengths.getD x24.toNat default)))]), (68, vi a6)], [(3, ro 0 165 3 v14.1.zones.length (rf qG v14.1.zones)), (4, ro 0 139 7 v14.1.defects.length (rf qF v14.1.defects))]⟩ (opAt (rg Try.f42 16683622) 3) [] [] 8 (o1 (And.intro (Nat.le_refl v14.1.zones.length) (Nat.le_refl v14.1.defects.length))) rfl (worth_view_worth_ok (Worth_view.mk v14.1.product v14.1.rect v14.1.length v14.1.zones v14.1.defects) (Span.mk x19 (w64 (x19 + (a3.Lengths.getD x24.toNat default)))) a6 v28 h29) (.inr ⟨(by kernel_rfl), AB v28⟩) (by kernel_rfl))] 8 [] [(24, vi v28.1), (25, vb v28.2)] [] [] ?_
    refine q_jn (ι := Bool) (fun p => LW a3 a5 a6 v14 x19 x22 x23 x24 x25 v28 p) (fun p => PG a3 x19 x22 x23 x24 x25 (jU a3 a6 v14 x19 n) v28 p = some res) ?_ ?_
    ·rintro x32 hm
     show H _ (LW a3 a5 a6 v14 x19 x22 x23 x24 x25 v28 x32) _ _
     refine q_cn x32 (fun b33 => ?_) (fun b33 => ?_)
     ·replace hm := qA b33 hm
      refine q_vu [] 8 [18, 19, 23, 24, 81] [(18, vi v28.1), (19, vb true)] [6, 7] [(6, bx 26 [ci x19, ci (w64 (x19 + (a3.Lengths.getD x24.toNat default)))])] ?_
      exact q_J (v28.1, true, (Span.mk x19 (w64 (x19 + (a3.Lengths.getD x24.toNat default))))) hm
     ·replace hm := qB b33 hm
      refine q_sk ?_
      exact q_J (x22, x23, x25) hm
    ·rcases Bool.eq_false_or_eq_true v28.2 with b30 | b30
     ·replace hm := qA b30 hm
      rcases Bool.eq_false_or_eq_true (!x23) with b31 | b31
      ·replace hm := qA b31 hm
       refine q_vu [qf 1 b30, qf 4 b31] 8 [25] [(81, vb true)] [] [] ?_
       exact q_J (true) hm
      ·replace hm := qB b31 hm
       refine q_vu [qf 1 b30, qf 4 b31] 8 [25] [(81, vb (decide (v28.1 > x22)))] [] [] ?_
       exact q_J (decide (v28.1 > x22)) hm
     ·replace hm := qB b30 hm
      refine q_vu [qf 1 b30] 8 [25] [(81, vb false)] [] [] ?_
      exact q_J (false) hm
  ·replace hm := qB b26 hm
   refine q_ex 2 ?_
   obtain rfl := Option.some.inj hm
   exact jR (by kernel_rfl) (by kernel_rfl)
theorem qAd (E : Env 0) (a3 : Product) (a5 : Int) (a6 : Int) (v14 : Worth_view × Bool) : ∀ (n : Nat) (x17 : Int) (x18 : Bool) (x19 : Int) (x20 : Span) (res : Int × Bool × Span), DX a3 a5 a6 v14 n x17 x18 x19 x20 = some res → HL (kx E 88 0) (nd Try.f42 2036) (wK 0 (fun o => LG o.1 o.2.1 o.2.2) res) n (RZ a3 a5 a6 v14 x17 x18 x19 x20) := by
 intro n
 induction n with
 | zero =>
  intro x17 x18 x19 x20 res hm
  cases hm
 | succ n ih =>
  intro x17 x18 x19 x20 res hm
  refine qV ?_
  refine q_sq ?_
  refine q_sq ?_
  refine q_vu [] 7 [] [(49, vb (decide (x19 < v14.1.length)))] [] [] ?_
  refine q_cn (decide (x19 < v14.1.length)) (fun b21 => ?_) (fun b21 => ?_)
  ·replace hm := qA b21 hm
   refine q_sk ?_
   refine q_sq ?_
   refine q_bk 1 ?_
   refine q_sq ?_
   refine q_vu [] 7 [49] [(54, vc (tl qL default a3.Lengths)), (55, vi ((a3.Lengths.length : Nat) : Int)), (56, vi 0)] [] [] ?_
   obtain ⟨o40, h41, hm⟩ := qC hm
   refine zY (nd Try.f42 130340) 2 (by kernel_rfl) FUEL (fun o => LL a3 a5 a6 v14 x19 o.1 o.2.1 o.2.2) o40 (q_hl (UL a3 a5 a6 v14 x19 x17 x18 0 x20) (CV E a3 a5 a6 v14 x19 FUEL x17 x18 0 x20 o40 h41)) ?_
   refine q_vu [] 7 [20] [(20, vi (w64 (x19 + a5)))] [] [] ?_
   exact q_hl (RZ a3 a5 a6 v14 o40.1 o40.2.1 (w64 (x19 + a5)) o40.2.2) (ih o40.1 o40.2.1 (w64 (x19 + a5)) o40.2.2 _ hm)
  ·replace hm := qB b21 hm
   refine q_ex 0 ?_
   obtain rfl := Option.some.inj hm
   exact jR (by kernel_rfl) (by kernel_rfl)
theorem qCs (a1 : List qJ) (a2 : List Defect) (a3 : Product) (a4 : Rect) (a5 : Int) (a6 : Int) (r : Span × Int × Bool) (hm : SY a1 a2 a3 a4 a5 a6 = some r) : CtX Try.prog globs 42 0 0 [.one (tl qI default a1), .one (tl qF default a2), .agg (qE a3), .agg (qK a4), .one (ci a5), .one (ci a6)] [] (qCU r) (qC7 r) := by
 unfold SY at hm
 refine q_E Try.f42 88 fun E => ?_
 refine q_sq ?_
 refine q_vn [] 0 ⟨[(0, vc (tl qI default a1)), (1, vc (tl qF default a2)), (4, vi a5), (5, vi a6), (8, vp 0 0), (9, vp 1 0), (12, vp 2 0)], [(0, bx 71 (qE a3)), (1, bx 28 (qK a4)), (2, bx 26 [ci 0, ci 0])]⟩ ?_
 refine q_sq ?_
 refine q_jn (ι := Bool) (fun p => LU a1 a2 a3 a4 a5 a6 p) (fun p => BF a1 a2 a3 a4 a5 a6 p = some r) ?_ ?_
 ·rintro x12 hm
  show H _ (LU a1 a2 a3 a4 a5 a6 x12) _ _
  refine q_cn x12 (fun b13 => ?_) (fun b13 => ?_)
  ·replace hm := qA b13 hm
   refine q_sq ?_
   refine q_vu [] 3 [0, 1, 4, 5, 8, 9, 33] [(13, vi 0), (14, vb false)] [0, 1] [] ?_
   obtain rfl := Option.some.inj hm
   refine q_rt ?_
   exact q_rm
  ·replace hm := qB b13 hm
   refine q_sk ?_
   refine q_sq ?_
   obtain ⟨v14, h15, hm⟩ := qC hm
   refine q_vu [qc 4 [36, 37, 38, 39] 3 (qCo a1 a2 a3 a4 v14 h15)] 3 [0, 1, 9, 33] [(15, vp 5 0), (16, vb v14.2)] [1] [(3, ro 0 165 3 v14.1.zones.length (rf qG v14.1.zones)), (4, ro 0 139 7 v14.1.defects.length (rf qF v14.1.defects)), (5, bx 129 [cs v14.1.product.Name, ci v14.1.product.Thick, ci v14.1.product.Width, ci v14.1.product.Allow, ci v14.1.product.Wane, tl qL default v14.1.product.Lengths, tl qL default v14.1.product.Prices, ci v14.1.rect.X.A, ci v14.1.rect.X.B, ci v14.1.rect.Y.A, ci v14.1.rect.Y.B, ci v14.1.length, .own 3 0 3 v14.1.zones.length, .own 4 0 7 v14.1.defects.length])] ?_
   refine q_sq ?_
   refine q_sq ?_
   refine q_vu [] 6 [16] [(44, vb (!v14.2))] [] [] ?_
   refine q_cn (!v14.2) (fun b16 => ?_) (fun b16 => ?_)
   ·replace hm := qA b16 hm
    refine q_sq ?_
    refine q_vu [] 6 [4, 5, 8, 15, 44] [(13, vi 0), (14, vb false)] [0, 3, 4, 5] [] ?_
    obtain rfl := Option.some.inj hm
    refine q_rt ?_
    exact q_rm
   ·replace hm := qB b16 hm
    refine q_sk ?_
    refine q_sq ?_
    refine q_vu [] 6 [44] [(17, vp 6 0)] [] [(6, bx 26 [ci 0, ci 0])] ?_
    refine q_sq ?_
    refine q_vu [] 7 [] [(18, vi 0), (19, vb false)] [] [] ?_
    refine q_sq ?_
    refine q_sq ?_
    refine q_vu [] 7 [] [(20, vi 0)] [] [] ?_
    obtain ⟨o45, h46, hm⟩ := qC hm
    refine zY (nd Try.f42 2036) 0 (by kernel_rfl) FUEL (fun o => LG o.1 o.2.1 o.2.2) o45 (q_hl (RZ a3 a5 a6 v14 0 false 0 (Span.mk 0 0)) (qAd E a3 a5 a6 v14 FUEL 0 false 0 (Span.mk 0 0) o45 h46)) ?_
    refine q_sq ?_
    refine q_vn [] 7 ⟨[(12, vp 2 0), (13, vi o45.1), (14, vb o45.2.1)], [(2, bx 26 (e_Span o45.2.2))]⟩ ?_
    obtain rfl := Option.some.inj hm
    refine q_rt ?_
    exact q_rm
 ·obtain ⟨v7, h8, hm⟩ := qC hm
  rcases Bool.eq_false_or_eq_true (!v7) with b9 | b9
  ·replace hm := qA b9 hm
   refine q_vu [qc 1 [26] 3 (TY a5 v7 h8), qf 3 b9] 3 [] [(33, vb true)] [] [] ?_
   exact q_J (true) hm
  ·replace hm := qB b9 hm
   obtain ⟨v10, h11, hm⟩ := qC hm
   refine q_vu [qc 1 [26] 3 (TY a5 v7 h8), qf 3 b9, qk 5 [29, 30] 3 ⟨[(29, vb false), (30, vi a6)], []⟩ (LI a6 v10 h11)] 3 [] [(33, vb (!v10))] [] [] ?_
   exact q_J (!v10) hm
set_option maxRecDepth 100000
noncomputable def UG (a1 : Int) (a2 : Leaf) (a3 : List qJ) (a4 : List Defect) (a5 : List Product) (a6 : Saw) (a7 : Int) (a8 : List Yield_Cut) (ri : RI 79) (r : Nat × (List Yield_Cut)) : V := vb (Nat.beq r.1 0)
noncomputable def yield_Boards_rd506_o (a1 : Int) (a2 : Leaf) (a3 : List qJ) (a4 : List Defect) (a5 : List Product) (a6 : Saw) (a7 : Int) (a8 : List Yield_Cut) (ri : RI 79) (r : Nat × (List Yield_Cut)) : List (Nat × (Nat × O)) := [(0, lz (rc Try.f25 506 ri) ri.b [] r.1), (1, bx 22 [tl qI default a3]), (2, bx 23 [tl qF default a4]), (3, bx 24 [tl qE default a5]), (4, bx 33 (zX a6)), (5, bx 3 [ci a7]), (6, bx 45 [.own 7 0 9 r.2.length]), (7, ro 0 54 9 r.2.length (rf qN r.2))]
theorem HS (a1 : Int) (a2 : Leaf) (a3 : List qJ) (a4 : List Defect) (a5 : List Product) (a6 : Saw) (a7 : Int) (a8 : List Yield_Cut) (ri : RI 79) (r : Nat × (List Yield_Cut)) (hm : XN a1 a2 a3 a4 a5 a6 a7 a8 = some r) : CtR Try.prog globs (rc Try.f25 506 ri) ri.b [6, 7, 8, 10, 11, 17] 8 7 [.one (ci a1), .agg (qS a2), .one (.bptr 1 0 0), .one (.bptr 2 0 0), .one (.bptr 3 0 0), .one (.bptr 4 0 0), .one (.bptr 5 0 0), .one (.bptr 6 0 0)] [(0, lq (rc Try.f25 506 ri) ri.b), (1, bx 22 [tl qI default a3]), (2, bx 23 [tl qF default a4]), (3, bx 24 [tl qE default a5]), (4, bx 33 (zX a6)), (5, bx 3 [ci a7]), (6, bx 45 [.own 7 0 9 a8.length]), (7, ro 0 54 9 a8.length (rf qN a8))] (UG a1 a2 a3 a4 a5 a6 a7 a8 ri r) (yield_Boards_rd506_o a1 a2 a3 a4 a5 a6 a7 a8 ri r) := by
 unfold XN at hm
 refine q_R Try.f25 506 79 ri fun E => ?_
 refine q_sq ?_
 refine q_vn [] 8 ⟨[(6, vp 1 0), (7, vp 2 0), (8, vp 3 0), (10, vp 4 0), (11, vp 5 0), (17, vp 6 0), (18, vi a1), (47, va (qS a2))], [(0, lq (rc Try.f25 506 ri) ri.b), (1, bx 22 [tl qI default a3]), (2, bx 23 [tl qF default a4]), (3, bx 24 [tl qE default a5]), (4, bx 33 (zX a6)), (5, bx 3 [ci a7]), (6, bx 45 [.own 7 0 9 a8.length]), (7, ro 0 54 9 a8.length (rf qN a8))]⟩ ?_
 refine q_vu [] 8 [47] [(19, vp 8 0)] [] [(8, bx 100 (qS a2))] ?_
 refine q_rd ⟨[(6, vp 1 0), (7, vp 2 0), (8, vp 3 0), (10, vp 4 0), (11, vp 5 0), (17, vp 6 0), (18, vi a1), (19, vp 8 0)], [(0, ly (rc Try.f25 506 ri) ri.b), (1, bx 22 [tl qI default a3]), (2, bx 23 [tl qF default a4]), (3, bx 24 [tl qE default a5]), (4, bx 33 (zX a6)), (5, bx 3 [ci a7]), (6, bx 45 [.own 7 0 9 a8.length]), (7, ro 0 54 9 a8.length (rf qN a8)), (8, bx 100 (qS a2))]⟩ ?_
 refine q_bk 1 ?_
 refine q_sq ?_
 obtain ⟨g9, hm⟩ := qO hm
 obtain ⟨v10, h11, hm⟩ := qC hm
 refine q_du [qd 5 (Dir.none) (inb_of g9), qc 12 [49, 50, 55, 57, 59, 60] 9 (qCs a3 a4 (a5.getD a2.Product.toNat default) a2.Rect a6.Step a7 v10 h11)] [0, 0, 0, 0, 8, 28, 60, 0, 128, 0, 512, 0, 4095, 8191, 16383, 16383, 16383, 0, 163839, 458751, 1048575] 9 [6, 7, 8, 10, 11] [(20, vp 9 0), (21, vi v10.2.1), (22, vb v10.2.2)] [] [(9, bx 26 (e_Span v10.1))] ?_
 refine q_sq ?_
 refine q_vu [] 10 [22] [(65, vb v10.2.2)] [] [] ?_
 refine q_cn v10.2.2 (fun b12 => ?_) (fun b12 => ?_)
 ·replace hm := qA b12 hm
  obtain ⟨v13, h14, hm⟩ := qC hm
  obtain ⟨g15, hm⟩ := qO hm
  refine q_xu [] o0 [qc 7 [71, 72] 10 (TQ a2.Rect v10.1 v13 h14), qd 10 (drw 10 0 (rf qN ([(Yield_Cut.mk a1 a2.Product v13 v10.2.1)] : List Yield_Cut))) (litP qN default 9 (fun _ => rfl) ([(Yield_Cut.mk a1 a2.Product v13 v10.2.1)] : List Yield_Cut) 1 rfl), qd 11 (drw 7 1 (rf qN (a8 ++ ([(Yield_Cut.mk a1 a2.Product v13 v10.2.1)] : List Yield_Cut)))) (apP qN default a8 ([(Yield_Cut.mk a1 a2.Product v13 v10.2.1)] : List Yield_Cut) a8.length 1 9 72 (1 ≤ 1) (Nat.le_refl _) rfl rfl (fun _ => rfl) (ZX g15))] [.len 7 ((a8 ++ ([(Yield_Cut.mk a1 a2.Product v13 v10.2.1)] : List Yield_Cut)).length)] (o1 (And.intro (Eq.symm (show (a8 ++ ([(Yield_Cut.mk a1 a2.Product v13 v10.2.1)] : List Yield_Cut)).length = (a8.length + 1) from (len_app rfl rfl))) (And.intro (Eq.symm (show (a8 ++ ([(Yield_Cut.mk a1 a2.Product v13 v10.2.1)] : List Yield_Cut)).length = (a8.length + 1) from (len_app rfl rfl))) (Eq.symm (show (a8 ++ ([(Yield_Cut.mk a1 a2.Product v13 v10.2.1)] : List Yield_Cut)).length = (a8.length + 1) from (len_app rfl rfl)))))) [0, 0, 0, 4, 0, 16, 0, 112, 0, 510, 1022, 2047, 4095] 10 [17, 18, 19, 20, 21, 65] [] [6, 7, 8, 9] [(6, bx 45 [.own 7 1 9 ((a8 ++ ([(Yield_Cut.mk a1 a2.Product v13 v10.2.1)] : List Yield_Cut)).length)]), (7, ro 1 54 9 ((a8 ++ ([(Yield_Cut.mk a1 a2.Product v13 v10.2.1)] : List Yield_Cut)).length) (rf qN (a8 ++ ([(Yield_Cut.mk a1 a2.Product v13 v10.2.1)] : List Yield_Cut))))] ?_
  obtain rfl := Option.some.inj hm
  exact q_rq
 ·replace hm := qB b12 hm
  refine q_sk ?_
  obtain rfl := Option.some.inj hm
  exact q_rq
open Go.Proofs
set_option maxHeartbeats 4000000
set_option maxRecDepth 100000
noncomputable def ZM (a1 : List qJ) (a2 : List Defect) (a3 : List Product) (a4 : Saw) (a5 : Int) (a6 : List Leaf) (a7 : List Yield_Cut) (ri : RI 79) (r : Nat × (List Yield_Cut)) : V := .undef
noncomputable def ZI (a1 : List qJ) (a2 : List Defect) (a3 : List Product) (a4 : Saw) (a5 : Int) (a6 : List Leaf) (a7 : List Yield_Cut) (ri : RI 79) (r : Nat × (List Yield_Cut)) : List (Nat × (Nat × O)) := [(0, lz (rc Try.f25 506 ri) ri.b [] r.1), (1, bx 22 [tl qI default a1]), (2, bx 23 [tl qF default a2]), (3, bx 24 [tl qE default a3]), (4, bx 33 (zX a4)), (5, bx 3 [ci a5]), (6, bx 45 [.own 8 0 9 r.2.length]), (7, bx 93 [tl qS default a6]), (8, ro 0 54 9 r.2.length (rf qN r.2))]
noncomputable def YU (ri : RI 79) (a1 : List qJ) (a2 : List Defect) (a3 : List Product) (a4 : Saw) (a5 : Int) (a6 : List Leaf) (x8 : Int) (l16 : List Yield_Cut) (l16n : Nat) : St :=
 ⟨[(0, vc (.yl (rc Try.f25 506 ri) ri.b [6, 7, 8, 10, 11, 17] [.bptr 1 0 0, .bptr 2 0 0, .bptr 3 0 0, .bptr 4 0 0, .bptr 5 0 0, .bptr 6 0 0])), (5, vc (tl qS default a6)), (6, vi ((a6.length : Nat) : Int)), (7, vi x8)], [(0, lq (rc Try.f25 506 ri) ri.b), (1, bx 22 [tl qI default a1]), (2, bx 23 [tl qF default a2]), (3, bx 24 [tl qE default a3]), (4, bx 33 (zX a4)), (5, bx 3 [ci a5]), (6, bx 45 [.own 8 0 9 l16n]), (7, bx 93 [tl qS default a6]), (8, ro 0 54 9 l16n (rf qN l16))]⟩
noncomputable def yO (ri : RI 79) (a1 : List qJ) (a2 : List Defect) (a3 : List Product) (a4 : Saw) (a5 : Int) (a6 : List Leaf) (x8 : Int) (l9 : List Yield_Cut) (l9n : Nat) : St :=
 ⟨[(0, vc (.yl (rc Try.f25 506 ri) ri.b [6, 7, 8, 10, 11, 17] [.bptr 1 0 0, .bptr 2 0 0, .bptr 3 0 0, .bptr 4 0 0, .bptr 5 0 0, .bptr 6 0 0])), (5, vc (tl qS default a6)), (6, vi ((a6.length : Nat) : Int)), (7, vi x8)], [(0, lq (rc Try.f25 506 ri) ri.b), (1, bx 22 [tl qI default a1]), (2, bx 23 [tl qF default a2]), (3, bx 24 [tl qE default a3]), (4, bx 33 (zX a4)), (5, bx 3 [ci a5]), (6, bx 45 [.own 8 0 9 l9n]), (7, bx 93 [tl qS default a6]), (8, ro 0 54 9 l9n (rf qN l9))]⟩
noncomputable def YQ (ri : RI 79) (a1 : List qJ) (a2 : List Defect) (a3 : List Product) (a4 : Saw) (a5 : Int) (a6 : List Leaf) (l17 : List Yield_Cut) : St :=
 ⟨[], [(0, lq (rc Try.f25 506 ri) ri.b), (1, bx 22 [tl qI default a1]), (2, bx 23 [tl qF default a2]), (3, bx 24 [tl qE default a3]), (4, bx 33 (zX a4)), (5, bx 3 [ci a5]), (6, bx 45 [.own 8 0 9 l17.length]), (7, bx 93 [tl qS default a6]), (8, ro 0 54 9 l17.length (rf qN l17))]⟩
theorem NI (E : Env 9) (ri : RI 79) (a1 : List qJ) (a2 : List Defect) (a3 : List Product) (a4 : Saw) (a5 : Int) (a6 : List Leaf) (a7 : List Yield_Cut) : ∀ (n : Nat) (x8 : Int) (l9 : List Yield_Cut) (l9n : Nat) (res : (Nat × (List Yield_Cut)) ⊕ (List Yield_Cut)), l9.length = l9n → wD a1 a2 a3 a4 a5 a6 n x8 l9 = some res → HL (kx E 23 8) (nd Try.f60 12) (jD 0 (fun o => YQ ri a1 a2 a3 a4 a5 a6 o) (fun v st => RetQ Try.prog Try.f60 (ZM a1 a2 a3 a4 a5 a6 a7 ri v) (ZI a1 a2 a3 a4 a5 a6 a7 ri v) .ret st) res) n (yO ri a1 a2 a3 a4 a5 a6 x8 l9 l9n) := by
 intro n
 induction n with
 | zero =>
  intro x8 l9 l9n res hl0 hm
  cases hm
 | succ n ih =>
  intro x8 l9 l9n res hl0 hm
  subst hl0
  refine qV ?_
  refine q_sq ?_
  refine q_vu [] 9 [] [(8, vb (decide (x8 < ((a6.length : Nat) : Int))))] [] [] ?_
  refine q_sq ?_
  refine q_cn (decide (x8 < ((a6.length : Nat) : Int))) (fun b10 => ?_) (fun b10 => ?_)
  ·replace hm := qA b10 hm
   refine q_sk ?_
   refine q_jn (ι := (List Yield_Cut) × Nat) (fun p => YU ri a1 a2 a3 a4 a5 a6 x8 p.1 p.2) (fun p => p.1.length = p.2 ∧ QN x8 (wD a1 a2 a3 a4 a5 a6 n) p.1 = some res) ?_ ?_
   ·rintro ⟨l16, l16n⟩ ⟨el16, hm⟩
    replace el16 : l16.length = l16n := el16
    subst el16
    show H _ (YU ri a1 a2 a3 a4 a5 a6 x8 l16 l16.length) _ _
    refine q_vu [] 10 [7] [(7, vi (w64 (x8 + 1)))] [] [] ?_
    exact q_hl (yO ri a1 a2 a3 a4 a5 a6 (w64 (x8 + 1)) l16 l16.length) (ih (w64 (x8 + 1)) l16 l16.length _ rfl hm)
   ·refine q_bk 1 ?_
    refine q_sq ?_
    obtain ⟨g11, hm⟩ := qO hm
    refine q_vu [qd 1 (Dir.none) (inb_of g11)] 9 [8] [(3, vi x8), (4, vp 9 0)] [] [(9, bx 100 [ci ((((a6.getD x8.toNat default).Rect).X).A), ci ((((a6.getD x8.toNat default).Rect).X).B), ci ((((a6.getD x8.toNat default).Rect).Y).A), ci ((((a6.getD x8.toNat default).Rect).Y).B), ci ((a6.getD x8.toNat default).Product)])] ?_
    refine q_sq ?_
    rcases Bool.eq_false_or_eq_true (((a6.getD x8.toNat default).Product) != (-1)) with b12 | b12
    ·replace hm := qA b12 hm
     obtain ⟨v13, h14, hm⟩ := qC hm
     refine q_vu [qf 3 b12, qd 7 (dex (cen [(0, 0), (1, 0), (2, 0), (3, 0), (4, 0), (5, 0), (6, 0), (8, 0)] [0, 0, 0, 0, 0, 0, 0, 1] 2 7 (UG x8 (a6.getD x8.toNat default) a1 a2 a3 a4 a5 l9 ri v13) (yield_Boards_rd506_o x8 (a6.getD x8.toNat default) a1 a2 a3 a4 a5 l9 ri v13) [15, 16, 17, 18] [0, 1, 2, 3, 4, 5, 6, 8])) (NM (K := (kx E 23 8)) ⟨[(15, vb true), (16, vc (.yl (rc Try.f25 506 ri) ri.b [6, 7, 8, 10, 11, 17] [.bptr 1 0 0, .bptr 2 0 0, .bptr 3 0 0, .bptr 4 0 0, .bptr 5 0 0, .bptr 6 0 0])), (17, vi x8), (18, va [ci ((((a6.getD x8.toNat default).Rect).X).A), ci ((((a6.getD x8.toNat default).Rect).X).B), ci ((((a6.getD x8.toNat default).Rect).Y).A), ci ((((a6.getD x8.toNat default).Rect).Y).B), ci ((a6.getD x8.toNat default).Product)])], [(0, lq (rc Try.f25 506 ri) ri.b), (1, bx 22 [tl qI default a1]), (2, bx 23 [tl qF default a2]), (3, bx 24 [tl qE default a3]), (4, bx 33 (zX a4)), (5, bx 3 [ci a5]), (6, bx 45 [.own 8 0 9 l9.length]), (8, ro 0 54 9 l9.length (rf qN l9))]⟩ (opAt (rg Try.f60 818) 7) [(0, 0), (1, 0), (2, 0), (3, 0), (4, 0), (5, 0), (6, 0), (8, 0)] [0, 0, 0, 0, 0, 0, 0, 1] 2 0 o0 rfl (HS x8 (a6.getD x8.toNat default) a1 a2 a3 a4 a5 l9 ri v13 h14) (.inl rfl) (by kernel_rfl))] 10 [3, 4] [(21, vb (!(Nat.beq v13.1 0)))] [0, 6, 8, 9] [(0, lz (rc Try.f25 506 ri) ri.b [] v13.1), (6, bx 45 [.own 8 1 9 v13.2.length]), (8, ro 1 54 9 v13.2.length (rf qN v13.2))] ?_
     refine q_cn (!(Nat.beq v13.1 0)) (fun b15 => ?_) (fun b15 => ?_)
     ·replace hm := qA b15 hm
      obtain rfl := Option.some.inj hm
      refine q_rt ?_
      refine zB (v13.1, v13.2) ?_
      exact q_rm
     ·replace hm := qB b15 hm
      refine q_fn [.lpn 0 .ready none] ⟨[(0, vc (.yl (rc Try.f25 506 ri) ri.b [6, 7, 8, 10, 11, 17] [.bptr 1 0 0, .bptr 2 0 0, .bptr 3 0 0, .bptr 4 0 0, .bptr 5 0 0, .bptr 6 0 0])), (5, vc (tl qS default a6)), (6, vi ((a6.length : Nat) : Int)), (7, vi x8), (21, vb (!(Nat.beq v13.1 0)))], [(0, lq (rc Try.f25 506 ri) ri.b), (1, bx 22 [tl qI default a1]), (2, bx 23 [tl qF default a2]), (3, bx 24 [tl qE default a3]), (4, bx 33 (zX a4)), (5, bx 3 [ci a5]), (6, bx 45 [.own 8 1 9 v13.2.length]), (7, bx 93 [tl qS default a6]), (8, ro 1 54 9 v13.2.length (rf qN v13.2))]⟩ (o1 (qAz (js := []) b15)) ?_
      refine q_sk ?_
      exact q_J (v13.2, v13.2.length) ⟨rfl, hm⟩
    ·replace hm := qB b12 hm
     refine q_vu [qf 3 b12] 10 [3, 4] [(21, vb false)] [9] [] ?_
     refine R_cnF Try.f60 (.tmp 21) 1638 1639 (by kernel_rfl) (by kernel_rfl) ?_
     refine q_sk ?_
     exact q_J (l9, l9.length) ⟨rfl, hm⟩
  ·replace hm := qB b10 hm
   refine q_ex 0 ?_
   obtain rfl := Option.some.inj hm
   exact jJ l9 (by kernel_rfl) (by kernel_rfl)
theorem MM (a1 : List qJ) (a2 : List Defect) (a3 : List Product) (a4 : Saw) (a5 : Int) (a6 : List Leaf) (a7 : List Yield_Cut) (ri : RI 79) (r : Nat × (List Yield_Cut)) (hm : JR a1 a2 a3 a4 a5 a6 a7 = some r) : CtX Try.prog globs 60 9 8 [.one (.yl (rc Try.f25 506 ri) ri.b [6, 7, 8, 10, 11, 17] [.bptr 1 0 0, .bptr 2 0 0, .bptr 3 0 0, .bptr 4 0 0, .bptr 5 0 0, .bptr 6 0 0]), .one (.bptr 7 0 0)] [(0, lq (rc Try.f25 506 ri) ri.b), (1, bx 22 [tl qI default a1]), (2, bx 23 [tl qF default a2]), (3, bx 24 [tl qE default a3]), (4, bx 33 (zX a4)), (5, bx 3 [ci a5]), (6, bx 45 [.own 8 0 9 a7.length]), (7, bx 93 [tl qS default a6]), (8, ro 0 54 9 a7.length (rf qN a7))] (ZM a1 a2 a3 a4 a5 a6 a7 ri r) (ZI a1 a2 a3 a4 a5 a6 a7 ri r) := by
 unfold JR at hm
 refine q_E Try.f60 23 fun E => ?_
 refine q_sq ?_
 refine q_vn [] 9 ⟨[(0, vc (.yl (rc Try.f25 506 ri) ri.b [6, 7, 8, 10, 11, 17] [.bptr 1 0 0, .bptr 2 0 0, .bptr 3 0 0, .bptr 4 0 0, .bptr 5 0 0, .bptr 6 0 0])), (5, vc (tl qS default a6)), (6, vi ((a6.length : Nat) : Int)), (7, vi 0)], [(0, lq (rc Try.f25 506 ri) ri.b), (1, bx 22 [tl qI default a1]), (2, bx 23 [tl qF default a2]), (3, bx 24 [tl qE default a3]), (4, bx 33 (zX a4)), (5, bx 3 [ci a5]), (6, bx 45 [.own 8 0 9 a7.length]), (7, bx 93 [tl qS default a6]), (8, ro 0 54 9 a7.length (rf qN a7))]⟩ ?_
 obtain ⟨u20, h19, hm⟩ := qC hm
 refine zI (nd Try.f60 12) 0 (by kernel_rfl) FUEL (fun o => YQ ri a1 a2 a3 a4 a5 a6 o) (fun v st => RetQ Try.prog Try.f60 (ZM a1 a2 a3 a4 a5 a6 a7 ri v) (ZI a1 a2 a3 a4 a5 a6 a7 ri v) .ret st) u20 (q_hl (yO ri a1 a2 a3 a4 a5 a6 0 a7 a7.length) (NI E ri a1 a2 a3 a4 a5 a6 a7 FUEL 0 a7 a7.length u20 rfl h19)) ?_ ?_
 ·rintro v21 rfl st hr
  obtain rfl := Option.some.inj hm
  exact hr
 ·rintro o18 rfl
  replace hm : _ = some r := hm
  obtain rfl := Option.some.inj hm
  exact q_rm
end Saw
end Go.SL
