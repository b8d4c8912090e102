import Derived.Test.YtgpgnlllieekbaaDoorEBase
import Derived.Test.YtgpgnlllieekbaaDoorEFa1
import Derived.Test.YtgpgnlllieekbaaDoorEFa2
import Derived.Test.YtgpgnlllieekbaaDoorEFa3
import Derived.Test.YtgpgnlllieekbaaDoorEFa4
set_option linter.unusedVariables false
set_option linter.unusedSimpArgs false
namespace Go.SL
namespace Saw
open Go.Proofs
set_option maxHeartbeats 4000000

def worth_look_x (r : Worth_view × Bool) : V := .tup [.agg [cs r.1.product.Name, ci r.1.product.Thick, ci r.1.product.Width, ci r.1.product.Allow, ci r.1.product.Wane, tl e_i64 default r.1.product.Lengths, tl e_i64 default r.1.product.Prices, ci r.1.rect.X.A, ci r.1.rect.X.B, ci r.1.rect.Y.A, ci r.1.rect.Y.B, ci r.1.length, .own 0 0 3 r.1.zones.length, .own 1 0 7 r.1.defects.length], .one (cb r.2)]

def worth_look_o (r : Worth_view × Bool) : List (Nat × (Nat × O)) := [(0, ro 0 195 3 r.1.zones.length (rf e_Worth_zone r.1.zones)), (1, ro 0 59 7 r.1.defects.length (rf e_Defect r.1.defects))]

def worth_look_k4_S (a2 : List Defect) (a3 : Product) (a4 : Rect) (v23 : Int) (v25 : (List Worth_zone)) (v27 : Box) (x29 : Int) (l37 : List Defect) (l37n : Nat) : St :=
  ⟨[(8, vp 2 0), (13, vp 6 0), (14, vp 7 0), (83, vc (tl e_Defect default a2)), (84, vi ((a2.length : Nat) : Int)), (85, vi x29)], [(2, bx 175 [cs (ByteArray.mk #[]), ci 0, ci 0, ci 0, ci 0, .emp, .emp, ci 0, ci 0, ci 0, ci 0, ci 0, .emp, .emp]), (5, ro 0 195 3 v25.length (rf e_Worth_zone v25)), (6, bx 175 [cs a3.Name, ci a3.Thick, ci a3.Width, ci a3.Allow, ci a3.Wane, tl e_i64 default a3.Lengths, tl e_i64 default a3.Prices, ci a4.X.A, ci a4.X.B, ci a4.Y.A, ci a4.Y.B, ci v23, .own 5 0 3 v25.length, .own 8 0 7 l37n]), (7, bx 57 [ci v27.X.A, ci v27.X.B, ci v27.Y.A, ci v27.Y.B, ci v27.Z.A, ci v27.Z.B]), (8, ro 0 59 7 l37n (rf e_Defect l37))]⟩

def worth_look_L3_S (a2 : List Defect) (a3 : Product) (a4 : Rect) (v23 : Int) (v25 : (List Worth_zone)) (v27 : Box) (x29 : Int) (l30 : List Defect) (l30n : Nat) : St :=
  ⟨[(8, vp 2 0), (13, vp 6 0), (14, vp 7 0), (83, vc (tl e_Defect default a2)), (84, vi ((a2.length : Nat) : Int)), (85, vi x29)], [(2, bx 175 [cs (ByteArray.mk #[]), ci 0, ci 0, ci 0, ci 0, .emp, .emp, ci 0, ci 0, ci 0, ci 0, ci 0, .emp, .emp]), (5, ro 0 195 3 v25.length (rf e_Worth_zone v25)), (6, bx 175 [cs a3.Name, ci a3.Thick, ci a3.Width, ci a3.Allow, ci a3.Wane, tl e_i64 default a3.Lengths, tl e_i64 default a3.Prices, ci a4.X.A, ci a4.X.B, ci a4.Y.A, ci a4.Y.B, ci v23, .own 5 0 3 v25.length, .own 8 0 7 l30n]), (7, bx 57 [ci v27.X.A, ci v27.X.B, ci v27.Y.A, ci v27.Y.B, ci v27.Z.A, ci v27.Z.B]), (8, ro 0 59 7 l30n (rf e_Defect l30))]⟩

def worth_look_L3_T (a3 : Product) (a4 : Rect) (v23 : Int) (v25 : (List Worth_zone)) (l38 : List Defect) : St :=
  ⟨[(8, vp 2 0), (13, vp 6 0)], [(2, bx 175 [cs (ByteArray.mk #[]), ci 0, ci 0, ci 0, ci 0, .emp, .emp, ci 0, ci 0, ci 0, ci 0, ci 0, .emp, .emp]), (5, ro 0 195 3 v25.length (rf e_Worth_zone v25)), (6, bx 175 [cs a3.Name, ci a3.Thick, ci a3.Width, ci a3.Allow, ci a3.Wane, tl e_i64 default a3.Lengths, tl e_i64 default a3.Prices, ci a4.X.A, ci a4.X.B, ci a4.Y.A, ci a4.Y.B, ci v23, .own 5 0 3 v25.length, .own 8 0 7 l38.length]), (8, ro 0 59 7 l38.length (rf e_Defect l38))]⟩

def worth_look_k2_S (a1 : List Slice) (a2 : List Defect) (a3 : Product) (a4 : Rect) (x21 : Bool) : St :=
  ⟨[(0, vc (tl e_Slice default a1)), (1, vc (tl e_Defect default a2)), (6, vp 0 0), (7, vp 1 0), (8, vp 2 0), (68, vb x21)], [(0, bx 43 [cs a3.Name, ci a3.Thick, ci a3.Width, ci a3.Allow, ci a3.Wane, tl e_i64 default a3.Lengths, tl e_i64 default a3.Prices]), (1, bx 35 [ci a4.X.A, ci a4.X.B, ci a4.Y.A, ci a4.Y.B]), (2, bx 175 [cs (ByteArray.mk #[]), ci 0, ci 0, ci 0, ci 0, .emp, .emp, ci 0, ci 0, ci 0, ci 0, ci 0, .emp, .emp])]⟩

def worth_look_k1_S (a1 : List Slice) (a2 : List Defect) (a3 : Product) (a4 : Rect) (x16 : Bool) : St :=
  ⟨[(0, vc (tl e_Slice default a1)), (1, vc (tl e_Defect default a2)), (6, vp 0 0), (7, vp 1 0), (8, vp 2 0), (35, vb x16)], [(0, bx 43 [cs a3.Name, ci a3.Thick, ci a3.Width, ci a3.Allow, ci a3.Wane, tl e_i64 default a3.Lengths, tl e_i64 default a3.Prices]), (1, bx 35 [ci a4.X.A, ci a4.X.B, ci a4.Y.A, ci a4.Y.B]), (2, bx 175 [cs (ByteArray.mk #[]), ci 0, ci 0, ci 0, ci 0, .emp, .emp, ci 0, ci 0, ci 0, ci 0, ci 0, .emp, .emp])]⟩

set_option maxRecDepth 100000 in
theorem worth_look_L3_ok (E : Env 0) (a2 : List Defect) (a3 : Product) (a4 : Rect) (v23 : Int) (v25 : (List Worth_zone)) (v27 : Box) : ∀ (n : Nat) (x29 : Int) (l30 : List Defect) (l30n : Nat) (res : (List Defect)), l30.length = l30n → worth_look_L3 a2 v27 n x29 l30 = some res → HL (kx E 100 0) (nd Tryd.f100 4084) (loopQ0 0 (fun o => worth_look_L3_T a3 a4 v23 v25 o) res) n (worth_look_L3_S a2 a3 a4 v23 v25 v27 x29 l30 l30n) := by
  intro n
  induction n with
  | zero =>
    intro x29 l30 l30n res hl0 hm
    cases hm
  | succ n ih =>
    intro x29 l30 l30n res hl0 hm
    subst hl0
    refine HL_succ ?_
    refine R_sq Tryd.f100 8168 8169 (by kernel_rfl) ?_
    refine R_rn Tryd.f100 8168 10 [] [] 9 ⟨[(8, vp 2 0), (13, vp 6 0), (14, vp 7 0), (83, vc (tl e_Defect default a2)), (84, vi ((a2.length : Nat) : Int)), (85, vi x29), (86, vb (decide (x29 < ((a2.length : Nat) : Int))))], [(2, bx 175 [cs (ByteArray.mk #[]), ci 0, ci 0, ci 0, ci 0, .emp, .emp, ci 0, ci 0, ci 0, ci 0, ci 0, .emp, .emp]), (5, ro 0 195 3 v25.length (rf e_Worth_zone v25)), (6, bx 175 [cs a3.Name, ci a3.Thick, ci a3.Width, ci a3.Allow, ci a3.Wane, tl e_i64 default a3.Lengths, tl e_i64 default a3.Prices, ci a4.X.A, ci a4.X.B, ci a4.Y.A, ci a4.Y.B, ci v23, .own 5 0 3 v25.length, .own 8 0 7 l30.length]), (7, bx 57 [ci v27.X.A, ci v27.X.B, ci v27.Y.A, ci v27.Y.B, ci v27.Z.A, ci v27.Z.B]), (8, ro 0 59 7 l30.length (rf e_Defect l30))]⟩ o0 (by kernel_rfl) (by kernel_rfl) ?_
    refine R_sq Tryd.f100 16338 16339 (by kernel_rfl) ?_
    refine R_cn Tryd.f100 (.tmp 86) 32676 32677 (by kernel_rfl) (decide (x29 < ((a2.length : Nat) : Int))) (by kernel_rfl) (fun b31 => ?_) (fun b31 => ?_)
    · replace hm := bif_t b31 hm
      refine R_skip (by kernel_rfl) ?_
      refine R_join (ι := (List Defect) × Nat) (nd Tryd.f100 32678) (nd Tryd.f100 32679) (by kernel_rfl) (fun p => worth_look_k4_S a2 a3 a4 v23 v25 v27 x29 p.1 p.2) (fun p => p.1.length = p.2 ∧ worth_look_k4 x29 (worth_look_L3 a2 v27 n) p.1 = some res) ?_ ?_
      · rintro ⟨l37, l37n⟩ ⟨el37, hm⟩
        replace el37 : l37.length = l37n := el37
        subst el37
        show H _ (worth_look_k4_S a2 a3 a4 v23 v25 v27 x29 l37 l37.length) (nd Tryd.f100 32679) _
        refine R_rn Tryd.f100 32679 14 [] [] 11 ⟨[(8, vp 2 0), (13, vp 6 0), (14, vp 7 0), (83, vc (tl e_Defect default a2)), (84, vi ((a2.length : Nat) : Int)), (85, vi (w64 (x29 + 1)))], [(2, bx 175 [cs (ByteArray.mk #[]), ci 0, ci 0, ci 0, ci 0, .emp, .emp, ci 0, ci 0, ci 0, ci 0, ci 0, .emp, .emp]), (5, ro 0 195 3 v25.length (rf e_Worth_zone v25)), (6, bx 175 [cs a3.Name, ci a3.Thick, ci a3.Width, ci a3.Allow, ci a3.Wane, tl e_i64 default a3.Lengths, tl e_i64 default a3.Prices, ci a4.X.A, ci a4.X.B, ci a4.Y.A, ci a4.Y.B, ci v23, .own 5 0 3 v25.length, .own 8 0 7 l37.length]), (7, bx 57 [ci v27.X.A, ci v27.X.B, ci v27.Y.A, ci v27.Y.B, ci v27.Z.A, ci v27.Z.B]), (8, ro 0 59 7 l37.length (rf e_Defect l37))]⟩ o0 (by kernel_rfl) (by kernel_rfl) ?_
        exact HL_enter (worth_look_L3_S a2 a3 a4 v23 v25 v27 (w64 (x29 + 1)) l37 l37.length) (by kernel_rfl) (by kernel_rfl) (ih (w64 (x29 + 1)) l37 l37.length _ rfl hm)
      · refine R_bk Tryd.f100 1 65356 (by kernel_rfl) ?_
        refine R_sq Tryd.f100 130712 130713 (by kernel_rfl) ?_
        obtain ⟨g32, hm⟩ := bif_n hm
        refine R_rn Tryd.f100 130712 11 [] [] 9 ⟨[(8, vp 2 0), (13, vp 6 0), (14, vp 7 0), (16, vp 9 0), (83, vc (tl e_Defect default a2)), (84, vi ((a2.length : Nat) : Int)), (85, vi x29)], [(2, bx 175 [cs (ByteArray.mk #[]), ci 0, ci 0, ci 0, ci 0, .emp, .emp, ci 0, ci 0, ci 0, ci 0, ci 0, .emp, .emp]), (5, ro 0 195 3 v25.length (rf e_Worth_zone v25)), (6, bx 175 [cs a3.Name, ci a3.Thick, ci a3.Width, ci a3.Allow, ci a3.Wane, tl e_i64 default a3.Lengths, tl e_i64 default a3.Prices, ci a4.X.A, ci a4.X.B, ci a4.Y.A, ci a4.Y.B, ci v23, .own 5 0 3 v25.length, .own 8 0 7 l30.length]), (7, bx 57 [ci v27.X.A, ci v27.X.B, ci v27.Y.A, ci v27.Y.B, ci v27.Z.A, ci v27.Z.B]), (8, ro 0 59 7 l30.length (rf e_Defect l30)), (9, bx 59 [ci ((a2.getD x29.toNat default).Kind), ci ((((a2.getD x29.toNat default).Box).X).A), ci ((((a2.getD x29.toNat default).Box).X).B), ci ((((a2.getD x29.toNat default).Box).Y).A), ci ((((a2.getD x29.toNat default).Box).Y).B), ci ((((a2.getD x29.toNat default).Box).Z).A), ci ((((a2.getD x29.toNat default).Box).Z).B)])]⟩ (o1 (inb_of g32)) (by kernel_rfl) (by kernel_rfl) ?_
        refine R_sq Tryd.f100 261426 261427 (by kernel_rfl) ?_
        obtain ⟨v33, h34, hm⟩ := bind_s hm
        refine R_rn Tryd.f100 261426 12 [(2, dex (cen [] [] 10 0 (defect_Touches_x v33) (defect_Touches_o v33) [89, 90] []))] [] 10 ⟨[(8, vp 2 0), (13, vp 6 0), (14, vp 7 0), (16, vp 9 0), (83, vc (tl e_Defect default a2)), (84, vi ((a2.length : Nat) : Int)), (85, vi x29), (91, vb v33)], [(2, bx 175 [cs (ByteArray.mk #[]), ci 0, ci 0, ci 0, ci 0, .emp, .emp, ci 0, ci 0, ci 0, ci 0, ci 0, .emp, .emp]), (5, ro 0 195 3 v25.length (rf e_Worth_zone v25)), (6, bx 175 [cs a3.Name, ci a3.Thick, ci a3.Width, ci a3.Allow, ci a3.Wane, tl e_i64 default a3.Lengths, tl e_i64 default a3.Prices, ci a4.X.A, ci a4.X.B, ci a4.Y.A, ci a4.Y.B, ci v23, .own 5 0 3 v25.length, .own 8 0 7 l30.length]), (7, bx 57 [ci v27.X.A, ci v27.X.B, ci v27.Y.A, ci v27.Y.B, ci v27.Z.A, ci v27.Z.B]), (8, ro 0 59 7 l30.length (rf e_Defect l30)), (9, bx 59 [ci ((a2.getD x29.toNat default).Kind), ci ((((a2.getD x29.toNat default).Box).X).A), ci ((((a2.getD x29.toNat default).Box).X).B), ci ((((a2.getD x29.toNat default).Box).Y).A), ci ((((a2.getD x29.toNat default).Box).Y).B), ci ((((a2.getD x29.toNat default).Box).Z).A), ci ((((a2.getD x29.toNat default).Box).Z).B)])]⟩ (o1 (callS (K := (kx E 100 0)) ⟨[(89, va [ci ((a2.getD x29.toNat default).Kind), ci ((((a2.getD x29.toNat default).Box).X).A), ci ((((a2.getD x29.toNat default).Box).X).B), ci ((((a2.getD x29.toNat default).Box).Y).A), ci ((((a2.getD x29.toNat default).Box).Y).B), ci ((((a2.getD x29.toNat default).Box).Z).A), ci ((((a2.getD x29.toNat default).Box).Z).B)]), (90, va [ci v27.X.A, ci v27.X.B, ci v27.Y.A, ci v27.Y.B, ci v27.Z.A, ci v27.Z.B])], []⟩ (opAt (rg Tryd.f100 261426) 2) [] [] 10 o0 rfl (defect_Touches_ok (a2.getD x29.toNat default) v27 v33 h34) (.inl rfl) (by kernel_rfl))) (by kernel_rfl) (by kernel_rfl) ?_
        refine R_cn Tryd.f100 (.tmp 91) 522854 522855 (by kernel_rfl) v33 (by kernel_rfl) (fun b35 => ?_) (fun b35 => ?_)
        · replace hm := bif_t b35 hm
          obtain ⟨g36, hm⟩ := bif_n hm
          refine R_rn Tryd.f100 522854 13 [(3, drw 10 0 (rf e_Defect ([(a2.getD x29.toNat default)] : List Defect))), (4, drw 8 1 (rf e_Defect (l30 ++ ([(a2.getD x29.toNat default)] : List Defect))))] [] 10 ⟨[(8, vp 2 0), (13, vp 6 0), (14, vp 7 0), (83, vc (tl e_Defect default a2)), (84, vi ((a2.length : Nat) : Int)), (85, vi x29)], [(2, bx 175 [cs (ByteArray.mk #[]), ci 0, ci 0, ci 0, ci 0, .emp, .emp, ci 0, ci 0, ci 0, ci 0, ci 0, .emp, .emp]), (5, ro 0 195 3 v25.length (rf e_Worth_zone v25)), (6, bx 175 [cs a3.Name, ci a3.Thick, ci a3.Width, ci a3.Allow, ci a3.Wane, tl e_i64 default a3.Lengths, tl e_i64 default a3.Prices, ci a4.X.A, ci a4.X.B, ci a4.Y.A, ci a4.Y.B, ci v23, .own 5 0 3 v25.length, .own 8 1 7 (l30.length + 1)]), (7, bx 57 [ci v27.X.A, ci v27.X.B, ci v27.Y.A, ci v27.Y.B, ci v27.Z.A, ci v27.Z.B]), (8, ro 1 59 7 (l30.length + 1) (rf e_Defect (l30 ++ ([(a2.getD x29.toNat default)] : List Defect))))]⟩ (o1 (And.intro (litP e_Defect default 7 (fun _ => rfl) ([(a2.getD x29.toNat default)] : List Defect) 1 rfl) (apP e_Defect default l30 ([(a2.getD x29.toNat default)] : List Defect) l30.length 1 7 56 (1 ≤ 1) (Nat.le_refl _) rfl rfl (fun _ => rfl) (room_of g36)))) (by kernel_rfl) (by kernel_rfl) ?_
          exact J_mk ((l30 ++ ([(a2.getD x29.toNat default)] : List Defect)), (l30.length + 1)) ⟨(len_app rfl rfl), hm⟩ (by kernel_rfl) (by kernel_rfl)
        · replace hm := bif_f b35 hm
          refine R_skip (by kernel_rfl) ?_
          exact J_mk (l30, l30.length) ⟨rfl, hm⟩ (by kernel_rfl) (by kernel_rfl)
    · replace hm := bif_f b31 hm
      refine R_exit 0 (by kernel_rfl) ?_
      obtain rfl := Option.some.inj hm
      exact L0_mk (by kernel_rfl) (by kernel_rfl)

set_option maxRecDepth 100000 in
theorem worth_look_ok (a1 : List Slice) (a2 : List Defect) (a3 : Product) (a4 : Rect) (r : Worth_view × Bool) (hm : worth_look a1 a2 a3 a4 = some r) : CtX Tryd.prog globs 100 0 0 [.one (tl e_Slice default a1), .one (tl e_Defect default a2), .agg [cs a3.Name, ci a3.Thick, ci a3.Width, ci a3.Allow, ci a3.Wane, tl e_i64 default a3.Lengths, tl e_i64 default a3.Prices], .agg [ci a4.X.A, ci a4.X.B, ci a4.Y.A, ci a4.Y.B]] [] (worth_look_x r) (worth_look_o r) := by
  unfold worth_look at hm
  refine CtX_of_E (fn := Tryd.f100) (c := nd Tryd.f100 1) (nt := 100) (by kernel_rfl) (by kernel_rfl) (by kernel_rfl) (by kernel_rfl) fun E => ?_
  refine R_sq Tryd.f100 2 3 (by kernel_rfl) ?_
  refine R_rn Tryd.f100 2 0 [] [] 0 ⟨[(0, vc (tl e_Slice default a1)), (1, vc (tl e_Defect default a2)), (6, vp 0 0), (7, vp 1 0), (8, vp 2 0)], [(0, bx 43 [cs a3.Name, ci a3.Thick, ci a3.Width, ci a3.Allow, ci a3.Wane, tl e_i64 default a3.Lengths, tl e_i64 default a3.Prices]), (1, bx 35 [ci a4.X.A, ci a4.X.B, ci a4.Y.A, ci a4.Y.B]), (2, bx 175 [cs (ByteArray.mk #[]), ci 0, ci 0, ci 0, ci 0, .emp, .emp, ci 0, ci 0, ci 0, ci 0, ci 0, .emp, .emp])]⟩ o0 (by kernel_rfl) (by kernel_rfl) ?_
  refine R_sq Tryd.f100 6 7 (by kernel_rfl) ?_
  refine R_join (ι := Bool) (nd Tryd.f100 12) (nd Tryd.f100 13) (by kernel_rfl) (fun p => worth_look_k1_S a1 a2 a3 a4 p) (fun p => worth_look_k1 a1 a2 a3 a4 p = some r) ?_ ?_
  · rintro x16 hm
    show H _ (worth_look_k1_S a1 a2 a3 a4 x16) (nd Tryd.f100 13) _
    refine R_cn Tryd.f100 (.tmp 35) 26 27 (by kernel_rfl) x16 (by kernel_rfl) (fun b17 => ?_) (fun b17 => ?_)
    · replace hm := bif_t b17 hm
      refine R_sq Tryd.f100 52 53 (by kernel_rfl) ?_
      refine R_rn Tryd.f100 52 2 [] [] 4 ⟨[(8, vp 2 0), (9, vb false)], [(2, bx 175 [cs (ByteArray.mk #[]), ci 0, ci 0, ci 0, ci 0, .emp, .emp, ci 0, ci 0, ci 0, ci 0, ci 0, .emp, .emp])]⟩ o0 (by kernel_rfl) (by kernel_rfl) ?_
      refine H_fin [.ownB 2 5 4 3 1 (rf e_i64 ([] : List Int))] ⟨[(8, vp 2 0), (9, vb false)], [(2, bx 175 [cs (ByteArray.mk #[]), ci 0, ci 0, ci 0, ci 0, .own 4 0 1 0, .emp, ci 0, ci 0, ci 0, ci 0, ci 0, .emp, .emp]), (4, ro 0 3 1 0 (rf e_i64 ([] : List Int)))]⟩ o0 (by kernel_rfl) ?_
      refine H_fin [.ownB 2 6 5 3 1 (rf e_i64 ([] : List Int))] ⟨[(8, vp 2 0), (9, vb false)], [(2, bx 175 [cs (ByteArray.mk #[]), ci 0, ci 0, ci 0, ci 0, .own 4 0 1 0, .own 5 0 1 0, ci 0, ci 0, ci 0, ci 0, ci 0, .emp, .emp]), (4, ro 0 3 1 0 (rf e_i64 ([] : List Int))), (5, ro 0 3 1 0 (rf e_i64 ([] : List Int)))]⟩ o0 (by kernel_rfl) ?_
      refine H_fin [.ownB 2 12 6 195 3 (rf e_Worth_zone ([] : List Worth_zone))] ⟨[(8, vp 2 0), (9, vb false)], [(2, bx 175 [cs (ByteArray.mk #[]), ci 0, ci 0, ci 0, ci 0, .own 4 0 1 0, .own 5 0 1 0, ci 0, ci 0, ci 0, ci 0, ci 0, .own 6 0 3 0, .emp]), (4, ro 0 3 1 0 (rf e_i64 ([] : List Int))), (5, ro 0 3 1 0 (rf e_i64 ([] : List Int))), (6, ro 0 195 3 0 (rf e_Worth_zone ([] : List Worth_zone)))]⟩ o0 (by kernel_rfl) ?_
      refine H_fin [.ownB 2 13 7 59 7 (rf e_Defect ([] : List Defect))] ⟨[(8, vp 2 0), (9, vb false)], [(2, bx 175 [cs (ByteArray.mk #[]), ci 0, ci 0, ci 0, ci 0, .own 4 0 1 0, .own 5 0 1 0, ci 0, ci 0, ci 0, ci 0, ci 0, .own 6 0 3 0, .own 7 0 7 0]), (4, ro 0 3 1 0 (rf e_i64 ([] : List Int))), (5, ro 0 3 1 0 (rf e_i64 ([] : List Int))), (6, ro 0 195 3 0 (rf e_Worth_zone ([] : List Worth_zone))), (7, ro 0 59 7 0 (rf e_Defect ([] : List Defect)))]⟩ o0 (by kernel_rfl) ?_
      refine H_fin [.len 4 (([] : List Int).length), .frz 4] ⟨[(8, vp 2 0), (9, vb false)], [(2, bx 175 [cs (ByteArray.mk #[]), ci 0, ci 0, ci 0, ci 0, tl e_i64 default ([] : List Int), .own 5 0 1 0, ci 0, ci 0, ci 0, ci 0, ci 0, .own 6 0 3 0, .own 7 0 7 0]), (5, ro 0 3 1 0 (rf e_i64 ([] : List Int))), (6, ro 0 195 3 0 (rf e_Worth_zone ([] : List Worth_zone))), (7, ro 0 59 7 0 (rf e_Defect ([] : List Defect)))]⟩ (o1 (And.intro (And.intro (show 0 = ([] : List Int).length from rfl) (show 0 = ([] : List Int).length from rfl)) (Nat.le_refl (([] : List Int).length)))) (by kernel_rfl) ?_
      refine H_fin [.len 5 (([] : List Int).length), .frz 5] ⟨[(8, vp 2 0), (9, vb false)], [(2, bx 175 [cs (ByteArray.mk #[]), ci 0, ci 0, ci 0, ci 0, tl e_i64 default ([] : List Int), tl e_i64 default ([] : List Int), ci 0, ci 0, ci 0, ci 0, ci 0, .own 6 0 3 0, .own 7 0 7 0]), (6, ro 0 195 3 0 (rf e_Worth_zone ([] : List Worth_zone))), (7, ro 0 59 7 0 (rf e_Defect ([] : List Defect)))]⟩ (o1 (And.intro (And.intro (show 0 = ([] : List Int).length from rfl) (show 0 = ([] : List Int).length from rfl)) (Nat.le_refl (([] : List Int).length)))) (by kernel_rfl) ?_
      refine H_fin [.len 6 (([] : List Worth_zone).length)] ⟨[(8, vp 2 0), (9, vb false)], [(2, bx 175 [cs (ByteArray.mk #[]), ci 0, ci 0, ci 0, ci 0, tl e_i64 default ([] : List Int), tl e_i64 default ([] : List Int), ci 0, ci 0, ci 0, ci 0, ci 0, .own 6 0 3 (([] : List Worth_zone).length), .own 7 0 7 0]), (6, ro 0 195 3 (([] : List Worth_zone).length) (rf e_Worth_zone ([] : List Worth_zone))), (7, ro 0 59 7 0 (rf e_Defect ([] : List Defect)))]⟩ (o1 (And.intro (show 0 = ([] : List Worth_zone).length from rfl) (show 0 = ([] : List Worth_zone).length from rfl))) (by kernel_rfl) ?_
      refine H_fin [.len 7 (([] : List Defect).length)] ⟨[(8, vp 2 0), (9, vb false)], [(2, bx 175 [cs (ByteArray.mk #[]), ci 0, ci 0, ci 0, ci 0, tl e_i64 default ([] : List Int), tl e_i64 default ([] : List Int), ci 0, ci 0, ci 0, ci 0, ci 0, .own 6 0 3 (([] : List Worth_zone).length), .own 7 0 7 (([] : List Defect).length)]), (6, ro 0 195 3 (([] : List Worth_zone).length) (rf e_Worth_zone ([] : List Worth_zone))), (7, ro 0 59 7 (([] : List Defect).length) (rf e_Defect ([] : List Defect)))]⟩ (o1 (And.intro (show 0 = ([] : List Defect).length from rfl) (show 0 = ([] : List Defect).length from rfl))) (by kernel_rfl) ?_
      obtain rfl := Option.some.inj hm
      refine H_swap 6 0 (by kernel_rfl) ?_
      refine H_swap 7 1 (by kernel_rfl) ?_
      refine R_ret (by kernel_rfl) ?_
      exact ret_mk (by kernel_rfl) (by kernel_rfl)
    · replace hm := bif_f b17 hm
      refine R_skip (by kernel_rfl) ?_
      refine R_sq Tryd.f100 14 15 (by kernel_rfl) ?_
      obtain ⟨v18, h19, hm⟩ := bind_s hm
      refine R_rn Tryd.f100 14 3 [(1, dex (cen [] [] 4 0 (product_Green_x v18) (product_Green_o v18) [38] []))] [] 4 ⟨[(0, vc (tl e_Slice default a1)), (1, vc (tl e_Defect default a2)), (6, vp 0 0), (7, vp 1 0), (8, vp 2 0), (10, vi v18.1), (11, vi v18.2)], [(0, bx 43 [cs a3.Name, ci a3.Thick, ci a3.Width, ci a3.Allow, ci a3.Wane, tl e_i64 default a3.Lengths, tl e_i64 default a3.Prices]), (1, bx 35 [ci a4.X.A, ci a4.X.B, ci a4.Y.A, ci a4.Y.B]), (2, bx 175 [cs (ByteArray.mk #[]), ci 0, ci 0, ci 0, ci 0, .emp, .emp, ci 0, ci 0, ci 0, ci 0, ci 0, .emp, .emp])]⟩ (o1 (callS (K := (kx E 100 0)) ⟨[(38, va [cs a3.Name, ci a3.Thick, ci a3.Width, ci a3.Allow, ci a3.Wane, tl e_i64 default a3.Lengths, tl e_i64 default a3.Prices])], []⟩ (opAt (rg Tryd.f100 14) 1) [] [] 4 o0 rfl (product_Green_ok a3 v18 h19) (.inl rfl) (by kernel_rfl))) (by kernel_rfl) (by kernel_rfl) ?_
      refine R_sq Tryd.f100 30 31 (by kernel_rfl) ?_
      refine R_rn Tryd.f100 30 4 [] [] 4 ⟨[(0, vc (tl e_Slice default a1)), (1, vc (tl e_Defect default a2)), (6, vp 0 0), (7, vp 1 0), (8, vp 2 0), (10, vi v18.1), (11, vi v18.2), (12, vp 4 0)], [(0, bx 43 [cs a3.Name, ci a3.Thick, ci a3.Width, ci a3.Allow, ci a3.Wane, tl e_i64 default a3.Lengths, tl e_i64 default a3.Prices]), (1, bx 35 [ci a4.X.A, ci a4.X.B, ci a4.Y.A, ci a4.Y.B]), (2, bx 175 [cs (ByteArray.mk #[]), ci 0, ci 0, ci 0, ci 0, .emp, .emp, ci 0, ci 0, ci 0, ci 0, ci 0, .emp, .emp]), (4, bx 187 [ci (w64 (a4.X.B - a4.X.A)), ci (w64 (a4.Y.B - a4.Y.A))])]⟩ o0 (by kernel_rfl) (by kernel_rfl) ?_
      refine R_sq Tryd.f100 62 63 (by kernel_rfl) ?_
      refine R_join (ι := Bool) (nd Tryd.f100 124) (nd Tryd.f100 125) (by kernel_rfl) (fun p => worth_look_k2_S a1 a2 a3 a4 p) (fun p => worth_look_k2 a1 a2 a3 a4 p = some r) ?_ ?_
      · rintro x21 hm
        show H _ (worth_look_k2_S a1 a2 a3 a4 x21) (nd Tryd.f100 125) _
        refine R_cn Tryd.f100 (.tmp 68) 250 251 (by kernel_rfl) x21 (by kernel_rfl) (fun b22 => ?_) (fun b22 => ?_)
        · replace hm := bif_t b22 hm
          refine R_sq Tryd.f100 500 501 (by kernel_rfl) ?_
          refine R_rn Tryd.f100 500 6 [] [] 5 ⟨[(8, vp 2 0), (9, vb false)], [(2, bx 175 [cs (ByteArray.mk #[]), ci 0, ci 0, ci 0, ci 0, .emp, .emp, ci 0, ci 0, ci 0, ci 0, ci 0, .emp, .emp])]⟩ o0 (by kernel_rfl) (by kernel_rfl) ?_
          refine H_fin [.ownB 2 5 5 3 1 (rf e_i64 ([] : List Int))] ⟨[(8, vp 2 0), (9, vb false)], [(2, bx 175 [cs (ByteArray.mk #[]), ci 0, ci 0, ci 0, ci 0, .own 5 0 1 0, .emp, ci 0, ci 0, ci 0, ci 0, ci 0, .emp, .emp]), (5, ro 0 3 1 0 (rf e_i64 ([] : List Int)))]⟩ o0 (by kernel_rfl) ?_
          refine H_fin [.ownB 2 6 6 3 1 (rf e_i64 ([] : List Int))] ⟨[(8, vp 2 0), (9, vb false)], [(2, bx 175 [cs (ByteArray.mk #[]), ci 0, ci 0, ci 0, ci 0, .own 5 0 1 0, .own 6 0 1 0, ci 0, ci 0, ci 0, ci 0, ci 0, .emp, .emp]), (5, ro 0 3 1 0 (rf e_i64 ([] : List Int))), (6, ro 0 3 1 0 (rf e_i64 ([] : List Int)))]⟩ o0 (by kernel_rfl) ?_
          refine H_fin [.ownB 2 12 7 195 3 (rf e_Worth_zone ([] : List Worth_zone))] ⟨[(8, vp 2 0), (9, vb false)], [(2, bx 175 [cs (ByteArray.mk #[]), ci 0, ci 0, ci 0, ci 0, .own 5 0 1 0, .own 6 0 1 0, ci 0, ci 0, ci 0, ci 0, ci 0, .own 7 0 3 0, .emp]), (5, ro 0 3 1 0 (rf e_i64 ([] : List Int))), (6, ro 0 3 1 0 (rf e_i64 ([] : List Int))), (7, ro 0 195 3 0 (rf e_Worth_zone ([] : List Worth_zone)))]⟩ o0 (by kernel_rfl) ?_
          refine H_fin [.ownB 2 13 8 59 7 (rf e_Defect ([] : List Defect))] ⟨[(8, vp 2 0), (9, vb false)], [(2, bx 175 [cs (ByteArray.mk #[]), ci 0, ci 0, ci 0, ci 0, .own 5 0 1 0, .own 6 0 1 0, ci 0, ci 0, ci 0, ci 0, ci 0, .own 7 0 3 0, .own 8 0 7 0]), (5, ro 0 3 1 0 (rf e_i64 ([] : List Int))), (6, ro 0 3 1 0 (rf e_i64 ([] : List Int))), (7, ro 0 195 3 0 (rf e_Worth_zone ([] : List Worth_zone))), (8, ro 0 59 7 0 (rf e_Defect ([] : List Defect)))]⟩ o0 (by kernel_rfl) ?_
          refine H_fin [.len 5 (([] : List Int).length), .frz 5] ⟨[(8, vp 2 0), (9, vb false)], [(2, bx 175 [cs (ByteArray.mk #[]), ci 0, ci 0, ci 0, ci 0, tl e_i64 default ([] : List Int), .own 6 0 1 0, ci 0, ci 0, ci 0, ci 0, ci 0, .own 7 0 3 0, .own 8 0 7 0]), (6, ro 0 3 1 0 (rf e_i64 ([] : List Int))), (7, ro 0 195 3 0 (rf e_Worth_zone ([] : List Worth_zone))), (8, ro 0 59 7 0 (rf e_Defect ([] : List Defect)))]⟩ (o1 (And.intro (And.intro (show 0 = ([] : List Int).length from rfl) (show 0 = ([] : List Int).length from rfl)) (Nat.le_refl (([] : List Int).length)))) (by kernel_rfl) ?_
          refine H_fin [.len 6 (([] : List Int).length), .frz 6] ⟨[(8, vp 2 0), (9, vb false)], [(2, bx 175 [cs (ByteArray.mk #[]), ci 0, ci 0, ci 0, ci 0, tl e_i64 default ([] : List Int), tl e_i64 default ([] : List Int), ci 0, ci 0, ci 0, ci 0, ci 0, .own 7 0 3 0, .own 8 0 7 0]), (7, ro 0 195 3 0 (rf e_Worth_zone ([] : List Worth_zone))), (8, ro 0 59 7 0 (rf e_Defect ([] : List Defect)))]⟩ (o1 (And.intro (And.intro (show 0 = ([] : List Int).length from rfl) (show 0 = ([] : List Int).length from rfl)) (Nat.le_refl (([] : List Int).length)))) (by kernel_rfl) ?_
          refine H_fin [.len 7 (([] : List Worth_zone).length)] ⟨[(8, vp 2 0), (9, vb false)], [(2, bx 175 [cs (ByteArray.mk #[]), ci 0, ci 0, ci 0, ci 0, tl e_i64 default ([] : List Int), tl e_i64 default ([] : List Int), ci 0, ci 0, ci 0, ci 0, ci 0, .own 7 0 3 (([] : List Worth_zone).length), .own 8 0 7 0]), (7, ro 0 195 3 (([] : List Worth_zone).length) (rf e_Worth_zone ([] : List Worth_zone))), (8, ro 0 59 7 0 (rf e_Defect ([] : List Defect)))]⟩ (o1 (And.intro (show 0 = ([] : List Worth_zone).length from rfl) (show 0 = ([] : List Worth_zone).length from rfl))) (by kernel_rfl) ?_
          refine H_fin [.len 8 (([] : List Defect).length)] ⟨[(8, vp 2 0), (9, vb false)], [(2, bx 175 [cs (ByteArray.mk #[]), ci 0, ci 0, ci 0, ci 0, tl e_i64 default ([] : List Int), tl e_i64 default ([] : List Int), ci 0, ci 0, ci 0, ci 0, ci 0, .own 7 0 3 (([] : List Worth_zone).length), .own 8 0 7 (([] : List Defect).length)]), (7, ro 0 195 3 (([] : List Worth_zone).length) (rf e_Worth_zone ([] : List Worth_zone))), (8, ro 0 59 7 (([] : List Defect).length) (rf e_Defect ([] : List Defect)))]⟩ (o1 (And.intro (show 0 = ([] : List Defect).length from rfl) (show 0 = ([] : List Defect).length from rfl))) (by kernel_rfl) ?_
          obtain rfl := Option.some.inj hm
          refine H_swap 7 0 (by kernel_rfl) ?_
          refine H_swap 8 1 (by kernel_rfl) ?_
          refine R_ret (by kernel_rfl) ?_
          exact ret_mk (by kernel_rfl) (by kernel_rfl)
        · replace hm := bif_f b22 hm
          refine R_skip (by kernel_rfl) ?_
          refine R_sq Tryd.f100 126 127 (by kernel_rfl) ?_
          obtain ⟨v23, h24, hm⟩ := bind_s hm
          obtain ⟨v25, h26, hm⟩ := bind_s hm
          refine R_dr Tryd.f100 126 7 [] [(3, dex (cen [] [] 5 0 (solid_Length_x v23) (solid_Length_o v23) [72] [])), (6, dex (cen [] [] 5 0 (worth_lacks_x v25) (worth_lacks_o v25) [74, 75] []))] [] [0, 0, 0, 4, 0, 0, 60, 127, 0, 511] 5 ⟨[(1, vc (tl e_Defect default a2)), (8, vp 2 0), (13, vp 6 0)], [(2, bx 175 [cs (ByteArray.mk #[]), ci 0, ci 0, ci 0, ci 0, .emp, .emp, ci 0, ci 0, ci 0, ci 0, ci 0, .emp, .emp]), (5, ro 0 195 3 v25.length (rf e_Worth_zone v25)), (6, bx 175 [cs a3.Name, ci a3.Thick, ci a3.Width, ci a3.Allow, ci a3.Wane, tl e_i64 default a3.Lengths, tl e_i64 default a3.Prices, ci a4.X.A, ci a4.X.B, ci a4.Y.A, ci a4.Y.B, ci v23, .own 5 0 3 v25.length, .emp])]⟩ (o1 (And.intro (callS (K := (kx E 100 0)) ⟨[(72, vc (tl e_Slice default a1))], []⟩ (opAt (rg Tryd.f100 126) 3) [] [] 5 o0 rfl (solid_Length_ok a1 v23 h24) (.inl rfl) (by kernel_rfl)) (callS (K := (kx E 100 0)) ⟨[(74, vc (tl e_Slice default a1)), (75, va [ci a4.X.A, ci a4.X.B, ci a4.Y.A, ci a4.Y.B])], []⟩ (opAt (rg Tryd.f100 126) 6) [] [] 5 o0 rfl (worth_lacks_ok a1 a4 v25 h26) (.inl rfl) (by kernel_rfl)))) (by kernel_rfl) (by kernel_rfl) ?_
          refine R_sq Tryd.f100 254 255 (by kernel_rfl) ?_
          obtain ⟨v27, h28, hm⟩ := bind_s hm
          refine R_rn Tryd.f100 254 8 [(4, dex (cen [] [] 7 0 (worth_view_box_x v27) (worth_view_box_o v27) [78, 81] [5]))] [] 7 ⟨[(1, vc (tl e_Defect default a2)), (8, vp 2 0), (13, vp 6 0), (14, vp 7 0)], [(2, bx 175 [cs (ByteArray.mk #[]), ci 0, ci 0, ci 0, ci 0, .emp, .emp, ci 0, ci 0, ci 0, ci 0, ci 0, .emp, .emp]), (5, ro 0 195 3 v25.length (rf e_Worth_zone v25)), (6, bx 175 [cs a3.Name, ci a3.Thick, ci a3.Width, ci a3.Allow, ci a3.Wane, tl e_i64 default a3.Lengths, tl e_i64 default a3.Prices, ci a4.X.A, ci a4.X.B, ci a4.Y.A, ci a4.Y.B, ci v23, .own 5 0 3 v25.length, .emp]), (7, bx 57 [ci v27.X.A, ci v27.X.B, ci v27.Y.A, ci v27.Y.B, ci v27.Z.A, ci v27.Z.B])]⟩ (o1 (callS (K := (kx E 100 0)) (b := false) ⟨[(78, va [cs a3.Name, ci a3.Thick, ci a3.Width, ci a3.Allow, ci a3.Wane, tl e_i64 default a3.Lengths, tl e_i64 default a3.Prices, ci a4.X.A, ci a4.X.B, ci a4.Y.A, ci a4.Y.B, ci v23, .own 5 0 3 v25.length, .emp]), (81, va [ci 0, ci v23])], [(5, ro 0 195 3 v25.length (rf e_Worth_zone v25))]⟩ (opAt (rg Tryd.f100 254) 4) [] [] 7 (o1 (Nat.le_refl v25.length)) rfl (CtX.emp (xs' := [.agg [cs a3.Name, ci a3.Thick, ci a3.Width, ci a3.Allow, ci a3.Wane, tl e_i64 default a3.Lengths, tl e_i64 default a3.Prices, ci a4.X.A, ci a4.X.B, ci a4.Y.A, ci a4.Y.B, ci v23, tl e_Worth_zone default v25, .emp], .agg [ci 0, ci v23]]) (worth_view_box_ok (Worth_view.mk a3 a4 v23 v25 ([] : List Defect)) (Span.mk 0 v23) v27 h28) (And.intro (And.intro rfl (And.intro rfl (And.intro rfl (And.intro rfl (And.intro rfl (And.intro rfl (And.intro rfl (And.intro rfl (And.intro rfl (And.intro rfl (And.intro rfl (And.intro rfl (And.intro rfl (And.intro rfl trivial)))))))))))))) (And.intro (And.intro rfl (And.intro rfl trivial)) trivial))) (.inr ⟨(by kernel_rfl), worth_view_box_f v27⟩) (by kernel_rfl))) (by kernel_rfl) (by kernel_rfl) ?_
          refine R_sq Tryd.f100 510 511 (by kernel_rfl) ?_
          refine R_sq Tryd.f100 1020 1021 (by kernel_rfl) ?_
          refine R_rn Tryd.f100 1020 9 [] [] 8 ⟨[(8, vp 2 0), (13, vp 6 0), (14, vp 7 0), (83, vc (tl e_Defect default a2)), (84, vi ((a2.length : Nat) : Int)), (85, vi 0)], [(2, bx 175 [cs (ByteArray.mk #[]), ci 0, ci 0, ci 0, ci 0, .emp, .emp, ci 0, ci 0, ci 0, ci 0, ci 0, .emp, .emp]), (5, ro 0 195 3 v25.length (rf e_Worth_zone v25)), (6, bx 175 [cs a3.Name, ci a3.Thick, ci a3.Width, ci a3.Allow, ci a3.Wane, tl e_i64 default a3.Lengths, tl e_i64 default a3.Prices, ci a4.X.A, ci a4.X.B, ci a4.Y.A, ci a4.Y.B, ci v23, .own 5 0 3 v25.length, .emp]), (7, bx 57 [ci v27.X.A, ci v27.X.B, ci v27.Y.A, ci v27.Y.B, ci v27.Z.A, ci v27.Z.B])]⟩ o0 (by kernel_rfl) (by kernel_rfl) ?_
          refine H_fin [.ownB 6 13 8 59 7 (rf e_Defect ([] : List Defect))] ⟨[(8, vp 2 0), (13, vp 6 0), (14, vp 7 0), (83, vc (tl e_Defect default a2)), (84, vi ((a2.length : Nat) : Int)), (85, vi 0)], [(2, bx 175 [cs (ByteArray.mk #[]), ci 0, ci 0, ci 0, ci 0, .emp, .emp, ci 0, ci 0, ci 0, ci 0, ci 0, .emp, .emp]), (5, ro 0 195 3 v25.length (rf e_Worth_zone v25)), (6, bx 175 [cs a3.Name, ci a3.Thick, ci a3.Width, ci a3.Allow, ci a3.Wane, tl e_i64 default a3.Lengths, tl e_i64 default a3.Prices, ci a4.X.A, ci a4.X.B, ci a4.Y.A, ci a4.Y.B, ci v23, .own 5 0 3 v25.length, .own 8 0 7 0]), (7, bx 57 [ci v27.X.A, ci v27.X.B, ci v27.Y.A, ci v27.Y.B, ci v27.Z.A, ci v27.Z.B]), (8, ro 0 59 7 0 (rf e_Defect ([] : List Defect)))]⟩ o0 (by kernel_rfl) ?_
          obtain ⟨o39, h40, hm⟩ := bind_s hm
          refine R_loop0 (nd Tryd.f100 4084) 0 (by kernel_rfl) FUEL (fun o => worth_look_L3_T a3 a4 v23 v25 o) o39 (HL_enter (worth_look_L3_S a2 a3 a4 v23 v25 v27 0 ([] : List Defect) 0) (by kernel_rfl) (by kernel_rfl) (worth_look_L3_ok E a2 a3 a4 v23 v25 v27 FUEL 0 ([] : List Defect) 0 o39 rfl h40)) ?_
          refine R_sq Tryd.f100 1022 1023 (by kernel_rfl) ?_
          refine R_rn Tryd.f100 1022 15 [] [] 9 ⟨[(8, vp 2 0), (9, vb true)], [(2, bx 175 [cs a3.Name, ci a3.Thick, ci a3.Width, ci a3.Allow, ci a3.Wane, tl e_i64 default a3.Lengths, tl e_i64 default a3.Prices, ci a4.X.A, ci a4.X.B, ci a4.Y.A, ci a4.Y.B, ci v23, .own 5 0 3 v25.length, .own 8 0 7 o39.length]), (5, ro 0 195 3 v25.length (rf e_Worth_zone v25)), (8, ro 0 59 7 o39.length (rf e_Defect o39))]⟩ o0 (by kernel_rfl) (by kernel_rfl) ?_
          obtain rfl := Option.some.inj hm
          refine H_swap 5 0 (by kernel_rfl) ?_
          refine H_swap 8 1 (by kernel_rfl) ?_
          refine R_ret (by kernel_rfl) ?_
          exact ret_mk (by kernel_rfl) (by kernel_rfl)
      · rcases Bool.eq_false_or_eq_true (!(((w64 (a4.X.B - a4.X.A)) == v18.1) && (((w64 (a4.Y.B - a4.Y.A)) == v18.2) && true))) with b20 | b20
        · replace hm := bif_t b20 hm
          refine R_rn Tryd.f100 124 5 [(5, dfx true)] [] 5 ⟨[(0, vc (tl e_Slice default a1)), (1, vc (tl e_Defect default a2)), (6, vp 0 0), (7, vp 1 0), (8, vp 2 0), (68, vb (!(((w64 (a4.X.B - a4.X.A)) == v18.2) && (((w64 (a4.Y.B - a4.Y.A)) == v18.1) && true))))], [(0, bx 43 [cs a3.Name, ci a3.Thick, ci a3.Width, ci a3.Allow, ci a3.Wane, tl e_i64 default a3.Lengths, tl e_i64 default a3.Prices]), (1, bx 35 [ci a4.X.A, ci a4.X.B, ci a4.Y.A, ci a4.Y.B]), (2, bx 175 [cs (ByteArray.mk #[]), ci 0, ci 0, ci 0, ci 0, .emp, .emp, ci 0, ci 0, ci 0, ci 0, ci 0, .emp, .emp])]⟩ (o1 b20) (by kernel_rfl) (by kernel_rfl) ?_
          exact J_mk (!(((w64 (a4.X.B - a4.X.A)) == v18.2) && (((w64 (a4.Y.B - a4.Y.A)) == v18.1) && true))) hm (by kernel_rfl) (by kernel_rfl)
        · replace hm := bif_f b20 hm
          refine R_rn Tryd.f100 124 5 [(5, dfx false)] [] 5 ⟨[(0, vc (tl e_Slice default a1)), (1, vc (tl e_Defect default a2)), (6, vp 0 0), (7, vp 1 0), (8, vp 2 0), (68, vb false)], [(0, bx 43 [cs a3.Name, ci a3.Thick, ci a3.Width, ci a3.Allow, ci a3.Wane, tl e_i64 default a3.Lengths, tl e_i64 default a3.Prices]), (1, bx 35 [ci a4.X.A, ci a4.X.B, ci a4.Y.A, ci a4.Y.B]), (2, bx 175 [cs (ByteArray.mk #[]), ci 0, ci 0, ci 0, ci 0, .emp, .emp, ci 0, ci 0, ci 0, ci 0, ci 0, .emp, .emp])]⟩ (o1 b20) (by kernel_rfl) (by kernel_rfl) ?_
          exact J_mk (false) hm (by kernel_rfl) (by kernel_rfl)
  · obtain ⟨v5, h6, hm⟩ := bind_s hm
    rcases Bool.eq_false_or_eq_true (v5 != 0) with b7 | b7
    · replace hm := bif_t b7 hm
      refine R_rn Tryd.f100 12 1 [(1, dex (cen [] [] 3 0 (solid_Check_x v5) (solid_Check_o v5) [17] [])), (3, dfx true)] [] 3 ⟨[(0, vc (tl e_Slice default a1)), (1, vc (tl e_Defect default a2)), (6, vp 0 0), (7, vp 1 0), (8, vp 2 0), (35, vb true)], [(0, bx 43 [cs a3.Name, ci a3.Thick, ci a3.Width, ci a3.Allow, ci a3.Wane, tl e_i64 default a3.Lengths, tl e_i64 default a3.Prices]), (1, bx 35 [ci a4.X.A, ci a4.X.B, ci a4.Y.A, ci a4.Y.B]), (2, bx 175 [cs (ByteArray.mk #[]), ci 0, ci 0, ci 0, ci 0, .emp, .emp, ci 0, ci 0, ci 0, ci 0, ci 0, .emp, .emp])]⟩ (o1 (And.intro (callS (K := (kx E 100 0)) ⟨[(17, vc (tl e_Slice default a1))], []⟩ (opAt (rg Tryd.f100 12) 1) [] [] 3 o0 rfl (solid_Check_ok a1 v5 h6) (.inl rfl) (by kernel_rfl)) b7)) (by kernel_rfl) (by kernel_rfl) ?_
      exact J_mk (true) hm (by kernel_rfl) (by kernel_rfl)
    · replace hm := bif_f b7 hm
      obtain ⟨v8, h9, hm⟩ := bind_s hm
      rcases Bool.eq_false_or_eq_true (v8 != 0) with b10 | b10
      · replace hm := bif_t b10 hm
        refine R_rn Tryd.f100 12 1 [(1, dex (cen [] [] 3 0 (solid_Check_x v5) (solid_Check_o v5) [17] [])), (3, dfx false), (5, dex (cen [] [] 3 0 (defect_Check_x v8) (defect_Check_o v8) [20, 21] [])), (8, dfx true)] [] 3 ⟨[(0, vc (tl e_Slice default a1)), (1, vc (tl e_Defect default a2)), (6, vp 0 0), (7, vp 1 0), (8, vp 2 0), (35, vb true)], [(0, bx 43 [cs a3.Name, ci a3.Thick, ci a3.Width, ci a3.Allow, ci a3.Wane, tl e_i64 default a3.Lengths, tl e_i64 default a3.Prices]), (1, bx 35 [ci a4.X.A, ci a4.X.B, ci a4.Y.A, ci a4.Y.B]), (2, bx 175 [cs (ByteArray.mk #[]), ci 0, ci 0, ci 0, ci 0, .emp, .emp, ci 0, ci 0, ci 0, ci 0, ci 0, .emp, .emp])]⟩ (o1 (And.intro (callS (K := (kx E 100 0)) ⟨[(17, vc (tl e_Slice default a1))], []⟩ (opAt (rg Tryd.f100 12) 1) [] [] 3 o0 rfl (solid_Check_ok a1 v5 h6) (.inl rfl) (by kernel_rfl)) (And.intro b7 (And.intro (callS (K := (kx E 100 0)) ⟨[(20, vb false), (21, vc (tl e_Defect default a2))], []⟩ (opAt (rg Tryd.f100 12) 5) [] [] 3 o0 rfl (defect_Check_ok a2 v8 h9) (.inl rfl) (by kernel_rfl)) b10)))) (by kernel_rfl) (by kernel_rfl) ?_
        exact J_mk (true) hm (by kernel_rfl) (by kernel_rfl)
      · replace hm := bif_f b10 hm
        obtain ⟨v11, h12, hm⟩ := bind_s hm
        rcases Bool.eq_false_or_eq_true (v11 != 0) with b13 | b13
        · replace hm := bif_t b13 hm
          refine R_rn Tryd.f100 12 1 [(1, dex (cen [] [] 3 0 (solid_Check_x v5) (solid_Check_o v5) [17] [])), (3, dfx false), (5, dex (cen [] [] 3 0 (defect_Check_x v8) (defect_Check_o v8) [20, 21] [])), (8, dfx false), (10, drw 3 0 (rf e_Product ([a3] : List Product))), (11, dex (cen [] [] 4 0 (product_Check_x v11) (product_Check_o v11) [25, 27] [3])), (14, dfx true)] [] 3 ⟨[(0, vc (tl e_Slice default a1)), (1, vc (tl e_Defect default a2)), (6, vp 0 0), (7, vp 1 0), (8, vp 2 0), (35, vb true)], [(0, bx 43 [cs a3.Name, ci a3.Thick, ci a3.Width, ci a3.Allow, ci a3.Wane, tl e_i64 default a3.Lengths, tl e_i64 default a3.Prices]), (1, bx 35 [ci a4.X.A, ci a4.X.B, ci a4.Y.A, ci a4.Y.B]), (2, bx 175 [cs (ByteArray.mk #[]), ci 0, ci 0, ci 0, ci 0, .emp, .emp, ci 0, ci 0, ci 0, ci 0, ci 0, .emp, .emp])]⟩ (o1 (And.intro (callS (K := (kx E 100 0)) ⟨[(17, vc (tl e_Slice default a1))], []⟩ (opAt (rg Tryd.f100 12) 1) [] [] 3 o0 rfl (solid_Check_ok a1 v5 h6) (.inl rfl) (by kernel_rfl)) (And.intro b7 (And.intro (callS (K := (kx E 100 0)) ⟨[(20, vb false), (21, vc (tl e_Defect default a2))], []⟩ (opAt (rg Tryd.f100 12) 5) [] [] 3 o0 rfl (defect_Check_ok a2 v8 h9) (.inl rfl) (by kernel_rfl)) (And.intro b10 (And.intro (litP e_Product default 7 (fun _ => rfl) ([a3] : List Product) 1 rfl) (And.intro (callS (K := (kx E 100 0)) (xs' := [.one (.lst 1 (rf e_Product ([a3] : List Product)))]) (b := false) ⟨[(25, vb false), (27, vo 3 0 7 1)], [(3, ro 0 43 7 1 (rf e_Product ([a3] : List Product)))]⟩ (opAt (rg Tryd.f100 12) 11) [] [] 4 (o1 (Nat.le_refl 1)) (by simp only [tl, rf, show ([a3] : List Product).length = 1 from rfl]) (product_Check_ok ([a3] : List Product) v11 h12) (.inr ⟨(by kernel_rfl), product_Check_f v11⟩) (by kernel_rfl)) b13))))))) (by kernel_rfl) (by kernel_rfl) ?_
          exact J_mk (true) hm (by kernel_rfl) (by kernel_rfl)
        · replace hm := bif_f b13 hm
          obtain ⟨v14, h15, hm⟩ := bind_s hm
          refine R_rn Tryd.f100 12 1 [(1, dex (cen [] [] 3 0 (solid_Check_x v5) (solid_Check_o v5) [17] [])), (3, dfx false), (5, dex (cen [] [] 3 0 (defect_Check_x v8) (defect_Check_o v8) [20, 21] [])), (8, dfx false), (10, drw 3 0 (rf e_Product ([a3] : List Product))), (11, dex (cen [] [] 4 0 (product_Check_x v11) (product_Check_o v11) [25, 27] [3])), (14, dfx false), (16, dex (cen [] [] 4 0 (worth_isRect_x v14) (worth_isRect_o v14) [31, 32] []))] [] 3 ⟨[(0, vc (tl e_Slice default a1)), (1, vc (tl e_Defect default a2)), (6, vp 0 0), (7, vp 1 0), (8, vp 2 0), (35, vb (!v14))], [(0, bx 43 [cs a3.Name, ci a3.Thick, ci a3.Width, ci a3.Allow, ci a3.Wane, tl e_i64 default a3.Lengths, tl e_i64 default a3.Prices]), (1, bx 35 [ci a4.X.A, ci a4.X.B, ci a4.Y.A, ci a4.Y.B]), (2, bx 175 [cs (ByteArray.mk #[]), ci 0, ci 0, ci 0, ci 0, .emp, .emp, ci 0, ci 0, ci 0, ci 0, ci 0, .emp, .emp])]⟩ (o1 (And.intro (callS (K := (kx E 100 0)) ⟨[(17, vc (tl e_Slice default a1))], []⟩ (opAt (rg Tryd.f100 12) 1) [] [] 3 o0 rfl (solid_Check_ok a1 v5 h6) (.inl rfl) (by kernel_rfl)) (And.intro b7 (And.intro (callS (K := (kx E 100 0)) ⟨[(20, vb false), (21, vc (tl e_Defect default a2))], []⟩ (opAt (rg Tryd.f100 12) 5) [] [] 3 o0 rfl (defect_Check_ok a2 v8 h9) (.inl rfl) (by kernel_rfl)) (And.intro b10 (And.intro (litP e_Product default 7 (fun _ => rfl) ([a3] : List Product) 1 rfl) (And.intro (callS (K := (kx E 100 0)) (xs' := [.one (.lst 1 (rf e_Product ([a3] : List Product)))]) (b := false) ⟨[(25, vb false), (27, vo 3 0 7 1)], [(3, ro 0 43 7 1 (rf e_Product ([a3] : List Product)))]⟩ (opAt (rg Tryd.f100 12) 11) [] [] 4 (o1 (Nat.le_refl 1)) (by simp only [tl, rf, show ([a3] : List Product).length = 1 from rfl]) (product_Check_ok ([a3] : List Product) v11 h12) (.inr ⟨(by kernel_rfl), product_Check_f v11⟩) (by kernel_rfl)) (And.intro b13 (callS (K := (kx E 100 0)) ⟨[(31, vb false), (32, va [ci a4.X.A, ci a4.X.B, ci a4.Y.A, ci a4.Y.B])], []⟩ (opAt (rg Tryd.f100 12) 16) [] [] 4 o0 rfl (worth_isRect_ok a4 v14 h15) (.inl rfl) (by kernel_rfl)))))))))) (by kernel_rfl) (by kernel_rfl) ?_
          exact J_mk (!v14) hm (by kernel_rfl) (by kernel_rfl)

end Saw
end Go.SL

namespace Go.SL
namespace Saw
open Go.Proofs
set_option maxHeartbeats 4000000

def worth_isStep_x (r : Bool) : V := vb r

def worth_isStep_o (r : Bool) : List (Nat × (Nat × O)) := []

theorem worth_isStep_f (r : Bool) : Frozen (worth_isStep_o r) := by
  intro i k o h
  unfold worth_isStep_o at h
  cases h

def worth_isStep_k1_S (x3 : Bool) : St :=
  ⟨[(2, vb x3)], []⟩

set_option maxRecDepth 100000 in
theorem worth_isStep_ok (a1 : Int) (r : Bool) (hm : worth_isStep a1 = some r) : CtX Tryd.prog globs 96 0 0 [.one (ci a1)] [] (worth_isStep_x r) (worth_isStep_o r) := by
  unfold worth_isStep at hm
  refine CtX_of_E (fn := Tryd.f96) (c := nd Tryd.f96 1) (nt := 9) (by kernel_rfl) (by kernel_rfl) (by kernel_rfl) (by kernel_rfl) fun E => ?_
  refine R_sq Tryd.f96 2 3 (by kernel_rfl) ?_
  refine R_rn Tryd.f96 2 0 [] [] 0 ⟨[(0, vi a1)], []⟩ o0 (by kernel_rfl) (by kernel_rfl) ?_
  refine R_join (ι := Bool) (nd Tryd.f96 6) (nd Tryd.f96 7) (by kernel_rfl) (fun p => worth_isStep_k1_S p) (fun p => worth_isStep_k1 p = some r) ?_ ?_
  · rintro x3 hm
    show H _ (worth_isStep_k1_S x3) (nd Tryd.f96 7) _
    obtain rfl := Option.some.inj hm
    refine R_ret (by kernel_rfl) ?_
    exact ret_mk (by kernel_rfl) (by kernel_rfl)
  · rcases Bool.eq_false_or_eq_true (decide (a1 ≥ 1)) with b2 | b2
    · replace hm := bif_t b2 hm
      refine R_rn Tryd.f96 6 1 [(2, dfx true)] [] 0 ⟨[(2, vb (decide (a1 ≤ 20000)))], []⟩ (o1 b2) (by kernel_rfl) (by kernel_rfl) ?_
      exact J_mk (decide (a1 ≤ 20000)) hm (by kernel_rfl) (by kernel_rfl)
    · replace hm := bif_f b2 hm
      refine R_rn Tryd.f96 6 1 [(2, dfx false)] [] 0 ⟨[(2, vb false)], []⟩ (o1 b2) (by kernel_rfl) (by kernel_rfl) ?_
      exact J_mk (false) hm (by kernel_rfl) (by kernel_rfl)

end Saw
end Go.SL

namespace Go.SL
namespace Saw
open Go.Proofs
set_option maxHeartbeats 4000000

def worth_isFine_x (r : Bool) : V := vb r

def worth_isFine_o (r : Bool) : List (Nat × (Nat × O)) := []

theorem worth_isFine_f (r : Bool) : Frozen (worth_isFine_o r) := by
  intro i k o h
  unfold worth_isFine_o at h
  cases h

def worth_isFine_k1_S (x3 : Bool) : St :=
  ⟨[(2, vb x3)], []⟩

set_option maxRecDepth 100000 in
theorem worth_isFine_ok (a1 : Int) (r : Bool) (hm : worth_isFine a1 = some r) : CtX Tryd.prog globs 97 0 0 [.one (ci a1)] [] (worth_isFine_x r) (worth_isFine_o r) := by
  unfold worth_isFine at hm
  refine CtX_of_E (fn := Tryd.f97) (c := nd Tryd.f97 1) (nt := 9) (by kernel_rfl) (by kernel_rfl) (by kernel_rfl) (by kernel_rfl) fun E => ?_
  refine R_sq Tryd.f97 2 3 (by kernel_rfl) ?_
  refine R_rn Tryd.f97 2 0 [] [] 0 ⟨[(0, vi a1)], []⟩ o0 (by kernel_rfl) (by kernel_rfl) ?_
  refine R_join (ι := Bool) (nd Tryd.f97 6) (nd Tryd.f97 7) (by kernel_rfl) (fun p => worth_isFine_k1_S p) (fun p => worth_isFine_k1 p = some r) ?_ ?_
  · rintro x3 hm
    show H _ (worth_isFine_k1_S x3) (nd Tryd.f97 7) _
    obtain rfl := Option.some.inj hm
    refine R_ret (by kernel_rfl) ?_
    exact ret_mk (by kernel_rfl) (by kernel_rfl)
  · rcases Bool.eq_false_or_eq_true (decide (a1 ≥ 0)) with b2 | b2
    · replace hm := bif_t b2 hm
      refine R_rn Tryd.f97 6 1 [(2, dfx true)] [] 0 ⟨[(2, vb (decide (a1 ≤ 1000000)))], []⟩ (o1 b2) (by kernel_rfl) (by kernel_rfl) ?_
      exact J_mk (decide (a1 ≤ 1000000)) hm (by kernel_rfl) (by kernel_rfl)
    · replace hm := bif_f b2 hm
      refine R_rn Tryd.f97 6 1 [(2, dfx false)] [] 0 ⟨[(2, vb false)], []⟩ (o1 b2) (by kernel_rfl) (by kernel_rfl) ?_
      exact J_mk (false) hm (by kernel_rfl) (by kernel_rfl)

end Saw
end Go.SL
