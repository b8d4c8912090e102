import Derived.Test.YtcppgjcniljkcaaDoorPBase
import Derived.Test.YtcppgjcniljkcaaDoorPFa5
import Derived.Test.YtcppgjcniljkcaaDoorPFa2
import Derived.Test.YtcppgjcniljkcaaDoorPLlaw09awake
import Derived.Test.YtcppgjcniljkcaaDoorPFa3
import Derived.Test.YtcppgjcniljkcaaDoorPFa4
set_option linter.unusedVariables false
set_option linter.unusedSimpArgs false
namespace Go.SL
namespace Saw
open Go.Proofs
set_option maxHeartbeats 4000000

def law09_PolyConvex_x (r : Bool) : V := vb r

def law09_PolyConvex_o (r : Bool) : List (Nat × (Nat × O)) := []

theorem law09_PolyConvex_f (r : Bool) : Frozen (law09_PolyConvex_o r) := by
  intro i k o h
  unfold law09_PolyConvex_o at h
  cases h

def law09_PolyConvex_L2_S (a1 : List Point) (v9 : (List Point)) (l11 : List Point) (l11n : Nat) (x12 : Int) : St :=
  ⟨[(0, vc (tl e_Point default a1)), (3, vo 0 0 2 v9.length), (4, vo 1 0 2 l11n), (5, vi x12)], [(0, ro 0 38 2 v9.length (rf e_Point v9)), (1, ro 0 38 2 l11n (rf e_Point l11))]⟩

def law09_PolyConvex_L2_T (a1 : List Point) (v9 : (List Point)) (l16 : List Point) : St :=
  ⟨[(0, vc (tl e_Point default a1)), (3, vo 0 0 2 v9.length), (4, vo 1 0 2 l16.length)], [(0, ro 0 38 2 v9.length (rf e_Point v9)), (1, ro 0 38 2 l16.length (rf e_Point l16))]⟩

def law09_PolyConvex_L5_S (a1 : List Point) (x32 : Int) (x34 : Int) : St :=
  ⟨[(0, vc (tl e_Point default a1)), (6, vi x32), (7, vi x34)], []⟩

def law09_PolyConvex_L5_T (a1 : List Point) (x32 : Int) : St :=
  ⟨[(0, vc (tl e_Point default a1)), (6, vi x32)], []⟩

def law09_PolyConvex_L4_S (a1 : List Point) (x32 : Int) : St :=
  ⟨[(0, vc (tl e_Point default a1)), (6, vi x32)], []⟩

def law09_PolyConvex_L4_T : St :=
  ⟨[], []⟩

def law09_PolyConvex_k7_S (a1 : List Point) (v9 : (List Point)) (x52 : Int) (x61 : Bool) : St :=
  ⟨[(0, vc (tl e_Point default a1)), (3, vo 0 0 2 v9.length), (8, vi x52), (104, vb x61)], [(0, ro 0 38 2 v9.length (rf e_Point v9))]⟩

def law09_PolyConvex_L6_S (a1 : List Point) (v9 : (List Point)) (x52 : Int) : St :=
  ⟨[(0, vc (tl e_Point default a1)), (3, vo 0 0 2 v9.length), (8, vi x52)], [(0, ro 0 38 2 v9.length (rf e_Point v9))]⟩

def law09_PolyConvex_L6_T (a1 : List Point) (v9 : (List Point)) : St :=
  ⟨[(0, vc (tl e_Point default a1)), (3, vo 0 0 2 v9.length)], [(0, ro 0 38 2 v9.length (rf e_Point v9))]⟩

def law09_PolyConvex_k10_S (a1 : List Point) (v9 : (List Point)) (x67 : Int) (x77 : Int) (x82 : Bool) : St :=
  ⟨[(0, vc (tl e_Point default a1)), (3, vo 0 0 2 v9.length), (9, vi x67), (10, vb x82), (11, vi x77)], [(0, ro 0 38 2 v9.length (rf e_Point v9))]⟩

def law09_PolyConvex_L9_S (a1 : List Point) (v9 : (List Point)) (x67 : Int) (x76 : Bool) (x77 : Int) : St :=
  ⟨[(0, vc (tl e_Point default a1)), (3, vo 0 0 2 v9.length), (9, vi x67), (10, vb x76), (11, vi x77)], [(0, ro 0 38 2 v9.length (rf e_Point v9))]⟩

def law09_PolyConvex_L9_T (a1 : List Point) (v9 : (List Point)) (x67 : Int) (x83 : Bool) : St :=
  ⟨[(0, vc (tl e_Point default a1)), (3, vo 0 0 2 v9.length), (9, vi x67), (10, vb x83)], [(0, ro 0 38 2 v9.length (rf e_Point v9))]⟩

def law09_PolyConvex_L8_S (a1 : List Point) (v9 : (List Point)) (x67 : Int) : St :=
  ⟨[(0, vc (tl e_Point default a1)), (3, vo 0 0 2 v9.length), (9, vi x67)], [(0, ro 0 38 2 v9.length (rf e_Point v9))]⟩

def law09_PolyConvex_L8_T : St :=
  ⟨[], []⟩

def law09_PolyConvex_k3_S (a1 : List Point) (v9 : (List Point)) (x29 : Bool) : St :=
  ⟨[(0, vc (tl e_Point default a1)), (3, vo 0 0 2 v9.length), (53, vb x29)], [(0, ro 0 38 2 v9.length (rf e_Point v9))]⟩

def law09_PolyConvex_k1_S (a1 : List Point) (x5 : Bool) : St :=
  ⟨[(0, vc (tl e_Point default a1)), (19, vb x5)], []⟩

set_option maxRecDepth 100000 in
theorem law09_PolyConvex_L2_ok (E : Env 0) (a1 : List Point) (v9 : (List Point)) : ∀ (n : Nat) (l11 : List Point) (l11n : Nat) (x12 : Int) (res : (List Point)), l11.length = l11n → law09_PolyConvex_L2 a1 n l11 x12 = some res → HL (kx E 154 0) (nd Tryd.f9 500) (loopQ0 0 (fun o => law09_PolyConvex_L2_T a1 v9 o) res) n (law09_PolyConvex_L2_S a1 v9 l11 l11n x12) := by
  intro n
  induction n with
  | zero =>
    intro l11 l11n x12 res hl0 hm
    cases hm
  | succ n ih =>
    intro l11 l11n x12 res hl0 hm
    subst hl0
    refine HL_succ ?_
    refine R_sq Tryd.f9 1000 1001 (by kernel_rfl) ?_
    refine R_sq Tryd.f9 2000 2001 (by kernel_rfl) ?_
    refine R_rn Tryd.f9 2000 6 [] [] 2 ⟨[(0, vc (tl e_Point default a1)), (3, vo 0 0 2 v9.length), (4, vo 1 0 2 l11.length), (5, vi x12), (27, vb (decide (x12 ≥ 0)))], [(0, ro 0 38 2 v9.length (rf e_Point v9)), (1, ro 0 38 2 l11.length (rf e_Point l11))]⟩ o0 (by kernel_rfl) (by kernel_rfl) ?_
    refine R_cn Tryd.f9 (.tmp 27) 4002 4003 (by kernel_rfl) (decide (x12 ≥ 0)) (by kernel_rfl) (fun b13 => ?_) (fun b13 => ?_)
    · replace hm := bif_t b13 hm
      refine R_skip (by kernel_rfl) ?_
      refine R_sq Tryd.f9 2002 2003 (by kernel_rfl) ?_
      refine R_bk Tryd.f9 1 4004 (by kernel_rfl) ?_
      obtain ⟨g14, hm⟩ := bif_n hm
      obtain ⟨g15, hm⟩ := bif_n hm
      refine R_rn Tryd.f9 4004 8 [(5, drw 2 0 (rf e_Point ([(a1.getD x12.toNat default)] : List Point))), (6, drw 1 1 (rf e_Point (l11 ++ ([(a1.getD x12.toNat default)] : List Point))))] [] 2 ⟨[(0, vc (tl e_Point default a1)), (3, vo 0 0 2 v9.length), (4, vo 1 1 2 (l11.length + 1)), (5, vi x12)], [(0, ro 0 38 2 v9.length (rf e_Point v9)), (1, ro 1 38 2 (l11.length + 1) (rf e_Point (l11 ++ ([(a1.getD x12.toNat default)] : List Point))))]⟩ (o1 (And.intro (inb_of g14) (And.intro (litP e_Point default 2 (fun _ => rfl) ([(a1.getD x12.toNat default)] : List Point) 1 rfl) (apP e_Point default l11 ([(a1.getD x12.toNat default)] : List Point) l11.length 1 2 16 (1 ≤ 1) (Nat.le_refl _) rfl rfl (fun _ => rfl) (room_of g15))))) (by kernel_rfl) (by kernel_rfl) ?_
      refine R_rn Tryd.f9 2003 7 [] [] 3 ⟨[(0, vc (tl e_Point default a1)), (3, vo 0 0 2 v9.length), (4, vo 1 1 2 (l11.length + 1)), (5, vi (w64 (x12 - 1)))], [(0, ro 0 38 2 v9.length (rf e_Point v9)), (1, ro 1 38 2 (l11.length + 1) (rf e_Point (l11 ++ ([(a1.getD x12.toNat default)] : List Point))))]⟩ o0 (by kernel_rfl) (by kernel_rfl) ?_
      exact HL_enter (law09_PolyConvex_L2_S a1 v9 (l11 ++ ([(a1.getD x12.toNat default)] : List Point)) (l11.length + 1) (w64 (x12 - 1))) (by kernel_rfl) (by kernel_rfl) (ih (l11 ++ ([(a1.getD x12.toNat default)] : List Point)) (l11.length + 1) (w64 (x12 - 1)) _ (len_app rfl rfl) hm)
    · replace hm := bif_f b13 hm
      refine R_exit 0 (by kernel_rfl) ?_
      obtain rfl := Option.some.inj hm
      exact L0_mk (by kernel_rfl) (by kernel_rfl)

set_option maxRecDepth 100000 in
theorem law09_PolyConvex_L5_ok (E : Env 0) (a1 : List Point) (x32 : Int) : ∀ (n : Nat) (x34 : Int) (res : Bool ⊕ Unit), law09_PolyConvex_L5 a1 x32 n x34 = some res → HL (kx E 154 0) (nd Tryd.f9 1042724) (loopQ 4 (fun o => law09_PolyConvex_L5_T a1 x32) (fun v st => RetQ Tryd.prog Tryd.f9 (law09_PolyConvex_x v) (law09_PolyConvex_o v) .ret st) res) n (law09_PolyConvex_L5_S a1 x32 x34) := by
  intro n
  induction n with
  | zero =>
    intro x34 res hm
    cases hm
  | succ n ih =>
    intro x34 res hm
    refine HL_succ ?_
    refine R_sq Tryd.f9 2085448 2085449 (by kernel_rfl) ?_
    refine R_sq Tryd.f9 4170896 4170897 (by kernel_rfl) ?_
    refine R_rn Tryd.f9 4170896 16 [] [] 4 ⟨[(0, vc (tl e_Point default a1)), (6, vi x32), (7, vi x34), (65, vb (decide (x34 < x32)))], []⟩ o0 (by kernel_rfl) (by kernel_rfl) ?_
    refine R_cn Tryd.f9 (.tmp 65) 8341794 8341795 (by kernel_rfl) (decide (x34 < x32)) (by kernel_rfl) (fun b35 => ?_) (fun b35 => ?_)
    · replace hm := bif_t b35 hm
      refine R_skip (by kernel_rfl) ?_
      refine R_sq Tryd.f9 4170898 4170899 (by kernel_rfl) ?_
      refine R_bk Tryd.f9 5 8341796 (by kernel_rfl) ?_
      refine R_sq Tryd.f9 16683592 16683593 (by kernel_rfl) ?_
      obtain ⟨g36, hm⟩ := bif_n hm
      obtain ⟨g37, hm⟩ := bif_n hm
      obtain ⟨g38, hm⟩ := bif_n hm
      obtain ⟨v39, h40, hm⟩ := bind_s hm
      refine R_dr Tryd.f9 16683592 18 [] [(11, dex (cen [] [] 4 0 (ref09_Cross_x v39) (ref09_Cross_o v39) [70, 74, 78] []))] [] [0, 1, 3, 0, 0, 24, 56, 0, 0, 384, 896, 2047, 4095] 4 ⟨[(0, vc (tl e_Point default a1)), (6, vi x32), (7, vi x34), (80, vb (v39 != 0))], []⟩ (o1 (And.intro (inb_of g36) (And.intro (inb_of g37) (And.intro (inb_of g38) (callS (K := (kx E 154 0)) ⟨[(70, va [ci ((a1.getD (0 : Int).toNat default).X), ci ((a1.getD (0 : Int).toNat default).Y)]), (74, va [ci ((a1.getD x34.toNat default).X), ci ((a1.getD x34.toNat default).Y)]), (78, va [ci ((a1.getD x32.toNat default).X), ci ((a1.getD x32.toNat default).Y)])], []⟩ (opAt (rg Tryd.f9 16683592) 11) [] [] 4 o0 rfl (ref09_Cross_ok (a1.getD (0 : Int).toNat default) (a1.getD x34.toNat default) (a1.getD x32.toNat default) v39 h40) (.inl rfl) (by kernel_rfl)))))) (by kernel_rfl) (by kernel_rfl) ?_
      refine R_cn Tryd.f9 (.tmp 80) 33367186 33367187 (by kernel_rfl) (v39 != 0) (by kernel_rfl) (fun b41 => ?_) (fun b41 => ?_)
      · replace hm := bif_t b41 hm
        refine R_sq Tryd.f9 66734372 66734373 (by kernel_rfl) ?_
        refine R_rn Tryd.f9 66734372 19 [] [] 4 ⟨[(2, vb false)], []⟩ o0 (by kernel_rfl) (by kernel_rfl) ?_
        obtain rfl := Option.some.inj hm
        refine R_ret (by kernel_rfl) ?_
        refine L1_ret false ?_
        exact ret_mk (by kernel_rfl) (by kernel_rfl)
      · replace hm := bif_f b41 hm
        refine R_skip (by kernel_rfl) ?_
        refine R_rn Tryd.f9 4170899 17 [] [] 4 ⟨[(0, vc (tl e_Point default a1)), (6, vi x32), (7, vi (w64 (x34 + 1)))], []⟩ o0 (by kernel_rfl) (by kernel_rfl) ?_
        exact HL_enter (law09_PolyConvex_L5_S a1 x32 (w64 (x34 + 1))) (by kernel_rfl) (by kernel_rfl) (ih (w64 (x34 + 1)) _ hm)
    · replace hm := bif_f b35 hm
      refine R_exit 4 (by kernel_rfl) ?_
      obtain rfl := Option.some.inj hm
      exact L1_mk () (by kernel_rfl) (by kernel_rfl)

set_option maxRecDepth 100000 in
theorem law09_PolyConvex_L4_ok (E : Env 0) (a1 : List Point) : ∀ (n : Nat) (x32 : Int) (res : Bool ⊕ Unit), law09_PolyConvex_L4 a1 n x32 = some res → HL (kx E 154 0) (nd Tryd.f9 16292) (loopQ 2 (fun o => law09_PolyConvex_L4_T) (fun v st => RetQ Tryd.prog Tryd.f9 (law09_PolyConvex_x v) (law09_PolyConvex_o v) .ret st) res) n (law09_PolyConvex_L4_S a1 x32) := by
  intro n
  induction n with
  | zero =>
    intro x32 res hm
    cases hm
  | succ n ih =>
    intro x32 res hm
    refine HL_succ ?_
    refine R_sq Tryd.f9 32584 32585 (by kernel_rfl) ?_
    refine R_sq Tryd.f9 65168 65169 (by kernel_rfl) ?_
    refine R_rn Tryd.f9 65168 13 [] [] 4 ⟨[(0, vc (tl e_Point default a1)), (6, vi x32), (60, vb (decide (x32 < ((a1.length : Nat) : Int))))], []⟩ o0 (by kernel_rfl) (by kernel_rfl) ?_
    refine R_cn Tryd.f9 (.tmp 60) 130338 130339 (by kernel_rfl) (decide (x32 < ((a1.length : Nat) : Int))) (by kernel_rfl) (fun b33 => ?_) (fun b33 => ?_)
    · replace hm := bif_t b33 hm
      refine R_skip (by kernel_rfl) ?_
      refine R_sq Tryd.f9 65170 65171 (by kernel_rfl) ?_
      refine R_bk Tryd.f9 3 130340 (by kernel_rfl) ?_
      refine R_sq Tryd.f9 260680 260681 (by kernel_rfl) ?_
      refine R_rn Tryd.f9 260680 15 [] [] 4 ⟨[(0, vc (tl e_Point default a1)), (6, vi x32), (7, vi 0)], []⟩ o0 (by kernel_rfl) (by kernel_rfl) ?_
      obtain ⟨u44, h43, hm⟩ := bind_s hm
      refine R_loop1 (nd Tryd.f9 1042724) 4 (by kernel_rfl) FUEL (fun o => law09_PolyConvex_L5_T a1 x32) (fun v st => RetQ Tryd.prog Tryd.f9 (law09_PolyConvex_x v) (law09_PolyConvex_o v) .ret st) u44 (HL_enter (law09_PolyConvex_L5_S a1 x32 0) (by kernel_rfl) (by kernel_rfl) (law09_PolyConvex_L5_ok E a1 x32 FUEL 0 u44 h43)) ?_ ?_
      · rintro v45 rfl st hr
        obtain rfl := Option.some.inj hm
        exact L1_ret v45 hr
      · rintro o42 rfl
        replace hm : _ = some res := hm
        refine R_rn Tryd.f9 65171 14 [] [] 4 ⟨[(0, vc (tl e_Point default a1)), (6, vi (w64 (x32 + 1)))], []⟩ o0 (by kernel_rfl) (by kernel_rfl) ?_
        exact HL_enter (law09_PolyConvex_L4_S a1 (w64 (x32 + 1))) (by kernel_rfl) (by kernel_rfl) (ih (w64 (x32 + 1)) _ hm)
    · replace hm := bif_f b33 hm
      refine R_exit 2 (by kernel_rfl) ?_
      obtain rfl := Option.some.inj hm
      exact L1_mk () (by kernel_rfl) (by kernel_rfl)

set_option maxRecDepth 100000 in
theorem law09_PolyConvex_L6_ok (E : Env 0) (a1 : List Point) (v9 : (List Point)) : ∀ (n : Nat) (x52 : Int) (res : Bool ⊕ Unit), law09_PolyConvex_L6 a1 v9 n x52 = some res → HL (kx E 154 0) (nd Tryd.f9 4084) (loopQ 6 (fun o => law09_PolyConvex_L6_T a1 v9) (fun v st => RetQ Tryd.prog Tryd.f9 (law09_PolyConvex_x v) (law09_PolyConvex_o v) .ret st) res) n (law09_PolyConvex_L6_S a1 v9 x52) := by
  intro n
  induction n with
  | zero =>
    intro x52 res hm
    cases hm
  | succ n ih =>
    intro x52 res hm
    refine HL_succ ?_
    refine R_sq Tryd.f9 8168 8169 (by kernel_rfl) ?_
    refine R_sq Tryd.f9 16336 16337 (by kernel_rfl) ?_
    refine R_rn Tryd.f9 16336 22 [] [] 4 ⟨[(0, vc (tl e_Point default a1)), (3, vo 0 0 2 v9.length), (8, vi x52), (85, vb (decide (x52 < ((a1.length : Nat) : Int))))], [(0, ro 0 38 2 v9.length (rf e_Point v9))]⟩ o0 (by kernel_rfl) (by kernel_rfl) ?_
    refine R_cn Tryd.f9 (.tmp 85) 32674 32675 (by kernel_rfl) (decide (x52 < ((a1.length : Nat) : Int))) (by kernel_rfl) (fun b53 => ?_) (fun b53 => ?_)
    · replace hm := bif_t b53 hm
      refine R_skip (by kernel_rfl) ?_
      refine R_sq Tryd.f9 16338 16339 (by kernel_rfl) ?_
      refine R_bk Tryd.f9 7 32676 (by kernel_rfl) ?_
      refine R_join (ι := Bool) (nd Tryd.f9 65352) (nd Tryd.f9 65353) (by kernel_rfl) (fun p => law09_PolyConvex_k7_S a1 v9 x52 p) (fun p => law09_PolyConvex_k7 x52 (law09_PolyConvex_L6 a1 v9 n) p = some res) ?_ ?_
      · rintro x61 hm
        show H _ (law09_PolyConvex_k7_S a1 v9 x52 x61) (nd Tryd.f9 65353) _
        refine R_cn Tryd.f9 (.tmp 104) 130706 130707 (by kernel_rfl) x61 (by kernel_rfl) (fun b62 => ?_) (fun b62 => ?_)
        · replace hm := bif_t b62 hm
          refine R_sq Tryd.f9 261412 261413 (by kernel_rfl) ?_
          refine R_rn Tryd.f9 261412 25 [] [] 4 ⟨[(2, vb false)], []⟩ o0 (by kernel_rfl) (by kernel_rfl) ?_
          obtain rfl := Option.some.inj hm
          refine R_ret (by kernel_rfl) ?_
          refine L1_ret false ?_
          exact ret_mk (by kernel_rfl) (by kernel_rfl)
        · replace hm := bif_f b62 hm
          refine R_skip (by kernel_rfl) ?_
          refine R_rn Tryd.f9 16339 23 [] [] 4 ⟨[(0, vc (tl e_Point default a1)), (3, vo 0 0 2 v9.length), (8, vi (w64 (x52 + 1)))], [(0, ro 0 38 2 v9.length (rf e_Point v9))]⟩ o0 (by kernel_rfl) (by kernel_rfl) ?_
          exact HL_enter (law09_PolyConvex_L6_S a1 v9 (w64 (x52 + 1))) (by kernel_rfl) (by kernel_rfl) (ih (w64 (x52 + 1)) _ hm)
      · obtain ⟨g54, hm⟩ := bif_n hm
        obtain ⟨v55, h56, hm⟩ := bind_s hm
        rcases Bool.eq_false_or_eq_true (!v55) with b57 | b57
        · replace hm := bif_t b57 hm
          refine R_dr Tryd.f9 65352 24 [] [(5, dex (cen [] [] 4 0 (poly_Has_x v55) (poly_Has_o v55) [88, 92] [0])), (7, dfx true)] [] [0, 0, 0, 6, 14, 31, 63, 127, 255, 255, 1023, 2047, 255, 4351, 12543, 32767, 65535] 4 ⟨[(0, vc (tl e_Point default a1)), (3, vo 0 0 2 v9.length), (8, vi x52), (104, vb true)], [(0, ro 0 38 2 v9.length (rf e_Point v9))]⟩ (o1 (And.intro (inb_of g54) (And.intro (callS (K := (kx E 154 0)) (b := false) ⟨[(88, vo 0 0 2 v9.length), (92, va [ci ((a1.getD x52.toNat default).X), ci ((a1.getD x52.toNat default).Y)])], [(0, ro 0 38 2 v9.length (rf e_Point v9))]⟩ (opAt (rg Tryd.f9 65352) 5) [] [] 4 (o1 (Nat.le_refl v9.length)) rfl (poly_Has_ok v9 (a1.getD x52.toNat default) v55 h56) (.inr ⟨(by kernel_rfl), poly_Has_f v55⟩) (by kernel_rfl)) b57))) (by kernel_rfl) (by kernel_rfl) ?_
          exact J_mk (true) hm (by kernel_rfl) (by kernel_rfl)
        · replace hm := bif_f b57 hm
          obtain ⟨g58, hm⟩ := bif_n hm
          obtain ⟨v59, h60, hm⟩ := bind_s hm
          refine R_dr Tryd.f9 65352 24 [] [(5, dex (cen [] [] 4 0 (poly_Has_x v55) (poly_Has_o v55) [88, 92] [0])), (7, dfx false), (15, dex (cen [] [] 4 0 (ref09_Before_x v59) (ref09_Before_o v59) [95, 99, 102] []))] [] [0, 0, 0, 6, 14, 31, 63, 127, 255, 255, 1023, 2047, 255, 4351, 12543, 32767, 65535] 4 ⟨[(0, vc (tl e_Point default a1)), (3, vo 0 0 2 v9.length), (8, vi x52), (96, vc (tl e_Point default a1)), (97, vi x52), (98, vc (.lptr (e_Point (a1.getD x52.toNat default)))), (99, va [ci ((a1.getD x52.toNat default).X), ci ((a1.getD x52.toNat default).Y)]), (100, vo 0 0 2 v9.length), (101, vc (.rptr 0 0 2 ((0 : Int).toNat) 0)), (102, va [ci ((v9.getD ((0 : Int).toNat) default).X), ci ((v9.getD ((0 : Int).toNat) default).Y)]), (103, vb v59), (104, vb v59)], [(0, ro 0 38 2 v9.length (rf e_Point v9))]⟩ (o1 (And.intro (inb_of g54) (And.intro (callS (K := (kx E 154 0)) (b := false) ⟨[(88, vo 0 0 2 v9.length), (92, va [ci ((a1.getD x52.toNat default).X), ci ((a1.getD x52.toNat default).Y)])], [(0, ro 0 38 2 v9.length (rf e_Point v9))]⟩ (opAt (rg Tryd.f9 65352) 5) [] [] 4 (o1 (Nat.le_refl v9.length)) rfl (poly_Has_ok v9 (a1.getD x52.toNat default) v55 h56) (.inr ⟨(by kernel_rfl), poly_Has_f v55⟩) (by kernel_rfl)) (And.intro b57 (And.intro (inb_of g54) (And.intro (inb_of g58) (And.intro (toNat_lt (inb_of g58)) (callS (K := (kx E 154 0)) ⟨[(95, vb false), (99, va [ci ((a1.getD x52.toNat default).X), ci ((a1.getD x52.toNat default).Y)]), (102, va [ci ((v9.getD ((0 : Int).toNat) default).X), ci ((v9.getD ((0 : Int).toNat) default).Y)])], []⟩ (opAt (rg Tryd.f9 65352) 15) [] [] 4 o0 rfl (ref09_Before_ok (a1.getD x52.toNat default) (v9.getD ((0 : Int).toNat) default) v59 h60) (.inl rfl) (by kernel_rfl))))))))) (by kernel_rfl) (by kernel_rfl) ?_
          exact J_mk (v59) hm (by kernel_rfl) (by kernel_rfl)
    · replace hm := bif_f b53 hm
      refine R_exit 6 (by kernel_rfl) ?_
      obtain rfl := Option.some.inj hm
      exact L1_mk () (by kernel_rfl) (by kernel_rfl)

set_option maxRecDepth 100000 in
theorem law09_PolyConvex_L9_ok (E : Env 0) (a1 : List Point) (v9 : (List Point)) (x67 : Int) : ∀ (n : Nat) (x76 : Bool) (x77 : Int) (res : Bool), law09_PolyConvex_L9 a1 v9 x67 n x76 x77 = some res → HL (kx E 154 0) (nd Tryd.f9 4188468) (loopQ0 10 (fun o => law09_PolyConvex_L9_T a1 v9 x67 o) res) n (law09_PolyConvex_L9_S a1 v9 x67 x76 x77) := by
  intro n
  induction n with
  | zero =>
    intro x76 x77 res hm
    cases hm
  | succ n ih =>
    intro x76 x77 res hm
    refine HL_succ ?_
    refine R_sq Tryd.f9 8376936 8376937 (by kernel_rfl) ?_
    refine R_sq Tryd.f9 16753872 16753873 (by kernel_rfl) ?_
    refine R_rn Tryd.f9 16753872 33 [] [] 4 ⟨[(0, vc (tl e_Point default a1)), (3, vo 0 0 2 v9.length), (9, vi x67), (10, vb x76), (11, vi x77), (136, vb (decide (x77 < ((a1.length : Nat) : Int))))], [(0, ro 0 38 2 v9.length (rf e_Point v9))]⟩ o0 (by kernel_rfl) (by kernel_rfl) ?_
    refine R_cn Tryd.f9 (.tmp 136) 33507746 33507747 (by kernel_rfl) (decide (x77 < ((a1.length : Nat) : Int))) (by kernel_rfl) (fun b78 => ?_) (fun b78 => ?_)
    · replace hm := bif_t b78 hm
      refine R_skip (by kernel_rfl) ?_
      refine R_join (ι := Bool) (nd Tryd.f9 16753874) (nd Tryd.f9 16753875) (by kernel_rfl) (fun p => law09_PolyConvex_k10_S a1 v9 x67 x77 p) (fun p => law09_PolyConvex_k10 x77 (law09_PolyConvex_L9 a1 v9 x67 n) p = some res) ?_ ?_
      · rintro x82 hm
        show H _ (law09_PolyConvex_k10_S a1 v9 x67 x77 x82) (nd Tryd.f9 16753875) _
        refine R_rn Tryd.f9 16753875 34 [] [] 4 ⟨[(0, vc (tl e_Point default a1)), (3, vo 0 0 2 v9.length), (9, vi x67), (10, vb x82), (11, vi (w64 (x77 + 1)))], [(0, ro 0 38 2 v9.length (rf e_Point v9))]⟩ o0 (by kernel_rfl) (by kernel_rfl) ?_
        exact HL_enter (law09_PolyConvex_L9_S a1 v9 x67 x82 (w64 (x77 + 1))) (by kernel_rfl) (by kernel_rfl) (ih x82 (w64 (x77 + 1)) _ hm)
      · refine R_bk Tryd.f9 11 33507748 (by kernel_rfl) ?_
        rcases Bool.eq_false_or_eq_true x76 with b79 | b79
        · replace hm := bif_t b79 hm
          refine R_dr Tryd.f9 33507748 35 [] [(1, dfx true)] [] [0, 1, 3, 3, 15, 31, 3, 3, 195, 451, 1023, 2047, 4095] 4 ⟨[(0, vc (tl e_Point default a1)), (3, vo 0 0 2 v9.length), (9, vi x67), (10, vb true), (11, vi x77)], [(0, ro 0 38 2 v9.length (rf e_Point v9))]⟩ (o1 b79) (by kernel_rfl) (by kernel_rfl) ?_
          exact J_mk (true) hm (by kernel_rfl) (by kernel_rfl)
        · replace hm := bif_f b79 hm
          obtain ⟨g80, hm⟩ := bif_n hm
          obtain ⟨g81, hm⟩ := bif_n hm
          refine R_dr Tryd.f9 33507748 35 [] [(1, dfx false)] [] [0, 1, 3, 3, 15, 31, 3, 3, 195, 451, 1023, 2047, 4095] 4 ⟨[(0, vc (tl e_Point default a1)), (3, vo 0 0 2 v9.length), (9, vi x67), (10, vb ((((a1.getD x77.toNat default).X) == ((v9.getD x67.toNat default).X)) && ((((a1.getD x77.toNat default).Y) == ((v9.getD x67.toNat default).Y)) && true))), (11, vi x77), (141, vc (tl e_Point default a1)), (142, vi x77), (143, vc (.lptr (e_Point (a1.getD x77.toNat default)))), (144, va [ci ((a1.getD x77.toNat default).X), ci ((a1.getD x77.toNat default).Y)]), (145, vo 0 0 2 v9.length), (146, vi x67), (147, vc (.rptr 0 0 2 x67.toNat 0)), (148, va [ci ((v9.getD x67.toNat default).X), ci ((v9.getD x67.toNat default).Y)]), (149, vb ((((a1.getD x77.toNat default).X) == ((v9.getD x67.toNat default).X)) && ((((a1.getD x77.toNat default).Y) == ((v9.getD x67.toNat default).Y)) && true)))], [(0, ro 0 38 2 v9.length (rf e_Point v9))]⟩ (o1 (And.intro b79 (And.intro (inb_of g80) (And.intro (inb_of g81) (toNat_lt (inb_of g81)))))) (by kernel_rfl) (by kernel_rfl) ?_
          exact J_mk (((((a1.getD x77.toNat default).X) == ((v9.getD x67.toNat default).X)) && ((((a1.getD x77.toNat default).Y) == ((v9.getD x67.toNat default).Y)) && true))) hm (by kernel_rfl) (by kernel_rfl)
    · replace hm := bif_f b78 hm
      refine R_exit 10 (by kernel_rfl) ?_
      obtain rfl := Option.some.inj hm
      exact L0_mk (by kernel_rfl) (by kernel_rfl)

set_option maxRecDepth 100000 in
theorem law09_PolyConvex_L8_ok (E : Env 0) (a1 : List Point) (v9 : (List Point)) : ∀ (n : Nat) (x67 : Int) (res : Bool ⊕ Unit), law09_PolyConvex_L8 a1 v9 n x67 = some res → HL (kx E 154 0) (nd Tryd.f9 8180) (loopQ 8 (fun o => law09_PolyConvex_L8_T) (fun v st => RetQ Tryd.prog Tryd.f9 (law09_PolyConvex_x v) (law09_PolyConvex_o v) .ret st) res) n (law09_PolyConvex_L8_S a1 v9 x67) := by
  intro n
  induction n with
  | zero =>
    intro x67 res hm
    cases hm
  | succ n ih =>
    intro x67 res hm
    refine HL_succ ?_
    refine R_sq Tryd.f9 16360 16361 (by kernel_rfl) ?_
    refine R_sq Tryd.f9 32720 32721 (by kernel_rfl) ?_
    refine R_rn Tryd.f9 32720 27 [] [] 4 ⟨[(0, vc (tl e_Point default a1)), (3, vo 0 0 2 v9.length), (9, vi x67), (108, vb (decide (x67 < ((v9.length : Nat) : Int))))], [(0, ro 0 38 2 v9.length (rf e_Point v9))]⟩ o0 (by kernel_rfl) (by kernel_rfl) ?_
    refine R_cn Tryd.f9 (.tmp 108) 65442 65443 (by kernel_rfl) (decide (x67 < ((v9.length : Nat) : Int))) (by kernel_rfl) (fun b68 => ?_) (fun b68 => ?_)
    · replace hm := bif_t b68 hm
      refine R_skip (by kernel_rfl) ?_
      refine R_sq Tryd.f9 32722 32723 (by kernel_rfl) ?_
      refine R_bk Tryd.f9 9 65444 (by kernel_rfl) ?_
      refine R_sq Tryd.f9 130888 130889 (by kernel_rfl) ?_
      refine R_sq Tryd.f9 261776 261777 (by kernel_rfl) ?_
      obtain ⟨g69, hm⟩ := bif_n hm
      obtain ⟨g70, hm⟩ := bif_n hm
      obtain ⟨g71, hm⟩ := bif_n hm
      obtain ⟨g72, hm⟩ := bif_n hm
      obtain ⟨v73, h74, hm⟩ := bind_s hm
      refine R_dr Tryd.f9 261776 29 [] [(20, dex (cen [] [] 4 0 (ref09_Cross_x v73) (ref09_Cross_o v73) [114, 122, 130] []))] [] [0, 0, 3, 7, 0, 0, 32, 0, 128, 480, 1008, 2032, 0, 0, 8192, 0, 32768, 122880, 258048, 520192, 1048575, 2097151] 4 ⟨[(0, vc (tl e_Point default a1)), (3, vo 0 0 2 v9.length), (9, vi x67), (132, vb (decide (v73 ≤ 0)))], [(0, ro 0 38 2 v9.length (rf e_Point v9))]⟩ (o1 (And.intro (inb_of g69) (And.intro (toNat_lt (inb_of g69)) (And.intro (nz_of g70) (And.intro (inb_of g71) (And.intro (toNat_lt (inb_of g71)) (And.intro (nz_of g70) (And.intro (inb_of g72) (And.intro (toNat_lt (inb_of g72)) (callS (K := (kx E 154 0)) ⟨[(114, va [ci ((v9.getD x67.toNat default).X), ci ((v9.getD x67.toNat default).Y)]), (122, va [ci ((v9.getD ((Int.tmod (w64 (x67 + 1)) ((v9.length : Nat) : Int)).toNat) default).X), ci ((v9.getD ((Int.tmod (w64 (x67 + 1)) ((v9.length : Nat) : Int)).toNat) default).Y)]), (130, va [ci ((v9.getD ((Int.tmod (w64 (x67 + 2)) ((v9.length : Nat) : Int)).toNat) default).X), ci ((v9.getD ((Int.tmod (w64 (x67 + 2)) ((v9.length : Nat) : Int)).toNat) default).Y)])], []⟩ (opAt (rg Tryd.f9 261776) 20) [] [] 4 o0 rfl (ref09_Cross_ok (v9.getD x67.toNat default) (v9.getD ((Int.tmod (w64 (x67 + 1)) ((v9.length : Nat) : Int)).toNat) default) (v9.getD ((Int.tmod (w64 (x67 + 2)) ((v9.length : Nat) : Int)).toNat) default) v73 h74) (.inl rfl) (by kernel_rfl))))))))))) (by kernel_rfl) (by kernel_rfl) ?_
      refine R_cn Tryd.f9 (.tmp 132) 523554 523555 (by kernel_rfl) (decide (v73 ≤ 0)) (by kernel_rfl) (fun b75 => ?_) (fun b75 => ?_)
      · replace hm := bif_t b75 hm
        refine R_sq Tryd.f9 1047108 1047109 (by kernel_rfl) ?_
        refine R_rn Tryd.f9 1047108 30 [] [] 4 ⟨[(2, vb false)], []⟩ o0 (by kernel_rfl) (by kernel_rfl) ?_
        obtain rfl := Option.some.inj hm
        refine R_ret (by kernel_rfl) ?_
        refine L1_ret false ?_
        exact ret_mk (by kernel_rfl) (by kernel_rfl)
      · replace hm := bif_f b75 hm
        refine R_skip (by kernel_rfl) ?_
        refine R_sq Tryd.f9 261778 261779 (by kernel_rfl) ?_
        refine R_rn Tryd.f9 261778 31 [] [] 4 ⟨[(0, vc (tl e_Point default a1)), (3, vo 0 0 2 v9.length), (9, vi x67), (10, vb false)], [(0, ro 0 38 2 v9.length (rf e_Point v9))]⟩ o0 (by kernel_rfl) (by kernel_rfl) ?_
        refine R_sq Tryd.f9 523558 523559 (by kernel_rfl) ?_
        refine R_sq Tryd.f9 1047116 1047117 (by kernel_rfl) ?_
        refine R_rn Tryd.f9 1047116 32 [] [] 4 ⟨[(0, vc (tl e_Point default a1)), (3, vo 0 0 2 v9.length), (9, vi x67), (10, vb false), (11, vi 0)], [(0, ro 0 38 2 v9.length (rf e_Point v9))]⟩ o0 (by kernel_rfl) (by kernel_rfl) ?_
        obtain ⟨o84, h85, hm⟩ := bind_s hm
        refine R_loop0 (nd Tryd.f9 4188468) 10 (by kernel_rfl) FUEL (fun o => law09_PolyConvex_L9_T a1 v9 x67 o) o84 (HL_enter (law09_PolyConvex_L9_S a1 v9 x67 false 0) (by kernel_rfl) (by kernel_rfl) (law09_PolyConvex_L9_ok E a1 v9 x67 FUEL false 0 o84 h85)) ?_
        refine R_sq Tryd.f9 1047118 1047119 (by kernel_rfl) ?_
        refine R_rn Tryd.f9 1047118 36 [] [] 4 ⟨[(0, vc (tl e_Point default a1)), (3, vo 0 0 2 v9.length), (9, vi x67), (152, vb (!o84))], [(0, ro 0 38 2 v9.length (rf e_Point v9))]⟩ o0 (by kernel_rfl) (by kernel_rfl) ?_
        refine R_cn Tryd.f9 (.tmp 152) 2094238 2094239 (by kernel_rfl) (!o84) (by kernel_rfl) (fun b86 => ?_) (fun b86 => ?_)
        · replace hm := bif_t b86 hm
          refine R_sq Tryd.f9 4188476 4188477 (by kernel_rfl) ?_
          refine R_rn Tryd.f9 4188476 37 [] [] 4 ⟨[(2, vb false)], []⟩ o0 (by kernel_rfl) (by kernel_rfl) ?_
          obtain rfl := Option.some.inj hm
          refine R_ret (by kernel_rfl) ?_
          refine L1_ret false ?_
          exact ret_mk (by kernel_rfl) (by kernel_rfl)
        · replace hm := bif_f b86 hm
          refine R_skip (by kernel_rfl) ?_
          refine R_rn Tryd.f9 32723 28 [] [] 4 ⟨[(0, vc (tl e_Point default a1)), (3, vo 0 0 2 v9.length), (9, vi (w64 (x67 + 1)))], [(0, ro 0 38 2 v9.length (rf e_Point v9))]⟩ o0 (by kernel_rfl) (by kernel_rfl) ?_
          exact HL_enter (law09_PolyConvex_L8_S a1 v9 (w64 (x67 + 1))) (by kernel_rfl) (by kernel_rfl) (ih (w64 (x67 + 1)) _ hm)
    · replace hm := bif_f b68 hm
      refine R_exit 8 (by kernel_rfl) ?_
      obtain rfl := Option.some.inj hm
      exact L1_mk () (by kernel_rfl) (by kernel_rfl)

set_option maxRecDepth 100000 in
theorem law09_PolyConvex_ok (a1 : List Point) (r : Bool) (hm : law09_PolyConvex a1 = some r) : CtX Tryd.prog globs 9 0 0 [.one (tl e_Point default a1)] [] (law09_PolyConvex_x r) (law09_PolyConvex_o r) := by
  unfold law09_PolyConvex at hm
  refine CtX_of_E (fn := Tryd.f9) (c := nd Tryd.f9 1) (nt := 154) (by kernel_rfl) (by kernel_rfl) (by kernel_rfl) (by kernel_rfl) fun E => ?_
  refine R_sq Tryd.f9 2 3 (by kernel_rfl) ?_
  refine R_rn Tryd.f9 2 0 [] [] 0 ⟨[(0, vc (tl e_Point default a1))], []⟩ o0 (by kernel_rfl) (by kernel_rfl) ?_
  refine R_sq Tryd.f9 6 7 (by kernel_rfl) ?_
  refine R_join (ι := Bool) (nd Tryd.f9 12) (nd Tryd.f9 13) (by kernel_rfl) (fun p => law09_PolyConvex_k1_S a1 p) (fun p => law09_PolyConvex_k1 a1 p = some r) ?_ ?_
  · rintro x5 hm
    show H _ (law09_PolyConvex_k1_S a1 x5) (nd Tryd.f9 13) _
    refine R_cn Tryd.f9 (.tmp 19) 26 27 (by kernel_rfl) x5 (by kernel_rfl) (fun b6 => ?_) (fun b6 => ?_)
    · replace hm := bif_t b6 hm
      refine R_sq Tryd.f9 52 53 (by kernel_rfl) ?_
      obtain ⟨v7, h8, hm⟩ := bind_s hm
      refine R_rn Tryd.f9 52 2 [(0, dex (cen [] [] 0 0 (law09_awake_x v7) (law09_awake_o v7) [] []))] [] 0 ⟨[(2, vb v7)], []⟩ (o1 (callS (K := (kx E 154 0)) ⟨[], []⟩ (opAt (rg Tryd.f9 52) 0) [] [] 0 o0 rfl (law09_awake_ok v7 h8) (.inl rfl) (by kernel_rfl))) (by kernel_rfl) (by kernel_rfl) ?_
      obtain rfl := Option.some.inj hm
      refine R_ret (by kernel_rfl) ?_
      exact ret_mk (by kernel_rfl) (by kernel_rfl)
    · replace hm := bif_f b6 hm
      refine R_skip (by kernel_rfl) ?_
      refine R_sq Tryd.f9 14 15 (by kernel_rfl) ?_
      obtain ⟨v9, h10, hm⟩ := bind_s hm
      refine R_rn Tryd.f9 14 3 [(1, dex (cen [] [] 0 0 (poly_Hull_x v9) (poly_Hull_o v9) [21] []))] [] 0 ⟨[(0, vc (tl e_Point default a1)), (3, vo 0 0 2 v9.length)], [(0, ro 0 38 2 v9.length (rf e_Point v9))]⟩ (o1 (callS (K := (kx E 154 0)) ⟨[(21, vc (tl e_Point default a1))], []⟩ (opAt (rg Tryd.f9 14) 1) [] [] 0 o0 rfl (poly_Hull_ok a1 v9 h10) (.inl rfl) (by kernel_rfl))) (by kernel_rfl) (by kernel_rfl) ?_
      refine R_sq Tryd.f9 30 31 (by kernel_rfl) ?_
      refine R_rn Tryd.f9 30 4 [] [] 1 ⟨[(0, vc (tl e_Point default a1)), (3, vo 0 0 2 v9.length), (4, vc (.emp))], [(0, ro 0 38 2 v9.length (rf e_Point v9))]⟩ o0 (by kernel_rfl) (by kernel_rfl) ?_
      refine R_sq Tryd.f9 62 63 (by kernel_rfl) ?_
      refine R_sq Tryd.f9 124 125 (by kernel_rfl) ?_
      refine R_rn Tryd.f9 124 5 [] [] 1 ⟨[(0, vc (tl e_Point default a1)), (3, vo 0 0 2 v9.length), (4, vc (.emp)), (5, vi (w64 (((a1.length : Nat) : Int) - 1)))], [(0, ro 0 38 2 v9.length (rf e_Point v9))]⟩ o0 (by kernel_rfl) (by kernel_rfl) ?_
      refine H_fin [.own 4 1 38 2 (rf e_Point ([] : List Point))] ⟨[(0, vc (tl e_Point default a1)), (3, vo 0 0 2 v9.length), (4, vo 1 0 2 0), (5, vi (w64 (((a1.length : Nat) : Int) - 1)))], [(0, ro 0 38 2 v9.length (rf e_Point v9)), (1, ro 0 38 2 0 (rf e_Point ([] : List Point)))]⟩ o0 (by kernel_rfl) ?_
      obtain ⟨o17, h18, hm⟩ := bind_s hm
      refine R_loop0 (nd Tryd.f9 500) 0 (by kernel_rfl) FUEL (fun o => law09_PolyConvex_L2_T a1 v9 o) o17 (HL_enter (law09_PolyConvex_L2_S a1 v9 ([] : List Point) 0 (w64 (((a1.length : Nat) : Int) - 1))) (by kernel_rfl) (by kernel_rfl) (law09_PolyConvex_L2_ok E a1 v9 FUEL ([] : List Point) 0 (w64 (((a1.length : Nat) : Int) - 1)) o17 rfl h18)) ?_
      refine R_sq Tryd.f9 126 127 (by kernel_rfl) ?_
      refine R_join (ι := Bool) (nd Tryd.f9 252) (nd Tryd.f9 253) (by kernel_rfl) (fun p => law09_PolyConvex_k3_S a1 v9 p) (fun p => law09_PolyConvex_k3 a1 v9 p = some r) ?_ ?_
      · rintro x29 hm
        show H _ (law09_PolyConvex_k3_S a1 v9 x29) (nd Tryd.f9 253) _
        refine R_cn Tryd.f9 (.tmp 53) 506 507 (by kernel_rfl) x29 (by kernel_rfl) (fun b30 => ?_) (fun b30 => ?_)
        · replace hm := bif_t b30 hm
          refine R_sq Tryd.f9 1012 1013 (by kernel_rfl) ?_
          refine R_rn Tryd.f9 1012 10 [] [] 4 ⟨[(2, vb false)], []⟩ o0 (by kernel_rfl) (by kernel_rfl) ?_
          obtain rfl := Option.some.inj hm
          refine R_ret (by kernel_rfl) ?_
          exact ret_mk (by kernel_rfl) (by kernel_rfl)
        · replace hm := bif_f b30 hm
          refine R_skip (by kernel_rfl) ?_
          refine R_sq Tryd.f9 254 255 (by kernel_rfl) ?_
          refine R_sq Tryd.f9 508 509 (by kernel_rfl) ?_
          refine R_rn Tryd.f9 508 11 [] [] 4 ⟨[(0, vc (tl e_Point default a1)), (3, vo 0 0 2 v9.length), (56, vb (((v9.length : Nat) : Int) == 0))], [(0, ro 0 38 2 v9.length (rf e_Point v9))]⟩ o0 (by kernel_rfl) (by kernel_rfl) ?_
          refine R_cn Tryd.f9 (.tmp 56) 1018 1019 (by kernel_rfl) (((v9.length : Nat) : Int) == 0) (by kernel_rfl) (fun b31 => ?_) (fun b31 => ?_)
          · replace hm := bif_t b31 hm
            refine R_sq Tryd.f9 2036 2037 (by kernel_rfl) ?_
            refine R_sq Tryd.f9 4072 4073 (by kernel_rfl) ?_
            refine R_rn Tryd.f9 4072 12 [] [] 4 ⟨[(0, vc (tl e_Point default a1)), (6, vi 0)], []⟩ o0 (by kernel_rfl) (by kernel_rfl) ?_
            obtain ⟨u48, h47, hm⟩ := bind_s hm
            refine R_loop1 (nd Tryd.f9 16292) 2 (by kernel_rfl) FUEL (fun o => law09_PolyConvex_L4_T) (fun v st => RetQ Tryd.prog Tryd.f9 (law09_PolyConvex_x v) (law09_PolyConvex_o v) .ret st) u48 (HL_enter (law09_PolyConvex_L4_S a1 0) (by kernel_rfl) (by kernel_rfl) (law09_PolyConvex_L4_ok E a1 FUEL 0 u48 h47)) ?_ ?_
            · rintro v49 rfl st hr
              obtain rfl := Option.some.inj hm
              exact hr
            · rintro o46 rfl
              replace hm : _ = some r := hm
              refine R_sq Tryd.f9 4074 4075 (by kernel_rfl) ?_
              obtain ⟨v50, h51, hm⟩ := bind_s hm
              refine R_rn Tryd.f9 4074 20 [(0, dex (cen [] [] 4 0 (law09_awake_x v50) (law09_awake_o v50) [] []))] [] 4 ⟨[(2, vb v50)], []⟩ (o1 (callS (K := (kx E 154 0)) ⟨[], []⟩ (opAt (rg Tryd.f9 4074) 0) [] [] 4 o0 rfl (law09_awake_ok v50 h51) (.inl rfl) (by kernel_rfl))) (by kernel_rfl) (by kernel_rfl) ?_
              obtain rfl := Option.some.inj hm
              refine R_ret (by kernel_rfl) ?_
              exact ret_mk (by kernel_rfl) (by kernel_rfl)
          · replace hm := bif_f b31 hm
            refine R_skip (by kernel_rfl) ?_
            refine R_sq Tryd.f9 510 511 (by kernel_rfl) ?_
            refine R_sq Tryd.f9 1020 1021 (by kernel_rfl) ?_
            refine R_rn Tryd.f9 1020 21 [] [] 4 ⟨[(0, vc (tl e_Point default a1)), (3, vo 0 0 2 v9.length), (8, vi 0)], [(0, ro 0 38 2 v9.length (rf e_Point v9))]⟩ o0 (by kernel_rfl) (by kernel_rfl) ?_
            obtain ⟨u65, h64, hm⟩ := bind_s hm
            refine R_loop1 (nd Tryd.f9 4084) 6 (by kernel_rfl) FUEL (fun o => law09_PolyConvex_L6_T a1 v9) (fun v st => RetQ Tryd.prog Tryd.f9 (law09_PolyConvex_x v) (law09_PolyConvex_o v) .ret st) u65 (HL_enter (law09_PolyConvex_L6_S a1 v9 0) (by kernel_rfl) (by kernel_rfl) (law09_PolyConvex_L6_ok E a1 v9 FUEL 0 u65 h64)) ?_ ?_
            · rintro v66 rfl st hr
              obtain rfl := Option.some.inj hm
              exact hr
            · rintro o63 rfl
              replace hm : _ = some r := hm
              refine R_sq Tryd.f9 1022 1023 (by kernel_rfl) ?_
              refine R_sq Tryd.f9 2044 2045 (by kernel_rfl) ?_
              refine R_rn Tryd.f9 2044 26 [] [] 4 ⟨[(0, vc (tl e_Point default a1)), (3, vo 0 0 2 v9.length), (9, vi 0)], [(0, ro 0 38 2 v9.length (rf e_Point v9))]⟩ o0 (by kernel_rfl) (by kernel_rfl) ?_
              obtain ⟨u89, h88, hm⟩ := bind_s hm
              refine R_loop1 (nd Tryd.f9 8180) 8 (by kernel_rfl) FUEL (fun o => law09_PolyConvex_L8_T) (fun v st => RetQ Tryd.prog Tryd.f9 (law09_PolyConvex_x v) (law09_PolyConvex_o v) .ret st) u89 (HL_enter (law09_PolyConvex_L8_S a1 v9 0) (by kernel_rfl) (by kernel_rfl) (law09_PolyConvex_L8_ok E a1 v9 FUEL 0 u89 h88)) ?_ ?_
              · rintro v90 rfl st hr
                obtain rfl := Option.some.inj hm
                exact hr
              · rintro o87 rfl
                replace hm : _ = some r := hm
                refine R_sq Tryd.f9 2046 2047 (by kernel_rfl) ?_
                obtain ⟨v91, h92, hm⟩ := bind_s hm
                refine R_rn Tryd.f9 2046 38 [(0, dex (cen [] [] 4 0 (law09_awake_x v91) (law09_awake_o v91) [] []))] [] 4 ⟨[(2, vb v91)], []⟩ (o1 (callS (K := (kx E 154 0)) ⟨[], []⟩ (opAt (rg Tryd.f9 2046) 0) [] [] 4 o0 rfl (law09_awake_ok v91 h92) (.inl rfl) (by kernel_rfl))) (by kernel_rfl) (by kernel_rfl) ?_
                obtain rfl := Option.some.inj hm
                refine R_ret (by kernel_rfl) ?_
                exact ret_mk (by kernel_rfl) (by kernel_rfl)
      · obtain ⟨v19, h20, hm⟩ := bind_s hm
        obtain ⟨v21, h22, hm⟩ := bind_s hm
        rcases Bool.eq_false_or_eq_true (!v21) with b23 | b23
        · replace hm := bif_t b23 hm
          refine R_rn Tryd.f9 252 9 [(1, dex (cen [] [] 2 0 (poly_Hull_x v19) (poly_Hull_o v19) [37] [1])), (3, dex (cen [] [] 3 0 (ref09_Same_x v21) (ref09_Same_o v21) [38, 39] [2, 0])), (5, dfx true)] [] 2 ⟨[(0, vc (tl e_Point default a1)), (3, vo 0 0 2 v9.length), (53, vb true)], [(0, ro 0 38 2 v9.length (rf e_Point v9))]⟩ (o1 (And.intro (callS (K := (kx E 154 0)) (b := false) ⟨[(37, vo 1 0 2 o17.length)], [(1, ro 0 38 2 o17.length (rf e_Point o17))]⟩ (opAt (rg Tryd.f9 252) 1) [] [] 2 (o1 (Nat.le_refl o17.length)) rfl (poly_Hull_ok o17 v19 h20) (.inr ⟨(by kernel_rfl), poly_Hull_f v19⟩) (by kernel_rfl)) (And.intro (callS (K := (kx E 154 0)) (b := false) ⟨[(38, vo 2 0 2 v19.length), (39, vo 0 0 2 v9.length)], [(2, ro 0 38 2 v19.length (rf e_Point v19)), (0, ro 0 38 2 v9.length (rf e_Point v9))]⟩ (opAt (rg Tryd.f9 252) 3) [] [] 3 (o1 (And.intro (Nat.le_refl v19.length) (Nat.le_refl v9.length))) rfl (ref09_Same_ok v19 v9 v21 h22) (.inr ⟨(by kernel_rfl), ref09_Same_f v21⟩) (by kernel_rfl)) b23))) (by kernel_rfl) (by kernel_rfl) ?_
          exact J_mk (true) hm (by kernel_rfl) (by kernel_rfl)
        · replace hm := bif_f b23 hm
          rcases Bool.eq_false_or_eq_true (decide (((v9.length : Nat) : Int) > 0)) with b24 | b24
          · replace hm := bif_t b24 hm
            obtain ⟨v25, h26, hm⟩ := bind_s hm
            obtain ⟨v27, h28, hm⟩ := bind_s hm
            refine R_rn Tryd.f9 252 9 [(1, dex (cen [] [] 2 0 (poly_Hull_x v19) (poly_Hull_o v19) [37] [1])), (3, dex (cen [] [] 3 0 (ref09_Same_x v21) (ref09_Same_o v21) [38, 39] [2, 0])), (5, dfx false), (9, dfx true), (11, dex (cen [] [] 3 0 (poly_Hull_x v25) (poly_Hull_o v25) [46, 47] [0])), (13, dex (cen [] [] 4 0 (ref09_Same_x v27) (ref09_Same_o v27) [46, 48, 49] [3, 0]))] [] 2 ⟨[(0, vc (tl e_Point default a1)), (3, vo 0 0 2 v9.length), (53, vb (!v27))], [(0, ro 0 38 2 v9.length (rf e_Point v9))]⟩ (o1 (And.intro (callS (K := (kx E 154 0)) (b := false) ⟨[(37, vo 1 0 2 o17.length)], [(1, ro 0 38 2 o17.length (rf e_Point o17))]⟩ (opAt (rg Tryd.f9 252) 1) [] [] 2 (o1 (Nat.le_refl o17.length)) rfl (poly_Hull_ok o17 v19 h20) (.inr ⟨(by kernel_rfl), poly_Hull_f v19⟩) (by kernel_rfl)) (And.intro (callS (K := (kx E 154 0)) (b := false) ⟨[(38, vo 2 0 2 v19.length), (39, vo 0 0 2 v9.length)], [(2, ro 0 38 2 v19.length (rf e_Point v19)), (0, ro 0 38 2 v9.length (rf e_Point v9))]⟩ (opAt (rg Tryd.f9 252) 3) [] [] 3 (o1 (And.intro (Nat.le_refl v19.length) (Nat.le_refl v9.length))) rfl (ref09_Same_ok v19 v9 v21 h22) (.inr ⟨(by kernel_rfl), ref09_Same_f v21⟩) (by kernel_rfl)) (And.intro b23 (And.intro b24 (And.intro (callS (K := (kx E 154 0)) (b := false) ⟨[(46, vb true), (47, vo 0 0 2 v9.length)], [(0, ro 0 38 2 v9.length (rf e_Point v9))]⟩ (opAt (rg Tryd.f9 252) 11) [] [] 3 (o1 (Nat.le_refl v9.length)) rfl (poly_Hull_ok v9 v25 h26) (.inr ⟨(by kernel_rfl), poly_Hull_f v25⟩) (by kernel_rfl)) (callS (K := (kx E 154 0)) (b := false) ⟨[(46, vb true), (48, vo 3 0 2 v25.length), (49, vo 0 0 2 v9.length)], [(3, ro 0 38 2 v25.length (rf e_Point v25)), (0, ro 0 38 2 v9.length (rf e_Point v9))]⟩ (opAt (rg Tryd.f9 252) 13) [] [] 4 (o1 (And.intro (Nat.le_refl v25.length) (Nat.le_refl v9.length))) rfl (ref09_Same_ok v25 v9 v27 h28) (.inr ⟨(by kernel_rfl), ref09_Same_f v27⟩) (by kernel_rfl)))))))) (by kernel_rfl) (by kernel_rfl) ?_
            exact J_mk (!v27) hm (by kernel_rfl) (by kernel_rfl)
          · replace hm := bif_f b24 hm
            refine R_rn Tryd.f9 252 9 [(1, dex (cen [] [] 2 0 (poly_Hull_x v19) (poly_Hull_o v19) [37] [1])), (3, dex (cen [] [] 3 0 (ref09_Same_x v21) (ref09_Same_o v21) [38, 39] [2, 0])), (5, dfx false), (9, dfx false)] [] 2 ⟨[(0, vc (tl e_Point default a1)), (3, vo 0 0 2 v9.length), (53, vb false)], [(0, ro 0 38 2 v9.length (rf e_Point v9))]⟩ (o1 (And.intro (callS (K := (kx E 154 0)) (b := false) ⟨[(37, vo 1 0 2 o17.length)], [(1, ro 0 38 2 o17.length (rf e_Point o17))]⟩ (opAt (rg Tryd.f9 252) 1) [] [] 2 (o1 (Nat.le_refl o17.length)) rfl (poly_Hull_ok o17 v19 h20) (.inr ⟨(by kernel_rfl), poly_Hull_f v19⟩) (by kernel_rfl)) (And.intro (callS (K := (kx E 154 0)) (b := false) ⟨[(38, vo 2 0 2 v19.length), (39, vo 0 0 2 v9.length)], [(2, ro 0 38 2 v19.length (rf e_Point v19)), (0, ro 0 38 2 v9.length (rf e_Point v9))]⟩ (opAt (rg Tryd.f9 252) 3) [] [] 3 (o1 (And.intro (Nat.le_refl v19.length) (Nat.le_refl v9.length))) rfl (ref09_Same_ok v19 v9 v21 h22) (.inr ⟨(by kernel_rfl), ref09_Same_f v21⟩) (by kernel_rfl)) (And.intro b23 b24)))) (by kernel_rfl) (by kernel_rfl) ?_
            exact J_mk (false) hm (by kernel_rfl) (by kernel_rfl)
  · rcases Bool.eq_false_or_eq_true (decide (((a1.length : Nat) : Int) > 32)) with b2 | b2
    · replace hm := bif_t b2 hm
      refine R_rn Tryd.f9 12 1 [(3, dfx true)] [] 0 ⟨[(0, vc (tl e_Point default a1)), (19, vb true)], []⟩ (o1 b2) (by kernel_rfl) (by kernel_rfl) ?_
      exact J_mk (true) hm (by kernel_rfl) (by kernel_rfl)
    · replace hm := bif_f b2 hm
      obtain ⟨v3, h4, hm⟩ := bind_s hm
      refine R_rn Tryd.f9 12 1 [(3, dfx false), (5, dex (cen [] [] 0 0 (ref09_Ranged_x v3) (ref09_Ranged_o v3) [15, 16] []))] [] 0 ⟨[(0, vc (tl e_Point default a1)), (19, vb (!v3))], []⟩ (o1 (And.intro b2 (callS (K := (kx E 154 0)) ⟨[(15, vb false), (16, vc (tl e_Point default a1))], []⟩ (opAt (rg Tryd.f9 12) 5) [] [] 0 o0 rfl (ref09_Ranged_ok a1 v3 h4) (.inl rfl) (by kernel_rfl)))) (by kernel_rfl) (by kernel_rfl) ?_
      exact J_mk (!v3) hm (by kernel_rfl) (by kernel_rfl)

end Saw
end Go.SL
