import Derived.Test.YtcppgjcniljkcaaDoorPBase
import Derived.Test.YtcppgjcniljkcaaDoorPFa4
import Derived.Test.YtcppgjcniljkcaaDoorPFa7
set_option linter.unusedVariables false
set_option linter.unusedSimpArgs false
namespace Go.SL
namespace Saw
open Go.Proofs
set_option maxHeartbeats 4000000

def ref09_Turn_x (r : (List Point)) : V := vo 0 0 2 r.length

def ref09_Turn_o (r : (List Point)) : List (Nat × (Nat × O)) := [(0, ro 0 38 2 r.length (rf e_Point r))]

theorem ref09_Turn_f (r : (List Point)) : Frozen (ref09_Turn_o r) := by
  intro i k o h
  unfold ref09_Turn_o at h
  rw [look_cons] at h
  split at h
  · cases h; exact fun _ _ => rfl
  · cases h

def ref09_Turn_L1_S (a1 : List Point) (a2 : Int) (l6 : List Point) (l6n : Nat) (x7 : Int) : St :=
  ⟨[(0, vc (tl e_Point default a1)), (1, vi a2), (5, vo 0 0 2 l6n), (6, vi x7)], [(0, ro 0 38 2 l6n (rf e_Point l6))]⟩

def ref09_Turn_L1_T (l15 : List Point) : St :=
  ⟨[(5, vo 0 0 2 l15.length)], [(0, ro 0 38 2 l15.length (rf e_Point l15))]⟩

set_option maxRecDepth 100000 in
theorem ref09_Turn_L1_ok (E : Env 0) (a1 : List Point) (a2 : Int) : ∀ (n : Nat) (l6 : List Point) (l6n : Nat) (x7 : Int) (res : (List Point)), l6.length = l6n → ref09_Turn_L1 a1 a2 n l6 x7 = some res → HL (kx E 27 0) (nd Tryd.f22 244) (loopQ0 0 (fun o => ref09_Turn_L1_T o) res) n (ref09_Turn_L1_S a1 a2 l6 l6n x7) := by
  intro n
  induction n with
  | zero =>
    intro l6 l6n x7 res hl0 hm
    cases hm
  | succ n ih =>
    intro l6 l6n x7 res hl0 hm
    subst hl0
    refine HL_succ ?_
    refine R_sq Tryd.f22 488 489 (by kernel_rfl) ?_
    refine R_sq Tryd.f22 976 977 (by kernel_rfl) ?_
    refine R_rn Tryd.f22 976 5 [] [] 1 ⟨[(0, vc (tl e_Point default a1)), (1, vi a2), (5, vo 0 0 2 l6.length), (6, vi x7), (13, vb (decide (x7 < ((a1.length : Nat) : Int))))], [(0, ro 0 38 2 l6.length (rf e_Point l6))]⟩ o0 (by kernel_rfl) (by kernel_rfl) ?_
    refine R_cn Tryd.f22 (.tmp 13) 1954 1955 (by kernel_rfl) (decide (x7 < ((a1.length : Nat) : Int))) (by kernel_rfl) (fun b8 => ?_) (fun b8 => ?_)
    · replace hm := bif_t b8 hm
      refine R_skip (by kernel_rfl) ?_
      refine R_sq Tryd.f22 978 979 (by kernel_rfl) ?_
      refine R_bk Tryd.f22 1 1956 (by kernel_rfl) ?_
      obtain ⟨g9, hm⟩ := bif_n hm
      obtain ⟨v10, h11, hm⟩ := bind_s hm
      obtain ⟨v12, h13, hm⟩ := bind_s hm
      obtain ⟨g14, hm⟩ := bif_n hm
      refine R_dr Tryd.f22 1956 7 [] [(6, dex (cen [] [] 1 0 (ref09_Quarters_x v10) (ref09_Quarters_o v10) [21] [])), (7, dex (cen [] [] 1 0 (ref09_Turned_x v12) (ref09_Turned_o v12) [20, 22] [])), (8, drw 1 0 (rf e_Point ([v12] : List Point))), (9, drw 0 1 (rf e_Point (l6 ++ ([v12] : List Point))))] [] [0, 0, 0, 6, 14, 0, 32, 126, 254, 511, 1023] 1 ⟨[(0, vc (tl e_Point default a1)), (1, vi a2), (5, vo 0 1 2 (l6.length + 1)), (6, vi x7)], [(0, ro 1 38 2 (l6.length + 1) (rf e_Point (l6 ++ ([v12] : List Point))))]⟩ (o1 (And.intro (inb_of g9) (And.intro (callS (K := (kx E 27 0)) ⟨[(21, vi a2)], []⟩ (opAt (rg Tryd.f22 1956) 6) [] [] 1 o0 rfl (ref09_Quarters_ok a2 v10 h11) (.inl rfl) (by kernel_rfl)) (And.intro (callS (K := (kx E 27 0)) ⟨[(20, va [ci ((a1.getD x7.toNat default).X), ci ((a1.getD x7.toNat default).Y)]), (22, vi v10)], []⟩ (opAt (rg Tryd.f22 1956) 7) [] [] 1 o0 rfl (ref09_Turned_ok (a1.getD x7.toNat default) v10 v12 h13) (.inl rfl) (by kernel_rfl)) (And.intro (litP e_Point default 2 (fun _ => rfl) ([v12] : List Point) 1 rfl) (apP e_Point default l6 ([v12] : List Point) l6.length 1 2 16 (1 ≤ 1) (Nat.le_refl _) rfl rfl (fun _ => rfl) (room_of g14))))))) (by kernel_rfl) (by kernel_rfl) ?_
      refine R_rn Tryd.f22 979 6 [] [] 2 ⟨[(0, vc (tl e_Point default a1)), (1, vi a2), (5, vo 0 1 2 (l6.length + 1)), (6, vi (w64 (x7 + 1)))], [(0, ro 1 38 2 (l6.length + 1) (rf e_Point (l6 ++ ([v12] : List Point))))]⟩ o0 (by kernel_rfl) (by kernel_rfl) ?_
      exact HL_enter (ref09_Turn_L1_S a1 a2 (l6 ++ ([v12] : List Point)) (l6.length + 1) (w64 (x7 + 1))) (by kernel_rfl) (by kernel_rfl) (ih (l6 ++ ([v12] : List Point)) (l6.length + 1) (w64 (x7 + 1)) _ (len_app rfl rfl) hm)
    · replace hm := bif_f b8 hm
      refine R_exit 0 (by kernel_rfl) ?_
      obtain rfl := Option.some.inj hm
      exact L0_mk (by kernel_rfl) (by kernel_rfl)

set_option maxRecDepth 100000 in
theorem ref09_Turn_ok (a1 : List Point) (a2 : Int) (r : (List Point)) (hm : ref09_Turn a1 a2 = some r) : CtX Tryd.prog globs 22 0 0 [.one (tl e_Point default a1), .one (ci a2)] [] (ref09_Turn_x r) (ref09_Turn_o r) := by
  unfold ref09_Turn at hm
  refine CtX_of_E (fn := Tryd.f22) (c := nd Tryd.f22 1) (nt := 27) (by kernel_rfl) (by kernel_rfl) (by kernel_rfl) (by kernel_rfl) fun E => ?_
  refine R_sq Tryd.f22 2 3 (by kernel_rfl) ?_
  refine R_rn Tryd.f22 2 0 [] [] 0 ⟨[(0, vc (tl e_Point default a1)), (1, vi a2)], []⟩ o0 (by kernel_rfl) (by kernel_rfl) ?_
  refine R_sq Tryd.f22 6 7 (by kernel_rfl) ?_
  refine R_sq Tryd.f22 12 13 (by kernel_rfl) ?_
  obtain ⟨v3, h4, hm⟩ := bind_s hm
  refine R_rn Tryd.f22 12 1 [(1, dex (cen [] [] 0 0 (ref09_negative_x v3) (ref09_negative_o v3) [7] []))] [] 0 ⟨[(0, vc (tl e_Point default a1)), (1, vi a2), (9, vb (!v3))], []⟩ (o1 (callS (K := (kx E 27 0)) ⟨[(7, vc (tl e_Point default a1))], []⟩ (opAt (rg Tryd.f22 12) 1) [] [] 0 o0 rfl (ref09_negative_ok a1 v3 h4) (.inl rfl) (by kernel_rfl))) (by kernel_rfl) (by kernel_rfl) ?_
  refine R_cn Tryd.f22 (.tmp 9) 26 27 (by kernel_rfl) (!v3) (by kernel_rfl) (fun b5 => ?_) (fun b5 => ?_)
  · replace hm := bif_t b5 hm
    refine R_sq Tryd.f22 52 53 (by kernel_rfl) ?_
    refine R_rn Tryd.f22 52 2 [] [] 0 ⟨[(4, vc (.emp))], []⟩ o0 (by kernel_rfl) (by kernel_rfl) ?_
    refine H_fin [.own 4 0 38 2 (rf e_Point ([] : List Point))] ⟨[(4, vo 0 0 2 0)], [(0, ro 0 38 2 0 (rf e_Point ([] : List Point)))]⟩ o0 (by kernel_rfl) ?_
    refine H_fin [.len 0 (([] : List Point).length)] ⟨[(4, vo 0 0 2 (([] : List Point).length))], [(0, ro 0 38 2 (([] : List Point).length) (rf e_Point ([] : List Point)))]⟩ (o1 (And.intro (show 0 = ([] : List Point).length from rfl) (show 0 = ([] : List Point).length from rfl))) (by kernel_rfl) ?_
    obtain rfl := Option.some.inj hm
    refine R_ret (by kernel_rfl) ?_
    exact ret_mk (by kernel_rfl) (by kernel_rfl)
  · replace hm := bif_f b5 hm
    refine R_skip (by kernel_rfl) ?_
    refine R_sq Tryd.f22 14 15 (by kernel_rfl) ?_
    refine R_rn Tryd.f22 14 3 [] [] 0 ⟨[(0, vc (tl e_Point default a1)), (1, vi a2), (5, vc (.emp))], []⟩ o0 (by kernel_rfl) (by kernel_rfl) ?_
    refine R_sq Tryd.f22 30 31 (by kernel_rfl) ?_
    refine R_sq Tryd.f22 60 61 (by kernel_rfl) ?_
    refine R_rn Tryd.f22 60 4 [] [] 0 ⟨[(0, vc (tl e_Point default a1)), (1, vi a2), (5, vc (.emp)), (6, vi 0)], []⟩ o0 (by kernel_rfl) (by kernel_rfl) ?_
    refine H_fin [.own 5 0 38 2 (rf e_Point ([] : List Point))] ⟨[(0, vc (tl e_Point default a1)), (1, vi a2), (5, vo 0 0 2 0), (6, vi 0)], [(0, ro 0 38 2 0 (rf e_Point ([] : List Point)))]⟩ o0 (by kernel_rfl) ?_
    obtain ⟨o16, h17, hm⟩ := bind_s hm
    refine R_loop0 (nd Tryd.f22 244) 0 (by kernel_rfl) FUEL (fun o => ref09_Turn_L1_T o) o16 (HL_enter (ref09_Turn_L1_S a1 a2 ([] : List Point) 0 0) (by kernel_rfl) (by kernel_rfl) (ref09_Turn_L1_ok E a1 a2 FUEL ([] : List Point) 0 0 o16 rfl h17)) ?_
    refine R_sq Tryd.f22 62 63 (by kernel_rfl) ?_
    refine R_rn Tryd.f22 62 8 [] [] 1 ⟨[(4, vo 0 0 2 o16.length)], [(0, ro 0 38 2 o16.length (rf e_Point o16))]⟩ o0 (by kernel_rfl) (by kernel_rfl) ?_
    obtain rfl := Option.some.inj hm
    refine R_ret (by kernel_rfl) ?_
    exact ret_mk (by kernel_rfl) (by kernel_rfl)

end Saw
end Go.SL

namespace Go.SL
namespace Saw
open Go.Proofs
set_option maxHeartbeats 4000000

def ref09_Mirror_x (r : (List Point)) : V := vo 0 0 2 r.length

def ref09_Mirror_o (r : (List Point)) : List (Nat × (Nat × O)) := [(0, ro 0 38 2 r.length (rf e_Point r))]

theorem ref09_Mirror_f (r : (List Point)) : Frozen (ref09_Mirror_o r) := by
  intro i k o h
  unfold ref09_Mirror_o at h
  rw [look_cons] at h
  split at h
  · cases h; exact fun _ _ => rfl
  · cases h

def ref09_Mirror_L1_S (a1 : List Point) (l5 : List Point) (l5n : Nat) (x6 : Int) : St :=
  ⟨[(0, vc (tl e_Point default a1)), (3, vo 0 0 2 l5n), (4, vi x6)], [(0, ro 0 38 2 l5n (rf e_Point l5))]⟩

def ref09_Mirror_L1_T (l10 : List Point) : St :=
  ⟨[(3, vo 0 0 2 l10.length)], [(0, ro 0 38 2 l10.length (rf e_Point l10))]⟩

set_option maxRecDepth 100000 in
theorem ref09_Mirror_L1_ok (E : Env 0) (a1 : List Point) : ∀ (n : Nat) (l5 : List Point) (l5n : Nat) (x6 : Int) (res : (List Point)), l5.length = l5n → ref09_Mirror_L1 a1 n l5 x6 = some res → HL (kx E 31 0) (nd Tryd.f24 244) (loopQ0 0 (fun o => ref09_Mirror_L1_T o) res) n (ref09_Mirror_L1_S a1 l5 l5n x6) := by
  intro n
  induction n with
  | zero =>
    intro l5 l5n x6 res hl0 hm
    cases hm
  | succ n ih =>
    intro l5 l5n x6 res hl0 hm
    subst hl0
    refine HL_succ ?_
    refine R_sq Tryd.f24 488 489 (by kernel_rfl) ?_
    refine R_sq Tryd.f24 976 977 (by kernel_rfl) ?_
    refine R_rn Tryd.f24 976 5 [] [] 1 ⟨[(0, vc (tl e_Point default a1)), (3, vo 0 0 2 l5.length), (4, vi x6), (12, vb (decide (x6 ≥ 0)))], [(0, ro 0 38 2 l5.length (rf e_Point l5))]⟩ o0 (by kernel_rfl) (by kernel_rfl) ?_
    refine R_cn Tryd.f24 (.tmp 12) 1954 1955 (by kernel_rfl) (decide (x6 ≥ 0)) (by kernel_rfl) (fun b7 => ?_) (fun b7 => ?_)
    · replace hm := bif_t b7 hm
      refine R_skip (by kernel_rfl) ?_
      refine R_sq Tryd.f24 978 979 (by kernel_rfl) ?_
      refine R_bk Tryd.f24 1 1956 (by kernel_rfl) ?_
      obtain ⟨g8, hm⟩ := bif_n hm
      obtain ⟨g9, hm⟩ := bif_n hm
      refine R_dr Tryd.f24 1956 7 [] [(13, drw 1 0 (rf e_Point ([(Point.mk (w64 (0 - ((a1.getD x6.toNat default).X))) ((a1.getD x6.toNat default).Y))] : List Point))), (14, drw 0 1 (rf e_Point (l5 ++ ([(Point.mk (w64 (0 - ((a1.getD x6.toNat default).X))) ((a1.getD x6.toNat default).Y))] : List Point))))] [] [0, 0, 0, 6, 14, 30, 62, 0, 0, 384, 896, 1920, 4094, 8190, 16383, 32767] 1 ⟨[(0, vc (tl e_Point default a1)), (3, vo 0 1 2 (l5.length + 1)), (4, vi x6)], [(0, ro 1 38 2 (l5.length + 1) (rf e_Point (l5 ++ ([(Point.mk (w64 (0 - ((a1.getD x6.toNat default).X))) ((a1.getD x6.toNat default).Y))] : List Point))))]⟩ (o1 (And.intro (inb_of g8) (And.intro (inb_of g8) (And.intro (litP e_Point default 2 (fun _ => rfl) ([(Point.mk (w64 (0 - ((a1.getD x6.toNat default).X))) ((a1.getD x6.toNat default).Y))] : List Point) 1 rfl) (apP e_Point default l5 ([(Point.mk (w64 (0 - ((a1.getD x6.toNat default).X))) ((a1.getD x6.toNat default).Y))] : List Point) l5.length 1 2 16 (1 ≤ 1) (Nat.le_refl _) rfl rfl (fun _ => rfl) (room_of g9)))))) (by kernel_rfl) (by kernel_rfl) ?_
      refine R_rn Tryd.f24 979 6 [] [] 2 ⟨[(0, vc (tl e_Point default a1)), (3, vo 0 1 2 (l5.length + 1)), (4, vi (w64 (x6 - 1)))], [(0, ro 1 38 2 (l5.length + 1) (rf e_Point (l5 ++ ([(Point.mk (w64 (0 - ((a1.getD x6.toNat default).X))) ((a1.getD x6.toNat default).Y))] : List Point))))]⟩ o0 (by kernel_rfl) (by kernel_rfl) ?_
      exact HL_enter (ref09_Mirror_L1_S a1 (l5 ++ ([(Point.mk (w64 (0 - ((a1.getD x6.toNat default).X))) ((a1.getD x6.toNat default).Y))] : List Point)) (l5.length + 1) (w64 (x6 - 1))) (by kernel_rfl) (by kernel_rfl) (ih (l5 ++ ([(Point.mk (w64 (0 - ((a1.getD x6.toNat default).X))) ((a1.getD x6.toNat default).Y))] : List Point)) (l5.length + 1) (w64 (x6 - 1)) _ (len_app rfl rfl) hm)
    · replace hm := bif_f b7 hm
      refine R_exit 0 (by kernel_rfl) ?_
      obtain rfl := Option.some.inj hm
      exact L0_mk (by kernel_rfl) (by kernel_rfl)

set_option maxRecDepth 100000 in
theorem ref09_Mirror_ok (a1 : List Point) (r : (List Point)) (hm : ref09_Mirror a1 = some r) : CtX Tryd.prog globs 24 0 0 [.one (tl e_Point default a1)] [] (ref09_Mirror_x r) (ref09_Mirror_o r) := by
  unfold ref09_Mirror at hm
  refine CtX_of_E (fn := Tryd.f24) (c := nd Tryd.f24 1) (nt := 31) (by kernel_rfl) (by kernel_rfl) (by kernel_rfl) (by kernel_rfl) fun E => ?_
  refine R_sq Tryd.f24 2 3 (by kernel_rfl) ?_
  refine R_rn Tryd.f24 2 0 [] [] 0 ⟨[(0, vc (tl e_Point default a1))], []⟩ o0 (by kernel_rfl) (by kernel_rfl) ?_
  refine R_sq Tryd.f24 6 7 (by kernel_rfl) ?_
  refine R_sq Tryd.f24 12 13 (by kernel_rfl) ?_
  obtain ⟨v2, h3, hm⟩ := bind_s hm
  refine R_rn Tryd.f24 12 1 [(1, dex (cen [] [] 0 0 (ref09_negative_x v2) (ref09_negative_o v2) [5] []))] [] 0 ⟨[(0, vc (tl e_Point default a1)), (7, vb (!v2))], []⟩ (o1 (callS (K := (kx E 31 0)) ⟨[(5, vc (tl e_Point default a1))], []⟩ (opAt (rg Tryd.f24 12) 1) [] [] 0 o0 rfl (ref09_negative_ok a1 v2 h3) (.inl rfl) (by kernel_rfl))) (by kernel_rfl) (by kernel_rfl) ?_
  refine R_cn Tryd.f24 (.tmp 7) 26 27 (by kernel_rfl) (!v2) (by kernel_rfl) (fun b4 => ?_) (fun b4 => ?_)
  · replace hm := bif_t b4 hm
    refine R_sq Tryd.f24 52 53 (by kernel_rfl) ?_
    refine R_rn Tryd.f24 52 2 [] [] 0 ⟨[(2, vc (.emp))], []⟩ o0 (by kernel_rfl) (by kernel_rfl) ?_
    refine H_fin [.own 2 0 38 2 (rf e_Point ([] : List Point))] ⟨[(2, vo 0 0 2 0)], [(0, ro 0 38 2 0 (rf e_Point ([] : List Point)))]⟩ o0 (by kernel_rfl) ?_
    refine H_fin [.len 0 (([] : List Point).length)] ⟨[(2, vo 0 0 2 (([] : List Point).length))], [(0, ro 0 38 2 (([] : List Point).length) (rf e_Point ([] : List Point)))]⟩ (o1 (And.intro (show 0 = ([] : List Point).length from rfl) (show 0 = ([] : List Point).length from rfl))) (by kernel_rfl) ?_
    obtain rfl := Option.some.inj hm
    refine R_ret (by kernel_rfl) ?_
    exact ret_mk (by kernel_rfl) (by kernel_rfl)
  · replace hm := bif_f b4 hm
    refine R_skip (by kernel_rfl) ?_
    refine R_sq Tryd.f24 14 15 (by kernel_rfl) ?_
    refine R_rn Tryd.f24 14 3 [] [] 0 ⟨[(0, vc (tl e_Point default a1)), (3, vc (.emp))], []⟩ o0 (by kernel_rfl) (by kernel_rfl) ?_
    refine R_sq Tryd.f24 30 31 (by kernel_rfl) ?_
    refine R_sq Tryd.f24 60 61 (by kernel_rfl) ?_
    refine R_rn Tryd.f24 60 4 [] [] 0 ⟨[(0, vc (tl e_Point default a1)), (3, vc (.emp)), (4, vi (w64 (((a1.length : Nat) : Int) - 1)))], []⟩ o0 (by kernel_rfl) (by kernel_rfl) ?_
    refine H_fin [.own 3 0 38 2 (rf e_Point ([] : List Point))] ⟨[(0, vc (tl e_Point default a1)), (3, vo 0 0 2 0), (4, vi (w64 (((a1.length : Nat) : Int) - 1)))], [(0, ro 0 38 2 0 (rf e_Point ([] : List Point)))]⟩ o0 (by kernel_rfl) ?_
    obtain ⟨o11, h12, hm⟩ := bind_s hm
    refine R_loop0 (nd Tryd.f24 244) 0 (by kernel_rfl) FUEL (fun o => ref09_Mirror_L1_T o) o11 (HL_enter (ref09_Mirror_L1_S a1 ([] : List Point) 0 (w64 (((a1.length : Nat) : Int) - 1))) (by kernel_rfl) (by kernel_rfl) (ref09_Mirror_L1_ok E a1 FUEL ([] : List Point) 0 (w64 (((a1.length : Nat) : Int) - 1)) o11 rfl h12)) ?_
    refine R_sq Tryd.f24 62 63 (by kernel_rfl) ?_
    refine R_rn Tryd.f24 62 8 [] [] 1 ⟨[(2, vo 0 0 2 o11.length)], [(0, ro 0 38 2 o11.length (rf e_Point o11))]⟩ o0 (by kernel_rfl) (by kernel_rfl) ?_
    obtain rfl := Option.some.inj hm
    refine R_ret (by kernel_rfl) ?_
    exact ret_mk (by kernel_rfl) (by kernel_rfl)

end Saw
end Go.SL
