import Derived.Test.YtgpgnlllieekbaaDoorEBase
import Derived.Test.YtgpgnlllieekbaaDoorEFa13
import Derived.Test.YtgpgnlllieekbaaDoorEFa14
set_option linter.unusedVariables false
set_option linter.unusedSimpArgs false
namespace Go.SL
namespace Saw
open Go.Proofs
set_option maxHeartbeats 4000000

def ref23_Sizes_x (r : (List Int) × (List Int)) : V := .tup [.one (.own 0 0 1 r.1.length), .one (.own 1 0 1 r.2.length)]

def ref23_Sizes_o (r : (List Int) × (List Int)) : List (Nat × (Nat × O)) := [(0, ro 0 3 1 r.1.length (rf e_i64 r.1)), (1, ro 0 3 1 r.2.length (rf e_i64 r.2))]

theorem ref23_Sizes_f (r : (List Int) × (List Int)) : Frozen (ref23_Sizes_o r) := by
  intro i k o h
  unfold ref23_Sizes_o at h
  rw [look_cons] at h
  split at h
  · cases h; exact fun _ _ => rfl
  · rw [look_cons] at h
    split at h
    · cases h; exact fun _ _ => rfl
    · cases h

def ref23_Sizes_k2_S (a1 : List Product) (a2 : Int) (x8 : Int) (l19 : List Int) (l19n : Nat) (l20 : List Int) (l20n : Nat) : St :=
  ⟨[(0, vc (tl e_Product default a1)), (1, vi a2), (6, vo 0 0 1 l19n), (7, vo 1 0 1 l20n), (8, vi x8)], [(0, ro 0 3 1 l19n (rf e_i64 l19)), (1, ro 0 3 1 l20n (rf e_i64 l20))]⟩

def ref23_Sizes_L1_S (a1 : List Product) (a2 : Int) (l6 : List Int) (l6n : Nat) (l7 : List Int) (l7n : Nat) (x8 : Int) : St :=
  ⟨[(0, vc (tl e_Product default a1)), (1, vi a2), (6, vo 0 0 1 l6n), (7, vo 1 0 1 l7n), (8, vi x8)], [(0, ro 0 3 1 l6n (rf e_i64 l6)), (1, ro 0 3 1 l7n (rf e_i64 l7))]⟩

def ref23_Sizes_L1_T (l21 : List Int) (l22 : List Int) : St :=
  ⟨[(6, vo 0 0 1 l21.length), (7, vo 1 0 1 l22.length)], [(0, ro 0 3 1 l21.length (rf e_i64 l21)), (1, ro 0 3 1 l22.length (rf e_i64 l22))]⟩

set_option maxRecDepth 100000 in
theorem ref23_Sizes_L1_ok (E : Env 0) (a1 : List Product) (a2 : Int) : ∀ (n : Nat) (l6 : List Int) (l6n : Nat) (l7 : List Int) (l7n : Nat) (x8 : Int) (res : (List Int) × (List Int)), l6.length = l6n → l7.length = l7n → ref23_Sizes_L1 a1 a2 n l6 l7 x8 = some res → HL (kx E 52 0) (nd Tryd.f11 244) (loopQ0 0 (fun o => ref23_Sizes_L1_T o.1 o.2) res) n (ref23_Sizes_L1_S a1 a2 l6 l6n l7 l7n x8) := by
  intro n
  induction n with
  | zero =>
    intro l6 l6n l7 l7n x8 res hl0 hl1 hm
    cases hm
  | succ n ih =>
    intro l6 l6n l7 l7n x8 res hl0 hl1 hm
    subst hl0
    subst hl1
    refine HL_succ ?_
    refine R_sq Tryd.f11 488 489 (by kernel_rfl) ?_
    refine R_sq Tryd.f11 976 977 (by kernel_rfl) ?_
    refine R_rn Tryd.f11 976 5 [] [] 2 ⟨[(0, vc (tl e_Product default a1)), (1, vi a2), (6, vo 0 0 1 l6.length), (7, vo 1 0 1 l7.length), (8, vi x8), (17, vb (decide (x8 < ((a1.length : Nat) : Int))))], [(0, ro 0 3 1 l6.length (rf e_i64 l6)), (1, ro 0 3 1 l7.length (rf e_i64 l7))]⟩ o0 (by kernel_rfl) (by kernel_rfl) ?_
    refine R_cn Tryd.f11 (.tmp 17) 1954 1955 (by kernel_rfl) (decide (x8 < ((a1.length : Nat) : Int))) (by kernel_rfl) (fun b9 => ?_) (fun b9 => ?_)
    · replace hm := bif_t b9 hm
      refine R_skip (by kernel_rfl) ?_
      refine R_join (ι := (List Int) × Nat × (List Int) × Nat) (nd Tryd.f11 978) (nd Tryd.f11 979) (by kernel_rfl) (fun p => ref23_Sizes_k2_S a1 a2 x8 p.1 p.2.1 p.2.2.1 p.2.2.2) (fun p => p.1.length = p.2.1 ∧ p.2.2.1.length = p.2.2.2 ∧ ref23_Sizes_k2 x8 (ref23_Sizes_L1 a1 a2 n) p.1 p.2.2.1 = some res) ?_ ?_
      · rintro ⟨l19, l19n, l20, l20n⟩ ⟨el19, el20, hm⟩
        replace el19 : l19.length = l19n := el19
        subst el19
        replace el20 : l20.length = l20n := el20
        subst el20
        show H _ (ref23_Sizes_k2_S a1 a2 x8 l19 l19.length l20 l20.length) (nd Tryd.f11 979) _
        refine R_rn Tryd.f11 979 6 [] [] 4 ⟨[(0, vc (tl e_Product default a1)), (1, vi a2), (6, vo 0 0 1 l19.length), (7, vo 1 0 1 l20.length), (8, vi (w64 (x8 + 1)))], [(0, ro 0 3 1 l19.length (rf e_i64 l19)), (1, ro 0 3 1 l20.length (rf e_i64 l20))]⟩ o0 (by kernel_rfl) (by kernel_rfl) ?_
        exact HL_enter (ref23_Sizes_L1_S a1 a2 l19 l19.length l20 l20.length (w64 (x8 + 1))) (by kernel_rfl) (by kernel_rfl) (ih l19 l19.length l20 l20.length (w64 (x8 + 1)) _ rfl rfl hm)
      · refine R_bk Tryd.f11 1 1956 (by kernel_rfl) ?_
        refine R_sq Tryd.f11 3912 3913 (by kernel_rfl) ?_
        obtain ⟨g10, hm⟩ := bif_n hm
        obtain ⟨v11, h12, hm⟩ := bind_s hm
        refine R_rn Tryd.f11 3912 7 [(4, dex (cen [] [] 2 0 (ref19_Green_x v11) (ref19_Green_o v11) [24] []))] [] 2 ⟨[(0, vc (tl e_Product default a1)), (1, vi a2), (6, vo 0 0 1 l6.length), (7, vo 1 0 1 l7.length), (8, vi x8), (9, vi v11.1), (10, vi v11.2)], [(0, ro 0 3 1 l6.length (rf e_i64 l6)), (1, ro 0 3 1 l7.length (rf e_i64 l7))]⟩ (o1 (And.intro (inb_of g10) (callS (K := (kx E 52 0)) ⟨[(24, va [cs ((a1.getD x8.toNat default).Name), ci ((a1.getD x8.toNat default).Thick), ci ((a1.getD x8.toNat default).Width), ci ((a1.getD x8.toNat default).Allow), ci ((a1.getD x8.toNat default).Wane), tl e_i64 default ((a1.getD x8.toNat default).Lengths), tl e_i64 default ((a1.getD x8.toNat default).Prices)])], []⟩ (opAt (rg Tryd.f11 3912) 4) [] [] 2 o0 rfl (ref19_Green_ok (a1.getD x8.toNat default) v11 h12) (.inl rfl) (by kernel_rfl)))) (by kernel_rfl) (by kernel_rfl) ?_
        refine R_sq Tryd.f11 7826 7827 (by kernel_rfl) ?_
        refine R_rn Tryd.f11 7826 8 [] [] 2 ⟨[(0, vc (tl e_Product default a1)), (1, vi a2), (6, vo 0 0 1 l6.length), (7, vo 1 0 1 l7.length), (8, vi x8), (9, vi v11.1), (10, vi v11.2), (30, vb (v11.1 == a2))], [(0, ro 0 3 1 l6.length (rf e_i64 l6)), (1, ro 0 3 1 l7.length (rf e_i64 l7))]⟩ o0 (by kernel_rfl) (by kernel_rfl) ?_
        refine R_cn Tryd.f11 (.tmp 30) 15654 15655 (by kernel_rfl) (v11.1 == a2) (by kernel_rfl) (fun b13 => ?_) (fun b13 => ?_)
        · replace hm := bif_t b13 hm
          refine R_sq Tryd.f11 31308 31309 (by kernel_rfl) ?_
          obtain ⟨g14, hm⟩ := bif_n hm
          refine R_rn Tryd.f11 31308 9 [(2, drw 2 0 (rf e_i64 ([v11.2] : List Int))), (3, drw 0 1 (rf e_i64 (l6 ++ ([v11.2] : List Int))))] [] 2 ⟨[(0, vc (tl e_Product default a1)), (1, vi a2), (6, vo 0 1 1 (l6.length + 1)), (7, vo 1 0 1 l7.length), (8, vi x8)], [(0, ro 1 3 1 (l6.length + 1) (rf e_i64 (l6 ++ ([v11.2] : List Int)))), (1, ro 0 3 1 l7.length (rf e_i64 l7))]⟩ (o1 (And.intro (litP e_i64 default 1 (fun _ => rfl) ([v11.2] : List Int) 1 rfl) (apP e_i64 default l6 ([v11.2] : List Int) l6.length 1 1 8 (1 ≤ 1) (Nat.le_refl _) rfl rfl (fun _ => rfl) (room_of g14)))) (by kernel_rfl) (by kernel_rfl) ?_
          obtain ⟨g15, hm⟩ := bif_n hm
          refine R_rn Tryd.f11 31309 10 [(2, drw 3 0 (rf e_i64 ([x8] : List Int))), (3, drw 1 1 (rf e_i64 (l7 ++ ([x8] : List Int))))] [] 3 ⟨[(0, vc (tl e_Product default a1)), (1, vi a2), (6, vo 0 1 1 (l6.length + 1)), (7, vo 1 1 1 (l7.length + 1)), (8, vi x8)], [(0, ro 1 3 1 (l6.length + 1) (rf e_i64 (l6 ++ ([v11.2] : List Int)))), (1, ro 1 3 1 (l7.length + 1) (rf e_i64 (l7 ++ ([x8] : List Int))))]⟩ (o1 (And.intro (litP e_i64 default 1 (fun _ => rfl) ([x8] : List Int) 1 rfl) (apP e_i64 default l7 ([x8] : List Int) l7.length 1 1 8 (1 ≤ 1) (Nat.le_refl _) rfl rfl (fun _ => rfl) (room_of g15)))) (by kernel_rfl) (by kernel_rfl) ?_
          exact J_mk ((l6 ++ ([v11.2] : List Int)), (l6.length + 1), (l7 ++ ([x8] : List Int)), (l7.length + 1)) ⟨(len_app rfl rfl), (len_app rfl rfl), hm⟩ (by kernel_rfl) (by kernel_rfl)
        · replace hm := bif_f b13 hm
          refine R_sq Tryd.f11 31310 31311 (by kernel_rfl) ?_
          refine R_rn Tryd.f11 31310 11 [] [] 2 ⟨[(0, vc (tl e_Product default a1)), (1, vi a2), (6, vo 0 0 1 l6.length), (7, vo 1 0 1 l7.length), (8, vi x8), (9, vi v11.1), (41, vb (v11.2 == a2))], [(0, ro 0 3 1 l6.length (rf e_i64 l6)), (1, ro 0 3 1 l7.length (rf e_i64 l7))]⟩ o0 (by kernel_rfl) (by kernel_rfl) ?_
          refine R_cn Tryd.f11 (.tmp 41) 62622 62623 (by kernel_rfl) (v11.2 == a2) (by kernel_rfl) (fun b16 => ?_) (fun b16 => ?_)
          · replace hm := bif_t b16 hm
            refine R_sq Tryd.f11 125244 125245 (by kernel_rfl) ?_
            obtain ⟨g17, hm⟩ := bif_n hm
            refine R_rn Tryd.f11 125244 12 [(2, drw 2 0 (rf e_i64 ([v11.1] : List Int))), (3, drw 0 1 (rf e_i64 (l6 ++ ([v11.1] : List Int))))] [] 2 ⟨[(0, vc (tl e_Product default a1)), (1, vi a2), (6, vo 0 1 1 (l6.length + 1)), (7, vo 1 0 1 l7.length), (8, vi x8)], [(0, ro 1 3 1 (l6.length + 1) (rf e_i64 (l6 ++ ([v11.1] : List Int)))), (1, ro 0 3 1 l7.length (rf e_i64 l7))]⟩ (o1 (And.intro (litP e_i64 default 1 (fun _ => rfl) ([v11.1] : List Int) 1 rfl) (apP e_i64 default l6 ([v11.1] : List Int) l6.length 1 1 8 (1 ≤ 1) (Nat.le_refl _) rfl rfl (fun _ => rfl) (room_of g17)))) (by kernel_rfl) (by kernel_rfl) ?_
            obtain ⟨g18, hm⟩ := bif_n hm
            refine R_rn Tryd.f11 125245 13 [(2, drw 3 0 (rf e_i64 ([x8] : List Int))), (3, drw 1 1 (rf e_i64 (l7 ++ ([x8] : List Int))))] [] 3 ⟨[(0, vc (tl e_Product default a1)), (1, vi a2), (6, vo 0 1 1 (l6.length + 1)), (7, vo 1 1 1 (l7.length + 1)), (8, vi x8)], [(0, ro 1 3 1 (l6.length + 1) (rf e_i64 (l6 ++ ([v11.1] : List Int)))), (1, ro 1 3 1 (l7.length + 1) (rf e_i64 (l7 ++ ([x8] : List Int))))]⟩ (o1 (And.intro (litP e_i64 default 1 (fun _ => rfl) ([x8] : List Int) 1 rfl) (apP e_i64 default l7 ([x8] : List Int) l7.length 1 1 8 (1 ≤ 1) (Nat.le_refl _) rfl rfl (fun _ => rfl) (room_of g18)))) (by kernel_rfl) (by kernel_rfl) ?_
            exact J_mk ((l6 ++ ([v11.1] : List Int)), (l6.length + 1), (l7 ++ ([x8] : List Int)), (l7.length + 1)) ⟨(len_app rfl rfl), (len_app rfl rfl), hm⟩ (by kernel_rfl) (by kernel_rfl)
          · replace hm := bif_f b16 hm
            refine R_skip (by kernel_rfl) ?_
            exact J_mk (l6, l6.length, l7, l7.length) ⟨rfl, rfl, hm⟩ (by kernel_rfl) (by kernel_rfl)
    · replace hm := bif_f b9 hm
      refine R_exit 0 (by kernel_rfl) ?_
      obtain rfl := Option.some.inj hm
      exact L0_mk (by kernel_rfl) (by kernel_rfl)

set_option maxRecDepth 100000 in
theorem ref23_Sizes_ok (a1 : List Product) (a2 : Int) (r : (List Int) × (List Int)) (hm : ref23_Sizes a1 a2 = some r) : CtX Tryd.prog globs 11 0 0 [.one (tl e_Product default a1), .one (ci a2)] [] (ref23_Sizes_x r) (ref23_Sizes_o r) := by
  unfold ref23_Sizes at hm
  refine CtX_of_E (fn := Tryd.f11) (c := nd Tryd.f11 1) (nt := 52) (by kernel_rfl) (by kernel_rfl) (by kernel_rfl) (by kernel_rfl) fun E => ?_
  refine R_sq Tryd.f11 2 3 (by kernel_rfl) ?_
  refine R_rn Tryd.f11 2 0 [] [] 0 ⟨[(0, vc (tl e_Product default a1)), (1, vi a2)], []⟩ o0 (by kernel_rfl) (by kernel_rfl) ?_
  refine R_sq Tryd.f11 6 7 (by kernel_rfl) ?_
  refine R_sq Tryd.f11 12 13 (by kernel_rfl) ?_
  obtain ⟨v3, h4, hm⟩ := bind_s hm
  refine R_rn Tryd.f11 12 1 [(1, dex (cen [] [] 0 0 (ref19_Check_x v3) (ref19_Check_o v3) [11] []))] [] 0 ⟨[(0, vc (tl e_Product default a1)), (1, vi a2), (13, vb (v3 != 0))], []⟩ (o1 (callS (K := (kx E 52 0)) ⟨[(11, vc (tl e_Product default a1))], []⟩ (opAt (rg Tryd.f11 12) 1) [] [] 0 o0 rfl (ref19_Check_ok a1 v3 h4) (.inl rfl) (by kernel_rfl))) (by kernel_rfl) (by kernel_rfl) ?_
  refine R_cn Tryd.f11 (.tmp 13) 26 27 (by kernel_rfl) (v3 != 0) (by kernel_rfl) (fun b5 => ?_) (fun b5 => ?_)
  · replace hm := bif_t b5 hm
    refine R_sq Tryd.f11 52 53 (by kernel_rfl) ?_
    refine R_rn Tryd.f11 52 2 [] [] 0 ⟨[(4, vc (.emp)), (5, vc (.emp))], []⟩ o0 (by kernel_rfl) (by kernel_rfl) ?_
    refine H_fin [.own 4 0 3 1 (rf e_i64 ([] : List Int))] ⟨[(4, vo 0 0 1 0), (5, vc (.emp))], [(0, ro 0 3 1 0 (rf e_i64 ([] : List Int)))]⟩ o0 (by kernel_rfl) ?_
    refine H_fin [.own 5 1 3 1 (rf e_i64 ([] : List Int))] ⟨[(4, vo 0 0 1 0), (5, vo 1 0 1 0)], [(0, ro 0 3 1 0 (rf e_i64 ([] : List Int))), (1, ro 0 3 1 0 (rf e_i64 ([] : List Int)))]⟩ o0 (by kernel_rfl) ?_
    refine H_fin [.len 0 (([] : List Int).length)] ⟨[(4, vo 0 0 1 (([] : List Int).length)), (5, vo 1 0 1 0)], [(0, ro 0 3 1 (([] : List Int).length) (rf e_i64 ([] : List Int))), (1, ro 0 3 1 0 (rf e_i64 ([] : List Int)))]⟩ (o1 (And.intro (show 0 = ([] : List Int).length from rfl) (show 0 = ([] : List Int).length from rfl))) (by kernel_rfl) ?_
    refine H_fin [.len 1 (([] : List Int).length)] ⟨[(4, vo 0 0 1 (([] : List Int).length)), (5, vo 1 0 1 (([] : List Int).length))], [(0, ro 0 3 1 (([] : List Int).length) (rf e_i64 ([] : List Int))), (1, ro 0 3 1 (([] : List Int).length) (rf e_i64 ([] : List Int)))]⟩ (o1 (And.intro (show 0 = ([] : List Int).length from rfl) (show 0 = ([] : List Int).length from rfl))) (by kernel_rfl) ?_
    obtain rfl := Option.some.inj hm
    refine R_ret (by kernel_rfl) ?_
    exact ret_mk (by kernel_rfl) (by kernel_rfl)
  · replace hm := bif_f b5 hm
    refine R_skip (by kernel_rfl) ?_
    refine R_sq Tryd.f11 14 15 (by kernel_rfl) ?_
    refine R_rn Tryd.f11 14 3 [] [] 0 ⟨[(0, vc (tl e_Product default a1)), (1, vi a2), (6, vc (.emp)), (7, vc (.emp))], []⟩ o0 (by kernel_rfl) (by kernel_rfl) ?_
    refine R_sq Tryd.f11 30 31 (by kernel_rfl) ?_
    refine R_sq Tryd.f11 60 61 (by kernel_rfl) ?_
    refine R_rn Tryd.f11 60 4 [] [] 0 ⟨[(0, vc (tl e_Product default a1)), (1, vi a2), (6, vc (.emp)), (7, vc (.emp)), (8, vi 0)], []⟩ o0 (by kernel_rfl) (by kernel_rfl) ?_
    refine H_fin [.own 6 0 3 1 (rf e_i64 ([] : List Int))] ⟨[(0, vc (tl e_Product default a1)), (1, vi a2), (6, vo 0 0 1 0), (7, vc (.emp)), (8, vi 0)], [(0, ro 0 3 1 0 (rf e_i64 ([] : List Int)))]⟩ o0 (by kernel_rfl) ?_
    refine H_fin [.own 7 1 3 1 (rf e_i64 ([] : List Int))] ⟨[(0, vc (tl e_Product default a1)), (1, vi a2), (6, vo 0 0 1 0), (7, vo 1 0 1 0), (8, vi 0)], [(0, ro 0 3 1 0 (rf e_i64 ([] : List Int))), (1, ro 0 3 1 0 (rf e_i64 ([] : List Int)))]⟩ o0 (by kernel_rfl) ?_
    obtain ⟨o23, h24, hm⟩ := bind_s hm
    refine R_loop0 (nd Tryd.f11 244) 0 (by kernel_rfl) FUEL (fun o => ref23_Sizes_L1_T o.1 o.2) o23 (HL_enter (ref23_Sizes_L1_S a1 a2 ([] : List Int) 0 ([] : List Int) 0 0) (by kernel_rfl) (by kernel_rfl) (ref23_Sizes_L1_ok E a1 a2 FUEL ([] : List Int) 0 ([] : List Int) 0 0 o23 rfl rfl h24)) ?_
    refine R_sq Tryd.f11 62 63 (by kernel_rfl) ?_
    refine R_rn Tryd.f11 62 14 [] [] 2 ⟨[(4, vo 0 0 1 o23.1.length), (5, vo 1 0 1 o23.2.length)], [(0, ro 0 3 1 o23.1.length (rf e_i64 o23.1)), (1, ro 0 3 1 o23.2.length (rf e_i64 o23.2))]⟩ o0 (by kernel_rfl) (by kernel_rfl) ?_
    obtain rfl := Option.some.inj hm
    refine R_ret (by kernel_rfl) ?_
    exact ret_mk (by kernel_rfl) (by kernel_rfl)

end Saw
end Go.SL

namespace Go.SL
namespace Saw
open Go.Proofs
set_option maxHeartbeats 4000000

def ref05_Same_x (r : Bool) : V := vb r

def ref05_Same_o (r : Bool) : List (Nat × (Nat × O)) := []

theorem ref05_Same_f (r : Bool) : Frozen (ref05_Same_o r) := by
  intro i k o h
  unfold ref05_Same_o at h
  cases h

def ref05_Same_L1_S (a1 : List Int) (a2 : List Int) (x4 : Int) : St :=
  ⟨[(0, vc (tl e_i64 default a1)), (1, vc (tl e_i64 default a2)), (5, vi x4)], []⟩

def ref05_Same_L1_T : St :=
  ⟨[], []⟩

set_option maxRecDepth 100000 in
theorem ref05_Same_L1_ok (E : Env 0) (a1 : List Int) (a2 : List Int) : ∀ (n : Nat) (x4 : Int) (res : Bool ⊕ Unit), ref05_Same_L1 a1 a2 n x4 = some res → HL (kx E 26 0) (nd Tryd.f12 116) (loopQ 0 (fun o => ref05_Same_L1_T) (fun v st => RetQ Tryd.prog Tryd.f12 (ref05_Same_x v) (ref05_Same_o v) .ret st) res) n (ref05_Same_L1_S a1 a2 x4) := by
  intro n
  induction n with
  | zero =>
    intro x4 res hm
    cases hm
  | succ n ih =>
    intro x4 res hm
    refine HL_succ ?_
    refine R_sq Tryd.f12 232 233 (by kernel_rfl) ?_
    refine R_sq Tryd.f12 464 465 (by kernel_rfl) ?_
    refine R_rn Tryd.f12 464 4 [] [] 0 ⟨[(0, vc (tl e_i64 default a1)), (1, vc (tl e_i64 default a2)), (5, vi x4), (14, vb (decide (x4 < ((a1.length : Nat) : Int))))], []⟩ o0 (by kernel_rfl) (by kernel_rfl) ?_
    refine R_cn Tryd.f12 (.tmp 14) 930 931 (by kernel_rfl) (decide (x4 < ((a1.length : Nat) : Int))) (by kernel_rfl) (fun b5 => ?_) (fun b5 => ?_)
    · replace hm := bif_t b5 hm
      refine R_skip (by kernel_rfl) ?_
      refine R_sq Tryd.f12 466 467 (by kernel_rfl) ?_
      refine R_bk Tryd.f12 1 932 (by kernel_rfl) ?_
      refine R_sq Tryd.f12 1864 1865 (by kernel_rfl) ?_
      obtain ⟨g6, hm⟩ := bif_n hm
      obtain ⟨g7, hm⟩ := bif_n hm
      refine R_dr Tryd.f12 1864 6 [] [] [] [0, 0, 3, 7, 0, 0, 48, 112, 255] 0 ⟨[(0, vc (tl e_i64 default a1)), (1, vc (tl e_i64 default a2)), (5, vi x4), (25, vb ((a1.getD x4.toNat default) != (a2.getD x4.toNat default)))], []⟩ (o1 (And.intro (inb_of g6) (inb_of g7))) (by kernel_rfl) (by kernel_rfl) ?_
      refine R_cn Tryd.f12 (.tmp 25) 3730 3731 (by kernel_rfl) ((a1.getD x4.toNat default) != (a2.getD x4.toNat default)) (by kernel_rfl) (fun b8 => ?_) (fun b8 => ?_)
      · replace hm := bif_t b8 hm
        refine R_sq Tryd.f12 7460 7461 (by kernel_rfl) ?_
        refine R_rn Tryd.f12 7460 7 [] [] 0 ⟨[(4, vb false)], []⟩ o0 (by kernel_rfl) (by kernel_rfl) ?_
        obtain rfl := Option.some.inj hm
        refine R_ret (by kernel_rfl) ?_
        refine L1_ret false ?_
        exact ret_mk (by kernel_rfl) (by kernel_rfl)
      · replace hm := bif_f b8 hm
        refine R_skip (by kernel_rfl) ?_
        refine R_rn Tryd.f12 467 5 [] [] 0 ⟨[(0, vc (tl e_i64 default a1)), (1, vc (tl e_i64 default a2)), (5, vi (w64 (x4 + 1)))], []⟩ o0 (by kernel_rfl) (by kernel_rfl) ?_
        exact HL_enter (ref05_Same_L1_S a1 a2 (w64 (x4 + 1))) (by kernel_rfl) (by kernel_rfl) (ih (w64 (x4 + 1)) _ hm)
    · replace hm := bif_f b5 hm
      refine R_exit 0 (by kernel_rfl) ?_
      obtain rfl := Option.some.inj hm
      exact L1_mk () (by kernel_rfl) (by kernel_rfl)

set_option maxRecDepth 100000 in
theorem ref05_Same_ok (a1 : List Int) (a2 : List Int) (r : Bool) (hm : ref05_Same a1 a2 = some r) : CtX Tryd.prog globs 12 0 0 [.one (tl e_i64 default a1), .one (tl e_i64 default a2)] [] (ref05_Same_x r) (ref05_Same_o r) := by
  unfold ref05_Same at hm
  refine CtX_of_E (fn := Tryd.f12) (c := nd Tryd.f12 1) (nt := 26) (by kernel_rfl) (by kernel_rfl) (by kernel_rfl) (by kernel_rfl) fun E => ?_
  refine R_sq Tryd.f12 2 3 (by kernel_rfl) ?_
  refine R_rn Tryd.f12 2 0 [] [] 0 ⟨[(0, vc (tl e_i64 default a1)), (1, vc (tl e_i64 default a2))], []⟩ o0 (by kernel_rfl) (by kernel_rfl) ?_
  refine R_sq Tryd.f12 6 7 (by kernel_rfl) ?_
  refine R_sq Tryd.f12 12 13 (by kernel_rfl) ?_
  refine R_rn Tryd.f12 12 1 [] [] 0 ⟨[(0, vc (tl e_i64 default a1)), (1, vc (tl e_i64 default a2)), (10, vb (((a1.length : Nat) : Int) != ((a2.length : Nat) : Int)))], []⟩ o0 (by kernel_rfl) (by kernel_rfl) ?_
  refine R_cn Tryd.f12 (.tmp 10) 26 27 (by kernel_rfl) (((a1.length : Nat) : Int) != ((a2.length : Nat) : Int)) (by kernel_rfl) (fun b3 => ?_) (fun b3 => ?_)
  · replace hm := bif_t b3 hm
    refine R_sq Tryd.f12 52 53 (by kernel_rfl) ?_
    refine R_rn Tryd.f12 52 2 [] [] 0 ⟨[(4, vb false)], []⟩ o0 (by kernel_rfl) (by kernel_rfl) ?_
    obtain rfl := Option.some.inj hm
    refine R_ret (by kernel_rfl) ?_
    exact ret_mk (by kernel_rfl) (by kernel_rfl)
  · replace hm := bif_f b3 hm
    refine R_skip (by kernel_rfl) ?_
    refine R_sq Tryd.f12 14 15 (by kernel_rfl) ?_
    refine R_sq Tryd.f12 28 29 (by kernel_rfl) ?_
    refine R_rn Tryd.f12 28 3 [] [] 0 ⟨[(0, vc (tl e_i64 default a1)), (1, vc (tl e_i64 default a2)), (5, vi 0)], []⟩ o0 (by kernel_rfl) (by kernel_rfl) ?_
    obtain ⟨u11, h10, hm⟩ := bind_s hm
    refine R_loop1 (nd Tryd.f12 116) 0 (by kernel_rfl) FUEL (fun o => ref05_Same_L1_T) (fun v st => RetQ Tryd.prog Tryd.f12 (ref05_Same_x v) (ref05_Same_o v) .ret st) u11 (HL_enter (ref05_Same_L1_S a1 a2 0) (by kernel_rfl) (by kernel_rfl) (ref05_Same_L1_ok E a1 a2 FUEL 0 u11 h10)) ?_ ?_
    · rintro v12 rfl st hr
      obtain rfl := Option.some.inj hm
      exact hr
    · rintro o9 rfl
      replace hm : _ = some r := hm
      refine R_sq Tryd.f12 30 31 (by kernel_rfl) ?_
      refine R_rn Tryd.f12 30 8 [] [] 0 ⟨[(4, vb true)], []⟩ o0 (by kernel_rfl) (by kernel_rfl) ?_
      obtain rfl := Option.some.inj hm
      refine R_ret (by kernel_rfl) ?_
      exact ret_mk (by kernel_rfl) (by kernel_rfl)

end Saw
end Go.SL
