import Derived.Test.YtjelipmghgcpeaaSBase
import Derived.Test.YtjelipmghgcpeaaSFa6
set_option linter.unusedVariables false
set_option linter.unusedSimpArgs false
namespace Go.SL
namespace Saw
open Go.Proofs
set_option maxHeartbeats 4000000

def ref09_Hull_x (r : (List Point)) : V := vo 0 0 2 r.length

def ref09_Hull_o (r : (List Point)) : List (Nat × (Nat × O)) := [(0, ro 0 46 2 r.length (rf e_Point r))]

theorem ref09_Hull_f (r : (List Point)) : Frozen (ref09_Hull_o r) := by
  intro i k o h
  unfold ref09_Hull_o at h
  rw [look_cons] at h
  split at h
  · cases h; exact fun _ _ => rfl
  · cases h

def ref09_Hull_L2_S (v7 : (List Point)) (l9 : List Point) (l9n : Nat) (x10 : Int) : St :=
  ⟨[(3, vo 0 0 2 v7.length), (4, vo 1 0 2 l9n), (5, vi x10)], [(0, ro 0 46 2 v7.length (rf e_Point v7)), (1, ro 0 46 2 l9n (rf e_Point l9))]⟩

def ref09_Hull_L2_T (v7 : (List Point)) (l14 : List Point) : St :=
  ⟨[(3, vo 0 0 2 v7.length), (4, vo 1 0 2 l14.length)], [(0, ro 0 46 2 v7.length (rf e_Point v7)), (1, ro 0 46 2 l14.length (rf e_Point l14))]⟩

def ref09_Hull_k1_S (a1 : List Point) (x5 : Bool) : St :=
  ⟨[(0, vc (tl e_Point default a1)), (16, vb x5)], []⟩

set_option maxRecDepth 100000 in
theorem ref09_Hull_L2_ok (E : Env 0) (v7 : (List Point)) : ∀ (n : Nat) (l9 : List Point) (l9n : Nat) (x10 : Int) (res : (List Point)), l9.length = l9n → ref09_Hull_L2 v7 n l9 x10 = some res → HL (kx E 57 0) (nd Try.f82 500) (loopQ0 0 (fun o => ref09_Hull_L2_T v7 o) res) n (ref09_Hull_L2_S v7 l9 l9n x10) := by
  intro n
  induction n with
  | zero =>
    intro l9 l9n x10 res hl0 hm
    cases hm
  | succ n ih =>
    intro l9 l9n x10 res hl0 hm
    subst hl0
    refine HL_succ ?_
    refine R_sq Try.f82 1000 1001 (by kernel_rfl) ?_
    refine R_sq Try.f82 2000 2001 (by kernel_rfl) ?_
    refine R_rn Try.f82 2000 6 [] [] 2 ⟨[(3, vo 0 0 2 v7.length), (4, vo 1 0 2 l9.length), (5, vi x10), (23, vb (decide (x10 ≥ 0)))], [(0, ro 0 46 2 v7.length (rf e_Point v7)), (1, ro 0 46 2 l9.length (rf e_Point l9))]⟩ o0 (by kernel_rfl) (by kernel_rfl) ?_
    refine R_cn Try.f82 (.tmp 23) 4002 4003 (by kernel_rfl) (decide (x10 ≥ 0)) (by kernel_rfl) (fun b11 => ?_) (fun b11 => ?_)
    · replace hm := bif_t b11 hm
      refine R_skip (by kernel_rfl) ?_
      refine R_sq Try.f82 2002 2003 (by kernel_rfl) ?_
      refine R_bk Try.f82 1 4004 (by kernel_rfl) ?_
      obtain ⟨g12, hm⟩ := bif_n hm
      obtain ⟨g13, hm⟩ := bif_n hm
      refine R_rn Try.f82 4004 8 [(5, drw 2 0 (rf e_Point ([(v7.getD x10.toNat default)] : List Point))), (6, drw 1 1 (rf e_Point (l9 ++ ([(v7.getD x10.toNat default)] : List Point))))] [] 2 ⟨[(3, vo 0 0 2 v7.length), (4, vo 1 1 2 (l9.length + 1)), (5, vi x10)], [(0, ro 0 46 2 v7.length (rf e_Point v7)), (1, ro 1 46 2 (l9.length + 1) (rf e_Point (l9 ++ ([(v7.getD x10.toNat default)] : List Point))))]⟩ (o1 (And.intro (inb_of g12) (And.intro (toNat_lt (inb_of g12)) (And.intro (litP e_Point default 2 (fun _ => rfl) ([(v7.getD x10.toNat default)] : List Point) 1 rfl) (apP e_Point default l9 ([(v7.getD x10.toNat default)] : List Point) l9.length 1 2 16 (1 ≤ 1) (Nat.le_refl _) rfl rfl (fun _ => rfl) (room_of g13)))))) (by kernel_rfl) (by kernel_rfl) ?_
      refine R_rn Try.f82 2003 7 [] [] 3 ⟨[(3, vo 0 0 2 v7.length), (4, vo 1 1 2 (l9.length + 1)), (5, vi (w64 (x10 - 1)))], [(0, ro 0 46 2 v7.length (rf e_Point v7)), (1, ro 1 46 2 (l9.length + 1) (rf e_Point (l9 ++ ([(v7.getD x10.toNat default)] : List Point))))]⟩ o0 (by kernel_rfl) (by kernel_rfl) ?_
      exact HL_enter (ref09_Hull_L2_S v7 (l9 ++ ([(v7.getD x10.toNat default)] : List Point)) (l9.length + 1) (w64 (x10 - 1))) (by kernel_rfl) (by kernel_rfl) (ih (l9 ++ ([(v7.getD x10.toNat default)] : List Point)) (l9.length + 1) (w64 (x10 - 1)) _ (len_app rfl rfl) hm)
    · replace hm := bif_f b11 hm
      refine R_exit 0 (by kernel_rfl) ?_
      obtain rfl := Option.some.inj hm
      exact L0_mk (by kernel_rfl) (by kernel_rfl)

set_option maxRecDepth 100000 in
theorem ref09_Hull_ok (a1 : List Point) (r : (List Point)) (hm : ref09_Hull a1 = some r) : CtX Try.prog globs 82 0 0 [.one (tl e_Point default a1)] [] (ref09_Hull_x r) (ref09_Hull_o r) := by
  unfold ref09_Hull at hm
  refine CtX_of_E (fn := Try.f82) (c := nd Try.f82 1) (nt := 57) (by kernel_rfl) (by kernel_rfl) (by kernel_rfl) (by kernel_rfl) fun E => ?_
  refine R_sq Try.f82 2 3 (by kernel_rfl) ?_
  refine R_rn Try.f82 2 0 [] [] 0 ⟨[(0, vc (tl e_Point default a1))], []⟩ o0 (by kernel_rfl) (by kernel_rfl) ?_
  refine R_sq Try.f82 6 7 (by kernel_rfl) ?_
  refine R_join (ι := Bool) (nd Try.f82 12) (nd Try.f82 13) (by kernel_rfl) (fun p => ref09_Hull_k1_S a1 p) (fun p => ref09_Hull_k1 a1 p = some r) ?_ ?_
  · rintro x5 hm
    show H _ (ref09_Hull_k1_S a1 x5) (nd Try.f82 13) _
    refine R_cn Try.f82 (.tmp 16) 26 27 (by kernel_rfl) x5 (by kernel_rfl) (fun b6 => ?_) (fun b6 => ?_)
    · replace hm := bif_t b6 hm
      refine R_sq Try.f82 52 53 (by kernel_rfl) ?_
      refine R_rn Try.f82 52 2 [] [] 0 ⟨[(2, vc (.emp))], []⟩ o0 (by kernel_rfl) (by kernel_rfl) ?_
      refine H_fin [.own 2 0 46 2 (rf e_Point ([] : List Point))] ⟨[(2, vo 0 0 2 0)], [(0, ro 0 46 2 0 (rf e_Point ([] : List Point)))]⟩ o0 (by kernel_rfl) ?_
      refine H_fin [.len 0 (([] : List Point).length)] ⟨[(2, vo 0 0 2 (([] : List Point).length))], [(0, ro 0 46 2 (([] : List Point).length) (rf e_Point ([] : List Point)))]⟩ (o1 (And.intro (show 0 = ([] : List Point).length from rfl) (show 0 = ([] : List Point).length from rfl))) (by kernel_rfl) ?_
      obtain rfl := Option.some.inj hm
      refine R_ret (by kernel_rfl) ?_
      exact ret_mk (by kernel_rfl) (by kernel_rfl)
    · replace hm := bif_f b6 hm
      refine R_skip (by kernel_rfl) ?_
      refine R_sq Try.f82 14 15 (by kernel_rfl) ?_
      obtain ⟨v7, h8, hm⟩ := bind_s hm
      refine R_rn Try.f82 14 3 [(1, dex (cen [] [] 0 0 (ref09_sorted_x v7) (ref09_sorted_o v7) [17] []))] [] 0 ⟨[(3, vo 0 0 2 v7.length)], [(0, ro 0 46 2 v7.length (rf e_Point v7))]⟩ (o1 (callS (K := (kx E 57 0)) ⟨[(17, vc (tl e_Point default a1))], []⟩ (opAt (rg Try.f82 14) 1) [] [] 0 o0 rfl (ref09_sorted_ok a1 v7 h8) (.inl rfl) (by kernel_rfl))) (by kernel_rfl) (by kernel_rfl) ?_
      refine R_sq Try.f82 30 31 (by kernel_rfl) ?_
      refine R_rn Try.f82 30 4 [] [] 1 ⟨[(3, vo 0 0 2 v7.length), (4, vc (.emp))], [(0, ro 0 46 2 v7.length (rf e_Point v7))]⟩ o0 (by kernel_rfl) (by kernel_rfl) ?_
      refine R_sq Try.f82 62 63 (by kernel_rfl) ?_
      refine R_sq Try.f82 124 125 (by kernel_rfl) ?_
      refine R_rn Try.f82 124 5 [] [] 1 ⟨[(3, vo 0 0 2 v7.length), (4, vc (.emp)), (5, vi (w64 (((v7.length : Nat) : Int) - 1)))], [(0, ro 0 46 2 v7.length (rf e_Point v7))]⟩ o0 (by kernel_rfl) (by kernel_rfl) ?_
      refine H_fin [.own 4 1 46 2 (rf e_Point ([] : List Point))] ⟨[(3, vo 0 0 2 v7.length), (4, vo 1 0 2 0), (5, vi (w64 (((v7.length : Nat) : Int) - 1)))], [(0, ro 0 46 2 v7.length (rf e_Point v7)), (1, ro 0 46 2 0 (rf e_Point ([] : List Point)))]⟩ o0 (by kernel_rfl) ?_
      obtain ⟨o15, h16, hm⟩ := bind_s hm
      refine R_loop0 (nd Try.f82 500) 0 (by kernel_rfl) FUEL (fun o => ref09_Hull_L2_T v7 o) o15 (HL_enter (ref09_Hull_L2_S v7 ([] : List Point) 0 (w64 (((v7.length : Nat) : Int) - 1))) (by kernel_rfl) (by kernel_rfl) (ref09_Hull_L2_ok E v7 FUEL ([] : List Point) 0 (w64 (((v7.length : Nat) : Int) - 1)) o15 rfl h16)) ?_
      refine R_sq Try.f82 126 127 (by kernel_rfl) ?_
      obtain ⟨v17, h18, hm⟩ := bind_s hm
      obtain ⟨v19, h20, hm⟩ := bind_s hm
      refine R_rn Try.f82 126 9 [(1, dex (cen [] [] 2 0 (ref09_chain_x v17) (ref09_chain_o v17) [33] [0])), (3, dex (cen [] [] 3 0 (ref09_chain_x v19) (ref09_chain_o v19) [35] [1]))] [] 2 ⟨[(6, vo 2 0 2 v17.length), (7, vo 3 0 2 v19.length)], [(2, ro 0 46 2 v17.length (rf e_Point v17)), (3, ro 0 46 2 v19.length (rf e_Point v19))]⟩ (o1 (And.intro (callS (K := (kx E 57 0)) (b := false) ⟨[(33, vo 0 0 2 v7.length)], [(0, ro 0 46 2 v7.length (rf e_Point v7))]⟩ (opAt (rg Try.f82 126) 1) [] [] 2 (o1 (Nat.le_refl v7.length)) rfl (ref09_chain_ok v7 v17 h18) (.inr ⟨(by kernel_rfl), ref09_chain_f v17⟩) (by kernel_rfl)) (callS (K := (kx E 57 0)) (b := false) ⟨[(35, vo 1 0 2 o15.length)], [(1, ro 0 46 2 o15.length (rf e_Point o15))]⟩ (opAt (rg Try.f82 126) 3) [] [] 3 (o1 (Nat.le_refl o15.length)) rfl (ref09_chain_ok o15 v19 h20) (.inr ⟨(by kernel_rfl), ref09_chain_f v19⟩) (by kernel_rfl)))) (by kernel_rfl) (by kernel_rfl) ?_
      refine R_sq Try.f82 254 255 (by kernel_rfl) ?_
      refine R_sq Try.f82 508 509 (by kernel_rfl) ?_
      refine R_rn Try.f82 508 10 [] [] 4 ⟨[(6, vo 2 0 2 v17.length), (7, vo 3 0 2 v19.length), (42, vb (decide ((w64 (((v17.length : Nat) : Int) + ((v19.length : Nat) : Int))) < 5)))], [(2, ro 0 46 2 v17.length (rf e_Point v17)), (3, ro 0 46 2 v19.length (rf e_Point v19))]⟩ o0 (by kernel_rfl) (by kernel_rfl) ?_
      refine R_cn Try.f82 (.tmp 42) 1018 1019 (by kernel_rfl) (decide ((w64 (((v17.length : Nat) : Int) + ((v19.length : Nat) : Int))) < 5)) (by kernel_rfl) (fun b21 => ?_) (fun b21 => ?_)
      · replace hm := bif_t b21 hm
        refine R_sq Try.f82 2036 2037 (by kernel_rfl) ?_
        refine R_rn Try.f82 2036 11 [] [] 4 ⟨[(2, vc (.emp))], []⟩ o0 (by kernel_rfl) (by kernel_rfl) ?_
        refine H_fin [.own 2 4 46 2 (rf e_Point ([] : List Point))] ⟨[(2, vo 4 0 2 0)], [(4, ro 0 46 2 0 (rf e_Point ([] : List Point)))]⟩ o0 (by kernel_rfl) ?_
        refine H_fin [.len 4 (([] : List Point).length)] ⟨[(2, vo 4 0 2 (([] : List Point).length))], [(4, ro 0 46 2 (([] : List Point).length) (rf e_Point ([] : List Point)))]⟩ (o1 (And.intro (show 0 = ([] : List Point).length from rfl) (show 0 = ([] : List Point).length from rfl))) (by kernel_rfl) ?_
        obtain rfl := Option.some.inj hm
        refine H_swap 4 0 (by kernel_rfl) ?_
        refine R_ret (by kernel_rfl) ?_
        exact ret_mk (by kernel_rfl) (by kernel_rfl)
      · replace hm := bif_f b21 hm
        refine R_skip (by kernel_rfl) ?_
        refine R_sq Try.f82 510 511 (by kernel_rfl) ?_
        obtain ⟨g22, hm⟩ := bif_n hm
        obtain ⟨g23, hm⟩ := bif_n hm
        refine R_rn Try.f82 510 12 [(0, drw 4 0 (rf e_Point ([] : List Point))), (6, drw 4 1 (rf e_Point (([] : List Point) ++ (v17.take ((w64 (((v17.length : Nat) : Int) - 1)).toNat)))))] [] 4 ⟨[(7, vo 3 0 2 v19.length), (8, vo 4 1 2 (0 + (w64 (((v17.length : Nat) : Int) - 1)).toNat))], [(3, ro 0 46 2 v19.length (rf e_Point v19)), (4, ro 1 46 2 (0 + (w64 (((v17.length : Nat) : Int) - 1)).toNat) (rf e_Point (([] : List Point) ++ (v17.take ((w64 (((v17.length : Nat) : Int) - 1)).toNat)))))]⟩ (o1 (And.intro (litP e_Point default 2 (fun _ => rfl) ([] : List Point) 0 rfl) (And.intro (And.intro (slOk_of g22).2.1 (slOk_of g22).2.2) (apPt e_Point default ([] : List Point) v17 0 ((w64 (((v17.length : Nat) : Int) - 1)).toNat) v17.length 2 16 (show (w64 (((v17.length : Nat) : Int) - 1)).toNat ≤ v17.length by have := (slOk_of g22); omega) rfl rfl (fun _ => rfl) (room_of g23))))) (by kernel_rfl) (by kernel_rfl) ?_
        refine R_sq Try.f82 1022 1023 (by kernel_rfl) ?_
        obtain ⟨g24, hm⟩ := bif_n hm
        obtain ⟨g25, hm⟩ := bif_n hm
        refine R_rn Try.f82 1022 13 [(6, drw 4 2 (rf e_Point ((([] : List Point) ++ (v17.take ((w64 (((v17.length : Nat) : Int) - 1)).toNat))) ++ (v19.take ((w64 (((v19.length : Nat) : Int) - 1)).toNat)))))] [] 5 ⟨[(2, vo 4 2 2 ((0 + (w64 (((v17.length : Nat) : Int) - 1)).toNat) + (w64 (((v19.length : Nat) : Int) - 1)).toNat))], [(4, ro 2 46 2 ((0 + (w64 (((v17.length : Nat) : Int) - 1)).toNat) + (w64 (((v19.length : Nat) : Int) - 1)).toNat) (rf e_Point ((([] : List Point) ++ (v17.take ((w64 (((v17.length : Nat) : Int) - 1)).toNat))) ++ (v19.take ((w64 (((v19.length : Nat) : Int) - 1)).toNat)))))]⟩ (o1 (And.intro (And.intro (slOk_of g24).2.1 (slOk_of g24).2.2) (apPt e_Point default (([] : List Point) ++ (v17.take ((w64 (((v17.length : Nat) : Int) - 1)).toNat))) v19 (0 + (w64 (((v17.length : Nat) : Int) - 1)).toNat) ((w64 (((v19.length : Nat) : Int) - 1)).toNat) v19.length 2 16 (show (w64 (((v19.length : Nat) : Int) - 1)).toNat ≤ v19.length by have := (slOk_of g24); omega) (len_app rfl (len_take rfl (show (w64 (((v17.length : Nat) : Int) - 1)).toNat ≤ v17.length by have := (slOk_of g22); omega))) rfl (fun _ => rfl) (room_of g25)))) (by kernel_rfl) (by kernel_rfl) ?_
        refine H_fin [.len 4 (((([] : List Point) ++ (v17.take ((w64 (((v17.length : Nat) : Int) - 1)).toNat))) ++ (v19.take ((w64 (((v19.length : Nat) : Int) - 1)).toNat))).length)] ⟨[(2, vo 4 2 2 (((([] : List Point) ++ (v17.take ((w64 (((v17.length : Nat) : Int) - 1)).toNat))) ++ (v19.take ((w64 (((v19.length : Nat) : Int) - 1)).toNat))).length))], [(4, ro 2 46 2 (((([] : List Point) ++ (v17.take ((w64 (((v17.length : Nat) : Int) - 1)).toNat))) ++ (v19.take ((w64 (((v19.length : Nat) : Int) - 1)).toNat))).length) (rf e_Point ((([] : List Point) ++ (v17.take ((w64 (((v17.length : Nat) : Int) - 1)).toNat))) ++ (v19.take ((w64 (((v19.length : Nat) : Int) - 1)).toNat)))))]⟩ (o1 (And.intro (Eq.symm (show ((([] : List Point) ++ (v17.take ((w64 (((v17.length : Nat) : Int) - 1)).toNat))) ++ (v19.take ((w64 (((v19.length : Nat) : Int) - 1)).toNat))).length = ((0 + (w64 (((v17.length : Nat) : Int) - 1)).toNat) + (w64 (((v19.length : Nat) : Int) - 1)).toNat) from (len_app (len_app rfl (len_take rfl (show (w64 (((v17.length : Nat) : Int) - 1)).toNat ≤ v17.length by have := (slOk_of g22); omega))) (len_take rfl (show (w64 (((v19.length : Nat) : Int) - 1)).toNat ≤ v19.length by have := (slOk_of g24); omega))))) (Eq.symm (show ((([] : List Point) ++ (v17.take ((w64 (((v17.length : Nat) : Int) - 1)).toNat))) ++ (v19.take ((w64 (((v19.length : Nat) : Int) - 1)).toNat))).length = ((0 + (w64 (((v17.length : Nat) : Int) - 1)).toNat) + (w64 (((v19.length : Nat) : Int) - 1)).toNat) from (len_app (len_app rfl (len_take rfl (show (w64 (((v17.length : Nat) : Int) - 1)).toNat ≤ v17.length by have := (slOk_of g22); omega))) (len_take rfl (show (w64 (((v19.length : Nat) : Int) - 1)).toNat ≤ v19.length by have := (slOk_of g24); omega))))))) (by kernel_rfl) ?_
        obtain rfl := Option.some.inj hm
        refine H_swap 4 0 (by kernel_rfl) ?_
        refine R_ret (by kernel_rfl) ?_
        exact ret_mk (by kernel_rfl) (by kernel_rfl)
  · rcases Bool.eq_false_or_eq_true (decide (((a1.length : Nat) : Int) > 32)) with b2 | b2
    · replace hm := bif_t b2 hm
      refine R_rn Try.f82 12 1 [(3, dfx true)] [] 0 ⟨[(0, vc (tl e_Point default a1)), (16, vb true)], []⟩ (o1 b2) (by kernel_rfl) (by kernel_rfl) ?_
      exact J_mk (true) hm (by kernel_rfl) (by kernel_rfl)
    · replace hm := bif_f b2 hm
      obtain ⟨v3, h4, hm⟩ := bind_s hm
      refine R_rn Try.f82 12 1 [(3, dfx false), (5, dex (cen [] [] 0 0 (ref09_Ranged_x v3) (ref09_Ranged_o v3) [12, 13] []))] [] 0 ⟨[(0, vc (tl e_Point default a1)), (16, vb (!v3))], []⟩ (o1 (And.intro b2 (callS (K := (kx E 57 0)) ⟨[(12, vb false), (13, vc (tl e_Point default a1))], []⟩ (opAt (rg Try.f82 12) 5) [] [] 0 o0 rfl (ref09_Ranged_ok a1 v3 h4) (.inl rfl) (by kernel_rfl)))) (by kernel_rfl) (by kernel_rfl) ?_
      exact J_mk (!v3) hm (by kernel_rfl) (by kernel_rfl)

end Saw
end Go.SL

namespace Go.SL
namespace Saw
open Go.Proofs
set_option maxHeartbeats 4000000

def ref09_floor_x (r : Int) : V := vi r

def ref09_floor_o (r : Int) : List (Nat × (Nat × O)) := []

theorem ref09_floor_f (r : Int) : Frozen (ref09_floor_o r) := by
  intro i k o h
  unfold ref09_floor_o at h
  cases h

def ref09_floor_k1_S (x5 : Int) : St :=
  ⟨[(5, vi x5)], []⟩

set_option maxRecDepth 100000 in
theorem ref09_floor_ok (a1 : Int) (a2 : Int) (r : Int) (hm : ref09_floor a1 a2 = some r) : CtX Try.prog globs 91 0 0 [.one (ci a1), .one (ci a2)] [] (ref09_floor_x r) (ref09_floor_o r) := by
  unfold ref09_floor at hm
  refine CtX_of_E (fn := Try.f91) (c := nd Try.f91 1) (nt := 17) (by kernel_rfl) (by kernel_rfl) (by kernel_rfl) (by kernel_rfl) fun E => ?_
  refine R_sq Try.f91 2 3 (by kernel_rfl) ?_
  refine R_rn Try.f91 2 0 [] [] 0 ⟨[(0, vi a1), (1, vi a2)], []⟩ o0 (by kernel_rfl) (by kernel_rfl) ?_
  refine R_sq Try.f91 6 7 (by kernel_rfl) ?_
  obtain ⟨g3, hm⟩ := bif_n hm
  refine R_rn Try.f91 6 1 [] [] 0 ⟨[(0, vi a1), (1, vi a2), (5, vi (w64 (Int.tdiv a1 a2)))], []⟩ (o1 (nz_of g3)) (by kernel_rfl) (by kernel_rfl) ?_
  refine R_join (ι := Int) (nd Try.f91 14) (nd Try.f91 15) (by kernel_rfl) (fun p => ref09_floor_k1_S p) (fun p => ref09_floor_k1 p = some r) ?_ ?_
  · rintro x5 hm
    show H _ (ref09_floor_k1_S x5) (nd Try.f91 15) _
    refine R_sq Try.f91 30 31 (by kernel_rfl) ?_
    refine R_rn Try.f91 30 4 [] [] 0 ⟨[(4, vi x5)], []⟩ o0 (by kernel_rfl) (by kernel_rfl) ?_
    obtain rfl := Option.some.inj hm
    refine R_ret (by kernel_rfl) ?_
    exact ret_mk (by kernel_rfl) (by kernel_rfl)
  · refine R_sq Try.f91 28 29 (by kernel_rfl) ?_
    refine R_rn Try.f91 28 2 [] [] 0 ⟨[(5, vi (w64 (Int.tdiv a1 a2))), (13, vb (decide ((w64 ((w64 (Int.tdiv a1 a2)) * a2)) > a1)))], []⟩ o0 (by kernel_rfl) (by kernel_rfl) ?_
    refine R_cn Try.f91 (.tmp 13) 58 59 (by kernel_rfl) (decide ((w64 ((w64 (Int.tdiv a1 a2)) * a2)) > a1)) (by kernel_rfl) (fun b4 => ?_) (fun b4 => ?_)
    · replace hm := bif_t b4 hm
      refine R_rn Try.f91 58 3 [] [] 0 ⟨[(5, vi (w64 ((w64 (Int.tdiv a1 a2)) - 1)))], []⟩ o0 (by kernel_rfl) (by kernel_rfl) ?_
      exact J_mk (w64 ((w64 (Int.tdiv a1 a2)) - 1)) hm (by kernel_rfl) (by kernel_rfl)
    · replace hm := bif_f b4 hm
      refine R_skip (by kernel_rfl) ?_
      exact J_mk (w64 (Int.tdiv a1 a2)) hm (by kernel_rfl) (by kernel_rfl)

end Saw
end Go.SL

namespace Go.SL
namespace Saw
open Go.Proofs
set_option maxHeartbeats 4000000

def ref09_across_x (r : Int × Int) : V := .tup [.one (ci r.1), .one (ci r.2)]

def ref09_across_o (r : Int × Int) : List (Nat × (Nat × O)) := []

theorem ref09_across_f (r : Int × Int) : Frozen (ref09_across_o r) := by
  intro i k o h
  unfold ref09_across_o at h
  cases h

def ref09_across_k2_S (a1 : List Point) (a2 : Int) (x5 : Int) (x17 : Int) (x18 : Int) : St :=
  ⟨[(0, vc (tl e_Point default a1)), (1, vi a2), (6, vi x17), (7, vi x18), (8, vi x5)], []⟩

def ref09_across_L1_S (a1 : List Point) (a2 : Int) (x3 : Int) (x4 : Int) (x5 : Int) : St :=
  ⟨[(0, vc (tl e_Point default a1)), (1, vi a2), (6, vi x3), (7, vi x4), (8, vi x5)], []⟩

def ref09_across_L1_T (x19 : Int) (x20 : Int) : St :=
  ⟨[(6, vi x19), (7, vi x20)], []⟩

set_option maxRecDepth 100000 in
theorem ref09_across_L1_ok (E : Env 0) (a1 : List Point) (a2 : Int) : ∀ (n : Nat) (x3 : Int) (x4 : Int) (x5 : Int) (res : (Int × Int) ⊕ (Int × Int)), ref09_across_L1 a1 a2 n x3 x4 x5 = some res → HL (kx E 74 0) (nd Try.f83 116) (loopQ 0 (fun o => ref09_across_L1_T o.1 o.2) (fun v st => RetQ Try.prog Try.f83 (ref09_across_x v) (ref09_across_o v) .ret st) res) n (ref09_across_L1_S a1 a2 x3 x4 x5) := by
  intro n
  induction n with
  | zero =>
    intro x3 x4 x5 res hm
    cases hm
  | succ n ih =>
    intro x3 x4 x5 res hm
    refine HL_succ ?_
    refine R_sq Try.f83 232 233 (by kernel_rfl) ?_
    refine R_sq Try.f83 464 465 (by kernel_rfl) ?_
    refine R_rn Try.f83 464 3 [] [] 0 ⟨[(0, vc (tl e_Point default a1)), (1, vi a2), (6, vi x3), (7, vi x4), (8, vi x5), (16, vb (decide (x5 < ((a1.length : Nat) : Int))))], []⟩ o0 (by kernel_rfl) (by kernel_rfl) ?_
    refine R_cn Try.f83 (.tmp 16) 930 931 (by kernel_rfl) (decide (x5 < ((a1.length : Nat) : Int))) (by kernel_rfl) (fun b6 => ?_) (fun b6 => ?_)
    · replace hm := bif_t b6 hm
      refine R_skip (by kernel_rfl) ?_
      refine R_join (ι := Int × Int) (nd Try.f83 466) (nd Try.f83 467) (by kernel_rfl) (fun p => ref09_across_k2_S a1 a2 x5 p.1 p.2) (fun p => ref09_across_k2 x5 (ref09_across_L1 a1 a2 n) p.1 p.2 = some res) ?_ ?_
      · rintro ⟨x17, x18⟩ hm
        show H _ (ref09_across_k2_S a1 a2 x5 x17 x18) (nd Try.f83 467) _
        refine R_rn Try.f83 467 4 [] [] 2 ⟨[(0, vc (tl e_Point default a1)), (1, vi a2), (6, vi x17), (7, vi x18), (8, vi (w64 (x5 + 1)))], []⟩ o0 (by kernel_rfl) (by kernel_rfl) ?_
        exact HL_enter (ref09_across_L1_S a1 a2 x17 x18 (w64 (x5 + 1))) (by kernel_rfl) (by kernel_rfl) (ih x17 x18 (w64 (x5 + 1)) _ hm)
      · refine R_bk Try.f83 1 932 (by kernel_rfl) ?_
        refine R_sq Try.f83 1864 1865 (by kernel_rfl) ?_
        obtain ⟨g7, hm⟩ := bif_n hm
        obtain ⟨g8, hm⟩ := bif_n hm
        obtain ⟨g9, hm⟩ := bif_n hm
        refine R_dr Try.f83 1864 5 [] [] [] [0, 0, 3, 7, 0, 0, 32, 0, 128, 480, 1008, 2032, 0, 0, 12303, 32767] 0 ⟨[(0, vc (tl e_Point default a1)), (1, vi a2), (6, vi x3), (7, vi x4), (8, vi x5), (9, vp 0 0), (10, vp 1 0)], [(0, bx 46 [ci ((a1.getD x5.toNat default).X), ci ((a1.getD x5.toNat default).Y)]), (1, bx 46 [ci ((a1.getD (Int.tmod (w64 (x5 + 1)) ((a1.length : Nat) : Int)).toNat default).X), ci ((a1.getD (Int.tmod (w64 (x5 + 1)) ((a1.length : Nat) : Int)).toNat default).Y)])]⟩ (o1 (And.intro (inb_of g7) (And.intro (nz_of g8) (inb_of g9)))) (by kernel_rfl) (by kernel_rfl) ?_
        refine R_sq Try.f83 3730 3731 (by kernel_rfl) ?_
        refine R_dr Try.f83 3730 6 [] [] [] [0, 1, 0, 4, 15, 0, 0, 64, 224, 511, 0, 1024, 0, 4096, 15360, 1023, 65535] 2 ⟨[(0, vc (tl e_Point default a1)), (1, vi a2), (6, vi x3), (7, vi x4), (8, vi x5), (9, vp 0 0), (11, vi (w64 ((w64 (((a1.getD (Int.tmod (w64 (x5 + 1)) ((a1.length : Nat) : Int)).toNat default).X) - ((a1.getD x5.toNat default).X))) * (w64 (a2 - ((a1.getD x5.toNat default).Y)))))), (12, vi (w64 (((a1.getD (Int.tmod (w64 (x5 + 1)) ((a1.length : Nat) : Int)).toNat default).Y) - ((a1.getD x5.toNat default).Y))))], [(0, bx 46 [ci ((a1.getD x5.toNat default).X), ci ((a1.getD x5.toNat default).Y)])]⟩ o0 (by kernel_rfl) (by kernel_rfl) ?_
        refine R_bk Try.f83 2 7462 (by kernel_rfl) ?_
        refine R_sq Try.f83 14924 14925 (by kernel_rfl) ?_
        refine R_rn Try.f83 14924 7 [] [] 2 ⟨[(0, vc (tl e_Point default a1)), (1, vi a2), (6, vi x3), (7, vi x4), (8, vi x5), (9, vp 0 0), (11, vi (w64 ((w64 (((a1.getD (Int.tmod (w64 (x5 + 1)) ((a1.length : Nat) : Int)).toNat default).X) - ((a1.getD x5.toNat default).X))) * (w64 (a2 - ((a1.getD x5.toNat default).Y)))))), (12, vi (w64 (((a1.getD (Int.tmod (w64 (x5 + 1)) ((a1.length : Nat) : Int)).toNat default).Y) - ((a1.getD x5.toNat default).Y)))), (46, vb (decide ((w64 (((a1.getD (Int.tmod (w64 (x5 + 1)) ((a1.length : Nat) : Int)).toNat default).Y) - ((a1.getD x5.toNat default).Y))) > 0)))], [(0, bx 46 [ci ((a1.getD x5.toNat default).X), ci ((a1.getD x5.toNat default).Y)])]⟩ o0 (by kernel_rfl) (by kernel_rfl) ?_
        refine R_cn Try.f83 (.tmp 46) 29850 29851 (by kernel_rfl) (decide ((w64 (((a1.getD (Int.tmod (w64 (x5 + 1)) ((a1.length : Nat) : Int)).toNat default).Y) - ((a1.getD x5.toNat default).Y))) > 0)) (by kernel_rfl) (fun b10 => ?_) (fun b10 => ?_)
        · replace hm := bif_t b10 hm
          obtain ⟨v11, h12, hm⟩ := bind_s hm
          refine R_dr Try.f83 29850 8 [] [(5, dex (cen [] [] 2 0 (ref09_floor_x v11) (ref09_floor_o v11) [52, 53] []))] [] [0, 0, 2, 0, 0, 24, 62, 127, 255] 2 ⟨[(0, vc (tl e_Point default a1)), (1, vi a2), (6, vi x3), (7, vi (imin x4 (w64 (((a1.getD x5.toNat default).X) + v11)))), (8, vi x5)], []⟩ (o1 (callS (K := (kx E 74 0)) ⟨[(52, vi (w64 ((w64 (((a1.getD (Int.tmod (w64 (x5 + 1)) ((a1.length : Nat) : Int)).toNat default).X) - ((a1.getD x5.toNat default).X))) * (w64 (a2 - ((a1.getD x5.toNat default).Y)))))), (53, vi (w64 (((a1.getD (Int.tmod (w64 (x5 + 1)) ((a1.length : Nat) : Int)).toNat default).Y) - ((a1.getD x5.toNat default).Y))))], []⟩ (opAt (rg Try.f83 29850) 5) [] [] 2 o0 rfl (ref09_floor_ok (w64 ((w64 (((a1.getD (Int.tmod (w64 (x5 + 1)) ((a1.length : Nat) : Int)).toNat default).X) - ((a1.getD x5.toNat default).X))) * (w64 (a2 - ((a1.getD x5.toNat default).Y))))) (w64 (((a1.getD (Int.tmod (w64 (x5 + 1)) ((a1.length : Nat) : Int)).toNat default).Y) - ((a1.getD x5.toNat default).Y))) v11 h12) (.inl rfl) (by kernel_rfl))) (by kernel_rfl) (by kernel_rfl) ?_
          exact J_mk (x3, imin x4 (w64 (((a1.getD x5.toNat default).X) + v11))) hm (by kernel_rfl) (by kernel_rfl)
        · replace hm := bif_f b10 hm
          refine R_sq Try.f83 59702 59703 (by kernel_rfl) ?_
          refine R_rn Try.f83 59702 9 [] [] 2 ⟨[(0, vc (tl e_Point default a1)), (1, vi a2), (6, vi x3), (7, vi x4), (8, vi x5), (9, vp 0 0), (11, vi (w64 ((w64 (((a1.getD (Int.tmod (w64 (x5 + 1)) ((a1.length : Nat) : Int)).toNat default).X) - ((a1.getD x5.toNat default).X))) * (w64 (a2 - ((a1.getD x5.toNat default).Y)))))), (12, vi (w64 (((a1.getD (Int.tmod (w64 (x5 + 1)) ((a1.length : Nat) : Int)).toNat default).Y) - ((a1.getD x5.toNat default).Y)))), (57, vb (decide ((w64 (((a1.getD (Int.tmod (w64 (x5 + 1)) ((a1.length : Nat) : Int)).toNat default).Y) - ((a1.getD x5.toNat default).Y))) < 0)))], [(0, bx 46 [ci ((a1.getD x5.toNat default).X), ci ((a1.getD x5.toNat default).Y)])]⟩ o0 (by kernel_rfl) (by kernel_rfl) ?_
          refine R_cn Try.f83 (.tmp 57) 119406 119407 (by kernel_rfl) (decide ((w64 (((a1.getD (Int.tmod (w64 (x5 + 1)) ((a1.length : Nat) : Int)).toNat default).Y) - ((a1.getD x5.toNat default).Y))) < 0)) (by kernel_rfl) (fun b13 => ?_) (fun b13 => ?_)
          · replace hm := bif_t b13 hm
            obtain ⟨v14, h15, hm⟩ := bind_s hm
            refine R_dr Try.f83 119406 10 [] [(6, dex (cen [] [] 2 0 (ref09_floor_x v14) (ref09_floor_o v14) [63, 65] []))] [] [0, 0, 2, 0, 0, 16, 56, 126, 255, 511] 2 ⟨[(0, vc (tl e_Point default a1)), (1, vi a2), (6, vi (imax x3 (w64 (((a1.getD x5.toNat default).X) - v14)))), (7, vi x4), (8, vi x5)], []⟩ (o1 (callS (K := (kx E 74 0)) ⟨[(63, vi (w64 ((w64 (((a1.getD (Int.tmod (w64 (x5 + 1)) ((a1.length : Nat) : Int)).toNat default).X) - ((a1.getD x5.toNat default).X))) * (w64 (a2 - ((a1.getD x5.toNat default).Y)))))), (65, vi (w64 (0 - (w64 (((a1.getD (Int.tmod (w64 (x5 + 1)) ((a1.length : Nat) : Int)).toNat default).Y) - ((a1.getD x5.toNat default).Y))))))], []⟩ (opAt (rg Try.f83 119406) 6) [] [] 2 o0 rfl (ref09_floor_ok (w64 ((w64 (((a1.getD (Int.tmod (w64 (x5 + 1)) ((a1.length : Nat) : Int)).toNat default).X) - ((a1.getD x5.toNat default).X))) * (w64 (a2 - ((a1.getD x5.toNat default).Y))))) (w64 (0 - (w64 (((a1.getD (Int.tmod (w64 (x5 + 1)) ((a1.length : Nat) : Int)).toNat default).Y) - ((a1.getD x5.toNat default).Y))))) v14 h15) (.inl rfl) (by kernel_rfl))) (by kernel_rfl) (by kernel_rfl) ?_
            exact J_mk (imax x3 (w64 (((a1.getD x5.toNat default).X) - v14)), x4) hm (by kernel_rfl) (by kernel_rfl)
          · replace hm := bif_f b13 hm
            refine R_sq Try.f83 238814 238815 (by kernel_rfl) ?_
            refine R_rn Try.f83 238814 11 [] [] 2 ⟨[(0, vc (tl e_Point default a1)), (1, vi a2), (6, vi x3), (7, vi x4), (8, vi x5), (69, vb (decide ((w64 ((w64 (((a1.getD (Int.tmod (w64 (x5 + 1)) ((a1.length : Nat) : Int)).toNat default).X) - ((a1.getD x5.toNat default).X))) * (w64 (a2 - ((a1.getD x5.toNat default).Y))))) < 0)))], []⟩ o0 (by kernel_rfl) (by kernel_rfl) ?_
            refine R_cn Try.f83 (.tmp 69) 477630 477631 (by kernel_rfl) (decide ((w64 ((w64 (((a1.getD (Int.tmod (w64 (x5 + 1)) ((a1.length : Nat) : Int)).toNat default).X) - ((a1.getD x5.toNat default).X))) * (w64 (a2 - ((a1.getD x5.toNat default).Y))))) < 0)) (by kernel_rfl) (fun b16 => ?_) (fun b16 => ?_)
            · replace hm := bif_t b16 hm
              refine R_sq Try.f83 955260 955261 (by kernel_rfl) ?_
              refine R_rn Try.f83 955260 12 [] [] 2 ⟨[(4, vi 1), (5, vi 0)], []⟩ o0 (by kernel_rfl) (by kernel_rfl) ?_
              obtain rfl := Option.some.inj hm
              refine R_ret (by kernel_rfl) ?_
              refine L1_ret (1, 0) ?_
              exact ret_mk (by kernel_rfl) (by kernel_rfl)
            · replace hm := bif_f b16 hm
              refine R_skip (by kernel_rfl) ?_
              exact J_mk (x3, x4) hm (by kernel_rfl) (by kernel_rfl)
    · replace hm := bif_f b6 hm
      refine R_exit 0 (by kernel_rfl) ?_
      obtain rfl := Option.some.inj hm
      exact L1_mk (x3, x4) (by kernel_rfl) (by kernel_rfl)

set_option maxRecDepth 100000 in
theorem ref09_across_ok (a1 : List Point) (a2 : Int) (r : Int × Int) (hm : ref09_across a1 a2 = some r) : CtX Try.prog globs 83 0 0 [.one (tl e_Point default a1), .one (ci a2)] [] (ref09_across_x r) (ref09_across_o r) := by
  unfold ref09_across at hm
  refine CtX_of_E (fn := Try.f83) (c := nd Try.f83 1) (nt := 74) (by kernel_rfl) (by kernel_rfl) (by kernel_rfl) (by kernel_rfl) fun E => ?_
  refine R_sq Try.f83 2 3 (by kernel_rfl) ?_
  refine R_rn Try.f83 2 0 [] [] 0 ⟨[(0, vc (tl e_Point default a1)), (1, vi a2)], []⟩ o0 (by kernel_rfl) (by kernel_rfl) ?_
  refine R_sq Try.f83 6 7 (by kernel_rfl) ?_
  refine R_rn Try.f83 6 1 [] [] 0 ⟨[(0, vc (tl e_Point default a1)), (1, vi a2), (6, vi (-600)), (7, vi 600)], []⟩ o0 (by kernel_rfl) (by kernel_rfl) ?_
  refine R_sq Try.f83 14 15 (by kernel_rfl) ?_
  refine R_sq Try.f83 28 29 (by kernel_rfl) ?_
  refine R_rn Try.f83 28 2 [] [] 0 ⟨[(0, vc (tl e_Point default a1)), (1, vi a2), (6, vi (-600)), (7, vi 600), (8, vi 0)], []⟩ o0 (by kernel_rfl) (by kernel_rfl) ?_
  obtain ⟨u23, h22, hm⟩ := bind_s hm
  refine R_loop1 (nd Try.f83 116) 0 (by kernel_rfl) FUEL (fun o => ref09_across_L1_T o.1 o.2) (fun v st => RetQ Try.prog Try.f83 (ref09_across_x v) (ref09_across_o v) .ret st) u23 (HL_enter (ref09_across_L1_S a1 a2 (-600) 600 0) (by kernel_rfl) (by kernel_rfl) (ref09_across_L1_ok E a1 a2 FUEL (-600) 600 0 u23 h22)) ?_ ?_
  · rintro v24 rfl st hr
    obtain rfl := Option.some.inj hm
    exact hr
  · rintro o21 rfl
    replace hm : _ = some r := hm
    refine R_sq Try.f83 30 31 (by kernel_rfl) ?_
    refine R_rn Try.f83 30 13 [] [] 0 ⟨[(4, vi o21.1), (5, vi o21.2)], []⟩ o0 (by kernel_rfl) (by kernel_rfl) ?_
    obtain rfl := Option.some.inj hm
    refine R_ret (by kernel_rfl) ?_
    exact ret_mk (by kernel_rfl) (by kernel_rfl)

end Saw
end Go.SL

namespace Go.SL
namespace Saw
open Go.Proofs
set_option maxHeartbeats 4000000

def ref09_Chord_x (r : Span) : V := va [ci r.A, ci r.B]

def ref09_Chord_o (r : Span) : List (Nat × (Nat × O)) := []

theorem ref09_Chord_f (r : Span) : Frozen (ref09_Chord_o r) := by
  intro i k o h
  unfold ref09_Chord_o at h
  cases h

def ref09_Chord_k2_S (v11 : Int × Int) (v13 : Int × Int) (x17 : Bool) : St :=
  ⟨[(6, vp 0 0), (12, vp 2 0), (65, vb x17)], [(0, bx 35 [ci 0, ci 0]), (2, bx 35 [ci (imax v11.1 v13.1), ci (imin v11.2 v13.2)])]⟩

def ref09_Chord_k1_S (a2 : Int) (a3 : Int) (v4 : (List Point)) (x9 : Bool) : St :=
  ⟨[(1, vi a2), (2, vi a3), (6, vp 0 0), (7, vo 1 0 2 v4.length), (30, vb x9)], [(0, bx 35 [ci 0, ci 0]), (1, ro 0 46 2 v4.length (rf e_Point v4))]⟩

set_option maxRecDepth 100000 in
theorem ref09_Chord_ok (a1 : List Point) (a2 : Int) (a3 : Int) (r : Span) (hm : ref09_Chord a1 a2 a3 = some r) : CtX Try.prog globs 49 0 0 [.one (tl e_Point default a1), .one (ci a2), .one (ci a3)] [] (ref09_Chord_x r) (ref09_Chord_o r) := by
  unfold ref09_Chord at hm
  refine CtX_of_E (fn := Try.f49) (c := nd Try.f49 1) (nt := 68) (by kernel_rfl) (by kernel_rfl) (by kernel_rfl) (by kernel_rfl) fun E => ?_
  refine R_sq Try.f49 2 3 (by kernel_rfl) ?_
  refine R_rn Try.f49 2 0 [] [] 0 ⟨[(0, vc (tl e_Point default a1)), (1, vi a2), (2, vi a3), (6, vp 0 0)], [(0, bx 35 [ci 0, ci 0])]⟩ o0 (by kernel_rfl) (by kernel_rfl) ?_
  refine R_sq Try.f49 6 7 (by kernel_rfl) ?_
  obtain ⟨v4, h5, hm⟩ := bind_s hm
  refine R_rn Try.f49 6 1 [(1, dex (cen [] [] 1 0 (ref09_Hull_x v4) (ref09_Hull_o v4) [13] []))] [] 1 ⟨[(1, vi a2), (2, vi a3), (6, vp 0 0), (7, vo 1 0 2 v4.length)], [(0, bx 35 [ci 0, ci 0]), (1, ro 0 46 2 v4.length (rf e_Point v4))]⟩ (o1 (callS (K := (kx E 68 0)) ⟨[(13, vc (tl e_Point default a1))], []⟩ (opAt (rg Try.f49 6) 1) [] [] 1 o0 rfl (ref09_Hull_ok a1 v4 h5) (.inl rfl) (by kernel_rfl))) (by kernel_rfl) (by kernel_rfl) ?_
  refine R_sq Try.f49 14 15 (by kernel_rfl) ?_
  refine R_join (ι := Bool) (nd Try.f49 28) (nd Try.f49 29) (by kernel_rfl) (fun p => ref09_Chord_k1_S a2 a3 v4 p) (fun p => ref09_Chord_k1 a2 a3 v4 p = some r) ?_ ?_
  · rintro x9 hm
    show H _ (ref09_Chord_k1_S a2 a3 v4 x9) (nd Try.f49 29) _
    refine R_cn Try.f49 (.tmp 30) 58 59 (by kernel_rfl) x9 (by kernel_rfl) (fun b10 => ?_) (fun b10 => ?_)
    · replace hm := bif_t b10 hm
      refine R_sq Try.f49 116 117 (by kernel_rfl) ?_
      refine R_rn Try.f49 116 3 [] [] 2 ⟨[(6, vp 0 0)], [(0, bx 35 [ci 0, ci 0])]⟩ o0 (by kernel_rfl) (by kernel_rfl) ?_
      obtain rfl := Option.some.inj hm
      refine R_ret (by kernel_rfl) ?_
      exact ret_mk (by kernel_rfl) (by kernel_rfl)
    · replace hm := bif_f b10 hm
      refine R_skip (by kernel_rfl) ?_
      refine R_sq Try.f49 30 31 (by kernel_rfl) ?_
      obtain ⟨v11, h12, hm⟩ := bind_s hm
      refine R_rn Try.f49 30 4 [(2, dex (cen [] [] 2 0 (ref09_across_x v11) (ref09_across_o v11) [33, 34] [1]))] [] 2 ⟨[(2, vi a3), (6, vp 0 0), (7, vo 1 0 2 v4.length), (8, vi v11.1), (9, vi v11.2)], [(0, bx 35 [ci 0, ci 0]), (1, ro 0 46 2 v4.length (rf e_Point v4))]⟩ (o1 (callS (K := (kx E 68 0)) (b := false) ⟨[(33, vo 1 0 2 v4.length), (34, vi a2)], [(1, ro 0 46 2 v4.length (rf e_Point v4))]⟩ (opAt (rg Try.f49 30) 2) [] [] 2 (o1 (Nat.le_refl v4.length)) rfl (ref09_across_ok v4 a2 v11 h12) (.inr ⟨(by kernel_rfl), ref09_across_f v11⟩) (by kernel_rfl))) (by kernel_rfl) (by kernel_rfl) ?_
      refine R_sq Try.f49 62 63 (by kernel_rfl) ?_
      obtain ⟨v13, h14, hm⟩ := bind_s hm
      refine R_rn Try.f49 62 5 [(2, dex (cen [] [] 2 0 (ref09_across_x v13) (ref09_across_o v13) [39, 40] [1]))] [] 2 ⟨[(6, vp 0 0), (8, vi v11.1), (9, vi v11.2), (10, vi v13.1), (11, vi v13.2)], [(0, bx 35 [ci 0, ci 0])]⟩ (o1 (callS (K := (kx E 68 0)) (b := false) ⟨[(39, vo 1 0 2 v4.length), (40, vi a3)], [(1, ro 0 46 2 v4.length (rf e_Point v4))]⟩ (opAt (rg Try.f49 62) 2) [] [] 2 (o1 (Nat.le_refl v4.length)) rfl (ref09_across_ok v4 a3 v13 h14) (.inr ⟨(by kernel_rfl), ref09_across_f v13⟩) (by kernel_rfl))) (by kernel_rfl) (by kernel_rfl) ?_
      refine R_sq Try.f49 126 127 (by kernel_rfl) ?_
      refine R_rn Try.f49 126 6 [] [] 2 ⟨[(6, vp 0 0), (8, vi v11.1), (9, vi v11.2), (10, vi v13.1), (11, vi v13.2), (12, vp 2 0)], [(0, bx 35 [ci 0, ci 0]), (2, bx 35 [ci (imax v11.1 v13.1), ci (imin v11.2 v13.2)])]⟩ o0 (by kernel_rfl) (by kernel_rfl) ?_
      refine R_sq Try.f49 254 255 (by kernel_rfl) ?_
      refine R_join (ι := Bool) (nd Try.f49 508) (nd Try.f49 509) (by kernel_rfl) (fun p => ref09_Chord_k2_S v11 v13 p) (fun p => ref09_Chord_k2 v11 v13 p = some r) ?_ ?_
      · rintro x17 hm
        show H _ (ref09_Chord_k2_S v11 v13 x17) (nd Try.f49 509) _
        refine R_cn Try.f49 (.tmp 65) 1018 1019 (by kernel_rfl) x17 (by kernel_rfl) (fun b18 => ?_) (fun b18 => ?_)
        · replace hm := bif_t b18 hm
          refine R_sq Try.f49 2036 2037 (by kernel_rfl) ?_
          refine R_rn Try.f49 2036 8 [] [] 3 ⟨[(6, vp 0 0)], [(0, bx 35 [ci 0, ci 0])]⟩ o0 (by kernel_rfl) (by kernel_rfl) ?_
          obtain rfl := Option.some.inj hm
          refine R_ret (by kernel_rfl) ?_
          exact ret_mk (by kernel_rfl) (by kernel_rfl)
        · replace hm := bif_f b18 hm
          refine R_skip (by kernel_rfl) ?_
          refine R_sq Try.f49 510 511 (by kernel_rfl) ?_
          refine R_rn Try.f49 510 9 [] [] 3 ⟨[(6, vp 0 0)], [(0, bx 35 [ci (imax v11.1 v13.1), ci (imin v11.2 v13.2)])]⟩ o0 (by kernel_rfl) (by kernel_rfl) ?_
          obtain rfl := Option.some.inj hm
          refine R_ret (by kernel_rfl) ?_
          exact ret_mk (by kernel_rfl) (by kernel_rfl)
      · rcases Bool.eq_false_or_eq_true (decide (v11.1 > v11.2)) with b15 | b15
        · replace hm := bif_t b15 hm
          refine R_rn Try.f49 508 7 [(3, dfx true)] [] 3 ⟨[(6, vp 0 0), (12, vp 2 0), (65, vb true)], [(0, bx 35 [ci 0, ci 0]), (2, bx 35 [ci (imax v11.1 v13.1), ci (imin v11.2 v13.2)])]⟩ (o1 b15) (by kernel_rfl) (by kernel_rfl) ?_
          exact J_mk (true) hm (by kernel_rfl) (by kernel_rfl)
        · replace hm := bif_f b15 hm
          rcases Bool.eq_false_or_eq_true (decide (v13.1 > v13.2)) with b16 | b16
          · replace hm := bif_t b16 hm
            refine R_rn Try.f49 508 7 [(3, dfx false), (8, dfx true)] [] 3 ⟨[(6, vp 0 0), (12, vp 2 0), (65, vb true)], [(0, bx 35 [ci 0, ci 0]), (2, bx 35 [ci (imax v11.1 v13.1), ci (imin v11.2 v13.2)])]⟩ (o1 (And.intro b15 b16)) (by kernel_rfl) (by kernel_rfl) ?_
            exact J_mk (true) hm (by kernel_rfl) (by kernel_rfl)
          · replace hm := bif_f b16 hm
            refine R_rn Try.f49 508 7 [(3, dfx false), (8, dfx false)] [] 3 ⟨[(6, vp 0 0), (12, vp 2 0), (65, vb (decide ((imax v11.1 v13.1) ≥ (imin v11.2 v13.2))))], [(0, bx 35 [ci 0, ci 0]), (2, bx 35 [ci (imax v11.1 v13.1), ci (imin v11.2 v13.2)])]⟩ (o1 (And.intro b15 b16)) (by kernel_rfl) (by kernel_rfl) ?_
            exact J_mk (decide ((imax v11.1 v13.1) ≥ (imin v11.2 v13.2))) hm (by kernel_rfl) (by kernel_rfl)
  · rcases Bool.eq_false_or_eq_true (((v4.length : Nat) : Int) == 0) with b6 | b6
    · replace hm := bif_t b6 hm
      refine R_rn Try.f49 28 2 [(3, dfx true)] [] 2 ⟨[(1, vi a2), (2, vi a3), (6, vp 0 0), (7, vo 1 0 2 v4.length), (30, vb true)], [(0, bx 35 [ci 0, ci 0]), (1, ro 0 46 2 v4.length (rf e_Point v4))]⟩ (o1 b6) (by kernel_rfl) (by kernel_rfl) ?_
      exact J_mk (true) hm (by kernel_rfl) (by kernel_rfl)
    · replace hm := bif_f b6 hm
      rcases Bool.eq_false_or_eq_true (decide (a2 ≥ a3)) with b7 | b7
      · replace hm := bif_t b7 hm
        refine R_rn Try.f49 28 2 [(3, dfx false), (8, dfx true)] [] 2 ⟨[(1, vi a2), (2, vi a3), (6, vp 0 0), (7, vo 1 0 2 v4.length), (30, vb true)], [(0, bx 35 [ci 0, ci 0]), (1, ro 0 46 2 v4.length (rf e_Point v4))]⟩ (o1 (And.intro b6 b7)) (by kernel_rfl) (by kernel_rfl) ?_
        exact J_mk (true) hm (by kernel_rfl) (by kernel_rfl)
      · replace hm := bif_f b7 hm
        rcases Bool.eq_false_or_eq_true (decide (a2 < (-600))) with b8 | b8
        · replace hm := bif_t b8 hm
          refine R_rn Try.f49 28 2 [(3, dfx false), (8, dfx false), (12, dfx true)] [] 2 ⟨[(1, vi a2), (2, vi a3), (6, vp 0 0), (7, vo 1 0 2 v4.length), (30, vb true)], [(0, bx 35 [ci 0, ci 0]), (1, ro 0 46 2 v4.length (rf e_Point v4))]⟩ (o1 (And.intro b6 (And.intro b7 b8))) (by kernel_rfl) (by kernel_rfl) ?_
          exact J_mk (true) hm (by kernel_rfl) (by kernel_rfl)
        · replace hm := bif_f b8 hm
          refine R_rn Try.f49 28 2 [(3, dfx false), (8, dfx false), (12, dfx false)] [] 2 ⟨[(1, vi a2), (2, vi a3), (6, vp 0 0), (7, vo 1 0 2 v4.length), (30, vb (decide (a3 > 600)))], [(0, bx 35 [ci 0, ci 0]), (1, ro 0 46 2 v4.length (rf e_Point v4))]⟩ (o1 (And.intro b6 (And.intro b7 b8))) (by kernel_rfl) (by kernel_rfl) ?_
          exact J_mk (decide (a3 > 600)) hm (by kernel_rfl) (by kernel_rfl)

end Saw
end Go.SL

namespace Go.SL
namespace Saw
open Go.Proofs
set_option maxHeartbeats 4000000

def ref09_Area2_x (r : Int) : V := vi r

def ref09_Area2_o (r : Int) : List (Nat × (Nat × O)) := []

theorem ref09_Area2_f (r : Int) : Frozen (ref09_Area2_o r) := by
  intro i k o h
  unfold ref09_Area2_o at h
  cases h

def ref09_Area2_L2_S (a1 : List Point) (x7 : Int) (x8 : Int) : St :=
  ⟨[(0, vc (tl e_Point default a1)), (3, vi x7), (4, vi x8)], []⟩

def ref09_Area2_L2_T (x13 : Int) : St :=
  ⟨[(3, vi x13)], []⟩

def ref09_Area2_k1_S (a1 : List Point) (x5 : Bool) : St :=
  ⟨[(0, vc (tl e_Point default a1)), (13, vb x5)], []⟩

set_option maxRecDepth 100000 in
theorem ref09_Area2_L2_ok (E : Env 0) (a1 : List Point) : ∀ (n : Nat) (x7 : Int) (x8 : Int) (res : Int), ref09_Area2_L2 a1 n x7 x8 = some res → HL (kx E 48 0) (nd Try.f65 244) (loopQ0 0 (fun o => ref09_Area2_L2_T o) res) n (ref09_Area2_L2_S a1 x7 x8) := by
  intro n
  induction n with
  | zero =>
    intro x7 x8 res hm
    cases hm
  | succ n ih =>
    intro x7 x8 res hm
    refine HL_succ ?_
    refine R_sq Try.f65 488 489 (by kernel_rfl) ?_
    refine R_sq Try.f65 976 977 (by kernel_rfl) ?_
    refine R_rn Try.f65 976 5 [] [] 0 ⟨[(0, vc (tl e_Point default a1)), (3, vi x7), (4, vi x8), (17, vb (decide (x8 < ((a1.length : Nat) : Int))))], []⟩ o0 (by kernel_rfl) (by kernel_rfl) ?_
    refine R_cn Try.f65 (.tmp 17) 1954 1955 (by kernel_rfl) (decide (x8 < ((a1.length : Nat) : Int))) (by kernel_rfl) (fun b9 => ?_) (fun b9 => ?_)
    · replace hm := bif_t b9 hm
      refine R_skip (by kernel_rfl) ?_
      refine R_sq Try.f65 978 979 (by kernel_rfl) ?_
      refine R_bk Try.f65 1 1956 (by kernel_rfl) ?_
      refine R_sq Try.f65 3912 3913 (by kernel_rfl) ?_
      obtain ⟨g10, hm⟩ := bif_n hm
      obtain ⟨g11, hm⟩ := bif_n hm
      refine R_rn Try.f65 3912 7 [] [] 0 ⟨[(0, vc (tl e_Point default a1)), (3, vi x7), (4, vi x8), (5, vp 0 0)], [(0, bx 46 [ci ((a1.getD (Int.tmod (w64 (x8 + 1)) ((a1.length : Nat) : Int)).toNat default).X), ci ((a1.getD (Int.tmod (w64 (x8 + 1)) ((a1.length : Nat) : Int)).toNat default).Y)])]⟩ (o1 (And.intro (nz_of g10) (inb_of g11))) (by kernel_rfl) (by kernel_rfl) ?_
      obtain ⟨g12, hm⟩ := bif_n hm
      refine R_dr Try.f65 3913 8 [] [] [] [0, 0, 0, 6, 14, 30, 0, 64, 254, 511, 0, 1024, 0, 0, 12288, 28672, 61440, 130048, 262143, 524287] 1 ⟨[(0, vc (tl e_Point default a1)), (3, vi (w64 ((w64 (x7 + (w64 (((a1.getD x8.toNat default).X) * ((a1.getD (Int.tmod (w64 (x8 + 1)) ((a1.length : Nat) : Int)).toNat default).Y))))) - (w64 (((a1.getD (Int.tmod (w64 (x8 + 1)) ((a1.length : Nat) : Int)).toNat default).X) * ((a1.getD x8.toNat default).Y)))))), (4, vi x8)], []⟩ (o1 (And.intro (inb_of g12) (inb_of g12))) (by kernel_rfl) (by kernel_rfl) ?_
      refine R_rn Try.f65 979 6 [] [] 1 ⟨[(0, vc (tl e_Point default a1)), (3, vi (w64 ((w64 (x7 + (w64 (((a1.getD x8.toNat default).X) * ((a1.getD (Int.tmod (w64 (x8 + 1)) ((a1.length : Nat) : Int)).toNat default).Y))))) - (w64 (((a1.getD (Int.tmod (w64 (x8 + 1)) ((a1.length : Nat) : Int)).toNat default).X) * ((a1.getD x8.toNat default).Y)))))), (4, vi (w64 (x8 + 1)))], []⟩ o0 (by kernel_rfl) (by kernel_rfl) ?_
      exact HL_enter (ref09_Area2_L2_S a1 (w64 ((w64 (x7 + (w64 (((a1.getD x8.toNat default).X) * ((a1.getD (Int.tmod (w64 (x8 + 1)) ((a1.length : Nat) : Int)).toNat default).Y))))) - (w64 (((a1.getD (Int.tmod (w64 (x8 + 1)) ((a1.length : Nat) : Int)).toNat default).X) * ((a1.getD x8.toNat default).Y))))) (w64 (x8 + 1))) (by kernel_rfl) (by kernel_rfl) (ih (w64 ((w64 (x7 + (w64 (((a1.getD x8.toNat default).X) * ((a1.getD (Int.tmod (w64 (x8 + 1)) ((a1.length : Nat) : Int)).toNat default).Y))))) - (w64 (((a1.getD (Int.tmod (w64 (x8 + 1)) ((a1.length : Nat) : Int)).toNat default).X) * ((a1.getD x8.toNat default).Y))))) (w64 (x8 + 1)) _ hm)
    · replace hm := bif_f b9 hm
      refine R_exit 0 (by kernel_rfl) ?_
      obtain rfl := Option.some.inj hm
      exact L0_mk (by kernel_rfl) (by kernel_rfl)

set_option maxRecDepth 100000 in
theorem ref09_Area2_ok (a1 : List Point) (r : Int) (hm : ref09_Area2 a1 = some r) : CtX Try.prog globs 65 0 0 [.one (tl e_Point default a1)] [] (ref09_Area2_x r) (ref09_Area2_o r) := by
  unfold ref09_Area2 at hm
  refine CtX_of_E (fn := Try.f65) (c := nd Try.f65 1) (nt := 48) (by kernel_rfl) (by kernel_rfl) (by kernel_rfl) (by kernel_rfl) fun E => ?_
  refine R_sq Try.f65 2 3 (by kernel_rfl) ?_
  refine R_rn Try.f65 2 0 [] [] 0 ⟨[(0, vc (tl e_Point default a1))], []⟩ o0 (by kernel_rfl) (by kernel_rfl) ?_
  refine R_sq Try.f65 6 7 (by kernel_rfl) ?_
  refine R_join (ι := Bool) (nd Try.f65 12) (nd Try.f65 13) (by kernel_rfl) (fun p => ref09_Area2_k1_S a1 p) (fun p => ref09_Area2_k1 a1 p = some r) ?_ ?_
  · rintro x5 hm
    show H _ (ref09_Area2_k1_S a1 x5) (nd Try.f65 13) _
    refine R_cn Try.f65 (.tmp 13) 26 27 (by kernel_rfl) x5 (by kernel_rfl) (fun b6 => ?_) (fun b6 => ?_)
    · replace hm := bif_t b6 hm
      refine R_sq Try.f65 52 53 (by kernel_rfl) ?_
      refine R_rn Try.f65 52 2 [] [] 0 ⟨[(2, vi 0)], []⟩ o0 (by kernel_rfl) (by kernel_rfl) ?_
      obtain rfl := Option.some.inj hm
      refine R_ret (by kernel_rfl) ?_
      exact ret_mk (by kernel_rfl) (by kernel_rfl)
    · replace hm := bif_f b6 hm
      refine R_skip (by kernel_rfl) ?_
      refine R_sq Try.f65 14 15 (by kernel_rfl) ?_
      refine R_rn Try.f65 14 3 [] [] 0 ⟨[(0, vc (tl e_Point default a1)), (3, vi 0)], []⟩ o0 (by kernel_rfl) (by kernel_rfl) ?_
      refine R_sq Try.f65 30 31 (by kernel_rfl) ?_
      refine R_sq Try.f65 60 61 (by kernel_rfl) ?_
      refine R_rn Try.f65 60 4 [] [] 0 ⟨[(0, vc (tl e_Point default a1)), (3, vi 0), (4, vi 0)], []⟩ o0 (by kernel_rfl) (by kernel_rfl) ?_
      obtain ⟨o14, h15, hm⟩ := bind_s hm
      refine R_loop0 (nd Try.f65 244) 0 (by kernel_rfl) FUEL (fun o => ref09_Area2_L2_T o) o14 (HL_enter (ref09_Area2_L2_S a1 0 0) (by kernel_rfl) (by kernel_rfl) (ref09_Area2_L2_ok E a1 FUEL 0 0 o14 h15)) ?_
      refine R_sq Try.f65 62 63 (by kernel_rfl) ?_
      refine R_rn Try.f65 62 9 [] [] 0 ⟨[(2, vi o14)], []⟩ o0 (by kernel_rfl) (by kernel_rfl) ?_
      obtain rfl := Option.some.inj hm
      refine R_ret (by kernel_rfl) ?_
      exact ret_mk (by kernel_rfl) (by kernel_rfl)
  · rcases Bool.eq_false_or_eq_true (decide (((a1.length : Nat) : Int) > 32)) with b2 | b2
    · replace hm := bif_t b2 hm
      refine R_rn Try.f65 12 1 [(3, dfx true)] [] 0 ⟨[(0, vc (tl e_Point default a1)), (13, vb true)], []⟩ (o1 b2) (by kernel_rfl) (by kernel_rfl) ?_
      exact J_mk (true) hm (by kernel_rfl) (by kernel_rfl)
    · replace hm := bif_f b2 hm
      obtain ⟨v3, h4, hm⟩ := bind_s hm
      refine R_rn Try.f65 12 1 [(3, dfx false), (5, dex (cen [] [] 0 0 (ref09_Ranged_x v3) (ref09_Ranged_o v3) [9, 10] []))] [] 0 ⟨[(0, vc (tl e_Point default a1)), (13, vb (!v3))], []⟩ (o1 (And.intro b2 (callS (K := (kx E 48 0)) ⟨[(9, vb false), (10, vc (tl e_Point default a1))], []⟩ (opAt (rg Try.f65 12) 5) [] [] 0 o0 rfl (ref09_Ranged_ok a1 v3 h4) (.inl rfl) (by kernel_rfl)))) (by kernel_rfl) (by kernel_rfl) ?_
      exact J_mk (!v3) hm (by kernel_rfl) (by kernel_rfl)

end Saw
end Go.SL

namespace Go.SL
namespace Saw
open Go.Proofs
set_option maxHeartbeats 4000000

def ref09_Check_x (r : Int) : V := vi r

def ref09_Check_o (r : Int) : List (Nat × (Nat × O)) := []

theorem ref09_Check_f (r : Int) : Frozen (ref09_Check_o r) := by
  intro i k o h
  unfold ref09_Check_o at h
  cases h

set_option maxRecDepth 100000 in
theorem ref09_Check_ok (a1 : List Point) (r : Int) (hm : ref09_Check a1 = some r) : CtX Try.prog globs 35 0 0 [.one (tl e_Point default a1)] [] (ref09_Check_x r) (ref09_Check_o r) := by
  unfold ref09_Check at hm
  refine CtX_of_E (fn := Try.f35) (c := nd Try.f35 1) (nt := 19) (by kernel_rfl) (by kernel_rfl) (by kernel_rfl) (by kernel_rfl) fun E => ?_
  refine R_sq Try.f35 2 3 (by kernel_rfl) ?_
  refine R_rn Try.f35 2 0 [] [] 0 ⟨[(0, vc (tl e_Point default a1))], []⟩ o0 (by kernel_rfl) (by kernel_rfl) ?_
  refine R_sq Try.f35 6 7 (by kernel_rfl) ?_
  refine R_bk Try.f35 0 12 (by kernel_rfl) ?_
  refine R_sq Try.f35 24 25 (by kernel_rfl) ?_
  refine R_rn Try.f35 24 1 [] [] 0 ⟨[(0, vc (tl e_Point default a1)), (3, vb (decide (((a1.length : Nat) : Int) < 3)))], []⟩ o0 (by kernel_rfl) (by kernel_rfl) ?_
  refine R_cn Try.f35 (.tmp 3) 50 51 (by kernel_rfl) (decide (((a1.length : Nat) : Int) < 3)) (by kernel_rfl) (fun b2 => ?_) (fun b2 => ?_)
  · replace hm := bif_t b2 hm
    refine R_sq Try.f35 100 101 (by kernel_rfl) ?_
    refine R_rn Try.f35 100 2 [] [] 0 ⟨[(2, vi 3)], []⟩ o0 (by kernel_rfl) (by kernel_rfl) ?_
    obtain rfl := Option.some.inj hm
    refine R_ret (by kernel_rfl) ?_
    exact ret_mk (by kernel_rfl) (by kernel_rfl)
  · replace hm := bif_f b2 hm
    refine R_sq Try.f35 102 103 (by kernel_rfl) ?_
    refine R_rn Try.f35 102 3 [] [] 0 ⟨[(0, vc (tl e_Point default a1)), (7, vb (decide (((a1.length : Nat) : Int) > 32)))], []⟩ o0 (by kernel_rfl) (by kernel_rfl) ?_
    refine R_cn Try.f35 (.tmp 7) 206 207 (by kernel_rfl) (decide (((a1.length : Nat) : Int) > 32)) (by kernel_rfl) (fun b3 => ?_) (fun b3 => ?_)
    · replace hm := bif_t b3 hm
      refine R_sq Try.f35 412 413 (by kernel_rfl) ?_
      refine R_rn Try.f35 412 4 [] [] 0 ⟨[(2, vi 4)], []⟩ o0 (by kernel_rfl) (by kernel_rfl) ?_
      obtain rfl := Option.some.inj hm
      refine R_ret (by kernel_rfl) ?_
      exact ret_mk (by kernel_rfl) (by kernel_rfl)
    · replace hm := bif_f b3 hm
      refine R_sq Try.f35 414 415 (by kernel_rfl) ?_
      obtain ⟨v4, h5, hm⟩ := bind_s hm
      refine R_rn Try.f35 414 5 [(1, dex (cen [] [] 0 0 (ref09_Ranged_x v4) (ref09_Ranged_o v4) [12] []))] [] 0 ⟨[(0, vc (tl e_Point default a1)), (11, vb (!v4))], []⟩ (o1 (callS (K := (kx E 19 0)) ⟨[(12, vc (tl e_Point default a1))], []⟩ (opAt (rg Try.f35 414) 1) [] [] 0 o0 rfl (ref09_Ranged_ok a1 v4 h5) (.inl rfl) (by kernel_rfl))) (by kernel_rfl) (by kernel_rfl) ?_
      refine R_cn Try.f35 (.tmp 11) 830 831 (by kernel_rfl) (!v4) (by kernel_rfl) (fun b6 => ?_) (fun b6 => ?_)
      · replace hm := bif_t b6 hm
        refine R_sq Try.f35 1660 1661 (by kernel_rfl) ?_
        refine R_rn Try.f35 1660 6 [] [] 0 ⟨[(2, vi 9)], []⟩ o0 (by kernel_rfl) (by kernel_rfl) ?_
        obtain rfl := Option.some.inj hm
        refine R_ret (by kernel_rfl) ?_
        exact ret_mk (by kernel_rfl) (by kernel_rfl)
      · replace hm := bif_f b6 hm
        refine R_sq Try.f35 1662 1663 (by kernel_rfl) ?_
        obtain ⟨v7, h8, hm⟩ := bind_s hm
        refine R_rn Try.f35 1662 7 [(1, dex (cen [] [] 0 0 (ref09_Area2_x v7) (ref09_Area2_o v7) [16] []))] [] 0 ⟨[(15, vb (v7 == 0))], []⟩ (o1 (callS (K := (kx E 19 0)) ⟨[(16, vc (tl e_Point default a1))], []⟩ (opAt (rg Try.f35 1662) 1) [] [] 0 o0 rfl (ref09_Area2_ok a1 v7 h8) (.inl rfl) (by kernel_rfl))) (by kernel_rfl) (by kernel_rfl) ?_
        refine R_cn Try.f35 (.tmp 15) 3326 3327 (by kernel_rfl) (v7 == 0) (by kernel_rfl) (fun b9 => ?_) (fun b9 => ?_)
        · replace hm := bif_t b9 hm
          refine R_sq Try.f35 6652 6653 (by kernel_rfl) ?_
          refine R_rn Try.f35 6652 8 [] [] 0 ⟨[(2, vi 19)], []⟩ o0 (by kernel_rfl) (by kernel_rfl) ?_
          obtain rfl := Option.some.inj hm
          refine R_ret (by kernel_rfl) ?_
          exact ret_mk (by kernel_rfl) (by kernel_rfl)
        · replace hm := bif_f b9 hm
          refine R_skip (by kernel_rfl) ?_
          refine R_sq Try.f35 14 15 (by kernel_rfl) ?_
          refine R_rn Try.f35 14 9 [] [] 0 ⟨[(2, vi 0)], []⟩ o0 (by kernel_rfl) (by kernel_rfl) ?_
          obtain rfl := Option.some.inj hm
          refine R_ret (by kernel_rfl) ?_
          exact ret_mk (by kernel_rfl) (by kernel_rfl)

end Saw
end Go.SL

namespace Go.SL
namespace Saw
open Go.Proofs
set_option maxHeartbeats 4000000

def ref10_empty_x (r : Bool) : V := vb r

def ref10_empty_o (r : Bool) : List (Nat × (Nat × O)) := []

theorem ref10_empty_f (r : Bool) : Frozen (ref10_empty_o r) := by
  intro i k o h
  unfold ref10_empty_o at h
  cases h

set_option maxRecDepth 100000 in
theorem ref10_empty_ok (a1 : Span) (r : Bool) (hm : ref10_empty a1 = some r) : CtX Try.prog globs 42 0 0 [.agg [ci a1.A, ci a1.B]] [] (ref10_empty_x r) (ref10_empty_o r) := by
  unfold ref10_empty at hm
  refine CtX_of_E (fn := Try.f42) (c := nd Try.f42 1) (nt := 8) (by kernel_rfl) (by kernel_rfl) (by kernel_rfl) (by kernel_rfl) fun E => ?_
  refine R_sq Try.f42 2 3 (by kernel_rfl) ?_
  refine R_rn Try.f42 2 0 [] [] 0 ⟨[(1, vp 0 0)], [(0, bx 35 [ci a1.A, ci a1.B])]⟩ o0 (by kernel_rfl) (by kernel_rfl) ?_
  refine R_sq Try.f42 6 7 (by kernel_rfl) ?_
  refine R_rn Try.f42 6 1 [] [] 1 ⟨[(2, vb (decide (a1.A ≥ a1.B)))], []⟩ o0 (by kernel_rfl) (by kernel_rfl) ?_
  obtain rfl := Option.some.inj hm
  refine R_ret (by kernel_rfl) ?_
  exact ret_mk (by kernel_rfl) (by kernel_rfl)

end Saw
end Go.SL
