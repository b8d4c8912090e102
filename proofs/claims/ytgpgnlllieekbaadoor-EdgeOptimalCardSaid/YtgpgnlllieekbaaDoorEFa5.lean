import Derived.Test.YtgpgnlllieekbaaDoorEBase
set_option linter.unusedVariables false
set_option linter.unusedSimpArgs false
namespace Go.SL
namespace Saw
open Go.Proofs
set_option maxHeartbeats 4000000

def slices_Clone_SNode_x (r : List Node) : V := vo 0 0 2 r.length

def slices_Clone_SNode_o (r : List Node) : List (Nat × (Nat × O)) := [(0, ro 0 80 2 r.length (rf e_Node r))]

theorem slices_Clone_SNode_f (r : List Node) : Frozen (slices_Clone_SNode_o r) := by
 intro i k o h
 unfold slices_Clone_SNode_o at h
 rw [look_cons] at h
 split at h
 ·cases h; exact fun _ _ => rfl
 ·cases h

set_option maxRecDepth 100000 in
theorem slices_Clone_SNode_ok (a1 : List Node) (r : List Node) (hm : slices_Clone_SNode a1 = some r) : CtX Tryd.prog globs 87 0 0 [.one (tl e_Node default a1)] [] (slices_Clone_SNode_x r) (slices_Clone_SNode_o r) := by
 unfold slices_Clone_SNode at hm
 obtain ⟨g1, hm⟩ := bif_n hm
 obtain rfl := Option.some.inj hm
 refine CtX_of_E (fn := Tryd.f87) (c := nd Tryd.f87 1) (nt := 8) (by kernel_rfl) (by kernel_rfl) (by kernel_rfl) (by kernel_rfl) fun E => ?_
 refine R_sq Tryd.f87 2 3 (by kernel_rfl) ?_
 refine R_rn Tryd.f87 2 0 [] [] 0 ⟨[(0, vc (tl e_Node default a1))], []⟩ o0 (by kernel_rfl) (by kernel_rfl) ?_
 refine R_sq Tryd.f87 6 7 (by kernel_rfl) ?_
 refine R_sq Tryd.f87 12 13 (by kernel_rfl) ?_
 refine R_nil Tryd.f87 12 1 1 ⟨[(0, vc (tl e_Node default a1)), (3, vc (tl e_Node default a1))], []⟩ 45 45 80 4 (.tmp 3) a1.length (rf e_Node a1) (by kernel_rfl) (by kernel_rfl) (by kernel_rfl) (fun b hb => ?_)
 refine R_cn Tryd.f87 (.tmp 4) 26 27 (by kernel_rfl) b (by kernel_rfl) (fun b6 => ?_) (fun b6 => ?_)
 ·obtain rfl : a1 = [] := List.eq_nil_of_length_eq_zero (hb b6)
  refine R_sq Tryd.f87 52 53 (by kernel_rfl) ?_
  refine R_rn Tryd.f87 52 2 [] [.own 2 0 80 2 (rf e_Node ([] : List Node))] 0 ⟨[(2, vo 0 0 2 0)], [(0, ro 0 80 2 0 (rf e_Node ([] : List Node)))]⟩ o0 (by kernel_rfl) (by kernel_rfl) ?_
  refine R_ret (by kernel_rfl) ?_
  exact ret_mk (by kernel_rfl) (by kernel_rfl)
 ·refine R_skip (by kernel_rfl) ?_
  refine R_sq Tryd.f87 14 15 (by kernel_rfl) ?_
  refine R_rn Tryd.f87 14 3 [(0, drw 0 0 (rf e_Node ([] : List Node))), (2, drw 0 1 (rf e_Node ([] ++ a1)))] [.len 0 a1.length] 0 ⟨[(2, vo 0 1 2 a1.length)], [(0, ro 1 80 2 a1.length (rf e_Node ([] ++ a1)))]⟩ (o1 (And.intro (And.intro (litP e_Node default 2 (fun _ => rfl) ([] : List Node) 0 rfl) (apP e_Node default ([] : List Node) a1 0 a1.length 2 16 True trivial rfl rfl (fun _ => rfl) (by have := room_of g1; rw [Nat.zero_add]; exact this))) (And.intro (And.intro (Nat.zero_add a1.length) (Nat.zero_add a1.length)) (Nat.zero_add a1.length)))) (by kernel_rfl) (by kernel_rfl) ?_
  refine R_ret (by kernel_rfl) ?_
  exact ret_mk (by kernel_rfl) (by kernel_rfl)

end Saw
end Go.SL

namespace Go.SL
namespace Saw
open Go.Proofs
set_option maxHeartbeats 4000000

def edge_collect_s1_x (a1 : List (List Node)) (a2 : List Node) (r : (List (List Node)) × (List (List Node))) : V := vo 0 0 1 r.2.length

def edge_collect_s1_o (a1 : List (List Node)) (a2 : List Node) (r : (List (List Node)) × (List (List Node))) : List (Nat × (Nat × O)) := [(0, ro 0 45 1 r.2.length (rf (e_lst e_Node) r.2)), (1, ro 0 80 2 a2.length (rf e_Node a2))]

set_option maxRecDepth 100000 in
theorem edge_collect_s1_ok (a1 : List (List Node)) (a2 : List Node) (r : (List (List Node)) × (List (List Node))) (hm : edge_collect_s1 a1 a2 = some r) : CtX Tryd.prog globs 57 2 0 [.one (.own 0 0 1 a1.length), .one (.own 1 0 2 a2.length)] [(0, ro 0 45 1 a1.length (rf (e_lst e_Node) a1)), (1, ro 0 80 2 a2.length (rf e_Node a2))] (edge_collect_s1_x a1 a2 r) (edge_collect_s1_o a1 a2 r) := by
 unfold edge_collect_s1 at hm
 refine q_E Tryd.f57 10 fun E => ?_
 refine q_sq ?_
 refine q_vn [] 2 ⟨[(0, vo 0 0 1 a1.length), (1, vo 1 0 2 a2.length)], [(0, ro 0 45 1 a1.length (rf (e_lst e_Node) a1)), (1, ro 0 80 2 a2.length (rf e_Node a2))]⟩ ?_
 refine q_sq ?_
 obtain ⟨v3, h4, hm⟩ := bind_s hm
 obtain ⟨g5, hm⟩ := bif_n hm
 refine q_vu [qd 2 (dex (cen [] [] 2 0 (slices_Clone_SNode_x v3) (slices_Clone_SNode_o v3) [6] [1])) (callS (K := (kx E 10 0)) (b := false) ⟨[(6, vo 1 0 2 a2.length)], [(1, ro 0 80 2 a2.length (rf e_Node a2))]⟩ (opAt (rg Tryd.f57 6) 2) [] [] 2 (o1 (Nat.le_refl a2.length)) rfl (slices_Clone_SNode_ok a2 v3 h4) (.inr ⟨(by kernel_rfl), slices_Clone_SNode_f v3⟩) (by kernel_rfl)), qd 3 (dpr [.frz 2] (drw 3 0 (rf (e_lst e_Node) ([v3] : List (List Node))))) (Nat.le_refl v3.length), qd 3 (Dir.none) (litP (e_lst e_Node) default 1 (fun _ => rfl) ([v3] : List (List Node)) 1 rfl), qd 4 (drw 0 1 (rf (e_lst e_Node) (a1 ++ ([v3] : List (List Node))))) (apP (e_lst e_Node) default a1 ([v3] : List (List Node)) a1.length 1 1 24 (1 ≤ 1) (Nat.le_refl _) rfl rfl (fun _ => rfl) (room_of g5))] 2 [0, 1] [(4, vo 0 1 1 (a1.length + 1))] [0] [(0, ro 1 45 1 (a1.length + 1) (rf (e_lst e_Node) (a1 ++ ([v3] : List (List Node)))))] ?_
 refine q_fn [.len 0 ((a1 ++ ([v3] : List (List Node))).length)] ⟨[(4, vo 0 1 1 ((a1 ++ ([v3] : List (List Node))).length))], [(0, ro 1 45 1 ((a1 ++ ([v3] : List (List Node))).length) (rf (e_lst e_Node) (a1 ++ ([v3] : List (List Node))))), (1, ro 0 80 2 a2.length (rf e_Node a2))]⟩ (o1 (And.intro (Eq.symm (show (a1 ++ ([v3] : List (List Node))).length = (a1.length + 1) from (len_app rfl rfl))) (Eq.symm (show (a1 ++ ([v3] : List (List Node))).length = (a1.length + 1) from (len_app rfl rfl))))) ?_
 obtain rfl := Option.some.inj hm
 refine q_rt ?_
 exact q_rm

end Saw
end Go.SL

namespace Go.SL
namespace Saw
open Go.Proofs
set_option maxHeartbeats 4000000

def cutting_behind_x (r : Int) : V := vi r

def cutting_behind_o (r : Int) : List (Nat × (Nat × O)) := []

theorem cutting_behind_f (r : Int) : Frozen (cutting_behind_o r) := by
 intro i k o h
 unfold cutting_behind_o at h
 cases h

set_option maxRecDepth 100000 in
theorem cutting_behind_ok (a1 : Line) (a2 : Int) (r : Int) (hm : cutting_behind a1 a2 = some r) : CtX Tryd.prog globs 70 0 0 [.agg (e_Line a1), .one (ci a2)] [] (cutting_behind_x r) (cutting_behind_o r) := by
 unfold cutting_behind at hm
 refine q_E Tryd.f70 16 fun E => ?_
 refine q_sq ?_
 refine q_vn [] 0 ⟨[(1, vi a2), (2, vp 0 0)], [(0, bx 64 (e_Line a1))]⟩ ?_
 refine q_sq ?_
 refine q_sq ?_
 refine q_vu [] 1 [] [(8, vb (a2 == a1.Len))] [] [] ?_
 refine q_cn (a2 == a1.Len) (fun b3 => ?_) (fun b3 => ?_)
 ·replace hm := bif_t b3 hm
  refine q_sq ?_
  refine q_vn [] 1 ⟨[(4, vi (-1))], []⟩ ?_
  obtain rfl := Option.some.inj hm
  refine q_rt ?_
  exact q_rm
 ·replace hm := bif_f b3 hm
  refine q_sk ?_
  refine q_sq ?_
  refine q_vn [] 1 ⟨[(4, vi (imin (w64 (a2 + a1.Kerf)) a1.Len))], []⟩ ?_
  obtain rfl := Option.some.inj hm
  refine q_rt ?_
  exact q_rm

end Saw
end Go.SL

namespace Go.SL
namespace Saw
open Go.Proofs
set_option maxHeartbeats 4000000

def cutting_places_x (r : Int) : V := vi r

def cutting_places_o (r : Int) : List (Nat × (Nat × O)) := []

theorem cutting_places_f (r : Int) : Frozen (cutting_places_o r) := by
 intro i k o h
 unfold cutting_places_o at h
 cases h

set_option maxRecDepth 100000 in
theorem cutting_places_ok (a1 : Line) (a2 : Int) (r : Int) (hm : cutting_places a1 a2 = some r) : CtX Tryd.prog globs 93 0 0 [.agg (e_Line a1), .one (ci a2)] [] (cutting_places_x r) (cutting_places_o r) := by
 unfold cutting_places at hm
 refine q_E Tryd.f93 11 fun E => ?_
 refine q_sq ?_
 refine q_vn [] 0 ⟨[(1, vi a2), (2, vp 0 0)], [(0, bx 64 (e_Line a1))]⟩ ?_
 refine q_sq ?_
 refine q_vn [] 1 ⟨[(4, vi (imax 0 (w64 ((w64 (a1.Len - a2)) + 1))))], []⟩ ?_
 obtain rfl := Option.some.inj hm
 refine q_rt ?_
 exact q_rm

end Saw
end Go.SL

namespace Go.SL
namespace Saw
open Go.Proofs
set_option maxHeartbeats 4000000

def cutting_measures_x (r : Int) : V := vi r

def cutting_measures_o (r : Int) : List (Nat × (Nat × O)) := []

theorem cutting_measures_f (r : Int) : Frozen (cutting_measures_o r) := by
 intro i k o h
 unfold cutting_measures_o at h
 cases h

def cutting_measures_k3_S (a1 : Line) (x10 : Int) (x14 : Bool) : St :=
 ⟨[(38, vc (tl e_i64 default a1.Sizes)), (39, vi ((a1.Sizes.length : Nat) : Int)), (40, vi x10), (49, vb x14)], []⟩

def cutting_measures_L2_S (a1 : Line) (x10 : Int) : St :=
 ⟨[(38, vc (tl e_i64 default a1.Sizes)), (39, vi ((a1.Sizes.length : Nat) : Int)), (40, vi x10)], []⟩

def cutting_measures_L2_T : St :=
 ⟨[], []⟩

def cutting_measures_k1_S (a1 : Line) (x7 : Bool) : St :=
 ⟨[(1, vp 0 0), (32, vb x7)], [(0, bx 64 (e_Line a1))]⟩

set_option maxRecDepth 100000 in
theorem cutting_measures_L2_ok (E : Env 0) (a1 : Line) : ∀ (n : Nat) (x10 : Int) (res : Int ⊕ Unit), cutting_measures_L2 a1 n x10 = some res → HL (kx E 51 0) (nd Tryd.f92 244) (loopQ 0 (fun o => cutting_measures_L2_T) (fun v st => RetQ Tryd.prog Tryd.f92 (cutting_measures_x v) (cutting_measures_o v) .ret st) res) n (cutting_measures_L2_S a1 x10) := by
 intro n
 induction n with
 | zero =>
  intro x10 res hm
  cases hm
 | succ n ih =>
  intro x10 res hm
  refine HL_succ ?_
  refine q_sq ?_
  refine q_vu [] 1 [] [(41, vb (decide (x10 < ((a1.Sizes.length : Nat) : Int))))] [] [] ?_
  refine q_sq ?_
  refine q_cn (decide (x10 < ((a1.Sizes.length : Nat) : Int))) (fun b11 => ?_) (fun b11 => ?_)
  ·replace hm := bif_t b11 hm
   refine q_sk ?_
   refine q_sq ?_
   refine q_bk 1 ?_
   refine q_sq ?_
   obtain ⟨g12, hm⟩ := bif_n hm
   refine q_vu [qd 0 (Dir.none) (inb_of g12)] 1 [41] [(4, vi (a1.Sizes.getD x10.toNat default))] [] [] ?_
   refine q_jn (ι := Bool) (fun p => cutting_measures_k3_S a1 x10 p) (fun p => cutting_measures_k3 x10 (cutting_measures_L2 a1 n) p = some res) ?_ ?_
   ·rintro x14 hm
    show H _ (cutting_measures_k3_S a1 x10 x14) _ _
    refine q_cn x14 (fun b15 => ?_) (fun b15 => ?_)
    ·replace hm := bif_t b15 hm
     refine q_sq ?_
     refine q_vn [] 1 ⟨[(2, vi 9)], []⟩ ?_
     obtain rfl := Option.some.inj hm
     refine q_rt ?_
     refine L1_ret 9 ?_
     exact q_rm
    ·replace hm := bif_f b15 hm
     refine q_sk ?_
     refine q_vu [] 1 [40, 49] [(40, vi (w64 (x10 + 1)))] [] [] ?_
     exact q_hl (cutting_measures_L2_S a1 (w64 (x10 + 1))) (ih (w64 (x10 + 1)) _ hm)
   ·rcases Bool.eq_false_or_eq_true (decide ((a1.Sizes.getD x10.toNat default) < 1)) with b13 | b13
    ·replace hm := bif_t b13 hm
     refine q_vu [qf 2 b13] 1 [4] [(49, vb true)] [] [] ?_
     exact q_J (true) hm
    ·replace hm := bif_f b13 hm
     refine q_vu [qf 2 b13] 1 [4] [(47, vi (a1.Sizes.getD x10.toNat default)), (48, vb (decide ((a1.Sizes.getD x10.toNat default) > 2000))), (49, vb (decide ((a1.Sizes.getD x10.toNat default) > 2000)))] [] [] ?_
     exact q_J (decide ((a1.Sizes.getD x10.toNat default) > 2000)) hm
  ·replace hm := bif_f b11 hm
   refine q_ex 0 ?_
   obtain rfl := Option.some.inj hm
   exact L1_mk () (by kernel_rfl) (by kernel_rfl)

set_option maxRecDepth 100000 in
theorem cutting_measures_ok (a1 : Line) (r : Int) (hm : cutting_measures a1 = some r) : CtX Tryd.prog globs 92 0 0 [.agg (e_Line a1)] [] (cutting_measures_x r) (cutting_measures_o r) := by
 unfold cutting_measures at hm
 refine q_E Tryd.f92 51 fun E => ?_
 refine q_sq ?_
 refine q_vn [] 0 ⟨[(1, vp 0 0)], [(0, bx 64 (e_Line a1))]⟩ ?_
 refine q_sq ?_
 refine q_jn (ι := Bool) (fun p => cutting_measures_k1_S a1 p) (fun p => cutting_measures_k1 a1 p = some r) ?_ ?_
 ·rintro x7 hm
  show H _ (cutting_measures_k1_S a1 x7) _ _
  refine q_cn x7 (fun b8 => ?_) (fun b8 => ?_)
  ·replace hm := bif_t b8 hm
   refine q_sq ?_
   refine q_vn [] 1 ⟨[(2, vi 9)], []⟩ ?_
   obtain rfl := Option.some.inj hm
   refine q_rt ?_
   exact q_rm
  ·replace hm := bif_f b8 hm
   refine q_sk ?_
   refine q_sq ?_
   refine q_sq ?_
   refine q_vu [] 1 [32] [(36, vb (decide (((a1.Sizes.length : Nat) : Int) > 32)))] [] [] ?_
   refine q_cn (decide (((a1.Sizes.length : Nat) : Int) > 32)) (fun b9 => ?_) (fun b9 => ?_)
   ·replace hm := bif_t b9 hm
    refine q_sq ?_
    refine q_vn [] 1 ⟨[(2, vi 4)], []⟩ ?_
    obtain rfl := Option.some.inj hm
    refine q_rt ?_
    exact q_rm
   ·replace hm := bif_f b9 hm
    refine q_sk ?_
    refine q_sq ?_
    refine q_sq ?_
    refine q_vn [] 1 ⟨[(38, vc (tl e_i64 default a1.Sizes)), (39, vi ((a1.Sizes.length : Nat) : Int)), (40, vi 0)], []⟩ ?_
    obtain ⟨u18, h17, hm⟩ := bind_s hm
    refine R_loop1 (nd Tryd.f92 244) 0 (by kernel_rfl) FUEL (fun o => cutting_measures_L2_T) (fun v st => RetQ Tryd.prog Tryd.f92 (cutting_measures_x v) (cutting_measures_o v) .ret st) u18 (q_hl (cutting_measures_L2_S a1 0) (cutting_measures_L2_ok E a1 FUEL 0 u18 h17)) ?_ ?_
    ·rintro v19 rfl st hr
     obtain rfl := Option.some.inj hm
     exact hr
    ·rintro o16 rfl
     replace hm : _ = some r := hm
     refine q_sq ?_
     refine q_vn [] 1 ⟨[(2, vi 0)], []⟩ ?_
     obtain rfl := Option.some.inj hm
     refine q_rt ?_
     exact q_rm
 ·rcases Bool.eq_false_or_eq_true (decide (a1.Len < 0)) with b2 | b2
  ·replace hm := bif_t b2 hm
   refine q_vu [qf 3 b2] 1 [] [(32, vb true)] [] [] ?_
   exact q_J (true) hm
  ·replace hm := bif_f b2 hm
   rcases Bool.eq_false_or_eq_true (decide (a1.Len > 2000)) with b3 | b3
   ·replace hm := bif_t b3 hm
    refine q_vu [qf 3 b2, qf 8 b3] 1 [] [(32, vb true)] [] [] ?_
    exact q_J (true) hm
   ·replace hm := bif_f b3 hm
    rcases Bool.eq_false_or_eq_true (decide (a1.Kerf < 0)) with b4 | b4
    ·replace hm := bif_t b4 hm
     refine q_vu [qf 3 b2, qf 8 b3, qf 13 b4] 1 [] [(32, vb true)] [] [] ?_
     exact q_J (true) hm
    ·replace hm := bif_f b4 hm
     rcases Bool.eq_false_or_eq_true (decide (a1.Kerf > 20)) with b5 | b5
     ·replace hm := bif_t b5 hm
      refine q_vu [qf 3 b2, qf 8 b3, qf 13 b4, qf 18 b5] 1 [] [(32, vb true)] [] [] ?_
      exact q_J (true) hm
     ·replace hm := bif_f b5 hm
      rcases Bool.eq_false_or_eq_true (decide (a1.Pitch < 1)) with b6 | b6
      ·replace hm := bif_t b6 hm
       refine q_vu [qf 3 b2, qf 8 b3, qf 13 b4, qf 18 b5, qf 23 b6] 1 [] [(32, vb true)] [] [] ?_
       exact q_J (true) hm
      ·replace hm := bif_f b6 hm
       refine q_vu [qf 3 b2, qf 8 b3, qf 13 b4, qf 18 b5, qf 23 b6] 1 [] [(32, vb (decide (a1.Pitch > 2000)))] [] [] ?_
       exact q_J (decide (a1.Pitch > 2000)) hm

end Saw
end Go.SL

namespace Go.SL
namespace Saw
open Go.Proofs
set_option maxHeartbeats 4000000

def cutting_small_x (r : Bool) : V := vb r

def cutting_small_o (r : Bool) : List (Nat × (Nat × O)) := []

theorem cutting_small_f (r : Bool) : Frozen (cutting_small_o r) := by
 intro i k o h
 unfold cutting_small_o at h
 cases h

def cutting_small_k3_S (a1 : List (List Int)) (x2 : Int) (x5 : Int) (x9 : Bool) : St :=
 ⟨[(7, vc (tl (e_lst e_i64) default a1)), (8, vi ((a1.length : Nat) : Int)), (9, vi x2), (13, vc (tl e_i64 default (a1.getD x2.toNat default))), (14, vi (((a1.getD x2.toNat default).length : Nat) : Int)), (15, vi x5), (24, vb x9)], []⟩

def cutting_small_L2_S (a1 : List (List Int)) (x2 : Int) (x5 : Int) : St :=
 ⟨[(7, vc (tl (e_lst e_i64) default a1)), (8, vi ((a1.length : Nat) : Int)), (9, vi x2), (13, vc (tl e_i64 default (a1.getD x2.toNat default))), (14, vi (((a1.getD x2.toNat default).length : Nat) : Int)), (15, vi x5)], []⟩

def cutting_small_L2_T (a1 : List (List Int)) (x2 : Int) : St :=
 ⟨[(7, vc (tl (e_lst e_i64) default a1)), (8, vi ((a1.length : Nat) : Int)), (9, vi x2)], []⟩

def cutting_small_L1_S (a1 : List (List Int)) (x2 : Int) : St :=
 ⟨[(7, vc (tl (e_lst e_i64) default a1)), (8, vi ((a1.length : Nat) : Int)), (9, vi x2)], []⟩

def cutting_small_L1_T : St :=
 ⟨[], []⟩

set_option maxRecDepth 100000 in
theorem cutting_small_L2_ok (E : Env 0) (a1 : List (List Int)) (x2 : Int) : ∀ (n : Nat) (x5 : Int) (res : Bool ⊕ Unit), cutting_small_L2 a1 x2 n x5 = some res → HL (kx E 27 0) (nd Tryd.f94 13516) (loopQ 2 (fun o => cutting_small_L2_T a1 x2) (fun v st => RetQ Tryd.prog Tryd.f94 (cutting_small_x v) (cutting_small_o v) .ret st) res) n (cutting_small_L2_S a1 x2 x5) := by
 intro n
 induction n with
 | zero =>
  intro x5 res hm
  cases hm
 | succ n ih =>
  intro x5 res hm
  refine HL_succ ?_
  refine q_sq ?_
  refine q_vu [] 0 [] [(16, vb (decide (x5 < (((a1.getD x2.toNat default).length : Nat) : Int))))] [] [] ?_
  refine q_sq ?_
  refine q_cn (decide (x5 < (((a1.getD x2.toNat default).length : Nat) : Int))) (fun b6 => ?_) (fun b6 => ?_)
  ·replace hm := bif_t b6 hm
   refine q_sk ?_
   refine q_sq ?_
   refine q_bk 3 ?_
   refine q_sq ?_
   obtain ⟨g7, hm⟩ := bif_n hm
   refine q_vu [qd 0 (Dir.none) (inb_of g7)] 0 [16] [(6, vi ((a1.getD x2.toNat default).getD x5.toNat default))] [] [] ?_
   refine q_jn (ι := Bool) (fun p => cutting_small_k3_S a1 x2 x5 p) (fun p => cutting_small_k3 x5 (cutting_small_L2 a1 x2 n) p = some res) ?_ ?_
   ·rintro x9 hm
    show H _ (cutting_small_k3_S a1 x2 x5 x9) _ _
    refine q_cn x9 (fun b10 => ?_) (fun b10 => ?_)
    ·replace hm := bif_t b10 hm
     refine q_sq ?_
     refine q_vn [] 0 ⟨[(2, vb false)], []⟩ ?_
     obtain rfl := Option.some.inj hm
     refine q_rt ?_
     refine L1_ret false ?_
     exact q_rm
    ·replace hm := bif_f b10 hm
     refine q_sk ?_
     refine q_vu [] 0 [15, 24] [(15, vi (w64 (x5 + 1)))] [] [] ?_
     exact q_hl (cutting_small_L2_S a1 x2 (w64 (x5 + 1))) (ih (w64 (x5 + 1)) _ hm)
   ·rcases Bool.eq_false_or_eq_true (decide (((a1.getD x2.toNat default).getD x5.toNat default) < (-1125899906842624))) with b8 | b8
    ·replace hm := bif_t b8 hm
     refine q_vu [qf 2 b8] 0 [6] [(24, vb true)] [] [] ?_
     exact q_J (true) hm
    ·replace hm := bif_f b8 hm
     refine q_vu [qf 2 b8] 0 [6] [(22, vi ((a1.getD x2.toNat default).getD x5.toNat default)), (23, vb (decide (((a1.getD x2.toNat default).getD x5.toNat default) > 1125899906842624))), (24, vb (decide (((a1.getD x2.toNat default).getD x5.toNat default) > 1125899906842624)))] [] [] ?_
     exact q_J (decide (((a1.getD x2.toNat default).getD x5.toNat default) > 1125899906842624)) hm
  ·replace hm := bif_f b6 hm
   refine q_ex 2 ?_
   obtain rfl := Option.some.inj hm
   exact L1_mk () (by kernel_rfl) (by kernel_rfl)

set_option maxRecDepth 100000 in
theorem cutting_small_L1_ok (E : Env 0) (a1 : List (List Int)) : ∀ (n : Nat) (x2 : Int) (res : Bool ⊕ Unit), cutting_small_L1 a1 n x2 = some res → HL (kx E 27 0) (nd Tryd.f94 52) (loopQ 0 (fun o => cutting_small_L1_T) (fun v st => RetQ Tryd.prog Tryd.f94 (cutting_small_x v) (cutting_small_o v) .ret st) res) n (cutting_small_L1_S a1 x2) := by
 intro n
 induction n with
 | zero =>
  intro x2 res hm
  cases hm
 | succ n ih =>
  intro x2 res hm
  refine HL_succ ?_
  refine q_sq ?_
  refine q_vu [] 0 [] [(10, vb (decide (x2 < ((a1.length : Nat) : Int))))] [] [] ?_
  refine q_sq ?_
  refine q_cn (decide (x2 < ((a1.length : Nat) : Int))) (fun b3 => ?_) (fun b3 => ?_)
  ·replace hm := bif_t b3 hm
   refine q_sk ?_
   refine q_sq ?_
   refine q_bk 1 ?_
   refine q_sq ?_
   obtain ⟨g4, hm⟩ := bif_n hm
   refine q_vu [qd 0 (Dir.none) (inb_of g4)] 0 [10] [(4, vc (tl e_i64 default (a1.getD x2.toNat default)))] [] [] ?_
   refine q_sq ?_
   refine q_vu [] 0 [4] [(13, vc (tl e_i64 default (a1.getD x2.toNat default))), (14, vi (((a1.getD x2.toNat default).length : Nat) : Int)), (15, vi 0)] [] [] ?_
   obtain ⟨u13, h12, hm⟩ := bind_s hm
   refine R_loop1 (nd Tryd.f94 13516) 2 (by kernel_rfl) FUEL (fun o => cutting_small_L2_T a1 x2) (fun v st => RetQ Tryd.prog Tryd.f94 (cutting_small_x v) (cutting_small_o v) .ret st) u13 (q_hl (cutting_small_L2_S a1 x2 0) (cutting_small_L2_ok E a1 x2 FUEL 0 u13 h12)) ?_ ?_
   ·rintro v14 rfl st hr
    obtain rfl := Option.some.inj hm
    exact L1_ret v14 hr
   ·rintro o11 rfl
    replace hm : _ = some res := hm
    refine q_vu [] 0 [9] [(9, vi (w64 (x2 + 1)))] [] [] ?_
    exact q_hl (cutting_small_L1_S a1 (w64 (x2 + 1))) (ih (w64 (x2 + 1)) _ hm)
  ·replace hm := bif_f b3 hm
   refine q_ex 0 ?_
   obtain rfl := Option.some.inj hm
   exact L1_mk () (by kernel_rfl) (by kernel_rfl)

set_option maxRecDepth 100000 in
theorem cutting_small_ok (a1 : List (List Int)) (r : Bool) (hm : cutting_small a1 = some r) : CtX Tryd.prog globs 94 0 0 [.one (tl (e_lst e_i64) default a1)] [] (cutting_small_x r) (cutting_small_o r) := by
 unfold cutting_small at hm
 refine q_E Tryd.f94 27 fun E => ?_
 refine q_sq ?_
 refine q_vn [] 0 ⟨[(0, vc (tl (e_lst e_i64) default a1))], []⟩ ?_
 refine q_sq ?_
 refine q_sq ?_
 refine q_vn [] 0 ⟨[(7, vc (tl (e_lst e_i64) default a1)), (8, vi ((a1.length : Nat) : Int)), (9, vi 0)], []⟩ ?_
 obtain ⟨u17, h16, hm⟩ := bind_s hm
 refine R_loop1 (nd Tryd.f94 52) 0 (by kernel_rfl) FUEL (fun o => cutting_small_L1_T) (fun v st => RetQ Tryd.prog Tryd.f94 (cutting_small_x v) (cutting_small_o v) .ret st) u17 (q_hl (cutting_small_L1_S a1 0) (cutting_small_L1_ok E a1 FUEL 0 u17 h16)) ?_ ?_
 ·rintro v18 rfl st hr
  obtain rfl := Option.some.inj hm
  exact hr
 ·rintro o15 rfl
  replace hm : _ = some r := hm
  refine q_sq ?_
  refine q_vn [] 0 ⟨[(2, vb true)], []⟩ ?_
  obtain rfl := Option.some.inj hm
  refine q_rt ?_
  exact q_rm

end Saw
end Go.SL

namespace Go.SL
namespace Saw
open Go.Proofs
set_option maxHeartbeats 4000000

def cutting_Check_x (r : Int) : V := vi r

def cutting_Check_o (r : Int) : List (Nat × (Nat × O)) := []

theorem cutting_Check_f (r : Int) : Frozen (cutting_Check_o r) := by
 intro i k o h
 unfold cutting_Check_o at h
 cases h

def cutting_Check_L2_S (a1 : Line) (x9 : Int) : St :=
 ⟨[(1, vp 0 0), (35, vc (tl (e_lst e_i64) default a1.Gain)), (36, vi ((a1.Gain.length : Nat) : Int)), (37, vi x9)], [(0, bx 64 (e_Line a1))]⟩

def cutting_Check_L2_T (a1 : Line) : St :=
 ⟨[(1, vp 0 0)], [(0, bx 64 (e_Line a1))]⟩

def cutting_Check_k3_S (x25 : Bool) : St :=
 ⟨[(65, vb x25)], []⟩

def cutting_Check_k1_S (a1 : Line) (x7 : Bool) : St :=
 ⟨[(1, vp 0 0), (33, vb x7)], [(0, bx 64 (e_Line a1))]⟩

set_option maxRecDepth 100000 in
theorem cutting_Check_L2_ok (E : Env 0) (a1 : Line) : ∀ (n : Nat) (x9 : Int) (res : Int ⊕ Unit), cutting_Check_L2 a1 n x9 = some res → HL (kx E 66 0) (nd Tryd.f67 244) (loopQ 0 (fun o => cutting_Check_L2_T a1) (fun v st => RetQ Tryd.prog Tryd.f67 (cutting_Check_x v) (cutting_Check_o v) .ret st) res) n (cutting_Check_L2_S a1 x9) := by
 intro n
 induction n with
 | zero =>
  intro x9 res hm
  cases hm
 | succ n ih =>
  intro x9 res hm
  refine HL_succ ?_
  refine q_sq ?_
  refine q_vu [] 1 [] [(38, vb (decide (x9 < ((a1.Gain.length : Nat) : Int))))] [] [] ?_
  refine q_sq ?_
  refine q_cn (decide (x9 < ((a1.Gain.length : Nat) : Int))) (fun b10 => ?_) (fun b10 => ?_)
  ·replace hm := bif_t b10 hm
   refine q_sk ?_
   refine q_sq ?_
   refine q_bk 1 ?_
   refine q_sq ?_
   obtain ⟨g11, hm⟩ := bif_n hm
   refine q_vu [qd 1 (Dir.none) (inb_of g11)] 1 [38] [(4, vi x9), (5, vc (tl e_i64 default (a1.Gain.getD x9.toNat default)))] [] [] ?_
   refine q_sq ?_
   obtain ⟨g12, hm⟩ := bif_n hm
   obtain ⟨v13, h14, hm⟩ := bind_s hm
   refine q_du [qd 6 (Dir.none) (inb_of g12), qc 8 [44, 49] 1 (cutting_places_ok a1 (a1.Sizes.getD x9.toNat default) v13 h14)] [0, 1, 0, 0, 8, 0, 56, 120, 252, 511] 1 [4, 5] [(51, vb ((((a1.Gain.getD x9.toNat default).length : Nat) : Int) != v13))] [] [] ?_
   refine q_cn ((((a1.Gain.getD x9.toNat default).length : Nat) : Int) != v13) (fun b15 => ?_) (fun b15 => ?_)
   ·replace hm := bif_t b15 hm
    refine q_sq ?_
    refine q_vn [] 1 ⟨[(2, vi 19)], []⟩ ?_
    obtain rfl := Option.some.inj hm
    refine q_rt ?_
    refine L1_ret 19 ?_
    exact q_rm
   ·replace hm := bif_f b15 hm
    refine q_sk ?_
    refine q_vu [] 1 [37, 51] [(37, vi (w64 (x9 + 1)))] [] [] ?_
    exact q_hl (cutting_Check_L2_S a1 (w64 (x9 + 1))) (ih (w64 (x9 + 1)) _ hm)
  ·replace hm := bif_f b10 hm
   refine q_ex 0 ?_
   obtain rfl := Option.some.inj hm
   exact L1_mk () (by kernel_rfl) (by kernel_rfl)

set_option maxRecDepth 100000 in
theorem cutting_Check_ok (a1 : Line) (r : Int) (hm : cutting_Check a1 = some r) : CtX Tryd.prog globs 67 0 0 [.agg (e_Line a1)] [] (cutting_Check_x r) (cutting_Check_o r) := by
 unfold cutting_Check at hm
 refine q_E Tryd.f67 66 fun E => ?_
 refine q_sq ?_
 refine q_vn [] 0 ⟨[(1, vp 0 0)], [(0, bx 64 (e_Line a1))]⟩ ?_
 refine q_sq ?_
 refine q_sq ?_
 obtain ⟨v2, h3, hm⟩ := bind_s hm
 refine q_vu [qc 1 [6] 1 (cutting_measures_ok a1 v2 h3)] 1 [] [(3, vi v2)] [] [] ?_
 refine q_sq ?_
 refine q_vu [] 1 [] [(9, vb (v2 != 0))] [] [] ?_
 refine q_cn (v2 != 0) (fun b4 => ?_) (fun b4 => ?_)
 ·replace hm := bif_t b4 hm
  refine q_sq ?_
  refine q_vn [] 1 ⟨[(2, vi v2)], []⟩ ?_
  obtain rfl := Option.some.inj hm
  refine q_rt ?_
  exact q_rm
 ·replace hm := bif_f b4 hm
  refine q_sk ?_
  refine q_sq ?_
  refine q_jn (ι := Bool) (fun p => cutting_Check_k1_S a1 p) (fun p => cutting_Check_k1 a1 p = some r) ?_ ?_
  ·rintro x7 hm
   show H _ (cutting_Check_k1_S a1 x7) _ _
   refine q_cn x7 (fun b8 => ?_) (fun b8 => ?_)
   ·replace hm := bif_t b8 hm
    refine q_sq ?_
    refine q_vn [] 1 ⟨[(2, vi 19)], []⟩ ?_
    obtain rfl := Option.some.inj hm
    refine q_rt ?_
    exact q_rm
   ·replace hm := bif_f b8 hm
    refine q_sk ?_
    refine q_sq ?_
    refine q_sq ?_
    refine q_vu [] 1 [33] [(35, vc (tl (e_lst e_i64) default a1.Gain)), (36, vi ((a1.Gain.length : Nat) : Int)), (37, vi 0)] [] [] ?_
    obtain ⟨u18, h17, hm⟩ := bind_s hm
    refine R_loop1 (nd Tryd.f67 244) 0 (by kernel_rfl) FUEL (fun o => cutting_Check_L2_T a1) (fun v st => RetQ Tryd.prog Tryd.f67 (cutting_Check_x v) (cutting_Check_o v) .ret st) u18 (q_hl (cutting_Check_L2_S a1 0) (cutting_Check_L2_ok E a1 FUEL 0 u18 h17)) ?_ ?_
    ·rintro v19 rfl st hr
     obtain rfl := Option.some.inj hm
     exact hr
    ·rintro o16 rfl
     replace hm : _ = some r := hm
     refine q_sq ?_
     refine q_jn (ι := Bool) (fun p => cutting_Check_k3_S p) (fun p => cutting_Check_k3 p = some r) ?_ ?_
     ·rintro x25 hm
      show H _ (cutting_Check_k3_S x25) _ _
      refine q_cn x25 (fun b26 => ?_) (fun b26 => ?_)
      ·replace hm := bif_t b26 hm
       refine q_sq ?_
       refine q_vn [] 2 ⟨[(2, vi 9)], []⟩ ?_
       obtain rfl := Option.some.inj hm
       refine q_rt ?_
       exact q_rm
      ·replace hm := bif_f b26 hm
       refine q_sk ?_
       refine q_sq ?_
       refine q_vn [] 2 ⟨[(2, vi 0)], []⟩ ?_
       obtain rfl := Option.some.inj hm
       refine q_rt ?_
       exact q_rm
     ·obtain ⟨v20, h21, hm⟩ := bind_s hm
      rcases Bool.eq_false_or_eq_true (!v20) with b22 | b22
      ·replace hm := bif_t b22 hm
       refine q_vn [qc 2 [54] 1 (cutting_small_ok a1.Gain v20 h21), qf 4 b22] 1 ⟨[(65, vb true)], []⟩ ?_
       exact q_J (true) hm
      ·replace hm := bif_f b22 hm
       obtain ⟨v23, h24, hm⟩ := bind_s hm
       refine q_vn [qc 2 [54] 1 (cutting_small_ok a1.Gain v20 h21), qf 4 b22, qd 9 (drw 1 0 (rf (e_lst e_i64) ([a1.Chip, a1.Dust] : List (List Int)))) (litP (e_lst e_i64) default 1 (fun _ => rfl) ([a1.Chip, a1.Dust] : List (List Int)) 2 rfl), qd 10 (dex (cen [] [] 2 0 (cutting_small_x v23) (cutting_small_o v23) [57, 62] [1])) (callS (K := (kx E 66 0)) (xs' := [.one (.lst 2 (rf (e_lst e_i64) ([a1.Chip, a1.Dust] : List (List Int))))]) (b := false) ⟨[(57, vb false), (62, vo 1 0 1 2)], [(1, ro 0 25 1 2 (rf (e_lst e_i64) ([a1.Chip, a1.Dust] : List (List Int))))]⟩ (opAt (rg Tryd.f67 124) 10) [] [] 2 (o1 (Nat.le_refl 2)) (by simp only [tl, rf, show ([a1.Chip, a1.Dust] : List (List Int)).length = 2 from rfl]) (cutting_small_ok ([a1.Chip, a1.Dust] : List (List Int)) v23 h24) (.inr ⟨(by kernel_rfl), cutting_small_f v23⟩) (by kernel_rfl))] 1 ⟨[(65, vb (!v23))], []⟩ ?_
       exact q_J (!v23) hm
  ·rcases Bool.eq_false_or_eq_true (((a1.Gain.length : Nat) : Int) != ((a1.Sizes.length : Nat) : Int)) with b5 | b5
   ·replace hm := bif_t b5 hm
    refine q_vu [qf 7 b5] 1 [3, 9] [(33, vb true)] [] [] ?_
    exact q_J (true) hm
   ·replace hm := bif_f b5 hm
    rcases Bool.eq_false_or_eq_true (((a1.Chip.length : Nat) : Int) != a1.Len) with b6 | b6
    ·replace hm := bif_t b6 hm
     refine q_vu [qf 7 b5, qf 15 b6] 1 [3, 9] [(33, vb true)] [] [] ?_
     exact q_J (true) hm
    ·replace hm := bif_f b6 hm
     refine q_vu [qf 7 b5, qf 15 b6] 1 [3, 9] [(33, vb (((a1.Dust.length : Nat) : Int) != a1.Len))] [] [] ?_
     exact q_J (((a1.Dust.length : Nat) : Int) != a1.Len) hm

end Saw
end Go.SL

namespace Go.SL
namespace Saw
open Go.Proofs
set_option maxHeartbeats 4000000

def cutting_start_x (r : Cutting_choice) : V := va (e_Cutting_choice r)

def cutting_start_o (r : Cutting_choice) : List (Nat × (Nat × O)) := []

theorem cutting_start_f (r : Cutting_choice) : Frozen (cutting_start_o r) := by
 intro i k o h
 unfold cutting_start_o at h
 cases h

def cutting_start_k5_S (a1 : Line) (a2 : Int) (a3 : List Int) (a4 : List Cutting_choice) (x5 : Int) (x26 : Cutting_choice) : St :=
 ⟨[(1, vi a2), (2, vc (tl e_i64 default a3)), (3, vc (tl e_Cutting_choice default a4)), (4, vp 0 0), (8, vp 1 0), (9, vp 2 0), (18, vc (tl e_i64 default a1.Sizes)), (19, vi ((a1.Sizes.length : Nat) : Int)), (20, vi x5)], [(0, bx 64 (e_Line a1)), (1, bx 164 [ci 0, ci 0, ci 0]), (2, bx 164 (e_Cutting_choice x26))]⟩

def cutting_start_k4_S (a1 : Line) (a2 : Int) (a3 : List Int) (a4 : List Cutting_choice) (x5 : Int) (x6 : Cutting_choice) (x22 : Cutting_choice) (x24 : Bool) : St :=
 ⟨[(1, vi a2), (2, vc (tl e_i64 default a3)), (3, vc (tl e_Cutting_choice default a4)), (4, vp 0 0), (8, vp 1 0), (9, vp 2 0), (13, vp 3 0), (18, vc (tl e_i64 default a1.Sizes)), (19, vi ((a1.Sizes.length : Nat) : Int)), (20, vi x5), (89, vb x24)], [(0, bx 64 (e_Line a1)), (1, bx 164 [ci 0, ci 0, ci 0]), (2, bx 164 (e_Cutting_choice x6)), (3, bx 164 (e_Cutting_choice x22))]⟩

def cutting_start_k3_S (a1 : Line) (a2 : Int) (a3 : List Int) (a4 : List Cutting_choice) (x5 : Int) (x6 : Cutting_choice) (x22 : Cutting_choice) : St :=
 ⟨[(1, vi a2), (2, vc (tl e_i64 default a3)), (3, vc (tl e_Cutting_choice default a4)), (4, vp 0 0), (8, vp 1 0), (9, vp 2 0), (13, vp 3 0), (18, vc (tl e_i64 default a1.Sizes)), (19, vi ((a1.Sizes.length : Nat) : Int)), (20, vi x5)], [(0, bx 64 (e_Line a1)), (1, bx 164 [ci 0, ci 0, ci 0]), (2, bx 164 (e_Cutting_choice x6)), (3, bx 164 (e_Cutting_choice x22))]⟩

def cutting_start_k2_S (a1 : Line) (a2 : Int) (a3 : List Int) (a4 : List Cutting_choice) (x5 : Int) (x6 : Cutting_choice) (x12 : Bool) : St :=
 ⟨[(1, vi a2), (2, vc (tl e_i64 default a3)), (3, vc (tl e_Cutting_choice default a4)), (4, vp 0 0), (8, vp 1 0), (9, vp 2 0), (10, vi x5), (12, vi (w64 (a2 + (a1.Sizes.getD x5.toNat default)))), (18, vc (tl e_i64 default a1.Sizes)), (19, vi ((a1.Sizes.length : Nat) : Int)), (20, vi x5), (42, vb x12)], [(0, bx 64 (e_Line a1)), (1, bx 164 [ci 0, ci 0, ci 0]), (2, bx 164 (e_Cutting_choice x6))]⟩

def cutting_start_L1_S (a1 : Line) (a2 : Int) (a3 : List Int) (a4 : List Cutting_choice) (x5 : Int) (x6 : Cutting_choice) : St :=
 ⟨[(1, vi a2), (2, vc (tl e_i64 default a3)), (3, vc (tl e_Cutting_choice default a4)), (4, vp 0 0), (8, vp 1 0), (9, vp 2 0), (18, vc (tl e_i64 default a1.Sizes)), (19, vi ((a1.Sizes.length : Nat) : Int)), (20, vi x5)], [(0, bx 64 (e_Line a1)), (1, bx 164 [ci 0, ci 0, ci 0]), (2, bx 164 (e_Cutting_choice x6))]⟩

def cutting_start_L1_T (x27 : Cutting_choice) : St :=
 ⟨[(8, vp 1 0), (9, vp 2 0)], [(1, bx 164 [ci 0, ci 0, ci 0]), (2, bx 164 (e_Cutting_choice x27))]⟩

set_option maxRecDepth 100000 in
theorem cutting_start_L1_ok (E : Env 0) (a1 : Line) (a2 : Int) (a3 : List Int) (a4 : List Cutting_choice) : ∀ (n : Nat) (x5 : Int) (x6 : Cutting_choice) (res : Cutting_choice), cutting_start_L1 a1 a2 a3 a4 n x5 x6 = some res → HL (kx E 93 0) (nd Tryd.f108 116) (loopQ0 0 (fun o => cutting_start_L1_T o) res) n (cutting_start_L1_S a1 a2 a3 a4 x5 x6) := by
 intro n
 induction n with
 | zero =>
  intro x5 x6 res hm
  cases hm
 | succ n ih =>
  intro x5 x6 res hm
  refine HL_succ ?_
  refine q_sq ?_
  refine q_vu [] 3 [] [(21, vb (decide (x5 < ((a1.Sizes.length : Nat) : Int))))] [] [] ?_
  refine q_sq ?_
  refine q_cn (decide (x5 < ((a1.Sizes.length : Nat) : Int))) (fun b7 => ?_) (fun b7 => ?_)
  ·replace hm := bif_t b7 hm
   refine q_sk ?_
   refine q_jn (ι := Cutting_choice) (fun p => cutting_start_k5_S a1 a2 a3 a4 x5 p) (fun p => cutting_start_k5 x5 (cutting_start_L1 a1 a2 a3 a4 n) p = some res) ?_ ?_
   ·rintro x26 hm
    show H _ (cutting_start_k5_S a1 a2 a3 a4 x5 x26) _ _
    refine q_vu [] 4 [20] [(20, vi (w64 (x5 + 1)))] [] [] ?_
    exact q_hl (cutting_start_L1_S a1 a2 a3 a4 (w64 (x5 + 1)) x26) (ih (w64 (x5 + 1)) x26 _ hm)
   ·refine q_bk 1 ?_
    refine q_sq ?_
    obtain ⟨g8, hm⟩ := bif_n hm
    refine q_vu [qd 1 (Dir.none) (inb_of g8)] 3 [21] [(10, vi x5), (11, vi (a1.Sizes.getD x5.toNat default))] [] [] ?_
    refine q_sq ?_
    refine q_vu [] 3 [11] [(12, vi (w64 (a2 + (a1.Sizes.getD x5.toNat default))))] [] [] ?_
    refine q_sq ?_
    refine q_jn (ι := Bool) (fun p => cutting_start_k2_S a1 a2 a3 a4 x5 x6 p) (fun p => cutting_start_k2 a1 a2 a3 a4 x5 x6 (cutting_start_L1 a1 a2 a3 a4 n) p = some res) ?_ ?_
    ·rintro x12 hm
     show H _ (cutting_start_k2_S a1 a2 a3 a4 x5 x6 x12) _ _
     refine q_cn x12 (fun b13 => ?_) (fun b13 => ?_)
     ·replace hm := bif_t b13 hm
      refine q_ex 1 ?_
      exact q_J (x6) hm
     ·replace hm := bif_f b13 hm
      refine q_sk ?_
      refine q_sq ?_
      obtain ⟨g14, hm⟩ := bif_n hm
      obtain ⟨g15, hm⟩ := bif_n hm
      refine q_vu [qd 6 (Dir.none) (inb_of g14), qd 9 (Dir.none) (inb_of g15)] 3 [10, 42] [(13, vp 3 0)] [] [(3, bx 164 [ci x5, ci a2, ci ((a1.Gain.getD x5.toNat default).getD a2.toNat default)])] ?_
      refine q_jn (ι := Cutting_choice) (fun p => cutting_start_k3_S a1 a2 a3 a4 x5 x6 p) (fun p => cutting_start_k3 x5 x6 (cutting_start_L1 a1 a2 a3 a4 n) p = some res) ?_ ?_
      ·rintro x22 hm
       show H _ (cutting_start_k3_S a1 a2 a3 a4 x5 x6 x22) _ _
       refine q_jn (ι := Bool) (fun p => cutting_start_k4_S a1 a2 a3 a4 x5 x6 x22 p) (fun p => cutting_start_k4 x5 x6 (cutting_start_L1 a1 a2 a3 a4 n) x22 p = some res) ?_ ?_
       ·rintro x24 hm
        show H _ (cutting_start_k4_S a1 a2 a3 a4 x5 x6 x22 x24) _ _
        refine q_cn x24 (fun b25 => ?_) (fun b25 => ?_)
        ·replace hm := bif_t b25 hm
         refine q_vu [] 4 [13, 89] [] [2, 3] [(2, bx 164 (e_Cutting_choice x22))] ?_
         exact q_J (x22) hm
        ·replace hm := bif_f b25 hm
         refine q_sk ?_
         exact q_J (x6) hm
       ·rcases Bool.eq_false_or_eq_true ((x6.piece.Size == (-1)) && ((x6.piece.At == (-1)) && true)) with b23 | b23
        ·replace hm := bif_t b23 hm
         refine q_vu [qf 4 b23] 4 [] [(89, vb true)] [] [] ?_
         exact q_J (true) hm
        ·replace hm := bif_f b23 hm
         refine q_vu [qf 4 b23] 4 [] [(84, vp 3 2), (85, vi x22.value), (86, vp 2 2), (87, vi x6.value), (88, vb (decide (x22.value > x6.value))), (89, vb (decide (x22.value > x6.value)))] [] [] ?_
         exact q_J (decide (x22.value > x6.value)) hm
      ·refine q_sq ?_
       obtain ⟨v16, h17, hm⟩ := bind_s hm
       refine q_vu [qc 2 [55, 56] 4 (cutting_behind_ok a1 (w64 (a2 + (a1.Sizes.getD x5.toNat default))) v16 h17)] 4 [] [(14, vi v16)] [] [] ?_
       refine q_sq ?_
       refine q_vu [] 4 [] [(59, vb (decide (v16 ≥ 0)))] [] [] ?_
       refine q_cn (decide (v16 ≥ 0)) (fun b18 => ?_) (fun b18 => ?_)
       ·replace hm := bif_t b18 hm
        obtain ⟨g19, hm⟩ := bif_n hm
        obtain ⟨g20, hm⟩ := bif_n hm
        obtain ⟨g21, hm⟩ := bif_n hm
        refine q_du [qd 4 (Dir.none) (inb_of g19), qd 8 (Dir.none) (inb_of g20), qd 13 (Dir.none) (inb_of g21)] [0, 1, 0, 0, 12, 28, 0, 0, 192, 448, 1020, 0, 0, 6144, 14336, 30720, 65532, 131071, 262143, 524287] 4 [12, 14, 59] [] [3] [(3, bx 164 [ci x5, ci a2, ci (w64 (((a1.Gain.getD x5.toNat default).getD a2.toNat default) + (w64 ((w64 ((a3.getD v16.toNat default) - (a3.getD (w64 (a2 + (a1.Sizes.getD x5.toNat default))).toNat default))) + ((a4.getD v16.toNat default).value)))))])] ?_
        exact q_J ((Cutting_choice.mk (Piece.mk x5 a2) (w64 (((a1.Gain.getD x5.toNat default).getD a2.toNat default) + (w64 ((w64 ((a3.getD v16.toNat default) - (a3.getD (w64 (a2 + (a1.Sizes.getD x5.toNat default))).toNat default))) + ((a4.getD v16.toNat default).value))))))) hm
       ·replace hm := bif_f b18 hm
        refine q_sk ?_
        exact q_J ((Cutting_choice.mk (Piece.mk x5 a2) ((a1.Gain.getD x5.toNat default).getD a2.toNat default))) hm
    ·rcases Bool.eq_false_or_eq_true (decide ((w64 (a2 + (a1.Sizes.getD x5.toNat default))) > a1.Len)) with b9 | b9
     ·replace hm := bif_t b9 hm
      refine q_vu [qf 4 b9] 3 [] [(42, vb true)] [] [] ?_
      exact q_J (true) hm
     ·replace hm := bif_f b9 hm
      obtain ⟨g10, hm⟩ := bif_n hm
      obtain ⟨g11, hm⟩ := bif_n hm
      refine q_vu [qf 4 b9, qd 8 (Dir.none) (inb_of g10), qd 11 (Dir.none) (inb_of g11)] 3 [] [(33, vp 0 4), (34, vc (tl (e_lst e_i64) default a1.Gain)), (35, vi x5), (36, vc (.lptr ((e_lst e_i64) (a1.Gain.getD x5.toNat default)))), (37, vc (tl e_i64 default (a1.Gain.getD x5.toNat default))), (38, vi a2), (39, vc (.lptr (e_i64 ((a1.Gain.getD x5.toNat default).getD a2.toNat default)))), (40, vi ((a1.Gain.getD x5.toNat default).getD a2.toNat default)), (41, vb (decide (((a1.Gain.getD x5.toNat default).getD a2.toNat default) < 0))), (42, vb (decide (((a1.Gain.getD x5.toNat default).getD a2.toNat default) < 0)))] [] [] ?_
      exact q_J (decide (((a1.Gain.getD x5.toNat default).getD a2.toNat default) < 0)) hm
  ·replace hm := bif_f b7 hm
   refine q_ex 0 ?_
   obtain rfl := Option.some.inj hm
   exact L0_mk (by kernel_rfl) (by kernel_rfl)

set_option maxRecDepth 100000 in
theorem cutting_start_ok (a1 : Line) (a2 : Int) (a3 : List Int) (a4 : List Cutting_choice) (r : Cutting_choice) (hm : cutting_start a1 a2 a3 a4 = some r) : CtX Tryd.prog globs 108 0 0 [.agg (e_Line a1), .one (ci a2), .one (tl e_i64 default a3), .one (tl e_Cutting_choice default a4)] [] (cutting_start_x r) (cutting_start_o r) := by
 unfold cutting_start at hm
 refine q_E Tryd.f108 93 fun E => ?_
 refine q_sq ?_
 refine q_vn [] 0 ⟨[(1, vi a2), (2, vc (tl e_i64 default a3)), (3, vc (tl e_Cutting_choice default a4)), (4, vp 0 0), (8, vp 1 0)], [(0, bx 64 (e_Line a1)), (1, bx 164 [ci 0, ci 0, ci 0])]⟩ ?_
 refine q_sq ?_
 refine q_vu [] 2 [] [(9, vp 2 0)] [] [(2, bx 164 [ci (-1), ci (-1), ci 0])] ?_
 refine q_sq ?_
 refine q_sq ?_
 refine q_vu [] 3 [] [(18, vc (tl e_i64 default a1.Sizes)), (19, vi ((a1.Sizes.length : Nat) : Int)), (20, vi 0)] [] [] ?_
 obtain ⟨o28, h29, hm⟩ := bind_s hm
 refine R_loop0 (nd Tryd.f108 116) 0 (by kernel_rfl) FUEL (fun o => cutting_start_L1_T o) o28 (q_hl (cutting_start_L1_S a1 a2 a3 a4 0 (Cutting_choice.mk (Piece.mk (-1) (-1)) 0)) (cutting_start_L1_ok E a1 a2 a3 a4 FUEL 0 (Cutting_choice.mk (Piece.mk (-1) (-1)) 0) o28 h29)) ?_
 refine q_sq ?_
 refine q_vu [] 3 [9] [] [1, 2] [(1, bx 164 (e_Cutting_choice o28))] ?_
 obtain rfl := Option.some.inj hm
 refine q_rt ?_
 exact q_rm

end Saw
end Go.SL

namespace Go.SL
namespace Saw
open Go.Proofs
set_option maxHeartbeats 4000000

def cutting_sums_x (r : (List Int)) : V := vo 0 0 1 r.length

def cutting_sums_o (r : (List Int)) : List (Nat × (Nat × O)) := [(0, ro 0 3 1 r.length (rf e_i64 r))]

theorem cutting_sums_f (r : (List Int)) : Frozen (cutting_sums_o r) := by
 intro i k o h
 unfold cutting_sums_o at h
 rw [look_cons] at h
 split at h
 ·cases h; exact fun _ _ => rfl
 ·cases h

def cutting_sums_L1_S (a1 : List Int) (l3 : List Int) (l3n : Nat) (x4 : Int) : St :=
 ⟨[(3, vo 0 0 1 l3n), (10, vc (tl e_i64 default a1)), (11, vi ((a1.length : Nat) : Int)), (12, vi x4)], [(0, ro 0 3 1 l3n (rf e_i64 l3))]⟩

def cutting_sums_L1_T (l9 : List Int) : St :=
 ⟨[(3, vo 0 0 1 l9.length)], [(0, ro 0 3 1 l9.length (rf e_i64 l9))]⟩

set_option maxRecDepth 100000 in
theorem cutting_sums_L1_ok (E : Env 0) (a1 : List Int) : ∀ (n : Nat) (l3 : List Int) (l3n : Nat) (x4 : Int) (res : (List Int)), l3.length = l3n → cutting_sums_L1 a1 n l3 x4 = some res → HL (kx E 29 0) (nd Tryd.f107 116) (loopQ0 0 (fun o => cutting_sums_L1_T o) res) n (cutting_sums_L1_S a1 l3 l3n x4) := by
 intro n
 induction n with
 | zero =>
  intro l3 l3n x4 res hl0 hm
  cases hm
 | succ n ih =>
  intro l3 l3n x4 res hl0 hm
  subst hl0
  refine HL_succ ?_
  refine q_sq ?_
  refine q_vu [] 1 [] [(13, vb (decide (x4 < ((a1.length : Nat) : Int))))] [] [] ?_
  refine q_sq ?_
  refine q_cn (decide (x4 < ((a1.length : Nat) : Int))) (fun b5 => ?_) (fun b5 => ?_)
  ·replace hm := bif_t b5 hm
   refine q_sk ?_
   refine q_sq ?_
   refine q_bk 1 ?_
   refine q_sq ?_
   obtain ⟨g6, hm⟩ := bif_n hm
   refine q_vu [qd 1 (Dir.none) (inb_of g6)] 1 [13] [(4, vi x4), (5, vi (a1.getD x4.toNat default))] [] [] ?_
   obtain ⟨g7, hm⟩ := bif_n hm
   obtain ⟨g8, hm⟩ := bif_n hm
   refine q_vu [qd 5 (Dir.none) (inb_of g7), qd 6 (Dir.none) (toNat_lt (inb_of g7)), qd 9 (Dir.none) (inb_of g8), qd 10 (drw 0 0 (rf e_i64 (l3.set ((w64 (x4 + 1)).toNat) (w64 ((l3.getD x4.toNat default) + (a1.getD x4.toNat default)))))) (stP e_i64 default (w64 ((l3.getD x4.toNat default) + (a1.getD x4.toNat default))) l3 l3.length ((w64 (x4 + 1)).toNat) 0 [ci (w64 ((l3.getD x4.toNat default) + (a1.getD x4.toNat default)))] rfl (toNat_lt (inb_of g8)) rfl)] 1 [4, 5] [] [0] [(0, ro 0 3 1 l3.length (rf e_i64 (l3.set ((w64 (x4 + 1)).toNat) (w64 ((l3.getD x4.toNat default) + (a1.getD x4.toNat default))))))] ?_
   refine q_vu [] 1 [12] [(12, vi (w64 (x4 + 1)))] [] [] ?_
   exact q_hl (cutting_sums_L1_S a1 (l3.set ((w64 (x4 + 1)).toNat) (w64 ((l3.getD x4.toNat default) + (a1.getD x4.toNat default)))) l3.length (w64 (x4 + 1))) (ih (l3.set ((w64 (x4 + 1)).toNat) (w64 ((l3.getD x4.toNat default) + (a1.getD x4.toNat default)))) l3.length (w64 (x4 + 1)) _ (len_set rfl) hm)
  ·replace hm := bif_f b5 hm
   refine q_ex 0 ?_
   obtain rfl := Option.some.inj hm
   exact L0_mk (by kernel_rfl) (by kernel_rfl)

set_option maxRecDepth 100000 in
theorem cutting_sums_ok (a1 : List Int) (r : (List Int)) (hm : cutting_sums a1 = some r) : CtX Tryd.prog globs 107 0 0 [.one (tl e_i64 default a1)] [] (cutting_sums_x r) (cutting_sums_o r) := by
 unfold cutting_sums at hm
 refine q_E Tryd.f107 29 fun E => ?_
 refine q_sq ?_
 refine q_vn [] 0 ⟨[(0, vc (tl e_i64 default a1))], []⟩ ?_
 refine q_sq ?_
 obtain ⟨g2, hm⟩ := bif_n hm
 refine q_vu [qd 3 (drw 0 0 (rf e_i64 (List.replicate ((w64 (((a1.length : Nat) : Int) + 1)).toNat) 0))) (mkP e_i64 default 0 (w64 (((a1.length : Nat) : Int) + 1)) 8 [ci 0] (mkOk_of g2) rfl)] 0 [] [(3, vo 0 0 1 ((w64 (((a1.length : Nat) : Int) + 1)).toNat))] [] [(0, ro 0 3 1 ((w64 (((a1.length : Nat) : Int) + 1)).toNat) (rf e_i64 (List.replicate ((w64 (((a1.length : Nat) : Int) + 1)).toNat) 0)))] ?_
 refine q_sq ?_
 refine q_sq ?_
 refine q_vu [] 1 [0] [(10, vc (tl e_i64 default a1)), (11, vi ((a1.length : Nat) : Int)), (12, vi 0)] [] [] ?_
 obtain ⟨o10, h11, hm⟩ := bind_s hm
 refine R_loop0 (nd Tryd.f107 116) 0 (by kernel_rfl) FUEL (fun o => cutting_sums_L1_T o) o10 (q_hl (cutting_sums_L1_S a1 (List.replicate ((w64 (((a1.length : Nat) : Int) + 1)).toNat) 0) ((w64 (((a1.length : Nat) : Int) + 1)).toNat) 0) (cutting_sums_L1_ok E a1 FUEL (List.replicate ((w64 (((a1.length : Nat) : Int) + 1)).toNat) 0) ((w64 (((a1.length : Nat) : Int) + 1)).toNat) 0 o10 len_rep h11)) ?_
 refine q_sq ?_
 refine q_vu [] 1 [3] [(2, vo 0 0 1 o10.length)] [] [] ?_
 obtain rfl := Option.some.inj hm
 refine q_rt ?_
 exact q_rm

end Saw
end Go.SL
