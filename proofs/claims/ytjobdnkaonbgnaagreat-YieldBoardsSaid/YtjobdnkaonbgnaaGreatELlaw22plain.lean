import Derived.Test.YtjobdnkaonbgnaaGreatEBase
set_option linter.unusedVariables false
set_option linter.unusedSimpArgs false
namespace Go.SL
namespace Saw
open Go.Proofs
set_option maxHeartbeats 4000000
set_option maxRecDepth 100000
def LQ (r : (List Ref22_Cut)) : V := vo 0 0 9 r.length
def XY (r : (List Ref22_Cut)) : List (Nat × (Nat × O)) := [(0, ro 0 81 9 r.length (rf qS r))]
theorem OS (r : (List Ref22_Cut)) : KW (XY r) := by
 intro i k o h
 unfold XY at h
 rw [look_cons] at h
 split at h
 ·cases h; exact fun _ _ => rfl
 ·cases h
def MM (a1 : List Yield_Cut) (l2 : List Ref22_Cut) (l2n : Nat) (x3 : Int) : St :=
 ⟨[(0, vc (tl qO default a1)), (3, vo 0 0 9 l2n), (4, vi x3)], [(0, ro 0 81 9 l2n (rf qS l2))]⟩
def qA5 (l7 : List Ref22_Cut) : St :=
 ⟨[(3, vo 0 0 9 l7.length)], [(0, ro 0 81 9 l7.length (rf qS l7))]⟩
theorem qFz (E : Env 0) (a1 : List Yield_Cut) : ∀ (n : Nat) (l2 : List Ref22_Cut) (l2n : Nat) (x3 : Int) (res : (List Ref22_Cut)), l2.length = l2n → YG a1 n l2 x3 = some res → HL (kx E 19 0) (nd Tryz.f10 116) (wE 0 (fun o => qA5 o) res) n (MM a1 l2 l2n x3) := by
 intro n
 induction n with
 | zero =>
  intro l2 l2n x3 res hl0 hm
  cases hm
 | succ n ih =>
  intro l2 l2n x3 res hl0 hm
  subst hl0
  refine qR ?_
  refine q_sq ?_
  refine q_sq ?_
  refine q_vu [] 1 [] [(8, vb (decide (x3 < ((a1.length : Nat) : Int))))] [] [] ?_
  refine q_cn (decide (x3 < ((a1.length : Nat) : Int))) (fun b4 => ?_) (fun b4 => ?_)
  ·replace hm := qC b4 hm
   refine q_sk ?_
   refine q_sq ?_
   refine q_bk 1 ?_
   obtain ⟨g5, hm⟩ := qL hm
   obtain ⟨g6, hm⟩ := qL hm
   refine q_vu [qd 3 (Dir.none) (inb_of g5), qd 5 (drw 1 0 (rf qS ([(Ref22_Cut.mk ((a1.getD x3.toNat default).Leaf) ((a1.getD x3.toNat default).Product) ((a1.getD x3.toNat default).Box) ((a1.getD x3.toNat default).Worth))] : List Ref22_Cut))) (litP qS default 9 (fun _ => rfl) ([(Ref22_Cut.mk ((a1.getD x3.toNat default).Leaf) ((a1.getD x3.toNat default).Product) ((a1.getD x3.toNat default).Box) ((a1.getD x3.toNat default).Worth))] : List Ref22_Cut) 1 rfl), qd 6 (drw 0 1 (rf qS (l2 ++ ([(Ref22_Cut.mk ((a1.getD x3.toNat default).Leaf) ((a1.getD x3.toNat default).Product) ((a1.getD x3.toNat default).Box) ((a1.getD x3.toNat default).Worth))] : List Ref22_Cut)))) (apP qS default l2 ([(Ref22_Cut.mk ((a1.getD x3.toNat default).Leaf) ((a1.getD x3.toNat default).Product) ((a1.getD x3.toNat default).Box) ((a1.getD x3.toNat default).Worth))] : List Ref22_Cut) l2.length 1 9 72 (1 ≤ 1) (Nat.le_refl _) rfl rfl (fun _ => rfl) (wL g6))] 1 [3, 8] [(3, vo 0 1 9 (l2.length + 1))] [0] [(0, ro 1 81 9 (l2.length + 1) (rf qS (l2 ++ ([(Ref22_Cut.mk ((a1.getD x3.toNat default).Leaf) ((a1.getD x3.toNat default).Product) ((a1.getD x3.toNat default).Box) ((a1.getD x3.toNat default).Worth))] : List Ref22_Cut))))] ?_
   refine q_vu [] 2 [4] [(4, vi (w64 (x3 + 1)))] [] [] ?_
   exact q_hl (MM a1 (l2 ++ ([(Ref22_Cut.mk ((a1.getD x3.toNat default).Leaf) ((a1.getD x3.toNat default).Product) ((a1.getD x3.toNat default).Box) ((a1.getD x3.toNat default).Worth))] : List Ref22_Cut)) (l2.length + 1) (w64 (x3 + 1))) (ih (l2 ++ ([(Ref22_Cut.mk ((a1.getD x3.toNat default).Leaf) ((a1.getD x3.toNat default).Product) ((a1.getD x3.toNat default).Box) ((a1.getD x3.toNat default).Worth))] : List Ref22_Cut)) (l2.length + 1) (w64 (x3 + 1)) _ (len_app rfl rfl) hm)
  ·replace hm := qB b4 hm
   refine q_ex 0 ?_
   obtain rfl := Option.some.inj hm
   exact jL (by kernel_rfl) (by kernel_rfl)
theorem AA (a1 : List Yield_Cut) (r : (List Ref22_Cut)) (hm : FT a1 = some r) : CtX Tryz.prog globs 10 0 0 [.one (tl qO default a1)] [] (LQ r) (XY r) := by
 unfold FT at hm
 refine q_E Tryz.f10 19 fun E => ?_
 refine q_sq ?_
 refine q_vn [] 0 ⟨[(0, vc (tl qO default a1))], []⟩ ?_
 refine q_sq ?_
 refine q_vu [] 0 [] [(3, vc (.emp))] [] [] ?_
 refine q_sq ?_
 refine q_sq ?_
 refine q_vu [] 0 [] [(4, vi 0)] [] [] ?_
 refine q_fn [.own 3 0 81 9 (rf qS ([] : List Ref22_Cut))] ⟨[(0, vc (tl qO default a1)), (3, vo 0 0 9 0), (4, vi 0)], [(0, ro 0 81 9 0 (rf qS ([] : List Ref22_Cut)))]⟩ o0 ?_
 obtain ⟨o8, h9, hm⟩ := qD hm
 refine zX (nd Tryz.f10 116) 0 (by kernel_rfl) FUEL (fun o => qA5 o) o8 (q_hl (MM a1 ([] : List Ref22_Cut) 0 0) (qFz E a1 FUEL ([] : List Ref22_Cut) 0 0 o8 rfl h9)) ?_
 refine q_sq ?_
 refine q_vu [] 1 [3] [(2, vo 0 0 9 o8.length)] [] [] ?_
 obtain rfl := Option.some.inj hm
 refine q_rt ?_
 exact q_rm
end Saw
end Go.SL
