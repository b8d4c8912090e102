import Derived.Test.YtjobdnkaonbgnaaGreatEBase
import Derived.Test.YtjobdnkaonbgnaaGreatEFa6
set_option linter.unusedVariables false
set_option linter.unusedSimpArgs false
namespace Go.SL
namespace Saw
open Go.Proofs
set_option maxHeartbeats 4000000
set_option maxRecDepth 100000
def qLH (r : (List Product)) : V := vo 0 0 7 r.length
def qK7 (r : (List Product)) : List (Nat × (Nat × O)) := [(0, ro 0 62 7 r.length (rf qA r))]
theorem qJb (r : (List Product)) (hm : qC0 = some r) : CtX Tryz.prog globs 28 0 0 [] [] (qLH r) (qK7 r) := by
 unfold qC0 at hm
 refine q_E Tryz.f28 5 fun E => ?_
 refine s_vn [] 0 ⟨[], []⟩ ?_
 refine s_vn [qd 0 (drw 0 0 (rf qO ([2000] : List Int))) (litP qO default 1 (fun _ => rfl) ([2000] : List Int) 1 rfl), qd 1 (drw 1 0 (rf qO ([70] : List Int))) (litP qO default 1 (fun _ => rfl) ([70] : List Int) 1 rfl), qd 3 (dpr [.len 0 (([2000] : List Int).length), .frz 0, .len 1 (([70] : List Int).length), .frz 1] (drw 2 0 (rf qA ([(Product.mk (ByteArray.mk #[112, 108, 97, 110, 107]) 40 100 50 0 ([2000] : List Int) ([70] : List Int))] : List Product)))) (And.intro (And.intro (And.intro (show 1 = ([2000] : List Int).length from rfl) (show 1 = ([2000] : List Int).length from rfl)) (show 1 = ([2000] : List Int).length from rfl)) (And.intro (And.intro (Nat.le_refl (([2000] : List Int).length)) (Nat.le_refl (([2000] : List Int).length))) (And.intro (And.intro (And.intro (show 1 = ([70] : List Int).length from rfl) (show 1 = ([70] : List Int).length from rfl)) (show 1 = ([70] : List Int).length from rfl)) (And.intro (Nat.le_refl (([70] : List Int).length)) (Nat.le_refl (([70] : List Int).length)))))), qd 3 (Dir.none) (litP qA default 7 (fun _ => rfl) ([(Product.mk (ByteArray.mk #[112, 108, 97, 110, 107]) 40 100 50 0 ([2000] : List Int) ([70] : List Int))] : List Product) 1 rfl)] 0 ⟨[(0, vo 2 0 7 1)], [(2, ro 0 62 7 1 (rf qA ([(Product.mk (ByteArray.mk #[112, 108, 97, 110, 107]) 40 100 50 0 ([2000] : List Int) ([70] : List Int))] : List Product)))]⟩ ?_
 refine q_fn [.len 2 (([(Product.mk (ByteArray.mk #[112, 108, 97, 110, 107]) 40 100 50 0 ([2000] : List Int) ([70] : List Int))] : List Product).length)] ⟨[(0, vo 2 0 7 (([(Product.mk (ByteArray.mk #[112, 108, 97, 110, 107]) 40 100 50 0 ([2000] : List Int) ([70] : List Int))] : List Product).length))], [(2, ro 0 62 7 (([(Product.mk (ByteArray.mk #[112, 108, 97, 110, 107]) 40 100 50 0 ([2000] : List Int) ([70] : List Int))] : List Product).length) (rf qA ([(Product.mk (ByteArray.mk #[112, 108, 97, 110, 107]) 40 100 50 0 ([2000] : List Int) ([70] : List Int))] : List Product)))]⟩ (o1 (And.intro (show 1 = ([(Product.mk (ByteArray.mk #[112, 108, 97, 110, 107]) 40 100 50 0 ([2000] : List Int) ([70] : List Int))] : List Product).length from rfl) (show 1 = ([(Product.mk (ByteArray.mk #[112, 108, 97, 110, 107]) 40 100 50 0 ([2000] : List Int) ([70] : List Int))] : List Product).length from rfl))) ?_
 obtain rfl := oi hm
 refine qS 2 0 (by kernel_rfl) ?_
 refine q_rt ?_
 exact q_rm
def qD6 (r : Yield × Int) : V := .tup [.agg (wG r.1), .one (ci r.2)]
def EF (r : Yield × Int) : List (Nat × (Nat × O)) := []
theorem qHr (r : Yield × Int) : VB (EF r) := by
 intro i k o h
 unfold EF at h
 cases h
theorem law22_of_ok (a1 : Law22_Given) (r : Yield × Int) (hm : BA a1 = some r) : CtX Tryz.prog globs 11 0 0 [.agg (qX a1)] [] (qD6 r) (EF r) := by
 unfold BA at hm
 refine q_E Tryz.f11 19 fun E => ?_
 refine s_vn [] 0 ⟨[(1, vp 0 0), (2, vp 1 0)], [(0, bx 37 (qX a1)), (1, bx 50 [ci 0, ci 0, ci 0, ci 0, ci 0])]⟩ ?_
 obtain ⟨v2, h3, hm⟩ := qD hm
 refine s_vu [qc 12 [5, 7, 9, 11, 13, 15] 2 (qNE a1.Solid a1.Defects a1.Products a1.Pattern a1.Saw a1.Rates v2 h3)] 2 [1] [(3, vi v2.2)] [0, 1] [(1, bx 50 (wG v2.1))] ?_
 obtain rfl := oi hm
 refine q_rt ?_
 exact q_rm
def qDr (r : (List Yield_Cut) × Int) : V := .tup [.one (.own 0 0 9 r.1.length), .one (ci r.2)]
def NR (r : (List Yield_Cut) × Int) : List (Nat × (Nat × O)) := [(0, ro 0 69 9 r.1.length (rf qR r.1))]
theorem qJX (r : (List Yield_Cut) × Int) : VB (NR r) := by
 intro i k o h
 unfold NR at h
 rw [look_cons] at h
 split at h
 ·cases h; exact fun _ _ => rfl
 ·cases h
theorem law22_boards_ok (a1 : Law22_Given) (r : (List Yield_Cut) × Int) (hm : qBk a1 = some r) : CtX Tryz.prog globs 7 0 0 [.agg (qX a1)] [] (qDr r) (NR r) := by
 unfold qBk at hm
 refine q_E Tryz.f7 20 fun E => ?_
 refine s_vn [] 0 ⟨[(1, vp 0 0)], [(0, bx 37 (qX a1))]⟩ ?_
 obtain ⟨v2, h3, hm⟩ := qD hm
 refine s_vn [qc 13 [5, 7, 9, 11, 13, 16] 1 (qCn a1.Solid a1.Defects a1.Products a1.Pattern a1.Saw a1.Rates.Fine v2 h3)] 1 ⟨[(2, vo 1 0 9 v2.1.length), (3, vi v2.2)], [(1, ro 0 69 9 v2.1.length (rf qR v2.1))]⟩ ?_
 obtain rfl := oi hm
 refine qS 1 0 (by kernel_rfl) ?_
 refine q_rt ?_
 exact q_rm
end Saw
end Go.SL
