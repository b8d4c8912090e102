import Derived.Test.YtjobdnkaonbgnaaEBase
import Derived.Test.YtjobdnkaonbgnaaEFa8
set_option linter.unusedVariables false
set_option linter.unusedSimpArgs false
namespace Go.SL
namespace Saw
open Go.Proofs
set_option maxHeartbeats 4000000
set_option maxRecDepth 100000
def qCC (r : (List Product)) : V := vo 0 0 7 r.length
def qCr (r : (List Product)) : List (Nat × (Nat × O)) := [(0, ro 0 71 7 r.length (rf qE r))]
theorem qBA (r : (List Product)) (hm : MS = some r) : CtX Try.prog globs 36 0 0 [] [] (qCC r) (qCr r) := by
 unfold MS at hm
 refine q_E Try.f36 5 fun E => ?_
 refine q_sq ?_
 refine q_vn [] 0 ⟨[], []⟩ ?_
 refine q_sq ?_
 refine q_vn [qd 0 (drw 0 0 (rf qL ([2000] : List Int))) (litP qL default 1 (fun _ => rfl) ([2000] : List Int) 1 rfl), qd 1 (drw 1 0 (rf qL ([70] : List Int))) (litP qL default 1 (fun _ => rfl) ([70] : List Int) 1 rfl), qd 3 (dpr [.len 0 (([2000] : List Int).length), .frz 0, .len 1 (([70] : List Int).length), .frz 1] (drw 2 0 (rf qE ([(Product.mk (ByteArray.mk #[112, 108, 97, 110, 107]) 40 100 50 0 ([2000] : List Int) ([70] : List Int))] : List Product)))) (And.intro (And.intro (And.intro (show 1 = ([2000] : List Int).length from rfl) (show 1 = ([2000] : List Int).length from rfl)) (show 1 = ([2000] : List Int).length from rfl)) (And.intro (And.intro (Nat.le_refl (([2000] : List Int).length)) (Nat.le_refl (([2000] : List Int).length))) (And.intro (And.intro (And.intro (show 1 = ([70] : List Int).length from rfl) (show 1 = ([70] : List Int).length from rfl)) (show 1 = ([70] : List Int).length from rfl)) (And.intro (Nat.le_refl (([70] : List Int).length)) (Nat.le_refl (([70] : List Int).length)))))), qd 3 (Dir.none) (litP qE default 7 (fun _ => rfl) ([(Product.mk (ByteArray.mk #[112, 108, 97, 110, 107]) 40 100 50 0 ([2000] : List Int) ([70] : List Int))] : List Product) 1 rfl)] 0 ⟨[(0, vo 2 0 7 1)], [(2, ro 0 71 7 1 (rf qE ([(Product.mk (ByteArray.mk #[112, 108, 97, 110, 107]) 40 100 50 0 ([2000] : List Int) ([70] : List Int))] : List Product)))]⟩ ?_
 refine q_fn [.len 2 (([(Product.mk (ByteArray.mk #[112, 108, 97, 110, 107]) 40 100 50 0 ([2000] : List Int) ([70] : List Int))] : List Product).length)] ⟨[(0, vo 2 0 7 (([(Product.mk (ByteArray.mk #[112, 108, 97, 110, 107]) 40 100 50 0 ([2000] : List Int) ([70] : List Int))] : List Product).length))], [(2, ro 0 71 7 (([(Product.mk (ByteArray.mk #[112, 108, 97, 110, 107]) 40 100 50 0 ([2000] : List Int) ([70] : List Int))] : List Product).length) (rf qE ([(Product.mk (ByteArray.mk #[112, 108, 97, 110, 107]) 40 100 50 0 ([2000] : List Int) ([70] : List Int))] : List Product)))]⟩ (o1 (And.intro (show 1 = ([(Product.mk (ByteArray.mk #[112, 108, 97, 110, 107]) 40 100 50 0 ([2000] : List Int) ([70] : List Int))] : List Product).length from rfl) (show 1 = ([(Product.mk (ByteArray.mk #[112, 108, 97, 110, 107]) 40 100 50 0 ([2000] : List Int) ([70] : List Int))] : List Product).length from rfl))) ?_
 obtain rfl := Option.some.inj hm
 refine wB 2 0 (by kernel_rfl) ?_
 refine q_rt ?_
 exact q_rm
def SC (r : Yield × Int) : V := .tup [.agg (qH r.1), .one (ci r.2)]
def UC (r : Yield × Int) : List (Nat × (Nat × O)) := []
theorem qAq (r : Yield × Int) : XE (UC r) := by
 intro i k o h
 unfold UC at h
 cases h
theorem law22_of_ok (a1 : Law22_Given) (r : Yield × Int) (hm : SG a1 = some r) : CtX Try.prog globs 10 0 0 [.agg (WT a1)] [] (SC r) (UC r) := by
 unfold SG at hm
 refine q_E Try.f10 19 fun E => ?_
 refine q_sq ?_
 refine q_vn [] 0 ⟨[(1, vp 0 0), (2, vp 1 0)], [(0, bx 37 (WT a1)), (1, bx 41 [ci 0, ci 0, ci 0, ci 0, ci 0])]⟩ ?_
 refine q_sq ?_
 obtain ⟨v2, h3, hm⟩ := qC hm
 refine q_vu [qc 12 [5, 7, 9, 11, 13, 15] 2 (qDX a1.Solid a1.Defects a1.Products a1.Pattern a1.Saw a1.Rates v2 h3)] 2 [1] [(3, vi v2.2)] [0, 1] [(1, bx 41 (qH v2.1))] ?_
 obtain rfl := Option.some.inj hm
 refine q_rt ?_
 exact q_rm
set_option maxRecDepth 100000
def HE (r : (List Yield_Cut) × Int) : V := .tup [.one (.own 0 0 9 r.1.length), .one (ci r.2)]
def XW (r : (List Yield_Cut) × Int) : List (Nat × (Nat × O)) := [(0, ro 0 54 9 r.1.length (rf qN r.1))]
theorem qBK (r : (List Yield_Cut) × Int) : XE (XW r) := by
 intro i k o h
 unfold XW at h
 rw [look_cons] at h
 split at h
 ·cases h; exact fun _ _ => rfl
 ·cases h
theorem law22_boards_ok (a1 : Law22_Given) (r : (List Yield_Cut) × Int) (hm : NX a1 = some r) : CtX Try.prog globs 11 0 0 [.agg (WT a1)] [] (HE r) (XW r) := by
 unfold NX at hm
 refine q_E Try.f11 20 fun E => ?_
 refine q_sq ?_
 refine q_vn [] 0 ⟨[(1, vp 0 0)], [(0, bx 37 (WT a1))]⟩ ?_
 refine q_sq ?_
 obtain ⟨v2, h3, hm⟩ := qC hm
 refine q_vn [qc 13 [5, 7, 9, 11, 13, 16] 1 (ME a1.Solid a1.Defects a1.Products a1.Pattern a1.Saw a1.Rates.Fine v2 h3)] 1 ⟨[(2, vo 1 0 9 v2.1.length), (3, vi v2.2)], [(1, ro 0 54 9 v2.1.length (rf qN v2.1))]⟩ ?_
 obtain rfl := Option.some.inj hm
 refine wB 1 0 (by kernel_rfl) ?_
 refine q_rt ?_
 exact q_rm
end Saw
end Go.SL
