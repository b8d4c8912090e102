import Derived.Test.YtjobdnkaonbgnaaEBase
import Derived.Test.YtjobdnkaonbgnaaEFa7
import Derived.Test.YtjobdnkaonbgnaaEFa6
set_option linter.unusedVariables false
set_option linter.unusedSimpArgs false
namespace Go.SL
namespace Saw
open Go.Proofs
set_option maxHeartbeats 4000000
set_option maxRecDepth 100000
def qFW (r : Bool) : V := vb r
def qFU (r : Bool) : List (Nat × (Nat × O)) := []
def SY (x8 : Bool) : St :=
 ⟨[(4, vb x8)], []⟩
theorem qEs (a1 : Box) (a2 : Box) (r : Bool) (hm : GG a1 a2 = some r) : CtX Try.prog globs 16 0 0 [.agg (wT a1), .agg (wT a2)] [] (qFW r) (qFU r) := by
 unfold GG at hm
 refine q_E Try.f16 57 fun E => ?_
 refine q_sq ?_
 refine q_vn [] 0 ⟨[(2, vp 0 0), (3, vp 1 0)], [(0, bx 52 (wT a1)), (1, bx 52 (wT a2))]⟩ ?_
 refine q_jn (ι := Bool) (fun p => SY p) (fun p => jZ p = some r) ?_ ?_
 ·rintro x8 hm
  show H _ (SY x8) _ _
  obtain rfl := Option.some.inj hm
  refine q_rt ?_
  exact q_rm
 ·rcases Bool.eq_false_or_eq_true (decide (a1.X.B ≤ a2.X.A)) with b3 | b3
  ·replace hm := qA b3 hm
   refine q_vn [qf 7 b3] 2 ⟨[(4, vb true)], []⟩ ?_
   exact q_J (true) hm
  ·replace hm := qB b3 hm
   rcases Bool.eq_false_or_eq_true (decide (a2.X.B ≤ a1.X.A)) with b4 | b4
   ·replace hm := qA b4 hm
    refine q_vn [qf 7 b3, qf 16 b4] 2 ⟨[(4, vb true)], []⟩ ?_
    exact q_J (true) hm
   ·replace hm := qB b4 hm
    rcases Bool.eq_false_or_eq_true (decide (a1.Y.B ≤ a2.Y.A)) with b5 | b5
    ·replace hm := qA b5 hm
     refine q_vn [qf 7 b3, qf 16 b4, qf 25 b5] 2 ⟨[(4, vb true)], []⟩ ?_
     exact q_J (true) hm
    ·replace hm := qB b5 hm
     rcases Bool.eq_false_or_eq_true (decide (a2.Y.B ≤ a1.Y.A)) with b6 | b6
     ·replace hm := qA b6 hm
      refine q_vn [qf 7 b3, qf 16 b4, qf 25 b5, qf 34 b6] 2 ⟨[(4, vb true)], []⟩ ?_
      exact q_J (true) hm
     ·replace hm := qB b6 hm
      rcases Bool.eq_false_or_eq_true (decide (a1.Z.B ≤ a2.Z.A)) with b7 | b7
      ·replace hm := qA b7 hm
       refine q_vn [qf 7 b3, qf 16 b4, qf 25 b5, qf 34 b6, qf 43 b7] 2 ⟨[(4, vb true)], []⟩ ?_
       exact q_J (true) hm
      ·replace hm := qB b7 hm
       refine q_vn [qf 7 b3, qf 16 b4, qf 25 b5, qf 34 b6, qf 43 b7] 2 ⟨[(4, vb (decide (a2.Z.B ≤ a1.Z.A)))], []⟩ ?_
       exact q_J (decide (a2.Z.B ≤ a1.Z.A)) hm
def qFR (r : (List Product)) : V := vo 0 0 7 r.length
def qFN (r : (List Product)) : List (Nat × (Nat × O)) := [(0, ro 0 71 7 r.length (rf qE r))]
theorem qER (r : (List Product)) (hm : IH = some r) : CtX Try.prog globs 36 0 0 [] [] (qFR r) (qFN r) := by
 unfold IH at hm
 refine q_E Try.f36 5 fun E => ?_
 refine q_sq ?_
 refine q_vn [] 0 ⟨[], []⟩ ?_
 refine q_sq ?_
 refine q_vn [qd 0 (drw 0 0 (rf qM ([2000] : List Int))) (litP qM default 1 (fun _ => rfl) ([2000] : List Int) 1 rfl), qd 1 (drw 1 0 (rf qM ([70] : List Int))) (litP qM default 1 (fun _ => rfl) ([70] : List Int) 1 rfl), qd 3 (dpr [.len 0 (([2000] : List Int).length), .frz 0, .len 1 (([70] : List Int).length), .frz 1] (drw 2 0 (rf qE ([(Product.mk (ByteArray.mk #[112, 108, 97, 110, 107]) 40 100 50 0 ([2000] : List Int) ([70] : List Int))] : List Product)))) (And.intro (And.intro (And.intro (show 1 = ([2000] : List Int).length from rfl) (show 1 = ([2000] : List Int).length from rfl)) (show 1 = ([2000] : List Int).length from rfl)) (And.intro (And.intro (Nat.le_refl (([2000] : List Int).length)) (Nat.le_refl (([2000] : List Int).length))) (And.intro (And.intro (And.intro (show 1 = ([70] : List Int).length from rfl) (show 1 = ([70] : List Int).length from rfl)) (show 1 = ([70] : List Int).length from rfl)) (And.intro (Nat.le_refl (([70] : List Int).length)) (Nat.le_refl (([70] : List Int).length)))))), qd 3 (Dir.none) (litP qE default 7 (fun _ => rfl) ([(Product.mk (ByteArray.mk #[112, 108, 97, 110, 107]) 40 100 50 0 ([2000] : List Int) ([70] : List Int))] : List Product) 1 rfl)] 0 ⟨[(0, vo 2 0 7 1)], [(2, ro 0 71 7 1 (rf qE ([(Product.mk (ByteArray.mk #[112, 108, 97, 110, 107]) 40 100 50 0 ([2000] : List Int) ([70] : List Int))] : List Product)))]⟩ ?_
 refine q_fn [.len 2 (([(Product.mk (ByteArray.mk #[112, 108, 97, 110, 107]) 40 100 50 0 ([2000] : List Int) ([70] : List Int))] : List Product).length)] ⟨[(0, vo 2 0 7 (([(Product.mk (ByteArray.mk #[112, 108, 97, 110, 107]) 40 100 50 0 ([2000] : List Int) ([70] : List Int))] : List Product).length))], [(2, ro 0 71 7 (([(Product.mk (ByteArray.mk #[112, 108, 97, 110, 107]) 40 100 50 0 ([2000] : List Int) ([70] : List Int))] : List Product).length) (rf qE ([(Product.mk (ByteArray.mk #[112, 108, 97, 110, 107]) 40 100 50 0 ([2000] : List Int) ([70] : List Int))] : List Product)))]⟩ (o1 (And.intro (show 1 = ([(Product.mk (ByteArray.mk #[112, 108, 97, 110, 107]) 40 100 50 0 ([2000] : List Int) ([70] : List Int))] : List Product).length from rfl) (show 1 = ([(Product.mk (ByteArray.mk #[112, 108, 97, 110, 107]) 40 100 50 0 ([2000] : List Int) ([70] : List Int))] : List Product).length from rfl))) ?_
 obtain rfl := Option.some.inj hm
 refine jO 2 0 (by kernel_rfl) ?_
 refine q_rt ?_
 exact q_rm
set_option maxRecDepth 100000
def CE (r : Yield × Int) : V := .tup [.agg (zF r.1), .one (ci r.2)]
def BD (r : Yield × Int) : List (Nat × (Nat × O)) := []
theorem qDo (r : Yield × Int) : TE (BD r) := by
 intro i k o h
 unfold BD at h
 cases h
theorem law22_of_ok (a1 : Law22_Given) (r : Yield × Int) (hm : PI a1 = some r) : CtX Try.prog globs 10 0 0 [.agg (qO a1)] [] (CE r) (BD r) := by
 unfold PI at hm
 refine q_E Try.f10 19 fun E => ?_
 refine q_sq ?_
 refine q_vn [] 0 ⟨[(1, vp 0 0), (2, vp 1 0)], [(0, bx 37 (qO a1)), (1, bx 41 [ci 0, ci 0, ci 0, ci 0, ci 0])]⟩ ?_
 refine q_sq ?_
 obtain ⟨v2, h3, hm⟩ := qC hm
 refine q_vu [qc 12 [5, 7, 9, 11, 13, 15] 2 (qHA a1.Solid a1.Defects a1.Products a1.Pattern a1.Saw a1.Rates v2 h3)] 2 [1] [(3, vi v2.2)] [0, 1] [(1, bx 41 (zF v2.1))] ?_
 obtain rfl := Option.some.inj hm
 refine q_rt ?_
 exact q_rm
open Go.Proofs
set_option maxHeartbeats 4000000
set_option maxRecDepth 100000
def OA (r : (List Yield_Cut) × Int) : V := .tup [.one (.own 0 0 9 r.1.length), .one (ci r.2)]
def US (r : (List Yield_Cut) × Int) : List (Nat × (Nat × O)) := [(0, ro 0 54 9 r.1.length (rf qL r.1))]
theorem qEp (r : (List Yield_Cut) × Int) : TE (US r) := by
 intro i k o h
 unfold US at h
 rw [look_cons] at h
 split at h
 ·cases h; exact fun _ _ => rfl
 ·cases h
theorem law22_boards_ok (a1 : Law22_Given) (r : (List Yield_Cut) × Int) (hm : ZN a1 = some r) : CtX Try.prog globs 11 0 0 [.agg (qO a1)] [] (OA r) (US r) := by
 unfold ZN at hm
 refine q_E Try.f11 20 fun E => ?_
 refine q_sq ?_
 refine q_vn [] 0 ⟨[(1, vp 0 0)], [(0, bx 37 (qO a1))]⟩ ?_
 refine q_sq ?_
 obtain ⟨v2, h3, hm⟩ := qC hm
 refine q_vn [qc 13 [5, 7, 9, 11, 13, 16] 1 (AQ a1.Solid a1.Defects a1.Products a1.Pattern a1.Saw a1.Rates.Fine v2 h3)] 1 ⟨[(2, vo 1 0 9 v2.1.length), (3, vi v2.2)], [(1, ro 0 54 9 v2.1.length (rf qL v2.1))]⟩ ?_
 obtain rfl := Option.some.inj hm
 refine jO 1 0 (by kernel_rfl) ?_
 refine q_rt ?_
 exact q_rm
end Saw
end Go.SL
