import Derived.Test.YtpphchcejhodkaaDoorEBase
import Derived.Test.YtpphchcejhodkaaDoorEFa5
import Derived.Test.YtpphchcejhodkaaDoorEFa7
set_option linter.unusedVariables false
set_option linter.unusedSimpArgs false
namespace Go.SL
namespace Saw
open Go.Proofs
set_option maxHeartbeats 4000000
set_option maxRecDepth 100000
def qIZ (r : Product) : V := va [cs r.Name, ci r.Thick, ci r.Width, ci r.Allow, ci r.Wane, .own 0 0 1 r.Lengths.length, .own 1 0 1 r.Prices.length]
def qI3 (r : Product) : List (Nat × (Nat × O)) := [(0, ro 0 3 1 r.Lengths.length (rf e_i64 r.Lengths)), (1, ro 0 3 1 r.Prices.length (rf e_i64 r.Prices))]
theorem qHK (r : Product) (hm : qBf = some r) : CtX Tryd.prog globs 28 0 0 [] [] (qIZ r) (qI3 r) := by
 unfold qBf at hm
 refine q_E Tryd.f28 4 fun E => ?_
 refine q_sq ?_
 refine q_vn [] 0 ⟨[(0, vp 0 0)], [(0, bx 59 [cs (ByteArray.mk #[]), ci 0, ci 0, ci 0, ci 0, .emp, .emp])]⟩ ?_
 refine q_sq ?_
 refine q_vu [qd 0 (drw 1 0 (rf e_i64 ([2000] : List Int))) (litP e_i64 default 1 (fun _ => rfl) ([2000] : List Int) 1 rfl), qd 1 (drw 2 0 (rf e_i64 ([70] : List Int))) (litP e_i64 default 1 (fun _ => rfl) ([70] : List Int) 1 rfl)] 1 [] [] [0] [(0, bx 59 [cs (ByteArray.mk #[112, 108, 97, 110, 107]), ci 40, ci 100, ci 50, ci 0, .own 1 0 1 1, .own 2 0 1 1]), (1, ro 0 3 1 1 (rf e_i64 ([2000] : List Int))), (2, ro 0 3 1 1 (rf e_i64 ([70] : List Int)))] ?_
 refine q_fn [.len 1 (([2000] : List Int).length)] ⟨[(0, vp 0 0)], [(0, bx 59 [cs (ByteArray.mk #[112, 108, 97, 110, 107]), ci 40, ci 100, ci 50, ci 0, .own 1 0 1 (([2000] : List Int).length), .own 2 0 1 1]), (1, ro 0 3 1 (([2000] : List Int).length) (rf e_i64 ([2000] : List Int))), (2, ro 0 3 1 1 (rf e_i64 ([70] : List Int)))]⟩ (o1 (And.intro (show 1 = ([2000] : List Int).length from rfl) (show 1 = ([2000] : List Int).length from rfl))) ?_
 refine q_fn [.len 2 (([70] : List Int).length)] ⟨[(0, vp 0 0)], [(0, bx 59 [cs (ByteArray.mk #[112, 108, 97, 110, 107]), ci 40, ci 100, ci 50, ci 0, .own 1 0 1 (([2000] : List Int).length), .own 2 0 1 (([70] : List Int).length)]), (1, ro 0 3 1 (([2000] : List Int).length) (rf e_i64 ([2000] : List Int))), (2, ro 0 3 1 (([70] : List Int).length) (rf e_i64 ([70] : List Int)))]⟩ (o1 (And.intro (show 1 = ([70] : List Int).length from rfl) (show 1 = ([70] : List Int).length from rfl))) ?_
 obtain rfl := Option.some.inj hm
 refine qZ 1 0 (by kernel_rfl) ?_
 refine qZ 2 1 (by kernel_rfl) ?_
 refine q_rt ?_
 exact q_rm
def qDJ (r : Line × Int) : V := .tup [.agg [ci r.1.Len, ci r.1.Kerf, ci r.1.Pitch, .own 0 0 1 r.1.Sizes.length, .own 1 0 1 r.1.Gain.length, .own 2 0 1 r.1.Chip.length, .own 3 0 1 r.1.Dust.length], .one (ci r.2)]
def qDA (r : Line × Int) : List (Nat × (Nat × O)) := [(0, ro 0 3 1 r.1.Sizes.length (rf e_i64 r.1.Sizes)), (1, ro 0 57 1 r.1.Gain.length (rf (qV e_i64) r.1.Gain)), (2, ro 0 3 1 r.1.Chip.length (rf e_i64 r.1.Chip)), (3, ro 0 3 1 r.1.Dust.length (rf e_i64 r.1.Dust))]
theorem qIV (a1 : qP) (r : Line × Int) (hm : qBZ a1 = some r) : CtX Tryd.prog globs 14 0 0 [.agg (zI a1)] [] (qDJ r) (qDA r) := by
 unfold qBZ at hm
 refine q_E Tryd.f14 19 fun E => ?_
 refine q_sq ?_
 refine q_vn [] 0 ⟨[(1, vp 0 0), (2, vp 1 0)], [(0, bx 34 (zI a1)), (1, bx 63 [ci 0, ci 0, ci 0, .emp, .emp, .emp, .emp])]⟩ ?_
 refine q_sq ?_
 obtain ⟨v2, h3, hm⟩ := qC hm
 refine q_vu [qc 12 [5, 7, 9, 11, 13, 15] 2 (qDS a1.Solid a1.Defects a1.Products a1.Strip a1.Saw a1.Rates v2 h3)] 2 [1] [(3, vi v2.2)] [0, 1] [(1, bx 63 [ci v2.1.Len, ci v2.1.Kerf, ci v2.1.Pitch, .own 2 0 1 v2.1.Sizes.length, .own 3 0 1 v2.1.Gain.length, .own 4 0 1 v2.1.Chip.length, .own 5 0 1 v2.1.Dust.length]), (2, ro 0 3 1 v2.1.Sizes.length (rf e_i64 v2.1.Sizes)), (3, ro 0 57 1 v2.1.Gain.length (rf (qV e_i64) v2.1.Gain)), (4, ro 0 3 1 v2.1.Chip.length (rf e_i64 v2.1.Chip)), (5, ro 0 3 1 v2.1.Dust.length (rf e_i64 v2.1.Dust))] ?_
 obtain rfl := Option.some.inj hm
 refine qZ 2 0 (by kernel_rfl) ?_
 refine qZ 3 1 (by kernel_rfl) ?_
 refine qZ 4 2 (by kernel_rfl) ?_
 refine qZ 5 3 (by kernel_rfl) ?_
 refine q_rt ?_
 exact q_rm
set_option maxRecDepth 100000
def qJM (r : (List Node) × Int × Int) : V := .tup [.one (.own 0 0 2 r.1.length), .one (ci r.2.1), .one (ci r.2.2)]
def qKq (r : (List Node) × Int × Int) : List (Nat × (Nat × O)) := [(0, ro 0 69 2 r.1.length (rf e_Node r.1))]
theorem AR (a1 : qP) (r : (List Node) × Int × Int) (hm : TB a1 = some r) : CtX Tryd.prog globs 6 0 0 [.agg (zI a1)] [] (qJM r) (qKq r) := by
 unfold TB at hm
 refine q_E Tryd.f6 21 fun E => ?_
 refine q_sq ?_
 refine q_vn [] 0 ⟨[(1, vp 0 0)], [(0, bx 34 (zI a1))]⟩ ?_
 refine q_sq ?_
 obtain ⟨v2, h3, hm⟩ := qC hm
 refine q_vn [qc 12 [6, 8, 10, 12, 14, 16] 1 (qKf a1.Solid a1.Defects a1.Products a1.Strip a1.Saw a1.Rates v2 h3)] 1 ⟨[(2, vo 1 0 2 v2.1.length), (3, vi v2.2.1), (4, vi v2.2.2)], [(1, ro 0 69 2 v2.1.length (rf e_Node v2.1))]⟩ ?_
 obtain rfl := Option.some.inj hm
 refine qZ 1 0 (by kernel_rfl) ?_
 refine q_rt ?_
 exact q_rm
end Saw
end Go.SL
