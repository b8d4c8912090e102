import Derived.Test.YtgpgnlllieekbaaDoorEBase
import Derived.Test.YtgpgnlllieekbaaDoorEFa4
import Derived.Test.YtgpgnlllieekbaaDoorEFa7
set_option linter.unusedVariables false
set_option linter.unusedSimpArgs false
namespace Go.SL
namespace Saw
open Go.Proofs
set_option maxHeartbeats 4000000

def law19_Plank_x (r : Product) : V := va [cs r.Name, ci r.Thick, ci r.Width, ci r.Allow, ci r.Wane, .own 0 0 1 r.Lengths.length, .own 1 0 1 r.Prices.length]

def law19_Plank_o (r : Product) : List (Nat × (Nat × O)) := [(0, ro 0 3 1 r.Lengths.length (rf e_i64 r.Lengths)), (1, ro 0 3 1 r.Prices.length (rf e_i64 r.Prices))]

theorem law19_Plank_f (r : Product) : Frozen (law19_Plank_o r) := by
 intro i k o h
 unfold law19_Plank_o at h
 rw [look_cons] at h
 split at h
 ·cases h; exact fun _ _ => rfl
 ·rw [look_cons] at h
  split at h
  ·cases h; exact fun _ _ => rfl
  ·cases h

set_option maxRecDepth 100000 in
theorem law19_Plank_ok (r : Product) (hm : law19_Plank = some r) : CtX Tryd.prog globs 45 0 0 [] [] (law19_Plank_x r) (law19_Plank_o r) := by
 unfold law19_Plank at hm
 refine q_E Tryd.f45 4 fun E => ?_
 refine q_sq ?_
 refine q_vn [] 0 ⟨[(0, vp 0 0)], [(0, bx 43 [cs (ByteArray.mk #[]), ci 0, ci 0, ci 0, ci 0, .emp, .emp])]⟩ ?_
 refine q_sq ?_
 refine q_vu [qd 0 (drw 1 0 (rf e_i64 ([2000] : List Int))) (litP e_i64 default 1 (fun _ => rfl) ([2000] : List Int) 1 rfl), qd 1 (drw 2 0 (rf e_i64 ([70] : List Int))) (litP e_i64 default 1 (fun _ => rfl) ([70] : List Int) 1 rfl)] 1 [] [] [0] [(0, bx 43 [cs (ByteArray.mk #[112, 108, 97, 110, 107]), ci 40, ci 100, ci 50, ci 0, .own 1 0 1 1, .own 2 0 1 1]), (1, ro 0 3 1 1 (rf e_i64 ([2000] : List Int))), (2, ro 0 3 1 1 (rf e_i64 ([70] : List Int)))] ?_
 refine q_fn [.len 1 (([2000] : List Int).length)] ⟨[(0, vp 0 0)], [(0, bx 43 [cs (ByteArray.mk #[112, 108, 97, 110, 107]), ci 40, ci 100, ci 50, ci 0, .own 1 0 1 (([2000] : List Int).length), .own 2 0 1 1]), (1, ro 0 3 1 (([2000] : List Int).length) (rf e_i64 ([2000] : List Int))), (2, ro 0 3 1 1 (rf e_i64 ([70] : List Int)))]⟩ (o1 (And.intro (show 1 = ([2000] : List Int).length from rfl) (show 1 = ([2000] : List Int).length from rfl))) ?_
 refine q_fn [.len 2 (([70] : List Int).length)] ⟨[(0, vp 0 0)], [(0, bx 43 [cs (ByteArray.mk #[112, 108, 97, 110, 107]), ci 40, ci 100, ci 50, ci 0, .own 1 0 1 (([2000] : List Int).length), .own 2 0 1 (([70] : List Int).length)]), (1, ro 0 3 1 (([2000] : List Int).length) (rf e_i64 ([2000] : List Int))), (2, ro 0 3 1 (([70] : List Int).length) (rf e_i64 ([70] : List Int)))]⟩ (o1 (And.intro (show 1 = ([70] : List Int).length from rfl) (show 1 = ([70] : List Int).length from rfl))) ?_
 obtain rfl := Option.some.inj hm
 refine H_swap 1 0 (by kernel_rfl) ?_
 refine H_swap 2 1 (by kernel_rfl) ?_
 refine q_rt ?_
 exact q_rm

end Saw
end Go.SL

namespace Go.SL
namespace Saw
open Go.Proofs
set_option maxHeartbeats 4000000

def law23_line_x (r : Line × Int) : V := .tup [.agg [ci r.1.Len, ci r.1.Kerf, ci r.1.Pitch, .own 0 0 1 r.1.Sizes.length, .own 1 0 1 r.1.Gain.length, .own 2 0 1 r.1.Chip.length, .own 3 0 1 r.1.Dust.length], .one (ci r.2)]

def law23_line_o (r : Line × Int) : List (Nat × (Nat × O)) := [(0, ro 0 3 1 r.1.Sizes.length (rf e_i64 r.1.Sizes)), (1, ro 0 25 1 r.1.Gain.length (rf (e_lst e_i64) r.1.Gain)), (2, ro 0 3 1 r.1.Chip.length (rf e_i64 r.1.Chip)), (3, ro 0 3 1 r.1.Dust.length (rf e_i64 r.1.Dust))]

set_option maxRecDepth 100000 in
theorem law23_line_ok (a1 : Law23_Given) (r : Line × Int) (hm : law23_line a1 = some r) : CtX Tryd.prog globs 16 0 0 [.agg (e_Law23_Given a1)] [] (law23_line_x r) (law23_line_o r) := by
 unfold law23_line at hm
 refine q_E Tryd.f16 19 fun E => ?_
 refine q_sq ?_
 refine q_vn [] 0 ⟨[(1, vp 0 0), (2, vp 1 0)], [(0, bx 41 (e_Law23_Given a1)), (1, bx 64 [ci 0, ci 0, ci 0, .emp, .emp, .emp, .emp])]⟩ ?_
 refine q_sq ?_
 obtain ⟨v2, h3, hm⟩ := bind_s hm
 refine q_vu [qc 12 [5, 7, 9, 11, 13, 15] 2 (edge_Line_ok a1.Solid a1.Defects a1.Products a1.Strip a1.Saw a1.Rates v2 h3)] 2 [1] [(3, vi v2.2)] [0, 1] [(1, bx 64 [ci v2.1.Len, ci v2.1.Kerf, ci v2.1.Pitch, .own 2 0 1 v2.1.Sizes.length, .own 3 0 1 v2.1.Gain.length, .own 4 0 1 v2.1.Chip.length, .own 5 0 1 v2.1.Dust.length]), (2, ro 0 3 1 v2.1.Sizes.length (rf e_i64 v2.1.Sizes)), (3, ro 0 25 1 v2.1.Gain.length (rf (e_lst e_i64) v2.1.Gain)), (4, ro 0 3 1 v2.1.Chip.length (rf e_i64 v2.1.Chip)), (5, ro 0 3 1 v2.1.Dust.length (rf e_i64 v2.1.Dust))] ?_
 obtain rfl := Option.some.inj hm
 refine H_swap 2 0 (by kernel_rfl) ?_
 refine H_swap 3 1 (by kernel_rfl) ?_
 refine H_swap 4 2 (by kernel_rfl) ?_
 refine H_swap 5 3 (by kernel_rfl) ?_
 refine q_rt ?_
 exact q_rm

end Saw
end Go.SL

namespace Go.SL
namespace Saw
open Go.Proofs
set_option maxHeartbeats 4000000

def law23_best_x (r : (List Node) × Int × Int) : V := .tup [.one (.own 0 0 2 r.1.length), .one (ci r.2.1), .one (ci r.2.2)]

def law23_best_o (r : (List Node) × Int × Int) : List (Nat × (Nat × O)) := [(0, ro 0 80 2 r.1.length (rf e_Node r.1))]

theorem law23_best_f (r : (List Node) × Int × Int) : Frozen (law23_best_o r) := by
 intro i k o h
 unfold law23_best_o at h
 rw [look_cons] at h
 split at h
 ·cases h; exact fun _ _ => rfl
 ·cases h

set_option maxRecDepth 100000 in
theorem law23_best_ok (a1 : Law23_Given) (r : (List Node) × Int × Int) (hm : law23_best a1 = some r) : CtX Tryd.prog globs 14 0 0 [.agg (e_Law23_Given a1)] [] (law23_best_x r) (law23_best_o r) := by
 unfold law23_best at hm
 refine q_E Tryd.f14 21 fun E => ?_
 refine q_sq ?_
 refine q_vn [] 0 ⟨[(1, vp 0 0)], [(0, bx 41 (e_Law23_Given a1))]⟩ ?_
 refine q_sq ?_
 obtain ⟨v2, h3, hm⟩ := bind_s hm
 refine q_vn [qc 12 [6, 8, 10, 12, 14, 16] 1 (edge_Best_ok a1.Solid a1.Defects a1.Products a1.Strip a1.Saw a1.Rates v2 h3)] 1 ⟨[(2, vo 1 0 2 v2.1.length), (3, vi v2.2.1), (4, vi v2.2.2)], [(1, ro 0 80 2 v2.1.length (rf e_Node v2.1))]⟩ ?_
 obtain rfl := Option.some.inj hm
 refine H_swap 1 0 (by kernel_rfl) ?_
 refine q_rt ?_
 exact q_rm

end Saw
end Go.SL
