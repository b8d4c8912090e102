import Derived.Test.YtgpgnlllieekbaaDoorEBase
import Derived.Test.YtgpgnlllieekbaaDoorEFa8
import Derived.Test.YtgpgnlllieekbaaDoorEFa13
set_option linter.unusedVariables false
set_option linter.unusedSimpArgs false
namespace Go.SL
namespace Saw
open Go.Proofs
set_option maxHeartbeats 4000000

def law19_Plank_x (r : Product) : V := va [cs r.Name, ci r.Thick, ci r.Width, ci r.Allow, ci r.Wane, .own 0 0 1 r.Lengths.length, .own 1 0 1 r.Prices.length]

def law19_Plank_o (r : Product) : List (Nat × (Nat × O)) := [(0, ro 0 3 1 r.Lengths.length (rf e_i64 r.Lengths)), (1, ro 0 3 1 r.Prices.length (rf e_i64 r.Prices))]

theorem law19_Plank_f (r : Product) : Frozen (law19_Plank_o r) := by
  intro i k o h
  unfold law19_Plank_o at h
  rw [look_cons] at h
  split at h
  · cases h; exact fun _ _ => rfl
  · rw [look_cons] at h
    split at h
    · cases h; exact fun _ _ => rfl
    · cases h

set_option maxRecDepth 100000 in
theorem law19_Plank_ok (r : Product) (hm : law19_Plank = some r) : CtX Tryd.prog globs 45 0 0 [] [] (law19_Plank_x r) (law19_Plank_o r) := by
  unfold law19_Plank at hm
  refine CtX_of_E (fn := Tryd.f45) (c := nd Tryd.f45 1) (nt := 4) (by kernel_rfl) (by kernel_rfl) (by kernel_rfl) (by kernel_rfl) fun E => ?_
  refine R_sq Tryd.f45 2 3 (by kernel_rfl) ?_
  refine R_rn Tryd.f45 2 0 [] [] 0 ⟨[(0, vp 0 0)], [(0, bx 43 [cs (ByteArray.mk #[]), ci 0, ci 0, ci 0, ci 0, .emp, .emp])]⟩ o0 (by kernel_rfl) (by kernel_rfl) ?_
  refine R_sq Tryd.f45 6 7 (by kernel_rfl) ?_
  refine R_rn Tryd.f45 6 1 [(0, drw 1 0 (rf e_i64 ([2000] : List Int))), (1, drw 2 0 (rf e_i64 ([70] : List Int)))] [] 1 ⟨[(0, vp 0 0)], [(0, bx 43 [cs (ByteArray.mk #[112, 108, 97, 110, 107]), ci 40, ci 100, ci 50, ci 0, .own 1 0 1 1, .own 2 0 1 1]), (1, ro 0 3 1 1 (rf e_i64 ([2000] : List Int))), (2, ro 0 3 1 1 (rf e_i64 ([70] : List Int)))]⟩ (o1 (And.intro (litP e_i64 default 1 (fun _ => rfl) ([2000] : List Int) 1 rfl) (litP e_i64 default 1 (fun _ => rfl) ([70] : List Int) 1 rfl))) (by kernel_rfl) (by kernel_rfl) ?_
  refine H_fin [.len 1 (([2000] : List Int).length)] ⟨[(0, vp 0 0)], [(0, bx 43 [cs (ByteArray.mk #[112, 108, 97, 110, 107]), ci 40, ci 100, ci 50, ci 0, .own 1 0 1 (([2000] : List Int).length), .own 2 0 1 1]), (1, ro 0 3 1 (([2000] : List Int).length) (rf e_i64 ([2000] : List Int))), (2, ro 0 3 1 1 (rf e_i64 ([70] : List Int)))]⟩ (o1 (And.intro (show 1 = ([2000] : List Int).length from rfl) (show 1 = ([2000] : List Int).length from rfl))) (by kernel_rfl) ?_
  refine H_fin [.len 2 (([70] : List Int).length)] ⟨[(0, vp 0 0)], [(0, bx 43 [cs (ByteArray.mk #[112, 108, 97, 110, 107]), ci 40, ci 100, ci 50, ci 0, .own 1 0 1 (([2000] : List Int).length), .own 2 0 1 (([70] : List Int).length)]), (1, ro 0 3 1 (([2000] : List Int).length) (rf e_i64 ([2000] : List Int))), (2, ro 0 3 1 (([70] : List Int).length) (rf e_i64 ([70] : List Int)))]⟩ (o1 (And.intro (show 1 = ([70] : List Int).length from rfl) (show 1 = ([70] : List Int).length from rfl))) (by kernel_rfl) ?_
  obtain rfl := Option.some.inj hm
  refine H_swap 1 0 (by kernel_rfl) ?_
  refine H_swap 2 1 (by kernel_rfl) ?_
  refine R_ret (by kernel_rfl) ?_
  exact ret_mk (by kernel_rfl) (by kernel_rfl)

end Saw
end Go.SL

namespace Go.SL
namespace Saw
open Go.Proofs
set_option maxHeartbeats 4000000

def law23_line_x (r : Line × Int) : V := .tup [.agg [ci r.1.Len, ci r.1.Kerf, ci r.1.Pitch, .own 0 0 1 r.1.Sizes.length, .own 1 0 1 r.1.Gain.length, .own 2 0 1 r.1.Chip.length, .own 3 0 1 r.1.Dust.length], .one (ci r.2)]

def law23_line_o (r : Line × Int) : List (Nat × (Nat × O)) := [(0, ro 0 3 1 r.1.Sizes.length (rf e_i64 r.1.Sizes)), (1, ro 0 25 1 r.1.Gain.length (rf (e_lst e_i64) r.1.Gain)), (2, ro 0 3 1 r.1.Chip.length (rf e_i64 r.1.Chip)), (3, ro 0 3 1 r.1.Dust.length (rf e_i64 r.1.Dust))]

set_option maxRecDepth 100000 in
theorem law23_line_ok (a1 : Law23_Given) (r : Line × Int) (hm : law23_line a1 = some r) : CtX Tryd.prog globs 16 0 0 [.agg [tl e_Slice default a1.Solid, tl e_Defect default a1.Defects, tl e_Product default a1.Products, ci a1.Strip.X.A, ci a1.Strip.X.B, ci a1.Strip.Y.A, ci a1.Strip.Y.B, ci a1.Saw.Kerf, ci a1.Saw.Trim, ci a1.Saw.Pitch, ci a1.Saw.Step, ci a1.Rates.Chip, ci a1.Rates.Dust, ci a1.Rates.Fine]] [] (law23_line_x r) (law23_line_o r) := by
  unfold law23_line at hm
  refine CtX_of_E (fn := Tryd.f16) (c := nd Tryd.f16 1) (nt := 19) (by kernel_rfl) (by kernel_rfl) (by kernel_rfl) (by kernel_rfl) fun E => ?_
  refine R_sq Tryd.f16 2 3 (by kernel_rfl) ?_
  refine R_rn Tryd.f16 2 0 [] [] 0 ⟨[(1, vp 0 0), (2, vp 1 0)], [(0, bx 41 [tl e_Slice default a1.Solid, tl e_Defect default a1.Defects, tl e_Product default a1.Products, ci a1.Strip.X.A, ci a1.Strip.X.B, ci a1.Strip.Y.A, ci a1.Strip.Y.B, ci a1.Saw.Kerf, ci a1.Saw.Trim, ci a1.Saw.Pitch, ci a1.Saw.Step, ci a1.Rates.Chip, ci a1.Rates.Dust, ci a1.Rates.Fine]), (1, bx 64 [ci 0, ci 0, ci 0, .emp, .emp, .emp, .emp])]⟩ o0 (by kernel_rfl) (by kernel_rfl) ?_
  refine R_sq Tryd.f16 6 7 (by kernel_rfl) ?_
  obtain ⟨v2, h3, hm⟩ := bind_s hm
  refine R_rn Tryd.f16 6 1 [(12, dex (cen [] [] 2 0 (edge_Line_x v2) (edge_Line_o v2) [5, 7, 9, 11, 13, 15] []))] [] 2 ⟨[(2, vp 1 0), (3, vi v2.2)], [(1, bx 64 [ci v2.1.Len, ci v2.1.Kerf, ci v2.1.Pitch, .own 2 0 1 v2.1.Sizes.length, .own 3 0 1 v2.1.Gain.length, .own 4 0 1 v2.1.Chip.length, .own 5 0 1 v2.1.Dust.length]), (2, ro 0 3 1 v2.1.Sizes.length (rf e_i64 v2.1.Sizes)), (3, ro 0 25 1 v2.1.Gain.length (rf (e_lst e_i64) v2.1.Gain)), (4, ro 0 3 1 v2.1.Chip.length (rf e_i64 v2.1.Chip)), (5, ro 0 3 1 v2.1.Dust.length (rf e_i64 v2.1.Dust))]⟩ (o1 (callS (K := (kx E 19 0)) ⟨[(5, vc (tl e_Slice default a1.Solid)), (7, vc (tl e_Defect default a1.Defects)), (9, vc (tl e_Product default a1.Products)), (11, va [ci a1.Strip.X.A, ci a1.Strip.X.B, ci a1.Strip.Y.A, ci a1.Strip.Y.B]), (13, va [ci a1.Saw.Kerf, ci a1.Saw.Trim, ci a1.Saw.Pitch, ci a1.Saw.Step]), (15, va [ci a1.Rates.Chip, ci a1.Rates.Dust, ci a1.Rates.Fine])], []⟩ (opAt (rg Tryd.f16 6) 12) [] [] 2 o0 rfl (edge_Line_ok a1.Solid a1.Defects a1.Products a1.Strip a1.Saw a1.Rates v2 h3) (.inl rfl) (by kernel_rfl))) (by kernel_rfl) (by kernel_rfl) ?_
  obtain rfl := Option.some.inj hm
  refine H_swap 2 0 (by kernel_rfl) ?_
  refine H_swap 3 1 (by kernel_rfl) ?_
  refine H_swap 4 2 (by kernel_rfl) ?_
  refine H_swap 5 3 (by kernel_rfl) ?_
  refine R_ret (by kernel_rfl) ?_
  exact ret_mk (by kernel_rfl) (by kernel_rfl)

end Saw
end Go.SL

namespace Go.SL
namespace Saw
open Go.Proofs
set_option maxHeartbeats 4000000

def law23_best_x (r : (List Node) × Int × Int) : V := .tup [.one (.own 0 0 2 r.1.length), .one (ci r.2.1), .one (ci r.2.2)]

def law23_best_o (r : (List Node) × Int × Int) : List (Nat × (Nat × O)) := [(0, ro 0 80 2 r.1.length (rf e_Node r.1))]

theorem law23_best_f (r : (List Node) × Int × Int) : Frozen (law23_best_o r) := by
  intro i k o h
  unfold law23_best_o at h
  rw [look_cons] at h
  split at h
  · cases h; exact fun _ _ => rfl
  · cases h

set_option maxRecDepth 100000 in
theorem law23_best_ok (a1 : Law23_Given) (r : (List Node) × Int × Int) (hm : law23_best a1 = some r) : CtX Tryd.prog globs 14 0 0 [.agg [tl e_Slice default a1.Solid, tl e_Defect default a1.Defects, tl e_Product default a1.Products, ci a1.Strip.X.A, ci a1.Strip.X.B, ci a1.Strip.Y.A, ci a1.Strip.Y.B, ci a1.Saw.Kerf, ci a1.Saw.Trim, ci a1.Saw.Pitch, ci a1.Saw.Step, ci a1.Rates.Chip, ci a1.Rates.Dust, ci a1.Rates.Fine]] [] (law23_best_x r) (law23_best_o r) := by
  unfold law23_best at hm
  refine CtX_of_E (fn := Tryd.f14) (c := nd Tryd.f14 1) (nt := 21) (by kernel_rfl) (by kernel_rfl) (by kernel_rfl) (by kernel_rfl) fun E => ?_
  refine R_sq Tryd.f14 2 3 (by kernel_rfl) ?_
  refine R_rn Tryd.f14 2 0 [] [] 0 ⟨[(1, vp 0 0)], [(0, bx 41 [tl e_Slice default a1.Solid, tl e_Defect default a1.Defects, tl e_Product default a1.Products, ci a1.Strip.X.A, ci a1.Strip.X.B, ci a1.Strip.Y.A, ci a1.Strip.Y.B, ci a1.Saw.Kerf, ci a1.Saw.Trim, ci a1.Saw.Pitch, ci a1.Saw.Step, ci a1.Rates.Chip, ci a1.Rates.Dust, ci a1.Rates.Fine])]⟩ o0 (by kernel_rfl) (by kernel_rfl) ?_
  refine R_sq Tryd.f14 6 7 (by kernel_rfl) ?_
  obtain ⟨v2, h3, hm⟩ := bind_s hm
  refine R_rn Tryd.f14 6 1 [(12, dex (cen [] [] 1 0 (edge_Best_x v2) (edge_Best_o v2) [6, 8, 10, 12, 14, 16] []))] [] 1 ⟨[(2, vo 1 0 2 v2.1.length), (3, vi v2.2.1), (4, vi v2.2.2)], [(1, ro 0 80 2 v2.1.length (rf e_Node v2.1))]⟩ (o1 (callS (K := (kx E 21 0)) ⟨[(6, vc (tl e_Slice default a1.Solid)), (8, vc (tl e_Defect default a1.Defects)), (10, vc (tl e_Product default a1.Products)), (12, va [ci a1.Strip.X.A, ci a1.Strip.X.B, ci a1.Strip.Y.A, ci a1.Strip.Y.B]), (14, va [ci a1.Saw.Kerf, ci a1.Saw.Trim, ci a1.Saw.Pitch, ci a1.Saw.Step]), (16, va [ci a1.Rates.Chip, ci a1.Rates.Dust, ci a1.Rates.Fine])], []⟩ (opAt (rg Tryd.f14 6) 12) [] [] 1 o0 rfl (edge_Best_ok a1.Solid a1.Defects a1.Products a1.Strip a1.Saw a1.Rates v2 h3) (.inl rfl) (by kernel_rfl))) (by kernel_rfl) (by kernel_rfl) ?_
  obtain rfl := Option.some.inj hm
  refine H_swap 1 0 (by kernel_rfl) ?_
  refine R_ret (by kernel_rfl) ?_
  exact ret_mk (by kernel_rfl) (by kernel_rfl)

end Saw
end Go.SL
