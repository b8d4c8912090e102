import Derived.Test.YtjelipmghgcpeaaSBase
import Derived.Test.YtjelipmghgcpeaaSFa1
set_option linter.unusedVariables false
set_option linter.unusedSimpArgs false
namespace Go.SL
namespace Saw
open Go.Proofs
set_option maxHeartbeats 4000000

def law10_SectionInside_1_x (a1 : Int) (a2 : Int) (a3 : List Point) (r : Bool) : V := vb r

def law10_SectionInside_1_o (a1 : Int) (a2 : Int) (a3 : List Point) (r : Bool) : List (Nat × (Nat × O)) := [(0, bx 29 [.own 1 0 2 a3.length]), (1, ro 0 46 2 a3.length (rf e_Point a3))]

theorem law10_SectionInside_1_f (a1 : Int) (a2 : Int) (a3 : List Point) (r : Bool) : Frozen (law10_SectionInside_1_o a1 a2 a3 r) := by
  intro i k o h
  unfold law10_SectionInside_1_o at h
  rw [look_cons] at h
  split at h
  · cases h; rfl
  · rw [look_cons] at h
    split at h
    · cases h; exact fun _ _ => rfl
    · cases h

set_option maxRecDepth 100000 in
theorem law10_SectionInside_1_ok (a1 : Int) (a2 : Int) (a3 : List Point) (r : Bool) (hm : law10_SectionInside_1 a1 a2 a3 = some r) : CtX Try.prog globs 37 2 1 [.one (ci a1), .one (ci a2), .one (.bptr 0 0 0)] [(0, bx 29 [.own 1 0 2 a3.length]), (1, ro 0 46 2 a3.length (rf e_Point a3))] (law10_SectionInside_1_x a1 a2 a3 r) (law10_SectionInside_1_o a1 a2 a3 r) := by
  unfold law10_SectionInside_1 at hm
  refine CtX_of_E (fn := Try.f37) (c := nd Try.f37 1) (nt := 11) (by kernel_rfl) (by kernel_rfl) (by kernel_rfl) (by kernel_rfl) fun E => ?_
  refine R_sq Try.f37 2 3 (by kernel_rfl) ?_
  refine R_rn Try.f37 2 0 [] [] 2 ⟨[(0, vi a1), (1, vi a2), (2, vp 0 0)], [(0, bx 29 [.own 1 0 2 a3.length]), (1, ro 0 46 2 a3.length (rf e_Point a3))]⟩ o0 (by kernel_rfl) (by kernel_rfl) ?_
  refine R_sq Try.f37 6 7 (by kernel_rfl) ?_
  obtain ⟨v4, h5, hm⟩ := bind_s hm
  refine R_rn Try.f37 6 1 [(4, dex (cen [] [] 2 0 (poly_Has_x v4) (poly_Has_o v4) [6, 9] [1]))] [] 2 ⟨[(5, vb v4)], [(0, bx 29 [.own 1 0 2 a3.length]), (1, ro 0 46 2 a3.length (rf e_Point a3))]⟩ (o1 (callS (K := (kx E 11 1)) (b := false) ⟨[(6, vo 1 0 2 a3.length), (9, va [ci a1, ci a2])], [(1, ro 0 46 2 a3.length (rf e_Point a3))]⟩ (opAt (rg Try.f37 6) 4) [] [] 2 (o1 (Nat.le_refl a3.length)) rfl (poly_Has_ok a3 (Point.mk a1 a2) v4 h5) (.inr ⟨(by kernel_rfl), poly_Has_f v4⟩) (by kernel_rfl))) (by kernel_rfl) (by kernel_rfl) ?_
  obtain rfl := Option.some.inj hm
  refine R_ret (by kernel_rfl) ?_
  exact ret_mk (by kernel_rfl) (by kernel_rfl)

end Saw
end Go.SL

namespace Go.SL
namespace Saw
open Go.Proofs
set_option maxHeartbeats 4000000

def law10_sample_x (r : Section) : V := va [ci r.Low, .own 0 0 2 r.Rows.length]

def law10_sample_o (r : Section) : List (Nat × (Nat × O)) := [(0, ro 0 35 2 r.Rows.length (rf e_Span r.Rows))]

theorem law10_sample_f (r : Section) : Frozen (law10_sample_o r) := by
  intro i k o h
  unfold law10_sample_o at h
  rw [look_cons] at h
  split at h
  · cases h; exact fun _ _ => rfl
  · cases h

set_option maxRecDepth 100000 in
theorem law10_sample_ok (r : Section) (hm : law10_sample = some r) : CtX Try.prog globs 43 0 0 [] [] (law10_sample_x r) (law10_sample_o r) := by
  unfold law10_sample at hm
  refine CtX_of_E (fn := Try.f43) (c := nd Try.f43 1) (nt := 5) (by kernel_rfl) (by kernel_rfl) (by kernel_rfl) (by kernel_rfl) fun E => ?_
  refine R_sq Try.f43 2 3 (by kernel_rfl) ?_
  refine R_rn Try.f43 2 0 [] [] 0 ⟨[(0, vp 0 0)], [(0, bx 24 [ci 0, .emp])]⟩ o0 (by kernel_rfl) (by kernel_rfl) ?_
  refine R_sq Try.f43 6 7 (by kernel_rfl) ?_
  refine R_rn Try.f43 6 1 [(2, drw 1 0 (rf e_Span ([(Span.mk (-50) 50), (Span.mk (-60) 60)] : List Span)))] [] 1 ⟨[(0, vp 0 0)], [(0, bx 24 [ci 0, .own 1 0 2 2]), (1, ro 0 35 2 2 (rf e_Span ([(Span.mk (-50) 50), (Span.mk (-60) 60)] : List Span)))]⟩ (o1 (litP e_Span default 2 (fun _ => rfl) ([(Span.mk (-50) 50), (Span.mk (-60) 60)] : List Span) 2 rfl)) (by kernel_rfl) (by kernel_rfl) ?_
  refine H_fin [.len 1 (([(Span.mk (-50) 50), (Span.mk (-60) 60)] : List Span).length)] ⟨[(0, vp 0 0)], [(0, bx 24 [ci 0, .own 1 0 2 (([(Span.mk (-50) 50), (Span.mk (-60) 60)] : List Span).length)]), (1, ro 0 35 2 (([(Span.mk (-50) 50), (Span.mk (-60) 60)] : List Span).length) (rf e_Span ([(Span.mk (-50) 50), (Span.mk (-60) 60)] : List Span)))]⟩ (o1 (And.intro (show 2 = ([(Span.mk (-50) 50), (Span.mk (-60) 60)] : List Span).length from rfl) (show 2 = ([(Span.mk (-50) 50), (Span.mk (-60) 60)] : List Span).length from rfl))) (by kernel_rfl) ?_
  obtain rfl := Option.some.inj hm
  refine H_swap 1 0 (by kernel_rfl) ?_
  refine R_ret (by kernel_rfl) ?_
  exact ret_mk (by kernel_rfl) (by kernel_rfl)

end Saw
end Go.SL
