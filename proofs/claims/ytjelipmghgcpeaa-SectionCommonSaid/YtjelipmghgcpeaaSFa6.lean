import Derived.Test.YtjelipmghgcpeaaSBase
import Derived.Test.YtjelipmghgcpeaaSFa3
import Derived.Test.YtjelipmghgcpeaaSFa4
import Derived.Test.YtjelipmghgcpeaaSFa5
set_option linter.unusedVariables false
set_option linter.unusedSimpArgs false
namespace Go.SL
namespace Saw
open Go.Proofs
set_option maxHeartbeats 4000000

def section_Shift_x (r : Section) : V := va [ci r.Low, tl e_Span default r.Rows]

def section_Shift_o (r : Section) : List (Nat × (Nat × O)) := []

def section_Shift_k3_S (a2 : Int) (a3 : Int) (v4 : Section) (x12 : Int) (l20 : List Span) (l20n : Nat) : St :=
  ⟨[(1, vi a2), (6, vp 1 0), (7, vp 3 0), (38, vc (tl e_Span default v4.Rows)), (39, vi ((v4.Rows.length : Nat) : Int)), (40, vi x12)], [(1, bx 24 [ci 0, .emp]), (2, ro 0 35 2 l20n (rf e_Span l20)), (3, bx 24 [ci (w64 (v4.Low + a3)), .own 2 0 2 l20n])]⟩

def section_Shift_L2_S (a2 : Int) (a3 : Int) (v4 : Section) (x12 : Int) (l13 : List Span) (l13n : Nat) : St :=
  ⟨[(1, vi a2), (6, vp 1 0), (7, vp 3 0), (38, vc (tl e_Span default v4.Rows)), (39, vi ((v4.Rows.length : Nat) : Int)), (40, vi x12)], [(1, bx 24 [ci 0, .emp]), (2, ro 0 35 2 l13n (rf e_Span l13)), (3, bx 24 [ci (w64 (v4.Low + a3)), .own 2 0 2 l13n])]⟩

def section_Shift_L2_T (a3 : Int) (v4 : Section) (l21 : List Span) : St :=
  ⟨[(6, vp 1 0), (7, vp 3 0)], [(1, bx 24 [ci 0, .emp]), (2, ro 0 35 2 l21.length (rf e_Span l21)), (3, bx 24 [ci (w64 (v4.Low + a3)), .own 2 0 2 l21.length])]⟩

def section_Shift_k1_S (a2 : Int) (a3 : Int) (v4 : Section) (x8 : Bool) : St :=
  ⟨[(1, vi a2), (2, vi a3), (3, vp 0 0), (6, vp 1 0), (27, vb x8)], [(0, bx 24 [ci v4.Low, tl e_Span default v4.Rows]), (1, bx 24 [ci 0, .emp])]⟩

set_option maxRecDepth 100000 in
theorem section_Shift_L2_ok (E : Env 0) (a2 : Int) (a3 : Int) (v4 : Section) : ∀ (n : Nat) (x12 : Int) (l13 : List Span) (l13n : Nat) (res : (List Span)), l13.length = l13n → section_Shift_L2 a2 v4 n x12 l13 = some res → HL (kx E 64 0) (nd Try.f25 500) (loopQ0 0 (fun o => section_Shift_L2_T a3 v4 o) res) n (section_Shift_L2_S a2 a3 v4 x12 l13 l13n) := by
  intro n
  induction n with
  | zero =>
    intro x12 l13 l13n res hl0 hm
    cases hm
  | succ n ih =>
    intro x12 l13 l13n res hl0 hm
    subst hl0
    refine HL_succ ?_
    refine R_sq Try.f25 1000 1001 (by kernel_rfl) ?_
    refine R_rn Try.f25 1000 6 [] [] 4 ⟨[(1, vi a2), (6, vp 1 0), (7, vp 3 0), (38, vc (tl e_Span default v4.Rows)), (39, vi ((v4.Rows.length : Nat) : Int)), (40, vi x12), (41, vb (decide (x12 < ((v4.Rows.length : Nat) : Int))))], [(1, bx 24 [ci 0, .emp]), (2, ro 0 35 2 l13.length (rf e_Span l13)), (3, bx 24 [ci (w64 (v4.Low + a3)), .own 2 0 2 l13.length])]⟩ o0 (by kernel_rfl) (by kernel_rfl) ?_
    refine R_sq Try.f25 2002 2003 (by kernel_rfl) ?_
    refine R_cn Try.f25 (.tmp 41) 4004 4005 (by kernel_rfl) (decide (x12 < ((v4.Rows.length : Nat) : Int))) (by kernel_rfl) (fun b14 => ?_) (fun b14 => ?_)
    · replace hm := bif_t b14 hm
      refine R_skip (by kernel_rfl) ?_
      refine R_join (ι := (List Span) × Nat) (nd Try.f25 4006) (nd Try.f25 4007) (by kernel_rfl) (fun p => section_Shift_k3_S a2 a3 v4 x12 p.1 p.2) (fun p => p.1.length = p.2 ∧ section_Shift_k3 x12 (section_Shift_L2 a2 v4 n) p.1 = some res) ?_ ?_
      · rintro ⟨l20, l20n⟩ ⟨el20, hm⟩
        replace el20 : l20.length = l20n := el20
        subst el20
        show H _ (section_Shift_k3_S a2 a3 v4 x12 l20 l20.length) (nd Try.f25 4007) _
        refine R_rn Try.f25 4007 10 [] [] 5 ⟨[(1, vi a2), (6, vp 1 0), (7, vp 3 0), (38, vc (tl e_Span default v4.Rows)), (39, vi ((v4.Rows.length : Nat) : Int)), (40, vi (w64 (x12 + 1)))], [(1, bx 24 [ci 0, .emp]), (2, ro 0 35 2 l20.length (rf e_Span l20)), (3, bx 24 [ci (w64 (v4.Low + a3)), .own 2 0 2 l20.length])]⟩ o0 (by kernel_rfl) (by kernel_rfl) ?_
        exact HL_enter (section_Shift_L2_S a2 a3 v4 (w64 (x12 + 1)) l20 l20.length) (by kernel_rfl) (by kernel_rfl) (ih (w64 (x12 + 1)) l20 l20.length _ rfl hm)
      · refine R_bk Try.f25 1 8012 (by kernel_rfl) ?_
        refine R_sq Try.f25 16024 16025 (by kernel_rfl) ?_
        obtain ⟨g15, hm⟩ := bif_n hm
        refine R_rn Try.f25 16024 7 [] [] 4 ⟨[(1, vi a2), (6, vp 1 0), (7, vp 3 0), (8, vi x12), (9, vp 4 0), (38, vc (tl e_Span default v4.Rows)), (39, vi ((v4.Rows.length : Nat) : Int)), (40, vi x12)], [(1, bx 24 [ci 0, .emp]), (2, ro 0 35 2 l13.length (rf e_Span l13)), (3, bx 24 [ci (w64 (v4.Low + a3)), .own 2 0 2 l13.length]), (4, bx 35 [ci ((v4.Rows.getD x12.toNat default).A), ci ((v4.Rows.getD x12.toNat default).B)])]⟩ (o1 (inb_of g15)) (by kernel_rfl) (by kernel_rfl) ?_
        refine R_sq Try.f25 32050 32051 (by kernel_rfl) ?_
        obtain ⟨v16, h17, hm⟩ := bind_s hm
        refine R_rn Try.f25 32050 8 [(1, dex (cen [] [] 5 0 (section_isEmpty_x v16) (section_isEmpty_o v16) [45] []))] [] 5 ⟨[(1, vi a2), (6, vp 1 0), (7, vp 3 0), (8, vi x12), (9, vp 4 0), (38, vc (tl e_Span default v4.Rows)), (39, vi ((v4.Rows.length : Nat) : Int)), (40, vi x12), (47, vb (!v16))], [(1, bx 24 [ci 0, .emp]), (2, ro 0 35 2 l13.length (rf e_Span l13)), (3, bx 24 [ci (w64 (v4.Low + a3)), .own 2 0 2 l13.length]), (4, bx 35 [ci ((v4.Rows.getD x12.toNat default).A), ci ((v4.Rows.getD x12.toNat default).B)])]⟩ (o1 (callS (K := (kx E 64 0)) ⟨[(45, va [ci ((v4.Rows.getD x12.toNat default).A), ci ((v4.Rows.getD x12.toNat default).B)])], []⟩ (opAt (rg Try.f25 32050) 1) [] [] 5 o0 rfl (section_isEmpty_ok (v4.Rows.getD x12.toNat default) v16 h17) (.inl rfl) (by kernel_rfl))) (by kernel_rfl) (by kernel_rfl) ?_
        refine R_cn Try.f25 (.tmp 47) 64102 64103 (by kernel_rfl) (!v16) (by kernel_rfl) (fun b18 => ?_) (fun b18 => ?_)
        · replace hm := bif_t b18 hm
          obtain ⟨g19, hm⟩ := bif_n hm
          refine R_rn Try.f25 64102 9 [(13, drw 0 0 (rf e_Span (l13.set x12.toNat (Span.mk (w64 (((v4.Rows.getD x12.toNat default).A) + a2)) (w64 (((v4.Rows.getD x12.toNat default).B) + a2))))))] [] 5 ⟨[(1, vi a2), (6, vp 1 0), (7, vp 3 0), (38, vc (tl e_Span default v4.Rows)), (39, vi ((v4.Rows.length : Nat) : Int)), (40, vi x12)], [(1, bx 24 [ci 0, .emp]), (2, ro 0 35 2 l13.length (rf e_Span (l13.set x12.toNat (Span.mk (w64 (((v4.Rows.getD x12.toNat default).A) + a2)) (w64 (((v4.Rows.getD x12.toNat default).B) + a2)))))), (3, bx 24 [ci (w64 (v4.Low + a3)), .own 2 0 2 l13.length])]⟩ (o1 (And.intro (inb_of g19) (stP e_Span default (Span.mk (w64 (((v4.Rows.getD x12.toNat default).A) + a2)) (w64 (((v4.Rows.getD x12.toNat default).B) + a2))) l13 l13.length x12.toNat 0 [ci (w64 (((v4.Rows.getD x12.toNat default).A) + a2)), ci (w64 (((v4.Rows.getD x12.toNat default).B) + a2))] rfl (toNat_lt (inb_of g19)) rfl))) (by kernel_rfl) (by kernel_rfl) ?_
          exact J_mk ((l13.set x12.toNat (Span.mk (w64 (((v4.Rows.getD x12.toNat default).A) + a2)) (w64 (((v4.Rows.getD x12.toNat default).B) + a2)))), l13.length) ⟨(len_set rfl), hm⟩ (by kernel_rfl) (by kernel_rfl)
        · replace hm := bif_f b18 hm
          refine R_skip (by kernel_rfl) ?_
          exact J_mk (l13, l13.length) ⟨rfl, hm⟩ (by kernel_rfl) (by kernel_rfl)
    · replace hm := bif_f b14 hm
      refine R_exit 0 (by kernel_rfl) ?_
      obtain rfl := Option.some.inj hm
      exact L0_mk (by kernel_rfl) (by kernel_rfl)

set_option maxRecDepth 100000 in
theorem section_Shift_ok (a1 : Section) (a2 : Int) (a3 : Int) (r : Section) (hm : section_Shift a1 a2 a3 = some r) : CtX Try.prog globs 25 0 0 [.agg [ci a1.Low, tl e_Span default a1.Rows], .one (ci a2), .one (ci a3)] [] (section_Shift_x r) (section_Shift_o r) := by
  unfold section_Shift at hm
  refine CtX_of_E (fn := Try.f25) (c := nd Try.f25 1) (nt := 64) (by kernel_rfl) (by kernel_rfl) (by kernel_rfl) (by kernel_rfl) fun E => ?_
  refine R_sq Try.f25 2 3 (by kernel_rfl) ?_
  refine R_rn Try.f25 2 0 [] [] 0 ⟨[(1, vi a2), (2, vi a3), (3, vp 0 0), (6, vp 1 0)], [(0, bx 24 [ci a1.Low, tl e_Span default a1.Rows]), (1, bx 24 [ci 0, .emp])]⟩ o0 (by kernel_rfl) (by kernel_rfl) ?_
  refine R_sq Try.f25 6 7 (by kernel_rfl) ?_
  obtain ⟨v4, h5, hm⟩ := bind_s hm
  refine R_rn Try.f25 6 1 [(1, dex (cen [] [] 2 0 (section_valid_x v4) (section_valid_o v4) [10] []))] [] 2 ⟨[(1, vi a2), (2, vi a3), (3, vp 0 0), (6, vp 1 0)], [(0, bx 24 [ci v4.Low, tl e_Span default v4.Rows]), (1, bx 24 [ci 0, .emp])]⟩ (o1 (callS (K := (kx E 64 0)) ⟨[(10, va [ci a1.Low, tl e_Span default a1.Rows])], []⟩ (opAt (rg Try.f25 6) 1) [] [] 2 o0 rfl (section_valid_ok a1 v4 h5) (.inl rfl) (by kernel_rfl))) (by kernel_rfl) (by kernel_rfl) ?_
  refine R_sq Try.f25 14 15 (by kernel_rfl) ?_
  refine R_join (ι := Bool) (nd Try.f25 28) (nd Try.f25 29) (by kernel_rfl) (fun p => section_Shift_k1_S a2 a3 v4 p) (fun p => section_Shift_k1 a2 a3 v4 p = some r) ?_ ?_
  · rintro x8 hm
    show H _ (section_Shift_k1_S a2 a3 v4 x8) (nd Try.f25 29) _
    refine R_cn Try.f25 (.tmp 27) 58 59 (by kernel_rfl) x8 (by kernel_rfl) (fun b9 => ?_) (fun b9 => ?_)
    · replace hm := bif_t b9 hm
      refine R_sq Try.f25 116 117 (by kernel_rfl) ?_
      refine R_rn Try.f25 116 3 [] [] 2 ⟨[(6, vp 1 0)], [(1, bx 24 [ci 0, .emp])]⟩ o0 (by kernel_rfl) (by kernel_rfl) ?_
      refine H_fin [.ownB 1 1 2 35 2 (rf e_Span ([] : List Span))] ⟨[(6, vp 1 0)], [(1, bx 24 [ci 0, .own 2 0 2 0]), (2, ro 0 35 2 0 (rf e_Span ([] : List Span)))]⟩ o0 (by kernel_rfl) ?_
      refine H_fin [.len 2 (([] : List Span).length), .frz 2] ⟨[(6, vp 1 0)], [(1, bx 24 [ci 0, tl e_Span default ([] : List Span)])]⟩ (o1 (And.intro (And.intro (show 0 = ([] : List Span).length from rfl) (show 0 = ([] : List Span).length from rfl)) (Nat.le_refl (([] : List Span).length)))) (by kernel_rfl) ?_
      obtain rfl := Option.some.inj hm
      refine R_ret (by kernel_rfl) ?_
      exact ret_mk (by kernel_rfl) (by kernel_rfl)
    · replace hm := bif_f b9 hm
      refine R_skip (by kernel_rfl) ?_
      refine R_sq Try.f25 30 31 (by kernel_rfl) ?_
      obtain ⟨v10, h11, hm⟩ := bind_s hm
      refine R_dr Try.f25 30 4 [] [(6, dex (cen [] [] 2 0 (slices_Clone_SSpan_x v10) (slices_Clone_SSpan_o v10) [34] []))] [] [0, 1, 0, 7, 0, 16, 48, 127, 0, 511] 2 ⟨[(1, vi a2), (3, vp 0 0), (6, vp 1 0), (7, vp 3 0)], [(0, bx 24 [ci v4.Low, tl e_Span default v4.Rows]), (1, bx 24 [ci 0, .emp]), (2, ro 0 35 2 v10.length (rf e_Span v10)), (3, bx 24 [ci (w64 (v4.Low + a3)), .own 2 0 2 v10.length])]⟩ (o1 (callS (K := (kx E 64 0)) ⟨[(34, vc (tl e_Span default v4.Rows))], []⟩ (opAt (rg Try.f25 30) 6) [] [] 2 o0 rfl (slices_Clone_SSpan_ok v4.Rows v10 h11) (.inl rfl) (by kernel_rfl))) (by kernel_rfl) (by kernel_rfl) ?_
      refine R_sq Try.f25 62 63 (by kernel_rfl) ?_
      refine R_sq Try.f25 124 125 (by kernel_rfl) ?_
      refine R_rn Try.f25 124 5 [] [] 4 ⟨[(1, vi a2), (6, vp 1 0), (7, vp 3 0), (38, vc (tl e_Span default v4.Rows)), (39, vi ((v4.Rows.length : Nat) : Int)), (40, vi 0)], [(1, bx 24 [ci 0, .emp]), (2, ro 0 35 2 v10.length (rf e_Span v10)), (3, bx 24 [ci (w64 (v4.Low + a3)), .own 2 0 2 v10.length])]⟩ o0 (by kernel_rfl) (by kernel_rfl) ?_
      obtain ⟨o22, h23, hm⟩ := bind_s hm
      refine R_loop0 (nd Try.f25 500) 0 (by kernel_rfl) FUEL (fun o => section_Shift_L2_T a3 v4 o) o22 (HL_enter (section_Shift_L2_S a2 a3 v4 0 v10 v10.length) (by kernel_rfl) (by kernel_rfl) (section_Shift_L2_ok E a2 a3 v4 FUEL 0 v10 v10.length o22 rfl h23)) ?_
      refine R_sq Try.f25 126 127 (by kernel_rfl) ?_
      obtain ⟨v24, h25, hm⟩ := bind_s hm
      refine R_rn Try.f25 126 11 [(1, dpr [.frz 2] (dex (cen [] [] 4 0 (section_valid_x v24) (section_valid_o v24) [62] [])))] [] 4 ⟨[(6, vp 1 0)], [(1, bx 24 [ci v24.Low, tl e_Span default v24.Rows])]⟩ (o1 (And.intro (And.intro (Nat.le_refl o22.length) (Nat.le_refl o22.length)) (callS (K := (kx E 64 0)) ⟨[(62, va [ci (w64 (v4.Low + a3)), tl e_Span default o22])], []⟩ (opAt (rg Try.f25 126) 1) [] [] 4 o0 rfl (section_valid_ok (Section.mk (w64 (v4.Low + a3)) o22) v24 h25) (.inl rfl) (by kernel_rfl)))) (by kernel_rfl) (by kernel_rfl) ?_
      obtain rfl := Option.some.inj hm
      refine R_ret (by kernel_rfl) ?_
      exact ret_mk (by kernel_rfl) (by kernel_rfl)
  · rcases Bool.eq_false_or_eq_true (((v4.Rows.length : Nat) : Int) == 0) with b6 | b6
    · replace hm := bif_t b6 hm
      refine R_rn Try.f25 28 2 [(4, dfx true)] [] 2 ⟨[(1, vi a2), (2, vi a3), (3, vp 0 0), (6, vp 1 0), (27, vb true)], [(0, bx 24 [ci v4.Low, tl e_Span default v4.Rows]), (1, bx 24 [ci 0, .emp])]⟩ (o1 b6) (by kernel_rfl) (by kernel_rfl) ?_
      exact J_mk (true) hm (by kernel_rfl) (by kernel_rfl)
    · replace hm := bif_f b6 hm
      rcases Bool.eq_false_or_eq_true (decide ((imax a2 a3) > 1200)) with b7 | b7
      · replace hm := bif_t b7 hm
        refine R_rn Try.f25 28 2 [(4, dfx false), (10, dfx true)] [] 2 ⟨[(1, vi a2), (2, vi a3), (3, vp 0 0), (6, vp 1 0), (27, vb true)], [(0, bx 24 [ci v4.Low, tl e_Span default v4.Rows]), (1, bx 24 [ci 0, .emp])]⟩ (o1 (And.intro b6 b7)) (by kernel_rfl) (by kernel_rfl) ?_
        exact J_mk (true) hm (by kernel_rfl) (by kernel_rfl)
      · replace hm := bif_f b7 hm
        refine R_rn Try.f25 28 2 [(4, dfx false), (10, dfx false)] [] 2 ⟨[(1, vi a2), (2, vi a3), (3, vp 0 0), (6, vp 1 0), (27, vb (decide ((imin a2 a3) < (-1200))))], [(0, bx 24 [ci v4.Low, tl e_Span default v4.Rows]), (1, bx 24 [ci 0, .emp])]⟩ (o1 (And.intro b6 b7)) (by kernel_rfl) (by kernel_rfl) ?_
        exact J_mk (decide ((imin a2 a3) < (-1200))) hm (by kernel_rfl) (by kernel_rfl)

end Saw
end Go.SL

namespace Go.SL
namespace Saw
open Go.Proofs
set_option maxHeartbeats 4000000

def ref10_beyond_x (r : Bool) : V := vb r

def ref10_beyond_o (r : Bool) : List (Nat × (Nat × O)) := []

theorem ref10_beyond_f (r : Bool) : Frozen (ref10_beyond_o r) := by
  intro i k o h
  unfold ref10_beyond_o at h
  cases h

def ref10_beyond_k1_S (x3 : Bool) : St :=
  ⟨[(2, vb x3)], []⟩

set_option maxRecDepth 100000 in
theorem ref10_beyond_ok (a1 : Int) (r : Bool) (hm : ref10_beyond a1 = some r) : CtX Try.prog globs 41 0 0 [.one (ci a1)] [] (ref10_beyond_x r) (ref10_beyond_o r) := by
  unfold ref10_beyond at hm
  refine CtX_of_E (fn := Try.f41) (c := nd Try.f41 1) (nt := 9) (by kernel_rfl) (by kernel_rfl) (by kernel_rfl) (by kernel_rfl) fun E => ?_
  refine R_sq Try.f41 2 3 (by kernel_rfl) ?_
  refine R_rn Try.f41 2 0 [] [] 0 ⟨[(0, vi a1)], []⟩ o0 (by kernel_rfl) (by kernel_rfl) ?_
  refine R_join (ι := Bool) (nd Try.f41 6) (nd Try.f41 7) (by kernel_rfl) (fun p => ref10_beyond_k1_S p) (fun p => ref10_beyond_k1 p = some r) ?_ ?_
  · rintro x3 hm
    show H _ (ref10_beyond_k1_S x3) (nd Try.f41 7) _
    obtain rfl := Option.some.inj hm
    refine R_ret (by kernel_rfl) ?_
    exact ret_mk (by kernel_rfl) (by kernel_rfl)
  · rcases Bool.eq_false_or_eq_true (decide (a1 < (-600))) with b2 | b2
    · replace hm := bif_t b2 hm
      refine R_rn Try.f41 6 1 [(2, dfx true)] [] 0 ⟨[(2, vb true)], []⟩ (o1 b2) (by kernel_rfl) (by kernel_rfl) ?_
      exact J_mk (true) hm (by kernel_rfl) (by kernel_rfl)
    · replace hm := bif_f b2 hm
      refine R_rn Try.f41 6 1 [(2, dfx false)] [] 0 ⟨[(2, vb (decide (a1 > 600)))], []⟩ (o1 b2) (by kernel_rfl) (by kernel_rfl) ?_
      exact J_mk (decide (a1 > 600)) hm (by kernel_rfl) (by kernel_rfl)

end Saw
end Go.SL

namespace Go.SL
namespace Saw
open Go.Proofs
set_option maxHeartbeats 4000000

def ref10_empty_x (r : Bool) : V := vb r

def ref10_empty_o (r : Bool) : List (Nat × (Nat × O)) := []

theorem ref10_empty_f (r : Bool) : Frozen (ref10_empty_o r) := by
  intro i k o h
  unfold ref10_empty_o at h
  cases h

set_option maxRecDepth 100000 in
theorem ref10_empty_ok (a1 : Span) (r : Bool) (hm : ref10_empty a1 = some r) : CtX Try.prog globs 42 0 0 [.agg [ci a1.A, ci a1.B]] [] (ref10_empty_x r) (ref10_empty_o r) := by
  unfold ref10_empty at hm
  refine CtX_of_E (fn := Try.f42) (c := nd Try.f42 1) (nt := 8) (by kernel_rfl) (by kernel_rfl) (by kernel_rfl) (by kernel_rfl) fun E => ?_
  refine R_sq Try.f42 2 3 (by kernel_rfl) ?_
  refine R_rn Try.f42 2 0 [] [] 0 ⟨[(1, vp 0 0)], [(0, bx 35 [ci a1.A, ci a1.B])]⟩ o0 (by kernel_rfl) (by kernel_rfl) ?_
  refine R_sq Try.f42 6 7 (by kernel_rfl) ?_
  refine R_rn Try.f42 6 1 [] [] 1 ⟨[(2, vb (decide (a1.A ≥ a1.B)))], []⟩ o0 (by kernel_rfl) (by kernel_rfl) ?_
  obtain rfl := Option.some.inj hm
  refine R_ret (by kernel_rfl) ?_
  exact ret_mk (by kernel_rfl) (by kernel_rfl)

end Saw
end Go.SL

namespace Go.SL
namespace Saw
open Go.Proofs
set_option maxHeartbeats 4000000

def ref10_Check_x (r : Int) : V := vi r

def ref10_Check_o (r : Int) : List (Nat × (Nat × O)) := []

theorem ref10_Check_f (r : Int) : Frozen (ref10_Check_o r) := by
  intro i k o h
  unfold ref10_Check_o at h
  cases h

def ref10_Check_k3_S (a1 : Section) (x6 : Int) (x14 : Bool) : St :=
  ⟨[(1, vp 0 0), (3, vi ((a1.Rows.length : Nat) : Int)), (4, vi x6), (41, vb x14)], [(0, bx 24 [ci a1.Low, tl e_Span default a1.Rows])]⟩

def ref10_Check_L2_S (a1 : Section) (x6 : Int) : St :=
  ⟨[(1, vp 0 0), (3, vi ((a1.Rows.length : Nat) : Int)), (4, vi x6)], [(0, bx 24 [ci a1.Low, tl e_Span default a1.Rows])]⟩

def ref10_Check_L2_T (a1 : Section) : St :=
  ⟨[(1, vp 0 0), (3, vi ((a1.Rows.length : Nat) : Int))], [(0, bx 24 [ci a1.Low, tl e_Span default a1.Rows])]⟩

def ref10_Check_k6_S (a1 : Section) (x31 : Int) (x37 : Bool) : St :=
  ⟨[(1, vp 0 0), (3, vi ((a1.Rows.length : Nat) : Int)), (5, vi x31), (80, vb x37)], [(0, bx 24 [ci a1.Low, tl e_Span default a1.Rows])]⟩

def ref10_Check_L5_S (a1 : Section) (x31 : Int) : St :=
  ⟨[(1, vp 0 0), (3, vi ((a1.Rows.length : Nat) : Int)), (5, vi x31)], [(0, bx 24 [ci a1.Low, tl e_Span default a1.Rows])]⟩

def ref10_Check_L5_T : St :=
  ⟨[], []⟩

def ref10_Check_k4_S (a1 : Section) (x29 : Bool) : St :=
  ⟨[(1, vp 0 0), (3, vi ((a1.Rows.length : Nat) : Int)), (60, vb x29)], [(0, bx 24 [ci a1.Low, tl e_Span default a1.Rows])]⟩

def ref10_Check_k1_S (a1 : Section) (x4 : Bool) : St :=
  ⟨[(1, vp 0 0), (3, vi ((a1.Rows.length : Nat) : Int)), (20, vb x4)], [(0, bx 24 [ci a1.Low, tl e_Span default a1.Rows])]⟩

set_option maxRecDepth 100000 in
theorem ref10_Check_L2_ok (E : Env 0) (a1 : Section) : ∀ (n : Nat) (x6 : Int) (res : Int ⊕ Unit), ref10_Check_L2 a1 n x6 = some res → HL (kx E 81 0) (nd Try.f14 500) (loopQ 0 (fun o => ref10_Check_L2_T a1) (fun v st => RetQ Try.prog Try.f14 (ref10_Check_x v) (ref10_Check_o v) .ret st) res) n (ref10_Check_L2_S a1 x6) := by
  intro n
  induction n with
  | zero =>
    intro x6 res hm
    cases hm
  | succ n ih =>
    intro x6 res hm
    refine HL_succ ?_
    refine R_sq Try.f14 1000 1001 (by kernel_rfl) ?_
    refine R_sq Try.f14 2000 2001 (by kernel_rfl) ?_
    refine R_rn Try.f14 2000 7 [] [] 1 ⟨[(1, vp 0 0), (3, vi ((a1.Rows.length : Nat) : Int)), (4, vi x6), (23, vb (decide (x6 < ((a1.Rows.length : Nat) : Int))))], [(0, bx 24 [ci a1.Low, tl e_Span default a1.Rows])]⟩ o0 (by kernel_rfl) (by kernel_rfl) ?_
    refine R_cn Try.f14 (.tmp 23) 4002 4003 (by kernel_rfl) (decide (x6 < ((a1.Rows.length : Nat) : Int))) (by kernel_rfl) (fun b7 => ?_) (fun b7 => ?_)
    · replace hm := bif_t b7 hm
      refine R_skip (by kernel_rfl) ?_
      refine R_sq Try.f14 2002 2003 (by kernel_rfl) ?_
      refine R_bk Try.f14 1 4004 (by kernel_rfl) ?_
      refine R_join (ι := Bool) (nd Try.f14 8008) (nd Try.f14 8009) (by kernel_rfl) (fun p => ref10_Check_k3_S a1 x6 p) (fun p => ref10_Check_k3 x6 (ref10_Check_L2 a1 n) p = some res) ?_ ?_
      · rintro x14 hm
        show H _ (ref10_Check_k3_S a1 x6 x14) (nd Try.f14 8009) _
        refine R_cn Try.f14 (.tmp 41) 16018 16019 (by kernel_rfl) x14 (by kernel_rfl) (fun b15 => ?_) (fun b15 => ?_)
        · replace hm := bif_t b15 hm
          refine R_sq Try.f14 32036 32037 (by kernel_rfl) ?_
          refine R_rn Try.f14 32036 10 [] [] 1 ⟨[(2, vi 9)], []⟩ o0 (by kernel_rfl) (by kernel_rfl) ?_
          obtain rfl := Option.some.inj hm
          refine R_ret (by kernel_rfl) ?_
          refine L1_ret 9 ?_
          exact ret_mk (by kernel_rfl) (by kernel_rfl)
        · replace hm := bif_f b15 hm
          refine R_skip (by kernel_rfl) ?_
          refine R_rn Try.f14 2003 8 [] [] 1 ⟨[(1, vp 0 0), (3, vi ((a1.Rows.length : Nat) : Int)), (4, vi (w64 (x6 + 1)))], [(0, bx 24 [ci a1.Low, tl e_Span default a1.Rows])]⟩ o0 (by kernel_rfl) (by kernel_rfl) ?_
          exact HL_enter (ref10_Check_L2_S a1 (w64 (x6 + 1))) (by kernel_rfl) (by kernel_rfl) (ih (w64 (x6 + 1)) _ hm)
      · obtain ⟨g8, hm⟩ := bif_n hm
        obtain ⟨v9, h10, hm⟩ := bind_s hm
        rcases Bool.eq_false_or_eq_true v9 with b11 | b11
        · replace hm := bif_t b11 hm
          refine R_rn Try.f14 8008 9 [(6, dex (cen [] [] 1 0 (ref10_beyond_x v9) (ref10_beyond_o v9) [31] [])), (7, dfx true)] [] 1 ⟨[(1, vp 0 0), (3, vi ((a1.Rows.length : Nat) : Int)), (4, vi x6), (41, vb true)], [(0, bx 24 [ci a1.Low, tl e_Span default a1.Rows])]⟩ (o1 (And.intro (inb_of g8) (And.intro (callS (K := (kx E 81 0)) ⟨[(31, vi ((a1.Rows.getD x6.toNat default).A))], []⟩ (opAt (rg Try.f14 8008) 6) [] [] 1 o0 rfl (ref10_beyond_ok ((a1.Rows.getD x6.toNat default).A) v9 h10) (.inl rfl) (by kernel_rfl)) b11))) (by kernel_rfl) (by kernel_rfl) ?_
          exact J_mk (true) hm (by kernel_rfl) (by kernel_rfl)
        · replace hm := bif_f b11 hm
          obtain ⟨v12, h13, hm⟩ := bind_s hm
          refine R_rn Try.f14 8008 9 [(6, dex (cen [] [] 1 0 (ref10_beyond_x v9) (ref10_beyond_o v9) [31] [])), (7, dfx false), (14, dex (cen [] [] 1 0 (ref10_beyond_x v12) (ref10_beyond_o v12) [33, 39] []))] [] 1 ⟨[(1, vp 0 0), (3, vi ((a1.Rows.length : Nat) : Int)), (4, vi x6), (34, vp 0 1), (35, vc (tl e_Span default a1.Rows)), (36, vi x6), (37, vc (.lptr (e_Span (a1.Rows.getD x6.toNat default)))), (38, vc (.lptr ((e_Span (a1.Rows.getD x6.toNat default)).drop 1))), (39, vi ((a1.Rows.getD x6.toNat default).B)), (40, vb v12), (41, vb v12)], [(0, bx 24 [ci a1.Low, tl e_Span default a1.Rows])]⟩ (o1 (And.intro (inb_of g8) (And.intro (callS (K := (kx E 81 0)) ⟨[(31, vi ((a1.Rows.getD x6.toNat default).A))], []⟩ (opAt (rg Try.f14 8008) 6) [] [] 1 o0 rfl (ref10_beyond_ok ((a1.Rows.getD x6.toNat default).A) v9 h10) (.inl rfl) (by kernel_rfl)) (And.intro b11 (And.intro (inb_of g8) (callS (K := (kx E 81 0)) ⟨[(33, vb false), (39, vi ((a1.Rows.getD x6.toNat default).B))], []⟩ (opAt (rg Try.f14 8008) 14) [] [] 1 o0 rfl (ref10_beyond_ok ((a1.Rows.getD x6.toNat default).B) v12 h13) (.inl rfl) (by kernel_rfl))))))) (by kernel_rfl) (by kernel_rfl) ?_
          exact J_mk (v12) hm (by kernel_rfl) (by kernel_rfl)
    · replace hm := bif_f b7 hm
      refine R_exit 0 (by kernel_rfl) ?_
      obtain rfl := Option.some.inj hm
      exact L1_mk () (by kernel_rfl) (by kernel_rfl)

set_option maxRecDepth 100000 in
theorem ref10_Check_L5_ok (E : Env 0) (a1 : Section) : ∀ (n : Nat) (x31 : Int) (res : Int ⊕ Unit), ref10_Check_L5 a1 n x31 = some res → HL (kx E 81 0) (nd Try.f14 4084) (loopQ 2 (fun o => ref10_Check_L5_T) (fun v st => RetQ Try.prog Try.f14 (ref10_Check_x v) (ref10_Check_o v) .ret st) res) n (ref10_Check_L5_S a1 x31) := by
  intro n
  induction n with
  | zero =>
    intro x31 res hm
    cases hm
  | succ n ih =>
    intro x31 res hm
    refine HL_succ ?_
    refine R_sq Try.f14 8168 8169 (by kernel_rfl) ?_
    refine R_sq Try.f14 16336 16337 (by kernel_rfl) ?_
    refine R_rn Try.f14 16336 18 [] [] 1 ⟨[(1, vp 0 0), (3, vi ((a1.Rows.length : Nat) : Int)), (5, vi x31), (63, vb (decide (x31 < ((a1.Rows.length : Nat) : Int))))], [(0, bx 24 [ci a1.Low, tl e_Span default a1.Rows])]⟩ o0 (by kernel_rfl) (by kernel_rfl) ?_
    refine R_cn Try.f14 (.tmp 63) 32674 32675 (by kernel_rfl) (decide (x31 < ((a1.Rows.length : Nat) : Int))) (by kernel_rfl) (fun b32 => ?_) (fun b32 => ?_)
    · replace hm := bif_t b32 hm
      refine R_skip (by kernel_rfl) ?_
      refine R_sq Try.f14 16338 16339 (by kernel_rfl) ?_
      refine R_bk Try.f14 3 32676 (by kernel_rfl) ?_
      refine R_join (ι := Bool) (nd Try.f14 65352) (nd Try.f14 65353) (by kernel_rfl) (fun p => ref10_Check_k6_S a1 x31 p) (fun p => ref10_Check_k6 x31 (ref10_Check_L5 a1 n) p = some res) ?_ ?_
      · rintro x37 hm
        show H _ (ref10_Check_k6_S a1 x31 x37) (nd Try.f14 65353) _
        refine R_cn Try.f14 (.tmp 80) 130706 130707 (by kernel_rfl) x37 (by kernel_rfl) (fun b38 => ?_) (fun b38 => ?_)
        · replace hm := bif_t b38 hm
          refine R_sq Try.f14 261412 261413 (by kernel_rfl) ?_
          refine R_rn Try.f14 261412 21 [] [] 1 ⟨[(2, vi 19)], []⟩ o0 (by kernel_rfl) (by kernel_rfl) ?_
          obtain rfl := Option.some.inj hm
          refine R_ret (by kernel_rfl) ?_
          refine L1_ret 19 ?_
          exact ret_mk (by kernel_rfl) (by kernel_rfl)
        · replace hm := bif_f b38 hm
          refine R_skip (by kernel_rfl) ?_
          refine R_rn Try.f14 16339 19 [] [] 1 ⟨[(1, vp 0 0), (3, vi ((a1.Rows.length : Nat) : Int)), (5, vi (w64 (x31 + 1)))], [(0, bx 24 [ci a1.Low, tl e_Span default a1.Rows])]⟩ o0 (by kernel_rfl) (by kernel_rfl) ?_
          exact HL_enter (ref10_Check_L5_S a1 (w64 (x31 + 1))) (by kernel_rfl) (by kernel_rfl) (ih (w64 (x31 + 1)) _ hm)
      · obtain ⟨g33, hm⟩ := bif_n hm
        obtain ⟨v34, h35, hm⟩ := bind_s hm
        rcases Bool.eq_false_or_eq_true v34 with b36 | b36
        · replace hm := bif_t b36 hm
          refine R_rn Try.f14 65352 20 [(5, dex (cen [] [] 1 0 (ref10_empty_x v34) (ref10_empty_o v34) [70] [])), (6, dfx true)] [] 1 ⟨[(1, vp 0 0), (3, vi ((a1.Rows.length : Nat) : Int)), (5, vi x31), (73, vp 0 1), (74, vc (tl e_Span default a1.Rows)), (75, vi x31), (76, vc (.lptr (e_Span (a1.Rows.getD x31.toNat default)))), (77, va [ci ((a1.Rows.getD x31.toNat default).A), ci ((a1.Rows.getD x31.toNat default).B)]), (78, va [ci 0, ci 0]), (79, vb (!((((a1.Rows.getD x31.toNat default).A) == 0) && ((((a1.Rows.getD x31.toNat default).B) == 0) && true)))), (80, vb (!((((a1.Rows.getD x31.toNat default).A) == 0) && ((((a1.Rows.getD x31.toNat default).B) == 0) && true))))], [(0, bx 24 [ci a1.Low, tl e_Span default a1.Rows])]⟩ (o1 (And.intro (inb_of g33) (And.intro (callS (K := (kx E 81 0)) ⟨[(70, va [ci ((a1.Rows.getD x31.toNat default).A), ci ((a1.Rows.getD x31.toNat default).B)])], []⟩ (opAt (rg Try.f14 65352) 5) [] [] 1 o0 rfl (ref10_empty_ok (a1.Rows.getD x31.toNat default) v34 h35) (.inl rfl) (by kernel_rfl)) (And.intro b36 (inb_of g33))))) (by kernel_rfl) (by kernel_rfl) ?_
          exact J_mk (!((((a1.Rows.getD x31.toNat default).A) == 0) && ((((a1.Rows.getD x31.toNat default).B) == 0) && true))) hm (by kernel_rfl) (by kernel_rfl)
        · replace hm := bif_f b36 hm
          refine R_rn Try.f14 65352 20 [(5, dex (cen [] [] 1 0 (ref10_empty_x v34) (ref10_empty_o v34) [70] [])), (6, dfx false)] [] 1 ⟨[(1, vp 0 0), (3, vi ((a1.Rows.length : Nat) : Int)), (5, vi x31), (80, vb false)], [(0, bx 24 [ci a1.Low, tl e_Span default a1.Rows])]⟩ (o1 (And.intro (inb_of g33) (And.intro (callS (K := (kx E 81 0)) ⟨[(70, va [ci ((a1.Rows.getD x31.toNat default).A), ci ((a1.Rows.getD x31.toNat default).B)])], []⟩ (opAt (rg Try.f14 65352) 5) [] [] 1 o0 rfl (ref10_empty_ok (a1.Rows.getD x31.toNat default) v34 h35) (.inl rfl) (by kernel_rfl)) b36))) (by kernel_rfl) (by kernel_rfl) ?_
          exact J_mk (false) hm (by kernel_rfl) (by kernel_rfl)
    · replace hm := bif_f b32 hm
      refine R_exit 2 (by kernel_rfl) ?_
      obtain rfl := Option.some.inj hm
      exact L1_mk () (by kernel_rfl) (by kernel_rfl)

set_option maxRecDepth 100000 in
theorem ref10_Check_ok (a1 : Section) (r : Int) (hm : ref10_Check a1 = some r) : CtX Try.prog globs 14 0 0 [.agg [ci a1.Low, tl e_Span default a1.Rows]] [] (ref10_Check_x r) (ref10_Check_o r) := by
  unfold ref10_Check at hm
  refine CtX_of_E (fn := Try.f14) (c := nd Try.f14 1) (nt := 81) (by kernel_rfl) (by kernel_rfl) (by kernel_rfl) (by kernel_rfl) fun E => ?_
  refine R_sq Try.f14 2 3 (by kernel_rfl) ?_
  refine R_rn Try.f14 2 0 [] [] 0 ⟨[(1, vp 0 0)], [(0, bx 24 [ci a1.Low, tl e_Span default a1.Rows])]⟩ o0 (by kernel_rfl) (by kernel_rfl) ?_
  refine R_sq Try.f14 6 7 (by kernel_rfl) ?_
  refine R_rn Try.f14 6 1 [] [] 1 ⟨[(1, vp 0 0), (3, vi ((a1.Rows.length : Nat) : Int))], [(0, bx 24 [ci a1.Low, tl e_Span default a1.Rows])]⟩ o0 (by kernel_rfl) (by kernel_rfl) ?_
  refine R_sq Try.f14 14 15 (by kernel_rfl) ?_
  refine R_sq Try.f14 28 29 (by kernel_rfl) ?_
  refine R_rn Try.f14 28 2 [] [] 1 ⟨[(1, vp 0 0), (3, vi ((a1.Rows.length : Nat) : Int)), (10, vb (decide (((a1.Rows.length : Nat) : Int) > 120)))], [(0, bx 24 [ci a1.Low, tl e_Span default a1.Rows])]⟩ o0 (by kernel_rfl) (by kernel_rfl) ?_
  refine R_cn Try.f14 (.tmp 10) 58 59 (by kernel_rfl) (decide (((a1.Rows.length : Nat) : Int) > 120)) (by kernel_rfl) (fun b2 => ?_) (fun b2 => ?_)
  · replace hm := bif_t b2 hm
    refine R_sq Try.f14 116 117 (by kernel_rfl) ?_
    refine R_rn Try.f14 116 3 [] [] 1 ⟨[(2, vi 4)], []⟩ o0 (by kernel_rfl) (by kernel_rfl) ?_
    obtain rfl := Option.some.inj hm
    refine R_ret (by kernel_rfl) ?_
    exact ret_mk (by kernel_rfl) (by kernel_rfl)
  · replace hm := bif_f b2 hm
    refine R_skip (by kernel_rfl) ?_
    refine R_sq Try.f14 30 31 (by kernel_rfl) ?_
    refine R_join (ι := Bool) (nd Try.f14 60) (nd Try.f14 61) (by kernel_rfl) (fun p => ref10_Check_k1_S a1 p) (fun p => ref10_Check_k1 a1 p = some r) ?_ ?_
    · rintro x4 hm
      show H _ (ref10_Check_k1_S a1 x4) (nd Try.f14 61) _
      refine R_cn Try.f14 (.tmp 20) 122 123 (by kernel_rfl) x4 (by kernel_rfl) (fun b5 => ?_) (fun b5 => ?_)
      · replace hm := bif_t b5 hm
        refine R_sq Try.f14 244 245 (by kernel_rfl) ?_
        refine R_rn Try.f14 244 5 [] [] 1 ⟨[(2, vi 9)], []⟩ o0 (by kernel_rfl) (by kernel_rfl) ?_
        obtain rfl := Option.some.inj hm
        refine R_ret (by kernel_rfl) ?_
        exact ret_mk (by kernel_rfl) (by kernel_rfl)
      · replace hm := bif_f b5 hm
        refine R_skip (by kernel_rfl) ?_
        refine R_sq Try.f14 62 63 (by kernel_rfl) ?_
        refine R_sq Try.f14 124 125 (by kernel_rfl) ?_
        refine R_rn Try.f14 124 6 [] [] 1 ⟨[(1, vp 0 0), (3, vi ((a1.Rows.length : Nat) : Int)), (4, vi 0)], [(0, bx 24 [ci a1.Low, tl e_Span default a1.Rows])]⟩ o0 (by kernel_rfl) (by kernel_rfl) ?_
        obtain ⟨u18, h17, hm⟩ := bind_s hm
        refine R_loop1 (nd Try.f14 500) 0 (by kernel_rfl) FUEL (fun o => ref10_Check_L2_T a1) (fun v st => RetQ Try.prog Try.f14 (ref10_Check_x v) (ref10_Check_o v) .ret st) u18 (HL_enter (ref10_Check_L2_S a1 0) (by kernel_rfl) (by kernel_rfl) (ref10_Check_L2_ok E a1 FUEL 0 u18 h17)) ?_ ?_
        · rintro v19 rfl st hr
          obtain rfl := Option.some.inj hm
          exact hr
        · rintro o16 rfl
          replace hm : _ = some r := hm
          refine R_sq Try.f14 126 127 (by kernel_rfl) ?_
          refine R_sq Try.f14 252 253 (by kernel_rfl) ?_
          refine R_rn Try.f14 252 11 [] [] 1 ⟨[(1, vp 0 0), (3, vi ((a1.Rows.length : Nat) : Int)), (43, vb (((a1.Rows.length : Nat) : Int) == 0))], [(0, bx 24 [ci a1.Low, tl e_Span default a1.Rows])]⟩ o0 (by kernel_rfl) (by kernel_rfl) ?_
          refine R_cn Try.f14 (.tmp 43) 506 507 (by kernel_rfl) (((a1.Rows.length : Nat) : Int) == 0) (by kernel_rfl) (fun b20 => ?_) (fun b20 => ?_)
          · replace hm := bif_t b20 hm
            refine R_sq Try.f14 1012 1013 (by kernel_rfl) ?_
            refine R_sq Try.f14 2024 2025 (by kernel_rfl) ?_
            refine R_rn Try.f14 2024 12 [] [] 1 ⟨[(46, vb (a1.Low != 0))], []⟩ o0 (by kernel_rfl) (by kernel_rfl) ?_
            refine R_cn Try.f14 (.tmp 46) 4050 4051 (by kernel_rfl) (a1.Low != 0) (by kernel_rfl) (fun b21 => ?_) (fun b21 => ?_)
            · replace hm := bif_t b21 hm
              refine R_sq Try.f14 8100 8101 (by kernel_rfl) ?_
              refine R_rn Try.f14 8100 13 [] [] 1 ⟨[(2, vi 19)], []⟩ o0 (by kernel_rfl) (by kernel_rfl) ?_
              obtain rfl := Option.some.inj hm
              refine R_ret (by kernel_rfl) ?_
              exact ret_mk (by kernel_rfl) (by kernel_rfl)
            · replace hm := bif_f b21 hm
              refine R_skip (by kernel_rfl) ?_
              refine R_sq Try.f14 2026 2027 (by kernel_rfl) ?_
              refine R_rn Try.f14 2026 14 [] [] 1 ⟨[(2, vi 0)], []⟩ o0 (by kernel_rfl) (by kernel_rfl) ?_
              obtain rfl := Option.some.inj hm
              refine R_ret (by kernel_rfl) ?_
              exact ret_mk (by kernel_rfl) (by kernel_rfl)
          · replace hm := bif_f b20 hm
            refine R_skip (by kernel_rfl) ?_
            refine R_sq Try.f14 254 255 (by kernel_rfl) ?_
            refine R_join (ι := Bool) (nd Try.f14 508) (nd Try.f14 509) (by kernel_rfl) (fun p => ref10_Check_k4_S a1 p) (fun p => ref10_Check_k4 a1 p = some r) ?_ ?_
            · rintro x29 hm
              show H _ (ref10_Check_k4_S a1 x29) (nd Try.f14 509) _
              refine R_cn Try.f14 (.tmp 60) 1018 1019 (by kernel_rfl) x29 (by kernel_rfl) (fun b30 => ?_) (fun b30 => ?_)
              · replace hm := bif_t b30 hm
                refine R_sq Try.f14 2036 2037 (by kernel_rfl) ?_
                refine R_rn Try.f14 2036 16 [] [] 1 ⟨[(2, vi 19)], []⟩ o0 (by kernel_rfl) (by kernel_rfl) ?_
                obtain rfl := Option.some.inj hm
                refine R_ret (by kernel_rfl) ?_
                exact ret_mk (by kernel_rfl) (by kernel_rfl)
              · replace hm := bif_f b30 hm
                refine R_skip (by kernel_rfl) ?_
                refine R_sq Try.f14 510 511 (by kernel_rfl) ?_
                refine R_sq Try.f14 1020 1021 (by kernel_rfl) ?_
                refine R_rn Try.f14 1020 17 [] [] 1 ⟨[(1, vp 0 0), (3, vi ((a1.Rows.length : Nat) : Int)), (5, vi 0)], [(0, bx 24 [ci a1.Low, tl e_Span default a1.Rows])]⟩ o0 (by kernel_rfl) (by kernel_rfl) ?_
                obtain ⟨u41, h40, hm⟩ := bind_s hm
                refine R_loop1 (nd Try.f14 4084) 2 (by kernel_rfl) FUEL (fun o => ref10_Check_L5_T) (fun v st => RetQ Try.prog Try.f14 (ref10_Check_x v) (ref10_Check_o v) .ret st) u41 (HL_enter (ref10_Check_L5_S a1 0) (by kernel_rfl) (by kernel_rfl) (ref10_Check_L5_ok E a1 FUEL 0 u41 h40)) ?_ ?_
                · rintro v42 rfl st hr
                  obtain rfl := Option.some.inj hm
                  exact hr
                · rintro o39 rfl
                  replace hm : _ = some r := hm
                  refine R_sq Try.f14 1022 1023 (by kernel_rfl) ?_
                  refine R_rn Try.f14 1022 22 [] [] 1 ⟨[(2, vi 0)], []⟩ o0 (by kernel_rfl) (by kernel_rfl) ?_
                  obtain rfl := Option.some.inj hm
                  refine R_ret (by kernel_rfl) ?_
                  exact ret_mk (by kernel_rfl) (by kernel_rfl)
            · obtain ⟨g22, hm⟩ := bif_n hm
              obtain ⟨v23, h24, hm⟩ := bind_s hm
              rcases Bool.eq_false_or_eq_true v23 with b25 | b25
              · replace hm := bif_t b25 hm
                refine R_rn Try.f14 508 15 [(4, dex (cen [] [] 1 0 (ref10_empty_x v23) (ref10_empty_o v23) [50] [])), (5, dfx true)] [] 1 ⟨[(1, vp 0 0), (3, vi ((a1.Rows.length : Nat) : Int)), (60, vb true)], [(0, bx 24 [ci a1.Low, tl e_Span default a1.Rows])]⟩ (o1 (And.intro (inb_of g22) (And.intro (callS (K := (kx E 81 0)) ⟨[(50, va [ci ((a1.Rows.getD (0 : Int).toNat default).A), ci ((a1.Rows.getD (0 : Int).toNat default).B)])], []⟩ (opAt (rg Try.f14 508) 4) [] [] 1 o0 rfl (ref10_empty_ok (a1.Rows.getD (0 : Int).toNat default) v23 h24) (.inl rfl) (by kernel_rfl)) b25))) (by kernel_rfl) (by kernel_rfl) ?_
                exact J_mk (true) hm (by kernel_rfl) (by kernel_rfl)
              · replace hm := bif_f b25 hm
                obtain ⟨g26, hm⟩ := bif_n hm
                obtain ⟨v27, h28, hm⟩ := bind_s hm
                refine R_rn Try.f14 508 15 [(4, dex (cen [] [] 1 0 (ref10_empty_x v23) (ref10_empty_o v23) [50] [])), (5, dfx false), (12, dex (cen [] [] 1 0 (ref10_empty_x v27) (ref10_empty_o v27) [52, 58] []))] [] 1 ⟨[(1, vp 0 0), (3, vi ((a1.Rows.length : Nat) : Int)), (60, vb v27)], [(0, bx 24 [ci a1.Low, tl e_Span default a1.Rows])]⟩ (o1 (And.intro (inb_of g22) (And.intro (callS (K := (kx E 81 0)) ⟨[(50, va [ci ((a1.Rows.getD (0 : Int).toNat default).A), ci ((a1.Rows.getD (0 : Int).toNat default).B)])], []⟩ (opAt (rg Try.f14 508) 4) [] [] 1 o0 rfl (ref10_empty_ok (a1.Rows.getD (0 : Int).toNat default) v23 h24) (.inl rfl) (by kernel_rfl)) (And.intro b25 (And.intro (inb_of g26) (callS (K := (kx E 81 0)) ⟨[(52, vb false), (58, va [ci ((a1.Rows.getD (w64 (((a1.Rows.length : Nat) : Int) - 1)).toNat default).A), ci ((a1.Rows.getD (w64 (((a1.Rows.length : Nat) : Int) - 1)).toNat default).B)])], []⟩ (opAt (rg Try.f14 508) 12) [] [] 1 o0 rfl (ref10_empty_ok (a1.Rows.getD (w64 (((a1.Rows.length : Nat) : Int) - 1)).toNat default) v27 h28) (.inl rfl) (by kernel_rfl))))))) (by kernel_rfl) (by kernel_rfl) ?_
                exact J_mk (v27) hm (by kernel_rfl) (by kernel_rfl)
    · rcases Bool.eq_false_or_eq_true (decide (a1.Low < (-60))) with b3 | b3
      · replace hm := bif_t b3 hm
        refine R_rn Try.f14 60 4 [(3, dfx true)] [] 1 ⟨[(1, vp 0 0), (3, vi ((a1.Rows.length : Nat) : Int)), (20, vb true)], [(0, bx 24 [ci a1.Low, tl e_Span default a1.Rows])]⟩ (o1 b3) (by kernel_rfl) (by kernel_rfl) ?_
        exact J_mk (true) hm (by kernel_rfl) (by kernel_rfl)
      · replace hm := bif_f b3 hm
        refine R_rn Try.f14 60 4 [(3, dfx false)] [] 1 ⟨[(1, vp 0 0), (3, vi ((a1.Rows.length : Nat) : Int)), (20, vb (decide (a1.Low > (w64 (60 - ((a1.Rows.length : Nat) : Int))))))], [(0, bx 24 [ci a1.Low, tl e_Span default a1.Rows])]⟩ (o1 b3) (by kernel_rfl) (by kernel_rfl) ?_
        exact J_mk (decide (a1.Low > (w64 (60 - ((a1.Rows.length : Nat) : Int))))) hm (by kernel_rfl) (by kernel_rfl)

end Saw
end Go.SL

namespace Go.SL
namespace Saw
open Go.Proofs
set_option maxHeartbeats 4000000

def ref10_Valid_x (r : Section) : V := va [ci r.Low, tl e_Span default r.Rows]

def ref10_Valid_o (r : Section) : List (Nat × (Nat × O)) := []

set_option maxRecDepth 100000 in
theorem ref10_Valid_ok (a1 : Section) (r : Section) (hm : ref10_Valid a1 = some r) : CtX Try.prog globs 53 0 0 [.agg [ci a1.Low, tl e_Span default a1.Rows]] [] (ref10_Valid_x r) (ref10_Valid_o r) := by
  unfold ref10_Valid at hm
  refine CtX_of_E (fn := Try.f53) (c := nd Try.f53 1) (nt := 8) (by kernel_rfl) (by kernel_rfl) (by kernel_rfl) (by kernel_rfl) fun E => ?_
  refine R_sq Try.f53 2 3 (by kernel_rfl) ?_
  refine R_rn Try.f53 2 0 [] [] 0 ⟨[(1, vp 0 0), (2, vp 1 0)], [(0, bx 24 [ci a1.Low, tl e_Span default a1.Rows]), (1, bx 24 [ci 0, .emp])]⟩ o0 (by kernel_rfl) (by kernel_rfl) ?_
  refine R_sq Try.f53 6 7 (by kernel_rfl) ?_
  refine R_sq Try.f53 12 13 (by kernel_rfl) ?_
  obtain ⟨v2, h3, hm⟩ := bind_s hm
  refine R_rn Try.f53 12 1 [(1, dex (cen [] [] 2 0 (ref10_Check_x v2) (ref10_Check_o v2) [3] []))] [] 2 ⟨[(1, vp 0 0), (2, vp 1 0), (5, vb (v2 != 0))], [(0, bx 24 [ci a1.Low, tl e_Span default a1.Rows]), (1, bx 24 [ci 0, .emp])]⟩ (o1 (callS (K := (kx E 8 0)) ⟨[(3, va [ci a1.Low, tl e_Span default a1.Rows])], []⟩ (opAt (rg Try.f53 12) 1) [] [] 2 o0 rfl (ref10_Check_ok a1 v2 h3) (.inl rfl) (by kernel_rfl))) (by kernel_rfl) (by kernel_rfl) ?_
  refine R_cn Try.f53 (.tmp 5) 26 27 (by kernel_rfl) (v2 != 0) (by kernel_rfl) (fun b4 => ?_) (fun b4 => ?_)
  · replace hm := bif_t b4 hm
    refine R_sq Try.f53 52 53 (by kernel_rfl) ?_
    refine R_rn Try.f53 52 2 [] [] 2 ⟨[(2, vp 1 0)], [(1, bx 24 [ci 0, .emp])]⟩ o0 (by kernel_rfl) (by kernel_rfl) ?_
    refine H_fin [.ownB 1 1 2 35 2 (rf e_Span ([] : List Span))] ⟨[(2, vp 1 0)], [(1, bx 24 [ci 0, .own 2 0 2 0]), (2, ro 0 35 2 0 (rf e_Span ([] : List Span)))]⟩ o0 (by kernel_rfl) ?_
    refine H_fin [.len 2 (([] : List Span).length), .frz 2] ⟨[(2, vp 1 0)], [(1, bx 24 [ci 0, tl e_Span default ([] : List Span)])]⟩ (o1 (And.intro (And.intro (show 0 = ([] : List Span).length from rfl) (show 0 = ([] : List Span).length from rfl)) (Nat.le_refl (([] : List Span).length)))) (by kernel_rfl) ?_
    obtain rfl := Option.some.inj hm
    refine R_ret (by kernel_rfl) ?_
    exact ret_mk (by kernel_rfl) (by kernel_rfl)
  · replace hm := bif_f b4 hm
    refine R_skip (by kernel_rfl) ?_
    refine R_sq Try.f53 14 15 (by kernel_rfl) ?_
    refine R_rn Try.f53 14 3 [] [] 2 ⟨[(2, vp 1 0)], [(1, bx 24 [ci a1.Low, tl e_Span default a1.Rows])]⟩ o0 (by kernel_rfl) (by kernel_rfl) ?_
    obtain rfl := Option.some.inj hm
    refine R_ret (by kernel_rfl) ?_
    exact ret_mk (by kernel_rfl) (by kernel_rfl)

end Saw
end Go.SL

namespace Go.SL
namespace Saw
open Go.Proofs
set_option maxHeartbeats 4000000

def ref10_Area_x (r : Int) : V := vi r

def ref10_Area_o (r : Int) : List (Nat × (Nat × O)) := []

theorem ref10_Area_f (r : Int) : Frozen (ref10_Area_o r) := by
  intro i k o h
  unfold ref10_Area_o at h
  cases h

def ref10_Area_L1_S (v2 : Section) (x4 : Int) (x5 : Int) : St :=
  ⟨[(1, vp 0 0), (3, vi x4), (4, vi x5)], [(0, bx 24 [ci v2.Low, tl e_Span default v2.Rows])]⟩

def ref10_Area_L1_T (x8 : Int) : St :=
  ⟨[(3, vi x8)], []⟩

set_option maxRecDepth 100000 in
theorem ref10_Area_L1_ok (E : Env 0) (v2 : Section) : ∀ (n : Nat) (x4 : Int) (x5 : Int) (res : Int), ref10_Area_L1 v2 n x4 x5 = some res → HL (kx E 31 0) (nd Try.f20 244) (loopQ0 0 (fun o => ref10_Area_L1_T o) res) n (ref10_Area_L1_S v2 x4 x5) := by
  intro n
  induction n with
  | zero =>
    intro x4 x5 res hm
    cases hm
  | succ n ih =>
    intro x4 x5 res hm
    refine HL_succ ?_
    refine R_sq Try.f20 488 489 (by kernel_rfl) ?_
    refine R_sq Try.f20 976 977 (by kernel_rfl) ?_
    refine R_rn Try.f20 976 4 [] [] 1 ⟨[(1, vp 0 0), (3, vi x4), (4, vi x5), (11, vb (decide (x5 < ((v2.Rows.length : Nat) : Int))))], [(0, bx 24 [ci v2.Low, tl e_Span default v2.Rows])]⟩ o0 (by kernel_rfl) (by kernel_rfl) ?_
    refine R_cn Try.f20 (.tmp 11) 1954 1955 (by kernel_rfl) (decide (x5 < ((v2.Rows.length : Nat) : Int))) (by kernel_rfl) (fun b6 => ?_) (fun b6 => ?_)
    · replace hm := bif_t b6 hm
      refine R_skip (by kernel_rfl) ?_
      refine R_sq Try.f20 978 979 (by kernel_rfl) ?_
      refine R_bk Try.f20 1 1956 (by kernel_rfl) ?_
      obtain ⟨g7, hm⟩ := bif_n hm
      refine R_dr Try.f20 1956 6 [] [] [] [0, 0, 2, 0, 14, 30, 62, 0, 128, 0, 896, 1920, 3968, 8190, 16382, 32767, 65535] 1 ⟨[(1, vp 0 0), (3, vi (w64 (x4 + (w64 (10 * (w64 (((v2.Rows.getD x5.toNat default).B) - ((v2.Rows.getD x5.toNat default).A)))))))), (4, vi x5)], [(0, bx 24 [ci v2.Low, tl e_Span default v2.Rows])]⟩ (o1 (And.intro (inb_of g7) (inb_of g7))) (by kernel_rfl) (by kernel_rfl) ?_
      refine R_rn Try.f20 979 5 [] [] 1 ⟨[(1, vp 0 0), (3, vi (w64 (x4 + (w64 (10 * (w64 (((v2.Rows.getD x5.toNat default).B) - ((v2.Rows.getD x5.toNat default).A)))))))), (4, vi (w64 (x5 + 1)))], [(0, bx 24 [ci v2.Low, tl e_Span default v2.Rows])]⟩ o0 (by kernel_rfl) (by kernel_rfl) ?_
      exact HL_enter (ref10_Area_L1_S v2 (w64 (x4 + (w64 (10 * (w64 (((v2.Rows.getD x5.toNat default).B) - ((v2.Rows.getD x5.toNat default).A))))))) (w64 (x5 + 1))) (by kernel_rfl) (by kernel_rfl) (ih (w64 (x4 + (w64 (10 * (w64 (((v2.Rows.getD x5.toNat default).B) - ((v2.Rows.getD x5.toNat default).A))))))) (w64 (x5 + 1)) _ hm)
    · replace hm := bif_f b6 hm
      refine R_exit 0 (by kernel_rfl) ?_
      obtain rfl := Option.some.inj hm
      exact L0_mk (by kernel_rfl) (by kernel_rfl)

set_option maxRecDepth 100000 in
theorem ref10_Area_ok (a1 : Section) (r : Int) (hm : ref10_Area a1 = some r) : CtX Try.prog globs 20 0 0 [.agg [ci a1.Low, tl e_Span default a1.Rows]] [] (ref10_Area_x r) (ref10_Area_o r) := by
  unfold ref10_Area at hm
  refine CtX_of_E (fn := Try.f20) (c := nd Try.f20 1) (nt := 31) (by kernel_rfl) (by kernel_rfl) (by kernel_rfl) (by kernel_rfl) fun E => ?_
  refine R_sq Try.f20 2 3 (by kernel_rfl) ?_
  refine R_rn Try.f20 2 0 [] [] 0 ⟨[(1, vp 0 0)], [(0, bx 24 [ci a1.Low, tl e_Span default a1.Rows])]⟩ o0 (by kernel_rfl) (by kernel_rfl) ?_
  refine R_sq Try.f20 6 7 (by kernel_rfl) ?_
  refine R_rn Try.f20 6 1 [] [] 1 ⟨[(1, vp 0 0), (3, vi 0)], [(0, bx 24 [ci a1.Low, tl e_Span default a1.Rows])]⟩ o0 (by kernel_rfl) (by kernel_rfl) ?_
  refine R_sq Try.f20 14 15 (by kernel_rfl) ?_
  obtain ⟨v2, h3, hm⟩ := bind_s hm
  refine R_rn Try.f20 14 2 [(1, dex (cen [] [] 1 0 (ref10_Valid_x v2) (ref10_Valid_o v2) [5] []))] [] 1 ⟨[(1, vp 0 0), (3, vi 0)], [(0, bx 24 [ci v2.Low, tl e_Span default v2.Rows])]⟩ (o1 (callS (K := (kx E 31 0)) ⟨[(5, va [ci a1.Low, tl e_Span default a1.Rows])], []⟩ (opAt (rg Try.f20 14) 1) [] [] 1 o0 rfl (ref10_Valid_ok a1 v2 h3) (.inl rfl) (by kernel_rfl))) (by kernel_rfl) (by kernel_rfl) ?_
  refine R_sq Try.f20 30 31 (by kernel_rfl) ?_
  refine R_sq Try.f20 60 61 (by kernel_rfl) ?_
  refine R_rn Try.f20 60 3 [] [] 1 ⟨[(1, vp 0 0), (3, vi 0), (4, vi 0)], [(0, bx 24 [ci v2.Low, tl e_Span default v2.Rows])]⟩ o0 (by kernel_rfl) (by kernel_rfl) ?_
  obtain ⟨o9, h10, hm⟩ := bind_s hm
  refine R_loop0 (nd Try.f20 244) 0 (by kernel_rfl) FUEL (fun o => ref10_Area_L1_T o) o9 (HL_enter (ref10_Area_L1_S v2 0 0) (by kernel_rfl) (by kernel_rfl) (ref10_Area_L1_ok E v2 FUEL 0 0 o9 h10)) ?_
  refine R_sq Try.f20 62 63 (by kernel_rfl) ?_
  refine R_rn Try.f20 62 7 [] [] 1 ⟨[(2, vi o9)], []⟩ o0 (by kernel_rfl) (by kernel_rfl) ?_
  obtain rfl := Option.some.inj hm
  refine R_ret (by kernel_rfl) ?_
  exact ret_mk (by kernel_rfl) (by kernel_rfl)

end Saw
end Go.SL

namespace Go.SL
namespace Saw
open Go.Proofs
set_option maxHeartbeats 4000000

def ref10_common_x (r : Int) : V := vi r

def ref10_common_o (r : Int) : List (Nat × (Nat × O)) := []

theorem ref10_common_f (r : Int) : Frozen (ref10_common_o r) := by
  intro i k o h
  unfold ref10_common_o at h
  cases h

def ref10_common_k1_S (a1 : Span) (a2 : Span) (x6 : Bool) : St :=
  ⟨[(5, vi (imax a1.A a2.A)), (6, vi (imin a1.B a2.B)), (23, vb x6)], []⟩

set_option maxRecDepth 100000 in
theorem ref10_common_ok (a1 : Span) (a2 : Span) (r : Int) (hm : ref10_common a1 a2 = some r) : CtX Try.prog globs 55 0 0 [.agg [ci a1.A, ci a1.B], .agg [ci a2.A, ci a2.B]] [] (ref10_common_x r) (ref10_common_o r) := by
  unfold ref10_common at hm
  refine CtX_of_E (fn := Try.f55) (c := nd Try.f55 1) (nt := 27) (by kernel_rfl) (by kernel_rfl) (by kernel_rfl) (by kernel_rfl) fun E => ?_
  refine R_sq Try.f55 2 3 (by kernel_rfl) ?_
  refine R_rn Try.f55 2 0 [] [] 0 ⟨[(2, vp 0 0), (3, vp 1 0)], [(0, bx 35 [ci a1.A, ci a1.B]), (1, bx 35 [ci a2.A, ci a2.B])]⟩ o0 (by kernel_rfl) (by kernel_rfl) ?_
  refine R_sq Try.f55 6 7 (by kernel_rfl) ?_
  refine R_dr Try.f55 6 1 [] [] [] [0, 1, 0, 4, 15, 0, 32, 0, 128, 480, 31, 2047] 2 ⟨[(3, vp 1 0), (5, vi (imax a1.A a2.A)), (6, vi (imin a1.B a2.B))], [(1, bx 35 [ci a2.A, ci a2.B])]⟩ o0 (by kernel_rfl) (by kernel_rfl) ?_
  refine R_sq Try.f55 14 15 (by kernel_rfl) ?_
  refine R_join (ι := Bool) (nd Try.f55 28) (nd Try.f55 29) (by kernel_rfl) (fun p => ref10_common_k1_S a1 a2 p) (fun p => ref10_common_k1 a1 a2 p = some r) ?_ ?_
  · rintro x6 hm
    show H _ (ref10_common_k1_S a1 a2 x6) (nd Try.f55 29) _
    refine R_cn Try.f55 (.tmp 23) 58 59 (by kernel_rfl) x6 (by kernel_rfl) (fun b7 => ?_) (fun b7 => ?_)
    · replace hm := bif_t b7 hm
      refine R_sq Try.f55 116 117 (by kernel_rfl) ?_
      refine R_rn Try.f55 116 3 [] [] 2 ⟨[(4, vi 0)], []⟩ o0 (by kernel_rfl) (by kernel_rfl) ?_
      obtain rfl := Option.some.inj hm
      refine R_ret (by kernel_rfl) ?_
      exact ret_mk (by kernel_rfl) (by kernel_rfl)
    · replace hm := bif_f b7 hm
      refine R_skip (by kernel_rfl) ?_
      refine R_sq Try.f55 30 31 (by kernel_rfl) ?_
      refine R_rn Try.f55 30 4 [] [] 2 ⟨[(4, vi (w64 ((imin a1.B a2.B) - (imax a1.A a2.A))))], []⟩ o0 (by kernel_rfl) (by kernel_rfl) ?_
      obtain rfl := Option.some.inj hm
      refine R_ret (by kernel_rfl) ?_
      exact ret_mk (by kernel_rfl) (by kernel_rfl)
  · obtain ⟨v3, h4, hm⟩ := bind_s hm
    rcases Bool.eq_false_or_eq_true v3 with b5 | b5
    · replace hm := bif_t b5 hm
      refine R_rn Try.f55 28 2 [(1, dex (cen [] [] 2 0 (ref10_empty_x v3) (ref10_empty_o v3) [17] [])), (2, dfx true)] [] 2 ⟨[(5, vi (imax a1.A a2.A)), (6, vi (imin a1.B a2.B)), (23, vb true)], []⟩ (o1 (And.intro (callS (K := (kx E 27 0)) ⟨[(17, va [ci a2.A, ci a2.B])], []⟩ (opAt (rg Try.f55 28) 1) [] [] 2 o0 rfl (ref10_empty_ok a2 v3 h4) (.inl rfl) (by kernel_rfl)) b5)) (by kernel_rfl) (by kernel_rfl) ?_
      exact J_mk (true) hm (by kernel_rfl) (by kernel_rfl)
    · replace hm := bif_f b5 hm
      refine R_rn Try.f55 28 2 [(1, dex (cen [] [] 2 0 (ref10_empty_x v3) (ref10_empty_o v3) [17] [])), (2, dfx false)] [] 2 ⟨[(5, vi (imax a1.A a2.A)), (6, vi (imin a1.B a2.B)), (23, vb (decide ((imax a1.A a2.A) ≥ (imin a1.B a2.B))))], []⟩ (o1 (And.intro (callS (K := (kx E 27 0)) ⟨[(17, va [ci a2.A, ci a2.B])], []⟩ (opAt (rg Try.f55 28) 1) [] [] 2 o0 rfl (ref10_empty_ok a2 v3 h4) (.inl rfl) (by kernel_rfl)) b5)) (by kernel_rfl) (by kernel_rfl) ?_
      exact J_mk (decide ((imax a1.A a2.A) ≥ (imin a1.B a2.B))) hm (by kernel_rfl) (by kernel_rfl)

end Saw
end Go.SL

namespace Go.SL
namespace Saw
open Go.Proofs
set_option maxHeartbeats 4000000

def ref10_Heights_x (r : Span) : V := va [ci r.A, ci r.B]

def ref10_Heights_o (r : Span) : List (Nat × (Nat × O)) := []

theorem ref10_Heights_f (r : Span) : Frozen (ref10_Heights_o r) := by
  intro i k o h
  unfold ref10_Heights_o at h
  cases h

set_option maxRecDepth 100000 in
theorem ref10_Heights_ok (a1 : Int) (r : Span) (hm : ref10_Heights a1 = some r) : CtX Try.prog globs 56 0 0 [.one (ci a1)] [] (ref10_Heights_x r) (ref10_Heights_o r) := by
  unfold ref10_Heights at hm
  refine CtX_of_E (fn := Try.f56) (c := nd Try.f56 1) (nt := 9) (by kernel_rfl) (by kernel_rfl) (by kernel_rfl) (by kernel_rfl) fun E => ?_
  refine R_sq Try.f56 2 3 (by kernel_rfl) ?_
  refine R_rn Try.f56 2 0 [] [] 0 ⟨[(0, vi a1), (2, vp 0 0)], [(0, bx 35 [ci 0, ci 0])]⟩ o0 (by kernel_rfl) (by kernel_rfl) ?_
  refine R_sq Try.f56 6 7 (by kernel_rfl) ?_
  refine R_rn Try.f56 6 1 [] [] 1 ⟨[(2, vp 0 0)], [(0, bx 35 [ci (w64 (10 * a1)), ci (w64 (10 * (w64 (a1 + 1))))])]⟩ o0 (by kernel_rfl) (by kernel_rfl) ?_
  obtain rfl := Option.some.inj hm
  refine R_ret (by kernel_rfl) ?_
  exact ret_mk (by kernel_rfl) (by kernel_rfl)

end Saw
end Go.SL

namespace Go.SL
namespace Saw
open Go.Proofs
set_option maxHeartbeats 4000000

def ref10_Within_x (r : Int) : V := vi r

def ref10_Within_o (r : Int) : List (Nat × (Nat × O)) := []

theorem ref10_Within_f (r : Int) : Frozen (ref10_Within_o r) := by
  intro i k o h
  unfold ref10_Within_o at h
  cases h

def ref10_Within_L1_S (a2 : Rect) (v3 : Section) (x5 : Int) (x6 : Int) : St :=
  ⟨[(2, vp 0 0), (3, vp 1 0), (5, vi x5), (6, vi x6)], [(0, bx 24 [ci v3.Low, tl e_Span default v3.Rows]), (1, bx 37 [ci a2.X.A, ci a2.X.B, ci a2.Y.A, ci a2.Y.B])]⟩

def ref10_Within_L1_T (x15 : Int) : St :=
  ⟨[(5, vi x15)], []⟩

set_option maxRecDepth 100000 in
theorem ref10_Within_L1_ok (E : Env 0) (a2 : Rect) (v3 : Section) : ∀ (n : Nat) (x5 : Int) (x6 : Int) (res : Int), ref10_Within_L1 a2 v3 n x5 x6 = some res → HL (kx E 36 0) (nd Try.f22 244) (loopQ0 0 (fun o => ref10_Within_L1_T o) res) n (ref10_Within_L1_S a2 v3 x5 x6) := by
  intro n
  induction n with
  | zero =>
    intro x5 x6 res hm
    cases hm
  | succ n ih =>
    intro x5 x6 res hm
    refine HL_succ ?_
    refine R_sq Try.f22 488 489 (by kernel_rfl) ?_
    refine R_sq Try.f22 976 977 (by kernel_rfl) ?_
    refine R_rn Try.f22 976 4 [] [] 2 ⟨[(2, vp 0 0), (3, vp 1 0), (5, vi x5), (6, vi x6), (13, vb (decide (x6 < ((v3.Rows.length : Nat) : Int))))], [(0, bx 24 [ci v3.Low, tl e_Span default v3.Rows]), (1, bx 37 [ci a2.X.A, ci a2.X.B, ci a2.Y.A, ci a2.Y.B])]⟩ o0 (by kernel_rfl) (by kernel_rfl) ?_
    refine R_cn Try.f22 (.tmp 13) 1954 1955 (by kernel_rfl) (decide (x6 < ((v3.Rows.length : Nat) : Int))) (by kernel_rfl) (fun b7 => ?_) (fun b7 => ?_)
    · replace hm := bif_t b7 hm
      refine R_skip (by kernel_rfl) ?_
      refine R_sq Try.f22 978 979 (by kernel_rfl) ?_
      refine R_bk Try.f22 1 1956 (by kernel_rfl) ?_
      obtain ⟨g8, hm⟩ := bif_n hm
      obtain ⟨v9, h10, hm⟩ := bind_s hm
      obtain ⟨v11, h12, hm⟩ := bind_s hm
      obtain ⟨v13, h14, hm⟩ := bind_s hm
      refine R_dr Try.f22 1956 6 [] [(8, dex (cen [] [] 2 0 (ref10_common_x v9) (ref10_common_o v9) [21, 23] [])), (13, dex (cen [] [] 2 0 (ref10_Heights_x v11) (ref10_Heights_o v11) [28] [])), (16, dex (cen [] [] 2 0 (ref10_common_x v13) (ref10_common_o v13) [29, 31] []))] [] [0, 0, 2, 0, 14, 30, 0, 64, 254, 0, 512, 0, 3584, 8190, 0, 16384, 65534, 131070, 262143, 524287] 2 ⟨[(2, vp 0 0), (3, vp 1 0), (5, vi (w64 (x5 + (w64 (v9 * v13))))), (6, vi x6)], [(0, bx 24 [ci v3.Low, tl e_Span default v3.Rows]), (1, bx 37 [ci a2.X.A, ci a2.X.B, ci a2.Y.A, ci a2.Y.B])]⟩ (o1 (And.intro (inb_of g8) (And.intro (callS (K := (kx E 36 0)) ⟨[(21, va [ci ((v3.Rows.getD x6.toNat default).A), ci ((v3.Rows.getD x6.toNat default).B)]), (23, va [ci a2.X.A, ci a2.X.B])], []⟩ (opAt (rg Try.f22 1956) 8) [] [] 2 o0 rfl (ref10_common_ok (v3.Rows.getD x6.toNat default) a2.X v9 h10) (.inl rfl) (by kernel_rfl)) (And.intro (callS (K := (kx E 36 0)) ⟨[(28, vi (w64 (v3.Low + x6)))], []⟩ (opAt (rg Try.f22 1956) 13) [] [] 2 o0 rfl (ref10_Heights_ok (w64 (v3.Low + x6)) v11 h12) (.inl rfl) (by kernel_rfl)) (callS (K := (kx E 36 0)) ⟨[(29, va [ci v11.A, ci v11.B]), (31, va [ci a2.Y.A, ci a2.Y.B])], []⟩ (opAt (rg Try.f22 1956) 16) [] [] 2 o0 rfl (ref10_common_ok v11 a2.Y v13 h14) (.inl rfl) (by kernel_rfl)))))) (by kernel_rfl) (by kernel_rfl) ?_
      refine R_rn Try.f22 979 5 [] [] 2 ⟨[(2, vp 0 0), (3, vp 1 0), (5, vi (w64 (x5 + (w64 (v9 * v13))))), (6, vi (w64 (x6 + 1)))], [(0, bx 24 [ci v3.Low, tl e_Span default v3.Rows]), (1, bx 37 [ci a2.X.A, ci a2.X.B, ci a2.Y.A, ci a2.Y.B])]⟩ o0 (by kernel_rfl) (by kernel_rfl) ?_
      exact HL_enter (ref10_Within_L1_S a2 v3 (w64 (x5 + (w64 (v9 * v13)))) (w64 (x6 + 1))) (by kernel_rfl) (by kernel_rfl) (ih (w64 (x5 + (w64 (v9 * v13)))) (w64 (x6 + 1)) _ hm)
    · replace hm := bif_f b7 hm
      refine R_exit 0 (by kernel_rfl) ?_
      obtain rfl := Option.some.inj hm
      exact L0_mk (by kernel_rfl) (by kernel_rfl)

set_option maxRecDepth 100000 in
theorem ref10_Within_ok (a1 : Section) (a2 : Rect) (r : Int) (hm : ref10_Within a1 a2 = some r) : CtX Try.prog globs 22 0 0 [.agg [ci a1.Low, tl e_Span default a1.Rows], .agg [ci a2.X.A, ci a2.X.B, ci a2.Y.A, ci a2.Y.B]] [] (ref10_Within_x r) (ref10_Within_o r) := by
  unfold ref10_Within at hm
  refine CtX_of_E (fn := Try.f22) (c := nd Try.f22 1) (nt := 36) (by kernel_rfl) (by kernel_rfl) (by kernel_rfl) (by kernel_rfl) fun E => ?_
  refine R_sq Try.f22 2 3 (by kernel_rfl) ?_
  refine R_rn Try.f22 2 0 [] [] 0 ⟨[(2, vp 0 0), (3, vp 1 0)], [(0, bx 24 [ci a1.Low, tl e_Span default a1.Rows]), (1, bx 37 [ci a2.X.A, ci a2.X.B, ci a2.Y.A, ci a2.Y.B])]⟩ o0 (by kernel_rfl) (by kernel_rfl) ?_
  refine R_sq Try.f22 6 7 (by kernel_rfl) ?_
  refine R_rn Try.f22 6 1 [] [] 2 ⟨[(2, vp 0 0), (3, vp 1 0), (5, vi 0)], [(0, bx 24 [ci a1.Low, tl e_Span default a1.Rows]), (1, bx 37 [ci a2.X.A, ci a2.X.B, ci a2.Y.A, ci a2.Y.B])]⟩ o0 (by kernel_rfl) (by kernel_rfl) ?_
  refine R_sq Try.f22 14 15 (by kernel_rfl) ?_
  obtain ⟨v3, h4, hm⟩ := bind_s hm
  refine R_rn Try.f22 14 2 [(1, dex (cen [] [] 2 0 (ref10_Valid_x v3) (ref10_Valid_o v3) [7] []))] [] 2 ⟨[(2, vp 0 0), (3, vp 1 0), (5, vi 0)], [(0, bx 24 [ci v3.Low, tl e_Span default v3.Rows]), (1, bx 37 [ci a2.X.A, ci a2.X.B, ci a2.Y.A, ci a2.Y.B])]⟩ (o1 (callS (K := (kx E 36 0)) ⟨[(7, va [ci a1.Low, tl e_Span default a1.Rows])], []⟩ (opAt (rg Try.f22 14) 1) [] [] 2 o0 rfl (ref10_Valid_ok a1 v3 h4) (.inl rfl) (by kernel_rfl))) (by kernel_rfl) (by kernel_rfl) ?_
  refine R_sq Try.f22 30 31 (by kernel_rfl) ?_
  refine R_sq Try.f22 60 61 (by kernel_rfl) ?_
  refine R_rn Try.f22 60 3 [] [] 2 ⟨[(2, vp 0 0), (3, vp 1 0), (5, vi 0), (6, vi 0)], [(0, bx 24 [ci v3.Low, tl e_Span default v3.Rows]), (1, bx 37 [ci a2.X.A, ci a2.X.B, ci a2.Y.A, ci a2.Y.B])]⟩ o0 (by kernel_rfl) (by kernel_rfl) ?_
  obtain ⟨o16, h17, hm⟩ := bind_s hm
  refine R_loop0 (nd Try.f22 244) 0 (by kernel_rfl) FUEL (fun o => ref10_Within_L1_T o) o16 (HL_enter (ref10_Within_L1_S a2 v3 0 0) (by kernel_rfl) (by kernel_rfl) (ref10_Within_L1_ok E a2 v3 FUEL 0 0 o16 h17)) ?_
  refine R_sq Try.f22 62 63 (by kernel_rfl) ?_
  refine R_rn Try.f22 62 7 [] [] 2 ⟨[(4, vi o16)], []⟩ o0 (by kernel_rfl) (by kernel_rfl) ?_
  obtain rfl := Option.some.inj hm
  refine R_ret (by kernel_rfl) ?_
  exact ret_mk (by kernel_rfl) (by kernel_rfl)

end Saw
end Go.SL
