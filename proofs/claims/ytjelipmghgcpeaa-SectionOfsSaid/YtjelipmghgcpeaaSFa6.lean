import Derived.Test.YtjelipmghgcpeaaSBase
import Derived.Test.YtjelipmghgcpeaaSFa3
import Derived.Test.YtjelipmghgcpeaaSFa4
import Derived.Test.YtjelipmghgcpeaaSFa5
set_option linter.unusedVariables false
set_option linter.unusedSimpArgs false
namespace Go.SL
namespace Saw
open Go.Proofs
set_option maxHeartbeats 4000000

def section_Shift_x (r : Section) : V := va [ci r.Low, tl e_Span default r.Rows]

def section_Shift_o (r : Section) : List (Nat × (Nat × O)) := []

def section_Shift_k3_S (a2 : Int) (a3 : Int) (v4 : Section) (x12 : Int) (l20 : List Span) (l20n : Nat) : St :=
  ⟨[(1, vi a2), (6, vp 1 0), (7, vp 3 0), (38, vc (tl e_Span default v4.Rows)), (39, vi ((v4.Rows.length : Nat) : Int)), (40, vi x12)], [(1, bx 24 [ci 0, .emp]), (2, ro 0 35 2 l20n (rf e_Span l20)), (3, bx 24 [ci (w64 (v4.Low + a3)), .own 2 0 2 l20n])]⟩

def section_Shift_L2_S (a2 : Int) (a3 : Int) (v4 : Section) (x12 : Int) (l13 : List Span) (l13n : Nat) : St :=
  ⟨[(1, vi a2), (6, vp 1 0), (7, vp 3 0), (38, vc (tl e_Span default v4.Rows)), (39, vi ((v4.Rows.length : Nat) : Int)), (40, vi x12)], [(1, bx 24 [ci 0, .emp]), (2, ro 0 35 2 l13n (rf e_Span l13)), (3, bx 24 [ci (w64 (v4.Low + a3)), .own 2 0 2 l13n])]⟩

def section_Shift_L2_T (a3 : Int) (v4 : Section) (l21 : List Span) : St :=
  ⟨[(6, vp 1 0), (7, vp 3 0)], [(1, bx 24 [ci 0, .emp]), (2, ro 0 35 2 l21.length (rf e_Span l21)), (3, bx 24 [ci (w64 (v4.Low + a3)), .own 2 0 2 l21.length])]⟩

def section_Shift_k1_S (a2 : Int) (a3 : Int) (v4 : Section) (x8 : Bool) : St :=
  ⟨[(1, vi a2), (2, vi a3), (3, vp 0 0), (6, vp 1 0), (27, vb x8)], [(0, bx 24 [ci v4.Low, tl e_Span default v4.Rows]), (1, bx 24 [ci 0, .emp])]⟩

set_option maxRecDepth 100000 in
theorem section_Shift_L2_ok (E : Env 0) (a2 : Int) (a3 : Int) (v4 : Section) : ∀ (n : Nat) (x12 : Int) (l13 : List Span) (l13n : Nat) (res : (List Span)), l13.length = l13n → section_Shift_L2 a2 v4 n x12 l13 = some res → HL (kx E 64 0) (nd Try.f25 500) (loopQ0 0 (fun o => section_Shift_L2_T a3 v4 o) res) n (section_Shift_L2_S a2 a3 v4 x12 l13 l13n) := by
  intro n
  induction n with
  | zero =>
    intro x12 l13 l13n res hl0 hm
    cases hm
  | succ n ih =>
    intro x12 l13 l13n res hl0 hm
    subst hl0
    refine HL_succ ?_
    refine R_sq Try.f25 1000 1001 (by kernel_rfl) ?_
    refine R_rn Try.f25 1000 6 [] [] 4 ⟨[(1, vi a2), (6, vp 1 0), (7, vp 3 0), (38, vc (tl e_Span default v4.Rows)), (39, vi ((v4.Rows.length : Nat) : Int)), (40, vi x12), (41, vb (decide (x12 < ((v4.Rows.length : Nat) : Int))))], [(1, bx 24 [ci 0, .emp]), (2, ro 0 35 2 l13.length (rf e_Span l13)), (3, bx 24 [ci (w64 (v4.Low + a3)), .own 2 0 2 l13.length])]⟩ o0 (by kernel_rfl) (by kernel_rfl) ?_
    refine R_sq Try.f25 2002 2003 (by kernel_rfl) ?_
    refine R_cn Try.f25 (.tmp 41) 4004 4005 (by kernel_rfl) (decide (x12 < ((v4.Rows.length : Nat) : Int))) (by kernel_rfl) (fun b14 => ?_) (fun b14 => ?_)
    · replace hm := bif_t b14 hm
      refine R_skip (by kernel_rfl) ?_
      refine R_join (ι := (List Span) × Nat) (nd Try.f25 4006) (nd Try.f25 4007) (by kernel_rfl) (fun p => section_Shift_k3_S a2 a3 v4 x12 p.1 p.2) (fun p => p.1.length = p.2 ∧ section_Shift_k3 x12 (section_Shift_L2 a2 v4 n) p.1 = some res) ?_ ?_
      · rintro ⟨l20, l20n⟩ ⟨el20, hm⟩
        replace el20 : l20.length = l20n := el20
        subst el20
        show H _ (section_Shift_k3_S a2 a3 v4 x12 l20 l20.length) (nd Try.f25 4007) _
        refine R_rn Try.f25 4007 10 [] [] 5 ⟨[(1, vi a2), (6, vp 1 0), (7, vp 3 0), (38, vc (tl e_Span default v4.Rows)), (39, vi ((v4.Rows.length : Nat) : Int)), (40, vi (w64 (x12 + 1)))], [(1, bx 24 [ci 0, .emp]), (2, ro 0 35 2 l20.length (rf e_Span l20)), (3, bx 24 [ci (w64 (v4.Low + a3)), .own 2 0 2 l20.length])]⟩ o0 (by kernel_rfl) (by kernel_rfl) ?_
        exact HL_enter (section_Shift_L2_S a2 a3 v4 (w64 (x12 + 1)) l20 l20.length) (by kernel_rfl) (by kernel_rfl) (ih (w64 (x12 + 1)) l20 l20.length _ rfl hm)
      · refine R_bk Try.f25 1 8012 (by kernel_rfl) ?_
        refine R_sq Try.f25 16024 16025 (by kernel_rfl) ?_
        obtain ⟨g15, hm⟩ := bif_n hm
        refine R_rn Try.f25 16024 7 [] [] 4 ⟨[(1, vi a2), (6, vp 1 0), (7, vp 3 0), (8, vi x12), (9, vp 4 0), (38, vc (tl e_Span default v4.Rows)), (39, vi ((v4.Rows.length : Nat) : Int)), (40, vi x12)], [(1, bx 24 [ci 0, .emp]), (2, ro 0 35 2 l13.length (rf e_Span l13)), (3, bx 24 [ci (w64 (v4.Low + a3)), .own 2 0 2 l13.length]), (4, bx 35 [ci ((v4.Rows.getD x12.toNat default).A), ci ((v4.Rows.getD x12.toNat default).B)])]⟩ (o1 (inb_of g15)) (by kernel_rfl) (by kernel_rfl) ?_
        refine R_sq Try.f25 32050 32051 (by kernel_rfl) ?_
        obtain ⟨v16, h17, hm⟩ := bind_s hm
        refine R_rn Try.f25 32050 8 [(1, dex (cen [] [] 5 0 (section_isEmpty_x v16) (section_isEmpty_o v16) [45] []))] [] 5 ⟨[(1, vi a2), (6, vp 1 0), (7, vp 3 0), (8, vi x12), (9, vp 4 0), (38, vc (tl e_Span default v4.Rows)), (39, vi ((v4.Rows.length : Nat) : Int)), (40, vi x12), (47, vb (!v16))], [(1, bx 24 [ci 0, .emp]), (2, ro 0 35 2 l13.length (rf e_Span l13)), (3, bx 24 [ci (w64 (v4.Low + a3)), .own 2 0 2 l13.length]), (4, bx 35 [ci ((v4.Rows.getD x12.toNat default).A), ci ((v4.Rows.getD x12.toNat default).B)])]⟩ (o1 (callS (K := (kx E 64 0)) ⟨[(45, va [ci ((v4.Rows.getD x12.toNat default).A), ci ((v4.Rows.getD x12.toNat default).B)])], []⟩ (opAt (rg Try.f25 32050) 1) [] [] 5 o0 rfl (section_isEmpty_ok (v4.Rows.getD x12.toNat default) v16 h17) (.inl rfl) (by kernel_rfl))) (by kernel_rfl) (by kernel_rfl) ?_
        refine R_cn Try.f25 (.tmp 47) 64102 64103 (by kernel_rfl) (!v16) (by kernel_rfl) (fun b18 => ?_) (fun b18 => ?_)
        · replace hm := bif_t b18 hm
          obtain ⟨g19, hm⟩ := bif_n hm
          refine R_rn Try.f25 64102 9 [(13, drw 0 0 (rf e_Span (l13.set x12.toNat (Span.mk (w64 (((v4.Rows.getD x12.toNat default).A) + a2)) (w64 (((v4.Rows.getD x12.toNat default).B) + a2))))))] [] 5 ⟨[(1, vi a2), (6, vp 1 0), (7, vp 3 0), (38, vc (tl e_Span default v4.Rows)), (39, vi ((v4.Rows.length : Nat) : Int)), (40, vi x12)], [(1, bx 24 [ci 0, .emp]), (2, ro 0 35 2 l13.length (rf e_Span (l13.set x12.toNat (Span.mk (w64 (((v4.Rows.getD x12.toNat default).A) + a2)) (w64 (((v4.Rows.getD x12.toNat default).B) + a2)))))), (3, bx 24 [ci (w64 (v4.Low + a3)), .own 2 0 2 l13.length])]⟩ (o1 (And.intro (inb_of g19) (stP e_Span default (Span.mk (w64 (((v4.Rows.getD x12.toNat default).A) + a2)) (w64 (((v4.Rows.getD x12.toNat default).B) + a2))) l13 l13.length x12.toNat 0 [ci (w64 (((v4.Rows.getD x12.toNat default).A) + a2)), ci (w64 (((v4.Rows.getD x12.toNat default).B) + a2))] rfl (toNat_lt (inb_of g19)) rfl))) (by kernel_rfl) (by kernel_rfl) ?_
          exact J_mk ((l13.set x12.toNat (Span.mk (w64 (((v4.Rows.getD x12.toNat default).A) + a2)) (w64 (((v4.Rows.getD x12.toNat default).B) + a2)))), l13.length) ⟨(len_set rfl), hm⟩ (by kernel_rfl) (by kernel_rfl)
        · replace hm := bif_f b18 hm
          refine R_skip (by kernel_rfl) ?_
          exact J_mk (l13, l13.length) ⟨rfl, hm⟩ (by kernel_rfl) (by kernel_rfl)
    · replace hm := bif_f b14 hm
      refine R_exit 0 (by kernel_rfl) ?_
      obtain rfl := Option.some.inj hm
      exact L0_mk (by kernel_rfl) (by kernel_rfl)

set_option maxRecDepth 100000 in
theorem section_Shift_ok (a1 : Section) (a2 : Int) (a3 : Int) (r : Section) (hm : section_Shift a1 a2 a3 = some r) : CtX Try.prog globs 25 0 0 [.agg [ci a1.Low, tl e_Span default a1.Rows], .one (ci a2), .one (ci a3)] [] (section_Shift_x r) (section_Shift_o r) := by
  unfold section_Shift at hm
  refine CtX_of_E (fn := Try.f25) (c := nd Try.f25 1) (nt := 64) (by kernel_rfl) (by kernel_rfl) (by kernel_rfl) (by kernel_rfl) fun E => ?_
  refine R_sq Try.f25 2 3 (by kernel_rfl) ?_
  refine R_rn Try.f25 2 0 [] [] 0 ⟨[(1, vi a2), (2, vi a3), (3, vp 0 0), (6, vp 1 0)], [(0, bx 24 [ci a1.Low, tl e_Span default a1.Rows]), (1, bx 24 [ci 0, .emp])]⟩ o0 (by kernel_rfl) (by kernel_rfl) ?_
  refine R_sq Try.f25 6 7 (by kernel_rfl) ?_
  obtain ⟨v4, h5, hm⟩ := bind_s hm
  refine R_rn Try.f25 6 1 [(1, dex (cen [] [] 2 0 (section_valid_x v4) (section_valid_o v4) [10] []))] [] 2 ⟨[(1, vi a2), (2, vi a3), (3, vp 0 0), (6, vp 1 0)], [(0, bx 24 [ci v4.Low, tl e_Span default v4.Rows]), (1, bx 24 [ci 0, .emp])]⟩ (o1 (callS (K := (kx E 64 0)) ⟨[(10, va [ci a1.Low, tl e_Span default a1.Rows])], []⟩ (opAt (rg Try.f25 6) 1) [] [] 2 o0 rfl (section_valid_ok a1 v4 h5) (.inl rfl) (by kernel_rfl))) (by kernel_rfl) (by kernel_rfl) ?_
  refine R_sq Try.f25 14 15 (by kernel_rfl) ?_
  refine R_join (ι := Bool) (nd Try.f25 28) (nd Try.f25 29) (by kernel_rfl) (fun p => section_Shift_k1_S a2 a3 v4 p) (fun p => section_Shift_k1 a2 a3 v4 p = some r) ?_ ?_
  · rintro x8 hm
    show H _ (section_Shift_k1_S a2 a3 v4 x8) (nd Try.f25 29) _
    refine R_cn Try.f25 (.tmp 27) 58 59 (by kernel_rfl) x8 (by kernel_rfl) (fun b9 => ?_) (fun b9 => ?_)
    · replace hm := bif_t b9 hm
      refine R_sq Try.f25 116 117 (by kernel_rfl) ?_
      refine R_rn Try.f25 116 3 [] [] 2 ⟨[(6, vp 1 0)], [(1, bx 24 [ci 0, .emp])]⟩ o0 (by kernel_rfl) (by kernel_rfl) ?_
      refine H_fin [.ownB 1 1 2 35 2 (rf e_Span ([] : List Span))] ⟨[(6, vp 1 0)], [(1, bx 24 [ci 0, .own 2 0 2 0]), (2, ro 0 35 2 0 (rf e_Span ([] : List Span)))]⟩ o0 (by kernel_rfl) ?_
      refine H_fin [.len 2 (([] : List Span).length), .frz 2] ⟨[(6, vp 1 0)], [(1, bx 24 [ci 0, tl e_Span default ([] : List Span)])]⟩ (o1 (And.intro (And.intro (show 0 = ([] : List Span).length from rfl) (show 0 = ([] : List Span).length from rfl)) (Nat.le_refl (([] : List Span).length)))) (by kernel_rfl) ?_
      obtain rfl := Option.some.inj hm
      refine R_ret (by kernel_rfl) ?_
      exact ret_mk (by kernel_rfl) (by kernel_rfl)
    · replace hm := bif_f b9 hm
      refine R_skip (by kernel_rfl) ?_
      refine R_sq Try.f25 30 31 (by kernel_rfl) ?_
      obtain ⟨v10, h11, hm⟩ := bind_s hm
      refine R_dr Try.f25 30 4 [] [(6, dex (cen [] [] 2 0 (slices_Clone_SSpan_x v10) (slices_Clone_SSpan_o v10) [34] []))] [] [0, 1, 0, 7, 0, 16, 48, 127, 0, 511] 2 ⟨[(1, vi a2), (3, vp 0 0), (6, vp 1 0), (7, vp 3 0)], [(0, bx 24 [ci v4.Low, tl e_Span default v4.Rows]), (1, bx 24 [ci 0, .emp]), (2, ro 0 35 2 v10.length (rf e_Span v10)), (3, bx 24 [ci (w64 (v4.Low + a3)), .own 2 0 2 v10.length])]⟩ (o1 (callS (K := (kx E 64 0)) ⟨[(34, vc (tl e_Span default v4.Rows))], []⟩ (opAt (rg Try.f25 30) 6) [] [] 2 o0 rfl (slices_Clone_SSpan_ok v4.Rows v10 h11) (.inl rfl) (by kernel_rfl))) (by kernel_rfl) (by kernel_rfl) ?_
      refine R_sq Try.f25 62 63 (by kernel_rfl) ?_
      refine R_sq Try.f25 124 125 (by kernel_rfl) ?_
      refine R_rn Try.f25 124 5 [] [] 4 ⟨[(1, vi a2), (6, vp 1 0), (7, vp 3 0), (38, vc (tl e_Span default v4.Rows)), (39, vi ((v4.Rows.length : Nat) : Int)), (40, vi 0)], [(1, bx 24 [ci 0, .emp]), (2, ro 0 35 2 v10.length (rf e_Span v10)), (3, bx 24 [ci (w64 (v4.Low + a3)), .own 2 0 2 v10.length])]⟩ o0 (by kernel_rfl) (by kernel_rfl) ?_
      obtain ⟨o22, h23, hm⟩ := bind_s hm
      refine R_loop0 (nd Try.f25 500) 0 (by kernel_rfl) FUEL (fun o => section_Shift_L2_T a3 v4 o) o22 (HL_enter (section_Shift_L2_S a2 a3 v4 0 v10 v10.length) (by kernel_rfl) (by kernel_rfl) (section_Shift_L2_ok E a2 a3 v4 FUEL 0 v10 v10.length o22 rfl h23)) ?_
      refine R_sq Try.f25 126 127 (by kernel_rfl) ?_
      obtain ⟨v24, h25, hm⟩ := bind_s hm
      refine R_rn Try.f25 126 11 [(1, dpr [.frz 2] (dex (cen [] [] 4 0 (section_valid_x v24) (section_valid_o v24) [62] [])))] [] 4 ⟨[(6, vp 1 0)], [(1, bx 24 [ci v24.Low, tl e_Span default v24.Rows])]⟩ (o1 (And.intro (And.intro (Nat.le_refl o22.length) (Nat.le_refl o22.length)) (callS (K := (kx E 64 0)) ⟨[(62, va [ci (w64 (v4.Low + a3)), tl e_Span default o22])], []⟩ (opAt (rg Try.f25 126) 1) [] [] 4 o0 rfl (section_valid_ok (Section.mk (w64 (v4.Low + a3)) o22) v24 h25) (.inl rfl) (by kernel_rfl)))) (by kernel_rfl) (by kernel_rfl) ?_
      obtain rfl := Option.some.inj hm
      refine R_ret (by kernel_rfl) ?_
      exact ret_mk (by kernel_rfl) (by kernel_rfl)
  · rcases Bool.eq_false_or_eq_true (((v4.Rows.length : Nat) : Int) == 0) with b6 | b6
    · replace hm := bif_t b6 hm
      refine R_rn Try.f25 28 2 [(4, dfx true)] [] 2 ⟨[(1, vi a2), (2, vi a3), (3, vp 0 0), (6, vp 1 0), (27, vb true)], [(0, bx 24 [ci v4.Low, tl e_Span default v4.Rows]), (1, bx 24 [ci 0, .emp])]⟩ (o1 b6) (by kernel_rfl) (by kernel_rfl) ?_
      exact J_mk (true) hm (by kernel_rfl) (by kernel_rfl)
    · replace hm := bif_f b6 hm
      rcases Bool.eq_false_or_eq_true (decide ((imax a2 a3) > 1200)) with b7 | b7
      · replace hm := bif_t b7 hm
        refine R_rn Try.f25 28 2 [(4, dfx false), (10, dfx true)] [] 2 ⟨[(1, vi a2), (2, vi a3), (3, vp 0 0), (6, vp 1 0), (27, vb true)], [(0, bx 24 [ci v4.Low, tl e_Span default v4.Rows]), (1, bx 24 [ci 0, .emp])]⟩ (o1 (And.intro b6 b7)) (by kernel_rfl) (by kernel_rfl) ?_
        exact J_mk (true) hm (by kernel_rfl) (by kernel_rfl)
      · replace hm := bif_f b7 hm
        refine R_rn Try.f25 28 2 [(4, dfx false), (10, dfx false)] [] 2 ⟨[(1, vi a2), (2, vi a3), (3, vp 0 0), (6, vp 1 0), (27, vb (decide ((imin a2 a3) < (-1200))))], [(0, bx 24 [ci v4.Low, tl e_Span default v4.Rows]), (1, bx 24 [ci 0, .emp])]⟩ (o1 (And.intro b6 b7)) (by kernel_rfl) (by kernel_rfl) ?_
        exact J_mk (decide ((imin a2 a3) < (-1200))) hm (by kernel_rfl) (by kernel_rfl)

end Saw
end Go.SL

namespace Go.SL
namespace Saw
open Go.Proofs
set_option maxHeartbeats 4000000

def ref09_Before_x (r : Bool) : V := vb r

def ref09_Before_o (r : Bool) : List (Nat × (Nat × O)) := []

theorem ref09_Before_f (r : Bool) : Frozen (ref09_Before_o r) := by
  intro i k o h
  unfold ref09_Before_o at h
  cases h

def ref09_Before_k1_S (x5 : Bool) : St :=
  ⟨[(4, vb x5)], []⟩

set_option maxRecDepth 100000 in
theorem ref09_Before_ok (a1 : Point) (a2 : Point) (r : Bool) (hm : ref09_Before a1 a2 = some r) : CtX Try.prog globs 102 0 0 [.agg [ci a1.X, ci a1.Y], .agg [ci a2.X, ci a2.Y]] [] (ref09_Before_x r) (ref09_Before_o r) := by
  unfold ref09_Before at hm
  refine CtX_of_E (fn := Try.f102) (c := nd Try.f102 1) (nt := 24) (by kernel_rfl) (by kernel_rfl) (by kernel_rfl) (by kernel_rfl) fun E => ?_
  refine R_sq Try.f102 2 3 (by kernel_rfl) ?_
  refine R_rn Try.f102 2 0 [] [] 0 ⟨[(2, vp 0 0), (3, vp 1 0)], [(0, bx 46 [ci a1.X, ci a1.Y]), (1, bx 46 [ci a2.X, ci a2.Y])]⟩ o0 (by kernel_rfl) (by kernel_rfl) ?_
  refine R_join (ι := Bool) (nd Try.f102 6) (nd Try.f102 7) (by kernel_rfl) (fun p => ref09_Before_k1_S p) (fun p => ref09_Before_k1 p = some r) ?_ ?_
  · rintro x5 hm
    show H _ (ref09_Before_k1_S x5) (nd Try.f102 7) _
    obtain rfl := Option.some.inj hm
    refine R_ret (by kernel_rfl) ?_
    exact ret_mk (by kernel_rfl) (by kernel_rfl)
  · rcases Bool.eq_false_or_eq_true (decide (a1.X < a2.X)) with b3 | b3
    · replace hm := bif_t b3 hm
      refine R_rn Try.f102 6 1 [(5, dfx true)] [] 2 ⟨[(4, vb true)], []⟩ (o1 b3) (by kernel_rfl) (by kernel_rfl) ?_
      exact J_mk (true) hm (by kernel_rfl) (by kernel_rfl)
    · replace hm := bif_f b3 hm
      rcases Bool.eq_false_or_eq_true (a1.X == a2.X) with b4 | b4
      · replace hm := bif_t b4 hm
        refine R_rn Try.f102 6 1 [(5, dfx false), (11, dfx true)] [] 2 ⟨[(4, vb (decide (a1.Y < a2.Y)))], []⟩ (o1 (And.intro b3 b4)) (by kernel_rfl) (by kernel_rfl) ?_
        exact J_mk (decide (a1.Y < a2.Y)) hm (by kernel_rfl) (by kernel_rfl)
      · replace hm := bif_f b4 hm
        refine R_rn Try.f102 6 1 [(5, dfx false), (11, dfx false)] [] 2 ⟨[(4, vb false)], []⟩ (o1 (And.intro b3 b4)) (by kernel_rfl) (by kernel_rfl) ?_
        exact J_mk (false) hm (by kernel_rfl) (by kernel_rfl)

end Saw
end Go.SL

namespace Go.SL
namespace Saw
open Go.Proofs
set_option maxHeartbeats 4000000

def ref09_sorted_x (r : (List Point)) : V := vo 0 0 2 r.length

def ref09_sorted_o (r : (List Point)) : List (Nat × (Nat × O)) := [(0, ro 0 46 2 r.length (rf e_Point r))]

theorem ref09_sorted_f (r : (List Point)) : Frozen (ref09_sorted_o r) := by
  intro i k o h
  unfold ref09_sorted_o at h
  rw [look_cons] at h
  split at h
  · cases h; exact fun _ _ => rfl
  · cases h

def ref09_sorted_k3_S (a1 : List Point) (l2 : List Point) (x3 : Int) (x5 : Int) (x11 : Bool) : St :=
  ⟨[(0, vc (tl e_Point default a1)), (3, vo 0 0 2 l2.length), (4, vi x3), (5, vi x5), (27, vb x11)], [(0, ro 0 46 2 l2.length (rf e_Point l2))]⟩

def ref09_sorted_L2_S (a1 : List Point) (l2 : List Point) (x3 : Int) (x5 : Int) : St :=
  ⟨[(0, vc (tl e_Point default a1)), (3, vo 0 0 2 l2.length), (4, vi x3), (5, vi x5)], [(0, ro 0 46 2 l2.length (rf e_Point l2))]⟩

def ref09_sorted_L2_T (a1 : List Point) (l2 : List Point) (x3 : Int) (x13 : Int) : St :=
  ⟨[(0, vc (tl e_Point default a1)), (3, vo 0 0 2 l2.length), (4, vi x3), (5, vi x13)], [(0, ro 0 46 2 l2.length (rf e_Point l2))]⟩

def ref09_sorted_k5_S (a1 : List Point) (x3 : Int) (l27 : List Point) (l27n : Nat) : St :=
  ⟨[(0, vc (tl e_Point default a1)), (3, vo 0 0 2 l27n), (4, vi x3)], [(0, ro 0 46 2 l27n (rf e_Point l27))]⟩

def ref09_sorted_k4_S (a1 : List Point) (l2 : List Point) (x3 : Int) (o14 : Int) (x19 : Bool) : St :=
  ⟨[(0, vc (tl e_Point default a1)), (3, vo 0 0 2 l2.length), (4, vi x3), (5, vi o14), (44, vb x19)], [(0, ro 0 46 2 l2.length (rf e_Point l2))]⟩

def ref09_sorted_L1_S (a1 : List Point) (l2 : List Point) (l2n : Nat) (x3 : Int) : St :=
  ⟨[(0, vc (tl e_Point default a1)), (3, vo 0 0 2 l2n), (4, vi x3)], [(0, ro 0 46 2 l2n (rf e_Point l2))]⟩

def ref09_sorted_L1_T (l28 : List Point) : St :=
  ⟨[(3, vo 0 0 2 l28.length)], [(0, ro 0 46 2 l28.length (rf e_Point l28))]⟩

set_option maxRecDepth 100000 in
theorem ref09_sorted_L2_ok (E : Env 0) (a1 : List Point) (l2 : List Point) (x3 : Int) : ∀ (n : Nat) (x5 : Int) (res : Int), ref09_sorted_L2 a1 l2 x3 n x5 = some res → HL (kx E 63 0) (nd Try.f89 14920) (loopQ0 2 (fun o => ref09_sorted_L2_T a1 l2 x3 o) res) n (ref09_sorted_L2_S a1 l2 x3 x5) := by
  intro n
  induction n with
  | zero =>
    intro x5 res hm
    cases hm
  | succ n ih =>
    intro x5 res hm
    refine HL_succ ?_
    refine R_sq Try.f89 29840 29841 (by kernel_rfl) ?_
    refine R_join (ι := Bool) (nd Try.f89 59680) (nd Try.f89 59681) (by kernel_rfl) (fun p => ref09_sorted_k3_S a1 l2 x3 x5 p) (fun p => ref09_sorted_k3 x5 (ref09_sorted_L2 a1 l2 x3 n) p = some res) ?_ ?_
    · rintro x11 hm
      show H _ (ref09_sorted_k3_S a1 l2 x3 x5 x11) (nd Try.f89 59681) _
      refine R_cn Try.f89 (.tmp 27) 119362 119363 (by kernel_rfl) x11 (by kernel_rfl) (fun b12 => ?_) (fun b12 => ?_)
      · replace hm := bif_t b12 hm
        refine R_skip (by kernel_rfl) ?_
        refine R_bk Try.f89 3 59682 (by kernel_rfl) ?_
        refine R_rn Try.f89 59682 7 [] [] 1 ⟨[(0, vc (tl e_Point default a1)), (3, vo 0 0 2 l2.length), (4, vi x3), (5, vi (w64 (x5 + 1)))], [(0, ro 0 46 2 l2.length (rf e_Point l2))]⟩ o0 (by kernel_rfl) (by kernel_rfl) ?_
        exact HL_enter (ref09_sorted_L2_S a1 l2 x3 (w64 (x5 + 1))) (by kernel_rfl) (by kernel_rfl) (ih (w64 (x5 + 1)) _ hm)
      · replace hm := bif_f b12 hm
        refine R_exit 2 (by kernel_rfl) ?_
        obtain rfl := Option.some.inj hm
        exact L0_mk (by kernel_rfl) (by kernel_rfl)
    · rcases Bool.eq_false_or_eq_true (decide (x5 < ((l2.length : Nat) : Int))) with b6 | b6
      · replace hm := bif_t b6 hm
        obtain ⟨g7, hm⟩ := bif_n hm
        obtain ⟨g8, hm⟩ := bif_n hm
        obtain ⟨v9, h10, hm⟩ := bind_s hm
        refine R_dr Try.f89 59680 6 [] [(4, dfx true), (13, dex (cen [] [] 1 0 (ref09_Before_x v9) (ref09_Before_o v9) [17, 21, 25] []))] [] [0, 0, 2, 7, 15, 31, 31, 127, 255, 31, 31, 1567, 3615, 8191, 16383] 1 ⟨[(0, vc (tl e_Point default a1)), (3, vo 0 0 2 l2.length), (4, vi x3), (5, vi x5), (18, vo 0 0 2 l2.length), (19, vi x5), (20, vc (.rptr 0 0 2 x5.toNat 0)), (21, va [ci ((l2.getD x5.toNat default).X), ci ((l2.getD x5.toNat default).Y)]), (22, vc (tl e_Point default a1)), (23, vi x3), (24, vc (.lptr (e_Point (a1.getD x3.toNat default)))), (25, va [ci ((a1.getD x3.toNat default).X), ci ((a1.getD x3.toNat default).Y)]), (26, vb v9), (27, vb v9)], [(0, ro 0 46 2 l2.length (rf e_Point l2))]⟩ (o1 (And.intro b6 (And.intro (inb_of g7) (And.intro (toNat_lt (inb_of g7)) (And.intro (inb_of g8) (callS (K := (kx E 63 0)) ⟨[(17, vb true), (21, va [ci ((l2.getD x5.toNat default).X), ci ((l2.getD x5.toNat default).Y)]), (25, va [ci ((a1.getD x3.toNat default).X), ci ((a1.getD x3.toNat default).Y)])], []⟩ (opAt (rg Try.f89 59680) 13) [] [] 1 o0 rfl (ref09_Before_ok (l2.getD x5.toNat default) (a1.getD x3.toNat default) v9 h10) (.inl rfl) (by kernel_rfl))))))) (by kernel_rfl) (by kernel_rfl) ?_
        exact J_mk (v9) hm (by kernel_rfl) (by kernel_rfl)
      · replace hm := bif_f b6 hm
        refine R_dr Try.f89 59680 6 [] [(4, dfx false)] [] [0, 0, 2, 7, 15, 31, 31, 127, 255, 31, 31, 1567, 3615, 8191, 16383] 1 ⟨[(0, vc (tl e_Point default a1)), (3, vo 0 0 2 l2.length), (4, vi x3), (5, vi x5), (27, vb false)], [(0, ro 0 46 2 l2.length (rf e_Point l2))]⟩ (o1 b6) (by kernel_rfl) (by kernel_rfl) ?_
        exact J_mk (false) hm (by kernel_rfl) (by kernel_rfl)

set_option maxRecDepth 100000 in
theorem ref09_sorted_L1_ok (E : Env 0) (a1 : List Point) : ∀ (n : Nat) (l2 : List Point) (l2n : Nat) (x3 : Int) (res : (List Point)), l2.length = l2n → ref09_sorted_L1 a1 n l2 x3 = some res → HL (kx E 63 0) (nd Try.f89 116) (loopQ0 0 (fun o => ref09_sorted_L1_T o) res) n (ref09_sorted_L1_S a1 l2 l2n x3) := by
  intro n
  induction n with
  | zero =>
    intro l2 l2n x3 res hl0 hm
    cases hm
  | succ n ih =>
    intro l2 l2n x3 res hl0 hm
    subst hl0
    refine HL_succ ?_
    refine R_sq Try.f89 232 233 (by kernel_rfl) ?_
    refine R_sq Try.f89 464 465 (by kernel_rfl) ?_
    refine R_rn Try.f89 464 3 [] [] 1 ⟨[(0, vc (tl e_Point default a1)), (3, vo 0 0 2 l2.length), (4, vi x3), (10, vb (decide (x3 < ((a1.length : Nat) : Int))))], [(0, ro 0 46 2 l2.length (rf e_Point l2))]⟩ o0 (by kernel_rfl) (by kernel_rfl) ?_
    refine R_cn Try.f89 (.tmp 10) 930 931 (by kernel_rfl) (decide (x3 < ((a1.length : Nat) : Int))) (by kernel_rfl) (fun b4 => ?_) (fun b4 => ?_)
    · replace hm := bif_t b4 hm
      refine R_skip (by kernel_rfl) ?_
      refine R_join (ι := (List Point) × Nat) (nd Try.f89 466) (nd Try.f89 467) (by kernel_rfl) (fun p => ref09_sorted_k5_S a1 x3 p.1 p.2) (fun p => p.1.length = p.2 ∧ ref09_sorted_k5 x3 (ref09_sorted_L1 a1 n) p.1 = some res) ?_ ?_
      · rintro ⟨l27, l27n⟩ ⟨el27, hm⟩
        replace el27 : l27.length = l27n := el27
        subst el27
        show H _ (ref09_sorted_k5_S a1 x3 l27 l27.length) (nd Try.f89 467) _
        refine R_rn Try.f89 467 4 [] [] 3 ⟨[(0, vc (tl e_Point default a1)), (3, vo 0 0 2 l27.length), (4, vi (w64 (x3 + 1)))], [(0, ro 0 46 2 l27.length (rf e_Point l27))]⟩ o0 (by kernel_rfl) (by kernel_rfl) ?_
        exact HL_enter (ref09_sorted_L1_S a1 l27 l27.length (w64 (x3 + 1))) (by kernel_rfl) (by kernel_rfl) (ih l27 l27.length (w64 (x3 + 1)) _ rfl hm)
      · refine R_bk Try.f89 1 932 (by kernel_rfl) ?_
        refine R_sq Try.f89 1864 1865 (by kernel_rfl) ?_
        refine R_rn Try.f89 1864 5 [] [] 1 ⟨[(0, vc (tl e_Point default a1)), (3, vo 0 0 2 l2.length), (4, vi x3), (5, vi 0)], [(0, ro 0 46 2 l2.length (rf e_Point l2))]⟩ o0 (by kernel_rfl) (by kernel_rfl) ?_
        refine R_sq Try.f89 3730 3731 (by kernel_rfl) ?_
        obtain ⟨o14, h15, hm⟩ := bind_s hm
        refine R_loop0 (nd Try.f89 14920) 2 (by kernel_rfl) FUEL (fun o => ref09_sorted_L2_T a1 l2 x3 o) o14 (HL_enter (ref09_sorted_L2_S a1 l2 x3 0) (by kernel_rfl) (by kernel_rfl) (ref09_sorted_L2_ok E a1 l2 x3 FUEL 0 o14 h15)) ?_
        refine R_sq Try.f89 7462 7463 (by kernel_rfl) ?_
        refine R_join (ι := Bool) (nd Try.f89 14924) (nd Try.f89 14925) (by kernel_rfl) (fun p => ref09_sorted_k4_S a1 l2 x3 o14 p) (fun p => ref09_sorted_k4 a1 l2 x3 (ref09_sorted_L1 a1 n) o14 p = some res) ?_ ?_
        · rintro x19 hm
          show H _ (ref09_sorted_k4_S a1 l2 x3 o14 x19) (nd Try.f89 14925) _
          refine R_cn Try.f89 (.tmp 44) 29850 29851 (by kernel_rfl) x19 (by kernel_rfl) (fun b20 => ?_) (fun b20 => ?_)
          · replace hm := bif_t b20 hm
            refine R_exit 1 (by kernel_rfl) ?_
            exact J_mk (l2, l2.length) ⟨rfl, hm⟩ (by kernel_rfl) (by kernel_rfl)
          · replace hm := bif_f b20 hm
            refine R_skip (by kernel_rfl) ?_
            refine R_sq Try.f89 14926 14927 (by kernel_rfl) ?_
            obtain ⟨g21, hm⟩ := bif_n hm
            obtain ⟨g22, hm⟩ := bif_n hm
            refine R_rn Try.f89 14926 9 [(0, drw 1 0 (rf e_Point ([] : List Point))), (4, drw 1 1 (rf e_Point (([] : List Point) ++ (l2.take o14.toNat))))] [] 1 ⟨[(0, vc (tl e_Point default a1)), (3, vo 0 0 2 l2.length), (4, vi x3), (5, vi o14), (6, vo 1 1 2 (0 + o14.toNat))], [(0, ro 0 46 2 l2.length (rf e_Point l2)), (1, ro 1 46 2 (0 + o14.toNat) (rf e_Point (([] : List Point) ++ (l2.take o14.toNat))))]⟩ (o1 (And.intro (litP e_Point default 2 (fun _ => rfl) ([] : List Point) 0 rfl) (And.intro (And.intro (slOk_of g21).2.1 (slOk_of g21).2.2) (apPt e_Point default ([] : List Point) l2 0 o14.toNat l2.length 2 16 (show o14.toNat ≤ l2.length by have := (slOk_of g21); omega) rfl rfl (fun _ => rfl) (room_of g22))))) (by kernel_rfl) (by kernel_rfl) ?_
            refine R_sq Try.f89 29854 29855 (by kernel_rfl) ?_
            obtain ⟨g23, hm⟩ := bif_n hm
            obtain ⟨g24, hm⟩ := bif_n hm
            refine R_rn Try.f89 29854 10 [(5, drw 2 0 (rf e_Point ([(a1.getD x3.toNat default)] : List Point))), (6, drw 1 2 (rf e_Point ((([] : List Point) ++ (l2.take o14.toNat)) ++ ([(a1.getD x3.toNat default)] : List Point))))] [] 2 ⟨[(0, vc (tl e_Point default a1)), (3, vo 0 0 2 l2.length), (4, vi x3), (5, vi o14), (6, vo 1 2 2 ((0 + o14.toNat) + 1))], [(0, ro 0 46 2 l2.length (rf e_Point l2)), (1, ro 2 46 2 ((0 + o14.toNat) + 1) (rf e_Point ((([] : List Point) ++ (l2.take o14.toNat)) ++ ([(a1.getD x3.toNat default)] : List Point))))]⟩ (o1 (And.intro (inb_of g23) (And.intro (litP e_Point default 2 (fun _ => rfl) ([(a1.getD x3.toNat default)] : List Point) 1 rfl) (apP e_Point default (([] : List Point) ++ (l2.take o14.toNat)) ([(a1.getD x3.toNat default)] : List Point) (0 + o14.toNat) 1 2 16 (1 ≤ 1) (Nat.le_refl _) (len_app rfl (len_take rfl (show o14.toNat ≤ l2.length by have := (slOk_of g21); omega))) rfl (fun _ => rfl) (room_of g24))))) (by kernel_rfl) (by kernel_rfl) ?_
            obtain ⟨g25, hm⟩ := bif_n hm
            obtain ⟨g26, hm⟩ := bif_n hm
            refine R_rn Try.f89 29855 11 [(4, drw 1 3 (rf e_Point (((([] : List Point) ++ (l2.take o14.toNat)) ++ ([(a1.getD x3.toNat default)] : List Point)) ++ ((l2.drop o14.toNat).take (l2.length - o14.toNat)))))] [.swp 1 0] 3 ⟨[(0, vc (tl e_Point default a1)), (3, vo 0 3 2 (((0 + o14.toNat) + 1) + (l2.length - o14.toNat))), (4, vi x3)], [(0, ro 3 46 2 (((0 + o14.toNat) + 1) + (l2.length - o14.toNat)) (rf e_Point (((([] : List Point) ++ (l2.take o14.toNat)) ++ ([(a1.getD x3.toNat default)] : List Point)) ++ ((l2.drop o14.toNat).take (l2.length - o14.toNat)))))]⟩ (o1 (And.intro (And.intro (slOk_of g25).1 (slOk_of g25).2.1) (apPd e_Point default ((([] : List Point) ++ (l2.take o14.toNat)) ++ ([(a1.getD x3.toNat default)] : List Point)) l2 ((0 + o14.toNat) + 1) o14.toNat (l2.length - o14.toNat) l2.length 2 16 (show o14.toNat + (l2.length - o14.toNat) ≤ l2.length by have := (slOk_of g25); omega) (len_app (len_app rfl (len_take rfl (show o14.toNat ≤ l2.length by have := (slOk_of g21); omega))) rfl) rfl (fun _ => rfl) (room_of g26)))) (by kernel_rfl) (by kernel_rfl) ?_
            exact J_mk ((((([] : List Point) ++ (l2.take o14.toNat)) ++ ([(a1.getD x3.toNat default)] : List Point)) ++ ((l2.drop o14.toNat).take (l2.length - o14.toNat))), (((0 + o14.toNat) + 1) + (l2.length - o14.toNat))) ⟨(len_app (len_app (len_app rfl (len_take rfl (show o14.toNat ≤ l2.length by have := (slOk_of g21); omega))) rfl) (len_drop rfl (show o14.toNat + (l2.length - o14.toNat) ≤ l2.length by have := (slOk_of g25); omega))), hm⟩ (by kernel_rfl) (by kernel_rfl)
        · rcases Bool.eq_false_or_eq_true (decide (o14 < ((l2.length : Nat) : Int))) with b16 | b16
          · replace hm := bif_t b16 hm
            obtain ⟨g17, hm⟩ := bif_n hm
            obtain ⟨g18, hm⟩ := bif_n hm
            refine R_dr Try.f89 14924 8 [] [(4, dfx true)] [] [0, 0, 2, 7, 15, 31, 31, 127, 255, 31, 31, 1567, 3615, 8191, 16383] 1 ⟨[(0, vc (tl e_Point default a1)), (3, vo 0 0 2 l2.length), (4, vi x3), (5, vi o14), (35, vo 0 0 2 l2.length), (36, vi o14), (37, vc (.rptr 0 0 2 o14.toNat 0)), (38, va [ci ((l2.getD o14.toNat default).X), ci ((l2.getD o14.toNat default).Y)]), (39, vc (tl e_Point default a1)), (40, vi x3), (41, vc (.lptr (e_Point (a1.getD x3.toNat default)))), (42, va [ci ((a1.getD x3.toNat default).X), ci ((a1.getD x3.toNat default).Y)]), (43, vb ((((l2.getD o14.toNat default).X) == ((a1.getD x3.toNat default).X)) && ((((l2.getD o14.toNat default).Y) == ((a1.getD x3.toNat default).Y)) && true))), (44, vb ((((l2.getD o14.toNat default).X) == ((a1.getD x3.toNat default).X)) && ((((l2.getD o14.toNat default).Y) == ((a1.getD x3.toNat default).Y)) && true)))], [(0, ro 0 46 2 l2.length (rf e_Point l2))]⟩ (o1 (And.intro b16 (And.intro (inb_of g17) (And.intro (toNat_lt (inb_of g17)) (inb_of g18))))) (by kernel_rfl) (by kernel_rfl) ?_
            exact J_mk (((((l2.getD o14.toNat default).X) == ((a1.getD x3.toNat default).X)) && ((((l2.getD o14.toNat default).Y) == ((a1.getD x3.toNat default).Y)) && true))) hm (by kernel_rfl) (by kernel_rfl)
          · replace hm := bif_f b16 hm
            refine R_dr Try.f89 14924 8 [] [(4, dfx false)] [] [0, 0, 2, 7, 15, 31, 31, 127, 255, 31, 31, 1567, 3615, 8191, 16383] 1 ⟨[(0, vc (tl e_Point default a1)), (3, vo 0 0 2 l2.length), (4, vi x3), (5, vi o14), (44, vb false)], [(0, ro 0 46 2 l2.length (rf e_Point l2))]⟩ (o1 b16) (by kernel_rfl) (by kernel_rfl) ?_
            exact J_mk (false) hm (by kernel_rfl) (by kernel_rfl)
    · replace hm := bif_f b4 hm
      refine R_exit 0 (by kernel_rfl) ?_
      obtain rfl := Option.some.inj hm
      exact L0_mk (by kernel_rfl) (by kernel_rfl)

set_option maxRecDepth 100000 in
theorem ref09_sorted_ok (a1 : List Point) (r : (List Point)) (hm : ref09_sorted a1 = some r) : CtX Try.prog globs 89 0 0 [.one (tl e_Point default a1)] [] (ref09_sorted_x r) (ref09_sorted_o r) := by
  unfold ref09_sorted at hm
  refine CtX_of_E (fn := Try.f89) (c := nd Try.f89 1) (nt := 63) (by kernel_rfl) (by kernel_rfl) (by kernel_rfl) (by kernel_rfl) fun E => ?_
  refine R_sq Try.f89 2 3 (by kernel_rfl) ?_
  refine R_rn Try.f89 2 0 [] [] 0 ⟨[(0, vc (tl e_Point default a1))], []⟩ o0 (by kernel_rfl) (by kernel_rfl) ?_
  refine R_sq Try.f89 6 7 (by kernel_rfl) ?_
  refine R_rn Try.f89 6 1 [] [] 0 ⟨[(0, vc (tl e_Point default a1)), (3, vc (.emp))], []⟩ o0 (by kernel_rfl) (by kernel_rfl) ?_
  refine R_sq Try.f89 14 15 (by kernel_rfl) ?_
  refine R_sq Try.f89 28 29 (by kernel_rfl) ?_
  refine R_rn Try.f89 28 2 [] [] 0 ⟨[(0, vc (tl e_Point default a1)), (3, vc (.emp)), (4, vi 0)], []⟩ o0 (by kernel_rfl) (by kernel_rfl) ?_
  refine H_fin [.own 3 0 46 2 (rf e_Point ([] : List Point))] ⟨[(0, vc (tl e_Point default a1)), (3, vo 0 0 2 0), (4, vi 0)], [(0, ro 0 46 2 0 (rf e_Point ([] : List Point)))]⟩ o0 (by kernel_rfl) ?_
  obtain ⟨o29, h30, hm⟩ := bind_s hm
  refine R_loop0 (nd Try.f89 116) 0 (by kernel_rfl) FUEL (fun o => ref09_sorted_L1_T o) o29 (HL_enter (ref09_sorted_L1_S a1 ([] : List Point) 0 0) (by kernel_rfl) (by kernel_rfl) (ref09_sorted_L1_ok E a1 FUEL ([] : List Point) 0 0 o29 rfl h30)) ?_
  refine R_sq Try.f89 30 31 (by kernel_rfl) ?_
  refine R_rn Try.f89 30 12 [] [] 1 ⟨[(2, vo 0 0 2 o29.length)], [(0, ro 0 46 2 o29.length (rf e_Point o29))]⟩ o0 (by kernel_rfl) (by kernel_rfl) ?_
  obtain rfl := Option.some.inj hm
  refine R_ret (by kernel_rfl) ?_
  exact ret_mk (by kernel_rfl) (by kernel_rfl)

end Saw
end Go.SL

namespace Go.SL
namespace Saw
open Go.Proofs
set_option maxHeartbeats 4000000

def ref09_Cross_x (r : Int) : V := vi r

def ref09_Cross_o (r : Int) : List (Nat × (Nat × O)) := []

theorem ref09_Cross_f (r : Int) : Frozen (ref09_Cross_o r) := by
  intro i k o h
  unfold ref09_Cross_o at h
  cases h

set_option maxRecDepth 100000 in
theorem ref09_Cross_ok (a1 : Point) (a2 : Point) (a3 : Point) (r : Int) (hm : ref09_Cross a1 a2 a3 = some r) : CtX Try.prog globs 103 0 0 [.agg [ci a1.X, ci a1.Y], .agg [ci a2.X, ci a2.Y], .agg [ci a3.X, ci a3.Y]] [] (ref09_Cross_x r) (ref09_Cross_o r) := by
  unfold ref09_Cross at hm
  refine CtX_of_E (fn := Try.f103) (c := nd Try.f103 1) (nt := 30) (by kernel_rfl) (by kernel_rfl) (by kernel_rfl) (by kernel_rfl) fun E => ?_
  refine R_sq Try.f103 2 3 (by kernel_rfl) ?_
  refine R_rn Try.f103 2 0 [] [] 0 ⟨[(3, vp 0 0), (4, vp 1 0), (5, vp 2 0)], [(0, bx 46 [ci a1.X, ci a1.Y]), (1, bx 46 [ci a2.X, ci a2.Y]), (2, bx 46 [ci a3.X, ci a3.Y])]⟩ o0 (by kernel_rfl) (by kernel_rfl) ?_
  refine R_sq Try.f103 6 7 (by kernel_rfl) ?_
  refine R_rn Try.f103 6 1 [] [] 3 ⟨[(6, vi (w64 ((w64 ((w64 (a2.X - a1.X)) * (w64 (a3.Y - a1.Y)))) - (w64 ((w64 (a2.Y - a1.Y)) * (w64 (a3.X - a1.X)))))))], []⟩ o0 (by kernel_rfl) (by kernel_rfl) ?_
  obtain rfl := Option.some.inj hm
  refine R_ret (by kernel_rfl) ?_
  exact ret_mk (by kernel_rfl) (by kernel_rfl)

end Saw
end Go.SL

namespace Go.SL
namespace Saw
open Go.Proofs
set_option maxHeartbeats 4000000

def ref09_chain_x (r : (List Point)) : V := vo 0 0 2 r.length

def ref09_chain_o (r : (List Point)) : List (Nat × (Nat × O)) := [(0, ro 0 46 2 r.length (rf e_Point r))]

theorem ref09_chain_f (r : (List Point)) : Frozen (ref09_chain_o r) := by
  intro i k o h
  unfold ref09_chain_o at h
  rw [look_cons] at h
  split at h
  · cases h; exact fun _ _ => rfl
  · cases h

def ref09_chain_k3_S (a1 : List Point) (x3 : Int) (l5 : List Point) (x12 : Bool) : St :=
  ⟨[(0, vc (tl e_Point default a1)), (3, vo 0 0 2 l5.length), (4, vi x3), (33, vb x12)], [(0, ro 0 46 2 l5.length (rf e_Point l5))]⟩

def ref09_chain_L2_S (a1 : List Point) (x3 : Int) (l5 : List Point) (l5n : Nat) : St :=
  ⟨[(0, vc (tl e_Point default a1)), (3, vo 0 0 2 l5n), (4, vi x3)], [(0, ro 0 46 2 l5n (rf e_Point l5))]⟩

def ref09_chain_L2_T (a1 : List Point) (x3 : Int) (l15 : List Point) : St :=
  ⟨[(0, vc (tl e_Point default a1)), (3, vo 0 0 2 l15.length), (4, vi x3)], [(0, ro 0 46 2 l15.length (rf e_Point l15))]⟩

def ref09_chain_L1_S (a1 : List Point) (l2 : List Point) (l2n : Nat) (x3 : Int) : St :=
  ⟨[(0, vc (tl e_Point default a1)), (3, vo 0 0 2 l2n), (4, vi x3)], [(0, ro 0 46 2 l2n (rf e_Point l2))]⟩

def ref09_chain_L1_T (l20 : List Point) : St :=
  ⟨[(3, vo 0 0 2 l20.length)], [(0, ro 0 46 2 l20.length (rf e_Point l20))]⟩

set_option maxRecDepth 100000 in
theorem ref09_chain_L2_ok (E : Env 0) (a1 : List Point) (x3 : Int) : ∀ (n : Nat) (l5 : List Point) (l5n : Nat) (res : (List Point)), l5.length = l5n → ref09_chain_L2 a1 x3 n l5 = some res → HL (kx E 47 0) (nd Try.f90 7456) (loopQ0 2 (fun o => ref09_chain_L2_T a1 x3 o) res) n (ref09_chain_L2_S a1 x3 l5 l5n) := by
  intro n
  induction n with
  | zero =>
    intro l5 l5n res hl0 hm
    cases hm
  | succ n ih =>
    intro l5 l5n res hl0 hm
    subst hl0
    refine HL_succ ?_
    refine R_sq Try.f90 14912 14913 (by kernel_rfl) ?_
    refine R_join (ι := Bool) (nd Try.f90 29824) (nd Try.f90 29825) (by kernel_rfl) (fun p => ref09_chain_k3_S a1 x3 l5 p) (fun p => ref09_chain_k3 l5 (ref09_chain_L2 a1 x3 n) p = some res) ?_ ?_
    · rintro x12 hm
      show H _ (ref09_chain_k3_S a1 x3 l5 x12) (nd Try.f90 29825) _
      refine R_cn Try.f90 (.tmp 33) 59650 59651 (by kernel_rfl) x12 (by kernel_rfl) (fun b13 => ?_) (fun b13 => ?_)
      · replace hm := bif_t b13 hm
        refine R_skip (by kernel_rfl) ?_
        refine R_bk Try.f90 3 29826 (by kernel_rfl) ?_
        obtain ⟨g14, hm⟩ := bif_n hm
        refine R_rn Try.f90 29826 6 [] [.row 0 ((w64 (((l5.length : Nat) : Int) - 1)).toNat) (rf e_Point (l5.take ((w64 (((l5.length : Nat) : Int) - 1)).toNat)))] 1 ⟨[(0, vc (tl e_Point default a1)), (3, vo 0 0 2 ((w64 (((l5.length : Nat) : Int) - 1)).toNat)), (4, vi x3)], [(0, ro 0 46 2 ((w64 (((l5.length : Nat) : Int) - 1)).toNat) (rf e_Point (l5.take ((w64 (((l5.length : Nat) : Int) - 1)).toNat))))]⟩ (o1 (And.intro (And.intro (slOk_of g14).2.1 (slOk_of g14).2.2) (tkP e_Point default l5 l5.length ((w64 (((l5.length : Nat) : Int) - 1)).toNat) (show (w64 (((l5.length : Nat) : Int) - 1)).toNat ≤ l5.length by have := (slOk_of g14); omega)))) (by kernel_rfl) (by kernel_rfl) ?_
        exact HL_enter (ref09_chain_L2_S a1 x3 (l5.take ((w64 (((l5.length : Nat) : Int) - 1)).toNat)) ((w64 (((l5.length : Nat) : Int) - 1)).toNat)) (by kernel_rfl) (by kernel_rfl) (ih (l5.take ((w64 (((l5.length : Nat) : Int) - 1)).toNat)) ((w64 (((l5.length : Nat) : Int) - 1)).toNat) _ (len_take rfl (show (w64 (((l5.length : Nat) : Int) - 1)).toNat ≤ l5.length by have := (slOk_of g14); omega)) hm)
      · replace hm := bif_f b13 hm
        refine R_exit 2 (by kernel_rfl) ?_
        obtain rfl := Option.some.inj hm
        exact L0_mk (by kernel_rfl) (by kernel_rfl)
    · rcases Bool.eq_false_or_eq_true (decide (((l5.length : Nat) : Int) > 1)) with b6 | b6
      · replace hm := bif_t b6 hm
        obtain ⟨g7, hm⟩ := bif_n hm
        obtain ⟨g8, hm⟩ := bif_n hm
        obtain ⟨g9, hm⟩ := bif_n hm
        obtain ⟨v10, h11, hm⟩ := bind_s hm
        refine R_dr Try.f90 29824 5 [] [(3, dfx true), (20, dex (cen [] [] 1 0 (ref09_Cross_x v10) (ref09_Cross_o v10) [14, 20, 26, 30] []))] [] [0, 1, 3, 7, 15, 15, 47, 111, 255, 511, 15, 15, 2063, 6159, 15375, 31759, 15, 15, 196623, 458767, 1048575, 2097151, 4194303] 1 ⟨[(0, vc (tl e_Point default a1)), (3, vo 0 0 2 l5.length), (4, vi x3), (15, vo 0 0 2 l5.length), (16, vo 0 0 2 l5.length), (17, vi ((l5.length : Nat) : Int)), (18, vi (w64 (((l5.length : Nat) : Int) - 2))), (19, vc (.rptr 0 0 2 ((w64 (((l5.length : Nat) : Int) - 2)).toNat) 0)), (20, va [ci ((l5.getD ((w64 (((l5.length : Nat) : Int) - 2)).toNat) default).X), ci ((l5.getD ((w64 (((l5.length : Nat) : Int) - 2)).toNat) default).Y)]), (21, vo 0 0 2 l5.length), (22, vo 0 0 2 l5.length), (23, vi ((l5.length : Nat) : Int)), (24, vi (w64 (((l5.length : Nat) : Int) - 1))), (25, vc (.rptr 0 0 2 ((w64 (((l5.length : Nat) : Int) - 1)).toNat) 0)), (26, va [ci ((l5.getD ((w64 (((l5.length : Nat) : Int) - 1)).toNat) default).X), ci ((l5.getD ((w64 (((l5.length : Nat) : Int) - 1)).toNat) default).Y)]), (27, vc (tl e_Point default a1)), (28, vi x3), (29, vc (.lptr (e_Point (a1.getD x3.toNat default)))), (30, va [ci ((a1.getD x3.toNat default).X), ci ((a1.getD x3.toNat default).Y)]), (31, vi v10), (32, vb (decide (v10 ≤ 0))), (33, vb (decide (v10 ≤ 0)))], [(0, ro 0 46 2 l5.length (rf e_Point l5))]⟩ (o1 (And.intro b6 (And.intro (inb_of g7) (And.intro (toNat_lt (inb_of g7)) (And.intro (inb_of g8) (And.intro (toNat_lt (inb_of g8)) (And.intro (inb_of g9) (callS (K := (kx E 47 0)) ⟨[(14, vb true), (20, va [ci ((l5.getD ((w64 (((l5.length : Nat) : Int) - 2)).toNat) default).X), ci ((l5.getD ((w64 (((l5.length : Nat) : Int) - 2)).toNat) default).Y)]), (26, va [ci ((l5.getD ((w64 (((l5.length : Nat) : Int) - 1)).toNat) default).X), ci ((l5.getD ((w64 (((l5.length : Nat) : Int) - 1)).toNat) default).Y)]), (30, va [ci ((a1.getD x3.toNat default).X), ci ((a1.getD x3.toNat default).Y)])], []⟩ (opAt (rg Try.f90 29824) 20) [] [] 1 o0 rfl (ref09_Cross_ok (l5.getD ((w64 (((l5.length : Nat) : Int) - 2)).toNat) default) (l5.getD ((w64 (((l5.length : Nat) : Int) - 1)).toNat) default) (a1.getD x3.toNat default) v10 h11) (.inl rfl) (by kernel_rfl))))))))) (by kernel_rfl) (by kernel_rfl) ?_
        exact J_mk (decide (v10 ≤ 0)) hm (by kernel_rfl) (by kernel_rfl)
      · replace hm := bif_f b6 hm
        refine R_dr Try.f90 29824 5 [] [(3, dfx false)] [] [0, 1, 3, 7, 15, 15, 47, 111, 255, 511, 15, 15, 2063, 6159, 15375, 31759, 15, 15, 196623, 458767, 1048575, 2097151, 4194303] 1 ⟨[(0, vc (tl e_Point default a1)), (3, vo 0 0 2 l5.length), (4, vi x3), (33, vb false)], [(0, ro 0 46 2 l5.length (rf e_Point l5))]⟩ (o1 b6) (by kernel_rfl) (by kernel_rfl) ?_
        exact J_mk (false) hm (by kernel_rfl) (by kernel_rfl)

set_option maxRecDepth 100000 in
theorem ref09_chain_L1_ok (E : Env 0) (a1 : List Point) : ∀ (n : Nat) (l2 : List Point) (l2n : Nat) (x3 : Int) (res : (List Point)), l2.length = l2n → ref09_chain_L1 a1 n l2 x3 = some res → HL (kx E 47 0) (nd Try.f90 116) (loopQ0 0 (fun o => ref09_chain_L1_T o) res) n (ref09_chain_L1_S a1 l2 l2n x3) := by
  intro n
  induction n with
  | zero =>
    intro l2 l2n x3 res hl0 hm
    cases hm
  | succ n ih =>
    intro l2 l2n x3 res hl0 hm
    subst hl0
    refine HL_succ ?_
    refine R_sq Try.f90 232 233 (by kernel_rfl) ?_
    refine R_sq Try.f90 464 465 (by kernel_rfl) ?_
    refine R_rn Try.f90 464 3 [] [] 1 ⟨[(0, vc (tl e_Point default a1)), (3, vo 0 0 2 l2.length), (4, vi x3), (8, vb (decide (x3 < ((a1.length : Nat) : Int))))], [(0, ro 0 46 2 l2.length (rf e_Point l2))]⟩ o0 (by kernel_rfl) (by kernel_rfl) ?_
    refine R_cn Try.f90 (.tmp 8) 930 931 (by kernel_rfl) (decide (x3 < ((a1.length : Nat) : Int))) (by kernel_rfl) (fun b4 => ?_) (fun b4 => ?_)
    · replace hm := bif_t b4 hm
      refine R_skip (by kernel_rfl) ?_
      refine R_sq Try.f90 466 467 (by kernel_rfl) ?_
      refine R_bk Try.f90 1 932 (by kernel_rfl) ?_
      refine R_sq Try.f90 1864 1865 (by kernel_rfl) ?_
      obtain ⟨o16, h17, hm⟩ := bind_s hm
      refine R_loop0 (nd Try.f90 7456) 2 (by kernel_rfl) FUEL (fun o => ref09_chain_L2_T a1 x3 o) o16 (HL_enter (ref09_chain_L2_S a1 x3 l2 l2.length) (by kernel_rfl) (by kernel_rfl) (ref09_chain_L2_ok E a1 x3 FUEL l2 l2.length o16 rfl h17)) ?_
      obtain ⟨g18, hm⟩ := bif_n hm
      obtain ⟨g19, hm⟩ := bif_n hm
      refine R_rn Try.f90 1865 7 [(5, drw 1 0 (rf e_Point ([(a1.getD x3.toNat default)] : List Point))), (6, drw 0 1 (rf e_Point (o16 ++ ([(a1.getD x3.toNat default)] : List Point))))] [] 1 ⟨[(0, vc (tl e_Point default a1)), (3, vo 0 1 2 (o16.length + 1)), (4, vi x3)], [(0, ro 1 46 2 (o16.length + 1) (rf e_Point (o16 ++ ([(a1.getD x3.toNat default)] : List Point))))]⟩ (o1 (And.intro (inb_of g18) (And.intro (litP e_Point default 2 (fun _ => rfl) ([(a1.getD x3.toNat default)] : List Point) 1 rfl) (apP e_Point default o16 ([(a1.getD x3.toNat default)] : List Point) o16.length 1 2 16 (1 ≤ 1) (Nat.le_refl _) rfl rfl (fun _ => rfl) (room_of g19))))) (by kernel_rfl) (by kernel_rfl) ?_
      refine R_rn Try.f90 467 4 [] [] 2 ⟨[(0, vc (tl e_Point default a1)), (3, vo 0 1 2 (o16.length + 1)), (4, vi (w64 (x3 + 1)))], [(0, ro 1 46 2 (o16.length + 1) (rf e_Point (o16 ++ ([(a1.getD x3.toNat default)] : List Point))))]⟩ o0 (by kernel_rfl) (by kernel_rfl) ?_
      exact HL_enter (ref09_chain_L1_S a1 (o16 ++ ([(a1.getD x3.toNat default)] : List Point)) (o16.length + 1) (w64 (x3 + 1))) (by kernel_rfl) (by kernel_rfl) (ih (o16 ++ ([(a1.getD x3.toNat default)] : List Point)) (o16.length + 1) (w64 (x3 + 1)) _ (len_app rfl rfl) hm)
    · replace hm := bif_f b4 hm
      refine R_exit 0 (by kernel_rfl) ?_
      obtain rfl := Option.some.inj hm
      exact L0_mk (by kernel_rfl) (by kernel_rfl)

set_option maxRecDepth 100000 in
theorem ref09_chain_ok (a1 : List Point) (r : (List Point)) (hm : ref09_chain a1 = some r) : CtX Try.prog globs 90 0 0 [.one (tl e_Point default a1)] [] (ref09_chain_x r) (ref09_chain_o r) := by
  unfold ref09_chain at hm
  refine CtX_of_E (fn := Try.f90) (c := nd Try.f90 1) (nt := 47) (by kernel_rfl) (by kernel_rfl) (by kernel_rfl) (by kernel_rfl) fun E => ?_
  refine R_sq Try.f90 2 3 (by kernel_rfl) ?_
  refine R_rn Try.f90 2 0 [] [] 0 ⟨[(0, vc (tl e_Point default a1))], []⟩ o0 (by kernel_rfl) (by kernel_rfl) ?_
  refine R_sq Try.f90 6 7 (by kernel_rfl) ?_
  refine R_rn Try.f90 6 1 [] [] 0 ⟨[(0, vc (tl e_Point default a1)), (3, vc (.emp))], []⟩ o0 (by kernel_rfl) (by kernel_rfl) ?_
  refine R_sq Try.f90 14 15 (by kernel_rfl) ?_
  refine R_sq Try.f90 28 29 (by kernel_rfl) ?_
  refine R_rn Try.f90 28 2 [] [] 0 ⟨[(0, vc (tl e_Point default a1)), (3, vc (.emp)), (4, vi 0)], []⟩ o0 (by kernel_rfl) (by kernel_rfl) ?_
  refine H_fin [.own 3 0 46 2 (rf e_Point ([] : List Point))] ⟨[(0, vc (tl e_Point default a1)), (3, vo 0 0 2 0), (4, vi 0)], [(0, ro 0 46 2 0 (rf e_Point ([] : List Point)))]⟩ o0 (by kernel_rfl) ?_
  obtain ⟨o21, h22, hm⟩ := bind_s hm
  refine R_loop0 (nd Try.f90 116) 0 (by kernel_rfl) FUEL (fun o => ref09_chain_L1_T o) o21 (HL_enter (ref09_chain_L1_S a1 ([] : List Point) 0 0) (by kernel_rfl) (by kernel_rfl) (ref09_chain_L1_ok E a1 FUEL ([] : List Point) 0 0 o21 rfl h22)) ?_
  refine R_sq Try.f90 30 31 (by kernel_rfl) ?_
  refine R_rn Try.f90 30 8 [] [] 1 ⟨[(2, vo 0 0 2 o21.length)], [(0, ro 0 46 2 o21.length (rf e_Point o21))]⟩ o0 (by kernel_rfl) (by kernel_rfl) ?_
  obtain rfl := Option.some.inj hm
  refine R_ret (by kernel_rfl) ?_
  exact ret_mk (by kernel_rfl) (by kernel_rfl)

end Saw
end Go.SL

namespace Go.SL
namespace Saw
open Go.Proofs
set_option maxHeartbeats 4000000

def ref09_Ranged_x (r : Bool) : V := vb r

def ref09_Ranged_o (r : Bool) : List (Nat × (Nat × O)) := []

theorem ref09_Ranged_f (r : Bool) : Frozen (ref09_Ranged_o r) := by
  intro i k o h
  unfold ref09_Ranged_o at h
  cases h

def ref09_Ranged_k2_S (a1 : List Point) (x2 : Int) (x8 : Bool) : St :=
  ⟨[(0, vc (tl e_Point default a1)), (3, vi x2), (39, vb x8)], []⟩

def ref09_Ranged_L1_S (a1 : List Point) (x2 : Int) : St :=
  ⟨[(0, vc (tl e_Point default a1)), (3, vi x2)], []⟩

def ref09_Ranged_L1_T : St :=
  ⟨[], []⟩

set_option maxRecDepth 100000 in
theorem ref09_Ranged_L1_ok (E : Env 0) (a1 : List Point) : ∀ (n : Nat) (x2 : Int) (res : Bool ⊕ Unit), ref09_Ranged_L1 a1 n x2 = some res → HL (kx E 40 0) (nd Try.f64 52) (loopQ 0 (fun o => ref09_Ranged_L1_T) (fun v st => RetQ Try.prog Try.f64 (ref09_Ranged_x v) (ref09_Ranged_o v) .ret st) res) n (ref09_Ranged_L1_S a1 x2) := by
  intro n
  induction n with
  | zero =>
    intro x2 res hm
    cases hm
  | succ n ih =>
    intro x2 res hm
    refine HL_succ ?_
    refine R_sq Try.f64 104 105 (by kernel_rfl) ?_
    refine R_sq Try.f64 208 209 (by kernel_rfl) ?_
    refine R_rn Try.f64 208 2 [] [] 0 ⟨[(0, vc (tl e_Point default a1)), (3, vi x2), (7, vb (decide (x2 < ((a1.length : Nat) : Int))))], []⟩ o0 (by kernel_rfl) (by kernel_rfl) ?_
    refine R_cn Try.f64 (.tmp 7) 418 419 (by kernel_rfl) (decide (x2 < ((a1.length : Nat) : Int))) (by kernel_rfl) (fun b3 => ?_) (fun b3 => ?_)
    · replace hm := bif_t b3 hm
      refine R_skip (by kernel_rfl) ?_
      refine R_sq Try.f64 210 211 (by kernel_rfl) ?_
      refine R_bk Try.f64 1 420 (by kernel_rfl) ?_
      refine R_join (ι := Bool) (nd Try.f64 840) (nd Try.f64 841) (by kernel_rfl) (fun p => ref09_Ranged_k2_S a1 x2 p) (fun p => ref09_Ranged_k2 x2 (ref09_Ranged_L1 a1 n) p = some res) ?_ ?_
      · rintro x8 hm
        show H _ (ref09_Ranged_k2_S a1 x2 x8) (nd Try.f64 841) _
        refine R_cn Try.f64 (.tmp 39) 1682 1683 (by kernel_rfl) x8 (by kernel_rfl) (fun b9 => ?_) (fun b9 => ?_)
        · replace hm := bif_t b9 hm
          refine R_sq Try.f64 3364 3365 (by kernel_rfl) ?_
          refine R_rn Try.f64 3364 5 [] [] 0 ⟨[(2, vb false)], []⟩ o0 (by kernel_rfl) (by kernel_rfl) ?_
          obtain rfl := Option.some.inj hm
          refine R_ret (by kernel_rfl) ?_
          refine L1_ret false ?_
          exact ret_mk (by kernel_rfl) (by kernel_rfl)
        · replace hm := bif_f b9 hm
          refine R_skip (by kernel_rfl) ?_
          refine R_rn Try.f64 211 3 [] [] 0 ⟨[(0, vc (tl e_Point default a1)), (3, vi (w64 (x2 + 1)))], []⟩ o0 (by kernel_rfl) (by kernel_rfl) ?_
          exact HL_enter (ref09_Ranged_L1_S a1 (w64 (x2 + 1))) (by kernel_rfl) (by kernel_rfl) (ih (w64 (x2 + 1)) _ hm)
      · obtain ⟨g4, hm⟩ := bif_n hm
        rcases Bool.eq_false_or_eq_true (decide (((a1.getD x2.toNat default).X) < (-600))) with b5 | b5
        · replace hm := bif_t b5 hm
          refine R_rn Try.f64 840 4 [(6, dfx true)] [] 0 ⟨[(0, vc (tl e_Point default a1)), (3, vi x2), (39, vb true)], []⟩ (o1 (And.intro (inb_of g4) b5)) (by kernel_rfl) (by kernel_rfl) ?_
          exact J_mk (true) hm (by kernel_rfl) (by kernel_rfl)
        · replace hm := bif_f b5 hm
          rcases Bool.eq_false_or_eq_true (decide (((a1.getD x2.toNat default).X) > 600)) with b6 | b6
          · replace hm := bif_t b6 hm
            refine R_rn Try.f64 840 4 [(6, dfx false), (14, dfx true)] [] 0 ⟨[(0, vc (tl e_Point default a1)), (3, vi x2), (17, vc (tl e_Point default a1)), (18, vi x2), (19, vc (.lptr (e_Point (a1.getD x2.toNat default)))), (20, vc (.lptr (e_Point (a1.getD x2.toNat default)))), (21, vi ((a1.getD x2.toNat default).X)), (22, vb (decide (((a1.getD x2.toNat default).X) > 600))), (39, vb true)], []⟩ (o1 (And.intro (inb_of g4) (And.intro b5 (And.intro (inb_of g4) b6)))) (by kernel_rfl) (by kernel_rfl) ?_
            exact J_mk (true) hm (by kernel_rfl) (by kernel_rfl)
          · replace hm := bif_f b6 hm
            rcases Bool.eq_false_or_eq_true (decide (((a1.getD x2.toNat default).Y) < (-600))) with b7 | b7
            · replace hm := bif_t b7 hm
              refine R_rn Try.f64 840 4 [(6, dfx false), (14, dfx false), (22, dfx true)] [] 0 ⟨[(0, vc (tl e_Point default a1)), (3, vi x2), (17, vc (tl e_Point default a1)), (18, vi x2), (19, vc (.lptr (e_Point (a1.getD x2.toNat default)))), (20, vc (.lptr (e_Point (a1.getD x2.toNat default)))), (21, vi ((a1.getD x2.toNat default).X)), (22, vb (decide (((a1.getD x2.toNat default).X) > 600))), (25, vc (tl e_Point default a1)), (26, vi x2), (27, vc (.lptr (e_Point (a1.getD x2.toNat default)))), (28, vc (.lptr ((e_Point (a1.getD x2.toNat default)).drop 1))), (29, vi ((a1.getD x2.toNat default).Y)), (30, vb (decide (((a1.getD x2.toNat default).Y) < (-600)))), (39, vb true)], []⟩ (o1 (And.intro (inb_of g4) (And.intro b5 (And.intro (inb_of g4) (And.intro b6 (And.intro (inb_of g4) b7)))))) (by kernel_rfl) (by kernel_rfl) ?_
              exact J_mk (true) hm (by kernel_rfl) (by kernel_rfl)
            · replace hm := bif_f b7 hm
              refine R_rn Try.f64 840 4 [(6, dfx false), (14, dfx false), (22, dfx false)] [] 0 ⟨[(0, vc (tl e_Point default a1)), (3, vi x2), (17, vc (tl e_Point default a1)), (18, vi x2), (19, vc (.lptr (e_Point (a1.getD x2.toNat default)))), (20, vc (.lptr (e_Point (a1.getD x2.toNat default)))), (21, vi ((a1.getD x2.toNat default).X)), (22, vb (decide (((a1.getD x2.toNat default).X) > 600))), (25, vc (tl e_Point default a1)), (26, vi x2), (27, vc (.lptr (e_Point (a1.getD x2.toNat default)))), (28, vc (.lptr ((e_Point (a1.getD x2.toNat default)).drop 1))), (29, vi ((a1.getD x2.toNat default).Y)), (30, vb (decide (((a1.getD x2.toNat default).Y) < (-600)))), (33, vc (tl e_Point default a1)), (34, vi x2), (35, vc (.lptr (e_Point (a1.getD x2.toNat default)))), (36, vc (.lptr ((e_Point (a1.getD x2.toNat default)).drop 1))), (37, vi ((a1.getD x2.toNat default).Y)), (38, vb (decide (((a1.getD x2.toNat default).Y) > 600))), (39, vb (decide (((a1.getD x2.toNat default).Y) > 600)))], []⟩ (o1 (And.intro (inb_of g4) (And.intro b5 (And.intro (inb_of g4) (And.intro b6 (And.intro (inb_of g4) (And.intro b7 (inb_of g4)))))))) (by kernel_rfl) (by kernel_rfl) ?_
              exact J_mk (decide (((a1.getD x2.toNat default).Y) > 600)) hm (by kernel_rfl) (by kernel_rfl)
    · replace hm := bif_f b3 hm
      refine R_exit 0 (by kernel_rfl) ?_
      obtain rfl := Option.some.inj hm
      exact L1_mk () (by kernel_rfl) (by kernel_rfl)

set_option maxRecDepth 100000 in
theorem ref09_Ranged_ok (a1 : List Point) (r : Bool) (hm : ref09_Ranged a1 = some r) : CtX Try.prog globs 64 0 0 [.one (tl e_Point default a1)] [] (ref09_Ranged_x r) (ref09_Ranged_o r) := by
  unfold ref09_Ranged at hm
  refine CtX_of_E (fn := Try.f64) (c := nd Try.f64 1) (nt := 40) (by kernel_rfl) (by kernel_rfl) (by kernel_rfl) (by kernel_rfl) fun E => ?_
  refine R_sq Try.f64 2 3 (by kernel_rfl) ?_
  refine R_rn Try.f64 2 0 [] [] 0 ⟨[(0, vc (tl e_Point default a1))], []⟩ o0 (by kernel_rfl) (by kernel_rfl) ?_
  refine R_sq Try.f64 6 7 (by kernel_rfl) ?_
  refine R_sq Try.f64 12 13 (by kernel_rfl) ?_
  refine R_rn Try.f64 12 1 [] [] 0 ⟨[(0, vc (tl e_Point default a1)), (3, vi 0)], []⟩ o0 (by kernel_rfl) (by kernel_rfl) ?_
  obtain ⟨u12, h11, hm⟩ := bind_s hm
  refine R_loop1 (nd Try.f64 52) 0 (by kernel_rfl) FUEL (fun o => ref09_Ranged_L1_T) (fun v st => RetQ Try.prog Try.f64 (ref09_Ranged_x v) (ref09_Ranged_o v) .ret st) u12 (HL_enter (ref09_Ranged_L1_S a1 0) (by kernel_rfl) (by kernel_rfl) (ref09_Ranged_L1_ok E a1 FUEL 0 u12 h11)) ?_ ?_
  · rintro v13 rfl st hr
    obtain rfl := Option.some.inj hm
    exact hr
  · rintro o10 rfl
    replace hm : _ = some r := hm
    refine R_sq Try.f64 14 15 (by kernel_rfl) ?_
    refine R_rn Try.f64 14 6 [] [] 0 ⟨[(2, vb true)], []⟩ o0 (by kernel_rfl) (by kernel_rfl) ?_
    obtain rfl := Option.some.inj hm
    refine R_ret (by kernel_rfl) ?_
    exact ret_mk (by kernel_rfl) (by kernel_rfl)

end Saw
end Go.SL
