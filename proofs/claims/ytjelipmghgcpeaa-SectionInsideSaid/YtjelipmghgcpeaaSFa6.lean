import Derived.Test.YtjelipmghgcpeaaSBase
import Derived.Test.YtjelipmghgcpeaaSFa3
import Derived.Test.YtjelipmghgcpeaaSFa4
import Derived.Test.YtjelipmghgcpeaaSFa5
set_option linter.unusedVariables false
set_option linter.unusedSimpArgs false
namespace Go.SL
namespace Saw
open Go.Proofs
set_option maxHeartbeats 4000000

def section_Shift_x (r : Section) : V := va [ci r.Low, tl e_Span default r.Rows]

def section_Shift_o (r : Section) : List (Nat × (Nat × O)) := []

def section_Shift_k3_S (a2 : Int) (a3 : Int) (v4 : Section) (x12 : Int) (l20 : List Span) (l20n : Nat) : St :=
  ⟨[(1, vi a2), (6, vp 1 0), (7, vp 3 0), (38, vc (tl e_Span default v4.Rows)), (39, vi ((v4.Rows.length : Nat) : Int)), (40, vi x12)], [(1, bx 24 [ci 0, .emp]), (2, ro 0 35 2 l20n (rf e_Span l20)), (3, bx 24 [ci (w64 (v4.Low + a3)), .own 2 0 2 l20n])]⟩

def section_Shift_L2_S (a2 : Int) (a3 : Int) (v4 : Section) (x12 : Int) (l13 : List Span) (l13n : Nat) : St :=
  ⟨[(1, vi a2), (6, vp 1 0), (7, vp 3 0), (38, vc (tl e_Span default v4.Rows)), (39, vi ((v4.Rows.length : Nat) : Int)), (40, vi x12)], [(1, bx 24 [ci 0, .emp]), (2, ro 0 35 2 l13n (rf e_Span l13)), (3, bx 24 [ci (w64 (v4.Low + a3)), .own 2 0 2 l13n])]⟩

def section_Shift_L2_T (a3 : Int) (v4 : Section) (l21 : List Span) : St :=
  ⟨[(6, vp 1 0), (7, vp 3 0)], [(1, bx 24 [ci 0, .emp]), (2, ro 0 35 2 l21.length (rf e_Span l21)), (3, bx 24 [ci (w64 (v4.Low + a3)), .own 2 0 2 l21.length])]⟩

def section_Shift_k1_S (a2 : Int) (a3 : Int) (v4 : Section) (x8 : Bool) : St :=
  ⟨[(1, vi a2), (2, vi a3), (3, vp 0 0), (6, vp 1 0), (27, vb x8)], [(0, bx 24 [ci v4.Low, tl e_Span default v4.Rows]), (1, bx 24 [ci 0, .emp])]⟩

set_option maxRecDepth 100000 in
theorem section_Shift_L2_ok (E : Env 0) (a2 : Int) (a3 : Int) (v4 : Section) : ∀ (n : Nat) (x12 : Int) (l13 : List Span) (l13n : Nat) (res : (List Span)), l13.length = l13n → section_Shift_L2 a2 v4 n x12 l13 = some res → HL (kx E 64 0) (nd Try.f25 500) (loopQ0 0 (fun o => section_Shift_L2_T a3 v4 o) res) n (section_Shift_L2_S a2 a3 v4 x12 l13 l13n) := by
  intro n
  induction n with
  | zero =>
    intro x12 l13 l13n res hl0 hm
    cases hm
  | succ n ih =>
    intro x12 l13 l13n res hl0 hm
    subst hl0
    refine HL_succ ?_
    refine R_sq Try.f25 1000 1001 (by kernel_rfl) ?_
    refine R_rn Try.f25 1000 6 [] [] 4 ⟨[(1, vi a2), (6, vp 1 0), (7, vp 3 0), (38, vc (tl e_Span default v4.Rows)), (39, vi ((v4.Rows.length : Nat) : Int)), (40, vi x12), (41, vb (decide (x12 < ((v4.Rows.length : Nat) : Int))))], [(1, bx 24 [ci 0, .emp]), (2, ro 0 35 2 l13.length (rf e_Span l13)), (3, bx 24 [ci (w64 (v4.Low + a3)), .own 2 0 2 l13.length])]⟩ o0 (by kernel_rfl) (by kernel_rfl) ?_
    refine R_sq Try.f25 2002 2003 (by kernel_rfl) ?_
    refine R_cn Try.f25 (.tmp 41) 4004 4005 (by kernel_rfl) (decide (x12 < ((v4.Rows.length : Nat) : Int))) (by kernel_rfl) (fun b14 => ?_) (fun b14 => ?_)
    · replace hm := bif_t b14 hm
      refine R_skip (by kernel_rfl) ?_
      refine R_join (ι := (List Span) × Nat) (nd Try.f25 4006) (nd Try.f25 4007) (by kernel_rfl) (fun p => section_Shift_k3_S a2 a3 v4 x12 p.1 p.2) (fun p => p.1.length = p.2 ∧ section_Shift_k3 x12 (section_Shift_L2 a2 v4 n) p.1 = some res) ?_ ?_
      · rintro ⟨l20, l20n⟩ ⟨el20, hm⟩
        replace el20 : l20.length = l20n := el20
        subst el20
        show H _ (section_Shift_k3_S a2 a3 v4 x12 l20 l20.length) (nd Try.f25 4007) _
        refine R_rn Try.f25 4007 10 [] [] 5 ⟨[(1, vi a2), (6, vp 1 0), (7, vp 3 0), (38, vc (tl e_Span default v4.Rows)), (39, vi ((v4.Rows.length : Nat) : Int)), (40, vi (w64 (x12 + 1)))], [(1, bx 24 [ci 0, .emp]), (2, ro 0 35 2 l20.length (rf e_Span l20)), (3, bx 24 [ci (w64 (v4.Low + a3)), .own 2 0 2 l20.length])]⟩ o0 (by kernel_rfl) (by kernel_rfl) ?_
        exact HL_enter (section_Shift_L2_S a2 a3 v4 (w64 (x12 + 1)) l20 l20.length) (by kernel_rfl) (by kernel_rfl) (ih (w64 (x12 + 1)) l20 l20.length _ rfl hm)
      · refine R_bk Try.f25 1 8012 (by kernel_rfl) ?_
        refine R_sq Try.f25 16024 16025 (by kernel_rfl) ?_
        obtain ⟨g15, hm⟩ := bif_n hm
        refine R_rn Try.f25 16024 7 [] [] 4 ⟨[(1, vi a2), (6, vp 1 0), (7, vp 3 0), (8, vi x12), (9, vp 4 0), (38, vc (tl e_Span default v4.Rows)), (39, vi ((v4.Rows.length : Nat) : Int)), (40, vi x12)], [(1, bx 24 [ci 0, .emp]), (2, ro 0 35 2 l13.length (rf e_Span l13)), (3, bx 24 [ci (w64 (v4.Low + a3)), .own 2 0 2 l13.length]), (4, bx 35 [ci ((v4.Rows.getD x12.toNat default).A), ci ((v4.Rows.getD x12.toNat default).B)])]⟩ (o1 (inb_of g15)) (by kernel_rfl) (by kernel_rfl) ?_
        refine R_sq Try.f25 32050 32051 (by kernel_rfl) ?_
        obtain ⟨v16, h17, hm⟩ := bind_s hm
        refine R_rn Try.f25 32050 8 [(1, dex (cen [] [] 5 0 (section_isEmpty_x v16) (section_isEmpty_o v16) [45] []))] [] 5 ⟨[(1, vi a2), (6, vp 1 0), (7, vp 3 0), (8, vi x12), (9, vp 4 0), (38, vc (tl e_Span default v4.Rows)), (39, vi ((v4.Rows.length : Nat) : Int)), (40, vi x12), (47, vb (!v16))], [(1, bx 24 [ci 0, .emp]), (2, ro 0 35 2 l13.length (rf e_Span l13)), (3, bx 24 [ci (w64 (v4.Low + a3)), .own 2 0 2 l13.length]), (4, bx 35 [ci ((v4.Rows.getD x12.toNat default).A), ci ((v4.Rows.getD x12.toNat default).B)])]⟩ (o1 (callS (K := (kx E 64 0)) ⟨[(45, va [ci ((v4.Rows.getD x12.toNat default).A), ci ((v4.Rows.getD x12.toNat default).B)])], []⟩ (opAt (rg Try.f25 32050) 1) [] [] 5 o0 rfl (section_isEmpty_ok (v4.Rows.getD x12.toNat default) v16 h17) (.inl rfl) (by kernel_rfl))) (by kernel_rfl) (by kernel_rfl) ?_
        refine R_cn Try.f25 (.tmp 47) 64102 64103 (by kernel_rfl) (!v16) (by kernel_rfl) (fun b18 => ?_) (fun b18 => ?_)
        · replace hm := bif_t b18 hm
          obtain ⟨g19, hm⟩ := bif_n hm
          refine R_rn Try.f25 64102 9 [(13, drw 0 0 (rf e_Span (l13.set x12.toNat (Span.mk (w64 (((v4.Rows.getD x12.toNat default).A) + a2)) (w64 (((v4.Rows.getD x12.toNat default).B) + a2))))))] [] 5 ⟨[(1, vi a2), (6, vp 1 0), (7, vp 3 0), (38, vc (tl e_Span default v4.Rows)), (39, vi ((v4.Rows.length : Nat) : Int)), (40, vi x12)], [(1, bx 24 [ci 0, .emp]), (2, ro 0 35 2 l13.length (rf e_Span (l13.set x12.toNat (Span.mk (w64 (((v4.Rows.getD x12.toNat default).A) + a2)) (w64 (((v4.Rows.getD x12.toNat default).B) + a2)))))), (3, bx 24 [ci (w64 (v4.Low + a3)), .own 2 0 2 l13.length])]⟩ (o1 (And.intro (inb_of g19) (stP e_Span default (Span.mk (w64 (((v4.Rows.getD x12.toNat default).A) + a2)) (w64 (((v4.Rows.getD x12.toNat default).B) + a2))) l13 l13.length x12.toNat 0 [ci (w64 (((v4.Rows.getD x12.toNat default).A) + a2)), ci (w64 (((v4.Rows.getD x12.toNat default).B) + a2))] rfl (toNat_lt (inb_of g19)) rfl))) (by kernel_rfl) (by kernel_rfl) ?_
          exact J_mk ((l13.set x12.toNat (Span.mk (w64 (((v4.Rows.getD x12.toNat default).A) + a2)) (w64 (((v4.Rows.getD x12.toNat default).B) + a2)))), l13.length) ⟨(len_set rfl), hm⟩ (by kernel_rfl) (by kernel_rfl)
        · replace hm := bif_f b18 hm
          refine R_skip (by kernel_rfl) ?_
          exact J_mk (l13, l13.length) ⟨rfl, hm⟩ (by kernel_rfl) (by kernel_rfl)
    · replace hm := bif_f b14 hm
      refine R_exit 0 (by kernel_rfl) ?_
      obtain rfl := Option.some.inj hm
      exact L0_mk (by kernel_rfl) (by kernel_rfl)

set_option maxRecDepth 100000 in
theorem section_Shift_ok (a1 : Section) (a2 : Int) (a3 : Int) (r : Section) (hm : section_Shift a1 a2 a3 = some r) : CtX Try.prog globs 25 0 0 [.agg [ci a1.Low, tl e_Span default a1.Rows], .one (ci a2), .one (ci a3)] [] (section_Shift_x r) (section_Shift_o r) := by
  unfold section_Shift at hm
  refine CtX_of_E (fn := Try.f25) (c := nd Try.f25 1) (nt := 64) (by kernel_rfl) (by kernel_rfl) (by kernel_rfl) (by kernel_rfl) fun E => ?_
  refine R_sq Try.f25 2 3 (by kernel_rfl) ?_
  refine R_rn Try.f25 2 0 [] [] 0 ⟨[(1, vi a2), (2, vi a3), (3, vp 0 0), (6, vp 1 0)], [(0, bx 24 [ci a1.Low, tl e_Span default a1.Rows]), (1, bx 24 [ci 0, .emp])]⟩ o0 (by kernel_rfl) (by kernel_rfl) ?_
  refine R_sq Try.f25 6 7 (by kernel_rfl) ?_
  obtain ⟨v4, h5, hm⟩ := bind_s hm
  refine R_rn Try.f25 6 1 [(1, dex (cen [] [] 2 0 (section_valid_x v4) (section_valid_o v4) [10] []))] [] 2 ⟨[(1, vi a2), (2, vi a3), (3, vp 0 0), (6, vp 1 0)], [(0, bx 24 [ci v4.Low, tl e_Span default v4.Rows]), (1, bx 24 [ci 0, .emp])]⟩ (o1 (callS (K := (kx E 64 0)) ⟨[(10, va [ci a1.Low, tl e_Span default a1.Rows])], []⟩ (opAt (rg Try.f25 6) 1) [] [] 2 o0 rfl (section_valid_ok a1 v4 h5) (.inl rfl) (by kernel_rfl))) (by kernel_rfl) (by kernel_rfl) ?_
  refine R_sq Try.f25 14 15 (by kernel_rfl) ?_
  refine R_join (ι := Bool) (nd Try.f25 28) (nd Try.f25 29) (by kernel_rfl) (fun p => section_Shift_k1_S a2 a3 v4 p) (fun p => section_Shift_k1 a2 a3 v4 p = some r) ?_ ?_
  · rintro x8 hm
    show H _ (section_Shift_k1_S a2 a3 v4 x8) (nd Try.f25 29) _
    refine R_cn Try.f25 (.tmp 27) 58 59 (by kernel_rfl) x8 (by kernel_rfl) (fun b9 => ?_) (fun b9 => ?_)
    · replace hm := bif_t b9 hm
      refine R_sq Try.f25 116 117 (by kernel_rfl) ?_
      refine R_rn Try.f25 116 3 [] [] 2 ⟨[(6, vp 1 0)], [(1, bx 24 [ci 0, .emp])]⟩ o0 (by kernel_rfl) (by kernel_rfl) ?_
      refine H_fin [.ownB 1 1 2 35 2 (rf e_Span ([] : List Span))] ⟨[(6, vp 1 0)], [(1, bx 24 [ci 0, .own 2 0 2 0]), (2, ro 0 35 2 0 (rf e_Span ([] : List Span)))]⟩ o0 (by kernel_rfl) ?_
      refine H_fin [.len 2 (([] : List Span).length), .frz 2] ⟨[(6, vp 1 0)], [(1, bx 24 [ci 0, tl e_Span default ([] : List Span)])]⟩ (o1 (And.intro (And.intro (show 0 = ([] : List Span).length from rfl) (show 0 = ([] : List Span).length from rfl)) (Nat.le_refl (([] : List Span).length)))) (by kernel_rfl) ?_
      obtain rfl := Option.some.inj hm
      refine R_ret (by kernel_rfl) ?_
      exact ret_mk (by kernel_rfl) (by kernel_rfl)
    · replace hm := bif_f b9 hm
      refine R_skip (by kernel_rfl) ?_
      refine R_sq Try.f25 30 31 (by kernel_rfl) ?_
      obtain ⟨v10, h11, hm⟩ := bind_s hm
      refine R_dr Try.f25 30 4 [] [(6, dex (cen [] [] 2 0 (slices_Clone_SSpan_x v10) (slices_Clone_SSpan_o v10) [34] []))] [] [0, 1, 0, 7, 0, 16, 48, 127, 0, 511] 2 ⟨[(1, vi a2), (3, vp 0 0), (6, vp 1 0), (7, vp 3 0)], [(0, bx 24 [ci v4.Low, tl e_Span default v4.Rows]), (1, bx 24 [ci 0, .emp]), (2, ro 0 35 2 v10.length (rf e_Span v10)), (3, bx 24 [ci (w64 (v4.Low + a3)), .own 2 0 2 v10.length])]⟩ (o1 (callS (K := (kx E 64 0)) ⟨[(34, vc (tl e_Span default v4.Rows))], []⟩ (opAt (rg Try.f25 30) 6) [] [] 2 o0 rfl (slices_Clone_SSpan_ok v4.Rows v10 h11) (.inl rfl) (by kernel_rfl))) (by kernel_rfl) (by kernel_rfl) ?_
      refine R_sq Try.f25 62 63 (by kernel_rfl) ?_
      refine R_sq Try.f25 124 125 (by kernel_rfl) ?_
      refine R_rn Try.f25 124 5 [] [] 4 ⟨[(1, vi a2), (6, vp 1 0), (7, vp 3 0), (38, vc (tl e_Span default v4.Rows)), (39, vi ((v4.Rows.length : Nat) : Int)), (40, vi 0)], [(1, bx 24 [ci 0, .emp]), (2, ro 0 35 2 v10.length (rf e_Span v10)), (3, bx 24 [ci (w64 (v4.Low + a3)), .own 2 0 2 v10.length])]⟩ o0 (by kernel_rfl) (by kernel_rfl) ?_
      obtain ⟨o22, h23, hm⟩ := bind_s hm
      refine R_loop0 (nd Try.f25 500) 0 (by kernel_rfl) FUEL (fun o => section_Shift_L2_T a3 v4 o) o22 (HL_enter (section_Shift_L2_S a2 a3 v4 0 v10 v10.length) (by kernel_rfl) (by kernel_rfl) (section_Shift_L2_ok E a2 a3 v4 FUEL 0 v10 v10.length o22 rfl h23)) ?_
      refine R_sq Try.f25 126 127 (by kernel_rfl) ?_
      obtain ⟨v24, h25, hm⟩ := bind_s hm
      refine R_rn Try.f25 126 11 [(1, dpr [.frz 2] (dex (cen [] [] 4 0 (section_valid_x v24) (section_valid_o v24) [62] [])))] [] 4 ⟨[(6, vp 1 0)], [(1, bx 24 [ci v24.Low, tl e_Span default v24.Rows])]⟩ (o1 (And.intro (And.intro (Nat.le_refl o22.length) (Nat.le_refl o22.length)) (callS (K := (kx E 64 0)) ⟨[(62, va [ci (w64 (v4.Low + a3)), tl e_Span default o22])], []⟩ (opAt (rg Try.f25 126) 1) [] [] 4 o0 rfl (section_valid_ok (Section.mk (w64 (v4.Low + a3)) o22) v24 h25) (.inl rfl) (by kernel_rfl)))) (by kernel_rfl) (by kernel_rfl) ?_
      obtain rfl := Option.some.inj hm
      refine R_ret (by kernel_rfl) ?_
      exact ret_mk (by kernel_rfl) (by kernel_rfl)
  · rcases Bool.eq_false_or_eq_true (((v4.Rows.length : Nat) : Int) == 0) with b6 | b6
    · replace hm := bif_t b6 hm
      refine R_rn Try.f25 28 2 [(4, dfx true)] [] 2 ⟨[(1, vi a2), (2, vi a3), (3, vp 0 0), (6, vp 1 0), (27, vb true)], [(0, bx 24 [ci v4.Low, tl e_Span default v4.Rows]), (1, bx 24 [ci 0, .emp])]⟩ (o1 b6) (by kernel_rfl) (by kernel_rfl) ?_
      exact J_mk (true) hm (by kernel_rfl) (by kernel_rfl)
    · replace hm := bif_f b6 hm
      rcases Bool.eq_false_or_eq_true (decide ((imax a2 a3) > 1200)) with b7 | b7
      · replace hm := bif_t b7 hm
        refine R_rn Try.f25 28 2 [(4, dfx false), (10, dfx true)] [] 2 ⟨[(1, vi a2), (2, vi a3), (3, vp 0 0), (6, vp 1 0), (27, vb true)], [(0, bx 24 [ci v4.Low, tl e_Span default v4.Rows]), (1, bx 24 [ci 0, .emp])]⟩ (o1 (And.intro b6 b7)) (by kernel_rfl) (by kernel_rfl) ?_
        exact J_mk (true) hm (by kernel_rfl) (by kernel_rfl)
      · replace hm := bif_f b7 hm
        refine R_rn Try.f25 28 2 [(4, dfx false), (10, dfx false)] [] 2 ⟨[(1, vi a2), (2, vi a3), (3, vp 0 0), (6, vp 1 0), (27, vb (decide ((imin a2 a3) < (-1200))))], [(0, bx 24 [ci v4.Low, tl e_Span default v4.Rows]), (1, bx 24 [ci 0, .emp])]⟩ (o1 (And.intro b6 b7)) (by kernel_rfl) (by kernel_rfl) ?_
        exact J_mk (decide ((imin a2 a3) < (-1200))) hm (by kernel_rfl) (by kernel_rfl)

end Saw
end Go.SL

namespace Go.SL
namespace Saw
open Go.Proofs
set_option maxHeartbeats 4000000

def ref09_Ranged_x (r : Bool) : V := vb r

def ref09_Ranged_o (r : Bool) : List (Nat × (Nat × O)) := []

theorem ref09_Ranged_f (r : Bool) : Frozen (ref09_Ranged_o r) := by
  intro i k o h
  unfold ref09_Ranged_o at h
  cases h

def ref09_Ranged_k2_S (a1 : List Point) (x2 : Int) (x8 : Bool) : St :=
  ⟨[(0, vc (tl e_Point default a1)), (3, vi x2), (39, vb x8)], []⟩

def ref09_Ranged_L1_S (a1 : List Point) (x2 : Int) : St :=
  ⟨[(0, vc (tl e_Point default a1)), (3, vi x2)], []⟩

def ref09_Ranged_L1_T : St :=
  ⟨[], []⟩

set_option maxRecDepth 100000 in
theorem ref09_Ranged_L1_ok (E : Env 0) (a1 : List Point) : ∀ (n : Nat) (x2 : Int) (res : Bool ⊕ Unit), ref09_Ranged_L1 a1 n x2 = some res → HL (kx E 40 0) (nd Try.f64 52) (loopQ 0 (fun o => ref09_Ranged_L1_T) (fun v st => RetQ Try.prog Try.f64 (ref09_Ranged_x v) (ref09_Ranged_o v) .ret st) res) n (ref09_Ranged_L1_S a1 x2) := by
  intro n
  induction n with
  | zero =>
    intro x2 res hm
    cases hm
  | succ n ih =>
    intro x2 res hm
    refine HL_succ ?_
    refine R_sq Try.f64 104 105 (by kernel_rfl) ?_
    refine R_sq Try.f64 208 209 (by kernel_rfl) ?_
    refine R_rn Try.f64 208 2 [] [] 0 ⟨[(0, vc (tl e_Point default a1)), (3, vi x2), (7, vb (decide (x2 < ((a1.length : Nat) : Int))))], []⟩ o0 (by kernel_rfl) (by kernel_rfl) ?_
    refine R_cn Try.f64 (.tmp 7) 418 419 (by kernel_rfl) (decide (x2 < ((a1.length : Nat) : Int))) (by kernel_rfl) (fun b3 => ?_) (fun b3 => ?_)
    · replace hm := bif_t b3 hm
      refine R_skip (by kernel_rfl) ?_
      refine R_sq Try.f64 210 211 (by kernel_rfl) ?_
      refine R_bk Try.f64 1 420 (by kernel_rfl) ?_
      refine R_join (ι := Bool) (nd Try.f64 840) (nd Try.f64 841) (by kernel_rfl) (fun p => ref09_Ranged_k2_S a1 x2 p) (fun p => ref09_Ranged_k2 x2 (ref09_Ranged_L1 a1 n) p = some res) ?_ ?_
      · rintro x8 hm
        show H _ (ref09_Ranged_k2_S a1 x2 x8) (nd Try.f64 841) _
        refine R_cn Try.f64 (.tmp 39) 1682 1683 (by kernel_rfl) x8 (by kernel_rfl) (fun b9 => ?_) (fun b9 => ?_)
        · replace hm := bif_t b9 hm
          refine R_sq Try.f64 3364 3365 (by kernel_rfl) ?_
          refine R_rn Try.f64 3364 5 [] [] 0 ⟨[(2, vb false)], []⟩ o0 (by kernel_rfl) (by kernel_rfl) ?_
          obtain rfl := Option.some.inj hm
          refine R_ret (by kernel_rfl) ?_
          refine L1_ret false ?_
          exact ret_mk (by kernel_rfl) (by kernel_rfl)
        · replace hm := bif_f b9 hm
          refine R_skip (by kernel_rfl) ?_
          refine R_rn Try.f64 211 3 [] [] 0 ⟨[(0, vc (tl e_Point default a1)), (3, vi (w64 (x2 + 1)))], []⟩ o0 (by kernel_rfl) (by kernel_rfl) ?_
          exact HL_enter (ref09_Ranged_L1_S a1 (w64 (x2 + 1))) (by kernel_rfl) (by kernel_rfl) (ih (w64 (x2 + 1)) _ hm)
      · obtain ⟨g4, hm⟩ := bif_n hm
        rcases Bool.eq_false_or_eq_true (decide (((a1.getD x2.toNat default).X) < (-600))) with b5 | b5
        · replace hm := bif_t b5 hm
          refine R_rn Try.f64 840 4 [(6, dfx true)] [] 0 ⟨[(0, vc (tl e_Point default a1)), (3, vi x2), (39, vb true)], []⟩ (o1 (And.intro (inb_of g4) b5)) (by kernel_rfl) (by kernel_rfl) ?_
          exact J_mk (true) hm (by kernel_rfl) (by kernel_rfl)
        · replace hm := bif_f b5 hm
          rcases Bool.eq_false_or_eq_true (decide (((a1.getD x2.toNat default).X) > 600)) with b6 | b6
          · replace hm := bif_t b6 hm
            refine R_rn Try.f64 840 4 [(6, dfx false), (14, dfx true)] [] 0 ⟨[(0, vc (tl e_Point default a1)), (3, vi x2), (17, vc (tl e_Point default a1)), (18, vi x2), (19, vc (.lptr (e_Point (a1.getD x2.toNat default)))), (20, vc (.lptr (e_Point (a1.getD x2.toNat default)))), (21, vi ((a1.getD x2.toNat default).X)), (22, vb (decide (((a1.getD x2.toNat default).X) > 600))), (39, vb true)], []⟩ (o1 (And.intro (inb_of g4) (And.intro b5 (And.intro (inb_of g4) b6)))) (by kernel_rfl) (by kernel_rfl) ?_
            exact J_mk (true) hm (by kernel_rfl) (by kernel_rfl)
          · replace hm := bif_f b6 hm
            rcases Bool.eq_false_or_eq_true (decide (((a1.getD x2.toNat default).Y) < (-600))) with b7 | b7
            · replace hm := bif_t b7 hm
              refine R_rn Try.f64 840 4 [(6, dfx false), (14, dfx false), (22, dfx true)] [] 0 ⟨[(0, vc (tl e_Point default a1)), (3, vi x2), (17, vc (tl e_Point default a1)), (18, vi x2), (19, vc (.lptr (e_Point (a1.getD x2.toNat default)))), (20, vc (.lptr (e_Point (a1.getD x2.toNat default)))), (21, vi ((a1.getD x2.toNat default).X)), (22, vb (decide (((a1.getD x2.toNat default).X) > 600))), (25, vc (tl e_Point default a1)), (26, vi x2), (27, vc (.lptr (e_Point (a1.getD x2.toNat default)))), (28, vc (.lptr ((e_Point (a1.getD x2.toNat default)).drop 1))), (29, vi ((a1.getD x2.toNat default).Y)), (30, vb (decide (((a1.getD x2.toNat default).Y) < (-600)))), (39, vb true)], []⟩ (o1 (And.intro (inb_of g4) (And.intro b5 (And.intro (inb_of g4) (And.intro b6 (And.intro (inb_of g4) b7)))))) (by kernel_rfl) (by kernel_rfl) ?_
              exact J_mk (true) hm (by kernel_rfl) (by kernel_rfl)
            · replace hm := bif_f b7 hm
              refine R_rn Try.f64 840 4 [(6, dfx false), (14, dfx false), (22, dfx false)] [] 0 ⟨[(0, vc (tl e_Point default a1)), (3, vi x2), (17, vc (tl e_Point default a1)), (18, vi x2), (19, vc (.lptr (e_Point (a1.getD x2.toNat default)))), (20, vc (.lptr (e_Point (a1.getD x2.toNat default)))), (21, vi ((a1.getD x2.toNat default).X)), (22, vb (decide (((a1.getD x2.toNat default).X) > 600))), (25, vc (tl e_Point default a1)), (26, vi x2), (27, vc (.lptr (e_Point (a1.getD x2.toNat default)))), (28, vc (.lptr ((e_Point (a1.getD x2.toNat default)).drop 1))), (29, vi ((a1.getD x2.toNat default).Y)), (30, vb (decide (((a1.getD x2.toNat default).Y) < (-600)))), (33, vc (tl e_Point default a1)), (34, vi x2), (35, vc (.lptr (e_Point (a1.getD x2.toNat default)))), (36, vc (.lptr ((e_Point (a1.getD x2.toNat default)).drop 1))), (37, vi ((a1.getD x2.toNat default).Y)), (38, vb (decide (((a1.getD x2.toNat default).Y) > 600))), (39, vb (decide (((a1.getD x2.toNat default).Y) > 600)))], []⟩ (o1 (And.intro (inb_of g4) (And.intro b5 (And.intro (inb_of g4) (And.intro b6 (And.intro (inb_of g4) (And.intro b7 (inb_of g4)))))))) (by kernel_rfl) (by kernel_rfl) ?_
              exact J_mk (decide (((a1.getD x2.toNat default).Y) > 600)) hm (by kernel_rfl) (by kernel_rfl)
    · replace hm := bif_f b3 hm
      refine R_exit 0 (by kernel_rfl) ?_
      obtain rfl := Option.some.inj hm
      exact L1_mk () (by kernel_rfl) (by kernel_rfl)

set_option maxRecDepth 100000 in
theorem ref09_Ranged_ok (a1 : List Point) (r : Bool) (hm : ref09_Ranged a1 = some r) : CtX Try.prog globs 64 0 0 [.one (tl e_Point default a1)] [] (ref09_Ranged_x r) (ref09_Ranged_o r) := by
  unfold ref09_Ranged at hm
  refine CtX_of_E (fn := Try.f64) (c := nd Try.f64 1) (nt := 40) (by kernel_rfl) (by kernel_rfl) (by kernel_rfl) (by kernel_rfl) fun E => ?_
  refine R_sq Try.f64 2 3 (by kernel_rfl) ?_
  refine R_rn Try.f64 2 0 [] [] 0 ⟨[(0, vc (tl e_Point default a1))], []⟩ o0 (by kernel_rfl) (by kernel_rfl) ?_
  refine R_sq Try.f64 6 7 (by kernel_rfl) ?_
  refine R_sq Try.f64 12 13 (by kernel_rfl) ?_
  refine R_rn Try.f64 12 1 [] [] 0 ⟨[(0, vc (tl e_Point default a1)), (3, vi 0)], []⟩ o0 (by kernel_rfl) (by kernel_rfl) ?_
  obtain ⟨u12, h11, hm⟩ := bind_s hm
  refine R_loop1 (nd Try.f64 52) 0 (by kernel_rfl) FUEL (fun o => ref09_Ranged_L1_T) (fun v st => RetQ Try.prog Try.f64 (ref09_Ranged_x v) (ref09_Ranged_o v) .ret st) u12 (HL_enter (ref09_Ranged_L1_S a1 0) (by kernel_rfl) (by kernel_rfl) (ref09_Ranged_L1_ok E a1 FUEL 0 u12 h11)) ?_ ?_
  · rintro v13 rfl st hr
    obtain rfl := Option.some.inj hm
    exact hr
  · rintro o10 rfl
    replace hm : _ = some r := hm
    refine R_sq Try.f64 14 15 (by kernel_rfl) ?_
    refine R_rn Try.f64 14 6 [] [] 0 ⟨[(2, vb true)], []⟩ o0 (by kernel_rfl) (by kernel_rfl) ?_
    obtain rfl := Option.some.inj hm
    refine R_ret (by kernel_rfl) ?_
    exact ret_mk (by kernel_rfl) (by kernel_rfl)

end Saw
end Go.SL

namespace Go.SL
namespace Saw
open Go.Proofs
set_option maxHeartbeats 4000000

def ref09_Area2_x (r : Int) : V := vi r

def ref09_Area2_o (r : Int) : List (Nat × (Nat × O)) := []

theorem ref09_Area2_f (r : Int) : Frozen (ref09_Area2_o r) := by
  intro i k o h
  unfold ref09_Area2_o at h
  cases h

def ref09_Area2_L2_S (a1 : List Point) (x7 : Int) (x8 : Int) : St :=
  ⟨[(0, vc (tl e_Point default a1)), (3, vi x7), (4, vi x8)], []⟩

def ref09_Area2_L2_T (x13 : Int) : St :=
  ⟨[(3, vi x13)], []⟩

def ref09_Area2_k1_S (a1 : List Point) (x5 : Bool) : St :=
  ⟨[(0, vc (tl e_Point default a1)), (13, vb x5)], []⟩

set_option maxRecDepth 100000 in
theorem ref09_Area2_L2_ok (E : Env 0) (a1 : List Point) : ∀ (n : Nat) (x7 : Int) (x8 : Int) (res : Int), ref09_Area2_L2 a1 n x7 x8 = some res → HL (kx E 48 0) (nd Try.f65 244) (loopQ0 0 (fun o => ref09_Area2_L2_T o) res) n (ref09_Area2_L2_S a1 x7 x8) := by
  intro n
  induction n with
  | zero =>
    intro x7 x8 res hm
    cases hm
  | succ n ih =>
    intro x7 x8 res hm
    refine HL_succ ?_
    refine R_sq Try.f65 488 489 (by kernel_rfl) ?_
    refine R_sq Try.f65 976 977 (by kernel_rfl) ?_
    refine R_rn Try.f65 976 5 [] [] 0 ⟨[(0, vc (tl e_Point default a1)), (3, vi x7), (4, vi x8), (17, vb (decide (x8 < ((a1.length : Nat) : Int))))], []⟩ o0 (by kernel_rfl) (by kernel_rfl) ?_
    refine R_cn Try.f65 (.tmp 17) 1954 1955 (by kernel_rfl) (decide (x8 < ((a1.length : Nat) : Int))) (by kernel_rfl) (fun b9 => ?_) (fun b9 => ?_)
    · replace hm := bif_t b9 hm
      refine R_skip (by kernel_rfl) ?_
      refine R_sq Try.f65 978 979 (by kernel_rfl) ?_
      refine R_bk Try.f65 1 1956 (by kernel_rfl) ?_
      refine R_sq Try.f65 3912 3913 (by kernel_rfl) ?_
      obtain ⟨g10, hm⟩ := bif_n hm
      obtain ⟨g11, hm⟩ := bif_n hm
      refine R_rn Try.f65 3912 7 [] [] 0 ⟨[(0, vc (tl e_Point default a1)), (3, vi x7), (4, vi x8), (5, vp 0 0)], [(0, bx 46 [ci ((a1.getD (Int.tmod (w64 (x8 + 1)) ((a1.length : Nat) : Int)).toNat default).X), ci ((a1.getD (Int.tmod (w64 (x8 + 1)) ((a1.length : Nat) : Int)).toNat default).Y)])]⟩ (o1 (And.intro (nz_of g10) (inb_of g11))) (by kernel_rfl) (by kernel_rfl) ?_
      obtain ⟨g12, hm⟩ := bif_n hm
      refine R_dr Try.f65 3913 8 [] [] [] [0, 0, 0, 6, 14, 30, 0, 64, 254, 511, 0, 1024, 0, 0, 12288, 28672, 61440, 130048, 262143, 524287] 1 ⟨[(0, vc (tl e_Point default a1)), (3, vi (w64 ((w64 (x7 + (w64 (((a1.getD x8.toNat default).X) * ((a1.getD (Int.tmod (w64 (x8 + 1)) ((a1.length : Nat) : Int)).toNat default).Y))))) - (w64 (((a1.getD (Int.tmod (w64 (x8 + 1)) ((a1.length : Nat) : Int)).toNat default).X) * ((a1.getD x8.toNat default).Y)))))), (4, vi x8)], []⟩ (o1 (And.intro (inb_of g12) (inb_of g12))) (by kernel_rfl) (by kernel_rfl) ?_
      refine R_rn Try.f65 979 6 [] [] 1 ⟨[(0, vc (tl e_Point default a1)), (3, vi (w64 ((w64 (x7 + (w64 (((a1.getD x8.toNat default).X) * ((a1.getD (Int.tmod (w64 (x8 + 1)) ((a1.length : Nat) : Int)).toNat default).Y))))) - (w64 (((a1.getD (Int.tmod (w64 (x8 + 1)) ((a1.length : Nat) : Int)).toNat default).X) * ((a1.getD x8.toNat default).Y)))))), (4, vi (w64 (x8 + 1)))], []⟩ o0 (by kernel_rfl) (by kernel_rfl) ?_
      exact HL_enter (ref09_Area2_L2_S a1 (w64 ((w64 (x7 + (w64 (((a1.getD x8.toNat default).X) * ((a1.getD (Int.tmod (w64 (x8 + 1)) ((a1.length : Nat) : Int)).toNat default).Y))))) - (w64 (((a1.getD (Int.tmod (w64 (x8 + 1)) ((a1.length : Nat) : Int)).toNat default).X) * ((a1.getD x8.toNat default).Y))))) (w64 (x8 + 1))) (by kernel_rfl) (by kernel_rfl) (ih (w64 ((w64 (x7 + (w64 (((a1.getD x8.toNat default).X) * ((a1.getD (Int.tmod (w64 (x8 + 1)) ((a1.length : Nat) : Int)).toNat default).Y))))) - (w64 (((a1.getD (Int.tmod (w64 (x8 + 1)) ((a1.length : Nat) : Int)).toNat default).X) * ((a1.getD x8.toNat default).Y))))) (w64 (x8 + 1)) _ hm)
    · replace hm := bif_f b9 hm
      refine R_exit 0 (by kernel_rfl) ?_
      obtain rfl := Option.some.inj hm
      exact L0_mk (by kernel_rfl) (by kernel_rfl)

set_option maxRecDepth 100000 in
theorem ref09_Area2_ok (a1 : List Point) (r : Int) (hm : ref09_Area2 a1 = some r) : CtX Try.prog globs 65 0 0 [.one (tl e_Point default a1)] [] (ref09_Area2_x r) (ref09_Area2_o r) := by
  unfold ref09_Area2 at hm
  refine CtX_of_E (fn := Try.f65) (c := nd Try.f65 1) (nt := 48) (by kernel_rfl) (by kernel_rfl) (by kernel_rfl) (by kernel_rfl) fun E => ?_
  refine R_sq Try.f65 2 3 (by kernel_rfl) ?_
  refine R_rn Try.f65 2 0 [] [] 0 ⟨[(0, vc (tl e_Point default a1))], []⟩ o0 (by kernel_rfl) (by kernel_rfl) ?_
  refine R_sq Try.f65 6 7 (by kernel_rfl) ?_
  refine R_join (ι := Bool) (nd Try.f65 12) (nd Try.f65 13) (by kernel_rfl) (fun p => ref09_Area2_k1_S a1 p) (fun p => ref09_Area2_k1 a1 p = some r) ?_ ?_
  · rintro x5 hm
    show H _ (ref09_Area2_k1_S a1 x5) (nd Try.f65 13) _
    refine R_cn Try.f65 (.tmp 13) 26 27 (by kernel_rfl) x5 (by kernel_rfl) (fun b6 => ?_) (fun b6 => ?_)
    · replace hm := bif_t b6 hm
      refine R_sq Try.f65 52 53 (by kernel_rfl) ?_
      refine R_rn Try.f65 52 2 [] [] 0 ⟨[(2, vi 0)], []⟩ o0 (by kernel_rfl) (by kernel_rfl) ?_
      obtain rfl := Option.some.inj hm
      refine R_ret (by kernel_rfl) ?_
      exact ret_mk (by kernel_rfl) (by kernel_rfl)
    · replace hm := bif_f b6 hm
      refine R_skip (by kernel_rfl) ?_
      refine R_sq Try.f65 14 15 (by kernel_rfl) ?_
      refine R_rn Try.f65 14 3 [] [] 0 ⟨[(0, vc (tl e_Point default a1)), (3, vi 0)], []⟩ o0 (by kernel_rfl) (by kernel_rfl) ?_
      refine R_sq Try.f65 30 31 (by kernel_rfl) ?_
      refine R_sq Try.f65 60 61 (by kernel_rfl) ?_
      refine R_rn Try.f65 60 4 [] [] 0 ⟨[(0, vc (tl e_Point default a1)), (3, vi 0), (4, vi 0)], []⟩ o0 (by kernel_rfl) (by kernel_rfl) ?_
      obtain ⟨o14, h15, hm⟩ := bind_s hm
      refine R_loop0 (nd Try.f65 244) 0 (by kernel_rfl) FUEL (fun o => ref09_Area2_L2_T o) o14 (HL_enter (ref09_Area2_L2_S a1 0 0) (by kernel_rfl) (by kernel_rfl) (ref09_Area2_L2_ok E a1 FUEL 0 0 o14 h15)) ?_
      refine R_sq Try.f65 62 63 (by kernel_rfl) ?_
      refine R_rn Try.f65 62 9 [] [] 0 ⟨[(2, vi o14)], []⟩ o0 (by kernel_rfl) (by kernel_rfl) ?_
      obtain rfl := Option.some.inj hm
      refine R_ret (by kernel_rfl) ?_
      exact ret_mk (by kernel_rfl) (by kernel_rfl)
  · rcases Bool.eq_false_or_eq_true (decide (((a1.length : Nat) : Int) > 32)) with b2 | b2
    · replace hm := bif_t b2 hm
      refine R_rn Try.f65 12 1 [(3, dfx true)] [] 0 ⟨[(0, vc (tl e_Point default a1)), (13, vb true)], []⟩ (o1 b2) (by kernel_rfl) (by kernel_rfl) ?_
      exact J_mk (true) hm (by kernel_rfl) (by kernel_rfl)
    · replace hm := bif_f b2 hm
      obtain ⟨v3, h4, hm⟩ := bind_s hm
      refine R_rn Try.f65 12 1 [(3, dfx false), (5, dex (cen [] [] 0 0 (ref09_Ranged_x v3) (ref09_Ranged_o v3) [9, 10] []))] [] 0 ⟨[(0, vc (tl e_Point default a1)), (13, vb (!v3))], []⟩ (o1 (And.intro b2 (callS (K := (kx E 48 0)) ⟨[(9, vb false), (10, vc (tl e_Point default a1))], []⟩ (opAt (rg Try.f65 12) 5) [] [] 0 o0 rfl (ref09_Ranged_ok a1 v3 h4) (.inl rfl) (by kernel_rfl)))) (by kernel_rfl) (by kernel_rfl) ?_
      exact J_mk (!v3) hm (by kernel_rfl) (by kernel_rfl)

end Saw
end Go.SL

namespace Go.SL
namespace Saw
open Go.Proofs
set_option maxHeartbeats 4000000

def ref09_Check_x (r : Int) : V := vi r

def ref09_Check_o (r : Int) : List (Nat × (Nat × O)) := []

theorem ref09_Check_f (r : Int) : Frozen (ref09_Check_o r) := by
  intro i k o h
  unfold ref09_Check_o at h
  cases h

set_option maxRecDepth 100000 in
theorem ref09_Check_ok (a1 : List Point) (r : Int) (hm : ref09_Check a1 = some r) : CtX Try.prog globs 35 0 0 [.one (tl e_Point default a1)] [] (ref09_Check_x r) (ref09_Check_o r) := by
  unfold ref09_Check at hm
  refine CtX_of_E (fn := Try.f35) (c := nd Try.f35 1) (nt := 19) (by kernel_rfl) (by kernel_rfl) (by kernel_rfl) (by kernel_rfl) fun E => ?_
  refine R_sq Try.f35 2 3 (by kernel_rfl) ?_
  refine R_rn Try.f35 2 0 [] [] 0 ⟨[(0, vc (tl e_Point default a1))], []⟩ o0 (by kernel_rfl) (by kernel_rfl) ?_
  refine R_sq Try.f35 6 7 (by kernel_rfl) ?_
  refine R_bk Try.f35 0 12 (by kernel_rfl) ?_
  refine R_sq Try.f35 24 25 (by kernel_rfl) ?_
  refine R_rn Try.f35 24 1 [] [] 0 ⟨[(0, vc (tl e_Point default a1)), (3, vb (decide (((a1.length : Nat) : Int) < 3)))], []⟩ o0 (by kernel_rfl) (by kernel_rfl) ?_
  refine R_cn Try.f35 (.tmp 3) 50 51 (by kernel_rfl) (decide (((a1.length : Nat) : Int) < 3)) (by kernel_rfl) (fun b2 => ?_) (fun b2 => ?_)
  · replace hm := bif_t b2 hm
    refine R_sq Try.f35 100 101 (by kernel_rfl) ?_
    refine R_rn Try.f35 100 2 [] [] 0 ⟨[(2, vi 3)], []⟩ o0 (by kernel_rfl) (by kernel_rfl) ?_
    obtain rfl := Option.some.inj hm
    refine R_ret (by kernel_rfl) ?_
    exact ret_mk (by kernel_rfl) (by kernel_rfl)
  · replace hm := bif_f b2 hm
    refine R_sq Try.f35 102 103 (by kernel_rfl) ?_
    refine R_rn Try.f35 102 3 [] [] 0 ⟨[(0, vc (tl e_Point default a1)), (7, vb (decide (((a1.length : Nat) : Int) > 32)))], []⟩ o0 (by kernel_rfl) (by kernel_rfl) ?_
    refine R_cn Try.f35 (.tmp 7) 206 207 (by kernel_rfl) (decide (((a1.length : Nat) : Int) > 32)) (by kernel_rfl) (fun b3 => ?_) (fun b3 => ?_)
    · replace hm := bif_t b3 hm
      refine R_sq Try.f35 412 413 (by kernel_rfl) ?_
      refine R_rn Try.f35 412 4 [] [] 0 ⟨[(2, vi 4)], []⟩ o0 (by kernel_rfl) (by kernel_rfl) ?_
      obtain rfl := Option.some.inj hm
      refine R_ret (by kernel_rfl) ?_
      exact ret_mk (by kernel_rfl) (by kernel_rfl)
    · replace hm := bif_f b3 hm
      refine R_sq Try.f35 414 415 (by kernel_rfl) ?_
      obtain ⟨v4, h5, hm⟩ := bind_s hm
      refine R_rn Try.f35 414 5 [(1, dex (cen [] [] 0 0 (ref09_Ranged_x v4) (ref09_Ranged_o v4) [12] []))] [] 0 ⟨[(0, vc (tl e_Point default a1)), (11, vb (!v4))], []⟩ (o1 (callS (K := (kx E 19 0)) ⟨[(12, vc (tl e_Point default a1))], []⟩ (opAt (rg Try.f35 414) 1) [] [] 0 o0 rfl (ref09_Ranged_ok a1 v4 h5) (.inl rfl) (by kernel_rfl))) (by kernel_rfl) (by kernel_rfl) ?_
      refine R_cn Try.f35 (.tmp 11) 830 831 (by kernel_rfl) (!v4) (by kernel_rfl) (fun b6 => ?_) (fun b6 => ?_)
      · replace hm := bif_t b6 hm
        refine R_sq Try.f35 1660 1661 (by kernel_rfl) ?_
        refine R_rn Try.f35 1660 6 [] [] 0 ⟨[(2, vi 9)], []⟩ o0 (by kernel_rfl) (by kernel_rfl) ?_
        obtain rfl := Option.some.inj hm
        refine R_ret (by kernel_rfl) ?_
        exact ret_mk (by kernel_rfl) (by kernel_rfl)
      · replace hm := bif_f b6 hm
        refine R_sq Try.f35 1662 1663 (by kernel_rfl) ?_
        obtain ⟨v7, h8, hm⟩ := bind_s hm
        refine R_rn Try.f35 1662 7 [(1, dex (cen [] [] 0 0 (ref09_Area2_x v7) (ref09_Area2_o v7) [16] []))] [] 0 ⟨[(15, vb (v7 == 0))], []⟩ (o1 (callS (K := (kx E 19 0)) ⟨[(16, vc (tl e_Point default a1))], []⟩ (opAt (rg Try.f35 1662) 1) [] [] 0 o0 rfl (ref09_Area2_ok a1 v7 h8) (.inl rfl) (by kernel_rfl))) (by kernel_rfl) (by kernel_rfl) ?_
        refine R_cn Try.f35 (.tmp 15) 3326 3327 (by kernel_rfl) (v7 == 0) (by kernel_rfl) (fun b9 => ?_) (fun b9 => ?_)
        · replace hm := bif_t b9 hm
          refine R_sq Try.f35 6652 6653 (by kernel_rfl) ?_
          refine R_rn Try.f35 6652 8 [] [] 0 ⟨[(2, vi 19)], []⟩ o0 (by kernel_rfl) (by kernel_rfl) ?_
          obtain rfl := Option.some.inj hm
          refine R_ret (by kernel_rfl) ?_
          exact ret_mk (by kernel_rfl) (by kernel_rfl)
        · replace hm := bif_f b9 hm
          refine R_skip (by kernel_rfl) ?_
          refine R_sq Try.f35 14 15 (by kernel_rfl) ?_
          refine R_rn Try.f35 14 9 [] [] 0 ⟨[(2, vi 0)], []⟩ o0 (by kernel_rfl) (by kernel_rfl) ?_
          obtain rfl := Option.some.inj hm
          refine R_ret (by kernel_rfl) ?_
          exact ret_mk (by kernel_rfl) (by kernel_rfl)

end Saw
end Go.SL
