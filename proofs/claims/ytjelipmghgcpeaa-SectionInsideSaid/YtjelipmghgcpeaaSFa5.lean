import Derived.Test.YtjelipmghgcpeaaSBase
import Derived.Test.YtjelipmghgcpeaaSFa4
import Derived.Test.YtjelipmghgcpeaaSFa1
import Derived.Test.YtjelipmghgcpeaaSFa3
set_option linter.unusedVariables false
set_option linter.unusedSimpArgs false
namespace Go.SL
namespace Saw
open Go.Proofs
set_option maxHeartbeats 4000000

def section_Area_x (r : Int) : V := vi r

def section_Area_o (r : Int) : List (Nat × (Nat × O)) := []

theorem section_Area_f (r : Int) : Frozen (section_Area_o r) := by
  intro i k o h
  unfold section_Area_o at h
  cases h

def section_Area_L1_S (v2 : Section) (x4 : Int) (x5 : Int) : St :=
  ⟨[(3, vi x4), (8, vc (tl e_Span default v2.Rows)), (9, vi ((v2.Rows.length : Nat) : Int)), (10, vi x5)], []⟩

def section_Area_L1_T (x10 : Int) : St :=
  ⟨[(3, vi x10)], []⟩

set_option maxRecDepth 100000 in
theorem section_Area_L1_ok (E : Env 0) (v2 : Section) : ∀ (n : Nat) (x4 : Int) (x5 : Int) (res : Int), section_Area_L1 v2 n x4 x5 = some res → HL (kx E 21 0) (nd Try.f19 116) (loopQ0 0 (fun o => section_Area_L1_T o) res) n (section_Area_L1_S v2 x4 x5) := by
  intro n
  induction n with
  | zero =>
    intro x4 x5 res hm
    cases hm
  | succ n ih =>
    intro x4 x5 res hm
    refine HL_succ ?_
    refine R_sq Try.f19 232 233 (by kernel_rfl) ?_
    refine R_rn Try.f19 232 3 [] [] 1 ⟨[(3, vi x4), (8, vc (tl e_Span default v2.Rows)), (9, vi ((v2.Rows.length : Nat) : Int)), (10, vi x5), (11, vb (decide (x5 < ((v2.Rows.length : Nat) : Int))))], []⟩ o0 (by kernel_rfl) (by kernel_rfl) ?_
    refine R_sq Try.f19 466 467 (by kernel_rfl) ?_
    refine R_cn Try.f19 (.tmp 11) 932 933 (by kernel_rfl) (decide (x5 < ((v2.Rows.length : Nat) : Int))) (by kernel_rfl) (fun b6 => ?_) (fun b6 => ?_)
    · replace hm := bif_t b6 hm
      refine R_skip (by kernel_rfl) ?_
      refine R_sq Try.f19 934 935 (by kernel_rfl) ?_
      refine R_bk Try.f19 1 1868 (by kernel_rfl) ?_
      refine R_sq Try.f19 3736 3737 (by kernel_rfl) ?_
      obtain ⟨g7, hm⟩ := bif_n hm
      refine R_rn Try.f19 3736 4 [] [] 1 ⟨[(3, vi x4), (5, vp 1 0), (8, vc (tl e_Span default v2.Rows)), (9, vi ((v2.Rows.length : Nat) : Int)), (10, vi x5)], [(1, bx 35 [ci ((v2.Rows.getD x5.toNat default).A), ci ((v2.Rows.getD x5.toNat default).B)])]⟩ (o1 (inb_of g7)) (by kernel_rfl) (by kernel_rfl) ?_
      obtain ⟨v8, h9, hm⟩ := bind_s hm
      refine R_rn Try.f19 3737 5 [(2, dex (cen [] [] 2 0 (span_Len_x v8) (span_Len_o v8) [15] []))] [] 2 ⟨[(3, vi (w64 (x4 + v8))), (8, vc (tl e_Span default v2.Rows)), (9, vi ((v2.Rows.length : Nat) : Int)), (10, vi x5)], []⟩ (o1 (callS (K := (kx E 21 0)) ⟨[(15, va [ci ((v2.Rows.getD x5.toNat default).A), ci ((v2.Rows.getD x5.toNat default).B)])], []⟩ (opAt (rg Try.f19 3737) 2) [] [] 2 o0 rfl (span_Len_ok (v2.Rows.getD x5.toNat default) v8 h9) (.inl rfl) (by kernel_rfl))) (by kernel_rfl) (by kernel_rfl) ?_
      refine R_rn Try.f19 935 6 [] [] 2 ⟨[(3, vi (w64 (x4 + v8))), (8, vc (tl e_Span default v2.Rows)), (9, vi ((v2.Rows.length : Nat) : Int)), (10, vi (w64 (x5 + 1)))], []⟩ o0 (by kernel_rfl) (by kernel_rfl) ?_
      exact HL_enter (section_Area_L1_S v2 (w64 (x4 + v8)) (w64 (x5 + 1))) (by kernel_rfl) (by kernel_rfl) (ih (w64 (x4 + v8)) (w64 (x5 + 1)) _ hm)
    · replace hm := bif_f b6 hm
      refine R_exit 0 (by kernel_rfl) ?_
      obtain rfl := Option.some.inj hm
      exact L0_mk (by kernel_rfl) (by kernel_rfl)

set_option maxRecDepth 100000 in
theorem section_Area_ok (a1 : Section) (r : Int) (hm : section_Area a1 = some r) : CtX Try.prog globs 19 0 0 [.agg [ci a1.Low, tl e_Span default a1.Rows]] [] (section_Area_x r) (section_Area_o r) := by
  unfold section_Area at hm
  refine CtX_of_E (fn := Try.f19) (c := nd Try.f19 1) (nt := 21) (by kernel_rfl) (by kernel_rfl) (by kernel_rfl) (by kernel_rfl) fun E => ?_
  refine R_sq Try.f19 2 3 (by kernel_rfl) ?_
  refine R_rn Try.f19 2 0 [] [] 0 ⟨[(1, vp 0 0)], [(0, bx 24 [ci a1.Low, tl e_Span default a1.Rows])]⟩ o0 (by kernel_rfl) (by kernel_rfl) ?_
  refine R_sq Try.f19 6 7 (by kernel_rfl) ?_
  refine R_rn Try.f19 6 1 [] [] 1 ⟨[(1, vp 0 0), (3, vi 0)], [(0, bx 24 [ci a1.Low, tl e_Span default a1.Rows])]⟩ o0 (by kernel_rfl) (by kernel_rfl) ?_
  refine R_sq Try.f19 14 15 (by kernel_rfl) ?_
  refine R_sq Try.f19 28 29 (by kernel_rfl) ?_
  obtain ⟨v2, h3, hm⟩ := bind_s hm
  refine R_rn Try.f19 28 2 [(1, dex (cen [] [] 1 0 (section_valid_x v2) (section_valid_o v2) [6] []))] [] 1 ⟨[(3, vi 0), (8, vc (tl e_Span default v2.Rows)), (9, vi ((v2.Rows.length : Nat) : Int)), (10, vi 0)], []⟩ (o1 (callS (K := (kx E 21 0)) ⟨[(6, va [ci a1.Low, tl e_Span default a1.Rows])], []⟩ (opAt (rg Try.f19 28) 1) [] [] 1 o0 rfl (section_valid_ok a1 v2 h3) (.inl rfl) (by kernel_rfl))) (by kernel_rfl) (by kernel_rfl) ?_
  obtain ⟨o11, h12, hm⟩ := bind_s hm
  refine R_loop0 (nd Try.f19 116) 0 (by kernel_rfl) FUEL (fun o => section_Area_L1_T o) o11 (HL_enter (section_Area_L1_S v2 0 0) (by kernel_rfl) (by kernel_rfl) (section_Area_L1_ok E v2 FUEL 0 0 o11 h12)) ?_
  refine R_sq Try.f19 30 31 (by kernel_rfl) ?_
  refine R_rn Try.f19 30 7 [] [] 1 ⟨[(2, vi (w64 (10 * o11)))], []⟩ o0 (by kernel_rfl) (by kernel_rfl) ?_
  obtain rfl := Option.some.inj hm
  refine R_ret (by kernel_rfl) ?_
  exact ret_mk (by kernel_rfl) (by kernel_rfl)

end Saw
end Go.SL

namespace Go.SL
namespace Saw
open Go.Proofs
set_option maxHeartbeats 4000000

def span_Meet_x (r : Span) : V := va [ci r.A, ci r.B]

def span_Meet_o (r : Span) : List (Nat × (Nat × O)) := []

theorem span_Meet_f (r : Span) : Frozen (span_Meet_o r) := by
  intro i k o h
  unfold span_Meet_o at h
  cases h

set_option maxRecDepth 100000 in
theorem span_Meet_ok (a1 : Span) (a2 : Span) (r : Span) (hm : span_Meet a1 a2 = some r) : CtX Try.prog globs 54 0 0 [.agg [ci a1.A, ci a1.B], .agg [ci a2.A, ci a2.B]] [] (span_Meet_x r) (span_Meet_o r) := by
  unfold span_Meet at hm
  refine CtX_of_E (fn := Try.f54) (c := nd Try.f54 1) (nt := 24) (by kernel_rfl) (by kernel_rfl) (by kernel_rfl) (by kernel_rfl) fun E => ?_
  refine R_sq Try.f54 2 3 (by kernel_rfl) ?_
  refine R_rn Try.f54 2 0 [] [] 0 ⟨[(2, vp 0 0), (3, vp 1 0), (4, vp 2 0)], [(0, bx 35 [ci a1.A, ci a1.B]), (1, bx 35 [ci a2.A, ci a2.B]), (2, bx 35 [ci 0, ci 0])]⟩ o0 (by kernel_rfl) (by kernel_rfl) ?_
  refine R_sq Try.f54 6 7 (by kernel_rfl) ?_
  refine R_rn Try.f54 6 1 [] [] 3 ⟨[(4, vp 2 0), (5, vp 3 0)], [(2, bx 35 [ci 0, ci 0]), (3, bx 35 [ci (imax a1.A a2.A), ci (imin a1.B a2.B)])]⟩ o0 (by kernel_rfl) (by kernel_rfl) ?_
  refine R_sq Try.f54 14 15 (by kernel_rfl) ?_
  refine R_sq Try.f54 28 29 (by kernel_rfl) ?_
  refine R_rn Try.f54 28 2 [] [] 4 ⟨[(4, vp 2 0), (5, vp 3 0), (21, vb (decide ((imax a1.A a2.A) ≥ (imin a1.B a2.B))))], [(2, bx 35 [ci 0, ci 0]), (3, bx 35 [ci (imax a1.A a2.A), ci (imin a1.B a2.B)])]⟩ o0 (by kernel_rfl) (by kernel_rfl) ?_
  refine R_cn Try.f54 (.tmp 21) 58 59 (by kernel_rfl) (decide ((imax a1.A a2.A) ≥ (imin a1.B a2.B))) (by kernel_rfl) (fun b3 => ?_) (fun b3 => ?_)
  · replace hm := bif_t b3 hm
    refine R_sq Try.f54 116 117 (by kernel_rfl) ?_
    refine R_rn Try.f54 116 3 [] [] 4 ⟨[(4, vp 2 0)], [(2, bx 35 [ci 0, ci 0])]⟩ o0 (by kernel_rfl) (by kernel_rfl) ?_
    obtain rfl := Option.some.inj hm
    refine R_ret (by kernel_rfl) ?_
    exact ret_mk (by kernel_rfl) (by kernel_rfl)
  · replace hm := bif_f b3 hm
    refine R_skip (by kernel_rfl) ?_
    refine R_sq Try.f54 30 31 (by kernel_rfl) ?_
    refine R_rn Try.f54 30 4 [] [] 4 ⟨[(4, vp 2 0)], [(2, bx 35 [ci (imax a1.A a2.A), ci (imin a1.B a2.B)])]⟩ o0 (by kernel_rfl) (by kernel_rfl) ?_
    obtain rfl := Option.some.inj hm
    refine R_ret (by kernel_rfl) ?_
    exact ret_mk (by kernel_rfl) (by kernel_rfl)

end Saw
end Go.SL

namespace Go.SL
namespace Saw
open Go.Proofs
set_option maxHeartbeats 4000000

def section_Within_x (r : Int) : V := vi r

def section_Within_o (r : Int) : List (Nat × (Nat × O)) := []

theorem section_Within_f (r : Int) : Frozen (section_Within_o r) := by
  intro i k o h
  unfold section_Within_o at h
  cases h

def section_Within_L1_S (a2 : Rect) (v3 : Section) (x5 : Int) (x6 : Int) : St :=
  ⟨[(2, vp 0 0), (3, vp 1 0), (5, vi x5), (12, vc (tl e_Span default v3.Rows)), (13, vi ((v3.Rows.length : Nat) : Int)), (14, vi x6)], [(0, bx 24 [ci v3.Low, tl e_Span default v3.Rows]), (1, bx 37 [ci a2.X.A, ci a2.X.B, ci a2.Y.A, ci a2.Y.B])]⟩

def section_Within_L1_T (x19 : Int) : St :=
  ⟨[(5, vi x19)], []⟩

set_option maxRecDepth 100000 in
theorem section_Within_L1_ok (E : Env 0) (a2 : Rect) (v3 : Section) : ∀ (n : Nat) (x5 : Int) (x6 : Int) (res : Int), section_Within_L1 a2 v3 n x5 x6 = some res → HL (kx E 44 0) (nd Try.f21 244) (loopQ0 0 (fun o => section_Within_L1_T o) res) n (section_Within_L1_S a2 v3 x5 x6) := by
  intro n
  induction n with
  | zero =>
    intro x5 x6 res hm
    cases hm
  | succ n ih =>
    intro x5 x6 res hm
    refine HL_succ ?_
    refine R_sq Try.f21 488 489 (by kernel_rfl) ?_
    refine R_rn Try.f21 488 4 [] [] 2 ⟨[(2, vp 0 0), (3, vp 1 0), (5, vi x5), (12, vc (tl e_Span default v3.Rows)), (13, vi ((v3.Rows.length : Nat) : Int)), (14, vi x6), (15, vb (decide (x6 < ((v3.Rows.length : Nat) : Int))))], [(0, bx 24 [ci v3.Low, tl e_Span default v3.Rows]), (1, bx 37 [ci a2.X.A, ci a2.X.B, ci a2.Y.A, ci a2.Y.B])]⟩ o0 (by kernel_rfl) (by kernel_rfl) ?_
    refine R_sq Try.f21 978 979 (by kernel_rfl) ?_
    refine R_cn Try.f21 (.tmp 15) 1956 1957 (by kernel_rfl) (decide (x6 < ((v3.Rows.length : Nat) : Int))) (by kernel_rfl) (fun b7 => ?_) (fun b7 => ?_)
    · replace hm := bif_t b7 hm
      refine R_skip (by kernel_rfl) ?_
      refine R_sq Try.f21 1958 1959 (by kernel_rfl) ?_
      refine R_bk Try.f21 1 3916 (by kernel_rfl) ?_
      refine R_sq Try.f21 7832 7833 (by kernel_rfl) ?_
      obtain ⟨g8, hm⟩ := bif_n hm
      refine R_rn Try.f21 7832 5 [] [] 2 ⟨[(2, vp 0 0), (3, vp 1 0), (5, vi x5), (6, vi x6), (7, vp 2 0), (12, vc (tl e_Span default v3.Rows)), (13, vi ((v3.Rows.length : Nat) : Int)), (14, vi x6)], [(0, bx 24 [ci v3.Low, tl e_Span default v3.Rows]), (1, bx 37 [ci a2.X.A, ci a2.X.B, ci a2.Y.A, ci a2.Y.B]), (2, bx 35 [ci ((v3.Rows.getD x6.toNat default).A), ci ((v3.Rows.getD x6.toNat default).B)])]⟩ (o1 (inb_of g8)) (by kernel_rfl) (by kernel_rfl) ?_
      refine R_sq Try.f21 15666 15667 (by kernel_rfl) ?_
      obtain ⟨v9, h10, hm⟩ := bind_s hm
      refine R_rn Try.f21 15666 6 [(9, dex (cen [] [] 3 0 (section_heights_x v9) (section_heights_o v9) [22, 27] []))] [] 3 ⟨[(2, vp 0 0), (3, vp 1 0), (5, vi x5), (7, vp 2 0), (8, vp 3 0), (12, vc (tl e_Span default v3.Rows)), (13, vi ((v3.Rows.length : Nat) : Int)), (14, vi x6)], [(0, bx 24 [ci v3.Low, tl e_Span default v3.Rows]), (1, bx 37 [ci a2.X.A, ci a2.X.B, ci a2.Y.A, ci a2.Y.B]), (2, bx 35 [ci ((v3.Rows.getD x6.toNat default).A), ci ((v3.Rows.getD x6.toNat default).B)]), (3, bx 35 [ci v9.A, ci v9.B])]⟩ (o1 (callS (K := (kx E 44 0)) ⟨[(22, vi (w64 (v3.Low + x6))), (27, vi (w64 ((w64 (v3.Low + x6)) + 1)))], []⟩ (opAt (rg Try.f21 15666) 9) [] [] 3 o0 rfl (section_heights_ok (w64 (v3.Low + x6)) (w64 ((w64 (v3.Low + x6)) + 1)) v9 h10) (.inl rfl) (by kernel_rfl))) (by kernel_rfl) (by kernel_rfl) ?_
      obtain ⟨v11, h12, hm⟩ := bind_s hm
      obtain ⟨v13, h14, hm⟩ := bind_s hm
      obtain ⟨v15, h16, hm⟩ := bind_s hm
      obtain ⟨v17, h18, hm⟩ := bind_s hm
      refine R_dr Try.f21 15667 7 [] [(4, dex (cen [] [] 4 0 (span_Meet_x v11) (span_Meet_o v11) [30, 32] [])), (5, dex (cen [] [] 4 0 (span_Len_x v13) (span_Len_o v13) [33] [])), (9, dex (cen [] [] 4 0 (span_Meet_x v15) (span_Meet_o v15) [35, 37] [])), (10, dex (cen [] [] 4 0 (span_Len_x v17) (span_Len_o v17) [38] []))] [] [0, 0, 0, 4, 14, 30, 0, 0, 128, 510, 1022, 2046, 4095, 8191] 4 ⟨[(2, vp 0 0), (3, vp 1 0), (5, vi (w64 (x5 + (w64 (v13 * v17))))), (12, vc (tl e_Span default v3.Rows)), (13, vi ((v3.Rows.length : Nat) : Int)), (14, vi x6)], [(0, bx 24 [ci v3.Low, tl e_Span default v3.Rows]), (1, bx 37 [ci a2.X.A, ci a2.X.B, ci a2.Y.A, ci a2.Y.B])]⟩ (o1 (And.intro (callS (K := (kx E 44 0)) ⟨[(30, va [ci ((v3.Rows.getD x6.toNat default).A), ci ((v3.Rows.getD x6.toNat default).B)]), (32, va [ci a2.X.A, ci a2.X.B])], []⟩ (opAt (rg Try.f21 15667) 4) [] [] 4 o0 rfl (span_Meet_ok (v3.Rows.getD x6.toNat default) a2.X v11 h12) (.inl rfl) (by kernel_rfl)) (And.intro (callS (K := (kx E 44 0)) ⟨[(33, va [ci v11.A, ci v11.B])], []⟩ (opAt (rg Try.f21 15667) 5) [] [] 4 o0 rfl (span_Len_ok v11 v13 h14) (.inl rfl) (by kernel_rfl)) (And.intro (callS (K := (kx E 44 0)) ⟨[(35, va [ci v9.A, ci v9.B]), (37, va [ci a2.Y.A, ci a2.Y.B])], []⟩ (opAt (rg Try.f21 15667) 9) [] [] 4 o0 rfl (span_Meet_ok v9 a2.Y v15 h16) (.inl rfl) (by kernel_rfl)) (callS (K := (kx E 44 0)) ⟨[(38, va [ci v15.A, ci v15.B])], []⟩ (opAt (rg Try.f21 15667) 10) [] [] 4 o0 rfl (span_Len_ok v15 v17 h18) (.inl rfl) (by kernel_rfl)))))) (by kernel_rfl) (by kernel_rfl) ?_
      refine R_rn Try.f21 1959 8 [] [] 4 ⟨[(2, vp 0 0), (3, vp 1 0), (5, vi (w64 (x5 + (w64 (v13 * v17))))), (12, vc (tl e_Span default v3.Rows)), (13, vi ((v3.Rows.length : Nat) : Int)), (14, vi (w64 (x6 + 1)))], [(0, bx 24 [ci v3.Low, tl e_Span default v3.Rows]), (1, bx 37 [ci a2.X.A, ci a2.X.B, ci a2.Y.A, ci a2.Y.B])]⟩ o0 (by kernel_rfl) (by kernel_rfl) ?_
      exact HL_enter (section_Within_L1_S a2 v3 (w64 (x5 + (w64 (v13 * v17)))) (w64 (x6 + 1))) (by kernel_rfl) (by kernel_rfl) (ih (w64 (x5 + (w64 (v13 * v17)))) (w64 (x6 + 1)) _ hm)
    · replace hm := bif_f b7 hm
      refine R_exit 0 (by kernel_rfl) ?_
      obtain rfl := Option.some.inj hm
      exact L0_mk (by kernel_rfl) (by kernel_rfl)

set_option maxRecDepth 100000 in
theorem section_Within_ok (a1 : Section) (a2 : Rect) (r : Int) (hm : section_Within a1 a2 = some r) : CtX Try.prog globs 21 0 0 [.agg [ci a1.Low, tl e_Span default a1.Rows], .agg [ci a2.X.A, ci a2.X.B, ci a2.Y.A, ci a2.Y.B]] [] (section_Within_x r) (section_Within_o r) := by
  unfold section_Within at hm
  refine CtX_of_E (fn := Try.f21) (c := nd Try.f21 1) (nt := 44) (by kernel_rfl) (by kernel_rfl) (by kernel_rfl) (by kernel_rfl) fun E => ?_
  refine R_sq Try.f21 2 3 (by kernel_rfl) ?_
  refine R_rn Try.f21 2 0 [] [] 0 ⟨[(2, vp 0 0), (3, vp 1 0)], [(0, bx 24 [ci a1.Low, tl e_Span default a1.Rows]), (1, bx 37 [ci a2.X.A, ci a2.X.B, ci a2.Y.A, ci a2.Y.B])]⟩ o0 (by kernel_rfl) (by kernel_rfl) ?_
  refine R_sq Try.f21 6 7 (by kernel_rfl) ?_
  obtain ⟨v3, h4, hm⟩ := bind_s hm
  refine R_rn Try.f21 6 1 [(1, dex (cen [] [] 2 0 (section_valid_x v3) (section_valid_o v3) [9] []))] [] 2 ⟨[(2, vp 0 0), (3, vp 1 0)], [(0, bx 24 [ci v3.Low, tl e_Span default v3.Rows]), (1, bx 37 [ci a2.X.A, ci a2.X.B, ci a2.Y.A, ci a2.Y.B])]⟩ (o1 (callS (K := (kx E 44 0)) ⟨[(9, va [ci a1.Low, tl e_Span default a1.Rows])], []⟩ (opAt (rg Try.f21 6) 1) [] [] 2 o0 rfl (section_valid_ok a1 v3 h4) (.inl rfl) (by kernel_rfl))) (by kernel_rfl) (by kernel_rfl) ?_
  refine R_sq Try.f21 14 15 (by kernel_rfl) ?_
  refine R_rn Try.f21 14 2 [] [] 2 ⟨[(2, vp 0 0), (3, vp 1 0), (5, vi 0)], [(0, bx 24 [ci v3.Low, tl e_Span default v3.Rows]), (1, bx 37 [ci a2.X.A, ci a2.X.B, ci a2.Y.A, ci a2.Y.B])]⟩ o0 (by kernel_rfl) (by kernel_rfl) ?_
  refine R_sq Try.f21 30 31 (by kernel_rfl) ?_
  refine R_sq Try.f21 60 61 (by kernel_rfl) ?_
  refine R_rn Try.f21 60 3 [] [] 2 ⟨[(2, vp 0 0), (3, vp 1 0), (5, vi 0), (12, vc (tl e_Span default v3.Rows)), (13, vi ((v3.Rows.length : Nat) : Int)), (14, vi 0)], [(0, bx 24 [ci v3.Low, tl e_Span default v3.Rows]), (1, bx 37 [ci a2.X.A, ci a2.X.B, ci a2.Y.A, ci a2.Y.B])]⟩ o0 (by kernel_rfl) (by kernel_rfl) ?_
  obtain ⟨o20, h21, hm⟩ := bind_s hm
  refine R_loop0 (nd Try.f21 244) 0 (by kernel_rfl) FUEL (fun o => section_Within_L1_T o) o20 (HL_enter (section_Within_L1_S a2 v3 0 0) (by kernel_rfl) (by kernel_rfl) (section_Within_L1_ok E a2 v3 FUEL 0 0 o20 h21)) ?_
  refine R_sq Try.f21 62 63 (by kernel_rfl) ?_
  refine R_rn Try.f21 62 9 [] [] 2 ⟨[(4, vi o20)], []⟩ o0 (by kernel_rfl) (by kernel_rfl) ?_
  obtain rfl := Option.some.inj hm
  refine R_ret (by kernel_rfl) ?_
  exact ret_mk (by kernel_rfl) (by kernel_rfl)

end Saw
end Go.SL

namespace Go.SL
namespace Saw
open Go.Proofs
set_option maxHeartbeats 4000000

def section_Bounds_x (r : Rect) : V := va [ci r.X.A, ci r.X.B, ci r.Y.A, ci r.Y.B]

def section_Bounds_o (r : Rect) : List (Nat × (Nat × O)) := []

theorem section_Bounds_f (r : Rect) : Frozen (section_Bounds_o r) := by
  intro i k o h
  unfold section_Bounds_o at h
  cases h

def section_Bounds_k2_S (v2 : Section) (x6 : Int) (x13 : Span) : St :=
  ⟨[(1, vp 0 0), (2, vp 1 0), (3, vp 2 0), (18, vc (tl e_Span default v2.Rows)), (19, vi ((v2.Rows.length : Nat) : Int)), (20, vi x6)], [(0, bx 24 [ci v2.Low, tl e_Span default v2.Rows]), (1, bx 37 [ci 0, ci 0, ci 0, ci 0]), (2, bx 35 [ci x13.A, ci x13.B])]⟩

def section_Bounds_L1_S (v2 : Section) (x6 : Int) (x7 : Span) : St :=
  ⟨[(1, vp 0 0), (2, vp 1 0), (3, vp 2 0), (18, vc (tl e_Span default v2.Rows)), (19, vi ((v2.Rows.length : Nat) : Int)), (20, vi x6)], [(0, bx 24 [ci v2.Low, tl e_Span default v2.Rows]), (1, bx 37 [ci 0, ci 0, ci 0, ci 0]), (2, bx 35 [ci x7.A, ci x7.B])]⟩

def section_Bounds_L1_T (v2 : Section) (x14 : Span) : St :=
  ⟨[(1, vp 0 0), (2, vp 1 0), (3, vp 2 0)], [(0, bx 24 [ci v2.Low, tl e_Span default v2.Rows]), (1, bx 37 [ci 0, ci 0, ci 0, ci 0]), (2, bx 35 [ci x14.A, ci x14.B])]⟩

set_option maxRecDepth 100000 in
theorem section_Bounds_L1_ok (E : Env 0) (v2 : Section) : ∀ (n : Nat) (x6 : Int) (x7 : Span) (res : Span), section_Bounds_L1 v2 n x6 x7 = some res → HL (kx E 50 0) (nd Try.f23 500) (loopQ0 0 (fun o => section_Bounds_L1_T v2 o) res) n (section_Bounds_L1_S v2 x6 x7) := by
  intro n
  induction n with
  | zero =>
    intro x6 x7 res hm
    cases hm
  | succ n ih =>
    intro x6 x7 res hm
    refine HL_succ ?_
    refine R_sq Try.f23 1000 1001 (by kernel_rfl) ?_
    refine R_rn Try.f23 1000 6 [] [] 3 ⟨[(1, vp 0 0), (2, vp 1 0), (3, vp 2 0), (18, vc (tl e_Span default v2.Rows)), (19, vi ((v2.Rows.length : Nat) : Int)), (20, vi x6), (21, vb (decide (x6 < ((v2.Rows.length : Nat) : Int))))], [(0, bx 24 [ci v2.Low, tl e_Span default v2.Rows]), (1, bx 37 [ci 0, ci 0, ci 0, ci 0]), (2, bx 35 [ci x7.A, ci x7.B])]⟩ o0 (by kernel_rfl) (by kernel_rfl) ?_
    refine R_sq Try.f23 2002 2003 (by kernel_rfl) ?_
    refine R_cn Try.f23 (.tmp 21) 4004 4005 (by kernel_rfl) (decide (x6 < ((v2.Rows.length : Nat) : Int))) (by kernel_rfl) (fun b8 => ?_) (fun b8 => ?_)
    · replace hm := bif_t b8 hm
      refine R_skip (by kernel_rfl) ?_
      refine R_join (ι := Span) (nd Try.f23 4006) (nd Try.f23 4007) (by kernel_rfl) (fun p => section_Bounds_k2_S v2 x6 p) (fun p => section_Bounds_k2 x6 (section_Bounds_L1 v2 n) p = some res) ?_ ?_
      · rintro x13 hm
        show H _ (section_Bounds_k2_S v2 x6 x13) (nd Try.f23 4007) _
        refine R_rn Try.f23 4007 10 [] [] 4 ⟨[(1, vp 0 0), (2, vp 1 0), (3, vp 2 0), (18, vc (tl e_Span default v2.Rows)), (19, vi ((v2.Rows.length : Nat) : Int)), (20, vi (w64 (x6 + 1)))], [(0, bx 24 [ci v2.Low, tl e_Span default v2.Rows]), (1, bx 37 [ci 0, ci 0, ci 0, ci 0]), (2, bx 35 [ci x13.A, ci x13.B])]⟩ o0 (by kernel_rfl) (by kernel_rfl) ?_
        exact HL_enter (section_Bounds_L1_S v2 (w64 (x6 + 1)) x13) (by kernel_rfl) (by kernel_rfl) (ih (w64 (x6 + 1)) x13 _ hm)
      · refine R_bk Try.f23 1 8012 (by kernel_rfl) ?_
        refine R_sq Try.f23 16024 16025 (by kernel_rfl) ?_
        obtain ⟨g9, hm⟩ := bif_n hm
        refine R_rn Try.f23 16024 7 [] [] 3 ⟨[(1, vp 0 0), (2, vp 1 0), (3, vp 2 0), (5, vp 3 0), (18, vc (tl e_Span default v2.Rows)), (19, vi ((v2.Rows.length : Nat) : Int)), (20, vi x6)], [(0, bx 24 [ci v2.Low, tl e_Span default v2.Rows]), (1, bx 37 [ci 0, ci 0, ci 0, ci 0]), (2, bx 35 [ci x7.A, ci x7.B]), (3, bx 35 [ci ((v2.Rows.getD x6.toNat default).A), ci ((v2.Rows.getD x6.toNat default).B)])]⟩ (o1 (inb_of g9)) (by kernel_rfl) (by kernel_rfl) ?_
        refine R_sq Try.f23 32050 32051 (by kernel_rfl) ?_
        obtain ⟨v10, h11, hm⟩ := bind_s hm
        refine R_rn Try.f23 32050 8 [(1, dex (cen [] [] 4 0 (section_isEmpty_x v10) (section_isEmpty_o v10) [24] []))] [] 4 ⟨[(1, vp 0 0), (2, vp 1 0), (3, vp 2 0), (5, vp 3 0), (18, vc (tl e_Span default v2.Rows)), (19, vi ((v2.Rows.length : Nat) : Int)), (20, vi x6), (26, vb (!v10))], [(0, bx 24 [ci v2.Low, tl e_Span default v2.Rows]), (1, bx 37 [ci 0, ci 0, ci 0, ci 0]), (2, bx 35 [ci x7.A, ci x7.B]), (3, bx 35 [ci ((v2.Rows.getD x6.toNat default).A), ci ((v2.Rows.getD x6.toNat default).B)])]⟩ (o1 (callS (K := (kx E 50 0)) ⟨[(24, va [ci ((v2.Rows.getD x6.toNat default).A), ci ((v2.Rows.getD x6.toNat default).B)])], []⟩ (opAt (rg Try.f23 32050) 1) [] [] 4 o0 rfl (section_isEmpty_ok (v2.Rows.getD x6.toNat default) v10 h11) (.inl rfl) (by kernel_rfl))) (by kernel_rfl) (by kernel_rfl) ?_
        refine R_cn Try.f23 (.tmp 26) 64102 64103 (by kernel_rfl) (!v10) (by kernel_rfl) (fun b12 => ?_) (fun b12 => ?_)
        · replace hm := bif_t b12 hm
          refine R_rn Try.f23 64102 9 [] [] 4 ⟨[(1, vp 0 0), (2, vp 1 0), (3, vp 2 0), (18, vc (tl e_Span default v2.Rows)), (19, vi ((v2.Rows.length : Nat) : Int)), (20, vi x6)], [(0, bx 24 [ci v2.Low, tl e_Span default v2.Rows]), (1, bx 37 [ci 0, ci 0, ci 0, ci 0]), (2, bx 35 [ci (imin x7.A ((v2.Rows.getD x6.toNat default).A)), ci (imax x7.B ((v2.Rows.getD x6.toNat default).B))])]⟩ o0 (by kernel_rfl) (by kernel_rfl) ?_
          exact J_mk ((Span.mk (imin x7.A ((v2.Rows.getD x6.toNat default).A)) (imax x7.B ((v2.Rows.getD x6.toNat default).B)))) hm (by kernel_rfl) (by kernel_rfl)
        · replace hm := bif_f b12 hm
          refine R_skip (by kernel_rfl) ?_
          exact J_mk (x7) hm (by kernel_rfl) (by kernel_rfl)
    · replace hm := bif_f b8 hm
      refine R_exit 0 (by kernel_rfl) ?_
      obtain rfl := Option.some.inj hm
      exact L0_mk (by kernel_rfl) (by kernel_rfl)

set_option maxRecDepth 100000 in
theorem section_Bounds_ok (a1 : Section) (r : Rect) (hm : section_Bounds a1 = some r) : CtX Try.prog globs 23 0 0 [.agg [ci a1.Low, tl e_Span default a1.Rows]] [] (section_Bounds_x r) (section_Bounds_o r) := by
  unfold section_Bounds at hm
  refine CtX_of_E (fn := Try.f23) (c := nd Try.f23 1) (nt := 50) (by kernel_rfl) (by kernel_rfl) (by kernel_rfl) (by kernel_rfl) fun E => ?_
  refine R_sq Try.f23 2 3 (by kernel_rfl) ?_
  refine R_rn Try.f23 2 0 [] [] 0 ⟨[(1, vp 0 0), (2, vp 1 0)], [(0, bx 24 [ci a1.Low, tl e_Span default a1.Rows]), (1, bx 37 [ci 0, ci 0, ci 0, ci 0])]⟩ o0 (by kernel_rfl) (by kernel_rfl) ?_
  refine R_sq Try.f23 6 7 (by kernel_rfl) ?_
  obtain ⟨v2, h3, hm⟩ := bind_s hm
  refine R_rn Try.f23 6 1 [(1, dex (cen [] [] 2 0 (section_valid_x v2) (section_valid_o v2) [6] []))] [] 2 ⟨[(1, vp 0 0), (2, vp 1 0)], [(0, bx 24 [ci v2.Low, tl e_Span default v2.Rows]), (1, bx 37 [ci 0, ci 0, ci 0, ci 0])]⟩ (o1 (callS (K := (kx E 50 0)) ⟨[(6, va [ci a1.Low, tl e_Span default a1.Rows])], []⟩ (opAt (rg Try.f23 6) 1) [] [] 2 o0 rfl (section_valid_ok a1 v2 h3) (.inl rfl) (by kernel_rfl))) (by kernel_rfl) (by kernel_rfl) ?_
  refine R_sq Try.f23 14 15 (by kernel_rfl) ?_
  refine R_sq Try.f23 28 29 (by kernel_rfl) ?_
  refine R_rn Try.f23 28 2 [] [] 2 ⟨[(1, vp 0 0), (2, vp 1 0), (11, vb (((v2.Rows.length : Nat) : Int) == 0))], [(0, bx 24 [ci v2.Low, tl e_Span default v2.Rows]), (1, bx 37 [ci 0, ci 0, ci 0, ci 0])]⟩ o0 (by kernel_rfl) (by kernel_rfl) ?_
  refine R_cn Try.f23 (.tmp 11) 58 59 (by kernel_rfl) (((v2.Rows.length : Nat) : Int) == 0) (by kernel_rfl) (fun b4 => ?_) (fun b4 => ?_)
  · replace hm := bif_t b4 hm
    refine R_sq Try.f23 116 117 (by kernel_rfl) ?_
    refine R_rn Try.f23 116 3 [] [] 2 ⟨[(2, vp 1 0)], [(1, bx 37 [ci 0, ci 0, ci 0, ci 0])]⟩ o0 (by kernel_rfl) (by kernel_rfl) ?_
    obtain rfl := Option.some.inj hm
    refine R_ret (by kernel_rfl) ?_
    exact ret_mk (by kernel_rfl) (by kernel_rfl)
  · replace hm := bif_f b4 hm
    refine R_skip (by kernel_rfl) ?_
    refine R_sq Try.f23 30 31 (by kernel_rfl) ?_
    obtain ⟨g5, hm⟩ := bif_n hm
    refine R_rn Try.f23 30 4 [] [] 2 ⟨[(1, vp 0 0), (2, vp 1 0), (3, vp 2 0)], [(0, bx 24 [ci v2.Low, tl e_Span default v2.Rows]), (1, bx 37 [ci 0, ci 0, ci 0, ci 0]), (2, bx 35 [ci ((v2.Rows.getD (0 : Int).toNat default).A), ci ((v2.Rows.getD (0 : Int).toNat default).B)])]⟩ (o1 (inb_of g5)) (by kernel_rfl) (by kernel_rfl) ?_
    refine R_sq Try.f23 62 63 (by kernel_rfl) ?_
    refine R_sq Try.f23 124 125 (by kernel_rfl) ?_
    refine R_rn Try.f23 124 5 [] [] 3 ⟨[(1, vp 0 0), (2, vp 1 0), (3, vp 2 0), (18, vc (tl e_Span default v2.Rows)), (19, vi ((v2.Rows.length : Nat) : Int)), (20, vi 0)], [(0, bx 24 [ci v2.Low, tl e_Span default v2.Rows]), (1, bx 37 [ci 0, ci 0, ci 0, ci 0]), (2, bx 35 [ci ((v2.Rows.getD (0 : Int).toNat default).A), ci ((v2.Rows.getD (0 : Int).toNat default).B)])]⟩ o0 (by kernel_rfl) (by kernel_rfl) ?_
    obtain ⟨o15, h16, hm⟩ := bind_s hm
    refine R_loop0 (nd Try.f23 500) 0 (by kernel_rfl) FUEL (fun o => section_Bounds_L1_T v2 o) o15 (HL_enter (section_Bounds_L1_S v2 0 (v2.Rows.getD (0 : Int).toNat default)) (by kernel_rfl) (by kernel_rfl) (section_Bounds_L1_ok E v2 FUEL 0 (v2.Rows.getD (0 : Int).toNat default) o15 h16)) ?_
    refine R_sq Try.f23 126 127 (by kernel_rfl) ?_
    obtain ⟨v17, h18, hm⟩ := bind_s hm
    refine R_dr Try.f23 126 11 [] [(9, dex (cen [] [] 3 0 (section_heights_x v17) (section_heights_o v17) [41, 47] []))] [] [0, 0, 2, 0, 8, 0, 32, 96, 248, 510, 1023, 2047] 3 ⟨[(2, vp 1 0)], [(1, bx 37 [ci o15.A, ci o15.B, ci v17.A, ci v17.B])]⟩ (o1 (callS (K := (kx E 50 0)) ⟨[(41, vi v2.Low), (47, vi (w64 (v2.Low + ((v2.Rows.length : Nat) : Int))))], []⟩ (opAt (rg Try.f23 126) 9) [] [] 3 o0 rfl (section_heights_ok v2.Low (w64 (v2.Low + ((v2.Rows.length : Nat) : Int))) v17 h18) (.inl rfl) (by kernel_rfl))) (by kernel_rfl) (by kernel_rfl) ?_
    obtain rfl := Option.some.inj hm
    refine R_ret (by kernel_rfl) ?_
    exact ret_mk (by kernel_rfl) (by kernel_rfl)

end Saw
end Go.SL

namespace Go.SL
namespace Saw
open Go.Proofs
set_option maxHeartbeats 4000000

def section_Mirror_1_x (a1 : Int) (a2 : Section) (r : Span) : V := va [ci r.A, ci r.B]

def section_Mirror_1_o (a1 : Int) (a2 : Section) (r : Span) : List (Nat × (Nat × O)) := [(0, bx 24 [ci a2.Low, tl e_Span default a2.Rows])]

set_option maxRecDepth 100000 in
theorem section_Mirror_1_ok (a1 : Int) (a2 : Section) (r : Span) (hm : section_Mirror_1 a1 a2 = some r) : CtX Try.prog globs 58 1 1 [.one (ci a1), .one (.bptr 0 0 0)] [(0, bx 24 [ci a2.Low, tl e_Span default a2.Rows])] (section_Mirror_1_x a1 a2 r) (section_Mirror_1_o a1 a2 r) := by
  unfold section_Mirror_1 at hm
  refine CtX_of_E (fn := Try.f58) (c := nd Try.f58 1) (nt := 15) (by kernel_rfl) (by kernel_rfl) (by kernel_rfl) (by kernel_rfl) fun E => ?_
  refine R_sq Try.f58 2 3 (by kernel_rfl) ?_
  refine R_rn Try.f58 2 0 [] [] 1 ⟨[(0, vi a1), (1, vp 0 0), (3, vp 1 0)], [(0, bx 24 [ci a2.Low, tl e_Span default a2.Rows]), (1, bx 35 [ci 0, ci 0])]⟩ o0 (by kernel_rfl) (by kernel_rfl) ?_
  refine R_sq Try.f58 6 7 (by kernel_rfl) ?_
  obtain ⟨v3, h4, hm⟩ := bind_s hm
  refine R_rn Try.f58 6 1 [(2, dex (cen [] [] 2 0 (section_at_x v3) (section_at_o v3) [5, 6] []))] [] 2 ⟨[(3, vp 1 0), (4, vp 2 0)], [(0, bx 24 [ci a2.Low, tl e_Span default a2.Rows]), (1, bx 35 [ci 0, ci 0]), (2, bx 35 [ci v3.A, ci v3.B])]⟩ (o1 (callS (K := (kx E 15 1)) ⟨[(5, va [ci a2.Low, tl e_Span default a2.Rows]), (6, vi a1)], []⟩ (opAt (rg Try.f58 6) 2) [] [] 2 o0 rfl (section_at_ok a2 a1 v3 h4) (.inl rfl) (by kernel_rfl))) (by kernel_rfl) (by kernel_rfl) ?_
  refine R_sq Try.f58 14 15 (by kernel_rfl) ?_
  refine R_rn Try.f58 14 2 [] [] 3 ⟨[(3, vp 1 0)], [(0, bx 24 [ci a2.Low, tl e_Span default a2.Rows]), (1, bx 35 [ci (w64 (0 - v3.B)), ci (w64 (0 - v3.A))])]⟩ o0 (by kernel_rfl) (by kernel_rfl) ?_
  obtain rfl := Option.some.inj hm
  refine R_ret (by kernel_rfl) ?_
  exact ret_mk (by kernel_rfl) (by kernel_rfl)

end Saw
end Go.SL

namespace Go.SL
namespace Saw
open Go.Proofs
set_option maxHeartbeats 4000000

def section_build_s2_x (a1 : Section) (r : Section) : V := va [ci r.Low, .own 1 0 2 r.Rows.length]

def section_build_s2_o (a1 : Section) (r : Section) : List (Nat × (Nat × O)) := [(0, bx 24 [ci a1.Low, tl e_Span default a1.Rows]), (1, ro 0 35 2 r.Rows.length (rf e_Span r.Rows))]

def section_build_s2_k3_S (a1 : Section) (x3 : Int) (x17 : Int) (x18 : Int) (l19 : List Span) (l19n : Nat) : St :=
  ⟨[(0, vc (.fn 58 [.bptr 0 0 0])), (2, vp 1 0), (3, vp 2 0), (4, vi x17), (5, vi x3)], [(0, bx 24 [ci a1.Low, tl e_Span default a1.Rows]), (1, bx 24 [ci 0, .emp]), (2, bx 24 [ci x18, .own 3 0 2 l19n]), (3, ro 0 35 2 l19n (rf e_Span l19))]⟩

def section_build_s2_k2_S (a1 : Section) (x3 : Int) (l5 : List Span) (v7 : Span) (x13 : Int) : St :=
  ⟨[(0, vc (.fn 58 [.bptr 0 0 0])), (2, vp 1 0), (3, vp 2 0), (5, vi x3), (6, vp 4 0)], [(0, bx 24 [ci a1.Low, tl e_Span default a1.Rows]), (1, bx 24 [ci 0, .emp]), (2, bx 24 [ci x13, .own 3 0 2 l5.length]), (3, ro 0 35 2 l5.length (rf e_Span l5)), (4, bx 35 [ci v7.A, ci v7.B])]⟩

def section_build_s2_L1_S (a1 : Section) (x2 : Int) (x3 : Int) (x4 : Int) (l5 : List Span) (l5n : Nat) : St :=
  ⟨[(0, vc (.fn 58 [.bptr 0 0 0])), (2, vp 1 0), (3, vp 2 0), (4, vi x2), (5, vi x3)], [(0, bx 24 [ci a1.Low, tl e_Span default a1.Rows]), (1, bx 24 [ci 0, .emp]), (2, bx 24 [ci x4, .own 3 0 2 l5n]), (3, ro 0 35 2 l5n (rf e_Span l5))]⟩

def section_build_s2_L1_T (a1 : Section) (x20 : Int) (x21 : Int) (l22 : List Span) : St :=
  ⟨[(2, vp 1 0), (3, vp 2 0), (4, vi x20)], [(0, bx 24 [ci a1.Low, tl e_Span default a1.Rows]), (1, bx 24 [ci 0, .emp]), (2, bx 24 [ci x21, .own 3 0 2 l22.length]), (3, ro 0 35 2 l22.length (rf e_Span l22))]⟩

set_option maxRecDepth 100000 in
theorem section_build_s2_L1_ok (E : Env 1) (a1 : Section) : ∀ (n : Nat) (x2 : Int) (x3 : Int) (x4 : Int) (l5 : List Span) (l5n : Nat) (res : Int × Int × (List Span)), l5.length = l5n → section_build_s2_L1 a1 n x2 x3 x4 l5 = some res → HL (kx E 46 1) (nd Try.f45 244) (loopQ0 0 (fun o => section_build_s2_L1_T a1 o.1 o.2.1 o.2.2) res) n (section_build_s2_L1_S a1 x2 x3 x4 l5 l5n) := by
  intro n
  induction n with
  | zero =>
    intro x2 x3 x4 l5 l5n res hl0 hm
    cases hm
  | succ n ih =>
    intro x2 x3 x4 l5 l5n res hl0 hm
    subst hl0
    refine HL_succ ?_
    refine R_sq Try.f45 488 489 (by kernel_rfl) ?_
    refine R_sq Try.f45 976 977 (by kernel_rfl) ?_
    refine R_rn Try.f45 976 4 [] [] 4 ⟨[(0, vc (.fn 58 [.bptr 0 0 0])), (2, vp 1 0), (3, vp 2 0), (4, vi x2), (5, vi x3), (8, vb (decide (x3 < 60)))], [(0, bx 24 [ci a1.Low, tl e_Span default a1.Rows]), (1, bx 24 [ci 0, .emp]), (2, bx 24 [ci x4, .own 3 0 2 l5.length]), (3, ro 0 35 2 l5.length (rf e_Span l5))]⟩ o0 (by kernel_rfl) (by kernel_rfl) ?_
    refine R_cn Try.f45 (.tmp 8) 1954 1955 (by kernel_rfl) (decide (x3 < 60)) (by kernel_rfl) (fun b6 => ?_) (fun b6 => ?_)
    · replace hm := bif_t b6 hm
      refine R_skip (by kernel_rfl) ?_
      refine R_join (ι := Int × Int × (List Span) × Nat) (nd Try.f45 978) (nd Try.f45 979) (by kernel_rfl) (fun p => section_build_s2_k3_S a1 x3 p.1 p.2.1 p.2.2.1 p.2.2.2) (fun p => p.2.2.1.length = p.2.2.2 ∧ section_build_s2_k3 x3 (section_build_s2_L1 a1 n) p.1 p.2.1 p.2.2.1 = some res) ?_ ?_
      · rintro ⟨x17, x18, l19, l19n⟩ ⟨el19, hm⟩
        replace el19 : l19.length = l19n := el19
        subst el19
        show H _ (section_build_s2_k3_S a1 x3 x17 x18 l19 l19.length) (nd Try.f45 979) _
        refine R_rn Try.f45 979 5 [] [] 6 ⟨[(0, vc (.fn 58 [.bptr 0 0 0])), (2, vp 1 0), (3, vp 2 0), (4, vi x17), (5, vi (w64 (x3 + 1)))], [(0, bx 24 [ci a1.Low, tl e_Span default a1.Rows]), (1, bx 24 [ci 0, .emp]), (2, bx 24 [ci x18, .own 3 0 2 l19.length]), (3, ro 0 35 2 l19.length (rf e_Span l19))]⟩ o0 (by kernel_rfl) (by kernel_rfl) ?_
        exact HL_enter (section_build_s2_L1_S a1 x17 (w64 (x3 + 1)) x18 l19 l19.length) (by kernel_rfl) (by kernel_rfl) (ih x17 (w64 (x3 + 1)) x18 l19 l19.length _ rfl hm)
      · refine R_bk Try.f45 1 1956 (by kernel_rfl) ?_
        refine R_sq Try.f45 3912 3913 (by kernel_rfl) ?_
        obtain ⟨v7, h8, hm⟩ := bind_s hm
        refine R_rn Try.f45 3912 6 [(2, dex (cen [(0, 0)] [0] 3 1 (section_Mirror_1_x x3 a1 v7) (section_Mirror_1_o x3 a1 v7) [11, 12] [0]))] [] 4 ⟨[(0, vc (.fn 58 [.bptr 0 0 0])), (2, vp 1 0), (3, vp 2 0), (4, vi x2), (5, vi x3), (6, vp 4 0)], [(0, bx 24 [ci a1.Low, tl e_Span default a1.Rows]), (1, bx 24 [ci 0, .emp]), (2, bx 24 [ci x4, .own 3 0 2 l5.length]), (3, ro 0 35 2 l5.length (rf e_Span l5)), (4, bx 35 [ci v7.A, ci v7.B])]⟩ (o1 (callS (K := (kx E 46 1)) ⟨[(11, vc (.fn 58 [.bptr 0 0 0])), (12, vi x3)], [(0, bx 24 [ci a1.Low, tl e_Span default a1.Rows])]⟩ (opAt (rg Try.f45 3912) 2) [(0, 0)] [0] 3 o0 rfl (section_Mirror_1_ok x3 a1 v7 h8) (.inl rfl) (by kernel_rfl))) (by kernel_rfl) (by kernel_rfl) ?_
        refine R_bk Try.f45 2 7826 (by kernel_rfl) ?_
        refine R_sq Try.f45 15652 15653 (by kernel_rfl) ?_
        obtain ⟨v9, h10, hm⟩ := bind_s hm
        refine R_rn Try.f45 15652 7 [(1, dex (cen [] [] 5 0 (section_isEmpty_x v9) (section_isEmpty_o v9) [15] []))] [] 5 ⟨[(0, vc (.fn 58 [.bptr 0 0 0])), (2, vp 1 0), (3, vp 2 0), (4, vi x2), (5, vi x3), (6, vp 4 0), (14, vb (!v9))], [(0, bx 24 [ci a1.Low, tl e_Span default a1.Rows]), (1, bx 24 [ci 0, .emp]), (2, bx 24 [ci x4, .own 3 0 2 l5.length]), (3, ro 0 35 2 l5.length (rf e_Span l5)), (4, bx 35 [ci v7.A, ci v7.B])]⟩ (o1 (callS (K := (kx E 46 1)) ⟨[(15, va [ci v7.A, ci v7.B])], []⟩ (opAt (rg Try.f45 15652) 1) [] [] 5 o0 rfl (section_isEmpty_ok v7 v9 h10) (.inl rfl) (by kernel_rfl))) (by kernel_rfl) (by kernel_rfl) ?_
        refine R_cn Try.f45 (.tmp 14) 31306 31307 (by kernel_rfl) (!v9) (by kernel_rfl) (fun b11 => ?_) (fun b11 => ?_)
        · replace hm := bif_t b11 hm
          refine R_join (ι := Int) (nd Try.f45 62612) (nd Try.f45 62613) (by kernel_rfl) (fun p => section_build_s2_k2_S a1 x3 l5 v7 p) (fun p => section_build_s2_k2 x3 l5 (section_build_s2_L1 a1 n) v7 p = some res) ?_ ?_
          · rintro x13 hm
            show H _ (section_build_s2_k2_S a1 x3 l5 v7 x13) (nd Try.f45 62613) _
            refine R_sq Try.f45 125226 125227 (by kernel_rfl) ?_
            obtain ⟨g14, hm⟩ := bif_n hm
            refine R_rn Try.f45 125226 10 [(3, drw 5 0 (rf e_Span ([v7] : List Span))), (4, drw 3 1 (rf e_Span (l5 ++ ([v7] : List Span))))] [] 5 ⟨[(0, vc (.fn 58 [.bptr 0 0 0])), (2, vp 1 0), (3, vp 2 0), (5, vi x3)], [(0, bx 24 [ci a1.Low, tl e_Span default a1.Rows]), (1, bx 24 [ci 0, .emp]), (2, bx 24 [ci x13, .own 3 1 2 (l5.length + 1)]), (3, ro 1 35 2 (l5.length + 1) (rf e_Span (l5 ++ ([v7] : List Span))))]⟩ (o1 (And.intro (litP e_Span default 2 (fun _ => rfl) ([v7] : List Span) 1 rfl) (apP e_Span default l5 ([v7] : List Span) l5.length 1 2 16 (1 ≤ 1) (Nat.le_refl _) rfl rfl (fun _ => rfl) (room_of g14)))) (by kernel_rfl) (by kernel_rfl) ?_
            refine R_rn Try.f45 125227 11 [] [] 6 ⟨[(0, vc (.fn 58 [.bptr 0 0 0])), (2, vp 1 0), (3, vp 2 0), (4, vi (((l5.length + 1) : Nat) : Int)), (5, vi x3)], [(0, bx 24 [ci a1.Low, tl e_Span default a1.Rows]), (1, bx 24 [ci 0, .emp]), (2, bx 24 [ci x13, .own 3 1 2 (l5.length + 1)]), (3, ro 1 35 2 (l5.length + 1) (rf e_Span (l5 ++ ([v7] : List Span))))]⟩ o0 (by kernel_rfl) (by kernel_rfl) ?_
            exact J_mk ((((l5.length + 1) : Nat) : Int), x13, (l5 ++ ([v7] : List Span)), (l5.length + 1)) ⟨(len_app rfl rfl), hm⟩ (by kernel_rfl) (by kernel_rfl)
          · refine R_sq Try.f45 125224 125225 (by kernel_rfl) ?_
            refine R_rn Try.f45 125224 8 [] [] 5 ⟨[(0, vc (.fn 58 [.bptr 0 0 0])), (2, vp 1 0), (3, vp 2 0), (5, vi x3), (6, vp 4 0), (19, vb (x2 == 0))], [(0, bx 24 [ci a1.Low, tl e_Span default a1.Rows]), (1, bx 24 [ci 0, .emp]), (2, bx 24 [ci x4, .own 3 0 2 l5.length]), (3, ro 0 35 2 l5.length (rf e_Span l5)), (4, bx 35 [ci v7.A, ci v7.B])]⟩ o0 (by kernel_rfl) (by kernel_rfl) ?_
            refine R_cn Try.f45 (.tmp 19) 250450 250451 (by kernel_rfl) (x2 == 0) (by kernel_rfl) (fun b12 => ?_) (fun b12 => ?_)
            · replace hm := bif_t b12 hm
              refine R_rn Try.f45 250450 9 [] [] 5 ⟨[(0, vc (.fn 58 [.bptr 0 0 0])), (2, vp 1 0), (3, vp 2 0), (5, vi x3), (6, vp 4 0)], [(0, bx 24 [ci a1.Low, tl e_Span default a1.Rows]), (1, bx 24 [ci 0, .emp]), (2, bx 24 [ci x3, .own 3 0 2 l5.length]), (3, ro 0 35 2 l5.length (rf e_Span l5)), (4, bx 35 [ci v7.A, ci v7.B])]⟩ o0 (by kernel_rfl) (by kernel_rfl) ?_
              exact J_mk (x3) hm (by kernel_rfl) (by kernel_rfl)
            · replace hm := bif_f b12 hm
              refine R_skip (by kernel_rfl) ?_
              exact J_mk (x4) hm (by kernel_rfl) (by kernel_rfl)
        · replace hm := bif_f b11 hm
          refine R_sq Try.f45 62614 62615 (by kernel_rfl) ?_
          refine R_rn Try.f45 62614 12 [] [] 5 ⟨[(0, vc (.fn 58 [.bptr 0 0 0])), (2, vp 1 0), (3, vp 2 0), (4, vi x2), (5, vi x3), (31, vb (decide (x2 > 0)))], [(0, bx 24 [ci a1.Low, tl e_Span default a1.Rows]), (1, bx 24 [ci 0, .emp]), (2, bx 24 [ci x4, .own 3 0 2 l5.length]), (3, ro 0 35 2 l5.length (rf e_Span l5))]⟩ o0 (by kernel_rfl) (by kernel_rfl) ?_
          refine R_cn Try.f45 (.tmp 31) 125230 125231 (by kernel_rfl) (decide (x2 > 0)) (by kernel_rfl) (fun b15 => ?_) (fun b15 => ?_)
          · replace hm := bif_t b15 hm
            obtain ⟨g16, hm⟩ := bif_n hm
            refine R_rn Try.f45 125230 13 [(3, drw 5 0 (rf e_Span ([(Span.mk 0 0)] : List Span))), (4, drw 3 1 (rf e_Span (l5 ++ ([(Span.mk 0 0)] : List Span))))] [] 5 ⟨[(0, vc (.fn 58 [.bptr 0 0 0])), (2, vp 1 0), (3, vp 2 0), (4, vi x2), (5, vi x3)], [(0, bx 24 [ci a1.Low, tl e_Span default a1.Rows]), (1, bx 24 [ci 0, .emp]), (2, bx 24 [ci x4, .own 3 1 2 (l5.length + 1)]), (3, ro 1 35 2 (l5.length + 1) (rf e_Span (l5 ++ ([(Span.mk 0 0)] : List Span))))]⟩ (o1 (And.intro (litP e_Span default 2 (fun _ => rfl) ([(Span.mk 0 0)] : List Span) 1 rfl) (apP e_Span default l5 ([(Span.mk 0 0)] : List Span) l5.length 1 2 16 (1 ≤ 1) (Nat.le_refl _) rfl rfl (fun _ => rfl) (room_of g16)))) (by kernel_rfl) (by kernel_rfl) ?_
            exact J_mk (x2, x4, (l5 ++ ([(Span.mk 0 0)] : List Span)), (l5.length + 1)) ⟨(len_app rfl rfl), hm⟩ (by kernel_rfl) (by kernel_rfl)
          · replace hm := bif_f b15 hm
            refine R_skip (by kernel_rfl) ?_
            exact J_mk (x2, x4, l5, l5.length) ⟨rfl, hm⟩ (by kernel_rfl) (by kernel_rfl)
    · replace hm := bif_f b6 hm
      refine R_exit 0 (by kernel_rfl) ?_
      obtain rfl := Option.some.inj hm
      exact L0_mk (by kernel_rfl) (by kernel_rfl)

set_option maxRecDepth 100000 in
theorem section_build_s2_ok (a1 : Section) (r : Section) (hm : section_build_s2 a1 = some r) : CtX Try.prog globs 45 1 1 [.one (.fn 58 [.bptr 0 0 0])] [(0, bx 24 [ci a1.Low, tl e_Span default a1.Rows])] (section_build_s2_x a1 r) (section_build_s2_o a1 r) := by
  unfold section_build_s2 at hm
  refine CtX_of_E (fn := Try.f45) (c := nd Try.f45 1) (nt := 46) (by kernel_rfl) (by kernel_rfl) (by kernel_rfl) (by kernel_rfl) fun E => ?_
  refine R_sq Try.f45 2 3 (by kernel_rfl) ?_
  refine R_rn Try.f45 2 0 [] [] 1 ⟨[(0, vc (.fn 58 [.bptr 0 0 0])), (2, vp 1 0)], [(0, bx 24 [ci a1.Low, tl e_Span default a1.Rows]), (1, bx 24 [ci 0, .emp])]⟩ o0 (by kernel_rfl) (by kernel_rfl) ?_
  refine R_sq Try.f45 6 7 (by kernel_rfl) ?_
  refine R_rn Try.f45 6 1 [] [] 2 ⟨[(0, vc (.fn 58 [.bptr 0 0 0])), (2, vp 1 0), (3, vp 2 0)], [(0, bx 24 [ci a1.Low, tl e_Span default a1.Rows]), (1, bx 24 [ci 0, .emp]), (2, bx 24 [ci 0, .emp])]⟩ o0 (by kernel_rfl) (by kernel_rfl) ?_
  refine R_sq Try.f45 14 15 (by kernel_rfl) ?_
  refine R_rn Try.f45 14 2 [] [] 3 ⟨[(0, vc (.fn 58 [.bptr 0 0 0])), (2, vp 1 0), (3, vp 2 0), (4, vi 0)], [(0, bx 24 [ci a1.Low, tl e_Span default a1.Rows]), (1, bx 24 [ci 0, .emp]), (2, bx 24 [ci 0, .emp])]⟩ o0 (by kernel_rfl) (by kernel_rfl) ?_
  refine R_sq Try.f45 30 31 (by kernel_rfl) ?_
  refine R_sq Try.f45 60 61 (by kernel_rfl) ?_
  refine R_rn Try.f45 60 3 [] [] 3 ⟨[(0, vc (.fn 58 [.bptr 0 0 0])), (2, vp 1 0), (3, vp 2 0), (4, vi 0), (5, vi (-60))], [(0, bx 24 [ci a1.Low, tl e_Span default a1.Rows]), (1, bx 24 [ci 0, .emp]), (2, bx 24 [ci 0, .emp])]⟩ o0 (by kernel_rfl) (by kernel_rfl) ?_
  refine H_fin [.ownB 2 1 3 35 2 (rf e_Span ([] : List Span))] ⟨[(0, vc (.fn 58 [.bptr 0 0 0])), (2, vp 1 0), (3, vp 2 0), (4, vi 0), (5, vi (-60))], [(0, bx 24 [ci a1.Low, tl e_Span default a1.Rows]), (1, bx 24 [ci 0, .emp]), (2, bx 24 [ci 0, .own 3 0 2 0]), (3, ro 0 35 2 0 (rf e_Span ([] : List Span)))]⟩ o0 (by kernel_rfl) ?_
  obtain ⟨o23, h24, hm⟩ := bind_s hm
  refine R_loop0 (nd Try.f45 244) 0 (by kernel_rfl) FUEL (fun o => section_build_s2_L1_T a1 o.1 o.2.1 o.2.2) o23 (HL_enter (section_build_s2_L1_S a1 0 (-60) 0 ([] : List Span) 0) (by kernel_rfl) (by kernel_rfl) (section_build_s2_L1_ok E a1 FUEL 0 (-60) 0 ([] : List Span) 0 o23 rfl h24)) ?_
  refine R_sq Try.f45 62 63 (by kernel_rfl) ?_
  obtain ⟨g25, hm⟩ := bif_n hm
  refine R_rn Try.f45 62 14 [] [.row 3 o23.1.toNat (rf e_Span (o23.2.2.take o23.1.toNat))] 4 ⟨[(2, vp 1 0), (3, vp 2 0)], [(0, bx 24 [ci a1.Low, tl e_Span default a1.Rows]), (1, bx 24 [ci 0, .emp]), (2, bx 24 [ci o23.2.1, .own 3 0 2 o23.1.toNat]), (3, ro 0 35 2 o23.1.toNat (rf e_Span (o23.2.2.take o23.1.toNat)))]⟩ (o1 (And.intro (And.intro (slOk_of g25).2.1 (slOk_of g25).2.2) (tkP e_Span default o23.2.2 o23.2.2.length o23.1.toNat (show o23.1.toNat ≤ o23.2.2.length by have := (slOk_of g25); omega)))) (by kernel_rfl) (by kernel_rfl) ?_
  refine R_sq Try.f45 126 127 (by kernel_rfl) ?_
  refine R_rn Try.f45 126 15 [] [] 4 ⟨[(2, vp 1 0)], [(0, bx 24 [ci a1.Low, tl e_Span default a1.Rows]), (1, bx 24 [ci o23.2.1, .own 3 0 2 o23.1.toNat]), (3, ro 0 35 2 o23.1.toNat (rf e_Span (o23.2.2.take o23.1.toNat)))]⟩ o0 (by kernel_rfl) (by kernel_rfl) ?_
  refine H_fin [.len 3 ((o23.2.2.take o23.1.toNat).length)] ⟨[(2, vp 1 0)], [(0, bx 24 [ci a1.Low, tl e_Span default a1.Rows]), (1, bx 24 [ci o23.2.1, .own 3 0 2 ((o23.2.2.take o23.1.toNat).length)]), (3, ro 0 35 2 ((o23.2.2.take o23.1.toNat).length) (rf e_Span (o23.2.2.take o23.1.toNat)))]⟩ (o1 (And.intro (Eq.symm (show (o23.2.2.take o23.1.toNat).length = o23.1.toNat from (len_take rfl (show o23.1.toNat ≤ o23.2.2.length by have := (slOk_of g25); omega)))) (Eq.symm (show (o23.2.2.take o23.1.toNat).length = o23.1.toNat from (len_take rfl (show o23.1.toNat ≤ o23.2.2.length by have := (slOk_of g25); omega)))))) (by kernel_rfl) ?_
  obtain rfl := Option.some.inj hm
  refine H_swap 3 1 (by kernel_rfl) ?_
  refine R_ret (by kernel_rfl) ?_
  exact ret_mk (by kernel_rfl) (by kernel_rfl)

end Saw
end Go.SL

namespace Go.SL
namespace Saw
open Go.Proofs
set_option maxHeartbeats 4000000

def section_Mirror_x (r : Section) : V := va [ci r.Low, .own 0 0 2 r.Rows.length]

def section_Mirror_o (r : Section) : List (Nat × (Nat × O)) := [(0, ro 0 35 2 r.Rows.length (rf e_Span r.Rows))]

theorem section_Mirror_f (r : Section) : Frozen (section_Mirror_o r) := by
  intro i k o h
  unfold section_Mirror_o at h
  rw [look_cons] at h
  split at h
  · cases h; exact fun _ _ => rfl
  · cases h

set_option maxRecDepth 100000 in
theorem section_Mirror_ok (a1 : Section) (r : Section) (hm : section_Mirror a1 = some r) : CtX Try.prog globs 27 0 0 [.agg [ci a1.Low, tl e_Span default a1.Rows]] [] (section_Mirror_x r) (section_Mirror_o r) := by
  unfold section_Mirror at hm
  refine CtX_of_E (fn := Try.f27) (c := nd Try.f27 1) (nt := 7) (by kernel_rfl) (by kernel_rfl) (by kernel_rfl) (by kernel_rfl) fun E => ?_
  refine R_sq Try.f27 2 3 (by kernel_rfl) ?_
  refine R_rn Try.f27 2 0 [] [] 0 ⟨[(1, vp 0 0), (2, vp 1 0)], [(0, bx 24 [ci a1.Low, tl e_Span default a1.Rows]), (1, bx 24 [ci 0, .emp])]⟩ o0 (by kernel_rfl) (by kernel_rfl) ?_
  refine R_sq Try.f27 6 7 (by kernel_rfl) ?_
  obtain ⟨v2, h3, hm⟩ := bind_s hm
  refine R_rn Try.f27 6 1 [(1, dex (cen [] [] 2 0 (section_valid_x v2) (section_valid_o v2) [3] []))] [] 2 ⟨[(1, vp 0 0), (2, vp 1 0)], [(0, bx 24 [ci v2.Low, tl e_Span default v2.Rows]), (1, bx 24 [ci 0, .emp])]⟩ (o1 (callS (K := (kx E 7 0)) ⟨[(3, va [ci a1.Low, tl e_Span default a1.Rows])], []⟩ (opAt (rg Try.f27 6) 1) [] [] 2 o0 rfl (section_valid_ok a1 v2 h3) (.inl rfl) (by kernel_rfl))) (by kernel_rfl) (by kernel_rfl) ?_
  refine R_sq Try.f27 14 15 (by kernel_rfl) ?_
  obtain ⟨v4, h5, hm⟩ := bind_s hm
  refine R_rn Try.f27 14 2 [(1, dex (cen [(0, 0)] [0] 1 1 (section_build_s2_x v2 v4) (section_build_s2_o v2 v4) [5] [0]))] [] 2 ⟨[(2, vp 1 0)], [(1, bx 24 [ci v4.Low, .own 2 0 2 v4.Rows.length]), (2, ro 0 35 2 v4.Rows.length (rf e_Span v4.Rows))]⟩ (o1 (callS (K := (kx E 7 0)) ⟨[(5, vc (.fn 58 [.bptr 0 0 0]))], [(0, bx 24 [ci v2.Low, tl e_Span default v2.Rows])]⟩ (opAt (rg Try.f27 14) 1) [(0, 0)] [0] 1 o0 rfl (section_build_s2_ok v2 v4 h5) (.inl rfl) (by kernel_rfl))) (by kernel_rfl) (by kernel_rfl) ?_
  obtain rfl := Option.some.inj hm
  refine H_swap 2 0 (by kernel_rfl) ?_
  refine R_ret (by kernel_rfl) ?_
  exact ret_mk (by kernel_rfl) (by kernel_rfl)

end Saw
end Go.SL

namespace Go.SL
namespace Saw
open Go.Proofs
set_option maxHeartbeats 4000000

def slices_Equal_SSpan_x (r : Bool) : V := vb r

def slices_Equal_SSpan_o (r : Bool) : List (Nat × (Nat × O)) := []

theorem slices_Equal_SSpan_f (r : Bool) : Frozen (slices_Equal_SSpan_o r) := by
  intro i k o h
  unfold slices_Equal_SSpan_o at h
  cases h

def slices_Equal_SSpan_L1_S (a1 : List Span) (a2 : List Span) (x4 : Int) : St :=
  ⟨[(0, vc (tl e_Span default a1)), (1, vc (tl e_Span default a2)), (12, vi ((a1.length : Nat) : Int)), (13, vi x4)], []⟩

def slices_Equal_SSpan_L1_T : St :=
  ⟨[], []⟩

set_option maxRecDepth 100000 in
theorem slices_Equal_SSpan_L1_ok (E : Env 0) (a1 : List Span) (a2 : List Span) : ∀ (n : Nat) (x4 : Int) (res : Bool ⊕ Unit), slices_Equal_SSpan_L1 a1 a2 n x4 = some res → HL (kx E 26 0) (nd Try.f63 116) (loopQ 0 (fun o => slices_Equal_SSpan_L1_T) (fun v st => RetQ Try.prog Try.f63 (slices_Equal_SSpan_x v) (slices_Equal_SSpan_o v) .ret st) res) n (slices_Equal_SSpan_L1_S a1 a2 x4) := by
  intro n
  induction n with
  | zero =>
    intro x4 res hm
    cases hm
  | succ n ih =>
    intro x4 res hm
    refine HL_succ ?_
    refine R_sq Try.f63 232 233 (by kernel_rfl) ?_
    refine R_rn Try.f63 232 4 [] [] 0 ⟨[(0, vc (tl e_Span default a1)), (1, vc (tl e_Span default a2)), (12, vi ((a1.length : Nat) : Int)), (13, vi x4), (14, vb (decide (x4 < ((a1.length : Nat) : Int))))], []⟩ o0 (by kernel_rfl) (by kernel_rfl) ?_
    refine R_sq Try.f63 466 467 (by kernel_rfl) ?_
    refine R_cn Try.f63 (.tmp 14) 932 933 (by kernel_rfl) (decide (x4 < ((a1.length : Nat) : Int))) (by kernel_rfl) (fun b5 => ?_) (fun b5 => ?_)
    · replace hm := bif_t b5 hm
      refine R_skip (by kernel_rfl) ?_
      refine R_sq Try.f63 934 935 (by kernel_rfl) ?_
      refine R_bk Try.f63 1 1868 (by kernel_rfl) ?_
      refine R_sq Try.f63 3736 3737 (by kernel_rfl) ?_
      refine R_rn Try.f63 3736 5 [] [] 0 ⟨[(0, vc (tl e_Span default a1)), (1, vc (tl e_Span default a2)), (5, vi x4), (12, vi ((a1.length : Nat) : Int)), (13, vi x4)], []⟩ o0 (by kernel_rfl) (by kernel_rfl) ?_
      refine R_sq Try.f63 7474 7475 (by kernel_rfl) ?_
      obtain ⟨g6, hm⟩ := bif_n hm
      obtain ⟨g7, hm⟩ := bif_n hm
      refine R_dr Try.f63 7474 6 [] [] [] [0, 0, 3, 7, 0, 0, 48, 112, 255] 0 ⟨[(0, vc (tl e_Span default a1)), (1, vc (tl e_Span default a2)), (12, vi ((a1.length : Nat) : Int)), (13, vi x4), (24, vb (!((((a1.getD x4.toNat default).A) == ((a2.getD x4.toNat default).A)) && ((((a1.getD x4.toNat default).B) == ((a2.getD x4.toNat default).B)) && true))))], []⟩ (o1 (And.intro (inb_of g6) (inb_of g7))) (by kernel_rfl) (by kernel_rfl) ?_
      refine R_cn Try.f63 (.tmp 24) 14950 14951 (by kernel_rfl) (!((((a1.getD x4.toNat default).A) == ((a2.getD x4.toNat default).A)) && ((((a1.getD x4.toNat default).B) == ((a2.getD x4.toNat default).B)) && true))) (by kernel_rfl) (fun b8 => ?_) (fun b8 => ?_)
      · replace hm := bif_t b8 hm
        refine R_sq Try.f63 29900 29901 (by kernel_rfl) ?_
        refine R_rn Try.f63 29900 7 [] [] 0 ⟨[(4, vb false)], []⟩ o0 (by kernel_rfl) (by kernel_rfl) ?_
        obtain rfl := Option.some.inj hm
        refine R_ret (by kernel_rfl) ?_
        refine L1_ret false ?_
        exact ret_mk (by kernel_rfl) (by kernel_rfl)
      · replace hm := bif_f b8 hm
        refine R_skip (by kernel_rfl) ?_
        refine R_rn Try.f63 935 8 [] [] 0 ⟨[(0, vc (tl e_Span default a1)), (1, vc (tl e_Span default a2)), (12, vi ((a1.length : Nat) : Int)), (13, vi (w64 (x4 + 1)))], []⟩ o0 (by kernel_rfl) (by kernel_rfl) ?_
        exact HL_enter (slices_Equal_SSpan_L1_S a1 a2 (w64 (x4 + 1))) (by kernel_rfl) (by kernel_rfl) (ih (w64 (x4 + 1)) _ hm)
    · replace hm := bif_f b5 hm
      refine R_exit 0 (by kernel_rfl) ?_
      obtain rfl := Option.some.inj hm
      exact L1_mk () (by kernel_rfl) (by kernel_rfl)

set_option maxRecDepth 100000 in
theorem slices_Equal_SSpan_ok (a1 : List Span) (a2 : List Span) (r : Bool) (hm : slices_Equal_SSpan a1 a2 = some r) : CtX Try.prog globs 63 0 0 [.one (tl e_Span default a1), .one (tl e_Span default a2)] [] (slices_Equal_SSpan_x r) (slices_Equal_SSpan_o r) := by
  unfold slices_Equal_SSpan at hm
  refine CtX_of_E (fn := Try.f63) (c := nd Try.f63 1) (nt := 26) (by kernel_rfl) (by kernel_rfl) (by kernel_rfl) (by kernel_rfl) fun E => ?_
  refine R_sq Try.f63 2 3 (by kernel_rfl) ?_
  refine R_rn Try.f63 2 0 [] [] 0 ⟨[(0, vc (tl e_Span default a1)), (1, vc (tl e_Span default a2))], []⟩ o0 (by kernel_rfl) (by kernel_rfl) ?_
  refine R_sq Try.f63 6 7 (by kernel_rfl) ?_
  refine R_sq Try.f63 12 13 (by kernel_rfl) ?_
  refine R_rn Try.f63 12 1 [] [] 0 ⟨[(0, vc (tl e_Span default a1)), (1, vc (tl e_Span default a2)), (10, vb (((a1.length : Nat) : Int) != ((a2.length : Nat) : Int)))], []⟩ o0 (by kernel_rfl) (by kernel_rfl) ?_
  refine R_cn Try.f63 (.tmp 10) 26 27 (by kernel_rfl) (((a1.length : Nat) : Int) != ((a2.length : Nat) : Int)) (by kernel_rfl) (fun b3 => ?_) (fun b3 => ?_)
  · replace hm := bif_t b3 hm
    refine R_sq Try.f63 52 53 (by kernel_rfl) ?_
    refine R_rn Try.f63 52 2 [] [] 0 ⟨[(4, vb false)], []⟩ o0 (by kernel_rfl) (by kernel_rfl) ?_
    obtain rfl := Option.some.inj hm
    refine R_ret (by kernel_rfl) ?_
    exact ret_mk (by kernel_rfl) (by kernel_rfl)
  · replace hm := bif_f b3 hm
    refine R_skip (by kernel_rfl) ?_
    refine R_sq Try.f63 14 15 (by kernel_rfl) ?_
    refine R_sq Try.f63 28 29 (by kernel_rfl) ?_
    refine R_rn Try.f63 28 3 [] [] 0 ⟨[(0, vc (tl e_Span default a1)), (1, vc (tl e_Span default a2)), (12, vi ((a1.length : Nat) : Int)), (13, vi 0)], []⟩ o0 (by kernel_rfl) (by kernel_rfl) ?_
    obtain ⟨u11, h10, hm⟩ := bind_s hm
    refine R_loop1 (nd Try.f63 116) 0 (by kernel_rfl) FUEL (fun o => slices_Equal_SSpan_L1_T) (fun v st => RetQ Try.prog Try.f63 (slices_Equal_SSpan_x v) (slices_Equal_SSpan_o v) .ret st) u11 (HL_enter (slices_Equal_SSpan_L1_S a1 a2 0) (by kernel_rfl) (by kernel_rfl) (slices_Equal_SSpan_L1_ok E a1 a2 FUEL 0 u11 h10)) ?_ ?_
    · rintro v12 rfl st hr
      obtain rfl := Option.some.inj hm
      exact hr
    · rintro o9 rfl
      replace hm : _ = some r := hm
      refine R_sq Try.f63 30 31 (by kernel_rfl) ?_
      refine R_rn Try.f63 30 9 [] [] 0 ⟨[(4, vb true)], []⟩ o0 (by kernel_rfl) (by kernel_rfl) ?_
      obtain rfl := Option.some.inj hm
      refine R_ret (by kernel_rfl) ?_
      exact ret_mk (by kernel_rfl) (by kernel_rfl)

end Saw
end Go.SL

namespace Go.SL
namespace Saw
open Go.Proofs
set_option maxHeartbeats 4000000

def section_Equal_x (r : Bool) : V := vb r

def section_Equal_o (r : Bool) : List (Nat × (Nat × O)) := []

theorem section_Equal_f (r : Bool) : Frozen (section_Equal_o r) := by
  intro i k o h
  unfold section_Equal_o at h
  cases h

def section_Equal_k1_S (x10 : Bool) : St :=
  ⟨[(4, vb x10)], []⟩

set_option maxRecDepth 100000 in
theorem section_Equal_ok (a1 : Section) (a2 : Section) (r : Bool) (hm : section_Equal a1 a2 = some r) : CtX Try.prog globs 33 0 0 [.agg [ci a1.Low, tl e_Span default a1.Rows], .agg [ci a2.Low, tl e_Span default a2.Rows]] [] (section_Equal_x r) (section_Equal_o r) := by
  unfold section_Equal at hm
  refine CtX_of_E (fn := Try.f33) (c := nd Try.f33 1) (nt := 21) (by kernel_rfl) (by kernel_rfl) (by kernel_rfl) (by kernel_rfl) fun E => ?_
  refine R_sq Try.f33 2 3 (by kernel_rfl) ?_
  refine R_rn Try.f33 2 0 [] [] 0 ⟨[(2, vp 0 0), (3, vp 1 0)], [(0, bx 24 [ci a1.Low, tl e_Span default a1.Rows]), (1, bx 24 [ci a2.Low, tl e_Span default a2.Rows])]⟩ o0 (by kernel_rfl) (by kernel_rfl) ?_
  refine R_sq Try.f33 6 7 (by kernel_rfl) ?_
  obtain ⟨v3, h4, hm⟩ := bind_s hm
  obtain ⟨v5, h6, hm⟩ := bind_s hm
  refine R_dr Try.f33 6 1 [] [(1, dex (cen [] [] 2 0 (section_valid_x v3) (section_valid_o v3) [5] [])), (3, dex (cen [] [] 2 0 (section_valid_x v5) (section_valid_o v5) [7] []))] [] [0, 1, 0, 7, 15, 31] 2 ⟨[(2, vp 0 0), (3, vp 1 0)], [(0, bx 24 [ci v3.Low, tl e_Span default v3.Rows]), (1, bx 24 [ci v5.Low, tl e_Span default v5.Rows])]⟩ (o1 (And.intro (callS (K := (kx E 21 0)) ⟨[(5, va [ci a1.Low, tl e_Span default a1.Rows])], []⟩ (opAt (rg Try.f33 6) 1) [] [] 2 o0 rfl (section_valid_ok a1 v3 h4) (.inl rfl) (by kernel_rfl)) (callS (K := (kx E 21 0)) ⟨[(7, va [ci a2.Low, tl e_Span default a2.Rows])], []⟩ (opAt (rg Try.f33 6) 3) [] [] 2 o0 rfl (section_valid_ok a2 v5 h6) (.inl rfl) (by kernel_rfl)))) (by kernel_rfl) (by kernel_rfl) ?_
  refine R_join (ι := Bool) (nd Try.f33 14) (nd Try.f33 15) (by kernel_rfl) (fun p => section_Equal_k1_S p) (fun p => section_Equal_k1 p = some r) ?_ ?_
  · rintro x10 hm
    show H _ (section_Equal_k1_S x10) (nd Try.f33 15) _
    obtain rfl := Option.some.inj hm
    refine R_ret (by kernel_rfl) ?_
    exact ret_mk (by kernel_rfl) (by kernel_rfl)
  · rcases Bool.eq_false_or_eq_true (v3.Low == v5.Low) with b7 | b7
    · replace hm := bif_t b7 hm
      obtain ⟨v8, h9, hm⟩ := bind_s hm
      refine R_rn Try.f33 14 2 [(5, dfx true), (10, dex (cen [] [] 2 0 (slices_Equal_SSpan_x v8) (slices_Equal_SSpan_o v8) [14, 16, 18] []))] [] 2 ⟨[(4, vb v8)], []⟩ (o1 (And.intro b7 (callS (K := (kx E 21 0)) ⟨[(14, vb true), (16, vc (tl e_Span default v3.Rows)), (18, vc (tl e_Span default v5.Rows))], []⟩ (opAt (rg Try.f33 14) 10) [] [] 2 o0 rfl (slices_Equal_SSpan_ok v3.Rows v5.Rows v8 h9) (.inl rfl) (by kernel_rfl)))) (by kernel_rfl) (by kernel_rfl) ?_
      exact J_mk (v8) hm (by kernel_rfl) (by kernel_rfl)
    · replace hm := bif_f b7 hm
      refine R_rn Try.f33 14 2 [(5, dfx false)] [] 2 ⟨[(4, vb false)], []⟩ (o1 b7) (by kernel_rfl) (by kernel_rfl) ?_
      exact J_mk (false) hm (by kernel_rfl) (by kernel_rfl)

end Saw
end Go.SL

namespace Go.SL
namespace Saw
open Go.Proofs
set_option maxHeartbeats 4000000

def slices_Clone_SSpan_x (r : List Span) : V := vo 0 0 2 r.length

def slices_Clone_SSpan_o (r : List Span) : List (Nat × (Nat × O)) := [(0, ro 0 35 2 r.length (rf e_Span r))]

theorem slices_Clone_SSpan_f (r : List Span) : Frozen (slices_Clone_SSpan_o r) := by
  intro i k o h
  unfold slices_Clone_SSpan_o at h
  rw [look_cons] at h
  split at h
  · cases h; exact fun _ _ => rfl
  · cases h

set_option maxRecDepth 100000 in
theorem slices_Clone_SSpan_ok (a1 : List Span) (r : List Span) (hm : slices_Clone_SSpan a1 = some r) : CtX Try.prog globs 57 0 0 [.one (tl e_Span default a1)] [] (slices_Clone_SSpan_x r) (slices_Clone_SSpan_o r) := by
  unfold slices_Clone_SSpan at hm
  obtain ⟨g1, hm⟩ := bif_n hm
  obtain rfl := Option.some.inj hm
  refine CtX_of_E (fn := Try.f57) (c := nd Try.f57 1) (nt := 8) (by kernel_rfl) (by kernel_rfl) (by kernel_rfl) (by kernel_rfl) fun E => ?_
  refine R_sq Try.f57 2 3 (by kernel_rfl) ?_
  refine R_rn Try.f57 2 0 [] [] 0 ⟨[(0, vc (tl e_Span default a1))], []⟩ o0 (by kernel_rfl) (by kernel_rfl) ?_
  refine R_sq Try.f57 6 7 (by kernel_rfl) ?_
  refine R_sq Try.f57 12 13 (by kernel_rfl) ?_
  refine R_nil Try.f57 12 1 1 ⟨[(0, vc (tl e_Span default a1)), (3, vc (tl e_Span default a1))], []⟩ 22 22 35 4 (.tmp 3) a1.length (rf e_Span a1) (by kernel_rfl) (by kernel_rfl) (by kernel_rfl) (fun b hb => ?_)
  refine R_cn Try.f57 (.tmp 4) 26 27 (by kernel_rfl) b (by kernel_rfl) (fun b6 => ?_) (fun b6 => ?_)
  · obtain rfl : a1 = [] := List.eq_nil_of_length_eq_zero (hb b6)
    refine R_sq Try.f57 52 53 (by kernel_rfl) ?_
    refine R_rn Try.f57 52 2 [] [.own 2 0 35 2 (rf e_Span ([] : List Span))] 0 ⟨[(2, vo 0 0 2 0)], [(0, ro 0 35 2 0 (rf e_Span ([] : List Span)))]⟩ o0 (by kernel_rfl) (by kernel_rfl) ?_
    refine R_ret (by kernel_rfl) ?_
    exact ret_mk (by kernel_rfl) (by kernel_rfl)
  · refine R_skip (by kernel_rfl) ?_
    refine R_sq Try.f57 14 15 (by kernel_rfl) ?_
    refine R_rn Try.f57 14 3 [(0, drw 0 0 (rf e_Span ([] : List Span))), (2, drw 0 1 (rf e_Span ([] ++ a1)))] [.len 0 a1.length] 0 ⟨[(2, vo 0 1 2 a1.length)], [(0, ro 1 35 2 a1.length (rf e_Span ([] ++ a1)))]⟩ (o1 (And.intro (And.intro (litP e_Span default 2 (fun _ => rfl) ([] : List Span) 0 rfl) (apP e_Span default ([] : List Span) a1 0 a1.length 2 16 True trivial rfl rfl (fun _ => rfl) (by have := room_of g1; rw [Nat.zero_add]; exact this))) (And.intro (And.intro (Nat.zero_add a1.length) (Nat.zero_add a1.length)) (Nat.zero_add a1.length)))) (by kernel_rfl) (by kernel_rfl) ?_
    refine R_ret (by kernel_rfl) ?_
    exact ret_mk (by kernel_rfl) (by kernel_rfl)

end Saw
end Go.SL
