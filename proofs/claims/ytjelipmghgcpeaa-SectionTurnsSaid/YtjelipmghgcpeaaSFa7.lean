import Derived.Test.YtjelipmghgcpeaaSBase
import Derived.Test.YtjelipmghgcpeaaSFa6
import Derived.Test.YtjelipmghgcpeaaSFa4
import Derived.Test.YtjelipmghgcpeaaSFa3
import Derived.Test.YtjelipmghgcpeaaSFa1
set_option linter.unusedVariables false
set_option linter.unusedSimpArgs false
namespace Go.SL
namespace Saw
open Go.Proofs
set_option maxHeartbeats 4000000

def ref10_Bounds_x (r : Rect) : V := va [ci r.X.A, ci r.X.B, ci r.Y.A, ci r.Y.B]

def ref10_Bounds_o (r : Rect) : List (Nat × (Nat × O)) := []

theorem ref10_Bounds_f (r : Rect) : Frozen (ref10_Bounds_o r) := by
  intro i k o h
  unfold ref10_Bounds_o at h
  cases h

def ref10_Bounds_k2_S (v2 : Section) (x6 : Int) (x13 : Span) : St :=
  ⟨[(1, vp 0 0), (2, vp 1 0), (3, vp 2 0), (4, vi x6)], [(0, bx 24 [ci v2.Low, tl e_Span default v2.Rows]), (1, bx 37 [ci 0, ci 0, ci 0, ci 0]), (2, bx 35 [ci x13.A, ci x13.B])]⟩

def ref10_Bounds_L1_S (v2 : Section) (x6 : Int) (x7 : Span) : St :=
  ⟨[(1, vp 0 0), (2, vp 1 0), (3, vp 2 0), (4, vi x6)], [(0, bx 24 [ci v2.Low, tl e_Span default v2.Rows]), (1, bx 37 [ci 0, ci 0, ci 0, ci 0]), (2, bx 35 [ci x7.A, ci x7.B])]⟩

def ref10_Bounds_L1_T (v2 : Section) (x14 : Span) : St :=
  ⟨[(1, vp 0 0), (2, vp 1 0), (3, vp 2 0)], [(0, bx 24 [ci v2.Low, tl e_Span default v2.Rows]), (1, bx 37 [ci 0, ci 0, ci 0, ci 0]), (2, bx 35 [ci x14.A, ci x14.B])]⟩

set_option maxRecDepth 100000 in
theorem ref10_Bounds_L1_ok (E : Env 0) (v2 : Section) : ∀ (n : Nat) (x6 : Int) (x7 : Span) (res : Span), ref10_Bounds_L1 v2 n x6 x7 = some res → HL (kx E 62 0) (nd Try.f24 500) (loopQ0 0 (fun o => ref10_Bounds_L1_T v2 o) res) n (ref10_Bounds_L1_S v2 x6 x7) := by
  intro n
  induction n with
  | zero =>
    intro x6 x7 res hm
    cases hm
  | succ n ih =>
    intro x6 x7 res hm
    refine HL_succ ?_
    refine R_sq Try.f24 1000 1001 (by kernel_rfl) ?_
    refine R_sq Try.f24 2000 2001 (by kernel_rfl) ?_
    refine R_rn Try.f24 2000 6 [] [] 3 ⟨[(1, vp 0 0), (2, vp 1 0), (3, vp 2 0), (4, vi x6), (20, vb (decide (x6 < ((v2.Rows.length : Nat) : Int))))], [(0, bx 24 [ci v2.Low, tl e_Span default v2.Rows]), (1, bx 37 [ci 0, ci 0, ci 0, ci 0]), (2, bx 35 [ci x7.A, ci x7.B])]⟩ o0 (by kernel_rfl) (by kernel_rfl) ?_
    refine R_cn Try.f24 (.tmp 20) 4002 4003 (by kernel_rfl) (decide (x6 < ((v2.Rows.length : Nat) : Int))) (by kernel_rfl) (fun b8 => ?_) (fun b8 => ?_)
    · replace hm := bif_t b8 hm
      refine R_skip (by kernel_rfl) ?_
      refine R_join (ι := Span) (nd Try.f24 2002) (nd Try.f24 2003) (by kernel_rfl) (fun p => ref10_Bounds_k2_S v2 x6 p) (fun p => ref10_Bounds_k2 x6 (ref10_Bounds_L1 v2 n) p = some res) ?_ ?_
      · rintro x13 hm
        show H _ (ref10_Bounds_k2_S v2 x6 x13) (nd Try.f24 2003) _
        refine R_rn Try.f24 2003 7 [] [] 3 ⟨[(1, vp 0 0), (2, vp 1 0), (3, vp 2 0), (4, vi (w64 (x6 + 1)))], [(0, bx 24 [ci v2.Low, tl e_Span default v2.Rows]), (1, bx 37 [ci 0, ci 0, ci 0, ci 0]), (2, bx 35 [ci x13.A, ci x13.B])]⟩ o0 (by kernel_rfl) (by kernel_rfl) ?_
        exact HL_enter (ref10_Bounds_L1_S v2 (w64 (x6 + 1)) x13) (by kernel_rfl) (by kernel_rfl) (ih (w64 (x6 + 1)) x13 _ hm)
      · refine R_bk Try.f24 1 4004 (by kernel_rfl) ?_
        refine R_sq Try.f24 8008 8009 (by kernel_rfl) ?_
        obtain ⟨g9, hm⟩ := bif_n hm
        obtain ⟨v10, h11, hm⟩ := bind_s hm
        refine R_rn Try.f24 8008 8 [(5, dex (cen [] [] 3 0 (ref10_empty_x v10) (ref10_empty_o v10) [27] []))] [] 3 ⟨[(1, vp 0 0), (2, vp 1 0), (3, vp 2 0), (4, vi x6), (29, vb (!v10))], [(0, bx 24 [ci v2.Low, tl e_Span default v2.Rows]), (1, bx 37 [ci 0, ci 0, ci 0, ci 0]), (2, bx 35 [ci x7.A, ci x7.B])]⟩ (o1 (And.intro (inb_of g9) (callS (K := (kx E 62 0)) ⟨[(27, va [ci ((v2.Rows.getD x6.toNat default).A), ci ((v2.Rows.getD x6.toNat default).B)])], []⟩ (opAt (rg Try.f24 8008) 5) [] [] 3 o0 rfl (ref10_empty_ok (v2.Rows.getD x6.toNat default) v10 h11) (.inl rfl) (by kernel_rfl)))) (by kernel_rfl) (by kernel_rfl) ?_
        refine R_cn Try.f24 (.tmp 29) 16018 16019 (by kernel_rfl) (!v10) (by kernel_rfl) (fun b12 => ?_) (fun b12 => ?_)
        · replace hm := bif_t b12 hm
          refine R_dr Try.f24 16018 9 [] [] [] [0, 1, 0, 4, 0, 28, 60, 124, 255, 0, 512, 0, 2048, 0, 14336, 30720, 63488, 130560, 262143, 524287] 3 ⟨[(1, vp 0 0), (2, vp 1 0), (3, vp 2 0), (4, vi x6)], [(0, bx 24 [ci v2.Low, tl e_Span default v2.Rows]), (1, bx 37 [ci 0, ci 0, ci 0, ci 0]), (2, bx 35 [ci (imin x7.A ((v2.Rows.getD x6.toNat default).A)), ci (imax x7.B ((v2.Rows.getD x6.toNat default).B))])]⟩ (o1 (And.intro (inb_of g9) (inb_of g9))) (by kernel_rfl) (by kernel_rfl) ?_
          exact J_mk ((Span.mk (imin x7.A ((v2.Rows.getD x6.toNat default).A)) (imax x7.B ((v2.Rows.getD x6.toNat default).B)))) hm (by kernel_rfl) (by kernel_rfl)
        · replace hm := bif_f b12 hm
          refine R_skip (by kernel_rfl) ?_
          exact J_mk (x7) hm (by kernel_rfl) (by kernel_rfl)
    · replace hm := bif_f b8 hm
      refine R_exit 0 (by kernel_rfl) ?_
      obtain rfl := Option.some.inj hm
      exact L0_mk (by kernel_rfl) (by kernel_rfl)

set_option maxRecDepth 100000 in
theorem ref10_Bounds_ok (a1 : Section) (r : Rect) (hm : ref10_Bounds a1 = some r) : CtX Try.prog globs 24 0 0 [.agg [ci a1.Low, tl e_Span default a1.Rows]] [] (ref10_Bounds_x r) (ref10_Bounds_o r) := by
  unfold ref10_Bounds at hm
  refine CtX_of_E (fn := Try.f24) (c := nd Try.f24 1) (nt := 62) (by kernel_rfl) (by kernel_rfl) (by kernel_rfl) (by kernel_rfl) fun E => ?_
  refine R_sq Try.f24 2 3 (by kernel_rfl) ?_
  refine R_rn Try.f24 2 0 [] [] 0 ⟨[(1, vp 0 0), (2, vp 1 0)], [(0, bx 24 [ci a1.Low, tl e_Span default a1.Rows]), (1, bx 37 [ci 0, ci 0, ci 0, ci 0])]⟩ o0 (by kernel_rfl) (by kernel_rfl) ?_
  refine R_sq Try.f24 6 7 (by kernel_rfl) ?_
  obtain ⟨v2, h3, hm⟩ := bind_s hm
  refine R_rn Try.f24 6 1 [(1, dex (cen [] [] 2 0 (ref10_Valid_x v2) (ref10_Valid_o v2) [5] []))] [] 2 ⟨[(1, vp 0 0), (2, vp 1 0)], [(0, bx 24 [ci v2.Low, tl e_Span default v2.Rows]), (1, bx 37 [ci 0, ci 0, ci 0, ci 0])]⟩ (o1 (callS (K := (kx E 62 0)) ⟨[(5, va [ci a1.Low, tl e_Span default a1.Rows])], []⟩ (opAt (rg Try.f24 6) 1) [] [] 2 o0 rfl (ref10_Valid_ok a1 v2 h3) (.inl rfl) (by kernel_rfl))) (by kernel_rfl) (by kernel_rfl) ?_
  refine R_sq Try.f24 14 15 (by kernel_rfl) ?_
  refine R_sq Try.f24 28 29 (by kernel_rfl) ?_
  refine R_rn Try.f24 28 2 [] [] 2 ⟨[(1, vp 0 0), (2, vp 1 0), (10, vb (((v2.Rows.length : Nat) : Int) == 0))], [(0, bx 24 [ci v2.Low, tl e_Span default v2.Rows]), (1, bx 37 [ci 0, ci 0, ci 0, ci 0])]⟩ o0 (by kernel_rfl) (by kernel_rfl) ?_
  refine R_cn Try.f24 (.tmp 10) 58 59 (by kernel_rfl) (((v2.Rows.length : Nat) : Int) == 0) (by kernel_rfl) (fun b4 => ?_) (fun b4 => ?_)
  · replace hm := bif_t b4 hm
    refine R_sq Try.f24 116 117 (by kernel_rfl) ?_
    refine R_rn Try.f24 116 3 [] [] 2 ⟨[(2, vp 1 0)], [(1, bx 37 [ci 0, ci 0, ci 0, ci 0])]⟩ o0 (by kernel_rfl) (by kernel_rfl) ?_
    obtain rfl := Option.some.inj hm
    refine R_ret (by kernel_rfl) ?_
    exact ret_mk (by kernel_rfl) (by kernel_rfl)
  · replace hm := bif_f b4 hm
    refine R_skip (by kernel_rfl) ?_
    refine R_sq Try.f24 30 31 (by kernel_rfl) ?_
    obtain ⟨g5, hm⟩ := bif_n hm
    refine R_rn Try.f24 30 4 [] [] 2 ⟨[(1, vp 0 0), (2, vp 1 0), (3, vp 2 0)], [(0, bx 24 [ci v2.Low, tl e_Span default v2.Rows]), (1, bx 37 [ci 0, ci 0, ci 0, ci 0]), (2, bx 35 [ci ((v2.Rows.getD (0 : Int).toNat default).A), ci ((v2.Rows.getD (0 : Int).toNat default).B)])]⟩ (o1 (inb_of g5)) (by kernel_rfl) (by kernel_rfl) ?_
    refine R_sq Try.f24 62 63 (by kernel_rfl) ?_
    refine R_sq Try.f24 124 125 (by kernel_rfl) ?_
    refine R_rn Try.f24 124 5 [] [] 3 ⟨[(1, vp 0 0), (2, vp 1 0), (3, vp 2 0), (4, vi 0)], [(0, bx 24 [ci v2.Low, tl e_Span default v2.Rows]), (1, bx 37 [ci 0, ci 0, ci 0, ci 0]), (2, bx 35 [ci ((v2.Rows.getD (0 : Int).toNat default).A), ci ((v2.Rows.getD (0 : Int).toNat default).B)])]⟩ o0 (by kernel_rfl) (by kernel_rfl) ?_
    obtain ⟨o15, h16, hm⟩ := bind_s hm
    refine R_loop0 (nd Try.f24 500) 0 (by kernel_rfl) FUEL (fun o => ref10_Bounds_L1_T v2 o) o15 (HL_enter (ref10_Bounds_L1_S v2 0 (v2.Rows.getD (0 : Int).toNat default)) (by kernel_rfl) (by kernel_rfl) (ref10_Bounds_L1_ok E v2 FUEL 0 (v2.Rows.getD (0 : Int).toNat default) o15 h16)) ?_
    refine R_sq Try.f24 126 127 (by kernel_rfl) ?_
    refine R_rn Try.f24 126 10 [] [] 3 ⟨[(2, vp 1 0)], [(1, bx 37 [ci o15.A, ci o15.B, ci (w64 (10 * v2.Low)), ci (w64 (10 * (w64 (v2.Low + ((v2.Rows.length : Nat) : Int)))))])]⟩ o0 (by kernel_rfl) (by kernel_rfl) ?_
    obtain rfl := Option.some.inj hm
    refine R_ret (by kernel_rfl) ?_
    exact ret_mk (by kernel_rfl) (by kernel_rfl)

end Saw
end Go.SL

namespace Go.SL
namespace Saw
open Go.Proofs
set_option maxHeartbeats 4000000

def section_Meet_1_x (a1 : Int) (a2 : Section) (a3 : Section) (r : Span) : V := va [ci r.A, ci r.B]

def section_Meet_1_o (a1 : Int) (a2 : Section) (a3 : Section) (r : Span) : List (Nat × (Nat × O)) := [(0, bx 24 [ci a2.Low, tl e_Span default a2.Rows]), (1, bx 24 [ci a3.Low, tl e_Span default a3.Rows])]

set_option maxRecDepth 100000 in
theorem section_Meet_1_ok (a1 : Int) (a2 : Section) (a3 : Section) (r : Span) (hm : section_Meet_1 a1 a2 a3 = some r) : CtX Try.prog globs 61 2 2 [.one (ci a1), .one (.bptr 0 0 0), .one (.bptr 1 0 0)] [(0, bx 24 [ci a2.Low, tl e_Span default a2.Rows]), (1, bx 24 [ci a3.Low, tl e_Span default a3.Rows])] (section_Meet_1_x a1 a2 a3 r) (section_Meet_1_o a1 a2 a3 r) := by
  unfold section_Meet_1 at hm
  refine CtX_of_E (fn := Try.f61) (c := nd Try.f61 1) (nt := 12) (by kernel_rfl) (by kernel_rfl) (by kernel_rfl) (by kernel_rfl) fun E => ?_
  refine R_sq Try.f61 2 3 (by kernel_rfl) ?_
  refine R_rn Try.f61 2 0 [] [] 2 ⟨[(0, vi a1), (1, vp 0 0), (2, vp 1 0), (4, vp 2 0)], [(0, bx 24 [ci a2.Low, tl e_Span default a2.Rows]), (1, bx 24 [ci a3.Low, tl e_Span default a3.Rows]), (2, bx 35 [ci 0, ci 0])]⟩ o0 (by kernel_rfl) (by kernel_rfl) ?_
  refine R_sq Try.f61 6 7 (by kernel_rfl) ?_
  obtain ⟨v4, h5, hm⟩ := bind_s hm
  obtain ⟨v6, h7, hm⟩ := bind_s hm
  obtain ⟨v8, h9, hm⟩ := bind_s hm
  refine R_dr Try.f61 6 1 [] [(2, dex (cen [] [] 3 0 (section_at_x v4) (section_at_o v4) [5, 6] [])), (5, dex (cen [] [] 3 0 (section_at_x v6) (section_at_o v6) [8, 9] [])), (6, dex (cen [] [] 3 0 (span_Meet_x v8) (span_Meet_o v8) [7, 10] []))] [] [0, 0, 3, 0, 0, 31, 63, 127] 3 ⟨[(4, vp 2 0)], [(0, bx 24 [ci a2.Low, tl e_Span default a2.Rows]), (1, bx 24 [ci a3.Low, tl e_Span default a3.Rows]), (2, bx 35 [ci v8.A, ci v8.B])]⟩ (o1 (And.intro (callS (K := (kx E 12 2)) ⟨[(5, va [ci a2.Low, tl e_Span default a2.Rows]), (6, vi a1)], []⟩ (opAt (rg Try.f61 6) 2) [] [] 3 o0 rfl (section_at_ok a2 a1 v4 h5) (.inl rfl) (by kernel_rfl)) (And.intro (callS (K := (kx E 12 2)) ⟨[(8, va [ci a3.Low, tl e_Span default a3.Rows]), (9, vi a1)], []⟩ (opAt (rg Try.f61 6) 5) [] [] 3 o0 rfl (section_at_ok a3 a1 v6 h7) (.inl rfl) (by kernel_rfl)) (callS (K := (kx E 12 2)) ⟨[(7, va [ci v4.A, ci v4.B]), (10, va [ci v6.A, ci v6.B])], []⟩ (opAt (rg Try.f61 6) 6) [] [] 3 o0 rfl (span_Meet_ok v4 v6 v8 h9) (.inl rfl) (by kernel_rfl))))) (by kernel_rfl) (by kernel_rfl) ?_
  obtain rfl := Option.some.inj hm
  refine R_ret (by kernel_rfl) ?_
  exact ret_mk (by kernel_rfl) (by kernel_rfl)

end Saw
end Go.SL

namespace Go.SL
namespace Saw
open Go.Proofs
set_option maxHeartbeats 4000000

def section_build_s3_x (a1 : Section) (a2 : Section) (r : Section) : V := va [ci r.Low, .own 2 0 2 r.Rows.length]

def section_build_s3_o (a1 : Section) (a2 : Section) (r : Section) : List (Nat × (Nat × O)) := [(0, bx 24 [ci a1.Low, tl e_Span default a1.Rows]), (1, bx 24 [ci a2.Low, tl e_Span default a2.Rows]), (2, ro 0 35 2 r.Rows.length (rf e_Span r.Rows))]

def section_build_s3_k3_S (a1 : Section) (a2 : Section) (x4 : Int) (x18 : Int) (x19 : Int) (l20 : List Span) (l20n : Nat) : St :=
  ⟨[(0, vc (.fn 61 [.bptr 0 0 0, .bptr 1 0 0])), (2, vp 2 0), (3, vp 3 0), (4, vi x18), (5, vi x4)], [(0, bx 24 [ci a1.Low, tl e_Span default a1.Rows]), (1, bx 24 [ci a2.Low, tl e_Span default a2.Rows]), (2, bx 24 [ci 0, .emp]), (3, bx 24 [ci x19, .own 4 0 2 l20n]), (4, ro 0 35 2 l20n (rf e_Span l20))]⟩

def section_build_s3_k2_S (a1 : Section) (a2 : Section) (x4 : Int) (l6 : List Span) (v8 : Span) (x14 : Int) : St :=
  ⟨[(0, vc (.fn 61 [.bptr 0 0 0, .bptr 1 0 0])), (2, vp 2 0), (3, vp 3 0), (5, vi x4), (6, vp 5 0)], [(0, bx 24 [ci a1.Low, tl e_Span default a1.Rows]), (1, bx 24 [ci a2.Low, tl e_Span default a2.Rows]), (2, bx 24 [ci 0, .emp]), (3, bx 24 [ci x14, .own 4 0 2 l6.length]), (4, ro 0 35 2 l6.length (rf e_Span l6)), (5, bx 35 [ci v8.A, ci v8.B])]⟩

def section_build_s3_L1_S (a1 : Section) (a2 : Section) (x3 : Int) (x4 : Int) (x5 : Int) (l6 : List Span) (l6n : Nat) : St :=
  ⟨[(0, vc (.fn 61 [.bptr 0 0 0, .bptr 1 0 0])), (2, vp 2 0), (3, vp 3 0), (4, vi x3), (5, vi x4)], [(0, bx 24 [ci a1.Low, tl e_Span default a1.Rows]), (1, bx 24 [ci a2.Low, tl e_Span default a2.Rows]), (2, bx 24 [ci 0, .emp]), (3, bx 24 [ci x5, .own 4 0 2 l6n]), (4, ro 0 35 2 l6n (rf e_Span l6))]⟩

def section_build_s3_L1_T (a1 : Section) (a2 : Section) (x21 : Int) (x22 : Int) (l23 : List Span) : St :=
  ⟨[(2, vp 2 0), (3, vp 3 0), (4, vi x21)], [(0, bx 24 [ci a1.Low, tl e_Span default a1.Rows]), (1, bx 24 [ci a2.Low, tl e_Span default a2.Rows]), (2, bx 24 [ci 0, .emp]), (3, bx 24 [ci x22, .own 4 0 2 l23.length]), (4, ro 0 35 2 l23.length (rf e_Span l23))]⟩

set_option maxRecDepth 100000 in
theorem section_build_s3_L1_ok (E : Env 2) (a1 : Section) (a2 : Section) : ∀ (n : Nat) (x3 : Int) (x4 : Int) (x5 : Int) (l6 : List Span) (l6n : Nat) (res : Int × Int × (List Span)), l6.length = l6n → section_build_s3_L1 a1 a2 n x3 x4 x5 l6 = some res → HL (kx E 46 2) (nd Try.f45 244) (loopQ0 0 (fun o => section_build_s3_L1_T a1 a2 o.1 o.2.1 o.2.2) res) n (section_build_s3_L1_S a1 a2 x3 x4 x5 l6 l6n) := by
  intro n
  induction n with
  | zero =>
    intro x3 x4 x5 l6 l6n res hl0 hm
    cases hm
  | succ n ih =>
    intro x3 x4 x5 l6 l6n res hl0 hm
    subst hl0
    refine HL_succ ?_
    refine R_sq Try.f45 488 489 (by kernel_rfl) ?_
    refine R_sq Try.f45 976 977 (by kernel_rfl) ?_
    refine R_rn Try.f45 976 4 [] [] 5 ⟨[(0, vc (.fn 61 [.bptr 0 0 0, .bptr 1 0 0])), (2, vp 2 0), (3, vp 3 0), (4, vi x3), (5, vi x4), (8, vb (decide (x4 < 60)))], [(0, bx 24 [ci a1.Low, tl e_Span default a1.Rows]), (1, bx 24 [ci a2.Low, tl e_Span default a2.Rows]), (2, bx 24 [ci 0, .emp]), (3, bx 24 [ci x5, .own 4 0 2 l6.length]), (4, ro 0 35 2 l6.length (rf e_Span l6))]⟩ o0 (by kernel_rfl) (by kernel_rfl) ?_
    refine R_cn Try.f45 (.tmp 8) 1954 1955 (by kernel_rfl) (decide (x4 < 60)) (by kernel_rfl) (fun b7 => ?_) (fun b7 => ?_)
    · replace hm := bif_t b7 hm
      refine R_skip (by kernel_rfl) ?_
      refine R_join (ι := Int × Int × (List Span) × Nat) (nd Try.f45 978) (nd Try.f45 979) (by kernel_rfl) (fun p => section_build_s3_k3_S a1 a2 x4 p.1 p.2.1 p.2.2.1 p.2.2.2) (fun p => p.2.2.1.length = p.2.2.2 ∧ section_build_s3_k3 x4 (section_build_s3_L1 a1 a2 n) p.1 p.2.1 p.2.2.1 = some res) ?_ ?_
      · rintro ⟨x18, x19, l20, l20n⟩ ⟨el20, hm⟩
        replace el20 : l20.length = l20n := el20
        subst el20
        show H _ (section_build_s3_k3_S a1 a2 x4 x18 x19 l20 l20.length) (nd Try.f45 979) _
        refine R_rn Try.f45 979 5 [] [] 7 ⟨[(0, vc (.fn 61 [.bptr 0 0 0, .bptr 1 0 0])), (2, vp 2 0), (3, vp 3 0), (4, vi x18), (5, vi (w64 (x4 + 1)))], [(0, bx 24 [ci a1.Low, tl e_Span default a1.Rows]), (1, bx 24 [ci a2.Low, tl e_Span default a2.Rows]), (2, bx 24 [ci 0, .emp]), (3, bx 24 [ci x19, .own 4 0 2 l20.length]), (4, ro 0 35 2 l20.length (rf e_Span l20))]⟩ o0 (by kernel_rfl) (by kernel_rfl) ?_
        exact HL_enter (section_build_s3_L1_S a1 a2 x18 (w64 (x4 + 1)) x19 l20 l20.length) (by kernel_rfl) (by kernel_rfl) (ih x18 (w64 (x4 + 1)) x19 l20 l20.length _ rfl hm)
      · refine R_bk Try.f45 1 1956 (by kernel_rfl) ?_
        refine R_sq Try.f45 3912 3913 (by kernel_rfl) ?_
        obtain ⟨v8, h9, hm⟩ := bind_s hm
        refine R_rn Try.f45 3912 6 [(2, dex (cen [(0, 0), (1, 0)] [0, 0] 3 2 (section_Meet_1_x x4 a1 a2 v8) (section_Meet_1_o x4 a1 a2 v8) [11, 12] [0, 1]))] [] 5 ⟨[(0, vc (.fn 61 [.bptr 0 0 0, .bptr 1 0 0])), (2, vp 2 0), (3, vp 3 0), (4, vi x3), (5, vi x4), (6, vp 5 0)], [(0, bx 24 [ci a1.Low, tl e_Span default a1.Rows]), (1, bx 24 [ci a2.Low, tl e_Span default a2.Rows]), (2, bx 24 [ci 0, .emp]), (3, bx 24 [ci x5, .own 4 0 2 l6.length]), (4, ro 0 35 2 l6.length (rf e_Span l6)), (5, bx 35 [ci v8.A, ci v8.B])]⟩ (o1 (callS (K := (kx E 46 2)) ⟨[(11, vc (.fn 61 [.bptr 0 0 0, .bptr 1 0 0])), (12, vi x4)], [(0, bx 24 [ci a1.Low, tl e_Span default a1.Rows]), (1, bx 24 [ci a2.Low, tl e_Span default a2.Rows])]⟩ (opAt (rg Try.f45 3912) 2) [(0, 0), (1, 0)] [0, 0] 3 o0 rfl (section_Meet_1_ok x4 a1 a2 v8 h9) (.inl rfl) (by kernel_rfl))) (by kernel_rfl) (by kernel_rfl) ?_
        refine R_bk Try.f45 2 7826 (by kernel_rfl) ?_
        refine R_sq Try.f45 15652 15653 (by kernel_rfl) ?_
        obtain ⟨v10, h11, hm⟩ := bind_s hm
        refine R_rn Try.f45 15652 7 [(1, dex (cen [] [] 6 0 (section_isEmpty_x v10) (section_isEmpty_o v10) [15] []))] [] 6 ⟨[(0, vc (.fn 61 [.bptr 0 0 0, .bptr 1 0 0])), (2, vp 2 0), (3, vp 3 0), (4, vi x3), (5, vi x4), (6, vp 5 0), (14, vb (!v10))], [(0, bx 24 [ci a1.Low, tl e_Span default a1.Rows]), (1, bx 24 [ci a2.Low, tl e_Span default a2.Rows]), (2, bx 24 [ci 0, .emp]), (3, bx 24 [ci x5, .own 4 0 2 l6.length]), (4, ro 0 35 2 l6.length (rf e_Span l6)), (5, bx 35 [ci v8.A, ci v8.B])]⟩ (o1 (callS (K := (kx E 46 2)) ⟨[(15, va [ci v8.A, ci v8.B])], []⟩ (opAt (rg Try.f45 15652) 1) [] [] 6 o0 rfl (section_isEmpty_ok v8 v10 h11) (.inl rfl) (by kernel_rfl))) (by kernel_rfl) (by kernel_rfl) ?_
        refine R_cn Try.f45 (.tmp 14) 31306 31307 (by kernel_rfl) (!v10) (by kernel_rfl) (fun b12 => ?_) (fun b12 => ?_)
        · replace hm := bif_t b12 hm
          refine R_join (ι := Int) (nd Try.f45 62612) (nd Try.f45 62613) (by kernel_rfl) (fun p => section_build_s3_k2_S a1 a2 x4 l6 v8 p) (fun p => section_build_s3_k2 x4 l6 (section_build_s3_L1 a1 a2 n) v8 p = some res) ?_ ?_
          · rintro x14 hm
            show H _ (section_build_s3_k2_S a1 a2 x4 l6 v8 x14) (nd Try.f45 62613) _
            refine R_sq Try.f45 125226 125227 (by kernel_rfl) ?_
            obtain ⟨g15, hm⟩ := bif_n hm
            refine R_rn Try.f45 125226 10 [(3, drw 6 0 (rf e_Span ([v8] : List Span))), (4, drw 4 1 (rf e_Span (l6 ++ ([v8] : List Span))))] [] 6 ⟨[(0, vc (.fn 61 [.bptr 0 0 0, .bptr 1 0 0])), (2, vp 2 0), (3, vp 3 0), (5, vi x4)], [(0, bx 24 [ci a1.Low, tl e_Span default a1.Rows]), (1, bx 24 [ci a2.Low, tl e_Span default a2.Rows]), (2, bx 24 [ci 0, .emp]), (3, bx 24 [ci x14, .own 4 1 2 (l6.length + 1)]), (4, ro 1 35 2 (l6.length + 1) (rf e_Span (l6 ++ ([v8] : List Span))))]⟩ (o1 (And.intro (litP e_Span default 2 (fun _ => rfl) ([v8] : List Span) 1 rfl) (apP e_Span default l6 ([v8] : List Span) l6.length 1 2 16 (1 ≤ 1) (Nat.le_refl _) rfl rfl (fun _ => rfl) (room_of g15)))) (by kernel_rfl) (by kernel_rfl) ?_
            refine R_rn Try.f45 125227 11 [] [] 7 ⟨[(0, vc (.fn 61 [.bptr 0 0 0, .bptr 1 0 0])), (2, vp 2 0), (3, vp 3 0), (4, vi (((l6.length + 1) : Nat) : Int)), (5, vi x4)], [(0, bx 24 [ci a1.Low, tl e_Span default a1.Rows]), (1, bx 24 [ci a2.Low, tl e_Span default a2.Rows]), (2, bx 24 [ci 0, .emp]), (3, bx 24 [ci x14, .own 4 1 2 (l6.length + 1)]), (4, ro 1 35 2 (l6.length + 1) (rf e_Span (l6 ++ ([v8] : List Span))))]⟩ o0 (by kernel_rfl) (by kernel_rfl) ?_
            exact J_mk ((((l6.length + 1) : Nat) : Int), x14, (l6 ++ ([v8] : List Span)), (l6.length + 1)) ⟨(len_app rfl rfl), hm⟩ (by kernel_rfl) (by kernel_rfl)
          · refine R_sq Try.f45 125224 125225 (by kernel_rfl) ?_
            refine R_rn Try.f45 125224 8 [] [] 6 ⟨[(0, vc (.fn 61 [.bptr 0 0 0, .bptr 1 0 0])), (2, vp 2 0), (3, vp 3 0), (5, vi x4), (6, vp 5 0), (19, vb (x3 == 0))], [(0, bx 24 [ci a1.Low, tl e_Span default a1.Rows]), (1, bx 24 [ci a2.Low, tl e_Span default a2.Rows]), (2, bx 24 [ci 0, .emp]), (3, bx 24 [ci x5, .own 4 0 2 l6.length]), (4, ro 0 35 2 l6.length (rf e_Span l6)), (5, bx 35 [ci v8.A, ci v8.B])]⟩ o0 (by kernel_rfl) (by kernel_rfl) ?_
            refine R_cn Try.f45 (.tmp 19) 250450 250451 (by kernel_rfl) (x3 == 0) (by kernel_rfl) (fun b13 => ?_) (fun b13 => ?_)
            · replace hm := bif_t b13 hm
              refine R_rn Try.f45 250450 9 [] [] 6 ⟨[(0, vc (.fn 61 [.bptr 0 0 0, .bptr 1 0 0])), (2, vp 2 0), (3, vp 3 0), (5, vi x4), (6, vp 5 0)], [(0, bx 24 [ci a1.Low, tl e_Span default a1.Rows]), (1, bx 24 [ci a2.Low, tl e_Span default a2.Rows]), (2, bx 24 [ci 0, .emp]), (3, bx 24 [ci x4, .own 4 0 2 l6.length]), (4, ro 0 35 2 l6.length (rf e_Span l6)), (5, bx 35 [ci v8.A, ci v8.B])]⟩ o0 (by kernel_rfl) (by kernel_rfl) ?_
              exact J_mk (x4) hm (by kernel_rfl) (by kernel_rfl)
            · replace hm := bif_f b13 hm
              refine R_skip (by kernel_rfl) ?_
              exact J_mk (x5) hm (by kernel_rfl) (by kernel_rfl)
        · replace hm := bif_f b12 hm
          refine R_sq Try.f45 62614 62615 (by kernel_rfl) ?_
          refine R_rn Try.f45 62614 12 [] [] 6 ⟨[(0, vc (.fn 61 [.bptr 0 0 0, .bptr 1 0 0])), (2, vp 2 0), (3, vp 3 0), (4, vi x3), (5, vi x4), (31, vb (decide (x3 > 0)))], [(0, bx 24 [ci a1.Low, tl e_Span default a1.Rows]), (1, bx 24 [ci a2.Low, tl e_Span default a2.Rows]), (2, bx 24 [ci 0, .emp]), (3, bx 24 [ci x5, .own 4 0 2 l6.length]), (4, ro 0 35 2 l6.length (rf e_Span l6))]⟩ o0 (by kernel_rfl) (by kernel_rfl) ?_
          refine R_cn Try.f45 (.tmp 31) 125230 125231 (by kernel_rfl) (decide (x3 > 0)) (by kernel_rfl) (fun b16 => ?_) (fun b16 => ?_)
          · replace hm := bif_t b16 hm
            obtain ⟨g17, hm⟩ := bif_n hm
            refine R_rn Try.f45 125230 13 [(3, drw 6 0 (rf e_Span ([(Span.mk 0 0)] : List Span))), (4, drw 4 1 (rf e_Span (l6 ++ ([(Span.mk 0 0)] : List Span))))] [] 6 ⟨[(0, vc (.fn 61 [.bptr 0 0 0, .bptr 1 0 0])), (2, vp 2 0), (3, vp 3 0), (4, vi x3), (5, vi x4)], [(0, bx 24 [ci a1.Low, tl e_Span default a1.Rows]), (1, bx 24 [ci a2.Low, tl e_Span default a2.Rows]), (2, bx 24 [ci 0, .emp]), (3, bx 24 [ci x5, .own 4 1 2 (l6.length + 1)]), (4, ro 1 35 2 (l6.length + 1) (rf e_Span (l6 ++ ([(Span.mk 0 0)] : List Span))))]⟩ (o1 (And.intro (litP e_Span default 2 (fun _ => rfl) ([(Span.mk 0 0)] : List Span) 1 rfl) (apP e_Span default l6 ([(Span.mk 0 0)] : List Span) l6.length 1 2 16 (1 ≤ 1) (Nat.le_refl _) rfl rfl (fun _ => rfl) (room_of g17)))) (by kernel_rfl) (by kernel_rfl) ?_
            exact J_mk (x3, x5, (l6 ++ ([(Span.mk 0 0)] : List Span)), (l6.length + 1)) ⟨(len_app rfl rfl), hm⟩ (by kernel_rfl) (by kernel_rfl)
          · replace hm := bif_f b16 hm
            refine R_skip (by kernel_rfl) ?_
            exact J_mk (x3, x5, l6, l6.length) ⟨rfl, hm⟩ (by kernel_rfl) (by kernel_rfl)
    · replace hm := bif_f b7 hm
      refine R_exit 0 (by kernel_rfl) ?_
      obtain rfl := Option.some.inj hm
      exact L0_mk (by kernel_rfl) (by kernel_rfl)

set_option maxRecDepth 100000 in
theorem section_build_s3_ok (a1 : Section) (a2 : Section) (r : Section) (hm : section_build_s3 a1 a2 = some r) : CtX Try.prog globs 45 2 2 [.one (.fn 61 [.bptr 0 0 0, .bptr 1 0 0])] [(0, bx 24 [ci a1.Low, tl e_Span default a1.Rows]), (1, bx 24 [ci a2.Low, tl e_Span default a2.Rows])] (section_build_s3_x a1 a2 r) (section_build_s3_o a1 a2 r) := by
  unfold section_build_s3 at hm
  refine CtX_of_E (fn := Try.f45) (c := nd Try.f45 1) (nt := 46) (by kernel_rfl) (by kernel_rfl) (by kernel_rfl) (by kernel_rfl) fun E => ?_
  refine R_sq Try.f45 2 3 (by kernel_rfl) ?_
  refine R_rn Try.f45 2 0 [] [] 2 ⟨[(0, vc (.fn 61 [.bptr 0 0 0, .bptr 1 0 0])), (2, vp 2 0)], [(0, bx 24 [ci a1.Low, tl e_Span default a1.Rows]), (1, bx 24 [ci a2.Low, tl e_Span default a2.Rows]), (2, bx 24 [ci 0, .emp])]⟩ o0 (by kernel_rfl) (by kernel_rfl) ?_
  refine R_sq Try.f45 6 7 (by kernel_rfl) ?_
  refine R_rn Try.f45 6 1 [] [] 3 ⟨[(0, vc (.fn 61 [.bptr 0 0 0, .bptr 1 0 0])), (2, vp 2 0), (3, vp 3 0)], [(0, bx 24 [ci a1.Low, tl e_Span default a1.Rows]), (1, bx 24 [ci a2.Low, tl e_Span default a2.Rows]), (2, bx 24 [ci 0, .emp]), (3, bx 24 [ci 0, .emp])]⟩ o0 (by kernel_rfl) (by kernel_rfl) ?_
  refine R_sq Try.f45 14 15 (by kernel_rfl) ?_
  refine R_rn Try.f45 14 2 [] [] 4 ⟨[(0, vc (.fn 61 [.bptr 0 0 0, .bptr 1 0 0])), (2, vp 2 0), (3, vp 3 0), (4, vi 0)], [(0, bx 24 [ci a1.Low, tl e_Span default a1.Rows]), (1, bx 24 [ci a2.Low, tl e_Span default a2.Rows]), (2, bx 24 [ci 0, .emp]), (3, bx 24 [ci 0, .emp])]⟩ o0 (by kernel_rfl) (by kernel_rfl) ?_
  refine R_sq Try.f45 30 31 (by kernel_rfl) ?_
  refine R_sq Try.f45 60 61 (by kernel_rfl) ?_
  refine R_rn Try.f45 60 3 [] [] 4 ⟨[(0, vc (.fn 61 [.bptr 0 0 0, .bptr 1 0 0])), (2, vp 2 0), (3, vp 3 0), (4, vi 0), (5, vi (-60))], [(0, bx 24 [ci a1.Low, tl e_Span default a1.Rows]), (1, bx 24 [ci a2.Low, tl e_Span default a2.Rows]), (2, bx 24 [ci 0, .emp]), (3, bx 24 [ci 0, .emp])]⟩ o0 (by kernel_rfl) (by kernel_rfl) ?_
  refine H_fin [.ownB 3 1 4 35 2 (rf e_Span ([] : List Span))] ⟨[(0, vc (.fn 61 [.bptr 0 0 0, .bptr 1 0 0])), (2, vp 2 0), (3, vp 3 0), (4, vi 0), (5, vi (-60))], [(0, bx 24 [ci a1.Low, tl e_Span default a1.Rows]), (1, bx 24 [ci a2.Low, tl e_Span default a2.Rows]), (2, bx 24 [ci 0, .emp]), (3, bx 24 [ci 0, .own 4 0 2 0]), (4, ro 0 35 2 0 (rf e_Span ([] : List Span)))]⟩ o0 (by kernel_rfl) ?_
  obtain ⟨o24, h25, hm⟩ := bind_s hm
  refine R_loop0 (nd Try.f45 244) 0 (by kernel_rfl) FUEL (fun o => section_build_s3_L1_T a1 a2 o.1 o.2.1 o.2.2) o24 (HL_enter (section_build_s3_L1_S a1 a2 0 (-60) 0 ([] : List Span) 0) (by kernel_rfl) (by kernel_rfl) (section_build_s3_L1_ok E a1 a2 FUEL 0 (-60) 0 ([] : List Span) 0 o24 rfl h25)) ?_
  refine R_sq Try.f45 62 63 (by kernel_rfl) ?_
  obtain ⟨g26, hm⟩ := bif_n hm
  refine R_rn Try.f45 62 14 [] [.row 4 o24.1.toNat (rf e_Span (o24.2.2.take o24.1.toNat))] 5 ⟨[(2, vp 2 0), (3, vp 3 0)], [(0, bx 24 [ci a1.Low, tl e_Span default a1.Rows]), (1, bx 24 [ci a2.Low, tl e_Span default a2.Rows]), (2, bx 24 [ci 0, .emp]), (3, bx 24 [ci o24.2.1, .own 4 0 2 o24.1.toNat]), (4, ro 0 35 2 o24.1.toNat (rf e_Span (o24.2.2.take o24.1.toNat)))]⟩ (o1 (And.intro (And.intro (slOk_of g26).2.1 (slOk_of g26).2.2) (tkP e_Span default o24.2.2 o24.2.2.length o24.1.toNat (show o24.1.toNat ≤ o24.2.2.length by have := (slOk_of g26); omega)))) (by kernel_rfl) (by kernel_rfl) ?_
  refine R_sq Try.f45 126 127 (by kernel_rfl) ?_
  refine R_rn Try.f45 126 15 [] [] 5 ⟨[(2, vp 2 0)], [(0, bx 24 [ci a1.Low, tl e_Span default a1.Rows]), (1, bx 24 [ci a2.Low, tl e_Span default a2.Rows]), (2, bx 24 [ci o24.2.1, .own 4 0 2 o24.1.toNat]), (4, ro 0 35 2 o24.1.toNat (rf e_Span (o24.2.2.take o24.1.toNat)))]⟩ o0 (by kernel_rfl) (by kernel_rfl) ?_
  refine H_fin [.len 4 ((o24.2.2.take o24.1.toNat).length)] ⟨[(2, vp 2 0)], [(0, bx 24 [ci a1.Low, tl e_Span default a1.Rows]), (1, bx 24 [ci a2.Low, tl e_Span default a2.Rows]), (2, bx 24 [ci o24.2.1, .own 4 0 2 ((o24.2.2.take o24.1.toNat).length)]), (4, ro 0 35 2 ((o24.2.2.take o24.1.toNat).length) (rf e_Span (o24.2.2.take o24.1.toNat)))]⟩ (o1 (And.intro (Eq.symm (show (o24.2.2.take o24.1.toNat).length = o24.1.toNat from (len_take rfl (show o24.1.toNat ≤ o24.2.2.length by have := (slOk_of g26); omega)))) (Eq.symm (show (o24.2.2.take o24.1.toNat).length = o24.1.toNat from (len_take rfl (show o24.1.toNat ≤ o24.2.2.length by have := (slOk_of g26); omega)))))) (by kernel_rfl) ?_
  obtain rfl := Option.some.inj hm
  refine H_swap 4 2 (by kernel_rfl) ?_
  refine R_ret (by kernel_rfl) ?_
  exact ret_mk (by kernel_rfl) (by kernel_rfl)

end Saw
end Go.SL

namespace Go.SL
namespace Saw
open Go.Proofs
set_option maxHeartbeats 4000000

def section_Meet_x (r : Section) : V := va [ci r.Low, .own 0 0 2 r.Rows.length]

def section_Meet_o (r : Section) : List (Nat × (Nat × O)) := [(0, ro 0 35 2 r.Rows.length (rf e_Span r.Rows))]

theorem section_Meet_f (r : Section) : Frozen (section_Meet_o r) := by
  intro i k o h
  unfold section_Meet_o at h
  rw [look_cons] at h
  split at h
  · cases h; exact fun _ _ => rfl
  · cases h

set_option maxRecDepth 100000 in
theorem section_Meet_ok (a1 : Section) (a2 : Section) (r : Section) (hm : section_Meet a1 a2 = some r) : CtX Try.prog globs 31 0 0 [.agg [ci a1.Low, tl e_Span default a1.Rows], .agg [ci a2.Low, tl e_Span default a2.Rows]] [] (section_Meet_x r) (section_Meet_o r) := by
  unfold section_Meet at hm
  refine CtX_of_E (fn := Try.f31) (c := nd Try.f31 1) (nt := 11) (by kernel_rfl) (by kernel_rfl) (by kernel_rfl) (by kernel_rfl) fun E => ?_
  refine R_sq Try.f31 2 3 (by kernel_rfl) ?_
  refine R_rn Try.f31 2 0 [] [] 0 ⟨[(2, vp 0 0), (3, vp 1 0), (4, vp 2 0)], [(0, bx 24 [ci a1.Low, tl e_Span default a1.Rows]), (1, bx 24 [ci a2.Low, tl e_Span default a2.Rows]), (2, bx 24 [ci 0, .emp])]⟩ o0 (by kernel_rfl) (by kernel_rfl) ?_
  refine R_sq Try.f31 6 7 (by kernel_rfl) ?_
  obtain ⟨v3, h4, hm⟩ := bind_s hm
  obtain ⟨v5, h6, hm⟩ := bind_s hm
  refine R_dr Try.f31 6 1 [] [(1, dex (cen [] [] 3 0 (section_valid_x v3) (section_valid_o v3) [5] [])), (3, dex (cen [] [] 3 0 (section_valid_x v5) (section_valid_o v5) [7] []))] [] [0, 1, 0, 7, 15, 31] 3 ⟨[(2, vp 0 0), (3, vp 1 0), (4, vp 2 0)], [(0, bx 24 [ci v3.Low, tl e_Span default v3.Rows]), (1, bx 24 [ci v5.Low, tl e_Span default v5.Rows]), (2, bx 24 [ci 0, .emp])]⟩ (o1 (And.intro (callS (K := (kx E 11 0)) ⟨[(5, va [ci a1.Low, tl e_Span default a1.Rows])], []⟩ (opAt (rg Try.f31 6) 1) [] [] 3 o0 rfl (section_valid_ok a1 v3 h4) (.inl rfl) (by kernel_rfl)) (callS (K := (kx E 11 0)) ⟨[(7, va [ci a2.Low, tl e_Span default a2.Rows])], []⟩ (opAt (rg Try.f31 6) 3) [] [] 3 o0 rfl (section_valid_ok a2 v5 h6) (.inl rfl) (by kernel_rfl)))) (by kernel_rfl) (by kernel_rfl) ?_
  refine R_sq Try.f31 14 15 (by kernel_rfl) ?_
  obtain ⟨v7, h8, hm⟩ := bind_s hm
  refine R_rn Try.f31 14 2 [(1, dex (cen [(0, 0), (1, 0)] [0, 0] 1 2 (section_build_s3_x v3 v5 v7) (section_build_s3_o v3 v5 v7) [9] [0, 1]))] [] 3 ⟨[(4, vp 2 0)], [(2, bx 24 [ci v7.Low, .own 3 0 2 v7.Rows.length]), (3, ro 0 35 2 v7.Rows.length (rf e_Span v7.Rows))]⟩ (o1 (callS (K := (kx E 11 0)) ⟨[(9, vc (.fn 61 [.bptr 0 0 0, .bptr 1 0 0]))], [(0, bx 24 [ci v3.Low, tl e_Span default v3.Rows]), (1, bx 24 [ci v5.Low, tl e_Span default v5.Rows])]⟩ (opAt (rg Try.f31 14) 1) [(0, 0), (1, 0)] [0, 0] 1 o0 rfl (section_build_s3_ok v3 v5 v7 h8) (.inl rfl) (by kernel_rfl))) (by kernel_rfl) (by kernel_rfl) ?_
  obtain rfl := Option.some.inj hm
  refine H_swap 3 0 (by kernel_rfl) ?_
  refine R_ret (by kernel_rfl) ?_
  exact ret_mk (by kernel_rfl) (by kernel_rfl)

end Saw
end Go.SL

namespace Go.SL
namespace Saw
open Go.Proofs
set_option maxHeartbeats 4000000

def poly_onEdge_x (r : Bool) : V := vb r

def poly_onEdge_o (r : Bool) : List (Nat × (Nat × O)) := []

theorem poly_onEdge_f (r : Bool) : Frozen (poly_onEdge_o r) := by
  intro i k o h
  unfold poly_onEdge_o at h
  cases h

def poly_onEdge_k1_S (x10 : Bool) : St :=
  ⟨[(6, vb x10)], []⟩

set_option maxRecDepth 100000 in
theorem poly_onEdge_ok (a1 : Point) (a2 : Point) (a3 : Point) (r : Bool) (hm : poly_onEdge a1 a2 a3 = some r) : CtX Try.prog globs 76 0 0 [.agg [ci a1.X, ci a1.Y], .agg [ci a2.X, ci a2.Y], .agg [ci a3.X, ci a3.Y]] [] (poly_onEdge_x r) (poly_onEdge_o r) := by
  unfold poly_onEdge at hm
  refine CtX_of_E (fn := Try.f76) (c := nd Try.f76 1) (nt := 52) (by kernel_rfl) (by kernel_rfl) (by kernel_rfl) (by kernel_rfl) fun E => ?_
  refine R_sq Try.f76 2 3 (by kernel_rfl) ?_
  refine R_rn Try.f76 2 0 [] [] 0 ⟨[(3, vp 0 0), (4, vp 1 0), (5, vp 2 0)], [(0, bx 46 [ci a1.X, ci a1.Y]), (1, bx 46 [ci a2.X, ci a2.Y]), (2, bx 46 [ci a3.X, ci a3.Y])]⟩ o0 (by kernel_rfl) (by kernel_rfl) ?_
  refine R_join (ι := Bool) (nd Try.f76 6) (nd Try.f76 7) (by kernel_rfl) (fun p => poly_onEdge_k1_S p) (fun p => poly_onEdge_k1 p = some r) ?_ ?_
  · rintro x10 hm
    show H _ (poly_onEdge_k1_S x10) (nd Try.f76 7) _
    obtain rfl := Option.some.inj hm
    refine R_ret (by kernel_rfl) ?_
    exact ret_mk (by kernel_rfl) (by kernel_rfl)
  · obtain ⟨v4, h5, hm⟩ := bind_s hm
    rcases Bool.eq_false_or_eq_true (v4 == 0) with b6 | b6
    · replace hm := bif_t b6 hm
      rcases Bool.eq_false_or_eq_true (decide ((imin a1.X a2.X) ≤ a3.X)) with b7 | b7
      · replace hm := bif_t b7 hm
        rcases Bool.eq_false_or_eq_true (decide (a3.X ≤ (imax a1.X a2.X))) with b8 | b8
        · replace hm := bif_t b8 hm
          rcases Bool.eq_false_or_eq_true (decide ((imin a1.Y a2.Y) ≤ a3.Y)) with b9 | b9
          · replace hm := bif_t b9 hm
            refine R_rn Try.f76 6 1 [(3, dex (cen [] [] 3 0 (poly_cross_x v4) (poly_cross_o v4) [7, 8, 9] [])), (5, dfx true), (15, dfx true), (25, dfx true), (35, dfx true)] [] 3 ⟨[(6, vb (decide (a3.Y ≤ (imax a1.Y a2.Y))))], []⟩ (o1 (And.intro (callS (K := (kx E 52 0)) ⟨[(7, va [ci a1.X, ci a1.Y]), (8, va [ci a2.X, ci a2.Y]), (9, va [ci a3.X, ci a3.Y])], []⟩ (opAt (rg Try.f76 6) 3) [] [] 3 o0 rfl (poly_cross_ok a1 a2 a3 v4 h5) (.inl rfl) (by kernel_rfl)) (And.intro b6 (And.intro b7 (And.intro b8 b9))))) (by kernel_rfl) (by kernel_rfl) ?_
            exact J_mk (decide (a3.Y ≤ (imax a1.Y a2.Y))) hm (by kernel_rfl) (by kernel_rfl)
          · replace hm := bif_f b9 hm
            refine R_rn Try.f76 6 1 [(3, dex (cen [] [] 3 0 (poly_cross_x v4) (poly_cross_o v4) [7, 8, 9] [])), (5, dfx true), (15, dfx true), (25, dfx true), (35, dfx false)] [] 3 ⟨[(6, vb false)], []⟩ (o1 (And.intro (callS (K := (kx E 52 0)) ⟨[(7, va [ci a1.X, ci a1.Y]), (8, va [ci a2.X, ci a2.Y]), (9, va [ci a3.X, ci a3.Y])], []⟩ (opAt (rg Try.f76 6) 3) [] [] 3 o0 rfl (poly_cross_ok a1 a2 a3 v4 h5) (.inl rfl) (by kernel_rfl)) (And.intro b6 (And.intro b7 (And.intro b8 b9))))) (by kernel_rfl) (by kernel_rfl) ?_
            exact J_mk (false) hm (by kernel_rfl) (by kernel_rfl)
        · replace hm := bif_f b8 hm
          refine R_rn Try.f76 6 1 [(3, dex (cen [] [] 3 0 (poly_cross_x v4) (poly_cross_o v4) [7, 8, 9] [])), (5, dfx true), (15, dfx true), (25, dfx false)] [] 3 ⟨[(6, vb false)], []⟩ (o1 (And.intro (callS (K := (kx E 52 0)) ⟨[(7, va [ci a1.X, ci a1.Y]), (8, va [ci a2.X, ci a2.Y]), (9, va [ci a3.X, ci a3.Y])], []⟩ (opAt (rg Try.f76 6) 3) [] [] 3 o0 rfl (poly_cross_ok a1 a2 a3 v4 h5) (.inl rfl) (by kernel_rfl)) (And.intro b6 (And.intro b7 b8)))) (by kernel_rfl) (by kernel_rfl) ?_
          exact J_mk (false) hm (by kernel_rfl) (by kernel_rfl)
      · replace hm := bif_f b7 hm
        refine R_rn Try.f76 6 1 [(3, dex (cen [] [] 3 0 (poly_cross_x v4) (poly_cross_o v4) [7, 8, 9] [])), (5, dfx true), (15, dfx false)] [] 3 ⟨[(6, vb false)], []⟩ (o1 (And.intro (callS (K := (kx E 52 0)) ⟨[(7, va [ci a1.X, ci a1.Y]), (8, va [ci a2.X, ci a2.Y]), (9, va [ci a3.X, ci a3.Y])], []⟩ (opAt (rg Try.f76 6) 3) [] [] 3 o0 rfl (poly_cross_ok a1 a2 a3 v4 h5) (.inl rfl) (by kernel_rfl)) (And.intro b6 b7))) (by kernel_rfl) (by kernel_rfl) ?_
        exact J_mk (false) hm (by kernel_rfl) (by kernel_rfl)
    · replace hm := bif_f b6 hm
      refine R_rn Try.f76 6 1 [(3, dex (cen [] [] 3 0 (poly_cross_x v4) (poly_cross_o v4) [7, 8, 9] [])), (5, dfx false)] [] 3 ⟨[(6, vb false)], []⟩ (o1 (And.intro (callS (K := (kx E 52 0)) ⟨[(7, va [ci a1.X, ci a1.Y]), (8, va [ci a2.X, ci a2.Y]), (9, va [ci a3.X, ci a3.Y])], []⟩ (opAt (rg Try.f76 6) 3) [] [] 3 o0 rfl (poly_cross_ok a1 a2 a3 v4 h5) (.inl rfl) (by kernel_rfl)) b6)) (by kernel_rfl) (by kernel_rfl) ?_
      exact J_mk (false) hm (by kernel_rfl) (by kernel_rfl)

end Saw
end Go.SL

namespace Go.SL
namespace Saw
open Go.Proofs
set_option maxHeartbeats 4000000

def poly_Has_x (r : Bool) : V := vb r

def poly_Has_o (r : Bool) : List (Nat × (Nat × O)) := []

theorem poly_Has_f (r : Bool) : Frozen (poly_Has_o r) := by
  intro i k o h
  unfold poly_Has_o at h
  cases h

def poly_Has_k5_S (a1 : List Point) (a2 : Point) (x14 : Int) (x31 : Bool) : St :=
  ⟨[(0, vc (tl e_Point default a1)), (3, vp 0 0), (5, vb x31), (24, vc (tl e_Point default a1)), (25, vi ((a1.length : Nat) : Int)), (26, vi x14)], [(0, bx 46 [ci a2.X, ci a2.Y])]⟩

def poly_Has_k4_S (a1 : List Point) (a2 : Point) (x13 : Bool) (x14 : Int) (x29 : Bool) : St :=
  ⟨[(0, vc (tl e_Point default a1)), (3, vp 0 0), (5, vb x13), (24, vc (tl e_Point default a1)), (25, vi ((a1.length : Nat) : Int)), (26, vi x14), (68, vb x29)], [(0, bx 46 [ci a2.X, ci a2.Y])]⟩

def poly_Has_k3_S (a1 : List Point) (a2 : Point) (x13 : Bool) (x14 : Int) (x23 : Point) (x24 : Point) : St :=
  ⟨[(0, vc (tl e_Point default a1)), (3, vp 0 0), (5, vb x13), (7, vp 1 0), (8, vp 2 0), (24, vc (tl e_Point default a1)), (25, vi ((a1.length : Nat) : Int)), (26, vi x14)], [(0, bx 46 [ci a2.X, ci a2.Y]), (1, bx 46 [ci x24.X, ci x24.Y]), (2, bx 46 [ci x23.X, ci x23.Y])]⟩

def poly_Has_L2_S (a1 : List Point) (a2 : Point) (x13 : Bool) (x14 : Int) : St :=
  ⟨[(0, vc (tl e_Point default a1)), (3, vp 0 0), (5, vb x13), (24, vc (tl e_Point default a1)), (25, vi ((a1.length : Nat) : Int)), (26, vi x14)], [(0, bx 46 [ci a2.X, ci a2.Y])]⟩

def poly_Has_L2_T (x32 : Bool) : St :=
  ⟨[(5, vb x32)], []⟩

def poly_Has_k1_S (a1 : List Point) (a2 : Point) (x11 : Bool) : St :=
  ⟨[(0, vc (tl e_Point default a1)), (3, vp 0 0), (23, vb x11)], [(0, bx 46 [ci a2.X, ci a2.Y])]⟩

set_option maxRecDepth 100000 in
theorem poly_Has_L2_ok (E : Env 0) (a1 : List Point) (a2 : Point) : ∀ (n : Nat) (x13 : Bool) (x14 : Int) (res : Bool ⊕ Bool), poly_Has_L2 a1 a2 n x13 x14 = some res → HL (kx E 73 0) (nd Try.f38 244) (loopQ 0 (fun o => poly_Has_L2_T o) (fun v st => RetQ Try.prog Try.f38 (poly_Has_x v) (poly_Has_o v) .ret st) res) n (poly_Has_L2_S a1 a2 x13 x14) := by
  intro n
  induction n with
  | zero =>
    intro x13 x14 res hm
    cases hm
  | succ n ih =>
    intro x13 x14 res hm
    refine HL_succ ?_
    refine R_sq Try.f38 488 489 (by kernel_rfl) ?_
    refine R_rn Try.f38 488 5 [] [] 1 ⟨[(0, vc (tl e_Point default a1)), (3, vp 0 0), (5, vb x13), (24, vc (tl e_Point default a1)), (25, vi ((a1.length : Nat) : Int)), (26, vi x14), (27, vb (decide (x14 < ((a1.length : Nat) : Int))))], [(0, bx 46 [ci a2.X, ci a2.Y])]⟩ o0 (by kernel_rfl) (by kernel_rfl) ?_
    refine R_sq Try.f38 978 979 (by kernel_rfl) ?_
    refine R_cn Try.f38 (.tmp 27) 1956 1957 (by kernel_rfl) (decide (x14 < ((a1.length : Nat) : Int))) (by kernel_rfl) (fun b15 => ?_) (fun b15 => ?_)
    · replace hm := bif_t b15 hm
      refine R_skip (by kernel_rfl) ?_
      refine R_join (ι := Bool) (nd Try.f38 1958) (nd Try.f38 1959) (by kernel_rfl) (fun p => poly_Has_k5_S a1 a2 x14 p) (fun p => poly_Has_k5 x14 (poly_Has_L2 a1 a2 n) p = some res) ?_ ?_
      · rintro x31 hm
        show H _ (poly_Has_k5_S a1 a2 x14 x31) (nd Try.f38 1959) _
        refine R_rn Try.f38 1959 14 [] [] 3 ⟨[(0, vc (tl e_Point default a1)), (3, vp 0 0), (5, vb x31), (24, vc (tl e_Point default a1)), (25, vi ((a1.length : Nat) : Int)), (26, vi (w64 (x14 + 1)))], [(0, bx 46 [ci a2.X, ci a2.Y])]⟩ o0 (by kernel_rfl) (by kernel_rfl) ?_
        exact HL_enter (poly_Has_L2_S a1 a2 x31 (w64 (x14 + 1))) (by kernel_rfl) (by kernel_rfl) (ih x31 (w64 (x14 + 1)) _ hm)
      · refine R_bk Try.f38 1 3916 (by kernel_rfl) ?_
        refine R_sq Try.f38 7832 7833 (by kernel_rfl) ?_
        obtain ⟨g16, hm⟩ := bif_n hm
        refine R_rn Try.f38 7832 6 [] [] 1 ⟨[(0, vc (tl e_Point default a1)), (3, vp 0 0), (5, vb x13), (6, vi x14), (7, vp 1 0), (24, vc (tl e_Point default a1)), (25, vi ((a1.length : Nat) : Int)), (26, vi x14)], [(0, bx 46 [ci a2.X, ci a2.Y]), (1, bx 46 [ci ((a1.getD x14.toNat default).X), ci ((a1.getD x14.toNat default).Y)])]⟩ (o1 (inb_of g16)) (by kernel_rfl) (by kernel_rfl) ?_
        refine R_sq Try.f38 15666 15667 (by kernel_rfl) ?_
        obtain ⟨g17, hm⟩ := bif_n hm
        obtain ⟨g18, hm⟩ := bif_n hm
        refine R_rn Try.f38 15666 7 [] [] 2 ⟨[(0, vc (tl e_Point default a1)), (3, vp 0 0), (5, vb x13), (7, vp 1 0), (8, vp 2 0), (24, vc (tl e_Point default a1)), (25, vi ((a1.length : Nat) : Int)), (26, vi x14)], [(0, bx 46 [ci a2.X, ci a2.Y]), (1, bx 46 [ci ((a1.getD x14.toNat default).X), ci ((a1.getD x14.toNat default).Y)]), (2, bx 46 [ci ((a1.getD (Int.tmod (w64 (x14 + 1)) ((a1.length : Nat) : Int)).toNat default).X), ci ((a1.getD (Int.tmod (w64 (x14 + 1)) ((a1.length : Nat) : Int)).toNat default).Y)])]⟩ (o1 (And.intro (nz_of g17) (inb_of g18))) (by kernel_rfl) (by kernel_rfl) ?_
        refine R_sq Try.f38 31334 31335 (by kernel_rfl) ?_
        refine R_sq Try.f38 62668 62669 (by kernel_rfl) ?_
        obtain ⟨v19, h20, hm⟩ := bind_s hm
        refine R_rn Try.f38 62668 8 [(3, dex (cen [] [] 3 0 (poly_onEdge_x v19) (poly_onEdge_o v19) [39, 40, 41] []))] [] 3 ⟨[(0, vc (tl e_Point default a1)), (3, vp 0 0), (5, vb x13), (7, vp 1 0), (8, vp 2 0), (24, vc (tl e_Point default a1)), (25, vi ((a1.length : Nat) : Int)), (26, vi x14), (42, vb v19)], [(0, bx 46 [ci a2.X, ci a2.Y]), (1, bx 46 [ci ((a1.getD x14.toNat default).X), ci ((a1.getD x14.toNat default).Y)]), (2, bx 46 [ci ((a1.getD (Int.tmod (w64 (x14 + 1)) ((a1.length : Nat) : Int)).toNat default).X), ci ((a1.getD (Int.tmod (w64 (x14 + 1)) ((a1.length : Nat) : Int)).toNat default).Y)])]⟩ (o1 (callS (K := (kx E 73 0)) ⟨[(39, va [ci ((a1.getD x14.toNat default).X), ci ((a1.getD x14.toNat default).Y)]), (40, va [ci ((a1.getD (Int.tmod (w64 (x14 + 1)) ((a1.length : Nat) : Int)).toNat default).X), ci ((a1.getD (Int.tmod (w64 (x14 + 1)) ((a1.length : Nat) : Int)).toNat default).Y)]), (41, va [ci a2.X, ci a2.Y])], []⟩ (opAt (rg Try.f38 62668) 3) [] [] 3 o0 rfl (poly_onEdge_ok (a1.getD x14.toNat default) (a1.getD (Int.tmod (w64 (x14 + 1)) ((a1.length : Nat) : Int)).toNat default) a2 v19 h20) (.inl rfl) (by kernel_rfl))) (by kernel_rfl) (by kernel_rfl) ?_
        refine R_cn Try.f38 (.tmp 42) 125338 125339 (by kernel_rfl) v19 (by kernel_rfl) (fun b21 => ?_) (fun b21 => ?_)
        · replace hm := bif_t b21 hm
          refine R_sq Try.f38 250676 250677 (by kernel_rfl) ?_
          refine R_rn Try.f38 250676 9 [] [] 3 ⟨[(4, vb true)], []⟩ o0 (by kernel_rfl) (by kernel_rfl) ?_
          obtain rfl := Option.some.inj hm
          refine R_ret (by kernel_rfl) ?_
          refine L1_ret true ?_
          exact ret_mk (by kernel_rfl) (by kernel_rfl)
        · replace hm := bif_f b21 hm
          refine R_skip (by kernel_rfl) ?_
          refine R_join (ι := Point × Point) (nd Try.f38 62670) (nd Try.f38 62671) (by kernel_rfl) (fun p => poly_Has_k3_S a1 a2 x13 x14 p.1 p.2) (fun p => poly_Has_k3 a2 x13 x14 (poly_Has_L2 a1 a2 n) p.1 p.2 = some res) ?_ ?_
          · rintro ⟨x23, x24⟩ hm
            show H _ (poly_Has_k3_S a1 a2 x13 x14 x23 x24) (nd Try.f38 62671) _
            refine R_join (ι := Bool) (nd Try.f38 125342) (nd Try.f38 125343) (by kernel_rfl) (fun p => poly_Has_k4_S a1 a2 x13 x14 p) (fun p => poly_Has_k4 x13 x14 (poly_Has_L2 a1 a2 n) p = some res) ?_ ?_
            · rintro x29 hm
              show H _ (poly_Has_k4_S a1 a2 x13 x14 x29) (nd Try.f38 125343) _
              refine R_cn Try.f38 (.tmp 68) 250686 250687 (by kernel_rfl) x29 (by kernel_rfl) (fun b30 => ?_) (fun b30 => ?_)
              · replace hm := bif_t b30 hm
                refine R_rn Try.f38 250686 13 [] [] 3 ⟨[(0, vc (tl e_Point default a1)), (3, vp 0 0), (5, vb (!x13)), (24, vc (tl e_Point default a1)), (25, vi ((a1.length : Nat) : Int)), (26, vi x14)], [(0, bx 46 [ci a2.X, ci a2.Y])]⟩ o0 (by kernel_rfl) (by kernel_rfl) ?_
                exact J_mk (!x13) hm (by kernel_rfl) (by kernel_rfl)
              · replace hm := bif_f b30 hm
                refine R_skip (by kernel_rfl) ?_
                exact J_mk (x13) hm (by kernel_rfl) (by kernel_rfl)
            · rcases Bool.eq_false_or_eq_true (decide (x24.Y ≤ a2.Y)) with b25 | b25
              · replace hm := bif_t b25 hm
                rcases Bool.eq_false_or_eq_true (decide (a2.Y < x23.Y)) with b26 | b26
                · replace hm := bif_t b26 hm
                  obtain ⟨v27, h28, hm⟩ := bind_s hm
                  refine R_rn Try.f38 125342 12 [(5, dfx true), (12, dfx true), (16, dex (cen [] [] 3 0 (poly_cross_x v27) (poly_cross_o v27) [62, 63, 64, 65] []))] [] 3 ⟨[(0, vc (tl e_Point default a1)), (3, vp 0 0), (5, vb x13), (24, vc (tl e_Point default a1)), (25, vi ((a1.length : Nat) : Int)), (26, vi x14), (56, vp 0 1), (57, vi a2.Y), (58, vp 2 1), (59, vi x23.Y), (60, vb (decide (a2.Y < x23.Y))), (63, va [ci x24.X, ci x24.Y]), (64, va [ci x23.X, ci x23.Y]), (65, va [ci a2.X, ci a2.Y]), (66, vi v27), (67, vb (decide (v27 > 0))), (68, vb (decide (v27 > 0)))], [(0, bx 46 [ci a2.X, ci a2.Y]), (2, bx 46 [ci x23.X, ci x23.Y])]⟩ (o1 (And.intro b25 (And.intro b26 (callS (K := (kx E 73 0)) ⟨[(62, vb true), (63, va [ci x24.X, ci x24.Y]), (64, va [ci x23.X, ci x23.Y]), (65, va [ci a2.X, ci a2.Y])], []⟩ (opAt (rg Try.f38 125342) 16) [] [] 3 o0 rfl (poly_cross_ok x24 x23 a2 v27 h28) (.inl rfl) (by kernel_rfl))))) (by kernel_rfl) (by kernel_rfl) ?_
                  exact J_mk (decide (v27 > 0)) hm (by kernel_rfl) (by kernel_rfl)
                · replace hm := bif_f b26 hm
                  refine R_rn Try.f38 125342 12 [(5, dfx true), (12, dfx false)] [] 3 ⟨[(0, vc (tl e_Point default a1)), (3, vp 0 0), (5, vb x13), (24, vc (tl e_Point default a1)), (25, vi ((a1.length : Nat) : Int)), (26, vi x14), (56, vp 0 1), (57, vi a2.Y), (58, vp 2 1), (59, vi x23.Y), (60, vb (decide (a2.Y < x23.Y))), (68, vb false)], [(0, bx 46 [ci a2.X, ci a2.Y]), (2, bx 46 [ci x23.X, ci x23.Y])]⟩ (o1 (And.intro b25 b26)) (by kernel_rfl) (by kernel_rfl) ?_
                  exact J_mk (false) hm (by kernel_rfl) (by kernel_rfl)
              · replace hm := bif_f b25 hm
                refine R_rn Try.f38 125342 12 [(5, dfx false)] [] 3 ⟨[(0, vc (tl e_Point default a1)), (3, vp 0 0), (5, vb x13), (24, vc (tl e_Point default a1)), (25, vi ((a1.length : Nat) : Int)), (26, vi x14), (68, vb false)], [(0, bx 46 [ci a2.X, ci a2.Y])]⟩ (o1 b25) (by kernel_rfl) (by kernel_rfl) ?_
                exact J_mk (false) hm (by kernel_rfl) (by kernel_rfl)
          · refine R_sq Try.f38 125340 125341 (by kernel_rfl) ?_
            refine R_rn Try.f38 125340 10 [] [] 3 ⟨[(0, vc (tl e_Point default a1)), (3, vp 0 0), (5, vb x13), (7, vp 1 0), (8, vp 2 0), (24, vc (tl e_Point default a1)), (25, vi ((a1.length : Nat) : Int)), (26, vi x14), (47, vb (decide (((a1.getD x14.toNat default).Y) > ((a1.getD (Int.tmod (w64 (x14 + 1)) ((a1.length : Nat) : Int)).toNat default).Y))))], [(0, bx 46 [ci a2.X, ci a2.Y]), (1, bx 46 [ci ((a1.getD x14.toNat default).X), ci ((a1.getD x14.toNat default).Y)]), (2, bx 46 [ci ((a1.getD (Int.tmod (w64 (x14 + 1)) ((a1.length : Nat) : Int)).toNat default).X), ci ((a1.getD (Int.tmod (w64 (x14 + 1)) ((a1.length : Nat) : Int)).toNat default).Y)])]⟩ o0 (by kernel_rfl) (by kernel_rfl) ?_
            refine R_cn Try.f38 (.tmp 47) 250682 250683 (by kernel_rfl) (decide (((a1.getD x14.toNat default).Y) > ((a1.getD (Int.tmod (w64 (x14 + 1)) ((a1.length : Nat) : Int)).toNat default).Y))) (by kernel_rfl) (fun b22 => ?_) (fun b22 => ?_)
            · replace hm := bif_t b22 hm
              refine R_rn Try.f38 250682 11 [] [] 3 ⟨[(0, vc (tl e_Point default a1)), (3, vp 0 0), (5, vb x13), (7, vp 1 0), (8, vp 2 0), (24, vc (tl e_Point default a1)), (25, vi ((a1.length : Nat) : Int)), (26, vi x14)], [(0, bx 46 [ci a2.X, ci a2.Y]), (1, bx 46 [ci ((a1.getD (Int.tmod (w64 (x14 + 1)) ((a1.length : Nat) : Int)).toNat default).X), ci ((a1.getD (Int.tmod (w64 (x14 + 1)) ((a1.length : Nat) : Int)).toNat default).Y)]), (2, bx 46 [ci ((a1.getD x14.toNat default).X), ci ((a1.getD x14.toNat default).Y)])]⟩ o0 (by kernel_rfl) (by kernel_rfl) ?_
              exact J_mk ((a1.getD x14.toNat default), (a1.getD (Int.tmod (w64 (x14 + 1)) ((a1.length : Nat) : Int)).toNat default)) hm (by kernel_rfl) (by kernel_rfl)
            · replace hm := bif_f b22 hm
              refine R_skip (by kernel_rfl) ?_
              exact J_mk ((a1.getD (Int.tmod (w64 (x14 + 1)) ((a1.length : Nat) : Int)).toNat default), (a1.getD x14.toNat default)) hm (by kernel_rfl) (by kernel_rfl)
    · replace hm := bif_f b15 hm
      refine R_exit 0 (by kernel_rfl) ?_
      obtain rfl := Option.some.inj hm
      exact L1_mk x13 (by kernel_rfl) (by kernel_rfl)

set_option maxRecDepth 100000 in
theorem poly_Has_ok (a1 : List Point) (a2 : Point) (r : Bool) (hm : poly_Has a1 a2 = some r) : CtX Try.prog globs 38 0 0 [.one (tl e_Point default a1), .agg [ci a2.X, ci a2.Y]] [] (poly_Has_x r) (poly_Has_o r) := by
  unfold poly_Has at hm
  refine CtX_of_E (fn := Try.f38) (c := nd Try.f38 1) (nt := 73) (by kernel_rfl) (by kernel_rfl) (by kernel_rfl) (by kernel_rfl) fun E => ?_
  refine R_sq Try.f38 2 3 (by kernel_rfl) ?_
  refine R_rn Try.f38 2 0 [] [] 0 ⟨[(0, vc (tl e_Point default a1)), (3, vp 0 0)], [(0, bx 46 [ci a2.X, ci a2.Y])]⟩ o0 (by kernel_rfl) (by kernel_rfl) ?_
  refine R_sq Try.f38 6 7 (by kernel_rfl) ?_
  refine R_join (ι := Bool) (nd Try.f38 12) (nd Try.f38 13) (by kernel_rfl) (fun p => poly_Has_k1_S a1 a2 p) (fun p => poly_Has_k1 a1 a2 p = some r) ?_ ?_
  · rintro x11 hm
    show H _ (poly_Has_k1_S a1 a2 x11) (nd Try.f38 13) _
    refine R_cn Try.f38 (.tmp 23) 26 27 (by kernel_rfl) x11 (by kernel_rfl) (fun b12 => ?_) (fun b12 => ?_)
    · replace hm := bif_t b12 hm
      refine R_sq Try.f38 52 53 (by kernel_rfl) ?_
      refine R_rn Try.f38 52 2 [] [] 1 ⟨[(4, vb false)], []⟩ o0 (by kernel_rfl) (by kernel_rfl) ?_
      obtain rfl := Option.some.inj hm
      refine R_ret (by kernel_rfl) ?_
      exact ret_mk (by kernel_rfl) (by kernel_rfl)
    · replace hm := bif_f b12 hm
      refine R_skip (by kernel_rfl) ?_
      refine R_sq Try.f38 14 15 (by kernel_rfl) ?_
      refine R_rn Try.f38 14 3 [] [] 1 ⟨[(0, vc (tl e_Point default a1)), (3, vp 0 0), (5, vb false)], [(0, bx 46 [ci a2.X, ci a2.Y])]⟩ o0 (by kernel_rfl) (by kernel_rfl) ?_
      refine R_sq Try.f38 30 31 (by kernel_rfl) ?_
      refine R_sq Try.f38 60 61 (by kernel_rfl) ?_
      refine R_rn Try.f38 60 4 [] [] 1 ⟨[(0, vc (tl e_Point default a1)), (3, vp 0 0), (5, vb false), (24, vc (tl e_Point default a1)), (25, vi ((a1.length : Nat) : Int)), (26, vi 0)], [(0, bx 46 [ci a2.X, ci a2.Y])]⟩ o0 (by kernel_rfl) (by kernel_rfl) ?_
      obtain ⟨u35, h34, hm⟩ := bind_s hm
      refine R_loop1 (nd Try.f38 244) 0 (by kernel_rfl) FUEL (fun o => poly_Has_L2_T o) (fun v st => RetQ Try.prog Try.f38 (poly_Has_x v) (poly_Has_o v) .ret st) u35 (HL_enter (poly_Has_L2_S a1 a2 false 0) (by kernel_rfl) (by kernel_rfl) (poly_Has_L2_ok E a1 a2 FUEL false 0 u35 h34)) ?_ ?_
      · rintro v36 rfl st hr
        obtain rfl := Option.some.inj hm
        exact hr
      · rintro o33 rfl
        replace hm : _ = some r := hm
        refine R_sq Try.f38 62 63 (by kernel_rfl) ?_
        refine R_rn Try.f38 62 15 [] [] 1 ⟨[(4, vb o33)], []⟩ o0 (by kernel_rfl) (by kernel_rfl) ?_
        obtain rfl := Option.some.inj hm
        refine R_ret (by kernel_rfl) ?_
        exact ret_mk (by kernel_rfl) (by kernel_rfl)
  · obtain ⟨v3, h4, hm⟩ := bind_s hm
    rcases Bool.eq_false_or_eq_true (v3 != 0) with b5 | b5
    · replace hm := bif_t b5 hm
      refine R_rn Try.f38 12 1 [(1, dex (cen [] [] 1 0 (poly_Check_x v3) (poly_Check_o v3) [9] [])), (3, dfx true)] [] 1 ⟨[(0, vc (tl e_Point default a1)), (3, vp 0 0), (23, vb true)], [(0, bx 46 [ci a2.X, ci a2.Y])]⟩ (o1 (And.intro (callS (K := (kx E 73 0)) ⟨[(9, vc (tl e_Point default a1))], []⟩ (opAt (rg Try.f38 12) 1) [] [] 1 o0 rfl (poly_Check_ok a1 v3 h4) (.inl rfl) (by kernel_rfl)) b5)) (by kernel_rfl) (by kernel_rfl) ?_
      exact J_mk (true) hm (by kernel_rfl) (by kernel_rfl)
    · replace hm := bif_f b5 hm
      obtain ⟨v6, h7, hm⟩ := bind_s hm
      rcases Bool.eq_false_or_eq_true (!v6) with b8 | b8
      · replace hm := bif_t b8 hm
        refine R_rn Try.f38 12 1 [(1, dex (cen [] [] 1 0 (poly_Check_x v3) (poly_Check_o v3) [9] [])), (3, dfx false), (6, dex (cen [] [] 1 0 (poly_within_x v6) (poly_within_o v6) [12, 14] [])), (9, dfx true)] [] 1 ⟨[(0, vc (tl e_Point default a1)), (3, vp 0 0), (23, vb true)], [(0, bx 46 [ci a2.X, ci a2.Y])]⟩ (o1 (And.intro (callS (K := (kx E 73 0)) ⟨[(9, vc (tl e_Point default a1))], []⟩ (opAt (rg Try.f38 12) 1) [] [] 1 o0 rfl (poly_Check_ok a1 v3 h4) (.inl rfl) (by kernel_rfl)) (And.intro b5 (And.intro (callS (K := (kx E 73 0)) ⟨[(12, vb false), (14, vi a2.X)], []⟩ (opAt (rg Try.f38 12) 6) [] [] 1 o0 rfl (poly_within_ok a2.X v6 h7) (.inl rfl) (by kernel_rfl)) b8)))) (by kernel_rfl) (by kernel_rfl) ?_
        exact J_mk (true) hm (by kernel_rfl) (by kernel_rfl)
      · replace hm := bif_f b8 hm
        obtain ⟨v9, h10, hm⟩ := bind_s hm
        refine R_rn Try.f38 12 1 [(1, dex (cen [] [] 1 0 (poly_Check_x v3) (poly_Check_o v3) [9] [])), (3, dfx false), (6, dex (cen [] [] 1 0 (poly_within_x v6) (poly_within_o v6) [12, 14] [])), (9, dfx false), (12, dex (cen [] [] 1 0 (poly_within_x v9) (poly_within_o v9) [18, 20] []))] [] 1 ⟨[(0, vc (tl e_Point default a1)), (3, vp 0 0), (23, vb (!v9))], [(0, bx 46 [ci a2.X, ci a2.Y])]⟩ (o1 (And.intro (callS (K := (kx E 73 0)) ⟨[(9, vc (tl e_Point default a1))], []⟩ (opAt (rg Try.f38 12) 1) [] [] 1 o0 rfl (poly_Check_ok a1 v3 h4) (.inl rfl) (by kernel_rfl)) (And.intro b5 (And.intro (callS (K := (kx E 73 0)) ⟨[(12, vb false), (14, vi a2.X)], []⟩ (opAt (rg Try.f38 12) 6) [] [] 1 o0 rfl (poly_within_ok a2.X v6 h7) (.inl rfl) (by kernel_rfl)) (And.intro b8 (callS (K := (kx E 73 0)) ⟨[(18, vb false), (20, vi a2.Y)], []⟩ (opAt (rg Try.f38 12) 12) [] [] 1 o0 rfl (poly_within_ok a2.Y v9 h10) (.inl rfl) (by kernel_rfl))))))) (by kernel_rfl) (by kernel_rfl) ?_
        exact J_mk (!v9) hm (by kernel_rfl) (by kernel_rfl)

end Saw
end Go.SL
