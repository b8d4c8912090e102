import Derived.Test.YtjelipmghgcpeaaSBase
import Derived.Test.YtjelipmghgcpeaaSFa1
import Derived.Test.YtjelipmghgcpeaaSFa3
set_option linter.unusedVariables false
set_option linter.unusedSimpArgs false
namespace Go.SL
namespace Saw
open Go.Proofs
set_option maxHeartbeats 4000000

def section_Of_x (r : Section × Int) : V := .tup [.agg [ci r.1.Low, .own 0 0 2 r.1.Rows.length], .one (ci r.2)]

def section_Of_o (r : Section × Int) : List (Nat × (Nat × O)) := [(0, ro 0 35 2 r.1.Rows.length (rf e_Span r.1.Rows))]

theorem section_Of_f (r : Section × Int) : Frozen (section_Of_o r) := by
  intro i k o h
  unfold section_Of_o at h
  rw [look_cons] at h
  split at h
  · cases h; exact fun _ _ => rfl
  · cases h

set_option maxRecDepth 100000 in
theorem section_Of_ok (a1 : List Point) (r : Section × Int) (hm : section_Of a1 = some r) : CtX Try.prog globs 16 0 0 [.one (tl e_Point default a1)] [] (section_Of_x r) (section_Of_o r) := by
  unfold section_Of at hm
  refine CtX_of_E (fn := Try.f16) (c := nd Try.f16 1) (nt := 20) (by kernel_rfl) (by kernel_rfl) (by kernel_rfl) (by kernel_rfl) fun E => ?_
  refine R_sq Try.f16 2 3 (by kernel_rfl) ?_
  refine R_rn Try.f16 2 0 [] [] 0 ⟨[(1, vp 0 0), (2, vp 1 0)], [(0, bx 29 [tl e_Point default a1]), (1, bx 24 [ci 0, .emp])]⟩ o0 (by kernel_rfl) (by kernel_rfl) ?_
  refine R_sq Try.f16 6 7 (by kernel_rfl) ?_
  refine R_sq Try.f16 12 13 (by kernel_rfl) ?_
  obtain ⟨v2, h3, hm⟩ := bind_s hm
  refine R_rn Try.f16 12 1 [(1, dex (cen [] [] 2 0 (poly_Check_x v2) (poly_Check_o v2) [6] []))] [] 2 ⟨[(1, vp 0 0), (2, vp 1 0), (4, vi v2)], [(0, bx 29 [tl e_Point default a1]), (1, bx 24 [ci 0, .emp])]⟩ (o1 (callS (K := (kx E 20 0)) ⟨[(6, vc (tl e_Point default a1))], []⟩ (opAt (rg Try.f16 12) 1) [] [] 2 o0 rfl (poly_Check_ok a1 v2 h3) (.inl rfl) (by kernel_rfl))) (by kernel_rfl) (by kernel_rfl) ?_
  refine R_sq Try.f16 26 27 (by kernel_rfl) ?_
  refine R_rn Try.f16 26 2 [] [] 2 ⟨[(1, vp 0 0), (2, vp 1 0), (4, vi v2), (9, vb (v2 != 0))], [(0, bx 29 [tl e_Point default a1]), (1, bx 24 [ci 0, .emp])]⟩ o0 (by kernel_rfl) (by kernel_rfl) ?_
  refine R_cn Try.f16 (.tmp 9) 54 55 (by kernel_rfl) (v2 != 0) (by kernel_rfl) (fun b4 => ?_) (fun b4 => ?_)
  · replace hm := bif_t b4 hm
    refine R_sq Try.f16 108 109 (by kernel_rfl) ?_
    refine R_rn Try.f16 108 3 [] [] 2 ⟨[(2, vp 1 0), (3, vi v2)], [(1, bx 24 [ci 0, .emp])]⟩ o0 (by kernel_rfl) (by kernel_rfl) ?_
    refine H_fin [.ownB 1 1 2 35 2 (rf e_Span ([] : List Span))] ⟨[(2, vp 1 0), (3, vi v2)], [(1, bx 24 [ci 0, .own 2 0 2 0]), (2, ro 0 35 2 0 (rf e_Span ([] : List Span)))]⟩ o0 (by kernel_rfl) ?_
    refine H_fin [.len 2 (([] : List Span).length)] ⟨[(2, vp 1 0), (3, vi v2)], [(1, bx 24 [ci 0, .own 2 0 2 (([] : List Span).length)]), (2, ro 0 35 2 (([] : List Span).length) (rf e_Span ([] : List Span)))]⟩ (o1 (And.intro (show 0 = ([] : List Span).length from rfl) (show 0 = ([] : List Span).length from rfl))) (by kernel_rfl) ?_
    obtain rfl := Option.some.inj hm
    refine H_swap 2 0 (by kernel_rfl) ?_
    refine R_ret (by kernel_rfl) ?_
    exact ret_mk (by kernel_rfl) (by kernel_rfl)
  · replace hm := bif_f b4 hm
    refine R_skip (by kernel_rfl) ?_
    refine R_sq Try.f16 14 15 (by kernel_rfl) ?_
    obtain ⟨v5, h6, hm⟩ := bind_s hm
    refine R_rn Try.f16 14 4 [(1, dex (cen [(0, 0)] [0] 1 1 (section_build_x a1 v5) (section_build_o a1 v5) [12] [0]))] [] 2 ⟨[(2, vp 1 0), (5, vp 3 0)], [(1, bx 24 [ci 0, .emp]), (2, ro 0 35 2 v5.Rows.length (rf e_Span v5.Rows)), (3, bx 24 [ci v5.Low, .own 2 0 2 v5.Rows.length])]⟩ (o1 (callS (K := (kx E 20 0)) ⟨[(12, vc (.fn 46 [.bptr 0 0 0]))], [(0, bx 29 [tl e_Point default a1])]⟩ (opAt (rg Try.f16 14) 1) [(0, 0)] [0] 1 o0 rfl (section_build_ok a1 v5 h6) (.inl rfl) (by kernel_rfl))) (by kernel_rfl) (by kernel_rfl) ?_
    refine R_sq Try.f16 30 31 (by kernel_rfl) ?_
    refine R_sq Try.f16 60 61 (by kernel_rfl) ?_
    refine R_rn Try.f16 60 5 [] [] 4 ⟨[(2, vp 1 0), (5, vp 3 0), (17, vb (((v5.Rows.length : Nat) : Int) == 0))], [(1, bx 24 [ci 0, .emp]), (2, ro 0 35 2 v5.Rows.length (rf e_Span v5.Rows)), (3, bx 24 [ci v5.Low, .own 2 0 2 v5.Rows.length])]⟩ o0 (by kernel_rfl) (by kernel_rfl) ?_
    refine R_cn Try.f16 (.tmp 17) 122 123 (by kernel_rfl) (((v5.Rows.length : Nat) : Int) == 0) (by kernel_rfl) (fun b7 => ?_) (fun b7 => ?_)
    · replace hm := bif_t b7 hm
      refine R_sq Try.f16 244 245 (by kernel_rfl) ?_
      refine R_rn Try.f16 244 6 [] [] 4 ⟨[(2, vp 1 0), (3, vi 18)], [(1, bx 24 [ci 0, .emp])]⟩ o0 (by kernel_rfl) (by kernel_rfl) ?_
      refine H_fin [.ownB 1 1 4 35 2 (rf e_Span ([] : List Span))] ⟨[(2, vp 1 0), (3, vi 18)], [(1, bx 24 [ci 0, .own 4 0 2 0]), (4, ro 0 35 2 0 (rf e_Span ([] : List Span)))]⟩ o0 (by kernel_rfl) ?_
      refine H_fin [.len 4 (([] : List Span).length)] ⟨[(2, vp 1 0), (3, vi 18)], [(1, bx 24 [ci 0, .own 4 0 2 (([] : List Span).length)]), (4, ro 0 35 2 (([] : List Span).length) (rf e_Span ([] : List Span)))]⟩ (o1 (And.intro (show 0 = ([] : List Span).length from rfl) (show 0 = ([] : List Span).length from rfl))) (by kernel_rfl) ?_
      obtain rfl := Option.some.inj hm
      refine H_swap 4 0 (by kernel_rfl) ?_
      refine R_ret (by kernel_rfl) ?_
      exact ret_mk (by kernel_rfl) (by kernel_rfl)
    · replace hm := bif_f b7 hm
      refine R_skip (by kernel_rfl) ?_
      refine R_sq Try.f16 62 63 (by kernel_rfl) ?_
      refine R_rn Try.f16 62 7 [] [] 4 ⟨[(2, vp 1 0), (3, vi 0)], [(1, bx 24 [ci v5.Low, .own 2 0 2 v5.Rows.length]), (2, ro 0 35 2 v5.Rows.length (rf e_Span v5.Rows))]⟩ o0 (by kernel_rfl) (by kernel_rfl) ?_
      obtain rfl := Option.some.inj hm
      refine H_swap 2 0 (by kernel_rfl) ?_
      refine R_ret (by kernel_rfl) ?_
      exact ret_mk (by kernel_rfl) (by kernel_rfl)

end Saw
end Go.SL

namespace Go.SL
namespace Saw
open Go.Proofs
set_option maxHeartbeats 4000000

def section_inRange_x (r : Bool) : V := vb r

def section_inRange_o (r : Bool) : List (Nat × (Nat × O)) := []

theorem section_inRange_f (r : Bool) : Frozen (section_inRange_o r) := by
  intro i k o h
  unfold section_inRange_o at h
  cases h

def section_inRange_k1_S (x3 : Bool) : St :=
  ⟨[(2, vb x3)], []⟩

set_option maxRecDepth 100000 in
theorem section_inRange_ok (a1 : Span) (r : Bool) (hm : section_inRange a1 = some r) : CtX Try.prog globs 39 0 0 [.agg [ci a1.A, ci a1.B]] [] (section_inRange_x r) (section_inRange_o r) := by
  unfold section_inRange at hm
  refine CtX_of_E (fn := Try.f39) (c := nd Try.f39 1) (nt := 17) (by kernel_rfl) (by kernel_rfl) (by kernel_rfl) (by kernel_rfl) fun E => ?_
  refine R_sq Try.f39 2 3 (by kernel_rfl) ?_
  refine R_rn Try.f39 2 0 [] [] 0 ⟨[(1, vp 0 0)], [(0, bx 35 [ci a1.A, ci a1.B])]⟩ o0 (by kernel_rfl) (by kernel_rfl) ?_
  refine R_join (ι := Bool) (nd Try.f39 6) (nd Try.f39 7) (by kernel_rfl) (fun p => section_inRange_k1_S p) (fun p => section_inRange_k1 p = some r) ?_ ?_
  · rintro x3 hm
    show H _ (section_inRange_k1_S x3) (nd Try.f39 7) _
    obtain rfl := Option.some.inj hm
    refine R_ret (by kernel_rfl) ?_
    exact ret_mk (by kernel_rfl) (by kernel_rfl)
  · rcases Bool.eq_false_or_eq_true (decide ((imin a1.A a1.B) ≥ (-600))) with b2 | b2
    · replace hm := bif_t b2 hm
      refine R_rn Try.f39 6 1 [(6, dfx true)] [] 1 ⟨[(2, vb (decide ((imax a1.A a1.B) ≤ 600)))], []⟩ (o1 b2) (by kernel_rfl) (by kernel_rfl) ?_
      exact J_mk (decide ((imax a1.A a1.B) ≤ 600)) hm (by kernel_rfl) (by kernel_rfl)
    · replace hm := bif_f b2 hm
      refine R_rn Try.f39 6 1 [(6, dfx false)] [] 1 ⟨[(2, vb false)], []⟩ (o1 b2) (by kernel_rfl) (by kernel_rfl) ?_
      exact J_mk (false) hm (by kernel_rfl) (by kernel_rfl)

end Saw
end Go.SL

namespace Go.SL
namespace Saw
open Go.Proofs
set_option maxHeartbeats 4000000

def section_Check_x (r : Int) : V := vi r

def section_Check_o (r : Int) : List (Nat × (Nat × O)) := []

theorem section_Check_f (r : Int) : Frozen (section_Check_o r) := by
  intro i k o h
  unfold section_Check_o at h
  cases h

def section_Check_L2_S (a1 : Section) (x6 : Int) : St :=
  ⟨[(1, vp 0 0), (3, vi ((a1.Rows.length : Nat) : Int)), (24, vc (tl e_Span default a1.Rows)), (25, vi ((a1.Rows.length : Nat) : Int)), (26, vi x6)], [(0, bx 24 [ci a1.Low, tl e_Span default a1.Rows])]⟩

def section_Check_L2_T (a1 : Section) : St :=
  ⟨[(1, vp 0 0), (3, vi ((a1.Rows.length : Nat) : Int))], [(0, bx 24 [ci a1.Low, tl e_Span default a1.Rows])]⟩

def section_Check_k5_S (a1 : Section) (x27 : Int) (x33 : Bool) : St :=
  ⟨[(54, vc (tl e_Span default a1.Rows)), (55, vi ((a1.Rows.length : Nat) : Int)), (56, vi x27), (66, vb x33)], []⟩

def section_Check_L4_S (a1 : Section) (x27 : Int) : St :=
  ⟨[(54, vc (tl e_Span default a1.Rows)), (55, vi ((a1.Rows.length : Nat) : Int)), (56, vi x27)], []⟩

def section_Check_L4_T : St :=
  ⟨[], []⟩

def section_Check_k3_S (a1 : Section) (x25 : Bool) : St :=
  ⟨[(1, vp 0 0), (52, vb x25)], [(0, bx 24 [ci a1.Low, tl e_Span default a1.Rows])]⟩

def section_Check_k1_S (a1 : Section) (x4 : Bool) : St :=
  ⟨[(1, vp 0 0), (3, vi ((a1.Rows.length : Nat) : Int)), (22, vb x4)], [(0, bx 24 [ci a1.Low, tl e_Span default a1.Rows])]⟩

set_option maxRecDepth 100000 in
theorem section_Check_L2_ok (E : Env 0) (a1 : Section) : ∀ (n : Nat) (x6 : Int) (res : Int ⊕ Unit), section_Check_L2 a1 n x6 = some res → HL (kx E 68 0) (nd Try.f13 500) (loopQ 0 (fun o => section_Check_L2_T a1) (fun v st => RetQ Try.prog Try.f13 (section_Check_x v) (section_Check_o v) .ret st) res) n (section_Check_L2_S a1 x6) := by
  intro n
  induction n with
  | zero =>
    intro x6 res hm
    cases hm
  | succ n ih =>
    intro x6 res hm
    refine HL_succ ?_
    refine R_sq Try.f13 1000 1001 (by kernel_rfl) ?_
    refine R_rn Try.f13 1000 7 [] [] 1 ⟨[(1, vp 0 0), (3, vi ((a1.Rows.length : Nat) : Int)), (24, vc (tl e_Span default a1.Rows)), (25, vi ((a1.Rows.length : Nat) : Int)), (26, vi x6), (27, vb (decide (x6 < ((a1.Rows.length : Nat) : Int))))], [(0, bx 24 [ci a1.Low, tl e_Span default a1.Rows])]⟩ o0 (by kernel_rfl) (by kernel_rfl) ?_
    refine R_sq Try.f13 2002 2003 (by kernel_rfl) ?_
    refine R_cn Try.f13 (.tmp 27) 4004 4005 (by kernel_rfl) (decide (x6 < ((a1.Rows.length : Nat) : Int))) (by kernel_rfl) (fun b7 => ?_) (fun b7 => ?_)
    · replace hm := bif_t b7 hm
      refine R_skip (by kernel_rfl) ?_
      refine R_sq Try.f13 4006 4007 (by kernel_rfl) ?_
      refine R_bk Try.f13 1 8012 (by kernel_rfl) ?_
      refine R_sq Try.f13 16024 16025 (by kernel_rfl) ?_
      obtain ⟨g8, hm⟩ := bif_n hm
      refine R_rn Try.f13 16024 8 [] [] 1 ⟨[(1, vp 0 0), (3, vi ((a1.Rows.length : Nat) : Int)), (5, vp 1 0), (24, vc (tl e_Span default a1.Rows)), (25, vi ((a1.Rows.length : Nat) : Int)), (26, vi x6)], [(0, bx 24 [ci a1.Low, tl e_Span default a1.Rows]), (1, bx 35 [ci ((a1.Rows.getD x6.toNat default).A), ci ((a1.Rows.getD x6.toNat default).B)])]⟩ (o1 (inb_of g8)) (by kernel_rfl) (by kernel_rfl) ?_
      refine R_sq Try.f13 32050 32051 (by kernel_rfl) ?_
      obtain ⟨v9, h10, hm⟩ := bind_s hm
      refine R_rn Try.f13 32050 9 [(1, dex (cen [] [] 2 0 (section_inRange_x v9) (section_inRange_o v9) [30] []))] [] 2 ⟨[(1, vp 0 0), (3, vi ((a1.Rows.length : Nat) : Int)), (24, vc (tl e_Span default a1.Rows)), (25, vi ((a1.Rows.length : Nat) : Int)), (26, vi x6), (32, vb (!v9))], [(0, bx 24 [ci a1.Low, tl e_Span default a1.Rows])]⟩ (o1 (callS (K := (kx E 68 0)) ⟨[(30, va [ci ((a1.Rows.getD x6.toNat default).A), ci ((a1.Rows.getD x6.toNat default).B)])], []⟩ (opAt (rg Try.f13 32050) 1) [] [] 2 o0 rfl (section_inRange_ok (a1.Rows.getD x6.toNat default) v9 h10) (.inl rfl) (by kernel_rfl))) (by kernel_rfl) (by kernel_rfl) ?_
      refine R_cn Try.f13 (.tmp 32) 64102 64103 (by kernel_rfl) (!v9) (by kernel_rfl) (fun b11 => ?_) (fun b11 => ?_)
      · replace hm := bif_t b11 hm
        refine R_sq Try.f13 128204 128205 (by kernel_rfl) ?_
        refine R_rn Try.f13 128204 10 [] [] 2 ⟨[(2, vi 9)], []⟩ o0 (by kernel_rfl) (by kernel_rfl) ?_
        obtain rfl := Option.some.inj hm
        refine R_ret (by kernel_rfl) ?_
        refine L1_ret 9 ?_
        exact ret_mk (by kernel_rfl) (by kernel_rfl)
      · replace hm := bif_f b11 hm
        refine R_skip (by kernel_rfl) ?_
        refine R_rn Try.f13 4007 11 [] [] 2 ⟨[(1, vp 0 0), (3, vi ((a1.Rows.length : Nat) : Int)), (24, vc (tl e_Span default a1.Rows)), (25, vi ((a1.Rows.length : Nat) : Int)), (26, vi (w64 (x6 + 1)))], [(0, bx 24 [ci a1.Low, tl e_Span default a1.Rows])]⟩ o0 (by kernel_rfl) (by kernel_rfl) ?_
        exact HL_enter (section_Check_L2_S a1 (w64 (x6 + 1))) (by kernel_rfl) (by kernel_rfl) (ih (w64 (x6 + 1)) _ hm)
    · replace hm := bif_f b7 hm
      refine R_exit 0 (by kernel_rfl) ?_
      obtain rfl := Option.some.inj hm
      exact L1_mk () (by kernel_rfl) (by kernel_rfl)

set_option maxRecDepth 100000 in
theorem section_Check_L4_ok (E : Env 0) (a1 : Section) : ∀ (n : Nat) (x27 : Int) (res : Int ⊕ Unit), section_Check_L4 a1 n x27 = some res → HL (kx E 68 0) (nd Try.f13 4084) (loopQ 2 (fun o => section_Check_L4_T) (fun v st => RetQ Try.prog Try.f13 (section_Check_x v) (section_Check_o v) .ret st) res) n (section_Check_L4_S a1 x27) := by
  intro n
  induction n with
  | zero =>
    intro x27 res hm
    cases hm
  | succ n ih =>
    intro x27 res hm
    refine HL_succ ?_
    refine R_sq Try.f13 8168 8169 (by kernel_rfl) ?_
    refine R_rn Try.f13 8168 19 [] [] 1 ⟨[(54, vc (tl e_Span default a1.Rows)), (55, vi ((a1.Rows.length : Nat) : Int)), (56, vi x27), (57, vb (decide (x27 < ((a1.Rows.length : Nat) : Int))))], []⟩ o0 (by kernel_rfl) (by kernel_rfl) ?_
    refine R_sq Try.f13 16338 16339 (by kernel_rfl) ?_
    refine R_cn Try.f13 (.tmp 57) 32676 32677 (by kernel_rfl) (decide (x27 < ((a1.Rows.length : Nat) : Int))) (by kernel_rfl) (fun b28 => ?_) (fun b28 => ?_)
    · replace hm := bif_t b28 hm
      refine R_skip (by kernel_rfl) ?_
      refine R_sq Try.f13 32678 32679 (by kernel_rfl) ?_
      refine R_bk Try.f13 3 65356 (by kernel_rfl) ?_
      refine R_sq Try.f13 130712 130713 (by kernel_rfl) ?_
      obtain ⟨g29, hm⟩ := bif_n hm
      refine R_rn Try.f13 130712 20 [] [] 1 ⟨[(7, vp 1 0), (54, vc (tl e_Span default a1.Rows)), (55, vi ((a1.Rows.length : Nat) : Int)), (56, vi x27)], [(1, bx 35 [ci ((a1.Rows.getD x27.toNat default).A), ci ((a1.Rows.getD x27.toNat default).B)])]⟩ (o1 (inb_of g29)) (by kernel_rfl) (by kernel_rfl) ?_
      refine R_join (ι := Bool) (nd Try.f13 261426) (nd Try.f13 261427) (by kernel_rfl) (fun p => section_Check_k5_S a1 x27 p) (fun p => section_Check_k5 x27 (section_Check_L4 a1 n) p = some res) ?_ ?_
      · rintro x33 hm
        show H _ (section_Check_k5_S a1 x27 x33) (nd Try.f13 261427) _
        refine R_cn Try.f13 (.tmp 66) 522854 522855 (by kernel_rfl) x33 (by kernel_rfl) (fun b34 => ?_) (fun b34 => ?_)
        · replace hm := bif_t b34 hm
          refine R_sq Try.f13 1045708 1045709 (by kernel_rfl) ?_
          refine R_rn Try.f13 1045708 22 [] [] 2 ⟨[(2, vi 19)], []⟩ o0 (by kernel_rfl) (by kernel_rfl) ?_
          obtain rfl := Option.some.inj hm
          refine R_ret (by kernel_rfl) ?_
          refine L1_ret 19 ?_
          exact ret_mk (by kernel_rfl) (by kernel_rfl)
        · replace hm := bif_f b34 hm
          refine R_skip (by kernel_rfl) ?_
          refine R_rn Try.f13 32679 23 [] [] 2 ⟨[(54, vc (tl e_Span default a1.Rows)), (55, vi ((a1.Rows.length : Nat) : Int)), (56, vi (w64 (x27 + 1)))], []⟩ o0 (by kernel_rfl) (by kernel_rfl) ?_
          exact HL_enter (section_Check_L4_S a1 (w64 (x27 + 1))) (by kernel_rfl) (by kernel_rfl) (ih (w64 (x27 + 1)) _ hm)
      · obtain ⟨v30, h31, hm⟩ := bind_s hm
        rcases Bool.eq_false_or_eq_true v30 with b32 | b32
        · replace hm := bif_t b32 hm
          refine R_rn Try.f13 261426 21 [(1, dex (cen [] [] 2 0 (section_isEmpty_x v30) (section_isEmpty_o v30) [60] [])), (2, dfx true)] [] 2 ⟨[(54, vc (tl e_Span default a1.Rows)), (55, vi ((a1.Rows.length : Nat) : Int)), (56, vi x27), (63, va [ci ((a1.Rows.getD x27.toNat default).A), ci ((a1.Rows.getD x27.toNat default).B)]), (64, va [ci 0, ci 0]), (65, vb (!((((a1.Rows.getD x27.toNat default).A) == 0) && ((((a1.Rows.getD x27.toNat default).B) == 0) && true)))), (66, vb (!((((a1.Rows.getD x27.toNat default).A) == 0) && ((((a1.Rows.getD x27.toNat default).B) == 0) && true))))], []⟩ (o1 (And.intro (callS (K := (kx E 68 0)) ⟨[(60, va [ci ((a1.Rows.getD x27.toNat default).A), ci ((a1.Rows.getD x27.toNat default).B)])], []⟩ (opAt (rg Try.f13 261426) 1) [] [] 2 o0 rfl (section_isEmpty_ok (a1.Rows.getD x27.toNat default) v30 h31) (.inl rfl) (by kernel_rfl)) b32)) (by kernel_rfl) (by kernel_rfl) ?_
          exact J_mk (!((((a1.Rows.getD x27.toNat default).A) == 0) && ((((a1.Rows.getD x27.toNat default).B) == 0) && true))) hm (by kernel_rfl) (by kernel_rfl)
        · replace hm := bif_f b32 hm
          refine R_rn Try.f13 261426 21 [(1, dex (cen [] [] 2 0 (section_isEmpty_x v30) (section_isEmpty_o v30) [60] [])), (2, dfx false)] [] 2 ⟨[(54, vc (tl e_Span default a1.Rows)), (55, vi ((a1.Rows.length : Nat) : Int)), (56, vi x27), (66, vb false)], []⟩ (o1 (And.intro (callS (K := (kx E 68 0)) ⟨[(60, va [ci ((a1.Rows.getD x27.toNat default).A), ci ((a1.Rows.getD x27.toNat default).B)])], []⟩ (opAt (rg Try.f13 261426) 1) [] [] 2 o0 rfl (section_isEmpty_ok (a1.Rows.getD x27.toNat default) v30 h31) (.inl rfl) (by kernel_rfl)) b32)) (by kernel_rfl) (by kernel_rfl) ?_
          exact J_mk (false) hm (by kernel_rfl) (by kernel_rfl)
    · replace hm := bif_f b28 hm
      refine R_exit 2 (by kernel_rfl) ?_
      obtain rfl := Option.some.inj hm
      exact L1_mk () (by kernel_rfl) (by kernel_rfl)

set_option maxRecDepth 100000 in
theorem section_Check_ok (a1 : Section) (r : Int) (hm : section_Check a1 = some r) : CtX Try.prog globs 13 0 0 [.agg [ci a1.Low, tl e_Span default a1.Rows]] [] (section_Check_x r) (section_Check_o r) := by
  unfold section_Check at hm
  refine CtX_of_E (fn := Try.f13) (c := nd Try.f13 1) (nt := 68) (by kernel_rfl) (by kernel_rfl) (by kernel_rfl) (by kernel_rfl) fun E => ?_
  refine R_sq Try.f13 2 3 (by kernel_rfl) ?_
  refine R_rn Try.f13 2 0 [] [] 0 ⟨[(1, vp 0 0)], [(0, bx 24 [ci a1.Low, tl e_Span default a1.Rows])]⟩ o0 (by kernel_rfl) (by kernel_rfl) ?_
  refine R_sq Try.f13 6 7 (by kernel_rfl) ?_
  refine R_rn Try.f13 6 1 [] [] 1 ⟨[(1, vp 0 0), (3, vi ((a1.Rows.length : Nat) : Int))], [(0, bx 24 [ci a1.Low, tl e_Span default a1.Rows])]⟩ o0 (by kernel_rfl) (by kernel_rfl) ?_
  refine R_sq Try.f13 14 15 (by kernel_rfl) ?_
  refine R_sq Try.f13 28 29 (by kernel_rfl) ?_
  refine R_rn Try.f13 28 2 [] [] 1 ⟨[(1, vp 0 0), (3, vi ((a1.Rows.length : Nat) : Int)), (12, vb (decide (((a1.Rows.length : Nat) : Int) > 120)))], [(0, bx 24 [ci a1.Low, tl e_Span default a1.Rows])]⟩ o0 (by kernel_rfl) (by kernel_rfl) ?_
  refine R_cn Try.f13 (.tmp 12) 58 59 (by kernel_rfl) (decide (((a1.Rows.length : Nat) : Int) > 120)) (by kernel_rfl) (fun b2 => ?_) (fun b2 => ?_)
  · replace hm := bif_t b2 hm
    refine R_sq Try.f13 116 117 (by kernel_rfl) ?_
    refine R_rn Try.f13 116 3 [] [] 1 ⟨[(2, vi 4)], []⟩ o0 (by kernel_rfl) (by kernel_rfl) ?_
    obtain rfl := Option.some.inj hm
    refine R_ret (by kernel_rfl) ?_
    exact ret_mk (by kernel_rfl) (by kernel_rfl)
  · replace hm := bif_f b2 hm
    refine R_skip (by kernel_rfl) ?_
    refine R_sq Try.f13 30 31 (by kernel_rfl) ?_
    refine R_join (ι := Bool) (nd Try.f13 60) (nd Try.f13 61) (by kernel_rfl) (fun p => section_Check_k1_S a1 p) (fun p => section_Check_k1 a1 p = some r) ?_ ?_
    · rintro x4 hm
      show H _ (section_Check_k1_S a1 x4) (nd Try.f13 61) _
      refine R_cn Try.f13 (.tmp 22) 122 123 (by kernel_rfl) x4 (by kernel_rfl) (fun b5 => ?_) (fun b5 => ?_)
      · replace hm := bif_t b5 hm
        refine R_sq Try.f13 244 245 (by kernel_rfl) ?_
        refine R_rn Try.f13 244 5 [] [] 1 ⟨[(2, vi 9)], []⟩ o0 (by kernel_rfl) (by kernel_rfl) ?_
        obtain rfl := Option.some.inj hm
        refine R_ret (by kernel_rfl) ?_
        exact ret_mk (by kernel_rfl) (by kernel_rfl)
      · replace hm := bif_f b5 hm
        refine R_skip (by kernel_rfl) ?_
        refine R_sq Try.f13 62 63 (by kernel_rfl) ?_
        refine R_sq Try.f13 124 125 (by kernel_rfl) ?_
        refine R_rn Try.f13 124 6 [] [] 1 ⟨[(1, vp 0 0), (3, vi ((a1.Rows.length : Nat) : Int)), (24, vc (tl e_Span default a1.Rows)), (25, vi ((a1.Rows.length : Nat) : Int)), (26, vi 0)], [(0, bx 24 [ci a1.Low, tl e_Span default a1.Rows])]⟩ o0 (by kernel_rfl) (by kernel_rfl) ?_
        obtain ⟨u14, h13, hm⟩ := bind_s hm
        refine R_loop1 (nd Try.f13 500) 0 (by kernel_rfl) FUEL (fun o => section_Check_L2_T a1) (fun v st => RetQ Try.prog Try.f13 (section_Check_x v) (section_Check_o v) .ret st) u14 (HL_enter (section_Check_L2_S a1 0) (by kernel_rfl) (by kernel_rfl) (section_Check_L2_ok E a1 FUEL 0 u14 h13)) ?_ ?_
        · rintro v15 rfl st hr
          obtain rfl := Option.some.inj hm
          exact hr
        · rintro o12 rfl
          replace hm : _ = some r := hm
          refine R_sq Try.f13 126 127 (by kernel_rfl) ?_
          refine R_sq Try.f13 252 253 (by kernel_rfl) ?_
          refine R_rn Try.f13 252 12 [] [] 1 ⟨[(1, vp 0 0), (3, vi ((a1.Rows.length : Nat) : Int)), (35, vb (((a1.Rows.length : Nat) : Int) == 0))], [(0, bx 24 [ci a1.Low, tl e_Span default a1.Rows])]⟩ o0 (by kernel_rfl) (by kernel_rfl) ?_
          refine R_cn Try.f13 (.tmp 35) 506 507 (by kernel_rfl) (((a1.Rows.length : Nat) : Int) == 0) (by kernel_rfl) (fun b16 => ?_) (fun b16 => ?_)
          · replace hm := bif_t b16 hm
            refine R_sq Try.f13 1012 1013 (by kernel_rfl) ?_
            refine R_sq Try.f13 2024 2025 (by kernel_rfl) ?_
            refine R_rn Try.f13 2024 13 [] [] 1 ⟨[(38, vb (a1.Low != 0))], []⟩ o0 (by kernel_rfl) (by kernel_rfl) ?_
            refine R_cn Try.f13 (.tmp 38) 4050 4051 (by kernel_rfl) (a1.Low != 0) (by kernel_rfl) (fun b17 => ?_) (fun b17 => ?_)
            · replace hm := bif_t b17 hm
              refine R_sq Try.f13 8100 8101 (by kernel_rfl) ?_
              refine R_rn Try.f13 8100 14 [] [] 1 ⟨[(2, vi 19)], []⟩ o0 (by kernel_rfl) (by kernel_rfl) ?_
              obtain rfl := Option.some.inj hm
              refine R_ret (by kernel_rfl) ?_
              exact ret_mk (by kernel_rfl) (by kernel_rfl)
            · replace hm := bif_f b17 hm
              refine R_skip (by kernel_rfl) ?_
              refine R_sq Try.f13 2026 2027 (by kernel_rfl) ?_
              refine R_rn Try.f13 2026 15 [] [] 1 ⟨[(2, vi 0)], []⟩ o0 (by kernel_rfl) (by kernel_rfl) ?_
              obtain rfl := Option.some.inj hm
              refine R_ret (by kernel_rfl) ?_
              exact ret_mk (by kernel_rfl) (by kernel_rfl)
          · replace hm := bif_f b16 hm
            refine R_skip (by kernel_rfl) ?_
            refine R_sq Try.f13 254 255 (by kernel_rfl) ?_
            refine R_join (ι := Bool) (nd Try.f13 508) (nd Try.f13 509) (by kernel_rfl) (fun p => section_Check_k3_S a1 p) (fun p => section_Check_k3 a1 p = some r) ?_ ?_
            · rintro x25 hm
              show H _ (section_Check_k3_S a1 x25) (nd Try.f13 509) _
              refine R_cn Try.f13 (.tmp 52) 1018 1019 (by kernel_rfl) x25 (by kernel_rfl) (fun b26 => ?_) (fun b26 => ?_)
              · replace hm := bif_t b26 hm
                refine R_sq Try.f13 2036 2037 (by kernel_rfl) ?_
                refine R_rn Try.f13 2036 17 [] [] 1 ⟨[(2, vi 19)], []⟩ o0 (by kernel_rfl) (by kernel_rfl) ?_
                obtain rfl := Option.some.inj hm
                refine R_ret (by kernel_rfl) ?_
                exact ret_mk (by kernel_rfl) (by kernel_rfl)
              · replace hm := bif_f b26 hm
                refine R_skip (by kernel_rfl) ?_
                refine R_sq Try.f13 510 511 (by kernel_rfl) ?_
                refine R_sq Try.f13 1020 1021 (by kernel_rfl) ?_
                refine R_rn Try.f13 1020 18 [] [] 1 ⟨[(54, vc (tl e_Span default a1.Rows)), (55, vi ((a1.Rows.length : Nat) : Int)), (56, vi 0)], []⟩ o0 (by kernel_rfl) (by kernel_rfl) ?_
                obtain ⟨u37, h36, hm⟩ := bind_s hm
                refine R_loop1 (nd Try.f13 4084) 2 (by kernel_rfl) FUEL (fun o => section_Check_L4_T) (fun v st => RetQ Try.prog Try.f13 (section_Check_x v) (section_Check_o v) .ret st) u37 (HL_enter (section_Check_L4_S a1 0) (by kernel_rfl) (by kernel_rfl) (section_Check_L4_ok E a1 FUEL 0 u37 h36)) ?_ ?_
                · rintro v38 rfl st hr
                  obtain rfl := Option.some.inj hm
                  exact hr
                · rintro o35 rfl
                  replace hm : _ = some r := hm
                  refine R_sq Try.f13 1022 1023 (by kernel_rfl) ?_
                  refine R_rn Try.f13 1022 24 [] [] 1 ⟨[(2, vi 0)], []⟩ o0 (by kernel_rfl) (by kernel_rfl) ?_
                  obtain rfl := Option.some.inj hm
                  refine R_ret (by kernel_rfl) ?_
                  exact ret_mk (by kernel_rfl) (by kernel_rfl)
            · obtain ⟨g18, hm⟩ := bif_n hm
              obtain ⟨v19, h20, hm⟩ := bind_s hm
              rcases Bool.eq_false_or_eq_true v19 with b21 | b21
              · replace hm := bif_t b21 hm
                refine R_rn Try.f13 508 16 [(4, dex (cen [] [] 1 0 (section_isEmpty_x v19) (section_isEmpty_o v19) [42] [])), (5, dfx true)] [] 1 ⟨[(1, vp 0 0), (52, vb true)], [(0, bx 24 [ci a1.Low, tl e_Span default a1.Rows])]⟩ (o1 (And.intro (inb_of g18) (And.intro (callS (K := (kx E 68 0)) ⟨[(42, va [ci ((a1.Rows.getD (0 : Int).toNat default).A), ci ((a1.Rows.getD (0 : Int).toNat default).B)])], []⟩ (opAt (rg Try.f13 508) 4) [] [] 1 o0 rfl (section_isEmpty_ok (a1.Rows.getD (0 : Int).toNat default) v19 h20) (.inl rfl) (by kernel_rfl)) b21))) (by kernel_rfl) (by kernel_rfl) ?_
                exact J_mk (true) hm (by kernel_rfl) (by kernel_rfl)
              · replace hm := bif_f b21 hm
                obtain ⟨g22, hm⟩ := bif_n hm
                obtain ⟨v23, h24, hm⟩ := bind_s hm
                refine R_rn Try.f13 508 16 [(4, dex (cen [] [] 1 0 (section_isEmpty_x v19) (section_isEmpty_o v19) [42] [])), (5, dfx false), (12, dex (cen [] [] 1 0 (section_isEmpty_x v23) (section_isEmpty_o v23) [44, 50] []))] [] 1 ⟨[(1, vp 0 0), (52, vb v23)], [(0, bx 24 [ci a1.Low, tl e_Span default a1.Rows])]⟩ (o1 (And.intro (inb_of g18) (And.intro (callS (K := (kx E 68 0)) ⟨[(42, va [ci ((a1.Rows.getD (0 : Int).toNat default).A), ci ((a1.Rows.getD (0 : Int).toNat default).B)])], []⟩ (opAt (rg Try.f13 508) 4) [] [] 1 o0 rfl (section_isEmpty_ok (a1.Rows.getD (0 : Int).toNat default) v19 h20) (.inl rfl) (by kernel_rfl)) (And.intro b21 (And.intro (inb_of g22) (callS (K := (kx E 68 0)) ⟨[(44, vb false), (50, va [ci ((a1.Rows.getD (w64 (((a1.Rows.length : Nat) : Int) - 1)).toNat default).A), ci ((a1.Rows.getD (w64 (((a1.Rows.length : Nat) : Int) - 1)).toNat default).B)])], []⟩ (opAt (rg Try.f13 508) 12) [] [] 1 o0 rfl (section_isEmpty_ok (a1.Rows.getD (w64 (((a1.Rows.length : Nat) : Int) - 1)).toNat default) v23 h24) (.inl rfl) (by kernel_rfl))))))) (by kernel_rfl) (by kernel_rfl) ?_
                exact J_mk (v23) hm (by kernel_rfl) (by kernel_rfl)
    · rcases Bool.eq_false_or_eq_true (decide (a1.Low < (-60))) with b3 | b3
      · replace hm := bif_t b3 hm
        refine R_rn Try.f13 60 4 [(3, dfx true)] [] 1 ⟨[(1, vp 0 0), (3, vi ((a1.Rows.length : Nat) : Int)), (22, vb true)], [(0, bx 24 [ci a1.Low, tl e_Span default a1.Rows])]⟩ (o1 b3) (by kernel_rfl) (by kernel_rfl) ?_
        exact J_mk (true) hm (by kernel_rfl) (by kernel_rfl)
      · replace hm := bif_f b3 hm
        refine R_rn Try.f13 60 4 [(3, dfx false)] [] 1 ⟨[(1, vp 0 0), (3, vi ((a1.Rows.length : Nat) : Int)), (22, vb (decide (a1.Low > (w64 (60 - ((a1.Rows.length : Nat) : Int))))))], [(0, bx 24 [ci a1.Low, tl e_Span default a1.Rows])]⟩ (o1 b3) (by kernel_rfl) (by kernel_rfl) ?_
        exact J_mk (decide (a1.Low > (w64 (60 - ((a1.Rows.length : Nat) : Int))))) hm (by kernel_rfl) (by kernel_rfl)

end Saw
end Go.SL

namespace Go.SL
namespace Saw
open Go.Proofs
set_option maxHeartbeats 4000000

def section_valid_x (r : Section) : V := va [ci r.Low, tl e_Span default r.Rows]

def section_valid_o (r : Section) : List (Nat × (Nat × O)) := []

set_option maxRecDepth 100000 in
theorem section_valid_ok (a1 : Section) (r : Section) (hm : section_valid a1 = some r) : CtX Try.prog globs 51 0 0 [.agg [ci a1.Low, tl e_Span default a1.Rows]] [] (section_valid_x r) (section_valid_o r) := by
  unfold section_valid at hm
  refine CtX_of_E (fn := Try.f51) (c := nd Try.f51 1) (nt := 8) (by kernel_rfl) (by kernel_rfl) (by kernel_rfl) (by kernel_rfl) fun E => ?_
  refine R_sq Try.f51 2 3 (by kernel_rfl) ?_
  refine R_rn Try.f51 2 0 [] [] 0 ⟨[(1, vp 0 0), (2, vp 1 0)], [(0, bx 24 [ci a1.Low, tl e_Span default a1.Rows]), (1, bx 24 [ci 0, .emp])]⟩ o0 (by kernel_rfl) (by kernel_rfl) ?_
  refine R_sq Try.f51 6 7 (by kernel_rfl) ?_
  refine R_sq Try.f51 12 13 (by kernel_rfl) ?_
  obtain ⟨v2, h3, hm⟩ := bind_s hm
  refine R_rn Try.f51 12 1 [(1, dex (cen [] [] 2 0 (section_Check_x v2) (section_Check_o v2) [3] []))] [] 2 ⟨[(1, vp 0 0), (2, vp 1 0), (5, vb (v2 != 0))], [(0, bx 24 [ci a1.Low, tl e_Span default a1.Rows]), (1, bx 24 [ci 0, .emp])]⟩ (o1 (callS (K := (kx E 8 0)) ⟨[(3, va [ci a1.Low, tl e_Span default a1.Rows])], []⟩ (opAt (rg Try.f51 12) 1) [] [] 2 o0 rfl (section_Check_ok a1 v2 h3) (.inl rfl) (by kernel_rfl))) (by kernel_rfl) (by kernel_rfl) ?_
  refine R_cn Try.f51 (.tmp 5) 26 27 (by kernel_rfl) (v2 != 0) (by kernel_rfl) (fun b4 => ?_) (fun b4 => ?_)
  · replace hm := bif_t b4 hm
    refine R_sq Try.f51 52 53 (by kernel_rfl) ?_
    refine R_rn Try.f51 52 2 [] [] 2 ⟨[(2, vp 1 0)], [(1, bx 24 [ci 0, .emp])]⟩ o0 (by kernel_rfl) (by kernel_rfl) ?_
    refine H_fin [.ownB 1 1 2 35 2 (rf e_Span ([] : List Span))] ⟨[(2, vp 1 0)], [(1, bx 24 [ci 0, .own 2 0 2 0]), (2, ro 0 35 2 0 (rf e_Span ([] : List Span)))]⟩ o0 (by kernel_rfl) ?_
    refine H_fin [.len 2 (([] : List Span).length), .frz 2] ⟨[(2, vp 1 0)], [(1, bx 24 [ci 0, tl e_Span default ([] : List Span)])]⟩ (o1 (And.intro (And.intro (show 0 = ([] : List Span).length from rfl) (show 0 = ([] : List Span).length from rfl)) (Nat.le_refl (([] : List Span).length)))) (by kernel_rfl) ?_
    obtain rfl := Option.some.inj hm
    refine R_ret (by kernel_rfl) ?_
    exact ret_mk (by kernel_rfl) (by kernel_rfl)
  · replace hm := bif_f b4 hm
    refine R_skip (by kernel_rfl) ?_
    refine R_sq Try.f51 14 15 (by kernel_rfl) ?_
    refine R_rn Try.f51 14 3 [] [] 2 ⟨[(2, vp 1 0)], [(1, bx 24 [ci a1.Low, tl e_Span default a1.Rows])]⟩ o0 (by kernel_rfl) (by kernel_rfl) ?_
    obtain rfl := Option.some.inj hm
    refine R_ret (by kernel_rfl) ?_
    exact ret_mk (by kernel_rfl) (by kernel_rfl)

end Saw
end Go.SL

namespace Go.SL
namespace Saw
open Go.Proofs
set_option maxHeartbeats 4000000

def section_at_x (r : Span) : V := va [ci r.A, ci r.B]

def section_at_o (r : Span) : List (Nat × (Nat × O)) := []

theorem section_at_f (r : Span) : Frozen (section_at_o r) := by
  intro i k o h
  unfold section_at_o at h
  cases h

def section_at_k1_S (a1 : Section) (a2 : Int) (x4 : Bool) : St :=
  ⟨[(1, vi a2), (2, vp 0 0), (4, vp 1 0), (18, vb x4)], [(0, bx 24 [ci a1.Low, tl e_Span default a1.Rows]), (1, bx 35 [ci 0, ci 0])]⟩

set_option maxRecDepth 100000 in
theorem section_at_ok (a1 : Section) (a2 : Int) (r : Span) (hm : section_at a1 a2 = some r) : CtX Try.prog globs 59 0 0 [.agg [ci a1.Low, tl e_Span default a1.Rows], .one (ci a2)] [] (section_at_x r) (section_at_o r) := by
  unfold section_at at hm
  refine CtX_of_E (fn := Try.f59) (c := nd Try.f59 1) (nt := 28) (by kernel_rfl) (by kernel_rfl) (by kernel_rfl) (by kernel_rfl) fun E => ?_
  refine R_sq Try.f59 2 3 (by kernel_rfl) ?_
  refine R_rn Try.f59 2 0 [] [] 0 ⟨[(1, vi a2), (2, vp 0 0), (4, vp 1 0)], [(0, bx 24 [ci a1.Low, tl e_Span default a1.Rows]), (1, bx 35 [ci 0, ci 0])]⟩ o0 (by kernel_rfl) (by kernel_rfl) ?_
  refine R_sq Try.f59 6 7 (by kernel_rfl) ?_
  refine R_join (ι := Bool) (nd Try.f59 12) (nd Try.f59 13) (by kernel_rfl) (fun p => section_at_k1_S a1 a2 p) (fun p => section_at_k1 a1 a2 p = some r) ?_ ?_
  · rintro x4 hm
    show H _ (section_at_k1_S a1 a2 x4) (nd Try.f59 13) _
    refine R_cn Try.f59 (.tmp 18) 26 27 (by kernel_rfl) x4 (by kernel_rfl) (fun b5 => ?_) (fun b5 => ?_)
    · replace hm := bif_t b5 hm
      refine R_sq Try.f59 52 53 (by kernel_rfl) ?_
      refine R_rn Try.f59 52 2 [] [] 2 ⟨[(4, vp 1 0)], [(1, bx 35 [ci 0, ci 0])]⟩ o0 (by kernel_rfl) (by kernel_rfl) ?_
      obtain rfl := Option.some.inj hm
      refine R_ret (by kernel_rfl) ?_
      exact ret_mk (by kernel_rfl) (by kernel_rfl)
    · replace hm := bif_f b5 hm
      refine R_skip (by kernel_rfl) ?_
      refine R_sq Try.f59 14 15 (by kernel_rfl) ?_
      obtain ⟨g6, hm⟩ := bif_n hm
      refine R_rn Try.f59 14 3 [] [] 2 ⟨[(4, vp 1 0)], [(1, bx 35 [ci ((a1.Rows.getD (w64 (a2 - a1.Low)).toNat default).A), ci ((a1.Rows.getD (w64 (a2 - a1.Low)).toNat default).B)])]⟩ (o1 (inb_of g6)) (by kernel_rfl) (by kernel_rfl) ?_
      obtain rfl := Option.some.inj hm
      refine R_ret (by kernel_rfl) ?_
      exact ret_mk (by kernel_rfl) (by kernel_rfl)
  · rcases Bool.eq_false_or_eq_true (decide (a2 < a1.Low)) with b3 | b3
    · replace hm := bif_t b3 hm
      refine R_rn Try.f59 12 1 [(4, dfx true)] [] 2 ⟨[(1, vi a2), (2, vp 0 0), (4, vp 1 0), (18, vb true)], [(0, bx 24 [ci a1.Low, tl e_Span default a1.Rows]), (1, bx 35 [ci 0, ci 0])]⟩ (o1 b3) (by kernel_rfl) (by kernel_rfl) ?_
      exact J_mk (true) hm (by kernel_rfl) (by kernel_rfl)
    · replace hm := bif_f b3 hm
      refine R_rn Try.f59 12 1 [(4, dfx false)] [] 2 ⟨[(1, vi a2), (2, vp 0 0), (4, vp 1 0), (18, vb (decide (a2 ≥ (w64 (a1.Low + ((a1.Rows.length : Nat) : Int))))))], [(0, bx 24 [ci a1.Low, tl e_Span default a1.Rows]), (1, bx 35 [ci 0, ci 0])]⟩ (o1 b3) (by kernel_rfl) (by kernel_rfl) ?_
      exact J_mk (decide (a2 ≥ (w64 (a1.Low + ((a1.Rows.length : Nat) : Int))))) hm (by kernel_rfl) (by kernel_rfl)

end Saw
end Go.SL

namespace Go.SL
namespace Saw
open Go.Proofs
set_option maxHeartbeats 4000000

def section_Flip_1_x (a1 : Int) (a2 : Section) (r : Span) : V := va [ci r.A, ci r.B]

def section_Flip_1_o (a1 : Int) (a2 : Section) (r : Span) : List (Nat × (Nat × O)) := [(0, bx 24 [ci a2.Low, tl e_Span default a2.Rows])]

set_option maxRecDepth 100000 in
theorem section_Flip_1_ok (a1 : Int) (a2 : Section) (r : Span) (hm : section_Flip_1 a1 a2 = some r) : CtX Try.prog globs 60 1 1 [.one (ci a1), .one (.bptr 0 0 0)] [(0, bx 24 [ci a2.Low, tl e_Span default a2.Rows])] (section_Flip_1_x a1 a2 r) (section_Flip_1_o a1 a2 r) := by
  unfold section_Flip_1 at hm
  refine CtX_of_E (fn := Try.f60) (c := nd Try.f60 1) (nt := 9) (by kernel_rfl) (by kernel_rfl) (by kernel_rfl) (by kernel_rfl) fun E => ?_
  refine R_sq Try.f60 2 3 (by kernel_rfl) ?_
  refine R_rn Try.f60 2 0 [] [] 1 ⟨[(0, vi a1), (1, vp 0 0), (3, vp 1 0)], [(0, bx 24 [ci a2.Low, tl e_Span default a2.Rows]), (1, bx 35 [ci 0, ci 0])]⟩ o0 (by kernel_rfl) (by kernel_rfl) ?_
  refine R_sq Try.f60 6 7 (by kernel_rfl) ?_
  obtain ⟨v3, h4, hm⟩ := bind_s hm
  refine R_rn Try.f60 6 1 [(4, dex (cen [] [] 2 0 (section_at_x v3) (section_at_o v3) [4, 7] []))] [] 2 ⟨[(3, vp 1 0)], [(0, bx 24 [ci a2.Low, tl e_Span default a2.Rows]), (1, bx 35 [ci v3.A, ci v3.B])]⟩ (o1 (callS (K := (kx E 9 1)) ⟨[(4, va [ci a2.Low, tl e_Span default a2.Rows]), (7, vi (w64 ((w64 (0 - a1)) - 1)))], []⟩ (opAt (rg Try.f60 6) 4) [] [] 2 o0 rfl (section_at_ok a2 (w64 ((w64 (0 - a1)) - 1)) v3 h4) (.inl rfl) (by kernel_rfl))) (by kernel_rfl) (by kernel_rfl) ?_
  obtain rfl := Option.some.inj hm
  refine R_ret (by kernel_rfl) ?_
  exact ret_mk (by kernel_rfl) (by kernel_rfl)

end Saw
end Go.SL

namespace Go.SL
namespace Saw
open Go.Proofs
set_option maxHeartbeats 4000000

def section_build_s1_x (a1 : Section) (r : Section) : V := va [ci r.Low, .own 1 0 2 r.Rows.length]

def section_build_s1_o (a1 : Section) (r : Section) : List (Nat × (Nat × O)) := [(0, bx 24 [ci a1.Low, tl e_Span default a1.Rows]), (1, ro 0 35 2 r.Rows.length (rf e_Span r.Rows))]

def section_build_s1_k3_S (a1 : Section) (x3 : Int) (x17 : Int) (x18 : Int) (l19 : List Span) (l19n : Nat) : St :=
  ⟨[(0, vc (.fn 60 [.bptr 0 0 0])), (2, vp 1 0), (3, vp 2 0), (4, vi x17), (5, vi x3)], [(0, bx 24 [ci a1.Low, tl e_Span default a1.Rows]), (1, bx 24 [ci 0, .emp]), (2, bx 24 [ci x18, .own 3 0 2 l19n]), (3, ro 0 35 2 l19n (rf e_Span l19))]⟩

def section_build_s1_k2_S (a1 : Section) (x3 : Int) (l5 : List Span) (v7 : Span) (x13 : Int) : St :=
  ⟨[(0, vc (.fn 60 [.bptr 0 0 0])), (2, vp 1 0), (3, vp 2 0), (5, vi x3), (6, vp 4 0)], [(0, bx 24 [ci a1.Low, tl e_Span default a1.Rows]), (1, bx 24 [ci 0, .emp]), (2, bx 24 [ci x13, .own 3 0 2 l5.length]), (3, ro 0 35 2 l5.length (rf e_Span l5)), (4, bx 35 [ci v7.A, ci v7.B])]⟩

def section_build_s1_L1_S (a1 : Section) (x2 : Int) (x3 : Int) (x4 : Int) (l5 : List Span) (l5n : Nat) : St :=
  ⟨[(0, vc (.fn 60 [.bptr 0 0 0])), (2, vp 1 0), (3, vp 2 0), (4, vi x2), (5, vi x3)], [(0, bx 24 [ci a1.Low, tl e_Span default a1.Rows]), (1, bx 24 [ci 0, .emp]), (2, bx 24 [ci x4, .own 3 0 2 l5n]), (3, ro 0 35 2 l5n (rf e_Span l5))]⟩

def section_build_s1_L1_T (a1 : Section) (x20 : Int) (x21 : Int) (l22 : List Span) : St :=
  ⟨[(2, vp 1 0), (3, vp 2 0), (4, vi x20)], [(0, bx 24 [ci a1.Low, tl e_Span default a1.Rows]), (1, bx 24 [ci 0, .emp]), (2, bx 24 [ci x21, .own 3 0 2 l22.length]), (3, ro 0 35 2 l22.length (rf e_Span l22))]⟩

set_option maxRecDepth 100000 in
theorem section_build_s1_L1_ok (E : Env 1) (a1 : Section) : ∀ (n : Nat) (x2 : Int) (x3 : Int) (x4 : Int) (l5 : List Span) (l5n : Nat) (res : Int × Int × (List Span)), l5.length = l5n → section_build_s1_L1 a1 n x2 x3 x4 l5 = some res → HL (kx E 46 1) (nd Try.f45 244) (loopQ0 0 (fun o => section_build_s1_L1_T a1 o.1 o.2.1 o.2.2) res) n (section_build_s1_L1_S a1 x2 x3 x4 l5 l5n) := by
  intro n
  induction n with
  | zero =>
    intro x2 x3 x4 l5 l5n res hl0 hm
    cases hm
  | succ n ih =>
    intro x2 x3 x4 l5 l5n res hl0 hm
    subst hl0
    refine HL_succ ?_
    refine R_sq Try.f45 488 489 (by kernel_rfl) ?_
    refine R_sq Try.f45 976 977 (by kernel_rfl) ?_
    refine R_rn Try.f45 976 4 [] [] 4 ⟨[(0, vc (.fn 60 [.bptr 0 0 0])), (2, vp 1 0), (3, vp 2 0), (4, vi x2), (5, vi x3), (8, vb (decide (x3 < 60)))], [(0, bx 24 [ci a1.Low, tl e_Span default a1.Rows]), (1, bx 24 [ci 0, .emp]), (2, bx 24 [ci x4, .own 3 0 2 l5.length]), (3, ro 0 35 2 l5.length (rf e_Span l5))]⟩ o0 (by kernel_rfl) (by kernel_rfl) ?_
    refine R_cn Try.f45 (.tmp 8) 1954 1955 (by kernel_rfl) (decide (x3 < 60)) (by kernel_rfl) (fun b6 => ?_) (fun b6 => ?_)
    · replace hm := bif_t b6 hm
      refine R_skip (by kernel_rfl) ?_
      refine R_join (ι := Int × Int × (List Span) × Nat) (nd Try.f45 978) (nd Try.f45 979) (by kernel_rfl) (fun p => section_build_s1_k3_S a1 x3 p.1 p.2.1 p.2.2.1 p.2.2.2) (fun p => p.2.2.1.length = p.2.2.2 ∧ section_build_s1_k3 x3 (section_build_s1_L1 a1 n) p.1 p.2.1 p.2.2.1 = some res) ?_ ?_
      · rintro ⟨x17, x18, l19, l19n⟩ ⟨el19, hm⟩
        replace el19 : l19.length = l19n := el19
        subst el19
        show H _ (section_build_s1_k3_S a1 x3 x17 x18 l19 l19.length) (nd Try.f45 979) _
        refine R_rn Try.f45 979 5 [] [] 6 ⟨[(0, vc (.fn 60 [.bptr 0 0 0])), (2, vp 1 0), (3, vp 2 0), (4, vi x17), (5, vi (w64 (x3 + 1)))], [(0, bx 24 [ci a1.Low, tl e_Span default a1.Rows]), (1, bx 24 [ci 0, .emp]), (2, bx 24 [ci x18, .own 3 0 2 l19.length]), (3, ro 0 35 2 l19.length (rf e_Span l19))]⟩ o0 (by kernel_rfl) (by kernel_rfl) ?_
        exact HL_enter (section_build_s1_L1_S a1 x17 (w64 (x3 + 1)) x18 l19 l19.length) (by kernel_rfl) (by kernel_rfl) (ih x17 (w64 (x3 + 1)) x18 l19 l19.length _ rfl hm)
      · refine R_bk Try.f45 1 1956 (by kernel_rfl) ?_
        refine R_sq Try.f45 3912 3913 (by kernel_rfl) ?_
        obtain ⟨v7, h8, hm⟩ := bind_s hm
        refine R_rn Try.f45 3912 6 [(2, dex (cen [(0, 0)] [0] 3 1 (section_Flip_1_x x3 a1 v7) (section_Flip_1_o x3 a1 v7) [11, 12] [0]))] [] 4 ⟨[(0, vc (.fn 60 [.bptr 0 0 0])), (2, vp 1 0), (3, vp 2 0), (4, vi x2), (5, vi x3), (6, vp 4 0)], [(0, bx 24 [ci a1.Low, tl e_Span default a1.Rows]), (1, bx 24 [ci 0, .emp]), (2, bx 24 [ci x4, .own 3 0 2 l5.length]), (3, ro 0 35 2 l5.length (rf e_Span l5)), (4, bx 35 [ci v7.A, ci v7.B])]⟩ (o1 (callS (K := (kx E 46 1)) ⟨[(11, vc (.fn 60 [.bptr 0 0 0])), (12, vi x3)], [(0, bx 24 [ci a1.Low, tl e_Span default a1.Rows])]⟩ (opAt (rg Try.f45 3912) 2) [(0, 0)] [0] 3 o0 rfl (section_Flip_1_ok x3 a1 v7 h8) (.inl rfl) (by kernel_rfl))) (by kernel_rfl) (by kernel_rfl) ?_
        refine R_bk Try.f45 2 7826 (by kernel_rfl) ?_
        refine R_sq Try.f45 15652 15653 (by kernel_rfl) ?_
        obtain ⟨v9, h10, hm⟩ := bind_s hm
        refine R_rn Try.f45 15652 7 [(1, dex (cen [] [] 5 0 (section_isEmpty_x v9) (section_isEmpty_o v9) [15] []))] [] 5 ⟨[(0, vc (.fn 60 [.bptr 0 0 0])), (2, vp 1 0), (3, vp 2 0), (4, vi x2), (5, vi x3), (6, vp 4 0), (14, vb (!v9))], [(0, bx 24 [ci a1.Low, tl e_Span default a1.Rows]), (1, bx 24 [ci 0, .emp]), (2, bx 24 [ci x4, .own 3 0 2 l5.length]), (3, ro 0 35 2 l5.length (rf e_Span l5)), (4, bx 35 [ci v7.A, ci v7.B])]⟩ (o1 (callS (K := (kx E 46 1)) ⟨[(15, va [ci v7.A, ci v7.B])], []⟩ (opAt (rg Try.f45 15652) 1) [] [] 5 o0 rfl (section_isEmpty_ok v7 v9 h10) (.inl rfl) (by kernel_rfl))) (by kernel_rfl) (by kernel_rfl) ?_
        refine R_cn Try.f45 (.tmp 14) 31306 31307 (by kernel_rfl) (!v9) (by kernel_rfl) (fun b11 => ?_) (fun b11 => ?_)
        · replace hm := bif_t b11 hm
          refine R_join (ι := Int) (nd Try.f45 62612) (nd Try.f45 62613) (by kernel_rfl) (fun p => section_build_s1_k2_S a1 x3 l5 v7 p) (fun p => section_build_s1_k2 x3 l5 (section_build_s1_L1 a1 n) v7 p = some res) ?_ ?_
          · rintro x13 hm
            show H _ (section_build_s1_k2_S a1 x3 l5 v7 x13) (nd Try.f45 62613) _
            refine R_sq Try.f45 125226 125227 (by kernel_rfl) ?_
            obtain ⟨g14, hm⟩ := bif_n hm
            refine R_rn Try.f45 125226 10 [(3, drw 5 0 (rf e_Span ([v7] : List Span))), (4, drw 3 1 (rf e_Span (l5 ++ ([v7] : List Span))))] [] 5 ⟨[(0, vc (.fn 60 [.bptr 0 0 0])), (2, vp 1 0), (3, vp 2 0), (5, vi x3)], [(0, bx 24 [ci a1.Low, tl e_Span default a1.Rows]), (1, bx 24 [ci 0, .emp]), (2, bx 24 [ci x13, .own 3 1 2 (l5.length + 1)]), (3, ro 1 35 2 (l5.length + 1) (rf e_Span (l5 ++ ([v7] : List Span))))]⟩ (o1 (And.intro (litP e_Span default 2 (fun _ => rfl) ([v7] : List Span) 1 rfl) (apP e_Span default l5 ([v7] : List Span) l5.length 1 2 16 (1 ≤ 1) (Nat.le_refl _) rfl rfl (fun _ => rfl) (room_of g14)))) (by kernel_rfl) (by kernel_rfl) ?_
            refine R_rn Try.f45 125227 11 [] [] 6 ⟨[(0, vc (.fn 60 [.bptr 0 0 0])), (2, vp 1 0), (3, vp 2 0), (4, vi (((l5.length + 1) : Nat) : Int)), (5, vi x3)], [(0, bx 24 [ci a1.Low, tl e_Span default a1.Rows]), (1, bx 24 [ci 0, .emp]), (2, bx 24 [ci x13, .own 3 1 2 (l5.length + 1)]), (3, ro 1 35 2 (l5.length + 1) (rf e_Span (l5 ++ ([v7] : List Span))))]⟩ o0 (by kernel_rfl) (by kernel_rfl) ?_
            exact J_mk ((((l5.length + 1) : Nat) : Int), x13, (l5 ++ ([v7] : List Span)), (l5.length + 1)) ⟨(len_app rfl rfl), hm⟩ (by kernel_rfl) (by kernel_rfl)
          · refine R_sq Try.f45 125224 125225 (by kernel_rfl) ?_
            refine R_rn Try.f45 125224 8 [] [] 5 ⟨[(0, vc (.fn 60 [.bptr 0 0 0])), (2, vp 1 0), (3, vp 2 0), (5, vi x3), (6, vp 4 0), (19, vb (x2 == 0))], [(0, bx 24 [ci a1.Low, tl e_Span default a1.Rows]), (1, bx 24 [ci 0, .emp]), (2, bx 24 [ci x4, .own 3 0 2 l5.length]), (3, ro 0 35 2 l5.length (rf e_Span l5)), (4, bx 35 [ci v7.A, ci v7.B])]⟩ o0 (by kernel_rfl) (by kernel_rfl) ?_
            refine R_cn Try.f45 (.tmp 19) 250450 250451 (by kernel_rfl) (x2 == 0) (by kernel_rfl) (fun b12 => ?_) (fun b12 => ?_)
            · replace hm := bif_t b12 hm
              refine R_rn Try.f45 250450 9 [] [] 5 ⟨[(0, vc (.fn 60 [.bptr 0 0 0])), (2, vp 1 0), (3, vp 2 0), (5, vi x3), (6, vp 4 0)], [(0, bx 24 [ci a1.Low, tl e_Span default a1.Rows]), (1, bx 24 [ci 0, .emp]), (2, bx 24 [ci x3, .own 3 0 2 l5.length]), (3, ro 0 35 2 l5.length (rf e_Span l5)), (4, bx 35 [ci v7.A, ci v7.B])]⟩ o0 (by kernel_rfl) (by kernel_rfl) ?_
              exact J_mk (x3) hm (by kernel_rfl) (by kernel_rfl)
            · replace hm := bif_f b12 hm
              refine R_skip (by kernel_rfl) ?_
              exact J_mk (x4) hm (by kernel_rfl) (by kernel_rfl)
        · replace hm := bif_f b11 hm
          refine R_sq Try.f45 62614 62615 (by kernel_rfl) ?_
          refine R_rn Try.f45 62614 12 [] [] 5 ⟨[(0, vc (.fn 60 [.bptr 0 0 0])), (2, vp 1 0), (3, vp 2 0), (4, vi x2), (5, vi x3), (31, vb (decide (x2 > 0)))], [(0, bx 24 [ci a1.Low, tl e_Span default a1.Rows]), (1, bx 24 [ci 0, .emp]), (2, bx 24 [ci x4, .own 3 0 2 l5.length]), (3, ro 0 35 2 l5.length (rf e_Span l5))]⟩ o0 (by kernel_rfl) (by kernel_rfl) ?_
          refine R_cn Try.f45 (.tmp 31) 125230 125231 (by kernel_rfl) (decide (x2 > 0)) (by kernel_rfl) (fun b15 => ?_) (fun b15 => ?_)
          · replace hm := bif_t b15 hm
            obtain ⟨g16, hm⟩ := bif_n hm
            refine R_rn Try.f45 125230 13 [(3, drw 5 0 (rf e_Span ([(Span.mk 0 0)] : List Span))), (4, drw 3 1 (rf e_Span (l5 ++ ([(Span.mk 0 0)] : List Span))))] [] 5 ⟨[(0, vc (.fn 60 [.bptr 0 0 0])), (2, vp 1 0), (3, vp 2 0), (4, vi x2), (5, vi x3)], [(0, bx 24 [ci a1.Low, tl e_Span default a1.Rows]), (1, bx 24 [ci 0, .emp]), (2, bx 24 [ci x4, .own 3 1 2 (l5.length + 1)]), (3, ro 1 35 2 (l5.length + 1) (rf e_Span (l5 ++ ([(Span.mk 0 0)] : List Span))))]⟩ (o1 (And.intro (litP e_Span default 2 (fun _ => rfl) ([(Span.mk 0 0)] : List Span) 1 rfl) (apP e_Span default l5 ([(Span.mk 0 0)] : List Span) l5.length 1 2 16 (1 ≤ 1) (Nat.le_refl _) rfl rfl (fun _ => rfl) (room_of g16)))) (by kernel_rfl) (by kernel_rfl) ?_
            exact J_mk (x2, x4, (l5 ++ ([(Span.mk 0 0)] : List Span)), (l5.length + 1)) ⟨(len_app rfl rfl), hm⟩ (by kernel_rfl) (by kernel_rfl)
          · replace hm := bif_f b15 hm
            refine R_skip (by kernel_rfl) ?_
            exact J_mk (x2, x4, l5, l5.length) ⟨rfl, hm⟩ (by kernel_rfl) (by kernel_rfl)
    · replace hm := bif_f b6 hm
      refine R_exit 0 (by kernel_rfl) ?_
      obtain rfl := Option.some.inj hm
      exact L0_mk (by kernel_rfl) (by kernel_rfl)

set_option maxRecDepth 100000 in
theorem section_build_s1_ok (a1 : Section) (r : Section) (hm : section_build_s1 a1 = some r) : CtX Try.prog globs 45 1 1 [.one (.fn 60 [.bptr 0 0 0])] [(0, bx 24 [ci a1.Low, tl e_Span default a1.Rows])] (section_build_s1_x a1 r) (section_build_s1_o a1 r) := by
  unfold section_build_s1 at hm
  refine CtX_of_E (fn := Try.f45) (c := nd Try.f45 1) (nt := 46) (by kernel_rfl) (by kernel_rfl) (by kernel_rfl) (by kernel_rfl) fun E => ?_
  refine R_sq Try.f45 2 3 (by kernel_rfl) ?_
  refine R_rn Try.f45 2 0 [] [] 1 ⟨[(0, vc (.fn 60 [.bptr 0 0 0])), (2, vp 1 0)], [(0, bx 24 [ci a1.Low, tl e_Span default a1.Rows]), (1, bx 24 [ci 0, .emp])]⟩ o0 (by kernel_rfl) (by kernel_rfl) ?_
  refine R_sq Try.f45 6 7 (by kernel_rfl) ?_
  refine R_rn Try.f45 6 1 [] [] 2 ⟨[(0, vc (.fn 60 [.bptr 0 0 0])), (2, vp 1 0), (3, vp 2 0)], [(0, bx 24 [ci a1.Low, tl e_Span default a1.Rows]), (1, bx 24 [ci 0, .emp]), (2, bx 24 [ci 0, .emp])]⟩ o0 (by kernel_rfl) (by kernel_rfl) ?_
  refine R_sq Try.f45 14 15 (by kernel_rfl) ?_
  refine R_rn Try.f45 14 2 [] [] 3 ⟨[(0, vc (.fn 60 [.bptr 0 0 0])), (2, vp 1 0), (3, vp 2 0), (4, vi 0)], [(0, bx 24 [ci a1.Low, tl e_Span default a1.Rows]), (1, bx 24 [ci 0, .emp]), (2, bx 24 [ci 0, .emp])]⟩ o0 (by kernel_rfl) (by kernel_rfl) ?_
  refine R_sq Try.f45 30 31 (by kernel_rfl) ?_
  refine R_sq Try.f45 60 61 (by kernel_rfl) ?_
  refine R_rn Try.f45 60 3 [] [] 3 ⟨[(0, vc (.fn 60 [.bptr 0 0 0])), (2, vp 1 0), (3, vp 2 0), (4, vi 0), (5, vi (-60))], [(0, bx 24 [ci a1.Low, tl e_Span default a1.Rows]), (1, bx 24 [ci 0, .emp]), (2, bx 24 [ci 0, .emp])]⟩ o0 (by kernel_rfl) (by kernel_rfl) ?_
  refine H_fin [.ownB 2 1 3 35 2 (rf e_Span ([] : List Span))] ⟨[(0, vc (.fn 60 [.bptr 0 0 0])), (2, vp 1 0), (3, vp 2 0), (4, vi 0), (5, vi (-60))], [(0, bx 24 [ci a1.Low, tl e_Span default a1.Rows]), (1, bx 24 [ci 0, .emp]), (2, bx 24 [ci 0, .own 3 0 2 0]), (3, ro 0 35 2 0 (rf e_Span ([] : List Span)))]⟩ o0 (by kernel_rfl) ?_
  obtain ⟨o23, h24, hm⟩ := bind_s hm
  refine R_loop0 (nd Try.f45 244) 0 (by kernel_rfl) FUEL (fun o => section_build_s1_L1_T a1 o.1 o.2.1 o.2.2) o23 (HL_enter (section_build_s1_L1_S a1 0 (-60) 0 ([] : List Span) 0) (by kernel_rfl) (by kernel_rfl) (section_build_s1_L1_ok E a1 FUEL 0 (-60) 0 ([] : List Span) 0 o23 rfl h24)) ?_
  refine R_sq Try.f45 62 63 (by kernel_rfl) ?_
  obtain ⟨g25, hm⟩ := bif_n hm
  refine R_rn Try.f45 62 14 [] [.row 3 o23.1.toNat (rf e_Span (o23.2.2.take o23.1.toNat))] 4 ⟨[(2, vp 1 0), (3, vp 2 0)], [(0, bx 24 [ci a1.Low, tl e_Span default a1.Rows]), (1, bx 24 [ci 0, .emp]), (2, bx 24 [ci o23.2.1, .own 3 0 2 o23.1.toNat]), (3, ro 0 35 2 o23.1.toNat (rf e_Span (o23.2.2.take o23.1.toNat)))]⟩ (o1 (And.intro (And.intro (slOk_of g25).2.1 (slOk_of g25).2.2) (tkP e_Span default o23.2.2 o23.2.2.length o23.1.toNat (show o23.1.toNat ≤ o23.2.2.length by have := (slOk_of g25); omega)))) (by kernel_rfl) (by kernel_rfl) ?_
  refine R_sq Try.f45 126 127 (by kernel_rfl) ?_
  refine R_rn Try.f45 126 15 [] [] 4 ⟨[(2, vp 1 0)], [(0, bx 24 [ci a1.Low, tl e_Span default a1.Rows]), (1, bx 24 [ci o23.2.1, .own 3 0 2 o23.1.toNat]), (3, ro 0 35 2 o23.1.toNat (rf e_Span (o23.2.2.take o23.1.toNat)))]⟩ o0 (by kernel_rfl) (by kernel_rfl) ?_
  refine H_fin [.len 3 ((o23.2.2.take o23.1.toNat).length)] ⟨[(2, vp 1 0)], [(0, bx 24 [ci a1.Low, tl e_Span default a1.Rows]), (1, bx 24 [ci o23.2.1, .own 3 0 2 ((o23.2.2.take o23.1.toNat).length)]), (3, ro 0 35 2 ((o23.2.2.take o23.1.toNat).length) (rf e_Span (o23.2.2.take o23.1.toNat)))]⟩ (o1 (And.intro (Eq.symm (show (o23.2.2.take o23.1.toNat).length = o23.1.toNat from (len_take rfl (show o23.1.toNat ≤ o23.2.2.length by have := (slOk_of g25); omega)))) (Eq.symm (show (o23.2.2.take o23.1.toNat).length = o23.1.toNat from (len_take rfl (show o23.1.toNat ≤ o23.2.2.length by have := (slOk_of g25); omega)))))) (by kernel_rfl) ?_
  obtain rfl := Option.some.inj hm
  refine H_swap 3 1 (by kernel_rfl) ?_
  refine R_ret (by kernel_rfl) ?_
  exact ret_mk (by kernel_rfl) (by kernel_rfl)

end Saw
end Go.SL

namespace Go.SL
namespace Saw
open Go.Proofs
set_option maxHeartbeats 4000000

def section_Flip_x (r : Section) : V := va [ci r.Low, .own 0 0 2 r.Rows.length]

def section_Flip_o (r : Section) : List (Nat × (Nat × O)) := [(0, ro 0 35 2 r.Rows.length (rf e_Span r.Rows))]

theorem section_Flip_f (r : Section) : Frozen (section_Flip_o r) := by
  intro i k o h
  unfold section_Flip_o at h
  rw [look_cons] at h
  split at h
  · cases h; exact fun _ _ => rfl
  · cases h

set_option maxRecDepth 100000 in
theorem section_Flip_ok (a1 : Section) (r : Section) (hm : section_Flip a1 = some r) : CtX Try.prog globs 29 0 0 [.agg [ci a1.Low, tl e_Span default a1.Rows]] [] (section_Flip_x r) (section_Flip_o r) := by
  unfold section_Flip at hm
  refine CtX_of_E (fn := Try.f29) (c := nd Try.f29 1) (nt := 7) (by kernel_rfl) (by kernel_rfl) (by kernel_rfl) (by kernel_rfl) fun E => ?_
  refine R_sq Try.f29 2 3 (by kernel_rfl) ?_
  refine R_rn Try.f29 2 0 [] [] 0 ⟨[(1, vp 0 0), (2, vp 1 0)], [(0, bx 24 [ci a1.Low, tl e_Span default a1.Rows]), (1, bx 24 [ci 0, .emp])]⟩ o0 (by kernel_rfl) (by kernel_rfl) ?_
  refine R_sq Try.f29 6 7 (by kernel_rfl) ?_
  obtain ⟨v2, h3, hm⟩ := bind_s hm
  refine R_rn Try.f29 6 1 [(1, dex (cen [] [] 2 0 (section_valid_x v2) (section_valid_o v2) [3] []))] [] 2 ⟨[(1, vp 0 0), (2, vp 1 0)], [(0, bx 24 [ci v2.Low, tl e_Span default v2.Rows]), (1, bx 24 [ci 0, .emp])]⟩ (o1 (callS (K := (kx E 7 0)) ⟨[(3, va [ci a1.Low, tl e_Span default a1.Rows])], []⟩ (opAt (rg Try.f29 6) 1) [] [] 2 o0 rfl (section_valid_ok a1 v2 h3) (.inl rfl) (by kernel_rfl))) (by kernel_rfl) (by kernel_rfl) ?_
  refine R_sq Try.f29 14 15 (by kernel_rfl) ?_
  obtain ⟨v4, h5, hm⟩ := bind_s hm
  refine R_rn Try.f29 14 2 [(1, dex (cen [(0, 0)] [0] 1 1 (section_build_s1_x v2 v4) (section_build_s1_o v2 v4) [5] [0]))] [] 2 ⟨[(2, vp 1 0)], [(1, bx 24 [ci v4.Low, .own 2 0 2 v4.Rows.length]), (2, ro 0 35 2 v4.Rows.length (rf e_Span v4.Rows))]⟩ (o1 (callS (K := (kx E 7 0)) ⟨[(5, vc (.fn 60 [.bptr 0 0 0]))], [(0, bx 24 [ci v2.Low, tl e_Span default v2.Rows])]⟩ (opAt (rg Try.f29 14) 1) [(0, 0)] [0] 1 o0 rfl (section_build_s1_ok v2 v4 h5) (.inl rfl) (by kernel_rfl))) (by kernel_rfl) (by kernel_rfl) ?_
  obtain rfl := Option.some.inj hm
  refine H_swap 2 0 (by kernel_rfl) ?_
  refine R_ret (by kernel_rfl) ?_
  exact ret_mk (by kernel_rfl) (by kernel_rfl)

end Saw
end Go.SL

namespace Go.SL
namespace Saw
open Go.Proofs
set_option maxHeartbeats 4000000

def span_size_x (r : Int) : V := vc (.val (.int .u64 r))

def span_size_o (r : Int) : List (Nat × (Nat × O)) := []

theorem span_size_f (r : Int) : Frozen (span_size_o r) := by
  intro i k o h
  unfold span_size_o at h
  cases h

set_option maxRecDepth 100000 in
theorem span_size_ok (a1 : Span) (r : Int) (hm : span_size a1 = some r) : CtX Try.prog globs 85 0 0 [.agg [ci a1.A, ci a1.B]] [] (span_size_x r) (span_size_o r) := by
  unfold span_size at hm
  refine CtX_of_E (fn := Try.f85) (c := nd Try.f85 1) (nt := 15) (by kernel_rfl) (by kernel_rfl) (by kernel_rfl) (by kernel_rfl) fun E => ?_
  refine R_sq Try.f85 2 3 (by kernel_rfl) ?_
  refine R_rn Try.f85 2 0 [] [] 0 ⟨[(1, vp 0 0)], [(0, bx 35 [ci a1.A, ci a1.B])]⟩ o0 (by kernel_rfl) (by kernel_rfl) ?_
  refine R_sq Try.f85 6 7 (by kernel_rfl) ?_
  refine R_sq Try.f85 12 13 (by kernel_rfl) ?_
  refine R_rn Try.f85 12 1 [] [] 1 ⟨[(1, vp 0 0), (7, vb (decide (a1.A ≥ a1.B)))], [(0, bx 35 [ci a1.A, ci a1.B])]⟩ o0 (by kernel_rfl) (by kernel_rfl) ?_
  refine R_cn Try.f85 (.tmp 7) 26 27 (by kernel_rfl) (decide (a1.A ≥ a1.B)) (by kernel_rfl) (fun b2 => ?_) (fun b2 => ?_)
  · replace hm := bif_t b2 hm
    refine R_sq Try.f85 52 53 (by kernel_rfl) ?_
    refine R_rn Try.f85 52 2 [] [] 1 ⟨[(2, vc (.val (.int .u64 0)))], []⟩ o0 (by kernel_rfl) (by kernel_rfl) ?_
    obtain rfl := Option.some.inj hm
    refine R_ret (by kernel_rfl) ?_
    exact ret_mk (by kernel_rfl) (by kernel_rfl)
  · replace hm := bif_f b2 hm
    refine R_skip (by kernel_rfl) ?_
    refine R_sq Try.f85 14 15 (by kernel_rfl) ?_
    refine R_rn Try.f85 14 3 [] [] 1 ⟨[(2, vc (.val (.int .u64 (IntKind.u64.wrap ((IntKind.u64.wrap (a1.B)) - (IntKind.u64.wrap (a1.A)))))))], []⟩ o0 (by kernel_rfl) (by kernel_rfl) ?_
    obtain rfl := Option.some.inj hm
    refine R_ret (by kernel_rfl) ?_
    exact ret_mk (by kernel_rfl) (by kernel_rfl)

end Saw
end Go.SL

namespace Go.SL
namespace Saw
open Go.Proofs
set_option maxHeartbeats 4000000

def span_limited_x (r : Int) : V := vi r

def span_limited_o (r : Int) : List (Nat × (Nat × O)) := []

theorem span_limited_f (r : Int) : Frozen (span_limited_o r) := by
  intro i k o h
  unfold span_limited_o at h
  cases h

set_option maxRecDepth 100000 in
theorem span_limited_ok (a1 : Int) (r : Int) (hm : span_limited a1 = some r) : CtX Try.prog globs 84 0 0 [.one (.val (.int .u64 a1))] [] (span_limited_x r) (span_limited_o r) := by
  unfold span_limited at hm
  refine CtX_of_E (fn := Try.f84) (c := nd Try.f84 1) (nt := 6) (by kernel_rfl) (by kernel_rfl) (by kernel_rfl) (by kernel_rfl) fun E => ?_
  refine R_sq Try.f84 2 3 (by kernel_rfl) ?_
  refine R_rn Try.f84 2 0 [] [] 0 ⟨[(0, vc (.val (.int .u64 a1)))], []⟩ o0 (by kernel_rfl) (by kernel_rfl) ?_
  refine R_sq Try.f84 6 7 (by kernel_rfl) ?_
  refine R_rn Try.f84 6 1 [] [] 0 ⟨[(2, vi (w64 (imin a1 9223372036854775807)))], []⟩ o0 (by kernel_rfl) (by kernel_rfl) ?_
  obtain rfl := Option.some.inj hm
  refine R_ret (by kernel_rfl) ?_
  exact ret_mk (by kernel_rfl) (by kernel_rfl)

end Saw
end Go.SL

namespace Go.SL
namespace Saw
open Go.Proofs
set_option maxHeartbeats 4000000

def span_Len_x (r : Int) : V := vi r

def span_Len_o (r : Int) : List (Nat × (Nat × O)) := []

theorem span_Len_f (r : Int) : Frozen (span_Len_o r) := by
  intro i k o h
  unfold span_Len_o at h
  cases h

set_option maxRecDepth 100000 in
theorem span_Len_ok (a1 : Span) (r : Int) (hm : span_Len a1 = some r) : CtX Try.prog globs 52 0 0 [.agg [ci a1.A, ci a1.B]] [] (span_Len_x r) (span_Len_o r) := by
  unfold span_Len at hm
  refine CtX_of_E (fn := Try.f52) (c := nd Try.f52 1) (nt := 6) (by kernel_rfl) (by kernel_rfl) (by kernel_rfl) (by kernel_rfl) fun E => ?_
  refine R_sq Try.f52 2 3 (by kernel_rfl) ?_
  refine R_rn Try.f52 2 0 [] [] 0 ⟨[(1, vp 0 0)], [(0, bx 35 [ci a1.A, ci a1.B])]⟩ o0 (by kernel_rfl) (by kernel_rfl) ?_
  refine R_sq Try.f52 6 7 (by kernel_rfl) ?_
  obtain ⟨v2, h3, hm⟩ := bind_s hm
  obtain ⟨v4, h5, hm⟩ := bind_s hm
  refine R_rn Try.f52 6 1 [(1, dex (cen [] [] 1 0 (span_size_x v2) (span_size_o v2) [3] [])), (2, dex (cen [] [] 1 0 (span_limited_x v4) (span_limited_o v4) [4] []))] [] 1 ⟨[(2, vi v4)], []⟩ (o1 (And.intro (callS (K := (kx E 6 0)) ⟨[(3, va [ci a1.A, ci a1.B])], []⟩ (opAt (rg Try.f52 6) 1) [] [] 1 o0 rfl (span_size_ok a1 v2 h3) (.inl rfl) (by kernel_rfl)) (callS (K := (kx E 6 0)) ⟨[(4, vc (.val (.int .u64 v2)))], []⟩ (opAt (rg Try.f52 6) 2) [] [] 1 o0 rfl (span_limited_ok v2 v4 h5) (.inl rfl) (by kernel_rfl)))) (by kernel_rfl) (by kernel_rfl) ?_
  obtain rfl := Option.some.inj hm
  refine R_ret (by kernel_rfl) ?_
  exact ret_mk (by kernel_rfl) (by kernel_rfl)

end Saw
end Go.SL
