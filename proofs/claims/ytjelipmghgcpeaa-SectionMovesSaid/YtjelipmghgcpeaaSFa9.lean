import Derived.Test.YtjelipmghgcpeaaSBase
import Derived.Test.YtjelipmghgcpeaaSFa6
set_option linter.unusedVariables false
set_option linter.unusedSimpArgs false
namespace Go.SL
namespace Saw
open Go.Proofs
set_option maxHeartbeats 4000000

def ref10_Shift_x (r : Section) : V := va [ci r.Low, tl e_Span default r.Rows]

def ref10_Shift_o (r : Section) : List (Nat × (Nat × O)) := []

def ref10_Shift_k3_S (a2 : Int) (a3 : Int) (v4 : Section) (x12 : Int) (l13 : List Span) (x19 : Span) : St :=
  ⟨[(1, vi a2), (3, vp 0 0), (6, vp 1 0), (7, vp 2 0), (8, vi x12), (9, vp 4 0)], [(0, bx 24 [ci v4.Low, tl e_Span default v4.Rows]), (1, bx 24 [ci 0, .emp]), (2, bx 24 [ci (w64 (v4.Low + a3)), .own 3 0 2 l13.length]), (3, ro 0 35 2 l13.length (rf e_Span l13)), (4, bx 35 [ci x19.A, ci x19.B])]⟩

def ref10_Shift_L2_S (a2 : Int) (a3 : Int) (v4 : Section) (x12 : Int) (l13 : List Span) (l13n : Nat) : St :=
  ⟨[(1, vi a2), (3, vp 0 0), (6, vp 1 0), (7, vp 2 0), (8, vi x12)], [(0, bx 24 [ci v4.Low, tl e_Span default v4.Rows]), (1, bx 24 [ci 0, .emp]), (2, bx 24 [ci (w64 (v4.Low + a3)), .own 3 0 2 l13n]), (3, ro 0 35 2 l13n (rf e_Span l13))]⟩

def ref10_Shift_L2_T (a3 : Int) (v4 : Section) (l21 : List Span) : St :=
  ⟨[(6, vp 1 0), (7, vp 2 0)], [(1, bx 24 [ci 0, .emp]), (2, bx 24 [ci (w64 (v4.Low + a3)), .own 3 0 2 l21.length]), (3, ro 0 35 2 l21.length (rf e_Span l21))]⟩

def ref10_Shift_k1_S (a2 : Int) (a3 : Int) (v4 : Section) (x10 : Bool) : St :=
  ⟨[(1, vi a2), (2, vi a3), (3, vp 0 0), (6, vp 1 0), (31, vb x10)], [(0, bx 24 [ci v4.Low, tl e_Span default v4.Rows]), (1, bx 24 [ci 0, .emp])]⟩

set_option maxRecDepth 100000 in
theorem ref10_Shift_L2_ok (E : Env 0) (a2 : Int) (a3 : Int) (v4 : Section) : ∀ (n : Nat) (x12 : Int) (l13 : List Span) (l13n : Nat) (res : (List Span)), l13.length = l13n → ref10_Shift_L2 a2 v4 n x12 l13 = some res → HL (kx E 70 0) (nd Try.f26 500) (loopQ0 0 (fun o => ref10_Shift_L2_T a3 v4 o) res) n (ref10_Shift_L2_S a2 a3 v4 x12 l13 l13n) := by
  intro n
  induction n with
  | zero =>
    intro x12 l13 l13n res hl0 hm
    cases hm
  | succ n ih =>
    intro x12 l13 l13n res hl0 hm
    subst hl0
    refine HL_succ ?_
    refine R_sq Try.f26 1000 1001 (by kernel_rfl) ?_
    refine R_sq Try.f26 2000 2001 (by kernel_rfl) ?_
    refine R_rn Try.f26 2000 6 [] [] 4 ⟨[(1, vi a2), (3, vp 0 0), (6, vp 1 0), (7, vp 2 0), (8, vi x12), (42, vb (decide (x12 < ((v4.Rows.length : Nat) : Int))))], [(0, bx 24 [ci v4.Low, tl e_Span default v4.Rows]), (1, bx 24 [ci 0, .emp]), (2, bx 24 [ci (w64 (v4.Low + a3)), .own 3 0 2 l13.length]), (3, ro 0 35 2 l13.length (rf e_Span l13))]⟩ o0 (by kernel_rfl) (by kernel_rfl) ?_
    refine R_cn Try.f26 (.tmp 42) 4002 4003 (by kernel_rfl) (decide (x12 < ((v4.Rows.length : Nat) : Int))) (by kernel_rfl) (fun b14 => ?_) (fun b14 => ?_)
    · replace hm := bif_t b14 hm
      refine R_skip (by kernel_rfl) ?_
      refine R_sq Try.f26 2002 2003 (by kernel_rfl) ?_
      refine R_bk Try.f26 1 4004 (by kernel_rfl) ?_
      refine R_sq Try.f26 8008 8009 (by kernel_rfl) ?_
      obtain ⟨g15, hm⟩ := bif_n hm
      refine R_rn Try.f26 8008 8 [] [] 4 ⟨[(1, vi a2), (3, vp 0 0), (6, vp 1 0), (7, vp 2 0), (8, vi x12), (9, vp 4 0)], [(0, bx 24 [ci v4.Low, tl e_Span default v4.Rows]), (1, bx 24 [ci 0, .emp]), (2, bx 24 [ci (w64 (v4.Low + a3)), .own 3 0 2 l13.length]), (3, ro 0 35 2 l13.length (rf e_Span l13)), (4, bx 35 [ci ((v4.Rows.getD x12.toNat default).A), ci ((v4.Rows.getD x12.toNat default).B)])]⟩ (o1 (inb_of g15)) (by kernel_rfl) (by kernel_rfl) ?_
      refine R_join (ι := Span) (nd Try.f26 16018) (nd Try.f26 16019) (by kernel_rfl) (fun p => ref10_Shift_k3_S a2 a3 v4 x12 l13 p) (fun p => ref10_Shift_k3 x12 l13 (ref10_Shift_L2 a2 v4 n) p = some res) ?_ ?_
      · rintro x19 hm
        show H _ (ref10_Shift_k3_S a2 a3 v4 x12 l13 x19) (nd Try.f26 16019) _
        obtain ⟨g20, hm⟩ := bif_n hm
        refine R_rn Try.f26 16019 11 [(3, drw 5 0 (rf e_Span ([x19] : List Span))), (4, drw 3 1 (rf e_Span (l13 ++ ([x19] : List Span))))] [] 5 ⟨[(1, vi a2), (3, vp 0 0), (6, vp 1 0), (7, vp 2 0), (8, vi x12)], [(0, bx 24 [ci v4.Low, tl e_Span default v4.Rows]), (1, bx 24 [ci 0, .emp]), (2, bx 24 [ci (w64 (v4.Low + a3)), .own 3 1 2 (l13.length + 1)]), (3, ro 1 35 2 (l13.length + 1) (rf e_Span (l13 ++ ([x19] : List Span))))]⟩ (o1 (And.intro (litP e_Span default 2 (fun _ => rfl) ([x19] : List Span) 1 rfl) (apP e_Span default l13 ([x19] : List Span) l13.length 1 2 16 (1 ≤ 1) (Nat.le_refl _) rfl rfl (fun _ => rfl) (room_of g20)))) (by kernel_rfl) (by kernel_rfl) ?_
        refine R_rn Try.f26 2003 7 [] [] 6 ⟨[(1, vi a2), (3, vp 0 0), (6, vp 1 0), (7, vp 2 0), (8, vi (w64 (x12 + 1)))], [(0, bx 24 [ci v4.Low, tl e_Span default v4.Rows]), (1, bx 24 [ci 0, .emp]), (2, bx 24 [ci (w64 (v4.Low + a3)), .own 3 1 2 (l13.length + 1)]), (3, ro 1 35 2 (l13.length + 1) (rf e_Span (l13 ++ ([x19] : List Span))))]⟩ o0 (by kernel_rfl) (by kernel_rfl) ?_
        exact HL_enter (ref10_Shift_L2_S a2 a3 v4 (w64 (x12 + 1)) (l13 ++ ([x19] : List Span)) (l13.length + 1)) (by kernel_rfl) (by kernel_rfl) (ih (w64 (x12 + 1)) (l13 ++ ([x19] : List Span)) (l13.length + 1) _ (len_app rfl rfl) hm)
      · refine R_sq Try.f26 32036 32037 (by kernel_rfl) ?_
        obtain ⟨v16, h17, hm⟩ := bind_s hm
        refine R_rn Try.f26 32036 9 [(1, dex (cen [] [] 5 0 (ref10_empty_x v16) (ref10_empty_o v16) [50] []))] [] 5 ⟨[(1, vi a2), (3, vp 0 0), (6, vp 1 0), (7, vp 2 0), (8, vi x12), (9, vp 4 0), (52, vb (!v16))], [(0, bx 24 [ci v4.Low, tl e_Span default v4.Rows]), (1, bx 24 [ci 0, .emp]), (2, bx 24 [ci (w64 (v4.Low + a3)), .own 3 0 2 l13.length]), (3, ro 0 35 2 l13.length (rf e_Span l13)), (4, bx 35 [ci ((v4.Rows.getD x12.toNat default).A), ci ((v4.Rows.getD x12.toNat default).B)])]⟩ (o1 (callS (K := (kx E 70 0)) ⟨[(50, va [ci ((v4.Rows.getD x12.toNat default).A), ci ((v4.Rows.getD x12.toNat default).B)])], []⟩ (opAt (rg Try.f26 32036) 1) [] [] 5 o0 rfl (ref10_empty_ok (v4.Rows.getD x12.toNat default) v16 h17) (.inl rfl) (by kernel_rfl))) (by kernel_rfl) (by kernel_rfl) ?_
        refine R_cn Try.f26 (.tmp 52) 64074 64075 (by kernel_rfl) (!v16) (by kernel_rfl) (fun b18 => ?_) (fun b18 => ?_)
        · replace hm := bif_t b18 hm
          refine R_rn Try.f26 64074 10 [] [] 5 ⟨[(1, vi a2), (3, vp 0 0), (6, vp 1 0), (7, vp 2 0), (8, vi x12), (9, vp 4 0)], [(0, bx 24 [ci v4.Low, tl e_Span default v4.Rows]), (1, bx 24 [ci 0, .emp]), (2, bx 24 [ci (w64 (v4.Low + a3)), .own 3 0 2 l13.length]), (3, ro 0 35 2 l13.length (rf e_Span l13)), (4, bx 35 [ci (w64 (((v4.Rows.getD x12.toNat default).A) + a2)), ci (w64 (((v4.Rows.getD x12.toNat default).B) + a2))])]⟩ o0 (by kernel_rfl) (by kernel_rfl) ?_
          exact J_mk ((Span.mk (w64 (((v4.Rows.getD x12.toNat default).A) + a2)) (w64 (((v4.Rows.getD x12.toNat default).B) + a2)))) hm (by kernel_rfl) (by kernel_rfl)
        · replace hm := bif_f b18 hm
          refine R_skip (by kernel_rfl) ?_
          exact J_mk ((v4.Rows.getD x12.toNat default)) hm (by kernel_rfl) (by kernel_rfl)
    · replace hm := bif_f b14 hm
      refine R_exit 0 (by kernel_rfl) ?_
      obtain rfl := Option.some.inj hm
      exact L0_mk (by kernel_rfl) (by kernel_rfl)

set_option maxRecDepth 100000 in
theorem ref10_Shift_ok (a1 : Section) (a2 : Int) (a3 : Int) (r : Section) (hm : ref10_Shift a1 a2 a3 = some r) : CtX Try.prog globs 26 0 0 [.agg [ci a1.Low, tl e_Span default a1.Rows], .one (ci a2), .one (ci a3)] [] (ref10_Shift_x r) (ref10_Shift_o r) := by
  unfold ref10_Shift at hm
  refine CtX_of_E (fn := Try.f26) (c := nd Try.f26 1) (nt := 70) (by kernel_rfl) (by kernel_rfl) (by kernel_rfl) (by kernel_rfl) fun E => ?_
  refine R_sq Try.f26 2 3 (by kernel_rfl) ?_
  refine R_rn Try.f26 2 0 [] [] 0 ⟨[(1, vi a2), (2, vi a3), (3, vp 0 0), (6, vp 1 0)], [(0, bx 24 [ci a1.Low, tl e_Span default a1.Rows]), (1, bx 24 [ci 0, .emp])]⟩ o0 (by kernel_rfl) (by kernel_rfl) ?_
  refine R_sq Try.f26 6 7 (by kernel_rfl) ?_
  obtain ⟨v4, h5, hm⟩ := bind_s hm
  refine R_rn Try.f26 6 1 [(1, dex (cen [] [] 2 0 (ref10_Valid_x v4) (ref10_Valid_o v4) [10] []))] [] 2 ⟨[(1, vi a2), (2, vi a3), (3, vp 0 0), (6, vp 1 0)], [(0, bx 24 [ci v4.Low, tl e_Span default v4.Rows]), (1, bx 24 [ci 0, .emp])]⟩ (o1 (callS (K := (kx E 70 0)) ⟨[(10, va [ci a1.Low, tl e_Span default a1.Rows])], []⟩ (opAt (rg Try.f26 6) 1) [] [] 2 o0 rfl (ref10_Valid_ok a1 v4 h5) (.inl rfl) (by kernel_rfl))) (by kernel_rfl) (by kernel_rfl) ?_
  refine R_sq Try.f26 14 15 (by kernel_rfl) ?_
  refine R_join (ι := Bool) (nd Try.f26 28) (nd Try.f26 29) (by kernel_rfl) (fun p => ref10_Shift_k1_S a2 a3 v4 p) (fun p => ref10_Shift_k1 a2 a3 v4 p = some r) ?_ ?_
  · rintro x10 hm
    show H _ (ref10_Shift_k1_S a2 a3 v4 x10) (nd Try.f26 29) _
    refine R_cn Try.f26 (.tmp 31) 58 59 (by kernel_rfl) x10 (by kernel_rfl) (fun b11 => ?_) (fun b11 => ?_)
    · replace hm := bif_t b11 hm
      refine R_sq Try.f26 116 117 (by kernel_rfl) ?_
      refine R_rn Try.f26 116 3 [] [] 2 ⟨[(6, vp 1 0)], [(1, bx 24 [ci 0, .emp])]⟩ o0 (by kernel_rfl) (by kernel_rfl) ?_
      refine H_fin [.ownB 1 1 2 35 2 (rf e_Span ([] : List Span))] ⟨[(6, vp 1 0)], [(1, bx 24 [ci 0, .own 2 0 2 0]), (2, ro 0 35 2 0 (rf e_Span ([] : List Span)))]⟩ o0 (by kernel_rfl) ?_
      refine H_fin [.len 2 (([] : List Span).length), .frz 2] ⟨[(6, vp 1 0)], [(1, bx 24 [ci 0, tl e_Span default ([] : List Span)])]⟩ (o1 (And.intro (And.intro (show 0 = ([] : List Span).length from rfl) (show 0 = ([] : List Span).length from rfl)) (Nat.le_refl (([] : List Span).length)))) (by kernel_rfl) ?_
      obtain rfl := Option.some.inj hm
      refine R_ret (by kernel_rfl) ?_
      exact ret_mk (by kernel_rfl) (by kernel_rfl)
    · replace hm := bif_f b11 hm
      refine R_skip (by kernel_rfl) ?_
      refine R_sq Try.f26 30 31 (by kernel_rfl) ?_
      refine R_rn Try.f26 30 4 [] [] 2 ⟨[(1, vi a2), (3, vp 0 0), (6, vp 1 0), (7, vp 2 0)], [(0, bx 24 [ci v4.Low, tl e_Span default v4.Rows]), (1, bx 24 [ci 0, .emp]), (2, bx 24 [ci (w64 (v4.Low + a3)), .emp])]⟩ o0 (by kernel_rfl) (by kernel_rfl) ?_
      refine R_sq Try.f26 62 63 (by kernel_rfl) ?_
      refine R_sq Try.f26 124 125 (by kernel_rfl) ?_
      refine R_rn Try.f26 124 5 [] [] 3 ⟨[(1, vi a2), (3, vp 0 0), (6, vp 1 0), (7, vp 2 0), (8, vi 0)], [(0, bx 24 [ci v4.Low, tl e_Span default v4.Rows]), (1, bx 24 [ci 0, .emp]), (2, bx 24 [ci (w64 (v4.Low + a3)), .emp])]⟩ o0 (by kernel_rfl) (by kernel_rfl) ?_
      refine H_fin [.ownB 2 1 3 35 2 (rf e_Span ([] : List Span))] ⟨[(1, vi a2), (3, vp 0 0), (6, vp 1 0), (7, vp 2 0), (8, vi 0)], [(0, bx 24 [ci v4.Low, tl e_Span default v4.Rows]), (1, bx 24 [ci 0, .emp]), (2, bx 24 [ci (w64 (v4.Low + a3)), .own 3 0 2 0]), (3, ro 0 35 2 0 (rf e_Span ([] : List Span)))]⟩ o0 (by kernel_rfl) ?_
      obtain ⟨o22, h23, hm⟩ := bind_s hm
      refine R_loop0 (nd Try.f26 500) 0 (by kernel_rfl) FUEL (fun o => ref10_Shift_L2_T a3 v4 o) o22 (HL_enter (ref10_Shift_L2_S a2 a3 v4 0 ([] : List Span) 0) (by kernel_rfl) (by kernel_rfl) (ref10_Shift_L2_ok E a2 a3 v4 FUEL 0 ([] : List Span) 0 o22 rfl h23)) ?_
      refine R_sq Try.f26 126 127 (by kernel_rfl) ?_
      obtain ⟨v24, h25, hm⟩ := bind_s hm
      refine R_rn Try.f26 126 12 [(1, dpr [.frz 3] (dex (cen [] [] 4 0 (ref10_Valid_x v24) (ref10_Valid_o v24) [68] [])))] [] 4 ⟨[(6, vp 1 0)], [(1, bx 24 [ci v24.Low, tl e_Span default v24.Rows])]⟩ (o1 (And.intro (And.intro (Nat.le_refl o22.length) (Nat.le_refl o22.length)) (callS (K := (kx E 70 0)) ⟨[(68, va [ci (w64 (v4.Low + a3)), tl e_Span default o22])], []⟩ (opAt (rg Try.f26 126) 1) [] [] 4 o0 rfl (ref10_Valid_ok (Section.mk (w64 (v4.Low + a3)) o22) v24 h25) (.inl rfl) (by kernel_rfl)))) (by kernel_rfl) (by kernel_rfl) ?_
      obtain rfl := Option.some.inj hm
      refine R_ret (by kernel_rfl) ?_
      exact ret_mk (by kernel_rfl) (by kernel_rfl)
  · rcases Bool.eq_false_or_eq_true (decide (a2 < (-1200))) with b6 | b6
    · replace hm := bif_t b6 hm
      refine R_rn Try.f26 28 2 [(2, dfx true)] [] 2 ⟨[(1, vi a2), (2, vi a3), (3, vp 0 0), (6, vp 1 0), (31, vb true)], [(0, bx 24 [ci v4.Low, tl e_Span default v4.Rows]), (1, bx 24 [ci 0, .emp])]⟩ (o1 b6) (by kernel_rfl) (by kernel_rfl) ?_
      exact J_mk (true) hm (by kernel_rfl) (by kernel_rfl)
    · replace hm := bif_f b6 hm
      rcases Bool.eq_false_or_eq_true (decide (a2 > 1200)) with b7 | b7
      · replace hm := bif_t b7 hm
        refine R_rn Try.f26 28 2 [(2, dfx false), (6, dfx true)] [] 2 ⟨[(1, vi a2), (2, vi a3), (3, vp 0 0), (6, vp 1 0), (31, vb true)], [(0, bx 24 [ci v4.Low, tl e_Span default v4.Rows]), (1, bx 24 [ci 0, .emp])]⟩ (o1 (And.intro b6 b7)) (by kernel_rfl) (by kernel_rfl) ?_
        exact J_mk (true) hm (by kernel_rfl) (by kernel_rfl)
      · replace hm := bif_f b7 hm
        rcases Bool.eq_false_or_eq_true (decide (a3 < (-120))) with b8 | b8
        · replace hm := bif_t b8 hm
          refine R_rn Try.f26 28 2 [(2, dfx false), (6, dfx false), (10, dfx true)] [] 2 ⟨[(1, vi a2), (2, vi a3), (3, vp 0 0), (6, vp 1 0), (31, vb true)], [(0, bx 24 [ci v4.Low, tl e_Span default v4.Rows]), (1, bx 24 [ci 0, .emp])]⟩ (o1 (And.intro b6 (And.intro b7 b8))) (by kernel_rfl) (by kernel_rfl) ?_
          exact J_mk (true) hm (by kernel_rfl) (by kernel_rfl)
        · replace hm := bif_f b8 hm
          rcases Bool.eq_false_or_eq_true (decide (a3 > 120)) with b9 | b9
          · replace hm := bif_t b9 hm
            refine R_rn Try.f26 28 2 [(2, dfx false), (6, dfx false), (10, dfx false), (14, dfx true)] [] 2 ⟨[(1, vi a2), (2, vi a3), (3, vp 0 0), (6, vp 1 0), (31, vb true)], [(0, bx 24 [ci v4.Low, tl e_Span default v4.Rows]), (1, bx 24 [ci 0, .emp])]⟩ (o1 (And.intro b6 (And.intro b7 (And.intro b8 b9)))) (by kernel_rfl) (by kernel_rfl) ?_
            exact J_mk (true) hm (by kernel_rfl) (by kernel_rfl)
          · replace hm := bif_f b9 hm
            refine R_rn Try.f26 28 2 [(2, dfx false), (6, dfx false), (10, dfx false), (14, dfx false)] [] 2 ⟨[(1, vi a2), (2, vi a3), (3, vp 0 0), (6, vp 1 0), (31, vb (((v4.Rows.length : Nat) : Int) == 0))], [(0, bx 24 [ci v4.Low, tl e_Span default v4.Rows]), (1, bx 24 [ci 0, .emp])]⟩ (o1 (And.intro b6 (And.intro b7 (And.intro b8 b9)))) (by kernel_rfl) (by kernel_rfl) ?_
            exact J_mk (((v4.Rows.length : Nat) : Int) == 0) hm (by kernel_rfl) (by kernel_rfl)

end Saw
end Go.SL

namespace Go.SL
namespace Saw
open Go.Proofs
set_option maxHeartbeats 4000000

def ref10_Mirror_x (r : Section) : V := va [ci r.Low, .own 0 0 2 r.Rows.length]

def ref10_Mirror_o (r : Section) : List (Nat × (Nat × O)) := [(0, ro 0 35 2 r.Rows.length (rf e_Span r.Rows))]

theorem ref10_Mirror_f (r : Section) : Frozen (ref10_Mirror_o r) := by
  intro i k o h
  unfold ref10_Mirror_o at h
  rw [look_cons] at h
  split at h
  · cases h; exact fun _ _ => rfl
  · cases h

def ref10_Mirror_L1_S (v2 : Section) (x4 : Int) (l5 : List Span) (l5n : Nat) : St :=
  ⟨[(1, vp 0 0), (2, vp 1 0), (3, vp 2 0), (4, vi x4)], [(0, bx 24 [ci v2.Low, tl e_Span default v2.Rows]), (1, bx 24 [ci 0, .emp]), (2, bx 24 [ci v2.Low, .own 3 0 2 l5n]), (3, ro 0 35 2 l5n (rf e_Span l5))]⟩

def ref10_Mirror_L1_T (v2 : Section) (l9 : List Span) : St :=
  ⟨[(2, vp 1 0), (3, vp 2 0)], [(1, bx 24 [ci 0, .emp]), (2, bx 24 [ci v2.Low, .own 3 0 2 l9.length]), (3, ro 0 35 2 l9.length (rf e_Span l9))]⟩

set_option maxRecDepth 100000 in
theorem ref10_Mirror_L1_ok (E : Env 0) (v2 : Section) : ∀ (n : Nat) (x4 : Int) (l5 : List Span) (l5n : Nat) (res : (List Span)), l5.length = l5n → ref10_Mirror_L1 v2 n x4 l5 = some res → HL (kx E 38 0) (nd Try.f28 244) (loopQ0 0 (fun o => ref10_Mirror_L1_T v2 o) res) n (ref10_Mirror_L1_S v2 x4 l5 l5n) := by
  intro n
  induction n with
  | zero =>
    intro x4 l5 l5n res hl0 hm
    cases hm
  | succ n ih =>
    intro x4 l5 l5n res hl0 hm
    subst hl0
    refine HL_succ ?_
    refine R_sq Try.f28 488 489 (by kernel_rfl) ?_
    refine R_sq Try.f28 976 977 (by kernel_rfl) ?_
    refine R_rn Try.f28 976 4 [] [] 4 ⟨[(1, vp 0 0), (2, vp 1 0), (3, vp 2 0), (4, vi x4), (14, vb (decide (x4 < ((v2.Rows.length : Nat) : Int))))], [(0, bx 24 [ci v2.Low, tl e_Span default v2.Rows]), (1, bx 24 [ci 0, .emp]), (2, bx 24 [ci v2.Low, .own 3 0 2 l5.length]), (3, ro 0 35 2 l5.length (rf e_Span l5))]⟩ o0 (by kernel_rfl) (by kernel_rfl) ?_
    refine R_cn Try.f28 (.tmp 14) 1954 1955 (by kernel_rfl) (decide (x4 < ((v2.Rows.length : Nat) : Int))) (by kernel_rfl) (fun b6 => ?_) (fun b6 => ?_)
    · replace hm := bif_t b6 hm
      refine R_skip (by kernel_rfl) ?_
      refine R_sq Try.f28 978 979 (by kernel_rfl) ?_
      refine R_bk Try.f28 1 1956 (by kernel_rfl) ?_
      obtain ⟨g7, hm⟩ := bif_n hm
      obtain ⟨g8, hm⟩ := bif_n hm
      refine R_dr Try.f28 1956 6 [] [(17, drw 4 0 (rf e_Span ([(Span.mk (w64 (0 - ((v2.Rows.getD x4.toNat default).B))) (w64 (0 - ((v2.Rows.getD x4.toNat default).A))))] : List Span))), (18, drw 3 1 (rf e_Span (l5 ++ ([(Span.mk (w64 (0 - ((v2.Rows.getD x4.toNat default).B))) (w64 (0 - ((v2.Rows.getD x4.toNat default).A))))] : List Span))))] [] [0, 1, 0, 4, 0, 28, 60, 124, 252, 0, 512, 0, 3584, 7680, 15872, 32256, 65532, 131068, 262143, 524287, 1048575] 4 ⟨[(1, vp 0 0), (2, vp 1 0), (3, vp 2 0), (4, vi x4)], [(0, bx 24 [ci v2.Low, tl e_Span default v2.Rows]), (1, bx 24 [ci 0, .emp]), (2, bx 24 [ci v2.Low, .own 3 1 2 (l5.length + 1)]), (3, ro 1 35 2 (l5.length + 1) (rf e_Span (l5 ++ ([(Span.mk (w64 (0 - ((v2.Rows.getD x4.toNat default).B))) (w64 (0 - ((v2.Rows.getD x4.toNat default).A))))] : List Span))))]⟩ (o1 (And.intro (inb_of g7) (And.intro (inb_of g7) (And.intro (litP e_Span default 2 (fun _ => rfl) ([(Span.mk (w64 (0 - ((v2.Rows.getD x4.toNat default).B))) (w64 (0 - ((v2.Rows.getD x4.toNat default).A))))] : List Span) 1 rfl) (apP e_Span default l5 ([(Span.mk (w64 (0 - ((v2.Rows.getD x4.toNat default).B))) (w64 (0 - ((v2.Rows.getD x4.toNat default).A))))] : List Span) l5.length 1 2 16 (1 ≤ 1) (Nat.le_refl _) rfl rfl (fun _ => rfl) (room_of g8)))))) (by kernel_rfl) (by kernel_rfl) ?_
      refine R_rn Try.f28 979 5 [] [] 5 ⟨[(1, vp 0 0), (2, vp 1 0), (3, vp 2 0), (4, vi (w64 (x4 + 1)))], [(0, bx 24 [ci v2.Low, tl e_Span default v2.Rows]), (1, bx 24 [ci 0, .emp]), (2, bx 24 [ci v2.Low, .own 3 1 2 (l5.length + 1)]), (3, ro 1 35 2 (l5.length + 1) (rf e_Span (l5 ++ ([(Span.mk (w64 (0 - ((v2.Rows.getD x4.toNat default).B))) (w64 (0 - ((v2.Rows.getD x4.toNat default).A))))] : List Span))))]⟩ o0 (by kernel_rfl) (by kernel_rfl) ?_
      exact HL_enter (ref10_Mirror_L1_S v2 (w64 (x4 + 1)) (l5 ++ ([(Span.mk (w64 (0 - ((v2.Rows.getD x4.toNat default).B))) (w64 (0 - ((v2.Rows.getD x4.toNat default).A))))] : List Span)) (l5.length + 1)) (by kernel_rfl) (by kernel_rfl) (ih (w64 (x4 + 1)) (l5 ++ ([(Span.mk (w64 (0 - ((v2.Rows.getD x4.toNat default).B))) (w64 (0 - ((v2.Rows.getD x4.toNat default).A))))] : List Span)) (l5.length + 1) _ (len_app rfl rfl) hm)
    · replace hm := bif_f b6 hm
      refine R_exit 0 (by kernel_rfl) ?_
      obtain rfl := Option.some.inj hm
      exact L0_mk (by kernel_rfl) (by kernel_rfl)

set_option maxRecDepth 100000 in
theorem ref10_Mirror_ok (a1 : Section) (r : Section) (hm : ref10_Mirror a1 = some r) : CtX Try.prog globs 28 0 0 [.agg [ci a1.Low, tl e_Span default a1.Rows]] [] (ref10_Mirror_x r) (ref10_Mirror_o r) := by
  unfold ref10_Mirror at hm
  refine CtX_of_E (fn := Try.f28) (c := nd Try.f28 1) (nt := 38) (by kernel_rfl) (by kernel_rfl) (by kernel_rfl) (by kernel_rfl) fun E => ?_
  refine R_sq Try.f28 2 3 (by kernel_rfl) ?_
  refine R_rn Try.f28 2 0 [] [] 0 ⟨[(1, vp 0 0), (2, vp 1 0)], [(0, bx 24 [ci a1.Low, tl e_Span default a1.Rows]), (1, bx 24 [ci 0, .emp])]⟩ o0 (by kernel_rfl) (by kernel_rfl) ?_
  refine R_sq Try.f28 6 7 (by kernel_rfl) ?_
  obtain ⟨v2, h3, hm⟩ := bind_s hm
  refine R_rn Try.f28 6 1 [(1, dex (cen [] [] 2 0 (ref10_Valid_x v2) (ref10_Valid_o v2) [5] []))] [] 2 ⟨[(1, vp 0 0), (2, vp 1 0)], [(0, bx 24 [ci v2.Low, tl e_Span default v2.Rows]), (1, bx 24 [ci 0, .emp])]⟩ (o1 (callS (K := (kx E 38 0)) ⟨[(5, va [ci a1.Low, tl e_Span default a1.Rows])], []⟩ (opAt (rg Try.f28 6) 1) [] [] 2 o0 rfl (ref10_Valid_ok a1 v2 h3) (.inl rfl) (by kernel_rfl))) (by kernel_rfl) (by kernel_rfl) ?_
  refine R_sq Try.f28 14 15 (by kernel_rfl) ?_
  refine R_rn Try.f28 14 2 [] [] 2 ⟨[(1, vp 0 0), (2, vp 1 0), (3, vp 2 0)], [(0, bx 24 [ci v2.Low, tl e_Span default v2.Rows]), (1, bx 24 [ci 0, .emp]), (2, bx 24 [ci v2.Low, .emp])]⟩ o0 (by kernel_rfl) (by kernel_rfl) ?_
  refine R_sq Try.f28 30 31 (by kernel_rfl) ?_
  refine R_sq Try.f28 60 61 (by kernel_rfl) ?_
  refine R_rn Try.f28 60 3 [] [] 3 ⟨[(1, vp 0 0), (2, vp 1 0), (3, vp 2 0), (4, vi 0)], [(0, bx 24 [ci v2.Low, tl e_Span default v2.Rows]), (1, bx 24 [ci 0, .emp]), (2, bx 24 [ci v2.Low, .emp])]⟩ o0 (by kernel_rfl) (by kernel_rfl) ?_
  refine H_fin [.ownB 2 1 3 35 2 (rf e_Span ([] : List Span))] ⟨[(1, vp 0 0), (2, vp 1 0), (3, vp 2 0), (4, vi 0)], [(0, bx 24 [ci v2.Low, tl e_Span default v2.Rows]), (1, bx 24 [ci 0, .emp]), (2, bx 24 [ci v2.Low, .own 3 0 2 0]), (3, ro 0 35 2 0 (rf e_Span ([] : List Span)))]⟩ o0 (by kernel_rfl) ?_
  obtain ⟨o10, h11, hm⟩ := bind_s hm
  refine R_loop0 (nd Try.f28 244) 0 (by kernel_rfl) FUEL (fun o => ref10_Mirror_L1_T v2 o) o10 (HL_enter (ref10_Mirror_L1_S v2 0 ([] : List Span) 0) (by kernel_rfl) (by kernel_rfl) (ref10_Mirror_L1_ok E v2 FUEL 0 ([] : List Span) 0 o10 rfl h11)) ?_
  refine R_sq Try.f28 62 63 (by kernel_rfl) ?_
  refine R_rn Try.f28 62 7 [] [] 4 ⟨[(2, vp 1 0)], [(1, bx 24 [ci v2.Low, .own 3 0 2 o10.length]), (3, ro 0 35 2 o10.length (rf e_Span o10))]⟩ o0 (by kernel_rfl) (by kernel_rfl) ?_
  obtain rfl := Option.some.inj hm
  refine H_swap 3 0 (by kernel_rfl) ?_
  refine R_ret (by kernel_rfl) ?_
  exact ret_mk (by kernel_rfl) (by kernel_rfl)

end Saw
end Go.SL

namespace Go.SL
namespace Saw
open Go.Proofs
set_option maxHeartbeats 4000000

def ref10_Flip_x (r : Section) : V := va [ci r.Low, .own 0 0 2 r.Rows.length]

def ref10_Flip_o (r : Section) : List (Nat × (Nat × O)) := [(0, ro 0 35 2 r.Rows.length (rf e_Span r.Rows))]

theorem ref10_Flip_f (r : Section) : Frozen (ref10_Flip_o r) := by
  intro i k o h
  unfold ref10_Flip_o at h
  rw [look_cons] at h
  split at h
  · cases h; exact fun _ _ => rfl
  · cases h

def ref10_Flip_L1_S (v2 : Section) (x4 : Int) (l5 : List Span) (l5n : Nat) : St :=
  ⟨[(1, vp 0 0), (2, vp 1 0), (3, vp 2 0), (4, vi x4)], [(0, bx 24 [ci v2.Low, tl e_Span default v2.Rows]), (1, bx 24 [ci 0, .emp]), (2, bx 24 [ci (w64 (0 - (w64 (v2.Low + ((v2.Rows.length : Nat) : Int))))), .own 3 0 2 l5n]), (3, ro 0 35 2 l5n (rf e_Span l5))]⟩

def ref10_Flip_L1_T (v2 : Section) (l9 : List Span) : St :=
  ⟨[(2, vp 1 0), (3, vp 2 0)], [(1, bx 24 [ci 0, .emp]), (2, bx 24 [ci (w64 (0 - (w64 (v2.Low + ((v2.Rows.length : Nat) : Int))))), .own 3 0 2 l9.length]), (3, ro 0 35 2 l9.length (rf e_Span l9))]⟩

set_option maxRecDepth 100000 in
theorem ref10_Flip_L1_ok (E : Env 0) (v2 : Section) : ∀ (n : Nat) (x4 : Int) (l5 : List Span) (l5n : Nat) (res : (List Span)), l5.length = l5n → ref10_Flip_L1 v2 n x4 l5 = some res → HL (kx E 34 0) (nd Try.f30 244) (loopQ0 0 (fun o => ref10_Flip_L1_T v2 o) res) n (ref10_Flip_L1_S v2 x4 l5 l5n) := by
  intro n
  induction n with
  | zero =>
    intro x4 l5 l5n res hl0 hm
    cases hm
  | succ n ih =>
    intro x4 l5 l5n res hl0 hm
    subst hl0
    refine HL_succ ?_
    refine R_sq Try.f30 488 489 (by kernel_rfl) ?_
    refine R_sq Try.f30 976 977 (by kernel_rfl) ?_
    refine R_rn Try.f30 976 4 [] [] 4 ⟨[(1, vp 0 0), (2, vp 1 0), (3, vp 2 0), (4, vi x4), (20, vb (decide (x4 ≥ 0)))], [(0, bx 24 [ci v2.Low, tl e_Span default v2.Rows]), (1, bx 24 [ci 0, .emp]), (2, bx 24 [ci (w64 (0 - (w64 (v2.Low + ((v2.Rows.length : Nat) : Int))))), .own 3 0 2 l5.length]), (3, ro 0 35 2 l5.length (rf e_Span l5))]⟩ o0 (by kernel_rfl) (by kernel_rfl) ?_
    refine R_cn Try.f30 (.tmp 20) 1954 1955 (by kernel_rfl) (decide (x4 ≥ 0)) (by kernel_rfl) (fun b6 => ?_) (fun b6 => ?_)
    · replace hm := bif_t b6 hm
      refine R_skip (by kernel_rfl) ?_
      refine R_sq Try.f30 978 979 (by kernel_rfl) ?_
      refine R_bk Try.f30 1 1956 (by kernel_rfl) ?_
      obtain ⟨g7, hm⟩ := bif_n hm
      obtain ⟨g8, hm⟩ := bif_n hm
      refine R_dr Try.f30 1956 6 [] [(7, drw 4 0 (rf e_Span ([(v2.Rows.getD x4.toNat default)] : List Span))), (8, drw 3 1 (rf e_Span (l5 ++ ([(v2.Rows.getD x4.toNat default)] : List Span))))] [] [0, 1, 0, 4, 0, 28, 60, 124, 255, 511, 1023] 4 ⟨[(1, vp 0 0), (2, vp 1 0), (3, vp 2 0), (4, vi x4)], [(0, bx 24 [ci v2.Low, tl e_Span default v2.Rows]), (1, bx 24 [ci 0, .emp]), (2, bx 24 [ci (w64 (0 - (w64 (v2.Low + ((v2.Rows.length : Nat) : Int))))), .own 3 1 2 (l5.length + 1)]), (3, ro 1 35 2 (l5.length + 1) (rf e_Span (l5 ++ ([(v2.Rows.getD x4.toNat default)] : List Span))))]⟩ (o1 (And.intro (inb_of g7) (And.intro (litP e_Span default 2 (fun _ => rfl) ([(v2.Rows.getD x4.toNat default)] : List Span) 1 rfl) (apP e_Span default l5 ([(v2.Rows.getD x4.toNat default)] : List Span) l5.length 1 2 16 (1 ≤ 1) (Nat.le_refl _) rfl rfl (fun _ => rfl) (room_of g8))))) (by kernel_rfl) (by kernel_rfl) ?_
      refine R_rn Try.f30 979 5 [] [] 5 ⟨[(1, vp 0 0), (2, vp 1 0), (3, vp 2 0), (4, vi (w64 (x4 - 1)))], [(0, bx 24 [ci v2.Low, tl e_Span default v2.Rows]), (1, bx 24 [ci 0, .emp]), (2, bx 24 [ci (w64 (0 - (w64 (v2.Low + ((v2.Rows.length : Nat) : Int))))), .own 3 1 2 (l5.length + 1)]), (3, ro 1 35 2 (l5.length + 1) (rf e_Span (l5 ++ ([(v2.Rows.getD x4.toNat default)] : List Span))))]⟩ o0 (by kernel_rfl) (by kernel_rfl) ?_
      exact HL_enter (ref10_Flip_L1_S v2 (w64 (x4 - 1)) (l5 ++ ([(v2.Rows.getD x4.toNat default)] : List Span)) (l5.length + 1)) (by kernel_rfl) (by kernel_rfl) (ih (w64 (x4 - 1)) (l5 ++ ([(v2.Rows.getD x4.toNat default)] : List Span)) (l5.length + 1) _ (len_app rfl rfl) hm)
    · replace hm := bif_f b6 hm
      refine R_exit 0 (by kernel_rfl) ?_
      obtain rfl := Option.some.inj hm
      exact L0_mk (by kernel_rfl) (by kernel_rfl)

set_option maxRecDepth 100000 in
theorem ref10_Flip_ok (a1 : Section) (r : Section) (hm : ref10_Flip a1 = some r) : CtX Try.prog globs 30 0 0 [.agg [ci a1.Low, tl e_Span default a1.Rows]] [] (ref10_Flip_x r) (ref10_Flip_o r) := by
  unfold ref10_Flip at hm
  refine CtX_of_E (fn := Try.f30) (c := nd Try.f30 1) (nt := 34) (by kernel_rfl) (by kernel_rfl) (by kernel_rfl) (by kernel_rfl) fun E => ?_
  refine R_sq Try.f30 2 3 (by kernel_rfl) ?_
  refine R_rn Try.f30 2 0 [] [] 0 ⟨[(1, vp 0 0), (2, vp 1 0)], [(0, bx 24 [ci a1.Low, tl e_Span default a1.Rows]), (1, bx 24 [ci 0, .emp])]⟩ o0 (by kernel_rfl) (by kernel_rfl) ?_
  refine R_sq Try.f30 6 7 (by kernel_rfl) ?_
  obtain ⟨v2, h3, hm⟩ := bind_s hm
  refine R_rn Try.f30 6 1 [(1, dex (cen [] [] 2 0 (ref10_Valid_x v2) (ref10_Valid_o v2) [5] []))] [] 2 ⟨[(1, vp 0 0), (2, vp 1 0)], [(0, bx 24 [ci v2.Low, tl e_Span default v2.Rows]), (1, bx 24 [ci 0, .emp])]⟩ (o1 (callS (K := (kx E 34 0)) ⟨[(5, va [ci a1.Low, tl e_Span default a1.Rows])], []⟩ (opAt (rg Try.f30 6) 1) [] [] 2 o0 rfl (ref10_Valid_ok a1 v2 h3) (.inl rfl) (by kernel_rfl))) (by kernel_rfl) (by kernel_rfl) ?_
  refine R_sq Try.f30 14 15 (by kernel_rfl) ?_
  refine R_rn Try.f30 14 2 [] [] 2 ⟨[(1, vp 0 0), (2, vp 1 0), (3, vp 2 0)], [(0, bx 24 [ci v2.Low, tl e_Span default v2.Rows]), (1, bx 24 [ci 0, .emp]), (2, bx 24 [ci (w64 (0 - (w64 (v2.Low + ((v2.Rows.length : Nat) : Int))))), .emp])]⟩ o0 (by kernel_rfl) (by kernel_rfl) ?_
  refine R_sq Try.f30 30 31 (by kernel_rfl) ?_
  refine R_sq Try.f30 60 61 (by kernel_rfl) ?_
  refine R_rn Try.f30 60 3 [] [] 3 ⟨[(1, vp 0 0), (2, vp 1 0), (3, vp 2 0), (4, vi (w64 (((v2.Rows.length : Nat) : Int) - 1)))], [(0, bx 24 [ci v2.Low, tl e_Span default v2.Rows]), (1, bx 24 [ci 0, .emp]), (2, bx 24 [ci (w64 (0 - (w64 (v2.Low + ((v2.Rows.length : Nat) : Int))))), .emp])]⟩ o0 (by kernel_rfl) (by kernel_rfl) ?_
  refine H_fin [.ownB 2 1 3 35 2 (rf e_Span ([] : List Span))] ⟨[(1, vp 0 0), (2, vp 1 0), (3, vp 2 0), (4, vi (w64 (((v2.Rows.length : Nat) : Int) - 1)))], [(0, bx 24 [ci v2.Low, tl e_Span default v2.Rows]), (1, bx 24 [ci 0, .emp]), (2, bx 24 [ci (w64 (0 - (w64 (v2.Low + ((v2.Rows.length : Nat) : Int))))), .own 3 0 2 0]), (3, ro 0 35 2 0 (rf e_Span ([] : List Span)))]⟩ o0 (by kernel_rfl) ?_
  obtain ⟨o10, h11, hm⟩ := bind_s hm
  refine R_loop0 (nd Try.f30 244) 0 (by kernel_rfl) FUEL (fun o => ref10_Flip_L1_T v2 o) o10 (HL_enter (ref10_Flip_L1_S v2 (w64 (((v2.Rows.length : Nat) : Int) - 1)) ([] : List Span) 0) (by kernel_rfl) (by kernel_rfl) (ref10_Flip_L1_ok E v2 FUEL (w64 (((v2.Rows.length : Nat) : Int) - 1)) ([] : List Span) 0 o10 rfl h11)) ?_
  refine R_sq Try.f30 62 63 (by kernel_rfl) ?_
  refine R_rn Try.f30 62 7 [] [] 4 ⟨[(2, vp 1 0)], [(1, bx 24 [ci (w64 (0 - (w64 (v2.Low + ((v2.Rows.length : Nat) : Int))))), .own 3 0 2 o10.length]), (3, ro 0 35 2 o10.length (rf e_Span o10))]⟩ o0 (by kernel_rfl) (by kernel_rfl) ?_
  obtain rfl := Option.some.inj hm
  refine H_swap 3 0 (by kernel_rfl) ?_
  refine R_ret (by kernel_rfl) ?_
  exact ret_mk (by kernel_rfl) (by kernel_rfl)

end Saw
end Go.SL

namespace Go.SL
namespace Saw
open Go.Proofs
set_option maxHeartbeats 4000000

def ref09_Before_x (r : Bool) : V := vb r

def ref09_Before_o (r : Bool) : List (Nat × (Nat × O)) := []

theorem ref09_Before_f (r : Bool) : Frozen (ref09_Before_o r) := by
  intro i k o h
  unfold ref09_Before_o at h
  cases h

def ref09_Before_k1_S (x5 : Bool) : St :=
  ⟨[(4, vb x5)], []⟩

set_option maxRecDepth 100000 in
theorem ref09_Before_ok (a1 : Point) (a2 : Point) (r : Bool) (hm : ref09_Before a1 a2 = some r) : CtX Try.prog globs 102 0 0 [.agg [ci a1.X, ci a1.Y], .agg [ci a2.X, ci a2.Y]] [] (ref09_Before_x r) (ref09_Before_o r) := by
  unfold ref09_Before at hm
  refine CtX_of_E (fn := Try.f102) (c := nd Try.f102 1) (nt := 24) (by kernel_rfl) (by kernel_rfl) (by kernel_rfl) (by kernel_rfl) fun E => ?_
  refine R_sq Try.f102 2 3 (by kernel_rfl) ?_
  refine R_rn Try.f102 2 0 [] [] 0 ⟨[(2, vp 0 0), (3, vp 1 0)], [(0, bx 46 [ci a1.X, ci a1.Y]), (1, bx 46 [ci a2.X, ci a2.Y])]⟩ o0 (by kernel_rfl) (by kernel_rfl) ?_
  refine R_join (ι := Bool) (nd Try.f102 6) (nd Try.f102 7) (by kernel_rfl) (fun p => ref09_Before_k1_S p) (fun p => ref09_Before_k1 p = some r) ?_ ?_
  · rintro x5 hm
    show H _ (ref09_Before_k1_S x5) (nd Try.f102 7) _
    obtain rfl := Option.some.inj hm
    refine R_ret (by kernel_rfl) ?_
    exact ret_mk (by kernel_rfl) (by kernel_rfl)
  · rcases Bool.eq_false_or_eq_true (decide (a1.X < a2.X)) with b3 | b3
    · replace hm := bif_t b3 hm
      refine R_rn Try.f102 6 1 [(5, dfx true)] [] 2 ⟨[(4, vb true)], []⟩ (o1 b3) (by kernel_rfl) (by kernel_rfl) ?_
      exact J_mk (true) hm (by kernel_rfl) (by kernel_rfl)
    · replace hm := bif_f b3 hm
      rcases Bool.eq_false_or_eq_true (a1.X == a2.X) with b4 | b4
      · replace hm := bif_t b4 hm
        refine R_rn Try.f102 6 1 [(5, dfx false), (11, dfx true)] [] 2 ⟨[(4, vb (decide (a1.Y < a2.Y)))], []⟩ (o1 (And.intro b3 b4)) (by kernel_rfl) (by kernel_rfl) ?_
        exact J_mk (decide (a1.Y < a2.Y)) hm (by kernel_rfl) (by kernel_rfl)
      · replace hm := bif_f b4 hm
        refine R_rn Try.f102 6 1 [(5, dfx false), (11, dfx false)] [] 2 ⟨[(4, vb false)], []⟩ (o1 (And.intro b3 b4)) (by kernel_rfl) (by kernel_rfl) ?_
        exact J_mk (false) hm (by kernel_rfl) (by kernel_rfl)

end Saw
end Go.SL

namespace Go.SL
namespace Saw
open Go.Proofs
set_option maxHeartbeats 4000000

def ref09_sorted_x (r : (List Point)) : V := vo 0 0 2 r.length

def ref09_sorted_o (r : (List Point)) : List (Nat × (Nat × O)) := [(0, ro 0 46 2 r.length (rf e_Point r))]

theorem ref09_sorted_f (r : (List Point)) : Frozen (ref09_sorted_o r) := by
  intro i k o h
  unfold ref09_sorted_o at h
  rw [look_cons] at h
  split at h
  · cases h; exact fun _ _ => rfl
  · cases h

def ref09_sorted_k3_S (a1 : List Point) (l2 : List Point) (x3 : Int) (x5 : Int) (x11 : Bool) : St :=
  ⟨[(0, vc (tl e_Point default a1)), (3, vo 0 0 2 l2.length), (4, vi x3), (5, vi x5), (27, vb x11)], [(0, ro 0 46 2 l2.length (rf e_Point l2))]⟩

def ref09_sorted_L2_S (a1 : List Point) (l2 : List Point) (x3 : Int) (x5 : Int) : St :=
  ⟨[(0, vc (tl e_Point default a1)), (3, vo 0 0 2 l2.length), (4, vi x3), (5, vi x5)], [(0, ro 0 46 2 l2.length (rf e_Point l2))]⟩

def ref09_sorted_L2_T (a1 : List Point) (l2 : List Point) (x3 : Int) (x13 : Int) : St :=
  ⟨[(0, vc (tl e_Point default a1)), (3, vo 0 0 2 l2.length), (4, vi x3), (5, vi x13)], [(0, ro 0 46 2 l2.length (rf e_Point l2))]⟩

def ref09_sorted_k5_S (a1 : List Point) (x3 : Int) (l27 : List Point) (l27n : Nat) : St :=
  ⟨[(0, vc (tl e_Point default a1)), (3, vo 0 0 2 l27n), (4, vi x3)], [(0, ro 0 46 2 l27n (rf e_Point l27))]⟩

def ref09_sorted_k4_S (a1 : List Point) (l2 : List Point) (x3 : Int) (o14 : Int) (x19 : Bool) : St :=
  ⟨[(0, vc (tl e_Point default a1)), (3, vo 0 0 2 l2.length), (4, vi x3), (5, vi o14), (44, vb x19)], [(0, ro 0 46 2 l2.length (rf e_Point l2))]⟩

def ref09_sorted_L1_S (a1 : List Point) (l2 : List Point) (l2n : Nat) (x3 : Int) : St :=
  ⟨[(0, vc (tl e_Point default a1)), (3, vo 0 0 2 l2n), (4, vi x3)], [(0, ro 0 46 2 l2n (rf e_Point l2))]⟩

def ref09_sorted_L1_T (l28 : List Point) : St :=
  ⟨[(3, vo 0 0 2 l28.length)], [(0, ro 0 46 2 l28.length (rf e_Point l28))]⟩

set_option maxRecDepth 100000 in
theorem ref09_sorted_L2_ok (E : Env 0) (a1 : List Point) (l2 : List Point) (x3 : Int) : ∀ (n : Nat) (x5 : Int) (res : Int), ref09_sorted_L2 a1 l2 x3 n x5 = some res → HL (kx E 63 0) (nd Try.f89 14920) (loopQ0 2 (fun o => ref09_sorted_L2_T a1 l2 x3 o) res) n (ref09_sorted_L2_S a1 l2 x3 x5) := by
  intro n
  induction n with
  | zero =>
    intro x5 res hm
    cases hm
  | succ n ih =>
    intro x5 res hm
    refine HL_succ ?_
    refine R_sq Try.f89 29840 29841 (by kernel_rfl) ?_
    refine R_join (ι := Bool) (nd Try.f89 59680) (nd Try.f89 59681) (by kernel_rfl) (fun p => ref09_sorted_k3_S a1 l2 x3 x5 p) (fun p => ref09_sorted_k3 x5 (ref09_sorted_L2 a1 l2 x3 n) p = some res) ?_ ?_
    · rintro x11 hm
      show H _ (ref09_sorted_k3_S a1 l2 x3 x5 x11) (nd Try.f89 59681) _
      refine R_cn Try.f89 (.tmp 27) 119362 119363 (by kernel_rfl) x11 (by kernel_rfl) (fun b12 => ?_) (fun b12 => ?_)
      · replace hm := bif_t b12 hm
        refine R_skip (by kernel_rfl) ?_
        refine R_bk Try.f89 3 59682 (by kernel_rfl) ?_
        refine R_rn Try.f89 59682 7 [] [] 1 ⟨[(0, vc (tl e_Point default a1)), (3, vo 0 0 2 l2.length), (4, vi x3), (5, vi (w64 (x5 + 1)))], [(0, ro 0 46 2 l2.length (rf e_Point l2))]⟩ o0 (by kernel_rfl) (by kernel_rfl) ?_
        exact HL_enter (ref09_sorted_L2_S a1 l2 x3 (w64 (x5 + 1))) (by kernel_rfl) (by kernel_rfl) (ih (w64 (x5 + 1)) _ hm)
      · replace hm := bif_f b12 hm
        refine R_exit 2 (by kernel_rfl) ?_
        obtain rfl := Option.some.inj hm
        exact L0_mk (by kernel_rfl) (by kernel_rfl)
    · rcases Bool.eq_false_or_eq_true (decide (x5 < ((l2.length : Nat) : Int))) with b6 | b6
      · replace hm := bif_t b6 hm
        obtain ⟨g7, hm⟩ := bif_n hm
        obtain ⟨g8, hm⟩ := bif_n hm
        obtain ⟨v9, h10, hm⟩ := bind_s hm
        refine R_dr Try.f89 59680 6 [] [(4, dfx true), (13, dex (cen [] [] 1 0 (ref09_Before_x v9) (ref09_Before_o v9) [17, 21, 25] []))] [] [0, 0, 2, 7, 15, 31, 31, 127, 255, 31, 31, 1567, 3615, 8191, 16383] 1 ⟨[(0, vc (tl e_Point default a1)), (3, vo 0 0 2 l2.length), (4, vi x3), (5, vi x5), (18, vo 0 0 2 l2.length), (19, vi x5), (20, vc (.rptr 0 0 2 x5.toNat 0)), (21, va [ci ((l2.getD x5.toNat default).X), ci ((l2.getD x5.toNat default).Y)]), (22, vc (tl e_Point default a1)), (23, vi x3), (24, vc (.lptr (e_Point (a1.getD x3.toNat default)))), (25, va [ci ((a1.getD x3.toNat default).X), ci ((a1.getD x3.toNat default).Y)]), (26, vb v9), (27, vb v9)], [(0, ro 0 46 2 l2.length (rf e_Point l2))]⟩ (o1 (And.intro b6 (And.intro (inb_of g7) (And.intro (toNat_lt (inb_of g7)) (And.intro (inb_of g8) (callS (K := (kx E 63 0)) ⟨[(17, vb true), (21, va [ci ((l2.getD x5.toNat default).X), ci ((l2.getD x5.toNat default).Y)]), (25, va [ci ((a1.getD x3.toNat default).X), ci ((a1.getD x3.toNat default).Y)])], []⟩ (opAt (rg Try.f89 59680) 13) [] [] 1 o0 rfl (ref09_Before_ok (l2.getD x5.toNat default) (a1.getD x3.toNat default) v9 h10) (.inl rfl) (by kernel_rfl))))))) (by kernel_rfl) (by kernel_rfl) ?_
        exact J_mk (v9) hm (by kernel_rfl) (by kernel_rfl)
      · replace hm := bif_f b6 hm
        refine R_dr Try.f89 59680 6 [] [(4, dfx false)] [] [0, 0, 2, 7, 15, 31, 31, 127, 255, 31, 31, 1567, 3615, 8191, 16383] 1 ⟨[(0, vc (tl e_Point default a1)), (3, vo 0 0 2 l2.length), (4, vi x3), (5, vi x5), (27, vb false)], [(0, ro 0 46 2 l2.length (rf e_Point l2))]⟩ (o1 b6) (by kernel_rfl) (by kernel_rfl) ?_
        exact J_mk (false) hm (by kernel_rfl) (by kernel_rfl)

set_option maxRecDepth 100000 in
theorem ref09_sorted_L1_ok (E : Env 0) (a1 : List Point) : ∀ (n : Nat) (l2 : List Point) (l2n : Nat) (x3 : Int) (res : (List Point)), l2.length = l2n → ref09_sorted_L1 a1 n l2 x3 = some res → HL (kx E 63 0) (nd Try.f89 116) (loopQ0 0 (fun o => ref09_sorted_L1_T o) res) n (ref09_sorted_L1_S a1 l2 l2n x3) := by
  intro n
  induction n with
  | zero =>
    intro l2 l2n x3 res hl0 hm
    cases hm
  | succ n ih =>
    intro l2 l2n x3 res hl0 hm
    subst hl0
    refine HL_succ ?_
    refine R_sq Try.f89 232 233 (by kernel_rfl) ?_
    refine R_sq Try.f89 464 465 (by kernel_rfl) ?_
    refine R_rn Try.f89 464 3 [] [] 1 ⟨[(0, vc (tl e_Point default a1)), (3, vo 0 0 2 l2.length), (4, vi x3), (10, vb (decide (x3 < ((a1.length : Nat) : Int))))], [(0, ro 0 46 2 l2.length (rf e_Point l2))]⟩ o0 (by kernel_rfl) (by kernel_rfl) ?_
    refine R_cn Try.f89 (.tmp 10) 930 931 (by kernel_rfl) (decide (x3 < ((a1.length : Nat) : Int))) (by kernel_rfl) (fun b4 => ?_) (fun b4 => ?_)
    · replace hm := bif_t b4 hm
      refine R_skip (by kernel_rfl) ?_
      refine R_join (ι := (List Point) × Nat) (nd Try.f89 466) (nd Try.f89 467) (by kernel_rfl) (fun p => ref09_sorted_k5_S a1 x3 p.1 p.2) (fun p => p.1.length = p.2 ∧ ref09_sorted_k5 x3 (ref09_sorted_L1 a1 n) p.1 = some res) ?_ ?_
      · rintro ⟨l27, l27n⟩ ⟨el27, hm⟩
        replace el27 : l27.length = l27n := el27
        subst el27
        show H _ (ref09_sorted_k5_S a1 x3 l27 l27.length) (nd Try.f89 467) _
        refine R_rn Try.f89 467 4 [] [] 3 ⟨[(0, vc (tl e_Point default a1)), (3, vo 0 0 2 l27.length), (4, vi (w64 (x3 + 1)))], [(0, ro 0 46 2 l27.length (rf e_Point l27))]⟩ o0 (by kernel_rfl) (by kernel_rfl) ?_
        exact HL_enter (ref09_sorted_L1_S a1 l27 l27.length (w64 (x3 + 1))) (by kernel_rfl) (by kernel_rfl) (ih l27 l27.length (w64 (x3 + 1)) _ rfl hm)
      · refine R_bk Try.f89 1 932 (by kernel_rfl) ?_
        refine R_sq Try.f89 1864 1865 (by kernel_rfl) ?_
        refine R_rn Try.f89 1864 5 [] [] 1 ⟨[(0, vc (tl e_Point default a1)), (3, vo 0 0 2 l2.length), (4, vi x3), (5, vi 0)], [(0, ro 0 46 2 l2.length (rf e_Point l2))]⟩ o0 (by kernel_rfl) (by kernel_rfl) ?_
        refine R_sq Try.f89 3730 3731 (by kernel_rfl) ?_
        obtain ⟨o14, h15, hm⟩ := bind_s hm
        refine R_loop0 (nd Try.f89 14920) 2 (by kernel_rfl) FUEL (fun o => ref09_sorted_L2_T a1 l2 x3 o) o14 (HL_enter (ref09_sorted_L2_S a1 l2 x3 0) (by kernel_rfl) (by kernel_rfl) (ref09_sorted_L2_ok E a1 l2 x3 FUEL 0 o14 h15)) ?_
        refine R_sq Try.f89 7462 7463 (by kernel_rfl) ?_
        refine R_join (ι := Bool) (nd Try.f89 14924) (nd Try.f89 14925) (by kernel_rfl) (fun p => ref09_sorted_k4_S a1 l2 x3 o14 p) (fun p => ref09_sorted_k4 a1 l2 x3 (ref09_sorted_L1 a1 n) o14 p = some res) ?_ ?_
        · rintro x19 hm
          show H _ (ref09_sorted_k4_S a1 l2 x3 o14 x19) (nd Try.f89 14925) _
          refine R_cn Try.f89 (.tmp 44) 29850 29851 (by kernel_rfl) x19 (by kernel_rfl) (fun b20 => ?_) (fun b20 => ?_)
          · replace hm := bif_t b20 hm
            refine R_exit 1 (by kernel_rfl) ?_
            exact J_mk (l2, l2.length) ⟨rfl, hm⟩ (by kernel_rfl) (by kernel_rfl)
          · replace hm := bif_f b20 hm
            refine R_skip (by kernel_rfl) ?_
            refine R_sq Try.f89 14926 14927 (by kernel_rfl) ?_
            obtain ⟨g21, hm⟩ := bif_n hm
            obtain ⟨g22, hm⟩ := bif_n hm
            refine R_rn Try.f89 14926 9 [(0, drw 1 0 (rf e_Point ([] : List Point))), (4, drw 1 1 (rf e_Point (([] : List Point) ++ (l2.take o14.toNat))))] [] 1 ⟨[(0, vc (tl e_Point default a1)), (3, vo 0 0 2 l2.length), (4, vi x3), (5, vi o14), (6, vo 1 1 2 (0 + o14.toNat))], [(0, ro 0 46 2 l2.length (rf e_Point l2)), (1, ro 1 46 2 (0 + o14.toNat) (rf e_Point (([] : List Point) ++ (l2.take o14.toNat))))]⟩ (o1 (And.intro (litP e_Point default 2 (fun _ => rfl) ([] : List Point) 0 rfl) (And.intro (And.intro (slOk_of g21).2.1 (slOk_of g21).2.2) (apPt e_Point default ([] : List Point) l2 0 o14.toNat l2.length 2 16 (show o14.toNat ≤ l2.length by have := (slOk_of g21); omega) rfl rfl (fun _ => rfl) (room_of g22))))) (by kernel_rfl) (by kernel_rfl) ?_
            refine R_sq Try.f89 29854 29855 (by kernel_rfl) ?_
            obtain ⟨g23, hm⟩ := bif_n hm
            obtain ⟨g24, hm⟩ := bif_n hm
            refine R_rn Try.f89 29854 10 [(5, drw 2 0 (rf e_Point ([(a1.getD x3.toNat default)] : List Point))), (6, drw 1 2 (rf e_Point ((([] : List Point) ++ (l2.take o14.toNat)) ++ ([(a1.getD x3.toNat default)] : List Point))))] [] 2 ⟨[(0, vc (tl e_Point default a1)), (3, vo 0 0 2 l2.length), (4, vi x3), (5, vi o14), (6, vo 1 2 2 ((0 + o14.toNat) + 1))], [(0, ro 0 46 2 l2.length (rf e_Point l2)), (1, ro 2 46 2 ((0 + o14.toNat) + 1) (rf e_Point ((([] : List Point) ++ (l2.take o14.toNat)) ++ ([(a1.getD x3.toNat default)] : List Point))))]⟩ (o1 (And.intro (inb_of g23) (And.intro (litP e_Point default 2 (fun _ => rfl) ([(a1.getD x3.toNat default)] : List Point) 1 rfl) (apP e_Point default (([] : List Point) ++ (l2.take o14.toNat)) ([(a1.getD x3.toNat default)] : List Point) (0 + o14.toNat) 1 2 16 (1 ≤ 1) (Nat.le_refl _) (len_app rfl (len_take rfl (show o14.toNat ≤ l2.length by have := (slOk_of g21); omega))) rfl (fun _ => rfl) (room_of g24))))) (by kernel_rfl) (by kernel_rfl) ?_
            obtain ⟨g25, hm⟩ := bif_n hm
            obtain ⟨g26, hm⟩ := bif_n hm
            refine R_rn Try.f89 29855 11 [(4, drw 1 3 (rf e_Point (((([] : List Point) ++ (l2.take o14.toNat)) ++ ([(a1.getD x3.toNat default)] : List Point)) ++ ((l2.drop o14.toNat).take (l2.length - o14.toNat)))))] [.swp 1 0] 3 ⟨[(0, vc (tl e_Point default a1)), (3, vo 0 3 2 (((0 + o14.toNat) + 1) + (l2.length - o14.toNat))), (4, vi x3)], [(0, ro 3 46 2 (((0 + o14.toNat) + 1) + (l2.length - o14.toNat)) (rf e_Point (((([] : List Point) ++ (l2.take o14.toNat)) ++ ([(a1.getD x3.toNat default)] : List Point)) ++ ((l2.drop o14.toNat).take (l2.length - o14.toNat)))))]⟩ (o1 (And.intro (And.intro (slOk_of g25).1 (slOk_of g25).2.1) (apPd e_Point default ((([] : List Point) ++ (l2.take o14.toNat)) ++ ([(a1.getD x3.toNat default)] : List Point)) l2 ((0 + o14.toNat) + 1) o14.toNat (l2.length - o14.toNat) l2.length 2 16 (show o14.toNat + (l2.length - o14.toNat) ≤ l2.length by have := (slOk_of g25); omega) (len_app (len_app rfl (len_take rfl (show o14.toNat ≤ l2.length by have := (slOk_of g21); omega))) rfl) rfl (fun _ => rfl) (room_of g26)))) (by kernel_rfl) (by kernel_rfl) ?_
            exact J_mk ((((([] : List Point) ++ (l2.take o14.toNat)) ++ ([(a1.getD x3.toNat default)] : List Point)) ++ ((l2.drop o14.toNat).take (l2.length - o14.toNat))), (((0 + o14.toNat) + 1) + (l2.length - o14.toNat))) ⟨(len_app (len_app (len_app rfl (len_take rfl (show o14.toNat ≤ l2.length by have := (slOk_of g21); omega))) rfl) (len_drop rfl (show o14.toNat + (l2.length - o14.toNat) ≤ l2.length by have := (slOk_of g25); omega))), hm⟩ (by kernel_rfl) (by kernel_rfl)
        · rcases Bool.eq_false_or_eq_true (decide (o14 < ((l2.length : Nat) : Int))) with b16 | b16
          · replace hm := bif_t b16 hm
            obtain ⟨g17, hm⟩ := bif_n hm
            obtain ⟨g18, hm⟩ := bif_n hm
            refine R_dr Try.f89 14924 8 [] [(4, dfx true)] [] [0, 0, 2, 7, 15, 31, 31, 127, 255, 31, 31, 1567, 3615, 8191, 16383] 1 ⟨[(0, vc (tl e_Point default a1)), (3, vo 0 0 2 l2.length), (4, vi x3), (5, vi o14), (35, vo 0 0 2 l2.length), (36, vi o14), (37, vc (.rptr 0 0 2 o14.toNat 0)), (38, va [ci ((l2.getD o14.toNat default).X), ci ((l2.getD o14.toNat default).Y)]), (39, vc (tl e_Point default a1)), (40, vi x3), (41, vc (.lptr (e_Point (a1.getD x3.toNat default)))), (42, va [ci ((a1.getD x3.toNat default).X), ci ((a1.getD x3.toNat default).Y)]), (43, vb ((((l2.getD o14.toNat default).X) == ((a1.getD x3.toNat default).X)) && ((((l2.getD o14.toNat default).Y) == ((a1.getD x3.toNat default).Y)) && true))), (44, vb ((((l2.getD o14.toNat default).X) == ((a1.getD x3.toNat default).X)) && ((((l2.getD o14.toNat default).Y) == ((a1.getD x3.toNat default).Y)) && true)))], [(0, ro 0 46 2 l2.length (rf e_Point l2))]⟩ (o1 (And.intro b16 (And.intro (inb_of g17) (And.intro (toNat_lt (inb_of g17)) (inb_of g18))))) (by kernel_rfl) (by kernel_rfl) ?_
            exact J_mk (((((l2.getD o14.toNat default).X) == ((a1.getD x3.toNat default).X)) && ((((l2.getD o14.toNat default).Y) == ((a1.getD x3.toNat default).Y)) && true))) hm (by kernel_rfl) (by kernel_rfl)
          · replace hm := bif_f b16 hm
            refine R_dr Try.f89 14924 8 [] [(4, dfx false)] [] [0, 0, 2, 7, 15, 31, 31, 127, 255, 31, 31, 1567, 3615, 8191, 16383] 1 ⟨[(0, vc (tl e_Point default a1)), (3, vo 0 0 2 l2.length), (4, vi x3), (5, vi o14), (44, vb false)], [(0, ro 0 46 2 l2.length (rf e_Point l2))]⟩ (o1 b16) (by kernel_rfl) (by kernel_rfl) ?_
            exact J_mk (false) hm (by kernel_rfl) (by kernel_rfl)
    · replace hm := bif_f b4 hm
      refine R_exit 0 (by kernel_rfl) ?_
      obtain rfl := Option.some.inj hm
      exact L0_mk (by kernel_rfl) (by kernel_rfl)

set_option maxRecDepth 100000 in
theorem ref09_sorted_ok (a1 : List Point) (r : (List Point)) (hm : ref09_sorted a1 = some r) : CtX Try.prog globs 89 0 0 [.one (tl e_Point default a1)] [] (ref09_sorted_x r) (ref09_sorted_o r) := by
  unfold ref09_sorted at hm
  refine CtX_of_E (fn := Try.f89) (c := nd Try.f89 1) (nt := 63) (by kernel_rfl) (by kernel_rfl) (by kernel_rfl) (by kernel_rfl) fun E => ?_
  refine R_sq Try.f89 2 3 (by kernel_rfl) ?_
  refine R_rn Try.f89 2 0 [] [] 0 ⟨[(0, vc (tl e_Point default a1))], []⟩ o0 (by kernel_rfl) (by kernel_rfl) ?_
  refine R_sq Try.f89 6 7 (by kernel_rfl) ?_
  refine R_rn Try.f89 6 1 [] [] 0 ⟨[(0, vc (tl e_Point default a1)), (3, vc (.emp))], []⟩ o0 (by kernel_rfl) (by kernel_rfl) ?_
  refine R_sq Try.f89 14 15 (by kernel_rfl) ?_
  refine R_sq Try.f89 28 29 (by kernel_rfl) ?_
  refine R_rn Try.f89 28 2 [] [] 0 ⟨[(0, vc (tl e_Point default a1)), (3, vc (.emp)), (4, vi 0)], []⟩ o0 (by kernel_rfl) (by kernel_rfl) ?_
  refine H_fin [.own 3 0 46 2 (rf e_Point ([] : List Point))] ⟨[(0, vc (tl e_Point default a1)), (3, vo 0 0 2 0), (4, vi 0)], [(0, ro 0 46 2 0 (rf e_Point ([] : List Point)))]⟩ o0 (by kernel_rfl) ?_
  obtain ⟨o29, h30, hm⟩ := bind_s hm
  refine R_loop0 (nd Try.f89 116) 0 (by kernel_rfl) FUEL (fun o => ref09_sorted_L1_T o) o29 (HL_enter (ref09_sorted_L1_S a1 ([] : List Point) 0 0) (by kernel_rfl) (by kernel_rfl) (ref09_sorted_L1_ok E a1 FUEL ([] : List Point) 0 0 o29 rfl h30)) ?_
  refine R_sq Try.f89 30 31 (by kernel_rfl) ?_
  refine R_rn Try.f89 30 12 [] [] 1 ⟨[(2, vo 0 0 2 o29.length)], [(0, ro 0 46 2 o29.length (rf e_Point o29))]⟩ o0 (by kernel_rfl) (by kernel_rfl) ?_
  obtain rfl := Option.some.inj hm
  refine R_ret (by kernel_rfl) ?_
  exact ret_mk (by kernel_rfl) (by kernel_rfl)

end Saw
end Go.SL

namespace Go.SL
namespace Saw
open Go.Proofs
set_option maxHeartbeats 4000000

def ref09_Cross_x (r : Int) : V := vi r

def ref09_Cross_o (r : Int) : List (Nat × (Nat × O)) := []

theorem ref09_Cross_f (r : Int) : Frozen (ref09_Cross_o r) := by
  intro i k o h
  unfold ref09_Cross_o at h
  cases h

set_option maxRecDepth 100000 in
theorem ref09_Cross_ok (a1 : Point) (a2 : Point) (a3 : Point) (r : Int) (hm : ref09_Cross a1 a2 a3 = some r) : CtX Try.prog globs 103 0 0 [.agg [ci a1.X, ci a1.Y], .agg [ci a2.X, ci a2.Y], .agg [ci a3.X, ci a3.Y]] [] (ref09_Cross_x r) (ref09_Cross_o r) := by
  unfold ref09_Cross at hm
  refine CtX_of_E (fn := Try.f103) (c := nd Try.f103 1) (nt := 30) (by kernel_rfl) (by kernel_rfl) (by kernel_rfl) (by kernel_rfl) fun E => ?_
  refine R_sq Try.f103 2 3 (by kernel_rfl) ?_
  refine R_rn Try.f103 2 0 [] [] 0 ⟨[(3, vp 0 0), (4, vp 1 0), (5, vp 2 0)], [(0, bx 46 [ci a1.X, ci a1.Y]), (1, bx 46 [ci a2.X, ci a2.Y]), (2, bx 46 [ci a3.X, ci a3.Y])]⟩ o0 (by kernel_rfl) (by kernel_rfl) ?_
  refine R_sq Try.f103 6 7 (by kernel_rfl) ?_
  refine R_rn Try.f103 6 1 [] [] 3 ⟨[(6, vi (w64 ((w64 ((w64 (a2.X - a1.X)) * (w64 (a3.Y - a1.Y)))) - (w64 ((w64 (a2.Y - a1.Y)) * (w64 (a3.X - a1.X)))))))], []⟩ o0 (by kernel_rfl) (by kernel_rfl) ?_
  obtain rfl := Option.some.inj hm
  refine R_ret (by kernel_rfl) ?_
  exact ret_mk (by kernel_rfl) (by kernel_rfl)

end Saw
end Go.SL
