import Derived.Test.YtjelipmghgcpeaaSBase
import Derived.Test.YtjelipmghgcpeaaSFa7
set_option linter.unusedVariables false
set_option linter.unusedSimpArgs false
namespace Go.SL
namespace Saw
open Go.Proofs
set_option maxHeartbeats 4000000

def ref10_Dropped_x (r : Section) : V := va [ci r.Low, .own 0 0 2 r.Rows.length]

def ref10_Dropped_o (r : Section) : List (Nat × (Nat × O)) := [(0, ro 0 35 2 r.Rows.length (rf e_Span r.Rows))]

theorem ref10_Dropped_f (r : Section) : Frozen (ref10_Dropped_o r) := by
  intro i k o h
  unfold ref10_Dropped_o at h
  rw [look_cons] at h
  split at h
  · cases h; exact fun _ _ => rfl
  · cases h

def ref10_Dropped_k2_S (a1 : Int) (a2 : List Span) (x3 : Int) (x8 : Bool) : St :=
  ⟨[(0, vi a1), (1, vc (tl e_Span default a2)), (4, vp 0 0), (5, vi x3), (6, vi ((a2.length : Nat) : Int)), (21, vb x8)], [(0, bx 24 [ci 0, .emp])]⟩

def ref10_Dropped_L1_S (a1 : Int) (a2 : List Span) (x3 : Int) : St :=
  ⟨[(0, vi a1), (1, vc (tl e_Span default a2)), (4, vp 0 0), (5, vi x3), (6, vi ((a2.length : Nat) : Int))], [(0, bx 24 [ci 0, .emp])]⟩

def ref10_Dropped_L1_T (a1 : Int) (a2 : List Span) (x10 : Int) : St :=
  ⟨[(0, vi a1), (1, vc (tl e_Span default a2)), (4, vp 0 0), (5, vi x10), (6, vi ((a2.length : Nat) : Int))], [(0, bx 24 [ci 0, .emp])]⟩

def ref10_Dropped_k4_S (a1 : Int) (a2 : List Span) (o11 : Int) (x13 : Int) (x18 : Bool) : St :=
  ⟨[(0, vi a1), (1, vc (tl e_Span default a2)), (4, vp 0 0), (5, vi o11), (6, vi x13), (34, vb x18)], [(0, bx 24 [ci 0, .emp])]⟩

def ref10_Dropped_L3_S (a1 : Int) (a2 : List Span) (o11 : Int) (x13 : Int) : St :=
  ⟨[(0, vi a1), (1, vc (tl e_Span default a2)), (4, vp 0 0), (5, vi o11), (6, vi x13)], [(0, bx 24 [ci 0, .emp])]⟩

def ref10_Dropped_L3_T (a1 : Int) (a2 : List Span) (o11 : Int) (x20 : Int) : St :=
  ⟨[(0, vi a1), (1, vc (tl e_Span default a2)), (4, vp 0 0), (5, vi o11), (6, vi x20)], [(0, bx 24 [ci 0, .emp])]⟩

def ref10_Dropped_k6_S (a1 : Int) (a2 : List Span) (o11 : Int) (o21 : Int) (x24 : Int) (l25 : List Span) (x31 : Span) : St :=
  ⟨[(1, vc (tl e_Span default a2)), (4, vp 0 0), (6, vi o21), (7, vp 1 0), (8, vi x24), (9, vp 3 0)], [(0, bx 24 [ci 0, .emp]), (1, bx 24 [ci (w64 (a1 + o11)), .own 2 0 2 l25.length]), (2, ro 0 35 2 l25.length (rf e_Span l25)), (3, bx 35 [ci x31.A, ci x31.B])]⟩

def ref10_Dropped_L5_S (a1 : Int) (a2 : List Span) (o11 : Int) (o21 : Int) (x24 : Int) (l25 : List Span) (l25n : Nat) : St :=
  ⟨[(1, vc (tl e_Span default a2)), (4, vp 0 0), (6, vi o21), (7, vp 1 0), (8, vi x24)], [(0, bx 24 [ci 0, .emp]), (1, bx 24 [ci (w64 (a1 + o11)), .own 2 0 2 l25n]), (2, ro 0 35 2 l25n (rf e_Span l25))]⟩

def ref10_Dropped_L5_T (a1 : Int) (o11 : Int) (l33 : List Span) : St :=
  ⟨[(4, vp 0 0), (7, vp 1 0)], [(0, bx 24 [ci 0, .emp]), (1, bx 24 [ci (w64 (a1 + o11)), .own 2 0 2 l33.length]), (2, ro 0 35 2 l33.length (rf e_Span l33))]⟩

set_option maxRecDepth 100000 in
theorem ref10_Dropped_L1_ok (E : Env 0) (a1 : Int) (a2 : List Span) : ∀ (n : Nat) (x3 : Int) (res : Int), ref10_Dropped_L1 a2 n x3 = some res → HL (kx E 65 0) (nd Try.f50 56) (loopQ0 0 (fun o => ref10_Dropped_L1_T a1 a2 o) res) n (ref10_Dropped_L1_S a1 a2 x3) := by
  intro n
  induction n with
  | zero =>
    intro x3 res hm
    cases hm
  | succ n ih =>
    intro x3 res hm
    refine HL_succ ?_
    refine R_sq Try.f50 112 113 (by kernel_rfl) ?_
    refine R_join (ι := Bool) (nd Try.f50 224) (nd Try.f50 225) (by kernel_rfl) (fun p => ref10_Dropped_k2_S a1 a2 x3 p) (fun p => ref10_Dropped_k2 x3 (ref10_Dropped_L1 a2 n) p = some res) ?_ ?_
    · rintro x8 hm
      show H _ (ref10_Dropped_k2_S a1 a2 x3 x8) (nd Try.f50 225) _
      refine R_cn Try.f50 (.tmp 21) 450 451 (by kernel_rfl) x8 (by kernel_rfl) (fun b9 => ?_) (fun b9 => ?_)
      · replace hm := bif_t b9 hm
        refine R_skip (by kernel_rfl) ?_
        refine R_bk Try.f50 1 226 (by kernel_rfl) ?_
        refine R_rn Try.f50 226 3 [] [] 1 ⟨[(0, vi a1), (1, vc (tl e_Span default a2)), (4, vp 0 0), (5, vi (w64 (x3 + 1))), (6, vi ((a2.length : Nat) : Int))], [(0, bx 24 [ci 0, .emp])]⟩ o0 (by kernel_rfl) (by kernel_rfl) ?_
        exact HL_enter (ref10_Dropped_L1_S a1 a2 (w64 (x3 + 1))) (by kernel_rfl) (by kernel_rfl) (ih (w64 (x3 + 1)) _ hm)
      · replace hm := bif_f b9 hm
        refine R_exit 0 (by kernel_rfl) ?_
        obtain rfl := Option.some.inj hm
        exact L0_mk (by kernel_rfl) (by kernel_rfl)
    · rcases Bool.eq_false_or_eq_true (decide (x3 < ((a2.length : Nat) : Int))) with b4 | b4
      · replace hm := bif_t b4 hm
        obtain ⟨g5, hm⟩ := bif_n hm
        obtain ⟨v6, h7, hm⟩ := bind_s hm
        refine R_rn Try.f50 224 2 [(3, dfx true), (8, dex (cen [] [] 1 0 (ref10_empty_x v6) (ref10_empty_o v6) [15, 19] []))] [] 1 ⟨[(0, vi a1), (1, vc (tl e_Span default a2)), (4, vp 0 0), (5, vi x3), (6, vi ((a2.length : Nat) : Int)), (16, vc (tl e_Span default a2)), (17, vi x3), (18, vc (.lptr (e_Span (a2.getD x3.toNat default)))), (19, va [ci ((a2.getD x3.toNat default).A), ci ((a2.getD x3.toNat default).B)]), (20, vb v6), (21, vb v6)], [(0, bx 24 [ci 0, .emp])]⟩ (o1 (And.intro b4 (And.intro (inb_of g5) (callS (K := (kx E 65 0)) ⟨[(15, vb true), (19, va [ci ((a2.getD x3.toNat default).A), ci ((a2.getD x3.toNat default).B)])], []⟩ (opAt (rg Try.f50 224) 8) [] [] 1 o0 rfl (ref10_empty_ok (a2.getD x3.toNat default) v6 h7) (.inl rfl) (by kernel_rfl))))) (by kernel_rfl) (by kernel_rfl) ?_
        exact J_mk (v6) hm (by kernel_rfl) (by kernel_rfl)
      · replace hm := bif_f b4 hm
        refine R_rn Try.f50 224 2 [(3, dfx false)] [] 1 ⟨[(0, vi a1), (1, vc (tl e_Span default a2)), (4, vp 0 0), (5, vi x3), (6, vi ((a2.length : Nat) : Int)), (21, vb false)], [(0, bx 24 [ci 0, .emp])]⟩ (o1 b4) (by kernel_rfl) (by kernel_rfl) ?_
        exact J_mk (false) hm (by kernel_rfl) (by kernel_rfl)

set_option maxRecDepth 100000 in
theorem ref10_Dropped_L3_ok (E : Env 0) (a1 : Int) (a2 : List Span) (o11 : Int) : ∀ (n : Nat) (x13 : Int) (res : Int), ref10_Dropped_L3 a2 o11 n x13 = some res → HL (kx E 65 0) (nd Try.f50 120) (loopQ0 2 (fun o => ref10_Dropped_L3_T a1 a2 o11 o) res) n (ref10_Dropped_L3_S a1 a2 o11 x13) := by
  intro n
  induction n with
  | zero =>
    intro x13 res hm
    cases hm
  | succ n ih =>
    intro x13 res hm
    refine HL_succ ?_
    refine R_sq Try.f50 240 241 (by kernel_rfl) ?_
    refine R_join (ι := Bool) (nd Try.f50 480) (nd Try.f50 481) (by kernel_rfl) (fun p => ref10_Dropped_k4_S a1 a2 o11 x13 p) (fun p => ref10_Dropped_k4 x13 (ref10_Dropped_L3 a2 o11 n) p = some res) ?_ ?_
    · rintro x18 hm
      show H _ (ref10_Dropped_k4_S a1 a2 o11 x13 x18) (nd Try.f50 481) _
      refine R_cn Try.f50 (.tmp 34) 962 963 (by kernel_rfl) x18 (by kernel_rfl) (fun b19 => ?_) (fun b19 => ?_)
      · replace hm := bif_t b19 hm
        refine R_skip (by kernel_rfl) ?_
        refine R_bk Try.f50 3 482 (by kernel_rfl) ?_
        refine R_rn Try.f50 482 5 [] [] 1 ⟨[(0, vi a1), (1, vc (tl e_Span default a2)), (4, vp 0 0), (5, vi o11), (6, vi (w64 (x13 - 1)))], [(0, bx 24 [ci 0, .emp])]⟩ o0 (by kernel_rfl) (by kernel_rfl) ?_
        exact HL_enter (ref10_Dropped_L3_S a1 a2 o11 (w64 (x13 - 1))) (by kernel_rfl) (by kernel_rfl) (ih (w64 (x13 - 1)) _ hm)
      · replace hm := bif_f b19 hm
        refine R_exit 2 (by kernel_rfl) ?_
        obtain rfl := Option.some.inj hm
        exact L0_mk (by kernel_rfl) (by kernel_rfl)
    · rcases Bool.eq_false_or_eq_true (decide (x13 > o11)) with b14 | b14
      · replace hm := bif_t b14 hm
        obtain ⟨g15, hm⟩ := bif_n hm
        obtain ⟨v16, h17, hm⟩ := bind_s hm
        refine R_rn Try.f50 480 4 [(3, dfx true), (9, dex (cen [] [] 1 0 (ref10_empty_x v16) (ref10_empty_o v16) [27, 32] []))] [] 1 ⟨[(0, vi a1), (1, vc (tl e_Span default a2)), (4, vp 0 0), (5, vi o11), (6, vi x13), (28, vc (tl e_Span default a2)), (29, vi x13), (30, vi (w64 (x13 - 1))), (31, vc (.lptr (e_Span (a2.getD (w64 (x13 - 1)).toNat default)))), (32, va [ci ((a2.getD (w64 (x13 - 1)).toNat default).A), ci ((a2.getD (w64 (x13 - 1)).toNat default).B)]), (33, vb v16), (34, vb v16)], [(0, bx 24 [ci 0, .emp])]⟩ (o1 (And.intro b14 (And.intro (inb_of g15) (callS (K := (kx E 65 0)) ⟨[(27, vb true), (32, va [ci ((a2.getD (w64 (x13 - 1)).toNat default).A), ci ((a2.getD (w64 (x13 - 1)).toNat default).B)])], []⟩ (opAt (rg Try.f50 480) 9) [] [] 1 o0 rfl (ref10_empty_ok (a2.getD (w64 (x13 - 1)).toNat default) v16 h17) (.inl rfl) (by kernel_rfl))))) (by kernel_rfl) (by kernel_rfl) ?_
        exact J_mk (v16) hm (by kernel_rfl) (by kernel_rfl)
      · replace hm := bif_f b14 hm
        refine R_rn Try.f50 480 4 [(3, dfx false)] [] 1 ⟨[(0, vi a1), (1, vc (tl e_Span default a2)), (4, vp 0 0), (5, vi o11), (6, vi x13), (34, vb false)], [(0, bx 24 [ci 0, .emp])]⟩ (o1 b14) (by kernel_rfl) (by kernel_rfl) ?_
        exact J_mk (false) hm (by kernel_rfl) (by kernel_rfl)

set_option maxRecDepth 100000 in
theorem ref10_Dropped_L5_ok (E : Env 0) (a1 : Int) (a2 : List Span) (o11 : Int) (o21 : Int) : ∀ (n : Nat) (x24 : Int) (l25 : List Span) (l25n : Nat) (res : (List Span)), l25.length = l25n → ref10_Dropped_L5 a2 o21 n x24 l25 = some res → HL (kx E 65 0) (nd Try.f50 2036) (loopQ0 4 (fun o => ref10_Dropped_L5_T a1 o11 o) res) n (ref10_Dropped_L5_S a1 a2 o11 o21 x24 l25 l25n) := by
  intro n
  induction n with
  | zero =>
    intro x24 l25 l25n res hl0 hm
    cases hm
  | succ n ih =>
    intro x24 l25 l25n res hl0 hm
    subst hl0
    refine HL_succ ?_
    refine R_sq Try.f50 4072 4073 (by kernel_rfl) ?_
    refine R_sq Try.f50 8144 8145 (by kernel_rfl) ?_
    refine R_rn Try.f50 8144 10 [] [] 3 ⟨[(1, vc (tl e_Span default a2)), (4, vp 0 0), (6, vi o21), (7, vp 1 0), (8, vi x24), (48, vb (decide (x24 < o21)))], [(0, bx 24 [ci 0, .emp]), (1, bx 24 [ci (w64 (a1 + o11)), .own 2 0 2 l25.length]), (2, ro 0 35 2 l25.length (rf e_Span l25))]⟩ o0 (by kernel_rfl) (by kernel_rfl) ?_
    refine R_cn Try.f50 (.tmp 48) 16290 16291 (by kernel_rfl) (decide (x24 < o21)) (by kernel_rfl) (fun b26 => ?_) (fun b26 => ?_)
    · replace hm := bif_t b26 hm
      refine R_skip (by kernel_rfl) ?_
      refine R_sq Try.f50 8146 8147 (by kernel_rfl) ?_
      refine R_bk Try.f50 5 16292 (by kernel_rfl) ?_
      refine R_sq Try.f50 32584 32585 (by kernel_rfl) ?_
      obtain ⟨g27, hm⟩ := bif_n hm
      refine R_rn Try.f50 32584 12 [] [] 3 ⟨[(1, vc (tl e_Span default a2)), (4, vp 0 0), (6, vi o21), (7, vp 1 0), (8, vi x24), (9, vp 3 0)], [(0, bx 24 [ci 0, .emp]), (1, bx 24 [ci (w64 (a1 + o11)), .own 2 0 2 l25.length]), (2, ro 0 35 2 l25.length (rf e_Span l25)), (3, bx 35 [ci ((a2.getD x24.toNat default).A), ci ((a2.getD x24.toNat default).B)])]⟩ (o1 (inb_of g27)) (by kernel_rfl) (by kernel_rfl) ?_
      refine R_join (ι := Span) (nd Try.f50 65170) (nd Try.f50 65171) (by kernel_rfl) (fun p => ref10_Dropped_k6_S a1 a2 o11 o21 x24 l25 p) (fun p => ref10_Dropped_k6 x24 l25 (ref10_Dropped_L5 a2 o21 n) p = some res) ?_ ?_
      · rintro x31 hm
        show H _ (ref10_Dropped_k6_S a1 a2 o11 o21 x24 l25 x31) (nd Try.f50 65171) _
        obtain ⟨g32, hm⟩ := bif_n hm
        refine R_rn Try.f50 65171 15 [(3, drw 4 0 (rf e_Span ([x31] : List Span))), (4, drw 2 1 (rf e_Span (l25 ++ ([x31] : List Span))))] [] 4 ⟨[(1, vc (tl e_Span default a2)), (4, vp 0 0), (6, vi o21), (7, vp 1 0), (8, vi x24)], [(0, bx 24 [ci 0, .emp]), (1, bx 24 [ci (w64 (a1 + o11)), .own 2 1 2 (l25.length + 1)]), (2, ro 1 35 2 (l25.length + 1) (rf e_Span (l25 ++ ([x31] : List Span))))]⟩ (o1 (And.intro (litP e_Span default 2 (fun _ => rfl) ([x31] : List Span) 1 rfl) (apP e_Span default l25 ([x31] : List Span) l25.length 1 2 16 (1 ≤ 1) (Nat.le_refl _) rfl rfl (fun _ => rfl) (room_of g32)))) (by kernel_rfl) (by kernel_rfl) ?_
        refine R_rn Try.f50 8147 11 [] [] 5 ⟨[(1, vc (tl e_Span default a2)), (4, vp 0 0), (6, vi o21), (7, vp 1 0), (8, vi (w64 (x24 + 1)))], [(0, bx 24 [ci 0, .emp]), (1, bx 24 [ci (w64 (a1 + o11)), .own 2 1 2 (l25.length + 1)]), (2, ro 1 35 2 (l25.length + 1) (rf e_Span (l25 ++ ([x31] : List Span))))]⟩ o0 (by kernel_rfl) (by kernel_rfl) ?_
        exact HL_enter (ref10_Dropped_L5_S a1 a2 o11 o21 (w64 (x24 + 1)) (l25 ++ ([x31] : List Span)) (l25.length + 1)) (by kernel_rfl) (by kernel_rfl) (ih (w64 (x24 + 1)) (l25 ++ ([x31] : List Span)) (l25.length + 1) _ (len_app rfl rfl) hm)
      · refine R_sq Try.f50 130340 130341 (by kernel_rfl) ?_
        obtain ⟨v28, h29, hm⟩ := bind_s hm
        refine R_rn Try.f50 130340 13 [(1, dex (cen [] [] 4 0 (ref10_empty_x v28) (ref10_empty_o v28) [55] []))] [] 4 ⟨[(1, vc (tl e_Span default a2)), (4, vp 0 0), (6, vi o21), (7, vp 1 0), (8, vi x24), (9, vp 3 0), (56, vb v28)], [(0, bx 24 [ci 0, .emp]), (1, bx 24 [ci (w64 (a1 + o11)), .own 2 0 2 l25.length]), (2, ro 0 35 2 l25.length (rf e_Span l25)), (3, bx 35 [ci ((a2.getD x24.toNat default).A), ci ((a2.getD x24.toNat default).B)])]⟩ (o1 (callS (K := (kx E 65 0)) ⟨[(55, va [ci ((a2.getD x24.toNat default).A), ci ((a2.getD x24.toNat default).B)])], []⟩ (opAt (rg Try.f50 130340) 1) [] [] 4 o0 rfl (ref10_empty_ok (a2.getD x24.toNat default) v28 h29) (.inl rfl) (by kernel_rfl))) (by kernel_rfl) (by kernel_rfl) ?_
        refine R_cn Try.f50 (.tmp 56) 260682 260683 (by kernel_rfl) v28 (by kernel_rfl) (fun b30 => ?_) (fun b30 => ?_)
        · replace hm := bif_t b30 hm
          refine R_rn Try.f50 260682 14 [] [] 4 ⟨[(1, vc (tl e_Span default a2)), (4, vp 0 0), (6, vi o21), (7, vp 1 0), (8, vi x24), (9, vp 3 0)], [(0, bx 24 [ci 0, .emp]), (1, bx 24 [ci (w64 (a1 + o11)), .own 2 0 2 l25.length]), (2, ro 0 35 2 l25.length (rf e_Span l25)), (3, bx 35 [ci 0, ci 0])]⟩ o0 (by kernel_rfl) (by kernel_rfl) ?_
          exact J_mk ((Span.mk 0 0)) hm (by kernel_rfl) (by kernel_rfl)
        · replace hm := bif_f b30 hm
          refine R_skip (by kernel_rfl) ?_
          exact J_mk ((a2.getD x24.toNat default)) hm (by kernel_rfl) (by kernel_rfl)
    · replace hm := bif_f b26 hm
      refine R_exit 4 (by kernel_rfl) ?_
      obtain rfl := Option.some.inj hm
      exact L0_mk (by kernel_rfl) (by kernel_rfl)

set_option maxRecDepth 100000 in
theorem ref10_Dropped_ok (a1 : Int) (a2 : List Span) (r : Section) (hm : ref10_Dropped a1 a2 = some r) : CtX Try.prog globs 50 0 0 [.one (ci a1), .one (tl e_Span default a2)] [] (ref10_Dropped_x r) (ref10_Dropped_o r) := by
  unfold ref10_Dropped at hm
  refine CtX_of_E (fn := Try.f50) (c := nd Try.f50 1) (nt := 65) (by kernel_rfl) (by kernel_rfl) (by kernel_rfl) (by kernel_rfl) fun E => ?_
  refine R_sq Try.f50 2 3 (by kernel_rfl) ?_
  refine R_rn Try.f50 2 0 [] [] 0 ⟨[(0, vi a1), (1, vc (tl e_Span default a2)), (4, vp 0 0)], [(0, bx 24 [ci 0, .emp])]⟩ o0 (by kernel_rfl) (by kernel_rfl) ?_
  refine R_sq Try.f50 6 7 (by kernel_rfl) ?_
  refine R_rn Try.f50 6 1 [] [] 1 ⟨[(0, vi a1), (1, vc (tl e_Span default a2)), (4, vp 0 0), (5, vi 0), (6, vi ((a2.length : Nat) : Int))], [(0, bx 24 [ci 0, .emp])]⟩ o0 (by kernel_rfl) (by kernel_rfl) ?_
  refine R_sq Try.f50 14 15 (by kernel_rfl) ?_
  obtain ⟨o11, h12, hm⟩ := bind_s hm
  refine R_loop0 (nd Try.f50 56) 0 (by kernel_rfl) FUEL (fun o => ref10_Dropped_L1_T a1 a2 o) o11 (HL_enter (ref10_Dropped_L1_S a1 a2 0) (by kernel_rfl) (by kernel_rfl) (ref10_Dropped_L1_ok E a1 a2 FUEL 0 o11 h12)) ?_
  refine R_sq Try.f50 30 31 (by kernel_rfl) ?_
  obtain ⟨o21, h22, hm⟩ := bind_s hm
  refine R_loop0 (nd Try.f50 120) 2 (by kernel_rfl) FUEL (fun o => ref10_Dropped_L3_T a1 a2 o11 o) o21 (HL_enter (ref10_Dropped_L3_S a1 a2 o11 ((a2.length : Nat) : Int)) (by kernel_rfl) (by kernel_rfl) (ref10_Dropped_L3_ok E a1 a2 o11 FUEL ((a2.length : Nat) : Int) o21 h22)) ?_
  refine R_sq Try.f50 62 63 (by kernel_rfl) ?_
  refine R_sq Try.f50 124 125 (by kernel_rfl) ?_
  refine R_rn Try.f50 124 6 [] [] 1 ⟨[(0, vi a1), (1, vc (tl e_Span default a2)), (4, vp 0 0), (5, vi o11), (6, vi o21), (39, vb (o11 == o21))], [(0, bx 24 [ci 0, .emp])]⟩ o0 (by kernel_rfl) (by kernel_rfl) ?_
  refine R_cn Try.f50 (.tmp 39) 250 251 (by kernel_rfl) (o11 == o21) (by kernel_rfl) (fun b23 => ?_) (fun b23 => ?_)
  · replace hm := bif_t b23 hm
    refine R_sq Try.f50 500 501 (by kernel_rfl) ?_
    refine R_rn Try.f50 500 7 [] [] 1 ⟨[(4, vp 0 0)], [(0, bx 24 [ci 0, .emp])]⟩ o0 (by kernel_rfl) (by kernel_rfl) ?_
    refine H_fin [.ownB 0 1 1 35 2 (rf e_Span ([] : List Span))] ⟨[(4, vp 0 0)], [(0, bx 24 [ci 0, .own 1 0 2 0]), (1, ro 0 35 2 0 (rf e_Span ([] : List Span)))]⟩ o0 (by kernel_rfl) ?_
    refine H_fin [.len 1 (([] : List Span).length)] ⟨[(4, vp 0 0)], [(0, bx 24 [ci 0, .own 1 0 2 (([] : List Span).length)]), (1, ro 0 35 2 (([] : List Span).length) (rf e_Span ([] : List Span)))]⟩ (o1 (And.intro (show 0 = ([] : List Span).length from rfl) (show 0 = ([] : List Span).length from rfl))) (by kernel_rfl) ?_
    obtain rfl := Option.some.inj hm
    refine H_swap 1 0 (by kernel_rfl) ?_
    refine R_ret (by kernel_rfl) ?_
    exact ret_mk (by kernel_rfl) (by kernel_rfl)
  · replace hm := bif_f b23 hm
    refine R_skip (by kernel_rfl) ?_
    refine R_sq Try.f50 126 127 (by kernel_rfl) ?_
    refine R_rn Try.f50 126 8 [] [] 1 ⟨[(1, vc (tl e_Span default a2)), (4, vp 0 0), (5, vi o11), (6, vi o21), (7, vp 1 0)], [(0, bx 24 [ci 0, .emp]), (1, bx 24 [ci (w64 (a1 + o11)), .emp])]⟩ o0 (by kernel_rfl) (by kernel_rfl) ?_
    refine R_sq Try.f50 254 255 (by kernel_rfl) ?_
    refine R_sq Try.f50 508 509 (by kernel_rfl) ?_
    refine R_rn Try.f50 508 9 [] [] 2 ⟨[(1, vc (tl e_Span default a2)), (4, vp 0 0), (6, vi o21), (7, vp 1 0), (8, vi o11)], [(0, bx 24 [ci 0, .emp]), (1, bx 24 [ci (w64 (a1 + o11)), .emp])]⟩ o0 (by kernel_rfl) (by kernel_rfl) ?_
    refine H_fin [.ownB 1 1 2 35 2 (rf e_Span ([] : List Span))] ⟨[(1, vc (tl e_Span default a2)), (4, vp 0 0), (6, vi o21), (7, vp 1 0), (8, vi o11)], [(0, bx 24 [ci 0, .emp]), (1, bx 24 [ci (w64 (a1 + o11)), .own 2 0 2 0]), (2, ro 0 35 2 0 (rf e_Span ([] : List Span)))]⟩ o0 (by kernel_rfl) ?_
    obtain ⟨o34, h35, hm⟩ := bind_s hm
    refine R_loop0 (nd Try.f50 2036) 4 (by kernel_rfl) FUEL (fun o => ref10_Dropped_L5_T a1 o11 o) o34 (HL_enter (ref10_Dropped_L5_S a1 a2 o11 o21 o11 ([] : List Span) 0) (by kernel_rfl) (by kernel_rfl) (ref10_Dropped_L5_ok E a1 a2 o11 o21 FUEL o11 ([] : List Span) 0 o34 rfl h35)) ?_
    refine R_sq Try.f50 510 511 (by kernel_rfl) ?_
    refine R_rn Try.f50 510 16 [] [] 3 ⟨[(4, vp 0 0)], [(0, bx 24 [ci (w64 (a1 + o11)), .own 2 0 2 o34.length]), (2, ro 0 35 2 o34.length (rf e_Span o34))]⟩ o0 (by kernel_rfl) (by kernel_rfl) ?_
    obtain rfl := Option.some.inj hm
    refine H_swap 2 0 (by kernel_rfl) ?_
    refine R_ret (by kernel_rfl) ?_
    exact ret_mk (by kernel_rfl) (by kernel_rfl)

end Saw
end Go.SL

namespace Go.SL
namespace Saw
open Go.Proofs
set_option maxHeartbeats 4000000

def ref10_Of_x (r : Section × Int) : V := .tup [.agg [ci r.1.Low, .own 0 0 2 r.1.Rows.length], .one (ci r.2)]

def ref10_Of_o (r : Section × Int) : List (Nat × (Nat × O)) := [(0, ro 0 35 2 r.1.Rows.length (rf e_Span r.1.Rows))]

theorem ref10_Of_f (r : Section × Int) : Frozen (ref10_Of_o r) := by
  intro i k o h
  unfold ref10_Of_o at h
  rw [look_cons] at h
  split at h
  · cases h; exact fun _ _ => rfl
  · cases h

def ref10_Of_L1_S (a1 : List Point) (x6 : Int) (x7 : Int) (x8 : Int) : St :=
  ⟨[(0, vc (tl e_Point default a1)), (2, vp 0 0), (5, vi x6), (6, vi x7), (7, vi x8)], [(0, bx 24 [ci 0, .emp])]⟩

def ref10_Of_L1_T (a1 : List Point) (x11 : Int) (x12 : Int) : St :=
  ⟨[(0, vc (tl e_Point default a1)), (2, vp 0 0), (5, vi x11), (6, vi x12)], [(0, bx 24 [ci 0, .emp])]⟩

def ref10_Of_k4_S (a1 : List Point) (o13 : Int × Int) (l15 : List Span) (x16 : Int) (x23 : Span) : St :=
  ⟨[(0, vc (tl e_Point default a1)), (2, vp 0 0), (5, vi o13.1), (6, vi o13.2), (8, vo 1 0 2 l15.length), (9, vi x16), (10, vp 2 0)], [(0, bx 24 [ci 0, .emp]), (1, ro 0 35 2 l15.length (rf e_Span l15)), (2, bx 35 [ci x23.A, ci x23.B])]⟩

def ref10_Of_k3_S (a1 : List Point) (o13 : Int × Int) (l15 : List Span) (x16 : Int) (x19 : Bool) : St :=
  ⟨[(0, vc (tl e_Point default a1)), (2, vp 0 0), (5, vi o13.1), (6, vi o13.2), (8, vo 1 0 2 l15.length), (9, vi x16), (10, vp 2 0), (61, vb x19)], [(0, bx 24 [ci 0, .emp]), (1, ro 0 35 2 l15.length (rf e_Span l15)), (2, bx 35 [ci 0, ci 0])]⟩

def ref10_Of_L2_S (a1 : List Point) (o13 : Int × Int) (l15 : List Span) (l15n : Nat) (x16 : Int) : St :=
  ⟨[(0, vc (tl e_Point default a1)), (2, vp 0 0), (5, vi o13.1), (6, vi o13.2), (8, vo 1 0 2 l15n), (9, vi x16)], [(0, bx 24 [ci 0, .emp]), (1, ro 0 35 2 l15n (rf e_Span l15))]⟩

def ref10_Of_L2_T (l25 : List Span) : St :=
  ⟨[(2, vp 0 0), (8, vo 1 0 2 l25.length)], [(0, bx 24 [ci 0, .emp]), (1, ro 0 35 2 l25.length (rf e_Span l25))]⟩

set_option maxRecDepth 100000 in
theorem ref10_Of_L1_ok (E : Env 0) (a1 : List Point) : ∀ (n : Nat) (x6 : Int) (x7 : Int) (x8 : Int) (res : Int × Int), ref10_Of_L1 a1 n x6 x7 x8 = some res → HL (kx E 81 0) (nd Try.f17 244) (loopQ0 0 (fun o => ref10_Of_L1_T a1 o.1 o.2) res) n (ref10_Of_L1_S a1 x6 x7 x8) := by
  intro n
  induction n with
  | zero =>
    intro x6 x7 x8 res hm
    cases hm
  | succ n ih =>
    intro x6 x7 x8 res hm
    refine HL_succ ?_
    refine R_sq Try.f17 488 489 (by kernel_rfl) ?_
    refine R_sq Try.f17 976 977 (by kernel_rfl) ?_
    refine R_rn Try.f17 976 6 [] [] 1 ⟨[(0, vc (tl e_Point default a1)), (2, vp 0 0), (5, vi x6), (6, vi x7), (7, vi x8), (29, vb (decide (x8 < ((a1.length : Nat) : Int))))], [(0, bx 24 [ci 0, .emp])]⟩ o0 (by kernel_rfl) (by kernel_rfl) ?_
    refine R_cn Try.f17 (.tmp 29) 1954 1955 (by kernel_rfl) (decide (x8 < ((a1.length : Nat) : Int))) (by kernel_rfl) (fun b9 => ?_) (fun b9 => ?_)
    · replace hm := bif_t b9 hm
      refine R_skip (by kernel_rfl) ?_
      refine R_sq Try.f17 978 979 (by kernel_rfl) ?_
      refine R_bk Try.f17 1 1956 (by kernel_rfl) ?_
      refine R_sq Try.f17 3912 3913 (by kernel_rfl) ?_
      obtain ⟨g10, hm⟩ := bif_n hm
      refine R_rn Try.f17 3912 8 [] [] 1 ⟨[(0, vc (tl e_Point default a1)), (2, vp 0 0), (5, vi (imin x6 ((a1.getD x8.toNat default).Y))), (6, vi x7), (7, vi x8)], [(0, bx 24 [ci 0, .emp])]⟩ (o1 (inb_of g10)) (by kernel_rfl) (by kernel_rfl) ?_
      refine R_rn Try.f17 3913 9 [] [] 1 ⟨[(0, vc (tl e_Point default a1)), (2, vp 0 0), (5, vi (imin x6 ((a1.getD x8.toNat default).Y))), (6, vi (imax x7 ((a1.getD x8.toNat default).Y))), (7, vi x8)], [(0, bx 24 [ci 0, .emp])]⟩ (o1 (inb_of g10)) (by kernel_rfl) (by kernel_rfl) ?_
      refine R_rn Try.f17 979 7 [] [] 1 ⟨[(0, vc (tl e_Point default a1)), (2, vp 0 0), (5, vi (imin x6 ((a1.getD x8.toNat default).Y))), (6, vi (imax x7 ((a1.getD x8.toNat default).Y))), (7, vi (w64 (x8 + 1)))], [(0, bx 24 [ci 0, .emp])]⟩ o0 (by kernel_rfl) (by kernel_rfl) ?_
      exact HL_enter (ref10_Of_L1_S a1 (imin x6 ((a1.getD x8.toNat default).Y)) (imax x7 ((a1.getD x8.toNat default).Y)) (w64 (x8 + 1))) (by kernel_rfl) (by kernel_rfl) (ih (imin x6 ((a1.getD x8.toNat default).Y)) (imax x7 ((a1.getD x8.toNat default).Y)) (w64 (x8 + 1)) _ hm)
    · replace hm := bif_f b9 hm
      refine R_exit 0 (by kernel_rfl) ?_
      obtain rfl := Option.some.inj hm
      exact L0_mk (by kernel_rfl) (by kernel_rfl)

set_option maxRecDepth 100000 in
theorem ref10_Of_L2_ok (E : Env 0) (a1 : List Point) (o13 : Int × Int) : ∀ (n : Nat) (l15 : List Span) (l15n : Nat) (x16 : Int) (res : (List Span)), l15.length = l15n → ref10_Of_L2 a1 o13 n l15 x16 = some res → HL (kx E 81 0) (nd Try.f17 1012) (loopQ0 2 (fun o => ref10_Of_L2_T o) res) n (ref10_Of_L2_S a1 o13 l15 l15n x16) := by
  intro n
  induction n with
  | zero =>
    intro l15 l15n x16 res hl0 hm
    cases hm
  | succ n ih =>
    intro l15 l15n x16 res hl0 hm
    subst hl0
    refine HL_succ ?_
    refine R_sq Try.f17 2024 2025 (by kernel_rfl) ?_
    refine R_sq Try.f17 4048 4049 (by kernel_rfl) ?_
    refine R_rn Try.f17 4048 12 [] [] 2 ⟨[(0, vc (tl e_Point default a1)), (2, vp 0 0), (5, vi o13.1), (6, vi o13.2), (8, vo 1 0 2 l15.length), (9, vi x16), (47, vb (decide (x16 < 60)))], [(0, bx 24 [ci 0, .emp]), (1, ro 0 35 2 l15.length (rf e_Span l15))]⟩ o0 (by kernel_rfl) (by kernel_rfl) ?_
    refine R_cn Try.f17 (.tmp 47) 8098 8099 (by kernel_rfl) (decide (x16 < 60)) (by kernel_rfl) (fun b17 => ?_) (fun b17 => ?_)
    · replace hm := bif_t b17 hm
      refine R_skip (by kernel_rfl) ?_
      refine R_sq Try.f17 4050 4051 (by kernel_rfl) ?_
      refine R_bk Try.f17 3 8100 (by kernel_rfl) ?_
      refine R_sq Try.f17 16200 16201 (by kernel_rfl) ?_
      refine R_rn Try.f17 16200 14 [] [] 2 ⟨[(0, vc (tl e_Point default a1)), (2, vp 0 0), (5, vi o13.1), (6, vi o13.2), (8, vo 1 0 2 l15.length), (9, vi x16), (10, vp 2 0)], [(0, bx 24 [ci 0, .emp]), (1, ro 0 35 2 l15.length (rf e_Span l15)), (2, bx 35 [ci 0, ci 0])]⟩ o0 (by kernel_rfl) (by kernel_rfl) ?_
      refine R_join (ι := Span) (nd Try.f17 32402) (nd Try.f17 32403) (by kernel_rfl) (fun p => ref10_Of_k4_S a1 o13 l15 x16 p) (fun p => ref10_Of_k4 l15 x16 (ref10_Of_L2 a1 o13 n) p = some res) ?_ ?_
      · rintro x23 hm
        show H _ (ref10_Of_k4_S a1 o13 l15 x16 x23) (nd Try.f17 32403) _
        obtain ⟨g24, hm⟩ := bif_n hm
        refine R_rn Try.f17 32403 17 [(2, drw 3 0 (rf e_Span ([x23] : List Span))), (3, drw 1 1 (rf e_Span (l15 ++ ([x23] : List Span))))] [] 3 ⟨[(0, vc (tl e_Point default a1)), (2, vp 0 0), (5, vi o13.1), (6, vi o13.2), (8, vo 1 1 2 (l15.length + 1)), (9, vi x16)], [(0, bx 24 [ci 0, .emp]), (1, ro 1 35 2 (l15.length + 1) (rf e_Span (l15 ++ ([x23] : List Span))))]⟩ (o1 (And.intro (litP e_Span default 2 (fun _ => rfl) ([x23] : List Span) 1 rfl) (apP e_Span default l15 ([x23] : List Span) l15.length 1 2 16 (1 ≤ 1) (Nat.le_refl _) rfl rfl (fun _ => rfl) (room_of g24)))) (by kernel_rfl) (by kernel_rfl) ?_
        refine R_rn Try.f17 4051 13 [] [] 4 ⟨[(0, vc (tl e_Point default a1)), (2, vp 0 0), (5, vi o13.1), (6, vi o13.2), (8, vo 1 1 2 (l15.length + 1)), (9, vi (w64 (x16 + 1)))], [(0, bx 24 [ci 0, .emp]), (1, ro 1 35 2 (l15.length + 1) (rf e_Span (l15 ++ ([x23] : List Span))))]⟩ o0 (by kernel_rfl) (by kernel_rfl) ?_
        exact HL_enter (ref10_Of_L2_S a1 o13 (l15 ++ ([x23] : List Span)) (l15.length + 1) (w64 (x16 + 1))) (by kernel_rfl) (by kernel_rfl) (ih (l15 ++ ([x23] : List Span)) (l15.length + 1) (w64 (x16 + 1)) _ (len_app rfl rfl) hm)
      · refine R_join (ι := Bool) (nd Try.f17 64804) (nd Try.f17 64805) (by kernel_rfl) (fun p => ref10_Of_k3_S a1 o13 l15 x16 p) (fun p => ref10_Of_k3 a1 l15 x16 (ref10_Of_L2 a1 o13 n) p = some res) ?_ ?_
        · rintro x19 hm
          show H _ (ref10_Of_k3_S a1 o13 l15 x16 x19) (nd Try.f17 64805) _
          refine R_cn Try.f17 (.tmp 61) 129610 129611 (by kernel_rfl) x19 (by kernel_rfl) (fun b20 => ?_) (fun b20 => ?_)
          · replace hm := bif_t b20 hm
            obtain ⟨v21, h22, hm⟩ := bind_s hm
            refine R_rn Try.f17 129610 16 [(6, dex (cen [] [] 3 0 (ref09_Chord_x v21) (ref09_Chord_o v21) [62, 64, 67] []))] [] 3 ⟨[(0, vc (tl e_Point default a1)), (2, vp 0 0), (5, vi o13.1), (6, vi o13.2), (8, vo 1 0 2 l15.length), (9, vi x16), (10, vp 2 0)], [(0, bx 24 [ci 0, .emp]), (1, ro 0 35 2 l15.length (rf e_Span l15)), (2, bx 35 [ci v21.A, ci v21.B])]⟩ (o1 (callS (K := (kx E 81 0)) ⟨[(62, vc (tl e_Point default a1)), (64, vi (w64 (10 * x16))), (67, vi (w64 (10 * (w64 (x16 + 1)))))], []⟩ (opAt (rg Try.f17 129610) 6) [] [] 3 o0 rfl (ref09_Chord_ok a1 (w64 (10 * x16)) (w64 (10 * (w64 (x16 + 1)))) v21 h22) (.inl rfl) (by kernel_rfl))) (by kernel_rfl) (by kernel_rfl) ?_
            exact J_mk (v21) hm (by kernel_rfl) (by kernel_rfl)
          · replace hm := bif_f b20 hm
            refine R_skip (by kernel_rfl) ?_
            exact J_mk ((Span.mk 0 0)) hm (by kernel_rfl) (by kernel_rfl)
        · rcases Bool.eq_false_or_eq_true (decide ((w64 (10 * x16)) ≥ o13.1)) with b18 | b18
          · replace hm := bif_t b18 hm
            refine R_rn Try.f17 64804 15 [(4, dfx true)] [] 3 ⟨[(0, vc (tl e_Point default a1)), (2, vp 0 0), (5, vi o13.1), (6, vi o13.2), (8, vo 1 0 2 l15.length), (9, vi x16), (10, vp 2 0), (56, vi x16), (57, vi (w64 (x16 + 1))), (58, vi (w64 (10 * (w64 (x16 + 1))))), (59, vi o13.2), (60, vb (decide ((w64 (10 * (w64 (x16 + 1)))) ≤ o13.2))), (61, vb (decide ((w64 (10 * (w64 (x16 + 1)))) ≤ o13.2)))], [(0, bx 24 [ci 0, .emp]), (1, ro 0 35 2 l15.length (rf e_Span l15)), (2, bx 35 [ci 0, ci 0])]⟩ (o1 b18) (by kernel_rfl) (by kernel_rfl) ?_
            exact J_mk (decide ((w64 (10 * (w64 (x16 + 1)))) ≤ o13.2)) hm (by kernel_rfl) (by kernel_rfl)
          · replace hm := bif_f b18 hm
            refine R_rn Try.f17 64804 15 [(4, dfx false)] [] 3 ⟨[(0, vc (tl e_Point default a1)), (2, vp 0 0), (5, vi o13.1), (6, vi o13.2), (8, vo 1 0 2 l15.length), (9, vi x16), (10, vp 2 0), (61, vb false)], [(0, bx 24 [ci 0, .emp]), (1, ro 0 35 2 l15.length (rf e_Span l15)), (2, bx 35 [ci 0, ci 0])]⟩ (o1 b18) (by kernel_rfl) (by kernel_rfl) ?_
            exact J_mk (false) hm (by kernel_rfl) (by kernel_rfl)
    · replace hm := bif_f b17 hm
      refine R_exit 2 (by kernel_rfl) ?_
      obtain rfl := Option.some.inj hm
      exact L0_mk (by kernel_rfl) (by kernel_rfl)

set_option maxRecDepth 100000 in
theorem ref10_Of_ok (a1 : List Point) (r : Section × Int) (hm : ref10_Of a1 = some r) : CtX Try.prog globs 17 0 0 [.one (tl e_Point default a1)] [] (ref10_Of_x r) (ref10_Of_o r) := by
  unfold ref10_Of at hm
  refine CtX_of_E (fn := Try.f17) (c := nd Try.f17 1) (nt := 81) (by kernel_rfl) (by kernel_rfl) (by kernel_rfl) (by kernel_rfl) fun E => ?_
  refine R_sq Try.f17 2 3 (by kernel_rfl) ?_
  refine R_rn Try.f17 2 0 [] [] 0 ⟨[(0, vc (tl e_Point default a1)), (2, vp 0 0)], [(0, bx 24 [ci 0, .emp])]⟩ o0 (by kernel_rfl) (by kernel_rfl) ?_
  refine R_sq Try.f17 6 7 (by kernel_rfl) ?_
  refine R_sq Try.f17 12 13 (by kernel_rfl) ?_
  obtain ⟨v2, h3, hm⟩ := bind_s hm
  refine R_rn Try.f17 12 1 [(1, dex (cen [] [] 1 0 (ref09_Check_x v2) (ref09_Check_o v2) [12] []))] [] 1 ⟨[(0, vc (tl e_Point default a1)), (2, vp 0 0), (4, vi v2)], [(0, bx 24 [ci 0, .emp])]⟩ (o1 (callS (K := (kx E 81 0)) ⟨[(12, vc (tl e_Point default a1))], []⟩ (opAt (rg Try.f17 12) 1) [] [] 1 o0 rfl (ref09_Check_ok a1 v2 h3) (.inl rfl) (by kernel_rfl))) (by kernel_rfl) (by kernel_rfl) ?_
  refine R_sq Try.f17 26 27 (by kernel_rfl) ?_
  refine R_rn Try.f17 26 2 [] [] 1 ⟨[(0, vc (tl e_Point default a1)), (2, vp 0 0), (4, vi v2), (15, vb (v2 != 0))], [(0, bx 24 [ci 0, .emp])]⟩ o0 (by kernel_rfl) (by kernel_rfl) ?_
  refine R_cn Try.f17 (.tmp 15) 54 55 (by kernel_rfl) (v2 != 0) (by kernel_rfl) (fun b4 => ?_) (fun b4 => ?_)
  · replace hm := bif_t b4 hm
    refine R_sq Try.f17 108 109 (by kernel_rfl) ?_
    refine R_rn Try.f17 108 3 [] [] 1 ⟨[(2, vp 0 0), (3, vi v2)], [(0, bx 24 [ci 0, .emp])]⟩ o0 (by kernel_rfl) (by kernel_rfl) ?_
    refine H_fin [.ownB 0 1 1 35 2 (rf e_Span ([] : List Span))] ⟨[(2, vp 0 0), (3, vi v2)], [(0, bx 24 [ci 0, .own 1 0 2 0]), (1, ro 0 35 2 0 (rf e_Span ([] : List Span)))]⟩ o0 (by kernel_rfl) ?_
    refine H_fin [.len 1 (([] : List Span).length)] ⟨[(2, vp 0 0), (3, vi v2)], [(0, bx 24 [ci 0, .own 1 0 2 (([] : List Span).length)]), (1, ro 0 35 2 (([] : List Span).length) (rf e_Span ([] : List Span)))]⟩ (o1 (And.intro (show 0 = ([] : List Span).length from rfl) (show 0 = ([] : List Span).length from rfl))) (by kernel_rfl) ?_
    obtain rfl := Option.some.inj hm
    refine H_swap 1 0 (by kernel_rfl) ?_
    refine R_ret (by kernel_rfl) ?_
    exact ret_mk (by kernel_rfl) (by kernel_rfl)
  · replace hm := bif_f b4 hm
    refine R_skip (by kernel_rfl) ?_
    refine R_sq Try.f17 14 15 (by kernel_rfl) ?_
    obtain ⟨g5, hm⟩ := bif_n hm
    refine R_dr Try.f17 14 4 [] [] [] [0, 1, 3, 7, 0, 16, 48, 112, 15, 511] 1 ⟨[(0, vc (tl e_Point default a1)), (2, vp 0 0), (5, vi ((a1.getD (0 : Int).toNat default).Y)), (6, vi ((a1.getD (0 : Int).toNat default).Y))], [(0, bx 24 [ci 0, .emp])]⟩ (o1 (And.intro (inb_of g5) (inb_of g5))) (by kernel_rfl) (by kernel_rfl) ?_
    refine R_sq Try.f17 30 31 (by kernel_rfl) ?_
    refine R_sq Try.f17 60 61 (by kernel_rfl) ?_
    refine R_rn Try.f17 60 5 [] [] 1 ⟨[(0, vc (tl e_Point default a1)), (2, vp 0 0), (5, vi ((a1.getD (0 : Int).toNat default).Y)), (6, vi ((a1.getD (0 : Int).toNat default).Y)), (7, vi 0)], [(0, bx 24 [ci 0, .emp])]⟩ o0 (by kernel_rfl) (by kernel_rfl) ?_
    obtain ⟨o13, h14, hm⟩ := bind_s hm
    refine R_loop0 (nd Try.f17 244) 0 (by kernel_rfl) FUEL (fun o => ref10_Of_L1_T a1 o.1 o.2) o13 (HL_enter (ref10_Of_L1_S a1 ((a1.getD (0 : Int).toNat default).Y) ((a1.getD (0 : Int).toNat default).Y) 0) (by kernel_rfl) (by kernel_rfl) (ref10_Of_L1_ok E a1 FUEL ((a1.getD (0 : Int).toNat default).Y) ((a1.getD (0 : Int).toNat default).Y) 0 o13 h14)) ?_
    refine R_sq Try.f17 62 63 (by kernel_rfl) ?_
    refine R_rn Try.f17 62 10 [] [] 1 ⟨[(0, vc (tl e_Point default a1)), (2, vp 0 0), (5, vi o13.1), (6, vi o13.2), (8, vc (.emp))], [(0, bx 24 [ci 0, .emp])]⟩ o0 (by kernel_rfl) (by kernel_rfl) ?_
    refine R_sq Try.f17 126 127 (by kernel_rfl) ?_
    refine R_sq Try.f17 252 253 (by kernel_rfl) ?_
    refine R_rn Try.f17 252 11 [] [] 1 ⟨[(0, vc (tl e_Point default a1)), (2, vp 0 0), (5, vi o13.1), (6, vi o13.2), (8, vc (.emp)), (9, vi (-60))], [(0, bx 24 [ci 0, .emp])]⟩ o0 (by kernel_rfl) (by kernel_rfl) ?_
    refine H_fin [.own 8 1 35 2 (rf e_Span ([] : List Span))] ⟨[(0, vc (tl e_Point default a1)), (2, vp 0 0), (5, vi o13.1), (6, vi o13.2), (8, vo 1 0 2 0), (9, vi (-60))], [(0, bx 24 [ci 0, .emp]), (1, ro 0 35 2 0 (rf e_Span ([] : List Span)))]⟩ o0 (by kernel_rfl) ?_
    obtain ⟨o26, h27, hm⟩ := bind_s hm
    refine R_loop0 (nd Try.f17 1012) 2 (by kernel_rfl) FUEL (fun o => ref10_Of_L2_T o) o26 (HL_enter (ref10_Of_L2_S a1 o13 ([] : List Span) 0 (-60)) (by kernel_rfl) (by kernel_rfl) (ref10_Of_L2_ok E a1 o13 FUEL ([] : List Span) 0 (-60) o26 rfl h27)) ?_
    refine R_sq Try.f17 254 255 (by kernel_rfl) ?_
    obtain ⟨v28, h29, hm⟩ := bind_s hm
    refine R_rn Try.f17 254 18 [(1, dex (cen [] [] 2 0 (ref10_Dropped_x v28) (ref10_Dropped_o v28) [73] [1]))] [] 2 ⟨[(2, vp 0 0), (11, vp 3 0)], [(0, bx 24 [ci 0, .emp]), (2, ro 0 35 2 v28.Rows.length (rf e_Span v28.Rows)), (3, bx 24 [ci v28.Low, .own 2 0 2 v28.Rows.length])]⟩ (o1 (callS (K := (kx E 81 0)) (b := false) ⟨[(73, vo 1 0 2 o26.length)], [(1, ro 0 35 2 o26.length (rf e_Span o26))]⟩ (opAt (rg Try.f17 254) 1) [] [] 2 (o1 (Nat.le_refl o26.length)) rfl (ref10_Dropped_ok (-60) o26 v28 h29) (.inr ⟨(by kernel_rfl), ref10_Dropped_f v28⟩) (by kernel_rfl))) (by kernel_rfl) (by kernel_rfl) ?_
    refine R_sq Try.f17 510 511 (by kernel_rfl) ?_
    refine R_sq Try.f17 1020 1021 (by kernel_rfl) ?_
    refine R_rn Try.f17 1020 19 [] [] 4 ⟨[(2, vp 0 0), (11, vp 3 0), (78, vb (((v28.Rows.length : Nat) : Int) == 0))], [(0, bx 24 [ci 0, .emp]), (2, ro 0 35 2 v28.Rows.length (rf e_Span v28.Rows)), (3, bx 24 [ci v28.Low, .own 2 0 2 v28.Rows.length])]⟩ o0 (by kernel_rfl) (by kernel_rfl) ?_
    refine R_cn Try.f17 (.tmp 78) 2042 2043 (by kernel_rfl) (((v28.Rows.length : Nat) : Int) == 0) (by kernel_rfl) (fun b30 => ?_) (fun b30 => ?_)
    · replace hm := bif_t b30 hm
      refine R_sq Try.f17 4084 4085 (by kernel_rfl) ?_
      refine R_rn Try.f17 4084 20 [] [] 4 ⟨[(2, vp 0 0), (3, vi 18)], [(0, bx 24 [ci 0, .emp])]⟩ o0 (by kernel_rfl) (by kernel_rfl) ?_
      refine H_fin [.ownB 0 1 4 35 2 (rf e_Span ([] : List Span))] ⟨[(2, vp 0 0), (3, vi 18)], [(0, bx 24 [ci 0, .own 4 0 2 0]), (4, ro 0 35 2 0 (rf e_Span ([] : List Span)))]⟩ o0 (by kernel_rfl) ?_
      refine H_fin [.len 4 (([] : List Span).length)] ⟨[(2, vp 0 0), (3, vi 18)], [(0, bx 24 [ci 0, .own 4 0 2 (([] : List Span).length)]), (4, ro 0 35 2 (([] : List Span).length) (rf e_Span ([] : List Span)))]⟩ (o1 (And.intro (show 0 = ([] : List Span).length from rfl) (show 0 = ([] : List Span).length from rfl))) (by kernel_rfl) ?_
      obtain rfl := Option.some.inj hm
      refine H_swap 4 0 (by kernel_rfl) ?_
      refine R_ret (by kernel_rfl) ?_
      exact ret_mk (by kernel_rfl) (by kernel_rfl)
    · replace hm := bif_f b30 hm
      refine R_skip (by kernel_rfl) ?_
      refine R_sq Try.f17 1022 1023 (by kernel_rfl) ?_
      refine R_rn Try.f17 1022 21 [] [] 4 ⟨[(2, vp 0 0), (3, vi 0)], [(0, bx 24 [ci v28.Low, .own 2 0 2 v28.Rows.length]), (2, ro 0 35 2 v28.Rows.length (rf e_Span v28.Rows))]⟩ o0 (by kernel_rfl) (by kernel_rfl) ?_
      obtain rfl := Option.some.inj hm
      refine H_swap 2 0 (by kernel_rfl) ?_
      refine R_ret (by kernel_rfl) ?_
      exact ret_mk (by kernel_rfl) (by kernel_rfl)

end Saw
end Go.SL
