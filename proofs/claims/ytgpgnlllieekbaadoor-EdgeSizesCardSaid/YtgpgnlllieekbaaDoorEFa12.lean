import Derived.Test.YtgpgnlllieekbaaDoorEBase
import Derived.Test.YtgpgnlllieekbaaDoorEFa11
set_option linter.unusedVariables false
set_option linter.unusedSimpArgs false
namespace Go.SL
namespace Saw
open Go.Proofs
set_option maxHeartbeats 4000000

def pattern_isFrame_x (r : Bool) : V := vb r

def pattern_isFrame_o (r : Bool) : List (Nat × (Nat × O)) := []

theorem pattern_isFrame_f (r : Bool) : Frozen (pattern_isFrame_o r) := by
  intro i k o h
  unfold pattern_isFrame_o at h
  cases h

def pattern_isFrame_k2_S (a1 : Rect) (x2 : Int) (x7 : Bool) : St :=
  ⟨[(9, va [ci a1.X.A, ci a1.X.B, ci a1.Y.A, ci a1.Y.B]), (10, vi x2), (27, vb x7)], []⟩

def pattern_isFrame_L1_S (a1 : Rect) (x2 : Int) : St :=
  ⟨[(9, va [ci a1.X.A, ci a1.X.B, ci a1.Y.A, ci a1.Y.B]), (10, vi x2)], []⟩

def pattern_isFrame_L1_T : St :=
  ⟨[], []⟩

set_option maxRecDepth 100000 in
theorem pattern_isFrame_L1_ok (E : Env 0) (a1 : Rect) : ∀ (n : Nat) (x2 : Int) (res : Bool ⊕ Unit), pattern_isFrame_L1 a1 n x2 = some res → HL (kx E 29 0) (nd Tryd.f88 52) (loopQ 0 (fun o => pattern_isFrame_L1_T) (fun v st => RetQ Tryd.prog Tryd.f88 (pattern_isFrame_x v) (pattern_isFrame_o v) .ret st) res) n (pattern_isFrame_L1_S a1 x2) := by
  intro n
  induction n with
  | zero =>
    intro x2 res hm
    cases hm
  | succ n ih =>
    intro x2 res hm
    refine HL_succ ?_
    refine R_sq Tryd.f88 104 105 (by kernel_rfl) ?_
    refine R_rn Tryd.f88 104 2 [] [] 1 ⟨[(9, va [ci a1.X.A, ci a1.X.B, ci a1.Y.A, ci a1.Y.B]), (10, vi x2), (11, vb (decide (x2 < 2)))], []⟩ o0 (by kernel_rfl) (by kernel_rfl) ?_
    refine R_sq Tryd.f88 210 211 (by kernel_rfl) ?_
    refine R_cn Tryd.f88 (.tmp 11) 420 421 (by kernel_rfl) (decide (x2 < 2)) (by kernel_rfl) (fun b3 => ?_) (fun b3 => ?_)
    · replace hm := bif_t b3 hm
      refine R_skip (by kernel_rfl) ?_
      refine R_sq Tryd.f88 422 423 (by kernel_rfl) ?_
      refine R_bk Tryd.f88 1 844 (by kernel_rfl) ?_
      refine R_sq Tryd.f88 1688 1689 (by kernel_rfl) ?_
      obtain ⟨g4, hm⟩ := bif_n hm
      refine R_rn Tryd.f88 1688 3 [] [] 1 ⟨[(4, vp 1 0), (9, va [ci a1.X.A, ci a1.X.B, ci a1.Y.A, ci a1.Y.B]), (10, vi x2)], [(1, bx 33 [ci (([a1.X.A, a1.X.B, a1.Y.A, a1.Y.B] : List Int).getD (x2.toNat * 2 + 0) 0), ci (([a1.X.A, a1.X.B, a1.Y.A, a1.Y.B] : List Int).getD (x2.toNat * 2 + 1) 0)])]⟩ (o1 (inb_of g4)) (by kernel_rfl) (by kernel_rfl) ?_
      refine R_join (ι := Bool) (nd Tryd.f88 3378) (nd Tryd.f88 3379) (by kernel_rfl) (fun p => pattern_isFrame_k2_S a1 x2 p) (fun p => pattern_isFrame_k2 x2 (pattern_isFrame_L1 a1 n) p = some res) ?_ ?_
      · rintro x7 hm
        show H _ (pattern_isFrame_k2_S a1 x2 x7) (nd Tryd.f88 3379) _
        refine R_cn Tryd.f88 (.tmp 27) 6758 6759 (by kernel_rfl) x7 (by kernel_rfl) (fun b8 => ?_) (fun b8 => ?_)
        · replace hm := bif_t b8 hm
          refine R_sq Tryd.f88 13516 13517 (by kernel_rfl) ?_
          refine R_rn Tryd.f88 13516 5 [] [] 2 ⟨[(2, vb false)], []⟩ o0 (by kernel_rfl) (by kernel_rfl) ?_
          obtain rfl := Option.some.inj hm
          refine R_ret (by kernel_rfl) ?_
          refine L1_ret false ?_
          exact ret_mk (by kernel_rfl) (by kernel_rfl)
        · replace hm := bif_f b8 hm
          refine R_skip (by kernel_rfl) ?_
          refine R_rn Tryd.f88 423 6 [] [] 2 ⟨[(9, va [ci a1.X.A, ci a1.X.B, ci a1.Y.A, ci a1.Y.B]), (10, vi (w64 (x2 + 1)))], []⟩ o0 (by kernel_rfl) (by kernel_rfl) ?_
          exact HL_enter (pattern_isFrame_L1_S a1 (w64 (x2 + 1))) (by kernel_rfl) (by kernel_rfl) (ih (w64 (x2 + 1)) _ hm)
      · rcases Bool.eq_false_or_eq_true (decide ((([a1.X.A, a1.X.B, a1.Y.A, a1.Y.B] : List Int).getD (x2.toNat * 2 + 0) 0) < (-600))) with b5 | b5
        · replace hm := bif_t b5 hm
          refine R_rn Tryd.f88 3378 4 [(3, dfx true)] [] 2 ⟨[(9, va [ci a1.X.A, ci a1.X.B, ci a1.Y.A, ci a1.Y.B]), (10, vi x2), (27, vb true)], []⟩ (o1 b5) (by kernel_rfl) (by kernel_rfl) ?_
          exact J_mk (true) hm (by kernel_rfl) (by kernel_rfl)
        · replace hm := bif_f b5 hm
          rcases Bool.eq_false_or_eq_true (decide ((([a1.X.A, a1.X.B, a1.Y.A, a1.Y.B] : List Int).getD (x2.toNat * 2 + 1) 0) > 600)) with b6 | b6
          · replace hm := bif_t b6 hm
            refine R_rn Tryd.f88 3378 4 [(3, dfx false), (8, dfx true)] [] 2 ⟨[(9, va [ci a1.X.A, ci a1.X.B, ci a1.Y.A, ci a1.Y.B]), (10, vi x2), (17, vp 1 1), (18, vi (([a1.X.A, a1.X.B, a1.Y.A, a1.Y.B] : List Int).getD (x2.toNat * 2 + 1) 0)), (19, vb (decide ((([a1.X.A, a1.X.B, a1.Y.A, a1.Y.B] : List Int).getD (x2.toNat * 2 + 1) 0) > 600))), (27, vb true)], [(1, bx 33 [ci (([a1.X.A, a1.X.B, a1.Y.A, a1.Y.B] : List Int).getD (x2.toNat * 2 + 0) 0), ci (([a1.X.A, a1.X.B, a1.Y.A, a1.Y.B] : List Int).getD (x2.toNat * 2 + 1) 0)])]⟩ (o1 (And.intro b5 b6)) (by kernel_rfl) (by kernel_rfl) ?_
            exact J_mk (true) hm (by kernel_rfl) (by kernel_rfl)
          · replace hm := bif_f b6 hm
            refine R_rn Tryd.f88 3378 4 [(3, dfx false), (8, dfx false)] [] 2 ⟨[(9, va [ci a1.X.A, ci a1.X.B, ci a1.Y.A, ci a1.Y.B]), (10, vi x2), (17, vp 1 1), (18, vi (([a1.X.A, a1.X.B, a1.Y.A, a1.Y.B] : List Int).getD (x2.toNat * 2 + 1) 0)), (19, vb (decide ((([a1.X.A, a1.X.B, a1.Y.A, a1.Y.B] : List Int).getD (x2.toNat * 2 + 1) 0) > 600))), (22, vp 1 0), (23, vi (([a1.X.A, a1.X.B, a1.Y.A, a1.Y.B] : List Int).getD (x2.toNat * 2 + 0) 0)), (24, vp 1 1), (25, vi (([a1.X.A, a1.X.B, a1.Y.A, a1.Y.B] : List Int).getD (x2.toNat * 2 + 1) 0)), (26, vb (decide ((([a1.X.A, a1.X.B, a1.Y.A, a1.Y.B] : List Int).getD (x2.toNat * 2 + 0) 0) ≥ (([a1.X.A, a1.X.B, a1.Y.A, a1.Y.B] : List Int).getD (x2.toNat * 2 + 1) 0)))), (27, vb (decide ((([a1.X.A, a1.X.B, a1.Y.A, a1.Y.B] : List Int).getD (x2.toNat * 2 + 0) 0) ≥ (([a1.X.A, a1.X.B, a1.Y.A, a1.Y.B] : List Int).getD (x2.toNat * 2 + 1) 0))))], [(1, bx 33 [ci (([a1.X.A, a1.X.B, a1.Y.A, a1.Y.B] : List Int).getD (x2.toNat * 2 + 0) 0), ci (([a1.X.A, a1.X.B, a1.Y.A, a1.Y.B] : List Int).getD (x2.toNat * 2 + 1) 0)])]⟩ (o1 (And.intro b5 b6)) (by kernel_rfl) (by kernel_rfl) ?_
            exact J_mk (decide ((([a1.X.A, a1.X.B, a1.Y.A, a1.Y.B] : List Int).getD (x2.toNat * 2 + 0) 0) ≥ (([a1.X.A, a1.X.B, a1.Y.A, a1.Y.B] : List Int).getD (x2.toNat * 2 + 1) 0))) hm (by kernel_rfl) (by kernel_rfl)
    · replace hm := bif_f b3 hm
      refine R_exit 0 (by kernel_rfl) ?_
      obtain rfl := Option.some.inj hm
      exact L1_mk () (by kernel_rfl) (by kernel_rfl)

set_option maxRecDepth 100000 in
theorem pattern_isFrame_ok (a1 : Rect) (r : Bool) (hm : pattern_isFrame a1 = some r) : CtX Tryd.prog globs 88 0 0 [.agg [ci a1.X.A, ci a1.X.B, ci a1.Y.A, ci a1.Y.B]] [] (pattern_isFrame_x r) (pattern_isFrame_o r) := by
  unfold pattern_isFrame at hm
  refine CtX_of_E (fn := Tryd.f88) (c := nd Tryd.f88 1) (nt := 29) (by kernel_rfl) (by kernel_rfl) (by kernel_rfl) (by kernel_rfl) fun E => ?_
  refine R_sq Tryd.f88 2 3 (by kernel_rfl) ?_
  refine R_rn Tryd.f88 2 0 [] [] 0 ⟨[(1, vp 0 0)], [(0, bx 35 [ci a1.X.A, ci a1.X.B, ci a1.Y.A, ci a1.Y.B])]⟩ o0 (by kernel_rfl) (by kernel_rfl) ?_
  refine R_sq Tryd.f88 6 7 (by kernel_rfl) ?_
  refine R_sq Tryd.f88 12 13 (by kernel_rfl) ?_
  refine R_rn Tryd.f88 12 1 [] [] 1 ⟨[(9, va [ci a1.X.A, ci a1.X.B, ci a1.Y.A, ci a1.Y.B]), (10, vi 0)], []⟩ o0 (by kernel_rfl) (by kernel_rfl) ?_
  obtain ⟨u11, h10, hm⟩ := bind_s hm
  refine R_loop1 (nd Tryd.f88 52) 0 (by kernel_rfl) FUEL (fun o => pattern_isFrame_L1_T) (fun v st => RetQ Tryd.prog Tryd.f88 (pattern_isFrame_x v) (pattern_isFrame_o v) .ret st) u11 (HL_enter (pattern_isFrame_L1_S a1 0) (by kernel_rfl) (by kernel_rfl) (pattern_isFrame_L1_ok E a1 FUEL 0 u11 h10)) ?_ ?_
  · rintro v12 rfl st hr
    obtain rfl := Option.some.inj hm
    exact hr
  · rintro o9 rfl
    replace hm : _ = some r := hm
    refine R_sq Tryd.f88 14 15 (by kernel_rfl) ?_
    refine R_rn Tryd.f88 14 7 [] [] 1 ⟨[(2, vb true)], []⟩ o0 (by kernel_rfl) (by kernel_rfl) ?_
    obtain rfl := Option.some.inj hm
    refine R_ret (by kernel_rfl) ?_
    exact ret_mk (by kernel_rfl) (by kernel_rfl)

end Saw
end Go.SL

namespace Go.SL
namespace Saw
open Go.Proofs
set_option maxHeartbeats 4000000

def pattern_Row_x (r : (List Node) × Int) : V := .tup [.one (.own 0 0 2 r.1.length), .one (ci r.2)]

def pattern_Row_o (r : (List Node) × Int) : List (Nat × (Nat × O)) := [(0, ro 0 80 2 r.1.length (rf e_Node r.1))]

theorem pattern_Row_f (r : (List Node) × Int) : Frozen (pattern_Row_o r) := by
  intro i k o h
  unfold pattern_Row_o at h
  rw [look_cons] at h
  split at h
  · cases h; exact fun _ _ => rfl
  · cases h

def pattern_Row_k6_S (a2 : Int) (a3 : Int) (a4 : List Span) (a5 : List (List Node)) (v17 : Span) (x21 : Int) (x40 : Int) (x41 : Bool) (l42 : List Node) (l42n : Nat) (x43 : Int) : St :=
  ⟨[(1, vi a2), (2, vi a3), (4, vc (tl (e_lst e_Node) default a5)), (12, vp 1 0), (13, vp 2 0), (14, vc (.fn 89 [.bptr 2 0 0, .bptr 1 0 0])), (15, vp 3 0), (16, vi x40), (17, vb x41), (18, vi x21), (45, vc (tl e_Span default a4)), (46, vi ((a4.length : Nat) : Int)), (47, vi x21)], [(1, bx 45 [.own 4 0 2 l42n]), (2, bx 3 [ci x43]), (3, bx 33 [ci v17.A, ci v17.B]), (4, ro 0 80 2 l42n (rf e_Node l42))]⟩

def pattern_Row_k5_S (a2 : Int) (a3 : Int) (a4 : List Span) (a5 : List (List Node)) (v17 : Span) (x19 : Int) (x20 : Bool) (x21 : Int) (l35 : List Node) (l35n : Nat) (x36 : Int) : St :=
  ⟨[(1, vi a2), (2, vi a3), (4, vc (tl (e_lst e_Node) default a5)), (12, vp 1 0), (13, vp 2 0), (14, vc (.fn 89 [.bptr 2 0 0, .bptr 1 0 0])), (15, vp 3 0), (16, vi x19), (17, vb x20), (18, vi x21), (19, vp 5 0), (45, vc (tl e_Span default a4)), (46, vi ((a4.length : Nat) : Int)), (47, vi x21)], [(1, bx 45 [.own 4 0 2 l35n]), (2, bx 3 [ci x36]), (3, bx 33 [ci v17.A, ci v17.B]), (4, ro 0 80 2 l35n (rf e_Node l35)), (5, bx 33 [ci ((a4.getD x21.toNat default).A), ci ((a4.getD x21.toNat default).B)])]⟩

def pattern_Row_k4_S (a2 : Int) (a3 : Int) (a4 : List Span) (a5 : List (List Node)) (v17 : Span) (x19 : Int) (x20 : Bool) (x21 : Int) (l22 : List Node) (x23 : Int) (x29 : Bool) : St :=
  ⟨[(1, vi a2), (2, vi a3), (4, vc (tl (e_lst e_Node) default a5)), (12, vp 1 0), (13, vp 2 0), (14, vc (.fn 89 [.bptr 2 0 0, .bptr 1 0 0])), (15, vp 3 0), (16, vi x19), (17, vb x20), (18, vi x21), (19, vp 5 0), (45, vc (tl e_Span default a4)), (46, vi ((a4.length : Nat) : Int)), (47, vi x21), (58, vb x29)], [(1, bx 45 [.own 4 0 2 l22.length]), (2, bx 3 [ci x23]), (3, bx 33 [ci v17.A, ci v17.B]), (4, ro 0 80 2 l22.length (rf e_Node l22)), (5, bx 33 [ci ((a4.getD x21.toNat default).A), ci ((a4.getD x21.toNat default).B)])]⟩

def pattern_Row_L3_S (a2 : Int) (a3 : Int) (a4 : List Span) (a5 : List (List Node)) (v17 : Span) (x19 : Int) (x20 : Bool) (x21 : Int) (l22 : List Node) (l22n : Nat) (x23 : Int) : St :=
  ⟨[(1, vi a2), (2, vi a3), (4, vc (tl (e_lst e_Node) default a5)), (12, vp 1 0), (13, vp 2 0), (14, vc (.fn 89 [.bptr 2 0 0, .bptr 1 0 0])), (15, vp 3 0), (16, vi x19), (17, vb x20), (45, vc (tl e_Span default a4)), (46, vi ((a4.length : Nat) : Int)), (47, vi x21)], [(1, bx 45 [.own 4 0 2 l22n]), (2, bx 3 [ci x23]), (3, bx 33 [ci v17.A, ci v17.B]), (4, ro 0 80 2 l22n (rf e_Node l22))]⟩

def pattern_Row_L3_T (x47 : Bool) (l48 : List Node) (x49 : Int) : St :=
  ⟨[(12, vp 1 0), (13, vp 2 0), (14, vc (.fn 89 [.bptr 2 0 0, .bptr 1 0 0])), (17, vb x47)], [(1, bx 45 [.own 4 0 2 l48.length]), (2, bx 3 [ci x49]), (4, ro 0 80 2 l48.length (rf e_Node l48))]⟩

def pattern_Row_k7_S (x57 : Int) (l58 : List Node) (l58n : Nat) : St :=
  ⟨[(12, vp 1 0), (13, vp 2 0)], [(1, bx 45 [.own 4 0 2 l58n]), (2, bx 3 [ci x57]), (4, ro 0 80 2 l58n (rf e_Node l58))]⟩

def pattern_Row_k2_S (a1 : Rect) (a2 : Int) (a3 : Int) (a4 : List Span) (a5 : List (List Node)) (x15 : Bool) : St :=
  ⟨[(1, vi a2), (2, vi a3), (3, vc (tl e_Span default a4)), (4, vc (tl (e_lst e_Node) default a5)), (5, vp 0 0), (38, vb x15)], [(0, bx 35 [ci a1.X.A, ci a1.X.B, ci a1.Y.A, ci a1.Y.B])]⟩

def pattern_Row_k1_S (a1 : Rect) (a2 : Int) (a3 : Int) (a4 : List Span) (a5 : List (List Node)) (x12 : Bool) : St :=
  ⟨[(1, vi a2), (2, vi a3), (3, vc (tl e_Span default a4)), (4, vc (tl (e_lst e_Node) default a5)), (5, vp 0 0), (32, vb x12)], [(0, bx 35 [ci a1.X.A, ci a1.X.B, ci a1.Y.A, ci a1.Y.B])]⟩

set_option maxRecDepth 100000 in
theorem pattern_Row_L3_ok (E : Env 0) (a2 : Int) (a3 : Int) (a4 : List Span) (a5 : List (List Node)) (v17 : Span) : ∀ (n : Nat) (x19 : Int) (x20 : Bool) (x21 : Int) (l22 : List Node) (l22n : Nat) (x23 : Int) (res : ((List Node) × Int) ⊕ (Bool × (List Node) × Int)), l22.length = l22n → pattern_Row_L3 a2 a3 a4 a5 v17 n x19 x20 x21 l22 x23 = some res → HL (kx E 130 0) (nd Tryd.f58 16372) (loopQ 0 (fun o => pattern_Row_L3_T o.1 o.2.1 o.2.2) (fun v st => RetQ Tryd.prog Tryd.f58 (pattern_Row_x v) (pattern_Row_o v) .ret st) res) n (pattern_Row_L3_S a2 a3 a4 a5 v17 x19 x20 x21 l22 l22n x23) := by
  intro n
  induction n with
  | zero =>
    intro x19 x20 x21 l22 l22n x23 res hl0 hm
    cases hm
  | succ n ih =>
    intro x19 x20 x21 l22 l22n x23 res hl0 hm
    subst hl0
    refine HL_succ ?_
    refine R_sq Tryd.f58 32744 32745 (by kernel_rfl) ?_
    refine R_rn Tryd.f58 32744 13 [] [] 5 ⟨[(1, vi a2), (2, vi a3), (4, vc (tl (e_lst e_Node) default a5)), (12, vp 1 0), (13, vp 2 0), (14, vc (.fn 89 [.bptr 2 0 0, .bptr 1 0 0])), (15, vp 3 0), (16, vi x19), (17, vb x20), (45, vc (tl e_Span default a4)), (46, vi ((a4.length : Nat) : Int)), (47, vi x21), (48, vb (decide (x21 < ((a4.length : Nat) : Int))))], [(1, bx 45 [.own 4 0 2 l22.length]), (2, bx 3 [ci x23]), (3, bx 33 [ci v17.A, ci v17.B]), (4, ro 0 80 2 l22.length (rf e_Node l22))]⟩ o0 (by kernel_rfl) (by kernel_rfl) ?_
    refine R_sq Tryd.f58 65490 65491 (by kernel_rfl) ?_
    refine R_cn Tryd.f58 (.tmp 48) 130980 130981 (by kernel_rfl) (decide (x21 < ((a4.length : Nat) : Int))) (by kernel_rfl) (fun b24 => ?_) (fun b24 => ?_)
    · replace hm := bif_t b24 hm
      refine R_skip (by kernel_rfl) ?_
      refine R_sq Tryd.f58 130982 130983 (by kernel_rfl) ?_
      refine R_bk Tryd.f58 1 261964 (by kernel_rfl) ?_
      refine R_sq Tryd.f58 523928 523929 (by kernel_rfl) ?_
      obtain ⟨g25, hm⟩ := bif_n hm
      refine R_rn Tryd.f58 523928 14 [] [] 5 ⟨[(1, vi a2), (2, vi a3), (4, vc (tl (e_lst e_Node) default a5)), (12, vp 1 0), (13, vp 2 0), (14, vc (.fn 89 [.bptr 2 0 0, .bptr 1 0 0])), (15, vp 3 0), (16, vi x19), (17, vb x20), (18, vi x21), (19, vp 5 0), (45, vc (tl e_Span default a4)), (46, vi ((a4.length : Nat) : Int)), (47, vi x21)], [(1, bx 45 [.own 4 0 2 l22.length]), (2, bx 3 [ci x23]), (3, bx 33 [ci v17.A, ci v17.B]), (4, ro 0 80 2 l22.length (rf e_Node l22)), (5, bx 33 [ci ((a4.getD x21.toNat default).A), ci ((a4.getD x21.toNat default).B)])]⟩ (o1 (inb_of g25)) (by kernel_rfl) (by kernel_rfl) ?_
      refine R_sq Tryd.f58 1047858 1047859 (by kernel_rfl) ?_
      refine R_bk Tryd.f58 2 2095716 (by kernel_rfl) ?_
      refine R_sq Tryd.f58 4191432 4191433 (by kernel_rfl) ?_
      refine R_rn Tryd.f58 4191432 15 [] [] 6 ⟨[(1, vi a2), (2, vi a3), (4, vc (tl (e_lst e_Node) default a5)), (12, vp 1 0), (13, vp 2 0), (14, vc (.fn 89 [.bptr 2 0 0, .bptr 1 0 0])), (15, vp 3 0), (16, vi x19), (17, vb x20), (18, vi x21), (19, vp 5 0), (45, vc (tl e_Span default a4)), (46, vi ((a4.length : Nat) : Int)), (47, vi x21), (52, vb (decide (((a4.getD x21.toNat default).A) ≥ ((a4.getD x21.toNat default).B))))], [(1, bx 45 [.own 4 0 2 l22.length]), (2, bx 3 [ci x23]), (3, bx 33 [ci v17.A, ci v17.B]), (4, ro 0 80 2 l22.length (rf e_Node l22)), (5, bx 33 [ci ((a4.getD x21.toNat default).A), ci ((a4.getD x21.toNat default).B)])]⟩ o0 (by kernel_rfl) (by kernel_rfl) ?_
      refine R_cn Tryd.f58 (.tmp 52) 8382866 8382867 (by kernel_rfl) (decide (((a4.getD x21.toNat default).A) ≥ ((a4.getD x21.toNat default).B))) (by kernel_rfl) (fun b26 => ?_) (fun b26 => ?_)
      · replace hm := bif_t b26 hm
        refine R_sq Tryd.f58 16765732 16765733 (by kernel_rfl) ?_
        refine R_rn Tryd.f58 16765732 16 [] [] 6 ⟨[(10, vc (.emp)), (11, vi 19)], []⟩ o0 (by kernel_rfl) (by kernel_rfl) ?_
        refine H_fin [.own 10 6 80 2 (rf e_Node ([] : List Node))] ⟨[(10, vo 6 0 2 0), (11, vi 19)], [(6, ro 0 80 2 0 (rf e_Node ([] : List Node)))]⟩ o0 (by kernel_rfl) ?_
        refine H_fin [.len 6 (([] : List Node).length)] ⟨[(10, vo 6 0 2 (([] : List Node).length)), (11, vi 19)], [(6, ro 0 80 2 (([] : List Node).length) (rf e_Node ([] : List Node)))]⟩ (o1 (And.intro (show 0 = ([] : List Node).length from rfl) (show 0 = ([] : List Node).length from rfl))) (by kernel_rfl) ?_
        obtain rfl := Option.some.inj hm
        refine H_swap 6 0 (by kernel_rfl) ?_
        refine R_ret (by kernel_rfl) ?_
        refine L1_ret (([] : List Node), 19) ?_
        exact ret_mk (by kernel_rfl) (by kernel_rfl)
      · replace hm := bif_f b26 hm
        refine R_join (ι := Bool) (nd Tryd.f58 16765734) (nd Tryd.f58 16765735) (by kernel_rfl) (fun p => pattern_Row_k4_S a2 a3 a4 a5 v17 x19 x20 x21 l22 x23 p) (fun p => pattern_Row_k4 a2 a3 a4 a5 v17 x19 x20 x21 l22 x23 (pattern_Row_L3 a2 a3 a4 a5 v17 n) p = some res) ?_ ?_
        · rintro x29 hm
          show H _ (pattern_Row_k4_S a2 a3 a4 a5 v17 x19 x20 x21 l22 x23 x29) (nd Tryd.f58 16765735) _
          refine R_cn Tryd.f58 (.tmp 58) 33531470 33531471 (by kernel_rfl) x29 (by kernel_rfl) (fun b30 => ?_) (fun b30 => ?_)
          · replace hm := bif_t b30 hm
            refine R_sq Tryd.f58 67062940 67062941 (by kernel_rfl) ?_
            refine R_rn Tryd.f58 67062940 18 [] [] 6 ⟨[(10, vc (.emp)), (11, vi 11)], []⟩ o0 (by kernel_rfl) (by kernel_rfl) ?_
            refine H_fin [.own 10 6 80 2 (rf e_Node ([] : List Node))] ⟨[(10, vo 6 0 2 0), (11, vi 11)], [(6, ro 0 80 2 0 (rf e_Node ([] : List Node)))]⟩ o0 (by kernel_rfl) ?_
            refine H_fin [.len 6 (([] : List Node).length)] ⟨[(10, vo 6 0 2 (([] : List Node).length)), (11, vi 11)], [(6, ro 0 80 2 (([] : List Node).length) (rf e_Node ([] : List Node)))]⟩ (o1 (And.intro (show 0 = ([] : List Node).length from rfl) (show 0 = ([] : List Node).length from rfl))) (by kernel_rfl) ?_
            obtain rfl := Option.some.inj hm
            refine H_swap 6 0 (by kernel_rfl) ?_
            refine R_ret (by kernel_rfl) ?_
            refine L1_ret (([] : List Node), 11) ?_
            exact ret_mk (by kernel_rfl) (by kernel_rfl)
          · replace hm := bif_f b30 hm
            refine R_sq Tryd.f58 67062942 67062943 (by kernel_rfl) ?_
            refine R_rn Tryd.f58 67062942 19 [] [] 6 ⟨[(1, vi a2), (2, vi a3), (4, vc (tl (e_lst e_Node) default a5)), (12, vp 1 0), (13, vp 2 0), (14, vc (.fn 89 [.bptr 2 0 0, .bptr 1 0 0])), (15, vp 3 0), (16, vi x19), (17, vb x20), (18, vi x21), (19, vp 5 0), (45, vc (tl e_Span default a4)), (46, vi ((a4.length : Nat) : Int)), (47, vi x21), (75, vb (decide (((a4.getD x21.toNat default).B) > v17.B)))], [(1, bx 45 [.own 4 0 2 l22.length]), (2, bx 3 [ci x23]), (3, bx 33 [ci v17.A, ci v17.B]), (4, ro 0 80 2 l22.length (rf e_Node l22)), (5, bx 33 [ci ((a4.getD x21.toNat default).A), ci ((a4.getD x21.toNat default).B)])]⟩ o0 (by kernel_rfl) (by kernel_rfl) ?_
            refine R_cn Tryd.f58 (.tmp 75) 134125886 134125887 (by kernel_rfl) (decide (((a4.getD x21.toNat default).B) > v17.B)) (by kernel_rfl) (fun b31 => ?_) (fun b31 => ?_)
            · replace hm := bif_t b31 hm
              refine R_sq Tryd.f58 268251772 268251773 (by kernel_rfl) ?_
              refine R_rn Tryd.f58 268251772 20 [] [] 6 ⟨[(10, vc (.emp)), (11, vi 20)], []⟩ o0 (by kernel_rfl) (by kernel_rfl) ?_
              refine H_fin [.own 10 6 80 2 (rf e_Node ([] : List Node))] ⟨[(10, vo 6 0 2 0), (11, vi 20)], [(6, ro 0 80 2 0 (rf e_Node ([] : List Node)))]⟩ o0 (by kernel_rfl) ?_
              refine H_fin [.len 6 (([] : List Node).length)] ⟨[(10, vo 6 0 2 (([] : List Node).length)), (11, vi 20)], [(6, ro 0 80 2 (([] : List Node).length) (rf e_Node ([] : List Node)))]⟩ (o1 (And.intro (show 0 = ([] : List Node).length from rfl) (show 0 = ([] : List Node).length from rfl))) (by kernel_rfl) ?_
              obtain rfl := Option.some.inj hm
              refine H_swap 6 0 (by kernel_rfl) ?_
              refine R_ret (by kernel_rfl) ?_
              refine L1_ret (([] : List Node), 20) ?_
              exact ret_mk (by kernel_rfl) (by kernel_rfl)
            · replace hm := bif_f b31 hm
              refine R_skip (by kernel_rfl) ?_
              refine R_join (ι := (List Node) × Nat × Int) (nd Tryd.f58 2095718) (nd Tryd.f58 2095719) (by kernel_rfl) (fun p => pattern_Row_k5_S a2 a3 a4 a5 v17 x19 x20 x21 p.1 p.2.1 p.2.2) (fun p => p.1.length = p.2.1 ∧ pattern_Row_k5 a2 a3 a4 a5 v17 x19 x20 x21 (pattern_Row_L3 a2 a3 a4 a5 v17 n) p.1 p.2.2 = some res) ?_ ?_
              · rintro ⟨l35, l35n, x36⟩ ⟨el35, hm⟩
                replace el35 : l35.length = l35n := el35
                subst el35
                show H _ (pattern_Row_k5_S a2 a3 a4 a5 v17 x19 x20 x21 l35 l35.length x36) (nd Tryd.f58 2095719) _
                refine R_join (ι := Int × Bool × (List Node) × Nat × Int) (nd Tryd.f58 4191438) (nd Tryd.f58 4191439) (by kernel_rfl) (fun p => pattern_Row_k6_S a2 a3 a4 a5 v17 x21 p.1 p.2.1 p.2.2.1 p.2.2.2.1 p.2.2.2.2) (fun p => p.2.2.1.length = p.2.2.2.1 ∧ pattern_Row_k6 a5 x21 (pattern_Row_L3 a2 a3 a4 a5 v17 n) p.1 p.2.1 p.2.2.1 p.2.2.2.2 = some res) ?_ ?_
                · rintro ⟨x40, x41, l42, l42n, x43⟩ ⟨el42, hm⟩
                  replace el42 : l42.length = l42n := el42
                  subst el42
                  show H _ (pattern_Row_k6_S a2 a3 a4 a5 v17 x21 x40 x41 l42 l42.length x43) (nd Tryd.f58 4191439) _
                  obtain ⟨g44, hm⟩ := bif_n hm
                  obtain ⟨v45, h46, hm⟩ := bind_s hm
                  refine R_rn Tryd.f58 4191439 27 [(5, dex (cen [(2, 0), (1, 0), (4, 0)] [0, 0, 1] 5 2 (pattern_Row_1_s1_x (a5.getD x21.toNat default) x43 l42 v45) (pattern_Row_1_s1_o (a5.getD x21.toNat default) x43 l42 v45) [114, 118] [2, 1, 4]))] [] 8 ⟨[(1, vi a2), (2, vi a3), (4, vc (tl (e_lst e_Node) default a5)), (12, vp 1 0), (13, vp 2 0), (14, vc (.fn 89 [.bptr 2 0 0, .bptr 1 0 0])), (15, vp 3 0), (16, vi x40), (17, vb x41), (45, vc (tl e_Span default a4)), (46, vi ((a4.length : Nat) : Int)), (47, vi x21)], [(1, bx 45 [.own 4 1 2 v45.2.length]), (2, bx 3 [ci v45.1]), (3, bx 33 [ci v17.A, ci v17.B]), (4, ro 1 80 2 v45.2.length (rf e_Node v45.2))]⟩ (o1 (And.intro (inb_of g44) (callS (K := (kx E 130 0)) ⟨[(114, vc (.fn 89 [.bptr 2 0 0, .bptr 1 0 0])), (118, vc (tl e_Node default (a5.getD x21.toNat default)))], [(2, bx 3 [ci x43]), (1, bx 45 [.own 4 0 2 l42.length]), (4, ro 0 80 2 l42.length (rf e_Node l42))]⟩ (opAt (rg Tryd.f58 4191439) 5) [(2, 0), (1, 0), (4, 0)] [0, 0, 1] 5 o0 rfl (pattern_Row_1_s1_ok (a5.getD x21.toNat default) x43 l42 v45 h46) (.inl rfl) (by kernel_rfl)))) (by kernel_rfl) (by kernel_rfl) ?_
                  refine R_rn Tryd.f58 130983 28 [] [] 8 ⟨[(1, vi a2), (2, vi a3), (4, vc (tl (e_lst e_Node) default a5)), (12, vp 1 0), (13, vp 2 0), (14, vc (.fn 89 [.bptr 2 0 0, .bptr 1 0 0])), (15, vp 3 0), (16, vi x40), (17, vb x41), (45, vc (tl e_Span default a4)), (46, vi ((a4.length : Nat) : Int)), (47, vi (w64 (x21 + 1)))], [(1, bx 45 [.own 4 1 2 v45.2.length]), (2, bx 3 [ci v45.1]), (3, bx 33 [ci v17.A, ci v17.B]), (4, ro 1 80 2 v45.2.length (rf e_Node v45.2))]⟩ o0 (by kernel_rfl) (by kernel_rfl) ?_
                  exact HL_enter (pattern_Row_L3_S a2 a3 a4 a5 v17 x40 x41 (w64 (x21 + 1)) v45.2 v45.2.length v45.1) (by kernel_rfl) (by kernel_rfl) (ih x40 x41 (w64 (x21 + 1)) v45.2 v45.2.length v45.1 _ rfl hm)
                · refine R_sq Tryd.f58 8382876 8382877 (by kernel_rfl) ?_
                  refine R_rn Tryd.f58 8382876 23 [] [] 7 ⟨[(1, vi a2), (2, vi a3), (4, vc (tl (e_lst e_Node) default a5)), (12, vp 1 0), (13, vp 2 0), (14, vc (.fn 89 [.bptr 2 0 0, .bptr 1 0 0])), (15, vp 3 0), (16, vi x19), (17, vb x20), (18, vi x21), (19, vp 5 0), (45, vc (tl e_Span default a4)), (46, vi ((a4.length : Nat) : Int)), (47, vi x21), (99, vb (decide (((a4.getD x21.toNat default).B) < v17.B)))], [(1, bx 45 [.own 4 0 2 l35.length]), (2, bx 3 [ci x36]), (3, bx 33 [ci v17.A, ci v17.B]), (4, ro 0 80 2 l35.length (rf e_Node l35)), (5, bx 33 [ci ((a4.getD x21.toNat default).A), ci ((a4.getD x21.toNat default).B)])]⟩ o0 (by kernel_rfl) (by kernel_rfl) ?_
                  refine R_cn Tryd.f58 (.tmp 99) 16765754 16765755 (by kernel_rfl) (decide (((a4.getD x21.toNat default).B) < v17.B)) (by kernel_rfl) (fun b37 => ?_) (fun b37 => ?_)
                  · replace hm := bif_t b37 hm
                    refine R_sq Tryd.f58 33531508 33531509 (by kernel_rfl) ?_
                    obtain ⟨v38, h39, hm⟩ := bind_s hm
                    refine R_rn Tryd.f58 33531508 24 [(5, drw 7 0 (rf e_Node ([(Node.mk a2 ((a4.getD x21.toNat default).B))] : List Node))), (6, dex (cen [(2, 0), (1, 0), (4, 0)] [0, 0, 1] 5 2 (pattern_Row_1_s1_x ([(Node.mk a2 ((a4.getD x21.toNat default).B))] : List Node) x36 l35 v38) (pattern_Row_1_s1_o ([(Node.mk a2 ((a4.getD x21.toNat default).B))] : List Node) x36 l35 v38) [100, 105] [2, 1, 4, 7]))] [] 7 ⟨[(1, vi a2), (2, vi a3), (4, vc (tl (e_lst e_Node) default a5)), (12, vp 1 0), (13, vp 2 0), (14, vc (.fn 89 [.bptr 2 0 0, .bptr 1 0 0])), (15, vp 3 0), (17, vb x20), (18, vi x21), (19, vp 5 0), (45, vc (tl e_Span default a4)), (46, vi ((a4.length : Nat) : Int)), (47, vi x21)], [(1, bx 45 [.own 4 1 2 v38.2.length]), (2, bx 3 [ci v38.1]), (3, bx 33 [ci v17.A, ci v17.B]), (4, ro 1 80 2 v38.2.length (rf e_Node v38.2)), (5, bx 33 [ci ((a4.getD x21.toNat default).A), ci ((a4.getD x21.toNat default).B)])]⟩ (o1 (And.intro (litP e_Node default 2 (fun _ => rfl) ([(Node.mk a2 ((a4.getD x21.toNat default).B))] : List Node) 1 rfl) (callS (K := (kx E 130 0)) (xs' := [.one (.lst 1 (rf e_Node ([(Node.mk a2 ((a4.getD x21.toNat default).B))] : List Node))), .one (.bptr 0 0 0), .one (.bptr 1 0 0)]) (b := false) ⟨[(100, vc (.fn 89 [.bptr 2 0 0, .bptr 1 0 0])), (105, vo 7 0 2 1)], [(2, bx 3 [ci x36]), (1, bx 45 [.own 4 0 2 l35.length]), (4, ro 0 80 2 l35.length (rf e_Node l35)), (7, ro 0 80 2 1 (rf e_Node ([(Node.mk a2 ((a4.getD x21.toNat default).B))] : List Node)))]⟩ (opAt (rg Tryd.f58 33531508) 6) [(2, 0), (1, 0), (4, 0)] [0, 0, 1] 5 (o1 (Nat.le_refl 1)) (by simp only [tl, rf, show ([(Node.mk a2 ((a4.getD x21.toNat default).B))] : List Node).length = 1 from rfl]) (pattern_Row_1_s1_ok ([(Node.mk a2 ((a4.getD x21.toNat default).B))] : List Node) x36 l35 v38 h39) (.inr ⟨(by kernel_rfl), pattern_Row_1_s1_f  ([(Node.mk a2 ((a4.getD x21.toNat default).B))] : List Node) x36 l35 v38⟩) (by kernel_rfl)))) (by kernel_rfl) (by kernel_rfl) ?_
                    refine R_rn Tryd.f58 33531509 25 [] [] 8 ⟨[(1, vi a2), (2, vi a3), (4, vc (tl (e_lst e_Node) default a5)), (12, vp 1 0), (13, vp 2 0), (14, vc (.fn 89 [.bptr 2 0 0, .bptr 1 0 0])), (15, vp 3 0), (16, vi (imin (w64 (((a4.getD x21.toNat default).B) + a3)) v17.B)), (17, vb x20), (18, vi x21), (45, vc (tl e_Span default a4)), (46, vi ((a4.length : Nat) : Int)), (47, vi x21)], [(1, bx 45 [.own 4 1 2 v38.2.length]), (2, bx 3 [ci v38.1]), (3, bx 33 [ci v17.A, ci v17.B]), (4, ro 1 80 2 v38.2.length (rf e_Node v38.2))]⟩ o0 (by kernel_rfl) (by kernel_rfl) ?_
                    exact J_mk (imin (w64 (((a4.getD x21.toNat default).B) + a3)) v17.B, x20, v38.2, v38.2.length, v38.1) ⟨rfl, hm⟩ (by kernel_rfl) (by kernel_rfl)
                  · replace hm := bif_f b37 hm
                    refine R_rn Tryd.f58 16765755 26 [] [] 7 ⟨[(1, vi a2), (2, vi a3), (4, vc (tl (e_lst e_Node) default a5)), (12, vp 1 0), (13, vp 2 0), (14, vc (.fn 89 [.bptr 2 0 0, .bptr 1 0 0])), (15, vp 3 0), (16, vi x19), (17, vb true), (18, vi x21), (45, vc (tl e_Span default a4)), (46, vi ((a4.length : Nat) : Int)), (47, vi x21)], [(1, bx 45 [.own 4 0 2 l35.length]), (2, bx 3 [ci x36]), (3, bx 33 [ci v17.A, ci v17.B]), (4, ro 0 80 2 l35.length (rf e_Node l35))]⟩ o0 (by kernel_rfl) (by kernel_rfl) ?_
                    exact J_mk (x19, true, l35, l35.length, x36) ⟨rfl, hm⟩ (by kernel_rfl) (by kernel_rfl)
              · refine R_sq Tryd.f58 4191436 4191437 (by kernel_rfl) ?_
                refine R_rn Tryd.f58 4191436 21 [] [] 6 ⟨[(1, vi a2), (2, vi a3), (4, vc (tl (e_lst e_Node) default a5)), (12, vp 1 0), (13, vp 2 0), (14, vc (.fn 89 [.bptr 2 0 0, .bptr 1 0 0])), (15, vp 3 0), (16, vi x19), (17, vb x20), (18, vi x21), (19, vp 5 0), (45, vc (tl e_Span default a4)), (46, vi ((a4.length : Nat) : Int)), (47, vi x21), (84, vb (decide (((a4.getD x21.toNat default).A) > x19)))], [(1, bx 45 [.own 4 0 2 l22.length]), (2, bx 3 [ci x23]), (3, bx 33 [ci v17.A, ci v17.B]), (4, ro 0 80 2 l22.length (rf e_Node l22)), (5, bx 33 [ci ((a4.getD x21.toNat default).A), ci ((a4.getD x21.toNat default).B)])]⟩ o0 (by kernel_rfl) (by kernel_rfl) ?_
                refine R_cn Tryd.f58 (.tmp 84) 8382874 8382875 (by kernel_rfl) (decide (((a4.getD x21.toNat default).A) > x19)) (by kernel_rfl) (fun b32 => ?_) (fun b32 => ?_)
                · replace hm := bif_t b32 hm
                  obtain ⟨v33, h34, hm⟩ := bind_s hm
                  refine R_rn Tryd.f58 8382874 22 [(8, drw 6 0 (rf e_Node ([(Node.mk a2 (w64 (((a4.getD x21.toNat default).A) - a3))), (Node.mk 0 0)] : List Node))), (9, dex (cen [(2, 0), (1, 0), (4, 0)] [0, 0, 1] 4 2 (pattern_Row_1_s1_x ([(Node.mk a2 (w64 (((a4.getD x21.toNat default).A) - a3))), (Node.mk 0 0)] : List Node) x23 l22 v33) (pattern_Row_1_s1_o ([(Node.mk a2 (w64 (((a4.getD x21.toNat default).A) - a3))), (Node.mk 0 0)] : List Node) x23 l22 v33) [85, 93] [2, 1, 4, 6]))] [] 6 ⟨[(1, vi a2), (2, vi a3), (4, vc (tl (e_lst e_Node) default a5)), (12, vp 1 0), (13, vp 2 0), (14, vc (.fn 89 [.bptr 2 0 0, .bptr 1 0 0])), (15, vp 3 0), (16, vi x19), (17, vb x20), (18, vi x21), (19, vp 5 0), (45, vc (tl e_Span default a4)), (46, vi ((a4.length : Nat) : Int)), (47, vi x21)], [(1, bx 45 [.own 4 1 2 v33.2.length]), (2, bx 3 [ci v33.1]), (3, bx 33 [ci v17.A, ci v17.B]), (4, ro 1 80 2 v33.2.length (rf e_Node v33.2)), (5, bx 33 [ci ((a4.getD x21.toNat default).A), ci ((a4.getD x21.toNat default).B)])]⟩ (o1 (And.intro (litP e_Node default 2 (fun _ => rfl) ([(Node.mk a2 (w64 (((a4.getD x21.toNat default).A) - a3))), (Node.mk 0 0)] : List Node) 2 rfl) (callS (K := (kx E 130 0)) (xs' := [.one (.lst 2 (rf e_Node ([(Node.mk a2 (w64 (((a4.getD x21.toNat default).A) - a3))), (Node.mk 0 0)] : List Node))), .one (.bptr 0 0 0), .one (.bptr 1 0 0)]) (b := false) ⟨[(85, vc (.fn 89 [.bptr 2 0 0, .bptr 1 0 0])), (93, vo 6 0 2 2)], [(2, bx 3 [ci x23]), (1, bx 45 [.own 4 0 2 l22.length]), (4, ro 0 80 2 l22.length (rf e_Node l22)), (6, ro 0 80 2 2 (rf e_Node ([(Node.mk a2 (w64 (((a4.getD x21.toNat default).A) - a3))), (Node.mk 0 0)] : List Node)))]⟩ (opAt (rg Tryd.f58 8382874) 9) [(2, 0), (1, 0), (4, 0)] [0, 0, 1] 4 (o1 (Nat.le_refl 2)) (by simp only [tl, rf, show ([(Node.mk a2 (w64 (((a4.getD x21.toNat default).A) - a3))), (Node.mk 0 0)] : List Node).length = 2 from rfl]) (pattern_Row_1_s1_ok ([(Node.mk a2 (w64 (((a4.getD x21.toNat default).A) - a3))), (Node.mk 0 0)] : List Node) x23 l22 v33 h34) (.inr ⟨(by kernel_rfl), pattern_Row_1_s1_f  ([(Node.mk a2 (w64 (((a4.getD x21.toNat default).A) - a3))), (Node.mk 0 0)] : List Node) x23 l22 v33⟩) (by kernel_rfl)))) (by kernel_rfl) (by kernel_rfl) ?_
                  exact J_mk (v33.2, v33.2.length, v33.1) ⟨rfl, hm⟩ (by kernel_rfl) (by kernel_rfl)
                · replace hm := bif_f b32 hm
                  refine R_skip (by kernel_rfl) ?_
                  exact J_mk (l22, l22.length, x23) ⟨rfl, hm⟩ (by kernel_rfl) (by kernel_rfl)
        · rcases Bool.eq_false_or_eq_true x20 with b27 | b27
          · replace hm := bif_t b27 hm
            refine R_rn Tryd.f58 16765734 17 [(1, dfx true)] [] 6 ⟨[(1, vi a2), (2, vi a3), (4, vc (tl (e_lst e_Node) default a5)), (12, vp 1 0), (13, vp 2 0), (14, vc (.fn 89 [.bptr 2 0 0, .bptr 1 0 0])), (15, vp 3 0), (16, vi x19), (17, vb x20), (18, vi x21), (19, vp 5 0), (45, vc (tl e_Span default a4)), (46, vi ((a4.length : Nat) : Int)), (47, vi x21), (58, vb true)], [(1, bx 45 [.own 4 0 2 l22.length]), (2, bx 3 [ci x23]), (3, bx 33 [ci v17.A, ci v17.B]), (4, ro 0 80 2 l22.length (rf e_Node l22)), (5, bx 33 [ci ((a4.getD x21.toNat default).A), ci ((a4.getD x21.toNat default).B)])]⟩ (o1 b27) (by kernel_rfl) (by kernel_rfl) ?_
            exact J_mk (true) hm (by kernel_rfl) (by kernel_rfl)
          · replace hm := bif_f b27 hm
            rcases Bool.eq_false_or_eq_true (((a4.getD x21.toNat default).A) != x19) with b28 | b28
            · replace hm := bif_t b28 hm
              refine R_rn Tryd.f58 16765734 17 [(1, dfx false), (6, dfx true)] [] 6 ⟨[(1, vi a2), (2, vi a3), (4, vc (tl (e_lst e_Node) default a5)), (12, vp 1 0), (13, vp 2 0), (14, vc (.fn 89 [.bptr 2 0 0, .bptr 1 0 0])), (15, vp 3 0), (16, vi x19), (17, vb x20), (18, vi x21), (19, vp 5 0), (45, vc (tl e_Span default a4)), (46, vi ((a4.length : Nat) : Int)), (47, vi x21), (58, vb (decide (((a4.getD x21.toNat default).A) < (w64 ((w64 (x19 + a3)) + 1))))), (61, vp 5 0), (62, vi ((a4.getD x21.toNat default).A)), (63, vi x19), (64, vb (((a4.getD x21.toNat default).A) != x19)), (65, vb true), (66, vp 5 0), (67, vi ((a4.getD x21.toNat default).A)), (68, vi x19), (69, vi a3), (70, vi (w64 (x19 + a3))), (71, vi (w64 ((w64 (x19 + a3)) + 1))), (72, vb (decide (((a4.getD x21.toNat default).A) < (w64 ((w64 (x19 + a3)) + 1))))), (73, vb (decide (((a4.getD x21.toNat default).A) < (w64 ((w64 (x19 + a3)) + 1)))))], [(1, bx 45 [.own 4 0 2 l22.length]), (2, bx 3 [ci x23]), (3, bx 33 [ci v17.A, ci v17.B]), (4, ro 0 80 2 l22.length (rf e_Node l22)), (5, bx 33 [ci ((a4.getD x21.toNat default).A), ci ((a4.getD x21.toNat default).B)])]⟩ (o1 (And.intro b27 b28)) (by kernel_rfl) (by kernel_rfl) ?_
              exact J_mk (decide (((a4.getD x21.toNat default).A) < (w64 ((w64 (x19 + a3)) + 1)))) hm (by kernel_rfl) (by kernel_rfl)
            · replace hm := bif_f b28 hm
              refine R_rn Tryd.f58 16765734 17 [(1, dfx false), (6, dfx false)] [] 6 ⟨[(1, vi a2), (2, vi a3), (4, vc (tl (e_lst e_Node) default a5)), (12, vp 1 0), (13, vp 2 0), (14, vc (.fn 89 [.bptr 2 0 0, .bptr 1 0 0])), (15, vp 3 0), (16, vi x19), (17, vb x20), (18, vi x21), (19, vp 5 0), (45, vc (tl e_Span default a4)), (46, vi ((a4.length : Nat) : Int)), (47, vi x21), (58, vb false), (61, vp 5 0), (62, vi ((a4.getD x21.toNat default).A)), (63, vi x19), (64, vb (((a4.getD x21.toNat default).A) != x19)), (65, vb false), (73, vb false)], [(1, bx 45 [.own 4 0 2 l22.length]), (2, bx 3 [ci x23]), (3, bx 33 [ci v17.A, ci v17.B]), (4, ro 0 80 2 l22.length (rf e_Node l22)), (5, bx 33 [ci ((a4.getD x21.toNat default).A), ci ((a4.getD x21.toNat default).B)])]⟩ (o1 (And.intro b27 b28)) (by kernel_rfl) (by kernel_rfl) ?_
              exact J_mk (false) hm (by kernel_rfl) (by kernel_rfl)
    · replace hm := bif_f b24 hm
      refine R_exit 0 (by kernel_rfl) ?_
      obtain rfl := Option.some.inj hm
      exact L1_mk (x20, l22, x23) (by kernel_rfl) (by kernel_rfl)

set_option maxRecDepth 100000 in
theorem pattern_Row_ok (a1 : Rect) (a2 : Int) (a3 : Int) (a4 : List Span) (a5 : List (List Node)) (r : (List Node) × Int) (hm : pattern_Row a1 a2 a3 a4 a5 = some r) : CtX Tryd.prog globs 58 0 0 [.agg [ci a1.X.A, ci a1.X.B, ci a1.Y.A, ci a1.Y.B], .one (ci a2), .one (ci a3), .one (tl e_Span default a4), .one (tl (e_lst e_Node) default a5)] [] (pattern_Row_x r) (pattern_Row_o r) := by
  unfold pattern_Row at hm
  refine CtX_of_E (fn := Tryd.f58) (c := nd Tryd.f58 1) (nt := 130) (by kernel_rfl) (by kernel_rfl) (by kernel_rfl) (by kernel_rfl) fun E => ?_
  refine R_sq Tryd.f58 2 3 (by kernel_rfl) ?_
  refine R_rn Tryd.f58 2 0 [] [] 0 ⟨[(1, vi a2), (2, vi a3), (3, vc (tl e_Span default a4)), (4, vc (tl (e_lst e_Node) default a5)), (5, vp 0 0)], [(0, bx 35 [ci a1.X.A, ci a1.X.B, ci a1.Y.A, ci a1.Y.B])]⟩ o0 (by kernel_rfl) (by kernel_rfl) ?_
  refine R_sq Tryd.f58 6 7 (by kernel_rfl) ?_
  refine R_sq Tryd.f58 12 13 (by kernel_rfl) ?_
  obtain ⟨v6, h7, hm⟩ := bind_s hm
  refine R_rn Tryd.f58 12 1 [(1, dex (cen [] [] 1 0 (pattern_isRip_x v6) (pattern_isRip_o v6) [20] []))] [] 1 ⟨[(1, vi a2), (2, vi a3), (3, vc (tl e_Span default a4)), (4, vc (tl (e_lst e_Node) default a5)), (5, vp 0 0), (22, vb (!v6))], [(0, bx 35 [ci a1.X.A, ci a1.X.B, ci a1.Y.A, ci a1.Y.B])]⟩ (o1 (callS (K := (kx E 130 0)) ⟨[(20, vi a2)], []⟩ (opAt (rg Tryd.f58 12) 1) [] [] 1 o0 rfl (pattern_isRip_ok a2 v6 h7) (.inl rfl) (by kernel_rfl))) (by kernel_rfl) (by kernel_rfl) ?_
  refine R_cn Tryd.f58 (.tmp 22) 26 27 (by kernel_rfl) (!v6) (by kernel_rfl) (fun b8 => ?_) (fun b8 => ?_)
  · replace hm := bif_t b8 hm
    refine R_sq Tryd.f58 52 53 (by kernel_rfl) ?_
    refine R_rn Tryd.f58 52 2 [] [] 1 ⟨[(10, vc (.emp)), (11, vi 10)], []⟩ o0 (by kernel_rfl) (by kernel_rfl) ?_
    refine H_fin [.own 10 1 80 2 (rf e_Node ([] : List Node))] ⟨[(10, vo 1 0 2 0), (11, vi 10)], [(1, ro 0 80 2 0 (rf e_Node ([] : List Node)))]⟩ o0 (by kernel_rfl) ?_
    refine H_fin [.len 1 (([] : List Node).length)] ⟨[(10, vo 1 0 2 (([] : List Node).length)), (11, vi 10)], [(1, ro 0 80 2 (([] : List Node).length) (rf e_Node ([] : List Node)))]⟩ (o1 (And.intro (show 0 = ([] : List Node).length from rfl) (show 0 = ([] : List Node).length from rfl))) (by kernel_rfl) ?_
    obtain rfl := Option.some.inj hm
    refine H_swap 1 0 (by kernel_rfl) ?_
    refine R_ret (by kernel_rfl) ?_
    exact ret_mk (by kernel_rfl) (by kernel_rfl)
  · replace hm := bif_f b8 hm
    refine R_skip (by kernel_rfl) ?_
    refine R_sq Tryd.f58 14 15 (by kernel_rfl) ?_
    refine R_join (ι := Bool) (nd Tryd.f58 28) (nd Tryd.f58 29) (by kernel_rfl) (fun p => pattern_Row_k1_S a1 a2 a3 a4 a5 p) (fun p => pattern_Row_k1 a1 a2 a3 a4 a5 p = some r) ?_ ?_
    · rintro x12 hm
      show H _ (pattern_Row_k1_S a1 a2 a3 a4 a5 x12) (nd Tryd.f58 29) _
      refine R_cn Tryd.f58 (.tmp 32) 58 59 (by kernel_rfl) x12 (by kernel_rfl) (fun b13 => ?_) (fun b13 => ?_)
      · replace hm := bif_t b13 hm
        refine R_sq Tryd.f58 116 117 (by kernel_rfl) ?_
        refine R_rn Tryd.f58 116 4 [] [] 1 ⟨[(10, vc (.emp)), (11, vi 19)], []⟩ o0 (by kernel_rfl) (by kernel_rfl) ?_
        refine H_fin [.own 10 1 80 2 (rf e_Node ([] : List Node))] ⟨[(10, vo 1 0 2 0), (11, vi 19)], [(1, ro 0 80 2 0 (rf e_Node ([] : List Node)))]⟩ o0 (by kernel_rfl) ?_
        refine H_fin [.len 1 (([] : List Node).length)] ⟨[(10, vo 1 0 2 (([] : List Node).length)), (11, vi 19)], [(1, ro 0 80 2 (([] : List Node).length) (rf e_Node ([] : List Node)))]⟩ (o1 (And.intro (show 0 = ([] : List Node).length from rfl) (show 0 = ([] : List Node).length from rfl))) (by kernel_rfl) ?_
        obtain rfl := Option.some.inj hm
        refine H_swap 1 0 (by kernel_rfl) ?_
        refine R_ret (by kernel_rfl) ?_
        exact ret_mk (by kernel_rfl) (by kernel_rfl)
      · replace hm := bif_f b13 hm
        refine R_skip (by kernel_rfl) ?_
        refine R_sq Tryd.f58 30 31 (by kernel_rfl) ?_
        refine R_join (ι := Bool) (nd Tryd.f58 60) (nd Tryd.f58 61) (by kernel_rfl) (fun p => pattern_Row_k2_S a1 a2 a3 a4 a5 p) (fun p => pattern_Row_k2 a1 a2 a3 a4 a5 p = some r) ?_ ?_
        · rintro x15 hm
          show H _ (pattern_Row_k2_S a1 a2 a3 a4 a5 x15) (nd Tryd.f58 61) _
          refine R_cn Tryd.f58 (.tmp 38) 122 123 (by kernel_rfl) x15 (by kernel_rfl) (fun b16 => ?_) (fun b16 => ?_)
          · replace hm := bif_t b16 hm
            refine R_sq Tryd.f58 244 245 (by kernel_rfl) ?_
            refine R_rn Tryd.f58 244 6 [] [] 1 ⟨[(10, vc (.emp)), (11, vi 9)], []⟩ o0 (by kernel_rfl) (by kernel_rfl) ?_
            refine H_fin [.own 10 1 80 2 (rf e_Node ([] : List Node))] ⟨[(10, vo 1 0 2 0), (11, vi 9)], [(1, ro 0 80 2 0 (rf e_Node ([] : List Node)))]⟩ o0 (by kernel_rfl) ?_
            refine H_fin [.len 1 (([] : List Node).length)] ⟨[(10, vo 1 0 2 (([] : List Node).length)), (11, vi 9)], [(1, ro 0 80 2 (([] : List Node).length) (rf e_Node ([] : List Node)))]⟩ (o1 (And.intro (show 0 = ([] : List Node).length from rfl) (show 0 = ([] : List Node).length from rfl))) (by kernel_rfl) ?_
            obtain rfl := Option.some.inj hm
            refine H_swap 1 0 (by kernel_rfl) ?_
            refine R_ret (by kernel_rfl) ?_
            exact ret_mk (by kernel_rfl) (by kernel_rfl)
          · replace hm := bif_f b16 hm
            refine R_skip (by kernel_rfl) ?_
            refine R_sq Tryd.f58 62 63 (by kernel_rfl) ?_
            refine R_rn Tryd.f58 62 7 [] [] 1 ⟨[(1, vi a2), (2, vi a3), (3, vc (tl e_Span default a4)), (4, vc (tl (e_lst e_Node) default a5)), (5, vp 0 0), (12, vp 1 0)], [(0, bx 35 [ci a1.X.A, ci a1.X.B, ci a1.Y.A, ci a1.Y.B]), (1, bx 45 [.emp])]⟩ o0 (by kernel_rfl) (by kernel_rfl) ?_
            refine R_sq Tryd.f58 126 127 (by kernel_rfl) ?_
            refine R_rn Tryd.f58 126 8 [] [] 2 ⟨[(1, vi a2), (2, vi a3), (3, vc (tl e_Span default a4)), (4, vc (tl (e_lst e_Node) default a5)), (5, vp 0 0), (12, vp 1 0), (13, vp 2 0)], [(0, bx 35 [ci a1.X.A, ci a1.X.B, ci a1.Y.A, ci a1.Y.B]), (1, bx 45 [.emp]), (2, bx 3 [ci 0])]⟩ o0 (by kernel_rfl) (by kernel_rfl) ?_
            refine R_sq Tryd.f58 254 255 (by kernel_rfl) ?_
            refine R_rn Tryd.f58 254 9 [] [] 3 ⟨[(1, vi a2), (2, vi a3), (3, vc (tl e_Span default a4)), (4, vc (tl (e_lst e_Node) default a5)), (5, vp 0 0), (12, vp 1 0), (13, vp 2 0), (14, vc (.fn 89 [.bptr 2 0 0, .bptr 1 0 0]))], [(0, bx 35 [ci a1.X.A, ci a1.X.B, ci a1.Y.A, ci a1.Y.B]), (1, bx 45 [.emp]), (2, bx 3 [ci 0])]⟩ o0 (by kernel_rfl) (by kernel_rfl) ?_
            refine R_sq Tryd.f58 510 511 (by kernel_rfl) ?_
            obtain ⟨v17, h18, hm⟩ := bind_s hm
            refine R_rn Tryd.f58 510 10 [(2, dex (cen [] [] 3 0 (pattern_along_x v17) (pattern_along_o v17) [40, 41] []))] [] 3 ⟨[(1, vi a2), (2, vi a3), (3, vc (tl e_Span default a4)), (4, vc (tl (e_lst e_Node) default a5)), (12, vp 1 0), (13, vp 2 0), (14, vc (.fn 89 [.bptr 2 0 0, .bptr 1 0 0])), (15, vp 3 0)], [(1, bx 45 [.emp]), (2, bx 3 [ci 0]), (3, bx 33 [ci v17.A, ci v17.B])]⟩ (o1 (callS (K := (kx E 130 0)) ⟨[(40, va [ci a1.X.A, ci a1.X.B, ci a1.Y.A, ci a1.Y.B]), (41, vi a2)], []⟩ (opAt (rg Tryd.f58 510) 2) [] [] 3 o0 rfl (pattern_along_ok a1 a2 v17 h18) (.inl rfl) (by kernel_rfl))) (by kernel_rfl) (by kernel_rfl) ?_
            refine R_sq Tryd.f58 1022 1023 (by kernel_rfl) ?_
            refine R_rn Tryd.f58 1022 11 [] [] 4 ⟨[(1, vi a2), (2, vi a3), (3, vc (tl e_Span default a4)), (4, vc (tl (e_lst e_Node) default a5)), (12, vp 1 0), (13, vp 2 0), (14, vc (.fn 89 [.bptr 2 0 0, .bptr 1 0 0])), (15, vp 3 0), (16, vi v17.A), (17, vb false)], [(1, bx 45 [.emp]), (2, bx 3 [ci 0]), (3, bx 33 [ci v17.A, ci v17.B])]⟩ o0 (by kernel_rfl) (by kernel_rfl) ?_
            refine R_sq Tryd.f58 2046 2047 (by kernel_rfl) ?_
            refine R_sq Tryd.f58 4092 4093 (by kernel_rfl) ?_
            refine R_rn Tryd.f58 4092 12 [] [] 4 ⟨[(1, vi a2), (2, vi a3), (4, vc (tl (e_lst e_Node) default a5)), (12, vp 1 0), (13, vp 2 0), (14, vc (.fn 89 [.bptr 2 0 0, .bptr 1 0 0])), (15, vp 3 0), (16, vi v17.A), (17, vb false), (45, vc (tl e_Span default a4)), (46, vi ((a4.length : Nat) : Int)), (47, vi 0)], [(1, bx 45 [.emp]), (2, bx 3 [ci 0]), (3, bx 33 [ci v17.A, ci v17.B])]⟩ o0 (by kernel_rfl) (by kernel_rfl) ?_
            refine H_fin [.ownB 1 0 4 80 2 (rf e_Node ([] : List Node))] ⟨[(1, vi a2), (2, vi a3), (4, vc (tl (e_lst e_Node) default a5)), (12, vp 1 0), (13, vp 2 0), (14, vc (.fn 89 [.bptr 2 0 0, .bptr 1 0 0])), (15, vp 3 0), (16, vi v17.A), (17, vb false), (45, vc (tl e_Span default a4)), (46, vi ((a4.length : Nat) : Int)), (47, vi 0)], [(1, bx 45 [.own 4 0 2 0]), (2, bx 3 [ci 0]), (3, bx 33 [ci v17.A, ci v17.B]), (4, ro 0 80 2 0 (rf e_Node ([] : List Node)))]⟩ o0 (by kernel_rfl) ?_
            obtain ⟨u52, h51, hm⟩ := bind_s hm
            refine R_loop1 (nd Tryd.f58 16372) 0 (by kernel_rfl) FUEL (fun o => pattern_Row_L3_T o.1 o.2.1 o.2.2) (fun v st => RetQ Tryd.prog Tryd.f58 (pattern_Row_x v) (pattern_Row_o v) .ret st) u52 (HL_enter (pattern_Row_L3_S a2 a3 a4 a5 v17 v17.A false 0 ([] : List Node) 0 0) (by kernel_rfl) (by kernel_rfl) (pattern_Row_L3_ok E a2 a3 a4 a5 v17 FUEL v17.A false 0 ([] : List Node) 0 0 u52 rfl h51)) ?_ ?_
            · rintro v53 rfl st hr
              obtain rfl := Option.some.inj hm
              exact hr
            · rintro o50 rfl
              replace hm : _ = some r := hm
              refine R_join (ι := Int × (List Node) × Nat) (nd Tryd.f58 4094) (nd Tryd.f58 4095) (by kernel_rfl) (fun p => pattern_Row_k7_S p.1 p.2.1 p.2.2) (fun p => p.2.1.length = p.2.2 ∧ pattern_Row_k7 p.1 p.2.1 = some r) ?_ ?_
              · rintro ⟨x57, l58, l58n⟩ ⟨el58, hm⟩
                replace el58 : l58.length = l58n := el58
                subst el58
                show H _ (pattern_Row_k7_S x57 l58 l58.length) (nd Tryd.f58 4095) _
                refine R_sq Tryd.f58 8190 8191 (by kernel_rfl) ?_
                refine R_sq Tryd.f58 16380 16381 (by kernel_rfl) ?_
                refine R_rn Tryd.f58 16380 31 [] [] 6 ⟨[(12, vp 1 0), (128, vb (decide (x57 > 127)))], [(1, bx 45 [.own 4 0 2 l58.length]), (4, ro 0 80 2 l58.length (rf e_Node l58))]⟩ o0 (by kernel_rfl) (by kernel_rfl) ?_
                refine R_cn Tryd.f58 (.tmp 128) 32762 32763 (by kernel_rfl) (decide (x57 > 127)) (by kernel_rfl) (fun b59 => ?_) (fun b59 => ?_)
                · replace hm := bif_t b59 hm
                  refine R_sq Tryd.f58 65524 65525 (by kernel_rfl) ?_
                  refine R_rn Tryd.f58 65524 32 [] [] 6 ⟨[(10, vc (.emp)), (11, vi 4)], []⟩ o0 (by kernel_rfl) (by kernel_rfl) ?_
                  refine H_fin [.own 10 6 80 2 (rf e_Node ([] : List Node))] ⟨[(10, vo 6 0 2 0), (11, vi 4)], [(6, ro 0 80 2 0 (rf e_Node ([] : List Node)))]⟩ o0 (by kernel_rfl) ?_
                  refine H_fin [.len 6 (([] : List Node).length)] ⟨[(10, vo 6 0 2 (([] : List Node).length)), (11, vi 4)], [(6, ro 0 80 2 (([] : List Node).length) (rf e_Node ([] : List Node)))]⟩ (o1 (And.intro (show 0 = ([] : List Node).length from rfl) (show 0 = ([] : List Node).length from rfl))) (by kernel_rfl) ?_
                  obtain rfl := Option.some.inj hm
                  refine H_swap 6 0 (by kernel_rfl) ?_
                  refine R_ret (by kernel_rfl) ?_
                  exact ret_mk (by kernel_rfl) (by kernel_rfl)
                · replace hm := bif_f b59 hm
                  refine R_skip (by kernel_rfl) ?_
                  refine R_sq Tryd.f58 16382 16383 (by kernel_rfl) ?_
                  refine R_rn Tryd.f58 16382 33 [] [] 6 ⟨[(10, vo 4 0 2 l58.length), (11, vi 0)], [(4, ro 0 80 2 l58.length (rf e_Node l58))]⟩ o0 (by kernel_rfl) (by kernel_rfl) ?_
                  obtain rfl := Option.some.inj hm
                  refine H_swap 4 0 (by kernel_rfl) ?_
                  refine R_ret (by kernel_rfl) ?_
                  exact ret_mk (by kernel_rfl) (by kernel_rfl)
              · refine R_sq Tryd.f58 8188 8189 (by kernel_rfl) ?_
                refine R_rn Tryd.f58 8188 29 [] [] 5 ⟨[(12, vp 1 0), (13, vp 2 0), (14, vc (.fn 89 [.bptr 2 0 0, .bptr 1 0 0])), (122, vb (!o50.1))], [(1, bx 45 [.own 4 0 2 o50.2.1.length]), (2, bx 3 [ci o50.2.2]), (4, ro 0 80 2 o50.2.1.length (rf e_Node o50.2.1))]⟩ o0 (by kernel_rfl) (by kernel_rfl) ?_
                refine R_cn Tryd.f58 (.tmp 122) 16378 16379 (by kernel_rfl) (!o50.1) (by kernel_rfl) (fun b54 => ?_) (fun b54 => ?_)
                · replace hm := bif_t b54 hm
                  obtain ⟨v55, h56, hm⟩ := bind_s hm
                  refine R_rn Tryd.f58 16378 30 [(2, drw 5 0 (rf e_Node ([(Node.mk 0 0)] : List Node))), (3, dex (cen [(2, 0), (1, 0), (4, 0)] [0, 0, 1] 3 2 (pattern_Row_1_s1_x ([(Node.mk 0 0)] : List Node) o50.2.2 o50.2.1 v55) (pattern_Row_1_s1_o ([(Node.mk 0 0)] : List Node) o50.2.2 o50.2.1 v55) [123, 125] [2, 1, 4, 5]))] [] 5 ⟨[(12, vp 1 0), (13, vp 2 0)], [(1, bx 45 [.own 4 1 2 v55.2.length]), (2, bx 3 [ci v55.1]), (4, ro 1 80 2 v55.2.length (rf e_Node v55.2))]⟩ (o1 (And.intro (litP e_Node default 2 (fun _ => rfl) ([(Node.mk 0 0)] : List Node) 1 rfl) (callS (K := (kx E 130 0)) (xs' := [.one (.lst 1 (rf e_Node ([(Node.mk 0 0)] : List Node))), .one (.bptr 0 0 0), .one (.bptr 1 0 0)]) (b := false) ⟨[(123, vc (.fn 89 [.bptr 2 0 0, .bptr 1 0 0])), (125, vo 5 0 2 1)], [(2, bx 3 [ci o50.2.2]), (1, bx 45 [.own 4 0 2 o50.2.1.length]), (4, ro 0 80 2 o50.2.1.length (rf e_Node o50.2.1)), (5, ro 0 80 2 1 (rf e_Node ([(Node.mk 0 0)] : List Node)))]⟩ (opAt (rg Tryd.f58 16378) 3) [(2, 0), (1, 0), (4, 0)] [0, 0, 1] 3 (o1 (Nat.le_refl 1)) (by simp only [tl, rf, show ([(Node.mk 0 0)] : List Node).length = 1 from rfl]) (pattern_Row_1_s1_ok ([(Node.mk 0 0)] : List Node) o50.2.2 o50.2.1 v55 h56) (.inr ⟨(by kernel_rfl), pattern_Row_1_s1_f  ([(Node.mk 0 0)] : List Node) o50.2.2 o50.2.1 v55⟩) (by kernel_rfl)))) (by kernel_rfl) (by kernel_rfl) ?_
                  exact J_mk (v55.1, v55.2, v55.2.length) ⟨rfl, hm⟩ (by kernel_rfl) (by kernel_rfl)
                · replace hm := bif_f b54 hm
                  refine R_skip (by kernel_rfl) ?_
                  exact J_mk (o50.2.2, o50.2.1, o50.2.1.length) ⟨rfl, hm⟩ (by kernel_rfl) (by kernel_rfl)
        · rcases Bool.eq_false_or_eq_true (decide (a3 < 0)) with b14 | b14
          · replace hm := bif_t b14 hm
            refine R_rn Tryd.f58 60 5 [(2, dfx true)] [] 1 ⟨[(1, vi a2), (2, vi a3), (3, vc (tl e_Span default a4)), (4, vc (tl (e_lst e_Node) default a5)), (5, vp 0 0), (38, vb true)], [(0, bx 35 [ci a1.X.A, ci a1.X.B, ci a1.Y.A, ci a1.Y.B])]⟩ (o1 b14) (by kernel_rfl) (by kernel_rfl) ?_
            exact J_mk (true) hm (by kernel_rfl) (by kernel_rfl)
          · replace hm := bif_f b14 hm
            refine R_rn Tryd.f58 60 5 [(2, dfx false)] [] 1 ⟨[(1, vi a2), (2, vi a3), (3, vc (tl e_Span default a4)), (4, vc (tl (e_lst e_Node) default a5)), (5, vp 0 0), (38, vb (decide (a3 > 20)))], [(0, bx 35 [ci a1.X.A, ci a1.X.B, ci a1.Y.A, ci a1.Y.B])]⟩ (o1 b14) (by kernel_rfl) (by kernel_rfl) ?_
            exact J_mk (decide (a3 > 20)) hm (by kernel_rfl) (by kernel_rfl)
    · obtain ⟨v9, h10, hm⟩ := bind_s hm
      rcases Bool.eq_false_or_eq_true (!v9) with b11 | b11
      · replace hm := bif_t b11 hm
        refine R_rn Tryd.f58 28 3 [(1, dex (cen [] [] 1 0 (pattern_isFrame_x v9) (pattern_isFrame_o v9) [23] [])), (3, dfx true)] [] 1 ⟨[(1, vi a2), (2, vi a3), (3, vc (tl e_Span default a4)), (4, vc (tl (e_lst e_Node) default a5)), (5, vp 0 0), (32, vb true)], [(0, bx 35 [ci a1.X.A, ci a1.X.B, ci a1.Y.A, ci a1.Y.B])]⟩ (o1 (And.intro (callS (K := (kx E 130 0)) ⟨[(23, va [ci a1.X.A, ci a1.X.B, ci a1.Y.A, ci a1.Y.B])], []⟩ (opAt (rg Tryd.f58 28) 1) [] [] 1 o0 rfl (pattern_isFrame_ok a1 v9 h10) (.inl rfl) (by kernel_rfl)) b11)) (by kernel_rfl) (by kernel_rfl) ?_
        exact J_mk (true) hm (by kernel_rfl) (by kernel_rfl)
      · replace hm := bif_f b11 hm
        refine R_rn Tryd.f58 28 3 [(1, dex (cen [] [] 1 0 (pattern_isFrame_x v9) (pattern_isFrame_o v9) [23] [])), (3, dfx false)] [] 1 ⟨[(1, vi a2), (2, vi a3), (3, vc (tl e_Span default a4)), (4, vc (tl (e_lst e_Node) default a5)), (5, vp 0 0), (32, vb (((a4.length : Nat) : Int) != ((a5.length : Nat) : Int)))], [(0, bx 35 [ci a1.X.A, ci a1.X.B, ci a1.Y.A, ci a1.Y.B])]⟩ (o1 (And.intro (callS (K := (kx E 130 0)) ⟨[(23, va [ci a1.X.A, ci a1.X.B, ci a1.Y.A, ci a1.Y.B])], []⟩ (opAt (rg Tryd.f58 28) 1) [] [] 1 o0 rfl (pattern_isFrame_ok a1 v9 h10) (.inl rfl) (by kernel_rfl)) b11)) (by kernel_rfl) (by kernel_rfl) ?_
        exact J_mk (((a4.length : Nat) : Int) != ((a5.length : Nat) : Int)) hm (by kernel_rfl) (by kernel_rfl)

end Saw
end Go.SL
