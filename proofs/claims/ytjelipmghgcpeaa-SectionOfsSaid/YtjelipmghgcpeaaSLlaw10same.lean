import Derived.Test.YtjelipmghgcpeaaSBase
set_option linter.unusedVariables false
set_option linter.unusedSimpArgs false
namespace Go.SL
namespace Saw
open Go.Proofs
set_option maxHeartbeats 4000000

def law10_same_x (r : Bool) : V := vb r

def law10_same_o (r : Bool) : List (Nat × (Nat × O)) := []

theorem law10_same_f (r : Bool) : Frozen (law10_same_o r) := by
  intro i k o h
  unfold law10_same_o at h
  cases h

def law10_same_L2_S (a1 : Section) (a2 : Section) (x6 : Int) : St :=
  ⟨[(2, vp 0 0), (3, vp 1 0), (5, vi x6)], [(0, bx 24 [ci a1.Low, tl e_Span default a1.Rows]), (1, bx 24 [ci a2.Low, tl e_Span default a2.Rows])]⟩

def law10_same_L2_T : St :=
  ⟨[], []⟩

def law10_same_k1_S (a1 : Section) (a2 : Section) (x4 : Bool) : St :=
  ⟨[(2, vp 0 0), (3, vp 1 0), (19, vb x4)], [(0, bx 24 [ci a1.Low, tl e_Span default a1.Rows]), (1, bx 24 [ci a2.Low, tl e_Span default a2.Rows])]⟩

set_option maxRecDepth 100000 in
theorem law10_same_L2_ok (E : Env 0) (a1 : Section) (a2 : Section) : ∀ (n : Nat) (x6 : Int) (res : Bool ⊕ Unit), law10_same_L2 a1 a2 n x6 = some res → HL (kx E 38 0) (nd Try.f18 116) (loopQ 0 (fun o => law10_same_L2_T) (fun v st => RetQ Try.prog Try.f18 (law10_same_x v) (law10_same_o v) .ret st) res) n (law10_same_L2_S a1 a2 x6) := by
  intro n
  induction n with
  | zero =>
    intro x6 res hm
    cases hm
  | succ n ih =>
    intro x6 res hm
    refine HL_succ ?_
    refine R_sq Try.f18 232 233 (by kernel_rfl) ?_
    refine R_sq Try.f18 464 465 (by kernel_rfl) ?_
    refine R_rn Try.f18 464 4 [] [] 2 ⟨[(2, vp 0 0), (3, vp 1 0), (5, vi x6), (24, vb (decide (x6 < ((a1.Rows.length : Nat) : Int))))], [(0, bx 24 [ci a1.Low, tl e_Span default a1.Rows]), (1, bx 24 [ci a2.Low, tl e_Span default a2.Rows])]⟩ o0 (by kernel_rfl) (by kernel_rfl) ?_
    refine R_cn Try.f18 (.tmp 24) 930 931 (by kernel_rfl) (decide (x6 < ((a1.Rows.length : Nat) : Int))) (by kernel_rfl) (fun b7 => ?_) (fun b7 => ?_)
    · replace hm := bif_t b7 hm
      refine R_skip (by kernel_rfl) ?_
      refine R_sq Try.f18 466 467 (by kernel_rfl) ?_
      refine R_bk Try.f18 1 932 (by kernel_rfl) ?_
      refine R_sq Try.f18 1864 1865 (by kernel_rfl) ?_
      obtain ⟨g8, hm⟩ := bif_n hm
      obtain ⟨g9, hm⟩ := bif_n hm
      refine R_dr Try.f18 1864 6 [] [] [] [0, 1, 0, 7, 15, 0, 32, 0, 224, 480, 1023] 2 ⟨[(2, vp 0 0), (3, vp 1 0), (5, vi x6), (37, vb (!((((a1.Rows.getD x6.toNat default).A) == ((a2.Rows.getD x6.toNat default).A)) && ((((a1.Rows.getD x6.toNat default).B) == ((a2.Rows.getD x6.toNat default).B)) && true))))], [(0, bx 24 [ci a1.Low, tl e_Span default a1.Rows]), (1, bx 24 [ci a2.Low, tl e_Span default a2.Rows])]⟩ (o1 (And.intro (inb_of g8) (inb_of g9))) (by kernel_rfl) (by kernel_rfl) ?_
      refine R_cn Try.f18 (.tmp 37) 3730 3731 (by kernel_rfl) (!((((a1.Rows.getD x6.toNat default).A) == ((a2.Rows.getD x6.toNat default).A)) && ((((a1.Rows.getD x6.toNat default).B) == ((a2.Rows.getD x6.toNat default).B)) && true))) (by kernel_rfl) (fun b10 => ?_) (fun b10 => ?_)
      · replace hm := bif_t b10 hm
        refine R_sq Try.f18 7460 7461 (by kernel_rfl) ?_
        refine R_rn Try.f18 7460 7 [] [] 2 ⟨[(4, vb false)], []⟩ o0 (by kernel_rfl) (by kernel_rfl) ?_
        obtain rfl := Option.some.inj hm
        refine R_ret (by kernel_rfl) ?_
        refine L1_ret false ?_
        exact ret_mk (by kernel_rfl) (by kernel_rfl)
      · replace hm := bif_f b10 hm
        refine R_skip (by kernel_rfl) ?_
        refine R_rn Try.f18 467 5 [] [] 2 ⟨[(2, vp 0 0), (3, vp 1 0), (5, vi (w64 (x6 + 1)))], [(0, bx 24 [ci a1.Low, tl e_Span default a1.Rows]), (1, bx 24 [ci a2.Low, tl e_Span default a2.Rows])]⟩ o0 (by kernel_rfl) (by kernel_rfl) ?_
        exact HL_enter (law10_same_L2_S a1 a2 (w64 (x6 + 1))) (by kernel_rfl) (by kernel_rfl) (ih (w64 (x6 + 1)) _ hm)
    · replace hm := bif_f b7 hm
      refine R_exit 0 (by kernel_rfl) ?_
      obtain rfl := Option.some.inj hm
      exact L1_mk () (by kernel_rfl) (by kernel_rfl)

set_option maxRecDepth 100000 in
theorem law10_same_ok (a1 : Section) (a2 : Section) (r : Bool) (hm : law10_same a1 a2 = some r) : CtX Try.prog globs 18 0 0 [.agg [ci a1.Low, tl e_Span default a1.Rows], .agg [ci a2.Low, tl e_Span default a2.Rows]] [] (law10_same_x r) (law10_same_o r) := by
  unfold law10_same at hm
  refine CtX_of_E (fn := Try.f18) (c := nd Try.f18 1) (nt := 38) (by kernel_rfl) (by kernel_rfl) (by kernel_rfl) (by kernel_rfl) fun E => ?_
  refine R_sq Try.f18 2 3 (by kernel_rfl) ?_
  refine R_rn Try.f18 2 0 [] [] 0 ⟨[(2, vp 0 0), (3, vp 1 0)], [(0, bx 24 [ci a1.Low, tl e_Span default a1.Rows]), (1, bx 24 [ci a2.Low, tl e_Span default a2.Rows])]⟩ o0 (by kernel_rfl) (by kernel_rfl) ?_
  refine R_sq Try.f18 6 7 (by kernel_rfl) ?_
  refine R_join (ι := Bool) (nd Try.f18 12) (nd Try.f18 13) (by kernel_rfl) (fun p => law10_same_k1_S a1 a2 p) (fun p => law10_same_k1 a1 a2 p = some r) ?_ ?_
  · rintro x4 hm
    show H _ (law10_same_k1_S a1 a2 x4) (nd Try.f18 13) _
    refine R_cn Try.f18 (.tmp 19) 26 27 (by kernel_rfl) x4 (by kernel_rfl) (fun b5 => ?_) (fun b5 => ?_)
    · replace hm := bif_t b5 hm
      refine R_sq Try.f18 52 53 (by kernel_rfl) ?_
      refine R_rn Try.f18 52 2 [] [] 2 ⟨[(4, vb false)], []⟩ o0 (by kernel_rfl) (by kernel_rfl) ?_
      obtain rfl := Option.some.inj hm
      refine R_ret (by kernel_rfl) ?_
      exact ret_mk (by kernel_rfl) (by kernel_rfl)
    · replace hm := bif_f b5 hm
      refine R_skip (by kernel_rfl) ?_
      refine R_sq Try.f18 14 15 (by kernel_rfl) ?_
      refine R_sq Try.f18 28 29 (by kernel_rfl) ?_
      refine R_rn Try.f18 28 3 [] [] 2 ⟨[(2, vp 0 0), (3, vp 1 0), (5, vi 0)], [(0, bx 24 [ci a1.Low, tl e_Span default a1.Rows]), (1, bx 24 [ci a2.Low, tl e_Span default a2.Rows])]⟩ o0 (by kernel_rfl) (by kernel_rfl) ?_
      obtain ⟨u13, h12, hm⟩ := bind_s hm
      refine R_loop1 (nd Try.f18 116) 0 (by kernel_rfl) FUEL (fun o => law10_same_L2_T) (fun v st => RetQ Try.prog Try.f18 (law10_same_x v) (law10_same_o v) .ret st) u13 (HL_enter (law10_same_L2_S a1 a2 0) (by kernel_rfl) (by kernel_rfl) (law10_same_L2_ok E a1 a2 FUEL 0 u13 h12)) ?_ ?_
      · rintro v14 rfl st hr
        obtain rfl := Option.some.inj hm
        exact hr
      · rintro o11 rfl
        replace hm : _ = some r := hm
        refine R_sq Try.f18 30 31 (by kernel_rfl) ?_
        refine R_rn Try.f18 30 8 [] [] 2 ⟨[(4, vb true)], []⟩ o0 (by kernel_rfl) (by kernel_rfl) ?_
        obtain rfl := Option.some.inj hm
        refine R_ret (by kernel_rfl) ?_
        exact ret_mk (by kernel_rfl) (by kernel_rfl)
  · rcases Bool.eq_false_or_eq_true (a1.Low != a2.Low) with b3 | b3
    · replace hm := bif_t b3 hm
      refine R_rn Try.f18 12 1 [(5, dfx true)] [] 2 ⟨[(2, vp 0 0), (3, vp 1 0), (19, vb true)], [(0, bx 24 [ci a1.Low, tl e_Span default a1.Rows]), (1, bx 24 [ci a2.Low, tl e_Span default a2.Rows])]⟩ (o1 b3) (by kernel_rfl) (by kernel_rfl) ?_
      exact J_mk (true) hm (by kernel_rfl) (by kernel_rfl)
    · replace hm := bif_f b3 hm
      refine R_rn Try.f18 12 1 [(5, dfx false)] [] 2 ⟨[(2, vp 0 0), (3, vp 1 0), (19, vb (((a1.Rows.length : Nat) : Int) != ((a2.Rows.length : Nat) : Int)))], [(0, bx 24 [ci a1.Low, tl e_Span default a1.Rows]), (1, bx 24 [ci a2.Low, tl e_Span default a2.Rows])]⟩ (o1 b3) (by kernel_rfl) (by kernel_rfl) ?_
      exact J_mk (((a1.Rows.length : Nat) : Int) != ((a2.Rows.length : Nat) : Int)) hm (by kernel_rfl) (by kernel_rfl)

end Saw
end Go.SL
