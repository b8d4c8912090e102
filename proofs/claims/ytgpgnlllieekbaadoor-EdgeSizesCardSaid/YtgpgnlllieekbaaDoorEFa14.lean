import Derived.Test.YtgpgnlllieekbaaDoorEBase
import Derived.Test.YtgpgnlllieekbaaDoorEFa13
set_option linter.unusedVariables false
set_option linter.unusedSimpArgs false
namespace Go.SL
namespace Saw
open Go.Proofs
set_option maxHeartbeats 4000000

def ref19_checkLengths_x (r : Int) : V := vi r

def ref19_checkLengths_o (r : Int) : List (Nat × (Nat × O)) := []

theorem ref19_checkLengths_f (r : Int) : Frozen (ref19_checkLengths_o r) := by
  intro i k o h
  unfold ref19_checkLengths_o at h
  cases h

def ref19_checkLengths_k3_S (a1 : Product) (x5 : Int) (x14 : Bool) : St :=
  ⟨[(1, vp 0 0), (3, vi x5), (56, vb x14)], [(0, bx 43 [cs a1.Name, ci a1.Thick, ci a1.Width, ci a1.Allow, ci a1.Wane, tl e_i64 default a1.Lengths, tl e_i64 default a1.Prices])]⟩

def ref19_checkLengths_k2_S (a1 : Product) (x5 : Int) (x9 : Bool) : St :=
  ⟨[(1, vp 0 0), (3, vi x5), (40, vb x9)], [(0, bx 43 [cs a1.Name, ci a1.Thick, ci a1.Width, ci a1.Allow, ci a1.Wane, tl e_i64 default a1.Lengths, tl e_i64 default a1.Prices])]⟩

def ref19_checkLengths_L1_S (a1 : Product) (x5 : Int) : St :=
  ⟨[(1, vp 0 0), (3, vi x5)], [(0, bx 43 [cs a1.Name, ci a1.Thick, ci a1.Width, ci a1.Allow, ci a1.Wane, tl e_i64 default a1.Lengths, tl e_i64 default a1.Prices])]⟩

def ref19_checkLengths_L1_T (a1 : Product) : St :=
  ⟨[(1, vp 0 0)], [(0, bx 43 [cs a1.Name, ci a1.Thick, ci a1.Width, ci a1.Allow, ci a1.Wane, tl e_i64 default a1.Lengths, tl e_i64 default a1.Prices])]⟩

def ref19_checkLengths_k5_S (a1 : Product) (x20 : Int) (x24 : Bool) : St :=
  ⟨[(1, vp 0 0), (4, vi x20), (77, vb x24)], [(0, bx 43 [cs a1.Name, ci a1.Thick, ci a1.Width, ci a1.Allow, ci a1.Wane, tl e_i64 default a1.Lengths, tl e_i64 default a1.Prices])]⟩

def ref19_checkLengths_L4_S (a1 : Product) (x20 : Int) : St :=
  ⟨[(1, vp 0 0), (4, vi x20)], [(0, bx 43 [cs a1.Name, ci a1.Thick, ci a1.Width, ci a1.Allow, ci a1.Wane, tl e_i64 default a1.Lengths, tl e_i64 default a1.Prices])]⟩

def ref19_checkLengths_L4_T : St :=
  ⟨[], []⟩

set_option maxRecDepth 100000 in
theorem ref19_checkLengths_L1_ok (E : Env 0) (a1 : Product) : ∀ (n : Nat) (x5 : Int) (res : Int ⊕ Unit), ref19_checkLengths_L1 a1 n x5 = some res → HL (kx E 78 0) (nd Tryd.f52 500) (loopQ 0 (fun o => ref19_checkLengths_L1_T a1) (fun v st => RetQ Tryd.prog Tryd.f52 (ref19_checkLengths_x v) (ref19_checkLengths_o v) .ret st) res) n (ref19_checkLengths_L1_S a1 x5) := by
  intro n
  induction n with
  | zero =>
    intro x5 res hm
    cases hm
  | succ n ih =>
    intro x5 res hm
    refine HL_succ ?_
    refine R_sq Tryd.f52 1000 1001 (by kernel_rfl) ?_
    refine R_sq Tryd.f52 2000 2001 (by kernel_rfl) ?_
    refine R_rn Tryd.f52 2000 8 [] [] 1 ⟨[(1, vp 0 0), (3, vi x5), (24, vb (decide (x5 < ((a1.Lengths.length : Nat) : Int))))], [(0, bx 43 [cs a1.Name, ci a1.Thick, ci a1.Width, ci a1.Allow, ci a1.Wane, tl e_i64 default a1.Lengths, tl e_i64 default a1.Prices])]⟩ o0 (by kernel_rfl) (by kernel_rfl) ?_
    refine R_cn Tryd.f52 (.tmp 24) 4002 4003 (by kernel_rfl) (decide (x5 < ((a1.Lengths.length : Nat) : Int))) (by kernel_rfl) (fun b6 => ?_) (fun b6 => ?_)
    · replace hm := bif_t b6 hm
      refine R_skip (by kernel_rfl) ?_
      refine R_sq Tryd.f52 2002 2003 (by kernel_rfl) ?_
      refine R_bk Tryd.f52 1 4004 (by kernel_rfl) ?_
      refine R_sq Tryd.f52 8008 8009 (by kernel_rfl) ?_
      refine R_join (ι := Bool) (nd Tryd.f52 16016) (nd Tryd.f52 16017) (by kernel_rfl) (fun p => ref19_checkLengths_k2_S a1 x5 p) (fun p => ref19_checkLengths_k2 a1 x5 (ref19_checkLengths_L1 a1 n) p = some res) ?_ ?_
      · rintro x9 hm
        show H _ (ref19_checkLengths_k2_S a1 x5 x9) (nd Tryd.f52 16017) _
        refine R_cn Tryd.f52 (.tmp 40) 32034 32035 (by kernel_rfl) x9 (by kernel_rfl) (fun b10 => ?_) (fun b10 => ?_)
        · replace hm := bif_t b10 hm
          refine R_sq Tryd.f52 64068 64069 (by kernel_rfl) ?_
          refine R_rn Tryd.f52 64068 11 [] [] 1 ⟨[(2, vi 9)], []⟩ o0 (by kernel_rfl) (by kernel_rfl) ?_
          obtain rfl := Option.some.inj hm
          refine R_ret (by kernel_rfl) ?_
          refine L1_ret 9 ?_
          exact ret_mk (by kernel_rfl) (by kernel_rfl)
        · replace hm := bif_f b10 hm
          refine R_skip (by kernel_rfl) ?_
          refine R_join (ι := Bool) (nd Tryd.f52 16018) (nd Tryd.f52 16019) (by kernel_rfl) (fun p => ref19_checkLengths_k3_S a1 x5 p) (fun p => ref19_checkLengths_k3 x5 (ref19_checkLengths_L1 a1 n) p = some res) ?_ ?_
          · rintro x14 hm
            show H _ (ref19_checkLengths_k3_S a1 x5 x14) (nd Tryd.f52 16019) _
            refine R_cn Tryd.f52 (.tmp 56) 32038 32039 (by kernel_rfl) x14 (by kernel_rfl) (fun b15 => ?_) (fun b15 => ?_)
            · replace hm := bif_t b15 hm
              refine R_sq Tryd.f52 64076 64077 (by kernel_rfl) ?_
              refine R_rn Tryd.f52 64076 13 [] [] 1 ⟨[(2, vi 11)], []⟩ o0 (by kernel_rfl) (by kernel_rfl) ?_
              obtain rfl := Option.some.inj hm
              refine R_ret (by kernel_rfl) ?_
              refine L1_ret 11 ?_
              exact ret_mk (by kernel_rfl) (by kernel_rfl)
            · replace hm := bif_f b15 hm
              refine R_skip (by kernel_rfl) ?_
              refine R_rn Tryd.f52 2003 9 [] [] 1 ⟨[(1, vp 0 0), (3, vi (w64 (x5 + 1)))], [(0, bx 43 [cs a1.Name, ci a1.Thick, ci a1.Width, ci a1.Allow, ci a1.Wane, tl e_i64 default a1.Lengths, tl e_i64 default a1.Prices])]⟩ o0 (by kernel_rfl) (by kernel_rfl) ?_
              exact HL_enter (ref19_checkLengths_L1_S a1 (w64 (x5 + 1))) (by kernel_rfl) (by kernel_rfl) (ih (w64 (x5 + 1)) _ hm)
          · rcases Bool.eq_false_or_eq_true (decide (x5 > 0)) with b11 | b11
            · replace hm := bif_t b11 hm
              obtain ⟨g12, hm⟩ := bif_n hm
              obtain ⟨g13, hm⟩ := bif_n hm
              refine R_dr Tryd.f52 16018 12 [] [(2, dfx true)] [] [0, 1, 3, 7, 15, 7, 63, 127, 7, 263, 7, 1031, 3847, 7943, 16383, 32767] 1 ⟨[(1, vp 0 0), (3, vi x5), (44, vp 0 5), (45, vc (tl e_i64 default a1.Lengths)), (46, vi x5), (47, vc (.lptr (e_i64 (a1.Lengths.getD x5.toNat default)))), (48, vi (a1.Lengths.getD x5.toNat default)), (49, vp 0 5), (50, vc (tl e_i64 default a1.Lengths)), (51, vi x5), (52, vi (w64 (x5 - 1))), (53, vc (.lptr (e_i64 (a1.Lengths.getD (w64 (x5 - 1)).toNat default)))), (54, vi (a1.Lengths.getD (w64 (x5 - 1)).toNat default)), (55, vb (decide ((a1.Lengths.getD x5.toNat default) ≤ (a1.Lengths.getD (w64 (x5 - 1)).toNat default)))), (56, vb (decide ((a1.Lengths.getD x5.toNat default) ≤ (a1.Lengths.getD (w64 (x5 - 1)).toNat default))))], [(0, bx 43 [cs a1.Name, ci a1.Thick, ci a1.Width, ci a1.Allow, ci a1.Wane, tl e_i64 default a1.Lengths, tl e_i64 default a1.Prices])]⟩ (o1 (And.intro b11 (And.intro (inb_of g12) (inb_of g13)))) (by kernel_rfl) (by kernel_rfl) ?_
              exact J_mk (decide ((a1.Lengths.getD x5.toNat default) ≤ (a1.Lengths.getD (w64 (x5 - 1)).toNat default))) hm (by kernel_rfl) (by kernel_rfl)
            · replace hm := bif_f b11 hm
              refine R_dr Tryd.f52 16018 12 [] [(2, dfx false)] [] [0, 1, 3, 7, 15, 7, 63, 127, 7, 263, 7, 1031, 3847, 7943, 16383, 32767] 1 ⟨[(1, vp 0 0), (3, vi x5), (56, vb false)], [(0, bx 43 [cs a1.Name, ci a1.Thick, ci a1.Width, ci a1.Allow, ci a1.Wane, tl e_i64 default a1.Lengths, tl e_i64 default a1.Prices])]⟩ (o1 b11) (by kernel_rfl) (by kernel_rfl) ?_
              exact J_mk (false) hm (by kernel_rfl) (by kernel_rfl)
      · obtain ⟨g7, hm⟩ := bif_n hm
        rcases Bool.eq_false_or_eq_true (decide ((a1.Lengths.getD x5.toNat default) < 100)) with b8 | b8
        · replace hm := bif_t b8 hm
          refine R_rn Tryd.f52 16016 10 [(6, dfx true)] [] 1 ⟨[(1, vp 0 0), (3, vi x5), (40, vb true)], [(0, bx 43 [cs a1.Name, ci a1.Thick, ci a1.Width, ci a1.Allow, ci a1.Wane, tl e_i64 default a1.Lengths, tl e_i64 default a1.Prices])]⟩ (o1 (And.intro (inb_of g7) b8)) (by kernel_rfl) (by kernel_rfl) ?_
          exact J_mk (true) hm (by kernel_rfl) (by kernel_rfl)
        · replace hm := bif_f b8 hm
          refine R_rn Tryd.f52 16016 10 [(6, dfx false)] [] 1 ⟨[(1, vp 0 0), (3, vi x5), (34, vp 0 5), (35, vc (tl e_i64 default a1.Lengths)), (36, vi x5), (37, vc (.lptr (e_i64 (a1.Lengths.getD x5.toNat default)))), (38, vi (a1.Lengths.getD x5.toNat default)), (39, vb (decide ((a1.Lengths.getD x5.toNat default) > 20000))), (40, vb (decide ((a1.Lengths.getD x5.toNat default) > 20000)))], [(0, bx 43 [cs a1.Name, ci a1.Thick, ci a1.Width, ci a1.Allow, ci a1.Wane, tl e_i64 default a1.Lengths, tl e_i64 default a1.Prices])]⟩ (o1 (And.intro (inb_of g7) (And.intro b8 (inb_of g7)))) (by kernel_rfl) (by kernel_rfl) ?_
          exact J_mk (decide ((a1.Lengths.getD x5.toNat default) > 20000)) hm (by kernel_rfl) (by kernel_rfl)
    · replace hm := bif_f b6 hm
      refine R_exit 0 (by kernel_rfl) ?_
      obtain rfl := Option.some.inj hm
      exact L1_mk () (by kernel_rfl) (by kernel_rfl)

set_option maxRecDepth 100000 in
theorem ref19_checkLengths_L4_ok (E : Env 0) (a1 : Product) : ∀ (n : Nat) (x20 : Int) (res : Int ⊕ Unit), ref19_checkLengths_L4 a1 n x20 = some res → HL (kx E 78 0) (nd Tryd.f52 1012) (loopQ 2 (fun o => ref19_checkLengths_L4_T) (fun v st => RetQ Tryd.prog Tryd.f52 (ref19_checkLengths_x v) (ref19_checkLengths_o v) .ret st) res) n (ref19_checkLengths_L4_S a1 x20) := by
  intro n
  induction n with
  | zero =>
    intro x20 res hm
    cases hm
  | succ n ih =>
    intro x20 res hm
    refine HL_succ ?_
    refine R_sq Tryd.f52 2024 2025 (by kernel_rfl) ?_
    refine R_sq Tryd.f52 4048 4049 (by kernel_rfl) ?_
    refine R_rn Tryd.f52 4048 15 [] [] 1 ⟨[(1, vp 0 0), (4, vi x20), (61, vb (decide (x20 < ((a1.Prices.length : Nat) : Int))))], [(0, bx 43 [cs a1.Name, ci a1.Thick, ci a1.Width, ci a1.Allow, ci a1.Wane, tl e_i64 default a1.Lengths, tl e_i64 default a1.Prices])]⟩ o0 (by kernel_rfl) (by kernel_rfl) ?_
    refine R_cn Tryd.f52 (.tmp 61) 8098 8099 (by kernel_rfl) (decide (x20 < ((a1.Prices.length : Nat) : Int))) (by kernel_rfl) (fun b21 => ?_) (fun b21 => ?_)
    · replace hm := bif_t b21 hm
      refine R_skip (by kernel_rfl) ?_
      refine R_sq Tryd.f52 4050 4051 (by kernel_rfl) ?_
      refine R_bk Tryd.f52 3 8100 (by kernel_rfl) ?_
      refine R_join (ι := Bool) (nd Tryd.f52 16200) (nd Tryd.f52 16201) (by kernel_rfl) (fun p => ref19_checkLengths_k5_S a1 x20 p) (fun p => ref19_checkLengths_k5 x20 (ref19_checkLengths_L4 a1 n) p = some res) ?_ ?_
      · rintro x24 hm
        show H _ (ref19_checkLengths_k5_S a1 x20 x24) (nd Tryd.f52 16201) _
        refine R_cn Tryd.f52 (.tmp 77) 32402 32403 (by kernel_rfl) x24 (by kernel_rfl) (fun b25 => ?_) (fun b25 => ?_)
        · replace hm := bif_t b25 hm
          refine R_sq Tryd.f52 64804 64805 (by kernel_rfl) ?_
          refine R_rn Tryd.f52 64804 18 [] [] 1 ⟨[(2, vi 9)], []⟩ o0 (by kernel_rfl) (by kernel_rfl) ?_
          obtain rfl := Option.some.inj hm
          refine R_ret (by kernel_rfl) ?_
          refine L1_ret 9 ?_
          exact ret_mk (by kernel_rfl) (by kernel_rfl)
        · replace hm := bif_f b25 hm
          refine R_skip (by kernel_rfl) ?_
          refine R_rn Tryd.f52 4051 16 [] [] 1 ⟨[(1, vp 0 0), (4, vi (w64 (x20 + 1)))], [(0, bx 43 [cs a1.Name, ci a1.Thick, ci a1.Width, ci a1.Allow, ci a1.Wane, tl e_i64 default a1.Lengths, tl e_i64 default a1.Prices])]⟩ o0 (by kernel_rfl) (by kernel_rfl) ?_
          exact HL_enter (ref19_checkLengths_L4_S a1 (w64 (x20 + 1))) (by kernel_rfl) (by kernel_rfl) (ih (w64 (x20 + 1)) _ hm)
      · obtain ⟨g22, hm⟩ := bif_n hm
        rcases Bool.eq_false_or_eq_true (decide ((a1.Prices.getD x20.toNat default) < 0)) with b23 | b23
        · replace hm := bif_t b23 hm
          refine R_rn Tryd.f52 16200 17 [(6, dfx true)] [] 1 ⟨[(1, vp 0 0), (4, vi x20), (77, vb true)], [(0, bx 43 [cs a1.Name, ci a1.Thick, ci a1.Width, ci a1.Allow, ci a1.Wane, tl e_i64 default a1.Lengths, tl e_i64 default a1.Prices])]⟩ (o1 (And.intro (inb_of g22) b23)) (by kernel_rfl) (by kernel_rfl) ?_
          exact J_mk (true) hm (by kernel_rfl) (by kernel_rfl)
        · replace hm := bif_f b23 hm
          refine R_rn Tryd.f52 16200 17 [(6, dfx false)] [] 1 ⟨[(1, vp 0 0), (4, vi x20), (71, vp 0 6), (72, vc (tl e_i64 default a1.Prices)), (73, vi x20), (74, vc (.lptr (e_i64 (a1.Prices.getD x20.toNat default)))), (75, vi (a1.Prices.getD x20.toNat default)), (76, vb (decide ((a1.Prices.getD x20.toNat default) > 1000000))), (77, vb (decide ((a1.Prices.getD x20.toNat default) > 1000000)))], [(0, bx 43 [cs a1.Name, ci a1.Thick, ci a1.Width, ci a1.Allow, ci a1.Wane, tl e_i64 default a1.Lengths, tl e_i64 default a1.Prices])]⟩ (o1 (And.intro (inb_of g22) (And.intro b23 (inb_of g22)))) (by kernel_rfl) (by kernel_rfl) ?_
          exact J_mk (decide ((a1.Prices.getD x20.toNat default) > 1000000)) hm (by kernel_rfl) (by kernel_rfl)
    · replace hm := bif_f b21 hm
      refine R_exit 2 (by kernel_rfl) ?_
      obtain rfl := Option.some.inj hm
      exact L1_mk () (by kernel_rfl) (by kernel_rfl)

set_option maxRecDepth 100000 in
theorem ref19_checkLengths_ok (a1 : Product) (r : Int) (hm : ref19_checkLengths a1 = some r) : CtX Tryd.prog globs 52 0 0 [.agg [cs a1.Name, ci a1.Thick, ci a1.Width, ci a1.Allow, ci a1.Wane, tl e_i64 default a1.Lengths, tl e_i64 default a1.Prices]] [] (ref19_checkLengths_x r) (ref19_checkLengths_o r) := by
  unfold ref19_checkLengths at hm
  refine CtX_of_E (fn := Tryd.f52) (c := nd Tryd.f52 1) (nt := 78) (by kernel_rfl) (by kernel_rfl) (by kernel_rfl) (by kernel_rfl) fun E => ?_
  refine R_sq Tryd.f52 2 3 (by kernel_rfl) ?_
  refine R_rn Tryd.f52 2 0 [] [] 0 ⟨[(1, vp 0 0)], [(0, bx 43 [cs a1.Name, ci a1.Thick, ci a1.Width, ci a1.Allow, ci a1.Wane, tl e_i64 default a1.Lengths, tl e_i64 default a1.Prices])]⟩ o0 (by kernel_rfl) (by kernel_rfl) ?_
  refine R_sq Tryd.f52 6 7 (by kernel_rfl) ?_
  refine R_sq Tryd.f52 12 13 (by kernel_rfl) ?_
  refine R_rn Tryd.f52 12 1 [] [] 1 ⟨[(1, vp 0 0), (8, vb (((a1.Lengths.length : Nat) : Int) == 0))], [(0, bx 43 [cs a1.Name, ci a1.Thick, ci a1.Width, ci a1.Allow, ci a1.Wane, tl e_i64 default a1.Lengths, tl e_i64 default a1.Prices])]⟩ o0 (by kernel_rfl) (by kernel_rfl) ?_
  refine R_cn Tryd.f52 (.tmp 8) 26 27 (by kernel_rfl) (((a1.Lengths.length : Nat) : Int) == 0) (by kernel_rfl) (fun b2 => ?_) (fun b2 => ?_)
  · replace hm := bif_t b2 hm
    refine R_sq Tryd.f52 52 53 (by kernel_rfl) ?_
    refine R_rn Tryd.f52 52 2 [] [] 1 ⟨[(2, vi 3)], []⟩ o0 (by kernel_rfl) (by kernel_rfl) ?_
    obtain rfl := Option.some.inj hm
    refine R_ret (by kernel_rfl) ?_
    exact ret_mk (by kernel_rfl) (by kernel_rfl)
  · replace hm := bif_f b2 hm
    refine R_skip (by kernel_rfl) ?_
    refine R_sq Tryd.f52 14 15 (by kernel_rfl) ?_
    refine R_sq Tryd.f52 28 29 (by kernel_rfl) ?_
    refine R_rn Tryd.f52 28 3 [] [] 1 ⟨[(1, vp 0 0), (12, vb (decide (((a1.Lengths.length : Nat) : Int) > 8)))], [(0, bx 43 [cs a1.Name, ci a1.Thick, ci a1.Width, ci a1.Allow, ci a1.Wane, tl e_i64 default a1.Lengths, tl e_i64 default a1.Prices])]⟩ o0 (by kernel_rfl) (by kernel_rfl) ?_
    refine R_cn Tryd.f52 (.tmp 12) 58 59 (by kernel_rfl) (decide (((a1.Lengths.length : Nat) : Int) > 8)) (by kernel_rfl) (fun b3 => ?_) (fun b3 => ?_)
    · replace hm := bif_t b3 hm
      refine R_sq Tryd.f52 116 117 (by kernel_rfl) ?_
      refine R_rn Tryd.f52 116 4 [] [] 1 ⟨[(2, vi 4)], []⟩ o0 (by kernel_rfl) (by kernel_rfl) ?_
      obtain rfl := Option.some.inj hm
      refine R_ret (by kernel_rfl) ?_
      exact ret_mk (by kernel_rfl) (by kernel_rfl)
    · replace hm := bif_f b3 hm
      refine R_skip (by kernel_rfl) ?_
      refine R_sq Tryd.f52 30 31 (by kernel_rfl) ?_
      refine R_sq Tryd.f52 60 61 (by kernel_rfl) ?_
      refine R_rn Tryd.f52 60 5 [] [] 1 ⟨[(1, vp 0 0), (19, vb (((a1.Prices.length : Nat) : Int) != ((a1.Lengths.length : Nat) : Int)))], [(0, bx 43 [cs a1.Name, ci a1.Thick, ci a1.Width, ci a1.Allow, ci a1.Wane, tl e_i64 default a1.Lengths, tl e_i64 default a1.Prices])]⟩ o0 (by kernel_rfl) (by kernel_rfl) ?_
      refine R_cn Tryd.f52 (.tmp 19) 122 123 (by kernel_rfl) (((a1.Prices.length : Nat) : Int) != ((a1.Lengths.length : Nat) : Int)) (by kernel_rfl) (fun b4 => ?_) (fun b4 => ?_)
      · replace hm := bif_t b4 hm
        refine R_sq Tryd.f52 244 245 (by kernel_rfl) ?_
        refine R_rn Tryd.f52 244 6 [] [] 1 ⟨[(2, vi 19)], []⟩ o0 (by kernel_rfl) (by kernel_rfl) ?_
        obtain rfl := Option.some.inj hm
        refine R_ret (by kernel_rfl) ?_
        exact ret_mk (by kernel_rfl) (by kernel_rfl)
      · replace hm := bif_f b4 hm
        refine R_skip (by kernel_rfl) ?_
        refine R_sq Tryd.f52 62 63 (by kernel_rfl) ?_
        refine R_sq Tryd.f52 124 125 (by kernel_rfl) ?_
        refine R_rn Tryd.f52 124 7 [] [] 1 ⟨[(1, vp 0 0), (3, vi 0)], [(0, bx 43 [cs a1.Name, ci a1.Thick, ci a1.Width, ci a1.Allow, ci a1.Wane, tl e_i64 default a1.Lengths, tl e_i64 default a1.Prices])]⟩ o0 (by kernel_rfl) (by kernel_rfl) ?_
        obtain ⟨u18, h17, hm⟩ := bind_s hm
        refine R_loop1 (nd Tryd.f52 500) 0 (by kernel_rfl) FUEL (fun o => ref19_checkLengths_L1_T a1) (fun v st => RetQ Tryd.prog Tryd.f52 (ref19_checkLengths_x v) (ref19_checkLengths_o v) .ret st) u18 (HL_enter (ref19_checkLengths_L1_S a1 0) (by kernel_rfl) (by kernel_rfl) (ref19_checkLengths_L1_ok E a1 FUEL 0 u18 h17)) ?_ ?_
        · rintro v19 rfl st hr
          obtain rfl := Option.some.inj hm
          exact hr
        · rintro o16 rfl
          replace hm : _ = some r := hm
          refine R_sq Tryd.f52 126 127 (by kernel_rfl) ?_
          refine R_sq Tryd.f52 252 253 (by kernel_rfl) ?_
          refine R_rn Tryd.f52 252 14 [] [] 1 ⟨[(1, vp 0 0), (4, vi 0)], [(0, bx 43 [cs a1.Name, ci a1.Thick, ci a1.Width, ci a1.Allow, ci a1.Wane, tl e_i64 default a1.Lengths, tl e_i64 default a1.Prices])]⟩ o0 (by kernel_rfl) (by kernel_rfl) ?_
          obtain ⟨u28, h27, hm⟩ := bind_s hm
          refine R_loop1 (nd Tryd.f52 1012) 2 (by kernel_rfl) FUEL (fun o => ref19_checkLengths_L4_T) (fun v st => RetQ Tryd.prog Tryd.f52 (ref19_checkLengths_x v) (ref19_checkLengths_o v) .ret st) u28 (HL_enter (ref19_checkLengths_L4_S a1 0) (by kernel_rfl) (by kernel_rfl) (ref19_checkLengths_L4_ok E a1 FUEL 0 u28 h27)) ?_ ?_
          · rintro v29 rfl st hr
            obtain rfl := Option.some.inj hm
            exact hr
          · rintro o26 rfl
            replace hm : _ = some r := hm
            refine R_sq Tryd.f52 254 255 (by kernel_rfl) ?_
            refine R_rn Tryd.f52 254 19 [] [] 1 ⟨[(2, vi 0)], []⟩ o0 (by kernel_rfl) (by kernel_rfl) ?_
            obtain rfl := Option.some.inj hm
            refine R_ret (by kernel_rfl) ?_
            exact ret_mk (by kernel_rfl) (by kernel_rfl)

end Saw
end Go.SL

namespace Go.SL
namespace Saw
open Go.Proofs
set_option maxHeartbeats 4000000

def ref19_Check_x (r : Int) : V := vi r

def ref19_Check_o (r : Int) : List (Nat × (Nat × O)) := []

theorem ref19_Check_f (r : Int) : Frozen (ref19_Check_o r) := by
  intro i k o h
  unfold ref19_Check_o at h
  cases h

def ref19_Check_L2_S (a1 : List Product) (x3 : Int) (x9 : Int) : St :=
  ⟨[(0, vc (tl e_Product default a1)), (3, vi x3), (4, vp 0 0), (5, vi x9)], [(0, bx 43 [cs ((a1.getD x3.toNat default).Name), ci ((a1.getD x3.toNat default).Thick), ci ((a1.getD x3.toNat default).Width), ci ((a1.getD x3.toNat default).Allow), ci ((a1.getD x3.toNat default).Wane), tl e_i64 default ((a1.getD x3.toNat default).Lengths), tl e_i64 default ((a1.getD x3.toNat default).Prices)])]⟩

def ref19_Check_L2_T (a1 : List Product) (x3 : Int) : St :=
  ⟨[(0, vc (tl e_Product default a1)), (3, vi x3), (4, vp 0 0)], [(0, bx 43 [cs ((a1.getD x3.toNat default).Name), ci ((a1.getD x3.toNat default).Thick), ci ((a1.getD x3.toNat default).Width), ci ((a1.getD x3.toNat default).Allow), ci ((a1.getD x3.toNat default).Wane), tl e_i64 default ((a1.getD x3.toNat default).Lengths), tl e_i64 default ((a1.getD x3.toNat default).Prices)])]⟩

def ref19_Check_k3_S (a1 : List Product) (x3 : Int) (x24 : Bool) : St :=
  ⟨[(0, vc (tl e_Product default a1)), (3, vi x3), (4, vp 0 0), (78, vb x24)], [(0, bx 43 [cs ((a1.getD x3.toNat default).Name), ci ((a1.getD x3.toNat default).Thick), ci ((a1.getD x3.toNat default).Width), ci ((a1.getD x3.toNat default).Allow), ci ((a1.getD x3.toNat default).Wane), tl e_i64 default ((a1.getD x3.toNat default).Lengths), tl e_i64 default ((a1.getD x3.toNat default).Prices)])]⟩

def ref19_Check_L1_S (a1 : List Product) (x3 : Int) : St :=
  ⟨[(0, vc (tl e_Product default a1)), (3, vi x3)], []⟩

def ref19_Check_L1_T : St :=
  ⟨[], []⟩

set_option maxRecDepth 100000 in
theorem ref19_Check_L2_ok (E : Env 0) (a1 : List Product) (x3 : Int) : ∀ (n : Nat) (x9 : Int) (res : Int ⊕ Unit), ref19_Check_L2 a1 x3 n x9 = some res → HL (kx E 91 0) (nd Tryd.f25 59700) (loopQ 2 (fun o => ref19_Check_L2_T a1 x3) (fun v st => RetQ Tryd.prog Tryd.f25 (ref19_Check_x v) (ref19_Check_o v) .ret st) res) n (ref19_Check_L2_S a1 x3 x9) := by
  intro n
  induction n with
  | zero =>
    intro x9 res hm
    cases hm
  | succ n ih =>
    intro x9 res hm
    refine HL_succ ?_
    refine R_sq Tryd.f25 119400 119401 (by kernel_rfl) ?_
    refine R_sq Tryd.f25 238800 238801 (by kernel_rfl) ?_
    refine R_rn Tryd.f25 238800 10 [] [] 1 ⟨[(0, vc (tl e_Product default a1)), (3, vi x3), (4, vp 0 0), (5, vi x9), (28, vb (decide (x9 < x3)))], [(0, bx 43 [cs ((a1.getD x3.toNat default).Name), ci ((a1.getD x3.toNat default).Thick), ci ((a1.getD x3.toNat default).Width), ci ((a1.getD x3.toNat default).Allow), ci ((a1.getD x3.toNat default).Wane), tl e_i64 default ((a1.getD x3.toNat default).Lengths), tl e_i64 default ((a1.getD x3.toNat default).Prices)])]⟩ o0 (by kernel_rfl) (by kernel_rfl) ?_
    refine R_cn Tryd.f25 (.tmp 28) 477602 477603 (by kernel_rfl) (decide (x9 < x3)) (by kernel_rfl) (fun b10 => ?_) (fun b10 => ?_)
    · replace hm := bif_t b10 hm
      refine R_skip (by kernel_rfl) ?_
      refine R_sq Tryd.f25 238802 238803 (by kernel_rfl) ?_
      refine R_bk Tryd.f25 3 477604 (by kernel_rfl) ?_
      refine R_sq Tryd.f25 955208 955209 (by kernel_rfl) ?_
      obtain ⟨g11, hm⟩ := bif_n hm
      refine R_dr Tryd.f25 955208 12 [] [] [] [0, 0, 3, 7, 15, 0, 32, 127] 1 ⟨[(0, vc (tl e_Product default a1)), (3, vi x3), (4, vp 0 0), (5, vi x9), (38, vb (strEq ((a1.getD x9.toNat default).Name) ((a1.getD x3.toNat default).Name)))], [(0, bx 43 [cs ((a1.getD x3.toNat default).Name), ci ((a1.getD x3.toNat default).Thick), ci ((a1.getD x3.toNat default).Width), ci ((a1.getD x3.toNat default).Allow), ci ((a1.getD x3.toNat default).Wane), tl e_i64 default ((a1.getD x3.toNat default).Lengths), tl e_i64 default ((a1.getD x3.toNat default).Prices)])]⟩ (o1 (inb_of g11)) (by kernel_rfl) (by kernel_rfl) ?_
      refine R_cn Tryd.f25 (.tmp 38) 1910418 1910419 (by kernel_rfl) (strEq ((a1.getD x9.toNat default).Name) ((a1.getD x3.toNat default).Name)) (by kernel_rfl) (fun b12 => ?_) (fun b12 => ?_)
      · replace hm := bif_t b12 hm
        refine R_sq Tryd.f25 3820836 3820837 (by kernel_rfl) ?_
        refine R_rn Tryd.f25 3820836 13 [] [] 1 ⟨[(2, vi 7)], []⟩ o0 (by kernel_rfl) (by kernel_rfl) ?_
        obtain rfl := Option.some.inj hm
        refine R_ret (by kernel_rfl) ?_
        refine L1_ret 7 ?_
        exact ret_mk (by kernel_rfl) (by kernel_rfl)
      · replace hm := bif_f b12 hm
        refine R_skip (by kernel_rfl) ?_
        refine R_rn Tryd.f25 238803 11 [] [] 1 ⟨[(0, vc (tl e_Product default a1)), (3, vi x3), (4, vp 0 0), (5, vi (w64 (x9 + 1)))], [(0, bx 43 [cs ((a1.getD x3.toNat default).Name), ci ((a1.getD x3.toNat default).Thick), ci ((a1.getD x3.toNat default).Width), ci ((a1.getD x3.toNat default).Allow), ci ((a1.getD x3.toNat default).Wane), tl e_i64 default ((a1.getD x3.toNat default).Lengths), tl e_i64 default ((a1.getD x3.toNat default).Prices)])]⟩ o0 (by kernel_rfl) (by kernel_rfl) ?_
        exact HL_enter (ref19_Check_L2_S a1 x3 (w64 (x9 + 1))) (by kernel_rfl) (by kernel_rfl) (ih (w64 (x9 + 1)) _ hm)
    · replace hm := bif_f b10 hm
      refine R_exit 2 (by kernel_rfl) ?_
      obtain rfl := Option.some.inj hm
      exact L1_mk () (by kernel_rfl) (by kernel_rfl)

set_option maxRecDepth 100000 in
theorem ref19_Check_L1_ok (E : Env 0) (a1 : List Product) : ∀ (n : Nat) (x3 : Int) (res : Int ⊕ Unit), ref19_Check_L1 a1 n x3 = some res → HL (kx E 91 0) (nd Tryd.f25 116) (loopQ 0 (fun o => ref19_Check_L1_T) (fun v st => RetQ Tryd.prog Tryd.f25 (ref19_Check_x v) (ref19_Check_o v) .ret st) res) n (ref19_Check_L1_S a1 x3) := by
  intro n
  induction n with
  | zero =>
    intro x3 res hm
    cases hm
  | succ n ih =>
    intro x3 res hm
    refine HL_succ ?_
    refine R_sq Tryd.f25 232 233 (by kernel_rfl) ?_
    refine R_sq Tryd.f25 464 465 (by kernel_rfl) ?_
    refine R_rn Tryd.f25 464 4 [] [] 0 ⟨[(0, vc (tl e_Product default a1)), (3, vi x3), (15, vb (decide (x3 < ((a1.length : Nat) : Int))))], []⟩ o0 (by kernel_rfl) (by kernel_rfl) ?_
    refine R_cn Tryd.f25 (.tmp 15) 930 931 (by kernel_rfl) (decide (x3 < ((a1.length : Nat) : Int))) (by kernel_rfl) (fun b4 => ?_) (fun b4 => ?_)
    · replace hm := bif_t b4 hm
      refine R_skip (by kernel_rfl) ?_
      refine R_sq Tryd.f25 466 467 (by kernel_rfl) ?_
      refine R_bk Tryd.f25 1 932 (by kernel_rfl) ?_
      refine R_sq Tryd.f25 1864 1865 (by kernel_rfl) ?_
      obtain ⟨g5, hm⟩ := bif_n hm
      refine R_rn Tryd.f25 1864 6 [] [] 0 ⟨[(0, vc (tl e_Product default a1)), (3, vi x3), (4, vp 0 0)], [(0, bx 43 [cs ((a1.getD x3.toNat default).Name), ci ((a1.getD x3.toNat default).Thick), ci ((a1.getD x3.toNat default).Width), ci ((a1.getD x3.toNat default).Allow), ci ((a1.getD x3.toNat default).Wane), tl e_i64 default ((a1.getD x3.toNat default).Lengths), tl e_i64 default ((a1.getD x3.toNat default).Prices)])]⟩ (o1 (inb_of g5)) (by kernel_rfl) (by kernel_rfl) ?_
      refine R_sq Tryd.f25 3730 3731 (by kernel_rfl) ?_
      refine R_sq Tryd.f25 7460 7461 (by kernel_rfl) ?_
      obtain ⟨v6, h7, hm⟩ := bind_s hm
      refine R_rn Tryd.f25 7460 7 [(2, dex (cen [] [] 1 0 (ref02_IsName_x v6) (ref02_IsName_o v6) [23] []))] [] 1 ⟨[(0, vc (tl e_Product default a1)), (3, vi x3), (4, vp 0 0), (25, vb (!v6))], [(0, bx 43 [cs ((a1.getD x3.toNat default).Name), ci ((a1.getD x3.toNat default).Thick), ci ((a1.getD x3.toNat default).Width), ci ((a1.getD x3.toNat default).Allow), ci ((a1.getD x3.toNat default).Wane), tl e_i64 default ((a1.getD x3.toNat default).Lengths), tl e_i64 default ((a1.getD x3.toNat default).Prices)])]⟩ (o1 (callS (K := (kx E 91 0)) ⟨[(23, vc (cs ((a1.getD x3.toNat default).Name)))], []⟩ (opAt (rg Tryd.f25 7460) 2) [] [] 1 o0 rfl (ref02_IsName_ok ((a1.getD x3.toNat default).Name) v6 h7) (.inl rfl) (by kernel_rfl))) (by kernel_rfl) (by kernel_rfl) ?_
      refine R_cn Tryd.f25 (.tmp 25) 14922 14923 (by kernel_rfl) (!v6) (by kernel_rfl) (fun b8 => ?_) (fun b8 => ?_)
      · replace hm := bif_t b8 hm
        refine R_sq Tryd.f25 29844 29845 (by kernel_rfl) ?_
        refine R_rn Tryd.f25 29844 8 [] [] 1 ⟨[(2, vi 6)], []⟩ o0 (by kernel_rfl) (by kernel_rfl) ?_
        obtain rfl := Option.some.inj hm
        refine R_ret (by kernel_rfl) ?_
        refine L1_ret 6 ?_
        exact ret_mk (by kernel_rfl) (by kernel_rfl)
      · replace hm := bif_f b8 hm
        refine R_skip (by kernel_rfl) ?_
        refine R_sq Tryd.f25 7462 7463 (by kernel_rfl) ?_
        refine R_sq Tryd.f25 14924 14925 (by kernel_rfl) ?_
        refine R_rn Tryd.f25 14924 9 [] [] 1 ⟨[(0, vc (tl e_Product default a1)), (3, vi x3), (4, vp 0 0), (5, vi 0)], [(0, bx 43 [cs ((a1.getD x3.toNat default).Name), ci ((a1.getD x3.toNat default).Thick), ci ((a1.getD x3.toNat default).Width), ci ((a1.getD x3.toNat default).Allow), ci ((a1.getD x3.toNat default).Wane), tl e_i64 default ((a1.getD x3.toNat default).Lengths), tl e_i64 default ((a1.getD x3.toNat default).Prices)])]⟩ o0 (by kernel_rfl) (by kernel_rfl) ?_
        obtain ⟨u15, h14, hm⟩ := bind_s hm
        refine R_loop1 (nd Tryd.f25 59700) 2 (by kernel_rfl) FUEL (fun o => ref19_Check_L2_T a1 x3) (fun v st => RetQ Tryd.prog Tryd.f25 (ref19_Check_x v) (ref19_Check_o v) .ret st) u15 (HL_enter (ref19_Check_L2_S a1 x3 0) (by kernel_rfl) (by kernel_rfl) (ref19_Check_L2_ok E a1 x3 FUEL 0 u15 h14)) ?_ ?_
        · rintro v16 rfl st hr
          obtain rfl := Option.some.inj hm
          exact L1_ret v16 hr
        · rintro o13 rfl
          replace hm : _ = some res := hm
          refine R_sq Tryd.f25 14926 14927 (by kernel_rfl) ?_
          refine R_join (ι := Bool) (nd Tryd.f25 29852) (nd Tryd.f25 29853) (by kernel_rfl) (fun p => ref19_Check_k3_S a1 x3 p) (fun p => ref19_Check_k3 a1 x3 (ref19_Check_L1 a1 n) p = some res) ?_ ?_
          · rintro x24 hm
            show H _ (ref19_Check_k3_S a1 x3 x24) (nd Tryd.f25 29853) _
            refine R_cn Tryd.f25 (.tmp 78) 59706 59707 (by kernel_rfl) x24 (by kernel_rfl) (fun b25 => ?_) (fun b25 => ?_)
            · replace hm := bif_t b25 hm
              refine R_sq Tryd.f25 119412 119413 (by kernel_rfl) ?_
              refine R_rn Tryd.f25 119412 15 [] [] 1 ⟨[(2, vi 9)], []⟩ o0 (by kernel_rfl) (by kernel_rfl) ?_
              obtain rfl := Option.some.inj hm
              refine R_ret (by kernel_rfl) ?_
              refine L1_ret 9 ?_
              exact ret_mk (by kernel_rfl) (by kernel_rfl)
            · replace hm := bif_f b25 hm
              refine R_skip (by kernel_rfl) ?_
              refine R_sq Tryd.f25 29854 29855 (by kernel_rfl) ?_
              refine R_sq Tryd.f25 59708 59709 (by kernel_rfl) ?_
              obtain ⟨v26, h27, hm⟩ := bind_s hm
              refine R_rn Tryd.f25 59708 16 [(1, dex (cen [] [] 1 0 (ref19_Green_x v26) (ref19_Green_o v26) [80] []))] [] 1 ⟨[(0, vc (tl e_Product default a1)), (3, vi x3), (4, vp 0 0), (7, vi v26.2)], [(0, bx 43 [cs ((a1.getD x3.toNat default).Name), ci ((a1.getD x3.toNat default).Thick), ci ((a1.getD x3.toNat default).Width), ci ((a1.getD x3.toNat default).Allow), ci ((a1.getD x3.toNat default).Wane), tl e_i64 default ((a1.getD x3.toNat default).Lengths), tl e_i64 default ((a1.getD x3.toNat default).Prices)])]⟩ (o1 (callS (K := (kx E 91 0)) ⟨[(80, va [cs ((a1.getD x3.toNat default).Name), ci ((a1.getD x3.toNat default).Thick), ci ((a1.getD x3.toNat default).Width), ci ((a1.getD x3.toNat default).Allow), ci ((a1.getD x3.toNat default).Wane), tl e_i64 default ((a1.getD x3.toNat default).Lengths), tl e_i64 default ((a1.getD x3.toNat default).Prices)])], []⟩ (opAt (rg Tryd.f25 59708) 1) [] [] 1 o0 rfl (ref19_Green_ok (a1.getD x3.toNat default) v26 h27) (.inl rfl) (by kernel_rfl))) (by kernel_rfl) (by kernel_rfl) ?_
              refine R_sq Tryd.f25 119418 119419 (by kernel_rfl) ?_
              refine R_rn Tryd.f25 119418 17 [] [] 1 ⟨[(0, vc (tl e_Product default a1)), (3, vi x3), (4, vp 0 0), (85, vb (decide (v26.2 > 600)))], [(0, bx 43 [cs ((a1.getD x3.toNat default).Name), ci ((a1.getD x3.toNat default).Thick), ci ((a1.getD x3.toNat default).Width), ci ((a1.getD x3.toNat default).Allow), ci ((a1.getD x3.toNat default).Wane), tl e_i64 default ((a1.getD x3.toNat default).Lengths), tl e_i64 default ((a1.getD x3.toNat default).Prices)])]⟩ o0 (by kernel_rfl) (by kernel_rfl) ?_
              refine R_cn Tryd.f25 (.tmp 85) 238838 238839 (by kernel_rfl) (decide (v26.2 > 600)) (by kernel_rfl) (fun b28 => ?_) (fun b28 => ?_)
              · replace hm := bif_t b28 hm
                refine R_sq Tryd.f25 477676 477677 (by kernel_rfl) ?_
                refine R_rn Tryd.f25 477676 18 [] [] 1 ⟨[(2, vi 9)], []⟩ o0 (by kernel_rfl) (by kernel_rfl) ?_
                obtain rfl := Option.some.inj hm
                refine R_ret (by kernel_rfl) ?_
                refine L1_ret 9 ?_
                exact ret_mk (by kernel_rfl) (by kernel_rfl)
              · replace hm := bif_f b28 hm
                refine R_skip (by kernel_rfl) ?_
                refine R_sq Tryd.f25 59710 59711 (by kernel_rfl) ?_
                obtain ⟨v29, h30, hm⟩ := bind_s hm
                refine R_rn Tryd.f25 59710 19 [(1, dex (cen [] [] 1 0 (ref19_checkLengths_x v29) (ref19_checkLengths_o v29) [86] []))] [] 1 ⟨[(0, vc (tl e_Product default a1)), (3, vi x3), (8, vi v29)], []⟩ (o1 (callS (K := (kx E 91 0)) ⟨[(86, va [cs ((a1.getD x3.toNat default).Name), ci ((a1.getD x3.toNat default).Thick), ci ((a1.getD x3.toNat default).Width), ci ((a1.getD x3.toNat default).Allow), ci ((a1.getD x3.toNat default).Wane), tl e_i64 default ((a1.getD x3.toNat default).Lengths), tl e_i64 default ((a1.getD x3.toNat default).Prices)])], []⟩ (opAt (rg Tryd.f25 59710) 1) [] [] 1 o0 rfl (ref19_checkLengths_ok (a1.getD x3.toNat default) v29 h30) (.inl rfl) (by kernel_rfl))) (by kernel_rfl) (by kernel_rfl) ?_
                refine R_sq Tryd.f25 119422 119423 (by kernel_rfl) ?_
                refine R_rn Tryd.f25 119422 20 [] [] 1 ⟨[(0, vc (tl e_Product default a1)), (3, vi x3), (8, vi v29), (89, vb (v29 != 0))], []⟩ o0 (by kernel_rfl) (by kernel_rfl) ?_
                refine R_cn Tryd.f25 (.tmp 89) 238846 238847 (by kernel_rfl) (v29 != 0) (by kernel_rfl) (fun b31 => ?_) (fun b31 => ?_)
                · replace hm := bif_t b31 hm
                  refine R_sq Tryd.f25 477692 477693 (by kernel_rfl) ?_
                  refine R_rn Tryd.f25 477692 21 [] [] 1 ⟨[(2, vi v29)], []⟩ o0 (by kernel_rfl) (by kernel_rfl) ?_
                  obtain rfl := Option.some.inj hm
                  refine R_ret (by kernel_rfl) ?_
                  refine L1_ret v29 ?_
                  exact ret_mk (by kernel_rfl) (by kernel_rfl)
                · replace hm := bif_f b31 hm
                  refine R_skip (by kernel_rfl) ?_
                  refine R_rn Tryd.f25 467 5 [] [] 1 ⟨[(0, vc (tl e_Product default a1)), (3, vi (w64 (x3 + 1)))], []⟩ o0 (by kernel_rfl) (by kernel_rfl) ?_
                  exact HL_enter (ref19_Check_L1_S a1 (w64 (x3 + 1))) (by kernel_rfl) (by kernel_rfl) (ih (w64 (x3 + 1)) _ hm)
          · rcases Bool.eq_false_or_eq_true (decide (((a1.getD x3.toNat default).Thick) < 5)) with b17 | b17
            · replace hm := bif_t b17 hm
              refine R_rn Tryd.f25 29852 14 [(3, dfx true)] [] 1 ⟨[(0, vc (tl e_Product default a1)), (3, vi x3), (4, vp 0 0), (78, vb true)], [(0, bx 43 [cs ((a1.getD x3.toNat default).Name), ci ((a1.getD x3.toNat default).Thick), ci ((a1.getD x3.toNat default).Width), ci ((a1.getD x3.toNat default).Allow), ci ((a1.getD x3.toNat default).Wane), tl e_i64 default ((a1.getD x3.toNat default).Lengths), tl e_i64 default ((a1.getD x3.toNat default).Prices)])]⟩ (o1 b17) (by kernel_rfl) (by kernel_rfl) ?_
              exact J_mk (true) hm (by kernel_rfl) (by kernel_rfl)
            · replace hm := bif_f b17 hm
              rcases Bool.eq_false_or_eq_true (decide (((a1.getD x3.toNat default).Thick) > 300)) with b18 | b18
              · replace hm := bif_t b18 hm
                refine R_rn Tryd.f25 29852 14 [(3, dfx false), (8, dfx true)] [] 1 ⟨[(0, vc (tl e_Product default a1)), (3, vi x3), (4, vp 0 0), (43, vp 0 1), (44, vi ((a1.getD x3.toNat default).Thick)), (45, vb (decide (((a1.getD x3.toNat default).Thick) > 300))), (78, vb true)], [(0, bx 43 [cs ((a1.getD x3.toNat default).Name), ci ((a1.getD x3.toNat default).Thick), ci ((a1.getD x3.toNat default).Width), ci ((a1.getD x3.toNat default).Allow), ci ((a1.getD x3.toNat default).Wane), tl e_i64 default ((a1.getD x3.toNat default).Lengths), tl e_i64 default ((a1.getD x3.toNat default).Prices)])]⟩ (o1 (And.intro b17 b18)) (by kernel_rfl) (by kernel_rfl) ?_
                exact J_mk (true) hm (by kernel_rfl) (by kernel_rfl)
              · replace hm := bif_f b18 hm
                rcases Bool.eq_false_or_eq_true (decide (((a1.getD x3.toNat default).Width) < ((a1.getD x3.toNat default).Thick))) with b19 | b19
                · replace hm := bif_t b19 hm
                  refine R_rn Tryd.f25 29852 14 [(3, dfx false), (8, dfx false), (15, dfx true)] [] 1 ⟨[(0, vc (tl e_Product default a1)), (3, vi x3), (4, vp 0 0), (43, vp 0 1), (44, vi ((a1.getD x3.toNat default).Thick)), (45, vb (decide (((a1.getD x3.toNat default).Thick) > 300))), (48, vp 0 2), (49, vi ((a1.getD x3.toNat default).Width)), (50, vp 0 1), (51, vi ((a1.getD x3.toNat default).Thick)), (52, vb (decide (((a1.getD x3.toNat default).Width) < ((a1.getD x3.toNat default).Thick)))), (78, vb true)], [(0, bx 43 [cs ((a1.getD x3.toNat default).Name), ci ((a1.getD x3.toNat default).Thick), ci ((a1.getD x3.toNat default).Width), ci ((a1.getD x3.toNat default).Allow), ci ((a1.getD x3.toNat default).Wane), tl e_i64 default ((a1.getD x3.toNat default).Lengths), tl e_i64 default ((a1.getD x3.toNat default).Prices)])]⟩ (o1 (And.intro b17 (And.intro b18 b19))) (by kernel_rfl) (by kernel_rfl) ?_
                  exact J_mk (true) hm (by kernel_rfl) (by kernel_rfl)
                · replace hm := bif_f b19 hm
                  rcases Bool.eq_false_or_eq_true (decide (((a1.getD x3.toNat default).Width) > 600)) with b20 | b20
                  · replace hm := bif_t b20 hm
                    refine R_rn Tryd.f25 29852 14 [(3, dfx false), (8, dfx false), (15, dfx false), (20, dfx true)] [] 1 ⟨[(0, vc (tl e_Product default a1)), (3, vi x3), (4, vp 0 0), (43, vp 0 1), (44, vi ((a1.getD x3.toNat default).Thick)), (45, vb (decide (((a1.getD x3.toNat default).Thick) > 300))), (48, vp 0 2), (49, vi ((a1.getD x3.toNat default).Width)), (50, vp 0 1), (51, vi ((a1.getD x3.toNat default).Thick)), (52, vb (decide (((a1.getD x3.toNat default).Width) < ((a1.getD x3.toNat default).Thick)))), (55, vp 0 2), (56, vi ((a1.getD x3.toNat default).Width)), (57, vb (decide (((a1.getD x3.toNat default).Width) > 600))), (78, vb true)], [(0, bx 43 [cs ((a1.getD x3.toNat default).Name), ci ((a1.getD x3.toNat default).Thick), ci ((a1.getD x3.toNat default).Width), ci ((a1.getD x3.toNat default).Allow), ci ((a1.getD x3.toNat default).Wane), tl e_i64 default ((a1.getD x3.toNat default).Lengths), tl e_i64 default ((a1.getD x3.toNat default).Prices)])]⟩ (o1 (And.intro b17 (And.intro b18 (And.intro b19 b20)))) (by kernel_rfl) (by kernel_rfl) ?_
                    exact J_mk (true) hm (by kernel_rfl) (by kernel_rfl)
                  · replace hm := bif_f b20 hm
                    rcases Bool.eq_false_or_eq_true (decide (((a1.getD x3.toNat default).Allow) < 0)) with b21 | b21
                    · replace hm := bif_t b21 hm
                      refine R_rn Tryd.f25 29852 14 [(3, dfx false), (8, dfx false), (15, dfx false), (20, dfx false), (25, dfx true)] [] 1 ⟨[(0, vc (tl e_Product default a1)), (3, vi x3), (4, vp 0 0), (43, vp 0 1), (44, vi ((a1.getD x3.toNat default).Thick)), (45, vb (decide (((a1.getD x3.toNat default).Thick) > 300))), (48, vp 0 2), (49, vi ((a1.getD x3.toNat default).Width)), (50, vp 0 1), (51, vi ((a1.getD x3.toNat default).Thick)), (52, vb (decide (((a1.getD x3.toNat default).Width) < ((a1.getD x3.toNat default).Thick)))), (55, vp 0 2), (56, vi ((a1.getD x3.toNat default).Width)), (57, vb (decide (((a1.getD x3.toNat default).Width) > 600))), (60, vp 0 3), (61, vi ((a1.getD x3.toNat default).Allow)), (62, vb (decide (((a1.getD x3.toNat default).Allow) < 0))), (78, vb true)], [(0, bx 43 [cs ((a1.getD x3.toNat default).Name), ci ((a1.getD x3.toNat default).Thick), ci ((a1.getD x3.toNat default).Width), ci ((a1.getD x3.toNat default).Allow), ci ((a1.getD x3.toNat default).Wane), tl e_i64 default ((a1.getD x3.toNat default).Lengths), tl e_i64 default ((a1.getD x3.toNat default).Prices)])]⟩ (o1 (And.intro b17 (And.intro b18 (And.intro b19 (And.intro b20 b21))))) (by kernel_rfl) (by kernel_rfl) ?_
                      exact J_mk (true) hm (by kernel_rfl) (by kernel_rfl)
                    · replace hm := bif_f b21 hm
                      rcases Bool.eq_false_or_eq_true (decide (((a1.getD x3.toNat default).Allow) > 200)) with b22 | b22
                      · replace hm := bif_t b22 hm
                        refine R_rn Tryd.f25 29852 14 [(3, dfx false), (8, dfx false), (15, dfx false), (20, dfx false), (25, dfx false), (30, dfx true)] [] 1 ⟨[(0, vc (tl e_Product default a1)), (3, vi x3), (4, vp 0 0), (43, vp 0 1), (44, vi ((a1.getD x3.toNat default).Thick)), (45, vb (decide (((a1.getD x3.toNat default).Thick) > 300))), (48, vp 0 2), (49, vi ((a1.getD x3.toNat default).Width)), (50, vp 0 1), (51, vi ((a1.getD x3.toNat default).Thick)), (52, vb (decide (((a1.getD x3.toNat default).Width) < ((a1.getD x3.toNat default).Thick)))), (55, vp 0 2), (56, vi ((a1.getD x3.toNat default).Width)), (57, vb (decide (((a1.getD x3.toNat default).Width) > 600))), (60, vp 0 3), (61, vi ((a1.getD x3.toNat default).Allow)), (62, vb (decide (((a1.getD x3.toNat default).Allow) < 0))), (65, vp 0 3), (66, vi ((a1.getD x3.toNat default).Allow)), (67, vb (decide (((a1.getD x3.toNat default).Allow) > 200))), (78, vb true)], [(0, bx 43 [cs ((a1.getD x3.toNat default).Name), ci ((a1.getD x3.toNat default).Thick), ci ((a1.getD x3.toNat default).Width), ci ((a1.getD x3.toNat default).Allow), ci ((a1.getD x3.toNat default).Wane), tl e_i64 default ((a1.getD x3.toNat default).Lengths), tl e_i64 default ((a1.getD x3.toNat default).Prices)])]⟩ (o1 (And.intro b17 (And.intro b18 (And.intro b19 (And.intro b20 (And.intro b21 b22)))))) (by kernel_rfl) (by kernel_rfl) ?_
                        exact J_mk (true) hm (by kernel_rfl) (by kernel_rfl)
                      · replace hm := bif_f b22 hm
                        rcases Bool.eq_false_or_eq_true (decide (((a1.getD x3.toNat default).Wane) < 0)) with b23 | b23
                        · replace hm := bif_t b23 hm
                          refine R_rn Tryd.f25 29852 14 [(3, dfx false), (8, dfx false), (15, dfx false), (20, dfx false), (25, dfx false), (30, dfx false), (35, dfx true)] [] 1 ⟨[(0, vc (tl e_Product default a1)), (3, vi x3), (4, vp 0 0), (43, vp 0 1), (44, vi ((a1.getD x3.toNat default).Thick)), (45, vb (decide (((a1.getD x3.toNat default).Thick) > 300))), (48, vp 0 2), (49, vi ((a1.getD x3.toNat default).Width)), (50, vp 0 1), (51, vi ((a1.getD x3.toNat default).Thick)), (52, vb (decide (((a1.getD x3.toNat default).Width) < ((a1.getD x3.toNat default).Thick)))), (55, vp 0 2), (56, vi ((a1.getD x3.toNat default).Width)), (57, vb (decide (((a1.getD x3.toNat default).Width) > 600))), (60, vp 0 3), (61, vi ((a1.getD x3.toNat default).Allow)), (62, vb (decide (((a1.getD x3.toNat default).Allow) < 0))), (65, vp 0 3), (66, vi ((a1.getD x3.toNat default).Allow)), (67, vb (decide (((a1.getD x3.toNat default).Allow) > 200))), (70, vp 0 4), (71, vi ((a1.getD x3.toNat default).Wane)), (72, vb (decide (((a1.getD x3.toNat default).Wane) < 0))), (78, vb true)], [(0, bx 43 [cs ((a1.getD x3.toNat default).Name), ci ((a1.getD x3.toNat default).Thick), ci ((a1.getD x3.toNat default).Width), ci ((a1.getD x3.toNat default).Allow), ci ((a1.getD x3.toNat default).Wane), tl e_i64 default ((a1.getD x3.toNat default).Lengths), tl e_i64 default ((a1.getD x3.toNat default).Prices)])]⟩ (o1 (And.intro b17 (And.intro b18 (And.intro b19 (And.intro b20 (And.intro b21 (And.intro b22 b23))))))) (by kernel_rfl) (by kernel_rfl) ?_
                          exact J_mk (true) hm (by kernel_rfl) (by kernel_rfl)
                        · replace hm := bif_f b23 hm
                          refine R_rn Tryd.f25 29852 14 [(3, dfx false), (8, dfx false), (15, dfx false), (20, dfx false), (25, dfx false), (30, dfx false), (35, dfx false)] [] 1 ⟨[(0, vc (tl e_Product default a1)), (3, vi x3), (4, vp 0 0), (43, vp 0 1), (44, vi ((a1.getD x3.toNat default).Thick)), (45, vb (decide (((a1.getD x3.toNat default).Thick) > 300))), (48, vp 0 2), (49, vi ((a1.getD x3.toNat default).Width)), (50, vp 0 1), (51, vi ((a1.getD x3.toNat default).Thick)), (52, vb (decide (((a1.getD x3.toNat default).Width) < ((a1.getD x3.toNat default).Thick)))), (55, vp 0 2), (56, vi ((a1.getD x3.toNat default).Width)), (57, vb (decide (((a1.getD x3.toNat default).Width) > 600))), (60, vp 0 3), (61, vi ((a1.getD x3.toNat default).Allow)), (62, vb (decide (((a1.getD x3.toNat default).Allow) < 0))), (65, vp 0 3), (66, vi ((a1.getD x3.toNat default).Allow)), (67, vb (decide (((a1.getD x3.toNat default).Allow) > 200))), (70, vp 0 4), (71, vi ((a1.getD x3.toNat default).Wane)), (72, vb (decide (((a1.getD x3.toNat default).Wane) < 0))), (75, vp 0 4), (76, vi ((a1.getD x3.toNat default).Wane)), (77, vb (decide (((a1.getD x3.toNat default).Wane) > 1000))), (78, vb (decide (((a1.getD x3.toNat default).Wane) > 1000)))], [(0, bx 43 [cs ((a1.getD x3.toNat default).Name), ci ((a1.getD x3.toNat default).Thick), ci ((a1.getD x3.toNat default).Width), ci ((a1.getD x3.toNat default).Allow), ci ((a1.getD x3.toNat default).Wane), tl e_i64 default ((a1.getD x3.toNat default).Lengths), tl e_i64 default ((a1.getD x3.toNat default).Prices)])]⟩ (o1 (And.intro b17 (And.intro b18 (And.intro b19 (And.intro b20 (And.intro b21 (And.intro b22 b23))))))) (by kernel_rfl) (by kernel_rfl) ?_
                          exact J_mk (decide (((a1.getD x3.toNat default).Wane) > 1000)) hm (by kernel_rfl) (by kernel_rfl)
    · replace hm := bif_f b4 hm
      refine R_exit 0 (by kernel_rfl) ?_
      obtain rfl := Option.some.inj hm
      exact L1_mk () (by kernel_rfl) (by kernel_rfl)

set_option maxRecDepth 100000 in
theorem ref19_Check_ok (a1 : List Product) (r : Int) (hm : ref19_Check a1 = some r) : CtX Tryd.prog globs 25 0 0 [.one (tl e_Product default a1)] [] (ref19_Check_x r) (ref19_Check_o r) := by
  unfold ref19_Check at hm
  refine CtX_of_E (fn := Tryd.f25) (c := nd Tryd.f25 1) (nt := 91) (by kernel_rfl) (by kernel_rfl) (by kernel_rfl) (by kernel_rfl) fun E => ?_
  refine R_sq Tryd.f25 2 3 (by kernel_rfl) ?_
  refine R_rn Tryd.f25 2 0 [] [] 0 ⟨[(0, vc (tl e_Product default a1))], []⟩ o0 (by kernel_rfl) (by kernel_rfl) ?_
  refine R_sq Tryd.f25 6 7 (by kernel_rfl) ?_
  refine R_sq Tryd.f25 12 13 (by kernel_rfl) ?_
  refine R_rn Tryd.f25 12 1 [] [] 0 ⟨[(0, vc (tl e_Product default a1)), (11, vb (decide (((a1.length : Nat) : Int) > 16)))], []⟩ o0 (by kernel_rfl) (by kernel_rfl) ?_
  refine R_cn Tryd.f25 (.tmp 11) 26 27 (by kernel_rfl) (decide (((a1.length : Nat) : Int) > 16)) (by kernel_rfl) (fun b2 => ?_) (fun b2 => ?_)
  · replace hm := bif_t b2 hm
    refine R_sq Tryd.f25 52 53 (by kernel_rfl) ?_
    refine R_rn Tryd.f25 52 2 [] [] 0 ⟨[(2, vi 4)], []⟩ o0 (by kernel_rfl) (by kernel_rfl) ?_
    obtain rfl := Option.some.inj hm
    refine R_ret (by kernel_rfl) ?_
    exact ret_mk (by kernel_rfl) (by kernel_rfl)
  · replace hm := bif_f b2 hm
    refine R_skip (by kernel_rfl) ?_
    refine R_sq Tryd.f25 14 15 (by kernel_rfl) ?_
    refine R_sq Tryd.f25 28 29 (by kernel_rfl) ?_
    refine R_rn Tryd.f25 28 3 [] [] 0 ⟨[(0, vc (tl e_Product default a1)), (3, vi 0)], []⟩ o0 (by kernel_rfl) (by kernel_rfl) ?_
    obtain ⟨u34, h33, hm⟩ := bind_s hm
    refine R_loop1 (nd Tryd.f25 116) 0 (by kernel_rfl) FUEL (fun o => ref19_Check_L1_T) (fun v st => RetQ Tryd.prog Tryd.f25 (ref19_Check_x v) (ref19_Check_o v) .ret st) u34 (HL_enter (ref19_Check_L1_S a1 0) (by kernel_rfl) (by kernel_rfl) (ref19_Check_L1_ok E a1 FUEL 0 u34 h33)) ?_ ?_
    · rintro v35 rfl st hr
      obtain rfl := Option.some.inj hm
      exact hr
    · rintro o32 rfl
      replace hm : _ = some r := hm
      refine R_sq Tryd.f25 30 31 (by kernel_rfl) ?_
      refine R_rn Tryd.f25 30 22 [] [] 0 ⟨[(2, vi 0)], []⟩ o0 (by kernel_rfl) (by kernel_rfl) ?_
      obtain rfl := Option.some.inj hm
      refine R_ret (by kernel_rfl) ?_
      exact ret_mk (by kernel_rfl) (by kernel_rfl)

end Saw
end Go.SL
