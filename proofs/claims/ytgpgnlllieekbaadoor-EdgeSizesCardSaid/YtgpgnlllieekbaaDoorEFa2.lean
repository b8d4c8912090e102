import Derived.Test.YtgpgnlllieekbaaDoorEBase
import Derived.Test.YtgpgnlllieekbaaDoorEFa1
set_option linter.unusedVariables false
set_option linter.unusedSimpArgs false
namespace Go.SL
namespace Saw
open Go.Proofs
set_option maxHeartbeats 4000000

def product_Green_x (r : Int × Int) : V := .tup [.one (ci r.1), .one (ci r.2)]

def product_Green_o (r : Int × Int) : List (Nat × (Nat × O)) := []

theorem product_Green_f (r : Int × Int) : Frozen (product_Green_o r) := by
  intro i k o h
  unfold product_Green_o at h
  cases h

def product_Green_k1_S (a1 : Product) (x9 : Bool) : St :=
  ⟨[(1, vp 0 0), (23, vb x9)], [(0, bx 43 [cs a1.Name, ci a1.Thick, ci a1.Width, ci a1.Allow, ci a1.Wane, tl e_i64 default a1.Lengths, tl e_i64 default a1.Prices])]⟩

set_option maxRecDepth 100000 in
theorem product_Green_ok (a1 : Product) (r : Int × Int) (hm : product_Green a1 = some r) : CtX Tryd.prog globs 24 0 0 [.agg [cs a1.Name, ci a1.Thick, ci a1.Width, ci a1.Allow, ci a1.Wane, tl e_i64 default a1.Lengths, tl e_i64 default a1.Prices]] [] (product_Green_x r) (product_Green_o r) := by
  unfold product_Green at hm
  refine CtX_of_E (fn := Tryd.f24) (c := nd Tryd.f24 1) (nt := 34) (by kernel_rfl) (by kernel_rfl) (by kernel_rfl) (by kernel_rfl) fun E => ?_
  refine R_sq Tryd.f24 2 3 (by kernel_rfl) ?_
  refine R_rn Tryd.f24 2 0 [] [] 0 ⟨[(1, vp 0 0)], [(0, bx 43 [cs a1.Name, ci a1.Thick, ci a1.Width, ci a1.Allow, ci a1.Wane, tl e_i64 default a1.Lengths, tl e_i64 default a1.Prices])]⟩ o0 (by kernel_rfl) (by kernel_rfl) ?_
  refine R_sq Tryd.f24 6 7 (by kernel_rfl) ?_
  refine R_join (ι := Bool) (nd Tryd.f24 12) (nd Tryd.f24 13) (by kernel_rfl) (fun p => product_Green_k1_S a1 p) (fun p => product_Green_k1 a1 p = some r) ?_ ?_
  · rintro x9 hm
    show H _ (product_Green_k1_S a1 x9) (nd Tryd.f24 13) _
    refine R_cn Tryd.f24 (.tmp 23) 26 27 (by kernel_rfl) x9 (by kernel_rfl) (fun b10 => ?_) (fun b10 => ?_)
    · replace hm := bif_t b10 hm
      refine R_sq Tryd.f24 52 53 (by kernel_rfl) ?_
      refine R_rn Tryd.f24 52 2 [] [] 1 ⟨[(2, vi 0), (3, vi 0)], []⟩ o0 (by kernel_rfl) (by kernel_rfl) ?_
      obtain rfl := Option.some.inj hm
      refine R_ret (by kernel_rfl) ?_
      exact ret_mk (by kernel_rfl) (by kernel_rfl)
    · replace hm := bif_f b10 hm
      refine R_skip (by kernel_rfl) ?_
      refine R_sq Tryd.f24 14 15 (by kernel_rfl) ?_
      obtain ⟨v11, h12, hm⟩ := bind_s hm
      obtain ⟨v13, h14, hm⟩ := bind_s hm
      refine R_dr Tryd.f24 14 3 [] [(4, dex (cen [] [] 1 0 (product_grow_x v11) (product_grow_o v11) [25, 27] [])), (9, dex (cen [] [] 1 0 (product_grow_x v13) (product_grow_o v13) [30, 32] []))] [] [0, 1, 0, 4, 15, 0, 32, 0, 128, 511, 1023, 2047] 1 ⟨[(2, vi v11), (3, vi v13)], []⟩ (o1 (And.intro (callS (K := (kx E 34 0)) ⟨[(25, vi a1.Thick), (27, vi a1.Allow)], []⟩ (opAt (rg Tryd.f24 14) 4) [] [] 1 o0 rfl (product_grow_ok a1.Thick a1.Allow v11 h12) (.inl rfl) (by kernel_rfl)) (callS (K := (kx E 34 0)) ⟨[(30, vi a1.Width), (32, vi a1.Allow)], []⟩ (opAt (rg Tryd.f24 14) 9) [] [] 1 o0 rfl (product_grow_ok a1.Width a1.Allow v13 h14) (.inl rfl) (by kernel_rfl)))) (by kernel_rfl) (by kernel_rfl) ?_
      obtain rfl := Option.some.inj hm
      refine R_ret (by kernel_rfl) ?_
      exact ret_mk (by kernel_rfl) (by kernel_rfl)
  · obtain ⟨v2, h3, hm⟩ := bind_s hm
    rcases Bool.eq_false_or_eq_true (!v2) with b4 | b4
    · replace hm := bif_t b4 hm
      refine R_rn Tryd.f24 12 1 [(2, dex (cen [] [] 1 0 (product_isSize_x v2) (product_isSize_o v2) [5] [])), (4, dfx true)] [] 1 ⟨[(1, vp 0 0), (23, vb true)], [(0, bx 43 [cs a1.Name, ci a1.Thick, ci a1.Width, ci a1.Allow, ci a1.Wane, tl e_i64 default a1.Lengths, tl e_i64 default a1.Prices])]⟩ (o1 (And.intro (callS (K := (kx E 34 0)) ⟨[(5, vi a1.Thick)], []⟩ (opAt (rg Tryd.f24 12) 2) [] [] 1 o0 rfl (product_isSize_ok a1.Thick v2 h3) (.inl rfl) (by kernel_rfl)) b4)) (by kernel_rfl) (by kernel_rfl) ?_
      exact J_mk (true) hm (by kernel_rfl) (by kernel_rfl)
    · replace hm := bif_f b4 hm
      obtain ⟨v5, h6, hm⟩ := bind_s hm
      rcases Bool.eq_false_or_eq_true (!v5) with b7 | b7
      · replace hm := bif_t b7 hm
        refine R_rn Tryd.f24 12 1 [(2, dex (cen [] [] 1 0 (product_isSize_x v2) (product_isSize_o v2) [5] [])), (4, dfx false), (7, dex (cen [] [] 1 0 (product_isSize_x v5) (product_isSize_o v5) [8, 10] [])), (10, dfx true)] [] 1 ⟨[(1, vp 0 0), (23, vb true)], [(0, bx 43 [cs a1.Name, ci a1.Thick, ci a1.Width, ci a1.Allow, ci a1.Wane, tl e_i64 default a1.Lengths, tl e_i64 default a1.Prices])]⟩ (o1 (And.intro (callS (K := (kx E 34 0)) ⟨[(5, vi a1.Thick)], []⟩ (opAt (rg Tryd.f24 12) 2) [] [] 1 o0 rfl (product_isSize_ok a1.Thick v2 h3) (.inl rfl) (by kernel_rfl)) (And.intro b4 (And.intro (callS (K := (kx E 34 0)) ⟨[(8, vb false), (10, vi a1.Width)], []⟩ (opAt (rg Tryd.f24 12) 7) [] [] 1 o0 rfl (product_isSize_ok a1.Width v5 h6) (.inl rfl) (by kernel_rfl)) b7)))) (by kernel_rfl) (by kernel_rfl) ?_
        exact J_mk (true) hm (by kernel_rfl) (by kernel_rfl)
      · replace hm := bif_f b7 hm
        rcases Bool.eq_false_or_eq_true (decide (a1.Allow < 0)) with b8 | b8
        · replace hm := bif_t b8 hm
          refine R_rn Tryd.f24 12 1 [(2, dex (cen [] [] 1 0 (product_isSize_x v2) (product_isSize_o v2) [5] [])), (4, dfx false), (7, dex (cen [] [] 1 0 (product_isSize_x v5) (product_isSize_o v5) [8, 10] [])), (10, dfx false), (15, dfx true)] [] 1 ⟨[(1, vp 0 0), (23, vb true)], [(0, bx 43 [cs a1.Name, ci a1.Thick, ci a1.Width, ci a1.Allow, ci a1.Wane, tl e_i64 default a1.Lengths, tl e_i64 default a1.Prices])]⟩ (o1 (And.intro (callS (K := (kx E 34 0)) ⟨[(5, vi a1.Thick)], []⟩ (opAt (rg Tryd.f24 12) 2) [] [] 1 o0 rfl (product_isSize_ok a1.Thick v2 h3) (.inl rfl) (by kernel_rfl)) (And.intro b4 (And.intro (callS (K := (kx E 34 0)) ⟨[(8, vb false), (10, vi a1.Width)], []⟩ (opAt (rg Tryd.f24 12) 7) [] [] 1 o0 rfl (product_isSize_ok a1.Width v5 h6) (.inl rfl) (by kernel_rfl)) (And.intro b7 b8))))) (by kernel_rfl) (by kernel_rfl) ?_
          exact J_mk (true) hm (by kernel_rfl) (by kernel_rfl)
        · replace hm := bif_f b8 hm
          refine R_rn Tryd.f24 12 1 [(2, dex (cen [] [] 1 0 (product_isSize_x v2) (product_isSize_o v2) [5] [])), (4, dfx false), (7, dex (cen [] [] 1 0 (product_isSize_x v5) (product_isSize_o v5) [8, 10] [])), (10, dfx false), (15, dfx false)] [] 1 ⟨[(1, vp 0 0), (23, vb (decide (a1.Allow > 200)))], [(0, bx 43 [cs a1.Name, ci a1.Thick, ci a1.Width, ci a1.Allow, ci a1.Wane, tl e_i64 default a1.Lengths, tl e_i64 default a1.Prices])]⟩ (o1 (And.intro (callS (K := (kx E 34 0)) ⟨[(5, vi a1.Thick)], []⟩ (opAt (rg Tryd.f24 12) 2) [] [] 1 o0 rfl (product_isSize_ok a1.Thick v2 h3) (.inl rfl) (by kernel_rfl)) (And.intro b4 (And.intro (callS (K := (kx E 34 0)) ⟨[(8, vb false), (10, vi a1.Width)], []⟩ (opAt (rg Tryd.f24 12) 7) [] [] 1 o0 rfl (product_isSize_ok a1.Width v5 h6) (.inl rfl) (by kernel_rfl)) (And.intro b7 b8))))) (by kernel_rfl) (by kernel_rfl) ?_
          exact J_mk (decide (a1.Allow > 200)) hm (by kernel_rfl) (by kernel_rfl)

end Saw
end Go.SL

namespace Go.SL
namespace Saw
open Go.Proofs
set_option maxHeartbeats 4000000

def section_inRange_x (r : Bool) : V := vb r

def section_inRange_o (r : Bool) : List (Nat × (Nat × O)) := []

theorem section_inRange_f (r : Bool) : Frozen (section_inRange_o r) := by
  intro i k o h
  unfold section_inRange_o at h
  cases h

def section_inRange_k1_S (x3 : Bool) : St :=
  ⟨[(2, vb x3)], []⟩

set_option maxRecDepth 100000 in
theorem section_inRange_ok (a1 : Span) (r : Bool) (hm : section_inRange a1 = some r) : CtX Tryd.prog globs 91 0 0 [.agg [ci a1.A, ci a1.B]] [] (section_inRange_x r) (section_inRange_o r) := by
  unfold section_inRange at hm
  refine CtX_of_E (fn := Tryd.f91) (c := nd Tryd.f91 1) (nt := 17) (by kernel_rfl) (by kernel_rfl) (by kernel_rfl) (by kernel_rfl) fun E => ?_
  refine R_sq Tryd.f91 2 3 (by kernel_rfl) ?_
  refine R_rn Tryd.f91 2 0 [] [] 0 ⟨[(1, vp 0 0)], [(0, bx 33 [ci a1.A, ci a1.B])]⟩ o0 (by kernel_rfl) (by kernel_rfl) ?_
  refine R_join (ι := Bool) (nd Tryd.f91 6) (nd Tryd.f91 7) (by kernel_rfl) (fun p => section_inRange_k1_S p) (fun p => section_inRange_k1 p = some r) ?_ ?_
  · rintro x3 hm
    show H _ (section_inRange_k1_S x3) (nd Tryd.f91 7) _
    obtain rfl := Option.some.inj hm
    refine R_ret (by kernel_rfl) ?_
    exact ret_mk (by kernel_rfl) (by kernel_rfl)
  · rcases Bool.eq_false_or_eq_true (decide ((imin a1.A a1.B) ≥ (-600))) with b2 | b2
    · replace hm := bif_t b2 hm
      refine R_rn Tryd.f91 6 1 [(6, dfx true)] [] 1 ⟨[(2, vb (decide ((imax a1.A a1.B) ≤ 600)))], []⟩ (o1 b2) (by kernel_rfl) (by kernel_rfl) ?_
      exact J_mk (decide ((imax a1.A a1.B) ≤ 600)) hm (by kernel_rfl) (by kernel_rfl)
    · replace hm := bif_f b2 hm
      refine R_rn Tryd.f91 6 1 [(6, dfx false)] [] 1 ⟨[(2, vb false)], []⟩ (o1 b2) (by kernel_rfl) (by kernel_rfl) ?_
      exact J_mk (false) hm (by kernel_rfl) (by kernel_rfl)

end Saw
end Go.SL

namespace Go.SL
namespace Saw
open Go.Proofs
set_option maxHeartbeats 4000000

def section_isEmpty_x (r : Bool) : V := vb r

def section_isEmpty_o (r : Bool) : List (Nat × (Nat × O)) := []

theorem section_isEmpty_f (r : Bool) : Frozen (section_isEmpty_o r) := by
  intro i k o h
  unfold section_isEmpty_o at h
  cases h

set_option maxRecDepth 100000 in
theorem section_isEmpty_ok (a1 : Span) (r : Bool) (hm : section_isEmpty a1 = some r) : CtX Tryd.prog globs 31 0 0 [.agg [ci a1.A, ci a1.B]] [] (section_isEmpty_x r) (section_isEmpty_o r) := by
  unfold section_isEmpty at hm
  refine CtX_of_E (fn := Tryd.f31) (c := nd Tryd.f31 1) (nt := 8) (by kernel_rfl) (by kernel_rfl) (by kernel_rfl) (by kernel_rfl) fun E => ?_
  refine R_sq Tryd.f31 2 3 (by kernel_rfl) ?_
  refine R_rn Tryd.f31 2 0 [] [] 0 ⟨[(1, vp 0 0)], [(0, bx 33 [ci a1.A, ci a1.B])]⟩ o0 (by kernel_rfl) (by kernel_rfl) ?_
  refine R_sq Tryd.f31 6 7 (by kernel_rfl) ?_
  refine R_rn Tryd.f31 6 1 [] [] 1 ⟨[(2, vb (decide (a1.A ≥ a1.B)))], []⟩ o0 (by kernel_rfl) (by kernel_rfl) ?_
  obtain rfl := Option.some.inj hm
  refine R_ret (by kernel_rfl) ?_
  exact ret_mk (by kernel_rfl) (by kernel_rfl)

end Saw
end Go.SL

namespace Go.SL
namespace Saw
open Go.Proofs
set_option maxHeartbeats 4000000

def section_Check_x (r : Int) : V := vi r

def section_Check_o (r : Int) : List (Nat × (Nat × O)) := []

theorem section_Check_f (r : Int) : Frozen (section_Check_o r) := by
  intro i k o h
  unfold section_Check_o at h
  cases h

def section_Check_L2_S (a1 : Section) (x6 : Int) : St :=
  ⟨[(1, vp 0 0), (3, vi ((a1.Rows.length : Nat) : Int)), (24, vc (tl e_Span default a1.Rows)), (25, vi ((a1.Rows.length : Nat) : Int)), (26, vi x6)], [(0, bx 52 [ci a1.Low, tl e_Span default a1.Rows])]⟩

def section_Check_L2_T (a1 : Section) : St :=
  ⟨[(1, vp 0 0), (3, vi ((a1.Rows.length : Nat) : Int))], [(0, bx 52 [ci a1.Low, tl e_Span default a1.Rows])]⟩

def section_Check_k5_S (a1 : Section) (x27 : Int) (x33 : Bool) : St :=
  ⟨[(54, vc (tl e_Span default a1.Rows)), (55, vi ((a1.Rows.length : Nat) : Int)), (56, vi x27), (66, vb x33)], []⟩

def section_Check_L4_S (a1 : Section) (x27 : Int) : St :=
  ⟨[(54, vc (tl e_Span default a1.Rows)), (55, vi ((a1.Rows.length : Nat) : Int)), (56, vi x27)], []⟩

def section_Check_L4_T : St :=
  ⟨[], []⟩

def section_Check_k3_S (a1 : Section) (x25 : Bool) : St :=
  ⟨[(1, vp 0 0), (52, vb x25)], [(0, bx 52 [ci a1.Low, tl e_Span default a1.Rows])]⟩

def section_Check_k1_S (a1 : Section) (x4 : Bool) : St :=
  ⟨[(1, vp 0 0), (3, vi ((a1.Rows.length : Nat) : Int)), (22, vb x4)], [(0, bx 52 [ci a1.Low, tl e_Span default a1.Rows])]⟩

set_option maxRecDepth 100000 in
theorem section_Check_L2_ok (E : Env 0) (a1 : Section) : ∀ (n : Nat) (x6 : Int) (res : Int ⊕ Unit), section_Check_L2 a1 n x6 = some res → HL (kx E 68 0) (nd Tryd.f59 500) (loopQ 0 (fun o => section_Check_L2_T a1) (fun v st => RetQ Tryd.prog Tryd.f59 (section_Check_x v) (section_Check_o v) .ret st) res) n (section_Check_L2_S a1 x6) := by
  intro n
  induction n with
  | zero =>
    intro x6 res hm
    cases hm
  | succ n ih =>
    intro x6 res hm
    refine HL_succ ?_
    refine R_sq Tryd.f59 1000 1001 (by kernel_rfl) ?_
    refine R_rn Tryd.f59 1000 7 [] [] 1 ⟨[(1, vp 0 0), (3, vi ((a1.Rows.length : Nat) : Int)), (24, vc (tl e_Span default a1.Rows)), (25, vi ((a1.Rows.length : Nat) : Int)), (26, vi x6), (27, vb (decide (x6 < ((a1.Rows.length : Nat) : Int))))], [(0, bx 52 [ci a1.Low, tl e_Span default a1.Rows])]⟩ o0 (by kernel_rfl) (by kernel_rfl) ?_
    refine R_sq Tryd.f59 2002 2003 (by kernel_rfl) ?_
    refine R_cn Tryd.f59 (.tmp 27) 4004 4005 (by kernel_rfl) (decide (x6 < ((a1.Rows.length : Nat) : Int))) (by kernel_rfl) (fun b7 => ?_) (fun b7 => ?_)
    · replace hm := bif_t b7 hm
      refine R_skip (by kernel_rfl) ?_
      refine R_sq Tryd.f59 4006 4007 (by kernel_rfl) ?_
      refine R_bk Tryd.f59 1 8012 (by kernel_rfl) ?_
      refine R_sq Tryd.f59 16024 16025 (by kernel_rfl) ?_
      obtain ⟨g8, hm⟩ := bif_n hm
      refine R_rn Tryd.f59 16024 8 [] [] 1 ⟨[(1, vp 0 0), (3, vi ((a1.Rows.length : Nat) : Int)), (5, vp 1 0), (24, vc (tl e_Span default a1.Rows)), (25, vi ((a1.Rows.length : Nat) : Int)), (26, vi x6)], [(0, bx 52 [ci a1.Low, tl e_Span default a1.Rows]), (1, bx 33 [ci ((a1.Rows.getD x6.toNat default).A), ci ((a1.Rows.getD x6.toNat default).B)])]⟩ (o1 (inb_of g8)) (by kernel_rfl) (by kernel_rfl) ?_
      refine R_sq Tryd.f59 32050 32051 (by kernel_rfl) ?_
      obtain ⟨v9, h10, hm⟩ := bind_s hm
      refine R_rn Tryd.f59 32050 9 [(1, dex (cen [] [] 2 0 (section_inRange_x v9) (section_inRange_o v9) [30] []))] [] 2 ⟨[(1, vp 0 0), (3, vi ((a1.Rows.length : Nat) : Int)), (24, vc (tl e_Span default a1.Rows)), (25, vi ((a1.Rows.length : Nat) : Int)), (26, vi x6), (32, vb (!v9))], [(0, bx 52 [ci a1.Low, tl e_Span default a1.Rows])]⟩ (o1 (callS (K := (kx E 68 0)) ⟨[(30, va [ci ((a1.Rows.getD x6.toNat default).A), ci ((a1.Rows.getD x6.toNat default).B)])], []⟩ (opAt (rg Tryd.f59 32050) 1) [] [] 2 o0 rfl (section_inRange_ok (a1.Rows.getD x6.toNat default) v9 h10) (.inl rfl) (by kernel_rfl))) (by kernel_rfl) (by kernel_rfl) ?_
      refine R_cn Tryd.f59 (.tmp 32) 64102 64103 (by kernel_rfl) (!v9) (by kernel_rfl) (fun b11 => ?_) (fun b11 => ?_)
      · replace hm := bif_t b11 hm
        refine R_sq Tryd.f59 128204 128205 (by kernel_rfl) ?_
        refine R_rn Tryd.f59 128204 10 [] [] 2 ⟨[(2, vi 9)], []⟩ o0 (by kernel_rfl) (by kernel_rfl) ?_
        obtain rfl := Option.some.inj hm
        refine R_ret (by kernel_rfl) ?_
        refine L1_ret 9 ?_
        exact ret_mk (by kernel_rfl) (by kernel_rfl)
      · replace hm := bif_f b11 hm
        refine R_skip (by kernel_rfl) ?_
        refine R_rn Tryd.f59 4007 11 [] [] 2 ⟨[(1, vp 0 0), (3, vi ((a1.Rows.length : Nat) : Int)), (24, vc (tl e_Span default a1.Rows)), (25, vi ((a1.Rows.length : Nat) : Int)), (26, vi (w64 (x6 + 1)))], [(0, bx 52 [ci a1.Low, tl e_Span default a1.Rows])]⟩ o0 (by kernel_rfl) (by kernel_rfl) ?_
        exact HL_enter (section_Check_L2_S a1 (w64 (x6 + 1))) (by kernel_rfl) (by kernel_rfl) (ih (w64 (x6 + 1)) _ hm)
    · replace hm := bif_f b7 hm
      refine R_exit 0 (by kernel_rfl) ?_
      obtain rfl := Option.some.inj hm
      exact L1_mk () (by kernel_rfl) (by kernel_rfl)

set_option maxRecDepth 100000 in
theorem section_Check_L4_ok (E : Env 0) (a1 : Section) : ∀ (n : Nat) (x27 : Int) (res : Int ⊕ Unit), section_Check_L4 a1 n x27 = some res → HL (kx E 68 0) (nd Tryd.f59 4084) (loopQ 2 (fun o => section_Check_L4_T) (fun v st => RetQ Tryd.prog Tryd.f59 (section_Check_x v) (section_Check_o v) .ret st) res) n (section_Check_L4_S a1 x27) := by
  intro n
  induction n with
  | zero =>
    intro x27 res hm
    cases hm
  | succ n ih =>
    intro x27 res hm
    refine HL_succ ?_
    refine R_sq Tryd.f59 8168 8169 (by kernel_rfl) ?_
    refine R_rn Tryd.f59 8168 19 [] [] 1 ⟨[(54, vc (tl e_Span default a1.Rows)), (55, vi ((a1.Rows.length : Nat) : Int)), (56, vi x27), (57, vb (decide (x27 < ((a1.Rows.length : Nat) : Int))))], []⟩ o0 (by kernel_rfl) (by kernel_rfl) ?_
    refine R_sq Tryd.f59 16338 16339 (by kernel_rfl) ?_
    refine R_cn Tryd.f59 (.tmp 57) 32676 32677 (by kernel_rfl) (decide (x27 < ((a1.Rows.length : Nat) : Int))) (by kernel_rfl) (fun b28 => ?_) (fun b28 => ?_)
    · replace hm := bif_t b28 hm
      refine R_skip (by kernel_rfl) ?_
      refine R_sq Tryd.f59 32678 32679 (by kernel_rfl) ?_
      refine R_bk Tryd.f59 3 65356 (by kernel_rfl) ?_
      refine R_sq Tryd.f59 130712 130713 (by kernel_rfl) ?_
      obtain ⟨g29, hm⟩ := bif_n hm
      refine R_rn Tryd.f59 130712 20 [] [] 1 ⟨[(7, vp 1 0), (54, vc (tl e_Span default a1.Rows)), (55, vi ((a1.Rows.length : Nat) : Int)), (56, vi x27)], [(1, bx 33 [ci ((a1.Rows.getD x27.toNat default).A), ci ((a1.Rows.getD x27.toNat default).B)])]⟩ (o1 (inb_of g29)) (by kernel_rfl) (by kernel_rfl) ?_
      refine R_join (ι := Bool) (nd Tryd.f59 261426) (nd Tryd.f59 261427) (by kernel_rfl) (fun p => section_Check_k5_S a1 x27 p) (fun p => section_Check_k5 x27 (section_Check_L4 a1 n) p = some res) ?_ ?_
      · rintro x33 hm
        show H _ (section_Check_k5_S a1 x27 x33) (nd Tryd.f59 261427) _
        refine R_cn Tryd.f59 (.tmp 66) 522854 522855 (by kernel_rfl) x33 (by kernel_rfl) (fun b34 => ?_) (fun b34 => ?_)
        · replace hm := bif_t b34 hm
          refine R_sq Tryd.f59 1045708 1045709 (by kernel_rfl) ?_
          refine R_rn Tryd.f59 1045708 22 [] [] 2 ⟨[(2, vi 19)], []⟩ o0 (by kernel_rfl) (by kernel_rfl) ?_
          obtain rfl := Option.some.inj hm
          refine R_ret (by kernel_rfl) ?_
          refine L1_ret 19 ?_
          exact ret_mk (by kernel_rfl) (by kernel_rfl)
        · replace hm := bif_f b34 hm
          refine R_skip (by kernel_rfl) ?_
          refine R_rn Tryd.f59 32679 23 [] [] 2 ⟨[(54, vc (tl e_Span default a1.Rows)), (55, vi ((a1.Rows.length : Nat) : Int)), (56, vi (w64 (x27 + 1)))], []⟩ o0 (by kernel_rfl) (by kernel_rfl) ?_
          exact HL_enter (section_Check_L4_S a1 (w64 (x27 + 1))) (by kernel_rfl) (by kernel_rfl) (ih (w64 (x27 + 1)) _ hm)
      · obtain ⟨v30, h31, hm⟩ := bind_s hm
        rcases Bool.eq_false_or_eq_true v30 with b32 | b32
        · replace hm := bif_t b32 hm
          refine R_rn Tryd.f59 261426 21 [(1, dex (cen [] [] 2 0 (section_isEmpty_x v30) (section_isEmpty_o v30) [60] [])), (2, dfx true)] [] 2 ⟨[(54, vc (tl e_Span default a1.Rows)), (55, vi ((a1.Rows.length : Nat) : Int)), (56, vi x27), (63, va [ci ((a1.Rows.getD x27.toNat default).A), ci ((a1.Rows.getD x27.toNat default).B)]), (64, va [ci 0, ci 0]), (65, vb (!((((a1.Rows.getD x27.toNat default).A) == 0) && ((((a1.Rows.getD x27.toNat default).B) == 0) && true)))), (66, vb (!((((a1.Rows.getD x27.toNat default).A) == 0) && ((((a1.Rows.getD x27.toNat default).B) == 0) && true))))], []⟩ (o1 (And.intro (callS (K := (kx E 68 0)) ⟨[(60, va [ci ((a1.Rows.getD x27.toNat default).A), ci ((a1.Rows.getD x27.toNat default).B)])], []⟩ (opAt (rg Tryd.f59 261426) 1) [] [] 2 o0 rfl (section_isEmpty_ok (a1.Rows.getD x27.toNat default) v30 h31) (.inl rfl) (by kernel_rfl)) b32)) (by kernel_rfl) (by kernel_rfl) ?_
          exact J_mk (!((((a1.Rows.getD x27.toNat default).A) == 0) && ((((a1.Rows.getD x27.toNat default).B) == 0) && true))) hm (by kernel_rfl) (by kernel_rfl)
        · replace hm := bif_f b32 hm
          refine R_rn Tryd.f59 261426 21 [(1, dex (cen [] [] 2 0 (section_isEmpty_x v30) (section_isEmpty_o v30) [60] [])), (2, dfx false)] [] 2 ⟨[(54, vc (tl e_Span default a1.Rows)), (55, vi ((a1.Rows.length : Nat) : Int)), (56, vi x27), (66, vb false)], []⟩ (o1 (And.intro (callS (K := (kx E 68 0)) ⟨[(60, va [ci ((a1.Rows.getD x27.toNat default).A), ci ((a1.Rows.getD x27.toNat default).B)])], []⟩ (opAt (rg Tryd.f59 261426) 1) [] [] 2 o0 rfl (section_isEmpty_ok (a1.Rows.getD x27.toNat default) v30 h31) (.inl rfl) (by kernel_rfl)) b32)) (by kernel_rfl) (by kernel_rfl) ?_
          exact J_mk (false) hm (by kernel_rfl) (by kernel_rfl)
    · replace hm := bif_f b28 hm
      refine R_exit 2 (by kernel_rfl) ?_
      obtain rfl := Option.some.inj hm
      exact L1_mk () (by kernel_rfl) (by kernel_rfl)

set_option maxRecDepth 100000 in
theorem section_Check_ok (a1 : Section) (r : Int) (hm : section_Check a1 = some r) : CtX Tryd.prog globs 59 0 0 [.agg [ci a1.Low, tl e_Span default a1.Rows]] [] (section_Check_x r) (section_Check_o r) := by
  unfold section_Check at hm
  refine CtX_of_E (fn := Tryd.f59) (c := nd Tryd.f59 1) (nt := 68) (by kernel_rfl) (by kernel_rfl) (by kernel_rfl) (by kernel_rfl) fun E => ?_
  refine R_sq Tryd.f59 2 3 (by kernel_rfl) ?_
  refine R_rn Tryd.f59 2 0 [] [] 0 ⟨[(1, vp 0 0)], [(0, bx 52 [ci a1.Low, tl e_Span default a1.Rows])]⟩ o0 (by kernel_rfl) (by kernel_rfl) ?_
  refine R_sq Tryd.f59 6 7 (by kernel_rfl) ?_
  refine R_rn Tryd.f59 6 1 [] [] 1 ⟨[(1, vp 0 0), (3, vi ((a1.Rows.length : Nat) : Int))], [(0, bx 52 [ci a1.Low, tl e_Span default a1.Rows])]⟩ o0 (by kernel_rfl) (by kernel_rfl) ?_
  refine R_sq Tryd.f59 14 15 (by kernel_rfl) ?_
  refine R_sq Tryd.f59 28 29 (by kernel_rfl) ?_
  refine R_rn Tryd.f59 28 2 [] [] 1 ⟨[(1, vp 0 0), (3, vi ((a1.Rows.length : Nat) : Int)), (12, vb (decide (((a1.Rows.length : Nat) : Int) > 120)))], [(0, bx 52 [ci a1.Low, tl e_Span default a1.Rows])]⟩ o0 (by kernel_rfl) (by kernel_rfl) ?_
  refine R_cn Tryd.f59 (.tmp 12) 58 59 (by kernel_rfl) (decide (((a1.Rows.length : Nat) : Int) > 120)) (by kernel_rfl) (fun b2 => ?_) (fun b2 => ?_)
  · replace hm := bif_t b2 hm
    refine R_sq Tryd.f59 116 117 (by kernel_rfl) ?_
    refine R_rn Tryd.f59 116 3 [] [] 1 ⟨[(2, vi 4)], []⟩ o0 (by kernel_rfl) (by kernel_rfl) ?_
    obtain rfl := Option.some.inj hm
    refine R_ret (by kernel_rfl) ?_
    exact ret_mk (by kernel_rfl) (by kernel_rfl)
  · replace hm := bif_f b2 hm
    refine R_skip (by kernel_rfl) ?_
    refine R_sq Tryd.f59 30 31 (by kernel_rfl) ?_
    refine R_join (ι := Bool) (nd Tryd.f59 60) (nd Tryd.f59 61) (by kernel_rfl) (fun p => section_Check_k1_S a1 p) (fun p => section_Check_k1 a1 p = some r) ?_ ?_
    · rintro x4 hm
      show H _ (section_Check_k1_S a1 x4) (nd Tryd.f59 61) _
      refine R_cn Tryd.f59 (.tmp 22) 122 123 (by kernel_rfl) x4 (by kernel_rfl) (fun b5 => ?_) (fun b5 => ?_)
      · replace hm := bif_t b5 hm
        refine R_sq Tryd.f59 244 245 (by kernel_rfl) ?_
        refine R_rn Tryd.f59 244 5 [] [] 1 ⟨[(2, vi 9)], []⟩ o0 (by kernel_rfl) (by kernel_rfl) ?_
        obtain rfl := Option.some.inj hm
        refine R_ret (by kernel_rfl) ?_
        exact ret_mk (by kernel_rfl) (by kernel_rfl)
      · replace hm := bif_f b5 hm
        refine R_skip (by kernel_rfl) ?_
        refine R_sq Tryd.f59 62 63 (by kernel_rfl) ?_
        refine R_sq Tryd.f59 124 125 (by kernel_rfl) ?_
        refine R_rn Tryd.f59 124 6 [] [] 1 ⟨[(1, vp 0 0), (3, vi ((a1.Rows.length : Nat) : Int)), (24, vc (tl e_Span default a1.Rows)), (25, vi ((a1.Rows.length : Nat) : Int)), (26, vi 0)], [(0, bx 52 [ci a1.Low, tl e_Span default a1.Rows])]⟩ o0 (by kernel_rfl) (by kernel_rfl) ?_
        obtain ⟨u14, h13, hm⟩ := bind_s hm
        refine R_loop1 (nd Tryd.f59 500) 0 (by kernel_rfl) FUEL (fun o => section_Check_L2_T a1) (fun v st => RetQ Tryd.prog Tryd.f59 (section_Check_x v) (section_Check_o v) .ret st) u14 (HL_enter (section_Check_L2_S a1 0) (by kernel_rfl) (by kernel_rfl) (section_Check_L2_ok E a1 FUEL 0 u14 h13)) ?_ ?_
        · rintro v15 rfl st hr
          obtain rfl := Option.some.inj hm
          exact hr
        · rintro o12 rfl
          replace hm : _ = some r := hm
          refine R_sq Tryd.f59 126 127 (by kernel_rfl) ?_
          refine R_sq Tryd.f59 252 253 (by kernel_rfl) ?_
          refine R_rn Tryd.f59 252 12 [] [] 1 ⟨[(1, vp 0 0), (3, vi ((a1.Rows.length : Nat) : Int)), (35, vb (((a1.Rows.length : Nat) : Int) == 0))], [(0, bx 52 [ci a1.Low, tl e_Span default a1.Rows])]⟩ o0 (by kernel_rfl) (by kernel_rfl) ?_
          refine R_cn Tryd.f59 (.tmp 35) 506 507 (by kernel_rfl) (((a1.Rows.length : Nat) : Int) == 0) (by kernel_rfl) (fun b16 => ?_) (fun b16 => ?_)
          · replace hm := bif_t b16 hm
            refine R_sq Tryd.f59 1012 1013 (by kernel_rfl) ?_
            refine R_sq Tryd.f59 2024 2025 (by kernel_rfl) ?_
            refine R_rn Tryd.f59 2024 13 [] [] 1 ⟨[(38, vb (a1.Low != 0))], []⟩ o0 (by kernel_rfl) (by kernel_rfl) ?_
            refine R_cn Tryd.f59 (.tmp 38) 4050 4051 (by kernel_rfl) (a1.Low != 0) (by kernel_rfl) (fun b17 => ?_) (fun b17 => ?_)
            · replace hm := bif_t b17 hm
              refine R_sq Tryd.f59 8100 8101 (by kernel_rfl) ?_
              refine R_rn Tryd.f59 8100 14 [] [] 1 ⟨[(2, vi 19)], []⟩ o0 (by kernel_rfl) (by kernel_rfl) ?_
              obtain rfl := Option.some.inj hm
              refine R_ret (by kernel_rfl) ?_
              exact ret_mk (by kernel_rfl) (by kernel_rfl)
            · replace hm := bif_f b17 hm
              refine R_skip (by kernel_rfl) ?_
              refine R_sq Tryd.f59 2026 2027 (by kernel_rfl) ?_
              refine R_rn Tryd.f59 2026 15 [] [] 1 ⟨[(2, vi 0)], []⟩ o0 (by kernel_rfl) (by kernel_rfl) ?_
              obtain rfl := Option.some.inj hm
              refine R_ret (by kernel_rfl) ?_
              exact ret_mk (by kernel_rfl) (by kernel_rfl)
          · replace hm := bif_f b16 hm
            refine R_skip (by kernel_rfl) ?_
            refine R_sq Tryd.f59 254 255 (by kernel_rfl) ?_
            refine R_join (ι := Bool) (nd Tryd.f59 508) (nd Tryd.f59 509) (by kernel_rfl) (fun p => section_Check_k3_S a1 p) (fun p => section_Check_k3 a1 p = some r) ?_ ?_
            · rintro x25 hm
              show H _ (section_Check_k3_S a1 x25) (nd Tryd.f59 509) _
              refine R_cn Tryd.f59 (.tmp 52) 1018 1019 (by kernel_rfl) x25 (by kernel_rfl) (fun b26 => ?_) (fun b26 => ?_)
              · replace hm := bif_t b26 hm
                refine R_sq Tryd.f59 2036 2037 (by kernel_rfl) ?_
                refine R_rn Tryd.f59 2036 17 [] [] 1 ⟨[(2, vi 19)], []⟩ o0 (by kernel_rfl) (by kernel_rfl) ?_
                obtain rfl := Option.some.inj hm
                refine R_ret (by kernel_rfl) ?_
                exact ret_mk (by kernel_rfl) (by kernel_rfl)
              · replace hm := bif_f b26 hm
                refine R_skip (by kernel_rfl) ?_
                refine R_sq Tryd.f59 510 511 (by kernel_rfl) ?_
                refine R_sq Tryd.f59 1020 1021 (by kernel_rfl) ?_
                refine R_rn Tryd.f59 1020 18 [] [] 1 ⟨[(54, vc (tl e_Span default a1.Rows)), (55, vi ((a1.Rows.length : Nat) : Int)), (56, vi 0)], []⟩ o0 (by kernel_rfl) (by kernel_rfl) ?_
                obtain ⟨u37, h36, hm⟩ := bind_s hm
                refine R_loop1 (nd Tryd.f59 4084) 2 (by kernel_rfl) FUEL (fun o => section_Check_L4_T) (fun v st => RetQ Tryd.prog Tryd.f59 (section_Check_x v) (section_Check_o v) .ret st) u37 (HL_enter (section_Check_L4_S a1 0) (by kernel_rfl) (by kernel_rfl) (section_Check_L4_ok E a1 FUEL 0 u37 h36)) ?_ ?_
                · rintro v38 rfl st hr
                  obtain rfl := Option.some.inj hm
                  exact hr
                · rintro o35 rfl
                  replace hm : _ = some r := hm
                  refine R_sq Tryd.f59 1022 1023 (by kernel_rfl) ?_
                  refine R_rn Tryd.f59 1022 24 [] [] 1 ⟨[(2, vi 0)], []⟩ o0 (by kernel_rfl) (by kernel_rfl) ?_
                  obtain rfl := Option.some.inj hm
                  refine R_ret (by kernel_rfl) ?_
                  exact ret_mk (by kernel_rfl) (by kernel_rfl)
            · obtain ⟨g18, hm⟩ := bif_n hm
              obtain ⟨v19, h20, hm⟩ := bind_s hm
              rcases Bool.eq_false_or_eq_true v19 with b21 | b21
              · replace hm := bif_t b21 hm
                refine R_rn Tryd.f59 508 16 [(4, dex (cen [] [] 1 0 (section_isEmpty_x v19) (section_isEmpty_o v19) [42] [])), (5, dfx true)] [] 1 ⟨[(1, vp 0 0), (52, vb true)], [(0, bx 52 [ci a1.Low, tl e_Span default a1.Rows])]⟩ (o1 (And.intro (inb_of g18) (And.intro (callS (K := (kx E 68 0)) ⟨[(42, va [ci ((a1.Rows.getD (0 : Int).toNat default).A), ci ((a1.Rows.getD (0 : Int).toNat default).B)])], []⟩ (opAt (rg Tryd.f59 508) 4) [] [] 1 o0 rfl (section_isEmpty_ok (a1.Rows.getD (0 : Int).toNat default) v19 h20) (.inl rfl) (by kernel_rfl)) b21))) (by kernel_rfl) (by kernel_rfl) ?_
                exact J_mk (true) hm (by kernel_rfl) (by kernel_rfl)
              · replace hm := bif_f b21 hm
                obtain ⟨g22, hm⟩ := bif_n hm
                obtain ⟨v23, h24, hm⟩ := bind_s hm
                refine R_rn Tryd.f59 508 16 [(4, dex (cen [] [] 1 0 (section_isEmpty_x v19) (section_isEmpty_o v19) [42] [])), (5, dfx false), (12, dex (cen [] [] 1 0 (section_isEmpty_x v23) (section_isEmpty_o v23) [44, 50] []))] [] 1 ⟨[(1, vp 0 0), (52, vb v23)], [(0, bx 52 [ci a1.Low, tl e_Span default a1.Rows])]⟩ (o1 (And.intro (inb_of g18) (And.intro (callS (K := (kx E 68 0)) ⟨[(42, va [ci ((a1.Rows.getD (0 : Int).toNat default).A), ci ((a1.Rows.getD (0 : Int).toNat default).B)])], []⟩ (opAt (rg Tryd.f59 508) 4) [] [] 1 o0 rfl (section_isEmpty_ok (a1.Rows.getD (0 : Int).toNat default) v19 h20) (.inl rfl) (by kernel_rfl)) (And.intro b21 (And.intro (inb_of g22) (callS (K := (kx E 68 0)) ⟨[(44, vb false), (50, va [ci ((a1.Rows.getD (w64 (((a1.Rows.length : Nat) : Int) - 1)).toNat default).A), ci ((a1.Rows.getD (w64 (((a1.Rows.length : Nat) : Int) - 1)).toNat default).B)])], []⟩ (opAt (rg Tryd.f59 508) 12) [] [] 1 o0 rfl (section_isEmpty_ok (a1.Rows.getD (w64 (((a1.Rows.length : Nat) : Int) - 1)).toNat default) v23 h24) (.inl rfl) (by kernel_rfl))))))) (by kernel_rfl) (by kernel_rfl) ?_
                exact J_mk (v23) hm (by kernel_rfl) (by kernel_rfl)
    · rcases Bool.eq_false_or_eq_true (decide (a1.Low < (-60))) with b3 | b3
      · replace hm := bif_t b3 hm
        refine R_rn Tryd.f59 60 4 [(3, dfx true)] [] 1 ⟨[(1, vp 0 0), (3, vi ((a1.Rows.length : Nat) : Int)), (22, vb true)], [(0, bx 52 [ci a1.Low, tl e_Span default a1.Rows])]⟩ (o1 b3) (by kernel_rfl) (by kernel_rfl) ?_
        exact J_mk (true) hm (by kernel_rfl) (by kernel_rfl)
      · replace hm := bif_f b3 hm
        refine R_rn Tryd.f59 60 4 [(3, dfx false)] [] 1 ⟨[(1, vp 0 0), (3, vi ((a1.Rows.length : Nat) : Int)), (22, vb (decide (a1.Low > (w64 (60 - ((a1.Rows.length : Nat) : Int))))))], [(0, bx 52 [ci a1.Low, tl e_Span default a1.Rows])]⟩ (o1 b3) (by kernel_rfl) (by kernel_rfl) ?_
        exact J_mk (decide (a1.Low > (w64 (60 - ((a1.Rows.length : Nat) : Int))))) hm (by kernel_rfl) (by kernel_rfl)

end Saw
end Go.SL

namespace Go.SL
namespace Saw
open Go.Proofs
set_option maxHeartbeats 4000000

def solid_Check_x (r : Int) : V := vi r

def solid_Check_o (r : Int) : List (Nat × (Nat × O)) := []

theorem solid_Check_f (r : Int) : Frozen (solid_Check_o r) := by
  intro i k o h
  unfold solid_Check_o at h
  cases h

def solid_Check_k2_S (a1 : List Slice) (x4 : Int) (x5 : Int) (x13 : Bool) : St :=
  ⟨[(3, vi x4), (5, vp 0 0), (13, vc (tl e_Slice default a1)), (14, vi ((a1.length : Nat) : Int)), (15, vi x5), (39, vb x13)], [(0, bx 54 [ci ((a1.getD x5.toNat default).Len), ci (((a1.getD x5.toNat default).Sec).Low), tl e_Span default (((a1.getD x5.toNat default).Sec).Rows)])]⟩

def solid_Check_L1_S (a1 : List Slice) (x4 : Int) (x5 : Int) : St :=
  ⟨[(3, vi x4), (13, vc (tl e_Slice default a1)), (14, vi ((a1.length : Nat) : Int)), (15, vi x5)], []⟩

def solid_Check_L1_T : St :=
  ⟨[], []⟩

set_option maxRecDepth 100000 in
theorem solid_Check_L1_ok (E : Env 0) (a1 : List Slice) : ∀ (n : Nat) (x4 : Int) (x5 : Int) (res : Int ⊕ Unit), solid_Check_L1 a1 n x4 x5 = some res → HL (kx E 45 0) (nd Tryd.f63 500) (loopQ 0 (fun o => solid_Check_L1_T) (fun v st => RetQ Tryd.prog Tryd.f63 (solid_Check_x v) (solid_Check_o v) .ret st) res) n (solid_Check_L1_S a1 x4 x5) := by
  intro n
  induction n with
  | zero =>
    intro x4 x5 res hm
    cases hm
  | succ n ih =>
    intro x4 x5 res hm
    refine HL_succ ?_
    refine R_sq Tryd.f63 1000 1001 (by kernel_rfl) ?_
    refine R_rn Tryd.f63 1000 7 [] [] 0 ⟨[(3, vi x4), (13, vc (tl e_Slice default a1)), (14, vi ((a1.length : Nat) : Int)), (15, vi x5), (16, vb (decide (x5 < ((a1.length : Nat) : Int))))], []⟩ o0 (by kernel_rfl) (by kernel_rfl) ?_
    refine R_sq Tryd.f63 2002 2003 (by kernel_rfl) ?_
    refine R_cn Tryd.f63 (.tmp 16) 4004 4005 (by kernel_rfl) (decide (x5 < ((a1.length : Nat) : Int))) (by kernel_rfl) (fun b6 => ?_) (fun b6 => ?_)
    · replace hm := bif_t b6 hm
      refine R_skip (by kernel_rfl) ?_
      refine R_sq Tryd.f63 4006 4007 (by kernel_rfl) ?_
      refine R_bk Tryd.f63 1 8012 (by kernel_rfl) ?_
      refine R_sq Tryd.f63 16024 16025 (by kernel_rfl) ?_
      obtain ⟨g7, hm⟩ := bif_n hm
      refine R_rn Tryd.f63 16024 8 [] [] 0 ⟨[(3, vi x4), (5, vp 0 0), (13, vc (tl e_Slice default a1)), (14, vi ((a1.length : Nat) : Int)), (15, vi x5)], [(0, bx 54 [ci ((a1.getD x5.toNat default).Len), ci (((a1.getD x5.toNat default).Sec).Low), tl e_Span default (((a1.getD x5.toNat default).Sec).Rows)])]⟩ (o1 (inb_of g7)) (by kernel_rfl) (by kernel_rfl) ?_
      refine R_sq Tryd.f63 32050 32051 (by kernel_rfl) ?_
      refine R_sq Tryd.f63 64100 64101 (by kernel_rfl) ?_
      obtain ⟨v8, h9, hm⟩ := bind_s hm
      refine R_rn Tryd.f63 64100 9 [(2, dex (cen [] [] 1 0 (section_Check_x v8) (section_Check_o v8) [20] []))] [] 1 ⟨[(3, vi x4), (5, vp 0 0), (6, vi v8), (13, vc (tl e_Slice default a1)), (14, vi ((a1.length : Nat) : Int)), (15, vi x5)], [(0, bx 54 [ci ((a1.getD x5.toNat default).Len), ci (((a1.getD x5.toNat default).Sec).Low), tl e_Span default (((a1.getD x5.toNat default).Sec).Rows)])]⟩ (o1 (callS (K := (kx E 45 0)) ⟨[(20, va [ci (((a1.getD x5.toNat default).Sec).Low), tl e_Span default (((a1.getD x5.toNat default).Sec).Rows)])], []⟩ (opAt (rg Tryd.f63 64100) 2) [] [] 1 o0 rfl (section_Check_ok ((a1.getD x5.toNat default).Sec) v8 h9) (.inl rfl) (by kernel_rfl))) (by kernel_rfl) (by kernel_rfl) ?_
      refine R_sq Tryd.f63 128202 128203 (by kernel_rfl) ?_
      refine R_rn Tryd.f63 128202 10 [] [] 1 ⟨[(3, vi x4), (5, vp 0 0), (6, vi v8), (13, vc (tl e_Slice default a1)), (14, vi ((a1.length : Nat) : Int)), (15, vi x5), (23, vb (v8 != 0))], [(0, bx 54 [ci ((a1.getD x5.toNat default).Len), ci (((a1.getD x5.toNat default).Sec).Low), tl e_Span default (((a1.getD x5.toNat default).Sec).Rows)])]⟩ o0 (by kernel_rfl) (by kernel_rfl) ?_
      refine R_cn Tryd.f63 (.tmp 23) 256406 256407 (by kernel_rfl) (v8 != 0) (by kernel_rfl) (fun b10 => ?_) (fun b10 => ?_)
      · replace hm := bif_t b10 hm
        refine R_sq Tryd.f63 512812 512813 (by kernel_rfl) ?_
        refine R_rn Tryd.f63 512812 11 [] [] 1 ⟨[(2, vi v8)], []⟩ o0 (by kernel_rfl) (by kernel_rfl) ?_
        obtain rfl := Option.some.inj hm
        refine R_ret (by kernel_rfl) ?_
        refine L1_ret v8 ?_
        exact ret_mk (by kernel_rfl) (by kernel_rfl)
      · replace hm := bif_f b10 hm
        refine R_skip (by kernel_rfl) ?_
        refine R_sq Tryd.f63 64102 64103 (by kernel_rfl) ?_
        refine R_sq Tryd.f63 128204 128205 (by kernel_rfl) ?_
        refine R_rn Tryd.f63 128204 12 [] [] 1 ⟨[(3, vi x4), (5, vp 0 0), (13, vc (tl e_Slice default a1)), (14, vi ((a1.length : Nat) : Int)), (15, vi x5), (29, vb ((((((a1.getD x5.toNat default).Sec).Rows).length : Nat) : Int) == 0))], [(0, bx 54 [ci ((a1.getD x5.toNat default).Len), ci (((a1.getD x5.toNat default).Sec).Low), tl e_Span default (((a1.getD x5.toNat default).Sec).Rows)])]⟩ o0 (by kernel_rfl) (by kernel_rfl) ?_
        refine R_cn Tryd.f63 (.tmp 29) 256410 256411 (by kernel_rfl) ((((((a1.getD x5.toNat default).Sec).Rows).length : Nat) : Int) == 0) (by kernel_rfl) (fun b11 => ?_) (fun b11 => ?_)
        · replace hm := bif_t b11 hm
          refine R_sq Tryd.f63 512820 512821 (by kernel_rfl) ?_
          refine R_rn Tryd.f63 512820 13 [] [] 1 ⟨[(2, vi 18)], []⟩ o0 (by kernel_rfl) (by kernel_rfl) ?_
          obtain rfl := Option.some.inj hm
          refine R_ret (by kernel_rfl) ?_
          refine L1_ret 18 ?_
          exact ret_mk (by kernel_rfl) (by kernel_rfl)
        · replace hm := bif_f b11 hm
          refine R_skip (by kernel_rfl) ?_
          refine R_sq Tryd.f63 128206 128207 (by kernel_rfl) ?_
          refine R_join (ι := Bool) (nd Tryd.f63 256412) (nd Tryd.f63 256413) (by kernel_rfl) (fun p => solid_Check_k2_S a1 x4 x5 p) (fun p => solid_Check_k2 a1 x4 x5 (solid_Check_L1 a1 n) p = some res) ?_ ?_
          · rintro x13 hm
            show H _ (solid_Check_k2_S a1 x4 x5 x13) (nd Tryd.f63 256413) _
            refine R_cn Tryd.f63 (.tmp 39) 512826 512827 (by kernel_rfl) x13 (by kernel_rfl) (fun b14 => ?_) (fun b14 => ?_)
            · replace hm := bif_t b14 hm
              refine R_sq Tryd.f63 1025652 1025653 (by kernel_rfl) ?_
              refine R_rn Tryd.f63 1025652 15 [] [] 1 ⟨[(2, vi 9)], []⟩ o0 (by kernel_rfl) (by kernel_rfl) ?_
              obtain rfl := Option.some.inj hm
              refine R_ret (by kernel_rfl) ?_
              refine L1_ret 9 ?_
              exact ret_mk (by kernel_rfl) (by kernel_rfl)
            · replace hm := bif_f b14 hm
              refine R_skip (by kernel_rfl) ?_
              refine R_rn Tryd.f63 128207 16 [] [] 1 ⟨[(3, vi (w64 (x4 + ((a1.getD x5.toNat default).Len)))), (13, vc (tl e_Slice default a1)), (14, vi ((a1.length : Nat) : Int)), (15, vi x5)], []⟩ o0 (by kernel_rfl) (by kernel_rfl) ?_
              refine R_rn Tryd.f63 4007 17 [] [] 1 ⟨[(3, vi (w64 (x4 + ((a1.getD x5.toNat default).Len)))), (13, vc (tl e_Slice default a1)), (14, vi ((a1.length : Nat) : Int)), (15, vi (w64 (x5 + 1)))], []⟩ o0 (by kernel_rfl) (by kernel_rfl) ?_
              exact HL_enter (solid_Check_L1_S a1 (w64 (x4 + ((a1.getD x5.toNat default).Len))) (w64 (x5 + 1))) (by kernel_rfl) (by kernel_rfl) (ih (w64 (x4 + ((a1.getD x5.toNat default).Len))) (w64 (x5 + 1)) _ hm)
          · rcases Bool.eq_false_or_eq_true (decide (((a1.getD x5.toNat default).Len) < 1)) with b12 | b12
            · replace hm := bif_t b12 hm
              refine R_rn Tryd.f63 256412 14 [(3, dfx true)] [] 1 ⟨[(3, vi x4), (5, vp 0 0), (13, vc (tl e_Slice default a1)), (14, vi ((a1.length : Nat) : Int)), (15, vi x5), (39, vb true)], [(0, bx 54 [ci ((a1.getD x5.toNat default).Len), ci (((a1.getD x5.toNat default).Sec).Low), tl e_Span default (((a1.getD x5.toNat default).Sec).Rows)])]⟩ (o1 b12) (by kernel_rfl) (by kernel_rfl) ?_
              exact J_mk (true) hm (by kernel_rfl) (by kernel_rfl)
            · replace hm := bif_f b12 hm
              refine R_rn Tryd.f63 256412 14 [(3, dfx false)] [] 1 ⟨[(3, vi x4), (5, vp 0 0), (13, vc (tl e_Slice default a1)), (14, vi ((a1.length : Nat) : Int)), (15, vi x5), (34, vp 0 0), (35, vi ((a1.getD x5.toNat default).Len)), (36, vi x4), (37, vi (w64 (20000 - x4))), (38, vb (decide (((a1.getD x5.toNat default).Len) > (w64 (20000 - x4))))), (39, vb (decide (((a1.getD x5.toNat default).Len) > (w64 (20000 - x4)))))], [(0, bx 54 [ci ((a1.getD x5.toNat default).Len), ci (((a1.getD x5.toNat default).Sec).Low), tl e_Span default (((a1.getD x5.toNat default).Sec).Rows)])]⟩ (o1 b12) (by kernel_rfl) (by kernel_rfl) ?_
              exact J_mk (decide (((a1.getD x5.toNat default).Len) > (w64 (20000 - x4)))) hm (by kernel_rfl) (by kernel_rfl)
    · replace hm := bif_f b6 hm
      refine R_exit 0 (by kernel_rfl) ?_
      obtain rfl := Option.some.inj hm
      exact L1_mk () (by kernel_rfl) (by kernel_rfl)

set_option maxRecDepth 100000 in
theorem solid_Check_ok (a1 : List Slice) (r : Int) (hm : solid_Check a1 = some r) : CtX Tryd.prog globs 63 0 0 [.one (tl e_Slice default a1)] [] (solid_Check_x r) (solid_Check_o r) := by
  unfold solid_Check at hm
  refine CtX_of_E (fn := Tryd.f63) (c := nd Tryd.f63 1) (nt := 45) (by kernel_rfl) (by kernel_rfl) (by kernel_rfl) (by kernel_rfl) fun E => ?_
  refine R_sq Tryd.f63 2 3 (by kernel_rfl) ?_
  refine R_rn Tryd.f63 2 0 [] [] 0 ⟨[(0, vc (tl e_Slice default a1))], []⟩ o0 (by kernel_rfl) (by kernel_rfl) ?_
  refine R_sq Tryd.f63 6 7 (by kernel_rfl) ?_
  refine R_sq Tryd.f63 12 13 (by kernel_rfl) ?_
  refine R_rn Tryd.f63 12 1 [] [] 0 ⟨[(0, vc (tl e_Slice default a1)), (9, vb (((a1.length : Nat) : Int) == 0))], []⟩ o0 (by kernel_rfl) (by kernel_rfl) ?_
  refine R_cn Tryd.f63 (.tmp 9) 26 27 (by kernel_rfl) (((a1.length : Nat) : Int) == 0) (by kernel_rfl) (fun b2 => ?_) (fun b2 => ?_)
  · replace hm := bif_t b2 hm
    refine R_sq Tryd.f63 52 53 (by kernel_rfl) ?_
    refine R_rn Tryd.f63 52 2 [] [] 0 ⟨[(2, vi 3)], []⟩ o0 (by kernel_rfl) (by kernel_rfl) ?_
    obtain rfl := Option.some.inj hm
    refine R_ret (by kernel_rfl) ?_
    exact ret_mk (by kernel_rfl) (by kernel_rfl)
  · replace hm := bif_f b2 hm
    refine R_skip (by kernel_rfl) ?_
    refine R_sq Tryd.f63 14 15 (by kernel_rfl) ?_
    refine R_sq Tryd.f63 28 29 (by kernel_rfl) ?_
    refine R_rn Tryd.f63 28 3 [] [] 0 ⟨[(0, vc (tl e_Slice default a1)), (12, vb (decide (((a1.length : Nat) : Int) > 24)))], []⟩ o0 (by kernel_rfl) (by kernel_rfl) ?_
    refine R_cn Tryd.f63 (.tmp 12) 58 59 (by kernel_rfl) (decide (((a1.length : Nat) : Int) > 24)) (by kernel_rfl) (fun b3 => ?_) (fun b3 => ?_)
    · replace hm := bif_t b3 hm
      refine R_sq Tryd.f63 116 117 (by kernel_rfl) ?_
      refine R_rn Tryd.f63 116 4 [] [] 0 ⟨[(2, vi 4)], []⟩ o0 (by kernel_rfl) (by kernel_rfl) ?_
      obtain rfl := Option.some.inj hm
      refine R_ret (by kernel_rfl) ?_
      exact ret_mk (by kernel_rfl) (by kernel_rfl)
    · replace hm := bif_f b3 hm
      refine R_skip (by kernel_rfl) ?_
      refine R_sq Tryd.f63 30 31 (by kernel_rfl) ?_
      refine R_rn Tryd.f63 30 5 [] [] 0 ⟨[(0, vc (tl e_Slice default a1)), (3, vi 0)], []⟩ o0 (by kernel_rfl) (by kernel_rfl) ?_
      refine R_sq Tryd.f63 62 63 (by kernel_rfl) ?_
      refine R_sq Tryd.f63 124 125 (by kernel_rfl) ?_
      refine R_rn Tryd.f63 124 6 [] [] 0 ⟨[(3, vi 0), (13, vc (tl e_Slice default a1)), (14, vi ((a1.length : Nat) : Int)), (15, vi 0)], []⟩ o0 (by kernel_rfl) (by kernel_rfl) ?_
      obtain ⟨u17, h16, hm⟩ := bind_s hm
      refine R_loop1 (nd Tryd.f63 500) 0 (by kernel_rfl) FUEL (fun o => solid_Check_L1_T) (fun v st => RetQ Tryd.prog Tryd.f63 (solid_Check_x v) (solid_Check_o v) .ret st) u17 (HL_enter (solid_Check_L1_S a1 0 0) (by kernel_rfl) (by kernel_rfl) (solid_Check_L1_ok E a1 FUEL 0 0 u17 h16)) ?_ ?_
      · rintro v18 rfl st hr
        obtain rfl := Option.some.inj hm
        exact hr
      · rintro o15 rfl
        replace hm : _ = some r := hm
        refine R_sq Tryd.f63 126 127 (by kernel_rfl) ?_
        refine R_rn Tryd.f63 126 18 [] [] 0 ⟨[(2, vi 0)], []⟩ o0 (by kernel_rfl) (by kernel_rfl) ?_
        obtain rfl := Option.some.inj hm
        refine R_ret (by kernel_rfl) ?_
        exact ret_mk (by kernel_rfl) (by kernel_rfl)

end Saw
end Go.SL

namespace Go.SL
namespace Saw
open Go.Proofs
set_option maxHeartbeats 4000000

def solid_valid_x (r : (List Slice)) : V := vc (tl e_Slice default r)

def solid_valid_o (r : (List Slice)) : List (Nat × (Nat × O)) := []

set_option maxRecDepth 100000 in
theorem solid_valid_ok (a1 : List Slice) (r : (List Slice)) (hm : solid_valid a1 = some r) : CtX Tryd.prog globs 33 0 0 [.one (tl e_Slice default a1)] [] (solid_valid_x r) (solid_valid_o r) := by
  unfold solid_valid at hm
  refine CtX_of_E (fn := Tryd.f33) (c := nd Tryd.f33 1) (nt := 7) (by kernel_rfl) (by kernel_rfl) (by kernel_rfl) (by kernel_rfl) fun E => ?_
  refine R_sq Tryd.f33 2 3 (by kernel_rfl) ?_
  refine R_rn Tryd.f33 2 0 [] [] 0 ⟨[(0, vc (tl e_Slice default a1))], []⟩ o0 (by kernel_rfl) (by kernel_rfl) ?_
  refine R_sq Tryd.f33 6 7 (by kernel_rfl) ?_
  refine R_sq Tryd.f33 12 13 (by kernel_rfl) ?_
  obtain ⟨v2, h3, hm⟩ := bind_s hm
  refine R_rn Tryd.f33 12 1 [(1, dex (cen [] [] 0 0 (solid_Check_x v2) (solid_Check_o v2) [3] []))] [] 0 ⟨[(0, vc (tl e_Slice default a1)), (5, vb (v2 != 0))], []⟩ (o1 (callS (K := (kx E 7 0)) ⟨[(3, vc (tl e_Slice default a1))], []⟩ (opAt (rg Tryd.f33 12) 1) [] [] 0 o0 rfl (solid_Check_ok a1 v2 h3) (.inl rfl) (by kernel_rfl))) (by kernel_rfl) (by kernel_rfl) ?_
  refine R_cn Tryd.f33 (.tmp 5) 26 27 (by kernel_rfl) (v2 != 0) (by kernel_rfl) (fun b4 => ?_) (fun b4 => ?_)
  · replace hm := bif_t b4 hm
    refine R_sq Tryd.f33 52 53 (by kernel_rfl) ?_
    refine R_rn Tryd.f33 52 2 [] [] 0 ⟨[(2, vc (.emp))], []⟩ o0 (by kernel_rfl) (by kernel_rfl) ?_
    refine H_fin [.own 2 0 54 3 (rf e_Slice ([] : List Slice))] ⟨[(2, vo 0 0 3 0)], [(0, ro 0 54 3 0 (rf e_Slice ([] : List Slice)))]⟩ o0 (by kernel_rfl) ?_
    refine H_fin [.len 0 (([] : List Slice).length), .frz 0] ⟨[(2, vc (tl e_Slice default ([] : List Slice)))], []⟩ (o1 (And.intro (And.intro (show 0 = ([] : List Slice).length from rfl) (show 0 = ([] : List Slice).length from rfl)) (Nat.le_refl (([] : List Slice).length)))) (by kernel_rfl) ?_
    obtain rfl := Option.some.inj hm
    refine R_ret (by kernel_rfl) ?_
    exact ret_mk (by kernel_rfl) (by kernel_rfl)
  · replace hm := bif_f b4 hm
    refine R_skip (by kernel_rfl) ?_
    refine R_sq Tryd.f33 14 15 (by kernel_rfl) ?_
    refine R_rn Tryd.f33 14 3 [] [] 0 ⟨[(2, vc (tl e_Slice default a1))], []⟩ o0 (by kernel_rfl) (by kernel_rfl) ?_
    obtain rfl := Option.some.inj hm
    refine R_ret (by kernel_rfl) ?_
    exact ret_mk (by kernel_rfl) (by kernel_rfl)

end Saw
end Go.SL

namespace Go.SL
namespace Saw
open Go.Proofs
set_option maxHeartbeats 4000000

def solid_Length_x (r : Int) : V := vi r

def solid_Length_o (r : Int) : List (Nat × (Nat × O)) := []

theorem solid_Length_f (r : Int) : Frozen (solid_Length_o r) := by
  intro i k o h
  unfold solid_Length_o at h
  cases h

def solid_Length_L1_S (v2 : (List Slice)) (x4 : Int) (x5 : Int) : St :=
  ⟨[(3, vi x4), (7, vc (tl e_Slice default v2)), (8, vi ((v2.length : Nat) : Int)), (9, vi x5)], []⟩

def solid_Length_L1_T (x8 : Int) : St :=
  ⟨[(3, vi x8)], []⟩

set_option maxRecDepth 100000 in
theorem solid_Length_L1_ok (E : Env 0) (v2 : (List Slice)) : ∀ (n : Nat) (x4 : Int) (x5 : Int) (res : Int), solid_Length_L1 v2 n x4 x5 = some res → HL (kx E 19 0) (nd Tryd.f18 116) (loopQ0 0 (fun o => solid_Length_L1_T o) res) n (solid_Length_L1_S v2 x4 x5) := by
  intro n
  induction n with
  | zero =>
    intro x4 x5 res hm
    cases hm
  | succ n ih =>
    intro x4 x5 res hm
    refine HL_succ ?_
    refine R_sq Tryd.f18 232 233 (by kernel_rfl) ?_
    refine R_rn Tryd.f18 232 3 [] [] 0 ⟨[(3, vi x4), (7, vc (tl e_Slice default v2)), (8, vi ((v2.length : Nat) : Int)), (9, vi x5), (10, vb (decide (x5 < ((v2.length : Nat) : Int))))], []⟩ o0 (by kernel_rfl) (by kernel_rfl) ?_
    refine R_sq Tryd.f18 466 467 (by kernel_rfl) ?_
    refine R_cn Tryd.f18 (.tmp 10) 932 933 (by kernel_rfl) (decide (x5 < ((v2.length : Nat) : Int))) (by kernel_rfl) (fun b6 => ?_) (fun b6 => ?_)
    · replace hm := bif_t b6 hm
      refine R_skip (by kernel_rfl) ?_
      refine R_sq Tryd.f18 934 935 (by kernel_rfl) ?_
      refine R_bk Tryd.f18 1 1868 (by kernel_rfl) ?_
      refine R_sq Tryd.f18 3736 3737 (by kernel_rfl) ?_
      obtain ⟨g7, hm⟩ := bif_n hm
      refine R_rn Tryd.f18 3736 4 [] [] 0 ⟨[(3, vi x4), (5, vp 0 0), (7, vc (tl e_Slice default v2)), (8, vi ((v2.length : Nat) : Int)), (9, vi x5)], [(0, bx 54 [ci ((v2.getD x5.toNat default).Len), ci (((v2.getD x5.toNat default).Sec).Low), tl e_Span default (((v2.getD x5.toNat default).Sec).Rows)])]⟩ (o1 (inb_of g7)) (by kernel_rfl) (by kernel_rfl) ?_
      refine R_rn Tryd.f18 3737 5 [] [] 1 ⟨[(3, vi (w64 (x4 + ((v2.getD x5.toNat default).Len)))), (7, vc (tl e_Slice default v2)), (8, vi ((v2.length : Nat) : Int)), (9, vi x5)], []⟩ o0 (by kernel_rfl) (by kernel_rfl) ?_
      refine R_rn Tryd.f18 935 6 [] [] 1 ⟨[(3, vi (w64 (x4 + ((v2.getD x5.toNat default).Len)))), (7, vc (tl e_Slice default v2)), (8, vi ((v2.length : Nat) : Int)), (9, vi (w64 (x5 + 1)))], []⟩ o0 (by kernel_rfl) (by kernel_rfl) ?_
      exact HL_enter (solid_Length_L1_S v2 (w64 (x4 + ((v2.getD x5.toNat default).Len))) (w64 (x5 + 1))) (by kernel_rfl) (by kernel_rfl) (ih (w64 (x4 + ((v2.getD x5.toNat default).Len))) (w64 (x5 + 1)) _ hm)
    · replace hm := bif_f b6 hm
      refine R_exit 0 (by kernel_rfl) ?_
      obtain rfl := Option.some.inj hm
      exact L0_mk (by kernel_rfl) (by kernel_rfl)

set_option maxRecDepth 100000 in
theorem solid_Length_ok (a1 : List Slice) (r : Int) (hm : solid_Length a1 = some r) : CtX Tryd.prog globs 18 0 0 [.one (tl e_Slice default a1)] [] (solid_Length_x r) (solid_Length_o r) := by
  unfold solid_Length at hm
  refine CtX_of_E (fn := Tryd.f18) (c := nd Tryd.f18 1) (nt := 19) (by kernel_rfl) (by kernel_rfl) (by kernel_rfl) (by kernel_rfl) fun E => ?_
  refine R_sq Tryd.f18 2 3 (by kernel_rfl) ?_
  refine R_rn Tryd.f18 2 0 [] [] 0 ⟨[(0, vc (tl e_Slice default a1))], []⟩ o0 (by kernel_rfl) (by kernel_rfl) ?_
  refine R_sq Tryd.f18 6 7 (by kernel_rfl) ?_
  refine R_rn Tryd.f18 6 1 [] [] 0 ⟨[(0, vc (tl e_Slice default a1)), (3, vi 0)], []⟩ o0 (by kernel_rfl) (by kernel_rfl) ?_
  refine R_sq Tryd.f18 14 15 (by kernel_rfl) ?_
  refine R_sq Tryd.f18 28 29 (by kernel_rfl) ?_
  obtain ⟨v2, h3, hm⟩ := bind_s hm
  refine R_rn Tryd.f18 28 2 [(1, dex (cen [] [] 0 0 (solid_valid_x v2) (solid_valid_o v2) [6] []))] [] 0 ⟨[(3, vi 0), (7, vc (tl e_Slice default v2)), (8, vi ((v2.length : Nat) : Int)), (9, vi 0)], []⟩ (o1 (callS (K := (kx E 19 0)) ⟨[(6, vc (tl e_Slice default a1))], []⟩ (opAt (rg Tryd.f18 28) 1) [] [] 0 o0 rfl (solid_valid_ok a1 v2 h3) (.inl rfl) (by kernel_rfl))) (by kernel_rfl) (by kernel_rfl) ?_
  obtain ⟨o9, h10, hm⟩ := bind_s hm
  refine R_loop0 (nd Tryd.f18 116) 0 (by kernel_rfl) FUEL (fun o => solid_Length_L1_T o) o9 (HL_enter (solid_Length_L1_S v2 0 0) (by kernel_rfl) (by kernel_rfl) (solid_Length_L1_ok E v2 FUEL 0 0 o9 h10)) ?_
  refine R_sq Tryd.f18 30 31 (by kernel_rfl) ?_
  refine R_rn Tryd.f18 30 7 [] [] 0 ⟨[(2, vi o9)], []⟩ o0 (by kernel_rfl) (by kernel_rfl) ?_
  obtain rfl := Option.some.inj hm
  refine R_ret (by kernel_rfl) ?_
  exact ret_mk (by kernel_rfl) (by kernel_rfl)

end Saw
end Go.SL

namespace Go.SL
namespace Saw
open Go.Proofs
set_option maxHeartbeats 4000000

def section_heights_x (r : Span) : V := va [ci r.A, ci r.B]

def section_heights_o (r : Span) : List (Nat × (Nat × O)) := []

theorem section_heights_f (r : Span) : Frozen (section_heights_o r) := by
  intro i k o h
  unfold section_heights_o at h
  cases h

set_option maxRecDepth 100000 in
theorem section_heights_ok (a1 : Int) (a2 : Int) (r : Span) (hm : section_heights a1 a2 = some r) : CtX Tryd.prog globs 66 0 0 [.one (ci a1), .one (ci a2)] [] (section_heights_x r) (section_heights_o r) := by
  unfold section_heights at hm
  refine CtX_of_E (fn := Tryd.f66) (c := nd Tryd.f66 1) (nt := 10) (by kernel_rfl) (by kernel_rfl) (by kernel_rfl) (by kernel_rfl) fun E => ?_
  refine R_sq Tryd.f66 2 3 (by kernel_rfl) ?_
  refine R_rn Tryd.f66 2 0 [] [] 0 ⟨[(0, vi a1), (1, vi a2), (4, vp 0 0)], [(0, bx 33 [ci 0, ci 0])]⟩ o0 (by kernel_rfl) (by kernel_rfl) ?_
  refine R_sq Tryd.f66 6 7 (by kernel_rfl) ?_
  refine R_rn Tryd.f66 6 1 [] [] 1 ⟨[(4, vp 0 0)], [(0, bx 33 [ci (w64 (10 * a1)), ci (w64 (10 * a2))])]⟩ o0 (by kernel_rfl) (by kernel_rfl) ?_
  obtain rfl := Option.some.inj hm
  refine R_ret (by kernel_rfl) ?_
  exact ret_mk (by kernel_rfl) (by kernel_rfl)

end Saw
end Go.SL

namespace Go.SL
namespace Saw
open Go.Proofs
set_option maxHeartbeats 4000000

def span_size_x (r : Int) : V := vc (.val (.int .u64 r))

def span_size_o (r : Int) : List (Nat × (Nat × O)) := []

theorem span_size_f (r : Int) : Frozen (span_size_o r) := by
  intro i k o h
  unfold span_size_o at h
  cases h

set_option maxRecDepth 100000 in
theorem span_size_ok (a1 : Span) (r : Int) (hm : span_size a1 = some r) : CtX Tryd.prog globs 65 0 0 [.agg [ci a1.A, ci a1.B]] [] (span_size_x r) (span_size_o r) := by
  unfold span_size at hm
  refine CtX_of_E (fn := Tryd.f65) (c := nd Tryd.f65 1) (nt := 15) (by kernel_rfl) (by kernel_rfl) (by kernel_rfl) (by kernel_rfl) fun E => ?_
  refine R_sq Tryd.f65 2 3 (by kernel_rfl) ?_
  refine R_rn Tryd.f65 2 0 [] [] 0 ⟨[(1, vp 0 0)], [(0, bx 33 [ci a1.A, ci a1.B])]⟩ o0 (by kernel_rfl) (by kernel_rfl) ?_
  refine R_sq Tryd.f65 6 7 (by kernel_rfl) ?_
  refine R_sq Tryd.f65 12 13 (by kernel_rfl) ?_
  refine R_rn Tryd.f65 12 1 [] [] 1 ⟨[(1, vp 0 0), (7, vb (decide (a1.A ≥ a1.B)))], [(0, bx 33 [ci a1.A, ci a1.B])]⟩ o0 (by kernel_rfl) (by kernel_rfl) ?_
  refine R_cn Tryd.f65 (.tmp 7) 26 27 (by kernel_rfl) (decide (a1.A ≥ a1.B)) (by kernel_rfl) (fun b2 => ?_) (fun b2 => ?_)
  · replace hm := bif_t b2 hm
    refine R_sq Tryd.f65 52 53 (by kernel_rfl) ?_
    refine R_rn Tryd.f65 52 2 [] [] 1 ⟨[(2, vc (.val (.int .u64 0)))], []⟩ o0 (by kernel_rfl) (by kernel_rfl) ?_
    obtain rfl := Option.some.inj hm
    refine R_ret (by kernel_rfl) ?_
    exact ret_mk (by kernel_rfl) (by kernel_rfl)
  · replace hm := bif_f b2 hm
    refine R_skip (by kernel_rfl) ?_
    refine R_sq Tryd.f65 14 15 (by kernel_rfl) ?_
    refine R_rn Tryd.f65 14 3 [] [] 1 ⟨[(2, vc (.val (.int .u64 (IntKind.u64.wrap ((IntKind.u64.wrap (a1.B)) - (IntKind.u64.wrap (a1.A)))))))], []⟩ o0 (by kernel_rfl) (by kernel_rfl) ?_
    obtain rfl := Option.some.inj hm
    refine R_ret (by kernel_rfl) ?_
    exact ret_mk (by kernel_rfl) (by kernel_rfl)

end Saw
end Go.SL

namespace Go.SL
namespace Saw
open Go.Proofs
set_option maxHeartbeats 4000000

def span_limited_x (r : Int) : V := vi r

def span_limited_o (r : Int) : List (Nat × (Nat × O)) := []

theorem span_limited_f (r : Int) : Frozen (span_limited_o r) := by
  intro i k o h
  unfold span_limited_o at h
  cases h

set_option maxRecDepth 100000 in
theorem span_limited_ok (a1 : Int) (r : Int) (hm : span_limited a1 = some r) : CtX Tryd.prog globs 64 0 0 [.one (.val (.int .u64 a1))] [] (span_limited_x r) (span_limited_o r) := by
  unfold span_limited at hm
  refine CtX_of_E (fn := Tryd.f64) (c := nd Tryd.f64 1) (nt := 6) (by kernel_rfl) (by kernel_rfl) (by kernel_rfl) (by kernel_rfl) fun E => ?_
  refine R_sq Tryd.f64 2 3 (by kernel_rfl) ?_
  refine R_rn Tryd.f64 2 0 [] [] 0 ⟨[(0, vc (.val (.int .u64 a1)))], []⟩ o0 (by kernel_rfl) (by kernel_rfl) ?_
  refine R_sq Tryd.f64 6 7 (by kernel_rfl) ?_
  refine R_rn Tryd.f64 6 1 [] [] 0 ⟨[(2, vi (w64 (imin a1 9223372036854775807)))], []⟩ o0 (by kernel_rfl) (by kernel_rfl) ?_
  obtain rfl := Option.some.inj hm
  refine R_ret (by kernel_rfl) ?_
  exact ret_mk (by kernel_rfl) (by kernel_rfl)

end Saw
end Go.SL

namespace Go.SL
namespace Saw
open Go.Proofs
set_option maxHeartbeats 4000000

def span_Len_x (r : Int) : V := vi r

def span_Len_o (r : Int) : List (Nat × (Nat × O)) := []

theorem span_Len_f (r : Int) : Frozen (span_Len_o r) := by
  intro i k o h
  unfold span_Len_o at h
  cases h

set_option maxRecDepth 100000 in
theorem span_Len_ok (a1 : Span) (r : Int) (hm : span_Len a1 = some r) : CtX Tryd.prog globs 35 0 0 [.agg [ci a1.A, ci a1.B]] [] (span_Len_x r) (span_Len_o r) := by
  unfold span_Len at hm
  refine CtX_of_E (fn := Tryd.f35) (c := nd Tryd.f35 1) (nt := 6) (by kernel_rfl) (by kernel_rfl) (by kernel_rfl) (by kernel_rfl) fun E => ?_
  refine R_sq Tryd.f35 2 3 (by kernel_rfl) ?_
  refine R_rn Tryd.f35 2 0 [] [] 0 ⟨[(1, vp 0 0)], [(0, bx 33 [ci a1.A, ci a1.B])]⟩ o0 (by kernel_rfl) (by kernel_rfl) ?_
  refine R_sq Tryd.f35 6 7 (by kernel_rfl) ?_
  obtain ⟨v2, h3, hm⟩ := bind_s hm
  obtain ⟨v4, h5, hm⟩ := bind_s hm
  refine R_rn Tryd.f35 6 1 [(1, dex (cen [] [] 1 0 (span_size_x v2) (span_size_o v2) [3] [])), (2, dex (cen [] [] 1 0 (span_limited_x v4) (span_limited_o v4) [4] []))] [] 1 ⟨[(2, vi v4)], []⟩ (o1 (And.intro (callS (K := (kx E 6 0)) ⟨[(3, va [ci a1.A, ci a1.B])], []⟩ (opAt (rg Tryd.f35 6) 1) [] [] 1 o0 rfl (span_size_ok a1 v2 h3) (.inl rfl) (by kernel_rfl)) (callS (K := (kx E 6 0)) ⟨[(4, vc (.val (.int .u64 v2)))], []⟩ (opAt (rg Tryd.f35 6) 2) [] [] 1 o0 rfl (span_limited_ok v2 v4 h5) (.inl rfl) (by kernel_rfl)))) (by kernel_rfl) (by kernel_rfl) ?_
  obtain rfl := Option.some.inj hm
  refine R_ret (by kernel_rfl) ?_
  exact ret_mk (by kernel_rfl) (by kernel_rfl)

end Saw
end Go.SL

namespace Go.SL
namespace Saw
open Go.Proofs
set_option maxHeartbeats 4000000

def section_valid_x (r : Section) : V := va [ci r.Low, tl e_Span default r.Rows]

def section_valid_o (r : Section) : List (Nat × (Nat × O)) := []

set_option maxRecDepth 100000 in
theorem section_valid_ok (a1 : Section) (r : Section) (hm : section_valid a1 = some r) : CtX Tryd.prog globs 29 0 0 [.agg [ci a1.Low, tl e_Span default a1.Rows]] [] (section_valid_x r) (section_valid_o r) := by
  unfold section_valid at hm
  refine CtX_of_E (fn := Tryd.f29) (c := nd Tryd.f29 1) (nt := 8) (by kernel_rfl) (by kernel_rfl) (by kernel_rfl) (by kernel_rfl) fun E => ?_
  refine R_sq Tryd.f29 2 3 (by kernel_rfl) ?_
  refine R_rn Tryd.f29 2 0 [] [] 0 ⟨[(1, vp 0 0), (2, vp 1 0)], [(0, bx 52 [ci a1.Low, tl e_Span default a1.Rows]), (1, bx 52 [ci 0, .emp])]⟩ o0 (by kernel_rfl) (by kernel_rfl) ?_
  refine R_sq Tryd.f29 6 7 (by kernel_rfl) ?_
  refine R_sq Tryd.f29 12 13 (by kernel_rfl) ?_
  obtain ⟨v2, h3, hm⟩ := bind_s hm
  refine R_rn Tryd.f29 12 1 [(1, dex (cen [] [] 2 0 (section_Check_x v2) (section_Check_o v2) [3] []))] [] 2 ⟨[(1, vp 0 0), (2, vp 1 0), (5, vb (v2 != 0))], [(0, bx 52 [ci a1.Low, tl e_Span default a1.Rows]), (1, bx 52 [ci 0, .emp])]⟩ (o1 (callS (K := (kx E 8 0)) ⟨[(3, va [ci a1.Low, tl e_Span default a1.Rows])], []⟩ (opAt (rg Tryd.f29 12) 1) [] [] 2 o0 rfl (section_Check_ok a1 v2 h3) (.inl rfl) (by kernel_rfl))) (by kernel_rfl) (by kernel_rfl) ?_
  refine R_cn Tryd.f29 (.tmp 5) 26 27 (by kernel_rfl) (v2 != 0) (by kernel_rfl) (fun b4 => ?_) (fun b4 => ?_)
  · replace hm := bif_t b4 hm
    refine R_sq Tryd.f29 52 53 (by kernel_rfl) ?_
    refine R_rn Tryd.f29 52 2 [] [] 2 ⟨[(2, vp 1 0)], [(1, bx 52 [ci 0, .emp])]⟩ o0 (by kernel_rfl) (by kernel_rfl) ?_
    refine H_fin [.ownB 1 1 2 33 2 (rf e_Span ([] : List Span))] ⟨[(2, vp 1 0)], [(1, bx 52 [ci 0, .own 2 0 2 0]), (2, ro 0 33 2 0 (rf e_Span ([] : List Span)))]⟩ o0 (by kernel_rfl) ?_
    refine H_fin [.len 2 (([] : List Span).length), .frz 2] ⟨[(2, vp 1 0)], [(1, bx 52 [ci 0, tl e_Span default ([] : List Span)])]⟩ (o1 (And.intro (And.intro (show 0 = ([] : List Span).length from rfl) (show 0 = ([] : List Span).length from rfl)) (Nat.le_refl (([] : List Span).length)))) (by kernel_rfl) ?_
    obtain rfl := Option.some.inj hm
    refine R_ret (by kernel_rfl) ?_
    exact ret_mk (by kernel_rfl) (by kernel_rfl)
  · replace hm := bif_f b4 hm
    refine R_skip (by kernel_rfl) ?_
    refine R_sq Tryd.f29 14 15 (by kernel_rfl) ?_
    refine R_rn Tryd.f29 14 3 [] [] 2 ⟨[(2, vp 1 0)], [(1, bx 52 [ci a1.Low, tl e_Span default a1.Rows])]⟩ o0 (by kernel_rfl) (by kernel_rfl) ?_
    obtain rfl := Option.some.inj hm
    refine R_ret (by kernel_rfl) ?_
    exact ret_mk (by kernel_rfl) (by kernel_rfl)

end Saw
end Go.SL
