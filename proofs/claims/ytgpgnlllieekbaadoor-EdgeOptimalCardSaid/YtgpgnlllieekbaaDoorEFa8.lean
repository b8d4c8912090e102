import Derived.Test.YtgpgnlllieekbaaDoorEBase
import Derived.Test.YtgpgnlllieekbaaDoorEFa7
import Derived.Test.YtgpgnlllieekbaaDoorEFa5
set_option linter.unusedVariables false
set_option linter.unusedSimpArgs false
namespace Go.SL
namespace Saw
open Go.Proofs
set_option maxHeartbeats 4000000

def cutting_Cuts_x (r : (List Span) × (List Span) × Int) : V := .tup [.one (.own 0 0 2 r.1.length), .one (.own 1 0 2 r.2.1.length), .one (ci r.2.2)]

def cutting_Cuts_o (r : (List Span) × (List Span) × Int) : List (Nat × (Nat × O)) := [(0, ro 0 33 2 r.1.length (rf e_Span r.1)), (1, ro 0 33 2 r.2.1.length (rf e_Span r.2.1))]

theorem cutting_Cuts_f (r : (List Span) × (List Span) × Int) : Frozen (cutting_Cuts_o r) := by
 intro i k o h
 unfold cutting_Cuts_o at h
 rw [look_cons] at h
 split at h
 ·cases h; exact fun _ _ => rfl
 ·rw [look_cons] at h
  split at h
  ·cases h; exact fun _ _ => rfl
  ·cases h

def cutting_Cuts_k2_S (a1 : Line) (a2 : List Piece) (x9 : Int) (l20 : List Span) (l20n : Nat) (l21 : List Span) (l21n : Nat) : St :=
 ⟨[(2, vp 0 0), (4, vo 1 0 2 l20n), (5, vo 2 0 2 l21n), (10, vp 3 0), (18, vc (tl e_Piece default a2)), (19, vi ((a2.length : Nat) : Int)), (20, vi x9)], [(0, bx 64 (e_Line a1)), (1, ro 0 33 2 l20n (rf e_Span l20)), (2, ro 0 33 2 l21n (rf e_Span l21)), (3, bx 98 [ci ((a2.getD x9.toNat default).Size), ci ((a2.getD x9.toNat default).At)])]⟩

def cutting_Cuts_L1_S (a1 : Line) (a2 : List Piece) (l6 : List Span) (l6n : Nat) (l7 : List Span) (l7n : Nat) (x8 : Int) (x9 : Int) : St :=
 ⟨[(2, vp 0 0), (4, vo 1 0 2 l6n), (5, vo 2 0 2 l7n), (8, vi x8), (18, vc (tl e_Piece default a2)), (19, vi ((a2.length : Nat) : Int)), (20, vi x9)], [(0, bx 64 (e_Line a1)), (1, ro 0 33 2 l6n (rf e_Span l6)), (2, ro 0 33 2 l7n (rf e_Span l7))]⟩

def cutting_Cuts_L1_T (a1 : Line) (l27 : List Span) (l28 : List Span) (x29 : Int) : St :=
 ⟨[(2, vp 0 0), (4, vo 1 0 2 l27.length), (5, vo 2 0 2 l28.length), (8, vi x29)], [(0, bx 64 (e_Line a1)), (1, ro 0 33 2 l27.length (rf e_Span l27)), (2, ro 0 33 2 l28.length (rf e_Span l28))]⟩

def cutting_Cuts_k3_S (o30 : (List Span) × (List Span) × Int) (l37 : List Span) (l37n : Nat) : St :=
 ⟨[(4, vo 1 0 2 o30.1.length), (5, vo 2 0 2 l37n)], [(1, ro 0 33 2 o30.1.length (rf e_Span o30.1)), (2, ro 0 33 2 l37n (rf e_Span l37))]⟩

set_option maxRecDepth 100000 in
theorem cutting_Cuts_L1_ok (E : Env 0) (a1 : Line) (a2 : List Piece) : ∀ (n : Nat) (l6 : List Span) (l6n : Nat) (l7 : List Span) (l7n : Nat) (x8 : Int) (x9 : Int) (res : ((List Span) × (List Span) × Int) ⊕ ((List Span) × (List Span) × Int)), l6.length = l6n → l7.length = l7n → cutting_Cuts_L1 a1 a2 n l6 l7 x8 x9 = some res → HL (kx E 78 0) (nd Tryd.f38 244) (loopQ 0 (fun o => cutting_Cuts_L1_T a1 o.1 o.2.1 o.2.2) (fun v st => RetQ Tryd.prog Tryd.f38 (cutting_Cuts_x v) (cutting_Cuts_o v) .ret st) res) n (cutting_Cuts_L1_S a1 a2 l6 l6n l7 l7n x8 x9) := by
 intro n
 induction n with
 | zero =>
  intro l6 l6n l7 l7n x8 x9 res hl0 hl1 hm
  cases hm
 | succ n ih =>
  intro l6 l6n l7 l7n x8 x9 res hl0 hl1 hm
  subst hl0
  subst hl1
  refine HL_succ ?_
  refine q_sq ?_
  refine q_vu [] 3 [] [(21, vb (decide (x9 < ((a2.length : Nat) : Int))))] [] [] ?_
  refine q_sq ?_
  refine q_cn (decide (x9 < ((a2.length : Nat) : Int))) (fun b10 => ?_) (fun b10 => ?_)
  ·replace hm := bif_t b10 hm
   refine q_sk ?_
   refine q_sq ?_
   refine q_bk 1 ?_
   refine q_sq ?_
   obtain ⟨g11, hm⟩ := bif_n hm
   refine q_vu [qd 0 (Dir.none) (inb_of g11)] 3 [21] [(10, vp 3 0)] [] [(3, bx 98 [ci ((a2.getD x9.toNat default).Size), ci ((a2.getD x9.toNat default).At)])] ?_
   refine q_sq ?_
   refine q_sq ?_
   obtain ⟨v12, h13, hm⟩ := bind_s hm
   refine q_vu [qc 3 [24, 25, 26] 4 (cutting_permitted_ok a1 x8 (a2.getD x9.toNat default) v12 h13)] 4 [] [(11, vi v12)] [] [] ?_
   refine q_sq ?_
   refine q_vu [] 4 [] [(29, vb (v12 != 0))] [] [] ?_
   refine q_cn (v12 != 0) (fun b14 => ?_) (fun b14 => ?_)
   ·replace hm := bif_t b14 hm
    refine q_sq ?_
    refine q_vn [] 4 ⟨[(4, vc (.emp)), (5, vc (.emp)), (6, vi v12)], []⟩ ?_
    refine q_fn [.own 4 4 33 2 (rf e_Span ([] : List Span))] ⟨[(4, vo 4 0 2 0), (5, vc (.emp)), (6, vi v12)], [(4, ro 0 33 2 0 (rf e_Span ([] : List Span)))]⟩ o0 ?_
    refine q_fn [.own 5 5 33 2 (rf e_Span ([] : List Span))] ⟨[(4, vo 4 0 2 0), (5, vo 5 0 2 0), (6, vi v12)], [(4, ro 0 33 2 0 (rf e_Span ([] : List Span))), (5, ro 0 33 2 0 (rf e_Span ([] : List Span)))]⟩ o0 ?_
    refine q_fn [.len 4 (([] : List Span).length)] ⟨[(4, vo 4 0 2 (([] : List Span).length)), (5, vo 5 0 2 0), (6, vi v12)], [(4, ro 0 33 2 (([] : List Span).length) (rf e_Span ([] : List Span))), (5, ro 0 33 2 0 (rf e_Span ([] : List Span)))]⟩ (o1 (And.intro (show 0 = ([] : List Span).length from rfl) (show 0 = ([] : List Span).length from rfl))) ?_
    refine q_fn [.len 5 (([] : List Span).length)] ⟨[(4, vo 4 0 2 (([] : List Span).length)), (5, vo 5 0 2 (([] : List Span).length)), (6, vi v12)], [(4, ro 0 33 2 (([] : List Span).length) (rf e_Span ([] : List Span))), (5, ro 0 33 2 (([] : List Span).length) (rf e_Span ([] : List Span)))]⟩ (o1 (And.intro (show 0 = ([] : List Span).length from rfl) (show 0 = ([] : List Span).length from rfl))) ?_
    obtain rfl := Option.some.inj hm
    refine H_swap 4 0 (by kernel_rfl) ?_
    refine H_swap 5 1 (by kernel_rfl) ?_
    refine q_rt ?_
    refine L1_ret (([] : List Span), ([] : List Span), v12) ?_
    exact q_rm
   ·replace hm := bif_f b14 hm
    refine q_sk ?_
    refine q_jn (ι := (List Span) × Nat × (List Span) × Nat) (fun p => cutting_Cuts_k2_S a1 a2 x9 p.1 p.2.1 p.2.2.1 p.2.2.2) (fun p => p.1.length = p.2.1 ∧ p.2.2.1.length = p.2.2.2 ∧ cutting_Cuts_k2 a1 a2 x9 (cutting_Cuts_L1 a1 a2 n) p.1 p.2.2.1 = some res) ?_ ?_
    ·rintro ⟨l20, l20n, l21, l21n⟩ ⟨el20, el21, hm⟩
     replace el20 : l20.length = l20n := el20
     subst el20
     replace el21 : l21.length = l21n := el21
     subst el21
     show H _ (cutting_Cuts_k2_S a1 a2 x9 l20 l20.length l21 l21.length) _ _
     refine q_sq ?_
     obtain ⟨g22, hm⟩ := bif_n hm
     refine q_du [qd 6 (Dir.none) (inb_of g22)] [0, 1, 0, 4, 0, 16, 60, 124, 255, 511] 4 [10] [(12, vi (w64 (((a2.getD x9.toNat default).At) + (a1.Sizes.getD ((a2.getD x9.toNat default).Size).toNat default))))] [3] [] ?_
     refine q_sq ?_
     obtain ⟨v23, h24, hm⟩ := bind_s hm
     refine q_vu [qc 2 [61, 62] 4 (cutting_behind_ok a1 (w64 (((a2.getD x9.toNat default).At) + (a1.Sizes.getD ((a2.getD x9.toNat default).Size).toNat default))) v23 h24)] 4 [] [(8, vi v23)] [] [] ?_
     obtain ⟨v25, h26, hm⟩ := bind_s hm
     refine q_vu [qd 3 (dex (cen [(1, 0)] [1] 3 0 (cutting_add_s1_x (w64 (((a2.getD x9.toNat default).At) + (a1.Sizes.getD ((a2.getD x9.toNat default).Size).toNat default))) v23 l20 v25) (cutting_add_s1_o (w64 (((a2.getD x9.toNat default).At) + (a1.Sizes.getD ((a2.getD x9.toNat default).Size).toNat default))) v23 l20 v25) [64, 65, 66] [1])) (callS (K := (kx E 78 0)) ⟨[(64, vo 1 0 2 l20.length), (65, vi (w64 (((a2.getD x9.toNat default).At) + (a1.Sizes.getD ((a2.getD x9.toNat default).Size).toNat default)))), (66, vi v23)], [(1, ro 0 33 2 l20.length (rf e_Span l20))]⟩ (opAt (rg Tryd.f38 125343) 3) [(1, 0)] [1] 3 o0 rfl (cutting_add_s1_ok (w64 (((a2.getD x9.toNat default).At) + (a1.Sizes.getD ((a2.getD x9.toNat default).Size).toNat default))) v23 l20 v25 h26) (.inl rfl) (by kernel_rfl))] 4 [4, 12] [(4, vo 1 1 2 v25.2.length)] [1] [(1, ro 1 33 2 v25.2.length (rf e_Span v25.2))] ?_
     refine q_vu [] 4 [20] [(20, vi (w64 (x9 + 1)))] [] [] ?_
     exact q_hl (cutting_Cuts_L1_S a1 a2 v25.2 v25.2.length l21 l21.length v23 (w64 (x9 + 1))) (ih v25.2 v25.2.length l21 l21.length v23 (w64 (x9 + 1)) _ rfl rfl hm)
    ·refine q_sq ?_
     refine q_vu [] 4 [11, 29] [(34, vb (decide (((a2.getD x9.toNat default).At) > x8)))] [] [] ?_
     refine q_cn (decide (((a2.getD x9.toNat default).At) > x8)) (fun b15 => ?_) (fun b15 => ?_)
     ·replace hm := bif_t b15 hm
      refine q_sq ?_
      obtain ⟨v16, h17, hm⟩ := bind_s hm
      refine q_vu [qd 7 (dex (cen [(2, 0)] [1] 3 0 (cutting_add_s1_x x8 (w64 (((a2.getD x9.toNat default).At) - a1.Kerf)) l7 v16) (cutting_add_s1_o x8 (w64 (((a2.getD x9.toNat default).At) - a1.Kerf)) l7 v16) [35, 36, 41] [2])) (callS (K := (kx E 78 0)) ⟨[(35, vo 2 0 2 l7.length), (36, vi x8), (41, vi (w64 (((a2.getD x9.toNat default).At) - a1.Kerf)))], [(2, ro 0 33 2 l7.length (rf e_Span l7))]⟩ (opAt (rg Tryd.f38 250676) 7) [(2, 0)] [1] 3 o0 rfl (cutting_add_s1_ok x8 (w64 (((a2.getD x9.toNat default).At) - a1.Kerf)) l7 v16 h17) (.inl rfl) (by kernel_rfl))] 4 [5, 8, 34] [(5, vo 2 1 2 v16.2.length)] [2] [(2, ro 1 33 2 v16.2.length (rf e_Span v16.2))] ?_
      obtain ⟨v18, h19, hm⟩ := bind_s hm
      refine q_vu [qd 8 (dex (cen [(1, 0)] [1] 3 0 (cutting_add_s1_x (w64 (((a2.getD x9.toNat default).At) - a1.Kerf)) ((a2.getD x9.toNat default).At) l6 v18) (cutting_add_s1_o (w64 (((a2.getD x9.toNat default).At) - a1.Kerf)) ((a2.getD x9.toNat default).At) l6 v18) [43, 48, 50] [1])) (callS (K := (kx E 78 0)) ⟨[(43, vo 1 0 2 l6.length), (48, vi (w64 (((a2.getD x9.toNat default).At) - a1.Kerf))), (50, vi ((a2.getD x9.toNat default).At))], [(1, ro 0 33 2 l6.length (rf e_Span l6))]⟩ (opAt (rg Tryd.f38 250677) 8) [(1, 0)] [1] 3 o0 rfl (cutting_add_s1_ok (w64 (((a2.getD x9.toNat default).At) - a1.Kerf)) ((a2.getD x9.toNat default).At) l6 v18 h19) (.inl rfl) (by kernel_rfl))] 4 [4] [(4, vo 1 1 2 v18.2.length)] [1] [(1, ro 1 33 2 v18.2.length (rf e_Span v18.2))] ?_
      exact q_J (v18.2, v18.2.length, v16.2, v16.2.length) ⟨rfl, rfl, hm⟩
     ·replace hm := bif_f b15 hm
      refine q_sk ?_
      exact q_J (l6, l6.length, l7, l7.length) ⟨rfl, rfl, hm⟩
  ·replace hm := bif_f b10 hm
   refine q_ex 0 ?_
   obtain rfl := Option.some.inj hm
   exact L1_mk (l6, l7, x8) (by kernel_rfl) (by kernel_rfl)

set_option maxRecDepth 100000 in
theorem cutting_Cuts_ok (a1 : Line) (a2 : List Piece) (r : (List Span) × (List Span) × Int) (hm : cutting_Cuts a1 a2 = some r) : CtX Tryd.prog globs 38 0 0 [.agg (e_Line a1), .one (tl e_Piece default a2)] [] (cutting_Cuts_x r) (cutting_Cuts_o r) := by
 unfold cutting_Cuts at hm
 refine q_E Tryd.f38 78 fun E => ?_
 refine q_sq ?_
 refine q_vn [] 0 ⟨[(1, vc (tl e_Piece default a2)), (2, vp 0 0), (4, vc (.emp)), (5, vc (.emp))], [(0, bx 64 (e_Line a1))]⟩ ?_
 refine q_sq ?_
 refine q_sq ?_
 obtain ⟨v3, h4, hm⟩ := bind_s hm
 refine q_vu [qc 1 [13] 1 (cutting_Check_ok a1 v3 h4)] 1 [] [(7, vi v3)] [] [] ?_
 refine q_sq ?_
 refine q_vu [] 1 [] [(16, vb (v3 != 0))] [] [] ?_
 refine q_cn (v3 != 0) (fun b5 => ?_) (fun b5 => ?_)
 ·replace hm := bif_t b5 hm
  refine q_sq ?_
  refine q_vu [] 1 [1, 2, 7, 16] [(6, vi v3)] [0] [] ?_
  refine q_fn [.own 4 1 33 2 (rf e_Span ([] : List Span))] ⟨[(4, vo 1 0 2 0), (5, vc (.emp)), (6, vi v3)], [(1, ro 0 33 2 0 (rf e_Span ([] : List Span)))]⟩ o0 ?_
  refine q_fn [.own 5 2 33 2 (rf e_Span ([] : List Span))] ⟨[(4, vo 1 0 2 0), (5, vo 2 0 2 0), (6, vi v3)], [(1, ro 0 33 2 0 (rf e_Span ([] : List Span))), (2, ro 0 33 2 0 (rf e_Span ([] : List Span)))]⟩ o0 ?_
  refine q_fn [.len 1 (([] : List Span).length)] ⟨[(4, vo 1 0 2 (([] : List Span).length)), (5, vo 2 0 2 0), (6, vi v3)], [(1, ro 0 33 2 (([] : List Span).length) (rf e_Span ([] : List Span))), (2, ro 0 33 2 0 (rf e_Span ([] : List Span)))]⟩ (o1 (And.intro (show 0 = ([] : List Span).length from rfl) (show 0 = ([] : List Span).length from rfl))) ?_
  refine q_fn [.len 2 (([] : List Span).length)] ⟨[(4, vo 1 0 2 (([] : List Span).length)), (5, vo 2 0 2 (([] : List Span).length)), (6, vi v3)], [(1, ro 0 33 2 (([] : List Span).length) (rf e_Span ([] : List Span))), (2, ro 0 33 2 (([] : List Span).length) (rf e_Span ([] : List Span)))]⟩ (o1 (And.intro (show 0 = ([] : List Span).length from rfl) (show 0 = ([] : List Span).length from rfl))) ?_
  obtain rfl := Option.some.inj hm
  refine H_swap 1 0 (by kernel_rfl) ?_
  refine H_swap 2 1 (by kernel_rfl) ?_
  refine q_rt ?_
  exact q_rm
 ·replace hm := bif_f b5 hm
  refine q_sk ?_
  refine q_sq ?_
  refine q_vu [] 1 [7, 16] [(8, vi 0)] [] [] ?_
  refine q_sq ?_
  refine q_sq ?_
  refine q_vu [] 1 [1] [(18, vc (tl e_Piece default a2)), (19, vi ((a2.length : Nat) : Int)), (20, vi 0)] [] [] ?_
  refine q_fn [.own 4 1 33 2 (rf e_Span ([] : List Span))] ⟨[(2, vp 0 0), (4, vo 1 0 2 0), (5, vc (.emp)), (8, vi 0), (18, vc (tl e_Piece default a2)), (19, vi ((a2.length : Nat) : Int)), (20, vi 0)], [(0, bx 64 (e_Line a1)), (1, ro 0 33 2 0 (rf e_Span ([] : List Span)))]⟩ o0 ?_
  refine q_fn [.own 5 2 33 2 (rf e_Span ([] : List Span))] ⟨[(2, vp 0 0), (4, vo 1 0 2 0), (5, vo 2 0 2 0), (8, vi 0), (18, vc (tl e_Piece default a2)), (19, vi ((a2.length : Nat) : Int)), (20, vi 0)], [(0, bx 64 (e_Line a1)), (1, ro 0 33 2 0 (rf e_Span ([] : List Span))), (2, ro 0 33 2 0 (rf e_Span ([] : List Span)))]⟩ o0 ?_
  obtain ⟨u32, h31, hm⟩ := bind_s hm
  refine R_loop1 (nd Tryd.f38 244) 0 (by kernel_rfl) FUEL (fun o => cutting_Cuts_L1_T a1 o.1 o.2.1 o.2.2) (fun v st => RetQ Tryd.prog Tryd.f38 (cutting_Cuts_x v) (cutting_Cuts_o v) .ret st) u32 (q_hl (cutting_Cuts_L1_S a1 a2 ([] : List Span) 0 ([] : List Span) 0 0 0) (cutting_Cuts_L1_ok E a1 a2 FUEL ([] : List Span) 0 ([] : List Span) 0 0 0 u32 rfl rfl h31)) ?_ ?_
  ·rintro v33 rfl st hr
   obtain rfl := Option.some.inj hm
   exact hr
  ·rintro o30 rfl
   replace hm : _ = some r := hm
   refine q_jn (ι := (List Span) × Nat) (fun p => cutting_Cuts_k3_S o30 p.1 p.2) (fun p => p.1.length = p.2 ∧ cutting_Cuts_k3 o30 p.1 = some r) ?_ ?_
   ·rintro ⟨l37, l37n⟩ ⟨el37, hm⟩
    replace el37 : l37.length = l37n := el37
    subst el37
    show H _ (cutting_Cuts_k3_S o30 l37 l37.length) _ _
    refine q_sq ?_
    refine q_vu [] 3 [] [(6, vi 0)] [] [] ?_
    obtain rfl := Option.some.inj hm
    refine H_swap 1 0 (by kernel_rfl) ?_
    refine H_swap 2 1 (by kernel_rfl) ?_
    refine q_rt ?_
    exact q_rm
   ·refine q_sq ?_
    refine q_vu [] 3 [] [(70, vb (decide (o30.2.2 ≥ 0)))] [] [] ?_
    refine q_cn (decide (o30.2.2 ≥ 0)) (fun b34 => ?_) (fun b34 => ?_)
    ·replace hm := bif_t b34 hm
     obtain ⟨v35, h36, hm⟩ := bind_s hm
     refine q_vu [qd 4 (dex (cen [(2, 0)] [1] 2 0 (cutting_add_s1_x o30.2.2 a1.Len o30.2.1 v35) (cutting_add_s1_o o30.2.2 a1.Len o30.2.1 v35) [71, 72, 74] [2])) (callS (K := (kx E 78 0)) ⟨[(71, vo 2 0 2 o30.2.1.length), (72, vi o30.2.2), (74, vi a1.Len)], [(2, ro 0 33 2 o30.2.1.length (rf e_Span o30.2.1))]⟩ (opAt (rg Tryd.f38 250) 4) [(2, 0)] [1] 2 o0 rfl (cutting_add_s1_ok o30.2.2 a1.Len o30.2.1 v35 h36) (.inl rfl) (by kernel_rfl))] 3 [2, 5, 8, 70] [(5, vo 2 1 2 v35.2.length)] [0, 2] [(2, ro 1 33 2 v35.2.length (rf e_Span v35.2))] ?_
     exact q_J (v35.2, v35.2.length) ⟨rfl, hm⟩
    ·replace hm := bif_f b34 hm
     refine q_sk ?_
     exact q_J (o30.2.1, o30.2.1.length) ⟨rfl, hm⟩

end Saw
end Go.SL

namespace Go.SL
namespace Saw
open Go.Proofs
set_option maxHeartbeats 4000000

def cutting_total_x (r : Int) : V := vi r

def cutting_total_o (r : Int) : List (Nat × (Nat × O)) := []

theorem cutting_total_f (r : Int) : Frozen (cutting_total_o r) := by
 intro i k o h
 unfold cutting_total_o at h
 cases h

def cutting_total_L2_S (a1 : List Int) (a2 : List Span) (x4 : Int) (x8 : Int) (x9 : Int) : St :=
 ⟨[(0, vc (tl e_i64 default a1)), (5, vi x8), (10, vc (tl e_Span default a2)), (11, vi ((a2.length : Nat) : Int)), (12, vi x4), (21, vc (tl e_i64 default ((a1.drop (((a2.getD x4.toNat default).A).toNat)).take (((a2.getD x4.toNat default).B).toNat - ((a2.getD x4.toNat default).A).toNat)))), (22, vi ((((a1.drop (((a2.getD x4.toNat default).A).toNat)).take (((a2.getD x4.toNat default).B).toNat - ((a2.getD x4.toNat default).A).toNat)).length : Nat) : Int)), (23, vi x9)], []⟩

def cutting_total_L2_T (a1 : List Int) (a2 : List Span) (x4 : Int) (x12 : Int) : St :=
 ⟨[(0, vc (tl e_i64 default a1)), (5, vi x12), (10, vc (tl e_Span default a2)), (11, vi ((a2.length : Nat) : Int)), (12, vi x4)], []⟩

def cutting_total_L1_S (a1 : List Int) (a2 : List Span) (x3 : Int) (x4 : Int) : St :=
 ⟨[(0, vc (tl e_i64 default a1)), (5, vi x3), (10, vc (tl e_Span default a2)), (11, vi ((a2.length : Nat) : Int)), (12, vi x4)], []⟩

def cutting_total_L1_T (x15 : Int) : St :=
 ⟨[(5, vi x15)], []⟩

set_option maxRecDepth 100000 in
theorem cutting_total_L2_ok (E : Env 0) (a1 : List Int) (a2 : List Span) (x4 : Int) : ∀ (n : Nat) (x8 : Int) (x9 : Int) (res : Int), cutting_total_L2 a1 a2 x4 n x8 x9 = some res → HL (kx E 33 0) (nd Tryd.f39 29900) (loopQ0 2 (fun o => cutting_total_L2_T a1 a2 x4 o) res) n (cutting_total_L2_S a1 a2 x4 x8 x9) := by
 intro n
 induction n with
 | zero =>
  intro x8 x9 res hm
  cases hm
 | succ n ih =>
  intro x8 x9 res hm
  refine HL_succ ?_
  refine q_sq ?_
  refine q_vu [] 1 [] [(24, vb (decide (x9 < ((((a1.drop (((a2.getD x4.toNat default).A).toNat)).take (((a2.getD x4.toNat default).B).toNat - ((a2.getD x4.toNat default).A).toNat)).length : Nat) : Int))))] [] [] ?_
  refine q_sq ?_
  refine q_cn (decide (x9 < ((((a1.drop (((a2.getD x4.toNat default).A).toNat)).take (((a2.getD x4.toNat default).B).toNat - ((a2.getD x4.toNat default).A).toNat)).length : Nat) : Int))) (fun b10 => ?_) (fun b10 => ?_)
  ·replace hm := bif_t b10 hm
   refine q_sk ?_
   refine q_sq ?_
   refine q_bk 3 ?_
   refine q_sq ?_
   obtain ⟨g11, hm⟩ := bif_n hm
   refine q_vu [qd 0 (Dir.none) (inb_of g11)] 1 [24] [(9, vi (((a1.drop (((a2.getD x4.toNat default).A).toNat)).take (((a2.getD x4.toNat default).B).toNat - ((a2.getD x4.toNat default).A).toNat)).getD x9.toNat default))] [] [] ?_
   refine q_vu [] 1 [5, 9] [(5, vi (w64 (x8 + (((a1.drop (((a2.getD x4.toNat default).A).toNat)).take (((a2.getD x4.toNat default).B).toNat - ((a2.getD x4.toNat default).A).toNat)).getD x9.toNat default))))] [] [] ?_
   refine q_vu [] 1 [23] [(23, vi (w64 (x9 + 1)))] [] [] ?_
   exact q_hl (cutting_total_L2_S a1 a2 x4 (w64 (x8 + (((a1.drop (((a2.getD x4.toNat default).A).toNat)).take (((a2.getD x4.toNat default).B).toNat - ((a2.getD x4.toNat default).A).toNat)).getD x9.toNat default))) (w64 (x9 + 1))) (ih (w64 (x8 + (((a1.drop (((a2.getD x4.toNat default).A).toNat)).take (((a2.getD x4.toNat default).B).toNat - ((a2.getD x4.toNat default).A).toNat)).getD x9.toNat default))) (w64 (x9 + 1)) _ hm)
  ·replace hm := bif_f b10 hm
   refine q_ex 2 ?_
   obtain rfl := Option.some.inj hm
   exact L0_mk (by kernel_rfl) (by kernel_rfl)

set_option maxRecDepth 100000 in
theorem cutting_total_L1_ok (E : Env 0) (a1 : List Int) (a2 : List Span) : ∀ (n : Nat) (x3 : Int) (x4 : Int) (res : Int), cutting_total_L1 a1 a2 n x3 x4 = some res → HL (kx E 33 0) (nd Tryd.f39 116) (loopQ0 0 (fun o => cutting_total_L1_T o) res) n (cutting_total_L1_S a1 a2 x3 x4) := by
 intro n
 induction n with
 | zero =>
  intro x3 x4 res hm
  cases hm
 | succ n ih =>
  intro x3 x4 res hm
  refine HL_succ ?_
  refine q_sq ?_
  refine q_vu [] 0 [] [(13, vb (decide (x4 < ((a2.length : Nat) : Int))))] [] [] ?_
  refine q_sq ?_
  refine q_cn (decide (x4 < ((a2.length : Nat) : Int))) (fun b5 => ?_) (fun b5 => ?_)
  ·replace hm := bif_t b5 hm
   refine q_sk ?_
   refine q_sq ?_
   refine q_bk 1 ?_
   refine q_sq ?_
   obtain ⟨g6, hm⟩ := bif_n hm
   refine q_vu [qd 0 (Dir.none) (inb_of g6)] 0 [13] [(7, vp 0 0)] [] [(0, bx 33 [ci ((a2.getD x4.toNat default).A), ci ((a2.getD x4.toNat default).B)])] ?_
   refine q_sq ?_
   obtain ⟨g7, hm⟩ := bif_n hm
   refine q_vu [qd 5 (drw (((a1.drop (((a2.getD x4.toNat default).A).toNat)).take (((a2.getD x4.toNat default).B).toNat - ((a2.getD x4.toNat default).A).toNat)).length) 0 (rf e_i64 ((a1.drop (((a2.getD x4.toNat default).A).toNat)).take (((a2.getD x4.toNat default).B).toNat - ((a2.getD x4.toNat default).A).toNat)))) (slPlh e_i64 default a1 ((a2.getD x4.toNat default).A) ((a2.getD x4.toNat default).B) (slOk_of g7))] 1 [7] [(21, vc (tl e_i64 default ((a1.drop (((a2.getD x4.toNat default).A).toNat)).take (((a2.getD x4.toNat default).B).toNat - ((a2.getD x4.toNat default).A).toNat)))), (22, vi ((((a1.drop (((a2.getD x4.toNat default).A).toNat)).take (((a2.getD x4.toNat default).B).toNat - ((a2.getD x4.toNat default).A).toNat)).length : Nat) : Int)), (23, vi 0)] [0] [] ?_
   obtain ⟨o13, h14, hm⟩ := bind_s hm
   refine R_loop0 (nd Tryd.f39 29900) 2 (by kernel_rfl) FUEL (fun o => cutting_total_L2_T a1 a2 x4 o) o13 (q_hl (cutting_total_L2_S a1 a2 x4 x3 0) (cutting_total_L2_ok E a1 a2 x4 FUEL x3 0 o13 h14)) ?_
   refine q_vu [] 1 [12] [(12, vi (w64 (x4 + 1)))] [] [] ?_
   exact q_hl (cutting_total_L1_S a1 a2 o13 (w64 (x4 + 1))) (ih o13 (w64 (x4 + 1)) _ hm)
  ·replace hm := bif_f b5 hm
   refine q_ex 0 ?_
   obtain rfl := Option.some.inj hm
   exact L0_mk (by kernel_rfl) (by kernel_rfl)

set_option maxRecDepth 100000 in
theorem cutting_total_ok (a1 : List Int) (a2 : List Span) (r : Int) (hm : cutting_total a1 a2 = some r) : CtX Tryd.prog globs 39 0 0 [.one (tl e_i64 default a1), .one (tl e_Span default a2)] [] (cutting_total_x r) (cutting_total_o r) := by
 unfold cutting_total at hm
 refine q_E Tryd.f39 33 fun E => ?_
 refine q_sq ?_
 refine q_vn [] 0 ⟨[(0, vc (tl e_i64 default a1)), (1, vc (tl e_Span default a2))], []⟩ ?_
 refine q_sq ?_
 refine q_vu [] 0 [] [(5, vi 0)] [] [] ?_
 refine q_sq ?_
 refine q_sq ?_
 refine q_vu [] 0 [1] [(10, vc (tl e_Span default a2)), (11, vi ((a2.length : Nat) : Int)), (12, vi 0)] [] [] ?_
 obtain ⟨o16, h17, hm⟩ := bind_s hm
 refine R_loop0 (nd Tryd.f39 116) 0 (by kernel_rfl) FUEL (fun o => cutting_total_L1_T o) o16 (q_hl (cutting_total_L1_S a1 a2 0 0) (cutting_total_L1_ok E a1 a2 FUEL 0 0 o16 h17)) ?_
 refine q_sq ?_
 refine q_vn [] 0 ⟨[(4, vi o16)], []⟩ ?_
 obtain rfl := Option.some.inj hm
 refine q_rt ?_
 exact q_rm

end Saw
end Go.SL

namespace Go.SL
namespace Saw
open Go.Proofs
set_option maxHeartbeats 4000000

def cutting_Value_x (r : Int × Int) : V := .tup [.one (ci r.1), .one (ci r.2)]

def cutting_Value_o (r : Int × Int) : List (Nat × (Nat × O)) := []

theorem cutting_Value_f (r : Int × Int) : Frozen (cutting_Value_o r) := by
 intro i k o h
 unfold cutting_Value_o at h
 cases h

def cutting_Value_L1_S (a1 : Line) (a2 : List Piece) (x10 : Int) (x11 : Int) : St :=
 ⟨[(2, vp 0 0), (9, vi x10), (31, vc (tl e_Piece default a2)), (32, vi ((a2.length : Nat) : Int)), (33, vi x11)], [(0, bx 64 (e_Line a1))]⟩

def cutting_Value_L1_T (x16 : Int) : St :=
 ⟨[(9, vi x16)], []⟩

set_option maxRecDepth 100000 in
theorem cutting_Value_L1_ok (E : Env 0) (a1 : Line) (a2 : List Piece) : ∀ (n : Nat) (x10 : Int) (x11 : Int) (res : Int), cutting_Value_L1 a1 a2 n x10 x11 = some res → HL (kx E 51 0) (nd Tryd.f19 500) (loopQ0 0 (fun o => cutting_Value_L1_T o) res) n (cutting_Value_L1_S a1 a2 x10 x11) := by
 intro n
 induction n with
 | zero =>
  intro x10 x11 res hm
  cases hm
 | succ n ih =>
  intro x10 x11 res hm
  refine HL_succ ?_
  refine q_sq ?_
  refine q_vu [] 3 [] [(34, vb (decide (x11 < ((a2.length : Nat) : Int))))] [] [] ?_
  refine q_sq ?_
  refine q_cn (decide (x11 < ((a2.length : Nat) : Int))) (fun b12 => ?_) (fun b12 => ?_)
  ·replace hm := bif_t b12 hm
   refine q_sk ?_
   refine q_sq ?_
   refine q_bk 1 ?_
   refine q_sq ?_
   obtain ⟨g13, hm⟩ := bif_n hm
   refine q_vu [qd 0 (Dir.none) (inb_of g13)] 3 [34] [(11, vp 3 0)] [] [(3, bx 98 [ci ((a2.getD x11.toNat default).Size), ci ((a2.getD x11.toNat default).At)])] ?_
   obtain ⟨g14, hm⟩ := bif_n hm
   obtain ⟨g15, hm⟩ := bif_n hm
   refine q_du [qd 5 (Dir.none) (inb_of g14), qd 9 (Dir.none) (inb_of g15)] [0, 0, 2, 0, 8, 30, 62, 0, 128, 510, 1022, 2047, 4095] 4 [9, 11] [(9, vi (w64 (x10 + ((a1.Gain.getD ((a2.getD x11.toNat default).Size).toNat default).getD ((a2.getD x11.toNat default).At).toNat default))))] [3] [] ?_
   refine q_vu [] 4 [33] [(33, vi (w64 (x11 + 1)))] [] [] ?_
   exact q_hl (cutting_Value_L1_S a1 a2 (w64 (x10 + ((a1.Gain.getD ((a2.getD x11.toNat default).Size).toNat default).getD ((a2.getD x11.toNat default).At).toNat default))) (w64 (x11 + 1))) (ih (w64 (x10 + ((a1.Gain.getD ((a2.getD x11.toNat default).Size).toNat default).getD ((a2.getD x11.toNat default).At).toNat default))) (w64 (x11 + 1)) _ hm)
  ·replace hm := bif_f b12 hm
   refine q_ex 0 ?_
   obtain rfl := Option.some.inj hm
   exact L0_mk (by kernel_rfl) (by kernel_rfl)

set_option maxRecDepth 100000 in
theorem cutting_Value_ok (a1 : Line) (a2 : List Piece) (r : Int × Int) (hm : cutting_Value a1 a2 = some r) : CtX Tryd.prog globs 19 0 0 [.agg (e_Line a1), .one (tl e_Piece default a2)] [] (cutting_Value_x r) (cutting_Value_o r) := by
 unfold cutting_Value at hm
 refine q_E Tryd.f19 51 fun E => ?_
 refine q_sq ?_
 refine q_vn [] 0 ⟨[(1, vc (tl e_Piece default a2)), (2, vp 0 0)], [(0, bx 64 (e_Line a1))]⟩ ?_
 refine q_sq ?_
 obtain ⟨v3, h4, hm⟩ := bind_s hm
 refine q_vu [qc 2 [13, 14] 1 (cutting_Cuts_ok a1 a2 v3 h4)] 1 [] [(6, vo 1 0 2 v3.1.length), (7, vo 2 0 2 v3.2.1.length), (8, vi v3.2.2)] [] [(1, ro 0 33 2 v3.1.length (rf e_Span v3.1)), (2, ro 0 33 2 v3.2.1.length (rf e_Span v3.2.1))] ?_
 refine q_sq ?_
 refine q_sq ?_
 refine q_vu [] 3 [] [(20, vb (v3.2.2 != 0))] [] [] ?_
 refine q_cn (v3.2.2 != 0) (fun b5 => ?_) (fun b5 => ?_)
 ·replace hm := bif_t b5 hm
  refine q_sq ?_
  refine q_vn [] 3 ⟨[(4, vi 0), (5, vi v3.2.2)], []⟩ ?_
  obtain rfl := Option.some.inj hm
  refine q_rt ?_
  exact q_rm
 ·replace hm := bif_f b5 hm
  refine q_sk ?_
  refine q_sq ?_
  obtain ⟨v6, h7, hm⟩ := bind_s hm
  obtain ⟨v8, h9, hm⟩ := bind_s hm
  refine q_du [qd 3 (dex (cen [] [] 3 0 (cutting_total_x v6) (cutting_total_o v6) [23, 24] [1])) (callS (K := (kx E 51 0)) (b := false) ⟨[(23, vc (tl e_i64 default a1.Dust)), (24, vo 1 0 2 v3.1.length)], [(1, ro 0 33 2 v3.1.length (rf e_Span v3.1))]⟩ (opAt (rg Tryd.f19 30) 3) [] [] 3 (o1 (Nat.le_refl v3.1.length)) rfl (cutting_total_ok a1.Dust v3.1 v6 h7) (.inr ⟨(by kernel_rfl), cutting_total_f v6⟩) (by kernel_rfl)), qd 7 (dex (cen [] [] 3 0 (cutting_total_x v8) (cutting_total_o v8) [27, 28] [2])) (callS (K := (kx E 51 0)) (b := false) ⟨[(27, vc (tl e_i64 default a1.Chip)), (28, vo 2 0 2 v3.2.1.length)], [(2, ro 0 33 2 v3.2.1.length (rf e_Span v3.2.1))]⟩ (opAt (rg Tryd.f19 30) 7) [] [] 3 (o1 (Nat.le_refl v3.2.1.length)) rfl (cutting_total_ok a1.Chip v3.2.1 v8 h9) (.inr ⟨(by kernel_rfl), cutting_total_f v8⟩) (by kernel_rfl))] [0, 1, 0, 7, 0, 16, 0, 127, 255, 511] 3 [6, 7, 8, 20] [(9, vi (w64 (v6 + v8)))] [1, 2] [] ?_
  refine q_sq ?_
  refine q_sq ?_
  refine q_vu [] 3 [1] [(31, vc (tl e_Piece default a2)), (32, vi ((a2.length : Nat) : Int)), (33, vi 0)] [] [] ?_
  obtain ⟨o17, h18, hm⟩ := bind_s hm
  refine R_loop0 (nd Tryd.f19 500) 0 (by kernel_rfl) FUEL (fun o => cutting_Value_L1_T o) o17 (q_hl (cutting_Value_L1_S a1 a2 (w64 (v6 + v8)) 0) (cutting_Value_L1_ok E a1 a2 FUEL (w64 (v6 + v8)) 0 o17 h18)) ?_
  refine q_sq ?_
  refine q_vn [] 3 ⟨[(4, vi o17), (5, vi 0)], []⟩ ?_
  obtain rfl := Option.some.inj hm
  refine q_rt ?_
  exact q_rm

end Saw
end Go.SL

namespace Go.SL
namespace Saw
open Go.Proofs
set_option maxHeartbeats 4000000

def ref10_beyond_x (r : Bool) : V := vb r

def ref10_beyond_o (r : Bool) : List (Nat × (Nat × O)) := []

theorem ref10_beyond_f (r : Bool) : Frozen (ref10_beyond_o r) := by
 intro i k o h
 unfold ref10_beyond_o at h
 cases h

def ref10_beyond_k1_S (x3 : Bool) : St :=
 ⟨[(2, vb x3)], []⟩

set_option maxRecDepth 100000 in
theorem ref10_beyond_ok (a1 : Int) (r : Bool) (hm : ref10_beyond a1 = some r) : CtX Tryd.prog globs 105 0 0 [.one (ci a1)] [] (ref10_beyond_x r) (ref10_beyond_o r) := by
 unfold ref10_beyond at hm
 refine q_E Tryd.f105 9 fun E => ?_
 refine q_sq ?_
 refine q_vn [] 0 ⟨[(0, vi a1)], []⟩ ?_
 refine q_jn (ι := Bool) (fun p => ref10_beyond_k1_S p) (fun p => ref10_beyond_k1 p = some r) ?_ ?_
 ·rintro x3 hm
  show H _ (ref10_beyond_k1_S x3) _ _
  obtain rfl := Option.some.inj hm
  refine q_rt ?_
  exact q_rm
 ·rcases Bool.eq_false_or_eq_true (decide (a1 < (-600))) with b2 | b2
  ·replace hm := bif_t b2 hm
   refine q_vn [qf 2 b2] 0 ⟨[(2, vb true)], []⟩ ?_
   exact q_J (true) hm
  ·replace hm := bif_f b2 hm
   refine q_vn [qf 2 b2] 0 ⟨[(2, vb (decide (a1 > 600)))], []⟩ ?_
   exact q_J (decide (a1 > 600)) hm

end Saw
end Go.SL

namespace Go.SL
namespace Saw
open Go.Proofs
set_option maxHeartbeats 4000000

def ref10_empty_x (r : Bool) : V := vb r

def ref10_empty_o (r : Bool) : List (Nat × (Nat × O)) := []

theorem ref10_empty_f (r : Bool) : Frozen (ref10_empty_o r) := by
 intro i k o h
 unfold ref10_empty_o at h
 cases h

set_option maxRecDepth 100000 in
theorem ref10_empty_ok (a1 : Span) (r : Bool) (hm : ref10_empty a1 = some r) : CtX Tryd.prog globs 106 0 0 [.agg (e_Span a1)] [] (ref10_empty_x r) (ref10_empty_o r) := by
 unfold ref10_empty at hm
 refine q_E Tryd.f106 8 fun E => ?_
 refine q_sq ?_
 refine q_vn [] 0 ⟨[(1, vp 0 0)], [(0, bx 33 (e_Span a1))]⟩ ?_
 refine q_sq ?_
 refine q_vn [] 1 ⟨[(2, vb (decide (a1.A ≥ a1.B)))], []⟩ ?_
 obtain rfl := Option.some.inj hm
 refine q_rt ?_
 exact q_rm

end Saw
end Go.SL

namespace Go.SL
namespace Saw
open Go.Proofs
set_option maxHeartbeats 4000000

def ref10_Check_x (r : Int) : V := vi r

def ref10_Check_o (r : Int) : List (Nat × (Nat × O)) := []

theorem ref10_Check_f (r : Int) : Frozen (ref10_Check_o r) := by
 intro i k o h
 unfold ref10_Check_o at h
 cases h

def ref10_Check_k3_S (a1 : Section) (x6 : Int) (x14 : Bool) : St :=
 ⟨[(1, vp 0 0), (3, vi ((a1.Rows.length : Nat) : Int)), (4, vi x6), (41, vb x14)], [(0, bx 52 (e_Section a1))]⟩

def ref10_Check_L2_S (a1 : Section) (x6 : Int) : St :=
 ⟨[(1, vp 0 0), (3, vi ((a1.Rows.length : Nat) : Int)), (4, vi x6)], [(0, bx 52 (e_Section a1))]⟩

def ref10_Check_L2_T (a1 : Section) : St :=
 ⟨[(1, vp 0 0), (3, vi ((a1.Rows.length : Nat) : Int))], [(0, bx 52 (e_Section a1))]⟩

def ref10_Check_k6_S (a1 : Section) (x31 : Int) (x37 : Bool) : St :=
 ⟨[(1, vp 0 0), (3, vi ((a1.Rows.length : Nat) : Int)), (5, vi x31), (80, vb x37)], [(0, bx 52 (e_Section a1))]⟩

def ref10_Check_L5_S (a1 : Section) (x31 : Int) : St :=
 ⟨[(1, vp 0 0), (3, vi ((a1.Rows.length : Nat) : Int)), (5, vi x31)], [(0, bx 52 (e_Section a1))]⟩

def ref10_Check_L5_T : St :=
 ⟨[], []⟩

def ref10_Check_k4_S (a1 : Section) (x29 : Bool) : St :=
 ⟨[(1, vp 0 0), (3, vi ((a1.Rows.length : Nat) : Int)), (60, vb x29)], [(0, bx 52 (e_Section a1))]⟩

def ref10_Check_k1_S (a1 : Section) (x4 : Bool) : St :=
 ⟨[(1, vp 0 0), (3, vi ((a1.Rows.length : Nat) : Int)), (20, vb x4)], [(0, bx 52 (e_Section a1))]⟩

set_option maxRecDepth 100000 in
theorem ref10_Check_L2_ok (E : Env 0) (a1 : Section) : ∀ (n : Nat) (x6 : Int) (res : Int ⊕ Unit), ref10_Check_L2 a1 n x6 = some res → HL (kx E 81 0) (nd Tryd.f85 500) (loopQ 0 (fun o => ref10_Check_L2_T a1) (fun v st => RetQ Tryd.prog Tryd.f85 (ref10_Check_x v) (ref10_Check_o v) .ret st) res) n (ref10_Check_L2_S a1 x6) := by
 intro n
 induction n with
 | zero =>
  intro x6 res hm
  cases hm
 | succ n ih =>
  intro x6 res hm
  refine HL_succ ?_
  refine q_sq ?_
  refine q_sq ?_
  refine q_vu [] 1 [] [(23, vb (decide (x6 < ((a1.Rows.length : Nat) : Int))))] [] [] ?_
  refine q_cn (decide (x6 < ((a1.Rows.length : Nat) : Int))) (fun b7 => ?_) (fun b7 => ?_)
  ·replace hm := bif_t b7 hm
   refine q_sk ?_
   refine q_sq ?_
   refine q_bk 1 ?_
   refine q_jn (ι := Bool) (fun p => ref10_Check_k3_S a1 x6 p) (fun p => ref10_Check_k3 x6 (ref10_Check_L2 a1 n) p = some res) ?_ ?_
   ·rintro x14 hm
    show H _ (ref10_Check_k3_S a1 x6 x14) _ _
    refine q_cn x14 (fun b15 => ?_) (fun b15 => ?_)
    ·replace hm := bif_t b15 hm
     refine q_sq ?_
     refine q_vn [] 1 ⟨[(2, vi 9)], []⟩ ?_
     obtain rfl := Option.some.inj hm
     refine q_rt ?_
     refine L1_ret 9 ?_
     exact q_rm
    ·replace hm := bif_f b15 hm
     refine q_sk ?_
     refine q_vu [] 1 [4, 41] [(4, vi (w64 (x6 + 1)))] [] [] ?_
     exact q_hl (ref10_Check_L2_S a1 (w64 (x6 + 1))) (ih (w64 (x6 + 1)) _ hm)
   ·obtain ⟨g8, hm⟩ := bif_n hm
    obtain ⟨v9, h10, hm⟩ := bind_s hm
    rcases Bool.eq_false_or_eq_true v9 with b11 | b11
    ·replace hm := bif_t b11 hm
     refine q_vu [qd 3 (Dir.none) (inb_of g8), qc 6 [31] 1 (ref10_beyond_ok ((a1.Rows.getD x6.toNat default).A) v9 h10), qf 7 b11] 1 [23] [(41, vb true)] [] [] ?_
     exact q_J (true) hm
    ·replace hm := bif_f b11 hm
     obtain ⟨v12, h13, hm⟩ := bind_s hm
     refine q_vu [qd 3 (Dir.none) (inb_of g8), qc 6 [31] 1 (ref10_beyond_ok ((a1.Rows.getD x6.toNat default).A) v9 h10), qf 7 b11, qd 11 (Dir.none) (inb_of g8), qk 14 [33, 39] 1 ⟨[(33, vb false), (39, vi ((a1.Rows.getD x6.toNat default).B))], []⟩ (ref10_beyond_ok ((a1.Rows.getD x6.toNat default).B) v12 h13)] 1 [23] [(34, vp 0 1), (35, vc (tl e_Span default a1.Rows)), (36, vi x6), (37, vc (.lptr (e_Span (a1.Rows.getD x6.toNat default)))), (38, vc (.lptr ((e_Span (a1.Rows.getD x6.toNat default)).drop 1))), (39, vi ((a1.Rows.getD x6.toNat default).B)), (40, vb v12), (41, vb v12)] [] [] ?_
     exact q_J (v12) hm
  ·replace hm := bif_f b7 hm
   refine q_ex 0 ?_
   obtain rfl := Option.some.inj hm
   exact L1_mk () (by kernel_rfl) (by kernel_rfl)

set_option maxRecDepth 100000 in
theorem ref10_Check_L5_ok (E : Env 0) (a1 : Section) : ∀ (n : Nat) (x31 : Int) (res : Int ⊕ Unit), ref10_Check_L5 a1 n x31 = some res → HL (kx E 81 0) (nd Tryd.f85 4084) (loopQ 2 (fun o => ref10_Check_L5_T) (fun v st => RetQ Tryd.prog Tryd.f85 (ref10_Check_x v) (ref10_Check_o v) .ret st) res) n (ref10_Check_L5_S a1 x31) := by
 intro n
 induction n with
 | zero =>
  intro x31 res hm
  cases hm
 | succ n ih =>
  intro x31 res hm
  refine HL_succ ?_
  refine q_sq ?_
  refine q_sq ?_
  refine q_vu [] 1 [] [(63, vb (decide (x31 < ((a1.Rows.length : Nat) : Int))))] [] [] ?_
  refine q_cn (decide (x31 < ((a1.Rows.length : Nat) : Int))) (fun b32 => ?_) (fun b32 => ?_)
  ·replace hm := bif_t b32 hm
   refine q_sk ?_
   refine q_sq ?_
   refine q_bk 3 ?_
   refine q_jn (ι := Bool) (fun p => ref10_Check_k6_S a1 x31 p) (fun p => ref10_Check_k6 x31 (ref10_Check_L5 a1 n) p = some res) ?_ ?_
   ·rintro x37 hm
    show H _ (ref10_Check_k6_S a1 x31 x37) _ _
    refine q_cn x37 (fun b38 => ?_) (fun b38 => ?_)
    ·replace hm := bif_t b38 hm
     refine q_sq ?_
     refine q_vn [] 1 ⟨[(2, vi 19)], []⟩ ?_
     obtain rfl := Option.some.inj hm
     refine q_rt ?_
     refine L1_ret 19 ?_
     exact q_rm
    ·replace hm := bif_f b38 hm
     refine q_sk ?_
     refine q_vu [] 1 [5, 80] [(5, vi (w64 (x31 + 1)))] [] [] ?_
     exact q_hl (ref10_Check_L5_S a1 (w64 (x31 + 1))) (ih (w64 (x31 + 1)) _ hm)
   ·obtain ⟨g33, hm⟩ := bif_n hm
    obtain ⟨v34, h35, hm⟩ := bind_s hm
    rcases Bool.eq_false_or_eq_true v34 with b36 | b36
    ·replace hm := bif_t b36 hm
     refine q_vu [qd 3 (Dir.none) (inb_of g33), qc 5 [70] 1 (ref10_empty_ok (a1.Rows.getD x31.toNat default) v34 h35), qf 6 b36, qd 10 (Dir.none) (inb_of g33)] 1 [63] [(73, vp 0 1), (74, vc (tl e_Span default a1.Rows)), (75, vi x31), (76, vc (.lptr (e_Span (a1.Rows.getD x31.toNat default)))), (77, va [ci ((a1.Rows.getD x31.toNat default).A), ci ((a1.Rows.getD x31.toNat default).B)]), (78, va [ci 0, ci 0]), (79, vb (!((((a1.Rows.getD x31.toNat default).A) == 0) && ((((a1.Rows.getD x31.toNat default).B) == 0) && true)))), (80, vb (!((((a1.Rows.getD x31.toNat default).A) == 0) && ((((a1.Rows.getD x31.toNat default).B) == 0) && true))))] [] [] ?_
     exact q_J (!((((a1.Rows.getD x31.toNat default).A) == 0) && ((((a1.Rows.getD x31.toNat default).B) == 0) && true))) hm
    ·replace hm := bif_f b36 hm
     refine q_vu [qd 3 (Dir.none) (inb_of g33), qc 5 [70] 1 (ref10_empty_ok (a1.Rows.getD x31.toNat default) v34 h35), qf 6 b36] 1 [63] [(80, vb false)] [] [] ?_
     exact q_J (false) hm
  ·replace hm := bif_f b32 hm
   refine q_ex 2 ?_
   obtain rfl := Option.some.inj hm
   exact L1_mk () (by kernel_rfl) (by kernel_rfl)

set_option maxRecDepth 100000 in
theorem ref10_Check_ok (a1 : Section) (r : Int) (hm : ref10_Check a1 = some r) : CtX Tryd.prog globs 85 0 0 [.agg (e_Section a1)] [] (ref10_Check_x r) (ref10_Check_o r) := by
 unfold ref10_Check at hm
 refine q_E Tryd.f85 81 fun E => ?_
 refine q_sq ?_
 refine q_vn [] 0 ⟨[(1, vp 0 0)], [(0, bx 52 (e_Section a1))]⟩ ?_
 refine q_sq ?_
 refine q_vu [] 1 [] [(3, vi ((a1.Rows.length : Nat) : Int))] [] [] ?_
 refine q_sq ?_
 refine q_sq ?_
 refine q_vu [] 1 [] [(10, vb (decide (((a1.Rows.length : Nat) : Int) > 120)))] [] [] ?_
 refine q_cn (decide (((a1.Rows.length : Nat) : Int) > 120)) (fun b2 => ?_) (fun b2 => ?_)
 ·replace hm := bif_t b2 hm
  refine q_sq ?_
  refine q_vn [] 1 ⟨[(2, vi 4)], []⟩ ?_
  obtain rfl := Option.some.inj hm
  refine q_rt ?_
  exact q_rm
 ·replace hm := bif_f b2 hm
  refine q_sk ?_
  refine q_sq ?_
  refine q_jn (ι := Bool) (fun p => ref10_Check_k1_S a1 p) (fun p => ref10_Check_k1 a1 p = some r) ?_ ?_
  ·rintro x4 hm
   show H _ (ref10_Check_k1_S a1 x4) _ _
   refine q_cn x4 (fun b5 => ?_) (fun b5 => ?_)
   ·replace hm := bif_t b5 hm
    refine q_sq ?_
    refine q_vn [] 1 ⟨[(2, vi 9)], []⟩ ?_
    obtain rfl := Option.some.inj hm
    refine q_rt ?_
    exact q_rm
   ·replace hm := bif_f b5 hm
    refine q_sk ?_
    refine q_sq ?_
    refine q_sq ?_
    refine q_vu [] 1 [20] [(4, vi 0)] [] [] ?_
    obtain ⟨u18, h17, hm⟩ := bind_s hm
    refine R_loop1 (nd Tryd.f85 500) 0 (by kernel_rfl) FUEL (fun o => ref10_Check_L2_T a1) (fun v st => RetQ Tryd.prog Tryd.f85 (ref10_Check_x v) (ref10_Check_o v) .ret st) u18 (q_hl (ref10_Check_L2_S a1 0) (ref10_Check_L2_ok E a1 FUEL 0 u18 h17)) ?_ ?_
    ·rintro v19 rfl st hr
     obtain rfl := Option.some.inj hm
     exact hr
    ·rintro o16 rfl
     replace hm : _ = some r := hm
     refine q_sq ?_
     refine q_sq ?_
     refine q_vu [] 1 [] [(43, vb (((a1.Rows.length : Nat) : Int) == 0))] [] [] ?_
     refine q_cn (((a1.Rows.length : Nat) : Int) == 0) (fun b20 => ?_) (fun b20 => ?_)
     ·replace hm := bif_t b20 hm
      refine q_sq ?_
      refine q_sq ?_
      refine q_vn [] 1 ⟨[(46, vb (a1.Low != 0))], []⟩ ?_
      refine q_cn (a1.Low != 0) (fun b21 => ?_) (fun b21 => ?_)
      ·replace hm := bif_t b21 hm
       refine q_sq ?_
       refine q_vn [] 1 ⟨[(2, vi 19)], []⟩ ?_
       obtain rfl := Option.some.inj hm
       refine q_rt ?_
       exact q_rm
      ·replace hm := bif_f b21 hm
       refine q_sk ?_
       refine q_sq ?_
       refine q_vn [] 1 ⟨[(2, vi 0)], []⟩ ?_
       obtain rfl := Option.some.inj hm
       refine q_rt ?_
       exact q_rm
     ·replace hm := bif_f b20 hm
      refine q_sk ?_
      refine q_sq ?_
      refine q_jn (ι := Bool) (fun p => ref10_Check_k4_S a1 p) (fun p => ref10_Check_k4 a1 p = some r) ?_ ?_
      ·rintro x29 hm
       show H _ (ref10_Check_k4_S a1 x29) _ _
       refine q_cn x29 (fun b30 => ?_) (fun b30 => ?_)
       ·replace hm := bif_t b30 hm
        refine q_sq ?_
        refine q_vn [] 1 ⟨[(2, vi 19)], []⟩ ?_
        obtain rfl := Option.some.inj hm
        refine q_rt ?_
        exact q_rm
       ·replace hm := bif_f b30 hm
        refine q_sk ?_
        refine q_sq ?_
        refine q_sq ?_
        refine q_vu [] 1 [60] [(5, vi 0)] [] [] ?_
        obtain ⟨u41, h40, hm⟩ := bind_s hm
        refine R_loop1 (nd Tryd.f85 4084) 2 (by kernel_rfl) FUEL (fun o => ref10_Check_L5_T) (fun v st => RetQ Tryd.prog Tryd.f85 (ref10_Check_x v) (ref10_Check_o v) .ret st) u41 (q_hl (ref10_Check_L5_S a1 0) (ref10_Check_L5_ok E a1 FUEL 0 u41 h40)) ?_ ?_
        ·rintro v42 rfl st hr
         obtain rfl := Option.some.inj hm
         exact hr
        ·rintro o39 rfl
         replace hm : _ = some r := hm
         refine q_sq ?_
         refine q_vn [] 1 ⟨[(2, vi 0)], []⟩ ?_
         obtain rfl := Option.some.inj hm
         refine q_rt ?_
         exact q_rm
      ·obtain ⟨g22, hm⟩ := bif_n hm
       obtain ⟨v23, h24, hm⟩ := bind_s hm
       rcases Bool.eq_false_or_eq_true v23 with b25 | b25
       ·replace hm := bif_t b25 hm
        refine q_vu [qd 2 (Dir.none) (inb_of g22), qc 4 [50] 1 (ref10_empty_ok (a1.Rows.getD (0 : Int).toNat default) v23 h24), qf 5 b25] 1 [43] [(60, vb true)] [] [] ?_
        exact q_J (true) hm
       ·replace hm := bif_f b25 hm
        obtain ⟨g26, hm⟩ := bif_n hm
        obtain ⟨v27, h28, hm⟩ := bind_s hm
        refine q_vu [qd 2 (Dir.none) (inb_of g22), qc 4 [50] 1 (ref10_empty_ok (a1.Rows.getD (0 : Int).toNat default) v23 h24), qf 5 b25, qd 10 (Dir.none) (inb_of g26), qk 12 [52, 58] 1 ⟨[(52, vb false), (58, va [ci ((a1.Rows.getD (w64 (((a1.Rows.length : Nat) : Int) - 1)).toNat default).A), ci ((a1.Rows.getD (w64 (((a1.Rows.length : Nat) : Int) - 1)).toNat default).B)])], []⟩ (ref10_empty_ok (a1.Rows.getD (w64 (((a1.Rows.length : Nat) : Int) - 1)).toNat default) v27 h28)] 1 [43] [(60, vb v27)] [] [] ?_
        exact q_J (v27) hm
  ·rcases Bool.eq_false_or_eq_true (decide (a1.Low < (-60))) with b3 | b3
   ·replace hm := bif_t b3 hm
    refine q_vu [qf 3 b3] 1 [10] [(20, vb true)] [] [] ?_
    exact q_J (true) hm
   ·replace hm := bif_f b3 hm
    refine q_vu [qf 3 b3] 1 [10] [(20, vb (decide (a1.Low > (w64 (60 - ((a1.Rows.length : Nat) : Int))))))] [] [] ?_
    exact q_J (decide (a1.Low > (w64 (60 - ((a1.Rows.length : Nat) : Int))))) hm

end Saw
end Go.SL

namespace Go.SL
namespace Saw
open Go.Proofs
set_option maxHeartbeats 4000000

def ref11_Check_x (r : Int) : V := vi r

def ref11_Check_o (r : Int) : List (Nat × (Nat × O)) := []

theorem ref11_Check_f (r : Int) : Frozen (ref11_Check_o r) := by
 intro i k o h
 unfold ref11_Check_o at h
 cases h

def ref11_Check_k2_S (a1 : List Slice) (x4 : Int) (x5 : Int) (x13 : Bool) : St :=
 ⟨[(0, vc (tl e_Slice default a1)), (3, vi x4), (4, vi x5), (50, vb x13)], []⟩

def ref11_Check_L1_S (a1 : List Slice) (x4 : Int) (x5 : Int) : St :=
 ⟨[(0, vc (tl e_Slice default a1)), (3, vi x4), (4, vi x5)], []⟩

def ref11_Check_L1_T : St :=
 ⟨[], []⟩

set_option maxRecDepth 100000 in
theorem ref11_Check_L1_ok (E : Env 0) (a1 : List Slice) : ∀ (n : Nat) (x4 : Int) (x5 : Int) (res : Int ⊕ Unit), ref11_Check_L1 a1 n x4 x5 = some res → HL (kx E 58 0) (nd Tryd.f54 500) (loopQ 0 (fun o => ref11_Check_L1_T) (fun v st => RetQ Tryd.prog Tryd.f54 (ref11_Check_x v) (ref11_Check_o v) .ret st) res) n (ref11_Check_L1_S a1 x4 x5) := by
 intro n
 induction n with
 | zero =>
  intro x4 x5 res hm
  cases hm
 | succ n ih =>
  intro x4 x5 res hm
  refine HL_succ ?_
  refine q_sq ?_
  refine q_sq ?_
  refine q_vu [] 0 [] [(15, vb (decide (x5 < ((a1.length : Nat) : Int))))] [] [] ?_
  refine q_cn (decide (x5 < ((a1.length : Nat) : Int))) (fun b6 => ?_) (fun b6 => ?_)
  ·replace hm := bif_t b6 hm
   refine q_sk ?_
   refine q_sq ?_
   refine q_bk 1 ?_
   refine q_sq ?_
   refine q_sq ?_
   obtain ⟨g7, hm⟩ := bif_n hm
   obtain ⟨v8, h9, hm⟩ := bind_s hm
   refine q_vu [qd 2 (Dir.none) (inb_of g7), qc 5 [22] 0 (ref10_Check_ok ((a1.getD x5.toNat default).Sec) v8 h9)] 0 [15] [(5, vi v8)] [] [] ?_
   refine q_sq ?_
   refine q_vu [] 0 [] [(25, vb (v8 != 0))] [] [] ?_
   refine q_cn (v8 != 0) (fun b10 => ?_) (fun b10 => ?_)
   ·replace hm := bif_t b10 hm
    refine q_sq ?_
    refine q_vn [] 0 ⟨[(2, vi v8)], []⟩ ?_
    obtain rfl := Option.some.inj hm
    refine q_rt ?_
    refine L1_ret v8 ?_
    exact q_rm
   ·replace hm := bif_f b10 hm
    refine q_sk ?_
    refine q_sq ?_
    refine q_sq ?_
    refine q_vu [qd 2 (Dir.none) (inb_of g7)] 0 [5, 25] [(34, vb ((((((a1.getD x5.toNat default).Sec).Rows).length : Nat) : Int) == 0))] [] [] ?_
    refine q_cn ((((((a1.getD x5.toNat default).Sec).Rows).length : Nat) : Int) == 0) (fun b11 => ?_) (fun b11 => ?_)
    ·replace hm := bif_t b11 hm
     refine q_sq ?_
     refine q_vn [] 0 ⟨[(2, vi 18)], []⟩ ?_
     obtain rfl := Option.some.inj hm
     refine q_rt ?_
     refine L1_ret 18 ?_
     exact q_rm
    ·replace hm := bif_f b11 hm
     refine q_sk ?_
     refine q_sq ?_
     refine q_jn (ι := Bool) (fun p => ref11_Check_k2_S a1 x4 x5 p) (fun p => ref11_Check_k2 a1 x4 x5 (ref11_Check_L1 a1 n) p = some res) ?_ ?_
     ·rintro x13 hm
      show H _ (ref11_Check_k2_S a1 x4 x5 x13) _ _
      refine q_cn x13 (fun b14 => ?_) (fun b14 => ?_)
      ·replace hm := bif_t b14 hm
       refine q_sq ?_
       refine q_vn [] 0 ⟨[(2, vi 9)], []⟩ ?_
       obtain rfl := Option.some.inj hm
       refine q_rt ?_
       refine L1_ret 9 ?_
       exact q_rm
      ·replace hm := bif_f b14 hm
       refine q_sk ?_
       refine q_vu [qd 3 (Dir.none) (inb_of g7)] 0 [3, 50] [(3, vi (w64 (x4 + ((a1.getD x5.toNat default).Len))))] [] [] ?_
       refine q_vu [] 0 [4] [(4, vi (w64 (x5 + 1)))] [] [] ?_
       exact q_hl (ref11_Check_L1_S a1 (w64 (x4 + ((a1.getD x5.toNat default).Len))) (w64 (x5 + 1))) (ih (w64 (x4 + ((a1.getD x5.toNat default).Len))) (w64 (x5 + 1)) _ hm)
     ·rcases Bool.eq_false_or_eq_true (decide (((a1.getD x5.toNat default).Len) < 1)) with b12 | b12
      ·replace hm := bif_t b12 hm
       refine q_vu [qd 2 (Dir.none) (inb_of g7), qf 6 b12] 0 [34] [(50, vb true)] [] [] ?_
       exact q_J (true) hm
      ·replace hm := bif_f b12 hm
       refine q_vu [qd 2 (Dir.none) (inb_of g7), qf 6 b12, qd 9 (Dir.none) (inb_of g7)] 0 [34] [(42, vc (tl e_Slice default a1)), (43, vi x5), (44, vc (.lptr (e_Slice (a1.getD x5.toNat default)))), (45, vc (.lptr (e_Slice (a1.getD x5.toNat default)))), (46, vi ((a1.getD x5.toNat default).Len)), (47, vi x4), (48, vi (w64 (20000 - x4))), (49, vb (decide (((a1.getD x5.toNat default).Len) > (w64 (20000 - x4))))), (50, vb (decide (((a1.getD x5.toNat default).Len) > (w64 (20000 - x4)))))] [] [] ?_
       exact q_J (decide (((a1.getD x5.toNat default).Len) > (w64 (20000 - x4)))) hm
  ·replace hm := bif_f b6 hm
   refine q_ex 0 ?_
   obtain rfl := Option.some.inj hm
   exact L1_mk () (by kernel_rfl) (by kernel_rfl)

set_option maxRecDepth 100000 in
theorem ref11_Check_ok (a1 : List Slice) (r : Int) (hm : ref11_Check a1 = some r) : CtX Tryd.prog globs 54 0 0 [.one (tl e_Slice default a1)] [] (ref11_Check_x r) (ref11_Check_o r) := by
 unfold ref11_Check at hm
 refine q_E Tryd.f54 58 fun E => ?_
 refine q_sq ?_
 refine q_vn [] 0 ⟨[(0, vc (tl e_Slice default a1))], []⟩ ?_
 refine q_sq ?_
 refine q_sq ?_
 refine q_vu [] 0 [] [(8, vb (((a1.length : Nat) : Int) == 0))] [] [] ?_
 refine q_cn (((a1.length : Nat) : Int) == 0) (fun b2 => ?_) (fun b2 => ?_)
 ·replace hm := bif_t b2 hm
  refine q_sq ?_
  refine q_vn [] 0 ⟨[(2, vi 3)], []⟩ ?_
  obtain rfl := Option.some.inj hm
  refine q_rt ?_
  exact q_rm
 ·replace hm := bif_f b2 hm
  refine q_sk ?_
  refine q_sq ?_
  refine q_sq ?_
  refine q_vu [] 0 [8] [(11, vb (decide (((a1.length : Nat) : Int) > 24)))] [] [] ?_
  refine q_cn (decide (((a1.length : Nat) : Int) > 24)) (fun b3 => ?_) (fun b3 => ?_)
  ·replace hm := bif_t b3 hm
   refine q_sq ?_
   refine q_vn [] 0 ⟨[(2, vi 4)], []⟩ ?_
   obtain rfl := Option.some.inj hm
   refine q_rt ?_
   exact q_rm
  ·replace hm := bif_f b3 hm
   refine q_sk ?_
   refine q_sq ?_
   refine q_vu [] 0 [11] [(3, vi 0)] [] [] ?_
   refine q_sq ?_
   refine q_sq ?_
   refine q_vu [] 0 [] [(4, vi 0)] [] [] ?_
   obtain ⟨u17, h16, hm⟩ := bind_s hm
   refine R_loop1 (nd Tryd.f54 500) 0 (by kernel_rfl) FUEL (fun o => ref11_Check_L1_T) (fun v st => RetQ Tryd.prog Tryd.f54 (ref11_Check_x v) (ref11_Check_o v) .ret st) u17 (q_hl (ref11_Check_L1_S a1 0 0) (ref11_Check_L1_ok E a1 FUEL 0 0 u17 h16)) ?_ ?_
   ·rintro v18 rfl st hr
    obtain rfl := Option.some.inj hm
    exact hr
   ·rintro o15 rfl
    replace hm : _ = some r := hm
    refine q_sq ?_
    refine q_vn [] 0 ⟨[(2, vi 0)], []⟩ ?_
    obtain rfl := Option.some.inj hm
    refine q_rt ?_
    exact q_rm

end Saw
end Go.SL

namespace Go.SL
namespace Saw
open Go.Proofs
set_option maxHeartbeats 4000000

def ref11_Length_x (r : Int) : V := vi r

def ref11_Length_o (r : Int) : List (Nat × (Nat × O)) := []

theorem ref11_Length_f (r : Int) : Frozen (ref11_Length_o r) := by
 intro i k o h
 unfold ref11_Length_o at h
 cases h

def ref11_Length_L1_S (a1 : List Slice) (x5 : Int) (x6 : Int) : St :=
 ⟨[(0, vc (tl e_Slice default a1)), (3, vi x5), (4, vi x6)], []⟩

def ref11_Length_L1_T (x9 : Int) : St :=
 ⟨[(3, vi x9)], []⟩

set_option maxRecDepth 100000 in
theorem ref11_Length_L1_ok (E : Env 0) (a1 : List Slice) : ∀ (n : Nat) (x5 : Int) (x6 : Int) (res : Int), ref11_Length_L1 a1 n x5 x6 = some res → HL (kx E 22 0) (nd Tryd.f27 244) (loopQ0 0 (fun o => ref11_Length_L1_T o) res) n (ref11_Length_L1_S a1 x5 x6) := by
 intro n
 induction n with
 | zero =>
  intro x5 x6 res hm
  cases hm
 | succ n ih =>
  intro x5 x6 res hm
  refine HL_succ ?_
  refine q_sq ?_
  refine q_sq ?_
  refine q_vu [] 0 [] [(11, vb (decide (x6 < ((a1.length : Nat) : Int))))] [] [] ?_
  refine q_cn (decide (x6 < ((a1.length : Nat) : Int))) (fun b7 => ?_) (fun b7 => ?_)
  ·replace hm := bif_t b7 hm
   refine q_sk ?_
   refine q_sq ?_
   refine q_bk 1 ?_
   obtain ⟨g8, hm⟩ := bif_n hm
   refine q_vu [qd 3 (Dir.none) (inb_of g8)] 0 [3, 11] [(3, vi (w64 (x5 + ((a1.getD x6.toNat default).Len))))] [] [] ?_
   refine q_vu [] 0 [4] [(4, vi (w64 (x6 + 1)))] [] [] ?_
   exact q_hl (ref11_Length_L1_S a1 (w64 (x5 + ((a1.getD x6.toNat default).Len))) (w64 (x6 + 1))) (ih (w64 (x5 + ((a1.getD x6.toNat default).Len))) (w64 (x6 + 1)) _ hm)
  ·replace hm := bif_f b7 hm
   refine q_ex 0 ?_
   obtain rfl := Option.some.inj hm
   exact L0_mk (by kernel_rfl) (by kernel_rfl)

set_option maxRecDepth 100000 in
theorem ref11_Length_ok (a1 : List Slice) (r : Int) (hm : ref11_Length a1 = some r) : CtX Tryd.prog globs 27 0 0 [.one (tl e_Slice default a1)] [] (ref11_Length_x r) (ref11_Length_o r) := by
 unfold ref11_Length at hm
 refine q_E Tryd.f27 22 fun E => ?_
 refine q_sq ?_
 refine q_vn [] 0 ⟨[(0, vc (tl e_Slice default a1))], []⟩ ?_
 refine q_sq ?_
 refine q_sq ?_
 obtain ⟨v2, h3, hm⟩ := bind_s hm
 refine q_vu [qc 1 [5] 0 (ref11_Check_ok a1 v2 h3)] 0 [] [(7, vb (v2 != 0))] [] [] ?_
 refine q_cn (v2 != 0) (fun b4 => ?_) (fun b4 => ?_)
 ·replace hm := bif_t b4 hm
  refine q_sq ?_
  refine q_vn [] 0 ⟨[(2, vi 0)], []⟩ ?_
  obtain rfl := Option.some.inj hm
  refine q_rt ?_
  exact q_rm
 ·replace hm := bif_f b4 hm
  refine q_sk ?_
  refine q_sq ?_
  refine q_vu [] 0 [7] [(3, vi 0)] [] [] ?_
  refine q_sq ?_
  refine q_sq ?_
  refine q_vu [] 0 [] [(4, vi 0)] [] [] ?_
  obtain ⟨o10, h11, hm⟩ := bind_s hm
  refine R_loop0 (nd Tryd.f27 244) 0 (by kernel_rfl) FUEL (fun o => ref11_Length_L1_T o) o10 (q_hl (ref11_Length_L1_S a1 0 0) (ref11_Length_L1_ok E a1 FUEL 0 0 o10 h11)) ?_
  refine q_sq ?_
  refine q_vn [] 0 ⟨[(2, vi o10)], []⟩ ?_
  obtain rfl := Option.some.inj hm
  refine q_rt ?_
  exact q_rm

end Saw
end Go.SL
