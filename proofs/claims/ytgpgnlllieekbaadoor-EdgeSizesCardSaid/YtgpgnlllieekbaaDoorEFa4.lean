import Derived.Test.YtgpgnlllieekbaaDoorEBase
import Derived.Test.YtgpgnlllieekbaaDoorEFa2
import Derived.Test.YtgpgnlllieekbaaDoorEFa3
set_option linter.unusedVariables false
set_option linter.unusedSimpArgs false
namespace Go.SL
namespace Saw
open Go.Proofs
set_option maxHeartbeats 4000000

def product_Find_x (r : Int × Bool) : V := .tup [.one (ci r.1), .one (cb r.2)]

def product_Find_o (r : Int × Bool) : List (Nat × (Nat × O)) := []

theorem product_Find_f (r : Int × Bool) : Frozen (product_Find_o r) := by
  intro i k o h
  unfold product_Find_o at h
  cases h

def product_Find_L1_S (a1 : List Product) (a2 : ByteArray) (x3 : Int) : St :=
  ⟨[(1, vc (cs a2)), (8, vc (tl e_Product default a1)), (9, vi ((a1.length : Nat) : Int)), (10, vi x3)], []⟩

def product_Find_L1_T : St :=
  ⟨[], []⟩

set_option maxRecDepth 100000 in
theorem product_Find_L1_ok (E : Env 0) (a1 : List Product) (a2 : ByteArray) : ∀ (n : Nat) (x3 : Int) (res : (Int × Bool) ⊕ Unit), product_Find_L1 a1 a2 n x3 = some res → HL (kx E 21 0) (nd Tryd.f47 52) (loopQ 0 (fun o => product_Find_L1_T) (fun v st => RetQ Tryd.prog Tryd.f47 (product_Find_x v) (product_Find_o v) .ret st) res) n (product_Find_L1_S a1 a2 x3) := by
  intro n
  induction n with
  | zero =>
    intro x3 res hm
    cases hm
  | succ n ih =>
    intro x3 res hm
    refine HL_succ ?_
    refine R_sq Tryd.f47 104 105 (by kernel_rfl) ?_
    refine R_rn Tryd.f47 104 2 [] [] 0 ⟨[(1, vc (cs a2)), (8, vc (tl e_Product default a1)), (9, vi ((a1.length : Nat) : Int)), (10, vi x3), (11, vb (decide (x3 < ((a1.length : Nat) : Int))))], []⟩ o0 (by kernel_rfl) (by kernel_rfl) ?_
    refine R_sq Tryd.f47 210 211 (by kernel_rfl) ?_
    refine R_cn Tryd.f47 (.tmp 11) 420 421 (by kernel_rfl) (decide (x3 < ((a1.length : Nat) : Int))) (by kernel_rfl) (fun b4 => ?_) (fun b4 => ?_)
    · replace hm := bif_t b4 hm
      refine R_skip (by kernel_rfl) ?_
      refine R_sq Tryd.f47 422 423 (by kernel_rfl) ?_
      refine R_bk Tryd.f47 1 844 (by kernel_rfl) ?_
      refine R_sq Tryd.f47 1688 1689 (by kernel_rfl) ?_
      obtain ⟨g5, hm⟩ := bif_n hm
      refine R_rn Tryd.f47 1688 3 [] [] 0 ⟨[(1, vc (cs a2)), (6, vi x3), (7, vp 0 0), (8, vc (tl e_Product default a1)), (9, vi ((a1.length : Nat) : Int)), (10, vi x3)], [(0, bx 43 [cs ((a1.getD x3.toNat default).Name), ci ((a1.getD x3.toNat default).Thick), ci ((a1.getD x3.toNat default).Width), ci ((a1.getD x3.toNat default).Allow), ci ((a1.getD x3.toNat default).Wane), tl e_i64 default ((a1.getD x3.toNat default).Lengths), tl e_i64 default ((a1.getD x3.toNat default).Prices)])]⟩ (o1 (inb_of g5)) (by kernel_rfl) (by kernel_rfl) ?_
      refine R_sq Tryd.f47 3378 3379 (by kernel_rfl) ?_
      refine R_rn Tryd.f47 3378 4 [] [] 1 ⟨[(1, vc (cs a2)), (6, vi x3), (8, vc (tl e_Product default a1)), (9, vi ((a1.length : Nat) : Int)), (10, vi x3), (18, vb (strEq ((a1.getD x3.toNat default).Name) a2))], []⟩ o0 (by kernel_rfl) (by kernel_rfl) ?_
      refine R_cn Tryd.f47 (.tmp 18) 6758 6759 (by kernel_rfl) (strEq ((a1.getD x3.toNat default).Name) a2) (by kernel_rfl) (fun b6 => ?_) (fun b6 => ?_)
      · replace hm := bif_t b6 hm
        refine R_sq Tryd.f47 13516 13517 (by kernel_rfl) ?_
        refine R_rn Tryd.f47 13516 5 [] [] 1 ⟨[(4, vi x3), (5, vb true)], []⟩ o0 (by kernel_rfl) (by kernel_rfl) ?_
        obtain rfl := Option.some.inj hm
        refine R_ret (by kernel_rfl) ?_
        refine L1_ret (x3, true) ?_
        exact ret_mk (by kernel_rfl) (by kernel_rfl)
      · replace hm := bif_f b6 hm
        refine R_skip (by kernel_rfl) ?_
        refine R_rn Tryd.f47 423 6 [] [] 1 ⟨[(1, vc (cs a2)), (8, vc (tl e_Product default a1)), (9, vi ((a1.length : Nat) : Int)), (10, vi (w64 (x3 + 1)))], []⟩ o0 (by kernel_rfl) (by kernel_rfl) ?_
        exact HL_enter (product_Find_L1_S a1 a2 (w64 (x3 + 1))) (by kernel_rfl) (by kernel_rfl) (ih (w64 (x3 + 1)) _ hm)
    · replace hm := bif_f b4 hm
      refine R_exit 0 (by kernel_rfl) ?_
      obtain rfl := Option.some.inj hm
      exact L1_mk () (by kernel_rfl) (by kernel_rfl)

set_option maxRecDepth 100000 in
theorem product_Find_ok (a1 : List Product) (a2 : ByteArray) (r : Int × Bool) (hm : product_Find a1 a2 = some r) : CtX Tryd.prog globs 47 0 0 [.one (tl e_Product default a1), .one (cs a2)] [] (product_Find_x r) (product_Find_o r) := by
  unfold product_Find at hm
  refine CtX_of_E (fn := Tryd.f47) (c := nd Tryd.f47 1) (nt := 21) (by kernel_rfl) (by kernel_rfl) (by kernel_rfl) (by kernel_rfl) fun E => ?_
  refine R_sq Tryd.f47 2 3 (by kernel_rfl) ?_
  refine R_rn Tryd.f47 2 0 [] [] 0 ⟨[(0, vc (tl e_Product default a1)), (1, vc (cs a2))], []⟩ o0 (by kernel_rfl) (by kernel_rfl) ?_
  refine R_sq Tryd.f47 6 7 (by kernel_rfl) ?_
  refine R_sq Tryd.f47 12 13 (by kernel_rfl) ?_
  refine R_rn Tryd.f47 12 1 [] [] 0 ⟨[(1, vc (cs a2)), (8, vc (tl e_Product default a1)), (9, vi ((a1.length : Nat) : Int)), (10, vi 0)], []⟩ o0 (by kernel_rfl) (by kernel_rfl) ?_
  obtain ⟨u9, h8, hm⟩ := bind_s hm
  refine R_loop1 (nd Tryd.f47 52) 0 (by kernel_rfl) FUEL (fun o => product_Find_L1_T) (fun v st => RetQ Tryd.prog Tryd.f47 (product_Find_x v) (product_Find_o v) .ret st) u9 (HL_enter (product_Find_L1_S a1 a2 0) (by kernel_rfl) (by kernel_rfl) (product_Find_L1_ok E a1 a2 FUEL 0 u9 h8)) ?_ ?_
  · rintro v10 rfl st hr
    obtain rfl := Option.some.inj hm
    exact hr
  · rintro o7 rfl
    replace hm : _ = some r := hm
    refine R_sq Tryd.f47 14 15 (by kernel_rfl) ?_
    refine R_rn Tryd.f47 14 7 [] [] 0 ⟨[(4, vi 0), (5, vb false)], []⟩ o0 (by kernel_rfl) (by kernel_rfl) ?_
    obtain rfl := Option.some.inj hm
    refine R_ret (by kernel_rfl) ?_
    exact ret_mk (by kernel_rfl) (by kernel_rfl)

end Saw
end Go.SL

namespace Go.SL
namespace Saw
open Go.Proofs
set_option maxHeartbeats 4000000

def product_checkNumbers_x (r : Int) : V := vi r

def product_checkNumbers_o (r : Int) : List (Nat × (Nat × O)) := []

theorem product_checkNumbers_f (r : Int) : Frozen (product_checkNumbers_o r) := by
  intro i k o h
  unfold product_checkNumbers_o at h
  cases h

def product_checkNumbers_k5_S (a1 : Product) (x18 : Int) (x26 : Bool) : St :=
  ⟨[(1, vp 0 0), (70, vc (tl e_i64 default a1.Lengths)), (71, vi ((a1.Lengths.length : Nat) : Int)), (72, vi x18), (94, vb x26)], [(0, bx 43 [cs a1.Name, ci a1.Thick, ci a1.Width, ci a1.Allow, ci a1.Wane, tl e_i64 default a1.Lengths, tl e_i64 default a1.Prices])]⟩

def product_checkNumbers_k4_S (a1 : Product) (x18 : Int) (x22 : Bool) : St :=
  ⟨[(1, vp 0 0), (5, vi x18), (6, vi (a1.Lengths.getD x18.toNat default)), (70, vc (tl e_i64 default a1.Lengths)), (71, vi ((a1.Lengths.length : Nat) : Int)), (72, vi x18), (82, vb x22)], [(0, bx 43 [cs a1.Name, ci a1.Thick, ci a1.Width, ci a1.Allow, ci a1.Wane, tl e_i64 default a1.Lengths, tl e_i64 default a1.Prices])]⟩

def product_checkNumbers_L3_S (a1 : Product) (x18 : Int) : St :=
  ⟨[(1, vp 0 0), (70, vc (tl e_i64 default a1.Lengths)), (71, vi ((a1.Lengths.length : Nat) : Int)), (72, vi x18)], [(0, bx 43 [cs a1.Name, ci a1.Thick, ci a1.Width, ci a1.Allow, ci a1.Wane, tl e_i64 default a1.Lengths, tl e_i64 default a1.Prices])]⟩

def product_checkNumbers_L3_T (a1 : Product) : St :=
  ⟨[(1, vp 0 0)], [(0, bx 43 [cs a1.Name, ci a1.Thick, ci a1.Width, ci a1.Allow, ci a1.Wane, tl e_i64 default a1.Lengths, tl e_i64 default a1.Prices])]⟩

def product_checkNumbers_k7_S (a1 : Product) (x32 : Int) (x36 : Bool) : St :=
  ⟨[(97, vc (tl e_i64 default a1.Prices)), (98, vi ((a1.Prices.length : Nat) : Int)), (99, vi x32), (108, vb x36)], []⟩

def product_checkNumbers_L6_S (a1 : Product) (x32 : Int) : St :=
  ⟨[(97, vc (tl e_i64 default a1.Prices)), (98, vi ((a1.Prices.length : Nat) : Int)), (99, vi x32)], []⟩

def product_checkNumbers_L6_T : St :=
  ⟨[], []⟩

def product_checkNumbers_k2_S (a1 : Product) (x10 : Bool) : St :=
  ⟨[(1, vp 0 0), (46, vb x10)], [(0, bx 43 [cs a1.Name, ci a1.Thick, ci a1.Width, ci a1.Allow, ci a1.Wane, tl e_i64 default a1.Lengths, tl e_i64 default a1.Prices])]⟩

def product_checkNumbers_k1_S (a1 : Product) (x5 : Bool) : St :=
  ⟨[(1, vp 0 0), (28, vb x5)], [(0, bx 43 [cs a1.Name, ci a1.Thick, ci a1.Width, ci a1.Allow, ci a1.Wane, tl e_i64 default a1.Lengths, tl e_i64 default a1.Prices])]⟩

set_option maxRecDepth 100000 in
theorem product_checkNumbers_L3_ok (E : Env 0) (a1 : Product) : ∀ (n : Nat) (x18 : Int) (res : Int ⊕ Unit), product_checkNumbers_L3 a1 n x18 = some res → HL (kx E 110 0) (nd Tryd.f48 4084) (loopQ 0 (fun o => product_checkNumbers_L3_T a1) (fun v st => RetQ Tryd.prog Tryd.f48 (product_checkNumbers_x v) (product_checkNumbers_o v) .ret st) res) n (product_checkNumbers_L3_S a1 x18) := by
  intro n
  induction n with
  | zero =>
    intro x18 res hm
    cases hm
  | succ n ih =>
    intro x18 res hm
    refine HL_succ ?_
    refine R_sq Tryd.f48 8168 8169 (by kernel_rfl) ?_
    refine R_rn Tryd.f48 8168 15 [] [] 1 ⟨[(1, vp 0 0), (70, vc (tl e_i64 default a1.Lengths)), (71, vi ((a1.Lengths.length : Nat) : Int)), (72, vi x18), (73, vb (decide (x18 < ((a1.Lengths.length : Nat) : Int))))], [(0, bx 43 [cs a1.Name, ci a1.Thick, ci a1.Width, ci a1.Allow, ci a1.Wane, tl e_i64 default a1.Lengths, tl e_i64 default a1.Prices])]⟩ o0 (by kernel_rfl) (by kernel_rfl) ?_
    refine R_sq Tryd.f48 16338 16339 (by kernel_rfl) ?_
    refine R_cn Tryd.f48 (.tmp 73) 32676 32677 (by kernel_rfl) (decide (x18 < ((a1.Lengths.length : Nat) : Int))) (by kernel_rfl) (fun b19 => ?_) (fun b19 => ?_)
    · replace hm := bif_t b19 hm
      refine R_skip (by kernel_rfl) ?_
      refine R_sq Tryd.f48 32678 32679 (by kernel_rfl) ?_
      refine R_bk Tryd.f48 1 65356 (by kernel_rfl) ?_
      refine R_sq Tryd.f48 130712 130713 (by kernel_rfl) ?_
      obtain ⟨g20, hm⟩ := bif_n hm
      refine R_rn Tryd.f48 130712 16 [] [] 1 ⟨[(1, vp 0 0), (5, vi x18), (6, vi (a1.Lengths.getD x18.toNat default)), (70, vc (tl e_i64 default a1.Lengths)), (71, vi ((a1.Lengths.length : Nat) : Int)), (72, vi x18)], [(0, bx 43 [cs a1.Name, ci a1.Thick, ci a1.Width, ci a1.Allow, ci a1.Wane, tl e_i64 default a1.Lengths, tl e_i64 default a1.Prices])]⟩ (o1 (inb_of g20)) (by kernel_rfl) (by kernel_rfl) ?_
      refine R_sq Tryd.f48 261426 261427 (by kernel_rfl) ?_
      refine R_join (ι := Bool) (nd Tryd.f48 522852) (nd Tryd.f48 522853) (by kernel_rfl) (fun p => product_checkNumbers_k4_S a1 x18 p) (fun p => product_checkNumbers_k4 a1 x18 (product_checkNumbers_L3 a1 n) p = some res) ?_ ?_
      · rintro x22 hm
        show H _ (product_checkNumbers_k4_S a1 x18 x22) (nd Tryd.f48 522853) _
        refine R_cn Tryd.f48 (.tmp 82) 1045706 1045707 (by kernel_rfl) x22 (by kernel_rfl) (fun b23 => ?_) (fun b23 => ?_)
        · replace hm := bif_t b23 hm
          refine R_sq Tryd.f48 2091412 2091413 (by kernel_rfl) ?_
          refine R_rn Tryd.f48 2091412 18 [] [] 1 ⟨[(2, vi 9)], []⟩ o0 (by kernel_rfl) (by kernel_rfl) ?_
          obtain rfl := Option.some.inj hm
          refine R_ret (by kernel_rfl) ?_
          refine L1_ret 9 ?_
          exact ret_mk (by kernel_rfl) (by kernel_rfl)
        · replace hm := bif_f b23 hm
          refine R_skip (by kernel_rfl) ?_
          refine R_join (ι := Bool) (nd Tryd.f48 522854) (nd Tryd.f48 522855) (by kernel_rfl) (fun p => product_checkNumbers_k5_S a1 x18 p) (fun p => product_checkNumbers_k5 x18 (product_checkNumbers_L3 a1 n) p = some res) ?_ ?_
          · rintro x26 hm
            show H _ (product_checkNumbers_k5_S a1 x18 x26) (nd Tryd.f48 522855) _
            refine R_cn Tryd.f48 (.tmp 94) 1045710 1045711 (by kernel_rfl) x26 (by kernel_rfl) (fun b27 => ?_) (fun b27 => ?_)
            · replace hm := bif_t b27 hm
              refine R_sq Tryd.f48 2091420 2091421 (by kernel_rfl) ?_
              refine R_rn Tryd.f48 2091420 20 [] [] 1 ⟨[(2, vi 11)], []⟩ o0 (by kernel_rfl) (by kernel_rfl) ?_
              obtain rfl := Option.some.inj hm
              refine R_ret (by kernel_rfl) ?_
              refine L1_ret 11 ?_
              exact ret_mk (by kernel_rfl) (by kernel_rfl)
            · replace hm := bif_f b27 hm
              refine R_skip (by kernel_rfl) ?_
              refine R_rn Tryd.f48 32679 21 [] [] 1 ⟨[(1, vp 0 0), (70, vc (tl e_i64 default a1.Lengths)), (71, vi ((a1.Lengths.length : Nat) : Int)), (72, vi (w64 (x18 + 1)))], [(0, bx 43 [cs a1.Name, ci a1.Thick, ci a1.Width, ci a1.Allow, ci a1.Wane, tl e_i64 default a1.Lengths, tl e_i64 default a1.Prices])]⟩ o0 (by kernel_rfl) (by kernel_rfl) ?_
              exact HL_enter (product_checkNumbers_L3_S a1 (w64 (x18 + 1))) (by kernel_rfl) (by kernel_rfl) (ih (w64 (x18 + 1)) _ hm)
          · rcases Bool.eq_false_or_eq_true (decide (x18 > 0)) with b24 | b24
            · replace hm := bif_t b24 hm
              obtain ⟨g25, hm⟩ := bif_n hm
              refine R_rn Tryd.f48 522854 19 [(2, dfx true)] [] 1 ⟨[(1, vp 0 0), (70, vc (tl e_i64 default a1.Lengths)), (71, vi ((a1.Lengths.length : Nat) : Int)), (72, vi x18), (86, vi (a1.Lengths.getD x18.toNat default)), (87, vp 0 5), (88, vc (tl e_i64 default a1.Lengths)), (89, vi x18), (90, vi (w64 (x18 - 1))), (91, vc (.lptr (e_i64 (a1.Lengths.getD (w64 (x18 - 1)).toNat default)))), (92, vi (a1.Lengths.getD (w64 (x18 - 1)).toNat default)), (93, vb (decide ((a1.Lengths.getD x18.toNat default) ≤ (a1.Lengths.getD (w64 (x18 - 1)).toNat default)))), (94, vb (decide ((a1.Lengths.getD x18.toNat default) ≤ (a1.Lengths.getD (w64 (x18 - 1)).toNat default))))], [(0, bx 43 [cs a1.Name, ci a1.Thick, ci a1.Width, ci a1.Allow, ci a1.Wane, tl e_i64 default a1.Lengths, tl e_i64 default a1.Prices])]⟩ (o1 (And.intro b24 (inb_of g25))) (by kernel_rfl) (by kernel_rfl) ?_
              exact J_mk (decide ((a1.Lengths.getD x18.toNat default) ≤ (a1.Lengths.getD (w64 (x18 - 1)).toNat default))) hm (by kernel_rfl) (by kernel_rfl)
            · replace hm := bif_f b24 hm
              refine R_rn Tryd.f48 522854 19 [(2, dfx false)] [] 1 ⟨[(1, vp 0 0), (70, vc (tl e_i64 default a1.Lengths)), (71, vi ((a1.Lengths.length : Nat) : Int)), (72, vi x18), (94, vb false)], [(0, bx 43 [cs a1.Name, ci a1.Thick, ci a1.Width, ci a1.Allow, ci a1.Wane, tl e_i64 default a1.Lengths, tl e_i64 default a1.Prices])]⟩ (o1 b24) (by kernel_rfl) (by kernel_rfl) ?_
              exact J_mk (false) hm (by kernel_rfl) (by kernel_rfl)
      · rcases Bool.eq_false_or_eq_true (decide ((a1.Lengths.getD x18.toNat default) < 100)) with b21 | b21
        · replace hm := bif_t b21 hm
          refine R_rn Tryd.f48 522852 17 [(2, dfx true)] [] 1 ⟨[(1, vp 0 0), (5, vi x18), (6, vi (a1.Lengths.getD x18.toNat default)), (70, vc (tl e_i64 default a1.Lengths)), (71, vi ((a1.Lengths.length : Nat) : Int)), (72, vi x18), (82, vb true)], [(0, bx 43 [cs a1.Name, ci a1.Thick, ci a1.Width, ci a1.Allow, ci a1.Wane, tl e_i64 default a1.Lengths, tl e_i64 default a1.Prices])]⟩ (o1 b21) (by kernel_rfl) (by kernel_rfl) ?_
          exact J_mk (true) hm (by kernel_rfl) (by kernel_rfl)
        · replace hm := bif_f b21 hm
          refine R_rn Tryd.f48 522852 17 [(2, dfx false)] [] 1 ⟨[(1, vp 0 0), (5, vi x18), (6, vi (a1.Lengths.getD x18.toNat default)), (70, vc (tl e_i64 default a1.Lengths)), (71, vi ((a1.Lengths.length : Nat) : Int)), (72, vi x18), (80, vi (a1.Lengths.getD x18.toNat default)), (81, vb (decide ((a1.Lengths.getD x18.toNat default) > 20000))), (82, vb (decide ((a1.Lengths.getD x18.toNat default) > 20000)))], [(0, bx 43 [cs a1.Name, ci a1.Thick, ci a1.Width, ci a1.Allow, ci a1.Wane, tl e_i64 default a1.Lengths, tl e_i64 default a1.Prices])]⟩ (o1 b21) (by kernel_rfl) (by kernel_rfl) ?_
          exact J_mk (decide ((a1.Lengths.getD x18.toNat default) > 20000)) hm (by kernel_rfl) (by kernel_rfl)
    · replace hm := bif_f b19 hm
      refine R_exit 0 (by kernel_rfl) ?_
      obtain rfl := Option.some.inj hm
      exact L1_mk () (by kernel_rfl) (by kernel_rfl)

set_option maxRecDepth 100000 in
theorem product_checkNumbers_L6_ok (E : Env 0) (a1 : Product) : ∀ (n : Nat) (x32 : Int) (res : Int ⊕ Unit), product_checkNumbers_L6 a1 n x32 = some res → HL (kx E 110 0) (nd Tryd.f48 8180) (loopQ 2 (fun o => product_checkNumbers_L6_T) (fun v st => RetQ Tryd.prog Tryd.f48 (product_checkNumbers_x v) (product_checkNumbers_o v) .ret st) res) n (product_checkNumbers_L6_S a1 x32) := by
  intro n
  induction n with
  | zero =>
    intro x32 res hm
    cases hm
  | succ n ih =>
    intro x32 res hm
    refine HL_succ ?_
    refine R_sq Tryd.f48 16360 16361 (by kernel_rfl) ?_
    refine R_rn Tryd.f48 16360 23 [] [] 1 ⟨[(97, vc (tl e_i64 default a1.Prices)), (98, vi ((a1.Prices.length : Nat) : Int)), (99, vi x32), (100, vb (decide (x32 < ((a1.Prices.length : Nat) : Int))))], []⟩ o0 (by kernel_rfl) (by kernel_rfl) ?_
    refine R_sq Tryd.f48 32722 32723 (by kernel_rfl) ?_
    refine R_cn Tryd.f48 (.tmp 100) 65444 65445 (by kernel_rfl) (decide (x32 < ((a1.Prices.length : Nat) : Int))) (by kernel_rfl) (fun b33 => ?_) (fun b33 => ?_)
    · replace hm := bif_t b33 hm
      refine R_skip (by kernel_rfl) ?_
      refine R_sq Tryd.f48 65446 65447 (by kernel_rfl) ?_
      refine R_bk Tryd.f48 3 130892 (by kernel_rfl) ?_
      refine R_sq Tryd.f48 261784 261785 (by kernel_rfl) ?_
      obtain ⟨g34, hm⟩ := bif_n hm
      refine R_rn Tryd.f48 261784 24 [] [] 1 ⟨[(8, vi (a1.Prices.getD x32.toNat default)), (97, vc (tl e_i64 default a1.Prices)), (98, vi ((a1.Prices.length : Nat) : Int)), (99, vi x32)], []⟩ (o1 (inb_of g34)) (by kernel_rfl) (by kernel_rfl) ?_
      refine R_join (ι := Bool) (nd Tryd.f48 523570) (nd Tryd.f48 523571) (by kernel_rfl) (fun p => product_checkNumbers_k7_S a1 x32 p) (fun p => product_checkNumbers_k7 x32 (product_checkNumbers_L6 a1 n) p = some res) ?_ ?_
      · rintro x36 hm
        show H _ (product_checkNumbers_k7_S a1 x32 x36) (nd Tryd.f48 523571) _
        refine R_cn Tryd.f48 (.tmp 108) 1047142 1047143 (by kernel_rfl) x36 (by kernel_rfl) (fun b37 => ?_) (fun b37 => ?_)
        · replace hm := bif_t b37 hm
          refine R_sq Tryd.f48 2094284 2094285 (by kernel_rfl) ?_
          refine R_rn Tryd.f48 2094284 26 [] [] 1 ⟨[(2, vi 9)], []⟩ o0 (by kernel_rfl) (by kernel_rfl) ?_
          obtain rfl := Option.some.inj hm
          refine R_ret (by kernel_rfl) ?_
          refine L1_ret 9 ?_
          exact ret_mk (by kernel_rfl) (by kernel_rfl)
        · replace hm := bif_f b37 hm
          refine R_skip (by kernel_rfl) ?_
          refine R_rn Tryd.f48 65447 27 [] [] 1 ⟨[(97, vc (tl e_i64 default a1.Prices)), (98, vi ((a1.Prices.length : Nat) : Int)), (99, vi (w64 (x32 + 1)))], []⟩ o0 (by kernel_rfl) (by kernel_rfl) ?_
          exact HL_enter (product_checkNumbers_L6_S a1 (w64 (x32 + 1))) (by kernel_rfl) (by kernel_rfl) (ih (w64 (x32 + 1)) _ hm)
      · rcases Bool.eq_false_or_eq_true (decide ((a1.Prices.getD x32.toNat default) < 0)) with b35 | b35
        · replace hm := bif_t b35 hm
          refine R_rn Tryd.f48 523570 25 [(2, dfx true)] [] 1 ⟨[(97, vc (tl e_i64 default a1.Prices)), (98, vi ((a1.Prices.length : Nat) : Int)), (99, vi x32), (108, vb true)], []⟩ (o1 b35) (by kernel_rfl) (by kernel_rfl) ?_
          exact J_mk (true) hm (by kernel_rfl) (by kernel_rfl)
        · replace hm := bif_f b35 hm
          refine R_rn Tryd.f48 523570 25 [(2, dfx false)] [] 1 ⟨[(97, vc (tl e_i64 default a1.Prices)), (98, vi ((a1.Prices.length : Nat) : Int)), (99, vi x32), (106, vi (a1.Prices.getD x32.toNat default)), (107, vb (decide ((a1.Prices.getD x32.toNat default) > 1000000))), (108, vb (decide ((a1.Prices.getD x32.toNat default) > 1000000)))], []⟩ (o1 b35) (by kernel_rfl) (by kernel_rfl) ?_
          exact J_mk (decide ((a1.Prices.getD x32.toNat default) > 1000000)) hm (by kernel_rfl) (by kernel_rfl)
    · replace hm := bif_f b33 hm
      refine R_exit 2 (by kernel_rfl) ?_
      obtain rfl := Option.some.inj hm
      exact L1_mk () (by kernel_rfl) (by kernel_rfl)

set_option maxRecDepth 100000 in
theorem product_checkNumbers_ok (a1 : Product) (r : Int) (hm : product_checkNumbers a1 = some r) : CtX Tryd.prog globs 48 0 0 [.agg [cs a1.Name, ci a1.Thick, ci a1.Width, ci a1.Allow, ci a1.Wane, tl e_i64 default a1.Lengths, tl e_i64 default a1.Prices]] [] (product_checkNumbers_x r) (product_checkNumbers_o r) := by
  unfold product_checkNumbers at hm
  refine CtX_of_E (fn := Tryd.f48) (c := nd Tryd.f48 1) (nt := 110) (by kernel_rfl) (by kernel_rfl) (by kernel_rfl) (by kernel_rfl) fun E => ?_
  refine R_sq Tryd.f48 2 3 (by kernel_rfl) ?_
  refine R_rn Tryd.f48 2 0 [] [] 0 ⟨[(1, vp 0 0)], [(0, bx 43 [cs a1.Name, ci a1.Thick, ci a1.Width, ci a1.Allow, ci a1.Wane, tl e_i64 default a1.Lengths, tl e_i64 default a1.Prices])]⟩ o0 (by kernel_rfl) (by kernel_rfl) ?_
  refine R_sq Tryd.f48 6 7 (by kernel_rfl) ?_
  refine R_join (ι := Bool) (nd Tryd.f48 12) (nd Tryd.f48 13) (by kernel_rfl) (fun p => product_checkNumbers_k1_S a1 p) (fun p => product_checkNumbers_k1 a1 p = some r) ?_ ?_
  · rintro x5 hm
    show H _ (product_checkNumbers_k1_S a1 x5) (nd Tryd.f48 13) _
    refine R_cn Tryd.f48 (.tmp 28) 26 27 (by kernel_rfl) x5 (by kernel_rfl) (fun b6 => ?_) (fun b6 => ?_)
    · replace hm := bif_t b6 hm
      refine R_sq Tryd.f48 52 53 (by kernel_rfl) ?_
      refine R_rn Tryd.f48 52 2 [] [] 1 ⟨[(2, vi 9)], []⟩ o0 (by kernel_rfl) (by kernel_rfl) ?_
      obtain rfl := Option.some.inj hm
      refine R_ret (by kernel_rfl) ?_
      exact ret_mk (by kernel_rfl) (by kernel_rfl)
    · replace hm := bif_f b6 hm
      refine R_skip (by kernel_rfl) ?_
      refine R_sq Tryd.f48 14 15 (by kernel_rfl) ?_
      refine R_join (ι := Bool) (nd Tryd.f48 28) (nd Tryd.f48 29) (by kernel_rfl) (fun p => product_checkNumbers_k2_S a1 p) (fun p => product_checkNumbers_k2 a1 p = some r) ?_ ?_
      · rintro x10 hm
        show H _ (product_checkNumbers_k2_S a1 x10) (nd Tryd.f48 29) _
        refine R_cn Tryd.f48 (.tmp 46) 58 59 (by kernel_rfl) x10 (by kernel_rfl) (fun b11 => ?_) (fun b11 => ?_)
        · replace hm := bif_t b11 hm
          refine R_sq Tryd.f48 116 117 (by kernel_rfl) ?_
          refine R_rn Tryd.f48 116 4 [] [] 1 ⟨[(2, vi 9)], []⟩ o0 (by kernel_rfl) (by kernel_rfl) ?_
          obtain rfl := Option.some.inj hm
          refine R_ret (by kernel_rfl) ?_
          exact ret_mk (by kernel_rfl) (by kernel_rfl)
        · replace hm := bif_f b11 hm
          refine R_skip (by kernel_rfl) ?_
          refine R_sq Tryd.f48 30 31 (by kernel_rfl) ?_
          refine R_sq Tryd.f48 60 61 (by kernel_rfl) ?_
          obtain ⟨v12, h13, hm⟩ := bind_s hm
          refine R_rn Tryd.f48 60 5 [(1, dex (cen [] [] 1 0 (product_Green_x v12) (product_Green_o v12) [48] []))] [] 1 ⟨[(1, vp 0 0), (4, vi v12.2)], [(0, bx 43 [cs a1.Name, ci a1.Thick, ci a1.Width, ci a1.Allow, ci a1.Wane, tl e_i64 default a1.Lengths, tl e_i64 default a1.Prices])]⟩ (o1 (callS (K := (kx E 110 0)) ⟨[(48, va [cs a1.Name, ci a1.Thick, ci a1.Width, ci a1.Allow, ci a1.Wane, tl e_i64 default a1.Lengths, tl e_i64 default a1.Prices])], []⟩ (opAt (rg Tryd.f48 60) 1) [] [] 1 o0 rfl (product_Green_ok a1 v12 h13) (.inl rfl) (by kernel_rfl))) (by kernel_rfl) (by kernel_rfl) ?_
          refine R_sq Tryd.f48 122 123 (by kernel_rfl) ?_
          refine R_rn Tryd.f48 122 6 [] [] 1 ⟨[(1, vp 0 0), (53, vb (decide (v12.2 > 600)))], [(0, bx 43 [cs a1.Name, ci a1.Thick, ci a1.Width, ci a1.Allow, ci a1.Wane, tl e_i64 default a1.Lengths, tl e_i64 default a1.Prices])]⟩ o0 (by kernel_rfl) (by kernel_rfl) ?_
          refine R_cn Tryd.f48 (.tmp 53) 246 247 (by kernel_rfl) (decide (v12.2 > 600)) (by kernel_rfl) (fun b14 => ?_) (fun b14 => ?_)
          · replace hm := bif_t b14 hm
            refine R_sq Tryd.f48 492 493 (by kernel_rfl) ?_
            refine R_rn Tryd.f48 492 7 [] [] 1 ⟨[(2, vi 9)], []⟩ o0 (by kernel_rfl) (by kernel_rfl) ?_
            obtain rfl := Option.some.inj hm
            refine R_ret (by kernel_rfl) ?_
            exact ret_mk (by kernel_rfl) (by kernel_rfl)
          · replace hm := bif_f b14 hm
            refine R_skip (by kernel_rfl) ?_
            refine R_sq Tryd.f48 62 63 (by kernel_rfl) ?_
            refine R_sq Tryd.f48 124 125 (by kernel_rfl) ?_
            refine R_rn Tryd.f48 124 8 [] [] 1 ⟨[(1, vp 0 0), (57, vb (((a1.Lengths.length : Nat) : Int) == 0))], [(0, bx 43 [cs a1.Name, ci a1.Thick, ci a1.Width, ci a1.Allow, ci a1.Wane, tl e_i64 default a1.Lengths, tl e_i64 default a1.Prices])]⟩ o0 (by kernel_rfl) (by kernel_rfl) ?_
            refine R_cn Tryd.f48 (.tmp 57) 250 251 (by kernel_rfl) (((a1.Lengths.length : Nat) : Int) == 0) (by kernel_rfl) (fun b15 => ?_) (fun b15 => ?_)
            · replace hm := bif_t b15 hm
              refine R_sq Tryd.f48 500 501 (by kernel_rfl) ?_
              refine R_rn Tryd.f48 500 9 [] [] 1 ⟨[(2, vi 3)], []⟩ o0 (by kernel_rfl) (by kernel_rfl) ?_
              obtain rfl := Option.some.inj hm
              refine R_ret (by kernel_rfl) ?_
              exact ret_mk (by kernel_rfl) (by kernel_rfl)
            · replace hm := bif_f b15 hm
              refine R_skip (by kernel_rfl) ?_
              refine R_sq Tryd.f48 126 127 (by kernel_rfl) ?_
              refine R_sq Tryd.f48 252 253 (by kernel_rfl) ?_
              refine R_rn Tryd.f48 252 10 [] [] 1 ⟨[(1, vp 0 0), (61, vb (decide (((a1.Lengths.length : Nat) : Int) > 8)))], [(0, bx 43 [cs a1.Name, ci a1.Thick, ci a1.Width, ci a1.Allow, ci a1.Wane, tl e_i64 default a1.Lengths, tl e_i64 default a1.Prices])]⟩ o0 (by kernel_rfl) (by kernel_rfl) ?_
              refine R_cn Tryd.f48 (.tmp 61) 506 507 (by kernel_rfl) (decide (((a1.Lengths.length : Nat) : Int) > 8)) (by kernel_rfl) (fun b16 => ?_) (fun b16 => ?_)
              · replace hm := bif_t b16 hm
                refine R_sq Tryd.f48 1012 1013 (by kernel_rfl) ?_
                refine R_rn Tryd.f48 1012 11 [] [] 1 ⟨[(2, vi 4)], []⟩ o0 (by kernel_rfl) (by kernel_rfl) ?_
                obtain rfl := Option.some.inj hm
                refine R_ret (by kernel_rfl) ?_
                exact ret_mk (by kernel_rfl) (by kernel_rfl)
              · replace hm := bif_f b16 hm
                refine R_skip (by kernel_rfl) ?_
                refine R_sq Tryd.f48 254 255 (by kernel_rfl) ?_
                refine R_sq Tryd.f48 508 509 (by kernel_rfl) ?_
                refine R_rn Tryd.f48 508 12 [] [] 1 ⟨[(1, vp 0 0), (68, vb (((a1.Prices.length : Nat) : Int) != ((a1.Lengths.length : Nat) : Int)))], [(0, bx 43 [cs a1.Name, ci a1.Thick, ci a1.Width, ci a1.Allow, ci a1.Wane, tl e_i64 default a1.Lengths, tl e_i64 default a1.Prices])]⟩ o0 (by kernel_rfl) (by kernel_rfl) ?_
                refine R_cn Tryd.f48 (.tmp 68) 1018 1019 (by kernel_rfl) (((a1.Prices.length : Nat) : Int) != ((a1.Lengths.length : Nat) : Int)) (by kernel_rfl) (fun b17 => ?_) (fun b17 => ?_)
                · replace hm := bif_t b17 hm
                  refine R_sq Tryd.f48 2036 2037 (by kernel_rfl) ?_
                  refine R_rn Tryd.f48 2036 13 [] [] 1 ⟨[(2, vi 19)], []⟩ o0 (by kernel_rfl) (by kernel_rfl) ?_
                  obtain rfl := Option.some.inj hm
                  refine R_ret (by kernel_rfl) ?_
                  exact ret_mk (by kernel_rfl) (by kernel_rfl)
                · replace hm := bif_f b17 hm
                  refine R_skip (by kernel_rfl) ?_
                  refine R_sq Tryd.f48 510 511 (by kernel_rfl) ?_
                  refine R_sq Tryd.f48 1020 1021 (by kernel_rfl) ?_
                  refine R_rn Tryd.f48 1020 14 [] [] 1 ⟨[(1, vp 0 0), (70, vc (tl e_i64 default a1.Lengths)), (71, vi ((a1.Lengths.length : Nat) : Int)), (72, vi 0)], [(0, bx 43 [cs a1.Name, ci a1.Thick, ci a1.Width, ci a1.Allow, ci a1.Wane, tl e_i64 default a1.Lengths, tl e_i64 default a1.Prices])]⟩ o0 (by kernel_rfl) (by kernel_rfl) ?_
                  obtain ⟨u30, h29, hm⟩ := bind_s hm
                  refine R_loop1 (nd Tryd.f48 4084) 0 (by kernel_rfl) FUEL (fun o => product_checkNumbers_L3_T a1) (fun v st => RetQ Tryd.prog Tryd.f48 (product_checkNumbers_x v) (product_checkNumbers_o v) .ret st) u30 (HL_enter (product_checkNumbers_L3_S a1 0) (by kernel_rfl) (by kernel_rfl) (product_checkNumbers_L3_ok E a1 FUEL 0 u30 h29)) ?_ ?_
                  · rintro v31 rfl st hr
                    obtain rfl := Option.some.inj hm
                    exact hr
                  · rintro o28 rfl
                    replace hm : _ = some r := hm
                    refine R_sq Tryd.f48 1022 1023 (by kernel_rfl) ?_
                    refine R_sq Tryd.f48 2044 2045 (by kernel_rfl) ?_
                    refine R_rn Tryd.f48 2044 22 [] [] 1 ⟨[(97, vc (tl e_i64 default a1.Prices)), (98, vi ((a1.Prices.length : Nat) : Int)), (99, vi 0)], []⟩ o0 (by kernel_rfl) (by kernel_rfl) ?_
                    obtain ⟨u40, h39, hm⟩ := bind_s hm
                    refine R_loop1 (nd Tryd.f48 8180) 2 (by kernel_rfl) FUEL (fun o => product_checkNumbers_L6_T) (fun v st => RetQ Tryd.prog Tryd.f48 (product_checkNumbers_x v) (product_checkNumbers_o v) .ret st) u40 (HL_enter (product_checkNumbers_L6_S a1 0) (by kernel_rfl) (by kernel_rfl) (product_checkNumbers_L6_ok E a1 FUEL 0 u40 h39)) ?_ ?_
                    · rintro v41 rfl st hr
                      obtain rfl := Option.some.inj hm
                      exact hr
                    · rintro o38 rfl
                      replace hm : _ = some r := hm
                      refine R_sq Tryd.f48 2046 2047 (by kernel_rfl) ?_
                      refine R_rn Tryd.f48 2046 28 [] [] 1 ⟨[(2, vi 0)], []⟩ o0 (by kernel_rfl) (by kernel_rfl) ?_
                      obtain rfl := Option.some.inj hm
                      refine R_ret (by kernel_rfl) ?_
                      exact ret_mk (by kernel_rfl) (by kernel_rfl)
      · rcases Bool.eq_false_or_eq_true (decide (a1.Allow < 0)) with b7 | b7
        · replace hm := bif_t b7 hm
          refine R_rn Tryd.f48 28 3 [(3, dfx true)] [] 1 ⟨[(1, vp 0 0), (46, vb true)], [(0, bx 43 [cs a1.Name, ci a1.Thick, ci a1.Width, ci a1.Allow, ci a1.Wane, tl e_i64 default a1.Lengths, tl e_i64 default a1.Prices])]⟩ (o1 b7) (by kernel_rfl) (by kernel_rfl) ?_
          exact J_mk (true) hm (by kernel_rfl) (by kernel_rfl)
        · replace hm := bif_f b7 hm
          rcases Bool.eq_false_or_eq_true (decide (a1.Allow > 200)) with b8 | b8
          · replace hm := bif_t b8 hm
            refine R_rn Tryd.f48 28 3 [(3, dfx false), (8, dfx true)] [] 1 ⟨[(1, vp 0 0), (46, vb true)], [(0, bx 43 [cs a1.Name, ci a1.Thick, ci a1.Width, ci a1.Allow, ci a1.Wane, tl e_i64 default a1.Lengths, tl e_i64 default a1.Prices])]⟩ (o1 (And.intro b7 b8)) (by kernel_rfl) (by kernel_rfl) ?_
            exact J_mk (true) hm (by kernel_rfl) (by kernel_rfl)
          · replace hm := bif_f b8 hm
            rcases Bool.eq_false_or_eq_true (decide (a1.Wane < 0)) with b9 | b9
            · replace hm := bif_t b9 hm
              refine R_rn Tryd.f48 28 3 [(3, dfx false), (8, dfx false), (13, dfx true)] [] 1 ⟨[(1, vp 0 0), (46, vb true)], [(0, bx 43 [cs a1.Name, ci a1.Thick, ci a1.Width, ci a1.Allow, ci a1.Wane, tl e_i64 default a1.Lengths, tl e_i64 default a1.Prices])]⟩ (o1 (And.intro b7 (And.intro b8 b9))) (by kernel_rfl) (by kernel_rfl) ?_
              exact J_mk (true) hm (by kernel_rfl) (by kernel_rfl)
            · replace hm := bif_f b9 hm
              refine R_rn Tryd.f48 28 3 [(3, dfx false), (8, dfx false), (13, dfx false)] [] 1 ⟨[(1, vp 0 0), (46, vb (decide (a1.Wane > 1000)))], [(0, bx 43 [cs a1.Name, ci a1.Thick, ci a1.Width, ci a1.Allow, ci a1.Wane, tl e_i64 default a1.Lengths, tl e_i64 default a1.Prices])]⟩ (o1 (And.intro b7 (And.intro b8 b9))) (by kernel_rfl) (by kernel_rfl) ?_
              exact J_mk (decide (a1.Wane > 1000)) hm (by kernel_rfl) (by kernel_rfl)
  · rcases Bool.eq_false_or_eq_true (decide (a1.Thick < 5)) with b2 | b2
    · replace hm := bif_t b2 hm
      refine R_rn Tryd.f48 12 1 [(3, dfx true)] [] 1 ⟨[(1, vp 0 0), (28, vb true)], [(0, bx 43 [cs a1.Name, ci a1.Thick, ci a1.Width, ci a1.Allow, ci a1.Wane, tl e_i64 default a1.Lengths, tl e_i64 default a1.Prices])]⟩ (o1 b2) (by kernel_rfl) (by kernel_rfl) ?_
      exact J_mk (true) hm (by kernel_rfl) (by kernel_rfl)
    · replace hm := bif_f b2 hm
      rcases Bool.eq_false_or_eq_true (decide (a1.Thick > 300)) with b3 | b3
      · replace hm := bif_t b3 hm
        refine R_rn Tryd.f48 12 1 [(3, dfx false), (8, dfx true)] [] 1 ⟨[(1, vp 0 0), (28, vb true)], [(0, bx 43 [cs a1.Name, ci a1.Thick, ci a1.Width, ci a1.Allow, ci a1.Wane, tl e_i64 default a1.Lengths, tl e_i64 default a1.Prices])]⟩ (o1 (And.intro b2 b3)) (by kernel_rfl) (by kernel_rfl) ?_
        exact J_mk (true) hm (by kernel_rfl) (by kernel_rfl)
      · replace hm := bif_f b3 hm
        rcases Bool.eq_false_or_eq_true (decide (a1.Width < a1.Thick)) with b4 | b4
        · replace hm := bif_t b4 hm
          refine R_rn Tryd.f48 12 1 [(3, dfx false), (8, dfx false), (15, dfx true)] [] 1 ⟨[(1, vp 0 0), (28, vb true)], [(0, bx 43 [cs a1.Name, ci a1.Thick, ci a1.Width, ci a1.Allow, ci a1.Wane, tl e_i64 default a1.Lengths, tl e_i64 default a1.Prices])]⟩ (o1 (And.intro b2 (And.intro b3 b4))) (by kernel_rfl) (by kernel_rfl) ?_
          exact J_mk (true) hm (by kernel_rfl) (by kernel_rfl)
        · replace hm := bif_f b4 hm
          refine R_rn Tryd.f48 12 1 [(3, dfx false), (8, dfx false), (15, dfx false)] [] 1 ⟨[(1, vp 0 0), (28, vb (decide (a1.Width > 600)))], [(0, bx 43 [cs a1.Name, ci a1.Thick, ci a1.Width, ci a1.Allow, ci a1.Wane, tl e_i64 default a1.Lengths, tl e_i64 default a1.Prices])]⟩ (o1 (And.intro b2 (And.intro b3 b4))) (by kernel_rfl) (by kernel_rfl) ?_
          exact J_mk (decide (a1.Width > 600)) hm (by kernel_rfl) (by kernel_rfl)

end Saw
end Go.SL

namespace Go.SL
namespace Saw
open Go.Proofs
set_option maxHeartbeats 4000000

def product_Check_x (r : Int) : V := vi r

def product_Check_o (r : Int) : List (Nat × (Nat × O)) := []

theorem product_Check_f (r : Int) : Frozen (product_Check_o r) := by
  intro i k o h
  unfold product_Check_o at h
  cases h

def product_Check_L1_S (a1 : List Product) (x3 : Int) : St :=
  ⟨[(0, vc (tl e_Product default a1)), (11, vc (tl e_Product default a1)), (12, vi ((a1.length : Nat) : Int)), (13, vi x3)], []⟩

def product_Check_L1_T : St :=
  ⟨[], []⟩

set_option maxRecDepth 100000 in
theorem product_Check_L1_ok (E : Env 0) (a1 : List Product) : ∀ (n : Nat) (x3 : Int) (res : Int ⊕ Unit), product_Check_L1 a1 n x3 = some res → HL (kx E 38 0) (nd Tryd.f23 116) (loopQ 0 (fun o => product_Check_L1_T) (fun v st => RetQ Tryd.prog Tryd.f23 (product_Check_x v) (product_Check_o v) .ret st) res) n (product_Check_L1_S a1 x3) := by
  intro n
  induction n with
  | zero =>
    intro x3 res hm
    cases hm
  | succ n ih =>
    intro x3 res hm
    refine HL_succ ?_
    refine R_sq Tryd.f23 232 233 (by kernel_rfl) ?_
    refine R_rn Tryd.f23 232 4 [] [] 0 ⟨[(0, vc (tl e_Product default a1)), (11, vc (tl e_Product default a1)), (12, vi ((a1.length : Nat) : Int)), (13, vi x3), (14, vb (decide (x3 < ((a1.length : Nat) : Int))))], []⟩ o0 (by kernel_rfl) (by kernel_rfl) ?_
    refine R_sq Tryd.f23 466 467 (by kernel_rfl) ?_
    refine R_cn Tryd.f23 (.tmp 14) 932 933 (by kernel_rfl) (decide (x3 < ((a1.length : Nat) : Int))) (by kernel_rfl) (fun b4 => ?_) (fun b4 => ?_)
    · replace hm := bif_t b4 hm
      refine R_skip (by kernel_rfl) ?_
      refine R_sq Tryd.f23 934 935 (by kernel_rfl) ?_
      refine R_bk Tryd.f23 1 1868 (by kernel_rfl) ?_
      refine R_sq Tryd.f23 3736 3737 (by kernel_rfl) ?_
      obtain ⟨g5, hm⟩ := bif_n hm
      refine R_rn Tryd.f23 3736 5 [] [] 0 ⟨[(0, vc (tl e_Product default a1)), (3, vi x3), (4, vp 0 0), (11, vc (tl e_Product default a1)), (12, vi ((a1.length : Nat) : Int)), (13, vi x3)], [(0, bx 43 [cs ((a1.getD x3.toNat default).Name), ci ((a1.getD x3.toNat default).Thick), ci ((a1.getD x3.toNat default).Width), ci ((a1.getD x3.toNat default).Allow), ci ((a1.getD x3.toNat default).Wane), tl e_i64 default ((a1.getD x3.toNat default).Lengths), tl e_i64 default ((a1.getD x3.toNat default).Prices)])]⟩ (o1 (inb_of g5)) (by kernel_rfl) (by kernel_rfl) ?_
      refine R_sq Tryd.f23 7474 7475 (by kernel_rfl) ?_
      refine R_sq Tryd.f23 14948 14949 (by kernel_rfl) ?_
      obtain ⟨v6, h7, hm⟩ := bind_s hm
      refine R_rn Tryd.f23 14948 6 [(2, dex (cen [] [] 1 0 (ident_IsName_x v6) (ident_IsName_o v6) [19] []))] [] 1 ⟨[(0, vc (tl e_Product default a1)), (3, vi x3), (4, vp 0 0), (11, vc (tl e_Product default a1)), (12, vi ((a1.length : Nat) : Int)), (13, vi x3), (21, vb (!v6))], [(0, bx 43 [cs ((a1.getD x3.toNat default).Name), ci ((a1.getD x3.toNat default).Thick), ci ((a1.getD x3.toNat default).Width), ci ((a1.getD x3.toNat default).Allow), ci ((a1.getD x3.toNat default).Wane), tl e_i64 default ((a1.getD x3.toNat default).Lengths), tl e_i64 default ((a1.getD x3.toNat default).Prices)])]⟩ (o1 (callS (K := (kx E 38 0)) ⟨[(19, vc (cs ((a1.getD x3.toNat default).Name)))], []⟩ (opAt (rg Tryd.f23 14948) 2) [] [] 1 o0 rfl (ident_IsName_ok ((a1.getD x3.toNat default).Name) v6 h7) (.inl rfl) (by kernel_rfl))) (by kernel_rfl) (by kernel_rfl) ?_
      refine R_cn Tryd.f23 (.tmp 21) 29898 29899 (by kernel_rfl) (!v6) (by kernel_rfl) (fun b8 => ?_) (fun b8 => ?_)
      · replace hm := bif_t b8 hm
        refine R_sq Tryd.f23 59796 59797 (by kernel_rfl) ?_
        refine R_rn Tryd.f23 59796 7 [] [] 1 ⟨[(2, vi 6)], []⟩ o0 (by kernel_rfl) (by kernel_rfl) ?_
        obtain rfl := Option.some.inj hm
        refine R_ret (by kernel_rfl) ?_
        refine L1_ret 6 ?_
        exact ret_mk (by kernel_rfl) (by kernel_rfl)
      · replace hm := bif_f b8 hm
        refine R_skip (by kernel_rfl) ?_
        refine R_sq Tryd.f23 14950 14951 (by kernel_rfl) ?_
        refine R_sq Tryd.f23 29900 29901 (by kernel_rfl) ?_
        obtain ⟨g9, hm⟩ := bif_n hm
        obtain ⟨v10, h11, hm⟩ := bind_s hm
        refine R_dr Tryd.f23 29900 8 [] [(2, drw ((a1.take x3.toNat).length) 0 (rf e_Product (a1.take x3.toNat))), (5, dex (cen [] [] 1 0 (product_Find_x v10) (product_Find_o v10) [25, 27] []))] [] [0, 0, 3, 0, 8, 31, 63, 127, 127, 255, 1023] 1 ⟨[(0, vc (tl e_Product default a1)), (4, vp 0 0), (6, vb v10.2), (11, vc (tl e_Product default a1)), (12, vi ((a1.length : Nat) : Int)), (13, vi x3)], [(0, bx 43 [cs ((a1.getD x3.toNat default).Name), ci ((a1.getD x3.toNat default).Thick), ci ((a1.getD x3.toNat default).Width), ci ((a1.getD x3.toNat default).Allow), ci ((a1.getD x3.toNat default).Wane), tl e_i64 default ((a1.getD x3.toNat default).Lengths), tl e_i64 default ((a1.getD x3.toNat default).Prices)])]⟩ (o1 (And.intro (slPhi e_Product default a1 x3 (And.intro (slOk_of g9).2.1 (slOk_of g9).2.2)) (callS (K := (kx E 38 0)) ⟨[(25, vc (tl e_Product default (a1.take x3.toNat))), (27, vc (cs ((a1.getD x3.toNat default).Name)))], []⟩ (opAt (rg Tryd.f23 29900) 5) [] [] 1 o0 rfl (product_Find_ok (a1.take x3.toNat) ((a1.getD x3.toNat default).Name) v10 h11) (.inl rfl) (by kernel_rfl)))) (by kernel_rfl) (by kernel_rfl) ?_
        refine R_sq Tryd.f23 59802 59803 (by kernel_rfl) ?_
        refine R_rn Tryd.f23 59802 9 [] [] 1 ⟨[(0, vc (tl e_Product default a1)), (4, vp 0 0), (11, vc (tl e_Product default a1)), (12, vi ((a1.length : Nat) : Int)), (13, vi x3), (31, vb v10.2)], [(0, bx 43 [cs ((a1.getD x3.toNat default).Name), ci ((a1.getD x3.toNat default).Thick), ci ((a1.getD x3.toNat default).Width), ci ((a1.getD x3.toNat default).Allow), ci ((a1.getD x3.toNat default).Wane), tl e_i64 default ((a1.getD x3.toNat default).Lengths), tl e_i64 default ((a1.getD x3.toNat default).Prices)])]⟩ o0 (by kernel_rfl) (by kernel_rfl) ?_
        refine R_cn Tryd.f23 (.tmp 31) 119606 119607 (by kernel_rfl) v10.2 (by kernel_rfl) (fun b12 => ?_) (fun b12 => ?_)
        · replace hm := bif_t b12 hm
          refine R_sq Tryd.f23 239212 239213 (by kernel_rfl) ?_
          refine R_rn Tryd.f23 239212 10 [] [] 1 ⟨[(2, vi 7)], []⟩ o0 (by kernel_rfl) (by kernel_rfl) ?_
          obtain rfl := Option.some.inj hm
          refine R_ret (by kernel_rfl) ?_
          refine L1_ret 7 ?_
          exact ret_mk (by kernel_rfl) (by kernel_rfl)
        · replace hm := bif_f b12 hm
          refine R_skip (by kernel_rfl) ?_
          refine R_sq Tryd.f23 29902 29903 (by kernel_rfl) ?_
          obtain ⟨v13, h14, hm⟩ := bind_s hm
          refine R_rn Tryd.f23 29902 11 [(1, dex (cen [] [] 1 0 (product_checkNumbers_x v13) (product_checkNumbers_o v13) [32] []))] [] 1 ⟨[(0, vc (tl e_Product default a1)), (7, vi v13), (11, vc (tl e_Product default a1)), (12, vi ((a1.length : Nat) : Int)), (13, vi x3)], []⟩ (o1 (callS (K := (kx E 38 0)) ⟨[(32, va [cs ((a1.getD x3.toNat default).Name), ci ((a1.getD x3.toNat default).Thick), ci ((a1.getD x3.toNat default).Width), ci ((a1.getD x3.toNat default).Allow), ci ((a1.getD x3.toNat default).Wane), tl e_i64 default ((a1.getD x3.toNat default).Lengths), tl e_i64 default ((a1.getD x3.toNat default).Prices)])], []⟩ (opAt (rg Tryd.f23 29902) 1) [] [] 1 o0 rfl (product_checkNumbers_ok (a1.getD x3.toNat default) v13 h14) (.inl rfl) (by kernel_rfl))) (by kernel_rfl) (by kernel_rfl) ?_
          refine R_sq Tryd.f23 59806 59807 (by kernel_rfl) ?_
          refine R_rn Tryd.f23 59806 12 [] [] 1 ⟨[(0, vc (tl e_Product default a1)), (7, vi v13), (11, vc (tl e_Product default a1)), (12, vi ((a1.length : Nat) : Int)), (13, vi x3), (35, vb (v13 != 0))], []⟩ o0 (by kernel_rfl) (by kernel_rfl) ?_
          refine R_cn Tryd.f23 (.tmp 35) 119614 119615 (by kernel_rfl) (v13 != 0) (by kernel_rfl) (fun b15 => ?_) (fun b15 => ?_)
          · replace hm := bif_t b15 hm
            refine R_sq Tryd.f23 239228 239229 (by kernel_rfl) ?_
            refine R_rn Tryd.f23 239228 13 [] [] 1 ⟨[(2, vi v13)], []⟩ o0 (by kernel_rfl) (by kernel_rfl) ?_
            obtain rfl := Option.some.inj hm
            refine R_ret (by kernel_rfl) ?_
            refine L1_ret v13 ?_
            exact ret_mk (by kernel_rfl) (by kernel_rfl)
          · replace hm := bif_f b15 hm
            refine R_skip (by kernel_rfl) ?_
            refine R_rn Tryd.f23 935 14 [] [] 1 ⟨[(0, vc (tl e_Product default a1)), (11, vc (tl e_Product default a1)), (12, vi ((a1.length : Nat) : Int)), (13, vi (w64 (x3 + 1)))], []⟩ o0 (by kernel_rfl) (by kernel_rfl) ?_
            exact HL_enter (product_Check_L1_S a1 (w64 (x3 + 1))) (by kernel_rfl) (by kernel_rfl) (ih (w64 (x3 + 1)) _ hm)
    · replace hm := bif_f b4 hm
      refine R_exit 0 (by kernel_rfl) ?_
      obtain rfl := Option.some.inj hm
      exact L1_mk () (by kernel_rfl) (by kernel_rfl)

set_option maxRecDepth 100000 in
theorem product_Check_ok (a1 : List Product) (r : Int) (hm : product_Check a1 = some r) : CtX Tryd.prog globs 23 0 0 [.one (tl e_Product default a1)] [] (product_Check_x r) (product_Check_o r) := by
  unfold product_Check at hm
  refine CtX_of_E (fn := Tryd.f23) (c := nd Tryd.f23 1) (nt := 38) (by kernel_rfl) (by kernel_rfl) (by kernel_rfl) (by kernel_rfl) fun E => ?_
  refine R_sq Tryd.f23 2 3 (by kernel_rfl) ?_
  refine R_rn Tryd.f23 2 0 [] [] 0 ⟨[(0, vc (tl e_Product default a1))], []⟩ o0 (by kernel_rfl) (by kernel_rfl) ?_
  refine R_sq Tryd.f23 6 7 (by kernel_rfl) ?_
  refine R_sq Tryd.f23 12 13 (by kernel_rfl) ?_
  refine R_rn Tryd.f23 12 1 [] [] 0 ⟨[(0, vc (tl e_Product default a1)), (10, vb (decide (((a1.length : Nat) : Int) > 16)))], []⟩ o0 (by kernel_rfl) (by kernel_rfl) ?_
  refine R_cn Tryd.f23 (.tmp 10) 26 27 (by kernel_rfl) (decide (((a1.length : Nat) : Int) > 16)) (by kernel_rfl) (fun b2 => ?_) (fun b2 => ?_)
  · replace hm := bif_t b2 hm
    refine R_sq Tryd.f23 52 53 (by kernel_rfl) ?_
    refine R_rn Tryd.f23 52 2 [] [] 0 ⟨[(2, vi 4)], []⟩ o0 (by kernel_rfl) (by kernel_rfl) ?_
    obtain rfl := Option.some.inj hm
    refine R_ret (by kernel_rfl) ?_
    exact ret_mk (by kernel_rfl) (by kernel_rfl)
  · replace hm := bif_f b2 hm
    refine R_skip (by kernel_rfl) ?_
    refine R_sq Tryd.f23 14 15 (by kernel_rfl) ?_
    refine R_sq Tryd.f23 28 29 (by kernel_rfl) ?_
    refine R_rn Tryd.f23 28 3 [] [] 0 ⟨[(0, vc (tl e_Product default a1)), (11, vc (tl e_Product default a1)), (12, vi ((a1.length : Nat) : Int)), (13, vi 0)], []⟩ o0 (by kernel_rfl) (by kernel_rfl) ?_
    obtain ⟨u18, h17, hm⟩ := bind_s hm
    refine R_loop1 (nd Tryd.f23 116) 0 (by kernel_rfl) FUEL (fun o => product_Check_L1_T) (fun v st => RetQ Tryd.prog Tryd.f23 (product_Check_x v) (product_Check_o v) .ret st) u18 (HL_enter (product_Check_L1_S a1 0) (by kernel_rfl) (by kernel_rfl) (product_Check_L1_ok E a1 FUEL 0 u18 h17)) ?_ ?_
    · rintro v19 rfl st hr
      obtain rfl := Option.some.inj hm
      exact hr
    · rintro o16 rfl
      replace hm : _ = some r := hm
      refine R_sq Tryd.f23 30 31 (by kernel_rfl) ?_
      refine R_rn Tryd.f23 30 15 [] [] 0 ⟨[(2, vi 0)], []⟩ o0 (by kernel_rfl) (by kernel_rfl) ?_
      obtain rfl := Option.some.inj hm
      refine R_ret (by kernel_rfl) ?_
      exact ret_mk (by kernel_rfl) (by kernel_rfl)

end Saw
end Go.SL

namespace Go.SL
namespace Saw
open Go.Proofs
set_option maxHeartbeats 4000000

def worth_isRect_x (r : Bool) : V := vb r

def worth_isRect_o (r : Bool) : List (Nat × (Nat × O)) := []

theorem worth_isRect_f (r : Bool) : Frozen (worth_isRect_o r) := by
  intro i k o h
  unfold worth_isRect_o at h
  cases h

def worth_isRect_k2_S (a1 : Rect) (x2 : Int) (x7 : Bool) : St :=
  ⟨[(9, va [ci a1.X.A, ci a1.X.B, ci a1.Y.A, ci a1.Y.B]), (10, vi x2), (27, vb x7)], []⟩

def worth_isRect_L1_S (a1 : Rect) (x2 : Int) : St :=
  ⟨[(9, va [ci a1.X.A, ci a1.X.B, ci a1.Y.A, ci a1.Y.B]), (10, vi x2)], []⟩

def worth_isRect_L1_T : St :=
  ⟨[], []⟩

set_option maxRecDepth 100000 in
theorem worth_isRect_L1_ok (E : Env 0) (a1 : Rect) : ∀ (n : Nat) (x2 : Int) (res : Bool ⊕ Unit), worth_isRect_L1 a1 n x2 = some res → HL (kx E 29 0) (nd Tryd.f111 52) (loopQ 0 (fun o => worth_isRect_L1_T) (fun v st => RetQ Tryd.prog Tryd.f111 (worth_isRect_x v) (worth_isRect_o v) .ret st) res) n (worth_isRect_L1_S a1 x2) := by
  intro n
  induction n with
  | zero =>
    intro x2 res hm
    cases hm
  | succ n ih =>
    intro x2 res hm
    refine HL_succ ?_
    refine R_sq Tryd.f111 104 105 (by kernel_rfl) ?_
    refine R_rn Tryd.f111 104 2 [] [] 1 ⟨[(9, va [ci a1.X.A, ci a1.X.B, ci a1.Y.A, ci a1.Y.B]), (10, vi x2), (11, vb (decide (x2 < 2)))], []⟩ o0 (by kernel_rfl) (by kernel_rfl) ?_
    refine R_sq Tryd.f111 210 211 (by kernel_rfl) ?_
    refine R_cn Tryd.f111 (.tmp 11) 420 421 (by kernel_rfl) (decide (x2 < 2)) (by kernel_rfl) (fun b3 => ?_) (fun b3 => ?_)
    · replace hm := bif_t b3 hm
      refine R_skip (by kernel_rfl) ?_
      refine R_sq Tryd.f111 422 423 (by kernel_rfl) ?_
      refine R_bk Tryd.f111 1 844 (by kernel_rfl) ?_
      refine R_sq Tryd.f111 1688 1689 (by kernel_rfl) ?_
      obtain ⟨g4, hm⟩ := bif_n hm
      refine R_rn Tryd.f111 1688 3 [] [] 1 ⟨[(4, vp 1 0), (9, va [ci a1.X.A, ci a1.X.B, ci a1.Y.A, ci a1.Y.B]), (10, vi x2)], [(1, bx 33 [ci (([a1.X.A, a1.X.B, a1.Y.A, a1.Y.B] : List Int).getD (x2.toNat * 2 + 0) 0), ci (([a1.X.A, a1.X.B, a1.Y.A, a1.Y.B] : List Int).getD (x2.toNat * 2 + 1) 0)])]⟩ (o1 (inb_of g4)) (by kernel_rfl) (by kernel_rfl) ?_
      refine R_join (ι := Bool) (nd Tryd.f111 3378) (nd Tryd.f111 3379) (by kernel_rfl) (fun p => worth_isRect_k2_S a1 x2 p) (fun p => worth_isRect_k2 x2 (worth_isRect_L1 a1 n) p = some res) ?_ ?_
      · rintro x7 hm
        show H _ (worth_isRect_k2_S a1 x2 x7) (nd Tryd.f111 3379) _
        refine R_cn Tryd.f111 (.tmp 27) 6758 6759 (by kernel_rfl) x7 (by kernel_rfl) (fun b8 => ?_) (fun b8 => ?_)
        · replace hm := bif_t b8 hm
          refine R_sq Tryd.f111 13516 13517 (by kernel_rfl) ?_
          refine R_rn Tryd.f111 13516 5 [] [] 2 ⟨[(2, vb false)], []⟩ o0 (by kernel_rfl) (by kernel_rfl) ?_
          obtain rfl := Option.some.inj hm
          refine R_ret (by kernel_rfl) ?_
          refine L1_ret false ?_
          exact ret_mk (by kernel_rfl) (by kernel_rfl)
        · replace hm := bif_f b8 hm
          refine R_skip (by kernel_rfl) ?_
          refine R_rn Tryd.f111 423 6 [] [] 2 ⟨[(9, va [ci a1.X.A, ci a1.X.B, ci a1.Y.A, ci a1.Y.B]), (10, vi (w64 (x2 + 1)))], []⟩ o0 (by kernel_rfl) (by kernel_rfl) ?_
          exact HL_enter (worth_isRect_L1_S a1 (w64 (x2 + 1))) (by kernel_rfl) (by kernel_rfl) (ih (w64 (x2 + 1)) _ hm)
      · rcases Bool.eq_false_or_eq_true (decide ((([a1.X.A, a1.X.B, a1.Y.A, a1.Y.B] : List Int).getD (x2.toNat * 2 + 0) 0) < (-600))) with b5 | b5
        · replace hm := bif_t b5 hm
          refine R_rn Tryd.f111 3378 4 [(3, dfx true)] [] 2 ⟨[(9, va [ci a1.X.A, ci a1.X.B, ci a1.Y.A, ci a1.Y.B]), (10, vi x2), (27, vb true)], []⟩ (o1 b5) (by kernel_rfl) (by kernel_rfl) ?_
          exact J_mk (true) hm (by kernel_rfl) (by kernel_rfl)
        · replace hm := bif_f b5 hm
          rcases Bool.eq_false_or_eq_true (decide ((([a1.X.A, a1.X.B, a1.Y.A, a1.Y.B] : List Int).getD (x2.toNat * 2 + 1) 0) > 600)) with b6 | b6
          · replace hm := bif_t b6 hm
            refine R_rn Tryd.f111 3378 4 [(3, dfx false), (8, dfx true)] [] 2 ⟨[(9, va [ci a1.X.A, ci a1.X.B, ci a1.Y.A, ci a1.Y.B]), (10, vi x2), (17, vp 1 1), (18, vi (([a1.X.A, a1.X.B, a1.Y.A, a1.Y.B] : List Int).getD (x2.toNat * 2 + 1) 0)), (19, vb (decide ((([a1.X.A, a1.X.B, a1.Y.A, a1.Y.B] : List Int).getD (x2.toNat * 2 + 1) 0) > 600))), (27, vb true)], [(1, bx 33 [ci (([a1.X.A, a1.X.B, a1.Y.A, a1.Y.B] : List Int).getD (x2.toNat * 2 + 0) 0), ci (([a1.X.A, a1.X.B, a1.Y.A, a1.Y.B] : List Int).getD (x2.toNat * 2 + 1) 0)])]⟩ (o1 (And.intro b5 b6)) (by kernel_rfl) (by kernel_rfl) ?_
            exact J_mk (true) hm (by kernel_rfl) (by kernel_rfl)
          · replace hm := bif_f b6 hm
            refine R_rn Tryd.f111 3378 4 [(3, dfx false), (8, dfx false)] [] 2 ⟨[(9, va [ci a1.X.A, ci a1.X.B, ci a1.Y.A, ci a1.Y.B]), (10, vi x2), (17, vp 1 1), (18, vi (([a1.X.A, a1.X.B, a1.Y.A, a1.Y.B] : List Int).getD (x2.toNat * 2 + 1) 0)), (19, vb (decide ((([a1.X.A, a1.X.B, a1.Y.A, a1.Y.B] : List Int).getD (x2.toNat * 2 + 1) 0) > 600))), (22, vp 1 0), (23, vi (([a1.X.A, a1.X.B, a1.Y.A, a1.Y.B] : List Int).getD (x2.toNat * 2 + 0) 0)), (24, vp 1 1), (25, vi (([a1.X.A, a1.X.B, a1.Y.A, a1.Y.B] : List Int).getD (x2.toNat * 2 + 1) 0)), (26, vb (decide ((([a1.X.A, a1.X.B, a1.Y.A, a1.Y.B] : List Int).getD (x2.toNat * 2 + 0) 0) ≥ (([a1.X.A, a1.X.B, a1.Y.A, a1.Y.B] : List Int).getD (x2.toNat * 2 + 1) 0)))), (27, vb (decide ((([a1.X.A, a1.X.B, a1.Y.A, a1.Y.B] : List Int).getD (x2.toNat * 2 + 0) 0) ≥ (([a1.X.A, a1.X.B, a1.Y.A, a1.Y.B] : List Int).getD (x2.toNat * 2 + 1) 0))))], [(1, bx 33 [ci (([a1.X.A, a1.X.B, a1.Y.A, a1.Y.B] : List Int).getD (x2.toNat * 2 + 0) 0), ci (([a1.X.A, a1.X.B, a1.Y.A, a1.Y.B] : List Int).getD (x2.toNat * 2 + 1) 0)])]⟩ (o1 (And.intro b5 b6)) (by kernel_rfl) (by kernel_rfl) ?_
            exact J_mk (decide ((([a1.X.A, a1.X.B, a1.Y.A, a1.Y.B] : List Int).getD (x2.toNat * 2 + 0) 0) ≥ (([a1.X.A, a1.X.B, a1.Y.A, a1.Y.B] : List Int).getD (x2.toNat * 2 + 1) 0))) hm (by kernel_rfl) (by kernel_rfl)
    · replace hm := bif_f b3 hm
      refine R_exit 0 (by kernel_rfl) ?_
      obtain rfl := Option.some.inj hm
      exact L1_mk () (by kernel_rfl) (by kernel_rfl)

set_option maxRecDepth 100000 in
theorem worth_isRect_ok (a1 : Rect) (r : Bool) (hm : worth_isRect a1 = some r) : CtX Tryd.prog globs 111 0 0 [.agg [ci a1.X.A, ci a1.X.B, ci a1.Y.A, ci a1.Y.B]] [] (worth_isRect_x r) (worth_isRect_o r) := by
  unfold worth_isRect at hm
  refine CtX_of_E (fn := Tryd.f111) (c := nd Tryd.f111 1) (nt := 29) (by kernel_rfl) (by kernel_rfl) (by kernel_rfl) (by kernel_rfl) fun E => ?_
  refine R_sq Tryd.f111 2 3 (by kernel_rfl) ?_
  refine R_rn Tryd.f111 2 0 [] [] 0 ⟨[(1, vp 0 0)], [(0, bx 35 [ci a1.X.A, ci a1.X.B, ci a1.Y.A, ci a1.Y.B])]⟩ o0 (by kernel_rfl) (by kernel_rfl) ?_
  refine R_sq Tryd.f111 6 7 (by kernel_rfl) ?_
  refine R_sq Tryd.f111 12 13 (by kernel_rfl) ?_
  refine R_rn Tryd.f111 12 1 [] [] 1 ⟨[(9, va [ci a1.X.A, ci a1.X.B, ci a1.Y.A, ci a1.Y.B]), (10, vi 0)], []⟩ o0 (by kernel_rfl) (by kernel_rfl) ?_
  obtain ⟨u11, h10, hm⟩ := bind_s hm
  refine R_loop1 (nd Tryd.f111 52) 0 (by kernel_rfl) FUEL (fun o => worth_isRect_L1_T) (fun v st => RetQ Tryd.prog Tryd.f111 (worth_isRect_x v) (worth_isRect_o v) .ret st) u11 (HL_enter (worth_isRect_L1_S a1 0) (by kernel_rfl) (by kernel_rfl) (worth_isRect_L1_ok E a1 FUEL 0 u11 h10)) ?_ ?_
  · rintro v12 rfl st hr
    obtain rfl := Option.some.inj hm
    exact hr
  · rintro o9 rfl
    replace hm : _ = some r := hm
    refine R_sq Tryd.f111 14 15 (by kernel_rfl) ?_
    refine R_rn Tryd.f111 14 7 [] [] 1 ⟨[(2, vb true)], []⟩ o0 (by kernel_rfl) (by kernel_rfl) ?_
    obtain rfl := Option.some.inj hm
    refine R_ret (by kernel_rfl) ?_
    exact ret_mk (by kernel_rfl) (by kernel_rfl)

end Saw
end Go.SL
