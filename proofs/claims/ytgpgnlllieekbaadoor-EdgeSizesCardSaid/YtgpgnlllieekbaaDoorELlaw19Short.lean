import Derived.Test.YtgpgnlllieekbaaDoorEBase
set_option linter.unusedVariables false
set_option linter.unusedSimpArgs false
namespace Go.SL
namespace Saw
open Go.Proofs
set_option maxHeartbeats 4000000

def law19_Short_x (r : Bool) : V := vb r

def law19_Short_o (r : Bool) : List (Nat × (Nat × O)) := []

theorem law19_Short_f (r : Bool) : Frozen (law19_Short_o r) := by
  intro i k o h
  unfold law19_Short_o at h
  cases h

def law19_Short_k2_S (a1 : List Product) (x2 : Int) (x8 : Bool) : St :=
  ⟨[(0, vc (tl e_Product default a1)), (3, vi x2), (38, vb x8)], []⟩

def law19_Short_L1_S (a1 : List Product) (x2 : Int) : St :=
  ⟨[(0, vc (tl e_Product default a1)), (3, vi x2)], []⟩

def law19_Short_L1_T : St :=
  ⟨[], []⟩

set_option maxRecDepth 100000 in
theorem law19_Short_L1_ok (E : Env 0) (a1 : List Product) : ∀ (n : Nat) (x2 : Int) (res : Bool ⊕ Unit), law19_Short_L1 a1 n x2 = some res → HL (kx E 39 0) (nd Tryd.f8 52) (loopQ 0 (fun o => law19_Short_L1_T) (fun v st => RetQ Tryd.prog Tryd.f8 (law19_Short_x v) (law19_Short_o v) .ret st) res) n (law19_Short_L1_S a1 x2) := by
  intro n
  induction n with
  | zero =>
    intro x2 res hm
    cases hm
  | succ n ih =>
    intro x2 res hm
    refine HL_succ ?_
    refine R_sq Tryd.f8 104 105 (by kernel_rfl) ?_
    refine R_sq Tryd.f8 208 209 (by kernel_rfl) ?_
    refine R_rn Tryd.f8 208 2 [] [] 0 ⟨[(0, vc (tl e_Product default a1)), (3, vi x2), (7, vb (decide (x2 < ((a1.length : Nat) : Int))))], []⟩ o0 (by kernel_rfl) (by kernel_rfl) ?_
    refine R_cn Tryd.f8 (.tmp 7) 418 419 (by kernel_rfl) (decide (x2 < ((a1.length : Nat) : Int))) (by kernel_rfl) (fun b3 => ?_) (fun b3 => ?_)
    · replace hm := bif_t b3 hm
      refine R_skip (by kernel_rfl) ?_
      refine R_sq Tryd.f8 210 211 (by kernel_rfl) ?_
      refine R_bk Tryd.f8 1 420 (by kernel_rfl) ?_
      refine R_join (ι := Bool) (nd Tryd.f8 840) (nd Tryd.f8 841) (by kernel_rfl) (fun p => law19_Short_k2_S a1 x2 p) (fun p => law19_Short_k2 x2 (law19_Short_L1 a1 n) p = some res) ?_ ?_
      · rintro x8 hm
        show H _ (law19_Short_k2_S a1 x2 x8) (nd Tryd.f8 841) _
        refine R_cn Tryd.f8 (.tmp 38) 1682 1683 (by kernel_rfl) x8 (by kernel_rfl) (fun b9 => ?_) (fun b9 => ?_)
        · replace hm := bif_t b9 hm
          refine R_sq Tryd.f8 3364 3365 (by kernel_rfl) ?_
          refine R_rn Tryd.f8 3364 5 [] [] 0 ⟨[(2, vb false)], []⟩ o0 (by kernel_rfl) (by kernel_rfl) ?_
          obtain rfl := Option.some.inj hm
          refine R_ret (by kernel_rfl) ?_
          refine L1_ret false ?_
          exact ret_mk (by kernel_rfl) (by kernel_rfl)
        · replace hm := bif_f b9 hm
          refine R_skip (by kernel_rfl) ?_
          refine R_rn Tryd.f8 211 3 [] [] 0 ⟨[(0, vc (tl e_Product default a1)), (3, vi (w64 (x2 + 1)))], []⟩ o0 (by kernel_rfl) (by kernel_rfl) ?_
          exact HL_enter (law19_Short_L1_S a1 (w64 (x2 + 1))) (by kernel_rfl) (by kernel_rfl) (ih (w64 (x2 + 1)) _ hm)
      · rcases Bool.eq_false_or_eq_true (decide (x2 ≥ 20)) with b4 | b4
        · replace hm := bif_t b4 hm
          refine R_rn Tryd.f8 840 4 [(2, dfx true)] [] 0 ⟨[(0, vc (tl e_Product default a1)), (3, vi x2), (38, vb true)], []⟩ (o1 b4) (by kernel_rfl) (by kernel_rfl) ?_
          exact J_mk (true) hm (by kernel_rfl) (by kernel_rfl)
        · replace hm := bif_f b4 hm
          obtain ⟨g5, hm⟩ := bif_n hm
          rcases Bool.eq_false_or_eq_true (decide (((((a1.getD x2.toNat default).Lengths).length : Nat) : Int) > 12)) with b6 | b6
          · replace hm := bif_t b6 hm
            refine R_rn Tryd.f8 840 4 [(2, dfx false), (11, dfx true)] [] 0 ⟨[(0, vc (tl e_Product default a1)), (3, vi x2), (13, vc (tl e_Product default a1)), (14, vi x2), (15, vc (.lptr (e_Product (a1.getD x2.toNat default)))), (16, vc (.lptr ((e_Product (a1.getD x2.toNat default)).drop 5))), (17, vc (tl e_i64 default ((a1.getD x2.toNat default).Lengths))), (18, vi ((((a1.getD x2.toNat default).Lengths).length : Nat) : Int)), (19, vb (decide (((((a1.getD x2.toNat default).Lengths).length : Nat) : Int) > 12))), (38, vb true)], []⟩ (o1 (And.intro b4 (And.intro (inb_of g5) b6))) (by kernel_rfl) (by kernel_rfl) ?_
            exact J_mk (true) hm (by kernel_rfl) (by kernel_rfl)
          · replace hm := bif_f b6 hm
            rcases Bool.eq_false_or_eq_true (decide (((((a1.getD x2.toNat default).Prices).length : Nat) : Int) > 12)) with b7 | b7
            · replace hm := bif_t b7 hm
              refine R_rn Tryd.f8 840 4 [(2, dfx false), (11, dfx false), (20, dfx true)] [] 0 ⟨[(0, vc (tl e_Product default a1)), (3, vi x2), (13, vc (tl e_Product default a1)), (14, vi x2), (15, vc (.lptr (e_Product (a1.getD x2.toNat default)))), (16, vc (.lptr ((e_Product (a1.getD x2.toNat default)).drop 5))), (17, vc (tl e_i64 default ((a1.getD x2.toNat default).Lengths))), (18, vi ((((a1.getD x2.toNat default).Lengths).length : Nat) : Int)), (19, vb (decide (((((a1.getD x2.toNat default).Lengths).length : Nat) : Int) > 12))), (22, vc (tl e_Product default a1)), (23, vi x2), (24, vc (.lptr (e_Product (a1.getD x2.toNat default)))), (25, vc (.lptr ((e_Product (a1.getD x2.toNat default)).drop 6))), (26, vc (tl e_i64 default ((a1.getD x2.toNat default).Prices))), (27, vi ((((a1.getD x2.toNat default).Prices).length : Nat) : Int)), (28, vb (decide (((((a1.getD x2.toNat default).Prices).length : Nat) : Int) > 12))), (38, vb true)], []⟩ (o1 (And.intro b4 (And.intro (inb_of g5) (And.intro b6 (And.intro (inb_of g5) b7))))) (by kernel_rfl) (by kernel_rfl) ?_
              exact J_mk (true) hm (by kernel_rfl) (by kernel_rfl)
            · replace hm := bif_f b7 hm
              refine R_rn Tryd.f8 840 4 [(2, dfx false), (11, dfx false), (20, dfx false)] [] 0 ⟨[(0, vc (tl e_Product default a1)), (3, vi x2), (13, vc (tl e_Product default a1)), (14, vi x2), (15, vc (.lptr (e_Product (a1.getD x2.toNat default)))), (16, vc (.lptr ((e_Product (a1.getD x2.toNat default)).drop 5))), (17, vc (tl e_i64 default ((a1.getD x2.toNat default).Lengths))), (18, vi ((((a1.getD x2.toNat default).Lengths).length : Nat) : Int)), (19, vb (decide (((((a1.getD x2.toNat default).Lengths).length : Nat) : Int) > 12))), (22, vc (tl e_Product default a1)), (23, vi x2), (24, vc (.lptr (e_Product (a1.getD x2.toNat default)))), (25, vc (.lptr ((e_Product (a1.getD x2.toNat default)).drop 6))), (26, vc (tl e_i64 default ((a1.getD x2.toNat default).Prices))), (27, vi ((((a1.getD x2.toNat default).Prices).length : Nat) : Int)), (28, vb (decide (((((a1.getD x2.toNat default).Prices).length : Nat) : Int) > 12))), (31, vc (tl e_Product default a1)), (32, vi x2), (33, vc (.lptr (e_Product (a1.getD x2.toNat default)))), (34, vc (.lptr (e_Product (a1.getD x2.toNat default)))), (35, vc (cs ((a1.getD x2.toNat default).Name))), (36, vi ((((a1.getD x2.toNat default).Name).size : Nat) : Int)), (37, vb (decide (((((a1.getD x2.toNat default).Name).size : Nat) : Int) > 100))), (38, vb (decide (((((a1.getD x2.toNat default).Name).size : Nat) : Int) > 100)))], []⟩ (o1 (And.intro b4 (And.intro (inb_of g5) (And.intro b6 (And.intro (inb_of g5) (And.intro b7 (inb_of g5))))))) (by kernel_rfl) (by kernel_rfl) ?_
              exact J_mk (decide (((((a1.getD x2.toNat default).Name).size : Nat) : Int) > 100)) hm (by kernel_rfl) (by kernel_rfl)
    · replace hm := bif_f b3 hm
      refine R_exit 0 (by kernel_rfl) ?_
      obtain rfl := Option.some.inj hm
      exact L1_mk () (by kernel_rfl) (by kernel_rfl)

set_option maxRecDepth 100000 in
theorem law19_Short_ok (a1 : List Product) (r : Bool) (hm : law19_Short a1 = some r) : CtX Tryd.prog globs 8 0 0 [.one (tl e_Product default a1)] [] (law19_Short_x r) (law19_Short_o r) := by
  unfold law19_Short at hm
  refine CtX_of_E (fn := Tryd.f8) (c := nd Tryd.f8 1) (nt := 39) (by kernel_rfl) (by kernel_rfl) (by kernel_rfl) (by kernel_rfl) fun E => ?_
  refine R_sq Tryd.f8 2 3 (by kernel_rfl) ?_
  refine R_rn Tryd.f8 2 0 [] [] 0 ⟨[(0, vc (tl e_Product default a1))], []⟩ o0 (by kernel_rfl) (by kernel_rfl) ?_
  refine R_sq Tryd.f8 6 7 (by kernel_rfl) ?_
  refine R_sq Tryd.f8 12 13 (by kernel_rfl) ?_
  refine R_rn Tryd.f8 12 1 [] [] 0 ⟨[(0, vc (tl e_Product default a1)), (3, vi 0)], []⟩ o0 (by kernel_rfl) (by kernel_rfl) ?_
  obtain ⟨u12, h11, hm⟩ := bind_s hm
  refine R_loop1 (nd Tryd.f8 52) 0 (by kernel_rfl) FUEL (fun o => law19_Short_L1_T) (fun v st => RetQ Tryd.prog Tryd.f8 (law19_Short_x v) (law19_Short_o v) .ret st) u12 (HL_enter (law19_Short_L1_S a1 0) (by kernel_rfl) (by kernel_rfl) (law19_Short_L1_ok E a1 FUEL 0 u12 h11)) ?_ ?_
  · rintro v13 rfl st hr
    obtain rfl := Option.some.inj hm
    exact hr
  · rintro o10 rfl
    replace hm : _ = some r := hm
    refine R_sq Tryd.f8 14 15 (by kernel_rfl) ?_
    refine R_rn Tryd.f8 14 6 [] [] 0 ⟨[(2, vb true)], []⟩ o0 (by kernel_rfl) (by kernel_rfl) ?_
    obtain rfl := Option.some.inj hm
    refine R_ret (by kernel_rfl) ?_
    exact ret_mk (by kernel_rfl) (by kernel_rfl)

end Saw
end Go.SL
