import Derived.Test.YtcppgjcniljkcaaDoorPBase
import Derived.Test.YtcppgjcniljkcaaDoorPFa5
import Derived.Test.YtcppgjcniljkcaaDoorPFa4
set_option linter.unusedVariables false
set_option linter.unusedSimpArgs false
namespace Go.SL
namespace Saw
open Go.Proofs
set_option maxHeartbeats 4000000

def ref09_Has_x (r : Bool) : V := vb r

def ref09_Has_o (r : Bool) : List (Nat × (Nat × O)) := []

theorem ref09_Has_f (r : Bool) : Frozen (ref09_Has_o r) := by
  intro i k o h
  unfold ref09_Has_o at h
  cases h

def ref09_Has_k5_S (a1 : List Point) (a2 : Point) (x11 : Int) (x43 : Bool) : St :=
  ⟨[(0, vc (tl e_Point default a1)), (3, vp 0 0), (5, vb x43), (6, vi x11)], [(0, bx 38 [ci a2.X, ci a2.Y])]⟩

def ref09_Has_k4_S (a1 : List Point) (a2 : Point) (x10 : Bool) (x11 : Int) (x41 : Bool) : St :=
  ⟨[(0, vc (tl e_Point default a1)), (3, vp 0 0), (5, vb x10), (6, vi x11), (120, vb x41)], [(0, bx 38 [ci a2.X, ci a2.Y])]⟩

def ref09_Has_k3_S (a1 : List Point) (a2 : Point) (x10 : Bool) (x11 : Int) (x22 : Bool) : St :=
  ⟨[(0, vc (tl e_Point default a1)), (3, vp 0 0), (5, vb x10), (6, vi x11), (7, vp 2 0), (8, vp 3 0), (80, vb x22)], [(0, bx 38 [ci a2.X, ci a2.Y]), (2, bx 38 [ci ((a1.getD x11.toNat default).X), ci ((a1.getD x11.toNat default).Y)]), (3, bx 38 [ci ((a1.getD (Int.tmod (w64 (x11 + 1)) ((a1.length : Nat) : Int)).toNat default).X), ci ((a1.getD (Int.tmod (w64 (x11 + 1)) ((a1.length : Nat) : Int)).toNat default).Y)])]⟩

def ref09_Has_L2_S (a1 : List Point) (a2 : Point) (x10 : Bool) (x11 : Int) : St :=
  ⟨[(0, vc (tl e_Point default a1)), (3, vp 0 0), (5, vb x10), (6, vi x11)], [(0, bx 38 [ci a2.X, ci a2.Y])]⟩

def ref09_Has_L2_T (x44 : Bool) : St :=
  ⟨[(5, vb x44)], []⟩

def ref09_Has_k1_S (a1 : List Point) (a2 : Point) (x8 : Bool) : St :=
  ⟨[(0, vc (tl e_Point default a1)), (3, vp 0 0), (17, vb x8)], [(0, bx 38 [ci a2.X, ci a2.Y])]⟩

set_option maxRecDepth 100000 in
theorem ref09_Has_L2_ok (E : Env 0) (a1 : List Point) (a2 : Point) : ∀ (n : Nat) (x10 : Bool) (x11 : Int) (res : Bool ⊕ Bool), ref09_Has_L2 a1 a2 n x10 x11 = some res → HL (kx E 124 0) (nd Tryd.f26 244) (loopQ 0 (fun o => ref09_Has_L2_T o) (fun v st => RetQ Tryd.prog Tryd.f26 (ref09_Has_x v) (ref09_Has_o v) .ret st) res) n (ref09_Has_L2_S a1 a2 x10 x11) := by
  intro n
  induction n with
  | zero =>
    intro x10 x11 res hm
    cases hm
  | succ n ih =>
    intro x10 x11 res hm
    refine HL_succ ?_
    refine R_sq Tryd.f26 488 489 (by kernel_rfl) ?_
    refine R_sq Tryd.f26 976 977 (by kernel_rfl) ?_
    refine R_rn Tryd.f26 976 5 [] [] 2 ⟨[(0, vc (tl e_Point default a1)), (3, vp 0 0), (5, vb x10), (6, vi x11), (21, vb (decide (x11 < ((a1.length : Nat) : Int))))], [(0, bx 38 [ci a2.X, ci a2.Y])]⟩ o0 (by kernel_rfl) (by kernel_rfl) ?_
    refine R_cn Tryd.f26 (.tmp 21) 1954 1955 (by kernel_rfl) (decide (x11 < ((a1.length : Nat) : Int))) (by kernel_rfl) (fun b12 => ?_) (fun b12 => ?_)
    · replace hm := bif_t b12 hm
      refine R_skip (by kernel_rfl) ?_
      refine R_join (ι := Bool) (nd Tryd.f26 978) (nd Tryd.f26 979) (by kernel_rfl) (fun p => ref09_Has_k5_S a1 a2 x11 p) (fun p => ref09_Has_k5 x11 (ref09_Has_L2 a1 a2 n) p = some res) ?_ ?_
      · rintro x43 hm
        show H _ (ref09_Has_k5_S a1 a2 x11 x43) (nd Tryd.f26 979) _
        refine R_rn Tryd.f26 979 6 [] [] 4 ⟨[(0, vc (tl e_Point default a1)), (3, vp 0 0), (5, vb x43), (6, vi (w64 (x11 + 1)))], [(0, bx 38 [ci a2.X, ci a2.Y])]⟩ o0 (by kernel_rfl) (by kernel_rfl) ?_
        exact HL_enter (ref09_Has_L2_S a1 a2 x43 (w64 (x11 + 1))) (by kernel_rfl) (by kernel_rfl) (ih x43 (w64 (x11 + 1)) _ hm)
      · refine R_bk Tryd.f26 1 1956 (by kernel_rfl) ?_
        refine R_sq Tryd.f26 3912 3913 (by kernel_rfl) ?_
        obtain ⟨g13, hm⟩ := bif_n hm
        obtain ⟨g14, hm⟩ := bif_n hm
        obtain ⟨g15, hm⟩ := bif_n hm
        refine R_dr Tryd.f26 3912 7 [] [] [] [0, 0, 3, 7, 0, 0, 32, 0, 128, 480, 1008, 2032, 0, 0, 12303, 32767] 2 ⟨[(0, vc (tl e_Point default a1)), (3, vp 0 0), (5, vb x10), (6, vi x11), (7, vp 2 0), (8, vp 3 0)], [(0, bx 38 [ci a2.X, ci a2.Y]), (2, bx 38 [ci ((a1.getD x11.toNat default).X), ci ((a1.getD x11.toNat default).Y)]), (3, bx 38 [ci ((a1.getD (Int.tmod (w64 (x11 + 1)) ((a1.length : Nat) : Int)).toNat default).X), ci ((a1.getD (Int.tmod (w64 (x11 + 1)) ((a1.length : Nat) : Int)).toNat default).Y)])]⟩ (o1 (And.intro (inb_of g13) (And.intro (nz_of g14) (inb_of g15)))) (by kernel_rfl) (by kernel_rfl) ?_
        refine R_sq Tryd.f26 7826 7827 (by kernel_rfl) ?_
        refine R_join (ι := Bool) (nd Tryd.f26 15652) (nd Tryd.f26 15653) (by kernel_rfl) (fun p => ref09_Has_k3_S a1 a2 x10 x11 p) (fun p => ref09_Has_k3 a1 a2 x10 x11 (ref09_Has_L2 a1 a2 n) p = some res) ?_ ?_
        · rintro x22 hm
          show H _ (ref09_Has_k3_S a1 a2 x10 x11 x22) (nd Tryd.f26 15653) _
          refine R_cn Tryd.f26 (.tmp 80) 31306 31307 (by kernel_rfl) x22 (by kernel_rfl) (fun b23 => ?_) (fun b23 => ?_)
          · replace hm := bif_t b23 hm
            refine R_sq Tryd.f26 62612 62613 (by kernel_rfl) ?_
            refine R_rn Tryd.f26 62612 9 [] [] 4 ⟨[(4, vb true)], []⟩ o0 (by kernel_rfl) (by kernel_rfl) ?_
            obtain rfl := Option.some.inj hm
            refine R_ret (by kernel_rfl) ?_
            refine L1_ret true ?_
            exact ret_mk (by kernel_rfl) (by kernel_rfl)
          · replace hm := bif_f b23 hm
            refine R_skip (by kernel_rfl) ?_
            refine R_join (ι := Bool) (nd Tryd.f26 15654) (nd Tryd.f26 15655) (by kernel_rfl) (fun p => ref09_Has_k4_S a1 a2 x10 x11 p) (fun p => ref09_Has_k4 x10 x11 (ref09_Has_L2 a1 a2 n) p = some res) ?_ ?_
            · rintro x41 hm
              show H _ (ref09_Has_k4_S a1 a2 x10 x11 x41) (nd Tryd.f26 15655) _
              refine R_cn Tryd.f26 (.tmp 120) 31310 31311 (by kernel_rfl) x41 (by kernel_rfl) (fun b42 => ?_) (fun b42 => ?_)
              · replace hm := bif_t b42 hm
                refine R_rn Tryd.f26 31310 11 [] [] 4 ⟨[(0, vc (tl e_Point default a1)), (3, vp 0 0), (5, vb (!x10)), (6, vi x11)], [(0, bx 38 [ci a2.X, ci a2.Y])]⟩ o0 (by kernel_rfl) (by kernel_rfl) ?_
                exact J_mk (!x10) hm (by kernel_rfl) (by kernel_rfl)
              · replace hm := bif_f b42 hm
                refine R_skip (by kernel_rfl) ?_
                exact J_mk (x10) hm (by kernel_rfl) (by kernel_rfl)
            · rcases Bool.eq_false_or_eq_true (decide (((a1.getD x11.toNat default).Y) ≤ a2.Y)) with b24 | b24
              · replace hm := bif_t b24 hm
                rcases Bool.eq_false_or_eq_true (decide (a2.Y < ((a1.getD (Int.tmod (w64 (x11 + 1)) ((a1.length : Nat) : Int)).toNat default).Y))) with b25 | b25
                · replace hm := bif_t b25 hm
                  obtain ⟨v26, h27, hm⟩ := bind_s hm
                  rcases Bool.eq_false_or_eq_true (decide (v26 > 0)) with b28 | b28
                  · replace hm := bif_t b28 hm
                    refine R_rn Tryd.f26 15654 10 [(5, dfx true), (12, dfx true), (16, dex (cen [] [] 4 0 (ref09_Cross_x v26) (ref09_Cross_o v26) [93, 94, 95, 96] [])), (19, dfx true)] [] 4 ⟨[(0, vc (tl e_Point default a1)), (3, vp 0 0), (5, vb x10), (6, vi x11), (87, vp 0 1), (88, vi a2.Y), (89, vp 3 1), (90, vi ((a1.getD (Int.tmod (w64 (x11 + 1)) ((a1.length : Nat) : Int)).toNat default).Y)), (91, vb (decide (a2.Y < ((a1.getD (Int.tmod (w64 (x11 + 1)) ((a1.length : Nat) : Int)).toNat default).Y)))), (94, va [ci ((a1.getD x11.toNat default).X), ci ((a1.getD x11.toNat default).Y)]), (95, va [ci ((a1.getD (Int.tmod (w64 (x11 + 1)) ((a1.length : Nat) : Int)).toNat default).X), ci ((a1.getD (Int.tmod (w64 (x11 + 1)) ((a1.length : Nat) : Int)).toNat default).Y)]), (96, va [ci a2.X, ci a2.Y]), (97, vi v26), (98, vb (decide (v26 > 0))), (120, vb true)], [(0, bx 38 [ci a2.X, ci a2.Y]), (3, bx 38 [ci ((a1.getD (Int.tmod (w64 (x11 + 1)) ((a1.length : Nat) : Int)).toNat default).X), ci ((a1.getD (Int.tmod (w64 (x11 + 1)) ((a1.length : Nat) : Int)).toNat default).Y)])]⟩ (o1 (And.intro b24 (And.intro b25 (And.intro (callS (K := (kx E 124 0)) ⟨[(93, vb true), (94, va [ci ((a1.getD x11.toNat default).X), ci ((a1.getD x11.toNat default).Y)]), (95, va [ci ((a1.getD (Int.tmod (w64 (x11 + 1)) ((a1.length : Nat) : Int)).toNat default).X), ci ((a1.getD (Int.tmod (w64 (x11 + 1)) ((a1.length : Nat) : Int)).toNat default).Y)]), (96, va [ci a2.X, ci a2.Y])], []⟩ (opAt (rg Tryd.f26 15654) 16) [] [] 4 o0 rfl (ref09_Cross_ok (a1.getD x11.toNat default) (a1.getD (Int.tmod (w64 (x11 + 1)) ((a1.length : Nat) : Int)).toNat default) a2 v26 h27) (.inl rfl) (by kernel_rfl)) b28)))) (by kernel_rfl) (by kernel_rfl) ?_
                    exact J_mk (true) hm (by kernel_rfl) (by kernel_rfl)
                  · replace hm := bif_f b28 hm
                    rcases Bool.eq_false_or_eq_true (decide (((a1.getD (Int.tmod (w64 (x11 + 1)) ((a1.length : Nat) : Int)).toNat default).Y) ≤ a2.Y)) with b29 | b29
                    · replace hm := bif_t b29 hm
                      rcases Bool.eq_false_or_eq_true (decide (a2.Y < ((a1.getD x11.toNat default).Y))) with b30 | b30
                      · replace hm := bif_t b30 hm
                        obtain ⟨v31, h32, hm⟩ := bind_s hm
                        refine R_rn Tryd.f26 15654 10 [(5, dfx true), (12, dfx true), (16, dex (cen [] [] 4 0 (ref09_Cross_x v26) (ref09_Cross_o v26) [93, 94, 95, 96] [])), (19, dfx false), (25, dfx true), (32, dfx true), (36, dex (cen [] [] 4 0 (ref09_Cross_x v31) (ref09_Cross_o v31) [113, 114, 115, 116] []))] [] 4 ⟨[(0, vc (tl e_Point default a1)), (3, vp 0 0), (5, vb x10), (6, vi x11), (87, vp 0 1), (88, vi a2.Y), (89, vp 3 1), (90, vi ((a1.getD (Int.tmod (w64 (x11 + 1)) ((a1.length : Nat) : Int)).toNat default).Y)), (91, vb (decide (a2.Y < ((a1.getD (Int.tmod (w64 (x11 + 1)) ((a1.length : Nat) : Int)).toNat default).Y)))), (94, va [ci ((a1.getD x11.toNat default).X), ci ((a1.getD x11.toNat default).Y)]), (95, va [ci ((a1.getD (Int.tmod (w64 (x11 + 1)) ((a1.length : Nat) : Int)).toNat default).X), ci ((a1.getD (Int.tmod (w64 (x11 + 1)) ((a1.length : Nat) : Int)).toNat default).Y)]), (96, va [ci a2.X, ci a2.Y]), (97, vi v26), (98, vb (decide (v26 > 0))), (101, vp 3 1), (102, vi ((a1.getD (Int.tmod (w64 (x11 + 1)) ((a1.length : Nat) : Int)).toNat default).Y)), (103, vp 0 1), (104, vi a2.Y), (105, vb (decide (((a1.getD (Int.tmod (w64 (x11 + 1)) ((a1.length : Nat) : Int)).toNat default).Y) ≤ a2.Y))), (106, vb true), (107, vp 0 1), (108, vi a2.Y), (109, vp 2 1), (110, vi ((a1.getD x11.toNat default).Y)), (111, vb (decide (a2.Y < ((a1.getD x11.toNat default).Y)))), (112, vb (decide (a2.Y < ((a1.getD x11.toNat default).Y)))), (113, vb true), (114, va [ci ((a1.getD x11.toNat default).X), ci ((a1.getD x11.toNat default).Y)]), (115, va [ci ((a1.getD (Int.tmod (w64 (x11 + 1)) ((a1.length : Nat) : Int)).toNat default).X), ci ((a1.getD (Int.tmod (w64 (x11 + 1)) ((a1.length : Nat) : Int)).toNat default).Y)]), (116, va [ci a2.X, ci a2.Y]), (117, vi v31), (118, vb (decide (v31 < 0))), (119, vb (decide (v31 < 0))), (120, vb (decide (v31 < 0)))], [(0, bx 38 [ci a2.X, ci a2.Y]), (2, bx 38 [ci ((a1.getD x11.toNat default).X), ci ((a1.getD x11.toNat default).Y)]), (3, bx 38 [ci ((a1.getD (Int.tmod (w64 (x11 + 1)) ((a1.length : Nat) : Int)).toNat default).X), ci ((a1.getD (Int.tmod (w64 (x11 + 1)) ((a1.length : Nat) : Int)).toNat default).Y)])]⟩ (o1 (And.intro b24 (And.intro b25 (And.intro (callS (K := (kx E 124 0)) ⟨[(93, vb true), (94, va [ci ((a1.getD x11.toNat default).X), ci ((a1.getD x11.toNat default).Y)]), (95, va [ci ((a1.getD (Int.tmod (w64 (x11 + 1)) ((a1.length : Nat) : Int)).toNat default).X), ci ((a1.getD (Int.tmod (w64 (x11 + 1)) ((a1.length : Nat) : Int)).toNat default).Y)]), (96, va [ci a2.X, ci a2.Y])], []⟩ (opAt (rg Tryd.f26 15654) 16) [] [] 4 o0 rfl (ref09_Cross_ok (a1.getD x11.toNat default) (a1.getD (Int.tmod (w64 (x11 + 1)) ((a1.length : Nat) : Int)).toNat default) a2 v26 h27) (.inl rfl) (by kernel_rfl)) (And.intro b28 (And.intro b29 (And.intro b30 (callS (K := (kx E 124 0)) ⟨[(113, vb true), (114, va [ci ((a1.getD x11.toNat default).X), ci ((a1.getD x11.toNat default).Y)]), (115, va [ci ((a1.getD (Int.tmod (w64 (x11 + 1)) ((a1.length : Nat) : Int)).toNat default).X), ci ((a1.getD (Int.tmod (w64 (x11 + 1)) ((a1.length : Nat) : Int)).toNat default).Y)]), (116, va [ci a2.X, ci a2.Y])], []⟩ (opAt (rg Tryd.f26 15654) 36) [] [] 4 o0 rfl (ref09_Cross_ok (a1.getD x11.toNat default) (a1.getD (Int.tmod (w64 (x11 + 1)) ((a1.length : Nat) : Int)).toNat default) a2 v31 h32) (.inl rfl) (by kernel_rfl))))))))) (by kernel_rfl) (by kernel_rfl) ?_
                        exact J_mk (decide (v31 < 0)) hm (by kernel_rfl) (by kernel_rfl)
                      · replace hm := bif_f b30 hm
                        refine R_rn Tryd.f26 15654 10 [(5, dfx true), (12, dfx true), (16, dex (cen [] [] 4 0 (ref09_Cross_x v26) (ref09_Cross_o v26) [93, 94, 95, 96] [])), (19, dfx false), (25, dfx true), (32, dfx false)] [] 4 ⟨[(0, vc (tl e_Point default a1)), (3, vp 0 0), (5, vb x10), (6, vi x11), (87, vp 0 1), (88, vi a2.Y), (89, vp 3 1), (90, vi ((a1.getD (Int.tmod (w64 (x11 + 1)) ((a1.length : Nat) : Int)).toNat default).Y)), (91, vb (decide (a2.Y < ((a1.getD (Int.tmod (w64 (x11 + 1)) ((a1.length : Nat) : Int)).toNat default).Y)))), (94, va [ci ((a1.getD x11.toNat default).X), ci ((a1.getD x11.toNat default).Y)]), (95, va [ci ((a1.getD (Int.tmod (w64 (x11 + 1)) ((a1.length : Nat) : Int)).toNat default).X), ci ((a1.getD (Int.tmod (w64 (x11 + 1)) ((a1.length : Nat) : Int)).toNat default).Y)]), (96, va [ci a2.X, ci a2.Y]), (97, vi v26), (98, vb (decide (v26 > 0))), (101, vp 3 1), (102, vi ((a1.getD (Int.tmod (w64 (x11 + 1)) ((a1.length : Nat) : Int)).toNat default).Y)), (103, vp 0 1), (104, vi a2.Y), (105, vb (decide (((a1.getD (Int.tmod (w64 (x11 + 1)) ((a1.length : Nat) : Int)).toNat default).Y) ≤ a2.Y))), (106, vb true), (107, vp 0 1), (108, vi a2.Y), (109, vp 2 1), (110, vi ((a1.getD x11.toNat default).Y)), (111, vb (decide (a2.Y < ((a1.getD x11.toNat default).Y)))), (112, vb (decide (a2.Y < ((a1.getD x11.toNat default).Y)))), (113, vb false), (119, vb false), (120, vb false)], [(0, bx 38 [ci a2.X, ci a2.Y]), (2, bx 38 [ci ((a1.getD x11.toNat default).X), ci ((a1.getD x11.toNat default).Y)]), (3, bx 38 [ci ((a1.getD (Int.tmod (w64 (x11 + 1)) ((a1.length : Nat) : Int)).toNat default).X), ci ((a1.getD (Int.tmod (w64 (x11 + 1)) ((a1.length : Nat) : Int)).toNat default).Y)])]⟩ (o1 (And.intro b24 (And.intro b25 (And.intro (callS (K := (kx E 124 0)) ⟨[(93, vb true), (94, va [ci ((a1.getD x11.toNat default).X), ci ((a1.getD x11.toNat default).Y)]), (95, va [ci ((a1.getD (Int.tmod (w64 (x11 + 1)) ((a1.length : Nat) : Int)).toNat default).X), ci ((a1.getD (Int.tmod (w64 (x11 + 1)) ((a1.length : Nat) : Int)).toNat default).Y)]), (96, va [ci a2.X, ci a2.Y])], []⟩ (opAt (rg Tryd.f26 15654) 16) [] [] 4 o0 rfl (ref09_Cross_ok (a1.getD x11.toNat default) (a1.getD (Int.tmod (w64 (x11 + 1)) ((a1.length : Nat) : Int)).toNat default) a2 v26 h27) (.inl rfl) (by kernel_rfl)) (And.intro b28 (And.intro b29 b30)))))) (by kernel_rfl) (by kernel_rfl) ?_
                        exact J_mk (false) hm (by kernel_rfl) (by kernel_rfl)
                    · replace hm := bif_f b29 hm
                      refine R_rn Tryd.f26 15654 10 [(5, dfx true), (12, dfx true), (16, dex (cen [] [] 4 0 (ref09_Cross_x v26) (ref09_Cross_o v26) [93, 94, 95, 96] [])), (19, dfx false), (25, dfx false)] [] 4 ⟨[(0, vc (tl e_Point default a1)), (3, vp 0 0), (5, vb x10), (6, vi x11), (87, vp 0 1), (88, vi a2.Y), (89, vp 3 1), (90, vi ((a1.getD (Int.tmod (w64 (x11 + 1)) ((a1.length : Nat) : Int)).toNat default).Y)), (91, vb (decide (a2.Y < ((a1.getD (Int.tmod (w64 (x11 + 1)) ((a1.length : Nat) : Int)).toNat default).Y)))), (94, va [ci ((a1.getD x11.toNat default).X), ci ((a1.getD x11.toNat default).Y)]), (95, va [ci ((a1.getD (Int.tmod (w64 (x11 + 1)) ((a1.length : Nat) : Int)).toNat default).X), ci ((a1.getD (Int.tmod (w64 (x11 + 1)) ((a1.length : Nat) : Int)).toNat default).Y)]), (96, va [ci a2.X, ci a2.Y]), (97, vi v26), (98, vb (decide (v26 > 0))), (101, vp 3 1), (102, vi ((a1.getD (Int.tmod (w64 (x11 + 1)) ((a1.length : Nat) : Int)).toNat default).Y)), (103, vp 0 1), (104, vi a2.Y), (105, vb (decide (((a1.getD (Int.tmod (w64 (x11 + 1)) ((a1.length : Nat) : Int)).toNat default).Y) ≤ a2.Y))), (106, vb false), (112, vb false), (113, vb false), (119, vb false), (120, vb false)], [(0, bx 38 [ci a2.X, ci a2.Y]), (3, bx 38 [ci ((a1.getD (Int.tmod (w64 (x11 + 1)) ((a1.length : Nat) : Int)).toNat default).X), ci ((a1.getD (Int.tmod (w64 (x11 + 1)) ((a1.length : Nat) : Int)).toNat default).Y)])]⟩ (o1 (And.intro b24 (And.intro b25 (And.intro (callS (K := (kx E 124 0)) ⟨[(93, vb true), (94, va [ci ((a1.getD x11.toNat default).X), ci ((a1.getD x11.toNat default).Y)]), (95, va [ci ((a1.getD (Int.tmod (w64 (x11 + 1)) ((a1.length : Nat) : Int)).toNat default).X), ci ((a1.getD (Int.tmod (w64 (x11 + 1)) ((a1.length : Nat) : Int)).toNat default).Y)]), (96, va [ci a2.X, ci a2.Y])], []⟩ (opAt (rg Tryd.f26 15654) 16) [] [] 4 o0 rfl (ref09_Cross_ok (a1.getD x11.toNat default) (a1.getD (Int.tmod (w64 (x11 + 1)) ((a1.length : Nat) : Int)).toNat default) a2 v26 h27) (.inl rfl) (by kernel_rfl)) (And.intro b28 b29))))) (by kernel_rfl) (by kernel_rfl) ?_
                      exact J_mk (false) hm (by kernel_rfl) (by kernel_rfl)
                · replace hm := bif_f b25 hm
                  rcases Bool.eq_false_or_eq_true (decide (((a1.getD (Int.tmod (w64 (x11 + 1)) ((a1.length : Nat) : Int)).toNat default).Y) ≤ a2.Y)) with b33 | b33
                  · replace hm := bif_t b33 hm
                    rcases Bool.eq_false_or_eq_true (decide (a2.Y < ((a1.getD x11.toNat default).Y))) with b34 | b34
                    · replace hm := bif_t b34 hm
                      obtain ⟨v35, h36, hm⟩ := bind_s hm
                      refine R_rn Tryd.f26 15654 10 [(5, dfx true), (12, dfx false), (25, dfx true), (32, dfx true), (36, dex (cen [] [] 4 0 (ref09_Cross_x v35) (ref09_Cross_o v35) [113, 114, 115, 116] []))] [] 4 ⟨[(0, vc (tl e_Point default a1)), (3, vp 0 0), (5, vb x10), (6, vi x11), (87, vp 0 1), (88, vi a2.Y), (89, vp 3 1), (90, vi ((a1.getD (Int.tmod (w64 (x11 + 1)) ((a1.length : Nat) : Int)).toNat default).Y)), (91, vb (decide (a2.Y < ((a1.getD (Int.tmod (w64 (x11 + 1)) ((a1.length : Nat) : Int)).toNat default).Y)))), (101, vp 3 1), (102, vi ((a1.getD (Int.tmod (w64 (x11 + 1)) ((a1.length : Nat) : Int)).toNat default).Y)), (103, vp 0 1), (104, vi a2.Y), (105, vb (decide (((a1.getD (Int.tmod (w64 (x11 + 1)) ((a1.length : Nat) : Int)).toNat default).Y) ≤ a2.Y))), (106, vb true), (107, vp 0 1), (108, vi a2.Y), (109, vp 2 1), (110, vi ((a1.getD x11.toNat default).Y)), (111, vb (decide (a2.Y < ((a1.getD x11.toNat default).Y)))), (112, vb (decide (a2.Y < ((a1.getD x11.toNat default).Y)))), (113, vb true), (114, va [ci ((a1.getD x11.toNat default).X), ci ((a1.getD x11.toNat default).Y)]), (115, va [ci ((a1.getD (Int.tmod (w64 (x11 + 1)) ((a1.length : Nat) : Int)).toNat default).X), ci ((a1.getD (Int.tmod (w64 (x11 + 1)) ((a1.length : Nat) : Int)).toNat default).Y)]), (116, va [ci a2.X, ci a2.Y]), (117, vi v35), (118, vb (decide (v35 < 0))), (119, vb (decide (v35 < 0))), (120, vb (decide (v35 < 0)))], [(0, bx 38 [ci a2.X, ci a2.Y]), (2, bx 38 [ci ((a1.getD x11.toNat default).X), ci ((a1.getD x11.toNat default).Y)]), (3, bx 38 [ci ((a1.getD (Int.tmod (w64 (x11 + 1)) ((a1.length : Nat) : Int)).toNat default).X), ci ((a1.getD (Int.tmod (w64 (x11 + 1)) ((a1.length : Nat) : Int)).toNat default).Y)])]⟩ (o1 (And.intro b24 (And.intro b25 (And.intro b33 (And.intro b34 (callS (K := (kx E 124 0)) ⟨[(113, vb true), (114, va [ci ((a1.getD x11.toNat default).X), ci ((a1.getD x11.toNat default).Y)]), (115, va [ci ((a1.getD (Int.tmod (w64 (x11 + 1)) ((a1.length : Nat) : Int)).toNat default).X), ci ((a1.getD (Int.tmod (w64 (x11 + 1)) ((a1.length : Nat) : Int)).toNat default).Y)]), (116, va [ci a2.X, ci a2.Y])], []⟩ (opAt (rg Tryd.f26 15654) 36) [] [] 4 o0 rfl (ref09_Cross_ok (a1.getD x11.toNat default) (a1.getD (Int.tmod (w64 (x11 + 1)) ((a1.length : Nat) : Int)).toNat default) a2 v35 h36) (.inl rfl) (by kernel_rfl))))))) (by kernel_rfl) (by kernel_rfl) ?_
                      exact J_mk (decide (v35 < 0)) hm (by kernel_rfl) (by kernel_rfl)
                    · replace hm := bif_f b34 hm
                      refine R_rn Tryd.f26 15654 10 [(5, dfx true), (12, dfx false), (25, dfx true), (32, dfx false)] [] 4 ⟨[(0, vc (tl e_Point default a1)), (3, vp 0 0), (5, vb x10), (6, vi x11), (87, vp 0 1), (88, vi a2.Y), (89, vp 3 1), (90, vi ((a1.getD (Int.tmod (w64 (x11 + 1)) ((a1.length : Nat) : Int)).toNat default).Y)), (91, vb (decide (a2.Y < ((a1.getD (Int.tmod (w64 (x11 + 1)) ((a1.length : Nat) : Int)).toNat default).Y)))), (101, vp 3 1), (102, vi ((a1.getD (Int.tmod (w64 (x11 + 1)) ((a1.length : Nat) : Int)).toNat default).Y)), (103, vp 0 1), (104, vi a2.Y), (105, vb (decide (((a1.getD (Int.tmod (w64 (x11 + 1)) ((a1.length : Nat) : Int)).toNat default).Y) ≤ a2.Y))), (106, vb true), (107, vp 0 1), (108, vi a2.Y), (109, vp 2 1), (110, vi ((a1.getD x11.toNat default).Y)), (111, vb (decide (a2.Y < ((a1.getD x11.toNat default).Y)))), (112, vb (decide (a2.Y < ((a1.getD x11.toNat default).Y)))), (113, vb false), (119, vb false), (120, vb false)], [(0, bx 38 [ci a2.X, ci a2.Y]), (2, bx 38 [ci ((a1.getD x11.toNat default).X), ci ((a1.getD x11.toNat default).Y)]), (3, bx 38 [ci ((a1.getD (Int.tmod (w64 (x11 + 1)) ((a1.length : Nat) : Int)).toNat default).X), ci ((a1.getD (Int.tmod (w64 (x11 + 1)) ((a1.length : Nat) : Int)).toNat default).Y)])]⟩ (o1 (And.intro b24 (And.intro b25 (And.intro b33 b34)))) (by kernel_rfl) (by kernel_rfl) ?_
                      exact J_mk (false) hm (by kernel_rfl) (by kernel_rfl)
                  · replace hm := bif_f b33 hm
                    refine R_rn Tryd.f26 15654 10 [(5, dfx true), (12, dfx false), (25, dfx false)] [] 4 ⟨[(0, vc (tl e_Point default a1)), (3, vp 0 0), (5, vb x10), (6, vi x11), (87, vp 0 1), (88, vi a2.Y), (89, vp 3 1), (90, vi ((a1.getD (Int.tmod (w64 (x11 + 1)) ((a1.length : Nat) : Int)).toNat default).Y)), (91, vb (decide (a2.Y < ((a1.getD (Int.tmod (w64 (x11 + 1)) ((a1.length : Nat) : Int)).toNat default).Y)))), (101, vp 3 1), (102, vi ((a1.getD (Int.tmod (w64 (x11 + 1)) ((a1.length : Nat) : Int)).toNat default).Y)), (103, vp 0 1), (104, vi a2.Y), (105, vb (decide (((a1.getD (Int.tmod (w64 (x11 + 1)) ((a1.length : Nat) : Int)).toNat default).Y) ≤ a2.Y))), (106, vb false), (112, vb false), (113, vb false), (119, vb false), (120, vb false)], [(0, bx 38 [ci a2.X, ci a2.Y]), (3, bx 38 [ci ((a1.getD (Int.tmod (w64 (x11 + 1)) ((a1.length : Nat) : Int)).toNat default).X), ci ((a1.getD (Int.tmod (w64 (x11 + 1)) ((a1.length : Nat) : Int)).toNat default).Y)])]⟩ (o1 (And.intro b24 (And.intro b25 b33))) (by kernel_rfl) (by kernel_rfl) ?_
                    exact J_mk (false) hm (by kernel_rfl) (by kernel_rfl)
              · replace hm := bif_f b24 hm
                rcases Bool.eq_false_or_eq_true (decide (((a1.getD (Int.tmod (w64 (x11 + 1)) ((a1.length : Nat) : Int)).toNat default).Y) ≤ a2.Y)) with b37 | b37
                · replace hm := bif_t b37 hm
                  rcases Bool.eq_false_or_eq_true (decide (a2.Y < ((a1.getD x11.toNat default).Y))) with b38 | b38
                  · replace hm := bif_t b38 hm
                    obtain ⟨v39, h40, hm⟩ := bind_s hm
                    refine R_rn Tryd.f26 15654 10 [(5, dfx false), (25, dfx true), (32, dfx true), (36, dex (cen [] [] 4 0 (ref09_Cross_x v39) (ref09_Cross_o v39) [113, 114, 115, 116] []))] [] 4 ⟨[(0, vc (tl e_Point default a1)), (3, vp 0 0), (5, vb x10), (6, vi x11), (101, vp 3 1), (102, vi ((a1.getD (Int.tmod (w64 (x11 + 1)) ((a1.length : Nat) : Int)).toNat default).Y)), (103, vp 0 1), (104, vi a2.Y), (105, vb (decide (((a1.getD (Int.tmod (w64 (x11 + 1)) ((a1.length : Nat) : Int)).toNat default).Y) ≤ a2.Y))), (106, vb true), (107, vp 0 1), (108, vi a2.Y), (109, vp 2 1), (110, vi ((a1.getD x11.toNat default).Y)), (111, vb (decide (a2.Y < ((a1.getD x11.toNat default).Y)))), (112, vb (decide (a2.Y < ((a1.getD x11.toNat default).Y)))), (113, vb true), (114, va [ci ((a1.getD x11.toNat default).X), ci ((a1.getD x11.toNat default).Y)]), (115, va [ci ((a1.getD (Int.tmod (w64 (x11 + 1)) ((a1.length : Nat) : Int)).toNat default).X), ci ((a1.getD (Int.tmod (w64 (x11 + 1)) ((a1.length : Nat) : Int)).toNat default).Y)]), (116, va [ci a2.X, ci a2.Y]), (117, vi v39), (118, vb (decide (v39 < 0))), (119, vb (decide (v39 < 0))), (120, vb (decide (v39 < 0)))], [(0, bx 38 [ci a2.X, ci a2.Y]), (2, bx 38 [ci ((a1.getD x11.toNat default).X), ci ((a1.getD x11.toNat default).Y)]), (3, bx 38 [ci ((a1.getD (Int.tmod (w64 (x11 + 1)) ((a1.length : Nat) : Int)).toNat default).X), ci ((a1.getD (Int.tmod (w64 (x11 + 1)) ((a1.length : Nat) : Int)).toNat default).Y)])]⟩ (o1 (And.intro b24 (And.intro b37 (And.intro b38 (callS (K := (kx E 124 0)) ⟨[(113, vb true), (114, va [ci ((a1.getD x11.toNat default).X), ci ((a1.getD x11.toNat default).Y)]), (115, va [ci ((a1.getD (Int.tmod (w64 (x11 + 1)) ((a1.length : Nat) : Int)).toNat default).X), ci ((a1.getD (Int.tmod (w64 (x11 + 1)) ((a1.length : Nat) : Int)).toNat default).Y)]), (116, va [ci a2.X, ci a2.Y])], []⟩ (opAt (rg Tryd.f26 15654) 36) [] [] 4 o0 rfl (ref09_Cross_ok (a1.getD x11.toNat default) (a1.getD (Int.tmod (w64 (x11 + 1)) ((a1.length : Nat) : Int)).toNat default) a2 v39 h40) (.inl rfl) (by kernel_rfl)))))) (by kernel_rfl) (by kernel_rfl) ?_
                    exact J_mk (decide (v39 < 0)) hm (by kernel_rfl) (by kernel_rfl)
                  · replace hm := bif_f b38 hm
                    refine R_rn Tryd.f26 15654 10 [(5, dfx false), (25, dfx true), (32, dfx false)] [] 4 ⟨[(0, vc (tl e_Point default a1)), (3, vp 0 0), (5, vb x10), (6, vi x11), (101, vp 3 1), (102, vi ((a1.getD (Int.tmod (w64 (x11 + 1)) ((a1.length : Nat) : Int)).toNat default).Y)), (103, vp 0 1), (104, vi a2.Y), (105, vb (decide (((a1.getD (Int.tmod (w64 (x11 + 1)) ((a1.length : Nat) : Int)).toNat default).Y) ≤ a2.Y))), (106, vb true), (107, vp 0 1), (108, vi a2.Y), (109, vp 2 1), (110, vi ((a1.getD x11.toNat default).Y)), (111, vb (decide (a2.Y < ((a1.getD x11.toNat default).Y)))), (112, vb (decide (a2.Y < ((a1.getD x11.toNat default).Y)))), (113, vb false), (119, vb false), (120, vb false)], [(0, bx 38 [ci a2.X, ci a2.Y]), (2, bx 38 [ci ((a1.getD x11.toNat default).X), ci ((a1.getD x11.toNat default).Y)]), (3, bx 38 [ci ((a1.getD (Int.tmod (w64 (x11 + 1)) ((a1.length : Nat) : Int)).toNat default).X), ci ((a1.getD (Int.tmod (w64 (x11 + 1)) ((a1.length : Nat) : Int)).toNat default).Y)])]⟩ (o1 (And.intro b24 (And.intro b37 b38))) (by kernel_rfl) (by kernel_rfl) ?_
                    exact J_mk (false) hm (by kernel_rfl) (by kernel_rfl)
                · replace hm := bif_f b37 hm
                  refine R_rn Tryd.f26 15654 10 [(5, dfx false), (25, dfx false)] [] 4 ⟨[(0, vc (tl e_Point default a1)), (3, vp 0 0), (5, vb x10), (6, vi x11), (101, vp 3 1), (102, vi ((a1.getD (Int.tmod (w64 (x11 + 1)) ((a1.length : Nat) : Int)).toNat default).Y)), (103, vp 0 1), (104, vi a2.Y), (105, vb (decide (((a1.getD (Int.tmod (w64 (x11 + 1)) ((a1.length : Nat) : Int)).toNat default).Y) ≤ a2.Y))), (106, vb false), (112, vb false), (113, vb false), (119, vb false), (120, vb false)], [(0, bx 38 [ci a2.X, ci a2.Y]), (3, bx 38 [ci ((a1.getD (Int.tmod (w64 (x11 + 1)) ((a1.length : Nat) : Int)).toNat default).X), ci ((a1.getD (Int.tmod (w64 (x11 + 1)) ((a1.length : Nat) : Int)).toNat default).Y)])]⟩ (o1 (And.intro b24 b37)) (by kernel_rfl) (by kernel_rfl) ?_
                  exact J_mk (false) hm (by kernel_rfl) (by kernel_rfl)
        · obtain ⟨v16, h17, hm⟩ := bind_s hm
          rcases Bool.eq_false_or_eq_true (v16 == 0) with b18 | b18
          · replace hm := bif_t b18 hm
            rcases Bool.eq_false_or_eq_true (decide ((imin ((a1.getD x11.toNat default).X) ((a1.getD (Int.tmod (w64 (x11 + 1)) ((a1.length : Nat) : Int)).toNat default).X)) ≤ a2.X)) with b19 | b19
            · replace hm := bif_t b19 hm
              rcases Bool.eq_false_or_eq_true (decide (a2.X ≤ (imax ((a1.getD x11.toNat default).X) ((a1.getD (Int.tmod (w64 (x11 + 1)) ((a1.length : Nat) : Int)).toNat default).X)))) with b20 | b20
              · replace hm := bif_t b20 hm
                rcases Bool.eq_false_or_eq_true (decide ((imin ((a1.getD x11.toNat default).Y) ((a1.getD (Int.tmod (w64 (x11 + 1)) ((a1.length : Nat) : Int)).toNat default).Y)) ≤ a2.Y)) with b21 | b21
                · replace hm := bif_t b21 hm
                  refine R_rn Tryd.f26 15652 8 [(3, dex (cen [] [] 4 0 (ref09_Cross_x v16) (ref09_Cross_o v16) [36, 37, 38] [])), (5, dfx true), (15, dfx true), (25, dfx true), (35, dfx true)] [] 4 ⟨[(0, vc (tl e_Point default a1)), (3, vp 0 0), (5, vb x10), (6, vi x11), (7, vp 2 0), (8, vp 3 0), (42, vp 2 0), (43, vi ((a1.getD x11.toNat default).X)), (44, vp 3 0), (45, vi ((a1.getD (Int.tmod (w64 (x11 + 1)) ((a1.length : Nat) : Int)).toNat default).X)), (46, vi (imin ((a1.getD x11.toNat default).X) ((a1.getD (Int.tmod (w64 (x11 + 1)) ((a1.length : Nat) : Int)).toNat default).X))), (47, vp 0 0), (48, vi a2.X), (49, vb (decide ((imin ((a1.getD x11.toNat default).X) ((a1.getD (Int.tmod (w64 (x11 + 1)) ((a1.length : Nat) : Int)).toNat default).X)) ≤ a2.X))), (52, vp 0 0), (53, vi a2.X), (54, vp 2 0), (55, vi ((a1.getD x11.toNat default).X)), (56, vp 3 0), (57, vi ((a1.getD (Int.tmod (w64 (x11 + 1)) ((a1.length : Nat) : Int)).toNat default).X)), (58, vi (imax ((a1.getD x11.toNat default).X) ((a1.getD (Int.tmod (w64 (x11 + 1)) ((a1.length : Nat) : Int)).toNat default).X))), (59, vb (decide (a2.X ≤ (imax ((a1.getD x11.toNat default).X) ((a1.getD (Int.tmod (w64 (x11 + 1)) ((a1.length : Nat) : Int)).toNat default).X))))), (62, vp 2 1), (63, vi ((a1.getD x11.toNat default).Y)), (64, vp 3 1), (65, vi ((a1.getD (Int.tmod (w64 (x11 + 1)) ((a1.length : Nat) : Int)).toNat default).Y)), (66, vi (imin ((a1.getD x11.toNat default).Y) ((a1.getD (Int.tmod (w64 (x11 + 1)) ((a1.length : Nat) : Int)).toNat default).Y))), (67, vp 0 1), (68, vi a2.Y), (69, vb (decide ((imin ((a1.getD x11.toNat default).Y) ((a1.getD (Int.tmod (w64 (x11 + 1)) ((a1.length : Nat) : Int)).toNat default).Y)) ≤ a2.Y))), (72, vp 0 1), (73, vi a2.Y), (74, vp 2 1), (75, vi ((a1.getD x11.toNat default).Y)), (76, vp 3 1), (77, vi ((a1.getD (Int.tmod (w64 (x11 + 1)) ((a1.length : Nat) : Int)).toNat default).Y)), (78, vi (imax ((a1.getD x11.toNat default).Y) ((a1.getD (Int.tmod (w64 (x11 + 1)) ((a1.length : Nat) : Int)).toNat default).Y))), (79, vb (decide (a2.Y ≤ (imax ((a1.getD x11.toNat default).Y) ((a1.getD (Int.tmod (w64 (x11 + 1)) ((a1.length : Nat) : Int)).toNat default).Y))))), (80, vb (decide (a2.Y ≤ (imax ((a1.getD x11.toNat default).Y) ((a1.getD (Int.tmod (w64 (x11 + 1)) ((a1.length : Nat) : Int)).toNat default).Y)))))], [(0, bx 38 [ci a2.X, ci a2.Y]), (2, bx 38 [ci ((a1.getD x11.toNat default).X), ci ((a1.getD x11.toNat default).Y)]), (3, bx 38 [ci ((a1.getD (Int.tmod (w64 (x11 + 1)) ((a1.length : Nat) : Int)).toNat default).X), ci ((a1.getD (Int.tmod (w64 (x11 + 1)) ((a1.length : Nat) : Int)).toNat default).Y)])]⟩ (o1 (And.intro (callS (K := (kx E 124 0)) ⟨[(36, va [ci ((a1.getD x11.toNat default).X), ci ((a1.getD x11.toNat default).Y)]), (37, va [ci ((a1.getD (Int.tmod (w64 (x11 + 1)) ((a1.length : Nat) : Int)).toNat default).X), ci ((a1.getD (Int.tmod (w64 (x11 + 1)) ((a1.length : Nat) : Int)).toNat default).Y)]), (38, va [ci a2.X, ci a2.Y])], []⟩ (opAt (rg Tryd.f26 15652) 3) [] [] 4 o0 rfl (ref09_Cross_ok (a1.getD x11.toNat default) (a1.getD (Int.tmod (w64 (x11 + 1)) ((a1.length : Nat) : Int)).toNat default) a2 v16 h17) (.inl rfl) (by kernel_rfl)) (And.intro b18 (And.intro b19 (And.intro b20 b21))))) (by kernel_rfl) (by kernel_rfl) ?_
                  exact J_mk (decide (a2.Y ≤ (imax ((a1.getD x11.toNat default).Y) ((a1.getD (Int.tmod (w64 (x11 + 1)) ((a1.length : Nat) : Int)).toNat default).Y)))) hm (by kernel_rfl) (by kernel_rfl)
                · replace hm := bif_f b21 hm
                  refine R_rn Tryd.f26 15652 8 [(3, dex (cen [] [] 4 0 (ref09_Cross_x v16) (ref09_Cross_o v16) [36, 37, 38] [])), (5, dfx true), (15, dfx true), (25, dfx true), (35, dfx false)] [] 4 ⟨[(0, vc (tl e_Point default a1)), (3, vp 0 0), (5, vb x10), (6, vi x11), (7, vp 2 0), (8, vp 3 0), (42, vp 2 0), (43, vi ((a1.getD x11.toNat default).X)), (44, vp 3 0), (45, vi ((a1.getD (Int.tmod (w64 (x11 + 1)) ((a1.length : Nat) : Int)).toNat default).X)), (46, vi (imin ((a1.getD x11.toNat default).X) ((a1.getD (Int.tmod (w64 (x11 + 1)) ((a1.length : Nat) : Int)).toNat default).X))), (47, vp 0 0), (48, vi a2.X), (49, vb (decide ((imin ((a1.getD x11.toNat default).X) ((a1.getD (Int.tmod (w64 (x11 + 1)) ((a1.length : Nat) : Int)).toNat default).X)) ≤ a2.X))), (52, vp 0 0), (53, vi a2.X), (54, vp 2 0), (55, vi ((a1.getD x11.toNat default).X)), (56, vp 3 0), (57, vi ((a1.getD (Int.tmod (w64 (x11 + 1)) ((a1.length : Nat) : Int)).toNat default).X)), (58, vi (imax ((a1.getD x11.toNat default).X) ((a1.getD (Int.tmod (w64 (x11 + 1)) ((a1.length : Nat) : Int)).toNat default).X))), (59, vb (decide (a2.X ≤ (imax ((a1.getD x11.toNat default).X) ((a1.getD (Int.tmod (w64 (x11 + 1)) ((a1.length : Nat) : Int)).toNat default).X))))), (62, vp 2 1), (63, vi ((a1.getD x11.toNat default).Y)), (64, vp 3 1), (65, vi ((a1.getD (Int.tmod (w64 (x11 + 1)) ((a1.length : Nat) : Int)).toNat default).Y)), (66, vi (imin ((a1.getD x11.toNat default).Y) ((a1.getD (Int.tmod (w64 (x11 + 1)) ((a1.length : Nat) : Int)).toNat default).Y))), (67, vp 0 1), (68, vi a2.Y), (69, vb (decide ((imin ((a1.getD x11.toNat default).Y) ((a1.getD (Int.tmod (w64 (x11 + 1)) ((a1.length : Nat) : Int)).toNat default).Y)) ≤ a2.Y))), (80, vb false)], [(0, bx 38 [ci a2.X, ci a2.Y]), (2, bx 38 [ci ((a1.getD x11.toNat default).X), ci ((a1.getD x11.toNat default).Y)]), (3, bx 38 [ci ((a1.getD (Int.tmod (w64 (x11 + 1)) ((a1.length : Nat) : Int)).toNat default).X), ci ((a1.getD (Int.tmod (w64 (x11 + 1)) ((a1.length : Nat) : Int)).toNat default).Y)])]⟩ (o1 (And.intro (callS (K := (kx E 124 0)) ⟨[(36, va [ci ((a1.getD x11.toNat default).X), ci ((a1.getD x11.toNat default).Y)]), (37, va [ci ((a1.getD (Int.tmod (w64 (x11 + 1)) ((a1.length : Nat) : Int)).toNat default).X), ci ((a1.getD (Int.tmod (w64 (x11 + 1)) ((a1.length : Nat) : Int)).toNat default).Y)]), (38, va [ci a2.X, ci a2.Y])], []⟩ (opAt (rg Tryd.f26 15652) 3) [] [] 4 o0 rfl (ref09_Cross_ok (a1.getD x11.toNat default) (a1.getD (Int.tmod (w64 (x11 + 1)) ((a1.length : Nat) : Int)).toNat default) a2 v16 h17) (.inl rfl) (by kernel_rfl)) (And.intro b18 (And.intro b19 (And.intro b20 b21))))) (by kernel_rfl) (by kernel_rfl) ?_
                  exact J_mk (false) hm (by kernel_rfl) (by kernel_rfl)
              · replace hm := bif_f b20 hm
                refine R_rn Tryd.f26 15652 8 [(3, dex (cen [] [] 4 0 (ref09_Cross_x v16) (ref09_Cross_o v16) [36, 37, 38] [])), (5, dfx true), (15, dfx true), (25, dfx false)] [] 4 ⟨[(0, vc (tl e_Point default a1)), (3, vp 0 0), (5, vb x10), (6, vi x11), (7, vp 2 0), (8, vp 3 0), (42, vp 2 0), (43, vi ((a1.getD x11.toNat default).X)), (44, vp 3 0), (45, vi ((a1.getD (Int.tmod (w64 (x11 + 1)) ((a1.length : Nat) : Int)).toNat default).X)), (46, vi (imin ((a1.getD x11.toNat default).X) ((a1.getD (Int.tmod (w64 (x11 + 1)) ((a1.length : Nat) : Int)).toNat default).X))), (47, vp 0 0), (48, vi a2.X), (49, vb (decide ((imin ((a1.getD x11.toNat default).X) ((a1.getD (Int.tmod (w64 (x11 + 1)) ((a1.length : Nat) : Int)).toNat default).X)) ≤ a2.X))), (52, vp 0 0), (53, vi a2.X), (54, vp 2 0), (55, vi ((a1.getD x11.toNat default).X)), (56, vp 3 0), (57, vi ((a1.getD (Int.tmod (w64 (x11 + 1)) ((a1.length : Nat) : Int)).toNat default).X)), (58, vi (imax ((a1.getD x11.toNat default).X) ((a1.getD (Int.tmod (w64 (x11 + 1)) ((a1.length : Nat) : Int)).toNat default).X))), (59, vb (decide (a2.X ≤ (imax ((a1.getD x11.toNat default).X) ((a1.getD (Int.tmod (w64 (x11 + 1)) ((a1.length : Nat) : Int)).toNat default).X))))), (80, vb false)], [(0, bx 38 [ci a2.X, ci a2.Y]), (2, bx 38 [ci ((a1.getD x11.toNat default).X), ci ((a1.getD x11.toNat default).Y)]), (3, bx 38 [ci ((a1.getD (Int.tmod (w64 (x11 + 1)) ((a1.length : Nat) : Int)).toNat default).X), ci ((a1.getD (Int.tmod (w64 (x11 + 1)) ((a1.length : Nat) : Int)).toNat default).Y)])]⟩ (o1 (And.intro (callS (K := (kx E 124 0)) ⟨[(36, va [ci ((a1.getD x11.toNat default).X), ci ((a1.getD x11.toNat default).Y)]), (37, va [ci ((a1.getD (Int.tmod (w64 (x11 + 1)) ((a1.length : Nat) : Int)).toNat default).X), ci ((a1.getD (Int.tmod (w64 (x11 + 1)) ((a1.length : Nat) : Int)).toNat default).Y)]), (38, va [ci a2.X, ci a2.Y])], []⟩ (opAt (rg Tryd.f26 15652) 3) [] [] 4 o0 rfl (ref09_Cross_ok (a1.getD x11.toNat default) (a1.getD (Int.tmod (w64 (x11 + 1)) ((a1.length : Nat) : Int)).toNat default) a2 v16 h17) (.inl rfl) (by kernel_rfl)) (And.intro b18 (And.intro b19 b20)))) (by kernel_rfl) (by kernel_rfl) ?_
                exact J_mk (false) hm (by kernel_rfl) (by kernel_rfl)
            · replace hm := bif_f b19 hm
              refine R_rn Tryd.f26 15652 8 [(3, dex (cen [] [] 4 0 (ref09_Cross_x v16) (ref09_Cross_o v16) [36, 37, 38] [])), (5, dfx true), (15, dfx false)] [] 4 ⟨[(0, vc (tl e_Point default a1)), (3, vp 0 0), (5, vb x10), (6, vi x11), (7, vp 2 0), (8, vp 3 0), (42, vp 2 0), (43, vi ((a1.getD x11.toNat default).X)), (44, vp 3 0), (45, vi ((a1.getD (Int.tmod (w64 (x11 + 1)) ((a1.length : Nat) : Int)).toNat default).X)), (46, vi (imin ((a1.getD x11.toNat default).X) ((a1.getD (Int.tmod (w64 (x11 + 1)) ((a1.length : Nat) : Int)).toNat default).X))), (47, vp 0 0), (48, vi a2.X), (49, vb (decide ((imin ((a1.getD x11.toNat default).X) ((a1.getD (Int.tmod (w64 (x11 + 1)) ((a1.length : Nat) : Int)).toNat default).X)) ≤ a2.X))), (80, vb false)], [(0, bx 38 [ci a2.X, ci a2.Y]), (2, bx 38 [ci ((a1.getD x11.toNat default).X), ci ((a1.getD x11.toNat default).Y)]), (3, bx 38 [ci ((a1.getD (Int.tmod (w64 (x11 + 1)) ((a1.length : Nat) : Int)).toNat default).X), ci ((a1.getD (Int.tmod (w64 (x11 + 1)) ((a1.length : Nat) : Int)).toNat default).Y)])]⟩ (o1 (And.intro (callS (K := (kx E 124 0)) ⟨[(36, va [ci ((a1.getD x11.toNat default).X), ci ((a1.getD x11.toNat default).Y)]), (37, va [ci ((a1.getD (Int.tmod (w64 (x11 + 1)) ((a1.length : Nat) : Int)).toNat default).X), ci ((a1.getD (Int.tmod (w64 (x11 + 1)) ((a1.length : Nat) : Int)).toNat default).Y)]), (38, va [ci a2.X, ci a2.Y])], []⟩ (opAt (rg Tryd.f26 15652) 3) [] [] 4 o0 rfl (ref09_Cross_ok (a1.getD x11.toNat default) (a1.getD (Int.tmod (w64 (x11 + 1)) ((a1.length : Nat) : Int)).toNat default) a2 v16 h17) (.inl rfl) (by kernel_rfl)) (And.intro b18 b19))) (by kernel_rfl) (by kernel_rfl) ?_
              exact J_mk (false) hm (by kernel_rfl) (by kernel_rfl)
          · replace hm := bif_f b18 hm
            refine R_rn Tryd.f26 15652 8 [(3, dex (cen [] [] 4 0 (ref09_Cross_x v16) (ref09_Cross_o v16) [36, 37, 38] [])), (5, dfx false)] [] 4 ⟨[(0, vc (tl e_Point default a1)), (3, vp 0 0), (5, vb x10), (6, vi x11), (7, vp 2 0), (8, vp 3 0), (80, vb false)], [(0, bx 38 [ci a2.X, ci a2.Y]), (2, bx 38 [ci ((a1.getD x11.toNat default).X), ci ((a1.getD x11.toNat default).Y)]), (3, bx 38 [ci ((a1.getD (Int.tmod (w64 (x11 + 1)) ((a1.length : Nat) : Int)).toNat default).X), ci ((a1.getD (Int.tmod (w64 (x11 + 1)) ((a1.length : Nat) : Int)).toNat default).Y)])]⟩ (o1 (And.intro (callS (K := (kx E 124 0)) ⟨[(36, va [ci ((a1.getD x11.toNat default).X), ci ((a1.getD x11.toNat default).Y)]), (37, va [ci ((a1.getD (Int.tmod (w64 (x11 + 1)) ((a1.length : Nat) : Int)).toNat default).X), ci ((a1.getD (Int.tmod (w64 (x11 + 1)) ((a1.length : Nat) : Int)).toNat default).Y)]), (38, va [ci a2.X, ci a2.Y])], []⟩ (opAt (rg Tryd.f26 15652) 3) [] [] 4 o0 rfl (ref09_Cross_ok (a1.getD x11.toNat default) (a1.getD (Int.tmod (w64 (x11 + 1)) ((a1.length : Nat) : Int)).toNat default) a2 v16 h17) (.inl rfl) (by kernel_rfl)) b18)) (by kernel_rfl) (by kernel_rfl) ?_
            exact J_mk (false) hm (by kernel_rfl) (by kernel_rfl)
    · replace hm := bif_f b12 hm
      refine R_exit 0 (by kernel_rfl) ?_
      obtain rfl := Option.some.inj hm
      exact L1_mk x10 (by kernel_rfl) (by kernel_rfl)

set_option maxRecDepth 100000 in
theorem ref09_Has_ok (a1 : List Point) (a2 : Point) (r : Bool) (hm : ref09_Has a1 a2 = some r) : CtX Tryd.prog globs 26 0 0 [.one (tl e_Point default a1), .agg [ci a2.X, ci a2.Y]] [] (ref09_Has_x r) (ref09_Has_o r) := by
  unfold ref09_Has at hm
  refine CtX_of_E (fn := Tryd.f26) (c := nd Tryd.f26 1) (nt := 124) (by kernel_rfl) (by kernel_rfl) (by kernel_rfl) (by kernel_rfl) fun E => ?_
  refine R_sq Tryd.f26 2 3 (by kernel_rfl) ?_
  refine R_rn Tryd.f26 2 0 [] [] 0 ⟨[(0, vc (tl e_Point default a1)), (3, vp 0 0)], [(0, bx 38 [ci a2.X, ci a2.Y])]⟩ o0 (by kernel_rfl) (by kernel_rfl) ?_
  refine R_sq Tryd.f26 6 7 (by kernel_rfl) ?_
  refine R_join (ι := Bool) (nd Tryd.f26 12) (nd Tryd.f26 13) (by kernel_rfl) (fun p => ref09_Has_k1_S a1 a2 p) (fun p => ref09_Has_k1 a1 a2 p = some r) ?_ ?_
  · rintro x8 hm
    show H _ (ref09_Has_k1_S a1 a2 x8) (nd Tryd.f26 13) _
    refine R_cn Tryd.f26 (.tmp 17) 26 27 (by kernel_rfl) x8 (by kernel_rfl) (fun b9 => ?_) (fun b9 => ?_)
    · replace hm := bif_t b9 hm
      refine R_sq Tryd.f26 52 53 (by kernel_rfl) ?_
      refine R_rn Tryd.f26 52 2 [] [] 2 ⟨[(4, vb false)], []⟩ o0 (by kernel_rfl) (by kernel_rfl) ?_
      obtain rfl := Option.some.inj hm
      refine R_ret (by kernel_rfl) ?_
      exact ret_mk (by kernel_rfl) (by kernel_rfl)
    · replace hm := bif_f b9 hm
      refine R_skip (by kernel_rfl) ?_
      refine R_sq Tryd.f26 14 15 (by kernel_rfl) ?_
      refine R_rn Tryd.f26 14 3 [] [] 2 ⟨[(0, vc (tl e_Point default a1)), (3, vp 0 0), (5, vb false)], [(0, bx 38 [ci a2.X, ci a2.Y])]⟩ o0 (by kernel_rfl) (by kernel_rfl) ?_
      refine R_sq Tryd.f26 30 31 (by kernel_rfl) ?_
      refine R_sq Tryd.f26 60 61 (by kernel_rfl) ?_
      refine R_rn Tryd.f26 60 4 [] [] 2 ⟨[(0, vc (tl e_Point default a1)), (3, vp 0 0), (5, vb false), (6, vi 0)], [(0, bx 38 [ci a2.X, ci a2.Y])]⟩ o0 (by kernel_rfl) (by kernel_rfl) ?_
      obtain ⟨u47, h46, hm⟩ := bind_s hm
      refine R_loop1 (nd Tryd.f26 244) 0 (by kernel_rfl) FUEL (fun o => ref09_Has_L2_T o) (fun v st => RetQ Tryd.prog Tryd.f26 (ref09_Has_x v) (ref09_Has_o v) .ret st) u47 (HL_enter (ref09_Has_L2_S a1 a2 false 0) (by kernel_rfl) (by kernel_rfl) (ref09_Has_L2_ok E a1 a2 FUEL false 0 u47 h46)) ?_ ?_
      · rintro v48 rfl st hr
        obtain rfl := Option.some.inj hm
        exact hr
      · rintro o45 rfl
        replace hm : _ = some r := hm
        refine R_sq Tryd.f26 62 63 (by kernel_rfl) ?_
        refine R_rn Tryd.f26 62 12 [] [] 2 ⟨[(4, vb o45)], []⟩ o0 (by kernel_rfl) (by kernel_rfl) ?_
        obtain rfl := Option.some.inj hm
        refine R_ret (by kernel_rfl) ?_
        exact ret_mk (by kernel_rfl) (by kernel_rfl)
  · obtain ⟨v3, h4, hm⟩ := bind_s hm
    rcases Bool.eq_false_or_eq_true (v3 != 0) with b5 | b5
    · replace hm := bif_t b5 hm
      refine R_rn Tryd.f26 12 1 [(1, dex (cen [] [] 1 0 (ref09_Check_x v3) (ref09_Check_o v3) [9] [])), (3, dfx true)] [] 1 ⟨[(0, vc (tl e_Point default a1)), (3, vp 0 0), (17, vb true)], [(0, bx 38 [ci a2.X, ci a2.Y])]⟩ (o1 (And.intro (callS (K := (kx E 124 0)) ⟨[(9, vc (tl e_Point default a1))], []⟩ (opAt (rg Tryd.f26 12) 1) [] [] 1 o0 rfl (ref09_Check_ok a1 v3 h4) (.inl rfl) (by kernel_rfl)) b5)) (by kernel_rfl) (by kernel_rfl) ?_
      exact J_mk (true) hm (by kernel_rfl) (by kernel_rfl)
    · replace hm := bif_f b5 hm
      obtain ⟨v6, h7, hm⟩ := bind_s hm
      refine R_rn Tryd.f26 12 1 [(1, dex (cen [] [] 1 0 (ref09_Check_x v3) (ref09_Check_o v3) [9] [])), (3, dfx false), (5, drw 1 0 (rf e_Point ([a2] : List Point))), (6, dex (cen [] [] 2 0 (ref09_Ranged_x v6) (ref09_Ranged_o v6) [12, 14] [1]))] [] 1 ⟨[(0, vc (tl e_Point default a1)), (3, vp 0 0), (17, vb (!v6))], [(0, bx 38 [ci a2.X, ci a2.Y])]⟩ (o1 (And.intro (callS (K := (kx E 124 0)) ⟨[(9, vc (tl e_Point default a1))], []⟩ (opAt (rg Tryd.f26 12) 1) [] [] 1 o0 rfl (ref09_Check_ok a1 v3 h4) (.inl rfl) (by kernel_rfl)) (And.intro b5 (And.intro (litP e_Point default 2 (fun _ => rfl) ([a2] : List Point) 1 rfl) (callS (K := (kx E 124 0)) (xs' := [.one (.lst 1 (rf e_Point ([a2] : List Point)))]) (b := false) ⟨[(12, vb false), (14, vo 1 0 2 1)], [(1, ro 0 38 2 1 (rf e_Point ([a2] : List Point)))]⟩ (opAt (rg Tryd.f26 12) 6) [] [] 2 (o1 (Nat.le_refl 1)) (by simp only [tl, rf, show ([a2] : List Point).length = 1 from rfl]) (ref09_Ranged_ok ([a2] : List Point) v6 h7) (.inr ⟨(by kernel_rfl), ref09_Ranged_f v6⟩) (by kernel_rfl)))))) (by kernel_rfl) (by kernel_rfl) ?_
      exact J_mk (!v6) hm (by kernel_rfl) (by kernel_rfl)

end Saw
end Go.SL

namespace Go.SL
namespace Saw
open Go.Proofs
set_option maxHeartbeats 4000000

def ref09_Turned_x (r : Point) : V := va [ci r.X, ci r.Y]

def ref09_Turned_o (r : Point) : List (Nat × (Nat × O)) := []

theorem ref09_Turned_f (r : Point) : Frozen (ref09_Turned_o r) := by
  intro i k o h
  unfold ref09_Turned_o at h
  cases h

def ref09_Turned_L1_S (a2 : Int) (x3 : Int) (x4 : Point) : St :=
  ⟨[(1, vi a2), (2, vp 0 0), (4, vp 1 0), (5, vi x3)], [(0, bx 38 [ci x4.X, ci x4.Y]), (1, bx 38 [ci 0, ci 0])]⟩

def ref09_Turned_L1_T (x6 : Point) : St :=
  ⟨[(2, vp 0 0), (4, vp 1 0)], [(0, bx 38 [ci x6.X, ci x6.Y]), (1, bx 38 [ci 0, ci 0])]⟩

set_option maxRecDepth 100000 in
theorem ref09_Turned_L1_ok (E : Env 0) (a2 : Int) : ∀ (n : Nat) (x3 : Int) (x4 : Point) (res : Point), ref09_Turned_L1 a2 n x3 x4 = some res → HL (kx E 18 0) (nd Tryd.f40 52) (loopQ0 0 (fun o => ref09_Turned_L1_T o) res) n (ref09_Turned_L1_S a2 x3 x4) := by
  intro n
  induction n with
  | zero =>
    intro x3 x4 res hm
    cases hm
  | succ n ih =>
    intro x3 x4 res hm
    refine HL_succ ?_
    refine R_sq Tryd.f40 104 105 (by kernel_rfl) ?_
    refine R_sq Tryd.f40 208 209 (by kernel_rfl) ?_
    refine R_rn Tryd.f40 208 2 [] [] 2 ⟨[(1, vi a2), (2, vp 0 0), (4, vp 1 0), (5, vi x3), (8, vb (decide (x3 < a2)))], [(0, bx 38 [ci x4.X, ci x4.Y]), (1, bx 38 [ci 0, ci 0])]⟩ o0 (by kernel_rfl) (by kernel_rfl) ?_
    refine R_cn Tryd.f40 (.tmp 8) 418 419 (by kernel_rfl) (decide (x3 < a2)) (by kernel_rfl) (fun b5 => ?_) (fun b5 => ?_)
    · replace hm := bif_t b5 hm
      refine R_skip (by kernel_rfl) ?_
      refine R_sq Tryd.f40 210 211 (by kernel_rfl) ?_
      refine R_bk Tryd.f40 1 420 (by kernel_rfl) ?_
      refine R_rn Tryd.f40 420 4 [] [] 2 ⟨[(1, vi a2), (2, vp 0 0), (4, vp 1 0), (5, vi x3)], [(0, bx 38 [ci (w64 (0 - x4.Y)), ci x4.X]), (1, bx 38 [ci 0, ci 0])]⟩ o0 (by kernel_rfl) (by kernel_rfl) ?_
      refine R_rn Tryd.f40 211 3 [] [] 2 ⟨[(1, vi a2), (2, vp 0 0), (4, vp 1 0), (5, vi (w64 (x3 + 1)))], [(0, bx 38 [ci (w64 (0 - x4.Y)), ci x4.X]), (1, bx 38 [ci 0, ci 0])]⟩ o0 (by kernel_rfl) (by kernel_rfl) ?_
      exact HL_enter (ref09_Turned_L1_S a2 (w64 (x3 + 1)) (Point.mk (w64 (0 - x4.Y)) x4.X)) (by kernel_rfl) (by kernel_rfl) (ih (w64 (x3 + 1)) (Point.mk (w64 (0 - x4.Y)) x4.X) _ hm)
    · replace hm := bif_f b5 hm
      refine R_exit 0 (by kernel_rfl) ?_
      obtain rfl := Option.some.inj hm
      exact L0_mk (by kernel_rfl) (by kernel_rfl)

set_option maxRecDepth 100000 in
theorem ref09_Turned_ok (a1 : Point) (a2 : Int) (r : Point) (hm : ref09_Turned a1 a2 = some r) : CtX Tryd.prog globs 40 0 0 [.agg [ci a1.X, ci a1.Y], .one (ci a2)] [] (ref09_Turned_x r) (ref09_Turned_o r) := by
  unfold ref09_Turned at hm
  refine CtX_of_E (fn := Tryd.f40) (c := nd Tryd.f40 1) (nt := 18) (by kernel_rfl) (by kernel_rfl) (by kernel_rfl) (by kernel_rfl) fun E => ?_
  refine R_sq Tryd.f40 2 3 (by kernel_rfl) ?_
  refine R_rn Tryd.f40 2 0 [] [] 0 ⟨[(1, vi a2), (2, vp 0 0), (4, vp 1 0)], [(0, bx 38 [ci a1.X, ci a1.Y]), (1, bx 38 [ci 0, ci 0])]⟩ o0 (by kernel_rfl) (by kernel_rfl) ?_
  refine R_sq Tryd.f40 6 7 (by kernel_rfl) ?_
  refine R_sq Tryd.f40 12 13 (by kernel_rfl) ?_
  refine R_rn Tryd.f40 12 1 [] [] 2 ⟨[(1, vi a2), (2, vp 0 0), (4, vp 1 0), (5, vi 0)], [(0, bx 38 [ci a1.X, ci a1.Y]), (1, bx 38 [ci 0, ci 0])]⟩ o0 (by kernel_rfl) (by kernel_rfl) ?_
  obtain ⟨o7, h8, hm⟩ := bind_s hm
  refine R_loop0 (nd Tryd.f40 52) 0 (by kernel_rfl) FUEL (fun o => ref09_Turned_L1_T o) o7 (HL_enter (ref09_Turned_L1_S a2 0 a1) (by kernel_rfl) (by kernel_rfl) (ref09_Turned_L1_ok E a2 FUEL 0 a1 o7 h8)) ?_
  refine R_sq Tryd.f40 14 15 (by kernel_rfl) ?_
  refine R_rn Tryd.f40 14 5 [] [] 2 ⟨[(4, vp 1 0)], [(1, bx 38 [ci o7.X, ci o7.Y])]⟩ o0 (by kernel_rfl) (by kernel_rfl) ?_
  obtain rfl := Option.some.inj hm
  refine R_ret (by kernel_rfl) ?_
  exact ret_mk (by kernel_rfl) (by kernel_rfl)

end Saw
end Go.SL

namespace Go.SL
namespace Saw
open Go.Proofs
set_option maxHeartbeats 4000000

def ref09_negative_x (r : Bool) : V := vb r

def ref09_negative_o (r : Bool) : List (Nat × (Nat × O)) := []

theorem ref09_negative_f (r : Bool) : Frozen (ref09_negative_o r) := by
  intro i k o h
  unfold ref09_negative_o at h
  cases h

def ref09_negative_k2_S (a1 : List Point) (x2 : Int) (x6 : Bool) : St :=
  ⟨[(0, vc (tl e_Point default a1)), (3, vi x2), (23, vb x6)], []⟩

def ref09_negative_L1_S (a1 : List Point) (x2 : Int) : St :=
  ⟨[(0, vc (tl e_Point default a1)), (3, vi x2)], []⟩

def ref09_negative_L1_T : St :=
  ⟨[], []⟩

set_option maxRecDepth 100000 in
theorem ref09_negative_L1_ok (E : Env 0) (a1 : List Point) : ∀ (n : Nat) (x2 : Int) (res : Bool ⊕ Unit), ref09_negative_L1 a1 n x2 = some res → HL (kx E 24 0) (nd Tryd.f39 52) (loopQ 0 (fun o => ref09_negative_L1_T) (fun v st => RetQ Tryd.prog Tryd.f39 (ref09_negative_x v) (ref09_negative_o v) .ret st) res) n (ref09_negative_L1_S a1 x2) := by
  intro n
  induction n with
  | zero =>
    intro x2 res hm
    cases hm
  | succ n ih =>
    intro x2 res hm
    refine HL_succ ?_
    refine R_sq Tryd.f39 104 105 (by kernel_rfl) ?_
    refine R_sq Tryd.f39 208 209 (by kernel_rfl) ?_
    refine R_rn Tryd.f39 208 2 [] [] 0 ⟨[(0, vc (tl e_Point default a1)), (3, vi x2), (7, vb (decide (x2 < ((a1.length : Nat) : Int))))], []⟩ o0 (by kernel_rfl) (by kernel_rfl) ?_
    refine R_cn Tryd.f39 (.tmp 7) 418 419 (by kernel_rfl) (decide (x2 < ((a1.length : Nat) : Int))) (by kernel_rfl) (fun b3 => ?_) (fun b3 => ?_)
    · replace hm := bif_t b3 hm
      refine R_skip (by kernel_rfl) ?_
      refine R_sq Tryd.f39 210 211 (by kernel_rfl) ?_
      refine R_bk Tryd.f39 1 420 (by kernel_rfl) ?_
      refine R_join (ι := Bool) (nd Tryd.f39 840) (nd Tryd.f39 841) (by kernel_rfl) (fun p => ref09_negative_k2_S a1 x2 p) (fun p => ref09_negative_k2 x2 (ref09_negative_L1 a1 n) p = some res) ?_ ?_
      · rintro x6 hm
        show H _ (ref09_negative_k2_S a1 x2 x6) (nd Tryd.f39 841) _
        refine R_cn Tryd.f39 (.tmp 23) 1682 1683 (by kernel_rfl) x6 (by kernel_rfl) (fun b7 => ?_) (fun b7 => ?_)
        · replace hm := bif_t b7 hm
          refine R_sq Tryd.f39 3364 3365 (by kernel_rfl) ?_
          refine R_rn Tryd.f39 3364 5 [] [] 0 ⟨[(2, vb false)], []⟩ o0 (by kernel_rfl) (by kernel_rfl) ?_
          obtain rfl := Option.some.inj hm
          refine R_ret (by kernel_rfl) ?_
          refine L1_ret false ?_
          exact ret_mk (by kernel_rfl) (by kernel_rfl)
        · replace hm := bif_f b7 hm
          refine R_skip (by kernel_rfl) ?_
          refine R_rn Tryd.f39 211 3 [] [] 0 ⟨[(0, vc (tl e_Point default a1)), (3, vi (w64 (x2 + 1)))], []⟩ o0 (by kernel_rfl) (by kernel_rfl) ?_
          exact HL_enter (ref09_negative_L1_S a1 (w64 (x2 + 1))) (by kernel_rfl) (by kernel_rfl) (ih (w64 (x2 + 1)) _ hm)
      · obtain ⟨g4, hm⟩ := bif_n hm
        rcases Bool.eq_false_or_eq_true (((a1.getD x2.toNat default).X) == (-9223372036854775808)) with b5 | b5
        · replace hm := bif_t b5 hm
          refine R_rn Tryd.f39 840 4 [(6, dfx true)] [] 0 ⟨[(0, vc (tl e_Point default a1)), (3, vi x2), (23, vb true)], []⟩ (o1 (And.intro (inb_of g4) b5)) (by kernel_rfl) (by kernel_rfl) ?_
          exact J_mk (true) hm (by kernel_rfl) (by kernel_rfl)
        · replace hm := bif_f b5 hm
          refine R_rn Tryd.f39 840 4 [(6, dfx false)] [] 0 ⟨[(0, vc (tl e_Point default a1)), (3, vi x2), (17, vc (tl e_Point default a1)), (18, vi x2), (19, vc (.lptr (e_Point (a1.getD x2.toNat default)))), (20, vc (.lptr ((e_Point (a1.getD x2.toNat default)).drop 1))), (21, vi ((a1.getD x2.toNat default).Y)), (22, vb (((a1.getD x2.toNat default).Y) == (-9223372036854775808))), (23, vb (((a1.getD x2.toNat default).Y) == (-9223372036854775808)))], []⟩ (o1 (And.intro (inb_of g4) (And.intro b5 (inb_of g4)))) (by kernel_rfl) (by kernel_rfl) ?_
          exact J_mk (((a1.getD x2.toNat default).Y) == (-9223372036854775808)) hm (by kernel_rfl) (by kernel_rfl)
    · replace hm := bif_f b3 hm
      refine R_exit 0 (by kernel_rfl) ?_
      obtain rfl := Option.some.inj hm
      exact L1_mk () (by kernel_rfl) (by kernel_rfl)

set_option maxRecDepth 100000 in
theorem ref09_negative_ok (a1 : List Point) (r : Bool) (hm : ref09_negative a1 = some r) : CtX Tryd.prog globs 39 0 0 [.one (tl e_Point default a1)] [] (ref09_negative_x r) (ref09_negative_o r) := by
  unfold ref09_negative at hm
  refine CtX_of_E (fn := Tryd.f39) (c := nd Tryd.f39 1) (nt := 24) (by kernel_rfl) (by kernel_rfl) (by kernel_rfl) (by kernel_rfl) fun E => ?_
  refine R_sq Tryd.f39 2 3 (by kernel_rfl) ?_
  refine R_rn Tryd.f39 2 0 [] [] 0 ⟨[(0, vc (tl e_Point default a1))], []⟩ o0 (by kernel_rfl) (by kernel_rfl) ?_
  refine R_sq Tryd.f39 6 7 (by kernel_rfl) ?_
  refine R_sq Tryd.f39 12 13 (by kernel_rfl) ?_
  refine R_rn Tryd.f39 12 1 [] [] 0 ⟨[(0, vc (tl e_Point default a1)), (3, vi 0)], []⟩ o0 (by kernel_rfl) (by kernel_rfl) ?_
  obtain ⟨u10, h9, hm⟩ := bind_s hm
  refine R_loop1 (nd Tryd.f39 52) 0 (by kernel_rfl) FUEL (fun o => ref09_negative_L1_T) (fun v st => RetQ Tryd.prog Tryd.f39 (ref09_negative_x v) (ref09_negative_o v) .ret st) u10 (HL_enter (ref09_negative_L1_S a1 0) (by kernel_rfl) (by kernel_rfl) (ref09_negative_L1_ok E a1 FUEL 0 u10 h9)) ?_ ?_
  · rintro v11 rfl st hr
    obtain rfl := Option.some.inj hm
    exact hr
  · rintro o8 rfl
    replace hm : _ = some r := hm
    refine R_sq Tryd.f39 14 15 (by kernel_rfl) ?_
    refine R_rn Tryd.f39 14 6 [] [] 0 ⟨[(2, vb true)], []⟩ o0 (by kernel_rfl) (by kernel_rfl) ?_
    obtain rfl := Option.some.inj hm
    refine R_ret (by kernel_rfl) ?_
    exact ret_mk (by kernel_rfl) (by kernel_rfl)

end Saw
end Go.SL
