import Derived.Test.YtcppgjcniljkcaaDoorPBase
import Derived.Test.YtcppgjcniljkcaaDoorPFa5
set_option linter.unusedVariables false
set_option linter.unusedSimpArgs false
namespace Go.SL
namespace Saw
open Go.Proofs
set_option maxHeartbeats 4000000

def ref09_across_x (r : Int × Int) : V := .tup [.one (ci r.1), .one (ci r.2)]

def ref09_across_o (r : Int × Int) : List (Nat × (Nat × O)) := []

theorem ref09_across_f (r : Int × Int) : Frozen (ref09_across_o r) := by
  intro i k o h
  unfold ref09_across_o at h
  cases h

def ref09_across_k2_S (a1 : List Point) (a2 : Int) (x5 : Int) (x17 : Int) (x18 : Int) : St :=
  ⟨[(0, vc (tl e_Point default a1)), (1, vi a2), (6, vi x17), (7, vi x18), (8, vi x5)], []⟩

def ref09_across_L1_S (a1 : List Point) (a2 : Int) (x3 : Int) (x4 : Int) (x5 : Int) : St :=
  ⟨[(0, vc (tl e_Point default a1)), (1, vi a2), (6, vi x3), (7, vi x4), (8, vi x5)], []⟩

def ref09_across_L1_T (x19 : Int) (x20 : Int) : St :=
  ⟨[(6, vi x19), (7, vi x20)], []⟩

set_option maxRecDepth 100000 in
theorem ref09_across_L1_ok (E : Env 0) (a1 : List Point) (a2 : Int) : ∀ (n : Nat) (x3 : Int) (x4 : Int) (x5 : Int) (res : (Int × Int) ⊕ (Int × Int)), ref09_across_L1 a1 a2 n x3 x4 x5 = some res → HL (kx E 74 0) (nd Tryd.f56 116) (loopQ 0 (fun o => ref09_across_L1_T o.1 o.2) (fun v st => RetQ Tryd.prog Tryd.f56 (ref09_across_x v) (ref09_across_o v) .ret st) res) n (ref09_across_L1_S a1 a2 x3 x4 x5) := by
  intro n
  induction n with
  | zero =>
    intro x3 x4 x5 res hm
    cases hm
  | succ n ih =>
    intro x3 x4 x5 res hm
    refine HL_succ ?_
    refine R_sq Tryd.f56 232 233 (by kernel_rfl) ?_
    refine R_sq Tryd.f56 464 465 (by kernel_rfl) ?_
    refine R_rn Tryd.f56 464 3 [] [] 0 ⟨[(0, vc (tl e_Point default a1)), (1, vi a2), (6, vi x3), (7, vi x4), (8, vi x5), (16, vb (decide (x5 < ((a1.length : Nat) : Int))))], []⟩ o0 (by kernel_rfl) (by kernel_rfl) ?_
    refine R_cn Tryd.f56 (.tmp 16) 930 931 (by kernel_rfl) (decide (x5 < ((a1.length : Nat) : Int))) (by kernel_rfl) (fun b6 => ?_) (fun b6 => ?_)
    · replace hm := bif_t b6 hm
      refine R_skip (by kernel_rfl) ?_
      refine R_join (ι := Int × Int) (nd Tryd.f56 466) (nd Tryd.f56 467) (by kernel_rfl) (fun p => ref09_across_k2_S a1 a2 x5 p.1 p.2) (fun p => ref09_across_k2 x5 (ref09_across_L1 a1 a2 n) p.1 p.2 = some res) ?_ ?_
      · rintro ⟨x17, x18⟩ hm
        show H _ (ref09_across_k2_S a1 a2 x5 x17 x18) (nd Tryd.f56 467) _
        refine R_rn Tryd.f56 467 4 [] [] 2 ⟨[(0, vc (tl e_Point default a1)), (1, vi a2), (6, vi x17), (7, vi x18), (8, vi (w64 (x5 + 1)))], []⟩ o0 (by kernel_rfl) (by kernel_rfl) ?_
        exact HL_enter (ref09_across_L1_S a1 a2 x17 x18 (w64 (x5 + 1))) (by kernel_rfl) (by kernel_rfl) (ih x17 x18 (w64 (x5 + 1)) _ hm)
      · refine R_bk Tryd.f56 1 932 (by kernel_rfl) ?_
        refine R_sq Tryd.f56 1864 1865 (by kernel_rfl) ?_
        obtain ⟨g7, hm⟩ := bif_n hm
        obtain ⟨g8, hm⟩ := bif_n hm
        obtain ⟨g9, hm⟩ := bif_n hm
        refine R_dr Tryd.f56 1864 5 [] [] [] [0, 0, 3, 7, 0, 0, 32, 0, 128, 480, 1008, 2032, 0, 0, 12303, 32767] 0 ⟨[(0, vc (tl e_Point default a1)), (1, vi a2), (6, vi x3), (7, vi x4), (8, vi x5), (9, vp 0 0), (10, vp 1 0)], [(0, bx 38 [ci ((a1.getD x5.toNat default).X), ci ((a1.getD x5.toNat default).Y)]), (1, bx 38 [ci ((a1.getD (Int.tmod (w64 (x5 + 1)) ((a1.length : Nat) : Int)).toNat default).X), ci ((a1.getD (Int.tmod (w64 (x5 + 1)) ((a1.length : Nat) : Int)).toNat default).Y)])]⟩ (o1 (And.intro (inb_of g7) (And.intro (nz_of g8) (inb_of g9)))) (by kernel_rfl) (by kernel_rfl) ?_
        refine R_sq Tryd.f56 3730 3731 (by kernel_rfl) ?_
        refine R_dr Tryd.f56 3730 6 [] [] [] [0, 1, 0, 4, 15, 0, 0, 64, 224, 511, 0, 1024, 0, 4096, 15360, 1023, 65535] 2 ⟨[(0, vc (tl e_Point default a1)), (1, vi a2), (6, vi x3), (7, vi x4), (8, vi x5), (9, vp 0 0), (11, vi (w64 ((w64 (((a1.getD (Int.tmod (w64 (x5 + 1)) ((a1.length : Nat) : Int)).toNat default).X) - ((a1.getD x5.toNat default).X))) * (w64 (a2 - ((a1.getD x5.toNat default).Y)))))), (12, vi (w64 (((a1.getD (Int.tmod (w64 (x5 + 1)) ((a1.length : Nat) : Int)).toNat default).Y) - ((a1.getD x5.toNat default).Y))))], [(0, bx 38 [ci ((a1.getD x5.toNat default).X), ci ((a1.getD x5.toNat default).Y)])]⟩ o0 (by kernel_rfl) (by kernel_rfl) ?_
        refine R_bk Tryd.f56 2 7462 (by kernel_rfl) ?_
        refine R_sq Tryd.f56 14924 14925 (by kernel_rfl) ?_
        refine R_rn Tryd.f56 14924 7 [] [] 2 ⟨[(0, vc (tl e_Point default a1)), (1, vi a2), (6, vi x3), (7, vi x4), (8, vi x5), (9, vp 0 0), (11, vi (w64 ((w64 (((a1.getD (Int.tmod (w64 (x5 + 1)) ((a1.length : Nat) : Int)).toNat default).X) - ((a1.getD x5.toNat default).X))) * (w64 (a2 - ((a1.getD x5.toNat default).Y)))))), (12, vi (w64 (((a1.getD (Int.tmod (w64 (x5 + 1)) ((a1.length : Nat) : Int)).toNat default).Y) - ((a1.getD x5.toNat default).Y)))), (46, vb (decide ((w64 (((a1.getD (Int.tmod (w64 (x5 + 1)) ((a1.length : Nat) : Int)).toNat default).Y) - ((a1.getD x5.toNat default).Y))) > 0)))], [(0, bx 38 [ci ((a1.getD x5.toNat default).X), ci ((a1.getD x5.toNat default).Y)])]⟩ o0 (by kernel_rfl) (by kernel_rfl) ?_
        refine R_cn Tryd.f56 (.tmp 46) 29850 29851 (by kernel_rfl) (decide ((w64 (((a1.getD (Int.tmod (w64 (x5 + 1)) ((a1.length : Nat) : Int)).toNat default).Y) - ((a1.getD x5.toNat default).Y))) > 0)) (by kernel_rfl) (fun b10 => ?_) (fun b10 => ?_)
        · replace hm := bif_t b10 hm
          obtain ⟨v11, h12, hm⟩ := bind_s hm
          refine R_dr Tryd.f56 29850 8 [] [(5, dex (cen [] [] 2 0 (ref09_floor_x v11) (ref09_floor_o v11) [52, 53] []))] [] [0, 0, 2, 0, 0, 24, 62, 127, 255] 2 ⟨[(0, vc (tl e_Point default a1)), (1, vi a2), (6, vi x3), (7, vi (imin x4 (w64 (((a1.getD x5.toNat default).X) + v11)))), (8, vi x5)], []⟩ (o1 (callS (K := (kx E 74 0)) ⟨[(52, vi (w64 ((w64 (((a1.getD (Int.tmod (w64 (x5 + 1)) ((a1.length : Nat) : Int)).toNat default).X) - ((a1.getD x5.toNat default).X))) * (w64 (a2 - ((a1.getD x5.toNat default).Y)))))), (53, vi (w64 (((a1.getD (Int.tmod (w64 (x5 + 1)) ((a1.length : Nat) : Int)).toNat default).Y) - ((a1.getD x5.toNat default).Y))))], []⟩ (opAt (rg Tryd.f56 29850) 5) [] [] 2 o0 rfl (ref09_floor_ok (w64 ((w64 (((a1.getD (Int.tmod (w64 (x5 + 1)) ((a1.length : Nat) : Int)).toNat default).X) - ((a1.getD x5.toNat default).X))) * (w64 (a2 - ((a1.getD x5.toNat default).Y))))) (w64 (((a1.getD (Int.tmod (w64 (x5 + 1)) ((a1.length : Nat) : Int)).toNat default).Y) - ((a1.getD x5.toNat default).Y))) v11 h12) (.inl rfl) (by kernel_rfl))) (by kernel_rfl) (by kernel_rfl) ?_
          exact J_mk (x3, imin x4 (w64 (((a1.getD x5.toNat default).X) + v11))) hm (by kernel_rfl) (by kernel_rfl)
        · replace hm := bif_f b10 hm
          refine R_sq Tryd.f56 59702 59703 (by kernel_rfl) ?_
          refine R_rn Tryd.f56 59702 9 [] [] 2 ⟨[(0, vc (tl e_Point default a1)), (1, vi a2), (6, vi x3), (7, vi x4), (8, vi x5), (9, vp 0 0), (11, vi (w64 ((w64 (((a1.getD (Int.tmod (w64 (x5 + 1)) ((a1.length : Nat) : Int)).toNat default).X) - ((a1.getD x5.toNat default).X))) * (w64 (a2 - ((a1.getD x5.toNat default).Y)))))), (12, vi (w64 (((a1.getD (Int.tmod (w64 (x5 + 1)) ((a1.length : Nat) : Int)).toNat default).Y) - ((a1.getD x5.toNat default).Y)))), (57, vb (decide ((w64 (((a1.getD (Int.tmod (w64 (x5 + 1)) ((a1.length : Nat) : Int)).toNat default).Y) - ((a1.getD x5.toNat default).Y))) < 0)))], [(0, bx 38 [ci ((a1.getD x5.toNat default).X), ci ((a1.getD x5.toNat default).Y)])]⟩ o0 (by kernel_rfl) (by kernel_rfl) ?_
          refine R_cn Tryd.f56 (.tmp 57) 119406 119407 (by kernel_rfl) (decide ((w64 (((a1.getD (Int.tmod (w64 (x5 + 1)) ((a1.length : Nat) : Int)).toNat default).Y) - ((a1.getD x5.toNat default).Y))) < 0)) (by kernel_rfl) (fun b13 => ?_) (fun b13 => ?_)
          · replace hm := bif_t b13 hm
            obtain ⟨v14, h15, hm⟩ := bind_s hm
            refine R_dr Tryd.f56 119406 10 [] [(6, dex (cen [] [] 2 0 (ref09_floor_x v14) (ref09_floor_o v14) [63, 65] []))] [] [0, 0, 2, 0, 0, 16, 56, 126, 255, 511] 2 ⟨[(0, vc (tl e_Point default a1)), (1, vi a2), (6, vi (imax x3 (w64 (((a1.getD x5.toNat default).X) - v14)))), (7, vi x4), (8, vi x5)], []⟩ (o1 (callS (K := (kx E 74 0)) ⟨[(63, vi (w64 ((w64 (((a1.getD (Int.tmod (w64 (x5 + 1)) ((a1.length : Nat) : Int)).toNat default).X) - ((a1.getD x5.toNat default).X))) * (w64 (a2 - ((a1.getD x5.toNat default).Y)))))), (65, vi (w64 (0 - (w64 (((a1.getD (Int.tmod (w64 (x5 + 1)) ((a1.length : Nat) : Int)).toNat default).Y) - ((a1.getD x5.toNat default).Y))))))], []⟩ (opAt (rg Tryd.f56 119406) 6) [] [] 2 o0 rfl (ref09_floor_ok (w64 ((w64 (((a1.getD (Int.tmod (w64 (x5 + 1)) ((a1.length : Nat) : Int)).toNat default).X) - ((a1.getD x5.toNat default).X))) * (w64 (a2 - ((a1.getD x5.toNat default).Y))))) (w64 (0 - (w64 (((a1.getD (Int.tmod (w64 (x5 + 1)) ((a1.length : Nat) : Int)).toNat default).Y) - ((a1.getD x5.toNat default).Y))))) v14 h15) (.inl rfl) (by kernel_rfl))) (by kernel_rfl) (by kernel_rfl) ?_
            exact J_mk (imax x3 (w64 (((a1.getD x5.toNat default).X) - v14)), x4) hm (by kernel_rfl) (by kernel_rfl)
          · replace hm := bif_f b13 hm
            refine R_sq Tryd.f56 238814 238815 (by kernel_rfl) ?_
            refine R_rn Tryd.f56 238814 11 [] [] 2 ⟨[(0, vc (tl e_Point default a1)), (1, vi a2), (6, vi x3), (7, vi x4), (8, vi x5), (69, vb (decide ((w64 ((w64 (((a1.getD (Int.tmod (w64 (x5 + 1)) ((a1.length : Nat) : Int)).toNat default).X) - ((a1.getD x5.toNat default).X))) * (w64 (a2 - ((a1.getD x5.toNat default).Y))))) < 0)))], []⟩ o0 (by kernel_rfl) (by kernel_rfl) ?_
            refine R_cn Tryd.f56 (.tmp 69) 477630 477631 (by kernel_rfl) (decide ((w64 ((w64 (((a1.getD (Int.tmod (w64 (x5 + 1)) ((a1.length : Nat) : Int)).toNat default).X) - ((a1.getD x5.toNat default).X))) * (w64 (a2 - ((a1.getD x5.toNat default).Y))))) < 0)) (by kernel_rfl) (fun b16 => ?_) (fun b16 => ?_)
            · replace hm := bif_t b16 hm
              refine R_sq Tryd.f56 955260 955261 (by kernel_rfl) ?_
              refine R_rn Tryd.f56 955260 12 [] [] 2 ⟨[(4, vi 1), (5, vi 0)], []⟩ o0 (by kernel_rfl) (by kernel_rfl) ?_
              obtain rfl := Option.some.inj hm
              refine R_ret (by kernel_rfl) ?_
              refine L1_ret (1, 0) ?_
              exact ret_mk (by kernel_rfl) (by kernel_rfl)
            · replace hm := bif_f b16 hm
              refine R_skip (by kernel_rfl) ?_
              exact J_mk (x3, x4) hm (by kernel_rfl) (by kernel_rfl)
    · replace hm := bif_f b6 hm
      refine R_exit 0 (by kernel_rfl) ?_
      obtain rfl := Option.some.inj hm
      exact L1_mk (x3, x4) (by kernel_rfl) (by kernel_rfl)

set_option maxRecDepth 100000 in
theorem ref09_across_ok (a1 : List Point) (a2 : Int) (r : Int × Int) (hm : ref09_across a1 a2 = some r) : CtX Tryd.prog globs 56 0 0 [.one (tl e_Point default a1), .one (ci a2)] [] (ref09_across_x r) (ref09_across_o r) := by
  unfold ref09_across at hm
  refine CtX_of_E (fn := Tryd.f56) (c := nd Tryd.f56 1) (nt := 74) (by kernel_rfl) (by kernel_rfl) (by kernel_rfl) (by kernel_rfl) fun E => ?_
  refine R_sq Tryd.f56 2 3 (by kernel_rfl) ?_
  refine R_rn Tryd.f56 2 0 [] [] 0 ⟨[(0, vc (tl e_Point default a1)), (1, vi a2)], []⟩ o0 (by kernel_rfl) (by kernel_rfl) ?_
  refine R_sq Tryd.f56 6 7 (by kernel_rfl) ?_
  refine R_rn Tryd.f56 6 1 [] [] 0 ⟨[(0, vc (tl e_Point default a1)), (1, vi a2), (6, vi (-600)), (7, vi 600)], []⟩ o0 (by kernel_rfl) (by kernel_rfl) ?_
  refine R_sq Tryd.f56 14 15 (by kernel_rfl) ?_
  refine R_sq Tryd.f56 28 29 (by kernel_rfl) ?_
  refine R_rn Tryd.f56 28 2 [] [] 0 ⟨[(0, vc (tl e_Point default a1)), (1, vi a2), (6, vi (-600)), (7, vi 600), (8, vi 0)], []⟩ o0 (by kernel_rfl) (by kernel_rfl) ?_
  obtain ⟨u23, h22, hm⟩ := bind_s hm
  refine R_loop1 (nd Tryd.f56 116) 0 (by kernel_rfl) FUEL (fun o => ref09_across_L1_T o.1 o.2) (fun v st => RetQ Tryd.prog Tryd.f56 (ref09_across_x v) (ref09_across_o v) .ret st) u23 (HL_enter (ref09_across_L1_S a1 a2 (-600) 600 0) (by kernel_rfl) (by kernel_rfl) (ref09_across_L1_ok E a1 a2 FUEL (-600) 600 0 u23 h22)) ?_ ?_
  · rintro v24 rfl st hr
    obtain rfl := Option.some.inj hm
    exact hr
  · rintro o21 rfl
    replace hm : _ = some r := hm
    refine R_sq Tryd.f56 30 31 (by kernel_rfl) ?_
    refine R_rn Tryd.f56 30 13 [] [] 0 ⟨[(4, vi o21.1), (5, vi o21.2)], []⟩ o0 (by kernel_rfl) (by kernel_rfl) ?_
    obtain rfl := Option.some.inj hm
    refine R_ret (by kernel_rfl) ?_
    exact ret_mk (by kernel_rfl) (by kernel_rfl)

end Saw
end Go.SL

namespace Go.SL
namespace Saw
open Go.Proofs
set_option maxHeartbeats 4000000

def ref09_Chord_x (r : Span) : V := va [ci r.A, ci r.B]

def ref09_Chord_o (r : Span) : List (Nat × (Nat × O)) := []

theorem ref09_Chord_f (r : Span) : Frozen (ref09_Chord_o r) := by
  intro i k o h
  unfold ref09_Chord_o at h
  cases h

def ref09_Chord_k2_S (v11 : Int × Int) (v13 : Int × Int) (x17 : Bool) : St :=
  ⟨[(6, vp 0 0), (12, vp 2 0), (65, vb x17)], [(0, bx 29 [ci 0, ci 0]), (2, bx 29 [ci (imax v11.1 v13.1), ci (imin v11.2 v13.2)])]⟩

def ref09_Chord_k1_S (a2 : Int) (a3 : Int) (v4 : (List Point)) (x9 : Bool) : St :=
  ⟨[(1, vi a2), (2, vi a3), (6, vp 0 0), (7, vo 1 0 2 v4.length), (30, vb x9)], [(0, bx 29 [ci 0, ci 0]), (1, ro 0 38 2 v4.length (rf e_Point v4))]⟩

set_option maxRecDepth 100000 in
theorem ref09_Chord_ok (a1 : List Point) (a2 : Int) (a3 : Int) (r : Span) (hm : ref09_Chord a1 a2 a3 = some r) : CtX Tryd.prog globs 30 0 0 [.one (tl e_Point default a1), .one (ci a2), .one (ci a3)] [] (ref09_Chord_x r) (ref09_Chord_o r) := by
  unfold ref09_Chord at hm
  refine CtX_of_E (fn := Tryd.f30) (c := nd Tryd.f30 1) (nt := 68) (by kernel_rfl) (by kernel_rfl) (by kernel_rfl) (by kernel_rfl) fun E => ?_
  refine R_sq Tryd.f30 2 3 (by kernel_rfl) ?_
  refine R_rn Tryd.f30 2 0 [] [] 0 ⟨[(0, vc (tl e_Point default a1)), (1, vi a2), (2, vi a3), (6, vp 0 0)], [(0, bx 29 [ci 0, ci 0])]⟩ o0 (by kernel_rfl) (by kernel_rfl) ?_
  refine R_sq Tryd.f30 6 7 (by kernel_rfl) ?_
  obtain ⟨v4, h5, hm⟩ := bind_s hm
  refine R_rn Tryd.f30 6 1 [(1, dex (cen [] [] 1 0 (ref09_Hull_x v4) (ref09_Hull_o v4) [13] []))] [] 1 ⟨[(1, vi a2), (2, vi a3), (6, vp 0 0), (7, vo 1 0 2 v4.length)], [(0, bx 29 [ci 0, ci 0]), (1, ro 0 38 2 v4.length (rf e_Point v4))]⟩ (o1 (callS (K := (kx E 68 0)) ⟨[(13, vc (tl e_Point default a1))], []⟩ (opAt (rg Tryd.f30 6) 1) [] [] 1 o0 rfl (ref09_Hull_ok a1 v4 h5) (.inl rfl) (by kernel_rfl))) (by kernel_rfl) (by kernel_rfl) ?_
  refine R_sq Tryd.f30 14 15 (by kernel_rfl) ?_
  refine R_join (ι := Bool) (nd Tryd.f30 28) (nd Tryd.f30 29) (by kernel_rfl) (fun p => ref09_Chord_k1_S a2 a3 v4 p) (fun p => ref09_Chord_k1 a2 a3 v4 p = some r) ?_ ?_
  · rintro x9 hm
    show H _ (ref09_Chord_k1_S a2 a3 v4 x9) (nd Tryd.f30 29) _
    refine R_cn Tryd.f30 (.tmp 30) 58 59 (by kernel_rfl) x9 (by kernel_rfl) (fun b10 => ?_) (fun b10 => ?_)
    · replace hm := bif_t b10 hm
      refine R_sq Tryd.f30 116 117 (by kernel_rfl) ?_
      refine R_rn Tryd.f30 116 3 [] [] 2 ⟨[(6, vp 0 0)], [(0, bx 29 [ci 0, ci 0])]⟩ o0 (by kernel_rfl) (by kernel_rfl) ?_
      obtain rfl := Option.some.inj hm
      refine R_ret (by kernel_rfl) ?_
      exact ret_mk (by kernel_rfl) (by kernel_rfl)
    · replace hm := bif_f b10 hm
      refine R_skip (by kernel_rfl) ?_
      refine R_sq Tryd.f30 30 31 (by kernel_rfl) ?_
      obtain ⟨v11, h12, hm⟩ := bind_s hm
      refine R_rn Tryd.f30 30 4 [(2, dex (cen [] [] 2 0 (ref09_across_x v11) (ref09_across_o v11) [33, 34] [1]))] [] 2 ⟨[(2, vi a3), (6, vp 0 0), (7, vo 1 0 2 v4.length), (8, vi v11.1), (9, vi v11.2)], [(0, bx 29 [ci 0, ci 0]), (1, ro 0 38 2 v4.length (rf e_Point v4))]⟩ (o1 (callS (K := (kx E 68 0)) (b := false) ⟨[(33, vo 1 0 2 v4.length), (34, vi a2)], [(1, ro 0 38 2 v4.length (rf e_Point v4))]⟩ (opAt (rg Tryd.f30 30) 2) [] [] 2 (o1 (Nat.le_refl v4.length)) rfl (ref09_across_ok v4 a2 v11 h12) (.inr ⟨(by kernel_rfl), ref09_across_f v11⟩) (by kernel_rfl))) (by kernel_rfl) (by kernel_rfl) ?_
      refine R_sq Tryd.f30 62 63 (by kernel_rfl) ?_
      obtain ⟨v13, h14, hm⟩ := bind_s hm
      refine R_rn Tryd.f30 62 5 [(2, dex (cen [] [] 2 0 (ref09_across_x v13) (ref09_across_o v13) [39, 40] [1]))] [] 2 ⟨[(6, vp 0 0), (8, vi v11.1), (9, vi v11.2), (10, vi v13.1), (11, vi v13.2)], [(0, bx 29 [ci 0, ci 0])]⟩ (o1 (callS (K := (kx E 68 0)) (b := false) ⟨[(39, vo 1 0 2 v4.length), (40, vi a3)], [(1, ro 0 38 2 v4.length (rf e_Point v4))]⟩ (opAt (rg Tryd.f30 62) 2) [] [] 2 (o1 (Nat.le_refl v4.length)) rfl (ref09_across_ok v4 a3 v13 h14) (.inr ⟨(by kernel_rfl), ref09_across_f v13⟩) (by kernel_rfl))) (by kernel_rfl) (by kernel_rfl) ?_
      refine R_sq Tryd.f30 126 127 (by kernel_rfl) ?_
      refine R_rn Tryd.f30 126 6 [] [] 2 ⟨[(6, vp 0 0), (8, vi v11.1), (9, vi v11.2), (10, vi v13.1), (11, vi v13.2), (12, vp 2 0)], [(0, bx 29 [ci 0, ci 0]), (2, bx 29 [ci (imax v11.1 v13.1), ci (imin v11.2 v13.2)])]⟩ o0 (by kernel_rfl) (by kernel_rfl) ?_
      refine R_sq Tryd.f30 254 255 (by kernel_rfl) ?_
      refine R_join (ι := Bool) (nd Tryd.f30 508) (nd Tryd.f30 509) (by kernel_rfl) (fun p => ref09_Chord_k2_S v11 v13 p) (fun p => ref09_Chord_k2 v11 v13 p = some r) ?_ ?_
      · rintro x17 hm
        show H _ (ref09_Chord_k2_S v11 v13 x17) (nd Tryd.f30 509) _
        refine R_cn Tryd.f30 (.tmp 65) 1018 1019 (by kernel_rfl) x17 (by kernel_rfl) (fun b18 => ?_) (fun b18 => ?_)
        · replace hm := bif_t b18 hm
          refine R_sq Tryd.f30 2036 2037 (by kernel_rfl) ?_
          refine R_rn Tryd.f30 2036 8 [] [] 3 ⟨[(6, vp 0 0)], [(0, bx 29 [ci 0, ci 0])]⟩ o0 (by kernel_rfl) (by kernel_rfl) ?_
          obtain rfl := Option.some.inj hm
          refine R_ret (by kernel_rfl) ?_
          exact ret_mk (by kernel_rfl) (by kernel_rfl)
        · replace hm := bif_f b18 hm
          refine R_skip (by kernel_rfl) ?_
          refine R_sq Tryd.f30 510 511 (by kernel_rfl) ?_
          refine R_rn Tryd.f30 510 9 [] [] 3 ⟨[(6, vp 0 0)], [(0, bx 29 [ci (imax v11.1 v13.1), ci (imin v11.2 v13.2)])]⟩ o0 (by kernel_rfl) (by kernel_rfl) ?_
          obtain rfl := Option.some.inj hm
          refine R_ret (by kernel_rfl) ?_
          exact ret_mk (by kernel_rfl) (by kernel_rfl)
      · rcases Bool.eq_false_or_eq_true (decide (v11.1 > v11.2)) with b15 | b15
        · replace hm := bif_t b15 hm
          refine R_rn Tryd.f30 508 7 [(3, dfx true)] [] 3 ⟨[(6, vp 0 0), (12, vp 2 0), (65, vb true)], [(0, bx 29 [ci 0, ci 0]), (2, bx 29 [ci (imax v11.1 v13.1), ci (imin v11.2 v13.2)])]⟩ (o1 b15) (by kernel_rfl) (by kernel_rfl) ?_
          exact J_mk (true) hm (by kernel_rfl) (by kernel_rfl)
        · replace hm := bif_f b15 hm
          rcases Bool.eq_false_or_eq_true (decide (v13.1 > v13.2)) with b16 | b16
          · replace hm := bif_t b16 hm
            refine R_rn Tryd.f30 508 7 [(3, dfx false), (8, dfx true)] [] 3 ⟨[(6, vp 0 0), (12, vp 2 0), (65, vb true)], [(0, bx 29 [ci 0, ci 0]), (2, bx 29 [ci (imax v11.1 v13.1), ci (imin v11.2 v13.2)])]⟩ (o1 (And.intro b15 b16)) (by kernel_rfl) (by kernel_rfl) ?_
            exact J_mk (true) hm (by kernel_rfl) (by kernel_rfl)
          · replace hm := bif_f b16 hm
            refine R_rn Tryd.f30 508 7 [(3, dfx false), (8, dfx false)] [] 3 ⟨[(6, vp 0 0), (12, vp 2 0), (65, vb (decide ((imax v11.1 v13.1) ≥ (imin v11.2 v13.2))))], [(0, bx 29 [ci 0, ci 0]), (2, bx 29 [ci (imax v11.1 v13.1), ci (imin v11.2 v13.2)])]⟩ (o1 (And.intro b15 b16)) (by kernel_rfl) (by kernel_rfl) ?_
            exact J_mk (decide ((imax v11.1 v13.1) ≥ (imin v11.2 v13.2))) hm (by kernel_rfl) (by kernel_rfl)
  · rcases Bool.eq_false_or_eq_true (((v4.length : Nat) : Int) == 0) with b6 | b6
    · replace hm := bif_t b6 hm
      refine R_rn Tryd.f30 28 2 [(3, dfx true)] [] 2 ⟨[(1, vi a2), (2, vi a3), (6, vp 0 0), (7, vo 1 0 2 v4.length), (30, vb true)], [(0, bx 29 [ci 0, ci 0]), (1, ro 0 38 2 v4.length (rf e_Point v4))]⟩ (o1 b6) (by kernel_rfl) (by kernel_rfl) ?_
      exact J_mk (true) hm (by kernel_rfl) (by kernel_rfl)
    · replace hm := bif_f b6 hm
      rcases Bool.eq_false_or_eq_true (decide (a2 ≥ a3)) with b7 | b7
      · replace hm := bif_t b7 hm
        refine R_rn Tryd.f30 28 2 [(3, dfx false), (8, dfx true)] [] 2 ⟨[(1, vi a2), (2, vi a3), (6, vp 0 0), (7, vo 1 0 2 v4.length), (30, vb true)], [(0, bx 29 [ci 0, ci 0]), (1, ro 0 38 2 v4.length (rf e_Point v4))]⟩ (o1 (And.intro b6 b7)) (by kernel_rfl) (by kernel_rfl) ?_
        exact J_mk (true) hm (by kernel_rfl) (by kernel_rfl)
      · replace hm := bif_f b7 hm
        rcases Bool.eq_false_or_eq_true (decide (a2 < (-600))) with b8 | b8
        · replace hm := bif_t b8 hm
          refine R_rn Tryd.f30 28 2 [(3, dfx false), (8, dfx false), (12, dfx true)] [] 2 ⟨[(1, vi a2), (2, vi a3), (6, vp 0 0), (7, vo 1 0 2 v4.length), (30, vb true)], [(0, bx 29 [ci 0, ci 0]), (1, ro 0 38 2 v4.length (rf e_Point v4))]⟩ (o1 (And.intro b6 (And.intro b7 b8))) (by kernel_rfl) (by kernel_rfl) ?_
          exact J_mk (true) hm (by kernel_rfl) (by kernel_rfl)
        · replace hm := bif_f b8 hm
          refine R_rn Tryd.f30 28 2 [(3, dfx false), (8, dfx false), (12, dfx false)] [] 2 ⟨[(1, vi a2), (2, vi a3), (6, vp 0 0), (7, vo 1 0 2 v4.length), (30, vb (decide (a3 > 600)))], [(0, bx 29 [ci 0, ci 0]), (1, ro 0 38 2 v4.length (rf e_Point v4))]⟩ (o1 (And.intro b6 (And.intro b7 b8))) (by kernel_rfl) (by kernel_rfl) ?_
          exact J_mk (decide (a3 > 600)) hm (by kernel_rfl) (by kernel_rfl)

end Saw
end Go.SL
