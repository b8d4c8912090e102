import Derived.Test.YtcppgjcniljkcaaDoorPBase
import Derived.Test.YtcppgjcniljkcaaDoorPFa3
import Derived.Test.YtcppgjcniljkcaaDoorPFa1
set_option linter.unusedVariables false
set_option linter.unusedSimpArgs false
namespace Go.SL
namespace Saw
open Go.Proofs
set_option maxHeartbeats 4000000

def poly_Chord_1_x (a1 : Int) (a2 : Rect) (a3 : List Point) (r : Int × Int) : V := .tup [.one (ci r.1), .one (ci r.2)]

def poly_Chord_1_o (a1 : Int) (a2 : Rect) (a3 : List Point) (r : Int × Int) : List (Nat × (Nat × O)) := [(0, bx 31 [ci a2.X.A, ci a2.X.B, ci a2.Y.A, ci a2.Y.B]), (1, bx 22 [.own 2 0 2 a3.length]), (2, ro 0 38 2 a3.length (rf e_Point a3))]

theorem poly_Chord_1_f (a1 : Int) (a2 : Rect) (a3 : List Point) (r : Int × Int) : Frozen (poly_Chord_1_o a1 a2 a3 r) := by
  intro i k o h
  unfold poly_Chord_1_o at h
  rw [look_cons] at h
  split at h
  · cases h; rfl
  · rw [look_cons] at h
    split at h
    · cases h; rfl
    · rw [look_cons] at h
      split at h
      · cases h; exact fun _ _ => rfl
      · cases h

def poly_Chord_1_k4_S (a1 : Int) (a2 : Rect) (a3 : List Point) (x6 : Int) (x23 : Int) (x24 : Int) : St :=
  ⟨[(0, vi a1), (2, vp 1 0), (6, vi x23), (7, vi x24), (17, vo 2 0 2 a3.length), (18, vi ((a3.length : Nat) : Int)), (19, vi x6)], [(0, bx 31 [ci a2.X.A, ci a2.X.B, ci a2.Y.A, ci a2.Y.B]), (1, bx 22 [.own 2 0 2 a3.length]), (2, ro 0 38 2 a3.length (rf e_Point a3))]⟩

def poly_Chord_1_k3_S (a1 : Int) (a2 : Rect) (a3 : List Point) (x4 : Int) (x5 : Int) (x6 : Int) (x19 : Bool) : St :=
  ⟨[(0, vi a1), (2, vp 1 0), (6, vi x4), (7, vi x5), (9, vp 3 0), (10, vp 4 0), (17, vo 2 0 2 a3.length), (18, vi ((a3.length : Nat) : Int)), (19, vi x6), (69, vb x19)], [(0, bx 31 [ci a2.X.A, ci a2.X.B, ci a2.Y.A, ci a2.Y.B]), (1, bx 22 [.own 2 0 2 a3.length]), (2, ro 0 38 2 a3.length (rf e_Point a3)), (3, bx 38 [ci ((a3.getD x6.toNat default).X), ci ((a3.getD x6.toNat default).Y)]), (4, bx 38 [ci ((a3.getD ((Int.tmod (w64 (x6 + 1)) ((a3.length : Nat) : Int)).toNat) default).X), ci ((a3.getD ((Int.tmod (w64 (x6 + 1)) ((a3.length : Nat) : Int)).toNat) default).Y)])]⟩

def poly_Chord_1_k2_S (a1 : Int) (a2 : Rect) (a3 : List Point) (x4 : Int) (x5 : Int) (x6 : Int) (x13 : Bool) : St :=
  ⟨[(0, vi a1), (2, vp 1 0), (6, vi x4), (7, vi x5), (9, vp 3 0), (10, vp 4 0), (17, vo 2 0 2 a3.length), (18, vi ((a3.length : Nat) : Int)), (19, vi x6), (32, vb x13)], [(0, bx 31 [ci a2.X.A, ci a2.X.B, ci a2.Y.A, ci a2.Y.B]), (1, bx 22 [.own 2 0 2 a3.length]), (2, ro 0 38 2 a3.length (rf e_Point a3)), (3, bx 38 [ci ((a3.getD x6.toNat default).X), ci ((a3.getD x6.toNat default).Y)]), (4, bx 38 [ci ((a3.getD ((Int.tmod (w64 (x6 + 1)) ((a3.length : Nat) : Int)).toNat) default).X), ci ((a3.getD ((Int.tmod (w64 (x6 + 1)) ((a3.length : Nat) : Int)).toNat) default).Y)])]⟩

def poly_Chord_1_L1_S (a1 : Int) (a2 : Rect) (a3 : List Point) (x4 : Int) (x5 : Int) (x6 : Int) : St :=
  ⟨[(0, vi a1), (2, vp 1 0), (6, vi x4), (7, vi x5), (17, vo 2 0 2 a3.length), (18, vi ((a3.length : Nat) : Int)), (19, vi x6)], [(0, bx 31 [ci a2.X.A, ci a2.X.B, ci a2.Y.A, ci a2.Y.B]), (1, bx 22 [.own 2 0 2 a3.length]), (2, ro 0 38 2 a3.length (rf e_Point a3))]⟩

def poly_Chord_1_L1_T (a2 : Rect) (a3 : List Point) (x25 : Int) (x26 : Int) : St :=
  ⟨[(6, vi x25), (7, vi x26)], [(0, bx 31 [ci a2.X.A, ci a2.X.B, ci a2.Y.A, ci a2.Y.B]), (1, bx 22 [.own 2 0 2 a3.length]), (2, ro 0 38 2 a3.length (rf e_Point a3))]⟩

set_option maxRecDepth 100000 in
theorem poly_Chord_1_L1_ok (E : Env 3) (a1 : Int) (a2 : Rect) (a3 : List Point) : ∀ (n : Nat) (x4 : Int) (x5 : Int) (x6 : Int) (res : Int × Int), poly_Chord_1_L1 a1 a3 n x4 x5 x6 = some res → HL (kx E 109 2) (nd Tryd.f54 116) (loopQ0 0 (fun o => poly_Chord_1_L1_T a2 a3 o.1 o.2) res) n (poly_Chord_1_L1_S a1 a2 a3 x4 x5 x6) := by
  intro n
  induction n with
  | zero =>
    intro x4 x5 x6 res hm
    cases hm
  | succ n ih =>
    intro x4 x5 x6 res hm
    refine HL_succ ?_
    refine R_sq Tryd.f54 232 233 (by kernel_rfl) ?_
    refine R_rn Tryd.f54 232 3 [] [] 3 ⟨[(0, vi a1), (2, vp 1 0), (6, vi x4), (7, vi x5), (17, vo 2 0 2 a3.length), (18, vi ((a3.length : Nat) : Int)), (19, vi x6), (20, vb (decide (x6 < ((a3.length : Nat) : Int))))], [(0, bx 31 [ci a2.X.A, ci a2.X.B, ci a2.Y.A, ci a2.Y.B]), (1, bx 22 [.own 2 0 2 a3.length]), (2, ro 0 38 2 a3.length (rf e_Point a3))]⟩ o0 (by kernel_rfl) (by kernel_rfl) ?_
    refine R_sq Tryd.f54 466 467 (by kernel_rfl) ?_
    refine R_cn Tryd.f54 (.tmp 20) 932 933 (by kernel_rfl) (decide (x6 < ((a3.length : Nat) : Int))) (by kernel_rfl) (fun b7 => ?_) (fun b7 => ?_)
    · replace hm := bif_t b7 hm
      refine R_skip (by kernel_rfl) ?_
      refine R_join (ι := Int × Int) (nd Tryd.f54 934) (nd Tryd.f54 935) (by kernel_rfl) (fun p => poly_Chord_1_k4_S a1 a2 a3 x6 p.1 p.2) (fun p => poly_Chord_1_k4 x6 (poly_Chord_1_L1 a1 a3 n) p.1 p.2 = some res) ?_ ?_
      · rintro ⟨x23, x24⟩ hm
        show H _ (poly_Chord_1_k4_S a1 a2 a3 x6 x23 x24) (nd Tryd.f54 935) _
        refine R_rn Tryd.f54 935 10 [] [] 5 ⟨[(0, vi a1), (2, vp 1 0), (6, vi x23), (7, vi x24), (17, vo 2 0 2 a3.length), (18, vi ((a3.length : Nat) : Int)), (19, vi (w64 (x6 + 1)))], [(0, bx 31 [ci a2.X.A, ci a2.X.B, ci a2.Y.A, ci a2.Y.B]), (1, bx 22 [.own 2 0 2 a3.length]), (2, ro 0 38 2 a3.length (rf e_Point a3))]⟩ o0 (by kernel_rfl) (by kernel_rfl) ?_
        exact HL_enter (poly_Chord_1_L1_S a1 a2 a3 x23 x24 (w64 (x6 + 1))) (by kernel_rfl) (by kernel_rfl) (ih x23 x24 (w64 (x6 + 1)) _ hm)
      · refine R_bk Tryd.f54 1 1868 (by kernel_rfl) ?_
        refine R_sq Tryd.f54 3736 3737 (by kernel_rfl) ?_
        obtain ⟨g8, hm⟩ := bif_n hm
        refine R_rn Tryd.f54 3736 4 [] [] 3 ⟨[(0, vi a1), (2, vp 1 0), (6, vi x4), (7, vi x5), (8, vi x6), (9, vp 3 0), (17, vo 2 0 2 a3.length), (18, vi ((a3.length : Nat) : Int)), (19, vi x6)], [(0, bx 31 [ci a2.X.A, ci a2.X.B, ci a2.Y.A, ci a2.Y.B]), (1, bx 22 [.own 2 0 2 a3.length]), (2, ro 0 38 2 a3.length (rf e_Point a3)), (3, bx 38 [ci ((a3.getD x6.toNat default).X), ci ((a3.getD x6.toNat default).Y)])]⟩ (o1 (And.intro (inb_of g8) (toNat_lt (inb_of g8)))) (by kernel_rfl) (by kernel_rfl) ?_
        refine R_sq Tryd.f54 7474 7475 (by kernel_rfl) ?_
        obtain ⟨g9, hm⟩ := bif_n hm
        obtain ⟨g10, hm⟩ := bif_n hm
        refine R_dr Tryd.f54 7474 5 [] [] [] [0, 0, 2, 0, 8, 30, 63, 127, 0, 511] 4 ⟨[(0, vi a1), (2, vp 1 0), (6, vi x4), (7, vi x5), (9, vp 3 0), (10, vp 4 0), (17, vo 2 0 2 a3.length), (18, vi ((a3.length : Nat) : Int)), (19, vi x6)], [(0, bx 31 [ci a2.X.A, ci a2.X.B, ci a2.Y.A, ci a2.Y.B]), (1, bx 22 [.own 2 0 2 a3.length]), (2, ro 0 38 2 a3.length (rf e_Point a3)), (3, bx 38 [ci ((a3.getD x6.toNat default).X), ci ((a3.getD x6.toNat default).Y)]), (4, bx 38 [ci ((a3.getD ((Int.tmod (w64 (x6 + 1)) ((a3.length : Nat) : Int)).toNat) default).X), ci ((a3.getD ((Int.tmod (w64 (x6 + 1)) ((a3.length : Nat) : Int)).toNat) default).Y)])]⟩ (o1 (And.intro (nz_of g9) (And.intro (inb_of g10) (toNat_lt (inb_of g10))))) (by kernel_rfl) (by kernel_rfl) ?_
        refine R_bk Tryd.f54 2 14950 (by kernel_rfl) ?_
        refine R_join (ι := Bool) (nd Tryd.f54 29900) (nd Tryd.f54 29901) (by kernel_rfl) (fun p => poly_Chord_1_k2_S a1 a2 a3 x4 x5 x6 p) (fun p => poly_Chord_1_k2 a1 a3 x4 x5 x6 (poly_Chord_1_L1 a1 a3 n) p = some res) ?_ ?_
        · rintro x13 hm
          show H _ (poly_Chord_1_k2_S a1 a2 a3 x4 x5 x6 x13) (nd Tryd.f54 29901) _
          refine R_cn Tryd.f54 (.tmp 32) 59802 59803 (by kernel_rfl) x13 (by kernel_rfl) (fun b14 => ?_) (fun b14 => ?_)
          · replace hm := bif_t b14 hm
            obtain ⟨v15, h16, hm⟩ := bind_s hm
            refine R_dr Tryd.f54 59802 7 [] [(17, dex (cen [] [] 5 0 (poly_floor_x v15) (poly_floor_o v15) [61, 66] []))] [] [0, 1, 0, 4, 0, 16, 60, 0, 0, 256, 896, 2044, 0, 4096, 0, 16384, 61440, 131068, 262143, 524287] 5 ⟨[(0, vi a1), (2, vp 1 0), (6, vi x4), (7, vi (w64 (((a3.getD x6.toNat default).X) + v15))), (17, vo 2 0 2 a3.length), (18, vi ((a3.length : Nat) : Int)), (19, vi x6)], [(0, bx 31 [ci a2.X.A, ci a2.X.B, ci a2.Y.A, ci a2.Y.B]), (1, bx 22 [.own 2 0 2 a3.length]), (2, ro 0 38 2 a3.length (rf e_Point a3))]⟩ (o1 (callS (K := (kx E 109 2)) ⟨[(61, vi (w64 ((w64 (((a3.getD ((Int.tmod (w64 (x6 + 1)) ((a3.length : Nat) : Int)).toNat) default).X) - ((a3.getD x6.toNat default).X))) * (w64 (a1 - ((a3.getD x6.toNat default).Y)))))), (66, vi (w64 (((a3.getD ((Int.tmod (w64 (x6 + 1)) ((a3.length : Nat) : Int)).toNat) default).Y) - ((a3.getD x6.toNat default).Y))))], []⟩ (opAt (rg Tryd.f54 59802) 17) [] [] 5 o0 rfl (poly_floor_ok (w64 ((w64 (((a3.getD ((Int.tmod (w64 (x6 + 1)) ((a3.length : Nat) : Int)).toNat) default).X) - ((a3.getD x6.toNat default).X))) * (w64 (a1 - ((a3.getD x6.toNat default).Y))))) (w64 (((a3.getD ((Int.tmod (w64 (x6 + 1)) ((a3.length : Nat) : Int)).toNat) default).Y) - ((a3.getD x6.toNat default).Y))) v15 h16) (.inl rfl) (by kernel_rfl))) (by kernel_rfl) (by kernel_rfl) ?_
            exact J_mk (x4, w64 (((a3.getD x6.toNat default).X) + v15)) hm (by kernel_rfl) (by kernel_rfl)
          · replace hm := bif_f b14 hm
            refine R_join (ι := Bool) (nd Tryd.f54 119606) (nd Tryd.f54 119607) (by kernel_rfl) (fun p => poly_Chord_1_k3_S a1 a2 a3 x4 x5 x6 p) (fun p => poly_Chord_1_k3 a1 a3 x4 x5 x6 (poly_Chord_1_L1 a1 a3 n) p = some res) ?_ ?_
            · rintro x19 hm
              show H _ (poly_Chord_1_k3_S a1 a2 a3 x4 x5 x6 x19) (nd Tryd.f54 119607) _
              refine R_cn Tryd.f54 (.tmp 69) 239214 239215 (by kernel_rfl) x19 (by kernel_rfl) (fun b20 => ?_) (fun b20 => ?_)
              · replace hm := bif_t b20 hm
                obtain ⟨v21, h22, hm⟩ := bind_s hm
                refine R_dr Tryd.f54 239214 9 [] [(17, dex (cen [] [] 5 0 (poly_floor_x v21) (poly_floor_o v21) [98, 103] []))] [] [0, 1, 0, 4, 0, 16, 60, 0, 0, 256, 896, 2044, 0, 4096, 0, 16384, 61440, 131068, 262143, 524287] 5 ⟨[(0, vi a1), (2, vp 1 0), (6, vi (w64 (((a3.getD ((Int.tmod (w64 (x6 + 1)) ((a3.length : Nat) : Int)).toNat) default).X) - v21))), (7, vi x5), (17, vo 2 0 2 a3.length), (18, vi ((a3.length : Nat) : Int)), (19, vi x6)], [(0, bx 31 [ci a2.X.A, ci a2.X.B, ci a2.Y.A, ci a2.Y.B]), (1, bx 22 [.own 2 0 2 a3.length]), (2, ro 0 38 2 a3.length (rf e_Point a3))]⟩ (o1 (callS (K := (kx E 109 2)) ⟨[(98, vi (w64 ((w64 (((a3.getD ((Int.tmod (w64 (x6 + 1)) ((a3.length : Nat) : Int)).toNat) default).X) - ((a3.getD x6.toNat default).X))) * (w64 (a1 - ((a3.getD ((Int.tmod (w64 (x6 + 1)) ((a3.length : Nat) : Int)).toNat) default).Y)))))), (103, vi (w64 (((a3.getD x6.toNat default).Y) - ((a3.getD ((Int.tmod (w64 (x6 + 1)) ((a3.length : Nat) : Int)).toNat) default).Y))))], []⟩ (opAt (rg Tryd.f54 239214) 17) [] [] 5 o0 rfl (poly_floor_ok (w64 ((w64 (((a3.getD ((Int.tmod (w64 (x6 + 1)) ((a3.length : Nat) : Int)).toNat) default).X) - ((a3.getD x6.toNat default).X))) * (w64 (a1 - ((a3.getD ((Int.tmod (w64 (x6 + 1)) ((a3.length : Nat) : Int)).toNat) default).Y))))) (w64 (((a3.getD x6.toNat default).Y) - ((a3.getD ((Int.tmod (w64 (x6 + 1)) ((a3.length : Nat) : Int)).toNat) default).Y))) v21 h22) (.inl rfl) (by kernel_rfl))) (by kernel_rfl) (by kernel_rfl) ?_
                exact J_mk (w64 (((a3.getD ((Int.tmod (w64 (x6 + 1)) ((a3.length : Nat) : Int)).toNat) default).X) - v21), x5) hm (by kernel_rfl) (by kernel_rfl)
              · replace hm := bif_f b20 hm
                refine R_skip (by kernel_rfl) ?_
                exact J_mk (x4, x5) hm (by kernel_rfl) (by kernel_rfl)
            · rcases Bool.eq_false_or_eq_true (decide (((a3.getD x6.toNat default).Y) > ((a3.getD ((Int.tmod (w64 (x6 + 1)) ((a3.length : Nat) : Int)).toNat) default).Y))) with b17 | b17
              · replace hm := bif_t b17 hm
                rcases Bool.eq_false_or_eq_true (decide (((a3.getD ((Int.tmod (w64 (x6 + 1)) ((a3.length : Nat) : Int)).toNat) default).Y) ≤ a1)) with b18 | b18
                · replace hm := bif_t b18 hm
                  refine R_rn Tryd.f54 119606 8 [(5, dfx true), (11, dfx true)] [] 5 ⟨[(0, vi a1), (2, vp 1 0), (6, vi x4), (7, vi x5), (9, vp 3 0), (10, vp 4 0), (17, vo 2 0 2 a3.length), (18, vi ((a3.length : Nat) : Int)), (19, vi x6), (69, vb (decide (a1 ≤ ((a3.getD x6.toNat default).Y)))), (76, vp 4 1), (77, vi ((a3.getD ((Int.tmod (w64 (x6 + 1)) ((a3.length : Nat) : Int)).toNat) default).Y)), (78, vi a1), (79, vb (decide (((a3.getD ((Int.tmod (w64 (x6 + 1)) ((a3.length : Nat) : Int)).toNat) default).Y) ≤ a1))), (82, vi a1), (83, vp 3 1), (84, vi ((a3.getD x6.toNat default).Y)), (85, vb (decide (a1 ≤ ((a3.getD x6.toNat default).Y))))], [(0, bx 31 [ci a2.X.A, ci a2.X.B, ci a2.Y.A, ci a2.Y.B]), (1, bx 22 [.own 2 0 2 a3.length]), (2, ro 0 38 2 a3.length (rf e_Point a3)), (3, bx 38 [ci ((a3.getD x6.toNat default).X), ci ((a3.getD x6.toNat default).Y)]), (4, bx 38 [ci ((a3.getD ((Int.tmod (w64 (x6 + 1)) ((a3.length : Nat) : Int)).toNat) default).X), ci ((a3.getD ((Int.tmod (w64 (x6 + 1)) ((a3.length : Nat) : Int)).toNat) default).Y)])]⟩ (o1 (And.intro b17 b18)) (by kernel_rfl) (by kernel_rfl) ?_
                  exact J_mk (decide (a1 ≤ ((a3.getD x6.toNat default).Y))) hm (by kernel_rfl) (by kernel_rfl)
                · replace hm := bif_f b18 hm
                  refine R_rn Tryd.f54 119606 8 [(5, dfx true), (11, dfx false)] [] 5 ⟨[(0, vi a1), (2, vp 1 0), (6, vi x4), (7, vi x5), (9, vp 3 0), (10, vp 4 0), (17, vo 2 0 2 a3.length), (18, vi ((a3.length : Nat) : Int)), (19, vi x6), (69, vb false), (76, vp 4 1), (77, vi ((a3.getD ((Int.tmod (w64 (x6 + 1)) ((a3.length : Nat) : Int)).toNat) default).Y)), (78, vi a1), (79, vb (decide (((a3.getD ((Int.tmod (w64 (x6 + 1)) ((a3.length : Nat) : Int)).toNat) default).Y) ≤ a1)))], [(0, bx 31 [ci a2.X.A, ci a2.X.B, ci a2.Y.A, ci a2.Y.B]), (1, bx 22 [.own 2 0 2 a3.length]), (2, ro 0 38 2 a3.length (rf e_Point a3)), (3, bx 38 [ci ((a3.getD x6.toNat default).X), ci ((a3.getD x6.toNat default).Y)]), (4, bx 38 [ci ((a3.getD ((Int.tmod (w64 (x6 + 1)) ((a3.length : Nat) : Int)).toNat) default).X), ci ((a3.getD ((Int.tmod (w64 (x6 + 1)) ((a3.length : Nat) : Int)).toNat) default).Y)])]⟩ (o1 (And.intro b17 b18)) (by kernel_rfl) (by kernel_rfl) ?_
                  exact J_mk (false) hm (by kernel_rfl) (by kernel_rfl)
              · replace hm := bif_f b17 hm
                refine R_rn Tryd.f54 119606 8 [(5, dfx false)] [] 5 ⟨[(0, vi a1), (2, vp 1 0), (6, vi x4), (7, vi x5), (9, vp 3 0), (10, vp 4 0), (17, vo 2 0 2 a3.length), (18, vi ((a3.length : Nat) : Int)), (19, vi x6), (69, vb false)], [(0, bx 31 [ci a2.X.A, ci a2.X.B, ci a2.Y.A, ci a2.Y.B]), (1, bx 22 [.own 2 0 2 a3.length]), (2, ro 0 38 2 a3.length (rf e_Point a3)), (3, bx 38 [ci ((a3.getD x6.toNat default).X), ci ((a3.getD x6.toNat default).Y)]), (4, bx 38 [ci ((a3.getD ((Int.tmod (w64 (x6 + 1)) ((a3.length : Nat) : Int)).toNat) default).X), ci ((a3.getD ((Int.tmod (w64 (x6 + 1)) ((a3.length : Nat) : Int)).toNat) default).Y)])]⟩ (o1 b17) (by kernel_rfl) (by kernel_rfl) ?_
                exact J_mk (false) hm (by kernel_rfl) (by kernel_rfl)
        · rcases Bool.eq_false_or_eq_true (decide (((a3.getD x6.toNat default).Y) < ((a3.getD ((Int.tmod (w64 (x6 + 1)) ((a3.length : Nat) : Int)).toNat) default).Y))) with b11 | b11
          · replace hm := bif_t b11 hm
            rcases Bool.eq_false_or_eq_true (decide (((a3.getD x6.toNat default).Y) ≤ a1)) with b12 | b12
            · replace hm := bif_t b12 hm
              refine R_rn Tryd.f54 29900 6 [(5, dfx true), (11, dfx true)] [] 5 ⟨[(0, vi a1), (2, vp 1 0), (6, vi x4), (7, vi x5), (9, vp 3 0), (10, vp 4 0), (17, vo 2 0 2 a3.length), (18, vi ((a3.length : Nat) : Int)), (19, vi x6), (32, vb (decide (a1 ≤ ((a3.getD ((Int.tmod (w64 (x6 + 1)) ((a3.length : Nat) : Int)).toNat) default).Y)))), (39, vp 3 1), (40, vi ((a3.getD x6.toNat default).Y)), (41, vi a1), (42, vb (decide (((a3.getD x6.toNat default).Y) ≤ a1))), (45, vi a1), (46, vp 4 1), (47, vi ((a3.getD ((Int.tmod (w64 (x6 + 1)) ((a3.length : Nat) : Int)).toNat) default).Y)), (48, vb (decide (a1 ≤ ((a3.getD ((Int.tmod (w64 (x6 + 1)) ((a3.length : Nat) : Int)).toNat) default).Y))))], [(0, bx 31 [ci a2.X.A, ci a2.X.B, ci a2.Y.A, ci a2.Y.B]), (1, bx 22 [.own 2 0 2 a3.length]), (2, ro 0 38 2 a3.length (rf e_Point a3)), (3, bx 38 [ci ((a3.getD x6.toNat default).X), ci ((a3.getD x6.toNat default).Y)]), (4, bx 38 [ci ((a3.getD ((Int.tmod (w64 (x6 + 1)) ((a3.length : Nat) : Int)).toNat) default).X), ci ((a3.getD ((Int.tmod (w64 (x6 + 1)) ((a3.length : Nat) : Int)).toNat) default).Y)])]⟩ (o1 (And.intro b11 b12)) (by kernel_rfl) (by kernel_rfl) ?_
              exact J_mk (decide (a1 ≤ ((a3.getD ((Int.tmod (w64 (x6 + 1)) ((a3.length : Nat) : Int)).toNat) default).Y))) hm (by kernel_rfl) (by kernel_rfl)
            · replace hm := bif_f b12 hm
              refine R_rn Tryd.f54 29900 6 [(5, dfx true), (11, dfx false)] [] 5 ⟨[(0, vi a1), (2, vp 1 0), (6, vi x4), (7, vi x5), (9, vp 3 0), (10, vp 4 0), (17, vo 2 0 2 a3.length), (18, vi ((a3.length : Nat) : Int)), (19, vi x6), (32, vb false), (39, vp 3 1), (40, vi ((a3.getD x6.toNat default).Y)), (41, vi a1), (42, vb (decide (((a3.getD x6.toNat default).Y) ≤ a1)))], [(0, bx 31 [ci a2.X.A, ci a2.X.B, ci a2.Y.A, ci a2.Y.B]), (1, bx 22 [.own 2 0 2 a3.length]), (2, ro 0 38 2 a3.length (rf e_Point a3)), (3, bx 38 [ci ((a3.getD x6.toNat default).X), ci ((a3.getD x6.toNat default).Y)]), (4, bx 38 [ci ((a3.getD ((Int.tmod (w64 (x6 + 1)) ((a3.length : Nat) : Int)).toNat) default).X), ci ((a3.getD ((Int.tmod (w64 (x6 + 1)) ((a3.length : Nat) : Int)).toNat) default).Y)])]⟩ (o1 (And.intro b11 b12)) (by kernel_rfl) (by kernel_rfl) ?_
              exact J_mk (false) hm (by kernel_rfl) (by kernel_rfl)
          · replace hm := bif_f b11 hm
            refine R_rn Tryd.f54 29900 6 [(5, dfx false)] [] 5 ⟨[(0, vi a1), (2, vp 1 0), (6, vi x4), (7, vi x5), (9, vp 3 0), (10, vp 4 0), (17, vo 2 0 2 a3.length), (18, vi ((a3.length : Nat) : Int)), (19, vi x6), (32, vb false)], [(0, bx 31 [ci a2.X.A, ci a2.X.B, ci a2.Y.A, ci a2.Y.B]), (1, bx 22 [.own 2 0 2 a3.length]), (2, ro 0 38 2 a3.length (rf e_Point a3)), (3, bx 38 [ci ((a3.getD x6.toNat default).X), ci ((a3.getD x6.toNat default).Y)]), (4, bx 38 [ci ((a3.getD ((Int.tmod (w64 (x6 + 1)) ((a3.length : Nat) : Int)).toNat) default).X), ci ((a3.getD ((Int.tmod (w64 (x6 + 1)) ((a3.length : Nat) : Int)).toNat) default).Y)])]⟩ (o1 b11) (by kernel_rfl) (by kernel_rfl) ?_
            exact J_mk (false) hm (by kernel_rfl) (by kernel_rfl)
    · replace hm := bif_f b7 hm
      refine R_exit 0 (by kernel_rfl) ?_
      obtain rfl := Option.some.inj hm
      exact L0_mk (by kernel_rfl) (by kernel_rfl)

set_option maxRecDepth 100000 in
theorem poly_Chord_1_ok (a1 : Int) (a2 : Rect) (a3 : List Point) (r : Int × Int) (hm : poly_Chord_1 a1 a2 a3 = some r) : CtX Tryd.prog globs 54 3 2 [.one (ci a1), .one (.bptr 0 0 0), .one (.bptr 1 0 0)] [(0, bx 31 [ci a2.X.A, ci a2.X.B, ci a2.Y.A, ci a2.Y.B]), (1, bx 22 [.own 2 0 2 a3.length]), (2, ro 0 38 2 a3.length (rf e_Point a3))] (poly_Chord_1_x a1 a2 a3 r) (poly_Chord_1_o a1 a2 a3 r) := by
  unfold poly_Chord_1 at hm
  refine CtX_of_E (fn := Tryd.f54) (c := nd Tryd.f54 1) (nt := 109) (by kernel_rfl) (by kernel_rfl) (by kernel_rfl) (by kernel_rfl) fun E => ?_
  refine R_sq Tryd.f54 2 3 (by kernel_rfl) ?_
  refine R_rn Tryd.f54 2 0 [] [] 3 ⟨[(0, vi a1), (1, vp 0 0), (2, vp 1 0)], [(0, bx 31 [ci a2.X.A, ci a2.X.B, ci a2.Y.A, ci a2.Y.B]), (1, bx 22 [.own 2 0 2 a3.length]), (2, ro 0 38 2 a3.length (rf e_Point a3))]⟩ o0 (by kernel_rfl) (by kernel_rfl) ?_
  refine R_sq Tryd.f54 6 7 (by kernel_rfl) ?_
  refine R_dr Tryd.f54 6 1 [] [] [] [0, 1, 3, 0, 8, 24, 7, 127] 3 ⟨[(0, vi a1), (2, vp 1 0), (6, vi a2.X.A), (7, vi a2.X.B)], [(0, bx 31 [ci a2.X.A, ci a2.X.B, ci a2.Y.A, ci a2.Y.B]), (1, bx 22 [.own 2 0 2 a3.length]), (2, ro 0 38 2 a3.length (rf e_Point a3))]⟩ o0 (by kernel_rfl) (by kernel_rfl) ?_
  refine R_sq Tryd.f54 14 15 (by kernel_rfl) ?_
  refine R_sq Tryd.f54 28 29 (by kernel_rfl) ?_
  refine R_rn Tryd.f54 28 2 [] [] 3 ⟨[(0, vi a1), (2, vp 1 0), (6, vi a2.X.A), (7, vi a2.X.B), (17, vo 2 0 2 a3.length), (18, vi ((a3.length : Nat) : Int)), (19, vi 0)], [(0, bx 31 [ci a2.X.A, ci a2.X.B, ci a2.Y.A, ci a2.Y.B]), (1, bx 22 [.own 2 0 2 a3.length]), (2, ro 0 38 2 a3.length (rf e_Point a3))]⟩ o0 (by kernel_rfl) (by kernel_rfl) ?_
  obtain ⟨o27, h28, hm⟩ := bind_s hm
  refine R_loop0 (nd Tryd.f54 116) 0 (by kernel_rfl) FUEL (fun o => poly_Chord_1_L1_T a2 a3 o.1 o.2) o27 (HL_enter (poly_Chord_1_L1_S a1 a2 a3 a2.X.A a2.X.B 0) (by kernel_rfl) (by kernel_rfl) (poly_Chord_1_L1_ok E a1 a2 a3 FUEL a2.X.A a2.X.B 0 o27 h28)) ?_
  refine R_sq Tryd.f54 30 31 (by kernel_rfl) ?_
  refine R_rn Tryd.f54 30 11 [] [] 3 ⟨[(4, vi o27.1), (5, vi o27.2)], [(0, bx 31 [ci a2.X.A, ci a2.X.B, ci a2.Y.A, ci a2.Y.B]), (1, bx 22 [.own 2 0 2 a3.length]), (2, ro 0 38 2 a3.length (rf e_Point a3))]⟩ o0 (by kernel_rfl) (by kernel_rfl) ?_
  obtain rfl := Option.some.inj hm
  refine R_ret (by kernel_rfl) ?_
  exact ret_mk (by kernel_rfl) (by kernel_rfl)

end Saw
end Go.SL

namespace Go.SL
namespace Saw
open Go.Proofs
set_option maxHeartbeats 4000000

def poly_Chord_x (r : Span) : V := va [ci r.A, ci r.B]

def poly_Chord_o (r : Span) : List (Nat × (Nat × O)) := []

theorem poly_Chord_f (r : Span) : Frozen (poly_Chord_o r) := by
  intro i k o h
  unfold poly_Chord_o at h
  cases h

def poly_Chord_k1_S (a2 : Int) (a3 : Int) (v4 : (List Point)) (v6 : Rect) (x11 : Bool) : St :=
  ⟨[(1, vi a2), (2, vi a3), (6, vp 0 0), (7, vp 2 0), (8, vp 3 0), (40, vb x11)], [(0, bx 29 [ci 0, ci 0]), (1, ro 0 38 2 v4.length (rf e_Point v4)), (2, bx 22 [.own 1 0 2 v4.length]), (3, bx 31 [ci v6.X.A, ci v6.X.B, ci v6.Y.A, ci v6.Y.B])]⟩

set_option maxRecDepth 100000 in
theorem poly_Chord_ok (a1 : List Point) (a2 : Int) (a3 : Int) (r : Span) (hm : poly_Chord a1 a2 a3 = some r) : CtX Tryd.prog globs 29 0 0 [.one (tl e_Point default a1), .one (ci a2), .one (ci a3)] [] (poly_Chord_x r) (poly_Chord_o r) := by
  unfold poly_Chord at hm
  refine CtX_of_E (fn := Tryd.f29) (c := nd Tryd.f29 1) (nt := 69) (by kernel_rfl) (by kernel_rfl) (by kernel_rfl) (by kernel_rfl) fun E => ?_
  refine R_sq Tryd.f29 2 3 (by kernel_rfl) ?_
  refine R_rn Tryd.f29 2 0 [] [] 0 ⟨[(0, vc (tl e_Point default a1)), (1, vi a2), (2, vi a3), (6, vp 0 0)], [(0, bx 29 [ci 0, ci 0])]⟩ o0 (by kernel_rfl) (by kernel_rfl) ?_
  refine R_sq Tryd.f29 6 7 (by kernel_rfl) ?_
  obtain ⟨v4, h5, hm⟩ := bind_s hm
  refine R_rn Tryd.f29 6 1 [(1, dex (cen [] [] 1 0 (poly_Hull_x v4) (poly_Hull_o v4) [15] []))] [] 1 ⟨[(1, vi a2), (2, vi a3), (6, vp 0 0), (7, vp 2 0)], [(0, bx 29 [ci 0, ci 0]), (1, ro 0 38 2 v4.length (rf e_Point v4)), (2, bx 22 [.own 1 0 2 v4.length])]⟩ (o1 (callS (K := (kx E 69 0)) ⟨[(15, vc (tl e_Point default a1))], []⟩ (opAt (rg Tryd.f29 6) 1) [] [] 1 o0 rfl (poly_Hull_ok a1 v4 h5) (.inl rfl) (by kernel_rfl))) (by kernel_rfl) (by kernel_rfl) ?_
  refine R_sq Tryd.f29 14 15 (by kernel_rfl) ?_
  obtain ⟨v6, h7, hm⟩ := bind_s hm
  refine R_rn Tryd.f29 14 2 [(1, dex (cen [] [] 3 0 (poly_Bounds_x v6) (poly_Bounds_o v6) [17] [1]))] [] 3 ⟨[(1, vi a2), (2, vi a3), (6, vp 0 0), (7, vp 2 0), (8, vp 3 0)], [(0, bx 29 [ci 0, ci 0]), (1, ro 0 38 2 v4.length (rf e_Point v4)), (2, bx 22 [.own 1 0 2 v4.length]), (3, bx 31 [ci v6.X.A, ci v6.X.B, ci v6.Y.A, ci v6.Y.B])]⟩ (o1 (callS (K := (kx E 69 0)) (b := false) ⟨[(17, vo 1 0 2 v4.length)], [(1, ro 0 38 2 v4.length (rf e_Point v4))]⟩ (opAt (rg Tryd.f29 14) 1) [] [] 3 (o1 (Nat.le_refl v4.length)) rfl (poly_Bounds_ok v4 v6 h7) (.inr ⟨(by kernel_rfl), poly_Bounds_f v6⟩) (by kernel_rfl))) (by kernel_rfl) (by kernel_rfl) ?_
  refine R_sq Tryd.f29 30 31 (by kernel_rfl) ?_
  refine R_join (ι := Bool) (nd Tryd.f29 60) (nd Tryd.f29 61) (by kernel_rfl) (fun p => poly_Chord_k1_S a2 a3 v4 v6 p) (fun p => poly_Chord_k1 a2 a3 v4 v6 p = some r) ?_ ?_
  · rintro x11 hm
    show H _ (poly_Chord_k1_S a2 a3 v4 v6 x11) (nd Tryd.f29 61) _
    refine R_cn Tryd.f29 (.tmp 40) 122 123 (by kernel_rfl) x11 (by kernel_rfl) (fun b12 => ?_) (fun b12 => ?_)
    · replace hm := bif_t b12 hm
      refine R_sq Tryd.f29 244 245 (by kernel_rfl) ?_
      refine R_rn Tryd.f29 244 4 [] [] 4 ⟨[(6, vp 0 0)], [(0, bx 29 [ci 0, ci 0])]⟩ o0 (by kernel_rfl) (by kernel_rfl) ?_
      obtain rfl := Option.some.inj hm
      refine R_ret (by kernel_rfl) ?_
      exact ret_mk (by kernel_rfl) (by kernel_rfl)
    · replace hm := bif_f b12 hm
      refine R_skip (by kernel_rfl) ?_
      refine R_sq Tryd.f29 62 63 (by kernel_rfl) ?_
      refine R_rn Tryd.f29 62 5 [] [] 4 ⟨[(1, vi a2), (2, vi a3), (6, vp 0 0), (9, vc (.fn 54 [.bptr 3 0 0, .bptr 2 0 0]))], [(0, bx 29 [ci 0, ci 0]), (1, ro 0 38 2 v4.length (rf e_Point v4)), (2, bx 22 [.own 1 0 2 v4.length]), (3, bx 31 [ci v6.X.A, ci v6.X.B, ci v6.Y.A, ci v6.Y.B])]⟩ o0 (by kernel_rfl) (by kernel_rfl) ?_
      refine R_sq Tryd.f29 126 127 (by kernel_rfl) ?_
      obtain ⟨v13, h14, hm⟩ := bind_s hm
      refine R_rn Tryd.f29 126 6 [(2, dex (cen [(3, 0), (2, 0), (1, 0)] [0, 0, 1] 1 2 (poly_Chord_1_x a2 v6 v4 v13) (poly_Chord_1_o a2 v6 v4 v13) [44, 45] [3, 2, 1]))] [] 4 ⟨[(2, vi a3), (6, vp 0 0), (9, vc (.fn 54 [.bptr 3 0 0, .bptr 2 0 0])), (10, vi v13.1), (11, vi v13.2)], [(0, bx 29 [ci 0, ci 0]), (1, ro 1 38 2 v4.length (rf e_Point v4)), (2, bx 22 [.own 1 1 2 v4.length]), (3, bx 31 [ci v6.X.A, ci v6.X.B, ci v6.Y.A, ci v6.Y.B])]⟩ (o1 (callS (K := (kx E 69 0)) ⟨[(44, vc (.fn 54 [.bptr 3 0 0, .bptr 2 0 0])), (45, vi a2)], [(3, bx 31 [ci v6.X.A, ci v6.X.B, ci v6.Y.A, ci v6.Y.B]), (2, bx 22 [.own 1 0 2 v4.length]), (1, ro 0 38 2 v4.length (rf e_Point v4))]⟩ (opAt (rg Tryd.f29 126) 2) [(3, 0), (2, 0), (1, 0)] [0, 0, 1] 1 o0 rfl (poly_Chord_1_ok a2 v6 v4 v13 h14) (.inl rfl) (by kernel_rfl))) (by kernel_rfl) (by kernel_rfl) ?_
      refine R_sq Tryd.f29 254 255 (by kernel_rfl) ?_
      obtain ⟨v15, h16, hm⟩ := bind_s hm
      refine R_rn Tryd.f29 254 7 [(2, dex (cen [(3, 0), (2, 0), (1, 1)] [0, 0, 2] 1 2 (poly_Chord_1_x a3 v6 v4 v15) (poly_Chord_1_o a3 v6 v4 v15) [50, 51] [3, 2, 1]))] [] 4 ⟨[(6, vp 0 0), (10, vi v13.1), (11, vi v13.2), (12, vi v15.1), (13, vi v15.2)], [(0, bx 29 [ci 0, ci 0])]⟩ (o1 (callS (K := (kx E 69 0)) ⟨[(50, vc (.fn 54 [.bptr 3 0 0, .bptr 2 0 0])), (51, vi a3)], [(3, bx 31 [ci v6.X.A, ci v6.X.B, ci v6.Y.A, ci v6.Y.B]), (2, bx 22 [.own 1 1 2 v4.length]), (1, ro 1 38 2 v4.length (rf e_Point v4))]⟩ (opAt (rg Tryd.f29 254) 2) [(3, 0), (2, 0), (1, 1)] [0, 0, 2] 1 o0 rfl (poly_Chord_1_ok a3 v6 v4 v15 h16) (.inl rfl) (by kernel_rfl))) (by kernel_rfl) (by kernel_rfl) ?_
      refine R_sq Tryd.f29 510 511 (by kernel_rfl) ?_
      refine R_rn Tryd.f29 510 8 [] [] 4 ⟨[(6, vp 0 0), (14, vp 4 0)], [(0, bx 29 [ci 0, ci 0]), (4, bx 29 [ci (imax v13.1 v15.1), ci (imin v13.2 v15.2)])]⟩ o0 (by kernel_rfl) (by kernel_rfl) ?_
      refine R_sq Tryd.f29 1022 1023 (by kernel_rfl) ?_
      refine R_sq Tryd.f29 2044 2045 (by kernel_rfl) ?_
      refine R_rn Tryd.f29 2044 9 [] [] 5 ⟨[(6, vp 0 0), (14, vp 4 0), (66, vb (decide ((imax v13.1 v15.1) ≥ (imin v13.2 v15.2))))], [(0, bx 29 [ci 0, ci 0]), (4, bx 29 [ci (imax v13.1 v15.1), ci (imin v13.2 v15.2)])]⟩ o0 (by kernel_rfl) (by kernel_rfl) ?_
      refine R_cn Tryd.f29 (.tmp 66) 4090 4091 (by kernel_rfl) (decide ((imax v13.1 v15.1) ≥ (imin v13.2 v15.2))) (by kernel_rfl) (fun b17 => ?_) (fun b17 => ?_)
      · replace hm := bif_t b17 hm
        refine R_sq Tryd.f29 8180 8181 (by kernel_rfl) ?_
        refine R_rn Tryd.f29 8180 10 [] [] 5 ⟨[(6, vp 0 0)], [(0, bx 29 [ci 0, ci 0])]⟩ o0 (by kernel_rfl) (by kernel_rfl) ?_
        obtain rfl := Option.some.inj hm
        refine R_ret (by kernel_rfl) ?_
        exact ret_mk (by kernel_rfl) (by kernel_rfl)
      · replace hm := bif_f b17 hm
        refine R_skip (by kernel_rfl) ?_
        refine R_sq Tryd.f29 2046 2047 (by kernel_rfl) ?_
        refine R_rn Tryd.f29 2046 11 [] [] 5 ⟨[(6, vp 0 0)], [(0, bx 29 [ci (imax v13.1 v15.1), ci (imin v13.2 v15.2)])]⟩ o0 (by kernel_rfl) (by kernel_rfl) ?_
        obtain rfl := Option.some.inj hm
        refine R_ret (by kernel_rfl) ?_
        exact ret_mk (by kernel_rfl) (by kernel_rfl)
  · rcases Bool.eq_false_or_eq_true (((v4.length : Nat) : Int) == 0) with b8 | b8
    · replace hm := bif_t b8 hm
      refine R_rn Tryd.f29 60 3 [(3, dfx true)] [] 4 ⟨[(1, vi a2), (2, vi a3), (6, vp 0 0), (7, vp 2 0), (8, vp 3 0), (40, vb true)], [(0, bx 29 [ci 0, ci 0]), (1, ro 0 38 2 v4.length (rf e_Point v4)), (2, bx 22 [.own 1 0 2 v4.length]), (3, bx 31 [ci v6.X.A, ci v6.X.B, ci v6.Y.A, ci v6.Y.B])]⟩ (o1 b8) (by kernel_rfl) (by kernel_rfl) ?_
      exact J_mk (true) hm (by kernel_rfl) (by kernel_rfl)
    · replace hm := bif_f b8 hm
      rcases Bool.eq_false_or_eq_true (decide (a2 ≥ a3)) with b9 | b9
      · replace hm := bif_t b9 hm
        refine R_rn Tryd.f29 60 3 [(3, dfx false), (8, dfx true)] [] 4 ⟨[(1, vi a2), (2, vi a3), (6, vp 0 0), (7, vp 2 0), (8, vp 3 0), (40, vb true)], [(0, bx 29 [ci 0, ci 0]), (1, ro 0 38 2 v4.length (rf e_Point v4)), (2, bx 22 [.own 1 0 2 v4.length]), (3, bx 31 [ci v6.X.A, ci v6.X.B, ci v6.Y.A, ci v6.Y.B])]⟩ (o1 (And.intro b8 b9)) (by kernel_rfl) (by kernel_rfl) ?_
        exact J_mk (true) hm (by kernel_rfl) (by kernel_rfl)
      · replace hm := bif_f b9 hm
        rcases Bool.eq_false_or_eq_true (decide (a2 < v6.Y.A)) with b10 | b10
        · replace hm := bif_t b10 hm
          refine R_rn Tryd.f29 60 3 [(3, dfx false), (8, dfx false), (15, dfx true)] [] 4 ⟨[(1, vi a2), (2, vi a3), (6, vp 0 0), (7, vp 2 0), (8, vp 3 0), (40, vb true)], [(0, bx 29 [ci 0, ci 0]), (1, ro 0 38 2 v4.length (rf e_Point v4)), (2, bx 22 [.own 1 0 2 v4.length]), (3, bx 31 [ci v6.X.A, ci v6.X.B, ci v6.Y.A, ci v6.Y.B])]⟩ (o1 (And.intro b8 (And.intro b9 b10))) (by kernel_rfl) (by kernel_rfl) ?_
          exact J_mk (true) hm (by kernel_rfl) (by kernel_rfl)
        · replace hm := bif_f b10 hm
          refine R_rn Tryd.f29 60 3 [(3, dfx false), (8, dfx false), (15, dfx false)] [] 4 ⟨[(1, vi a2), (2, vi a3), (6, vp 0 0), (7, vp 2 0), (8, vp 3 0), (40, vb (decide (a3 > v6.Y.B)))], [(0, bx 29 [ci 0, ci 0]), (1, ro 0 38 2 v4.length (rf e_Point v4)), (2, bx 22 [.own 1 0 2 v4.length]), (3, bx 31 [ci v6.X.A, ci v6.X.B, ci v6.Y.A, ci v6.Y.B])]⟩ (o1 (And.intro b8 (And.intro b9 b10))) (by kernel_rfl) (by kernel_rfl) ?_
          exact J_mk (decide (a3 > v6.Y.B)) hm (by kernel_rfl) (by kernel_rfl)

end Saw
end Go.SL

namespace Go.SL
namespace Saw
open Go.Proofs
set_option maxHeartbeats 4000000

def ref09_Quarters_x (r : Int) : V := vi r

def ref09_Quarters_o (r : Int) : List (Nat × (Nat × O)) := []

theorem ref09_Quarters_f (r : Int) : Frozen (ref09_Quarters_o r) := by
  intro i k o h
  unfold ref09_Quarters_o at h
  cases h

set_option maxRecDepth 100000 in
theorem ref09_Quarters_ok (a1 : Int) (r : Int) (hm : ref09_Quarters a1 = some r) : CtX Tryd.prog globs 32 0 0 [.one (ci a1)] [] (ref09_Quarters_x r) (ref09_Quarters_o r) := by
  unfold ref09_Quarters at hm
  refine CtX_of_E (fn := Tryd.f32) (c := nd Tryd.f32 1) (nt := 7) (by kernel_rfl) (by kernel_rfl) (by kernel_rfl) (by kernel_rfl) fun E => ?_
  refine R_sq Tryd.f32 2 3 (by kernel_rfl) ?_
  refine R_rn Tryd.f32 2 0 [] [] 0 ⟨[(0, vi a1)], []⟩ o0 (by kernel_rfl) (by kernel_rfl) ?_
  refine R_sq Tryd.f32 6 7 (by kernel_rfl) ?_
  refine R_rn Tryd.f32 6 1 [] [] 0 ⟨[(2, vi (Int.tmod (w64 ((Int.tmod a1 4) + 4)) 4))], []⟩ (o1 (And.intro (show (4 : Int) ≠ 0 by decide) (show (4 : Int) ≠ 0 by decide))) (by kernel_rfl) (by kernel_rfl) ?_
  obtain rfl := Option.some.inj hm
  refine R_ret (by kernel_rfl) ?_
  exact ret_mk (by kernel_rfl) (by kernel_rfl)

end Saw
end Go.SL

namespace Go.SL
namespace Saw
open Go.Proofs
set_option maxHeartbeats 4000000

def ref09_Ranged_x (r : Bool) : V := vb r

def ref09_Ranged_o (r : Bool) : List (Nat × (Nat × O)) := []

theorem ref09_Ranged_f (r : Bool) : Frozen (ref09_Ranged_o r) := by
  intro i k o h
  unfold ref09_Ranged_o at h
  cases h

def ref09_Ranged_k2_S (a1 : List Point) (x2 : Int) (x8 : Bool) : St :=
  ⟨[(0, vc (tl e_Point default a1)), (3, vi x2), (39, vb x8)], []⟩

def ref09_Ranged_L1_S (a1 : List Point) (x2 : Int) : St :=
  ⟨[(0, vc (tl e_Point default a1)), (3, vi x2)], []⟩

def ref09_Ranged_L1_T : St :=
  ⟨[], []⟩

set_option maxRecDepth 100000 in
theorem ref09_Ranged_L1_ok (E : Env 0) (a1 : List Point) : ∀ (n : Nat) (x2 : Int) (res : Bool ⊕ Unit), ref09_Ranged_L1 a1 n x2 = some res → HL (kx E 40 0) (nd Tryd.f31 52) (loopQ 0 (fun o => ref09_Ranged_L1_T) (fun v st => RetQ Tryd.prog Tryd.f31 (ref09_Ranged_x v) (ref09_Ranged_o v) .ret st) res) n (ref09_Ranged_L1_S a1 x2) := by
  intro n
  induction n with
  | zero =>
    intro x2 res hm
    cases hm
  | succ n ih =>
    intro x2 res hm
    refine HL_succ ?_
    refine R_sq Tryd.f31 104 105 (by kernel_rfl) ?_
    refine R_sq Tryd.f31 208 209 (by kernel_rfl) ?_
    refine R_rn Tryd.f31 208 2 [] [] 0 ⟨[(0, vc (tl e_Point default a1)), (3, vi x2), (7, vb (decide (x2 < ((a1.length : Nat) : Int))))], []⟩ o0 (by kernel_rfl) (by kernel_rfl) ?_
    refine R_cn Tryd.f31 (.tmp 7) 418 419 (by kernel_rfl) (decide (x2 < ((a1.length : Nat) : Int))) (by kernel_rfl) (fun b3 => ?_) (fun b3 => ?_)
    · replace hm := bif_t b3 hm
      refine R_skip (by kernel_rfl) ?_
      refine R_sq Tryd.f31 210 211 (by kernel_rfl) ?_
      refine R_bk Tryd.f31 1 420 (by kernel_rfl) ?_
      refine R_join (ι := Bool) (nd Tryd.f31 840) (nd Tryd.f31 841) (by kernel_rfl) (fun p => ref09_Ranged_k2_S a1 x2 p) (fun p => ref09_Ranged_k2 x2 (ref09_Ranged_L1 a1 n) p = some res) ?_ ?_
      · rintro x8 hm
        show H _ (ref09_Ranged_k2_S a1 x2 x8) (nd Tryd.f31 841) _
        refine R_cn Tryd.f31 (.tmp 39) 1682 1683 (by kernel_rfl) x8 (by kernel_rfl) (fun b9 => ?_) (fun b9 => ?_)
        · replace hm := bif_t b9 hm
          refine R_sq Tryd.f31 3364 3365 (by kernel_rfl) ?_
          refine R_rn Tryd.f31 3364 5 [] [] 0 ⟨[(2, vb false)], []⟩ o0 (by kernel_rfl) (by kernel_rfl) ?_
          obtain rfl := Option.some.inj hm
          refine R_ret (by kernel_rfl) ?_
          refine L1_ret false ?_
          exact ret_mk (by kernel_rfl) (by kernel_rfl)
        · replace hm := bif_f b9 hm
          refine R_skip (by kernel_rfl) ?_
          refine R_rn Tryd.f31 211 3 [] [] 0 ⟨[(0, vc (tl e_Point default a1)), (3, vi (w64 (x2 + 1)))], []⟩ o0 (by kernel_rfl) (by kernel_rfl) ?_
          exact HL_enter (ref09_Ranged_L1_S a1 (w64 (x2 + 1))) (by kernel_rfl) (by kernel_rfl) (ih (w64 (x2 + 1)) _ hm)
      · obtain ⟨g4, hm⟩ := bif_n hm
        rcases Bool.eq_false_or_eq_true (decide (((a1.getD x2.toNat default).X) < (-600))) with b5 | b5
        · replace hm := bif_t b5 hm
          refine R_rn Tryd.f31 840 4 [(6, dfx true)] [] 0 ⟨[(0, vc (tl e_Point default a1)), (3, vi x2), (39, vb true)], []⟩ (o1 (And.intro (inb_of g4) b5)) (by kernel_rfl) (by kernel_rfl) ?_
          exact J_mk (true) hm (by kernel_rfl) (by kernel_rfl)
        · replace hm := bif_f b5 hm
          rcases Bool.eq_false_or_eq_true (decide (((a1.getD x2.toNat default).X) > 600)) with b6 | b6
          · replace hm := bif_t b6 hm
            refine R_rn Tryd.f31 840 4 [(6, dfx false), (14, dfx true)] [] 0 ⟨[(0, vc (tl e_Point default a1)), (3, vi x2), (17, vc (tl e_Point default a1)), (18, vi x2), (19, vc (.lptr (e_Point (a1.getD x2.toNat default)))), (20, vc (.lptr (e_Point (a1.getD x2.toNat default)))), (21, vi ((a1.getD x2.toNat default).X)), (22, vb (decide (((a1.getD x2.toNat default).X) > 600))), (39, vb true)], []⟩ (o1 (And.intro (inb_of g4) (And.intro b5 (And.intro (inb_of g4) b6)))) (by kernel_rfl) (by kernel_rfl) ?_
            exact J_mk (true) hm (by kernel_rfl) (by kernel_rfl)
          · replace hm := bif_f b6 hm
            rcases Bool.eq_false_or_eq_true (decide (((a1.getD x2.toNat default).Y) < (-600))) with b7 | b7
            · replace hm := bif_t b7 hm
              refine R_rn Tryd.f31 840 4 [(6, dfx false), (14, dfx false), (22, dfx true)] [] 0 ⟨[(0, vc (tl e_Point default a1)), (3, vi x2), (17, vc (tl e_Point default a1)), (18, vi x2), (19, vc (.lptr (e_Point (a1.getD x2.toNat default)))), (20, vc (.lptr (e_Point (a1.getD x2.toNat default)))), (21, vi ((a1.getD x2.toNat default).X)), (22, vb (decide (((a1.getD x2.toNat default).X) > 600))), (25, vc (tl e_Point default a1)), (26, vi x2), (27, vc (.lptr (e_Point (a1.getD x2.toNat default)))), (28, vc (.lptr ((e_Point (a1.getD x2.toNat default)).drop 1))), (29, vi ((a1.getD x2.toNat default).Y)), (30, vb (decide (((a1.getD x2.toNat default).Y) < (-600)))), (39, vb true)], []⟩ (o1 (And.intro (inb_of g4) (And.intro b5 (And.intro (inb_of g4) (And.intro b6 (And.intro (inb_of g4) b7)))))) (by kernel_rfl) (by kernel_rfl) ?_
              exact J_mk (true) hm (by kernel_rfl) (by kernel_rfl)
            · replace hm := bif_f b7 hm
              refine R_rn Tryd.f31 840 4 [(6, dfx false), (14, dfx false), (22, dfx false)] [] 0 ⟨[(0, vc (tl e_Point default a1)), (3, vi x2), (17, vc (tl e_Point default a1)), (18, vi x2), (19, vc (.lptr (e_Point (a1.getD x2.toNat default)))), (20, vc (.lptr (e_Point (a1.getD x2.toNat default)))), (21, vi ((a1.getD x2.toNat default).X)), (22, vb (decide (((a1.getD x2.toNat default).X) > 600))), (25, vc (tl e_Point default a1)), (26, vi x2), (27, vc (.lptr (e_Point (a1.getD x2.toNat default)))), (28, vc (.lptr ((e_Point (a1.getD x2.toNat default)).drop 1))), (29, vi ((a1.getD x2.toNat default).Y)), (30, vb (decide (((a1.getD x2.toNat default).Y) < (-600)))), (33, vc (tl e_Point default a1)), (34, vi x2), (35, vc (.lptr (e_Point (a1.getD x2.toNat default)))), (36, vc (.lptr ((e_Point (a1.getD x2.toNat default)).drop 1))), (37, vi ((a1.getD x2.toNat default).Y)), (38, vb (decide (((a1.getD x2.toNat default).Y) > 600))), (39, vb (decide (((a1.getD x2.toNat default).Y) > 600)))], []⟩ (o1 (And.intro (inb_of g4) (And.intro b5 (And.intro (inb_of g4) (And.intro b6 (And.intro (inb_of g4) (And.intro b7 (inb_of g4)))))))) (by kernel_rfl) (by kernel_rfl) ?_
              exact J_mk (decide (((a1.getD x2.toNat default).Y) > 600)) hm (by kernel_rfl) (by kernel_rfl)
    · replace hm := bif_f b3 hm
      refine R_exit 0 (by kernel_rfl) ?_
      obtain rfl := Option.some.inj hm
      exact L1_mk () (by kernel_rfl) (by kernel_rfl)

set_option maxRecDepth 100000 in
theorem ref09_Ranged_ok (a1 : List Point) (r : Bool) (hm : ref09_Ranged a1 = some r) : CtX Tryd.prog globs 31 0 0 [.one (tl e_Point default a1)] [] (ref09_Ranged_x r) (ref09_Ranged_o r) := by
  unfold ref09_Ranged at hm
  refine CtX_of_E (fn := Tryd.f31) (c := nd Tryd.f31 1) (nt := 40) (by kernel_rfl) (by kernel_rfl) (by kernel_rfl) (by kernel_rfl) fun E => ?_
  refine R_sq Tryd.f31 2 3 (by kernel_rfl) ?_
  refine R_rn Tryd.f31 2 0 [] [] 0 ⟨[(0, vc (tl e_Point default a1))], []⟩ o0 (by kernel_rfl) (by kernel_rfl) ?_
  refine R_sq Tryd.f31 6 7 (by kernel_rfl) ?_
  refine R_sq Tryd.f31 12 13 (by kernel_rfl) ?_
  refine R_rn Tryd.f31 12 1 [] [] 0 ⟨[(0, vc (tl e_Point default a1)), (3, vi 0)], []⟩ o0 (by kernel_rfl) (by kernel_rfl) ?_
  obtain ⟨u12, h11, hm⟩ := bind_s hm
  refine R_loop1 (nd Tryd.f31 52) 0 (by kernel_rfl) FUEL (fun o => ref09_Ranged_L1_T) (fun v st => RetQ Tryd.prog Tryd.f31 (ref09_Ranged_x v) (ref09_Ranged_o v) .ret st) u12 (HL_enter (ref09_Ranged_L1_S a1 0) (by kernel_rfl) (by kernel_rfl) (ref09_Ranged_L1_ok E a1 FUEL 0 u12 h11)) ?_ ?_
  · rintro v13 rfl st hr
    obtain rfl := Option.some.inj hm
    exact hr
  · rintro o10 rfl
    replace hm : _ = some r := hm
    refine R_sq Tryd.f31 14 15 (by kernel_rfl) ?_
    refine R_rn Tryd.f31 14 6 [] [] 0 ⟨[(2, vb true)], []⟩ o0 (by kernel_rfl) (by kernel_rfl) ?_
    obtain rfl := Option.some.inj hm
    refine R_ret (by kernel_rfl) ?_
    exact ret_mk (by kernel_rfl) (by kernel_rfl)

end Saw
end Go.SL

namespace Go.SL
namespace Saw
open Go.Proofs
set_option maxHeartbeats 4000000

def ref09_Area2_x (r : Int) : V := vi r

def ref09_Area2_o (r : Int) : List (Nat × (Nat × O)) := []

theorem ref09_Area2_f (r : Int) : Frozen (ref09_Area2_o r) := by
  intro i k o h
  unfold ref09_Area2_o at h
  cases h

def ref09_Area2_L2_S (a1 : List Point) (x7 : Int) (x8 : Int) : St :=
  ⟨[(0, vc (tl e_Point default a1)), (3, vi x7), (4, vi x8)], []⟩

def ref09_Area2_L2_T (x13 : Int) : St :=
  ⟨[(3, vi x13)], []⟩

def ref09_Area2_k1_S (a1 : List Point) (x5 : Bool) : St :=
  ⟨[(0, vc (tl e_Point default a1)), (13, vb x5)], []⟩

set_option maxRecDepth 100000 in
theorem ref09_Area2_L2_ok (E : Env 0) (a1 : List Point) : ∀ (n : Nat) (x7 : Int) (x8 : Int) (res : Int), ref09_Area2_L2 a1 n x7 x8 = some res → HL (kx E 48 0) (nd Tryd.f17 244) (loopQ0 0 (fun o => ref09_Area2_L2_T o) res) n (ref09_Area2_L2_S a1 x7 x8) := by
  intro n
  induction n with
  | zero =>
    intro x7 x8 res hm
    cases hm
  | succ n ih =>
    intro x7 x8 res hm
    refine HL_succ ?_
    refine R_sq Tryd.f17 488 489 (by kernel_rfl) ?_
    refine R_sq Tryd.f17 976 977 (by kernel_rfl) ?_
    refine R_rn Tryd.f17 976 5 [] [] 0 ⟨[(0, vc (tl e_Point default a1)), (3, vi x7), (4, vi x8), (17, vb (decide (x8 < ((a1.length : Nat) : Int))))], []⟩ o0 (by kernel_rfl) (by kernel_rfl) ?_
    refine R_cn Tryd.f17 (.tmp 17) 1954 1955 (by kernel_rfl) (decide (x8 < ((a1.length : Nat) : Int))) (by kernel_rfl) (fun b9 => ?_) (fun b9 => ?_)
    · replace hm := bif_t b9 hm
      refine R_skip (by kernel_rfl) ?_
      refine R_sq Tryd.f17 978 979 (by kernel_rfl) ?_
      refine R_bk Tryd.f17 1 1956 (by kernel_rfl) ?_
      refine R_sq Tryd.f17 3912 3913 (by kernel_rfl) ?_
      obtain ⟨g10, hm⟩ := bif_n hm
      obtain ⟨g11, hm⟩ := bif_n hm
      refine R_rn Tryd.f17 3912 7 [] [] 0 ⟨[(0, vc (tl e_Point default a1)), (3, vi x7), (4, vi x8), (5, vp 0 0)], [(0, bx 38 [ci ((a1.getD (Int.tmod (w64 (x8 + 1)) ((a1.length : Nat) : Int)).toNat default).X), ci ((a1.getD (Int.tmod (w64 (x8 + 1)) ((a1.length : Nat) : Int)).toNat default).Y)])]⟩ (o1 (And.intro (nz_of g10) (inb_of g11))) (by kernel_rfl) (by kernel_rfl) ?_
      obtain ⟨g12, hm⟩ := bif_n hm
      refine R_dr Tryd.f17 3913 8 [] [] [] [0, 0, 0, 6, 14, 30, 0, 64, 254, 511, 0, 1024, 0, 0, 12288, 28672, 61440, 130048, 262143, 524287] 1 ⟨[(0, vc (tl e_Point default a1)), (3, vi (w64 ((w64 (x7 + (w64 (((a1.getD x8.toNat default).X) * ((a1.getD (Int.tmod (w64 (x8 + 1)) ((a1.length : Nat) : Int)).toNat default).Y))))) - (w64 (((a1.getD (Int.tmod (w64 (x8 + 1)) ((a1.length : Nat) : Int)).toNat default).X) * ((a1.getD x8.toNat default).Y)))))), (4, vi x8)], []⟩ (o1 (And.intro (inb_of g12) (inb_of g12))) (by kernel_rfl) (by kernel_rfl) ?_
      refine R_rn Tryd.f17 979 6 [] [] 1 ⟨[(0, vc (tl e_Point default a1)), (3, vi (w64 ((w64 (x7 + (w64 (((a1.getD x8.toNat default).X) * ((a1.getD (Int.tmod (w64 (x8 + 1)) ((a1.length : Nat) : Int)).toNat default).Y))))) - (w64 (((a1.getD (Int.tmod (w64 (x8 + 1)) ((a1.length : Nat) : Int)).toNat default).X) * ((a1.getD x8.toNat default).Y)))))), (4, vi (w64 (x8 + 1)))], []⟩ o0 (by kernel_rfl) (by kernel_rfl) ?_
      exact HL_enter (ref09_Area2_L2_S a1 (w64 ((w64 (x7 + (w64 (((a1.getD x8.toNat default).X) * ((a1.getD (Int.tmod (w64 (x8 + 1)) ((a1.length : Nat) : Int)).toNat default).Y))))) - (w64 (((a1.getD (Int.tmod (w64 (x8 + 1)) ((a1.length : Nat) : Int)).toNat default).X) * ((a1.getD x8.toNat default).Y))))) (w64 (x8 + 1))) (by kernel_rfl) (by kernel_rfl) (ih (w64 ((w64 (x7 + (w64 (((a1.getD x8.toNat default).X) * ((a1.getD (Int.tmod (w64 (x8 + 1)) ((a1.length : Nat) : Int)).toNat default).Y))))) - (w64 (((a1.getD (Int.tmod (w64 (x8 + 1)) ((a1.length : Nat) : Int)).toNat default).X) * ((a1.getD x8.toNat default).Y))))) (w64 (x8 + 1)) _ hm)
    · replace hm := bif_f b9 hm
      refine R_exit 0 (by kernel_rfl) ?_
      obtain rfl := Option.some.inj hm
      exact L0_mk (by kernel_rfl) (by kernel_rfl)

set_option maxRecDepth 100000 in
theorem ref09_Area2_ok (a1 : List Point) (r : Int) (hm : ref09_Area2 a1 = some r) : CtX Tryd.prog globs 17 0 0 [.one (tl e_Point default a1)] [] (ref09_Area2_x r) (ref09_Area2_o r) := by
  unfold ref09_Area2 at hm
  refine CtX_of_E (fn := Tryd.f17) (c := nd Tryd.f17 1) (nt := 48) (by kernel_rfl) (by kernel_rfl) (by kernel_rfl) (by kernel_rfl) fun E => ?_
  refine R_sq Tryd.f17 2 3 (by kernel_rfl) ?_
  refine R_rn Tryd.f17 2 0 [] [] 0 ⟨[(0, vc (tl e_Point default a1))], []⟩ o0 (by kernel_rfl) (by kernel_rfl) ?_
  refine R_sq Tryd.f17 6 7 (by kernel_rfl) ?_
  refine R_join (ι := Bool) (nd Tryd.f17 12) (nd Tryd.f17 13) (by kernel_rfl) (fun p => ref09_Area2_k1_S a1 p) (fun p => ref09_Area2_k1 a1 p = some r) ?_ ?_
  · rintro x5 hm
    show H _ (ref09_Area2_k1_S a1 x5) (nd Tryd.f17 13) _
    refine R_cn Tryd.f17 (.tmp 13) 26 27 (by kernel_rfl) x5 (by kernel_rfl) (fun b6 => ?_) (fun b6 => ?_)
    · replace hm := bif_t b6 hm
      refine R_sq Tryd.f17 52 53 (by kernel_rfl) ?_
      refine R_rn Tryd.f17 52 2 [] [] 0 ⟨[(2, vi 0)], []⟩ o0 (by kernel_rfl) (by kernel_rfl) ?_
      obtain rfl := Option.some.inj hm
      refine R_ret (by kernel_rfl) ?_
      exact ret_mk (by kernel_rfl) (by kernel_rfl)
    · replace hm := bif_f b6 hm
      refine R_skip (by kernel_rfl) ?_
      refine R_sq Tryd.f17 14 15 (by kernel_rfl) ?_
      refine R_rn Tryd.f17 14 3 [] [] 0 ⟨[(0, vc (tl e_Point default a1)), (3, vi 0)], []⟩ o0 (by kernel_rfl) (by kernel_rfl) ?_
      refine R_sq Tryd.f17 30 31 (by kernel_rfl) ?_
      refine R_sq Tryd.f17 60 61 (by kernel_rfl) ?_
      refine R_rn Tryd.f17 60 4 [] [] 0 ⟨[(0, vc (tl e_Point default a1)), (3, vi 0), (4, vi 0)], []⟩ o0 (by kernel_rfl) (by kernel_rfl) ?_
      obtain ⟨o14, h15, hm⟩ := bind_s hm
      refine R_loop0 (nd Tryd.f17 244) 0 (by kernel_rfl) FUEL (fun o => ref09_Area2_L2_T o) o14 (HL_enter (ref09_Area2_L2_S a1 0 0) (by kernel_rfl) (by kernel_rfl) (ref09_Area2_L2_ok E a1 FUEL 0 0 o14 h15)) ?_
      refine R_sq Tryd.f17 62 63 (by kernel_rfl) ?_
      refine R_rn Tryd.f17 62 9 [] [] 0 ⟨[(2, vi o14)], []⟩ o0 (by kernel_rfl) (by kernel_rfl) ?_
      obtain rfl := Option.some.inj hm
      refine R_ret (by kernel_rfl) ?_
      exact ret_mk (by kernel_rfl) (by kernel_rfl)
  · rcases Bool.eq_false_or_eq_true (decide (((a1.length : Nat) : Int) > 32)) with b2 | b2
    · replace hm := bif_t b2 hm
      refine R_rn Tryd.f17 12 1 [(3, dfx true)] [] 0 ⟨[(0, vc (tl e_Point default a1)), (13, vb true)], []⟩ (o1 b2) (by kernel_rfl) (by kernel_rfl) ?_
      exact J_mk (true) hm (by kernel_rfl) (by kernel_rfl)
    · replace hm := bif_f b2 hm
      obtain ⟨v3, h4, hm⟩ := bind_s hm
      refine R_rn Tryd.f17 12 1 [(3, dfx false), (5, dex (cen [] [] 0 0 (ref09_Ranged_x v3) (ref09_Ranged_o v3) [9, 10] []))] [] 0 ⟨[(0, vc (tl e_Point default a1)), (13, vb (!v3))], []⟩ (o1 (And.intro b2 (callS (K := (kx E 48 0)) ⟨[(9, vb false), (10, vc (tl e_Point default a1))], []⟩ (opAt (rg Tryd.f17 12) 5) [] [] 0 o0 rfl (ref09_Ranged_ok a1 v3 h4) (.inl rfl) (by kernel_rfl)))) (by kernel_rfl) (by kernel_rfl) ?_
      exact J_mk (!v3) hm (by kernel_rfl) (by kernel_rfl)

end Saw
end Go.SL

namespace Go.SL
namespace Saw
open Go.Proofs
set_option maxHeartbeats 4000000

def ref09_Check_x (r : Int) : V := vi r

def ref09_Check_o (r : Int) : List (Nat × (Nat × O)) := []

theorem ref09_Check_f (r : Int) : Frozen (ref09_Check_o r) := by
  intro i k o h
  unfold ref09_Check_o at h
  cases h

set_option maxRecDepth 100000 in
theorem ref09_Check_ok (a1 : List Point) (r : Int) (hm : ref09_Check a1 = some r) : CtX Tryd.prog globs 15 0 0 [.one (tl e_Point default a1)] [] (ref09_Check_x r) (ref09_Check_o r) := by
  unfold ref09_Check at hm
  refine CtX_of_E (fn := Tryd.f15) (c := nd Tryd.f15 1) (nt := 19) (by kernel_rfl) (by kernel_rfl) (by kernel_rfl) (by kernel_rfl) fun E => ?_
  refine R_sq Tryd.f15 2 3 (by kernel_rfl) ?_
  refine R_rn Tryd.f15 2 0 [] [] 0 ⟨[(0, vc (tl e_Point default a1))], []⟩ o0 (by kernel_rfl) (by kernel_rfl) ?_
  refine R_sq Tryd.f15 6 7 (by kernel_rfl) ?_
  refine R_bk Tryd.f15 0 12 (by kernel_rfl) ?_
  refine R_sq Tryd.f15 24 25 (by kernel_rfl) ?_
  refine R_rn Tryd.f15 24 1 [] [] 0 ⟨[(0, vc (tl e_Point default a1)), (3, vb (decide (((a1.length : Nat) : Int) < 3)))], []⟩ o0 (by kernel_rfl) (by kernel_rfl) ?_
  refine R_cn Tryd.f15 (.tmp 3) 50 51 (by kernel_rfl) (decide (((a1.length : Nat) : Int) < 3)) (by kernel_rfl) (fun b2 => ?_) (fun b2 => ?_)
  · replace hm := bif_t b2 hm
    refine R_sq Tryd.f15 100 101 (by kernel_rfl) ?_
    refine R_rn Tryd.f15 100 2 [] [] 0 ⟨[(2, vi 3)], []⟩ o0 (by kernel_rfl) (by kernel_rfl) ?_
    obtain rfl := Option.some.inj hm
    refine R_ret (by kernel_rfl) ?_
    exact ret_mk (by kernel_rfl) (by kernel_rfl)
  · replace hm := bif_f b2 hm
    refine R_sq Tryd.f15 102 103 (by kernel_rfl) ?_
    refine R_rn Tryd.f15 102 3 [] [] 0 ⟨[(0, vc (tl e_Point default a1)), (7, vb (decide (((a1.length : Nat) : Int) > 32)))], []⟩ o0 (by kernel_rfl) (by kernel_rfl) ?_
    refine R_cn Tryd.f15 (.tmp 7) 206 207 (by kernel_rfl) (decide (((a1.length : Nat) : Int) > 32)) (by kernel_rfl) (fun b3 => ?_) (fun b3 => ?_)
    · replace hm := bif_t b3 hm
      refine R_sq Tryd.f15 412 413 (by kernel_rfl) ?_
      refine R_rn Tryd.f15 412 4 [] [] 0 ⟨[(2, vi 4)], []⟩ o0 (by kernel_rfl) (by kernel_rfl) ?_
      obtain rfl := Option.some.inj hm
      refine R_ret (by kernel_rfl) ?_
      exact ret_mk (by kernel_rfl) (by kernel_rfl)
    · replace hm := bif_f b3 hm
      refine R_sq Tryd.f15 414 415 (by kernel_rfl) ?_
      obtain ⟨v4, h5, hm⟩ := bind_s hm
      refine R_rn Tryd.f15 414 5 [(1, dex (cen [] [] 0 0 (ref09_Ranged_x v4) (ref09_Ranged_o v4) [12] []))] [] 0 ⟨[(0, vc (tl e_Point default a1)), (11, vb (!v4))], []⟩ (o1 (callS (K := (kx E 19 0)) ⟨[(12, vc (tl e_Point default a1))], []⟩ (opAt (rg Tryd.f15 414) 1) [] [] 0 o0 rfl (ref09_Ranged_ok a1 v4 h5) (.inl rfl) (by kernel_rfl))) (by kernel_rfl) (by kernel_rfl) ?_
      refine R_cn Tryd.f15 (.tmp 11) 830 831 (by kernel_rfl) (!v4) (by kernel_rfl) (fun b6 => ?_) (fun b6 => ?_)
      · replace hm := bif_t b6 hm
        refine R_sq Tryd.f15 1660 1661 (by kernel_rfl) ?_
        refine R_rn Tryd.f15 1660 6 [] [] 0 ⟨[(2, vi 9)], []⟩ o0 (by kernel_rfl) (by kernel_rfl) ?_
        obtain rfl := Option.some.inj hm
        refine R_ret (by kernel_rfl) ?_
        exact ret_mk (by kernel_rfl) (by kernel_rfl)
      · replace hm := bif_f b6 hm
        refine R_sq Tryd.f15 1662 1663 (by kernel_rfl) ?_
        obtain ⟨v7, h8, hm⟩ := bind_s hm
        refine R_rn Tryd.f15 1662 7 [(1, dex (cen [] [] 0 0 (ref09_Area2_x v7) (ref09_Area2_o v7) [16] []))] [] 0 ⟨[(15, vb (v7 == 0))], []⟩ (o1 (callS (K := (kx E 19 0)) ⟨[(16, vc (tl e_Point default a1))], []⟩ (opAt (rg Tryd.f15 1662) 1) [] [] 0 o0 rfl (ref09_Area2_ok a1 v7 h8) (.inl rfl) (by kernel_rfl))) (by kernel_rfl) (by kernel_rfl) ?_
        refine R_cn Tryd.f15 (.tmp 15) 3326 3327 (by kernel_rfl) (v7 == 0) (by kernel_rfl) (fun b9 => ?_) (fun b9 => ?_)
        · replace hm := bif_t b9 hm
          refine R_sq Tryd.f15 6652 6653 (by kernel_rfl) ?_
          refine R_rn Tryd.f15 6652 8 [] [] 0 ⟨[(2, vi 19)], []⟩ o0 (by kernel_rfl) (by kernel_rfl) ?_
          obtain rfl := Option.some.inj hm
          refine R_ret (by kernel_rfl) ?_
          exact ret_mk (by kernel_rfl) (by kernel_rfl)
        · replace hm := bif_f b9 hm
          refine R_skip (by kernel_rfl) ?_
          refine R_sq Tryd.f15 14 15 (by kernel_rfl) ?_
          refine R_rn Tryd.f15 14 9 [] [] 0 ⟨[(2, vi 0)], []⟩ o0 (by kernel_rfl) (by kernel_rfl) ?_
          obtain rfl := Option.some.inj hm
          refine R_ret (by kernel_rfl) ?_
          exact ret_mk (by kernel_rfl) (by kernel_rfl)

end Saw
end Go.SL

namespace Go.SL
namespace Saw
open Go.Proofs
set_option maxHeartbeats 4000000

def ref09_Bounds_x (r : Rect) : V := va [ci r.X.A, ci r.X.B, ci r.Y.A, ci r.Y.B]

def ref09_Bounds_o (r : Rect) : List (Nat × (Nat × O)) := []

theorem ref09_Bounds_f (r : Rect) : Frozen (ref09_Bounds_o r) := by
  intro i k o h
  unfold ref09_Bounds_o at h
  cases h

def ref09_Bounds_L1_S (a1 : List Point) (x4 : Int) (x5 : Rect) : St :=
  ⟨[(0, vc (tl e_Point default a1)), (2, vp 0 0), (3, vp 1 0), (4, vi x4)], [(0, bx 31 [ci 0, ci 0, ci 0, ci 0]), (1, bx 31 [ci x5.X.A, ci x5.X.B, ci x5.Y.A, ci x5.Y.B])]⟩

def ref09_Bounds_L1_T (x8 : Rect) : St :=
  ⟨[(2, vp 0 0), (3, vp 1 0)], [(0, bx 31 [ci 0, ci 0, ci 0, ci 0]), (1, bx 31 [ci x8.X.A, ci x8.X.B, ci x8.Y.A, ci x8.Y.B])]⟩

set_option maxRecDepth 100000 in
theorem ref09_Bounds_L1_ok (E : Env 0) (a1 : List Point) : ∀ (n : Nat) (x4 : Int) (x5 : Rect) (res : Rect), ref09_Bounds_L1 a1 n x4 x5 = some res → HL (kx E 75 0) (nd Tryd.f19 244) (loopQ0 0 (fun o => ref09_Bounds_L1_T o) res) n (ref09_Bounds_L1_S a1 x4 x5) := by
  intro n
  induction n with
  | zero =>
    intro x4 x5 res hm
    cases hm
  | succ n ih =>
    intro x4 x5 res hm
    refine HL_succ ?_
    refine R_sq Tryd.f19 488 489 (by kernel_rfl) ?_
    refine R_sq Tryd.f19 976 977 (by kernel_rfl) ?_
    refine R_rn Tryd.f19 976 5 [] [] 2 ⟨[(0, vc (tl e_Point default a1)), (2, vp 0 0), (3, vp 1 0), (4, vi x4), (31, vb (decide (x4 < ((a1.length : Nat) : Int))))], [(0, bx 31 [ci 0, ci 0, ci 0, ci 0]), (1, bx 31 [ci x5.X.A, ci x5.X.B, ci x5.Y.A, ci x5.Y.B])]⟩ o0 (by kernel_rfl) (by kernel_rfl) ?_
    refine R_cn Tryd.f19 (.tmp 31) 1954 1955 (by kernel_rfl) (decide (x4 < ((a1.length : Nat) : Int))) (by kernel_rfl) (fun b6 => ?_) (fun b6 => ?_)
    · replace hm := bif_t b6 hm
      refine R_skip (by kernel_rfl) ?_
      refine R_sq Tryd.f19 978 979 (by kernel_rfl) ?_
      refine R_bk Tryd.f19 1 1956 (by kernel_rfl) ?_
      refine R_sq Tryd.f19 3912 3913 (by kernel_rfl) ?_
      obtain ⟨g7, hm⟩ := bif_n hm
      refine R_dr Tryd.f19 3912 7 [] [] [] [0, 1, 3, 0, 0, 24, 56, 120, 255, 0, 512, 1536, 0, 0, 12288, 28672, 61440, 130560, 262143, 524287, 1048575] 2 ⟨[(0, vc (tl e_Point default a1)), (2, vp 0 0), (3, vp 1 0), (4, vi x4)], [(0, bx 31 [ci 0, ci 0, ci 0, ci 0]), (1, bx 31 [ci (imin x5.X.A ((a1.getD x4.toNat default).X)), ci (imax x5.X.B ((a1.getD x4.toNat default).X)), ci x5.Y.A, ci x5.Y.B])]⟩ (o1 (And.intro (inb_of g7) (inb_of g7))) (by kernel_rfl) (by kernel_rfl) ?_
      refine R_dr Tryd.f19 3913 8 [] [] [] [0, 1, 3, 0, 0, 24, 56, 120, 255, 0, 512, 1536, 0, 0, 12288, 28672, 61440, 130560, 262143, 524287, 1048575] 2 ⟨[(0, vc (tl e_Point default a1)), (2, vp 0 0), (3, vp 1 0), (4, vi x4)], [(0, bx 31 [ci 0, ci 0, ci 0, ci 0]), (1, bx 31 [ci (imin x5.X.A ((a1.getD x4.toNat default).X)), ci (imax x5.X.B ((a1.getD x4.toNat default).X)), ci (imin x5.Y.A ((a1.getD x4.toNat default).Y)), ci (imax x5.Y.B ((a1.getD x4.toNat default).Y))])]⟩ (o1 (And.intro (inb_of g7) (inb_of g7))) (by kernel_rfl) (by kernel_rfl) ?_
      refine R_rn Tryd.f19 979 6 [] [] 2 ⟨[(0, vc (tl e_Point default a1)), (2, vp 0 0), (3, vp 1 0), (4, vi (w64 (x4 + 1)))], [(0, bx 31 [ci 0, ci 0, ci 0, ci 0]), (1, bx 31 [ci (imin x5.X.A ((a1.getD x4.toNat default).X)), ci (imax x5.X.B ((a1.getD x4.toNat default).X)), ci (imin x5.Y.A ((a1.getD x4.toNat default).Y)), ci (imax x5.Y.B ((a1.getD x4.toNat default).Y))])]⟩ o0 (by kernel_rfl) (by kernel_rfl) ?_
      exact HL_enter (ref09_Bounds_L1_S a1 (w64 (x4 + 1)) (Rect.mk (Span.mk (imin x5.X.A ((a1.getD x4.toNat default).X)) (imax x5.X.B ((a1.getD x4.toNat default).X))) (Span.mk (imin x5.Y.A ((a1.getD x4.toNat default).Y)) (imax x5.Y.B ((a1.getD x4.toNat default).Y))))) (by kernel_rfl) (by kernel_rfl) (ih (w64 (x4 + 1)) (Rect.mk (Span.mk (imin x5.X.A ((a1.getD x4.toNat default).X)) (imax x5.X.B ((a1.getD x4.toNat default).X))) (Span.mk (imin x5.Y.A ((a1.getD x4.toNat default).Y)) (imax x5.Y.B ((a1.getD x4.toNat default).Y)))) _ hm)
    · replace hm := bif_f b6 hm
      refine R_exit 0 (by kernel_rfl) ?_
      obtain rfl := Option.some.inj hm
      exact L0_mk (by kernel_rfl) (by kernel_rfl)

set_option maxRecDepth 100000 in
theorem ref09_Bounds_ok (a1 : List Point) (r : Rect) (hm : ref09_Bounds a1 = some r) : CtX Tryd.prog globs 19 0 0 [.one (tl e_Point default a1)] [] (ref09_Bounds_x r) (ref09_Bounds_o r) := by
  unfold ref09_Bounds at hm
  refine CtX_of_E (fn := Tryd.f19) (c := nd Tryd.f19 1) (nt := 75) (by kernel_rfl) (by kernel_rfl) (by kernel_rfl) (by kernel_rfl) fun E => ?_
  refine R_sq Tryd.f19 2 3 (by kernel_rfl) ?_
  refine R_rn Tryd.f19 2 0 [] [] 0 ⟨[(0, vc (tl e_Point default a1)), (2, vp 0 0)], [(0, bx 31 [ci 0, ci 0, ci 0, ci 0])]⟩ o0 (by kernel_rfl) (by kernel_rfl) ?_
  refine R_sq Tryd.f19 6 7 (by kernel_rfl) ?_
  refine R_sq Tryd.f19 12 13 (by kernel_rfl) ?_
  refine R_rn Tryd.f19 12 1 [] [] 1 ⟨[(0, vc (tl e_Point default a1)), (2, vp 0 0), (7, vb (((a1.length : Nat) : Int) == 0))], [(0, bx 31 [ci 0, ci 0, ci 0, ci 0])]⟩ o0 (by kernel_rfl) (by kernel_rfl) ?_
  refine R_cn Tryd.f19 (.tmp 7) 26 27 (by kernel_rfl) (((a1.length : Nat) : Int) == 0) (by kernel_rfl) (fun b2 => ?_) (fun b2 => ?_)
  · replace hm := bif_t b2 hm
    refine R_sq Tryd.f19 52 53 (by kernel_rfl) ?_
    refine R_rn Tryd.f19 52 2 [] [] 1 ⟨[(2, vp 0 0)], [(0, bx 31 [ci 0, ci 0, ci 0, ci 0])]⟩ o0 (by kernel_rfl) (by kernel_rfl) ?_
    obtain rfl := Option.some.inj hm
    refine R_ret (by kernel_rfl) ?_
    exact ret_mk (by kernel_rfl) (by kernel_rfl)
  · replace hm := bif_f b2 hm
    refine R_skip (by kernel_rfl) ?_
    refine R_sq Tryd.f19 14 15 (by kernel_rfl) ?_
    obtain ⟨g3, hm⟩ := bif_n hm
    refine R_dr Tryd.f19 14 3 [] [] [] [0, 1, 3, 7, 0, 16, 48, 112, 255, 0, 512, 1536, 3584, 0, 8192, 24576, 57344, 130560, 262143, 0, 1048575] 1 ⟨[(0, vc (tl e_Point default a1)), (2, vp 0 0), (3, vp 1 0)], [(0, bx 31 [ci 0, ci 0, ci 0, ci 0]), (1, bx 31 [ci ((a1.getD (0 : Int).toNat default).X), ci ((a1.getD (0 : Int).toNat default).X), ci ((a1.getD (0 : Int).toNat default).Y), ci ((a1.getD (0 : Int).toNat default).Y)])]⟩ (o1 (And.intro (inb_of g3) (And.intro (inb_of g3) (And.intro (inb_of g3) (inb_of g3))))) (by kernel_rfl) (by kernel_rfl) ?_
    refine R_sq Tryd.f19 30 31 (by kernel_rfl) ?_
    refine R_sq Tryd.f19 60 61 (by kernel_rfl) ?_
    refine R_rn Tryd.f19 60 4 [] [] 2 ⟨[(0, vc (tl e_Point default a1)), (2, vp 0 0), (3, vp 1 0), (4, vi 1)], [(0, bx 31 [ci 0, ci 0, ci 0, ci 0]), (1, bx 31 [ci ((a1.getD (0 : Int).toNat default).X), ci ((a1.getD (0 : Int).toNat default).X), ci ((a1.getD (0 : Int).toNat default).Y), ci ((a1.getD (0 : Int).toNat default).Y)])]⟩ o0 (by kernel_rfl) (by kernel_rfl) ?_
    obtain ⟨o9, h10, hm⟩ := bind_s hm
    refine R_loop0 (nd Tryd.f19 244) 0 (by kernel_rfl) FUEL (fun o => ref09_Bounds_L1_T o) o9 (HL_enter (ref09_Bounds_L1_S a1 1 (Rect.mk (Span.mk ((a1.getD (0 : Int).toNat default).X) ((a1.getD (0 : Int).toNat default).X)) (Span.mk ((a1.getD (0 : Int).toNat default).Y) ((a1.getD (0 : Int).toNat default).Y)))) (by kernel_rfl) (by kernel_rfl) (ref09_Bounds_L1_ok E a1 FUEL 1 (Rect.mk (Span.mk ((a1.getD (0 : Int).toNat default).X) ((a1.getD (0 : Int).toNat default).X)) (Span.mk ((a1.getD (0 : Int).toNat default).Y) ((a1.getD (0 : Int).toNat default).Y))) o9 h10)) ?_
    refine R_sq Tryd.f19 62 63 (by kernel_rfl) ?_
    refine R_rn Tryd.f19 62 9 [] [] 2 ⟨[(2, vp 0 0)], [(0, bx 31 [ci o9.X.A, ci o9.X.B, ci o9.Y.A, ci o9.Y.B])]⟩ o0 (by kernel_rfl) (by kernel_rfl) ?_
    obtain rfl := Option.some.inj hm
    refine R_ret (by kernel_rfl) ?_
    exact ret_mk (by kernel_rfl) (by kernel_rfl)

end Saw
end Go.SL
