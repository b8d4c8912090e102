import Derived.Test.YtgpgnlllieekbaaDoorEBase
import Derived.Test.YtgpgnlllieekbaaDoorEFa9
set_option linter.unusedVariables false
set_option linter.unusedSimpArgs false
namespace Go.SL
namespace Saw
open Go.Proofs
set_option maxHeartbeats 4000000

def cutting_start_x (r : Cutting_choice) : V := va [ci r.piece.Size, ci r.piece.At, ci r.value]

def cutting_start_o (r : Cutting_choice) : List (Nat × (Nat × O)) := []

theorem cutting_start_f (r : Cutting_choice) : Frozen (cutting_start_o r) := by
  intro i k o h
  unfold cutting_start_o at h
  cases h

def cutting_start_k5_S (a1 : Line) (a2 : Int) (a3 : List Int) (a4 : List Cutting_choice) (x5 : Int) (x26 : Cutting_choice) : St :=
  ⟨[(1, vi a2), (2, vc (tl e_i64 default a3)), (3, vc (tl e_Cutting_choice default a4)), (4, vp 0 0), (8, vp 1 0), (9, vp 2 0), (18, vc (tl e_i64 default a1.Sizes)), (19, vi ((a1.Sizes.length : Nat) : Int)), (20, vi x5)], [(0, bx 64 [ci a1.Len, ci a1.Kerf, ci a1.Pitch, tl e_i64 default a1.Sizes, tl (e_lst e_i64) default a1.Gain, tl e_i64 default a1.Chip, tl e_i64 default a1.Dust]), (1, bx 164 [ci 0, ci 0, ci 0]), (2, bx 164 [ci x26.piece.Size, ci x26.piece.At, ci x26.value])]⟩

def cutting_start_k4_S (a1 : Line) (a2 : Int) (a3 : List Int) (a4 : List Cutting_choice) (x5 : Int) (x6 : Cutting_choice) (x22 : Cutting_choice) (x24 : Bool) : St :=
  ⟨[(1, vi a2), (2, vc (tl e_i64 default a3)), (3, vc (tl e_Cutting_choice default a4)), (4, vp 0 0), (8, vp 1 0), (9, vp 2 0), (13, vp 3 0), (18, vc (tl e_i64 default a1.Sizes)), (19, vi ((a1.Sizes.length : Nat) : Int)), (20, vi x5), (89, vb x24)], [(0, bx 64 [ci a1.Len, ci a1.Kerf, ci a1.Pitch, tl e_i64 default a1.Sizes, tl (e_lst e_i64) default a1.Gain, tl e_i64 default a1.Chip, tl e_i64 default a1.Dust]), (1, bx 164 [ci 0, ci 0, ci 0]), (2, bx 164 [ci x6.piece.Size, ci x6.piece.At, ci x6.value]), (3, bx 164 [ci x22.piece.Size, ci x22.piece.At, ci x22.value])]⟩

def cutting_start_k3_S (a1 : Line) (a2 : Int) (a3 : List Int) (a4 : List Cutting_choice) (x5 : Int) (x6 : Cutting_choice) (x22 : Cutting_choice) : St :=
  ⟨[(1, vi a2), (2, vc (tl e_i64 default a3)), (3, vc (tl e_Cutting_choice default a4)), (4, vp 0 0), (8, vp 1 0), (9, vp 2 0), (13, vp 3 0), (18, vc (tl e_i64 default a1.Sizes)), (19, vi ((a1.Sizes.length : Nat) : Int)), (20, vi x5)], [(0, bx 64 [ci a1.Len, ci a1.Kerf, ci a1.Pitch, tl e_i64 default a1.Sizes, tl (e_lst e_i64) default a1.Gain, tl e_i64 default a1.Chip, tl e_i64 default a1.Dust]), (1, bx 164 [ci 0, ci 0, ci 0]), (2, bx 164 [ci x6.piece.Size, ci x6.piece.At, ci x6.value]), (3, bx 164 [ci x22.piece.Size, ci x22.piece.At, ci x22.value])]⟩

def cutting_start_k2_S (a1 : Line) (a2 : Int) (a3 : List Int) (a4 : List Cutting_choice) (x5 : Int) (x6 : Cutting_choice) (x12 : Bool) : St :=
  ⟨[(1, vi a2), (2, vc (tl e_i64 default a3)), (3, vc (tl e_Cutting_choice default a4)), (4, vp 0 0), (8, vp 1 0), (9, vp 2 0), (10, vi x5), (12, vi (w64 (a2 + (a1.Sizes.getD x5.toNat default)))), (18, vc (tl e_i64 default a1.Sizes)), (19, vi ((a1.Sizes.length : Nat) : Int)), (20, vi x5), (42, vb x12)], [(0, bx 64 [ci a1.Len, ci a1.Kerf, ci a1.Pitch, tl e_i64 default a1.Sizes, tl (e_lst e_i64) default a1.Gain, tl e_i64 default a1.Chip, tl e_i64 default a1.Dust]), (1, bx 164 [ci 0, ci 0, ci 0]), (2, bx 164 [ci x6.piece.Size, ci x6.piece.At, ci x6.value])]⟩

def cutting_start_L1_S (a1 : Line) (a2 : Int) (a3 : List Int) (a4 : List Cutting_choice) (x5 : Int) (x6 : Cutting_choice) : St :=
  ⟨[(1, vi a2), (2, vc (tl e_i64 default a3)), (3, vc (tl e_Cutting_choice default a4)), (4, vp 0 0), (8, vp 1 0), (9, vp 2 0), (18, vc (tl e_i64 default a1.Sizes)), (19, vi ((a1.Sizes.length : Nat) : Int)), (20, vi x5)], [(0, bx 64 [ci a1.Len, ci a1.Kerf, ci a1.Pitch, tl e_i64 default a1.Sizes, tl (e_lst e_i64) default a1.Gain, tl e_i64 default a1.Chip, tl e_i64 default a1.Dust]), (1, bx 164 [ci 0, ci 0, ci 0]), (2, bx 164 [ci x6.piece.Size, ci x6.piece.At, ci x6.value])]⟩

def cutting_start_L1_T (x27 : Cutting_choice) : St :=
  ⟨[(8, vp 1 0), (9, vp 2 0)], [(1, bx 164 [ci 0, ci 0, ci 0]), (2, bx 164 [ci x27.piece.Size, ci x27.piece.At, ci x27.value])]⟩

set_option maxRecDepth 100000 in
theorem cutting_start_L1_ok (E : Env 0) (a1 : Line) (a2 : Int) (a3 : List Int) (a4 : List Cutting_choice) : ∀ (n : Nat) (x5 : Int) (x6 : Cutting_choice) (res : Cutting_choice), cutting_start_L1 a1 a2 a3 a4 n x5 x6 = some res → HL (kx E 93 0) (nd Tryd.f108 116) (loopQ0 0 (fun o => cutting_start_L1_T o) res) n (cutting_start_L1_S a1 a2 a3 a4 x5 x6) := by
  intro n
  induction n with
  | zero =>
    intro x5 x6 res hm
    cases hm
  | succ n ih =>
    intro x5 x6 res hm
    refine HL_succ ?_
    refine R_sq Tryd.f108 232 233 (by kernel_rfl) ?_
    refine R_rn Tryd.f108 232 3 [] [] 3 ⟨[(1, vi a2), (2, vc (tl e_i64 default a3)), (3, vc (tl e_Cutting_choice default a4)), (4, vp 0 0), (8, vp 1 0), (9, vp 2 0), (18, vc (tl e_i64 default a1.Sizes)), (19, vi ((a1.Sizes.length : Nat) : Int)), (20, vi x5), (21, vb (decide (x5 < ((a1.Sizes.length : Nat) : Int))))], [(0, bx 64 [ci a1.Len, ci a1.Kerf, ci a1.Pitch, tl e_i64 default a1.Sizes, tl (e_lst e_i64) default a1.Gain, tl e_i64 default a1.Chip, tl e_i64 default a1.Dust]), (1, bx 164 [ci 0, ci 0, ci 0]), (2, bx 164 [ci x6.piece.Size, ci x6.piece.At, ci x6.value])]⟩ o0 (by kernel_rfl) (by kernel_rfl) ?_
    refine R_sq Tryd.f108 466 467 (by kernel_rfl) ?_
    refine R_cn Tryd.f108 (.tmp 21) 932 933 (by kernel_rfl) (decide (x5 < ((a1.Sizes.length : Nat) : Int))) (by kernel_rfl) (fun b7 => ?_) (fun b7 => ?_)
    · replace hm := bif_t b7 hm
      refine R_skip (by kernel_rfl) ?_
      refine R_join (ι := Cutting_choice) (nd Tryd.f108 934) (nd Tryd.f108 935) (by kernel_rfl) (fun p => cutting_start_k5_S a1 a2 a3 a4 x5 p) (fun p => cutting_start_k5 x5 (cutting_start_L1 a1 a2 a3 a4 n) p = some res) ?_ ?_
      · rintro x26 hm
        show H _ (cutting_start_k5_S a1 a2 a3 a4 x5 x26) (nd Tryd.f108 935) _
        refine R_rn Tryd.f108 935 13 [] [] 4 ⟨[(1, vi a2), (2, vc (tl e_i64 default a3)), (3, vc (tl e_Cutting_choice default a4)), (4, vp 0 0), (8, vp 1 0), (9, vp 2 0), (18, vc (tl e_i64 default a1.Sizes)), (19, vi ((a1.Sizes.length : Nat) : Int)), (20, vi (w64 (x5 + 1)))], [(0, bx 64 [ci a1.Len, ci a1.Kerf, ci a1.Pitch, tl e_i64 default a1.Sizes, tl (e_lst e_i64) default a1.Gain, tl e_i64 default a1.Chip, tl e_i64 default a1.Dust]), (1, bx 164 [ci 0, ci 0, ci 0]), (2, bx 164 [ci x26.piece.Size, ci x26.piece.At, ci x26.value])]⟩ o0 (by kernel_rfl) (by kernel_rfl) ?_
        exact HL_enter (cutting_start_L1_S a1 a2 a3 a4 (w64 (x5 + 1)) x26) (by kernel_rfl) (by kernel_rfl) (ih (w64 (x5 + 1)) x26 _ hm)
      · refine R_bk Tryd.f108 1 1868 (by kernel_rfl) ?_
        refine R_sq Tryd.f108 3736 3737 (by kernel_rfl) ?_
        obtain ⟨g8, hm⟩ := bif_n hm
        refine R_rn Tryd.f108 3736 4 [] [] 3 ⟨[(1, vi a2), (2, vc (tl e_i64 default a3)), (3, vc (tl e_Cutting_choice default a4)), (4, vp 0 0), (8, vp 1 0), (9, vp 2 0), (10, vi x5), (11, vi (a1.Sizes.getD x5.toNat default)), (18, vc (tl e_i64 default a1.Sizes)), (19, vi ((a1.Sizes.length : Nat) : Int)), (20, vi x5)], [(0, bx 64 [ci a1.Len, ci a1.Kerf, ci a1.Pitch, tl e_i64 default a1.Sizes, tl (e_lst e_i64) default a1.Gain, tl e_i64 default a1.Chip, tl e_i64 default a1.Dust]), (1, bx 164 [ci 0, ci 0, ci 0]), (2, bx 164 [ci x6.piece.Size, ci x6.piece.At, ci x6.value])]⟩ (o1 (inb_of g8)) (by kernel_rfl) (by kernel_rfl) ?_
        refine R_sq Tryd.f108 7474 7475 (by kernel_rfl) ?_
        refine R_rn Tryd.f108 7474 5 [] [] 3 ⟨[(1, vi a2), (2, vc (tl e_i64 default a3)), (3, vc (tl e_Cutting_choice default a4)), (4, vp 0 0), (8, vp 1 0), (9, vp 2 0), (10, vi x5), (12, vi (w64 (a2 + (a1.Sizes.getD x5.toNat default)))), (18, vc (tl e_i64 default a1.Sizes)), (19, vi ((a1.Sizes.length : Nat) : Int)), (20, vi x5)], [(0, bx 64 [ci a1.Len, ci a1.Kerf, ci a1.Pitch, tl e_i64 default a1.Sizes, tl (e_lst e_i64) default a1.Gain, tl e_i64 default a1.Chip, tl e_i64 default a1.Dust]), (1, bx 164 [ci 0, ci 0, ci 0]), (2, bx 164 [ci x6.piece.Size, ci x6.piece.At, ci x6.value])]⟩ o0 (by kernel_rfl) (by kernel_rfl) ?_
        refine R_sq Tryd.f108 14950 14951 (by kernel_rfl) ?_
        refine R_join (ι := Bool) (nd Tryd.f108 29900) (nd Tryd.f108 29901) (by kernel_rfl) (fun p => cutting_start_k2_S a1 a2 a3 a4 x5 x6 p) (fun p => cutting_start_k2 a1 a2 a3 a4 x5 x6 (cutting_start_L1 a1 a2 a3 a4 n) p = some res) ?_ ?_
        · rintro x12 hm
          show H _ (cutting_start_k2_S a1 a2 a3 a4 x5 x6 x12) (nd Tryd.f108 29901) _
          refine R_cn Tryd.f108 (.tmp 42) 59802 59803 (by kernel_rfl) x12 (by kernel_rfl) (fun b13 => ?_) (fun b13 => ?_)
          · replace hm := bif_t b13 hm
            refine R_exit 1 (by kernel_rfl) ?_
            exact J_mk (x6) hm (by kernel_rfl) (by kernel_rfl)
          · replace hm := bif_f b13 hm
            refine R_skip (by kernel_rfl) ?_
            refine R_sq Tryd.f108 29902 29903 (by kernel_rfl) ?_
            obtain ⟨g14, hm⟩ := bif_n hm
            obtain ⟨g15, hm⟩ := bif_n hm
            refine R_rn Tryd.f108 29902 7 [] [] 3 ⟨[(1, vi a2), (2, vc (tl e_i64 default a3)), (3, vc (tl e_Cutting_choice default a4)), (4, vp 0 0), (8, vp 1 0), (9, vp 2 0), (12, vi (w64 (a2 + (a1.Sizes.getD x5.toNat default)))), (13, vp 3 0), (18, vc (tl e_i64 default a1.Sizes)), (19, vi ((a1.Sizes.length : Nat) : Int)), (20, vi x5)], [(0, bx 64 [ci a1.Len, ci a1.Kerf, ci a1.Pitch, tl e_i64 default a1.Sizes, tl (e_lst e_i64) default a1.Gain, tl e_i64 default a1.Chip, tl e_i64 default a1.Dust]), (1, bx 164 [ci 0, ci 0, ci 0]), (2, bx 164 [ci x6.piece.Size, ci x6.piece.At, ci x6.value]), (3, bx 164 [ci x5, ci a2, ci ((a1.Gain.getD x5.toNat default).getD a2.toNat default)])]⟩ (o1 (And.intro (inb_of g14) (inb_of g15))) (by kernel_rfl) (by kernel_rfl) ?_
            refine R_join (ι := Cutting_choice) (nd Tryd.f108 59806) (nd Tryd.f108 59807) (by kernel_rfl) (fun p => cutting_start_k3_S a1 a2 a3 a4 x5 x6 p) (fun p => cutting_start_k3 x5 x6 (cutting_start_L1 a1 a2 a3 a4 n) p = some res) ?_ ?_
            · rintro x22 hm
              show H _ (cutting_start_k3_S a1 a2 a3 a4 x5 x6 x22) (nd Tryd.f108 59807) _
              refine R_join (ι := Bool) (nd Tryd.f108 119614) (nd Tryd.f108 119615) (by kernel_rfl) (fun p => cutting_start_k4_S a1 a2 a3 a4 x5 x6 x22 p) (fun p => cutting_start_k4 x5 x6 (cutting_start_L1 a1 a2 a3 a4 n) x22 p = some res) ?_ ?_
              · rintro x24 hm
                show H _ (cutting_start_k4_S a1 a2 a3 a4 x5 x6 x22 x24) (nd Tryd.f108 119615) _
                refine R_cn Tryd.f108 (.tmp 89) 239230 239231 (by kernel_rfl) x24 (by kernel_rfl) (fun b25 => ?_) (fun b25 => ?_)
                · replace hm := bif_t b25 hm
                  refine R_rn Tryd.f108 239230 12 [] [] 4 ⟨[(1, vi a2), (2, vc (tl e_i64 default a3)), (3, vc (tl e_Cutting_choice default a4)), (4, vp 0 0), (8, vp 1 0), (9, vp 2 0), (18, vc (tl e_i64 default a1.Sizes)), (19, vi ((a1.Sizes.length : Nat) : Int)), (20, vi x5)], [(0, bx 64 [ci a1.Len, ci a1.Kerf, ci a1.Pitch, tl e_i64 default a1.Sizes, tl (e_lst e_i64) default a1.Gain, tl e_i64 default a1.Chip, tl e_i64 default a1.Dust]), (1, bx 164 [ci 0, ci 0, ci 0]), (2, bx 164 [ci x22.piece.Size, ci x22.piece.At, ci x22.value])]⟩ o0 (by kernel_rfl) (by kernel_rfl) ?_
                  exact J_mk (x22) hm (by kernel_rfl) (by kernel_rfl)
                · replace hm := bif_f b25 hm
                  refine R_skip (by kernel_rfl) ?_
                  exact J_mk (x6) hm (by kernel_rfl) (by kernel_rfl)
              · rcases Bool.eq_false_or_eq_true ((x6.piece.Size == (-1)) && ((x6.piece.At == (-1)) && true)) with b23 | b23
                · replace hm := bif_t b23 hm
                  refine R_rn Tryd.f108 119614 11 [(4, dfx true)] [] 4 ⟨[(1, vi a2), (2, vc (tl e_i64 default a3)), (3, vc (tl e_Cutting_choice default a4)), (4, vp 0 0), (8, vp 1 0), (9, vp 2 0), (13, vp 3 0), (18, vc (tl e_i64 default a1.Sizes)), (19, vi ((a1.Sizes.length : Nat) : Int)), (20, vi x5), (89, vb true)], [(0, bx 64 [ci a1.Len, ci a1.Kerf, ci a1.Pitch, tl e_i64 default a1.Sizes, tl (e_lst e_i64) default a1.Gain, tl e_i64 default a1.Chip, tl e_i64 default a1.Dust]), (1, bx 164 [ci 0, ci 0, ci 0]), (2, bx 164 [ci x6.piece.Size, ci x6.piece.At, ci x6.value]), (3, bx 164 [ci x22.piece.Size, ci x22.piece.At, ci x22.value])]⟩ (o1 b23) (by kernel_rfl) (by kernel_rfl) ?_
                  exact J_mk (true) hm (by kernel_rfl) (by kernel_rfl)
                · replace hm := bif_f b23 hm
                  refine R_rn Tryd.f108 119614 11 [(4, dfx false)] [] 4 ⟨[(1, vi a2), (2, vc (tl e_i64 default a3)), (3, vc (tl e_Cutting_choice default a4)), (4, vp 0 0), (8, vp 1 0), (9, vp 2 0), (13, vp 3 0), (18, vc (tl e_i64 default a1.Sizes)), (19, vi ((a1.Sizes.length : Nat) : Int)), (20, vi x5), (84, vp 3 2), (85, vi x22.value), (86, vp 2 2), (87, vi x6.value), (88, vb (decide (x22.value > x6.value))), (89, vb (decide (x22.value > x6.value)))], [(0, bx 64 [ci a1.Len, ci a1.Kerf, ci a1.Pitch, tl e_i64 default a1.Sizes, tl (e_lst e_i64) default a1.Gain, tl e_i64 default a1.Chip, tl e_i64 default a1.Dust]), (1, bx 164 [ci 0, ci 0, ci 0]), (2, bx 164 [ci x6.piece.Size, ci x6.piece.At, ci x6.value]), (3, bx 164 [ci x22.piece.Size, ci x22.piece.At, ci x22.value])]⟩ (o1 b23) (by kernel_rfl) (by kernel_rfl) ?_
                  exact J_mk (decide (x22.value > x6.value)) hm (by kernel_rfl) (by kernel_rfl)
            · refine R_sq Tryd.f108 119612 119613 (by kernel_rfl) ?_
              obtain ⟨v16, h17, hm⟩ := bind_s hm
              refine R_rn Tryd.f108 119612 8 [(2, dex (cen [] [] 4 0 (cutting_behind_x v16) (cutting_behind_o v16) [55, 56] []))] [] 4 ⟨[(1, vi a2), (2, vc (tl e_i64 default a3)), (3, vc (tl e_Cutting_choice default a4)), (4, vp 0 0), (8, vp 1 0), (9, vp 2 0), (12, vi (w64 (a2 + (a1.Sizes.getD x5.toNat default)))), (13, vp 3 0), (14, vi v16), (18, vc (tl e_i64 default a1.Sizes)), (19, vi ((a1.Sizes.length : Nat) : Int)), (20, vi x5)], [(0, bx 64 [ci a1.Len, ci a1.Kerf, ci a1.Pitch, tl e_i64 default a1.Sizes, tl (e_lst e_i64) default a1.Gain, tl e_i64 default a1.Chip, tl e_i64 default a1.Dust]), (1, bx 164 [ci 0, ci 0, ci 0]), (2, bx 164 [ci x6.piece.Size, ci x6.piece.At, ci x6.value]), (3, bx 164 [ci x5, ci a2, ci ((a1.Gain.getD x5.toNat default).getD a2.toNat default)])]⟩ (o1 (callS (K := (kx E 93 0)) ⟨[(55, va [ci a1.Len, ci a1.Kerf, ci a1.Pitch, tl e_i64 default a1.Sizes, tl (e_lst e_i64) default a1.Gain, tl e_i64 default a1.Chip, tl e_i64 default a1.Dust]), (56, vi (w64 (a2 + (a1.Sizes.getD x5.toNat default))))], []⟩ (opAt (rg Tryd.f108 119612) 2) [] [] 4 o0 rfl (cutting_behind_ok a1 (w64 (a2 + (a1.Sizes.getD x5.toNat default))) v16 h17) (.inl rfl) (by kernel_rfl))) (by kernel_rfl) (by kernel_rfl) ?_
              refine R_sq Tryd.f108 239226 239227 (by kernel_rfl) ?_
              refine R_rn Tryd.f108 239226 9 [] [] 4 ⟨[(1, vi a2), (2, vc (tl e_i64 default a3)), (3, vc (tl e_Cutting_choice default a4)), (4, vp 0 0), (8, vp 1 0), (9, vp 2 0), (12, vi (w64 (a2 + (a1.Sizes.getD x5.toNat default)))), (13, vp 3 0), (14, vi v16), (18, vc (tl e_i64 default a1.Sizes)), (19, vi ((a1.Sizes.length : Nat) : Int)), (20, vi x5), (59, vb (decide (v16 ≥ 0)))], [(0, bx 64 [ci a1.Len, ci a1.Kerf, ci a1.Pitch, tl e_i64 default a1.Sizes, tl (e_lst e_i64) default a1.Gain, tl e_i64 default a1.Chip, tl e_i64 default a1.Dust]), (1, bx 164 [ci 0, ci 0, ci 0]), (2, bx 164 [ci x6.piece.Size, ci x6.piece.At, ci x6.value]), (3, bx 164 [ci x5, ci a2, ci ((a1.Gain.getD x5.toNat default).getD a2.toNat default)])]⟩ o0 (by kernel_rfl) (by kernel_rfl) ?_
              refine R_cn Tryd.f108 (.tmp 59) 478454 478455 (by kernel_rfl) (decide (v16 ≥ 0)) (by kernel_rfl) (fun b18 => ?_) (fun b18 => ?_)
              · replace hm := bif_t b18 hm
                obtain ⟨g19, hm⟩ := bif_n hm
                obtain ⟨g20, hm⟩ := bif_n hm
                obtain ⟨g21, hm⟩ := bif_n hm
                refine R_dr Tryd.f108 478454 10 [] [] [] [0, 1, 0, 0, 12, 28, 0, 0, 192, 448, 1020, 0, 0, 6144, 14336, 30720, 65532, 131071, 262143, 524287] 4 ⟨[(1, vi a2), (2, vc (tl e_i64 default a3)), (3, vc (tl e_Cutting_choice default a4)), (4, vp 0 0), (8, vp 1 0), (9, vp 2 0), (13, vp 3 0), (18, vc (tl e_i64 default a1.Sizes)), (19, vi ((a1.Sizes.length : Nat) : Int)), (20, vi x5)], [(0, bx 64 [ci a1.Len, ci a1.Kerf, ci a1.Pitch, tl e_i64 default a1.Sizes, tl (e_lst e_i64) default a1.Gain, tl e_i64 default a1.Chip, tl e_i64 default a1.Dust]), (1, bx 164 [ci 0, ci 0, ci 0]), (2, bx 164 [ci x6.piece.Size, ci x6.piece.At, ci x6.value]), (3, bx 164 [ci x5, ci a2, ci (w64 (((a1.Gain.getD x5.toNat default).getD a2.toNat default) + (w64 ((w64 ((a3.getD v16.toNat default) - (a3.getD (w64 (a2 + (a1.Sizes.getD x5.toNat default))).toNat default))) + ((a4.getD v16.toNat default).value)))))])]⟩ (o1 (And.intro (inb_of g19) (And.intro (inb_of g20) (inb_of g21)))) (by kernel_rfl) (by kernel_rfl) ?_
                exact J_mk ((Cutting_choice.mk (Piece.mk x5 a2) (w64 (((a1.Gain.getD x5.toNat default).getD a2.toNat default) + (w64 ((w64 ((a3.getD v16.toNat default) - (a3.getD (w64 (a2 + (a1.Sizes.getD x5.toNat default))).toNat default))) + ((a4.getD v16.toNat default).value))))))) hm (by kernel_rfl) (by kernel_rfl)
              · replace hm := bif_f b18 hm
                refine R_skip (by kernel_rfl) ?_
                exact J_mk ((Cutting_choice.mk (Piece.mk x5 a2) ((a1.Gain.getD x5.toNat default).getD a2.toNat default))) hm (by kernel_rfl) (by kernel_rfl)
        · rcases Bool.eq_false_or_eq_true (decide ((w64 (a2 + (a1.Sizes.getD x5.toNat default))) > a1.Len)) with b9 | b9
          · replace hm := bif_t b9 hm
            refine R_rn Tryd.f108 29900 6 [(4, dfx true)] [] 3 ⟨[(1, vi a2), (2, vc (tl e_i64 default a3)), (3, vc (tl e_Cutting_choice default a4)), (4, vp 0 0), (8, vp 1 0), (9, vp 2 0), (10, vi x5), (12, vi (w64 (a2 + (a1.Sizes.getD x5.toNat default)))), (18, vc (tl e_i64 default a1.Sizes)), (19, vi ((a1.Sizes.length : Nat) : Int)), (20, vi x5), (42, vb true)], [(0, bx 64 [ci a1.Len, ci a1.Kerf, ci a1.Pitch, tl e_i64 default a1.Sizes, tl (e_lst e_i64) default a1.Gain, tl e_i64 default a1.Chip, tl e_i64 default a1.Dust]), (1, bx 164 [ci 0, ci 0, ci 0]), (2, bx 164 [ci x6.piece.Size, ci x6.piece.At, ci x6.value])]⟩ (o1 b9) (by kernel_rfl) (by kernel_rfl) ?_
            exact J_mk (true) hm (by kernel_rfl) (by kernel_rfl)
          · replace hm := bif_f b9 hm
            obtain ⟨g10, hm⟩ := bif_n hm
            obtain ⟨g11, hm⟩ := bif_n hm
            refine R_rn Tryd.f108 29900 6 [(4, dfx false)] [] 3 ⟨[(1, vi a2), (2, vc (tl e_i64 default a3)), (3, vc (tl e_Cutting_choice default a4)), (4, vp 0 0), (8, vp 1 0), (9, vp 2 0), (10, vi x5), (12, vi (w64 (a2 + (a1.Sizes.getD x5.toNat default)))), (18, vc (tl e_i64 default a1.Sizes)), (19, vi ((a1.Sizes.length : Nat) : Int)), (20, vi x5), (33, vp 0 4), (34, vc (tl (e_lst e_i64) default a1.Gain)), (35, vi x5), (36, vc (.lptr ((e_lst e_i64) (a1.Gain.getD x5.toNat default)))), (37, vc (tl e_i64 default (a1.Gain.getD x5.toNat default))), (38, vi a2), (39, vc (.lptr (e_i64 ((a1.Gain.getD x5.toNat default).getD a2.toNat default)))), (40, vi ((a1.Gain.getD x5.toNat default).getD a2.toNat default)), (41, vb (decide (((a1.Gain.getD x5.toNat default).getD a2.toNat default) < 0))), (42, vb (decide (((a1.Gain.getD x5.toNat default).getD a2.toNat default) < 0)))], [(0, bx 64 [ci a1.Len, ci a1.Kerf, ci a1.Pitch, tl e_i64 default a1.Sizes, tl (e_lst e_i64) default a1.Gain, tl e_i64 default a1.Chip, tl e_i64 default a1.Dust]), (1, bx 164 [ci 0, ci 0, ci 0]), (2, bx 164 [ci x6.piece.Size, ci x6.piece.At, ci x6.value])]⟩ (o1 (And.intro b9 (And.intro (inb_of g10) (inb_of g11)))) (by kernel_rfl) (by kernel_rfl) ?_
            exact J_mk (decide (((a1.Gain.getD x5.toNat default).getD a2.toNat default) < 0)) hm (by kernel_rfl) (by kernel_rfl)
    · replace hm := bif_f b7 hm
      refine R_exit 0 (by kernel_rfl) ?_
      obtain rfl := Option.some.inj hm
      exact L0_mk (by kernel_rfl) (by kernel_rfl)

set_option maxRecDepth 100000 in
theorem cutting_start_ok (a1 : Line) (a2 : Int) (a3 : List Int) (a4 : List Cutting_choice) (r : Cutting_choice) (hm : cutting_start a1 a2 a3 a4 = some r) : CtX Tryd.prog globs 108 0 0 [.agg [ci a1.Len, ci a1.Kerf, ci a1.Pitch, tl e_i64 default a1.Sizes, tl (e_lst e_i64) default a1.Gain, tl e_i64 default a1.Chip, tl e_i64 default a1.Dust], .one (ci a2), .one (tl e_i64 default a3), .one (tl e_Cutting_choice default a4)] [] (cutting_start_x r) (cutting_start_o r) := by
  unfold cutting_start at hm
  refine CtX_of_E (fn := Tryd.f108) (c := nd Tryd.f108 1) (nt := 93) (by kernel_rfl) (by kernel_rfl) (by kernel_rfl) (by kernel_rfl) fun E => ?_
  refine R_sq Tryd.f108 2 3 (by kernel_rfl) ?_
  refine R_rn Tryd.f108 2 0 [] [] 0 ⟨[(1, vi a2), (2, vc (tl e_i64 default a3)), (3, vc (tl e_Cutting_choice default a4)), (4, vp 0 0), (8, vp 1 0)], [(0, bx 64 [ci a1.Len, ci a1.Kerf, ci a1.Pitch, tl e_i64 default a1.Sizes, tl (e_lst e_i64) default a1.Gain, tl e_i64 default a1.Chip, tl e_i64 default a1.Dust]), (1, bx 164 [ci 0, ci 0, ci 0])]⟩ o0 (by kernel_rfl) (by kernel_rfl) ?_
  refine R_sq Tryd.f108 6 7 (by kernel_rfl) ?_
  refine R_rn Tryd.f108 6 1 [] [] 2 ⟨[(1, vi a2), (2, vc (tl e_i64 default a3)), (3, vc (tl e_Cutting_choice default a4)), (4, vp 0 0), (8, vp 1 0), (9, vp 2 0)], [(0, bx 64 [ci a1.Len, ci a1.Kerf, ci a1.Pitch, tl e_i64 default a1.Sizes, tl (e_lst e_i64) default a1.Gain, tl e_i64 default a1.Chip, tl e_i64 default a1.Dust]), (1, bx 164 [ci 0, ci 0, ci 0]), (2, bx 164 [ci (-1), ci (-1), ci 0])]⟩ o0 (by kernel_rfl) (by kernel_rfl) ?_
  refine R_sq Tryd.f108 14 15 (by kernel_rfl) ?_
  refine R_sq Tryd.f108 28 29 (by kernel_rfl) ?_
  refine R_rn Tryd.f108 28 2 [] [] 3 ⟨[(1, vi a2), (2, vc (tl e_i64 default a3)), (3, vc (tl e_Cutting_choice default a4)), (4, vp 0 0), (8, vp 1 0), (9, vp 2 0), (18, vc (tl e_i64 default a1.Sizes)), (19, vi ((a1.Sizes.length : Nat) : Int)), (20, vi 0)], [(0, bx 64 [ci a1.Len, ci a1.Kerf, ci a1.Pitch, tl e_i64 default a1.Sizes, tl (e_lst e_i64) default a1.Gain, tl e_i64 default a1.Chip, tl e_i64 default a1.Dust]), (1, bx 164 [ci 0, ci 0, ci 0]), (2, bx 164 [ci (-1), ci (-1), ci 0])]⟩ o0 (by kernel_rfl) (by kernel_rfl) ?_
  obtain ⟨o28, h29, hm⟩ := bind_s hm
  refine R_loop0 (nd Tryd.f108 116) 0 (by kernel_rfl) FUEL (fun o => cutting_start_L1_T o) o28 (HL_enter (cutting_start_L1_S a1 a2 a3 a4 0 (Cutting_choice.mk (Piece.mk (-1) (-1)) 0)) (by kernel_rfl) (by kernel_rfl) (cutting_start_L1_ok E a1 a2 a3 a4 FUEL 0 (Cutting_choice.mk (Piece.mk (-1) (-1)) 0) o28 h29)) ?_
  refine R_sq Tryd.f108 30 31 (by kernel_rfl) ?_
  refine R_rn Tryd.f108 30 14 [] [] 3 ⟨[(8, vp 1 0)], [(1, bx 164 [ci o28.piece.Size, ci o28.piece.At, ci o28.value])]⟩ o0 (by kernel_rfl) (by kernel_rfl) ?_
  obtain rfl := Option.some.inj hm
  refine R_ret (by kernel_rfl) ?_
  exact ret_mk (by kernel_rfl) (by kernel_rfl)

end Saw
end Go.SL

namespace Go.SL
namespace Saw
open Go.Proofs
set_option maxHeartbeats 4000000

def cutting_sums_x (r : (List Int)) : V := vo 0 0 1 r.length

def cutting_sums_o (r : (List Int)) : List (Nat × (Nat × O)) := [(0, ro 0 3 1 r.length (rf e_i64 r))]

theorem cutting_sums_f (r : (List Int)) : Frozen (cutting_sums_o r) := by
  intro i k o h
  unfold cutting_sums_o at h
  rw [look_cons] at h
  split at h
  · cases h; exact fun _ _ => rfl
  · cases h

def cutting_sums_L1_S (a1 : List Int) (l3 : List Int) (l3n : Nat) (x4 : Int) : St :=
  ⟨[(3, vo 0 0 1 l3n), (10, vc (tl e_i64 default a1)), (11, vi ((a1.length : Nat) : Int)), (12, vi x4)], [(0, ro 0 3 1 l3n (rf e_i64 l3))]⟩

def cutting_sums_L1_T (l9 : List Int) : St :=
  ⟨[(3, vo 0 0 1 l9.length)], [(0, ro 0 3 1 l9.length (rf e_i64 l9))]⟩

set_option maxRecDepth 100000 in
theorem cutting_sums_L1_ok (E : Env 0) (a1 : List Int) : ∀ (n : Nat) (l3 : List Int) (l3n : Nat) (x4 : Int) (res : (List Int)), l3.length = l3n → cutting_sums_L1 a1 n l3 x4 = some res → HL (kx E 29 0) (nd Tryd.f107 116) (loopQ0 0 (fun o => cutting_sums_L1_T o) res) n (cutting_sums_L1_S a1 l3 l3n x4) := by
  intro n
  induction n with
  | zero =>
    intro l3 l3n x4 res hl0 hm
    cases hm
  | succ n ih =>
    intro l3 l3n x4 res hl0 hm
    subst hl0
    refine HL_succ ?_
    refine R_sq Tryd.f107 232 233 (by kernel_rfl) ?_
    refine R_rn Tryd.f107 232 3 [] [] 1 ⟨[(3, vo 0 0 1 l3.length), (10, vc (tl e_i64 default a1)), (11, vi ((a1.length : Nat) : Int)), (12, vi x4), (13, vb (decide (x4 < ((a1.length : Nat) : Int))))], [(0, ro 0 3 1 l3.length (rf e_i64 l3))]⟩ o0 (by kernel_rfl) (by kernel_rfl) ?_
    refine R_sq Tryd.f107 466 467 (by kernel_rfl) ?_
    refine R_cn Tryd.f107 (.tmp 13) 932 933 (by kernel_rfl) (decide (x4 < ((a1.length : Nat) : Int))) (by kernel_rfl) (fun b5 => ?_) (fun b5 => ?_)
    · replace hm := bif_t b5 hm
      refine R_skip (by kernel_rfl) ?_
      refine R_sq Tryd.f107 934 935 (by kernel_rfl) ?_
      refine R_bk Tryd.f107 1 1868 (by kernel_rfl) ?_
      refine R_sq Tryd.f107 3736 3737 (by kernel_rfl) ?_
      obtain ⟨g6, hm⟩ := bif_n hm
      refine R_rn Tryd.f107 3736 4 [] [] 1 ⟨[(3, vo 0 0 1 l3.length), (4, vi x4), (5, vi (a1.getD x4.toNat default)), (10, vc (tl e_i64 default a1)), (11, vi ((a1.length : Nat) : Int)), (12, vi x4)], [(0, ro 0 3 1 l3.length (rf e_i64 l3))]⟩ (o1 (inb_of g6)) (by kernel_rfl) (by kernel_rfl) ?_
      obtain ⟨g7, hm⟩ := bif_n hm
      obtain ⟨g8, hm⟩ := bif_n hm
      refine R_rn Tryd.f107 3737 5 [(10, drw 0 0 (rf e_i64 (l3.set ((w64 (x4 + 1)).toNat) (w64 ((l3.getD x4.toNat default) + (a1.getD x4.toNat default))))))] [] 1 ⟨[(3, vo 0 0 1 l3.length), (10, vc (tl e_i64 default a1)), (11, vi ((a1.length : Nat) : Int)), (12, vi x4)], [(0, ro 0 3 1 l3.length (rf e_i64 (l3.set ((w64 (x4 + 1)).toNat) (w64 ((l3.getD x4.toNat default) + (a1.getD x4.toNat default))))))]⟩ (o1 (And.intro (inb_of g7) (And.intro (toNat_lt (inb_of g7)) (And.intro (inb_of g8) (stP e_i64 default (w64 ((l3.getD x4.toNat default) + (a1.getD x4.toNat default))) l3 l3.length ((w64 (x4 + 1)).toNat) 0 [ci (w64 ((l3.getD x4.toNat default) + (a1.getD x4.toNat default)))] rfl (toNat_lt (inb_of g8)) rfl))))) (by kernel_rfl) (by kernel_rfl) ?_
      refine R_rn Tryd.f107 935 6 [] [] 1 ⟨[(3, vo 0 0 1 l3.length), (10, vc (tl e_i64 default a1)), (11, vi ((a1.length : Nat) : Int)), (12, vi (w64 (x4 + 1)))], [(0, ro 0 3 1 l3.length (rf e_i64 (l3.set ((w64 (x4 + 1)).toNat) (w64 ((l3.getD x4.toNat default) + (a1.getD x4.toNat default))))))]⟩ o0 (by kernel_rfl) (by kernel_rfl) ?_
      exact HL_enter (cutting_sums_L1_S a1 (l3.set ((w64 (x4 + 1)).toNat) (w64 ((l3.getD x4.toNat default) + (a1.getD x4.toNat default)))) l3.length (w64 (x4 + 1))) (by kernel_rfl) (by kernel_rfl) (ih (l3.set ((w64 (x4 + 1)).toNat) (w64 ((l3.getD x4.toNat default) + (a1.getD x4.toNat default)))) l3.length (w64 (x4 + 1)) _ (len_set rfl) hm)
    · replace hm := bif_f b5 hm
      refine R_exit 0 (by kernel_rfl) ?_
      obtain rfl := Option.some.inj hm
      exact L0_mk (by kernel_rfl) (by kernel_rfl)

set_option maxRecDepth 100000 in
theorem cutting_sums_ok (a1 : List Int) (r : (List Int)) (hm : cutting_sums a1 = some r) : CtX Tryd.prog globs 107 0 0 [.one (tl e_i64 default a1)] [] (cutting_sums_x r) (cutting_sums_o r) := by
  unfold cutting_sums at hm
  refine CtX_of_E (fn := Tryd.f107) (c := nd Tryd.f107 1) (nt := 29) (by kernel_rfl) (by kernel_rfl) (by kernel_rfl) (by kernel_rfl) fun E => ?_
  refine R_sq Tryd.f107 2 3 (by kernel_rfl) ?_
  refine R_rn Tryd.f107 2 0 [] [] 0 ⟨[(0, vc (tl e_i64 default a1))], []⟩ o0 (by kernel_rfl) (by kernel_rfl) ?_
  refine R_sq Tryd.f107 6 7 (by kernel_rfl) ?_
  obtain ⟨g2, hm⟩ := bif_n hm
  refine R_rn Tryd.f107 6 1 [(3, drw 0 0 (rf e_i64 (List.replicate ((w64 (((a1.length : Nat) : Int) + 1)).toNat) 0)))] [] 0 ⟨[(0, vc (tl e_i64 default a1)), (3, vo 0 0 1 ((w64 (((a1.length : Nat) : Int) + 1)).toNat))], [(0, ro 0 3 1 ((w64 (((a1.length : Nat) : Int) + 1)).toNat) (rf e_i64 (List.replicate ((w64 (((a1.length : Nat) : Int) + 1)).toNat) 0)))]⟩ (o1 (mkP e_i64 default 0 (w64 (((a1.length : Nat) : Int) + 1)) 8 [ci 0] (mkOk_of g2) rfl)) (by kernel_rfl) (by kernel_rfl) ?_
  refine R_sq Tryd.f107 14 15 (by kernel_rfl) ?_
  refine R_sq Tryd.f107 28 29 (by kernel_rfl) ?_
  refine R_rn Tryd.f107 28 2 [] [] 1 ⟨[(3, vo 0 0 1 ((w64 (((a1.length : Nat) : Int) + 1)).toNat)), (10, vc (tl e_i64 default a1)), (11, vi ((a1.length : Nat) : Int)), (12, vi 0)], [(0, ro 0 3 1 ((w64 (((a1.length : Nat) : Int) + 1)).toNat) (rf e_i64 (List.replicate ((w64 (((a1.length : Nat) : Int) + 1)).toNat) 0)))]⟩ o0 (by kernel_rfl) (by kernel_rfl) ?_
  obtain ⟨o10, h11, hm⟩ := bind_s hm
  refine R_loop0 (nd Tryd.f107 116) 0 (by kernel_rfl) FUEL (fun o => cutting_sums_L1_T o) o10 (HL_enter (cutting_sums_L1_S a1 (List.replicate ((w64 (((a1.length : Nat) : Int) + 1)).toNat) 0) ((w64 (((a1.length : Nat) : Int) + 1)).toNat) 0) (by kernel_rfl) (by kernel_rfl) (cutting_sums_L1_ok E a1 FUEL (List.replicate ((w64 (((a1.length : Nat) : Int) + 1)).toNat) 0) ((w64 (((a1.length : Nat) : Int) + 1)).toNat) 0 o10 len_rep h11)) ?_
  refine R_sq Tryd.f107 30 31 (by kernel_rfl) ?_
  refine R_rn Tryd.f107 30 7 [] [] 1 ⟨[(2, vo 0 0 1 o10.length)], [(0, ro 0 3 1 o10.length (rf e_i64 o10))]⟩ o0 (by kernel_rfl) (by kernel_rfl) ?_
  obtain rfl := Option.some.inj hm
  refine R_ret (by kernel_rfl) ?_
  exact ret_mk (by kernel_rfl) (by kernel_rfl)

end Saw
end Go.SL
