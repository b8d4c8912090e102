import Derived.Test.YtgpgnlllieekbaaDoorEBase
import Derived.Test.YtgpgnlllieekbaaDoorEFa1
import Derived.Test.YtgpgnlllieekbaaDoorEFa8
import Derived.Test.YtgpgnlllieekbaaDoorEFa11
import Derived.Test.YtgpgnlllieekbaaDoorEFa7
import Derived.Test.YtgpgnlllieekbaaDoorEFa12
set_option linter.unusedVariables false
set_option linter.unusedSimpArgs false
namespace Go.SL
namespace Saw
open Go.Proofs
set_option maxHeartbeats 4000000

def edge_Best_x (r : (List Node) × Int × Int) : V := .tup [.one (.own 0 0 2 r.1.length), .one (ci r.2.1), .one (ci r.2.2)]

def edge_Best_o (r : (List Node) × Int × Int) : List (Nat × (Nat × O)) := [(0, ro 0 80 2 r.1.length (rf e_Node r.1))]

theorem edge_Best_f (r : (List Node) × Int × Int) : Frozen (edge_Best_o r) := by
  intro i k o h
  unfold edge_Best_o at h
  rw [look_cons] at h
  split at h
  · cases h; exact fun _ _ => rfl
  · cases h

def edge_Best_L1_S (a4 : Rect) (a5 : Saw) (v10 : (List Piece) × Int × Int) (v13 : (List Int) × (List Int)) (l15 : List Span) (l15n : Nat) (l16 : List (List Node)) (l16n : Nat) (x17 : Int) : St :=
  ⟨[(9, vp 0 0), (10, vp 1 0), (18, vi v10.2.1), (19, vo 9 0 1 v13.1.length), (20, vo 10 0 1 v13.2.length), (21, vo 11 0 2 l15n), (22, vo 12 0 1 l16n), (60, vo 8 0 2 v10.1.length), (61, vi ((v10.1.length : Nat) : Int)), (62, vi x17)], [(0, bx 35 [ci a4.X.A, ci a4.X.B, ci a4.Y.A, ci a4.Y.B]), (1, bx 37 [ci a5.Kerf, ci a5.Trim, ci a5.Pitch, ci a5.Step]), (8, ro 0 98 2 v10.1.length (rf e_Piece v10.1)), (9, ro 0 3 1 v13.1.length (rf e_i64 v13.1)), (10, ro 0 3 1 v13.2.length (rf e_i64 v13.2)), (11, ro 0 33 2 l15n (rf e_Span l15)), (12, ro 0 45 1 l16n (rf (e_lst e_Node) l16))]⟩

def edge_Best_L1_T (a4 : Rect) (a5 : Saw) (v10 : (List Piece) × Int × Int) (l27 : List Span) (l28 : List (List Node)) : St :=
  ⟨[(9, vp 0 0), (10, vp 1 0), (18, vi v10.2.1), (21, vo 11 0 2 l27.length), (22, vo 12 0 1 l28.length)], [(0, bx 35 [ci a4.X.A, ci a4.X.B, ci a4.Y.A, ci a4.Y.B]), (1, bx 37 [ci a5.Kerf, ci a5.Trim, ci a5.Pitch, ci a5.Step]), (11, ro 0 33 2 l27.length (rf e_Span l27)), (12, ro 0 45 1 l28.length (rf (e_lst e_Node) l28))]⟩

set_option maxRecDepth 100000 in
theorem edge_Best_L1_ok (E : Env 0) (a4 : Rect) (a5 : Saw) (v10 : (List Piece) × Int × Int) (v13 : (List Int) × (List Int)) : ∀ (n : Nat) (l15 : List Span) (l15n : Nat) (l16 : List (List Node)) (l16n : Nat) (x17 : Int) (res : (List Span) × (List (List Node))), l15.length = l15n → l16.length = l16n → edge_Best_L1 a4 v10 v13 n l15 l16 x17 = some res → HL (kx E 106 0) (nd Tryd.f28 8180) (loopQ0 0 (fun o => edge_Best_L1_T a4 a5 v10 o.1 o.2) res) n (edge_Best_L1_S a4 a5 v10 v13 l15 l15n l16 l16n x17) := by
  intro n
  induction n with
  | zero =>
    intro l15 l15n l16 l16n x17 res hl0 hl1 hm
    cases hm
  | succ n ih =>
    intro l15 l15n l16 l16n x17 res hl0 hl1 hm
    subst hl0
    subst hl1
    refine HL_succ ?_
    refine R_sq Tryd.f28 16360 16361 (by kernel_rfl) ?_
    refine R_rn Tryd.f28 16360 11 [] [] 13 ⟨[(9, vp 0 0), (10, vp 1 0), (18, vi v10.2.1), (19, vo 9 0 1 v13.1.length), (20, vo 10 0 1 v13.2.length), (21, vo 11 0 2 l15.length), (22, vo 12 0 1 l16.length), (60, vo 8 0 2 v10.1.length), (61, vi ((v10.1.length : Nat) : Int)), (62, vi x17), (63, vb (decide (x17 < ((v10.1.length : Nat) : Int))))], [(0, bx 35 [ci a4.X.A, ci a4.X.B, ci a4.Y.A, ci a4.Y.B]), (1, bx 37 [ci a5.Kerf, ci a5.Trim, ci a5.Pitch, ci a5.Step]), (8, ro 0 98 2 v10.1.length (rf e_Piece v10.1)), (9, ro 0 3 1 v13.1.length (rf e_i64 v13.1)), (10, ro 0 3 1 v13.2.length (rf e_i64 v13.2)), (11, ro 0 33 2 l15.length (rf e_Span l15)), (12, ro 0 45 1 l16.length (rf (e_lst e_Node) l16))]⟩ o0 (by kernel_rfl) (by kernel_rfl) ?_
    refine R_sq Tryd.f28 32722 32723 (by kernel_rfl) ?_
    refine R_cn Tryd.f28 (.tmp 63) 65444 65445 (by kernel_rfl) (decide (x17 < ((v10.1.length : Nat) : Int))) (by kernel_rfl) (fun b18 => ?_) (fun b18 => ?_)
    · replace hm := bif_t b18 hm
      refine R_skip (by kernel_rfl) ?_
      refine R_sq Tryd.f28 65446 65447 (by kernel_rfl) ?_
      refine R_bk Tryd.f28 1 130892 (by kernel_rfl) ?_
      refine R_sq Tryd.f28 261784 261785 (by kernel_rfl) ?_
      obtain ⟨g19, hm⟩ := bif_n hm
      refine R_rn Tryd.f28 261784 12 [] [] 13 ⟨[(9, vp 0 0), (10, vp 1 0), (18, vi v10.2.1), (19, vo 9 0 1 v13.1.length), (20, vo 10 0 1 v13.2.length), (21, vo 11 0 2 l15.length), (22, vo 12 0 1 l16.length), (24, vp 13 0), (60, vo 8 0 2 v10.1.length), (61, vi ((v10.1.length : Nat) : Int)), (62, vi x17)], [(0, bx 35 [ci a4.X.A, ci a4.X.B, ci a4.Y.A, ci a4.Y.B]), (1, bx 37 [ci a5.Kerf, ci a5.Trim, ci a5.Pitch, ci a5.Step]), (8, ro 0 98 2 v10.1.length (rf e_Piece v10.1)), (9, ro 0 3 1 v13.1.length (rf e_i64 v13.1)), (10, ro 0 3 1 v13.2.length (rf e_i64 v13.2)), (11, ro 0 33 2 l15.length (rf e_Span l15)), (12, ro 0 45 1 l16.length (rf (e_lst e_Node) l16)), (13, bx 98 [ci ((v10.1.getD x17.toNat default).Size), ci ((v10.1.getD x17.toNat default).At)])]⟩ (o1 (And.intro (inb_of g19) (toNat_lt (inb_of g19)))) (by kernel_rfl) (by kernel_rfl) ?_
      refine R_sq Tryd.f28 523570 523571 (by kernel_rfl) ?_
      obtain ⟨g20, hm⟩ := bif_n hm
      obtain ⟨v21, h22, hm⟩ := bind_s hm
      obtain ⟨g23, hm⟩ := bif_n hm
      refine R_dr Tryd.f28 523570 13 [] [(12, dex (cen [] [] 14 0 (edge_part_x v21) (edge_part_o v21) [67, 69, 77] [])), (14, drw 14 0 (rf e_Span ([v21.X] : List Span))), (15, drw 11 1 (rf e_Span (l15 ++ ([v21.X] : List Span))))] [] [0, 0, 0, 4, 0, 16, 0, 0, 128, 448, 960, 2032, 4094, 8190, 16382, 32767, 65535] 14 ⟨[(9, vp 0 0), (10, vp 1 0), (18, vi v10.2.1), (19, vo 9 0 1 v13.1.length), (20, vo 10 0 1 v13.2.length), (21, vo 11 1 2 (l15.length + 1)), (22, vo 12 0 1 l16.length), (24, vp 13 0), (60, vo 8 0 2 v10.1.length), (61, vi ((v10.1.length : Nat) : Int)), (62, vi x17)], [(0, bx 35 [ci a4.X.A, ci a4.X.B, ci a4.Y.A, ci a4.Y.B]), (1, bx 37 [ci a5.Kerf, ci a5.Trim, ci a5.Pitch, ci a5.Step]), (8, ro 0 98 2 v10.1.length (rf e_Piece v10.1)), (9, ro 0 3 1 v13.1.length (rf e_i64 v13.1)), (10, ro 0 3 1 v13.2.length (rf e_i64 v13.2)), (11, ro 1 33 2 (l15.length + 1) (rf e_Span (l15 ++ ([v21.X] : List Span)))), (12, ro 0 45 1 l16.length (rf (e_lst e_Node) l16)), (13, bx 98 [ci ((v10.1.getD x17.toNat default).Size), ci ((v10.1.getD x17.toNat default).At)])]⟩ (o1 (And.intro (inb_of g20) (And.intro (toNat_lt (inb_of g20)) (And.intro (callS (K := (kx E 106 0)) ⟨[(67, va [ci a4.X.A, ci a4.X.B, ci a4.Y.A, ci a4.Y.B]), (69, vi ((v10.1.getD x17.toNat default).At)), (77, vi (w64 (((v10.1.getD x17.toNat default).At) + (v13.1.getD (((v10.1.getD x17.toNat default).Size).toNat) default))))], []⟩ (opAt (rg Tryd.f28 523570) 12) [] [] 14 o0 rfl (edge_part_ok a4 ((v10.1.getD x17.toNat default).At) (w64 (((v10.1.getD x17.toNat default).At) + (v13.1.getD (((v10.1.getD x17.toNat default).Size).toNat) default))) v21 h22) (.inl rfl) (by kernel_rfl)) (And.intro (litP e_Span default 2 (fun _ => rfl) ([v21.X] : List Span) 1 rfl) (apP e_Span default l15 ([v21.X] : List Span) l15.length 1 2 16 (1 ≤ 1) (Nat.le_refl _) rfl rfl (fun _ => rfl) (room_of g23))))))) (by kernel_rfl) (by kernel_rfl) ?_
      obtain ⟨g24, hm⟩ := bif_n hm
      obtain ⟨v25, h26, hm⟩ := bind_s hm
      refine R_rn Tryd.f28 523571 14 [(7, drw 15 0 (rf e_Node ([(Node.mk 1 (v13.2.getD (((v10.1.getD x17.toNat default).Size).toNat) default))] : List Node))), (8, dpr [.len 15 (([(Node.mk 1 (v13.2.getD (((v10.1.getD x17.toNat default).Size).toNat) default))] : List Node).length)] (dex (cen [(12, 0), (15, 0)] [1, 1] 14 0 (edge_collect_s1_x l16 ([(Node.mk 1 (v13.2.getD (((v10.1.getD x17.toNat default).Size).toNat) default))] : List Node) v25) (edge_collect_s1_o l16 ([(Node.mk 1 (v13.2.getD (((v10.1.getD x17.toNat default).Size).toNat) default))] : List Node) v25) [82, 89] [12, 15])))] [] 15 ⟨[(9, vp 0 0), (10, vp 1 0), (18, vi v10.2.1), (19, vo 9 0 1 v13.1.length), (20, vo 10 0 1 v13.2.length), (21, vo 11 1 2 (l15.length + 1)), (22, vo 12 1 1 v25.2.length), (60, vo 8 0 2 v10.1.length), (61, vi ((v10.1.length : Nat) : Int)), (62, vi x17)], [(0, bx 35 [ci a4.X.A, ci a4.X.B, ci a4.Y.A, ci a4.Y.B]), (1, bx 37 [ci a5.Kerf, ci a5.Trim, ci a5.Pitch, ci a5.Step]), (8, ro 0 98 2 v10.1.length (rf e_Piece v10.1)), (9, ro 0 3 1 v13.1.length (rf e_i64 v13.1)), (10, ro 0 3 1 v13.2.length (rf e_i64 v13.2)), (11, ro 1 33 2 (l15.length + 1) (rf e_Span (l15 ++ ([v21.X] : List Span)))), (12, ro 1 45 1 v25.2.length (rf (e_lst e_Node) v25.2))]⟩ (o1 (And.intro (inb_of g24) (And.intro (toNat_lt (inb_of g24)) (And.intro (litP e_Node default 2 (fun _ => rfl) ([(Node.mk 1 (v13.2.getD (((v10.1.getD x17.toNat default).Size).toNat) default))] : List Node) 1 rfl) (And.intro (And.intro (show 1 = ([(Node.mk 1 (v13.2.getD (((v10.1.getD x17.toNat default).Size).toNat) default))] : List Node).length from rfl) (show 1 = ([(Node.mk 1 (v13.2.getD (((v10.1.getD x17.toNat default).Size).toNat) default))] : List Node).length from rfl)) (callS (K := (kx E 106 0)) ⟨[(82, vo 12 0 1 l16.length), (89, vo 15 0 2 (([(Node.mk 1 (v13.2.getD (((v10.1.getD x17.toNat default).Size).toNat) default))] : List Node).length))], [(12, ro 0 45 1 l16.length (rf (e_lst e_Node) l16)), (15, ro 0 80 2 (([(Node.mk 1 (v13.2.getD (((v10.1.getD x17.toNat default).Size).toNat) default))] : List Node).length) (rf e_Node ([(Node.mk 1 (v13.2.getD (((v10.1.getD x17.toNat default).Size).toNat) default))] : List Node)))]⟩ (opAt (rg Tryd.f28 523571) 8) [(12, 0), (15, 0)] [1, 1] 14 o0 rfl (edge_collect_s1_ok l16 ([(Node.mk 1 (v13.2.getD (((v10.1.getD x17.toNat default).Size).toNat) default))] : List Node) v25 h26) (.inl rfl) (by kernel_rfl))))))) (by kernel_rfl) (by kernel_rfl) ?_
      refine R_rn Tryd.f28 65447 15 [] [] 16 ⟨[(9, vp 0 0), (10, vp 1 0), (18, vi v10.2.1), (19, vo 9 0 1 v13.1.length), (20, vo 10 0 1 v13.2.length), (21, vo 11 1 2 (l15.length + 1)), (22, vo 12 1 1 v25.2.length), (60, vo 8 0 2 v10.1.length), (61, vi ((v10.1.length : Nat) : Int)), (62, vi (w64 (x17 + 1)))], [(0, bx 35 [ci a4.X.A, ci a4.X.B, ci a4.Y.A, ci a4.Y.B]), (1, bx 37 [ci a5.Kerf, ci a5.Trim, ci a5.Pitch, ci a5.Step]), (8, ro 0 98 2 v10.1.length (rf e_Piece v10.1)), (9, ro 0 3 1 v13.1.length (rf e_i64 v13.1)), (10, ro 0 3 1 v13.2.length (rf e_i64 v13.2)), (11, ro 1 33 2 (l15.length + 1) (rf e_Span (l15 ++ ([v21.X] : List Span)))), (12, ro 1 45 1 v25.2.length (rf (e_lst e_Node) v25.2))]⟩ o0 (by kernel_rfl) (by kernel_rfl) ?_
      exact HL_enter (edge_Best_L1_S a4 a5 v10 v13 (l15 ++ ([v21.X] : List Span)) (l15.length + 1) v25.2 v25.2.length (w64 (x17 + 1))) (by kernel_rfl) (by kernel_rfl) (ih (l15 ++ ([v21.X] : List Span)) (l15.length + 1) v25.2 v25.2.length (w64 (x17 + 1)) _ (len_app rfl rfl) rfl hm)
    · replace hm := bif_f b18 hm
      refine R_exit 0 (by kernel_rfl) ?_
      obtain rfl := Option.some.inj hm
      exact L0_mk (by kernel_rfl) (by kernel_rfl)

set_option maxRecDepth 100000 in
theorem edge_Best_ok (a1 : List Slice) (a2 : List Defect) (a3 : List Product) (a4 : Rect) (a5 : Saw) (a6 : Rates) (r : (List Node) × Int × Int) (hm : edge_Best a1 a2 a3 a4 a5 a6 = some r) : CtX Tryd.prog globs 28 0 0 [.one (tl e_Slice default a1), .one (tl e_Defect default a2), .one (tl e_Product default a3), .agg [ci a4.X.A, ci a4.X.B, ci a4.Y.A, ci a4.Y.B], .agg [ci a5.Kerf, ci a5.Trim, ci a5.Pitch, ci a5.Step], .agg [ci a6.Chip, ci a6.Dust, ci a6.Fine]] [] (edge_Best_x r) (edge_Best_o r) := by
  unfold edge_Best at hm
  refine CtX_of_E (fn := Tryd.f28) (c := nd Tryd.f28 1) (nt := 106) (by kernel_rfl) (by kernel_rfl) (by kernel_rfl) (by kernel_rfl) fun E => ?_
  refine R_sq Tryd.f28 2 3 (by kernel_rfl) ?_
  refine R_rn Tryd.f28 2 0 [] [] 0 ⟨[(0, vc (tl e_Slice default a1)), (1, vc (tl e_Defect default a2)), (2, vc (tl e_Product default a3)), (9, vp 0 0), (10, vp 1 0), (11, vp 2 0)], [(0, bx 35 [ci a4.X.A, ci a4.X.B, ci a4.Y.A, ci a4.Y.B]), (1, bx 37 [ci a5.Kerf, ci a5.Trim, ci a5.Pitch, ci a5.Step]), (2, bx 39 [ci a6.Chip, ci a6.Dust, ci a6.Fine])]⟩ o0 (by kernel_rfl) (by kernel_rfl) ?_
  refine R_sq Tryd.f28 6 7 (by kernel_rfl) ?_
  obtain ⟨v7, h8, hm⟩ := bind_s hm
  refine R_rn Tryd.f28 6 1 [(6, dex (cen [] [] 3 0 (edge_Line_x v7) (edge_Line_o v7) [27, 28, 29, 30, 31, 32] []))] [] 3 ⟨[(2, vc (tl e_Product default a3)), (9, vp 0 0), (10, vp 1 0), (15, vp 7 0), (16, vi v7.2)], [(0, bx 35 [ci a4.X.A, ci a4.X.B, ci a4.Y.A, ci a4.Y.B]), (1, bx 37 [ci a5.Kerf, ci a5.Trim, ci a5.Pitch, ci a5.Step]), (3, ro 0 3 1 v7.1.Sizes.length (rf e_i64 v7.1.Sizes)), (4, ro 0 25 1 v7.1.Gain.length (rf (e_lst e_i64) v7.1.Gain)), (5, ro 0 3 1 v7.1.Chip.length (rf e_i64 v7.1.Chip)), (6, ro 0 3 1 v7.1.Dust.length (rf e_i64 v7.1.Dust)), (7, bx 64 [ci v7.1.Len, ci v7.1.Kerf, ci v7.1.Pitch, .own 3 0 1 v7.1.Sizes.length, .own 4 0 1 v7.1.Gain.length, .own 5 0 1 v7.1.Chip.length, .own 6 0 1 v7.1.Dust.length])]⟩ (o1 (callS (K := (kx E 106 0)) ⟨[(27, vc (tl e_Slice default a1)), (28, vc (tl e_Defect default a2)), (29, vc (tl e_Product default a3)), (30, va [ci a4.X.A, ci a4.X.B, ci a4.Y.A, ci a4.Y.B]), (31, va [ci a5.Kerf, ci a5.Trim, ci a5.Pitch, ci a5.Step]), (32, va [ci a6.Chip, ci a6.Dust, ci a6.Fine])], []⟩ (opAt (rg Tryd.f28 6) 6) [] [] 3 o0 rfl (edge_Line_ok a1 a2 a3 a4 a5 a6 v7 h8) (.inl rfl) (by kernel_rfl))) (by kernel_rfl) (by kernel_rfl) ?_
  refine R_sq Tryd.f28 14 15 (by kernel_rfl) ?_
  refine R_sq Tryd.f28 28 29 (by kernel_rfl) ?_
  refine R_rn Tryd.f28 28 2 [] [] 8 ⟨[(2, vc (tl e_Product default a3)), (9, vp 0 0), (10, vp 1 0), (15, vp 7 0), (16, vi v7.2), (37, vb (v7.2 != 0))], [(0, bx 35 [ci a4.X.A, ci a4.X.B, ci a4.Y.A, ci a4.Y.B]), (1, bx 37 [ci a5.Kerf, ci a5.Trim, ci a5.Pitch, ci a5.Step]), (3, ro 0 3 1 v7.1.Sizes.length (rf e_i64 v7.1.Sizes)), (4, ro 0 25 1 v7.1.Gain.length (rf (e_lst e_i64) v7.1.Gain)), (5, ro 0 3 1 v7.1.Chip.length (rf e_i64 v7.1.Chip)), (6, ro 0 3 1 v7.1.Dust.length (rf e_i64 v7.1.Dust)), (7, bx 64 [ci v7.1.Len, ci v7.1.Kerf, ci v7.1.Pitch, .own 3 0 1 v7.1.Sizes.length, .own 4 0 1 v7.1.Gain.length, .own 5 0 1 v7.1.Chip.length, .own 6 0 1 v7.1.Dust.length])]⟩ o0 (by kernel_rfl) (by kernel_rfl) ?_
  refine R_cn Tryd.f28 (.tmp 37) 58 59 (by kernel_rfl) (v7.2 != 0) (by kernel_rfl) (fun b9 => ?_) (fun b9 => ?_)
  · replace hm := bif_t b9 hm
    refine R_sq Tryd.f28 116 117 (by kernel_rfl) ?_
    refine R_rn Tryd.f28 116 3 [] [] 8 ⟨[(12, vc (.emp)), (13, vi 0), (14, vi v7.2)], []⟩ o0 (by kernel_rfl) (by kernel_rfl) ?_
    refine H_fin [.own 12 8 80 2 (rf e_Node ([] : List Node))] ⟨[(12, vo 8 0 2 0), (13, vi 0), (14, vi v7.2)], [(8, ro 0 80 2 0 (rf e_Node ([] : List Node)))]⟩ o0 (by kernel_rfl) ?_
    refine H_fin [.len 8 (([] : List Node).length)] ⟨[(12, vo 8 0 2 (([] : List Node).length)), (13, vi 0), (14, vi v7.2)], [(8, ro 0 80 2 (([] : List Node).length) (rf e_Node ([] : List Node)))]⟩ (o1 (And.intro (show 0 = ([] : List Node).length from rfl) (show 0 = ([] : List Node).length from rfl))) (by kernel_rfl) ?_
    obtain rfl := Option.some.inj hm
    refine H_swap 8 0 (by kernel_rfl) ?_
    refine R_ret (by kernel_rfl) ?_
    exact ret_mk (by kernel_rfl) (by kernel_rfl)
  · replace hm := bif_f b9 hm
    refine R_skip (by kernel_rfl) ?_
    refine R_sq Tryd.f28 30 31 (by kernel_rfl) ?_
    obtain ⟨v10, h11, hm⟩ := bind_s hm
    refine R_rn Tryd.f28 30 4 [(1, dex (cen [] [] 8 0 (cutting_Best_x v10) (cutting_Best_o v10) [40] [3, 4, 5, 6]))] [] 8 ⟨[(2, vc (tl e_Product default a3)), (9, vp 0 0), (10, vp 1 0), (16, vi v10.2.2), (17, vo 8 0 2 v10.1.length), (18, vi v10.2.1)], [(0, bx 35 [ci a4.X.A, ci a4.X.B, ci a4.Y.A, ci a4.Y.B]), (1, bx 37 [ci a5.Kerf, ci a5.Trim, ci a5.Pitch, ci a5.Step]), (8, ro 0 98 2 v10.1.length (rf e_Piece v10.1))]⟩ (o1 (callS (K := (kx E 106 0)) (b := false) ⟨[(40, va [ci v7.1.Len, ci v7.1.Kerf, ci v7.1.Pitch, .own 3 0 1 v7.1.Sizes.length, .own 4 0 1 v7.1.Gain.length, .own 5 0 1 v7.1.Chip.length, .own 6 0 1 v7.1.Dust.length])], [(3, ro 0 3 1 v7.1.Sizes.length (rf e_i64 v7.1.Sizes)), (4, ro 0 25 1 v7.1.Gain.length (rf (e_lst e_i64) v7.1.Gain)), (5, ro 0 3 1 v7.1.Chip.length (rf e_i64 v7.1.Chip)), (6, ro 0 3 1 v7.1.Dust.length (rf e_i64 v7.1.Dust))]⟩ (opAt (rg Tryd.f28 30) 1) [] [] 8 (o1 (And.intro (Nat.le_refl v7.1.Sizes.length) (And.intro (Nat.le_refl v7.1.Gain.length) (And.intro (Nat.le_refl v7.1.Chip.length) (Nat.le_refl v7.1.Dust.length))))) rfl (cutting_Best_ok (Line.mk v7.1.Len v7.1.Kerf v7.1.Pitch v7.1.Sizes v7.1.Gain v7.1.Chip v7.1.Dust) v10 h11) (.inr ⟨(by kernel_rfl), cutting_Best_f v10⟩) (by kernel_rfl))) (by kernel_rfl) (by kernel_rfl) ?_
    refine R_sq Tryd.f28 62 63 (by kernel_rfl) ?_
    refine R_sq Tryd.f28 124 125 (by kernel_rfl) ?_
    refine R_rn Tryd.f28 124 5 [] [] 9 ⟨[(2, vc (tl e_Product default a3)), (9, vp 0 0), (10, vp 1 0), (16, vi v10.2.2), (17, vo 8 0 2 v10.1.length), (18, vi v10.2.1), (46, vb (v10.2.2 != 0))], [(0, bx 35 [ci a4.X.A, ci a4.X.B, ci a4.Y.A, ci a4.Y.B]), (1, bx 37 [ci a5.Kerf, ci a5.Trim, ci a5.Pitch, ci a5.Step]), (8, ro 0 98 2 v10.1.length (rf e_Piece v10.1))]⟩ o0 (by kernel_rfl) (by kernel_rfl) ?_
    refine R_cn Tryd.f28 (.tmp 46) 250 251 (by kernel_rfl) (v10.2.2 != 0) (by kernel_rfl) (fun b12 => ?_) (fun b12 => ?_)
    · replace hm := bif_t b12 hm
      refine R_sq Tryd.f28 500 501 (by kernel_rfl) ?_
      refine R_rn Tryd.f28 500 6 [] [] 9 ⟨[(12, vc (.emp)), (13, vi 0), (14, vi v10.2.2)], []⟩ o0 (by kernel_rfl) (by kernel_rfl) ?_
      refine H_fin [.own 12 9 80 2 (rf e_Node ([] : List Node))] ⟨[(12, vo 9 0 2 0), (13, vi 0), (14, vi v10.2.2)], [(9, ro 0 80 2 0 (rf e_Node ([] : List Node)))]⟩ o0 (by kernel_rfl) ?_
      refine H_fin [.len 9 (([] : List Node).length)] ⟨[(12, vo 9 0 2 (([] : List Node).length)), (13, vi 0), (14, vi v10.2.2)], [(9, ro 0 80 2 (([] : List Node).length) (rf e_Node ([] : List Node)))]⟩ (o1 (And.intro (show 0 = ([] : List Node).length from rfl) (show 0 = ([] : List Node).length from rfl))) (by kernel_rfl) ?_
      obtain rfl := Option.some.inj hm
      refine H_swap 9 0 (by kernel_rfl) ?_
      refine R_ret (by kernel_rfl) ?_
      exact ret_mk (by kernel_rfl) (by kernel_rfl)
    · replace hm := bif_f b12 hm
      refine R_skip (by kernel_rfl) ?_
      refine R_sq Tryd.f28 126 127 (by kernel_rfl) ?_
      obtain ⟨v13, h14, hm⟩ := bind_s hm
      refine R_rn Tryd.f28 126 7 [(8, dex (cen [] [] 9 0 (edge_Sizes_x v13) (edge_Sizes_o v13) [49, 56] []))] [] 9 ⟨[(9, vp 0 0), (10, vp 1 0), (17, vo 8 0 2 v10.1.length), (18, vi v10.2.1), (19, vo 9 0 1 v13.1.length), (20, vo 10 0 1 v13.2.length)], [(0, bx 35 [ci a4.X.A, ci a4.X.B, ci a4.Y.A, ci a4.Y.B]), (1, bx 37 [ci a5.Kerf, ci a5.Trim, ci a5.Pitch, ci a5.Step]), (8, ro 0 98 2 v10.1.length (rf e_Piece v10.1)), (9, ro 0 3 1 v13.1.length (rf e_i64 v13.1)), (10, ro 0 3 1 v13.2.length (rf e_i64 v13.2))]⟩ (o1 (callS (K := (kx E 106 0)) ⟨[(49, vc (tl e_Product default a3)), (56, vi (w64 (a4.Y.B - a4.Y.A)))], []⟩ (opAt (rg Tryd.f28 126) 8) [] [] 9 o0 rfl (edge_Sizes_ok a3 (w64 (a4.Y.B - a4.Y.A)) v13 h14) (.inl rfl) (by kernel_rfl))) (by kernel_rfl) (by kernel_rfl) ?_
      refine R_sq Tryd.f28 254 255 (by kernel_rfl) ?_
      refine R_rn Tryd.f28 254 8 [] [] 11 ⟨[(9, vp 0 0), (10, vp 1 0), (17, vo 8 0 2 v10.1.length), (18, vi v10.2.1), (19, vo 9 0 1 v13.1.length), (20, vo 10 0 1 v13.2.length), (21, vc (.emp))], [(0, bx 35 [ci a4.X.A, ci a4.X.B, ci a4.Y.A, ci a4.Y.B]), (1, bx 37 [ci a5.Kerf, ci a5.Trim, ci a5.Pitch, ci a5.Step]), (8, ro 0 98 2 v10.1.length (rf e_Piece v10.1)), (9, ro 0 3 1 v13.1.length (rf e_i64 v13.1)), (10, ro 0 3 1 v13.2.length (rf e_i64 v13.2))]⟩ o0 (by kernel_rfl) (by kernel_rfl) ?_
      refine R_sq Tryd.f28 510 511 (by kernel_rfl) ?_
      refine R_rn Tryd.f28 510 9 [] [] 11 ⟨[(9, vp 0 0), (10, vp 1 0), (17, vo 8 0 2 v10.1.length), (18, vi v10.2.1), (19, vo 9 0 1 v13.1.length), (20, vo 10 0 1 v13.2.length), (21, vc (.emp)), (22, vc (.emp))], [(0, bx 35 [ci a4.X.A, ci a4.X.B, ci a4.Y.A, ci a4.Y.B]), (1, bx 37 [ci a5.Kerf, ci a5.Trim, ci a5.Pitch, ci a5.Step]), (8, ro 0 98 2 v10.1.length (rf e_Piece v10.1)), (9, ro 0 3 1 v13.1.length (rf e_i64 v13.1)), (10, ro 0 3 1 v13.2.length (rf e_i64 v13.2))]⟩ o0 (by kernel_rfl) (by kernel_rfl) ?_
      refine R_sq Tryd.f28 1022 1023 (by kernel_rfl) ?_
      refine R_sq Tryd.f28 2044 2045 (by kernel_rfl) ?_
      refine R_rn Tryd.f28 2044 10 [] [] 11 ⟨[(9, vp 0 0), (10, vp 1 0), (18, vi v10.2.1), (19, vo 9 0 1 v13.1.length), (20, vo 10 0 1 v13.2.length), (21, vc (.emp)), (22, vc (.emp)), (60, vo 8 0 2 v10.1.length), (61, vi ((v10.1.length : Nat) : Int)), (62, vi 0)], [(0, bx 35 [ci a4.X.A, ci a4.X.B, ci a4.Y.A, ci a4.Y.B]), (1, bx 37 [ci a5.Kerf, ci a5.Trim, ci a5.Pitch, ci a5.Step]), (8, ro 0 98 2 v10.1.length (rf e_Piece v10.1)), (9, ro 0 3 1 v13.1.length (rf e_i64 v13.1)), (10, ro 0 3 1 v13.2.length (rf e_i64 v13.2))]⟩ o0 (by kernel_rfl) (by kernel_rfl) ?_
      refine H_fin [.own 21 11 33 2 (rf e_Span ([] : List Span))] ⟨[(9, vp 0 0), (10, vp 1 0), (18, vi v10.2.1), (19, vo 9 0 1 v13.1.length), (20, vo 10 0 1 v13.2.length), (21, vo 11 0 2 0), (22, vc (.emp)), (60, vo 8 0 2 v10.1.length), (61, vi ((v10.1.length : Nat) : Int)), (62, vi 0)], [(0, bx 35 [ci a4.X.A, ci a4.X.B, ci a4.Y.A, ci a4.Y.B]), (1, bx 37 [ci a5.Kerf, ci a5.Trim, ci a5.Pitch, ci a5.Step]), (8, ro 0 98 2 v10.1.length (rf e_Piece v10.1)), (9, ro 0 3 1 v13.1.length (rf e_i64 v13.1)), (10, ro 0 3 1 v13.2.length (rf e_i64 v13.2)), (11, ro 0 33 2 0 (rf e_Span ([] : List Span)))]⟩ o0 (by kernel_rfl) ?_
      refine H_fin [.own 22 12 45 1 (rf (e_lst e_Node) ([] : List (List Node)))] ⟨[(9, vp 0 0), (10, vp 1 0), (18, vi v10.2.1), (19, vo 9 0 1 v13.1.length), (20, vo 10 0 1 v13.2.length), (21, vo 11 0 2 0), (22, vo 12 0 1 0), (60, vo 8 0 2 v10.1.length), (61, vi ((v10.1.length : Nat) : Int)), (62, vi 0)], [(0, bx 35 [ci a4.X.A, ci a4.X.B, ci a4.Y.A, ci a4.Y.B]), (1, bx 37 [ci a5.Kerf, ci a5.Trim, ci a5.Pitch, ci a5.Step]), (8, ro 0 98 2 v10.1.length (rf e_Piece v10.1)), (9, ro 0 3 1 v13.1.length (rf e_i64 v13.1)), (10, ro 0 3 1 v13.2.length (rf e_i64 v13.2)), (11, ro 0 33 2 0 (rf e_Span ([] : List Span))), (12, ro 0 45 1 0 (rf (e_lst e_Node) ([] : List (List Node))))]⟩ o0 (by kernel_rfl) ?_
      obtain ⟨o29, h30, hm⟩ := bind_s hm
      refine R_loop0 (nd Tryd.f28 8180) 0 (by kernel_rfl) FUEL (fun o => edge_Best_L1_T a4 a5 v10 o.1 o.2) o29 (HL_enter (edge_Best_L1_S a4 a5 v10 v13 ([] : List Span) 0 ([] : List (List Node)) 0 0) (by kernel_rfl) (by kernel_rfl) (edge_Best_L1_ok E a4 a5 v10 v13 FUEL ([] : List Span) 0 ([] : List (List Node)) 0 0 o29 rfl rfl h30)) ?_
      refine R_sq Tryd.f28 2046 2047 (by kernel_rfl) ?_
      obtain ⟨v31, h32, hm⟩ := bind_s hm
      refine R_rn Tryd.f28 2046 16 [(5, dex (cen [] [] 13 0 (pattern_Row_x v31) (pattern_Row_o v31) [93, 95, 96, 97] [11, 12]))] [] 13 ⟨[(16, vi v31.2), (18, vi v10.2.1), (25, vo 13 0 2 v31.1.length)], [(13, ro 0 80 2 v31.1.length (rf e_Node v31.1))]⟩ (o1 (callS (K := (kx E 106 0)) (b := false) ⟨[(93, va [ci a4.X.A, ci a4.X.B, ci a4.Y.A, ci a4.Y.B]), (95, vi a5.Kerf), (96, vo 11 0 2 o29.1.length), (97, vo 12 0 1 o29.2.length)], [(11, ro 0 33 2 o29.1.length (rf e_Span o29.1)), (12, ro 0 45 1 o29.2.length (rf (e_lst e_Node) o29.2))]⟩ (opAt (rg Tryd.f28 2046) 5) [] [] 13 (o1 (And.intro (Nat.le_refl o29.1.length) (Nat.le_refl o29.2.length))) rfl (pattern_Row_ok a4 2 a5.Kerf o29.1 o29.2 v31 h32) (.inr ⟨(by kernel_rfl), pattern_Row_f v31⟩) (by kernel_rfl))) (by kernel_rfl) (by kernel_rfl) ?_
      refine R_sq Tryd.f28 4094 4095 (by kernel_rfl) ?_
      refine R_sq Tryd.f28 8188 8189 (by kernel_rfl) ?_
      refine R_rn Tryd.f28 8188 17 [] [] 14 ⟨[(16, vi v31.2), (18, vi v10.2.1), (25, vo 13 0 2 v31.1.length), (102, vb (v31.2 != 0))], [(13, ro 0 80 2 v31.1.length (rf e_Node v31.1))]⟩ o0 (by kernel_rfl) (by kernel_rfl) ?_
      refine R_cn Tryd.f28 (.tmp 102) 16378 16379 (by kernel_rfl) (v31.2 != 0) (by kernel_rfl) (fun b33 => ?_) (fun b33 => ?_)
      · replace hm := bif_t b33 hm
        refine R_sq Tryd.f28 32756 32757 (by kernel_rfl) ?_
        refine R_rn Tryd.f28 32756 18 [] [] 14 ⟨[(12, vc (.emp)), (13, vi 0), (14, vi v31.2)], []⟩ o0 (by kernel_rfl) (by kernel_rfl) ?_
        refine H_fin [.own 12 14 80 2 (rf e_Node ([] : List Node))] ⟨[(12, vo 14 0 2 0), (13, vi 0), (14, vi v31.2)], [(14, ro 0 80 2 0 (rf e_Node ([] : List Node)))]⟩ o0 (by kernel_rfl) ?_
        refine H_fin [.len 14 (([] : List Node).length)] ⟨[(12, vo 14 0 2 (([] : List Node).length)), (13, vi 0), (14, vi v31.2)], [(14, ro 0 80 2 (([] : List Node).length) (rf e_Node ([] : List Node)))]⟩ (o1 (And.intro (show 0 = ([] : List Node).length from rfl) (show 0 = ([] : List Node).length from rfl))) (by kernel_rfl) ?_
        obtain rfl := Option.some.inj hm
        refine H_swap 14 0 (by kernel_rfl) ?_
        refine R_ret (by kernel_rfl) ?_
        exact ret_mk (by kernel_rfl) (by kernel_rfl)
      · replace hm := bif_f b33 hm
        refine R_skip (by kernel_rfl) ?_
        refine R_sq Tryd.f28 8190 8191 (by kernel_rfl) ?_
        refine R_rn Tryd.f28 8190 19 [] [] 14 ⟨[(12, vo 13 0 2 v31.1.length), (13, vi v10.2.1), (14, vi 0)], [(13, ro 0 80 2 v31.1.length (rf e_Node v31.1))]⟩ o0 (by kernel_rfl) (by kernel_rfl) ?_
        obtain rfl := Option.some.inj hm
        refine H_swap 13 0 (by kernel_rfl) ?_
        refine R_ret (by kernel_rfl) ?_
        exact ret_mk (by kernel_rfl) (by kernel_rfl)

end Saw
end Go.SL

namespace Go.SL
namespace Saw
open Go.Proofs
set_option maxHeartbeats 4000000

def ref19_sized_x (r : Bool) : V := vb r

def ref19_sized_o (r : Bool) : List (Nat × (Nat × O)) := []

theorem ref19_sized_f (r : Bool) : Frozen (ref19_sized_o r) := by
  intro i k o h
  unfold ref19_sized_o at h
  cases h

def ref19_sized_k1_S (x5 : Bool) : St :=
  ⟨[(2, vb x5)], []⟩

set_option maxRecDepth 100000 in
theorem ref19_sized_ok (a1 : Product) (r : Bool) (hm : ref19_sized a1 = some r) : CtX Tryd.prog globs 53 0 0 [.agg [cs a1.Name, ci a1.Thick, ci a1.Width, ci a1.Allow, ci a1.Wane, tl e_i64 default a1.Lengths, tl e_i64 default a1.Prices]] [] (ref19_sized_x r) (ref19_sized_o r) := by
  unfold ref19_sized at hm
  refine CtX_of_E (fn := Tryd.f53) (c := nd Tryd.f53 1) (nt := 21) (by kernel_rfl) (by kernel_rfl) (by kernel_rfl) (by kernel_rfl) fun E => ?_
  refine R_sq Tryd.f53 2 3 (by kernel_rfl) ?_
  refine R_rn Tryd.f53 2 0 [] [] 0 ⟨[(1, vp 0 0)], [(0, bx 43 [cs a1.Name, ci a1.Thick, ci a1.Width, ci a1.Allow, ci a1.Wane, tl e_i64 default a1.Lengths, tl e_i64 default a1.Prices])]⟩ o0 (by kernel_rfl) (by kernel_rfl) ?_
  refine R_join (ι := Bool) (nd Tryd.f53 6) (nd Tryd.f53 7) (by kernel_rfl) (fun p => ref19_sized_k1_S p) (fun p => ref19_sized_k1 p = some r) ?_ ?_
  · rintro x5 hm
    show H _ (ref19_sized_k1_S x5) (nd Tryd.f53 7) _
    obtain rfl := Option.some.inj hm
    refine R_ret (by kernel_rfl) ?_
    exact ret_mk (by kernel_rfl) (by kernel_rfl)
  · rcases Bool.eq_false_or_eq_true (decide (a1.Thick ≥ 1)) with b2 | b2
    · replace hm := bif_t b2 hm
      rcases Bool.eq_false_or_eq_true (decide (a1.Thick ≤ 600)) with b3 | b3
      · replace hm := bif_t b3 hm
        rcases Bool.eq_false_or_eq_true (decide (a1.Width ≥ 1)) with b4 | b4
        · replace hm := bif_t b4 hm
          refine R_rn Tryd.f53 6 1 [(3, dfx true), (8, dfx true), (13, dfx true)] [] 1 ⟨[(2, vb (decide (a1.Width ≤ 600)))], []⟩ (o1 (And.intro b2 (And.intro b3 b4))) (by kernel_rfl) (by kernel_rfl) ?_
          exact J_mk (decide (a1.Width ≤ 600)) hm (by kernel_rfl) (by kernel_rfl)
        · replace hm := bif_f b4 hm
          refine R_rn Tryd.f53 6 1 [(3, dfx true), (8, dfx true), (13, dfx false)] [] 1 ⟨[(2, vb false)], []⟩ (o1 (And.intro b2 (And.intro b3 b4))) (by kernel_rfl) (by kernel_rfl) ?_
          exact J_mk (false) hm (by kernel_rfl) (by kernel_rfl)
      · replace hm := bif_f b3 hm
        refine R_rn Tryd.f53 6 1 [(3, dfx true), (8, dfx false)] [] 1 ⟨[(2, vb false)], []⟩ (o1 (And.intro b2 b3)) (by kernel_rfl) (by kernel_rfl) ?_
        exact J_mk (false) hm (by kernel_rfl) (by kernel_rfl)
    · replace hm := bif_f b2 hm
      refine R_rn Tryd.f53 6 1 [(3, dfx false)] [] 1 ⟨[(2, vb false)], []⟩ (o1 b2) (by kernel_rfl) (by kernel_rfl) ?_
      exact J_mk (false) hm (by kernel_rfl) (by kernel_rfl)

end Saw
end Go.SL

namespace Go.SL
namespace Saw
open Go.Proofs
set_option maxHeartbeats 4000000

def ref19_Green_x (r : Int × Int) : V := .tup [.one (ci r.1), .one (ci r.2)]

def ref19_Green_o (r : Int × Int) : List (Nat × (Nat × O)) := []

theorem ref19_Green_f (r : Int × Int) : Frozen (ref19_Green_o r) := by
  intro i k o h
  unfold ref19_Green_o at h
  cases h

def ref19_Green_k1_S (a1 : Product) (x6 : Bool) : St :=
  ⟨[(1, vp 0 0), (16, vb x6)], [(0, bx 43 [cs a1.Name, ci a1.Thick, ci a1.Width, ci a1.Allow, ci a1.Wane, tl e_i64 default a1.Lengths, tl e_i64 default a1.Prices])]⟩

set_option maxRecDepth 100000 in
theorem ref19_Green_ok (a1 : Product) (r : Int × Int) (hm : ref19_Green a1 = some r) : CtX Tryd.prog globs 26 0 0 [.agg [cs a1.Name, ci a1.Thick, ci a1.Width, ci a1.Allow, ci a1.Wane, tl e_i64 default a1.Lengths, tl e_i64 default a1.Prices]] [] (ref19_Green_x r) (ref19_Green_o r) := by
  unfold ref19_Green at hm
  refine CtX_of_E (fn := Tryd.f26) (c := nd Tryd.f26 1) (nt := 33) (by kernel_rfl) (by kernel_rfl) (by kernel_rfl) (by kernel_rfl) fun E => ?_
  refine R_sq Tryd.f26 2 3 (by kernel_rfl) ?_
  refine R_rn Tryd.f26 2 0 [] [] 0 ⟨[(1, vp 0 0)], [(0, bx 43 [cs a1.Name, ci a1.Thick, ci a1.Width, ci a1.Allow, ci a1.Wane, tl e_i64 default a1.Lengths, tl e_i64 default a1.Prices])]⟩ o0 (by kernel_rfl) (by kernel_rfl) ?_
  refine R_sq Tryd.f26 6 7 (by kernel_rfl) ?_
  refine R_join (ι := Bool) (nd Tryd.f26 12) (nd Tryd.f26 13) (by kernel_rfl) (fun p => ref19_Green_k1_S a1 p) (fun p => ref19_Green_k1 a1 p = some r) ?_ ?_
  · rintro x6 hm
    show H _ (ref19_Green_k1_S a1 x6) (nd Tryd.f26 13) _
    refine R_cn Tryd.f26 (.tmp 16) 26 27 (by kernel_rfl) x6 (by kernel_rfl) (fun b7 => ?_) (fun b7 => ?_)
    · replace hm := bif_t b7 hm
      refine R_sq Tryd.f26 52 53 (by kernel_rfl) ?_
      refine R_rn Tryd.f26 52 2 [] [] 1 ⟨[(2, vi 0), (3, vi 0)], []⟩ o0 (by kernel_rfl) (by kernel_rfl) ?_
      obtain rfl := Option.some.inj hm
      refine R_ret (by kernel_rfl) ?_
      exact ret_mk (by kernel_rfl) (by kernel_rfl)
    · replace hm := bif_f b7 hm
      refine R_skip (by kernel_rfl) ?_
      refine R_sq Tryd.f26 14 15 (by kernel_rfl) ?_
      refine R_dr Tryd.f26 14 3 [] [] [] [0, 1, 0, 4, 12, 31, 63, 127, 0, 256, 0, 1024, 3072, 7936, 16128, 32512, 255, 131071] 1 ⟨[(2, vi (w64 (Int.tdiv (w64 ((w64 (a1.Thick * (w64 (1000 + a1.Allow)))) + 999)) 1000))), (3, vi (w64 (Int.tdiv (w64 ((w64 (a1.Width * (w64 (1000 + a1.Allow)))) + 999)) 1000)))], []⟩ (o1 (And.intro (show (1000 : Int) ≠ 0 by decide) (show (1000 : Int) ≠ 0 by decide))) (by kernel_rfl) (by kernel_rfl) ?_
      obtain rfl := Option.some.inj hm
      refine R_ret (by kernel_rfl) ?_
      exact ret_mk (by kernel_rfl) (by kernel_rfl)
  · obtain ⟨v2, h3, hm⟩ := bind_s hm
    rcases Bool.eq_false_or_eq_true (!v2) with b4 | b4
    · replace hm := bif_t b4 hm
      refine R_rn Tryd.f26 12 1 [(1, dex (cen [] [] 1 0 (ref19_sized_x v2) (ref19_sized_o v2) [4] [])), (3, dfx true)] [] 1 ⟨[(1, vp 0 0), (16, vb true)], [(0, bx 43 [cs a1.Name, ci a1.Thick, ci a1.Width, ci a1.Allow, ci a1.Wane, tl e_i64 default a1.Lengths, tl e_i64 default a1.Prices])]⟩ (o1 (And.intro (callS (K := (kx E 33 0)) ⟨[(4, va [cs a1.Name, ci a1.Thick, ci a1.Width, ci a1.Allow, ci a1.Wane, tl e_i64 default a1.Lengths, tl e_i64 default a1.Prices])], []⟩ (opAt (rg Tryd.f26 12) 1) [] [] 1 o0 rfl (ref19_sized_ok a1 v2 h3) (.inl rfl) (by kernel_rfl)) b4)) (by kernel_rfl) (by kernel_rfl) ?_
      exact J_mk (true) hm (by kernel_rfl) (by kernel_rfl)
    · replace hm := bif_f b4 hm
      rcases Bool.eq_false_or_eq_true (decide (a1.Allow < 0)) with b5 | b5
      · replace hm := bif_t b5 hm
        refine R_rn Tryd.f26 12 1 [(1, dex (cen [] [] 1 0 (ref19_sized_x v2) (ref19_sized_o v2) [4] [])), (3, dfx false), (8, dfx true)] [] 1 ⟨[(1, vp 0 0), (16, vb true)], [(0, bx 43 [cs a1.Name, ci a1.Thick, ci a1.Width, ci a1.Allow, ci a1.Wane, tl e_i64 default a1.Lengths, tl e_i64 default a1.Prices])]⟩ (o1 (And.intro (callS (K := (kx E 33 0)) ⟨[(4, va [cs a1.Name, ci a1.Thick, ci a1.Width, ci a1.Allow, ci a1.Wane, tl e_i64 default a1.Lengths, tl e_i64 default a1.Prices])], []⟩ (opAt (rg Tryd.f26 12) 1) [] [] 1 o0 rfl (ref19_sized_ok a1 v2 h3) (.inl rfl) (by kernel_rfl)) (And.intro b4 b5))) (by kernel_rfl) (by kernel_rfl) ?_
        exact J_mk (true) hm (by kernel_rfl) (by kernel_rfl)
      · replace hm := bif_f b5 hm
        refine R_rn Tryd.f26 12 1 [(1, dex (cen [] [] 1 0 (ref19_sized_x v2) (ref19_sized_o v2) [4] [])), (3, dfx false), (8, dfx false)] [] 1 ⟨[(1, vp 0 0), (16, vb (decide (a1.Allow > 200)))], [(0, bx 43 [cs a1.Name, ci a1.Thick, ci a1.Width, ci a1.Allow, ci a1.Wane, tl e_i64 default a1.Lengths, tl e_i64 default a1.Prices])]⟩ (o1 (And.intro (callS (K := (kx E 33 0)) ⟨[(4, va [cs a1.Name, ci a1.Thick, ci a1.Width, ci a1.Allow, ci a1.Wane, tl e_i64 default a1.Lengths, tl e_i64 default a1.Prices])], []⟩ (opAt (rg Tryd.f26 12) 1) [] [] 1 o0 rfl (ref19_sized_ok a1 v2 h3) (.inl rfl) (by kernel_rfl)) (And.intro b4 b5))) (by kernel_rfl) (by kernel_rfl) ?_
        exact J_mk (decide (a1.Allow > 200)) hm (by kernel_rfl) (by kernel_rfl)

end Saw
end Go.SL

namespace Go.SL
namespace Saw
open Go.Proofs
set_option maxHeartbeats 4000000

def ref02_digit_x (r : Bool) : V := vb r

def ref02_digit_o (r : Bool) : List (Nat × (Nat × O)) := []

theorem ref02_digit_f (r : Bool) : Frozen (ref02_digit_o r) := by
  intro i k o h
  unfold ref02_digit_o at h
  cases h

def ref02_digit_k1_S (x3 : Bool) : St :=
  ⟨[(2, vb x3)], []⟩

set_option maxRecDepth 100000 in
theorem ref02_digit_ok (a1 : Int) (r : Bool) (hm : ref02_digit a1 = some r) : CtX Tryd.prog globs 84 0 0 [.one (.val (.int .u8 a1))] [] (ref02_digit_x r) (ref02_digit_o r) := by
  unfold ref02_digit at hm
  refine CtX_of_E (fn := Tryd.f84) (c := nd Tryd.f84 1) (nt := 9) (by kernel_rfl) (by kernel_rfl) (by kernel_rfl) (by kernel_rfl) fun E => ?_
  refine R_sq Tryd.f84 2 3 (by kernel_rfl) ?_
  refine R_rn Tryd.f84 2 0 [] [] 0 ⟨[(0, vc (.val (.int .u8 a1)))], []⟩ o0 (by kernel_rfl) (by kernel_rfl) ?_
  refine R_join (ι := Bool) (nd Tryd.f84 6) (nd Tryd.f84 7) (by kernel_rfl) (fun p => ref02_digit_k1_S p) (fun p => ref02_digit_k1 p = some r) ?_ ?_
  · rintro x3 hm
    show H _ (ref02_digit_k1_S x3) (nd Tryd.f84 7) _
    obtain rfl := Option.some.inj hm
    refine R_ret (by kernel_rfl) ?_
    exact ret_mk (by kernel_rfl) (by kernel_rfl)
  · rcases Bool.eq_false_or_eq_true (decide (a1 ≥ 48)) with b2 | b2
    · replace hm := bif_t b2 hm
      refine R_rn Tryd.f84 6 1 [(2, dfx true)] [] 0 ⟨[(2, vb (decide (a1 ≤ 57)))], []⟩ (o1 b2) (by kernel_rfl) (by kernel_rfl) ?_
      exact J_mk (decide (a1 ≤ 57)) hm (by kernel_rfl) (by kernel_rfl)
    · replace hm := bif_f b2 hm
      refine R_rn Tryd.f84 6 1 [(2, dfx false)] [] 0 ⟨[(2, vb false)], []⟩ (o1 b2) (by kernel_rfl) (by kernel_rfl) ?_
      exact J_mk (false) hm (by kernel_rfl) (by kernel_rfl)

end Saw
end Go.SL

namespace Go.SL
namespace Saw
open Go.Proofs
set_option maxHeartbeats 4000000

def ref02_IsName_x (r : Bool) : V := vb r

def ref02_IsName_o (r : Bool) : List (Nat × (Nat × O)) := []

theorem ref02_IsName_f (r : Bool) : Frozen (ref02_IsName_o r) := by
  intro i k o h
  unfold ref02_IsName_o at h
  cases h

def ref02_IsName_k4_S (a1 : ByteArray) (x5 : Int) (x16 : Bool) : St :=
  ⟨[(0, vc (cs a1)), (3, vi x5), (47, vb x16)], []⟩

def ref02_IsName_k3_S (a1 : ByteArray) (x5 : Int) (x9 : Bool) : St :=
  ⟨[(0, vc (cs a1)), (3, vi x5), (4, vb x9)], []⟩

def ref02_IsName_L2_S (a1 : ByteArray) (x5 : Int) : St :=
  ⟨[(0, vc (cs a1)), (3, vi x5)], []⟩

def ref02_IsName_L2_T : St :=
  ⟨[], []⟩

def ref02_IsName_k1_S (a1 : ByteArray) (x3 : Bool) : St :=
  ⟨[(0, vc (cs a1)), (12, vb x3)], []⟩

set_option maxRecDepth 100000 in
theorem ref02_IsName_L2_ok (E : Env 0) (a1 : ByteArray) : ∀ (n : Nat) (x5 : Int) (res : Bool ⊕ Unit), ref02_IsName_L2 a1 n x5 = some res → HL (kx E 48 0) (nd Tryd.f51 116) (loopQ 0 (fun o => ref02_IsName_L2_T) (fun v st => RetQ Tryd.prog Tryd.f51 (ref02_IsName_x v) (ref02_IsName_o v) .ret st) res) n (ref02_IsName_L2_S a1 x5) := by
  intro n
  induction n with
  | zero =>
    intro x5 res hm
    cases hm
  | succ n ih =>
    intro x5 res hm
    refine HL_succ ?_
    refine R_sq Tryd.f51 232 233 (by kernel_rfl) ?_
    refine R_sq Tryd.f51 464 465 (by kernel_rfl) ?_
    refine R_rn Tryd.f51 464 4 [] [] 0 ⟨[(0, vc (cs a1)), (3, vi x5), (16, vb (decide (x5 < ((a1.size : Nat) : Int))))], []⟩ o0 (by kernel_rfl) (by kernel_rfl) ?_
    refine R_cn Tryd.f51 (.tmp 16) 930 931 (by kernel_rfl) (decide (x5 < ((a1.size : Nat) : Int))) (by kernel_rfl) (fun b6 => ?_) (fun b6 => ?_)
    · replace hm := bif_t b6 hm
      refine R_skip (by kernel_rfl) ?_
      refine R_sq Tryd.f51 466 467 (by kernel_rfl) ?_
      refine R_bk Tryd.f51 1 932 (by kernel_rfl) ?_
      refine R_join (ι := Bool) (nd Tryd.f51 1864) (nd Tryd.f51 1865) (by kernel_rfl) (fun p => ref02_IsName_k3_S a1 x5 p) (fun p => ref02_IsName_k3 a1 x5 (ref02_IsName_L2 a1 n) p = some res) ?_ ?_
      · rintro x9 hm
        show H _ (ref02_IsName_k3_S a1 x5 x9) (nd Tryd.f51 1865) _
        refine R_join (ι := Bool) (nd Tryd.f51 3730) (nd Tryd.f51 3731) (by kernel_rfl) (fun p => ref02_IsName_k4_S a1 x5 p) (fun p => ref02_IsName_k4 x5 (ref02_IsName_L2 a1 n) p = some res) ?_ ?_
        · rintro x16 hm
          show H _ (ref02_IsName_k4_S a1 x5 x16) (nd Tryd.f51 3731) _
          refine R_cn Tryd.f51 (.tmp 47) 7462 7463 (by kernel_rfl) x16 (by kernel_rfl) (fun b17 => ?_) (fun b17 => ?_)
          · replace hm := bif_t b17 hm
            refine R_sq Tryd.f51 14924 14925 (by kernel_rfl) ?_
            refine R_rn Tryd.f51 14924 8 [] [] 0 ⟨[(2, vb false)], []⟩ o0 (by kernel_rfl) (by kernel_rfl) ?_
            obtain rfl := Option.some.inj hm
            refine R_ret (by kernel_rfl) ?_
            refine L1_ret false ?_
            exact ret_mk (by kernel_rfl) (by kernel_rfl)
          · replace hm := bif_f b17 hm
            refine R_skip (by kernel_rfl) ?_
            refine R_rn Tryd.f51 467 5 [] [] 0 ⟨[(0, vc (cs a1)), (3, vi (w64 (x5 + 1)))], []⟩ o0 (by kernel_rfl) (by kernel_rfl) ?_
            exact HL_enter (ref02_IsName_L2_S a1 (w64 (x5 + 1))) (by kernel_rfl) (by kernel_rfl) (ih (w64 (x5 + 1)) _ hm)
        · rcases Bool.eq_false_or_eq_true (!x9) with b10 | b10
          · replace hm := bif_t b10 hm
            rcases Bool.eq_false_or_eq_true (x5 == 0) with b11 | b11
            · replace hm := bif_t b11 hm
              refine R_rn Tryd.f51 3730 7 [(2, dfx true), (5, dfx true)] [] 0 ⟨[(0, vc (cs a1)), (3, vi x5), (32, vi x5), (33, vb (x5 == 0)), (34, vb true), (46, vb true), (47, vb true)], []⟩ (o1 (And.intro b10 b11)) (by kernel_rfl) (by kernel_rfl) ?_
              exact J_mk (true) hm (by kernel_rfl) (by kernel_rfl)
            · replace hm := bif_f b11 hm
              obtain ⟨g12, hm⟩ := bif_n hm
              rcases Bool.eq_false_or_eq_true ((strAt a1 x5.toNat) != 95) with b13 | b13
              · replace hm := bif_t b13 hm
                obtain ⟨v14, h15, hm⟩ := bind_s hm
                refine R_rn Tryd.f51 3730 7 [(2, dfx true), (5, dfx false), (10, dfx true), (14, dex (cen [] [] 0 0 (ref02_digit_x v14) (ref02_digit_o v14) [39, 42] []))] [] 0 ⟨[(0, vc (cs a1)), (3, vi x5), (32, vi x5), (33, vb (x5 == 0)), (34, vb false), (35, vc (cs a1)), (36, vi x5), (37, vc (.val (.int .u8 (strAt a1 x5.toNat)))), (38, vb ((strAt a1 x5.toNat) != 95)), (39, vb true), (40, vc (cs a1)), (41, vi x5), (42, vc (.val (.int .u8 (strAt a1 x5.toNat)))), (43, vb v14), (44, vb (!v14)), (45, vb (!v14)), (46, vb (!v14)), (47, vb (!v14))], []⟩ (o1 (And.intro b10 (And.intro b11 (And.intro (inb_of g12) (And.intro b13 (And.intro (inb_of g12) (callS (K := (kx E 48 0)) ⟨[(39, vb true), (42, vc (.val (.int .u8 (strAt a1 x5.toNat))))], []⟩ (opAt (rg Tryd.f51 3730) 14) [] [] 0 o0 rfl (ref02_digit_ok (strAt a1 x5.toNat) v14 h15) (.inl rfl) (by kernel_rfl)))))))) (by kernel_rfl) (by kernel_rfl) ?_
                exact J_mk (!v14) hm (by kernel_rfl) (by kernel_rfl)
              · replace hm := bif_f b13 hm
                refine R_rn Tryd.f51 3730 7 [(2, dfx true), (5, dfx false), (10, dfx false)] [] 0 ⟨[(0, vc (cs a1)), (3, vi x5), (32, vi x5), (33, vb (x5 == 0)), (34, vb false), (35, vc (cs a1)), (36, vi x5), (37, vc (.val (.int .u8 (strAt a1 x5.toNat)))), (38, vb ((strAt a1 x5.toNat) != 95)), (39, vb false), (45, vb false), (46, vb false), (47, vb false)], []⟩ (o1 (And.intro b10 (And.intro b11 (And.intro (inb_of g12) b13)))) (by kernel_rfl) (by kernel_rfl) ?_
                exact J_mk (false) hm (by kernel_rfl) (by kernel_rfl)
          · replace hm := bif_f b10 hm
            refine R_rn Tryd.f51 3730 7 [(2, dfx false)] [] 0 ⟨[(0, vc (cs a1)), (3, vi x5), (47, vb false)], []⟩ (o1 b10) (by kernel_rfl) (by kernel_rfl) ?_
            exact J_mk (false) hm (by kernel_rfl) (by kernel_rfl)
      · obtain ⟨g7, hm⟩ := bif_n hm
        rcases Bool.eq_false_or_eq_true (decide ((strAt a1 x5.toNat) ≥ 97)) with b8 | b8
        · replace hm := bif_t b8 hm
          refine R_rn Tryd.f51 1864 6 [(4, dfx true)] [] 0 ⟨[(0, vc (cs a1)), (3, vi x5), (4, vb (decide ((strAt a1 x5.toNat) ≤ 122))), (24, vc (cs a1)), (25, vi x5), (26, vc (.val (.int .u8 (strAt a1 x5.toNat)))), (27, vb (decide ((strAt a1 x5.toNat) ≤ 122)))], []⟩ (o1 (And.intro (inb_of g7) (And.intro b8 (inb_of g7)))) (by kernel_rfl) (by kernel_rfl) ?_
          exact J_mk (decide ((strAt a1 x5.toNat) ≤ 122)) hm (by kernel_rfl) (by kernel_rfl)
        · replace hm := bif_f b8 hm
          refine R_rn Tryd.f51 1864 6 [(4, dfx false)] [] 0 ⟨[(0, vc (cs a1)), (3, vi x5), (4, vb false)], []⟩ (o1 (And.intro (inb_of g7) b8)) (by kernel_rfl) (by kernel_rfl) ?_
          exact J_mk (false) hm (by kernel_rfl) (by kernel_rfl)
    · replace hm := bif_f b6 hm
      refine R_exit 0 (by kernel_rfl) ?_
      obtain rfl := Option.some.inj hm
      exact L1_mk () (by kernel_rfl) (by kernel_rfl)

set_option maxRecDepth 100000 in
theorem ref02_IsName_ok (a1 : ByteArray) (r : Bool) (hm : ref02_IsName a1 = some r) : CtX Tryd.prog globs 51 0 0 [.one (cs a1)] [] (ref02_IsName_x r) (ref02_IsName_o r) := by
  unfold ref02_IsName at hm
  refine CtX_of_E (fn := Tryd.f51) (c := nd Tryd.f51 1) (nt := 48) (by kernel_rfl) (by kernel_rfl) (by kernel_rfl) (by kernel_rfl) fun E => ?_
  refine R_sq Tryd.f51 2 3 (by kernel_rfl) ?_
  refine R_rn Tryd.f51 2 0 [] [] 0 ⟨[(0, vc (cs a1))], []⟩ o0 (by kernel_rfl) (by kernel_rfl) ?_
  refine R_sq Tryd.f51 6 7 (by kernel_rfl) ?_
  refine R_join (ι := Bool) (nd Tryd.f51 12) (nd Tryd.f51 13) (by kernel_rfl) (fun p => ref02_IsName_k1_S a1 p) (fun p => ref02_IsName_k1 a1 p = some r) ?_ ?_
  · rintro x3 hm
    show H _ (ref02_IsName_k1_S a1 x3) (nd Tryd.f51 13) _
    refine R_cn Tryd.f51 (.tmp 12) 26 27 (by kernel_rfl) x3 (by kernel_rfl) (fun b4 => ?_) (fun b4 => ?_)
    · replace hm := bif_t b4 hm
      refine R_sq Tryd.f51 52 53 (by kernel_rfl) ?_
      refine R_rn Tryd.f51 52 2 [] [] 0 ⟨[(2, vb false)], []⟩ o0 (by kernel_rfl) (by kernel_rfl) ?_
      obtain rfl := Option.some.inj hm
      refine R_ret (by kernel_rfl) ?_
      exact ret_mk (by kernel_rfl) (by kernel_rfl)
    · replace hm := bif_f b4 hm
      refine R_skip (by kernel_rfl) ?_
      refine R_sq Tryd.f51 14 15 (by kernel_rfl) ?_
      refine R_sq Tryd.f51 28 29 (by kernel_rfl) ?_
      refine R_rn Tryd.f51 28 3 [] [] 0 ⟨[(0, vc (cs a1)), (3, vi 0)], []⟩ o0 (by kernel_rfl) (by kernel_rfl) ?_
      obtain ⟨u20, h19, hm⟩ := bind_s hm
      refine R_loop1 (nd Tryd.f51 116) 0 (by kernel_rfl) FUEL (fun o => ref02_IsName_L2_T) (fun v st => RetQ Tryd.prog Tryd.f51 (ref02_IsName_x v) (ref02_IsName_o v) .ret st) u20 (HL_enter (ref02_IsName_L2_S a1 0) (by kernel_rfl) (by kernel_rfl) (ref02_IsName_L2_ok E a1 FUEL 0 u20 h19)) ?_ ?_
      · rintro v21 rfl st hr
        obtain rfl := Option.some.inj hm
        exact hr
      · rintro o18 rfl
        replace hm : _ = some r := hm
        refine R_sq Tryd.f51 30 31 (by kernel_rfl) ?_
        refine R_rn Tryd.f51 30 9 [] [] 0 ⟨[(2, vb true)], []⟩ o0 (by kernel_rfl) (by kernel_rfl) ?_
        obtain rfl := Option.some.inj hm
        refine R_ret (by kernel_rfl) ?_
        exact ret_mk (by kernel_rfl) (by kernel_rfl)
  · rcases Bool.eq_false_or_eq_true (decide (((a1.size : Nat) : Int) < 1)) with b2 | b2
    · replace hm := bif_t b2 hm
      refine R_rn Tryd.f51 12 1 [(3, dfx true)] [] 0 ⟨[(0, vc (cs a1)), (12, vb true)], []⟩ (o1 b2) (by kernel_rfl) (by kernel_rfl) ?_
      exact J_mk (true) hm (by kernel_rfl) (by kernel_rfl)
    · replace hm := bif_f b2 hm
      refine R_rn Tryd.f51 12 1 [(3, dfx false)] [] 0 ⟨[(0, vc (cs a1)), (12, vb (decide (((a1.size : Nat) : Int) > 16)))], []⟩ (o1 b2) (by kernel_rfl) (by kernel_rfl) ?_
      exact J_mk (decide (((a1.size : Nat) : Int) > 16)) hm (by kernel_rfl) (by kernel_rfl)

end Saw
end Go.SL
