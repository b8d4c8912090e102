import Derived.Test.YtgpgnlllieekbaaDoorEBase
import Derived.Test.YtgpgnlllieekbaaDoorEFa2
import Derived.Test.YtgpgnlllieekbaaDoorEFa1
set_option linter.unusedVariables false
set_option linter.unusedSimpArgs false
namespace Go.SL
namespace Saw
open Go.Proofs
set_option maxHeartbeats 4000000

def section_Within_x (r : Int) : V := vi r

def section_Within_o (r : Int) : List (Nat × (Nat × O)) := []

theorem section_Within_f (r : Int) : Frozen (section_Within_o r) := by
  intro i k o h
  unfold section_Within_o at h
  cases h

def section_Within_L1_S (a2 : Rect) (v3 : Section) (x5 : Int) (x6 : Int) : St :=
  ⟨[(2, vp 0 0), (3, vp 1 0), (5, vi x5), (12, vc (tl e_Span default v3.Rows)), (13, vi ((v3.Rows.length : Nat) : Int)), (14, vi x6)], [(0, bx 52 [ci v3.Low, tl e_Span default v3.Rows]), (1, bx 35 [ci a2.X.A, ci a2.X.B, ci a2.Y.A, ci a2.Y.B])]⟩

def section_Within_L1_T (x19 : Int) : St :=
  ⟨[(5, vi x19)], []⟩

set_option maxRecDepth 100000 in
theorem section_Within_L1_ok (E : Env 0) (a2 : Rect) (v3 : Section) : ∀ (n : Nat) (x5 : Int) (x6 : Int) (res : Int), section_Within_L1 a2 v3 n x5 x6 = some res → HL (kx E 44 0) (nd Tryd.f37 244) (loopQ0 0 (fun o => section_Within_L1_T o) res) n (section_Within_L1_S a2 v3 x5 x6) := by
  intro n
  induction n with
  | zero =>
    intro x5 x6 res hm
    cases hm
  | succ n ih =>
    intro x5 x6 res hm
    refine HL_succ ?_
    refine R_sq Tryd.f37 488 489 (by kernel_rfl) ?_
    refine R_rn Tryd.f37 488 4 [] [] 2 ⟨[(2, vp 0 0), (3, vp 1 0), (5, vi x5), (12, vc (tl e_Span default v3.Rows)), (13, vi ((v3.Rows.length : Nat) : Int)), (14, vi x6), (15, vb (decide (x6 < ((v3.Rows.length : Nat) : Int))))], [(0, bx 52 [ci v3.Low, tl e_Span default v3.Rows]), (1, bx 35 [ci a2.X.A, ci a2.X.B, ci a2.Y.A, ci a2.Y.B])]⟩ o0 (by kernel_rfl) (by kernel_rfl) ?_
    refine R_sq Tryd.f37 978 979 (by kernel_rfl) ?_
    refine R_cn Tryd.f37 (.tmp 15) 1956 1957 (by kernel_rfl) (decide (x6 < ((v3.Rows.length : Nat) : Int))) (by kernel_rfl) (fun b7 => ?_) (fun b7 => ?_)
    · replace hm := bif_t b7 hm
      refine R_skip (by kernel_rfl) ?_
      refine R_sq Tryd.f37 1958 1959 (by kernel_rfl) ?_
      refine R_bk Tryd.f37 1 3916 (by kernel_rfl) ?_
      refine R_sq Tryd.f37 7832 7833 (by kernel_rfl) ?_
      obtain ⟨g8, hm⟩ := bif_n hm
      refine R_rn Tryd.f37 7832 5 [] [] 2 ⟨[(2, vp 0 0), (3, vp 1 0), (5, vi x5), (6, vi x6), (7, vp 2 0), (12, vc (tl e_Span default v3.Rows)), (13, vi ((v3.Rows.length : Nat) : Int)), (14, vi x6)], [(0, bx 52 [ci v3.Low, tl e_Span default v3.Rows]), (1, bx 35 [ci a2.X.A, ci a2.X.B, ci a2.Y.A, ci a2.Y.B]), (2, bx 33 [ci ((v3.Rows.getD x6.toNat default).A), ci ((v3.Rows.getD x6.toNat default).B)])]⟩ (o1 (inb_of g8)) (by kernel_rfl) (by kernel_rfl) ?_
      refine R_sq Tryd.f37 15666 15667 (by kernel_rfl) ?_
      obtain ⟨v9, h10, hm⟩ := bind_s hm
      refine R_rn Tryd.f37 15666 6 [(9, dex (cen [] [] 3 0 (section_heights_x v9) (section_heights_o v9) [22, 27] []))] [] 3 ⟨[(2, vp 0 0), (3, vp 1 0), (5, vi x5), (7, vp 2 0), (8, vp 3 0), (12, vc (tl e_Span default v3.Rows)), (13, vi ((v3.Rows.length : Nat) : Int)), (14, vi x6)], [(0, bx 52 [ci v3.Low, tl e_Span default v3.Rows]), (1, bx 35 [ci a2.X.A, ci a2.X.B, ci a2.Y.A, ci a2.Y.B]), (2, bx 33 [ci ((v3.Rows.getD x6.toNat default).A), ci ((v3.Rows.getD x6.toNat default).B)]), (3, bx 33 [ci v9.A, ci v9.B])]⟩ (o1 (callS (K := (kx E 44 0)) ⟨[(22, vi (w64 (v3.Low + x6))), (27, vi (w64 ((w64 (v3.Low + x6)) + 1)))], []⟩ (opAt (rg Tryd.f37 15666) 9) [] [] 3 o0 rfl (section_heights_ok (w64 (v3.Low + x6)) (w64 ((w64 (v3.Low + x6)) + 1)) v9 h10) (.inl rfl) (by kernel_rfl))) (by kernel_rfl) (by kernel_rfl) ?_
      obtain ⟨v11, h12, hm⟩ := bind_s hm
      obtain ⟨v13, h14, hm⟩ := bind_s hm
      obtain ⟨v15, h16, hm⟩ := bind_s hm
      obtain ⟨v17, h18, hm⟩ := bind_s hm
      refine R_dr Tryd.f37 15667 7 [] [(4, dex (cen [] [] 4 0 (span_Meet_x v11) (span_Meet_o v11) [30, 32] [])), (5, dex (cen [] [] 4 0 (span_Len_x v13) (span_Len_o v13) [33] [])), (9, dex (cen [] [] 4 0 (span_Meet_x v15) (span_Meet_o v15) [35, 37] [])), (10, dex (cen [] [] 4 0 (span_Len_x v17) (span_Len_o v17) [38] []))] [] [0, 0, 0, 4, 14, 30, 0, 0, 128, 510, 1022, 2046, 4095, 8191] 4 ⟨[(2, vp 0 0), (3, vp 1 0), (5, vi (w64 (x5 + (w64 (v13 * v17))))), (12, vc (tl e_Span default v3.Rows)), (13, vi ((v3.Rows.length : Nat) : Int)), (14, vi x6)], [(0, bx 52 [ci v3.Low, tl e_Span default v3.Rows]), (1, bx 35 [ci a2.X.A, ci a2.X.B, ci a2.Y.A, ci a2.Y.B])]⟩ (o1 (And.intro (callS (K := (kx E 44 0)) ⟨[(30, va [ci ((v3.Rows.getD x6.toNat default).A), ci ((v3.Rows.getD x6.toNat default).B)]), (32, va [ci a2.X.A, ci a2.X.B])], []⟩ (opAt (rg Tryd.f37 15667) 4) [] [] 4 o0 rfl (span_Meet_ok (v3.Rows.getD x6.toNat default) a2.X v11 h12) (.inl rfl) (by kernel_rfl)) (And.intro (callS (K := (kx E 44 0)) ⟨[(33, va [ci v11.A, ci v11.B])], []⟩ (opAt (rg Tryd.f37 15667) 5) [] [] 4 o0 rfl (span_Len_ok v11 v13 h14) (.inl rfl) (by kernel_rfl)) (And.intro (callS (K := (kx E 44 0)) ⟨[(35, va [ci v9.A, ci v9.B]), (37, va [ci a2.Y.A, ci a2.Y.B])], []⟩ (opAt (rg Tryd.f37 15667) 9) [] [] 4 o0 rfl (span_Meet_ok v9 a2.Y v15 h16) (.inl rfl) (by kernel_rfl)) (callS (K := (kx E 44 0)) ⟨[(38, va [ci v15.A, ci v15.B])], []⟩ (opAt (rg Tryd.f37 15667) 10) [] [] 4 o0 rfl (span_Len_ok v15 v17 h18) (.inl rfl) (by kernel_rfl)))))) (by kernel_rfl) (by kernel_rfl) ?_
      refine R_rn Tryd.f37 1959 8 [] [] 4 ⟨[(2, vp 0 0), (3, vp 1 0), (5, vi (w64 (x5 + (w64 (v13 * v17))))), (12, vc (tl e_Span default v3.Rows)), (13, vi ((v3.Rows.length : Nat) : Int)), (14, vi (w64 (x6 + 1)))], [(0, bx 52 [ci v3.Low, tl e_Span default v3.Rows]), (1, bx 35 [ci a2.X.A, ci a2.X.B, ci a2.Y.A, ci a2.Y.B])]⟩ o0 (by kernel_rfl) (by kernel_rfl) ?_
      exact HL_enter (section_Within_L1_S a2 v3 (w64 (x5 + (w64 (v13 * v17)))) (w64 (x6 + 1))) (by kernel_rfl) (by kernel_rfl) (ih (w64 (x5 + (w64 (v13 * v17)))) (w64 (x6 + 1)) _ hm)
    · replace hm := bif_f b7 hm
      refine R_exit 0 (by kernel_rfl) ?_
      obtain rfl := Option.some.inj hm
      exact L0_mk (by kernel_rfl) (by kernel_rfl)

set_option maxRecDepth 100000 in
theorem section_Within_ok (a1 : Section) (a2 : Rect) (r : Int) (hm : section_Within a1 a2 = some r) : CtX Tryd.prog globs 37 0 0 [.agg [ci a1.Low, tl e_Span default a1.Rows], .agg [ci a2.X.A, ci a2.X.B, ci a2.Y.A, ci a2.Y.B]] [] (section_Within_x r) (section_Within_o r) := by
  unfold section_Within at hm
  refine CtX_of_E (fn := Tryd.f37) (c := nd Tryd.f37 1) (nt := 44) (by kernel_rfl) (by kernel_rfl) (by kernel_rfl) (by kernel_rfl) fun E => ?_
  refine R_sq Tryd.f37 2 3 (by kernel_rfl) ?_
  refine R_rn Tryd.f37 2 0 [] [] 0 ⟨[(2, vp 0 0), (3, vp 1 0)], [(0, bx 52 [ci a1.Low, tl e_Span default a1.Rows]), (1, bx 35 [ci a2.X.A, ci a2.X.B, ci a2.Y.A, ci a2.Y.B])]⟩ o0 (by kernel_rfl) (by kernel_rfl) ?_
  refine R_sq Tryd.f37 6 7 (by kernel_rfl) ?_
  obtain ⟨v3, h4, hm⟩ := bind_s hm
  refine R_rn Tryd.f37 6 1 [(1, dex (cen [] [] 2 0 (section_valid_x v3) (section_valid_o v3) [9] []))] [] 2 ⟨[(2, vp 0 0), (3, vp 1 0)], [(0, bx 52 [ci v3.Low, tl e_Span default v3.Rows]), (1, bx 35 [ci a2.X.A, ci a2.X.B, ci a2.Y.A, ci a2.Y.B])]⟩ (o1 (callS (K := (kx E 44 0)) ⟨[(9, va [ci a1.Low, tl e_Span default a1.Rows])], []⟩ (opAt (rg Tryd.f37 6) 1) [] [] 2 o0 rfl (section_valid_ok a1 v3 h4) (.inl rfl) (by kernel_rfl))) (by kernel_rfl) (by kernel_rfl) ?_
  refine R_sq Tryd.f37 14 15 (by kernel_rfl) ?_
  refine R_rn Tryd.f37 14 2 [] [] 2 ⟨[(2, vp 0 0), (3, vp 1 0), (5, vi 0)], [(0, bx 52 [ci v3.Low, tl e_Span default v3.Rows]), (1, bx 35 [ci a2.X.A, ci a2.X.B, ci a2.Y.A, ci a2.Y.B])]⟩ o0 (by kernel_rfl) (by kernel_rfl) ?_
  refine R_sq Tryd.f37 30 31 (by kernel_rfl) ?_
  refine R_sq Tryd.f37 60 61 (by kernel_rfl) ?_
  refine R_rn Tryd.f37 60 3 [] [] 2 ⟨[(2, vp 0 0), (3, vp 1 0), (5, vi 0), (12, vc (tl e_Span default v3.Rows)), (13, vi ((v3.Rows.length : Nat) : Int)), (14, vi 0)], [(0, bx 52 [ci v3.Low, tl e_Span default v3.Rows]), (1, bx 35 [ci a2.X.A, ci a2.X.B, ci a2.Y.A, ci a2.Y.B])]⟩ o0 (by kernel_rfl) (by kernel_rfl) ?_
  obtain ⟨o20, h21, hm⟩ := bind_s hm
  refine R_loop0 (nd Tryd.f37 244) 0 (by kernel_rfl) FUEL (fun o => section_Within_L1_T o) o20 (HL_enter (section_Within_L1_S a2 v3 0 0) (by kernel_rfl) (by kernel_rfl) (section_Within_L1_ok E a2 v3 FUEL 0 0 o20 h21)) ?_
  refine R_sq Tryd.f37 62 63 (by kernel_rfl) ?_
  refine R_rn Tryd.f37 62 9 [] [] 2 ⟨[(4, vi o20)], []⟩ o0 (by kernel_rfl) (by kernel_rfl) ?_
  obtain rfl := Option.some.inj hm
  refine R_ret (by kernel_rfl) ?_
  exact ret_mk (by kernel_rfl) (by kernel_rfl)

end Saw
end Go.SL

namespace Go.SL
namespace Saw
open Go.Proofs
set_option maxHeartbeats 4000000

def worth_lacks_x (r : (List Worth_zone)) : V := vo 0 0 3 r.length

def worth_lacks_o (r : (List Worth_zone)) : List (Nat × (Nat × O)) := [(0, ro 0 195 3 r.length (rf e_Worth_zone r))]

theorem worth_lacks_f (r : (List Worth_zone)) : Frozen (worth_lacks_o r) := by
  intro i k o h
  unfold worth_lacks_o at h
  rw [look_cons] at h
  split at h
  · cases h; exact fun _ _ => rfl
  · cases h

def worth_lacks_L1_S (a1 : List Slice) (a2 : Rect) (l3 : List Worth_zone) (l3n : Nat) (x4 : Int) (x5 : Int) : St :=
  ⟨[(3, vp 0 0), (5, vi (w64 ((w64 (a2.X.B - a2.X.A)) * (w64 (a2.Y.B - a2.Y.A))))), (6, vo 1 0 3 l3n), (7, vi x4), (27, vc (tl e_Slice default a1)), (28, vi ((a1.length : Nat) : Int)), (29, vi x5)], [(0, bx 35 [ci a2.X.A, ci a2.X.B, ci a2.Y.A, ci a2.Y.B]), (1, ro 0 195 3 l3n (rf e_Worth_zone l3))]⟩

def worth_lacks_L1_T (l12 : List Worth_zone) : St :=
  ⟨[(6, vo 1 0 3 l12.length)], [(1, ro 0 195 3 l12.length (rf e_Worth_zone l12))]⟩

set_option maxRecDepth 100000 in
theorem worth_lacks_L1_ok (E : Env 0) (a1 : List Slice) (a2 : Rect) : ∀ (n : Nat) (l3 : List Worth_zone) (l3n : Nat) (x4 : Int) (x5 : Int) (res : (List Worth_zone)), l3.length = l3n → worth_lacks_L1 a1 a2 n l3 x4 x5 = some res → HL (kx E 61 0) (nd Tryd.f112 500) (loopQ0 0 (fun o => worth_lacks_L1_T o) res) n (worth_lacks_L1_S a1 a2 l3 l3n x4 x5) := by
  intro n
  induction n with
  | zero =>
    intro l3 l3n x4 x5 res hl0 hm
    cases hm
  | succ n ih =>
    intro l3 l3n x4 x5 res hl0 hm
    subst hl0
    refine HL_succ ?_
    refine R_sq Tryd.f112 1000 1001 (by kernel_rfl) ?_
    refine R_rn Tryd.f112 1000 5 [] [] 2 ⟨[(3, vp 0 0), (5, vi (w64 ((w64 (a2.X.B - a2.X.A)) * (w64 (a2.Y.B - a2.Y.A))))), (6, vo 1 0 3 l3.length), (7, vi x4), (27, vc (tl e_Slice default a1)), (28, vi ((a1.length : Nat) : Int)), (29, vi x5), (30, vb (decide (x5 < ((a1.length : Nat) : Int))))], [(0, bx 35 [ci a2.X.A, ci a2.X.B, ci a2.Y.A, ci a2.Y.B]), (1, ro 0 195 3 l3.length (rf e_Worth_zone l3))]⟩ o0 (by kernel_rfl) (by kernel_rfl) ?_
    refine R_sq Tryd.f112 2002 2003 (by kernel_rfl) ?_
    refine R_cn Tryd.f112 (.tmp 30) 4004 4005 (by kernel_rfl) (decide (x5 < ((a1.length : Nat) : Int))) (by kernel_rfl) (fun b6 => ?_) (fun b6 => ?_)
    · replace hm := bif_t b6 hm
      refine R_skip (by kernel_rfl) ?_
      refine R_sq Tryd.f112 4006 4007 (by kernel_rfl) ?_
      refine R_bk Tryd.f112 1 8012 (by kernel_rfl) ?_
      refine R_sq Tryd.f112 16024 16025 (by kernel_rfl) ?_
      obtain ⟨g7, hm⟩ := bif_n hm
      refine R_rn Tryd.f112 16024 6 [] [] 2 ⟨[(3, vp 0 0), (5, vi (w64 ((w64 (a2.X.B - a2.X.A)) * (w64 (a2.Y.B - a2.Y.A))))), (6, vo 1 0 3 l3.length), (7, vi x4), (9, vp 2 0), (27, vc (tl e_Slice default a1)), (28, vi ((a1.length : Nat) : Int)), (29, vi x5)], [(0, bx 35 [ci a2.X.A, ci a2.X.B, ci a2.Y.A, ci a2.Y.B]), (1, ro 0 195 3 l3.length (rf e_Worth_zone l3)), (2, bx 54 [ci ((a1.getD x5.toNat default).Len), ci (((a1.getD x5.toNat default).Sec).Low), tl e_Span default (((a1.getD x5.toNat default).Sec).Rows)])]⟩ (o1 (inb_of g7)) (by kernel_rfl) (by kernel_rfl) ?_
      refine R_sq Tryd.f112 32050 32051 (by kernel_rfl) ?_
      obtain ⟨v8, h9, hm⟩ := bind_s hm
      refine R_rn Tryd.f112 32050 7 [(4, dex (cen [] [] 3 0 (section_Within_x v8) (section_Within_o v8) [35, 36] []))] [] 3 ⟨[(3, vp 0 0), (5, vi (w64 ((w64 (a2.X.B - a2.X.A)) * (w64 (a2.Y.B - a2.Y.A))))), (6, vo 1 0 3 l3.length), (7, vi x4), (9, vp 2 0), (10, vi (w64 ((w64 ((w64 (a2.X.B - a2.X.A)) * (w64 (a2.Y.B - a2.Y.A)))) - v8))), (27, vc (tl e_Slice default a1)), (28, vi ((a1.length : Nat) : Int)), (29, vi x5)], [(0, bx 35 [ci a2.X.A, ci a2.X.B, ci a2.Y.A, ci a2.Y.B]), (1, ro 0 195 3 l3.length (rf e_Worth_zone l3)), (2, bx 54 [ci ((a1.getD x5.toNat default).Len), ci (((a1.getD x5.toNat default).Sec).Low), tl e_Span default (((a1.getD x5.toNat default).Sec).Rows)])]⟩ (o1 (callS (K := (kx E 61 0)) ⟨[(35, va [ci (((a1.getD x5.toNat default).Sec).Low), tl e_Span default (((a1.getD x5.toNat default).Sec).Rows)]), (36, va [ci a2.X.A, ci a2.X.B, ci a2.Y.A, ci a2.Y.B])], []⟩ (opAt (rg Tryd.f112 32050) 4) [] [] 3 o0 rfl (section_Within_ok ((a1.getD x5.toNat default).Sec) a2 v8 h9) (.inl rfl) (by kernel_rfl))) (by kernel_rfl) (by kernel_rfl) ?_
      refine R_sq Tryd.f112 64102 64103 (by kernel_rfl) ?_
      refine R_rn Tryd.f112 64102 8 [] [] 3 ⟨[(3, vp 0 0), (5, vi (w64 ((w64 (a2.X.B - a2.X.A)) * (w64 (a2.Y.B - a2.Y.A))))), (6, vo 1 0 3 l3.length), (10, vi (w64 ((w64 ((w64 (a2.X.B - a2.X.A)) * (w64 (a2.Y.B - a2.Y.A)))) - v8))), (11, vp 3 0), (27, vc (tl e_Slice default a1)), (28, vi ((a1.length : Nat) : Int)), (29, vi x5)], [(0, bx 35 [ci a2.X.A, ci a2.X.B, ci a2.Y.A, ci a2.Y.B]), (1, ro 0 195 3 l3.length (rf e_Worth_zone l3)), (3, bx 33 [ci x4, ci (w64 (x4 + ((a1.getD x5.toNat default).Len)))])]⟩ o0 (by kernel_rfl) (by kernel_rfl) ?_
      refine R_sq Tryd.f112 128206 128207 (by kernel_rfl) ?_
      obtain ⟨g10, hm⟩ := bif_n hm
      obtain ⟨g11, hm⟩ := bif_n hm
      refine R_dr Tryd.f112 128206 9 [] [(10, drw 4 0 (rf e_Worth_zone ([(Worth_zone.mk (Span.mk x4 (w64 (x4 + ((a1.getD x5.toNat default).Len)))) (w64 (Int.tdiv (w64 ((w64 ((w64 (1000 * (w64 ((w64 ((w64 (a2.X.B - a2.X.A)) * (w64 (a2.Y.B - a2.Y.A)))) - v8)))) + (w64 ((w64 (a2.X.B - a2.X.A)) * (w64 (a2.Y.B - a2.Y.A)))))) - 1)) (w64 ((w64 (a2.X.B - a2.X.A)) * (w64 (a2.Y.B - a2.Y.A)))))))] : List Worth_zone))), (11, drw 1 1 (rf e_Worth_zone (l3 ++ ([(Worth_zone.mk (Span.mk x4 (w64 (x4 + ((a1.getD x5.toNat default).Len)))) (w64 (Int.tdiv (w64 ((w64 ((w64 (1000 * (w64 ((w64 ((w64 (a2.X.B - a2.X.A)) * (w64 (a2.Y.B - a2.Y.A)))) - v8)))) + (w64 ((w64 (a2.X.B - a2.X.A)) * (w64 (a2.Y.B - a2.Y.A)))))) - 1)) (w64 ((w64 (a2.X.B - a2.X.A)) * (w64 (a2.Y.B - a2.Y.A)))))))] : List Worth_zone))))] [] [0, 0, 0, 4, 0, 28, 60, 0, 252, 510, 1022, 2047, 4095] 4 ⟨[(3, vp 0 0), (5, vi (w64 ((w64 (a2.X.B - a2.X.A)) * (w64 (a2.Y.B - a2.Y.A))))), (6, vo 1 1 3 (l3.length + 1)), (11, vp 3 0), (27, vc (tl e_Slice default a1)), (28, vi ((a1.length : Nat) : Int)), (29, vi x5)], [(0, bx 35 [ci a2.X.A, ci a2.X.B, ci a2.Y.A, ci a2.Y.B]), (1, ro 1 195 3 (l3.length + 1) (rf e_Worth_zone (l3 ++ ([(Worth_zone.mk (Span.mk x4 (w64 (x4 + ((a1.getD x5.toNat default).Len)))) (w64 (Int.tdiv (w64 ((w64 ((w64 (1000 * (w64 ((w64 ((w64 (a2.X.B - a2.X.A)) * (w64 (a2.Y.B - a2.Y.A)))) - v8)))) + (w64 ((w64 (a2.X.B - a2.X.A)) * (w64 (a2.Y.B - a2.Y.A)))))) - 1)) (w64 ((w64 (a2.X.B - a2.X.A)) * (w64 (a2.Y.B - a2.Y.A)))))))] : List Worth_zone)))), (3, bx 33 [ci x4, ci (w64 (x4 + ((a1.getD x5.toNat default).Len)))])]⟩ (o1 (And.intro (nz_of g10) (And.intro (litP e_Worth_zone default 3 (fun _ => rfl) ([(Worth_zone.mk (Span.mk x4 (w64 (x4 + ((a1.getD x5.toNat default).Len)))) (w64 (Int.tdiv (w64 ((w64 ((w64 (1000 * (w64 ((w64 ((w64 (a2.X.B - a2.X.A)) * (w64 (a2.Y.B - a2.Y.A)))) - v8)))) + (w64 ((w64 (a2.X.B - a2.X.A)) * (w64 (a2.Y.B - a2.Y.A)))))) - 1)) (w64 ((w64 (a2.X.B - a2.X.A)) * (w64 (a2.Y.B - a2.Y.A)))))))] : List Worth_zone) 1 rfl) (apP e_Worth_zone default l3 ([(Worth_zone.mk (Span.mk x4 (w64 (x4 + ((a1.getD x5.toNat default).Len)))) (w64 (Int.tdiv (w64 ((w64 ((w64 (1000 * (w64 ((w64 ((w64 (a2.X.B - a2.X.A)) * (w64 (a2.Y.B - a2.Y.A)))) - v8)))) + (w64 ((w64 (a2.X.B - a2.X.A)) * (w64 (a2.Y.B - a2.Y.A)))))) - 1)) (w64 ((w64 (a2.X.B - a2.X.A)) * (w64 (a2.Y.B - a2.Y.A)))))))] : List Worth_zone) l3.length 1 3 24 (1 ≤ 1) (Nat.le_refl _) rfl rfl (fun _ => rfl) (room_of g11))))) (by kernel_rfl) (by kernel_rfl) ?_
      refine R_rn Tryd.f112 128207 10 [] [] 5 ⟨[(3, vp 0 0), (5, vi (w64 ((w64 (a2.X.B - a2.X.A)) * (w64 (a2.Y.B - a2.Y.A))))), (6, vo 1 1 3 (l3.length + 1)), (7, vi (w64 (x4 + ((a1.getD x5.toNat default).Len)))), (27, vc (tl e_Slice default a1)), (28, vi ((a1.length : Nat) : Int)), (29, vi x5)], [(0, bx 35 [ci a2.X.A, ci a2.X.B, ci a2.Y.A, ci a2.Y.B]), (1, ro 1 195 3 (l3.length + 1) (rf e_Worth_zone (l3 ++ ([(Worth_zone.mk (Span.mk x4 (w64 (x4 + ((a1.getD x5.toNat default).Len)))) (w64 (Int.tdiv (w64 ((w64 ((w64 (1000 * (w64 ((w64 ((w64 (a2.X.B - a2.X.A)) * (w64 (a2.Y.B - a2.Y.A)))) - v8)))) + (w64 ((w64 (a2.X.B - a2.X.A)) * (w64 (a2.Y.B - a2.Y.A)))))) - 1)) (w64 ((w64 (a2.X.B - a2.X.A)) * (w64 (a2.Y.B - a2.Y.A)))))))] : List Worth_zone))))]⟩ o0 (by kernel_rfl) (by kernel_rfl) ?_
      refine R_rn Tryd.f112 4007 11 [] [] 5 ⟨[(3, vp 0 0), (5, vi (w64 ((w64 (a2.X.B - a2.X.A)) * (w64 (a2.Y.B - a2.Y.A))))), (6, vo 1 1 3 (l3.length + 1)), (7, vi (w64 (x4 + ((a1.getD x5.toNat default).Len)))), (27, vc (tl e_Slice default a1)), (28, vi ((a1.length : Nat) : Int)), (29, vi (w64 (x5 + 1)))], [(0, bx 35 [ci a2.X.A, ci a2.X.B, ci a2.Y.A, ci a2.Y.B]), (1, ro 1 195 3 (l3.length + 1) (rf e_Worth_zone (l3 ++ ([(Worth_zone.mk (Span.mk x4 (w64 (x4 + ((a1.getD x5.toNat default).Len)))) (w64 (Int.tdiv (w64 ((w64 ((w64 (1000 * (w64 ((w64 ((w64 (a2.X.B - a2.X.A)) * (w64 (a2.Y.B - a2.Y.A)))) - v8)))) + (w64 ((w64 (a2.X.B - a2.X.A)) * (w64 (a2.Y.B - a2.Y.A)))))) - 1)) (w64 ((w64 (a2.X.B - a2.X.A)) * (w64 (a2.Y.B - a2.Y.A)))))))] : List Worth_zone))))]⟩ o0 (by kernel_rfl) (by kernel_rfl) ?_
      exact HL_enter (worth_lacks_L1_S a1 a2 (l3 ++ ([(Worth_zone.mk (Span.mk x4 (w64 (x4 + ((a1.getD x5.toNat default).Len)))) (w64 (Int.tdiv (w64 ((w64 ((w64 (1000 * (w64 ((w64 ((w64 (a2.X.B - a2.X.A)) * (w64 (a2.Y.B - a2.Y.A)))) - v8)))) + (w64 ((w64 (a2.X.B - a2.X.A)) * (w64 (a2.Y.B - a2.Y.A)))))) - 1)) (w64 ((w64 (a2.X.B - a2.X.A)) * (w64 (a2.Y.B - a2.Y.A)))))))] : List Worth_zone)) (l3.length + 1) (w64 (x4 + ((a1.getD x5.toNat default).Len))) (w64 (x5 + 1))) (by kernel_rfl) (by kernel_rfl) (ih (l3 ++ ([(Worth_zone.mk (Span.mk x4 (w64 (x4 + ((a1.getD x5.toNat default).Len)))) (w64 (Int.tdiv (w64 ((w64 ((w64 (1000 * (w64 ((w64 ((w64 (a2.X.B - a2.X.A)) * (w64 (a2.Y.B - a2.Y.A)))) - v8)))) + (w64 ((w64 (a2.X.B - a2.X.A)) * (w64 (a2.Y.B - a2.Y.A)))))) - 1)) (w64 ((w64 (a2.X.B - a2.X.A)) * (w64 (a2.Y.B - a2.Y.A)))))))] : List Worth_zone)) (l3.length + 1) (w64 (x4 + ((a1.getD x5.toNat default).Len))) (w64 (x5 + 1)) _ (len_app rfl rfl) hm)
    · replace hm := bif_f b6 hm
      refine R_exit 0 (by kernel_rfl) ?_
      obtain rfl := Option.some.inj hm
      exact L0_mk (by kernel_rfl) (by kernel_rfl)

set_option maxRecDepth 100000 in
theorem worth_lacks_ok (a1 : List Slice) (a2 : Rect) (r : (List Worth_zone)) (hm : worth_lacks a1 a2 = some r) : CtX Tryd.prog globs 112 0 0 [.one (tl e_Slice default a1), .agg [ci a2.X.A, ci a2.X.B, ci a2.Y.A, ci a2.Y.B]] [] (worth_lacks_x r) (worth_lacks_o r) := by
  unfold worth_lacks at hm
  refine CtX_of_E (fn := Tryd.f112) (c := nd Tryd.f112 1) (nt := 61) (by kernel_rfl) (by kernel_rfl) (by kernel_rfl) (by kernel_rfl) fun E => ?_
  refine R_sq Tryd.f112 2 3 (by kernel_rfl) ?_
  refine R_rn Tryd.f112 2 0 [] [] 0 ⟨[(0, vc (tl e_Slice default a1)), (3, vp 0 0)], [(0, bx 35 [ci a2.X.A, ci a2.X.B, ci a2.Y.A, ci a2.Y.B])]⟩ o0 (by kernel_rfl) (by kernel_rfl) ?_
  refine R_sq Tryd.f112 6 7 (by kernel_rfl) ?_
  refine R_rn Tryd.f112 6 1 [] [] 1 ⟨[(0, vc (tl e_Slice default a1)), (3, vp 0 0), (5, vi (w64 ((w64 (a2.X.B - a2.X.A)) * (w64 (a2.Y.B - a2.Y.A)))))], [(0, bx 35 [ci a2.X.A, ci a2.X.B, ci a2.Y.A, ci a2.Y.B])]⟩ o0 (by kernel_rfl) (by kernel_rfl) ?_
  refine R_sq Tryd.f112 14 15 (by kernel_rfl) ?_
  refine R_rn Tryd.f112 14 2 [] [] 1 ⟨[(0, vc (tl e_Slice default a1)), (3, vp 0 0), (5, vi (w64 ((w64 (a2.X.B - a2.X.A)) * (w64 (a2.Y.B - a2.Y.A))))), (6, vc (.emp))], [(0, bx 35 [ci a2.X.A, ci a2.X.B, ci a2.Y.A, ci a2.Y.B])]⟩ o0 (by kernel_rfl) (by kernel_rfl) ?_
  refine R_sq Tryd.f112 30 31 (by kernel_rfl) ?_
  refine R_rn Tryd.f112 30 3 [] [] 1 ⟨[(0, vc (tl e_Slice default a1)), (3, vp 0 0), (5, vi (w64 ((w64 (a2.X.B - a2.X.A)) * (w64 (a2.Y.B - a2.Y.A))))), (6, vc (.emp)), (7, vi 0)], [(0, bx 35 [ci a2.X.A, ci a2.X.B, ci a2.Y.A, ci a2.Y.B])]⟩ o0 (by kernel_rfl) (by kernel_rfl) ?_
  refine R_sq Tryd.f112 62 63 (by kernel_rfl) ?_
  refine R_sq Tryd.f112 124 125 (by kernel_rfl) ?_
  refine R_rn Tryd.f112 124 4 [] [] 1 ⟨[(3, vp 0 0), (5, vi (w64 ((w64 (a2.X.B - a2.X.A)) * (w64 (a2.Y.B - a2.Y.A))))), (6, vc (.emp)), (7, vi 0), (27, vc (tl e_Slice default a1)), (28, vi ((a1.length : Nat) : Int)), (29, vi 0)], [(0, bx 35 [ci a2.X.A, ci a2.X.B, ci a2.Y.A, ci a2.Y.B])]⟩ o0 (by kernel_rfl) (by kernel_rfl) ?_
  refine H_fin [.own 6 1 195 3 (rf e_Worth_zone ([] : List Worth_zone))] ⟨[(3, vp 0 0), (5, vi (w64 ((w64 (a2.X.B - a2.X.A)) * (w64 (a2.Y.B - a2.Y.A))))), (6, vo 1 0 3 0), (7, vi 0), (27, vc (tl e_Slice default a1)), (28, vi ((a1.length : Nat) : Int)), (29, vi 0)], [(0, bx 35 [ci a2.X.A, ci a2.X.B, ci a2.Y.A, ci a2.Y.B]), (1, ro 0 195 3 0 (rf e_Worth_zone ([] : List Worth_zone)))]⟩ o0 (by kernel_rfl) ?_
  obtain ⟨o13, h14, hm⟩ := bind_s hm
  refine R_loop0 (nd Tryd.f112 500) 0 (by kernel_rfl) FUEL (fun o => worth_lacks_L1_T o) o13 (HL_enter (worth_lacks_L1_S a1 a2 ([] : List Worth_zone) 0 0 0) (by kernel_rfl) (by kernel_rfl) (worth_lacks_L1_ok E a1 a2 FUEL ([] : List Worth_zone) 0 0 0 o13 rfl h14)) ?_
  refine R_sq Tryd.f112 126 127 (by kernel_rfl) ?_
  refine R_rn Tryd.f112 126 12 [] [] 2 ⟨[(4, vo 1 0 3 o13.length)], [(1, ro 0 195 3 o13.length (rf e_Worth_zone o13))]⟩ o0 (by kernel_rfl) (by kernel_rfl) ?_
  obtain rfl := Option.some.inj hm
  refine H_swap 1 0 (by kernel_rfl) ?_
  refine R_ret (by kernel_rfl) ?_
  exact ret_mk (by kernel_rfl) (by kernel_rfl)

end Saw
end Go.SL

namespace Go.SL
namespace Saw
open Go.Proofs
set_option maxHeartbeats 4000000

def defect_inside_x (r : Bool) : V := vb r

def defect_inside_o (r : Bool) : List (Nat × (Nat × O)) := []

theorem defect_inside_f (r : Bool) : Frozen (defect_inside_o r) := by
  intro i k o h
  unfold defect_inside_o at h
  cases h

def defect_inside_k1_S (x5 : Bool) : St :=
  ⟨[(6, vb x5)], []⟩

set_option maxRecDepth 100000 in
theorem defect_inside_ok (a1 : Span) (a2 : Int) (a3 : Int) (r : Bool) (hm : defect_inside a1 a2 a3 = some r) : CtX Tryd.prog globs 110 0 0 [.agg [ci a1.A, ci a1.B], .one (ci a2), .one (ci a3)] [] (defect_inside_x r) (defect_inside_o r) := by
  unfold defect_inside at hm
  refine CtX_of_E (fn := Tryd.f110) (c := nd Tryd.f110 1) (nt := 23) (by kernel_rfl) (by kernel_rfl) (by kernel_rfl) (by kernel_rfl) fun E => ?_
  refine R_sq Tryd.f110 2 3 (by kernel_rfl) ?_
  refine R_rn Tryd.f110 2 0 [] [] 0 ⟨[(1, vi a2), (2, vi a3), (3, vp 0 0)], [(0, bx 33 [ci a1.A, ci a1.B])]⟩ o0 (by kernel_rfl) (by kernel_rfl) ?_
  refine R_join (ι := Bool) (nd Tryd.f110 6) (nd Tryd.f110 7) (by kernel_rfl) (fun p => defect_inside_k1_S p) (fun p => defect_inside_k1 p = some r) ?_ ?_
  · rintro x5 hm
    show H _ (defect_inside_k1_S x5) (nd Tryd.f110 7) _
    obtain rfl := Option.some.inj hm
    refine R_ret (by kernel_rfl) ?_
    exact ret_mk (by kernel_rfl) (by kernel_rfl)
  · rcases Bool.eq_false_or_eq_true (decide ((imin a1.A a1.B) ≥ a2)) with b4 | b4
    · replace hm := bif_t b4 hm
      refine R_rn Tryd.f110 6 1 [(7, dfx true)] [] 1 ⟨[(6, vb (decide ((imax a1.A a1.B) ≤ a3)))], []⟩ (o1 b4) (by kernel_rfl) (by kernel_rfl) ?_
      exact J_mk (decide ((imax a1.A a1.B) ≤ a3)) hm (by kernel_rfl) (by kernel_rfl)
    · replace hm := bif_f b4 hm
      refine R_rn Tryd.f110 6 1 [(7, dfx false)] [] 1 ⟨[(6, vb false)], []⟩ (o1 b4) (by kernel_rfl) (by kernel_rfl) ?_
      exact J_mk (false) hm (by kernel_rfl) (by kernel_rfl)

end Saw
end Go.SL

namespace Go.SL
namespace Saw
open Go.Proofs
set_option maxHeartbeats 4000000

def defect_check_x (r : Int) : V := vi r

def defect_check_o (r : Int) : List (Nat × (Nat × O)) := []

theorem defect_check_f (r : Int) : Frozen (defect_check_o r) := by
  intro i k o h
  unfold defect_check_o at h
  cases h

def defect_check_k3_S (x23 : Bool) : St :=
  ⟨[(29, vb x23)], []⟩

def defect_check_k2_S (a1 : Defect) (x13 : Bool) : St :=
  ⟨[(3, vp 1 0), (15, vb x13)], [(1, bx 57 [ci a1.Box.X.A, ci a1.Box.X.B, ci a1.Box.Y.A, ci a1.Box.Y.B, ci a1.Box.Z.A, ci a1.Box.Z.B])]⟩

def defect_check_k1_S (a1 : Defect) (x3 : Bool) : St :=
  ⟨[(3, vp 1 0), (6, vb x3)], [(1, bx 57 [ci a1.Box.X.A, ci a1.Box.X.B, ci a1.Box.Y.A, ci a1.Box.Y.B, ci a1.Box.Z.A, ci a1.Box.Z.B])]⟩

set_option maxRecDepth 100000 in
theorem defect_check_ok (a1 : Defect) (r : Int) (hm : defect_check a1 = some r) : CtX Tryd.prog globs 95 0 0 [.agg [ci a1.Kind, ci a1.Box.X.A, ci a1.Box.X.B, ci a1.Box.Y.A, ci a1.Box.Y.B, ci a1.Box.Z.A, ci a1.Box.Z.B]] [] (defect_check_x r) (defect_check_o r) := by
  unfold defect_check at hm
  refine CtX_of_E (fn := Tryd.f95) (c := nd Tryd.f95 1) (nt := 46) (by kernel_rfl) (by kernel_rfl) (by kernel_rfl) (by kernel_rfl) fun E => ?_
  refine R_sq Tryd.f95 2 3 (by kernel_rfl) ?_
  refine R_rn Tryd.f95 2 0 [] [] 0 ⟨[(1, vp 0 0)], [(0, bx 59 [ci a1.Kind, ci a1.Box.X.A, ci a1.Box.X.B, ci a1.Box.Y.A, ci a1.Box.Y.B, ci a1.Box.Z.A, ci a1.Box.Z.B])]⟩ o0 (by kernel_rfl) (by kernel_rfl) ?_
  refine R_sq Tryd.f95 6 7 (by kernel_rfl) ?_
  refine R_rn Tryd.f95 6 1 [] [] 1 ⟨[(1, vp 0 0), (3, vp 1 0)], [(0, bx 59 [ci a1.Kind, ci a1.Box.X.A, ci a1.Box.X.B, ci a1.Box.Y.A, ci a1.Box.Y.B, ci a1.Box.Z.A, ci a1.Box.Z.B]), (1, bx 57 [ci a1.Box.X.A, ci a1.Box.X.B, ci a1.Box.Y.A, ci a1.Box.Y.B, ci a1.Box.Z.A, ci a1.Box.Z.B])]⟩ o0 (by kernel_rfl) (by kernel_rfl) ?_
  refine R_sq Tryd.f95 14 15 (by kernel_rfl) ?_
  refine R_bk Tryd.f95 0 28 (by kernel_rfl) ?_
  refine R_join (ι := Bool) (nd Tryd.f95 56) (nd Tryd.f95 57) (by kernel_rfl) (fun p => defect_check_k1_S a1 p) (fun p => defect_check_k1 a1 p = some r) ?_ ?_
  · rintro x3 hm
    show H _ (defect_check_k1_S a1 x3) (nd Tryd.f95 57) _
    refine R_cn Tryd.f95 (.tmp 6) 114 115 (by kernel_rfl) x3 (by kernel_rfl) (fun b4 => ?_) (fun b4 => ?_)
    · replace hm := bif_t b4 hm
      refine R_sq Tryd.f95 228 229 (by kernel_rfl) ?_
      refine R_rn Tryd.f95 228 3 [] [] 2 ⟨[(2, vi 10)], []⟩ o0 (by kernel_rfl) (by kernel_rfl) ?_
      obtain rfl := Option.some.inj hm
      refine R_ret (by kernel_rfl) ?_
      exact ret_mk (by kernel_rfl) (by kernel_rfl)
    · replace hm := bif_f b4 hm
      refine R_join (ι := Bool) (nd Tryd.f95 230) (nd Tryd.f95 231) (by kernel_rfl) (fun p => defect_check_k2_S a1 p) (fun p => defect_check_k2 a1 p = some r) ?_ ?_
      · rintro x13 hm
        show H _ (defect_check_k2_S a1 x13) (nd Tryd.f95 231) _
        refine R_cn Tryd.f95 (.tmp 15) 462 463 (by kernel_rfl) x13 (by kernel_rfl) (fun b14 => ?_) (fun b14 => ?_)
        · replace hm := bif_t b14 hm
          refine R_sq Tryd.f95 924 925 (by kernel_rfl) ?_
          refine R_rn Tryd.f95 924 5 [] [] 2 ⟨[(2, vi 19)], []⟩ o0 (by kernel_rfl) (by kernel_rfl) ?_
          obtain rfl := Option.some.inj hm
          refine R_ret (by kernel_rfl) ?_
          exact ret_mk (by kernel_rfl) (by kernel_rfl)
        · replace hm := bif_f b14 hm
          refine R_join (ι := Bool) (nd Tryd.f95 926) (nd Tryd.f95 927) (by kernel_rfl) (fun p => defect_check_k3_S p) (fun p => defect_check_k3 p = some r) ?_ ?_
          · rintro x23 hm
            show H _ (defect_check_k3_S x23) (nd Tryd.f95 927) _
            refine R_cn Tryd.f95 (.tmp 29) 1854 1855 (by kernel_rfl) x23 (by kernel_rfl) (fun b24 => ?_) (fun b24 => ?_)
            · replace hm := bif_t b24 hm
              refine R_sq Tryd.f95 3708 3709 (by kernel_rfl) ?_
              refine R_rn Tryd.f95 3708 7 [] [] 2 ⟨[(2, vi 9)], []⟩ o0 (by kernel_rfl) (by kernel_rfl) ?_
              obtain rfl := Option.some.inj hm
              refine R_ret (by kernel_rfl) ?_
              exact ret_mk (by kernel_rfl) (by kernel_rfl)
            · replace hm := bif_f b24 hm
              refine R_skip (by kernel_rfl) ?_
              refine R_sq Tryd.f95 30 31 (by kernel_rfl) ?_
              refine R_rn Tryd.f95 30 8 [] [] 2 ⟨[(2, vi 0)], []⟩ o0 (by kernel_rfl) (by kernel_rfl) ?_
              obtain rfl := Option.some.inj hm
              refine R_ret (by kernel_rfl) ?_
              exact ret_mk (by kernel_rfl) (by kernel_rfl)
          · obtain ⟨v15, h16, hm⟩ := bind_s hm
            rcases Bool.eq_false_or_eq_true (!v15) with b17 | b17
            · replace hm := bif_t b17 hm
              refine R_rn Tryd.f95 926 6 [(2, dex (cen [] [] 2 0 (defect_inside_x v15) (defect_inside_o v15) [31] [])), (4, dfx true)] [] 2 ⟨[(29, vb true)], []⟩ (o1 (And.intro (callS (K := (kx E 46 0)) ⟨[(31, va [ci a1.Box.X.A, ci a1.Box.X.B])], []⟩ (opAt (rg Tryd.f95 926) 2) [] [] 2 o0 rfl (defect_inside_ok a1.Box.X (-600) 600 v15 h16) (.inl rfl) (by kernel_rfl)) b17)) (by kernel_rfl) (by kernel_rfl) ?_
              exact J_mk (true) hm (by kernel_rfl) (by kernel_rfl)
            · replace hm := bif_f b17 hm
              obtain ⟨v18, h19, hm⟩ := bind_s hm
              rcases Bool.eq_false_or_eq_true (!v18) with b20 | b20
              · replace hm := bif_t b20 hm
                refine R_rn Tryd.f95 926 6 [(2, dex (cen [] [] 2 0 (defect_inside_x v15) (defect_inside_o v15) [31] [])), (4, dfx false), (7, dex (cen [] [] 2 0 (defect_inside_x v18) (defect_inside_o v18) [34, 36] [])), (10, dfx true)] [] 2 ⟨[(29, vb true)], []⟩ (o1 (And.intro (callS (K := (kx E 46 0)) ⟨[(31, va [ci a1.Box.X.A, ci a1.Box.X.B])], []⟩ (opAt (rg Tryd.f95 926) 2) [] [] 2 o0 rfl (defect_inside_ok a1.Box.X (-600) 600 v15 h16) (.inl rfl) (by kernel_rfl)) (And.intro b17 (And.intro (callS (K := (kx E 46 0)) ⟨[(34, vb false), (36, va [ci a1.Box.Y.A, ci a1.Box.Y.B])], []⟩ (opAt (rg Tryd.f95 926) 7) [] [] 2 o0 rfl (defect_inside_ok a1.Box.Y (-600) 600 v18 h19) (.inl rfl) (by kernel_rfl)) b20)))) (by kernel_rfl) (by kernel_rfl) ?_
                exact J_mk (true) hm (by kernel_rfl) (by kernel_rfl)
              · replace hm := bif_f b20 hm
                obtain ⟨v21, h22, hm⟩ := bind_s hm
                refine R_rn Tryd.f95 926 6 [(2, dex (cen [] [] 2 0 (defect_inside_x v15) (defect_inside_o v15) [31] [])), (4, dfx false), (7, dex (cen [] [] 2 0 (defect_inside_x v18) (defect_inside_o v18) [34, 36] [])), (10, dfx false), (13, dex (cen [] [] 2 0 (defect_inside_x v21) (defect_inside_o v21) [40, 42] []))] [] 2 ⟨[(29, vb (!v21))], []⟩ (o1 (And.intro (callS (K := (kx E 46 0)) ⟨[(31, va [ci a1.Box.X.A, ci a1.Box.X.B])], []⟩ (opAt (rg Tryd.f95 926) 2) [] [] 2 o0 rfl (defect_inside_ok a1.Box.X (-600) 600 v15 h16) (.inl rfl) (by kernel_rfl)) (And.intro b17 (And.intro (callS (K := (kx E 46 0)) ⟨[(34, vb false), (36, va [ci a1.Box.Y.A, ci a1.Box.Y.B])], []⟩ (opAt (rg Tryd.f95 926) 7) [] [] 2 o0 rfl (defect_inside_ok a1.Box.Y (-600) 600 v18 h19) (.inl rfl) (by kernel_rfl)) (And.intro b20 (callS (K := (kx E 46 0)) ⟨[(40, vb false), (42, va [ci a1.Box.Z.A, ci a1.Box.Z.B])], []⟩ (opAt (rg Tryd.f95 926) 13) [] [] 2 o0 rfl (defect_inside_ok a1.Box.Z 0 20000 v21 h22) (.inl rfl) (by kernel_rfl))))))) (by kernel_rfl) (by kernel_rfl) ?_
                exact J_mk (!v21) hm (by kernel_rfl) (by kernel_rfl)
      · obtain ⟨v5, h6, hm⟩ := bind_s hm
        rcases Bool.eq_false_or_eq_true v5 with b7 | b7
        · replace hm := bif_t b7 hm
          refine R_rn Tryd.f95 230 4 [(2, dex (cen [] [] 2 0 (defect_isEmpty_x v5) (defect_isEmpty_o v5) [17] [])), (3, dfx true)] [] 2 ⟨[(3, vp 1 0), (15, vb true)], [(1, bx 57 [ci a1.Box.X.A, ci a1.Box.X.B, ci a1.Box.Y.A, ci a1.Box.Y.B, ci a1.Box.Z.A, ci a1.Box.Z.B])]⟩ (o1 (And.intro (callS (K := (kx E 46 0)) ⟨[(17, va [ci a1.Box.X.A, ci a1.Box.X.B])], []⟩ (opAt (rg Tryd.f95 230) 2) [] [] 2 o0 rfl (defect_isEmpty_ok a1.Box.X v5 h6) (.inl rfl) (by kernel_rfl)) b7)) (by kernel_rfl) (by kernel_rfl) ?_
          exact J_mk (true) hm (by kernel_rfl) (by kernel_rfl)
        · replace hm := bif_f b7 hm
          obtain ⟨v8, h9, hm⟩ := bind_s hm
          rcases Bool.eq_false_or_eq_true v8 with b10 | b10
          · replace hm := bif_t b10 hm
            refine R_rn Tryd.f95 230 4 [(2, dex (cen [] [] 2 0 (defect_isEmpty_x v5) (defect_isEmpty_o v5) [17] [])), (3, dfx false), (6, dex (cen [] [] 2 0 (defect_isEmpty_x v8) (defect_isEmpty_o v8) [19, 21] [])), (8, dfx true)] [] 2 ⟨[(3, vp 1 0), (15, vb true)], [(1, bx 57 [ci a1.Box.X.A, ci a1.Box.X.B, ci a1.Box.Y.A, ci a1.Box.Y.B, ci a1.Box.Z.A, ci a1.Box.Z.B])]⟩ (o1 (And.intro (callS (K := (kx E 46 0)) ⟨[(17, va [ci a1.Box.X.A, ci a1.Box.X.B])], []⟩ (opAt (rg Tryd.f95 230) 2) [] [] 2 o0 rfl (defect_isEmpty_ok a1.Box.X v5 h6) (.inl rfl) (by kernel_rfl)) (And.intro b7 (And.intro (callS (K := (kx E 46 0)) ⟨[(19, vb false), (21, va [ci a1.Box.Y.A, ci a1.Box.Y.B])], []⟩ (opAt (rg Tryd.f95 230) 6) [] [] 2 o0 rfl (defect_isEmpty_ok a1.Box.Y v8 h9) (.inl rfl) (by kernel_rfl)) b10)))) (by kernel_rfl) (by kernel_rfl) ?_
            exact J_mk (true) hm (by kernel_rfl) (by kernel_rfl)
          · replace hm := bif_f b10 hm
            obtain ⟨v11, h12, hm⟩ := bind_s hm
            refine R_rn Tryd.f95 230 4 [(2, dex (cen [] [] 2 0 (defect_isEmpty_x v5) (defect_isEmpty_o v5) [17] [])), (3, dfx false), (6, dex (cen [] [] 2 0 (defect_isEmpty_x v8) (defect_isEmpty_o v8) [19, 21] [])), (8, dfx false), (11, dex (cen [] [] 2 0 (defect_isEmpty_x v11) (defect_isEmpty_o v11) [24, 26] []))] [] 2 ⟨[(3, vp 1 0), (15, vb v11)], [(1, bx 57 [ci a1.Box.X.A, ci a1.Box.X.B, ci a1.Box.Y.A, ci a1.Box.Y.B, ci a1.Box.Z.A, ci a1.Box.Z.B])]⟩ (o1 (And.intro (callS (K := (kx E 46 0)) ⟨[(17, va [ci a1.Box.X.A, ci a1.Box.X.B])], []⟩ (opAt (rg Tryd.f95 230) 2) [] [] 2 o0 rfl (defect_isEmpty_ok a1.Box.X v5 h6) (.inl rfl) (by kernel_rfl)) (And.intro b7 (And.intro (callS (K := (kx E 46 0)) ⟨[(19, vb false), (21, va [ci a1.Box.Y.A, ci a1.Box.Y.B])], []⟩ (opAt (rg Tryd.f95 230) 6) [] [] 2 o0 rfl (defect_isEmpty_ok a1.Box.Y v8 h9) (.inl rfl) (by kernel_rfl)) (And.intro b10 (callS (K := (kx E 46 0)) ⟨[(24, vb false), (26, va [ci a1.Box.Z.A, ci a1.Box.Z.B])], []⟩ (opAt (rg Tryd.f95 230) 11) [] [] 2 o0 rfl (defect_isEmpty_ok a1.Box.Z v11 h12) (.inl rfl) (by kernel_rfl))))))) (by kernel_rfl) (by kernel_rfl) ?_
            exact J_mk (v11) hm (by kernel_rfl) (by kernel_rfl)
  · rcases Bool.eq_false_or_eq_true (decide (a1.Kind < 1)) with b2 | b2
    · replace hm := bif_t b2 hm
      refine R_rn Tryd.f95 56 2 [(3, dfx true)] [] 2 ⟨[(3, vp 1 0), (6, vb true)], [(1, bx 57 [ci a1.Box.X.A, ci a1.Box.X.B, ci a1.Box.Y.A, ci a1.Box.Y.B, ci a1.Box.Z.A, ci a1.Box.Z.B])]⟩ (o1 b2) (by kernel_rfl) (by kernel_rfl) ?_
      exact J_mk (true) hm (by kernel_rfl) (by kernel_rfl)
    · replace hm := bif_f b2 hm
      refine R_rn Tryd.f95 56 2 [(3, dfx false)] [] 2 ⟨[(3, vp 1 0), (6, vb (decide (a1.Kind > 6)))], [(1, bx 57 [ci a1.Box.X.A, ci a1.Box.X.B, ci a1.Box.Y.A, ci a1.Box.Y.B, ci a1.Box.Z.A, ci a1.Box.Z.B])]⟩ (o1 b2) (by kernel_rfl) (by kernel_rfl) ?_
      exact J_mk (decide (a1.Kind > 6)) hm (by kernel_rfl) (by kernel_rfl)

end Saw
end Go.SL

namespace Go.SL
namespace Saw
open Go.Proofs
set_option maxHeartbeats 4000000

def defect_Check_x (r : Int) : V := vi r

def defect_Check_o (r : Int) : List (Nat × (Nat × O)) := []

theorem defect_Check_f (r : Int) : Frozen (defect_Check_o r) := by
  intro i k o h
  unfold defect_Check_o at h
  cases h

def defect_Check_L1_S (a1 : List Defect) (x3 : Int) : St :=
  ⟨[(9, vc (tl e_Defect default a1)), (10, vi ((a1.length : Nat) : Int)), (11, vi x3)], []⟩

def defect_Check_L1_T : St :=
  ⟨[], []⟩

set_option maxRecDepth 100000 in
theorem defect_Check_L1_ok (E : Env 0) (a1 : List Defect) : ∀ (n : Nat) (x3 : Int) (res : Int ⊕ Unit), defect_Check_L1 a1 n x3 = some res → HL (kx E 21 0) (nd Tryd.f71 116) (loopQ 0 (fun o => defect_Check_L1_T) (fun v st => RetQ Tryd.prog Tryd.f71 (defect_Check_x v) (defect_Check_o v) .ret st) res) n (defect_Check_L1_S a1 x3) := by
  intro n
  induction n with
  | zero =>
    intro x3 res hm
    cases hm
  | succ n ih =>
    intro x3 res hm
    refine HL_succ ?_
    refine R_sq Tryd.f71 232 233 (by kernel_rfl) ?_
    refine R_rn Tryd.f71 232 4 [] [] 0 ⟨[(9, vc (tl e_Defect default a1)), (10, vi ((a1.length : Nat) : Int)), (11, vi x3), (12, vb (decide (x3 < ((a1.length : Nat) : Int))))], []⟩ o0 (by kernel_rfl) (by kernel_rfl) ?_
    refine R_sq Tryd.f71 466 467 (by kernel_rfl) ?_
    refine R_cn Tryd.f71 (.tmp 12) 932 933 (by kernel_rfl) (decide (x3 < ((a1.length : Nat) : Int))) (by kernel_rfl) (fun b4 => ?_) (fun b4 => ?_)
    · replace hm := bif_t b4 hm
      refine R_skip (by kernel_rfl) ?_
      refine R_sq Tryd.f71 934 935 (by kernel_rfl) ?_
      refine R_bk Tryd.f71 1 1868 (by kernel_rfl) ?_
      refine R_sq Tryd.f71 3736 3737 (by kernel_rfl) ?_
      obtain ⟨g5, hm⟩ := bif_n hm
      refine R_rn Tryd.f71 3736 5 [] [] 0 ⟨[(4, vp 0 0), (9, vc (tl e_Defect default a1)), (10, vi ((a1.length : Nat) : Int)), (11, vi x3)], [(0, bx 59 [ci ((a1.getD x3.toNat default).Kind), ci ((((a1.getD x3.toNat default).Box).X).A), ci ((((a1.getD x3.toNat default).Box).X).B), ci ((((a1.getD x3.toNat default).Box).Y).A), ci ((((a1.getD x3.toNat default).Box).Y).B), ci ((((a1.getD x3.toNat default).Box).Z).A), ci ((((a1.getD x3.toNat default).Box).Z).B)])]⟩ (o1 (inb_of g5)) (by kernel_rfl) (by kernel_rfl) ?_
      refine R_sq Tryd.f71 7474 7475 (by kernel_rfl) ?_
      obtain ⟨v6, h7, hm⟩ := bind_s hm
      refine R_rn Tryd.f71 7474 6 [(1, dex (cen [] [] 1 0 (defect_check_x v6) (defect_check_o v6) [15] []))] [] 1 ⟨[(5, vi v6), (9, vc (tl e_Defect default a1)), (10, vi ((a1.length : Nat) : Int)), (11, vi x3)], []⟩ (o1 (callS (K := (kx E 21 0)) ⟨[(15, va [ci ((a1.getD x3.toNat default).Kind), ci ((((a1.getD x3.toNat default).Box).X).A), ci ((((a1.getD x3.toNat default).Box).X).B), ci ((((a1.getD x3.toNat default).Box).Y).A), ci ((((a1.getD x3.toNat default).Box).Y).B), ci ((((a1.getD x3.toNat default).Box).Z).A), ci ((((a1.getD x3.toNat default).Box).Z).B)])], []⟩ (opAt (rg Tryd.f71 7474) 1) [] [] 1 o0 rfl (defect_check_ok (a1.getD x3.toNat default) v6 h7) (.inl rfl) (by kernel_rfl))) (by kernel_rfl) (by kernel_rfl) ?_
      refine R_sq Tryd.f71 14950 14951 (by kernel_rfl) ?_
      refine R_rn Tryd.f71 14950 7 [] [] 1 ⟨[(5, vi v6), (9, vc (tl e_Defect default a1)), (10, vi ((a1.length : Nat) : Int)), (11, vi x3), (18, vb (v6 != 0))], []⟩ o0 (by kernel_rfl) (by kernel_rfl) ?_
      refine R_cn Tryd.f71 (.tmp 18) 29902 29903 (by kernel_rfl) (v6 != 0) (by kernel_rfl) (fun b8 => ?_) (fun b8 => ?_)
      · replace hm := bif_t b8 hm
        refine R_sq Tryd.f71 59804 59805 (by kernel_rfl) ?_
        refine R_rn Tryd.f71 59804 8 [] [] 1 ⟨[(2, vi v6)], []⟩ o0 (by kernel_rfl) (by kernel_rfl) ?_
        obtain rfl := Option.some.inj hm
        refine R_ret (by kernel_rfl) ?_
        refine L1_ret v6 ?_
        exact ret_mk (by kernel_rfl) (by kernel_rfl)
      · replace hm := bif_f b8 hm
        refine R_skip (by kernel_rfl) ?_
        refine R_rn Tryd.f71 935 9 [] [] 1 ⟨[(9, vc (tl e_Defect default a1)), (10, vi ((a1.length : Nat) : Int)), (11, vi (w64 (x3 + 1)))], []⟩ o0 (by kernel_rfl) (by kernel_rfl) ?_
        exact HL_enter (defect_Check_L1_S a1 (w64 (x3 + 1))) (by kernel_rfl) (by kernel_rfl) (ih (w64 (x3 + 1)) _ hm)
    · replace hm := bif_f b4 hm
      refine R_exit 0 (by kernel_rfl) ?_
      obtain rfl := Option.some.inj hm
      exact L1_mk () (by kernel_rfl) (by kernel_rfl)

set_option maxRecDepth 100000 in
theorem defect_Check_ok (a1 : List Defect) (r : Int) (hm : defect_Check a1 = some r) : CtX Tryd.prog globs 71 0 0 [.one (tl e_Defect default a1)] [] (defect_Check_x r) (defect_Check_o r) := by
  unfold defect_Check at hm
  refine CtX_of_E (fn := Tryd.f71) (c := nd Tryd.f71 1) (nt := 21) (by kernel_rfl) (by kernel_rfl) (by kernel_rfl) (by kernel_rfl) fun E => ?_
  refine R_sq Tryd.f71 2 3 (by kernel_rfl) ?_
  refine R_rn Tryd.f71 2 0 [] [] 0 ⟨[(0, vc (tl e_Defect default a1))], []⟩ o0 (by kernel_rfl) (by kernel_rfl) ?_
  refine R_sq Tryd.f71 6 7 (by kernel_rfl) ?_
  refine R_sq Tryd.f71 12 13 (by kernel_rfl) ?_
  refine R_rn Tryd.f71 12 1 [] [] 0 ⟨[(0, vc (tl e_Defect default a1)), (8, vb (decide (((a1.length : Nat) : Int) > 64)))], []⟩ o0 (by kernel_rfl) (by kernel_rfl) ?_
  refine R_cn Tryd.f71 (.tmp 8) 26 27 (by kernel_rfl) (decide (((a1.length : Nat) : Int) > 64)) (by kernel_rfl) (fun b2 => ?_) (fun b2 => ?_)
  · replace hm := bif_t b2 hm
    refine R_sq Tryd.f71 52 53 (by kernel_rfl) ?_
    refine R_rn Tryd.f71 52 2 [] [] 0 ⟨[(2, vi 4)], []⟩ o0 (by kernel_rfl) (by kernel_rfl) ?_
    obtain rfl := Option.some.inj hm
    refine R_ret (by kernel_rfl) ?_
    exact ret_mk (by kernel_rfl) (by kernel_rfl)
  · replace hm := bif_f b2 hm
    refine R_skip (by kernel_rfl) ?_
    refine R_sq Tryd.f71 14 15 (by kernel_rfl) ?_
    refine R_sq Tryd.f71 28 29 (by kernel_rfl) ?_
    refine R_rn Tryd.f71 28 3 [] [] 0 ⟨[(9, vc (tl e_Defect default a1)), (10, vi ((a1.length : Nat) : Int)), (11, vi 0)], []⟩ o0 (by kernel_rfl) (by kernel_rfl) ?_
    obtain ⟨u11, h10, hm⟩ := bind_s hm
    refine R_loop1 (nd Tryd.f71 116) 0 (by kernel_rfl) FUEL (fun o => defect_Check_L1_T) (fun v st => RetQ Tryd.prog Tryd.f71 (defect_Check_x v) (defect_Check_o v) .ret st) u11 (HL_enter (defect_Check_L1_S a1 0) (by kernel_rfl) (by kernel_rfl) (defect_Check_L1_ok E a1 FUEL 0 u11 h10)) ?_ ?_
    · rintro v12 rfl st hr
      obtain rfl := Option.some.inj hm
      exact hr
    · rintro o9 rfl
      replace hm : _ = some r := hm
      refine R_sq Tryd.f71 30 31 (by kernel_rfl) ?_
      refine R_rn Tryd.f71 30 10 [] [] 0 ⟨[(2, vi 0)], []⟩ o0 (by kernel_rfl) (by kernel_rfl) ?_
      obtain rfl := Option.some.inj hm
      refine R_ret (by kernel_rfl) ?_
      exact ret_mk (by kernel_rfl) (by kernel_rfl)

end Saw
end Go.SL

namespace Go.SL
namespace Saw
open Go.Proofs
set_option maxHeartbeats 4000000

def ident_isSmall_x (r : Bool) : V := vb r

def ident_isSmall_o (r : Bool) : List (Nat × (Nat × O)) := []

theorem ident_isSmall_f (r : Bool) : Frozen (ident_isSmall_o r) := by
  intro i k o h
  unfold ident_isSmall_o at h
  cases h

def ident_isSmall_k1_S (x3 : Bool) : St :=
  ⟨[(2, vb x3)], []⟩

set_option maxRecDepth 100000 in
theorem ident_isSmall_ok (a1 : Int) (r : Bool) (hm : ident_isSmall a1 = some r) : CtX Tryd.prog globs 82 0 0 [.one (.val (.int .u8 a1))] [] (ident_isSmall_x r) (ident_isSmall_o r) := by
  unfold ident_isSmall at hm
  refine CtX_of_E (fn := Tryd.f82) (c := nd Tryd.f82 1) (nt := 9) (by kernel_rfl) (by kernel_rfl) (by kernel_rfl) (by kernel_rfl) fun E => ?_
  refine R_sq Tryd.f82 2 3 (by kernel_rfl) ?_
  refine R_rn Tryd.f82 2 0 [] [] 0 ⟨[(0, vc (.val (.int .u8 a1)))], []⟩ o0 (by kernel_rfl) (by kernel_rfl) ?_
  refine R_join (ι := Bool) (nd Tryd.f82 6) (nd Tryd.f82 7) (by kernel_rfl) (fun p => ident_isSmall_k1_S p) (fun p => ident_isSmall_k1 p = some r) ?_ ?_
  · rintro x3 hm
    show H _ (ident_isSmall_k1_S x3) (nd Tryd.f82 7) _
    obtain rfl := Option.some.inj hm
    refine R_ret (by kernel_rfl) ?_
    exact ret_mk (by kernel_rfl) (by kernel_rfl)
  · rcases Bool.eq_false_or_eq_true (decide (97 ≤ a1)) with b2 | b2
    · replace hm := bif_t b2 hm
      refine R_rn Tryd.f82 6 1 [(2, dfx true)] [] 0 ⟨[(2, vb (decide (a1 ≤ 122)))], []⟩ (o1 b2) (by kernel_rfl) (by kernel_rfl) ?_
      exact J_mk (decide (a1 ≤ 122)) hm (by kernel_rfl) (by kernel_rfl)
    · replace hm := bif_f b2 hm
      refine R_rn Tryd.f82 6 1 [(2, dfx false)] [] 0 ⟨[(2, vb false)], []⟩ (o1 b2) (by kernel_rfl) (by kernel_rfl) ?_
      exact J_mk (false) hm (by kernel_rfl) (by kernel_rfl)

end Saw
end Go.SL

namespace Go.SL
namespace Saw
open Go.Proofs
set_option maxHeartbeats 4000000

def ident_isDigit_x (r : Bool) : V := vb r

def ident_isDigit_o (r : Bool) : List (Nat × (Nat × O)) := []

theorem ident_isDigit_f (r : Bool) : Frozen (ident_isDigit_o r) := by
  intro i k o h
  unfold ident_isDigit_o at h
  cases h

def ident_isDigit_k1_S (x3 : Bool) : St :=
  ⟨[(2, vb x3)], []⟩

set_option maxRecDepth 100000 in
theorem ident_isDigit_ok (a1 : Int) (r : Bool) (hm : ident_isDigit a1 = some r) : CtX Tryd.prog globs 83 0 0 [.one (.val (.int .u8 a1))] [] (ident_isDigit_x r) (ident_isDigit_o r) := by
  unfold ident_isDigit at hm
  refine CtX_of_E (fn := Tryd.f83) (c := nd Tryd.f83 1) (nt := 9) (by kernel_rfl) (by kernel_rfl) (by kernel_rfl) (by kernel_rfl) fun E => ?_
  refine R_sq Tryd.f83 2 3 (by kernel_rfl) ?_
  refine R_rn Tryd.f83 2 0 [] [] 0 ⟨[(0, vc (.val (.int .u8 a1)))], []⟩ o0 (by kernel_rfl) (by kernel_rfl) ?_
  refine R_join (ι := Bool) (nd Tryd.f83 6) (nd Tryd.f83 7) (by kernel_rfl) (fun p => ident_isDigit_k1_S p) (fun p => ident_isDigit_k1 p = some r) ?_ ?_
  · rintro x3 hm
    show H _ (ident_isDigit_k1_S x3) (nd Tryd.f83 7) _
    obtain rfl := Option.some.inj hm
    refine R_ret (by kernel_rfl) ?_
    exact ret_mk (by kernel_rfl) (by kernel_rfl)
  · rcases Bool.eq_false_or_eq_true (decide (48 ≤ a1)) with b2 | b2
    · replace hm := bif_t b2 hm
      refine R_rn Tryd.f83 6 1 [(2, dfx true)] [] 0 ⟨[(2, vb (decide (a1 ≤ 57)))], []⟩ (o1 b2) (by kernel_rfl) (by kernel_rfl) ?_
      exact J_mk (decide (a1 ≤ 57)) hm (by kernel_rfl) (by kernel_rfl)
    · replace hm := bif_f b2 hm
      refine R_rn Tryd.f83 6 1 [(2, dfx false)] [] 0 ⟨[(2, vb false)], []⟩ (o1 b2) (by kernel_rfl) (by kernel_rfl) ?_
      exact J_mk (false) hm (by kernel_rfl) (by kernel_rfl)

end Saw
end Go.SL

namespace Go.SL
namespace Saw
open Go.Proofs
set_option maxHeartbeats 4000000

def ident_IsName_x (r : Bool) : V := vb r

def ident_IsName_o (r : Bool) : List (Nat × (Nat × O)) := []

theorem ident_IsName_f (r : Bool) : Frozen (ident_IsName_o r) := by
  intro i k o h
  unfold ident_IsName_o at h
  cases h

def ident_IsName_k3_S (a1 : ByteArray) (x9 : Int) (x18 : Bool) : St :=
  ⟨[(0, vc (cs a1)), (3, vi x9), (39, vb x18)], []⟩

def ident_IsName_L2_S (a1 : ByteArray) (x9 : Int) : St :=
  ⟨[(0, vc (cs a1)), (3, vi x9)], []⟩

def ident_IsName_L2_T : St :=
  ⟨[], []⟩

def ident_IsName_k1_S (a1 : ByteArray) (x7 : Bool) : St :=
  ⟨[(0, vc (cs a1)), (18, vb x7)], []⟩

set_option maxRecDepth 100000 in
theorem ident_IsName_L2_ok (E : Env 0) (a1 : ByteArray) : ∀ (n : Nat) (x9 : Int) (res : Bool ⊕ Unit), ident_IsName_L2 a1 n x9 = some res → HL (kx E 40 0) (nd Tryd.f46 116) (loopQ 0 (fun o => ident_IsName_L2_T) (fun v st => RetQ Tryd.prog Tryd.f46 (ident_IsName_x v) (ident_IsName_o v) .ret st) res) n (ident_IsName_L2_S a1 x9) := by
  intro n
  induction n with
  | zero =>
    intro x9 res hm
    cases hm
  | succ n ih =>
    intro x9 res hm
    refine HL_succ ?_
    refine R_sq Tryd.f46 232 233 (by kernel_rfl) ?_
    refine R_sq Tryd.f46 464 465 (by kernel_rfl) ?_
    refine R_rn Tryd.f46 464 4 [] [] 0 ⟨[(0, vc (cs a1)), (3, vi x9), (22, vb (decide (x9 < ((a1.size : Nat) : Int))))], []⟩ o0 (by kernel_rfl) (by kernel_rfl) ?_
    refine R_cn Tryd.f46 (.tmp 22) 930 931 (by kernel_rfl) (decide (x9 < ((a1.size : Nat) : Int))) (by kernel_rfl) (fun b10 => ?_) (fun b10 => ?_)
    · replace hm := bif_t b10 hm
      refine R_skip (by kernel_rfl) ?_
      refine R_sq Tryd.f46 466 467 (by kernel_rfl) ?_
      refine R_bk Tryd.f46 1 932 (by kernel_rfl) ?_
      refine R_sq Tryd.f46 1864 1865 (by kernel_rfl) ?_
      obtain ⟨g11, hm⟩ := bif_n hm
      refine R_rn Tryd.f46 1864 6 [] [] 0 ⟨[(0, vc (cs a1)), (3, vi x9), (4, vc (.val (.int .u8 (strAt a1 x9.toNat))))], []⟩ (o1 (inb_of g11)) (by kernel_rfl) (by kernel_rfl) ?_
      refine R_join (ι := Bool) (nd Tryd.f46 3730) (nd Tryd.f46 3731) (by kernel_rfl) (fun p => ident_IsName_k3_S a1 x9 p) (fun p => ident_IsName_k3 x9 (ident_IsName_L2 a1 n) p = some res) ?_ ?_
      · rintro x18 hm
        show H _ (ident_IsName_k3_S a1 x9 x18) (nd Tryd.f46 3731) _
        refine R_cn Tryd.f46 (.tmp 39) 7462 7463 (by kernel_rfl) x18 (by kernel_rfl) (fun b19 => ?_) (fun b19 => ?_)
        · replace hm := bif_t b19 hm
          refine R_sq Tryd.f46 14924 14925 (by kernel_rfl) ?_
          refine R_rn Tryd.f46 14924 8 [] [] 0 ⟨[(2, vb false)], []⟩ o0 (by kernel_rfl) (by kernel_rfl) ?_
          obtain rfl := Option.some.inj hm
          refine R_ret (by kernel_rfl) ?_
          refine L1_ret false ?_
          exact ret_mk (by kernel_rfl) (by kernel_rfl)
        · replace hm := bif_f b19 hm
          refine R_skip (by kernel_rfl) ?_
          refine R_rn Tryd.f46 467 5 [] [] 0 ⟨[(0, vc (cs a1)), (3, vi (w64 (x9 + 1)))], []⟩ o0 (by kernel_rfl) (by kernel_rfl) ?_
          exact HL_enter (ident_IsName_L2_S a1 (w64 (x9 + 1))) (by kernel_rfl) (by kernel_rfl) (ih (w64 (x9 + 1)) _ hm)
      · obtain ⟨v12, h13, hm⟩ := bind_s hm
        rcases Bool.eq_false_or_eq_true (!v12) with b14 | b14
        · replace hm := bif_t b14 hm
          obtain ⟨v15, h16, hm⟩ := bind_s hm
          rcases Bool.eq_false_or_eq_true (!v15) with b17 | b17
          · replace hm := bif_t b17 hm
            refine R_rn Tryd.f46 3730 7 [(1, dex (cen [] [] 0 0 (ident_isSmall_x v12) (ident_isSmall_o v12) [28] [])), (3, dfx true), (5, dex (cen [] [] 0 0 (ident_isDigit_x v15) (ident_isDigit_o v15) [31, 32] [])), (8, dfx true)] [] 0 ⟨[(0, vc (cs a1)), (3, vi x9), (32, vc (.val (.int .u8 (strAt a1 x9.toNat)))), (33, vb v15), (34, vb (!v15)), (37, vc (.val (.int .u8 (strAt a1 x9.toNat)))), (38, vb ((strAt a1 x9.toNat) != 95)), (39, vb ((strAt a1 x9.toNat) != 95))], []⟩ (o1 (And.intro (callS (K := (kx E 40 0)) ⟨[(28, vc (.val (.int .u8 (strAt a1 x9.toNat))))], []⟩ (opAt (rg Tryd.f46 3730) 1) [] [] 0 o0 rfl (ident_isSmall_ok (strAt a1 x9.toNat) v12 h13) (.inl rfl) (by kernel_rfl)) (And.intro b14 (And.intro (callS (K := (kx E 40 0)) ⟨[(31, vb true), (32, vc (.val (.int .u8 (strAt a1 x9.toNat))))], []⟩ (opAt (rg Tryd.f46 3730) 5) [] [] 0 o0 rfl (ident_isDigit_ok (strAt a1 x9.toNat) v15 h16) (.inl rfl) (by kernel_rfl)) b17)))) (by kernel_rfl) (by kernel_rfl) ?_
            exact J_mk ((strAt a1 x9.toNat) != 95) hm (by kernel_rfl) (by kernel_rfl)
          · replace hm := bif_f b17 hm
            refine R_rn Tryd.f46 3730 7 [(1, dex (cen [] [] 0 0 (ident_isSmall_x v12) (ident_isSmall_o v12) [28] [])), (3, dfx true), (5, dex (cen [] [] 0 0 (ident_isDigit_x v15) (ident_isDigit_o v15) [31, 32] [])), (8, dfx false)] [] 0 ⟨[(0, vc (cs a1)), (3, vi x9), (32, vc (.val (.int .u8 (strAt a1 x9.toNat)))), (33, vb v15), (34, vb (!v15)), (39, vb false)], []⟩ (o1 (And.intro (callS (K := (kx E 40 0)) ⟨[(28, vc (.val (.int .u8 (strAt a1 x9.toNat))))], []⟩ (opAt (rg Tryd.f46 3730) 1) [] [] 0 o0 rfl (ident_isSmall_ok (strAt a1 x9.toNat) v12 h13) (.inl rfl) (by kernel_rfl)) (And.intro b14 (And.intro (callS (K := (kx E 40 0)) ⟨[(31, vb true), (32, vc (.val (.int .u8 (strAt a1 x9.toNat))))], []⟩ (opAt (rg Tryd.f46 3730) 5) [] [] 0 o0 rfl (ident_isDigit_ok (strAt a1 x9.toNat) v15 h16) (.inl rfl) (by kernel_rfl)) b17)))) (by kernel_rfl) (by kernel_rfl) ?_
            exact J_mk (false) hm (by kernel_rfl) (by kernel_rfl)
        · replace hm := bif_f b14 hm
          refine R_rn Tryd.f46 3730 7 [(1, dex (cen [] [] 0 0 (ident_isSmall_x v12) (ident_isSmall_o v12) [28] [])), (3, dfx false)] [] 0 ⟨[(0, vc (cs a1)), (3, vi x9), (39, vb false)], []⟩ (o1 (And.intro (callS (K := (kx E 40 0)) ⟨[(28, vc (.val (.int .u8 (strAt a1 x9.toNat))))], []⟩ (opAt (rg Tryd.f46 3730) 1) [] [] 0 o0 rfl (ident_isSmall_ok (strAt a1 x9.toNat) v12 h13) (.inl rfl) (by kernel_rfl)) b14)) (by kernel_rfl) (by kernel_rfl) ?_
          exact J_mk (false) hm (by kernel_rfl) (by kernel_rfl)
    · replace hm := bif_f b10 hm
      refine R_exit 0 (by kernel_rfl) ?_
      obtain rfl := Option.some.inj hm
      exact L1_mk () (by kernel_rfl) (by kernel_rfl)

set_option maxRecDepth 100000 in
theorem ident_IsName_ok (a1 : ByteArray) (r : Bool) (hm : ident_IsName a1 = some r) : CtX Tryd.prog globs 46 0 0 [.one (cs a1)] [] (ident_IsName_x r) (ident_IsName_o r) := by
  unfold ident_IsName at hm
  refine CtX_of_E (fn := Tryd.f46) (c := nd Tryd.f46 1) (nt := 40) (by kernel_rfl) (by kernel_rfl) (by kernel_rfl) (by kernel_rfl) fun E => ?_
  refine R_sq Tryd.f46 2 3 (by kernel_rfl) ?_
  refine R_rn Tryd.f46 2 0 [] [] 0 ⟨[(0, vc (cs a1))], []⟩ o0 (by kernel_rfl) (by kernel_rfl) ?_
  refine R_sq Tryd.f46 6 7 (by kernel_rfl) ?_
  refine R_join (ι := Bool) (nd Tryd.f46 12) (nd Tryd.f46 13) (by kernel_rfl) (fun p => ident_IsName_k1_S a1 p) (fun p => ident_IsName_k1 a1 p = some r) ?_ ?_
  · rintro x7 hm
    show H _ (ident_IsName_k1_S a1 x7) (nd Tryd.f46 13) _
    refine R_cn Tryd.f46 (.tmp 18) 26 27 (by kernel_rfl) x7 (by kernel_rfl) (fun b8 => ?_) (fun b8 => ?_)
    · replace hm := bif_t b8 hm
      refine R_sq Tryd.f46 52 53 (by kernel_rfl) ?_
      refine R_rn Tryd.f46 52 2 [] [] 0 ⟨[(2, vb false)], []⟩ o0 (by kernel_rfl) (by kernel_rfl) ?_
      obtain rfl := Option.some.inj hm
      refine R_ret (by kernel_rfl) ?_
      exact ret_mk (by kernel_rfl) (by kernel_rfl)
    · replace hm := bif_f b8 hm
      refine R_skip (by kernel_rfl) ?_
      refine R_sq Tryd.f46 14 15 (by kernel_rfl) ?_
      refine R_sq Tryd.f46 28 29 (by kernel_rfl) ?_
      refine R_rn Tryd.f46 28 3 [] [] 0 ⟨[(0, vc (cs a1)), (3, vi 1)], []⟩ o0 (by kernel_rfl) (by kernel_rfl) ?_
      obtain ⟨u22, h21, hm⟩ := bind_s hm
      refine R_loop1 (nd Tryd.f46 116) 0 (by kernel_rfl) FUEL (fun o => ident_IsName_L2_T) (fun v st => RetQ Tryd.prog Tryd.f46 (ident_IsName_x v) (ident_IsName_o v) .ret st) u22 (HL_enter (ident_IsName_L2_S a1 1) (by kernel_rfl) (by kernel_rfl) (ident_IsName_L2_ok E a1 FUEL 1 u22 h21)) ?_ ?_
      · rintro v23 rfl st hr
        obtain rfl := Option.some.inj hm
        exact hr
      · rintro o20 rfl
        replace hm : _ = some r := hm
        refine R_sq Tryd.f46 30 31 (by kernel_rfl) ?_
        refine R_rn Tryd.f46 30 9 [] [] 0 ⟨[(2, vb true)], []⟩ o0 (by kernel_rfl) (by kernel_rfl) ?_
        obtain rfl := Option.some.inj hm
        refine R_ret (by kernel_rfl) ?_
        exact ret_mk (by kernel_rfl) (by kernel_rfl)
  · rcases Bool.eq_false_or_eq_true (decide (((a1.size : Nat) : Int) < 1)) with b2 | b2
    · replace hm := bif_t b2 hm
      refine R_rn Tryd.f46 12 1 [(3, dfx true)] [] 0 ⟨[(0, vc (cs a1)), (18, vb true)], []⟩ (o1 b2) (by kernel_rfl) (by kernel_rfl) ?_
      exact J_mk (true) hm (by kernel_rfl) (by kernel_rfl)
    · replace hm := bif_f b2 hm
      rcases Bool.eq_false_or_eq_true (decide (((a1.size : Nat) : Int) > 16)) with b3 | b3
      · replace hm := bif_t b3 hm
        refine R_rn Tryd.f46 12 1 [(3, dfx false), (8, dfx true)] [] 0 ⟨[(0, vc (cs a1)), (18, vb true)], []⟩ (o1 (And.intro b2 b3)) (by kernel_rfl) (by kernel_rfl) ?_
        exact J_mk (true) hm (by kernel_rfl) (by kernel_rfl)
      · replace hm := bif_f b3 hm
        obtain ⟨g4, hm⟩ := bif_n hm
        obtain ⟨v5, h6, hm⟩ := bind_s hm
        refine R_rn Tryd.f46 12 1 [(3, dfx false), (8, dfx false), (11, dex (cen [] [] 0 0 (ident_isSmall_x v5) (ident_isSmall_o v5) [13, 15] []))] [] 0 ⟨[(0, vc (cs a1)), (18, vb (!v5))], []⟩ (o1 (And.intro b2 (And.intro b3 (And.intro (inb_of g4) (callS (K := (kx E 40 0)) ⟨[(13, vb false), (15, vc (.val (.int .u8 (strAt a1 ((0 : Int).toNat)))))], []⟩ (opAt (rg Tryd.f46 12) 11) [] [] 0 o0 rfl (ident_isSmall_ok (strAt a1 ((0 : Int).toNat)) v5 h6) (.inl rfl) (by kernel_rfl)))))) (by kernel_rfl) (by kernel_rfl) ?_
        exact J_mk (!v5) hm (by kernel_rfl) (by kernel_rfl)

end Saw
end Go.SL
