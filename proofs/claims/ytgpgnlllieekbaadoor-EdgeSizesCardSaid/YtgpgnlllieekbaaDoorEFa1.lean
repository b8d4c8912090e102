import Derived.Test.YtgpgnlllieekbaaDoorEBase
set_option linter.unusedVariables false
set_option linter.unusedSimpArgs false
namespace Go.SL
namespace Saw
open Go.Proofs
set_option maxHeartbeats 4000000

def edge_part_x (r : Rect) : V := va [ci r.X.A, ci r.X.B, ci r.Y.A, ci r.Y.B]

def edge_part_o (r : Rect) : List (Nat × (Nat × O)) := []

theorem edge_part_f (r : Rect) : Frozen (edge_part_o r) := by
  intro i k o h
  unfold edge_part_o at h
  cases h

set_option maxRecDepth 100000 in
theorem edge_part_ok (a1 : Rect) (a2 : Int) (a3 : Int) (r : Rect) (hm : edge_part a1 a2 a3 = some r) : CtX Tryd.prog globs 56 0 0 [.agg [ci a1.X.A, ci a1.X.B, ci a1.Y.A, ci a1.Y.B], .one (ci a2), .one (ci a3)] [] (edge_part_x r) (edge_part_o r) := by
  unfold edge_part at hm
  refine CtX_of_E (fn := Tryd.f56) (c := nd Tryd.f56 1) (nt := 21) (by kernel_rfl) (by kernel_rfl) (by kernel_rfl) (by kernel_rfl) fun E => ?_
  refine R_sq Tryd.f56 2 3 (by kernel_rfl) ?_
  refine R_rn Tryd.f56 2 0 [] [] 0 ⟨[(1, vi a2), (2, vi a3), (3, vp 0 0), (6, vp 1 0)], [(0, bx 35 [ci a1.X.A, ci a1.X.B, ci a1.Y.A, ci a1.Y.B]), (1, bx 35 [ci 0, ci 0, ci 0, ci 0])]⟩ o0 (by kernel_rfl) (by kernel_rfl) ?_
  refine R_sq Tryd.f56 6 7 (by kernel_rfl) ?_
  refine R_rn Tryd.f56 6 1 [] [] 2 ⟨[(6, vp 1 0)], [(1, bx 35 [ci (w64 (a1.X.A + a2)), ci (w64 (a1.X.A + a3)), ci a1.Y.A, ci a1.Y.B])]⟩ o0 (by kernel_rfl) (by kernel_rfl) ?_
  obtain rfl := Option.some.inj hm
  refine R_ret (by kernel_rfl) ?_
  exact ret_mk (by kernel_rfl) (by kernel_rfl)

end Saw
end Go.SL

namespace Go.SL
namespace Saw
open Go.Proofs
set_option maxHeartbeats 4000000

def span_Meet_x (r : Span) : V := va [ci r.A, ci r.B]

def span_Meet_o (r : Span) : List (Nat × (Nat × O)) := []

theorem span_Meet_f (r : Span) : Frozen (span_Meet_o r) := by
  intro i k o h
  unfold span_Meet_o at h
  cases h

set_option maxRecDepth 100000 in
theorem span_Meet_ok (a1 : Span) (a2 : Span) (r : Span) (hm : span_Meet a1 a2 = some r) : CtX Tryd.prog globs 36 0 0 [.agg [ci a1.A, ci a1.B], .agg [ci a2.A, ci a2.B]] [] (span_Meet_x r) (span_Meet_o r) := by
  unfold span_Meet at hm
  refine CtX_of_E (fn := Tryd.f36) (c := nd Tryd.f36 1) (nt := 24) (by kernel_rfl) (by kernel_rfl) (by kernel_rfl) (by kernel_rfl) fun E => ?_
  refine R_sq Tryd.f36 2 3 (by kernel_rfl) ?_
  refine R_rn Tryd.f36 2 0 [] [] 0 ⟨[(2, vp 0 0), (3, vp 1 0), (4, vp 2 0)], [(0, bx 33 [ci a1.A, ci a1.B]), (1, bx 33 [ci a2.A, ci a2.B]), (2, bx 33 [ci 0, ci 0])]⟩ o0 (by kernel_rfl) (by kernel_rfl) ?_
  refine R_sq Tryd.f36 6 7 (by kernel_rfl) ?_
  refine R_rn Tryd.f36 6 1 [] [] 3 ⟨[(4, vp 2 0), (5, vp 3 0)], [(2, bx 33 [ci 0, ci 0]), (3, bx 33 [ci (imax a1.A a2.A), ci (imin a1.B a2.B)])]⟩ o0 (by kernel_rfl) (by kernel_rfl) ?_
  refine R_sq Tryd.f36 14 15 (by kernel_rfl) ?_
  refine R_sq Tryd.f36 28 29 (by kernel_rfl) ?_
  refine R_rn Tryd.f36 28 2 [] [] 4 ⟨[(4, vp 2 0), (5, vp 3 0), (21, vb (decide ((imax a1.A a2.A) ≥ (imin a1.B a2.B))))], [(2, bx 33 [ci 0, ci 0]), (3, bx 33 [ci (imax a1.A a2.A), ci (imin a1.B a2.B)])]⟩ o0 (by kernel_rfl) (by kernel_rfl) ?_
  refine R_cn Tryd.f36 (.tmp 21) 58 59 (by kernel_rfl) (decide ((imax a1.A a2.A) ≥ (imin a1.B a2.B))) (by kernel_rfl) (fun b3 => ?_) (fun b3 => ?_)
  · replace hm := bif_t b3 hm
    refine R_sq Tryd.f36 116 117 (by kernel_rfl) ?_
    refine R_rn Tryd.f36 116 3 [] [] 4 ⟨[(4, vp 2 0)], [(2, bx 33 [ci 0, ci 0])]⟩ o0 (by kernel_rfl) (by kernel_rfl) ?_
    obtain rfl := Option.some.inj hm
    refine R_ret (by kernel_rfl) ?_
    exact ret_mk (by kernel_rfl) (by kernel_rfl)
  · replace hm := bif_f b3 hm
    refine R_skip (by kernel_rfl) ?_
    refine R_sq Tryd.f36 30 31 (by kernel_rfl) ?_
    refine R_rn Tryd.f36 30 4 [] [] 4 ⟨[(4, vp 2 0)], [(2, bx 33 [ci (imax a1.A a2.A), ci (imin a1.B a2.B)])]⟩ o0 (by kernel_rfl) (by kernel_rfl) ?_
    obtain rfl := Option.some.inj hm
    refine R_ret (by kernel_rfl) ?_
    exact ret_mk (by kernel_rfl) (by kernel_rfl)

end Saw
end Go.SL

namespace Go.SL
namespace Saw
open Go.Proofs
set_option maxHeartbeats 4000000

def defect_isEmpty_x (r : Bool) : V := vb r

def defect_isEmpty_o (r : Bool) : List (Nat × (Nat × O)) := []

theorem defect_isEmpty_f (r : Bool) : Frozen (defect_isEmpty_o r) := by
  intro i k o h
  unfold defect_isEmpty_o at h
  cases h

set_option maxRecDepth 100000 in
theorem defect_isEmpty_ok (a1 : Span) (r : Bool) (hm : defect_isEmpty a1 = some r) : CtX Tryd.prog globs 109 0 0 [.agg [ci a1.A, ci a1.B]] [] (defect_isEmpty_x r) (defect_isEmpty_o r) := by
  unfold defect_isEmpty at hm
  refine CtX_of_E (fn := Tryd.f109) (c := nd Tryd.f109 1) (nt := 8) (by kernel_rfl) (by kernel_rfl) (by kernel_rfl) (by kernel_rfl) fun E => ?_
  refine R_sq Tryd.f109 2 3 (by kernel_rfl) ?_
  refine R_rn Tryd.f109 2 0 [] [] 0 ⟨[(1, vp 0 0)], [(0, bx 33 [ci a1.A, ci a1.B])]⟩ o0 (by kernel_rfl) (by kernel_rfl) ?_
  refine R_sq Tryd.f109 6 7 (by kernel_rfl) ?_
  refine R_rn Tryd.f109 6 1 [] [] 1 ⟨[(2, vb (decide (a1.A ≥ a1.B)))], []⟩ o0 (by kernel_rfl) (by kernel_rfl) ?_
  obtain rfl := Option.some.inj hm
  refine R_ret (by kernel_rfl) ?_
  exact ret_mk (by kernel_rfl) (by kernel_rfl)

end Saw
end Go.SL

namespace Go.SL
namespace Saw
open Go.Proofs
set_option maxHeartbeats 4000000

def defect_meet_x (r : Box × Bool) : V := .tup [.agg [ci r.1.X.A, ci r.1.X.B, ci r.1.Y.A, ci r.1.Y.B, ci r.1.Z.A, ci r.1.Z.B], .one (cb r.2)]

def defect_meet_o (r : Box × Bool) : List (Nat × (Nat × O)) := []

theorem defect_meet_f (r : Box × Bool) : Frozen (defect_meet_o r) := by
  intro i k o h
  unfold defect_meet_o at h
  cases h

def defect_meet_k1_S (v3 : Span) (v5 : Span) (v7 : Span) (x17 : Bool) : St :=
  ⟨[(4, vp 2 0), (6, vp 3 0), (35, vb x17)], [(2, bx 57 [ci 0, ci 0, ci 0, ci 0, ci 0, ci 0]), (3, bx 57 [ci v3.A, ci v3.B, ci v5.A, ci v5.B, ci v7.A, ci v7.B])]⟩

set_option maxRecDepth 100000 in
theorem defect_meet_ok (a1 : Box) (a2 : Box) (r : Box × Bool) (hm : defect_meet a1 a2 = some r) : CtX Tryd.prog globs 118 0 0 [.agg [ci a1.X.A, ci a1.X.B, ci a1.Y.A, ci a1.Y.B, ci a1.Z.A, ci a1.Z.B], .agg [ci a2.X.A, ci a2.X.B, ci a2.Y.A, ci a2.Y.B, ci a2.Z.A, ci a2.Z.B]] [] (defect_meet_x r) (defect_meet_o r) := by
  unfold defect_meet at hm
  refine CtX_of_E (fn := Tryd.f118) (c := nd Tryd.f118 1) (nt := 38) (by kernel_rfl) (by kernel_rfl) (by kernel_rfl) (by kernel_rfl) fun E => ?_
  refine R_sq Tryd.f118 2 3 (by kernel_rfl) ?_
  refine R_rn Tryd.f118 2 0 [] [] 0 ⟨[(2, vp 0 0), (3, vp 1 0), (4, vp 2 0)], [(0, bx 57 [ci a1.X.A, ci a1.X.B, ci a1.Y.A, ci a1.Y.B, ci a1.Z.A, ci a1.Z.B]), (1, bx 57 [ci a2.X.A, ci a2.X.B, ci a2.Y.A, ci a2.Y.B, ci a2.Z.A, ci a2.Z.B]), (2, bx 57 [ci 0, ci 0, ci 0, ci 0, ci 0, ci 0])]⟩ o0 (by kernel_rfl) (by kernel_rfl) ?_
  refine R_sq Tryd.f118 6 7 (by kernel_rfl) ?_
  obtain ⟨v3, h4, hm⟩ := bind_s hm
  obtain ⟨v5, h6, hm⟩ := bind_s hm
  obtain ⟨v7, h8, hm⟩ := bind_s hm
  refine R_dr Tryd.f118 6 1 [] [(4, dex (cen [] [] 3 0 (span_Meet_x v3) (span_Meet_o v3) [8, 10] [])), (9, dex (cen [] [] 3 0 (span_Meet_x v5) (span_Meet_o v5) [13, 15] [])), (14, dex (cen [] [] 3 0 (span_Meet_x v7) (span_Meet_o v7) [18, 20] []))] [] [0, 1, 0, 4, 15, 0, 32, 0, 128, 511, 0, 1024, 0, 4096, 16383, 32767, 0, 131071] 3 ⟨[(4, vp 2 0), (6, vp 3 0)], [(2, bx 57 [ci 0, ci 0, ci 0, ci 0, ci 0, ci 0]), (3, bx 57 [ci v3.A, ci v3.B, ci v5.A, ci v5.B, ci v7.A, ci v7.B])]⟩ (o1 (And.intro (callS (K := (kx E 38 0)) ⟨[(8, va [ci a1.X.A, ci a1.X.B]), (10, va [ci a2.X.A, ci a2.X.B])], []⟩ (opAt (rg Tryd.f118 6) 4) [] [] 3 o0 rfl (span_Meet_ok a1.X a2.X v3 h4) (.inl rfl) (by kernel_rfl)) (And.intro (callS (K := (kx E 38 0)) ⟨[(13, va [ci a1.Y.A, ci a1.Y.B]), (15, va [ci a2.Y.A, ci a2.Y.B])], []⟩ (opAt (rg Tryd.f118 6) 9) [] [] 3 o0 rfl (span_Meet_ok a1.Y a2.Y v5 h6) (.inl rfl) (by kernel_rfl)) (callS (K := (kx E 38 0)) ⟨[(18, va [ci a1.Z.A, ci a1.Z.B]), (20, va [ci a2.Z.A, ci a2.Z.B])], []⟩ (opAt (rg Tryd.f118 6) 14) [] [] 3 o0 rfl (span_Meet_ok a1.Z a2.Z v7 h8) (.inl rfl) (by kernel_rfl))))) (by kernel_rfl) (by kernel_rfl) ?_
  refine R_sq Tryd.f118 14 15 (by kernel_rfl) ?_
  refine R_join (ι := Bool) (nd Tryd.f118 28) (nd Tryd.f118 29) (by kernel_rfl) (fun p => defect_meet_k1_S v3 v5 v7 p) (fun p => defect_meet_k1 v3 v5 v7 p = some r) ?_ ?_
  · rintro x17 hm
    show H _ (defect_meet_k1_S v3 v5 v7 x17) (nd Tryd.f118 29) _
    refine R_cn Tryd.f118 (.tmp 35) 58 59 (by kernel_rfl) x17 (by kernel_rfl) (fun b18 => ?_) (fun b18 => ?_)
    · replace hm := bif_t b18 hm
      refine R_sq Tryd.f118 116 117 (by kernel_rfl) ?_
      refine R_rn Tryd.f118 116 3 [] [] 4 ⟨[(4, vp 2 0), (5, vb false)], [(2, bx 57 [ci 0, ci 0, ci 0, ci 0, ci 0, ci 0])]⟩ o0 (by kernel_rfl) (by kernel_rfl) ?_
      obtain rfl := Option.some.inj hm
      refine R_ret (by kernel_rfl) ?_
      exact ret_mk (by kernel_rfl) (by kernel_rfl)
    · replace hm := bif_f b18 hm
      refine R_skip (by kernel_rfl) ?_
      refine R_sq Tryd.f118 30 31 (by kernel_rfl) ?_
      refine R_rn Tryd.f118 30 4 [] [] 4 ⟨[(4, vp 2 0), (5, vb true)], [(2, bx 57 [ci v3.A, ci v3.B, ci v5.A, ci v5.B, ci v7.A, ci v7.B])]⟩ o0 (by kernel_rfl) (by kernel_rfl) ?_
      obtain rfl := Option.some.inj hm
      refine R_ret (by kernel_rfl) ?_
      exact ret_mk (by kernel_rfl) (by kernel_rfl)
  · obtain ⟨v9, h10, hm⟩ := bind_s hm
    rcases Bool.eq_false_or_eq_true v9 with b11 | b11
    · replace hm := bif_t b11 hm
      refine R_rn Tryd.f118 28 2 [(2, dex (cen [] [] 4 0 (defect_isEmpty_x v9) (defect_isEmpty_o v9) [24] [])), (3, dfx true)] [] 4 ⟨[(4, vp 2 0), (6, vp 3 0), (35, vb true)], [(2, bx 57 [ci 0, ci 0, ci 0, ci 0, ci 0, ci 0]), (3, bx 57 [ci v3.A, ci v3.B, ci v5.A, ci v5.B, ci v7.A, ci v7.B])]⟩ (o1 (And.intro (callS (K := (kx E 38 0)) ⟨[(24, va [ci v3.A, ci v3.B])], []⟩ (opAt (rg Tryd.f118 28) 2) [] [] 4 o0 rfl (defect_isEmpty_ok v3 v9 h10) (.inl rfl) (by kernel_rfl)) b11)) (by kernel_rfl) (by kernel_rfl) ?_
      exact J_mk (true) hm (by kernel_rfl) (by kernel_rfl)
    · replace hm := bif_f b11 hm
      obtain ⟨v12, h13, hm⟩ := bind_s hm
      rcases Bool.eq_false_or_eq_true v12 with b14 | b14
      · replace hm := bif_t b14 hm
        refine R_rn Tryd.f118 28 2 [(2, dex (cen [] [] 4 0 (defect_isEmpty_x v9) (defect_isEmpty_o v9) [24] [])), (3, dfx false), (6, dex (cen [] [] 4 0 (defect_isEmpty_x v12) (defect_isEmpty_o v12) [26, 28] [])), (8, dfx true)] [] 4 ⟨[(4, vp 2 0), (6, vp 3 0), (35, vb true)], [(2, bx 57 [ci 0, ci 0, ci 0, ci 0, ci 0, ci 0]), (3, bx 57 [ci v3.A, ci v3.B, ci v5.A, ci v5.B, ci v7.A, ci v7.B])]⟩ (o1 (And.intro (callS (K := (kx E 38 0)) ⟨[(24, va [ci v3.A, ci v3.B])], []⟩ (opAt (rg Tryd.f118 28) 2) [] [] 4 o0 rfl (defect_isEmpty_ok v3 v9 h10) (.inl rfl) (by kernel_rfl)) (And.intro b11 (And.intro (callS (K := (kx E 38 0)) ⟨[(26, vb false), (28, va [ci v5.A, ci v5.B])], []⟩ (opAt (rg Tryd.f118 28) 6) [] [] 4 o0 rfl (defect_isEmpty_ok v5 v12 h13) (.inl rfl) (by kernel_rfl)) b14)))) (by kernel_rfl) (by kernel_rfl) ?_
        exact J_mk (true) hm (by kernel_rfl) (by kernel_rfl)
      · replace hm := bif_f b14 hm
        obtain ⟨v15, h16, hm⟩ := bind_s hm
        refine R_rn Tryd.f118 28 2 [(2, dex (cen [] [] 4 0 (defect_isEmpty_x v9) (defect_isEmpty_o v9) [24] [])), (3, dfx false), (6, dex (cen [] [] 4 0 (defect_isEmpty_x v12) (defect_isEmpty_o v12) [26, 28] [])), (8, dfx false), (11, dex (cen [] [] 4 0 (defect_isEmpty_x v15) (defect_isEmpty_o v15) [31, 33] []))] [] 4 ⟨[(4, vp 2 0), (6, vp 3 0), (35, vb v15)], [(2, bx 57 [ci 0, ci 0, ci 0, ci 0, ci 0, ci 0]), (3, bx 57 [ci v3.A, ci v3.B, ci v5.A, ci v5.B, ci v7.A, ci v7.B])]⟩ (o1 (And.intro (callS (K := (kx E 38 0)) ⟨[(24, va [ci v3.A, ci v3.B])], []⟩ (opAt (rg Tryd.f118 28) 2) [] [] 4 o0 rfl (defect_isEmpty_ok v3 v9 h10) (.inl rfl) (by kernel_rfl)) (And.intro b11 (And.intro (callS (K := (kx E 38 0)) ⟨[(26, vb false), (28, va [ci v5.A, ci v5.B])], []⟩ (opAt (rg Tryd.f118 28) 6) [] [] 4 o0 rfl (defect_isEmpty_ok v5 v12 h13) (.inl rfl) (by kernel_rfl)) (And.intro b14 (callS (K := (kx E 38 0)) ⟨[(31, vb false), (33, va [ci v7.A, ci v7.B])], []⟩ (opAt (rg Tryd.f118 28) 11) [] [] 4 o0 rfl (defect_isEmpty_ok v7 v15 h16) (.inl rfl) (by kernel_rfl))))))) (by kernel_rfl) (by kernel_rfl) ?_
        exact J_mk (v15) hm (by kernel_rfl) (by kernel_rfl)

end Saw
end Go.SL

namespace Go.SL
namespace Saw
open Go.Proofs
set_option maxHeartbeats 4000000

def defect_Touches_x (r : Bool) : V := vb r

def defect_Touches_o (r : Bool) : List (Nat × (Nat × O)) := []

theorem defect_Touches_f (r : Bool) : Frozen (defect_Touches_o r) := by
  intro i k o h
  unfold defect_Touches_o at h
  cases h

set_option maxRecDepth 100000 in
theorem defect_Touches_ok (a1 : Defect) (a2 : Box) (r : Bool) (hm : defect_Touches a1 a2 = some r) : CtX Tryd.prog globs 114 0 0 [.agg [ci a1.Kind, ci a1.Box.X.A, ci a1.Box.X.B, ci a1.Box.Y.A, ci a1.Box.Y.B, ci a1.Box.Z.A, ci a1.Box.Z.B], .agg [ci a2.X.A, ci a2.X.B, ci a2.Y.A, ci a2.Y.B, ci a2.Z.A, ci a2.Z.B]] [] (defect_Touches_x r) (defect_Touches_o r) := by
  unfold defect_Touches at hm
  refine CtX_of_E (fn := Tryd.f114) (c := nd Tryd.f114 1) (nt := 15) (by kernel_rfl) (by kernel_rfl) (by kernel_rfl) (by kernel_rfl) fun E => ?_
  refine R_sq Tryd.f114 2 3 (by kernel_rfl) ?_
  refine R_rn Tryd.f114 2 0 [] [] 0 ⟨[(2, vp 0 0), (3, vp 1 0)], [(0, bx 59 [ci a1.Kind, ci a1.Box.X.A, ci a1.Box.X.B, ci a1.Box.Y.A, ci a1.Box.Y.B, ci a1.Box.Z.A, ci a1.Box.Z.B]), (1, bx 57 [ci a2.X.A, ci a2.X.B, ci a2.Y.A, ci a2.Y.B, ci a2.Z.A, ci a2.Z.B])]⟩ o0 (by kernel_rfl) (by kernel_rfl) ?_
  refine R_sq Tryd.f114 6 7 (by kernel_rfl) ?_
  obtain ⟨v3, h4, hm⟩ := bind_s hm
  refine R_rn Tryd.f114 6 1 [(3, dex (cen [] [] 2 0 (defect_meet_x v3) (defect_meet_o v3) [9, 10] []))] [] 2 ⟨[(6, vb v3.2)], []⟩ (o1 (callS (K := (kx E 15 0)) ⟨[(9, va [ci a1.Box.X.A, ci a1.Box.X.B, ci a1.Box.Y.A, ci a1.Box.Y.B, ci a1.Box.Z.A, ci a1.Box.Z.B]), (10, va [ci a2.X.A, ci a2.X.B, ci a2.Y.A, ci a2.Y.B, ci a2.Z.A, ci a2.Z.B])], []⟩ (opAt (rg Tryd.f114 6) 3) [] [] 2 o0 rfl (defect_meet_ok a1.Box a2 v3 h4) (.inl rfl) (by kernel_rfl))) (by kernel_rfl) (by kernel_rfl) ?_
  refine R_sq Tryd.f114 14 15 (by kernel_rfl) ?_
  refine R_rn Tryd.f114 14 2 [] [] 3 ⟨[(4, vb v3.2)], []⟩ o0 (by kernel_rfl) (by kernel_rfl) ?_
  obtain rfl := Option.some.inj hm
  refine R_ret (by kernel_rfl) ?_
  exact ret_mk (by kernel_rfl) (by kernel_rfl)

end Saw
end Go.SL

namespace Go.SL
namespace Saw
open Go.Proofs
set_option maxHeartbeats 4000000

def worth_isWithin_x (r : Bool) : V := vb r

def worth_isWithin_o (r : Bool) : List (Nat × (Nat × O)) := []

theorem worth_isWithin_f (r : Bool) : Frozen (worth_isWithin_o r) := by
  intro i k o h
  unfold worth_isWithin_o at h
  cases h

def worth_isWithin_k1_S (x5 : Bool) : St :=
  ⟨[(4, vb x5)], []⟩

set_option maxRecDepth 100000 in
theorem worth_isWithin_ok (a1 : Span) (a2 : Int) (r : Bool) (hm : worth_isWithin a1 a2 = some r) : CtX Tryd.prog globs 115 0 0 [.agg [ci a1.A, ci a1.B], .one (ci a2)] [] (worth_isWithin_x r) (worth_isWithin_o r) := by
  unfold worth_isWithin at hm
  refine CtX_of_E (fn := Tryd.f115) (c := nd Tryd.f115 1) (nt := 21) (by kernel_rfl) (by kernel_rfl) (by kernel_rfl) (by kernel_rfl) fun E => ?_
  refine R_sq Tryd.f115 2 3 (by kernel_rfl) ?_
  refine R_rn Tryd.f115 2 0 [] [] 0 ⟨[(1, vi a2), (2, vp 0 0)], [(0, bx 33 [ci a1.A, ci a1.B])]⟩ o0 (by kernel_rfl) (by kernel_rfl) ?_
  refine R_join (ι := Bool) (nd Tryd.f115 6) (nd Tryd.f115 7) (by kernel_rfl) (fun p => worth_isWithin_k1_S p) (fun p => worth_isWithin_k1 p = some r) ?_ ?_
  · rintro x5 hm
    show H _ (worth_isWithin_k1_S x5) (nd Tryd.f115 7) _
    obtain rfl := Option.some.inj hm
    refine R_ret (by kernel_rfl) ?_
    exact ret_mk (by kernel_rfl) (by kernel_rfl)
  · rcases Bool.eq_false_or_eq_true (decide (a1.A ≥ 0)) with b3 | b3
    · replace hm := bif_t b3 hm
      rcases Bool.eq_false_or_eq_true (decide (a1.A < a1.B)) with b4 | b4
      · replace hm := bif_t b4 hm
        refine R_rn Tryd.f115 6 1 [(3, dfx true), (10, dfx true)] [] 1 ⟨[(4, vb (decide (a1.B ≤ a2)))], []⟩ (o1 (And.intro b3 b4)) (by kernel_rfl) (by kernel_rfl) ?_
        exact J_mk (decide (a1.B ≤ a2)) hm (by kernel_rfl) (by kernel_rfl)
      · replace hm := bif_f b4 hm
        refine R_rn Tryd.f115 6 1 [(3, dfx true), (10, dfx false)] [] 1 ⟨[(4, vb false)], []⟩ (o1 (And.intro b3 b4)) (by kernel_rfl) (by kernel_rfl) ?_
        exact J_mk (false) hm (by kernel_rfl) (by kernel_rfl)
    · replace hm := bif_f b3 hm
      refine R_rn Tryd.f115 6 1 [(3, dfx false)] [] 1 ⟨[(4, vb false)], []⟩ (o1 b3) (by kernel_rfl) (by kernel_rfl) ?_
      exact J_mk (false) hm (by kernel_rfl) (by kernel_rfl)

end Saw
end Go.SL

namespace Go.SL
namespace Saw
open Go.Proofs
set_option maxHeartbeats 4000000

def product_Price_x (r : Int × Bool) : V := .tup [.one (ci r.1), .one (cb r.2)]

def product_Price_o (r : Int × Bool) : List (Nat × (Nat × O)) := []

theorem product_Price_f (r : Int × Bool) : Frozen (product_Price_o r) := by
  intro i k o h
  unfold product_Price_o at h
  cases h

def product_Price_L1_S (a1 : Product) (a2 : Int) (x3 : Int) : St :=
  ⟨[(1, vi a2), (2, vp 0 0), (9, vc (tl e_i64 default a1.Lengths)), (10, vi ((a1.Lengths.length : Nat) : Int)), (11, vi x3)], [(0, bx 43 [cs a1.Name, ci a1.Thick, ci a1.Width, ci a1.Allow, ci a1.Wane, tl e_i64 default a1.Lengths, tl e_i64 default a1.Prices])]⟩

def product_Price_L1_T : St :=
  ⟨[], []⟩

set_option maxRecDepth 100000 in
theorem product_Price_L1_ok (E : Env 0) (a1 : Product) (a2 : Int) : ∀ (n : Nat) (x3 : Int) (res : (Int × Bool) ⊕ Unit), product_Price_L1 a1 a2 n x3 = some res → HL (kx E 30 0) (nd Tryd.f116 52) (loopQ 0 (fun o => product_Price_L1_T) (fun v st => RetQ Tryd.prog Tryd.f116 (product_Price_x v) (product_Price_o v) .ret st) res) n (product_Price_L1_S a1 a2 x3) := by
  intro n
  induction n with
  | zero =>
    intro x3 res hm
    cases hm
  | succ n ih =>
    intro x3 res hm
    refine HL_succ ?_
    refine R_sq Tryd.f116 104 105 (by kernel_rfl) ?_
    refine R_rn Tryd.f116 104 2 [] [] 1 ⟨[(1, vi a2), (2, vp 0 0), (9, vc (tl e_i64 default a1.Lengths)), (10, vi ((a1.Lengths.length : Nat) : Int)), (11, vi x3), (12, vb (decide (x3 < ((a1.Lengths.length : Nat) : Int))))], [(0, bx 43 [cs a1.Name, ci a1.Thick, ci a1.Width, ci a1.Allow, ci a1.Wane, tl e_i64 default a1.Lengths, tl e_i64 default a1.Prices])]⟩ o0 (by kernel_rfl) (by kernel_rfl) ?_
    refine R_sq Tryd.f116 210 211 (by kernel_rfl) ?_
    refine R_cn Tryd.f116 (.tmp 12) 420 421 (by kernel_rfl) (decide (x3 < ((a1.Lengths.length : Nat) : Int))) (by kernel_rfl) (fun b4 => ?_) (fun b4 => ?_)
    · replace hm := bif_t b4 hm
      refine R_skip (by kernel_rfl) ?_
      refine R_sq Tryd.f116 422 423 (by kernel_rfl) ?_
      refine R_bk Tryd.f116 1 844 (by kernel_rfl) ?_
      refine R_sq Tryd.f116 1688 1689 (by kernel_rfl) ?_
      obtain ⟨g5, hm⟩ := bif_n hm
      refine R_rn Tryd.f116 1688 3 [] [] 1 ⟨[(1, vi a2), (2, vp 0 0), (6, vi x3), (7, vi (a1.Lengths.getD x3.toNat default)), (9, vc (tl e_i64 default a1.Lengths)), (10, vi ((a1.Lengths.length : Nat) : Int)), (11, vi x3)], [(0, bx 43 [cs a1.Name, ci a1.Thick, ci a1.Width, ci a1.Allow, ci a1.Wane, tl e_i64 default a1.Lengths, tl e_i64 default a1.Prices])]⟩ (o1 (inb_of g5)) (by kernel_rfl) (by kernel_rfl) ?_
      refine R_sq Tryd.f116 3378 3379 (by kernel_rfl) ?_
      refine R_sq Tryd.f116 6756 6757 (by kernel_rfl) ?_
      refine R_rn Tryd.f116 6756 4 [] [] 1 ⟨[(1, vi a2), (2, vp 0 0), (6, vi x3), (9, vc (tl e_i64 default a1.Lengths)), (10, vi ((a1.Lengths.length : Nat) : Int)), (11, vi x3), (18, vb ((a1.Lengths.getD x3.toNat default) != a2))], [(0, bx 43 [cs a1.Name, ci a1.Thick, ci a1.Width, ci a1.Allow, ci a1.Wane, tl e_i64 default a1.Lengths, tl e_i64 default a1.Prices])]⟩ o0 (by kernel_rfl) (by kernel_rfl) ?_
      refine R_cn Tryd.f116 (.tmp 18) 13514 13515 (by kernel_rfl) ((a1.Lengths.getD x3.toNat default) != a2) (by kernel_rfl) (fun b6 => ?_) (fun b6 => ?_)
      · replace hm := bif_t b6 hm
        refine R_exit 1 (by kernel_rfl) ?_
        refine R_rn Tryd.f116 423 8 [] [] 1 ⟨[(1, vi a2), (2, vp 0 0), (9, vc (tl e_i64 default a1.Lengths)), (10, vi ((a1.Lengths.length : Nat) : Int)), (11, vi (w64 (x3 + 1)))], [(0, bx 43 [cs a1.Name, ci a1.Thick, ci a1.Width, ci a1.Allow, ci a1.Wane, tl e_i64 default a1.Lengths, tl e_i64 default a1.Prices])]⟩ o0 (by kernel_rfl) (by kernel_rfl) ?_
        exact HL_enter (product_Price_L1_S a1 a2 (w64 (x3 + 1))) (by kernel_rfl) (by kernel_rfl) (ih (w64 (x3 + 1)) _ hm)
      · replace hm := bif_f b6 hm
        refine R_skip (by kernel_rfl) ?_
        refine R_sq Tryd.f116 6758 6759 (by kernel_rfl) ?_
        refine R_sq Tryd.f116 13516 13517 (by kernel_rfl) ?_
        refine R_rn Tryd.f116 13516 5 [] [] 1 ⟨[(2, vp 0 0), (6, vi x3), (23, vb (decide (x3 ≥ ((a1.Prices.length : Nat) : Int))))], [(0, bx 43 [cs a1.Name, ci a1.Thick, ci a1.Width, ci a1.Allow, ci a1.Wane, tl e_i64 default a1.Lengths, tl e_i64 default a1.Prices])]⟩ o0 (by kernel_rfl) (by kernel_rfl) ?_
        refine R_cn Tryd.f116 (.tmp 23) 27034 27035 (by kernel_rfl) (decide (x3 ≥ ((a1.Prices.length : Nat) : Int))) (by kernel_rfl) (fun b7 => ?_) (fun b7 => ?_)
        · replace hm := bif_t b7 hm
          refine R_sq Tryd.f116 54068 54069 (by kernel_rfl) ?_
          refine R_rn Tryd.f116 54068 6 [] [] 1 ⟨[(4, vi 0), (5, vb false)], []⟩ o0 (by kernel_rfl) (by kernel_rfl) ?_
          obtain rfl := Option.some.inj hm
          refine R_ret (by kernel_rfl) ?_
          refine L1_ret (0, false) ?_
          exact ret_mk (by kernel_rfl) (by kernel_rfl)
        · replace hm := bif_f b7 hm
          refine R_skip (by kernel_rfl) ?_
          refine R_sq Tryd.f116 13518 13519 (by kernel_rfl) ?_
          obtain ⟨g8, hm⟩ := bif_n hm
          refine R_rn Tryd.f116 13518 7 [] [] 1 ⟨[(4, vi (a1.Prices.getD x3.toNat default)), (5, vb true)], []⟩ (o1 (inb_of g8)) (by kernel_rfl) (by kernel_rfl) ?_
          obtain rfl := Option.some.inj hm
          refine R_ret (by kernel_rfl) ?_
          refine L1_ret ((a1.Prices.getD x3.toNat default), true) ?_
          exact ret_mk (by kernel_rfl) (by kernel_rfl)
    · replace hm := bif_f b4 hm
      refine R_exit 0 (by kernel_rfl) ?_
      obtain rfl := Option.some.inj hm
      exact L1_mk () (by kernel_rfl) (by kernel_rfl)

set_option maxRecDepth 100000 in
theorem product_Price_ok (a1 : Product) (a2 : Int) (r : Int × Bool) (hm : product_Price a1 a2 = some r) : CtX Tryd.prog globs 116 0 0 [.agg [cs a1.Name, ci a1.Thick, ci a1.Width, ci a1.Allow, ci a1.Wane, tl e_i64 default a1.Lengths, tl e_i64 default a1.Prices], .one (ci a2)] [] (product_Price_x r) (product_Price_o r) := by
  unfold product_Price at hm
  refine CtX_of_E (fn := Tryd.f116) (c := nd Tryd.f116 1) (nt := 30) (by kernel_rfl) (by kernel_rfl) (by kernel_rfl) (by kernel_rfl) fun E => ?_
  refine R_sq Tryd.f116 2 3 (by kernel_rfl) ?_
  refine R_rn Tryd.f116 2 0 [] [] 0 ⟨[(1, vi a2), (2, vp 0 0)], [(0, bx 43 [cs a1.Name, ci a1.Thick, ci a1.Width, ci a1.Allow, ci a1.Wane, tl e_i64 default a1.Lengths, tl e_i64 default a1.Prices])]⟩ o0 (by kernel_rfl) (by kernel_rfl) ?_
  refine R_sq Tryd.f116 6 7 (by kernel_rfl) ?_
  refine R_sq Tryd.f116 12 13 (by kernel_rfl) ?_
  refine R_rn Tryd.f116 12 1 [] [] 1 ⟨[(1, vi a2), (2, vp 0 0), (9, vc (tl e_i64 default a1.Lengths)), (10, vi ((a1.Lengths.length : Nat) : Int)), (11, vi 0)], [(0, bx 43 [cs a1.Name, ci a1.Thick, ci a1.Width, ci a1.Allow, ci a1.Wane, tl e_i64 default a1.Lengths, tl e_i64 default a1.Prices])]⟩ o0 (by kernel_rfl) (by kernel_rfl) ?_
  obtain ⟨u11, h10, hm⟩ := bind_s hm
  refine R_loop1 (nd Tryd.f116 52) 0 (by kernel_rfl) FUEL (fun o => product_Price_L1_T) (fun v st => RetQ Tryd.prog Tryd.f116 (product_Price_x v) (product_Price_o v) .ret st) u11 (HL_enter (product_Price_L1_S a1 a2 0) (by kernel_rfl) (by kernel_rfl) (product_Price_L1_ok E a1 a2 FUEL 0 u11 h10)) ?_ ?_
  · rintro v12 rfl st hr
    obtain rfl := Option.some.inj hm
    exact hr
  · rintro o9 rfl
    replace hm : _ = some r := hm
    refine R_sq Tryd.f116 14 15 (by kernel_rfl) ?_
    refine R_rn Tryd.f116 14 9 [] [] 1 ⟨[(4, vi 0), (5, vb false)], []⟩ o0 (by kernel_rfl) (by kernel_rfl) ?_
    obtain rfl := Option.some.inj hm
    refine R_ret (by kernel_rfl) ?_
    exact ret_mk (by kernel_rfl) (by kernel_rfl)

end Saw
end Go.SL

namespace Go.SL
namespace Saw
open Go.Proofs
set_option maxHeartbeats 4000000

def worth_view_box_x (r : Box) : V := va [ci r.X.A, ci r.X.B, ci r.Y.A, ci r.Y.B, ci r.Z.A, ci r.Z.B]

def worth_view_box_o (r : Box) : List (Nat × (Nat × O)) := []

theorem worth_view_box_f (r : Box) : Frozen (worth_view_box_o r) := by
  intro i k o h
  unfold worth_view_box_o at h
  cases h

set_option maxRecDepth 100000 in
theorem worth_view_box_ok (a1 : Worth_view) (a2 : Span) (r : Box) (hm : worth_view_box a1 a2 = some r) : CtX Tryd.prog globs 113 0 0 [.agg [cs a1.product.Name, ci a1.product.Thick, ci a1.product.Width, ci a1.product.Allow, ci a1.product.Wane, tl e_i64 default a1.product.Lengths, tl e_i64 default a1.product.Prices, ci a1.rect.X.A, ci a1.rect.X.B, ci a1.rect.Y.A, ci a1.rect.Y.B, ci a1.length, tl e_Worth_zone default a1.zones, tl e_Defect default a1.defects], .agg [ci a2.A, ci a2.B]] [] (worth_view_box_x r) (worth_view_box_o r) := by
  unfold worth_view_box at hm
  refine CtX_of_E (fn := Tryd.f113) (c := nd Tryd.f113 1) (nt := 13) (by kernel_rfl) (by kernel_rfl) (by kernel_rfl) (by kernel_rfl) fun E => ?_
  refine R_sq Tryd.f113 2 3 (by kernel_rfl) ?_
  refine R_rn Tryd.f113 2 0 [] [] 0 ⟨[(2, vp 0 0), (3, vp 1 0), (4, vp 2 0)], [(0, bx 175 [cs a1.product.Name, ci a1.product.Thick, ci a1.product.Width, ci a1.product.Allow, ci a1.product.Wane, tl e_i64 default a1.product.Lengths, tl e_i64 default a1.product.Prices, ci a1.rect.X.A, ci a1.rect.X.B, ci a1.rect.Y.A, ci a1.rect.Y.B, ci a1.length, tl e_Worth_zone default a1.zones, tl e_Defect default a1.defects]), (1, bx 33 [ci a2.A, ci a2.B]), (2, bx 57 [ci 0, ci 0, ci 0, ci 0, ci 0, ci 0])]⟩ o0 (by kernel_rfl) (by kernel_rfl) ?_
  refine R_sq Tryd.f113 6 7 (by kernel_rfl) ?_
  refine R_rn Tryd.f113 6 1 [] [] 3 ⟨[(4, vp 2 0)], [(2, bx 57 [ci a1.rect.X.A, ci a1.rect.X.B, ci a1.rect.Y.A, ci a1.rect.Y.B, ci a2.A, ci a2.B])]⟩ o0 (by kernel_rfl) (by kernel_rfl) ?_
  obtain rfl := Option.some.inj hm
  refine R_ret (by kernel_rfl) ?_
  exact ret_mk (by kernel_rfl) (by kernel_rfl)

end Saw
end Go.SL

namespace Go.SL
namespace Saw
open Go.Proofs
set_option maxHeartbeats 4000000

def worth_worst_x (r : Int) : V := vi r

def worth_worst_o (r : Int) : List (Nat × (Nat × O)) := []

theorem worth_worst_f (r : Int) : Frozen (worth_worst_o r) := by
  intro i k o h
  unfold worth_worst_o at h
  cases h

def worth_worst_k3_S (a1 : List Worth_zone) (a2 : Span) (x4 : Int) (x10 : Int) : St :=
  ⟨[(3, vp 0 0), (5, vi x10), (8, vc (tl e_Worth_zone default a1)), (9, vi ((a1.length : Nat) : Int)), (10, vi x4)], [(0, bx 33 [ci a2.A, ci a2.B])]⟩

def worth_worst_k2_S (a1 : List Worth_zone) (a2 : Span) (x3 : Int) (x4 : Int) (x8 : Bool) : St :=
  ⟨[(3, vp 0 0), (5, vi x3), (7, vp 1 0), (8, vc (tl e_Worth_zone default a1)), (9, vi ((a1.length : Nat) : Int)), (10, vi x4), (27, vb x8)], [(0, bx 33 [ci a2.A, ci a2.B]), (1, bx 195 [ci (((a1.getD x4.toNat default).z).A), ci (((a1.getD x4.toNat default).z).B), ci ((a1.getD x4.toNat default).lack)])]⟩

def worth_worst_L1_S (a1 : List Worth_zone) (a2 : Span) (x3 : Int) (x4 : Int) : St :=
  ⟨[(3, vp 0 0), (5, vi x3), (8, vc (tl e_Worth_zone default a1)), (9, vi ((a1.length : Nat) : Int)), (10, vi x4)], [(0, bx 33 [ci a2.A, ci a2.B])]⟩

def worth_worst_L1_T (x11 : Int) : St :=
  ⟨[(5, vi x11)], []⟩

set_option maxRecDepth 100000 in
theorem worth_worst_L1_ok (E : Env 0) (a1 : List Worth_zone) (a2 : Span) : ∀ (n : Nat) (x3 : Int) (x4 : Int) (res : Int), worth_worst_L1 a1 a2 n x3 x4 = some res → HL (kx E 34 0) (nd Tryd.f117 116) (loopQ0 0 (fun o => worth_worst_L1_T o) res) n (worth_worst_L1_S a1 a2 x3 x4) := by
  intro n
  induction n with
  | zero =>
    intro x3 x4 res hm
    cases hm
  | succ n ih =>
    intro x3 x4 res hm
    refine HL_succ ?_
    refine R_sq Tryd.f117 232 233 (by kernel_rfl) ?_
    refine R_rn Tryd.f117 232 3 [] [] 1 ⟨[(3, vp 0 0), (5, vi x3), (8, vc (tl e_Worth_zone default a1)), (9, vi ((a1.length : Nat) : Int)), (10, vi x4), (11, vb (decide (x4 < ((a1.length : Nat) : Int))))], [(0, bx 33 [ci a2.A, ci a2.B])]⟩ o0 (by kernel_rfl) (by kernel_rfl) ?_
    refine R_sq Tryd.f117 466 467 (by kernel_rfl) ?_
    refine R_cn Tryd.f117 (.tmp 11) 932 933 (by kernel_rfl) (decide (x4 < ((a1.length : Nat) : Int))) (by kernel_rfl) (fun b5 => ?_) (fun b5 => ?_)
    · replace hm := bif_t b5 hm
      refine R_skip (by kernel_rfl) ?_
      refine R_join (ι := Int) (nd Tryd.f117 934) (nd Tryd.f117 935) (by kernel_rfl) (fun p => worth_worst_k3_S a1 a2 x4 p) (fun p => worth_worst_k3 x4 (worth_worst_L1 a1 a2 n) p = some res) ?_ ?_
      · rintro x10 hm
        show H _ (worth_worst_k3_S a1 a2 x4 x10) (nd Tryd.f117 935) _
        refine R_rn Tryd.f117 935 7 [] [] 2 ⟨[(3, vp 0 0), (5, vi x10), (8, vc (tl e_Worth_zone default a1)), (9, vi ((a1.length : Nat) : Int)), (10, vi (w64 (x4 + 1)))], [(0, bx 33 [ci a2.A, ci a2.B])]⟩ o0 (by kernel_rfl) (by kernel_rfl) ?_
        exact HL_enter (worth_worst_L1_S a1 a2 x10 (w64 (x4 + 1))) (by kernel_rfl) (by kernel_rfl) (ih x10 (w64 (x4 + 1)) _ hm)
      · refine R_bk Tryd.f117 1 1868 (by kernel_rfl) ?_
        refine R_sq Tryd.f117 3736 3737 (by kernel_rfl) ?_
        obtain ⟨g6, hm⟩ := bif_n hm
        refine R_rn Tryd.f117 3736 4 [] [] 1 ⟨[(3, vp 0 0), (5, vi x3), (7, vp 1 0), (8, vc (tl e_Worth_zone default a1)), (9, vi ((a1.length : Nat) : Int)), (10, vi x4)], [(0, bx 33 [ci a2.A, ci a2.B]), (1, bx 195 [ci (((a1.getD x4.toNat default).z).A), ci (((a1.getD x4.toNat default).z).B), ci ((a1.getD x4.toNat default).lack)])]⟩ (o1 (inb_of g6)) (by kernel_rfl) (by kernel_rfl) ?_
        refine R_join (ι := Bool) (nd Tryd.f117 7474) (nd Tryd.f117 7475) (by kernel_rfl) (fun p => worth_worst_k2_S a1 a2 x3 x4 p) (fun p => worth_worst_k2 a1 x3 x4 (worth_worst_L1 a1 a2 n) p = some res) ?_ ?_
        · rintro x8 hm
          show H _ (worth_worst_k2_S a1 a2 x3 x4 x8) (nd Tryd.f117 7475) _
          refine R_cn Tryd.f117 (.tmp 27) 14950 14951 (by kernel_rfl) x8 (by kernel_rfl) (fun b9 => ?_) (fun b9 => ?_)
          · replace hm := bif_t b9 hm
            refine R_rn Tryd.f117 14950 6 [] [] 2 ⟨[(3, vp 0 0), (5, vi (imax x3 ((a1.getD x4.toNat default).lack))), (8, vc (tl e_Worth_zone default a1)), (9, vi ((a1.length : Nat) : Int)), (10, vi x4)], [(0, bx 33 [ci a2.A, ci a2.B])]⟩ o0 (by kernel_rfl) (by kernel_rfl) ?_
            exact J_mk (imax x3 ((a1.getD x4.toNat default).lack)) hm (by kernel_rfl) (by kernel_rfl)
          · replace hm := bif_f b9 hm
            refine R_skip (by kernel_rfl) ?_
            exact J_mk (x3) hm (by kernel_rfl) (by kernel_rfl)
        · rcases Bool.eq_false_or_eq_true (decide ((((a1.getD x4.toNat default).z).A) < a2.B)) with b7 | b7
          · replace hm := bif_t b7 hm
            refine R_rn Tryd.f117 7474 5 [(6, dfx true)] [] 2 ⟨[(3, vp 0 0), (5, vi x3), (7, vp 1 0), (8, vc (tl e_Worth_zone default a1)), (9, vi ((a1.length : Nat) : Int)), (10, vi x4), (21, vp 0 0), (22, vi a2.A), (23, vp 1 0), (24, vp 1 1), (25, vi (((a1.getD x4.toNat default).z).B)), (26, vb (decide (a2.A < (((a1.getD x4.toNat default).z).B)))), (27, vb (decide (a2.A < (((a1.getD x4.toNat default).z).B))))], [(0, bx 33 [ci a2.A, ci a2.B]), (1, bx 195 [ci (((a1.getD x4.toNat default).z).A), ci (((a1.getD x4.toNat default).z).B), ci ((a1.getD x4.toNat default).lack)])]⟩ (o1 b7) (by kernel_rfl) (by kernel_rfl) ?_
            exact J_mk (decide (a2.A < (((a1.getD x4.toNat default).z).B))) hm (by kernel_rfl) (by kernel_rfl)
          · replace hm := bif_f b7 hm
            refine R_rn Tryd.f117 7474 5 [(6, dfx false)] [] 2 ⟨[(3, vp 0 0), (5, vi x3), (7, vp 1 0), (8, vc (tl e_Worth_zone default a1)), (9, vi ((a1.length : Nat) : Int)), (10, vi x4), (27, vb false)], [(0, bx 33 [ci a2.A, ci a2.B]), (1, bx 195 [ci (((a1.getD x4.toNat default).z).A), ci (((a1.getD x4.toNat default).z).B), ci ((a1.getD x4.toNat default).lack)])]⟩ (o1 b7) (by kernel_rfl) (by kernel_rfl) ?_
            exact J_mk (false) hm (by kernel_rfl) (by kernel_rfl)
    · replace hm := bif_f b5 hm
      refine R_exit 0 (by kernel_rfl) ?_
      obtain rfl := Option.some.inj hm
      exact L0_mk (by kernel_rfl) (by kernel_rfl)

set_option maxRecDepth 100000 in
theorem worth_worst_ok (a1 : List Worth_zone) (a2 : Span) (r : Int) (hm : worth_worst a1 a2 = some r) : CtX Tryd.prog globs 117 0 0 [.one (tl e_Worth_zone default a1), .agg [ci a2.A, ci a2.B]] [] (worth_worst_x r) (worth_worst_o r) := by
  unfold worth_worst at hm
  refine CtX_of_E (fn := Tryd.f117) (c := nd Tryd.f117 1) (nt := 34) (by kernel_rfl) (by kernel_rfl) (by kernel_rfl) (by kernel_rfl) fun E => ?_
  refine R_sq Tryd.f117 2 3 (by kernel_rfl) ?_
  refine R_rn Tryd.f117 2 0 [] [] 0 ⟨[(0, vc (tl e_Worth_zone default a1)), (3, vp 0 0)], [(0, bx 33 [ci a2.A, ci a2.B])]⟩ o0 (by kernel_rfl) (by kernel_rfl) ?_
  refine R_sq Tryd.f117 6 7 (by kernel_rfl) ?_
  refine R_rn Tryd.f117 6 1 [] [] 1 ⟨[(0, vc (tl e_Worth_zone default a1)), (3, vp 0 0), (5, vi 0)], [(0, bx 33 [ci a2.A, ci a2.B])]⟩ o0 (by kernel_rfl) (by kernel_rfl) ?_
  refine R_sq Tryd.f117 14 15 (by kernel_rfl) ?_
  refine R_sq Tryd.f117 28 29 (by kernel_rfl) ?_
  refine R_rn Tryd.f117 28 2 [] [] 1 ⟨[(3, vp 0 0), (5, vi 0), (8, vc (tl e_Worth_zone default a1)), (9, vi ((a1.length : Nat) : Int)), (10, vi 0)], [(0, bx 33 [ci a2.A, ci a2.B])]⟩ o0 (by kernel_rfl) (by kernel_rfl) ?_
  obtain ⟨o12, h13, hm⟩ := bind_s hm
  refine R_loop0 (nd Tryd.f117 116) 0 (by kernel_rfl) FUEL (fun o => worth_worst_L1_T o) o12 (HL_enter (worth_worst_L1_S a1 a2 0 0) (by kernel_rfl) (by kernel_rfl) (worth_worst_L1_ok E a1 a2 FUEL 0 0 o12 h13)) ?_
  refine R_sq Tryd.f117 30 31 (by kernel_rfl) ?_
  refine R_rn Tryd.f117 30 8 [] [] 1 ⟨[(4, vi o12)], []⟩ o0 (by kernel_rfl) (by kernel_rfl) ?_
  obtain rfl := Option.some.inj hm
  refine R_ret (by kernel_rfl) ?_
  exact ret_mk (by kernel_rfl) (by kernel_rfl)

end Saw
end Go.SL

namespace Go.SL
namespace Saw
open Go.Proofs
set_option maxHeartbeats 4000000

def worth_view_worth_x (r : Int × Bool) : V := .tup [.one (ci r.1), .one (cb r.2)]

def worth_view_worth_o (r : Int × Bool) : List (Nat × (Nat × O)) := []

theorem worth_view_worth_f (r : Int × Bool) : Frozen (worth_view_worth_o r) := by
  intro i k o h
  unfold worth_view_worth_o at h
  cases h

def worth_view_worth_k3_S (a1 : Worth_view) (a3 : Int) (v14 : Box) (x17 : Int) (x24 : Int) : St :=
  ⟨[(2, vi a3), (8, vi x24), (10, vp 2 0), (45, vc (tl e_Defect default a1.defects)), (46, vi ((a1.defects.length : Nat) : Int)), (47, vi x17)], [(2, bx 57 [ci v14.X.A, ci v14.X.B, ci v14.Y.A, ci v14.Y.B, ci v14.Z.A, ci v14.Z.B])]⟩

def worth_view_worth_L2_S (a1 : Worth_view) (a3 : Int) (v14 : Box) (x16 : Int) (x17 : Int) : St :=
  ⟨[(2, vi a3), (8, vi x16), (10, vp 2 0), (45, vc (tl e_Defect default a1.defects)), (46, vi ((a1.defects.length : Nat) : Int)), (47, vi x17)], [(2, bx 57 [ci v14.X.A, ci v14.X.B, ci v14.Y.A, ci v14.Y.B, ci v14.Z.A, ci v14.Z.B])]⟩

def worth_view_worth_L2_T (x25 : Int) : St :=
  ⟨[(8, vi x25)], []⟩

def worth_view_worth_k1_S (a1 : Worth_view) (a2 : Span) (a3 : Int) (v7 : Int × Bool) (x12 : Bool) : St :=
  ⟨[(2, vi a3), (3, vp 0 0), (4, vp 1 0), (8, vi v7.1), (40, vb x12)], [(0, bx 175 [cs a1.product.Name, ci a1.product.Thick, ci a1.product.Width, ci a1.product.Allow, ci a1.product.Wane, tl e_i64 default a1.product.Lengths, tl e_i64 default a1.product.Prices, ci a1.rect.X.A, ci a1.rect.X.B, ci a1.rect.Y.A, ci a1.rect.Y.B, ci a1.length, tl e_Worth_zone default a1.zones, tl e_Defect default a1.defects]), (1, bx 33 [ci a2.A, ci a2.B])]⟩

set_option maxRecDepth 100000 in
theorem worth_view_worth_L2_ok (E : Env 0) (a1 : Worth_view) (a3 : Int) (v14 : Box) : ∀ (n : Nat) (x16 : Int) (x17 : Int) (res : (Int × Bool) ⊕ Int), worth_view_worth_L2 a1 a3 v14 n x16 x17 = some res → HL (kx E 64 0) (nd Tryd.f101 1012) (loopQ 0 (fun o => worth_view_worth_L2_T o) (fun v st => RetQ Tryd.prog Tryd.f101 (worth_view_worth_x v) (worth_view_worth_o v) .ret st) res) n (worth_view_worth_L2_S a1 a3 v14 x16 x17) := by
  intro n
  induction n with
  | zero =>
    intro x16 x17 res hm
    cases hm
  | succ n ih =>
    intro x16 x17 res hm
    refine HL_succ ?_
    refine R_sq Tryd.f101 2024 2025 (by kernel_rfl) ?_
    refine R_rn Tryd.f101 2024 8 [] [] 3 ⟨[(2, vi a3), (8, vi x16), (10, vp 2 0), (45, vc (tl e_Defect default a1.defects)), (46, vi ((a1.defects.length : Nat) : Int)), (47, vi x17), (48, vb (decide (x17 < ((a1.defects.length : Nat) : Int))))], [(2, bx 57 [ci v14.X.A, ci v14.X.B, ci v14.Y.A, ci v14.Y.B, ci v14.Z.A, ci v14.Z.B])]⟩ o0 (by kernel_rfl) (by kernel_rfl) ?_
    refine R_sq Tryd.f101 4050 4051 (by kernel_rfl) ?_
    refine R_cn Tryd.f101 (.tmp 48) 8100 8101 (by kernel_rfl) (decide (x17 < ((a1.defects.length : Nat) : Int))) (by kernel_rfl) (fun b18 => ?_) (fun b18 => ?_)
    · replace hm := bif_t b18 hm
      refine R_skip (by kernel_rfl) ?_
      refine R_join (ι := Int) (nd Tryd.f101 8102) (nd Tryd.f101 8103) (by kernel_rfl) (fun p => worth_view_worth_k3_S a1 a3 v14 x17 p) (fun p => worth_view_worth_k3 x17 (worth_view_worth_L2 a1 a3 v14 n) p = some res) ?_ ?_
      · rintro x24 hm
        show H _ (worth_view_worth_k3_S a1 a3 v14 x17 x24) (nd Tryd.f101 8103) _
        refine R_rn Tryd.f101 8103 14 [] [] 4 ⟨[(2, vi a3), (8, vi x24), (10, vp 2 0), (45, vc (tl e_Defect default a1.defects)), (46, vi ((a1.defects.length : Nat) : Int)), (47, vi (w64 (x17 + 1)))], [(2, bx 57 [ci v14.X.A, ci v14.X.B, ci v14.Y.A, ci v14.Y.B, ci v14.Z.A, ci v14.Z.B])]⟩ o0 (by kernel_rfl) (by kernel_rfl) ?_
        exact HL_enter (worth_view_worth_L2_S a1 a3 v14 x24 (w64 (x17 + 1))) (by kernel_rfl) (by kernel_rfl) (ih x24 (w64 (x17 + 1)) _ hm)
      · refine R_bk Tryd.f101 1 16204 (by kernel_rfl) ?_
        refine R_sq Tryd.f101 32408 32409 (by kernel_rfl) ?_
        obtain ⟨g19, hm⟩ := bif_n hm
        refine R_rn Tryd.f101 32408 9 [] [] 3 ⟨[(2, vi a3), (8, vi x16), (10, vp 2 0), (12, vp 3 0), (45, vc (tl e_Defect default a1.defects)), (46, vi ((a1.defects.length : Nat) : Int)), (47, vi x17)], [(2, bx 57 [ci v14.X.A, ci v14.X.B, ci v14.Y.A, ci v14.Y.B, ci v14.Z.A, ci v14.Z.B]), (3, bx 59 [ci ((a1.defects.getD x17.toNat default).Kind), ci ((((a1.defects.getD x17.toNat default).Box).X).A), ci ((((a1.defects.getD x17.toNat default).Box).X).B), ci ((((a1.defects.getD x17.toNat default).Box).Y).A), ci ((((a1.defects.getD x17.toNat default).Box).Y).B), ci ((((a1.defects.getD x17.toNat default).Box).Z).A), ci ((((a1.defects.getD x17.toNat default).Box).Z).B)])]⟩ (o1 (inb_of g19)) (by kernel_rfl) (by kernel_rfl) ?_
        refine R_sq Tryd.f101 64818 64819 (by kernel_rfl) ?_
        refine R_sq Tryd.f101 129636 129637 (by kernel_rfl) ?_
        obtain ⟨v20, h21, hm⟩ := bind_s hm
        refine R_rn Tryd.f101 129636 10 [(2, dex (cen [] [] 4 0 (defect_Touches_x v20) (defect_Touches_o v20) [51, 52] []))] [] 4 ⟨[(2, vi a3), (8, vi x16), (10, vp 2 0), (12, vp 3 0), (45, vc (tl e_Defect default a1.defects)), (46, vi ((a1.defects.length : Nat) : Int)), (47, vi x17), (54, vb (!v20))], [(2, bx 57 [ci v14.X.A, ci v14.X.B, ci v14.Y.A, ci v14.Y.B, ci v14.Z.A, ci v14.Z.B]), (3, bx 59 [ci ((a1.defects.getD x17.toNat default).Kind), ci ((((a1.defects.getD x17.toNat default).Box).X).A), ci ((((a1.defects.getD x17.toNat default).Box).X).B), ci ((((a1.defects.getD x17.toNat default).Box).Y).A), ci ((((a1.defects.getD x17.toNat default).Box).Y).B), ci ((((a1.defects.getD x17.toNat default).Box).Z).A), ci ((((a1.defects.getD x17.toNat default).Box).Z).B)])]⟩ (o1 (callS (K := (kx E 64 0)) ⟨[(51, va [ci ((a1.defects.getD x17.toNat default).Kind), ci ((((a1.defects.getD x17.toNat default).Box).X).A), ci ((((a1.defects.getD x17.toNat default).Box).X).B), ci ((((a1.defects.getD x17.toNat default).Box).Y).A), ci ((((a1.defects.getD x17.toNat default).Box).Y).B), ci ((((a1.defects.getD x17.toNat default).Box).Z).A), ci ((((a1.defects.getD x17.toNat default).Box).Z).B)]), (52, va [ci v14.X.A, ci v14.X.B, ci v14.Y.A, ci v14.Y.B, ci v14.Z.A, ci v14.Z.B])], []⟩ (opAt (rg Tryd.f101 129636) 2) [] [] 4 o0 rfl (defect_Touches_ok (a1.defects.getD x17.toNat default) v14 v20 h21) (.inl rfl) (by kernel_rfl))) (by kernel_rfl) (by kernel_rfl) ?_
        refine R_cn Tryd.f101 (.tmp 54) 259274 259275 (by kernel_rfl) (!v20) (by kernel_rfl) (fun b22 => ?_) (fun b22 => ?_)
        · replace hm := bif_t b22 hm
          refine R_exit 1 (by kernel_rfl) ?_
          exact J_mk (x16) hm (by kernel_rfl) (by kernel_rfl)
        · replace hm := bif_f b22 hm
          refine R_skip (by kernel_rfl) ?_
          refine R_sq Tryd.f101 129638 129639 (by kernel_rfl) ?_
          refine R_sq Tryd.f101 259276 259277 (by kernel_rfl) ?_
          refine R_rn Tryd.f101 259276 11 [] [] 4 ⟨[(2, vi a3), (8, vi x16), (10, vp 2 0), (45, vc (tl e_Defect default a1.defects)), (46, vi ((a1.defects.length : Nat) : Int)), (47, vi x17), (57, vb (((a1.defects.getD x17.toNat default).Kind) == 3))], [(2, bx 57 [ci v14.X.A, ci v14.X.B, ci v14.Y.A, ci v14.Y.B, ci v14.Z.A, ci v14.Z.B])]⟩ o0 (by kernel_rfl) (by kernel_rfl) ?_
          refine R_cn Tryd.f101 (.tmp 57) 518554 518555 (by kernel_rfl) (((a1.defects.getD x17.toNat default).Kind) == 3) (by kernel_rfl) (fun b23 => ?_) (fun b23 => ?_)
          · replace hm := bif_t b23 hm
            refine R_sq Tryd.f101 1037108 1037109 (by kernel_rfl) ?_
            refine R_rn Tryd.f101 1037108 12 [] [] 4 ⟨[(6, vi 0), (7, vb false)], []⟩ o0 (by kernel_rfl) (by kernel_rfl) ?_
            obtain rfl := Option.some.inj hm
            refine R_ret (by kernel_rfl) ?_
            refine L1_ret (0, false) ?_
            exact ret_mk (by kernel_rfl) (by kernel_rfl)
          · replace hm := bif_f b23 hm
            refine R_skip (by kernel_rfl) ?_
            refine R_rn Tryd.f101 129639 13 [] [] 4 ⟨[(2, vi a3), (8, vi (w64 (x16 - a3))), (10, vp 2 0), (45, vc (tl e_Defect default a1.defects)), (46, vi ((a1.defects.length : Nat) : Int)), (47, vi x17)], [(2, bx 57 [ci v14.X.A, ci v14.X.B, ci v14.Y.A, ci v14.Y.B, ci v14.Z.A, ci v14.Z.B])]⟩ o0 (by kernel_rfl) (by kernel_rfl) ?_
            exact J_mk (w64 (x16 - a3)) hm (by kernel_rfl) (by kernel_rfl)
    · replace hm := bif_f b18 hm
      refine R_exit 0 (by kernel_rfl) ?_
      obtain rfl := Option.some.inj hm
      exact L1_mk x16 (by kernel_rfl) (by kernel_rfl)

set_option maxRecDepth 100000 in
theorem worth_view_worth_ok (a1 : Worth_view) (a2 : Span) (a3 : Int) (r : Int × Bool) (hm : worth_view_worth a1 a2 a3 = some r) : CtX Tryd.prog globs 101 0 0 [.agg [cs a1.product.Name, ci a1.product.Thick, ci a1.product.Width, ci a1.product.Allow, ci a1.product.Wane, tl e_i64 default a1.product.Lengths, tl e_i64 default a1.product.Prices, ci a1.rect.X.A, ci a1.rect.X.B, ci a1.rect.Y.A, ci a1.rect.Y.B, ci a1.length, tl e_Worth_zone default a1.zones, tl e_Defect default a1.defects], .agg [ci a2.A, ci a2.B], .one (ci a3)] [] (worth_view_worth_x r) (worth_view_worth_o r) := by
  unfold worth_view_worth at hm
  refine CtX_of_E (fn := Tryd.f101) (c := nd Tryd.f101 1) (nt := 64) (by kernel_rfl) (by kernel_rfl) (by kernel_rfl) (by kernel_rfl) fun E => ?_
  refine R_sq Tryd.f101 2 3 (by kernel_rfl) ?_
  refine R_rn Tryd.f101 2 0 [] [] 0 ⟨[(2, vi a3), (3, vp 0 0), (4, vp 1 0)], [(0, bx 175 [cs a1.product.Name, ci a1.product.Thick, ci a1.product.Width, ci a1.product.Allow, ci a1.product.Wane, tl e_i64 default a1.product.Lengths, tl e_i64 default a1.product.Prices, ci a1.rect.X.A, ci a1.rect.X.B, ci a1.rect.Y.A, ci a1.rect.Y.B, ci a1.length, tl e_Worth_zone default a1.zones, tl e_Defect default a1.defects]), (1, bx 33 [ci a2.A, ci a2.B])]⟩ o0 (by kernel_rfl) (by kernel_rfl) ?_
  refine R_sq Tryd.f101 6 7 (by kernel_rfl) ?_
  refine R_sq Tryd.f101 12 13 (by kernel_rfl) ?_
  obtain ⟨v4, h5, hm⟩ := bind_s hm
  refine R_rn Tryd.f101 12 1 [(3, dex (cen [] [] 2 0 (worth_isWithin_x v4) (worth_isWithin_o v4) [13, 15] []))] [] 2 ⟨[(2, vi a3), (3, vp 0 0), (4, vp 1 0), (17, vb (!v4))], [(0, bx 175 [cs a1.product.Name, ci a1.product.Thick, ci a1.product.Width, ci a1.product.Allow, ci a1.product.Wane, tl e_i64 default a1.product.Lengths, tl e_i64 default a1.product.Prices, ci a1.rect.X.A, ci a1.rect.X.B, ci a1.rect.Y.A, ci a1.rect.Y.B, ci a1.length, tl e_Worth_zone default a1.zones, tl e_Defect default a1.defects]), (1, bx 33 [ci a2.A, ci a2.B])]⟩ (o1 (callS (K := (kx E 64 0)) ⟨[(13, va [ci a2.A, ci a2.B]), (15, vi a1.length)], []⟩ (opAt (rg Tryd.f101 12) 3) [] [] 2 o0 rfl (worth_isWithin_ok a2 a1.length v4 h5) (.inl rfl) (by kernel_rfl))) (by kernel_rfl) (by kernel_rfl) ?_
  refine R_cn Tryd.f101 (.tmp 17) 26 27 (by kernel_rfl) (!v4) (by kernel_rfl) (fun b6 => ?_) (fun b6 => ?_)
  · replace hm := bif_t b6 hm
    refine R_sq Tryd.f101 52 53 (by kernel_rfl) ?_
    refine R_rn Tryd.f101 52 2 [] [] 2 ⟨[(6, vi 0), (7, vb false)], []⟩ o0 (by kernel_rfl) (by kernel_rfl) ?_
    obtain rfl := Option.some.inj hm
    refine R_ret (by kernel_rfl) ?_
    exact ret_mk (by kernel_rfl) (by kernel_rfl)
  · replace hm := bif_f b6 hm
    refine R_skip (by kernel_rfl) ?_
    refine R_sq Tryd.f101 14 15 (by kernel_rfl) ?_
    obtain ⟨v7, h8, hm⟩ := bind_s hm
    refine R_rn Tryd.f101 14 3 [(7, dex (cen [] [] 2 0 (product_Price_x v7) (product_Price_o v7) [20, 25] []))] [] 2 ⟨[(2, vi a3), (3, vp 0 0), (4, vp 1 0), (8, vi v7.1), (9, vb v7.2)], [(0, bx 175 [cs a1.product.Name, ci a1.product.Thick, ci a1.product.Width, ci a1.product.Allow, ci a1.product.Wane, tl e_i64 default a1.product.Lengths, tl e_i64 default a1.product.Prices, ci a1.rect.X.A, ci a1.rect.X.B, ci a1.rect.Y.A, ci a1.rect.Y.B, ci a1.length, tl e_Worth_zone default a1.zones, tl e_Defect default a1.defects]), (1, bx 33 [ci a2.A, ci a2.B])]⟩ (o1 (callS (K := (kx E 64 0)) ⟨[(20, va [cs a1.product.Name, ci a1.product.Thick, ci a1.product.Width, ci a1.product.Allow, ci a1.product.Wane, tl e_i64 default a1.product.Lengths, tl e_i64 default a1.product.Prices]), (25, vi (w64 (a2.B - a2.A)))], []⟩ (opAt (rg Tryd.f101 14) 7) [] [] 2 o0 rfl (product_Price_ok a1.product (w64 (a2.B - a2.A)) v7 h8) (.inl rfl) (by kernel_rfl))) (by kernel_rfl) (by kernel_rfl) ?_
    refine R_sq Tryd.f101 30 31 (by kernel_rfl) ?_
    refine R_join (ι := Bool) (nd Tryd.f101 60) (nd Tryd.f101 61) (by kernel_rfl) (fun p => worth_view_worth_k1_S a1 a2 a3 v7 p) (fun p => worth_view_worth_k1 a1 a2 a3 v7 p = some r) ?_ ?_
    · rintro x12 hm
      show H _ (worth_view_worth_k1_S a1 a2 a3 v7 x12) (nd Tryd.f101 61) _
      refine R_cn Tryd.f101 (.tmp 40) 122 123 (by kernel_rfl) x12 (by kernel_rfl) (fun b13 => ?_) (fun b13 => ?_)
      · replace hm := bif_t b13 hm
        refine R_sq Tryd.f101 244 245 (by kernel_rfl) ?_
        refine R_rn Tryd.f101 244 5 [] [] 2 ⟨[(6, vi 0), (7, vb false)], []⟩ o0 (by kernel_rfl) (by kernel_rfl) ?_
        obtain rfl := Option.some.inj hm
        refine R_ret (by kernel_rfl) ?_
        exact ret_mk (by kernel_rfl) (by kernel_rfl)
      · replace hm := bif_f b13 hm
        refine R_skip (by kernel_rfl) ?_
        refine R_sq Tryd.f101 62 63 (by kernel_rfl) ?_
        obtain ⟨v14, h15, hm⟩ := bind_s hm
        refine R_rn Tryd.f101 62 6 [(2, dex (cen [] [] 2 0 (worth_view_box_x v14) (worth_view_box_o v14) [41, 42] []))] [] 2 ⟨[(2, vi a3), (3, vp 0 0), (8, vi v7.1), (10, vp 2 0)], [(0, bx 175 [cs a1.product.Name, ci a1.product.Thick, ci a1.product.Width, ci a1.product.Allow, ci a1.product.Wane, tl e_i64 default a1.product.Lengths, tl e_i64 default a1.product.Prices, ci a1.rect.X.A, ci a1.rect.X.B, ci a1.rect.Y.A, ci a1.rect.Y.B, ci a1.length, tl e_Worth_zone default a1.zones, tl e_Defect default a1.defects]), (2, bx 57 [ci v14.X.A, ci v14.X.B, ci v14.Y.A, ci v14.Y.B, ci v14.Z.A, ci v14.Z.B])]⟩ (o1 (callS (K := (kx E 64 0)) ⟨[(41, va [cs a1.product.Name, ci a1.product.Thick, ci a1.product.Width, ci a1.product.Allow, ci a1.product.Wane, tl e_i64 default a1.product.Lengths, tl e_i64 default a1.product.Prices, ci a1.rect.X.A, ci a1.rect.X.B, ci a1.rect.Y.A, ci a1.rect.Y.B, ci a1.length, tl e_Worth_zone default a1.zones, tl e_Defect default a1.defects]), (42, va [ci a2.A, ci a2.B])], []⟩ (opAt (rg Tryd.f101 62) 2) [] [] 2 o0 rfl (worth_view_box_ok a1 a2 v14 h15) (.inl rfl) (by kernel_rfl))) (by kernel_rfl) (by kernel_rfl) ?_
        refine R_sq Tryd.f101 126 127 (by kernel_rfl) ?_
        refine R_sq Tryd.f101 252 253 (by kernel_rfl) ?_
        refine R_rn Tryd.f101 252 7 [] [] 3 ⟨[(2, vi a3), (8, vi v7.1), (10, vp 2 0), (45, vc (tl e_Defect default a1.defects)), (46, vi ((a1.defects.length : Nat) : Int)), (47, vi 0)], [(2, bx 57 [ci v14.X.A, ci v14.X.B, ci v14.Y.A, ci v14.Y.B, ci v14.Z.A, ci v14.Z.B])]⟩ o0 (by kernel_rfl) (by kernel_rfl) ?_
        obtain ⟨u28, h27, hm⟩ := bind_s hm
        refine R_loop1 (nd Tryd.f101 1012) 0 (by kernel_rfl) FUEL (fun o => worth_view_worth_L2_T o) (fun v st => RetQ Tryd.prog Tryd.f101 (worth_view_worth_x v) (worth_view_worth_o v) .ret st) u28 (HL_enter (worth_view_worth_L2_S a1 a3 v14 v7.1 0) (by kernel_rfl) (by kernel_rfl) (worth_view_worth_L2_ok E a1 a3 v14 FUEL v7.1 0 u28 h27)) ?_ ?_
        · rintro v29 rfl st hr
          obtain rfl := Option.some.inj hm
          exact hr
        · rintro o26 rfl
          replace hm : _ = some r := hm
          refine R_sq Tryd.f101 254 255 (by kernel_rfl) ?_
          refine R_rn Tryd.f101 254 15 [] [] 3 ⟨[(6, vi (imax o26 0)), (7, vb true)], []⟩ o0 (by kernel_rfl) (by kernel_rfl) ?_
          obtain rfl := Option.some.inj hm
          refine R_ret (by kernel_rfl) ?_
          exact ret_mk (by kernel_rfl) (by kernel_rfl)
    · rcases Bool.eq_false_or_eq_true (!v7.2) with b9 | b9
      · replace hm := bif_t b9 hm
        refine R_dr Tryd.f101 60 4 [] [(2, dfx true)] [] [0, 1, 3, 7, 15, 7, 63, 7, 135, 391, 1023, 2047] 2 ⟨[(2, vi a3), (3, vp 0 0), (4, vp 1 0), (8, vi v7.1), (40, vb true)], [(0, bx 175 [cs a1.product.Name, ci a1.product.Thick, ci a1.product.Width, ci a1.product.Allow, ci a1.product.Wane, tl e_i64 default a1.product.Lengths, tl e_i64 default a1.product.Prices, ci a1.rect.X.A, ci a1.rect.X.B, ci a1.rect.Y.A, ci a1.rect.Y.B, ci a1.length, tl e_Worth_zone default a1.zones, tl e_Defect default a1.defects]), (1, bx 33 [ci a2.A, ci a2.B])]⟩ (o1 b9) (by kernel_rfl) (by kernel_rfl) ?_
        exact J_mk (true) hm (by kernel_rfl) (by kernel_rfl)
      · replace hm := bif_f b9 hm
        obtain ⟨v10, h11, hm⟩ := bind_s hm
        refine R_dr Tryd.f101 60 4 [] [(2, dfx false), (6, dex (cen [] [] 2 0 (worth_worst_x v10) (worth_worst_o v10) [31, 33, 34] []))] [] [0, 1, 3, 7, 15, 7, 63, 7, 135, 391, 1023, 2047] 2 ⟨[(2, vi a3), (3, vp 0 0), (4, vp 1 0), (8, vi v7.1), (40, vb (decide (v10 > a1.product.Wane)))], [(0, bx 175 [cs a1.product.Name, ci a1.product.Thick, ci a1.product.Width, ci a1.product.Allow, ci a1.product.Wane, tl e_i64 default a1.product.Lengths, tl e_i64 default a1.product.Prices, ci a1.rect.X.A, ci a1.rect.X.B, ci a1.rect.Y.A, ci a1.rect.Y.B, ci a1.length, tl e_Worth_zone default a1.zones, tl e_Defect default a1.defects]), (1, bx 33 [ci a2.A, ci a2.B])]⟩ (o1 (And.intro b9 (callS (K := (kx E 64 0)) ⟨[(31, vb false), (33, vc (tl e_Worth_zone default a1.zones)), (34, va [ci a2.A, ci a2.B])], []⟩ (opAt (rg Tryd.f101 60) 6) [] [] 2 o0 rfl (worth_worst_ok a1.zones a2 v10 h11) (.inl rfl) (by kernel_rfl)))) (by kernel_rfl) (by kernel_rfl) ?_
        exact J_mk (decide (v10 > a1.product.Wane)) hm (by kernel_rfl) (by kernel_rfl)

end Saw
end Go.SL

namespace Go.SL
namespace Saw
open Go.Proofs
set_option maxHeartbeats 4000000

def product_grow_x (r : Int) : V := vi r

def product_grow_o (r : Int) : List (Nat × (Nat × O)) := []

theorem product_grow_f (r : Int) : Frozen (product_grow_o r) := by
  intro i k o h
  unfold product_grow_o at h
  cases h

set_option maxRecDepth 100000 in
theorem product_grow_ok (a1 : Int) (a2 : Int) (r : Int) (hm : product_grow a1 a2 = some r) : CtX Tryd.prog globs 50 0 0 [.one (ci a1), .one (ci a2)] [] (product_grow_x r) (product_grow_o r) := by
  unfold product_grow at hm
  refine CtX_of_E (fn := Tryd.f50) (c := nd Tryd.f50 1) (nt := 11) (by kernel_rfl) (by kernel_rfl) (by kernel_rfl) (by kernel_rfl) fun E => ?_
  refine R_sq Tryd.f50 2 3 (by kernel_rfl) ?_
  refine R_rn Tryd.f50 2 0 [] [] 0 ⟨[(0, vi a1), (1, vi a2)], []⟩ o0 (by kernel_rfl) (by kernel_rfl) ?_
  refine R_sq Tryd.f50 6 7 (by kernel_rfl) ?_
  refine R_rn Tryd.f50 6 1 [] [] 0 ⟨[(4, vi (w64 (Int.tdiv (w64 ((w64 (a1 * (w64 (1000 + a2)))) + 999)) 1000)))], []⟩ (o1 (show (1000 : Int) ≠ 0 by decide)) (by kernel_rfl) (by kernel_rfl) ?_
  obtain rfl := Option.some.inj hm
  refine R_ret (by kernel_rfl) ?_
  exact ret_mk (by kernel_rfl) (by kernel_rfl)

end Saw
end Go.SL

namespace Go.SL
namespace Saw
open Go.Proofs
set_option maxHeartbeats 4000000

def product_isSize_x (r : Bool) : V := vb r

def product_isSize_o (r : Bool) : List (Nat × (Nat × O)) := []

theorem product_isSize_f (r : Bool) : Frozen (product_isSize_o r) := by
  intro i k o h
  unfold product_isSize_o at h
  cases h

def product_isSize_k1_S (x3 : Bool) : St :=
  ⟨[(2, vb x3)], []⟩

set_option maxRecDepth 100000 in
theorem product_isSize_ok (a1 : Int) (r : Bool) (hm : product_isSize a1 = some r) : CtX Tryd.prog globs 49 0 0 [.one (ci a1)] [] (product_isSize_x r) (product_isSize_o r) := by
  unfold product_isSize at hm
  refine CtX_of_E (fn := Tryd.f49) (c := nd Tryd.f49 1) (nt := 9) (by kernel_rfl) (by kernel_rfl) (by kernel_rfl) (by kernel_rfl) fun E => ?_
  refine R_sq Tryd.f49 2 3 (by kernel_rfl) ?_
  refine R_rn Tryd.f49 2 0 [] [] 0 ⟨[(0, vi a1)], []⟩ o0 (by kernel_rfl) (by kernel_rfl) ?_
  refine R_join (ι := Bool) (nd Tryd.f49 6) (nd Tryd.f49 7) (by kernel_rfl) (fun p => product_isSize_k1_S p) (fun p => product_isSize_k1 p = some r) ?_ ?_
  · rintro x3 hm
    show H _ (product_isSize_k1_S x3) (nd Tryd.f49 7) _
    obtain rfl := Option.some.inj hm
    refine R_ret (by kernel_rfl) ?_
    exact ret_mk (by kernel_rfl) (by kernel_rfl)
  · rcases Bool.eq_false_or_eq_true (decide (a1 ≥ 1)) with b2 | b2
    · replace hm := bif_t b2 hm
      refine R_rn Tryd.f49 6 1 [(2, dfx true)] [] 0 ⟨[(2, vb (decide (a1 ≤ 600)))], []⟩ (o1 b2) (by kernel_rfl) (by kernel_rfl) ?_
      exact J_mk (decide (a1 ≤ 600)) hm (by kernel_rfl) (by kernel_rfl)
    · replace hm := bif_f b2 hm
      refine R_rn Tryd.f49 6 1 [(2, dfx false)] [] 0 ⟨[(2, vb false)], []⟩ (o1 b2) (by kernel_rfl) (by kernel_rfl) ?_
      exact J_mk (false) hm (by kernel_rfl) (by kernel_rfl)

end Saw
end Go.SL
