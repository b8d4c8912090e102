import Derived.Test.YtgpgnlllieekbaaDoorEBase
import Derived.Test.YtgpgnlllieekbaaDoorEFa1
set_option linter.unusedVariables false
set_option linter.unusedSimpArgs false
namespace Go.SL
namespace Saw
open Go.Proofs
set_option maxHeartbeats 4000000

def span_size_x (r : Int) : V := vc (.val (.int .u64 r))

def span_size_o (r : Int) : List (Nat × (Nat × O)) := []

theorem span_size_f (r : Int) : Frozen (span_size_o r) := by
 intro i k o h
 unfold span_size_o at h
 cases h

set_option maxRecDepth 100000 in
theorem span_size_ok (a1 : Span) (r : Int) (hm : span_size a1 = some r) : CtX Tryd.prog globs 65 0 0 [.agg (e_Span a1)] [] (span_size_x r) (span_size_o r) := by
 unfold span_size at hm
 refine q_E Tryd.f65 15 fun E => ?_
 refine q_sq ?_
 refine q_vn [] 0 ⟨[(1, vp 0 0)], [(0, bx 33 (e_Span a1))]⟩ ?_
 refine q_sq ?_
 refine q_sq ?_
 refine q_vu [] 1 [] [(7, vb (decide (a1.A ≥ a1.B)))] [] [] ?_
 refine q_cn (decide (a1.A ≥ a1.B)) (fun b2 => ?_) (fun b2 => ?_)
 ·replace hm := bif_t b2 hm
  refine q_sq ?_
  refine q_vn [] 1 ⟨[(2, vc (.val (.int .u64 0)))], []⟩ ?_
  obtain rfl := Option.some.inj hm
  refine q_rt ?_
  exact q_rm
 ·replace hm := bif_f b2 hm
  refine q_sk ?_
  refine q_sq ?_
  refine q_vn [] 1 ⟨[(2, vc (.val (.int .u64 (IntKind.u64.wrap ((IntKind.u64.wrap (a1.B)) - (IntKind.u64.wrap (a1.A)))))))], []⟩ ?_
  obtain rfl := Option.some.inj hm
  refine q_rt ?_
  exact q_rm

end Saw
end Go.SL

namespace Go.SL
namespace Saw
open Go.Proofs
set_option maxHeartbeats 4000000

def span_limited_x (r : Int) : V := vi r

def span_limited_o (r : Int) : List (Nat × (Nat × O)) := []

theorem span_limited_f (r : Int) : Frozen (span_limited_o r) := by
 intro i k o h
 unfold span_limited_o at h
 cases h

set_option maxRecDepth 100000 in
theorem span_limited_ok (a1 : Int) (r : Int) (hm : span_limited a1 = some r) : CtX Tryd.prog globs 64 0 0 [.one (.val (.int .u64 a1))] [] (span_limited_x r) (span_limited_o r) := by
 unfold span_limited at hm
 refine q_E Tryd.f64 6 fun E => ?_
 refine q_sq ?_
 refine q_vn [] 0 ⟨[(0, vc (.val (.int .u64 a1)))], []⟩ ?_
 refine q_sq ?_
 refine q_vn [] 0 ⟨[(2, vi (w64 (imin a1 9223372036854775807)))], []⟩ ?_
 obtain rfl := Option.some.inj hm
 refine q_rt ?_
 exact q_rm

end Saw
end Go.SL

namespace Go.SL
namespace Saw
open Go.Proofs
set_option maxHeartbeats 4000000

def span_Len_x (r : Int) : V := vi r

def span_Len_o (r : Int) : List (Nat × (Nat × O)) := []

theorem span_Len_f (r : Int) : Frozen (span_Len_o r) := by
 intro i k o h
 unfold span_Len_o at h
 cases h

set_option maxRecDepth 100000 in
theorem span_Len_ok (a1 : Span) (r : Int) (hm : span_Len a1 = some r) : CtX Tryd.prog globs 35 0 0 [.agg (e_Span a1)] [] (span_Len_x r) (span_Len_o r) := by
 unfold span_Len at hm
 refine q_E Tryd.f35 6 fun E => ?_
 refine q_sq ?_
 refine q_vn [] 0 ⟨[(1, vp 0 0)], [(0, bx 33 (e_Span a1))]⟩ ?_
 refine q_sq ?_
 obtain ⟨v2, h3, hm⟩ := bind_s hm
 obtain ⟨v4, h5, hm⟩ := bind_s hm
 refine q_vn [qc 1 [3] 1 (span_size_ok a1 v2 h3), qc 2 [4] 1 (span_limited_ok v2 v4 h5)] 1 ⟨[(2, vi v4)], []⟩ ?_
 obtain rfl := Option.some.inj hm
 refine q_rt ?_
 exact q_rm

end Saw
end Go.SL

namespace Go.SL
namespace Saw
open Go.Proofs
set_option maxHeartbeats 4000000

def section_valid_x (r : Section) : V := va (e_Section r)

def section_valid_o (r : Section) : List (Nat × (Nat × O)) := []

set_option maxRecDepth 100000 in
theorem section_valid_ok (a1 : Section) (r : Section) (hm : section_valid a1 = some r) : CtX Tryd.prog globs 29 0 0 [.agg (e_Section a1)] [] (section_valid_x r) (section_valid_o r) := by
 unfold section_valid at hm
 refine q_E Tryd.f29 8 fun E => ?_
 refine q_sq ?_
 refine q_vn [] 0 ⟨[(1, vp 0 0), (2, vp 1 0)], [(0, bx 52 (e_Section a1)), (1, bx 52 [ci 0, .emp])]⟩ ?_
 refine q_sq ?_
 refine q_sq ?_
 obtain ⟨v2, h3, hm⟩ := bind_s hm
 refine q_vu [qc 1 [3] 2 (section_Check_ok a1 v2 h3)] 2 [] [(5, vb (v2 != 0))] [] [] ?_
 refine q_cn (v2 != 0) (fun b4 => ?_) (fun b4 => ?_)
 ·replace hm := bif_t b4 hm
  refine q_sq ?_
  refine q_vu [] 2 [1, 5] [] [0] [] ?_
  refine q_fn [.ownB 1 1 2 33 2 (rf e_Span ([] : List Span))] ⟨[(2, vp 1 0)], [(1, bx 52 [ci 0, .own 2 0 2 0]), (2, ro 0 33 2 0 (rf e_Span ([] : List Span)))]⟩ o0 ?_
  refine q_fn [.len 2 (([] : List Span).length), .frz 2] ⟨[(2, vp 1 0)], [(1, bx 52 [ci 0, tl e_Span default ([] : List Span)])]⟩ (o1 (And.intro (And.intro (show 0 = ([] : List Span).length from rfl) (show 0 = ([] : List Span).length from rfl)) (Nat.le_refl (([] : List Span).length)))) ?_
  obtain rfl := Option.some.inj hm
  refine q_rt ?_
  exact q_rm
 ·replace hm := bif_f b4 hm
  refine q_sk ?_
  refine q_sq ?_
  refine q_vn [] 2 ⟨[(2, vp 1 0)], [(1, bx 52 (e_Section a1))]⟩ ?_
  obtain rfl := Option.some.inj hm
  refine q_rt ?_
  exact q_rm

end Saw
end Go.SL

namespace Go.SL
namespace Saw
open Go.Proofs
set_option maxHeartbeats 4000000

def section_Within_x (r : Int) : V := vi r

def section_Within_o (r : Int) : List (Nat × (Nat × O)) := []

theorem section_Within_f (r : Int) : Frozen (section_Within_o r) := by
 intro i k o h
 unfold section_Within_o at h
 cases h

def section_Within_L1_S (a2 : Rect) (v3 : Section) (x5 : Int) (x6 : Int) : St :=
 ⟨[(2, vp 0 0), (3, vp 1 0), (5, vi x5), (12, vc (tl e_Span default v3.Rows)), (13, vi ((v3.Rows.length : Nat) : Int)), (14, vi x6)], [(0, bx 52 (e_Section v3)), (1, bx 35 (e_Rect a2))]⟩

def section_Within_L1_T (x19 : Int) : St :=
 ⟨[(5, vi x19)], []⟩

set_option maxRecDepth 100000 in
theorem section_Within_L1_ok (E : Env 0) (a2 : Rect) (v3 : Section) : ∀ (n : Nat) (x5 : Int) (x6 : Int) (res : Int), section_Within_L1 a2 v3 n x5 x6 = some res → HL (kx E 44 0) (nd Tryd.f37 244) (loopQ0 0 (fun o => section_Within_L1_T o) res) n (section_Within_L1_S a2 v3 x5 x6) := by
 intro n
 induction n with
 | zero =>
  intro x5 x6 res hm
  cases hm
 | succ n ih =>
  intro x5 x6 res hm
  refine HL_succ ?_
  refine q_sq ?_
  refine q_vu [] 2 [] [(15, vb (decide (x6 < ((v3.Rows.length : Nat) : Int))))] [] [] ?_
  refine q_sq ?_
  refine q_cn (decide (x6 < ((v3.Rows.length : Nat) : Int))) (fun b7 => ?_) (fun b7 => ?_)
  ·replace hm := bif_t b7 hm
   refine q_sk ?_
   refine q_sq ?_
   refine q_bk 1 ?_
   refine q_sq ?_
   obtain ⟨g8, hm⟩ := bif_n hm
   refine q_vu [qd 1 (Dir.none) (inb_of g8)] 2 [15] [(6, vi x6), (7, vp 2 0)] [] [(2, bx 33 [ci ((v3.Rows.getD x6.toNat default).A), ci ((v3.Rows.getD x6.toNat default).B)])] ?_
   refine q_sq ?_
   obtain ⟨v9, h10, hm⟩ := bind_s hm
   refine q_vu [qc 9 [22, 27] 3 (section_heights_ok (w64 (v3.Low + x6)) (w64 ((w64 (v3.Low + x6)) + 1)) v9 h10)] 3 [6] [(8, vp 3 0)] [] [(3, bx 33 (e_Span v9))] ?_
   obtain ⟨v11, h12, hm⟩ := bind_s hm
   obtain ⟨v13, h14, hm⟩ := bind_s hm
   obtain ⟨v15, h16, hm⟩ := bind_s hm
   obtain ⟨v17, h18, hm⟩ := bind_s hm
   refine q_du [qc 4 [30, 32] 4 (span_Meet_ok (v3.Rows.getD x6.toNat default) a2.X v11 h12), qc 5 [33] 4 (span_Len_ok v11 v13 h14), qc 9 [35, 37] 4 (span_Meet_ok v9 a2.Y v15 h16), qc 10 [38] 4 (span_Len_ok v15 v17 h18)] [0, 0, 0, 4, 14, 30, 0, 0, 128, 510, 1022, 2046, 4095, 8191] 4 [5, 7, 8] [(5, vi (w64 (x5 + (w64 (v13 * v17)))))] [2, 3] [] ?_
   refine q_vu [] 4 [14] [(14, vi (w64 (x6 + 1)))] [] [] ?_
   exact q_hl (section_Within_L1_S a2 v3 (w64 (x5 + (w64 (v13 * v17)))) (w64 (x6 + 1))) (ih (w64 (x5 + (w64 (v13 * v17)))) (w64 (x6 + 1)) _ hm)
  ·replace hm := bif_f b7 hm
   refine q_ex 0 ?_
   obtain rfl := Option.some.inj hm
   exact L0_mk (by kernel_rfl) (by kernel_rfl)

set_option maxRecDepth 100000 in
theorem section_Within_ok (a1 : Section) (a2 : Rect) (r : Int) (hm : section_Within a1 a2 = some r) : CtX Tryd.prog globs 37 0 0 [.agg (e_Section a1), .agg (e_Rect a2)] [] (section_Within_x r) (section_Within_o r) := by
 unfold section_Within at hm
 refine q_E Tryd.f37 44 fun E => ?_
 refine q_sq ?_
 refine q_vn [] 0 ⟨[(2, vp 0 0), (3, vp 1 0)], [(0, bx 52 (e_Section a1)), (1, bx 35 (e_Rect a2))]⟩ ?_
 refine q_sq ?_
 obtain ⟨v3, h4, hm⟩ := bind_s hm
 refine q_vu [qc 1 [9] 2 (section_valid_ok a1 v3 h4)] 2 [] [] [0] [(0, bx 52 (e_Section v3))] ?_
 refine q_sq ?_
 refine q_vu [] 2 [] [(5, vi 0)] [] [] ?_
 refine q_sq ?_
 refine q_sq ?_
 refine q_vu [] 2 [] [(12, vc (tl e_Span default v3.Rows)), (13, vi ((v3.Rows.length : Nat) : Int)), (14, vi 0)] [] [] ?_
 obtain ⟨o20, h21, hm⟩ := bind_s hm
 refine R_loop0 (nd Tryd.f37 244) 0 (by kernel_rfl) FUEL (fun o => section_Within_L1_T o) o20 (q_hl (section_Within_L1_S a2 v3 0 0) (section_Within_L1_ok E a2 v3 FUEL 0 0 o20 h21)) ?_
 refine q_sq ?_
 refine q_vn [] 2 ⟨[(4, vi o20)], []⟩ ?_
 obtain rfl := Option.some.inj hm
 refine q_rt ?_
 exact q_rm

end Saw
end Go.SL

namespace Go.SL
namespace Saw
open Go.Proofs
set_option maxHeartbeats 4000000

def worth_lacks_x (r : (List Worth_zone)) : V := vo 0 0 3 r.length

def worth_lacks_o (r : (List Worth_zone)) : List (Nat × (Nat × O)) := [(0, ro 0 195 3 r.length (rf e_Worth_zone r))]

theorem worth_lacks_f (r : (List Worth_zone)) : Frozen (worth_lacks_o r) := by
 intro i k o h
 unfold worth_lacks_o at h
 rw [look_cons] at h
 split at h
 ·cases h; exact fun _ _ => rfl
 ·cases h

def worth_lacks_L1_S (a1 : List Slice) (a2 : Rect) (l3 : List Worth_zone) (l3n : Nat) (x4 : Int) (x5 : Int) : St :=
 ⟨[(3, vp 0 0), (5, vi (w64 ((w64 (a2.X.B - a2.X.A)) * (w64 (a2.Y.B - a2.Y.A))))), (6, vo 1 0 3 l3n), (7, vi x4), (27, vc (tl e_Slice default a1)), (28, vi ((a1.length : Nat) : Int)), (29, vi x5)], [(0, bx 35 (e_Rect a2)), (1, ro 0 195 3 l3n (rf e_Worth_zone l3))]⟩

def worth_lacks_L1_T (l12 : List Worth_zone) : St :=
 ⟨[(6, vo 1 0 3 l12.length)], [(1, ro 0 195 3 l12.length (rf e_Worth_zone l12))]⟩

set_option maxRecDepth 100000 in
theorem worth_lacks_L1_ok (E : Env 0) (a1 : List Slice) (a2 : Rect) : ∀ (n : Nat) (l3 : List Worth_zone) (l3n : Nat) (x4 : Int) (x5 : Int) (res : (List Worth_zone)), l3.length = l3n → worth_lacks_L1 a1 a2 n l3 x4 x5 = some res → HL (kx E 61 0) (nd Tryd.f112 500) (loopQ0 0 (fun o => worth_lacks_L1_T o) res) n (worth_lacks_L1_S a1 a2 l3 l3n x4 x5) := by
 intro n
 induction n with
 | zero =>
  intro l3 l3n x4 x5 res hl0 hm
  cases hm
 | succ n ih =>
  intro l3 l3n x4 x5 res hl0 hm
  subst hl0
  refine HL_succ ?_
  refine q_sq ?_
  refine q_vu [] 2 [] [(30, vb (decide (x5 < ((a1.length : Nat) : Int))))] [] [] ?_
  refine q_sq ?_
  refine q_cn (decide (x5 < ((a1.length : Nat) : Int))) (fun b6 => ?_) (fun b6 => ?_)
  ·replace hm := bif_t b6 hm
   refine q_sk ?_
   refine q_sq ?_
   refine q_bk 1 ?_
   refine q_sq ?_
   obtain ⟨g7, hm⟩ := bif_n hm
   refine q_vu [qd 0 (Dir.none) (inb_of g7)] 2 [30] [(9, vp 2 0)] [] [(2, bx 54 [ci ((a1.getD x5.toNat default).Len), ci (((a1.getD x5.toNat default).Sec).Low), tl e_Span default (((a1.getD x5.toNat default).Sec).Rows)])] ?_
   refine q_sq ?_
   obtain ⟨v8, h9, hm⟩ := bind_s hm
   refine q_vu [qc 4 [35, 36] 3 (section_Within_ok ((a1.getD x5.toNat default).Sec) a2 v8 h9)] 3 [] [(10, vi (w64 ((w64 ((w64 (a2.X.B - a2.X.A)) * (w64 (a2.Y.B - a2.Y.A)))) - v8)))] [] [] ?_
   refine q_sq ?_
   refine q_vu [] 3 [7, 9] [(11, vp 3 0)] [2] [(3, bx 33 [ci x4, ci (w64 (x4 + ((a1.getD x5.toNat default).Len)))])] ?_
   refine q_sq ?_
   obtain ⟨g10, hm⟩ := bif_n hm
   obtain ⟨g11, hm⟩ := bif_n hm
   refine q_du [qd 8 (Dir.none) (nz_of g10), qd 10 (drw 4 0 (rf e_Worth_zone ([(Worth_zone.mk (Span.mk x4 (w64 (x4 + ((a1.getD x5.toNat default).Len)))) (w64 (Int.tdiv (w64 ((w64 ((w64 (1000 * (w64 ((w64 ((w64 (a2.X.B - a2.X.A)) * (w64 (a2.Y.B - a2.Y.A)))) - v8)))) + (w64 ((w64 (a2.X.B - a2.X.A)) * (w64 (a2.Y.B - a2.Y.A)))))) - 1)) (w64 ((w64 (a2.X.B - a2.X.A)) * (w64 (a2.Y.B - a2.Y.A)))))))] : List Worth_zone))) (litP e_Worth_zone default 3 (fun _ => rfl) ([(Worth_zone.mk (Span.mk x4 (w64 (x4 + ((a1.getD x5.toNat default).Len)))) (w64 (Int.tdiv (w64 ((w64 ((w64 (1000 * (w64 ((w64 ((w64 (a2.X.B - a2.X.A)) * (w64 (a2.Y.B - a2.Y.A)))) - v8)))) + (w64 ((w64 (a2.X.B - a2.X.A)) * (w64 (a2.Y.B - a2.Y.A)))))) - 1)) (w64 ((w64 (a2.X.B - a2.X.A)) * (w64 (a2.Y.B - a2.Y.A)))))))] : List Worth_zone) 1 rfl), qd 11 (drw 1 1 (rf e_Worth_zone (l3 ++ ([(Worth_zone.mk (Span.mk x4 (w64 (x4 + ((a1.getD x5.toNat default).Len)))) (w64 (Int.tdiv (w64 ((w64 ((w64 (1000 * (w64 ((w64 ((w64 (a2.X.B - a2.X.A)) * (w64 (a2.Y.B - a2.Y.A)))) - v8)))) + (w64 ((w64 (a2.X.B - a2.X.A)) * (w64 (a2.Y.B - a2.Y.A)))))) - 1)) (w64 ((w64 (a2.X.B - a2.X.A)) * (w64 (a2.Y.B - a2.Y.A)))))))] : List Worth_zone)))) (apP e_Worth_zone default l3 ([(Worth_zone.mk (Span.mk x4 (w64 (x4 + ((a1.getD x5.toNat default).Len)))) (w64 (Int.tdiv (w64 ((w64 ((w64 (1000 * (w64 ((w64 ((w64 (a2.X.B - a2.X.A)) * (w64 (a2.Y.B - a2.Y.A)))) - v8)))) + (w64 ((w64 (a2.X.B - a2.X.A)) * (w64 (a2.Y.B - a2.Y.A)))))) - 1)) (w64 ((w64 (a2.X.B - a2.X.A)) * (w64 (a2.Y.B - a2.Y.A)))))))] : List Worth_zone) l3.length 1 3 24 (1 ≤ 1) (Nat.le_refl _) rfl rfl (fun _ => rfl) (room_of g11))] [0, 0, 0, 4, 0, 28, 60, 0, 252, 510, 1022, 2047, 4095] 4 [6, 10] [(6, vo 1 1 3 (l3.length + 1))] [1] [(1, ro 1 195 3 (l3.length + 1) (rf e_Worth_zone (l3 ++ ([(Worth_zone.mk (Span.mk x4 (w64 (x4 + ((a1.getD x5.toNat default).Len)))) (w64 (Int.tdiv (w64 ((w64 ((w64 (1000 * (w64 ((w64 ((w64 (a2.X.B - a2.X.A)) * (w64 (a2.Y.B - a2.Y.A)))) - v8)))) + (w64 ((w64 (a2.X.B - a2.X.A)) * (w64 (a2.Y.B - a2.Y.A)))))) - 1)) (w64 ((w64 (a2.X.B - a2.X.A)) * (w64 (a2.Y.B - a2.Y.A)))))))] : List Worth_zone))))] ?_
   refine q_vu [] 5 [11] [(7, vi (w64 (x4 + ((a1.getD x5.toNat default).Len))))] [3] [] ?_
   refine q_vu [] 5 [29] [(29, vi (w64 (x5 + 1)))] [] [] ?_
   exact q_hl (worth_lacks_L1_S a1 a2 (l3 ++ ([(Worth_zone.mk (Span.mk x4 (w64 (x4 + ((a1.getD x5.toNat default).Len)))) (w64 (Int.tdiv (w64 ((w64 ((w64 (1000 * (w64 ((w64 ((w64 (a2.X.B - a2.X.A)) * (w64 (a2.Y.B - a2.Y.A)))) - v8)))) + (w64 ((w64 (a2.X.B - a2.X.A)) * (w64 (a2.Y.B - a2.Y.A)))))) - 1)) (w64 ((w64 (a2.X.B - a2.X.A)) * (w64 (a2.Y.B - a2.Y.A)))))))] : List Worth_zone)) (l3.length + 1) (w64 (x4 + ((a1.getD x5.toNat default).Len))) (w64 (x5 + 1))) (ih (l3 ++ ([(Worth_zone.mk (Span.mk x4 (w64 (x4 + ((a1.getD x5.toNat default).Len)))) (w64 (Int.tdiv (w64 ((w64 ((w64 (1000 * (w64 ((w64 ((w64 (a2.X.B - a2.X.A)) * (w64 (a2.Y.B - a2.Y.A)))) - v8)))) + (w64 ((w64 (a2.X.B - a2.X.A)) * (w64 (a2.Y.B - a2.Y.A)))))) - 1)) (w64 ((w64 (a2.X.B - a2.X.A)) * (w64 (a2.Y.B - a2.Y.A)))))))] : List Worth_zone)) (l3.length + 1) (w64 (x4 + ((a1.getD x5.toNat default).Len))) (w64 (x5 + 1)) _ (len_app rfl rfl) hm)
  ·replace hm := bif_f b6 hm
   refine q_ex 0 ?_
   obtain rfl := Option.some.inj hm
   exact L0_mk (by kernel_rfl) (by kernel_rfl)

set_option maxRecDepth 100000 in
theorem worth_lacks_ok (a1 : List Slice) (a2 : Rect) (r : (List Worth_zone)) (hm : worth_lacks a1 a2 = some r) : CtX Tryd.prog globs 112 0 0 [.one (tl e_Slice default a1), .agg (e_Rect a2)] [] (worth_lacks_x r) (worth_lacks_o r) := by
 unfold worth_lacks at hm
 refine q_E Tryd.f112 61 fun E => ?_
 refine q_sq ?_
 refine q_vn [] 0 ⟨[(0, vc (tl e_Slice default a1)), (3, vp 0 0)], [(0, bx 35 (e_Rect a2))]⟩ ?_
 refine q_sq ?_
 refine q_vu [] 1 [] [(5, vi (w64 ((w64 (a2.X.B - a2.X.A)) * (w64 (a2.Y.B - a2.Y.A)))))] [] [] ?_
 refine q_sq ?_
 refine q_vu [] 1 [] [(6, vc (.emp))] [] [] ?_
 refine q_sq ?_
 refine q_vu [] 1 [] [(7, vi 0)] [] [] ?_
 refine q_sq ?_
 refine q_sq ?_
 refine q_vu [] 1 [0] [(27, vc (tl e_Slice default a1)), (28, vi ((a1.length : Nat) : Int)), (29, vi 0)] [] [] ?_
 refine q_fn [.own 6 1 195 3 (rf e_Worth_zone ([] : List Worth_zone))] ⟨[(3, vp 0 0), (5, vi (w64 ((w64 (a2.X.B - a2.X.A)) * (w64 (a2.Y.B - a2.Y.A))))), (6, vo 1 0 3 0), (7, vi 0), (27, vc (tl e_Slice default a1)), (28, vi ((a1.length : Nat) : Int)), (29, vi 0)], [(0, bx 35 (e_Rect a2)), (1, ro 0 195 3 0 (rf e_Worth_zone ([] : List Worth_zone)))]⟩ o0 ?_
 obtain ⟨o13, h14, hm⟩ := bind_s hm
 refine R_loop0 (nd Tryd.f112 500) 0 (by kernel_rfl) FUEL (fun o => worth_lacks_L1_T o) o13 (q_hl (worth_lacks_L1_S a1 a2 ([] : List Worth_zone) 0 0 0) (worth_lacks_L1_ok E a1 a2 FUEL ([] : List Worth_zone) 0 0 0 o13 rfl h14)) ?_
 refine q_sq ?_
 refine q_vu [] 2 [6] [(4, vo 1 0 3 o13.length)] [] [] ?_
 obtain rfl := Option.some.inj hm
 refine H_swap 1 0 (by kernel_rfl) ?_
 refine q_rt ?_
 exact q_rm

end Saw
end Go.SL

namespace Go.SL
namespace Saw
open Go.Proofs
set_option maxHeartbeats 4000000

def defect_inside_x (r : Bool) : V := vb r

def defect_inside_o (r : Bool) : List (Nat × (Nat × O)) := []

theorem defect_inside_f (r : Bool) : Frozen (defect_inside_o r) := by
 intro i k o h
 unfold defect_inside_o at h
 cases h

def defect_inside_k1_S (x5 : Bool) : St :=
 ⟨[(6, vb x5)], []⟩

set_option maxRecDepth 100000 in
theorem defect_inside_ok (a1 : Span) (a2 : Int) (a3 : Int) (r : Bool) (hm : defect_inside a1 a2 a3 = some r) : CtX Tryd.prog globs 110 0 0 [.agg (e_Span a1), .one (ci a2), .one (ci a3)] [] (defect_inside_x r) (defect_inside_o r) := by
 unfold defect_inside at hm
 refine q_E Tryd.f110 23 fun E => ?_
 refine q_sq ?_
 refine q_vn [] 0 ⟨[(1, vi a2), (2, vi a3), (3, vp 0 0)], [(0, bx 33 (e_Span a1))]⟩ ?_
 refine q_jn (ι := Bool) (fun p => defect_inside_k1_S p) (fun p => defect_inside_k1 p = some r) ?_ ?_
 ·rintro x5 hm
  show H _ (defect_inside_k1_S x5) _ _
  obtain rfl := Option.some.inj hm
  refine q_rt ?_
  exact q_rm
 ·rcases Bool.eq_false_or_eq_true (decide ((imin a1.A a1.B) ≥ a2)) with b4 | b4
  ·replace hm := bif_t b4 hm
   refine q_vn [qf 7 b4] 1 ⟨[(6, vb (decide ((imax a1.A a1.B) ≤ a3)))], []⟩ ?_
   exact q_J (decide ((imax a1.A a1.B) ≤ a3)) hm
  ·replace hm := bif_f b4 hm
   refine q_vn [qf 7 b4] 1 ⟨[(6, vb false)], []⟩ ?_
   exact q_J (false) hm

end Saw
end Go.SL

namespace Go.SL
namespace Saw
open Go.Proofs
set_option maxHeartbeats 4000000

def defect_check_x (r : Int) : V := vi r

def defect_check_o (r : Int) : List (Nat × (Nat × O)) := []

theorem defect_check_f (r : Int) : Frozen (defect_check_o r) := by
 intro i k o h
 unfold defect_check_o at h
 cases h

def defect_check_k3_S (x23 : Bool) : St :=
 ⟨[(29, vb x23)], []⟩

def defect_check_k2_S (a1 : Defect) (x13 : Bool) : St :=
 ⟨[(3, vp 1 0), (15, vb x13)], [(1, bx 57 (e_Box a1.Box))]⟩

def defect_check_k1_S (a1 : Defect) (x3 : Bool) : St :=
 ⟨[(3, vp 1 0), (6, vb x3)], [(1, bx 57 (e_Box a1.Box))]⟩

set_option maxRecDepth 100000 in
theorem defect_check_ok (a1 : Defect) (r : Int) (hm : defect_check a1 = some r) : CtX Tryd.prog globs 95 0 0 [.agg (e_Defect a1)] [] (defect_check_x r) (defect_check_o r) := by
 unfold defect_check at hm
 refine q_E Tryd.f95 46 fun E => ?_
 refine q_sq ?_
 refine q_vn [] 0 ⟨[(1, vp 0 0)], [(0, bx 59 (e_Defect a1))]⟩ ?_
 refine q_sq ?_
 refine q_vu [] 1 [] [(3, vp 1 0)] [] [(1, bx 57 (e_Box a1.Box))] ?_
 refine q_sq ?_
 refine q_bk 0 ?_
 refine q_jn (ι := Bool) (fun p => defect_check_k1_S a1 p) (fun p => defect_check_k1 a1 p = some r) ?_ ?_
 ·rintro x3 hm
  show H _ (defect_check_k1_S a1 x3) _ _
  refine q_cn x3 (fun b4 => ?_) (fun b4 => ?_)
  ·replace hm := bif_t b4 hm
   refine q_sq ?_
   refine q_vn [] 2 ⟨[(2, vi 10)], []⟩ ?_
   obtain rfl := Option.some.inj hm
   refine q_rt ?_
   exact q_rm
  ·replace hm := bif_f b4 hm
   refine q_jn (ι := Bool) (fun p => defect_check_k2_S a1 p) (fun p => defect_check_k2 a1 p = some r) ?_ ?_
   ·rintro x13 hm
    show H _ (defect_check_k2_S a1 x13) _ _
    refine q_cn x13 (fun b14 => ?_) (fun b14 => ?_)
    ·replace hm := bif_t b14 hm
     refine q_sq ?_
     refine q_vn [] 2 ⟨[(2, vi 19)], []⟩ ?_
     obtain rfl := Option.some.inj hm
     refine q_rt ?_
     exact q_rm
    ·replace hm := bif_f b14 hm
     refine q_jn (ι := Bool) (fun p => defect_check_k3_S p) (fun p => defect_check_k3 p = some r) ?_ ?_
     ·rintro x23 hm
      show H _ (defect_check_k3_S x23) _ _
      refine q_cn x23 (fun b24 => ?_) (fun b24 => ?_)
      ·replace hm := bif_t b24 hm
       refine q_sq ?_
       refine q_vn [] 2 ⟨[(2, vi 9)], []⟩ ?_
       obtain rfl := Option.some.inj hm
       refine q_rt ?_
       exact q_rm
      ·replace hm := bif_f b24 hm
       refine q_sk ?_
       refine q_sq ?_
       refine q_vn [] 2 ⟨[(2, vi 0)], []⟩ ?_
       obtain rfl := Option.some.inj hm
       refine q_rt ?_
       exact q_rm
     ·obtain ⟨v15, h16, hm⟩ := bind_s hm
      rcases Bool.eq_false_or_eq_true (!v15) with b17 | b17
      ·replace hm := bif_t b17 hm
       refine q_vn [qk 2 [31] 2 ⟨[(31, va (e_Span a1.Box.X))], []⟩ (defect_inside_ok a1.Box.X (-600) 600 v15 h16), qf 4 b17] 2 ⟨[(29, vb true)], []⟩ ?_
       exact q_J (true) hm
      ·replace hm := bif_f b17 hm
       obtain ⟨v18, h19, hm⟩ := bind_s hm
       rcases Bool.eq_false_or_eq_true (!v18) with b20 | b20
       ·replace hm := bif_t b20 hm
        refine q_vn [qk 2 [31] 2 ⟨[(31, va (e_Span a1.Box.X))], []⟩ (defect_inside_ok a1.Box.X (-600) 600 v15 h16), qf 4 b17, qk 7 [34, 36] 2 ⟨[(34, vb false), (36, va (e_Span a1.Box.Y))], []⟩ (defect_inside_ok a1.Box.Y (-600) 600 v18 h19), qf 10 b20] 2 ⟨[(29, vb true)], []⟩ ?_
        exact q_J (true) hm
       ·replace hm := bif_f b20 hm
        obtain ⟨v21, h22, hm⟩ := bind_s hm
        refine q_vn [qk 2 [31] 2 ⟨[(31, va (e_Span a1.Box.X))], []⟩ (defect_inside_ok a1.Box.X (-600) 600 v15 h16), qf 4 b17, qk 7 [34, 36] 2 ⟨[(34, vb false), (36, va (e_Span a1.Box.Y))], []⟩ (defect_inside_ok a1.Box.Y (-600) 600 v18 h19), qf 10 b20, qk 13 [40, 42] 2 ⟨[(40, vb false), (42, va (e_Span a1.Box.Z))], []⟩ (defect_inside_ok a1.Box.Z 0 20000 v21 h22)] 2 ⟨[(29, vb (!v21))], []⟩ ?_
        exact q_J (!v21) hm
   ·obtain ⟨v5, h6, hm⟩ := bind_s hm
    rcases Bool.eq_false_or_eq_true v5 with b7 | b7
    ·replace hm := bif_t b7 hm
     refine q_vu [qc 2 [17] 2 (defect_isEmpty_ok a1.Box.X v5 h6), qf 3 b7] 2 [6] [(15, vb true)] [] [] ?_
     exact q_J (true) hm
    ·replace hm := bif_f b7 hm
     obtain ⟨v8, h9, hm⟩ := bind_s hm
     rcases Bool.eq_false_or_eq_true v8 with b10 | b10
     ·replace hm := bif_t b10 hm
      refine q_vu [qc 2 [17] 2 (defect_isEmpty_ok a1.Box.X v5 h6), qf 3 b7, qk 6 [19, 21] 2 ⟨[(19, vb false), (21, va (e_Span a1.Box.Y))], []⟩ (defect_isEmpty_ok a1.Box.Y v8 h9), qf 8 b10] 2 [6] [(15, vb true)] [] [] ?_
      exact q_J (true) hm
     ·replace hm := bif_f b10 hm
      obtain ⟨v11, h12, hm⟩ := bind_s hm
      refine q_vu [qc 2 [17] 2 (defect_isEmpty_ok a1.Box.X v5 h6), qf 3 b7, qk 6 [19, 21] 2 ⟨[(19, vb false), (21, va (e_Span a1.Box.Y))], []⟩ (defect_isEmpty_ok a1.Box.Y v8 h9), qf 8 b10, qk 11 [24, 26] 2 ⟨[(24, vb false), (26, va (e_Span a1.Box.Z))], []⟩ (defect_isEmpty_ok a1.Box.Z v11 h12)] 2 [6] [(15, vb v11)] [] [] ?_
      exact q_J (v11) hm
 ·rcases Bool.eq_false_or_eq_true (decide (a1.Kind < 1)) with b2 | b2
  ·replace hm := bif_t b2 hm
   refine q_vu [qf 3 b2] 2 [1] [(6, vb true)] [0] [] ?_
   exact q_J (true) hm
  ·replace hm := bif_f b2 hm
   refine q_vu [qf 3 b2] 2 [1] [(6, vb (decide (a1.Kind > 6)))] [0] [] ?_
   exact q_J (decide (a1.Kind > 6)) hm

end Saw
end Go.SL

namespace Go.SL
namespace Saw
open Go.Proofs
set_option maxHeartbeats 4000000

def defect_Check_x (r : Int) : V := vi r

def defect_Check_o (r : Int) : List (Nat × (Nat × O)) := []

theorem defect_Check_f (r : Int) : Frozen (defect_Check_o r) := by
 intro i k o h
 unfold defect_Check_o at h
 cases h

def defect_Check_L1_S (a1 : List Defect) (x3 : Int) : St :=
 ⟨[(9, vc (tl e_Defect default a1)), (10, vi ((a1.length : Nat) : Int)), (11, vi x3)], []⟩

def defect_Check_L1_T : St :=
 ⟨[], []⟩

set_option maxRecDepth 100000 in
theorem defect_Check_L1_ok (E : Env 0) (a1 : List Defect) : ∀ (n : Nat) (x3 : Int) (res : Int ⊕ Unit), defect_Check_L1 a1 n x3 = some res → HL (kx E 21 0) (nd Tryd.f71 116) (loopQ 0 (fun o => defect_Check_L1_T) (fun v st => RetQ Tryd.prog Tryd.f71 (defect_Check_x v) (defect_Check_o v) .ret st) res) n (defect_Check_L1_S a1 x3) := by
 intro n
 induction n with
 | zero =>
  intro x3 res hm
  cases hm
 | succ n ih =>
  intro x3 res hm
  refine HL_succ ?_
  refine q_sq ?_
  refine q_vu [] 0 [] [(12, vb (decide (x3 < ((a1.length : Nat) : Int))))] [] [] ?_
  refine q_sq ?_
  refine q_cn (decide (x3 < ((a1.length : Nat) : Int))) (fun b4 => ?_) (fun b4 => ?_)
  ·replace hm := bif_t b4 hm
   refine q_sk ?_
   refine q_sq ?_
   refine q_bk 1 ?_
   refine q_sq ?_
   obtain ⟨g5, hm⟩ := bif_n hm
   refine q_vu [qd 0 (Dir.none) (inb_of g5)] 0 [12] [(4, vp 0 0)] [] [(0, bx 59 [ci ((a1.getD x3.toNat default).Kind), ci ((((a1.getD x3.toNat default).Box).X).A), ci ((((a1.getD x3.toNat default).Box).X).B), ci ((((a1.getD x3.toNat default).Box).Y).A), ci ((((a1.getD x3.toNat default).Box).Y).B), ci ((((a1.getD x3.toNat default).Box).Z).A), ci ((((a1.getD x3.toNat default).Box).Z).B)])] ?_
   refine q_sq ?_
   obtain ⟨v6, h7, hm⟩ := bind_s hm
   refine q_vu [qc 1 [15] 1 (defect_check_ok (a1.getD x3.toNat default) v6 h7)] 1 [4] [(5, vi v6)] [0] [] ?_
   refine q_sq ?_
   refine q_vu [] 1 [] [(18, vb (v6 != 0))] [] [] ?_
   refine q_cn (v6 != 0) (fun b8 => ?_) (fun b8 => ?_)
   ·replace hm := bif_t b8 hm
    refine q_sq ?_
    refine q_vn [] 1 ⟨[(2, vi v6)], []⟩ ?_
    obtain rfl := Option.some.inj hm
    refine q_rt ?_
    refine L1_ret v6 ?_
    exact q_rm
   ·replace hm := bif_f b8 hm
    refine q_sk ?_
    refine q_vu [] 1 [5, 11, 18] [(11, vi (w64 (x3 + 1)))] [] [] ?_
    exact q_hl (defect_Check_L1_S a1 (w64 (x3 + 1))) (ih (w64 (x3 + 1)) _ hm)
  ·replace hm := bif_f b4 hm
   refine q_ex 0 ?_
   obtain rfl := Option.some.inj hm
   exact L1_mk () (by kernel_rfl) (by kernel_rfl)

set_option maxRecDepth 100000 in
theorem defect_Check_ok (a1 : List Defect) (r : Int) (hm : defect_Check a1 = some r) : CtX Tryd.prog globs 71 0 0 [.one (tl e_Defect default a1)] [] (defect_Check_x r) (defect_Check_o r) := by
 unfold defect_Check at hm
 refine q_E Tryd.f71 21 fun E => ?_
 refine q_sq ?_
 refine q_vn [] 0 ⟨[(0, vc (tl e_Defect default a1))], []⟩ ?_
 refine q_sq ?_
 refine q_sq ?_
 refine q_vu [] 0 [] [(8, vb (decide (((a1.length : Nat) : Int) > 64)))] [] [] ?_
 refine q_cn (decide (((a1.length : Nat) : Int) > 64)) (fun b2 => ?_) (fun b2 => ?_)
 ·replace hm := bif_t b2 hm
  refine q_sq ?_
  refine q_vn [] 0 ⟨[(2, vi 4)], []⟩ ?_
  obtain rfl := Option.some.inj hm
  refine q_rt ?_
  exact q_rm
 ·replace hm := bif_f b2 hm
  refine q_sk ?_
  refine q_sq ?_
  refine q_sq ?_
  refine q_vn [] 0 ⟨[(9, vc (tl e_Defect default a1)), (10, vi ((a1.length : Nat) : Int)), (11, vi 0)], []⟩ ?_
  obtain ⟨u11, h10, hm⟩ := bind_s hm
  refine R_loop1 (nd Tryd.f71 116) 0 (by kernel_rfl) FUEL (fun o => defect_Check_L1_T) (fun v st => RetQ Tryd.prog Tryd.f71 (defect_Check_x v) (defect_Check_o v) .ret st) u11 (q_hl (defect_Check_L1_S a1 0) (defect_Check_L1_ok E a1 FUEL 0 u11 h10)) ?_ ?_
  ·rintro v12 rfl st hr
   obtain rfl := Option.some.inj hm
   exact hr
  ·rintro o9 rfl
   replace hm : _ = some r := hm
   refine q_sq ?_
   refine q_vn [] 0 ⟨[(2, vi 0)], []⟩ ?_
   obtain rfl := Option.some.inj hm
   refine q_rt ?_
   exact q_rm

end Saw
end Go.SL

namespace Go.SL
namespace Saw
open Go.Proofs
set_option maxHeartbeats 4000000

def ident_isSmall_x (r : Bool) : V := vb r

def ident_isSmall_o (r : Bool) : List (Nat × (Nat × O)) := []

theorem ident_isSmall_f (r : Bool) : Frozen (ident_isSmall_o r) := by
 intro i k o h
 unfold ident_isSmall_o at h
 cases h

def ident_isSmall_k1_S (x3 : Bool) : St :=
 ⟨[(2, vb x3)], []⟩

set_option maxRecDepth 100000 in
theorem ident_isSmall_ok (a1 : Int) (r : Bool) (hm : ident_isSmall a1 = some r) : CtX Tryd.prog globs 82 0 0 [.one (.val (.int .u8 a1))] [] (ident_isSmall_x r) (ident_isSmall_o r) := by
 unfold ident_isSmall at hm
 refine q_E Tryd.f82 9 fun E => ?_
 refine q_sq ?_
 refine q_vn [] 0 ⟨[(0, vc (.val (.int .u8 a1)))], []⟩ ?_
 refine q_jn (ι := Bool) (fun p => ident_isSmall_k1_S p) (fun p => ident_isSmall_k1 p = some r) ?_ ?_
 ·rintro x3 hm
  show H _ (ident_isSmall_k1_S x3) _ _
  obtain rfl := Option.some.inj hm
  refine q_rt ?_
  exact q_rm
 ·rcases Bool.eq_false_or_eq_true (decide (97 ≤ a1)) with b2 | b2
  ·replace hm := bif_t b2 hm
   refine q_vn [qf 2 b2] 0 ⟨[(2, vb (decide (a1 ≤ 122)))], []⟩ ?_
   exact q_J (decide (a1 ≤ 122)) hm
  ·replace hm := bif_f b2 hm
   refine q_vn [qf 2 b2] 0 ⟨[(2, vb false)], []⟩ ?_
   exact q_J (false) hm

end Saw
end Go.SL

namespace Go.SL
namespace Saw
open Go.Proofs
set_option maxHeartbeats 4000000

def ident_isDigit_x (r : Bool) : V := vb r

def ident_isDigit_o (r : Bool) : List (Nat × (Nat × O)) := []

theorem ident_isDigit_f (r : Bool) : Frozen (ident_isDigit_o r) := by
 intro i k o h
 unfold ident_isDigit_o at h
 cases h

def ident_isDigit_k1_S (x3 : Bool) : St :=
 ⟨[(2, vb x3)], []⟩

set_option maxRecDepth 100000 in
theorem ident_isDigit_ok (a1 : Int) (r : Bool) (hm : ident_isDigit a1 = some r) : CtX Tryd.prog globs 83 0 0 [.one (.val (.int .u8 a1))] [] (ident_isDigit_x r) (ident_isDigit_o r) := by
 unfold ident_isDigit at hm
 refine q_E Tryd.f83 9 fun E => ?_
 refine q_sq ?_
 refine q_vn [] 0 ⟨[(0, vc (.val (.int .u8 a1)))], []⟩ ?_
 refine q_jn (ι := Bool) (fun p => ident_isDigit_k1_S p) (fun p => ident_isDigit_k1 p = some r) ?_ ?_
 ·rintro x3 hm
  show H _ (ident_isDigit_k1_S x3) _ _
  obtain rfl := Option.some.inj hm
  refine q_rt ?_
  exact q_rm
 ·rcases Bool.eq_false_or_eq_true (decide (48 ≤ a1)) with b2 | b2
  ·replace hm := bif_t b2 hm
   refine q_vn [qf 2 b2] 0 ⟨[(2, vb (decide (a1 ≤ 57)))], []⟩ ?_
   exact q_J (decide (a1 ≤ 57)) hm
  ·replace hm := bif_f b2 hm
   refine q_vn [qf 2 b2] 0 ⟨[(2, vb false)], []⟩ ?_
   exact q_J (false) hm

end Saw
end Go.SL

namespace Go.SL
namespace Saw
open Go.Proofs
set_option maxHeartbeats 4000000

def ident_IsName_x (r : Bool) : V := vb r

def ident_IsName_o (r : Bool) : List (Nat × (Nat × O)) := []

theorem ident_IsName_f (r : Bool) : Frozen (ident_IsName_o r) := by
 intro i k o h
 unfold ident_IsName_o at h
 cases h

def ident_IsName_k3_S (a1 : ByteArray) (x9 : Int) (x18 : Bool) : St :=
 ⟨[(0, vc (cs a1)), (3, vi x9), (39, vb x18)], []⟩

def ident_IsName_L2_S (a1 : ByteArray) (x9 : Int) : St :=
 ⟨[(0, vc (cs a1)), (3, vi x9)], []⟩

def ident_IsName_L2_T : St :=
 ⟨[], []⟩

def ident_IsName_k1_S (a1 : ByteArray) (x7 : Bool) : St :=
 ⟨[(0, vc (cs a1)), (18, vb x7)], []⟩

set_option maxRecDepth 100000 in
theorem ident_IsName_L2_ok (E : Env 0) (a1 : ByteArray) : ∀ (n : Nat) (x9 : Int) (res : Bool ⊕ Unit), ident_IsName_L2 a1 n x9 = some res → HL (kx E 40 0) (nd Tryd.f46 116) (loopQ 0 (fun o => ident_IsName_L2_T) (fun v st => RetQ Tryd.prog Tryd.f46 (ident_IsName_x v) (ident_IsName_o v) .ret st) res) n (ident_IsName_L2_S a1 x9) := by
 intro n
 induction n with
 | zero =>
  intro x9 res hm
  cases hm
 | succ n ih =>
  intro x9 res hm
  refine HL_succ ?_
  refine q_sq ?_
  refine q_sq ?_
  refine q_vu [] 0 [] [(22, vb (decide (x9 < ((a1.size : Nat) : Int))))] [] [] ?_
  refine q_cn (decide (x9 < ((a1.size : Nat) : Int))) (fun b10 => ?_) (fun b10 => ?_)
  ·replace hm := bif_t b10 hm
   refine q_sk ?_
   refine q_sq ?_
   refine q_bk 1 ?_
   refine q_sq ?_
   obtain ⟨g11, hm⟩ := bif_n hm
   refine q_vu [qd 2 (Dir.none) (inb_of g11)] 0 [22] [(4, vc (.val (.int .u8 (strAt a1 x9.toNat))))] [] [] ?_
   refine q_jn (ι := Bool) (fun p => ident_IsName_k3_S a1 x9 p) (fun p => ident_IsName_k3 x9 (ident_IsName_L2 a1 n) p = some res) ?_ ?_
   ·rintro x18 hm
    show H _ (ident_IsName_k3_S a1 x9 x18) _ _
    refine q_cn x18 (fun b19 => ?_) (fun b19 => ?_)
    ·replace hm := bif_t b19 hm
     refine q_sq ?_
     refine q_vn [] 0 ⟨[(2, vb false)], []⟩ ?_
     obtain rfl := Option.some.inj hm
     refine q_rt ?_
     refine L1_ret false ?_
     exact q_rm
    ·replace hm := bif_f b19 hm
     refine q_sk ?_
     refine q_vu [] 0 [3, 39] [(3, vi (w64 (x9 + 1)))] [] [] ?_
     exact q_hl (ident_IsName_L2_S a1 (w64 (x9 + 1))) (ih (w64 (x9 + 1)) _ hm)
   ·obtain ⟨v12, h13, hm⟩ := bind_s hm
    rcases Bool.eq_false_or_eq_true (!v12) with b14 | b14
    ·replace hm := bif_t b14 hm
     obtain ⟨v15, h16, hm⟩ := bind_s hm
     rcases Bool.eq_false_or_eq_true (!v15) with b17 | b17
     ·replace hm := bif_t b17 hm
      refine q_vu [qc 1 [28] 0 (ident_isSmall_ok (strAt a1 x9.toNat) v12 h13), qf 3 b14, qk 5 [31, 32] 0 ⟨[(31, vb true), (32, vc (.val (.int .u8 (strAt a1 x9.toNat))))], []⟩ (ident_isDigit_ok (strAt a1 x9.toNat) v15 h16), qf 8 b17] 0 [4] [(32, vc (.val (.int .u8 (strAt a1 x9.toNat)))), (33, vb v15), (34, vb (!v15)), (37, vc (.val (.int .u8 (strAt a1 x9.toNat)))), (38, vb ((strAt a1 x9.toNat) != 95)), (39, vb ((strAt a1 x9.toNat) != 95))] [] [] ?_
      exact q_J ((strAt a1 x9.toNat) != 95) hm
     ·replace hm := bif_f b17 hm
      refine q_vu [qc 1 [28] 0 (ident_isSmall_ok (strAt a1 x9.toNat) v12 h13), qf 3 b14, qk 5 [31, 32] 0 ⟨[(31, vb true), (32, vc (.val (.int .u8 (strAt a1 x9.toNat))))], []⟩ (ident_isDigit_ok (strAt a1 x9.toNat) v15 h16), qf 8 b17] 0 [4] [(32, vc (.val (.int .u8 (strAt a1 x9.toNat)))), (33, vb v15), (34, vb (!v15)), (39, vb false)] [] [] ?_
      exact q_J (false) hm
    ·replace hm := bif_f b14 hm
     refine q_vu [qc 1 [28] 0 (ident_isSmall_ok (strAt a1 x9.toNat) v12 h13), qf 3 b14] 0 [4] [(39, vb false)] [] [] ?_
     exact q_J (false) hm
  ·replace hm := bif_f b10 hm
   refine q_ex 0 ?_
   obtain rfl := Option.some.inj hm
   exact L1_mk () (by kernel_rfl) (by kernel_rfl)

set_option maxRecDepth 100000 in
theorem ident_IsName_ok (a1 : ByteArray) (r : Bool) (hm : ident_IsName a1 = some r) : CtX Tryd.prog globs 46 0 0 [.one (cs a1)] [] (ident_IsName_x r) (ident_IsName_o r) := by
 unfold ident_IsName at hm
 refine q_E Tryd.f46 40 fun E => ?_
 refine q_sq ?_
 refine q_vn [] 0 ⟨[(0, vc (cs a1))], []⟩ ?_
 refine q_sq ?_
 refine q_jn (ι := Bool) (fun p => ident_IsName_k1_S a1 p) (fun p => ident_IsName_k1 a1 p = some r) ?_ ?_
 ·rintro x7 hm
  show H _ (ident_IsName_k1_S a1 x7) _ _
  refine q_cn x7 (fun b8 => ?_) (fun b8 => ?_)
  ·replace hm := bif_t b8 hm
   refine q_sq ?_
   refine q_vn [] 0 ⟨[(2, vb false)], []⟩ ?_
   obtain rfl := Option.some.inj hm
   refine q_rt ?_
   exact q_rm
  ·replace hm := bif_f b8 hm
   refine q_sk ?_
   refine q_sq ?_
   refine q_sq ?_
   refine q_vu [] 0 [18] [(3, vi 1)] [] [] ?_
   obtain ⟨u22, h21, hm⟩ := bind_s hm
   refine R_loop1 (nd Tryd.f46 116) 0 (by kernel_rfl) FUEL (fun o => ident_IsName_L2_T) (fun v st => RetQ Tryd.prog Tryd.f46 (ident_IsName_x v) (ident_IsName_o v) .ret st) u22 (q_hl (ident_IsName_L2_S a1 1) (ident_IsName_L2_ok E a1 FUEL 1 u22 h21)) ?_ ?_
   ·rintro v23 rfl st hr
    obtain rfl := Option.some.inj hm
    exact hr
   ·rintro o20 rfl
    replace hm : _ = some r := hm
    refine q_sq ?_
    refine q_vn [] 0 ⟨[(2, vb true)], []⟩ ?_
    obtain rfl := Option.some.inj hm
    refine q_rt ?_
    exact q_rm
 ·rcases Bool.eq_false_or_eq_true (decide (((a1.size : Nat) : Int) < 1)) with b2 | b2
  ·replace hm := bif_t b2 hm
   refine q_vu [qf 3 b2] 0 [] [(18, vb true)] [] [] ?_
   exact q_J (true) hm
  ·replace hm := bif_f b2 hm
   rcases Bool.eq_false_or_eq_true (decide (((a1.size : Nat) : Int) > 16)) with b3 | b3
   ·replace hm := bif_t b3 hm
    refine q_vu [qf 3 b2, qf 8 b3] 0 [] [(18, vb true)] [] [] ?_
    exact q_J (true) hm
   ·replace hm := bif_f b3 hm
    obtain ⟨g4, hm⟩ := bif_n hm
    obtain ⟨v5, h6, hm⟩ := bind_s hm
    refine q_vu [qf 3 b2, qf 8 b3, qd 10 (Dir.none) (inb_of g4), qk 11 [13, 15] 0 ⟨[(13, vb false), (15, vc (.val (.int .u8 (strAt a1 ((0 : Int).toNat)))))], []⟩ (ident_isSmall_ok (strAt a1 ((0 : Int).toNat)) v5 h6)] 0 [] [(18, vb (!v5))] [] [] ?_
    exact q_J (!v5) hm

end Saw
end Go.SL

namespace Go.SL
namespace Saw
open Go.Proofs
set_option maxHeartbeats 4000000

def product_Find_x (r : Int × Bool) : V := .tup [.one (ci r.1), .one (cb r.2)]

def product_Find_o (r : Int × Bool) : List (Nat × (Nat × O)) := []

theorem product_Find_f (r : Int × Bool) : Frozen (product_Find_o r) := by
 intro i k o h
 unfold product_Find_o at h
 cases h

def product_Find_L1_S (a1 : List Product) (a2 : ByteArray) (x3 : Int) : St :=
 ⟨[(1, vc (cs a2)), (8, vc (tl e_Product default a1)), (9, vi ((a1.length : Nat) : Int)), (10, vi x3)], []⟩

def product_Find_L1_T : St :=
 ⟨[], []⟩

set_option maxRecDepth 100000 in
theorem product_Find_L1_ok (E : Env 0) (a1 : List Product) (a2 : ByteArray) : ∀ (n : Nat) (x3 : Int) (res : (Int × Bool) ⊕ Unit), product_Find_L1 a1 a2 n x3 = some res → HL (kx E 21 0) (nd Tryd.f47 52) (loopQ 0 (fun o => product_Find_L1_T) (fun v st => RetQ Tryd.prog Tryd.f47 (product_Find_x v) (product_Find_o v) .ret st) res) n (product_Find_L1_S a1 a2 x3) := by
 intro n
 induction n with
 | zero =>
  intro x3 res hm
  cases hm
 | succ n ih =>
  intro x3 res hm
  refine HL_succ ?_
  refine q_sq ?_
  refine q_vu [] 0 [] [(11, vb (decide (x3 < ((a1.length : Nat) : Int))))] [] [] ?_
  refine q_sq ?_
  refine q_cn (decide (x3 < ((a1.length : Nat) : Int))) (fun b4 => ?_) (fun b4 => ?_)
  ·replace hm := bif_t b4 hm
   refine q_sk ?_
   refine q_sq ?_
   refine q_bk 1 ?_
   refine q_sq ?_
   obtain ⟨g5, hm⟩ := bif_n hm
   refine q_vu [qd 1 (Dir.none) (inb_of g5)] 0 [11] [(6, vi x3), (7, vp 0 0)] [] [(0, bx 43 [cs ((a1.getD x3.toNat default).Name), ci ((a1.getD x3.toNat default).Thick), ci ((a1.getD x3.toNat default).Width), ci ((a1.getD x3.toNat default).Allow), ci ((a1.getD x3.toNat default).Wane), tl e_i64 default ((a1.getD x3.toNat default).Lengths), tl e_i64 default ((a1.getD x3.toNat default).Prices)])] ?_
   refine q_sq ?_
   refine q_vu [] 1 [7] [(18, vb (strEq ((a1.getD x3.toNat default).Name) a2))] [0] [] ?_
   refine q_cn (strEq ((a1.getD x3.toNat default).Name) a2) (fun b6 => ?_) (fun b6 => ?_)
   ·replace hm := bif_t b6 hm
    refine q_sq ?_
    refine q_vn [] 1 ⟨[(4, vi x3), (5, vb true)], []⟩ ?_
    obtain rfl := Option.some.inj hm
    refine q_rt ?_
    refine L1_ret (x3, true) ?_
    exact q_rm
   ·replace hm := bif_f b6 hm
    refine q_sk ?_
    refine q_vu [] 1 [6, 10, 18] [(10, vi (w64 (x3 + 1)))] [] [] ?_
    exact q_hl (product_Find_L1_S a1 a2 (w64 (x3 + 1))) (ih (w64 (x3 + 1)) _ hm)
  ·replace hm := bif_f b4 hm
   refine q_ex 0 ?_
   obtain rfl := Option.some.inj hm
   exact L1_mk () (by kernel_rfl) (by kernel_rfl)

set_option maxRecDepth 100000 in
theorem product_Find_ok (a1 : List Product) (a2 : ByteArray) (r : Int × Bool) (hm : product_Find a1 a2 = some r) : CtX Tryd.prog globs 47 0 0 [.one (tl e_Product default a1), .one (cs a2)] [] (product_Find_x r) (product_Find_o r) := by
 unfold product_Find at hm
 refine q_E Tryd.f47 21 fun E => ?_
 refine q_sq ?_
 refine q_vn [] 0 ⟨[(0, vc (tl e_Product default a1)), (1, vc (cs a2))], []⟩ ?_
 refine q_sq ?_
 refine q_sq ?_
 refine q_vu [] 0 [0] [(8, vc (tl e_Product default a1)), (9, vi ((a1.length : Nat) : Int)), (10, vi 0)] [] [] ?_
 obtain ⟨u9, h8, hm⟩ := bind_s hm
 refine R_loop1 (nd Tryd.f47 52) 0 (by kernel_rfl) FUEL (fun o => product_Find_L1_T) (fun v st => RetQ Tryd.prog Tryd.f47 (product_Find_x v) (product_Find_o v) .ret st) u9 (q_hl (product_Find_L1_S a1 a2 0) (product_Find_L1_ok E a1 a2 FUEL 0 u9 h8)) ?_ ?_
 ·rintro v10 rfl st hr
  obtain rfl := Option.some.inj hm
  exact hr
 ·rintro o7 rfl
  replace hm : _ = some r := hm
  refine q_sq ?_
  refine q_vn [] 0 ⟨[(4, vi 0), (5, vb false)], []⟩ ?_
  obtain rfl := Option.some.inj hm
  refine q_rt ?_
  exact q_rm

end Saw
end Go.SL

namespace Go.SL
namespace Saw
open Go.Proofs
set_option maxHeartbeats 4000000

def product_checkNumbers_x (r : Int) : V := vi r

def product_checkNumbers_o (r : Int) : List (Nat × (Nat × O)) := []

theorem product_checkNumbers_f (r : Int) : Frozen (product_checkNumbers_o r) := by
 intro i k o h
 unfold product_checkNumbers_o at h
 cases h

def product_checkNumbers_k5_S (a1 : Product) (x18 : Int) (x26 : Bool) : St :=
 ⟨[(1, vp 0 0), (70, vc (tl e_i64 default a1.Lengths)), (71, vi ((a1.Lengths.length : Nat) : Int)), (72, vi x18), (94, vb x26)], [(0, bx 43 (e_Product a1))]⟩

def product_checkNumbers_k4_S (a1 : Product) (x18 : Int) (x22 : Bool) : St :=
 ⟨[(1, vp 0 0), (5, vi x18), (6, vi (a1.Lengths.getD x18.toNat default)), (70, vc (tl e_i64 default a1.Lengths)), (71, vi ((a1.Lengths.length : Nat) : Int)), (72, vi x18), (82, vb x22)], [(0, bx 43 (e_Product a1))]⟩

def product_checkNumbers_L3_S (a1 : Product) (x18 : Int) : St :=
 ⟨[(1, vp 0 0), (70, vc (tl e_i64 default a1.Lengths)), (71, vi ((a1.Lengths.length : Nat) : Int)), (72, vi x18)], [(0, bx 43 (e_Product a1))]⟩

def product_checkNumbers_L3_T (a1 : Product) : St :=
 ⟨[(1, vp 0 0)], [(0, bx 43 (e_Product a1))]⟩

def product_checkNumbers_k7_S (a1 : Product) (x32 : Int) (x36 : Bool) : St :=
 ⟨[(97, vc (tl e_i64 default a1.Prices)), (98, vi ((a1.Prices.length : Nat) : Int)), (99, vi x32), (108, vb x36)], []⟩

def product_checkNumbers_L6_S (a1 : Product) (x32 : Int) : St :=
 ⟨[(97, vc (tl e_i64 default a1.Prices)), (98, vi ((a1.Prices.length : Nat) : Int)), (99, vi x32)], []⟩

def product_checkNumbers_L6_T : St :=
 ⟨[], []⟩

def product_checkNumbers_k2_S (a1 : Product) (x10 : Bool) : St :=
 ⟨[(1, vp 0 0), (46, vb x10)], [(0, bx 43 (e_Product a1))]⟩

def product_checkNumbers_k1_S (a1 : Product) (x5 : Bool) : St :=
 ⟨[(1, vp 0 0), (28, vb x5)], [(0, bx 43 (e_Product a1))]⟩

set_option maxRecDepth 100000 in
theorem product_checkNumbers_L3_ok (E : Env 0) (a1 : Product) : ∀ (n : Nat) (x18 : Int) (res : Int ⊕ Unit), product_checkNumbers_L3 a1 n x18 = some res → HL (kx E 110 0) (nd Tryd.f48 4084) (loopQ 0 (fun o => product_checkNumbers_L3_T a1) (fun v st => RetQ Tryd.prog Tryd.f48 (product_checkNumbers_x v) (product_checkNumbers_o v) .ret st) res) n (product_checkNumbers_L3_S a1 x18) := by
 intro n
 induction n with
 | zero =>
  intro x18 res hm
  cases hm
 | succ n ih =>
  intro x18 res hm
  refine HL_succ ?_
  refine q_sq ?_
  refine q_vu [] 1 [] [(73, vb (decide (x18 < ((a1.Lengths.length : Nat) : Int))))] [] [] ?_
  refine q_sq ?_
  refine q_cn (decide (x18 < ((a1.Lengths.length : Nat) : Int))) (fun b19 => ?_) (fun b19 => ?_)
  ·replace hm := bif_t b19 hm
   refine q_sk ?_
   refine q_sq ?_
   refine q_bk 1 ?_
   refine q_sq ?_
   obtain ⟨g20, hm⟩ := bif_n hm
   refine q_vu [qd 1 (Dir.none) (inb_of g20)] 1 [73] [(5, vi x18), (6, vi (a1.Lengths.getD x18.toNat default))] [] [] ?_
   refine q_sq ?_
   refine q_jn (ι := Bool) (fun p => product_checkNumbers_k4_S a1 x18 p) (fun p => product_checkNumbers_k4 a1 x18 (product_checkNumbers_L3 a1 n) p = some res) ?_ ?_
   ·rintro x22 hm
    show H _ (product_checkNumbers_k4_S a1 x18 x22) _ _
    refine q_cn x22 (fun b23 => ?_) (fun b23 => ?_)
    ·replace hm := bif_t b23 hm
     refine q_sq ?_
     refine q_vn [] 1 ⟨[(2, vi 9)], []⟩ ?_
     obtain rfl := Option.some.inj hm
     refine q_rt ?_
     refine L1_ret 9 ?_
     exact q_rm
    ·replace hm := bif_f b23 hm
     refine q_sk ?_
     refine q_jn (ι := Bool) (fun p => product_checkNumbers_k5_S a1 x18 p) (fun p => product_checkNumbers_k5 x18 (product_checkNumbers_L3 a1 n) p = some res) ?_ ?_
     ·rintro x26 hm
      show H _ (product_checkNumbers_k5_S a1 x18 x26) _ _
      refine q_cn x26 (fun b27 => ?_) (fun b27 => ?_)
      ·replace hm := bif_t b27 hm
       refine q_sq ?_
       refine q_vn [] 1 ⟨[(2, vi 11)], []⟩ ?_
       obtain rfl := Option.some.inj hm
       refine q_rt ?_
       refine L1_ret 11 ?_
       exact q_rm
      ·replace hm := bif_f b27 hm
       refine q_sk ?_
       refine q_vu [] 1 [72, 94] [(72, vi (w64 (x18 + 1)))] [] [] ?_
       exact q_hl (product_checkNumbers_L3_S a1 (w64 (x18 + 1))) (ih (w64 (x18 + 1)) _ hm)
     ·rcases Bool.eq_false_or_eq_true (decide (x18 > 0)) with b24 | b24
      ·replace hm := bif_t b24 hm
       obtain ⟨g25, hm⟩ := bif_n hm
       refine q_vu [qf 2 b24, qd 8 (Dir.none) (inb_of g25)] 1 [5, 6, 82] [(86, vi (a1.Lengths.getD x18.toNat default)), (87, vp 0 5), (88, vc (tl e_i64 default a1.Lengths)), (89, vi x18), (90, vi (w64 (x18 - 1))), (91, vc (.lptr (e_i64 (a1.Lengths.getD (w64 (x18 - 1)).toNat default)))), (92, vi (a1.Lengths.getD (w64 (x18 - 1)).toNat default)), (93, vb (decide ((a1.Lengths.getD x18.toNat default) ≤ (a1.Lengths.getD (w64 (x18 - 1)).toNat default)))), (94, vb (decide ((a1.Lengths.getD x18.toNat default) ≤ (a1.Lengths.getD (w64 (x18 - 1)).toNat default))))] [] [] ?_
       exact q_J (decide ((a1.Lengths.getD x18.toNat default) ≤ (a1.Lengths.getD (w64 (x18 - 1)).toNat default))) hm
      ·replace hm := bif_f b24 hm
       refine q_vu [qf 2 b24] 1 [5, 6, 82] [(94, vb false)] [] [] ?_
       exact q_J (false) hm
   ·rcases Bool.eq_false_or_eq_true (decide ((a1.Lengths.getD x18.toNat default) < 100)) with b21 | b21
    ·replace hm := bif_t b21 hm
     refine q_vu [qf 2 b21] 1 [] [(82, vb true)] [] [] ?_
     exact q_J (true) hm
    ·replace hm := bif_f b21 hm
     refine q_vu [qf 2 b21] 1 [] [(80, vi (a1.Lengths.getD x18.toNat default)), (81, vb (decide ((a1.Lengths.getD x18.toNat default) > 20000))), (82, vb (decide ((a1.Lengths.getD x18.toNat default) > 20000)))] [] [] ?_
     exact q_J (decide ((a1.Lengths.getD x18.toNat default) > 20000)) hm
  ·replace hm := bif_f b19 hm
   refine q_ex 0 ?_
   obtain rfl := Option.some.inj hm
   exact L1_mk () (by kernel_rfl) (by kernel_rfl)

set_option maxRecDepth 100000 in
theorem product_checkNumbers_L6_ok (E : Env 0) (a1 : Product) : ∀ (n : Nat) (x32 : Int) (res : Int ⊕ Unit), product_checkNumbers_L6 a1 n x32 = some res → HL (kx E 110 0) (nd Tryd.f48 8180) (loopQ 2 (fun o => product_checkNumbers_L6_T) (fun v st => RetQ Tryd.prog Tryd.f48 (product_checkNumbers_x v) (product_checkNumbers_o v) .ret st) res) n (product_checkNumbers_L6_S a1 x32) := by
 intro n
 induction n with
 | zero =>
  intro x32 res hm
  cases hm
 | succ n ih =>
  intro x32 res hm
  refine HL_succ ?_
  refine q_sq ?_
  refine q_vu [] 1 [] [(100, vb (decide (x32 < ((a1.Prices.length : Nat) : Int))))] [] [] ?_
  refine q_sq ?_
  refine q_cn (decide (x32 < ((a1.Prices.length : Nat) : Int))) (fun b33 => ?_) (fun b33 => ?_)
  ·replace hm := bif_t b33 hm
   refine q_sk ?_
   refine q_sq ?_
   refine q_bk 3 ?_
   refine q_sq ?_
   obtain ⟨g34, hm⟩ := bif_n hm
   refine q_vu [qd 0 (Dir.none) (inb_of g34)] 1 [100] [(8, vi (a1.Prices.getD x32.toNat default))] [] [] ?_
   refine q_jn (ι := Bool) (fun p => product_checkNumbers_k7_S a1 x32 p) (fun p => product_checkNumbers_k7 x32 (product_checkNumbers_L6 a1 n) p = some res) ?_ ?_
   ·rintro x36 hm
    show H _ (product_checkNumbers_k7_S a1 x32 x36) _ _
    refine q_cn x36 (fun b37 => ?_) (fun b37 => ?_)
    ·replace hm := bif_t b37 hm
     refine q_sq ?_
     refine q_vn [] 1 ⟨[(2, vi 9)], []⟩ ?_
     obtain rfl := Option.some.inj hm
     refine q_rt ?_
     refine L1_ret 9 ?_
     exact q_rm
    ·replace hm := bif_f b37 hm
     refine q_sk ?_
     refine q_vu [] 1 [99, 108] [(99, vi (w64 (x32 + 1)))] [] [] ?_
     exact q_hl (product_checkNumbers_L6_S a1 (w64 (x32 + 1))) (ih (w64 (x32 + 1)) _ hm)
   ·rcases Bool.eq_false_or_eq_true (decide ((a1.Prices.getD x32.toNat default) < 0)) with b35 | b35
    ·replace hm := bif_t b35 hm
     refine q_vu [qf 2 b35] 1 [8] [(108, vb true)] [] [] ?_
     exact q_J (true) hm
    ·replace hm := bif_f b35 hm
     refine q_vu [qf 2 b35] 1 [8] [(106, vi (a1.Prices.getD x32.toNat default)), (107, vb (decide ((a1.Prices.getD x32.toNat default) > 1000000))), (108, vb (decide ((a1.Prices.getD x32.toNat default) > 1000000)))] [] [] ?_
     exact q_J (decide ((a1.Prices.getD x32.toNat default) > 1000000)) hm
  ·replace hm := bif_f b33 hm
   refine q_ex 2 ?_
   obtain rfl := Option.some.inj hm
   exact L1_mk () (by kernel_rfl) (by kernel_rfl)

set_option maxRecDepth 100000 in
theorem product_checkNumbers_ok (a1 : Product) (r : Int) (hm : product_checkNumbers a1 = some r) : CtX Tryd.prog globs 48 0 0 [.agg (e_Product a1)] [] (product_checkNumbers_x r) (product_checkNumbers_o r) := by
 unfold product_checkNumbers at hm
 refine q_E Tryd.f48 110 fun E => ?_
 refine q_sq ?_
 refine q_vn [] 0 ⟨[(1, vp 0 0)], [(0, bx 43 (e_Product a1))]⟩ ?_
 refine q_sq ?_
 refine q_jn (ι := Bool) (fun p => product_checkNumbers_k1_S a1 p) (fun p => product_checkNumbers_k1 a1 p = some r) ?_ ?_
 ·rintro x5 hm
  show H _ (product_checkNumbers_k1_S a1 x5) _ _
  refine q_cn x5 (fun b6 => ?_) (fun b6 => ?_)
  ·replace hm := bif_t b6 hm
   refine q_sq ?_
   refine q_vn [] 1 ⟨[(2, vi 9)], []⟩ ?_
   obtain rfl := Option.some.inj hm
   refine q_rt ?_
   exact q_rm
  ·replace hm := bif_f b6 hm
   refine q_sk ?_
   refine q_sq ?_
   refine q_jn (ι := Bool) (fun p => product_checkNumbers_k2_S a1 p) (fun p => product_checkNumbers_k2 a1 p = some r) ?_ ?_
   ·rintro x10 hm
    show H _ (product_checkNumbers_k2_S a1 x10) _ _
    refine q_cn x10 (fun b11 => ?_) (fun b11 => ?_)
    ·replace hm := bif_t b11 hm
     refine q_sq ?_
     refine q_vn [] 1 ⟨[(2, vi 9)], []⟩ ?_
     obtain rfl := Option.some.inj hm
     refine q_rt ?_
     exact q_rm
    ·replace hm := bif_f b11 hm
     refine q_sk ?_
     refine q_sq ?_
     refine q_sq ?_
     obtain ⟨v12, h13, hm⟩ := bind_s hm
     refine q_vu [qc 1 [48] 1 (product_Green_ok a1 v12 h13)] 1 [46] [(4, vi v12.2)] [] [] ?_
     refine q_sq ?_
     refine q_vu [] 1 [4] [(53, vb (decide (v12.2 > 600)))] [] [] ?_
     refine q_cn (decide (v12.2 > 600)) (fun b14 => ?_) (fun b14 => ?_)
     ·replace hm := bif_t b14 hm
      refine q_sq ?_
      refine q_vn [] 1 ⟨[(2, vi 9)], []⟩ ?_
      obtain rfl := Option.some.inj hm
      refine q_rt ?_
      exact q_rm
     ·replace hm := bif_f b14 hm
      refine q_sk ?_
      refine q_sq ?_
      refine q_sq ?_
      refine q_vu [] 1 [53] [(57, vb (((a1.Lengths.length : Nat) : Int) == 0))] [] [] ?_
      refine q_cn (((a1.Lengths.length : Nat) : Int) == 0) (fun b15 => ?_) (fun b15 => ?_)
      ·replace hm := bif_t b15 hm
       refine q_sq ?_
       refine q_vn [] 1 ⟨[(2, vi 3)], []⟩ ?_
       obtain rfl := Option.some.inj hm
       refine q_rt ?_
       exact q_rm
      ·replace hm := bif_f b15 hm
       refine q_sk ?_
       refine q_sq ?_
       refine q_sq ?_
       refine q_vu [] 1 [57] [(61, vb (decide (((a1.Lengths.length : Nat) : Int) > 8)))] [] [] ?_
       refine q_cn (decide (((a1.Lengths.length : Nat) : Int) > 8)) (fun b16 => ?_) (fun b16 => ?_)
       ·replace hm := bif_t b16 hm
        refine q_sq ?_
        refine q_vn [] 1 ⟨[(2, vi 4)], []⟩ ?_
        obtain rfl := Option.some.inj hm
        refine q_rt ?_
        exact q_rm
       ·replace hm := bif_f b16 hm
        refine q_sk ?_
        refine q_sq ?_
        refine q_sq ?_
        refine q_vu [] 1 [61] [(68, vb (((a1.Prices.length : Nat) : Int) != ((a1.Lengths.length : Nat) : Int)))] [] [] ?_
        refine q_cn (((a1.Prices.length : Nat) : Int) != ((a1.Lengths.length : Nat) : Int)) (fun b17 => ?_) (fun b17 => ?_)
        ·replace hm := bif_t b17 hm
         refine q_sq ?_
         refine q_vn [] 1 ⟨[(2, vi 19)], []⟩ ?_
         obtain rfl := Option.some.inj hm
         refine q_rt ?_
         exact q_rm
        ·replace hm := bif_f b17 hm
         refine q_sk ?_
         refine q_sq ?_
         refine q_sq ?_
         refine q_vu [] 1 [68] [(70, vc (tl e_i64 default a1.Lengths)), (71, vi ((a1.Lengths.length : Nat) : Int)), (72, vi 0)] [] [] ?_
         obtain ⟨u30, h29, hm⟩ := bind_s hm
         refine R_loop1 (nd Tryd.f48 4084) 0 (by kernel_rfl) FUEL (fun o => product_checkNumbers_L3_T a1) (fun v st => RetQ Tryd.prog Tryd.f48 (product_checkNumbers_x v) (product_checkNumbers_o v) .ret st) u30 (q_hl (product_checkNumbers_L3_S a1 0) (product_checkNumbers_L3_ok E a1 FUEL 0 u30 h29)) ?_ ?_
         ·rintro v31 rfl st hr
          obtain rfl := Option.some.inj hm
          exact hr
         ·rintro o28 rfl
          replace hm : _ = some r := hm
          refine q_sq ?_
          refine q_sq ?_
          refine q_vn [] 1 ⟨[(97, vc (tl e_i64 default a1.Prices)), (98, vi ((a1.Prices.length : Nat) : Int)), (99, vi 0)], []⟩ ?_
          obtain ⟨u40, h39, hm⟩ := bind_s hm
          refine R_loop1 (nd Tryd.f48 8180) 2 (by kernel_rfl) FUEL (fun o => product_checkNumbers_L6_T) (fun v st => RetQ Tryd.prog Tryd.f48 (product_checkNumbers_x v) (product_checkNumbers_o v) .ret st) u40 (q_hl (product_checkNumbers_L6_S a1 0) (product_checkNumbers_L6_ok E a1 FUEL 0 u40 h39)) ?_ ?_
          ·rintro v41 rfl st hr
           obtain rfl := Option.some.inj hm
           exact hr
          ·rintro o38 rfl
           replace hm : _ = some r := hm
           refine q_sq ?_
           refine q_vn [] 1 ⟨[(2, vi 0)], []⟩ ?_
           obtain rfl := Option.some.inj hm
           refine q_rt ?_
           exact q_rm
   ·rcases Bool.eq_false_or_eq_true (decide (a1.Allow < 0)) with b7 | b7
    ·replace hm := bif_t b7 hm
     refine q_vu [qf 3 b7] 1 [28] [(46, vb true)] [] [] ?_
     exact q_J (true) hm
    ·replace hm := bif_f b7 hm
     rcases Bool.eq_false_or_eq_true (decide (a1.Allow > 200)) with b8 | b8
     ·replace hm := bif_t b8 hm
      refine q_vu [qf 3 b7, qf 8 b8] 1 [28] [(46, vb true)] [] [] ?_
      exact q_J (true) hm
     ·replace hm := bif_f b8 hm
      rcases Bool.eq_false_or_eq_true (decide (a1.Wane < 0)) with b9 | b9
      ·replace hm := bif_t b9 hm
       refine q_vu [qf 3 b7, qf 8 b8, qf 13 b9] 1 [28] [(46, vb true)] [] [] ?_
       exact q_J (true) hm
      ·replace hm := bif_f b9 hm
       refine q_vu [qf 3 b7, qf 8 b8, qf 13 b9] 1 [28] [(46, vb (decide (a1.Wane > 1000)))] [] [] ?_
       exact q_J (decide (a1.Wane > 1000)) hm
 ·rcases Bool.eq_false_or_eq_true (decide (a1.Thick < 5)) with b2 | b2
  ·replace hm := bif_t b2 hm
   refine q_vu [qf 3 b2] 1 [] [(28, vb true)] [] [] ?_
   exact q_J (true) hm
  ·replace hm := bif_f b2 hm
   rcases Bool.eq_false_or_eq_true (decide (a1.Thick > 300)) with b3 | b3
   ·replace hm := bif_t b3 hm
    refine q_vu [qf 3 b2, qf 8 b3] 1 [] [(28, vb true)] [] [] ?_
    exact q_J (true) hm
   ·replace hm := bif_f b3 hm
    rcases Bool.eq_false_or_eq_true (decide (a1.Width < a1.Thick)) with b4 | b4
    ·replace hm := bif_t b4 hm
     refine q_vu [qf 3 b2, qf 8 b3, qf 15 b4] 1 [] [(28, vb true)] [] [] ?_
     exact q_J (true) hm
    ·replace hm := bif_f b4 hm
     refine q_vu [qf 3 b2, qf 8 b3, qf 15 b4] 1 [] [(28, vb (decide (a1.Width > 600)))] [] [] ?_
     exact q_J (decide (a1.Width > 600)) hm

end Saw
end Go.SL
