import Derived.Test.YtjobdnkaonbgnaaGreatEBase
import Derived.Test.YtjobdnkaonbgnaaGreatEFa9
import Derived.Test.YtjobdnkaonbgnaaGreatEFa8
set_option linter.unusedVariables false
set_option linter.unusedSimpArgs false
namespace Go.SL
namespace Saw
open Go.Proofs
set_option maxHeartbeats 4000000
set_option maxRecDepth 100000
def qLv (r : Span × Int × Bool) : V := .tup [.agg (e_Span r.1), .one (ci r.2.1), .one (cb r.2.2)]
def qLL (r : Span × Int × Bool) : List (Nat × (Nat × O)) := []
def qCi (a1 : List Slice) (a2 : List Defect) (a3 : Product) (a4 : Rect) (a5 : Int) (a6 : Int) (x19 : Int) (x26 : Int) (x38 : Int) (x39 : Bool) (x40 : Span) : St :=
 ⟨[(0, vc (tl qI default a1)), (1, vc (tl qH default a2)), (4, vi a5), (5, vi a6), (8, vp 0 0), (9, vp 1 0), (12, vp 2 0), (15, vp 3 0), (16, vi x38), (17, vb x39), (18, vi x19), (19, vi x26)], [(0, bx 62 (qA a3)), (1, bx 28 (qE a4)), (2, bx 26 [ci 0, ci 0]), (3, bx 26 (e_Span x40))]⟩
def qCr (a1 : List Slice) (a2 : List Defect) (a3 : Product) (a4 : Rect) (a5 : Int) (a6 : Int) (x19 : Int) (x24 : Int) (x25 : Bool) (x26 : Int) (x27 : Span) (v33 : Int) (x36 : Bool) : St :=
 ⟨[(0, vc (tl qI default a1)), (1, vc (tl qH default a2)), (4, vi a5), (5, vi a6), (8, vp 0 0), (9, vp 1 0), (12, vp 2 0), (15, vp 3 0), (16, vi x24), (17, vb x25), (18, vi x19), (19, vi x26), (20, vp 4 0), (21, vi v33), (84, vb x36)], [(0, bx 62 (qA a3)), (1, bx 28 (qE a4)), (2, bx 26 [ci 0, ci 0]), (3, bx 26 (e_Span x27)), (4, bx 67 [ci a4.X.A, ci a4.X.B, ci a4.Y.A, ci a4.Y.B, ci x19, ci (w64 (x19 + (a3.Lengths.getD x26.toNat default)))])]⟩
def SE (a1 : List Slice) (a2 : List Defect) (a3 : Product) (a4 : Rect) (a5 : Int) (a6 : Int) (x19 : Int) (x24 : Int) (x25 : Bool) (x26 : Int) (x27 : Span) : St :=
 ⟨[(0, vc (tl qI default a1)), (1, vc (tl qH default a2)), (4, vi a5), (5, vi a6), (8, vp 0 0), (9, vp 1 0), (12, vp 2 0), (15, vp 3 0), (16, vi x24), (17, vb x25), (18, vi x19), (19, vi x26)], [(0, bx 62 (qA a3)), (1, bx 28 (qE a4)), (2, bx 26 [ci 0, ci 0]), (3, bx 26 (e_Span x27))]⟩
def qB4 (a1 : List Slice) (a2 : List Defect) (a3 : Product) (a4 : Rect) (a5 : Int) (a6 : Int) (x19 : Int) (x41 : Int) (x42 : Bool) (x43 : Span) : St :=
 ⟨[(0, vc (tl qI default a1)), (1, vc (tl qH default a2)), (4, vi a5), (5, vi a6), (8, vp 0 0), (9, vp 1 0), (12, vp 2 0), (15, vp 3 0), (16, vi x41), (17, vb x42), (18, vi x19)], [(0, bx 62 (qA a3)), (1, bx 28 (qE a4)), (2, bx 26 [ci 0, ci 0]), (3, bx 26 (e_Span x43))]⟩
def EL (a1 : List Slice) (a2 : List Defect) (a3 : Product) (a4 : Rect) (a5 : Int) (a6 : Int) (x17 : Int) (x18 : Bool) (x19 : Int) (x20 : Span) : St :=
 ⟨[(0, vc (tl qI default a1)), (1, vc (tl qH default a2)), (4, vi a5), (5, vi a6), (8, vp 0 0), (9, vp 1 0), (12, vp 2 0), (15, vp 3 0), (16, vi x17), (17, vb x18), (18, vi x19)], [(0, bx 62 (qA a3)), (1, bx 28 (qE a4)), (2, bx 26 [ci 0, ci 0]), (3, bx 26 (e_Span x20))]⟩
def qCs (x46 : Int) (x47 : Bool) (x48 : Span) : St :=
 ⟨[(12, vp 2 0), (15, vp 3 0), (16, vi x46), (17, vb x47)], [(2, bx 26 [ci 0, ci 0]), (3, bx 26 (e_Span x48))]⟩
def qCj (a1 : List Slice) (a2 : List Defect) (a3 : Product) (a4 : Rect) (a5 : Int) (a6 : Int) (x15 : Bool) : St :=
 ⟨[(0, vc (tl qI default a1)), (1, vc (tl qH default a2)), (4, vi a5), (5, vi a6), (8, vp 0 0), (9, vp 1 0), (12, vp 2 0), (36, vb x15)], [(0, bx 62 (qA a3)), (1, bx 28 (qE a4)), (2, bx 26 [ci 0, ci 0])]⟩
theorem qGI (E : Env 0) (a1 : List Slice) (a2 : List Defect) (a3 : Product) (a4 : Rect) (a5 : Int) (a6 : Int) (x19 : Int) : ∀ (n : Nat) (x24 : Int) (x25 : Bool) (x26 : Int) (x27 : Span) (res : Int × Bool × Span), jC a1 a2 a3 a4 a6 x19 n x24 x25 x26 x27 = some res → HL (kx E 91 0) (nd Tryz.f20 15652) (wE 2 (fun o => qB4 a1 a2 a3 a4 a5 a6 x19 o.1 o.2.1 o.2.2) res) n (SE a1 a2 a3 a4 a5 a6 x19 x24 x25 x26 x27) := by
 intro n
 induction n with
 | zero =>
  intro x24 x25 x26 x27 res hm
  cases hm
 | succ n ih =>
  intro x24 x25 x26 x27 res hm
  refine qR ?_
  refine q_sq ?_
  refine q_sq ?_
  refine q_vu [] 4 [] [(50, vb (decide (x26 < ((a3.Lengths.length : Nat) : Int))))] [] [] ?_
  refine q_cn (decide (x26 < ((a3.Lengths.length : Nat) : Int))) (fun b28 => ?_) (fun b28 => ?_)
  ·replace hm := qC b28 hm
   refine q_sk ?_
   refine q_jn (ι := Int × Bool × Span) (fun p => qCi a1 a2 a3 a4 a5 a6 x19 x26 p.1 p.2.1 p.2.2) (fun p => JA x26 (jC a1 a2 a3 a4 a6 x19 n) p.1 p.2.1 p.2.2 = some res) ?_ ?_
   ·rintro ⟨x38, x39, x40⟩ hm
    show H _ (qCi a1 a2 a3 a4 a5 a6 x19 x26 x38 x39 x40) _ _
    refine q_vu [] 5 [19] [(19, vi (w64 (x26 + 1)))] [] [] ?_
    exact q_hl (SE a1 a2 a3 a4 a5 a6 x19 x38 x39 (w64 (x26 + 1)) x40) (ih x38 x39 (w64 (x26 + 1)) x40 _ hm)
   ·refine q_bk 3 ?_
    refine q_sq ?_
    obtain ⟨g29, hm⟩ := qL hm
    refine q_du [qd 9 (Dir.none) (inb_of g29)] [0, 1, 0, 4, 0, 0, 0, 64, 0, 448, 960, 2016, 4080, 8191, 0, 32767] 4 [50] [(20, vp 4 0)] [] [(4, bx 67 [ci a4.X.A, ci a4.X.B, ci a4.Y.A, ci a4.Y.B, ci x19, ci (w64 (x19 + (a3.Lengths.getD x26.toNat default)))])] ?_
    refine q_sq ?_
    refine q_sq ?_
    obtain ⟨v30, h31, hm⟩ := qD hm
    refine q_vu [qc 4 [67, 68, 69, 70] 5 (qHh a1 a2 a3 (Box.mk a4.X a4.Y (Span.mk x19 (w64 (x19 + (a3.Lengths.getD x26.toNat default))))) v30 h31)] 5 [] [(72, vb (!v30))] [] [] ?_
    refine q_cn (!v30) (fun b32 => ?_) (fun b32 => ?_)
    ·replace hm := qC b32 hm
     refine q_ex 3 ?_
     exact q_J (x24, x25, x27) hm
    ·replace hm := qB b32 hm
     refine q_sk ?_
     refine q_sq ?_
     obtain ⟨v33, h34, hm⟩ := qD hm
     refine q_vu [qc 4 [73, 74, 75, 76] 5 (qIS a2 a3 (Box.mk a4.X a4.Y (Span.mk x19 (w64 (x19 + (a3.Lengths.getD x26.toNat default))))) a6 v33 h34)] 5 [72] [(21, vi v33)] [] [] ?_
     refine q_jn (ι := Bool) (fun p => qCr a1 a2 a3 a4 a5 a6 x19 x24 x25 x26 x27 v33 p) (fun p => LV a3 x19 x24 x25 x26 x27 (jC a1 a2 a3 a4 a6 x19 n) v33 p = some res) ?_ ?_
     ·rintro x36 hm
      show H _ (qCr a1 a2 a3 a4 a5 a6 x19 x24 x25 x26 x27 v33 x36) _ _
      refine q_cn x36 (fun b37 => ?_) (fun b37 => ?_)
      ·replace hm := qC b37 hm
       refine q_vu [] 5 [16, 17, 20, 21, 84] [(16, vi v33), (17, vb true)] [3, 4] [(3, bx 26 [ci x19, ci (w64 (x19 + (a3.Lengths.getD x26.toNat default)))])] ?_
       exact q_J (v33, true, (Span.mk x19 (w64 (x19 + (a3.Lengths.getD x26.toNat default))))) hm
      ·replace hm := qB b37 hm
       refine q_sk ?_
       exact q_J (x24, x25, x27) hm
     ·rcases Bool.eq_false_or_eq_true (!x25) with b35 | b35
      ·replace hm := qC b35 hm
       refine q_vu [qf 2 b35] 5 [] [(84, vb true)] [] [] ?_
       exact q_J (true) hm
      ·replace hm := qB b35 hm
       refine q_vu [qf 2 b35] 5 [] [(84, vb (decide (v33 > x24)))] [] [] ?_
       exact q_J (decide (v33 > x24)) hm
  ·replace hm := qB b28 hm
   refine q_ex 2 ?_
   obtain rfl := Option.some.inj hm
   exact jL (by kernel_rfl) (by kernel_rfl)
theorem qGy (E : Env 0) (a1 : List Slice) (a2 : List Defect) (a3 : Product) (a4 : Rect) (a5 : Int) (a6 : Int) : ∀ (n : Nat) (x17 : Int) (x18 : Bool) (x19 : Int) (x20 : Span) (res : Int × Bool × Span), XO a1 a2 a3 a4 a5 a6 n x17 x18 x19 x20 = some res → HL (kx E 91 0) (nd Tryz.f20 244) (wE 0 (fun o => qCs o.1 o.2.1 o.2.2) res) n (EL a1 a2 a3 a4 a5 a6 x17 x18 x19 x20) := by
 intro n
 induction n with
 | zero =>
  intro x17 x18 x19 x20 res hm
  cases hm
 | succ n ih =>
  intro x17 x18 x19 x20 res hm
  refine qR ?_
  refine q_sq ?_
  refine q_sq ?_
  obtain ⟨v21, h22, hm⟩ := qD hm
  refine q_vu [qc 2 [40] 4 (qB6 a1 v21 h22)] 4 [] [(42, vb (decide (x19 < v21)))] [] [] ?_
  refine q_cn (decide (x19 < v21)) (fun b23 => ?_) (fun b23 => ?_)
  ·replace hm := qC b23 hm
   refine q_sk ?_
   refine q_sq ?_
   refine q_bk 1 ?_
   refine q_sq ?_
   refine q_vu [] 4 [42] [(19, vi 0)] [] [] ?_
   obtain ⟨o44, h45, hm⟩ := qD hm
   refine zX (nd Tryz.f20 15652) 2 (by kernel_rfl) FUEL (fun o => qB4 a1 a2 a3 a4 a5 a6 x19 o.1 o.2.1 o.2.2) o44 (q_hl (SE a1 a2 a3 a4 a5 a6 x19 x17 x18 0 x20) (qGI E a1 a2 a3 a4 a5 a6 x19 FUEL x17 x18 0 x20 o44 h45)) ?_
   refine q_vu [] 4 [18] [(18, vi (w64 (x19 + a5)))] [] [] ?_
   exact q_hl (EL a1 a2 a3 a4 a5 a6 o44.1 o44.2.1 (w64 (x19 + a5)) o44.2.2) (ih o44.1 o44.2.1 (w64 (x19 + a5)) o44.2.2 _ hm)
  ·replace hm := qB b23 hm
   refine q_ex 0 ?_
   obtain rfl := Option.some.inj hm
   exact jL (by kernel_rfl) (by kernel_rfl)
theorem qLc (a1 : List Slice) (a2 : List Defect) (a3 : Product) (a4 : Rect) (a5 : Int) (a6 : Int) (r : Span × Int × Bool) (hm : SM a1 a2 a3 a4 a5 a6 = some r) : CtX Tryz.prog globs 20 0 0 [.one (tl qI default a1), .one (tl qH default a2), .agg (qA a3), .agg (qE a4), .one (ci a5), .one (ci a6)] [] (qLv r) (qLL r) := by
 unfold SM at hm
 refine q_E Tryz.f20 91 fun E => ?_
 refine q_sq ?_
 refine q_vn [] 0 ⟨[(0, vc (tl qI default a1)), (1, vc (tl qH default a2)), (4, vi a5), (5, vi a6), (8, vp 0 0), (9, vp 1 0), (12, vp 2 0)], [(0, bx 62 (qA a3)), (1, bx 28 (qE a4)), (2, bx 26 [ci 0, ci 0])]⟩ ?_
 refine q_sq ?_
 refine q_jn (ι := Bool) (fun p => qCj a1 a2 a3 a4 a5 a6 p) (fun p => UR a1 a2 a3 a4 a5 a6 p = some r) ?_ ?_
 ·rintro x15 hm
  show H _ (qCj a1 a2 a3 a4 a5 a6 x15) _ _
  refine q_cn x15 (fun b16 => ?_) (fun b16 => ?_)
  ·replace hm := qC b16 hm
   refine q_sq ?_
   refine q_vu [] 3 [0, 1, 4, 5, 8, 9, 36] [(13, vi 0), (14, vb false)] [0, 1] [] ?_
   obtain rfl := Option.some.inj hm
   refine q_rt ?_
   exact q_rm
  ·replace hm := qB b16 hm
   refine q_sk ?_
   refine q_sq ?_
   refine q_vu [] 3 [36] [(15, vp 3 0), (16, vi 0), (17, vb false)] [] [(3, bx 26 [ci 0, ci 0])] ?_
   refine q_sq ?_
   refine q_sq ?_
   refine q_vu [] 4 [] [(18, vi 0)] [] [] ?_
   obtain ⟨o49, h50, hm⟩ := qD hm
   refine zX (nd Tryz.f20 244) 0 (by kernel_rfl) FUEL (fun o => qCs o.1 o.2.1 o.2.2) o49 (q_hl (EL a1 a2 a3 a4 a5 a6 0 false 0 (Span.mk 0 0)) (qGy E a1 a2 a3 a4 a5 a6 FUEL 0 false 0 (Span.mk 0 0) o49 h50)) ?_
   refine q_sq ?_
   refine q_vn [] 4 ⟨[(12, vp 2 0), (13, vi o49.1), (14, vb o49.2.1)], [(2, bx 26 (e_Span o49.2.2))]⟩ ?_
   obtain rfl := Option.some.inj hm
   refine q_rt ?_
   exact q_rm
 ·obtain ⟨v7, h8, hm⟩ := qD hm
  rcases Bool.eq_false_or_eq_true (!v7) with b9 | b9
  ·replace hm := qC b9 hm
   refine q_vu [qk 1 [22] 3 ⟨[(22, vi a5)], []⟩ (zC a5 1 20000 v7 h8), qf 3 b9] 3 [] [(36, vb true)] [] [] ?_
   exact q_J (true) hm
  ·replace hm := qB b9 hm
   obtain ⟨v10, h11, hm⟩ := qD hm
   rcases Bool.eq_false_or_eq_true (!v10) with b12 | b12
   ·replace hm := qC b12 hm
    refine q_vu [qk 1 [22] 3 ⟨[(22, vi a5)], []⟩ (zC a5 1 20000 v7 h8), qf 3 b9, qk 5 [25, 26] 3 ⟨[(25, vb false), (26, vi a6)], []⟩ (zC a6 0 1000000 v10 h11), qf 8 b12] 3 [] [(36, vb true)] [] [] ?_
    exact q_J (true) hm
   ·replace hm := qB b12 hm
    obtain ⟨v13, h14, hm⟩ := qD hm
    refine q_vu [qk 1 [22] 3 ⟨[(22, vi a5)], []⟩ (zC a5 1 20000 v7 h8), qf 3 b9, qk 5 [25, 26] 3 ⟨[(25, vb false), (26, vi a6)], []⟩ (zC a6 0 1000000 v10 h11), qf 8 b12, qk 12 [30, 31, 32, 33] 3 ⟨[(30, vb false), (31, vc (tl qI default a1)), (32, vc (tl qH default a2)), (33, va (qA a3))], []⟩ (qIX a1 a2 a3 v13 h14)] 3 [] [(36, vb (!v13))] [] [] ?_
    exact q_J (!v13) hm
def qK8 (r : Int) : V := vi r
def qK4 (r : Int) : List (Nat × (Nat × O)) := []
def qBD (x24 : Bool) : St :=
 ⟨[(42, vb x24)], []⟩
def qBp (a2 : Rates) (x14 : Bool) : St :=
 ⟨[(3, vp 1 0), (26, vb x14)], [(1, bx 35 (yP a2))]⟩
theorem qJw (a1 : Saw) (a2 : Rates) (r : Int) (hm : LL a1 a2 = some r) : CtX Tryz.prog globs 38 0 0 [.agg (wC a1), .agg (yP a2)] [] (qK8 r) (qK4 r) := by
 unfold LL at hm
 refine q_E Tryz.f38 43 fun E => ?_
 refine q_sq ?_
 refine q_vn [] 0 ⟨[(2, vp 0 0), (3, vp 1 0)], [(0, bx 33 (wC a1)), (1, bx 35 (yP a2))]⟩ ?_
 refine q_sq ?_
 refine q_jn (ι := Bool) (fun p => qBp a2 p) (fun p => JV a2 p = some r) ?_ ?_
 ·rintro x14 hm
  show H _ (qBp a2 x14) _ _
  refine q_cn x14 (fun b15 => ?_) (fun b15 => ?_)
  ·replace hm := qC b15 hm
   refine q_sq ?_
   refine q_vn [] 2 ⟨[(4, vi 9)], []⟩ ?_
   obtain rfl := Option.some.inj hm
   refine q_rt ?_
   exact q_rm
  ·replace hm := qB b15 hm
   refine q_sk ?_
   refine q_sq ?_
   refine q_jn (ι := Bool) (fun p => qBD p) (fun p => PR p = some r) ?_ ?_
   ·rintro x24 hm
    show H _ (qBD x24) _ _
    refine q_cn x24 (fun b25 => ?_) (fun b25 => ?_)
    ·replace hm := qC b25 hm
     refine q_sq ?_
     refine q_vn [] 2 ⟨[(4, vi 9)], []⟩ ?_
     obtain rfl := Option.some.inj hm
     refine q_rt ?_
     exact q_rm
    ·replace hm := qB b25 hm
     refine q_sk ?_
     refine q_sq ?_
     refine q_vn [] 2 ⟨[(4, vi 0)], []⟩ ?_
     obtain rfl := Option.some.inj hm
     refine q_rt ?_
     exact q_rm
   ·obtain ⟨v16, h17, hm⟩ := qD hm
    rcases Bool.eq_false_or_eq_true (!v16) with b18 | b18
    ·replace hm := qC b18 hm
     refine q_vn [qk 2 [28] 2 ⟨[(28, vi a2.Chip)], []⟩ (zC a2.Chip 0 1000 v16 h17), qf 4 b18] 2 ⟨[(42, vb true)], []⟩ ?_
     exact q_J (true) hm
    ·replace hm := qB b18 hm
     obtain ⟨v19, h20, hm⟩ := qD hm
     rcases Bool.eq_false_or_eq_true (!v19) with b21 | b21
     ·replace hm := qC b21 hm
      refine q_vn [qk 2 [28] 2 ⟨[(28, vi a2.Chip)], []⟩ (zC a2.Chip 0 1000 v16 h17), qf 4 b18, qk 7 [31, 33] 2 ⟨[(31, vb false), (33, vi a2.Dust)], []⟩ (zC a2.Dust 0 1000 v19 h20), qf 10 b21] 2 ⟨[(42, vb true)], []⟩ ?_
      exact q_J (true) hm
     ·replace hm := qB b21 hm
      obtain ⟨v22, h23, hm⟩ := qD hm
      refine q_vn [qk 2 [28] 2 ⟨[(28, vi a2.Chip)], []⟩ (zC a2.Chip 0 1000 v16 h17), qf 4 b18, qk 7 [31, 33] 2 ⟨[(31, vb false), (33, vi a2.Dust)], []⟩ (zC a2.Dust 0 1000 v19 h20), qf 10 b21, qk 13 [37, 39] 2 ⟨[(37, vb false), (39, vi a2.Fine)], []⟩ (zC a2.Fine 0 1000000 v22 h23)] 2 ⟨[(42, vb (!v22))], []⟩ ?_
      exact q_J (!v22) hm
 ·obtain ⟨v3, h4, hm⟩ := qD hm
  rcases Bool.eq_false_or_eq_true (!v3) with b5 | b5
  ·replace hm := qC b5 hm
   refine q_vu [qk 2 [6] 2 ⟨[(6, vi a1.Kerf)], []⟩ (zC a1.Kerf 0 20 v3 h4), qf 4 b5] 2 [2] [(26, vb true)] [0] [] ?_
   exact q_J (true) hm
  ·replace hm := qB b5 hm
   obtain ⟨v6, h7, hm⟩ := qD hm
   rcases Bool.eq_false_or_eq_true (!v6) with b8 | b8
   ·replace hm := qC b8 hm
    refine q_vu [qk 2 [6] 2 ⟨[(6, vi a1.Kerf)], []⟩ (zC a1.Kerf 0 20 v3 h4), qf 4 b5, qk 7 [9, 11] 2 ⟨[(9, vb false), (11, vi a1.Trim)], []⟩ (zC a1.Trim 0 20 v6 h7), qf 10 b8] 2 [2] [(26, vb true)] [0] [] ?_
    exact q_J (true) hm
   ·replace hm := qB b8 hm
    obtain ⟨v9, h10, hm⟩ := qD hm
    rcases Bool.eq_false_or_eq_true (!v9) with b11 | b11
    ·replace hm := qC b11 hm
     refine q_vu [qk 2 [6] 2 ⟨[(6, vi a1.Kerf)], []⟩ (zC a1.Kerf 0 20 v3 h4), qf 4 b5, qk 7 [9, 11] 2 ⟨[(9, vb false), (11, vi a1.Trim)], []⟩ (zC a1.Trim 0 20 v6 h7), qf 10 b8, qk 13 [15, 17] 2 ⟨[(15, vb false), (17, vi a1.Pitch)], []⟩ (zC a1.Pitch 1 2000 v9 h10), qf 16 b11] 2 [2] [(26, vb true)] [0] [] ?_
     exact q_J (true) hm
    ·replace hm := qB b11 hm
     obtain ⟨v12, h13, hm⟩ := qD hm
     refine q_vu [qk 2 [6] 2 ⟨[(6, vi a1.Kerf)], []⟩ (zC a1.Kerf 0 20 v3 h4), qf 4 b5, qk 7 [9, 11] 2 ⟨[(9, vb false), (11, vi a1.Trim)], []⟩ (zC a1.Trim 0 20 v6 h7), qf 10 b8, qk 13 [15, 17] 2 ⟨[(15, vb false), (17, vi a1.Pitch)], []⟩ (zC a1.Pitch 1 2000 v9 h10), qf 16 b11, qk 19 [21, 23] 2 ⟨[(21, vb false), (23, vi a1.Step)], []⟩ (zC a1.Step 1 20000 v12 h13)] 2 [2] [(26, vb (!v12))] [0] [] ?_
     exact q_J (!v12) hm
set_option maxRecDepth 100000
def qIV (r : Bool) : V := vb r
def qIz (r : Bool) : List (Nat × (Nat × O)) := []
def CM (x7 : Bool) : St :=
 ⟨[(2, vb x7)], []⟩
theorem qHe (a1 : Rect) (r : Bool) (hm : BD a1 = some r) : CtX Tryz.prog globs 75 0 0 [.agg (qE a1)] [] (qIV r) (qIz r) := by
 unfold BD at hm
 refine q_E Tryz.f75 43 fun E => ?_
 refine q_sq ?_
 refine q_vn [] 0 ⟨[(1, vp 0 0)], [(0, bx 28 (qE a1))]⟩ ?_
 refine q_jn (ι := Bool) (fun p => CM p) (fun p => yM p = some r) ?_ ?_
 ·rintro x7 hm
  show H _ (CM x7) _ _
  obtain rfl := Option.some.inj hm
  refine q_rt ?_
  exact q_rm
 ·rcases Bool.eq_false_or_eq_true (decide (a1.X.A < a1.X.B)) with b2 | b2
  ·replace hm := qC b2 hm
   rcases Bool.eq_false_or_eq_true (decide (a1.Y.A < a1.Y.B)) with b3 | b3
   ·replace hm := qC b3 hm
    rcases Bool.eq_false_or_eq_true (decide (a1.X.A ≥ (-600))) with b4 | b4
    ·replace hm := qC b4 hm
     rcases Bool.eq_false_or_eq_true (decide (a1.X.B ≤ 600)) with b5 | b5
     ·replace hm := qC b5 hm
      rcases Bool.eq_false_or_eq_true (decide (a1.Y.A ≥ (-600))) with b6 | b6
      ·replace hm := qC b6 hm
       refine q_vn [qf 7 b2, qf 16 b3, qf 22 b4, qf 28 b5, qf 34 b6] 1 ⟨[(2, vb (decide (a1.Y.B ≤ 600)))], []⟩ ?_
       exact q_J (decide (a1.Y.B ≤ 600)) hm
      ·replace hm := qB b6 hm
       refine q_vn [qf 7 b2, qf 16 b3, qf 22 b4, qf 28 b5, qf 34 b6] 1 ⟨[(2, vb false)], []⟩ ?_
       exact q_J (false) hm
     ·replace hm := qB b5 hm
      refine q_vn [qf 7 b2, qf 16 b3, qf 22 b4, qf 28 b5] 1 ⟨[(2, vb false)], []⟩ ?_
      exact q_J (false) hm
    ·replace hm := qB b4 hm
     refine q_vn [qf 7 b2, qf 16 b3, qf 22 b4] 1 ⟨[(2, vb false)], []⟩ ?_
     exact q_J (false) hm
   ·replace hm := qB b3 hm
    refine q_vn [qf 7 b2, qf 16 b3] 1 ⟨[(2, vb false)], []⟩ ?_
    exact q_J (false) hm
  ·replace hm := qB b2 hm
   refine q_vn [qf 7 b2] 1 ⟨[(2, vb false)], []⟩ ?_
   exact q_J (false) hm
open Go.Proofs
set_option maxHeartbeats 4000000
set_option maxRecDepth 100000
def SF (a1 : Node) (a2 : Rect) (a3 : List Node) (a4 : List Product) (a5 : Bool) (a6 : Int) (a7 : Int) (a8 : List Leaf) (r : Int) : V := vi r
def SR (a1 : Node) (a2 : Rect) (a3 : List Node) (a4 : List Product) (a5 : Bool) (a6 : Int) (a7 : Int) (a8 : List Leaf) (r : Int) : List (Nat × (Nat × O)) := [(0, bx 143 [tl qJ default a3, tl qA default a4, cb a5, ci a6, ci a7, .own 1 0 5 a8.length, .emp]), (1, ro 0 78 5 a8.length (rf qF a8))]
def NS (a3 : List Node) (a4 : List Product) (a5 : Bool) (a6 : Int) (a7 : Int) (a8 : List Leaf) (x11 : Bool) : St :=
 ⟨[(23, vb x11)], [(0, bx 143 [tl qJ default a3, tl qA default a4, cb a5, ci a6, ci a7, .own 1 0 5 a8.length, .emp]), (1, ro 0 78 5 a8.length (rf qF a8))]⟩
def NP (a3 : List Node) (a4 : List Product) (a5 : Bool) (a6 : Int) (a7 : Int) (a8 : List Leaf) (x23 : Bool) : St :=
 ⟨[(80, vb x23)], [(0, bx 143 [tl qJ default a3, tl qA default a4, cb a5, ci a6, ci a7, .own 1 0 5 a8.length, .emp]), (1, ro 0 78 5 a8.length (rf qF a8))]⟩
def NU (a1 : Node) (a2 : Rect) (a3 : List Node) (a4 : List Product) (a5 : Bool) (a6 : Int) (a7 : Int) (a8 : List Leaf) (x14 : Bool) : St :=
 ⟨[(0, vp 0 0), (4, vp 2 0), (5, vp 3 0), (36, vb x14)], [(0, bx 143 [tl qJ default a3, tl qA default a4, cb a5, ci a6, ci a7, .own 1 0 5 a8.length, .emp]), (1, ro 0 78 5 a8.length (rf qF a8)), (2, bx 65 (qJ a1)), (3, bx 28 (qE a2))]⟩
theorem qDg (a1 : Node) (a2 : Rect) (a3 : List Node) (a4 : List Product) (a5 : Bool) (a6 : Int) (a7 : Int) (a8 : List Leaf) (r : Int) (hm : WH a1 a2 a3 a4 a5 a6 a7 a8 = some r) : CtX Tryz.prog globs 115 2 1 [.one (.bptr 0 0 0), .agg (qJ a1), .agg (qE a2)] [(0, bx 143 [tl qJ default a3, tl qA default a4, cb a5, ci a6, ci a7, .own 1 0 5 a8.length, .emp]), (1, ro 0 78 5 a8.length (rf qF a8))] (SF a1 a2 a3 a4 a5 a6 a7 a8 r) (SR a1 a2 a3 a4 a5 a6 a7 a8 r) := by
 unfold WH at hm
 refine q_E Tryz.f115 81 fun E => ?_
 refine q_sq ?_
 refine q_vn [] 2 ⟨[(0, vp 0 0), (4, vp 2 0), (5, vp 3 0)], [(0, bx 143 [tl qJ default a3, tl qA default a4, cb a5, ci a6, ci a7, .own 1 0 5 a8.length, .emp]), (1, ro 0 78 5 a8.length (rf qF a8)), (2, bx 65 (qJ a1)), (3, bx 28 (qE a2))]⟩ ?_
 refine q_sq ?_
 refine q_sq ?_
 refine q_vu [] 4 [] [(15, vb (!a5))] [] [] ?_
 refine q_cn (!a5) (fun b9 => ?_) (fun b9 => ?_)
 ·replace hm := qC b9 hm
  refine q_sq ?_
  refine q_jn (ι := Bool) (fun p => NS a3 a4 a5 a6 a7 a8 p) (fun p => RQ p = some r) ?_ ?_
  ·rintro x11 hm
   show H _ (NS a3 a4 a5 a6 a7 a8 x11) _ _
   refine q_cn x11 (fun b12 => ?_) (fun b12 => ?_)
   ·replace hm := qC b12 hm
    refine q_sq ?_
    refine q_vu [] 4 [23] [(6, vi 8)] [] [] ?_
    obtain rfl := Option.some.inj hm
    refine q_rt ?_
    exact q_rm
   ·replace hm := qB b12 hm
    refine q_sk ?_
    refine q_sq ?_
    refine q_vu [] 4 [23] [(6, vi 0)] [] [] ?_
    obtain rfl := Option.some.inj hm
    refine q_rt ?_
    exact q_rm
  ·rcases Bool.eq_false_or_eq_true (decide (a1.At < 0)) with b10 | b10
   ·replace hm := qC b10 hm
    refine q_vu [qf 3 b10] 4 [0, 4, 5, 15] [(23, vb true)] [2, 3] [] ?_
    exact q_J (true) hm
   ·replace hm := qB b10 hm
    refine q_vu [qf 3 b10] 4 [0, 4, 5, 15] [(23, vb (decide (a1.At ≥ 16)))] [2, 3] [] ?_
    exact q_J (decide (a1.At ≥ 16)) hm
 ·replace hm := qB b9 hm
  refine q_sk ?_
  refine q_sq ?_
  refine q_jn (ι := Bool) (fun p => NU a1 a2 a3 a4 a5 a6 a7 a8 p) (fun p => PN a1 a2 a4 p = some r) ?_ ?_
  ·rintro x14 hm
   show H _ (NU a1 a2 a3 a4 a5 a6 a7 a8 x14) _ _
   refine q_cn x14 (fun b15 => ?_) (fun b15 => ?_)
   ·replace hm := qC b15 hm
    refine q_sq ?_
    refine q_vu [] 4 [0, 4, 5, 36] [(6, vi 8)] [2, 3] [] ?_
    obtain rfl := Option.some.inj hm
    refine q_rt ?_
    exact q_rm
   ·replace hm := qB b15 hm
    refine q_sk ?_
    refine q_sq ?_
    obtain ⟨g16, hm⟩ := qL hm
    obtain ⟨v17, h18, hm⟩ := qD hm
    refine q_du [qd 6 (Dir.none) (inb_of g16), qc 8 [45] 4 (NA (a4.getD a1.At.toNat default) v17 h18)] [0, 1, 3, 7, 0, 16, 63, 127, 255, 511, 1023, 1023, 2047, 8191] 4 [0, 4, 36] [(7, vi v17.1), (8, vi v17.2)] [2] [] ?_
    refine q_sq ?_
    refine q_du [] [0, 1, 3, 0, 8, 24, 63, 0, 128, 384, 0, 1024, 3072, 8064, 127, 32767] 4 [5] [(9, vi (w64 (a2.X.B - a2.X.A))), (10, vi (w64 (a2.Y.B - a2.Y.A)))] [3] [] ?_
    refine q_sq ?_
    refine q_jn (ι := Bool) (fun p => NP a3 a4 a5 a6 a7 a8 p) (fun p => jN p = some r) ?_ ?_
    ·rintro x23 hm
     show H _ (NP a3 a4 a5 a6 a7 a8 x23) _ _
     refine q_cn x23 (fun b24 => ?_) (fun b24 => ?_)
     ·replace hm := qC b24 hm
      refine q_sq ?_
      refine q_vu [] 4 [80] [(6, vi 0)] [] [] ?_
      obtain rfl := Option.some.inj hm
      refine q_rt ?_
      exact q_rm
     ·replace hm := qB b24 hm
      refine q_sk ?_
      refine q_sq ?_
      refine q_vu [] 4 [80] [(6, vi 20)] [] [] ?_
      obtain rfl := Option.some.inj hm
      refine q_rt ?_
      exact q_rm
    ·rcases Bool.eq_false_or_eq_true ((w64 (a2.X.B - a2.X.A)) == v17.1) with b19 | b19
     ·replace hm := qC b19 hm
      rcases Bool.eq_false_or_eq_true ((w64 (a2.Y.B - a2.Y.A)) == v17.2) with b20 | b20
      ·replace hm := qC b20 hm
       refine q_vu [qf 3 b19, qf 8 b20] 4 [7, 8, 9, 10] [(80, vb true)] [] [] ?_
       exact q_J (true) hm
      ·replace hm := qB b20 hm
       rcases Bool.eq_false_or_eq_true ((w64 (a2.X.B - a2.X.A)) == v17.2) with b21 | b21
       ·replace hm := qC b21 hm
        refine q_vu [qf 3 b19, qf 8 b20, qf 12 b21] 4 [7, 8, 9, 10] [(80, vb ((w64 (a2.Y.B - a2.Y.A)) == v17.1))] [] [] ?_
        exact q_J ((w64 (a2.Y.B - a2.Y.A)) == v17.1) hm
       ·replace hm := qB b21 hm
        refine q_vu [qf 3 b19, qf 8 b20, qf 12 b21] 4 [7, 8, 9, 10] [(80, vb false)] [] [] ?_
        exact q_J (false) hm
     ·replace hm := qB b19 hm
      rcases Bool.eq_false_or_eq_true ((w64 (a2.X.B - a2.X.A)) == v17.2) with b22 | b22
      ·replace hm := qC b22 hm
       refine q_vu [qf 3 b19, qf 12 b22] 4 [7, 8, 9, 10] [(80, vb ((w64 (a2.Y.B - a2.Y.A)) == v17.1))] [] [] ?_
       exact q_J ((w64 (a2.Y.B - a2.Y.A)) == v17.1) hm
      ·replace hm := qB b22 hm
       refine q_vu [qf 3 b19, qf 12 b22] 4 [7, 8, 9, 10] [(80, vb false)] [] [] ?_
       exact q_J (false) hm
  ·rcases Bool.eq_false_or_eq_true (decide (a1.At < 0)) with b13 | b13
   ·replace hm := qC b13 hm
    refine q_du [qf 3 b13] [0, 1, 3, 7, 15, 31, 15, 79, 207, 463, 975, 2047, 4095] 4 [15] [(36, vb true)] [] [] ?_
    exact q_J (true) hm
   ·replace hm := qB b13 hm
    refine q_du [qf 3 b13] [0, 1, 3, 7, 15, 31, 15, 79, 207, 463, 975, 2047, 4095] 4 [15] [(36, vb (decide (a1.At ≥ ((a4.length : Nat) : Int))))] [] [] ?_
    exact q_J (decide (a1.At ≥ ((a4.length : Nat) : Int))) hm
def XC (a1 : Node) (a2 : Rect) (a3 : List Node) (a4 : List Product) (a5 : Bool) (a6 : Int) (a7 : Int) (a8 : List Leaf) (a9 : List Rect) (r : Int) : V := vi r
def XD (a1 : Node) (a2 : Rect) (a3 : List Node) (a4 : List Product) (a5 : Bool) (a6 : Int) (a7 : Int) (a8 : List Leaf) (a9 : List Rect) (r : Int) : List (Nat × (Nat × O)) := [(0, bx 143 [tl qJ default a3, tl qA default a4, cb a5, ci a6, ci a7, .own 1 0 5 a8.length, .own 2 0 4 a9.length]), (1, ro 0 78 5 a8.length (rf qF a8)), (2, ro 0 28 4 a9.length (rf qE a9))]
def US (a3 : List Node) (a4 : List Product) (a5 : Bool) (a6 : Int) (a7 : Int) (a8 : List Leaf) (a9 : List Rect) (x12 : Bool) : St :=
 ⟨[(23, vb x12)], [(0, bx 143 [tl qJ default a3, tl qA default a4, cb a5, ci a6, ci a7, .own 1 0 5 a8.length, .own 2 0 4 a9.length]), (1, ro 0 78 5 a8.length (rf qF a8)), (2, ro 0 28 4 a9.length (rf qE a9))]⟩
def UC (a3 : List Node) (a4 : List Product) (a5 : Bool) (a6 : Int) (a7 : Int) (a8 : List Leaf) (a9 : List Rect) (x24 : Bool) : St :=
 ⟨[(80, vb x24)], [(0, bx 143 [tl qJ default a3, tl qA default a4, cb a5, ci a6, ci a7, .own 1 0 5 a8.length, .own 2 0 4 a9.length]), (1, ro 0 78 5 a8.length (rf qF a8)), (2, ro 0 28 4 a9.length (rf qE a9))]⟩
def UI (a1 : Node) (a2 : Rect) (a3 : List Node) (a4 : List Product) (a5 : Bool) (a6 : Int) (a7 : Int) (a8 : List Leaf) (a9 : List Rect) (x15 : Bool) : St :=
 ⟨[(0, vp 0 0), (4, vp 3 0), (5, vp 4 0), (36, vb x15)], [(0, bx 143 [tl qJ default a3, tl qA default a4, cb a5, ci a6, ci a7, .own 1 0 5 a8.length, .own 2 0 4 a9.length]), (1, ro 0 78 5 a8.length (rf qF a8)), (2, ro 0 28 4 a9.length (rf qE a9)), (3, bx 65 (qJ a1)), (4, bx 28 (qE a2))]⟩
theorem BK (a1 : Node) (a2 : Rect) (a3 : List Node) (a4 : List Product) (a5 : Bool) (a6 : Int) (a7 : Int) (a8 : List Leaf) (a9 : List Rect) (r : Int) (hm : wA a1 a2 a3 a4 a5 a6 a7 a8 a9 = some r) : CtX Tryz.prog globs 115 3 1 [.one (.bptr 0 0 0), .agg (qJ a1), .agg (qE a2)] [(0, bx 143 [tl qJ default a3, tl qA default a4, cb a5, ci a6, ci a7, .own 1 0 5 a8.length, .own 2 0 4 a9.length]), (1, ro 0 78 5 a8.length (rf qF a8)), (2, ro 0 28 4 a9.length (rf qE a9))] (XC a1 a2 a3 a4 a5 a6 a7 a8 a9 r) (XD a1 a2 a3 a4 a5 a6 a7 a8 a9 r) := by
 unfold wA at hm
 refine q_E Tryz.f115 81 fun E => ?_
 refine q_sq ?_
 refine q_vn [] 3 ⟨[(0, vp 0 0), (4, vp 3 0), (5, vp 4 0)], [(0, bx 143 [tl qJ default a3, tl qA default a4, cb a5, ci a6, ci a7, .own 1 0 5 a8.length, .own 2 0 4 a9.length]), (1, ro 0 78 5 a8.length (rf qF a8)), (2, ro 0 28 4 a9.length (rf qE a9)), (3, bx 65 (qJ a1)), (4, bx 28 (qE a2))]⟩ ?_
 refine q_sq ?_
 refine q_sq ?_
 refine q_vu [] 5 [] [(15, vb (!a5))] [] [] ?_
 refine q_cn (!a5) (fun b10 => ?_) (fun b10 => ?_)
 ·replace hm := qC b10 hm
  refine q_sq ?_
  refine q_jn (ι := Bool) (fun p => US a3 a4 a5 a6 a7 a8 a9 p) (fun p => QP p = some r) ?_ ?_
  ·rintro x12 hm
   show H _ (US a3 a4 a5 a6 a7 a8 a9 x12) _ _
   refine q_cn x12 (fun b13 => ?_) (fun b13 => ?_)
   ·replace hm := qC b13 hm
    refine q_sq ?_
    refine q_vu [] 5 [23] [(6, vi 8)] [] [] ?_
    obtain rfl := Option.some.inj hm
    refine q_rt ?_
    exact q_rm
   ·replace hm := qB b13 hm
    refine q_sk ?_
    refine q_sq ?_
    refine q_vu [] 5 [23] [(6, vi 0)] [] [] ?_
    obtain rfl := Option.some.inj hm
    refine q_rt ?_
    exact q_rm
  ·rcases Bool.eq_false_or_eq_true (decide (a1.At < 0)) with b11 | b11
   ·replace hm := qC b11 hm
    refine q_vu [qf 3 b11] 5 [0, 4, 5, 15] [(23, vb true)] [3, 4] [] ?_
    exact q_J (true) hm
   ·replace hm := qB b11 hm
    refine q_vu [qf 3 b11] 5 [0, 4, 5, 15] [(23, vb (decide (a1.At ≥ 16)))] [3, 4] [] ?_
    exact q_J (decide (a1.At ≥ 16)) hm
 ·replace hm := qB b10 hm
  refine q_sk ?_
  refine q_sq ?_
  refine q_jn (ι := Bool) (fun p => UI a1 a2 a3 a4 a5 a6 a7 a8 a9 p) (fun p => QS a1 a2 a4 p = some r) ?_ ?_
  ·rintro x15 hm
   show H _ (UI a1 a2 a3 a4 a5 a6 a7 a8 a9 x15) _ _
   refine q_cn x15 (fun b16 => ?_) (fun b16 => ?_)
   ·replace hm := qC b16 hm
    refine q_sq ?_
    refine q_vu [] 5 [0, 4, 5, 36] [(6, vi 8)] [3, 4] [] ?_
    obtain rfl := Option.some.inj hm
    refine q_rt ?_
    exact q_rm
   ·replace hm := qB b16 hm
    refine q_sk ?_
    refine q_sq ?_
    obtain ⟨g17, hm⟩ := qL hm
    obtain ⟨v18, h19, hm⟩ := qD hm
    refine q_du [qd 6 (Dir.none) (inb_of g17), qc 8 [45] 5 (NA (a4.getD a1.At.toNat default) v18 h19)] [0, 1, 3, 7, 0, 16, 63, 127, 255, 511, 1023, 1023, 2047, 8191] 5 [0, 4, 36] [(7, vi v18.1), (8, vi v18.2)] [3] [] ?_
    refine q_sq ?_
    refine q_du [] [0, 1, 3, 0, 8, 24, 63, 0, 128, 384, 0, 1024, 3072, 8064, 127, 32767] 5 [5] [(9, vi (w64 (a2.X.B - a2.X.A))), (10, vi (w64 (a2.Y.B - a2.Y.A)))] [4] [] ?_
    refine q_sq ?_
    refine q_jn (ι := Bool) (fun p => UC a3 a4 a5 a6 a7 a8 a9 p) (fun p => zZ p = some r) ?_ ?_
    ·rintro x24 hm
     show H _ (UC a3 a4 a5 a6 a7 a8 a9 x24) _ _
     refine q_cn x24 (fun b25 => ?_) (fun b25 => ?_)
     ·replace hm := qC b25 hm
      refine q_sq ?_
      refine q_vu [] 5 [80] [(6, vi 0)] [] [] ?_
      obtain rfl := Option.some.inj hm
      refine q_rt ?_
      exact q_rm
     ·replace hm := qB b25 hm
      refine q_sk ?_
      refine q_sq ?_
      refine q_vu [] 5 [80] [(6, vi 20)] [] [] ?_
      obtain rfl := Option.some.inj hm
      refine q_rt ?_
      exact q_rm
    ·rcases Bool.eq_false_or_eq_true ((w64 (a2.X.B - a2.X.A)) == v18.1) with b20 | b20
     ·replace hm := qC b20 hm
      rcases Bool.eq_false_or_eq_true ((w64 (a2.Y.B - a2.Y.A)) == v18.2) with b21 | b21
      ·replace hm := qC b21 hm
       refine q_vu [qf 3 b20, qf 8 b21] 5 [7, 8, 9, 10] [(80, vb true)] [] [] ?_
       exact q_J (true) hm
      ·replace hm := qB b21 hm
       rcases Bool.eq_false_or_eq_true ((w64 (a2.X.B - a2.X.A)) == v18.2) with b22 | b22
       ·replace hm := qC b22 hm
        refine q_vu [qf 3 b20, qf 8 b21, qf 12 b22] 5 [7, 8, 9, 10] [(80, vb ((w64 (a2.Y.B - a2.Y.A)) == v18.1))] [] [] ?_
        exact q_J ((w64 (a2.Y.B - a2.Y.A)) == v18.1) hm
       ·replace hm := qB b22 hm
        refine q_vu [qf 3 b20, qf 8 b21, qf 12 b22] 5 [7, 8, 9, 10] [(80, vb false)] [] [] ?_
        exact q_J (false) hm
     ·replace hm := qB b20 hm
      rcases Bool.eq_false_or_eq_true ((w64 (a2.X.B - a2.X.A)) == v18.2) with b23 | b23
      ·replace hm := qC b23 hm
       refine q_vu [qf 3 b20, qf 12 b23] 5 [7, 8, 9, 10] [(80, vb ((w64 (a2.Y.B - a2.Y.A)) == v18.1))] [] [] ?_
       exact q_J ((w64 (a2.Y.B - a2.Y.A)) == v18.1) hm
      ·replace hm := qB b23 hm
       refine q_vu [qf 3 b20, qf 12 b23] 5 [7, 8, 9, 10] [(80, vb false)] [] [] ?_
       exact q_J (false) hm
  ·rcases Bool.eq_false_or_eq_true (decide (a1.At < 0)) with b14 | b14
   ·replace hm := qC b14 hm
    refine q_du [qf 3 b14] [0, 1, 3, 7, 15, 31, 15, 79, 207, 463, 975, 2047, 4095] 5 [15] [(36, vb true)] [] [] ?_
    exact q_J (true) hm
   ·replace hm := qB b14 hm
    refine q_du [qf 3 b14] [0, 1, 3, 7, 15, 31, 15, 79, 207, 463, 975, 2047, 4095] 5 [15] [(36, vb (decide (a1.At ≥ ((a4.length : Nat) : Int))))] [] [] ?_
    exact q_J (decide (a1.At ≥ ((a4.length : Nat) : Int))) hm
set_option maxRecDepth 100000
def qKP (r : Span × Span × Span) : V := .tup [.agg (e_Span r.1), .agg (e_Span r.2.1), .agg (e_Span r.2.2)]
def qKW (r : Span × Span × Span) : List (Nat × (Nat × O)) := []
theorem JY (a1 : Span) (a2 : Int) (a3 : Int) (r : Span × Span × Span) (hm : jR a1 a2 a3 = some r) : CtX Tryz.prog globs 116 0 0 [.agg (e_Span a1), .one (ci a2), .one (ci a3)] [] (qKP r) (qKW r) := by
 unfold jR at hm
 refine q_E Tryz.f116 27 fun E => ?_
 refine q_sq ?_
 refine q_vn [] 0 ⟨[(1, vi a2), (2, vi a3), (3, vp 0 0), (6, vp 1 0), (7, vp 2 0), (8, vp 3 0)], [(0, bx 26 (e_Span a1)), (1, bx 26 [ci 0, ci 0]), (2, bx 26 [ci 0, ci 0]), (3, bx 26 [ci 0, ci 0])]⟩ ?_
 refine q_sq ?_
 refine q_vu [] 4 [2] [(9, vi (imin (w64 (a2 + a3)) a1.B))] [] [] ?_
 refine q_sq ?_
 refine q_du [] [0, 1, 0, 7, 0, 0, 48, 0, 0, 256, 896, 15, 2175, 8191] 4 [1, 3, 9] [] [0, 1, 2, 3] [(1, bx 26 [ci a1.A, ci a2]), (2, bx 26 [ci a2, ci (imin (w64 (a2 + a3)) a1.B)]), (3, bx 26 [ci (imin (w64 (a2 + a3)) a1.B), ci a1.B])] ?_
 obtain rfl := Option.some.inj hm
 refine q_rt ?_
 exact q_rm
open Go.Proofs
set_option maxHeartbeats 4000000
set_option maxRecDepth 100000
def jE (a1 : Rect) (a2 : Int) (a3 : List Node) (a4 : List Product) (a5 : Bool) (a6 : Int) (a7 : Int) (a8 : List Leaf) (a9 : List Rect) (r : Int × Int × (List Leaf) × (List Rect)) : V := vi r.1
def jD (a1 : Rect) (a2 : Int) (a3 : List Node) (a4 : List Product) (a5 : Bool) (a6 : Int) (a7 : Int) (a8 : List Leaf) (a9 : List Rect) (r : Int × Int × (List Leaf) × (List Rect)) : List (Nat × (Nat × O)) := [(0, bx 143 [tl qJ default a3, tl qA default a4, cb a5, ci a6, ci r.2.1, .own 1 0 5 r.2.2.1.length, .own 2 0 4 r.2.2.2.length]), (1, ro 0 78 5 r.2.2.1.length (rf qF r.2.2.1)), (2, ro 0 28 4 r.2.2.2.length (rf qE r.2.2.2))]
def VQ (a2 : Int) (a3 : List Node) (a4 : List Product) (a5 : Bool) (a6 : Int) (a7 : Int) (a8 : List Leaf) (a9 : List Rect) (x35 : Rect) (x36 : Rect) (x37 : Rect) : St :=
 ⟨[(0, vp 0 0), (2, vi a2), (8, vp 5 0), (9, vp 6 0), (10, vp 7 0)], [(0, bx 143 [tl qJ default a3, tl qA default a4, cb a5, ci a6, ci (w64 (a7 + 1)), .own 1 0 5 a8.length, .own 2 0 4 a9.length]), (1, ro 0 78 5 a8.length (rf qF a8)), (2, ro 0 28 4 a9.length (rf qE a9)), (5, bx 28 (qE x37)), (6, bx 28 (qE x36)), (7, bx 28 (qE x35))]⟩
def VO (a1 : Rect) (a2 : Int) (a3 : List Node) (a4 : List Product) (a5 : Bool) (a6 : Int) (a7 : Int) (a8 : List Leaf) (a9 : List Rect) (x26 : Bool) : St :=
 ⟨[(0, vp 0 0), (2, vi a2), (4, vp 3 0), (7, vp 4 0), (8, vp 5 0), (9, vp 6 0), (10, vp 7 0), (112, vb x26)], [(0, bx 143 [tl qJ default a3, tl qA default a4, cb a5, ci a6, ci (w64 (a7 + 1)), .own 1 0 5 a8.length, .own 2 0 4 a9.length]), (1, ro 0 78 5 a8.length (rf qF a8)), (2, ro 0 28 4 a9.length (rf qE a9)), (3, bx 28 (qE a1)), (4, bx 65 [ci ((a3.getD a7.toNat default).Kind), ci ((a3.getD a7.toNat default).At)]), (5, bx 28 (qE a1)), (6, bx 28 (qE a1)), (7, bx 28 (qE a1))]⟩
def VM (a1 : Rect) (a2 : Int) (a3 : List Node) (a4 : List Product) (a5 : Bool) (a6 : Int) (a7 : Int) (a8 : List Leaf) (a9 : List Rect) (x31 : Bool) : St :=
 ⟨[(0, vp 0 0), (2, vi a2), (4, vp 3 0), (7, vp 4 0), (8, vp 5 0), (9, vp 6 0), (10, vp 7 0), (142, vb x31)], [(0, bx 143 [tl qJ default a3, tl qA default a4, cb a5, ci a6, ci (w64 (a7 + 1)), .own 1 0 5 a8.length, .own 2 0 4 a9.length]), (1, ro 0 78 5 a8.length (rf qF a8)), (2, ro 0 28 4 a9.length (rf qE a9)), (3, bx 28 (qE a1)), (4, bx 65 [ci ((a3.getD a7.toNat default).Kind), ci ((a3.getD a7.toNat default).At)]), (5, bx 28 (qE a1)), (6, bx 28 (qE a1)), (7, bx 28 (qE a1))]⟩
def GC (a1 : Rect) (a2 : Int) (a3 : List Node) (a4 : List Product) (a5 : Bool) (a6 : Int) (a7 : Int) (a8 : List Leaf) (a9 : List Rect) (x15 : Bool) : St :=
 ⟨[(0, vp 0 0), (2, vi a2), (4, vp 3 0), (7, vp 4 0), (56, vb x15)], [(0, bx 143 [tl qJ default a3, tl qA default a4, cb a5, ci a6, ci (w64 (a7 + 1)), .own 1 0 5 a8.length, .own 2 0 4 a9.length]), (1, ro 0 78 5 a8.length (rf qF a8)), (2, ro 0 28 4 a9.length (rf qE a9)), (3, bx 28 (qE a1)), (4, bx 65 [ci ((a3.getD a7.toNat default).Kind), ci ((a3.getD a7.toNat default).At)])]⟩
theorem qAw : ∀ (n : Nat) (a1 : Rect) (a2 : Int) (a3 : List Node) (a4 : List Product) (a5 : Bool) (a6 : Int) (a7 : Int) (a8 : List Leaf) (a9 : List Rect) (r : Int × Int × (List Leaf) × (List Rect)) (hm : qQ n a1 a2 a3 a4 a5 a6 a7 a8 a9 = some r), CtX Tryz.prog globs 76 3 1 [.one (.bptr 0 0 0), .agg (qE a1), .one (ci a2)] [(0, bx 143 [tl qJ default a3, tl qA default a4, cb a5, ci a6, ci a7, .own 1 0 5 a8.length, .own 2 0 4 a9.length]), (1, ro 0 78 5 a8.length (rf qF a8)), (2, ro 0 28 4 a9.length (rf qE a9))] (jE a1 a2 a3 a4 a5 a6 a7 a8 a9 r) (jD a1 a2 a3 a4 a5 a6 a7 a8 a9 r) := by
 intro n
 induction n with
 | zero =>
  intro a1 a2 a3 a4 a5 a6 a7 a8 a9 r hm
  cases hm
 | succ n ih =>
  intro a1 a2 a3 a4 a5 a6 a7 a8 a9 r hm
  refine q_E Tryz.f76 182 fun E => ?_
  refine q_sq ?_
  refine q_vn [] 3 ⟨[(0, vp 0 0), (2, vi a2), (4, vp 3 0)], [(0, bx 143 [tl qJ default a3, tl qA default a4, cb a5, ci a6, ci a7, .own 1 0 5 a8.length, .own 2 0 4 a9.length]), (1, ro 0 78 5 a8.length (rf qF a8)), (2, ro 0 28 4 a9.length (rf qE a9)), (3, bx 28 (qE a1))]⟩ ?_
  refine q_sq ?_
  refine q_sq ?_
  refine q_du [] [0, 1, 3, 7, 0, 16, 48, 112, 240, 511] 4 [] [(21, vb (decide (a7 ≥ ((a3.length : Nat) : Int))))] [] [] ?_
  refine q_cn (decide (a7 ≥ ((a3.length : Nat) : Int))) (fun b10 => ?_) (fun b10 => ?_)
  ·replace hm := qC b10 hm
   refine q_sq ?_
   refine q_vu [] 4 [0, 2, 4, 21] [(6, vi 3)] [3] [] ?_
   obtain rfl := Option.some.inj hm
   refine q_rt ?_
   exact q_rm
  ·replace hm := qB b10 hm
   refine q_sk ?_
   refine q_sq ?_
   obtain ⟨g11, hm⟩ := qL hm
   refine q_du [qd 8 (Dir.none) (inb_of g11)] [0, 1, 3, 7, 0, 16, 48, 112, 255, 511, 0, 2047] 4 [21] [(7, vp 4 0)] [] [(4, bx 65 [ci ((a3.getD a7.toNat default).Kind), ci ((a3.getD a7.toNat default).At)])] ?_
   refine q_sq ?_
   refine q_vu [] 5 [] [] [0] [(0, bx 143 [tl qJ default a3, tl qA default a4, cb a5, ci a6, ci (w64 (a7 + 1)), .own 1 0 5 a8.length, .own 2 0 4 a9.length])] ?_
   refine q_sq ?_
   refine q_jn (ι := Bool) (fun p => GC a1 a2 a3 a4 a5 a6 a7 a8 a9 p) (fun p => yI a1 a2 a3 a4 a5 a6 a7 a8 a9 (qQ n) p = some r) ?_ ?_
   ·rintro x15 hm
    show H _ (GC a1 a2 a3 a4 a5 a6 a7 a8 a9 x15) _ _
    refine q_cn x15 (fun b16 => ?_) (fun b16 => ?_)
    ·replace hm := qC b16 hm
     refine q_sq ?_
     refine q_vu [] 5 [0, 2, 4, 7, 56] [(6, vi 10)] [3, 4] [] ?_
     obtain rfl := Option.some.inj hm
     refine q_rt ?_
     exact q_rm
    ·replace hm := qB b16 hm
     refine q_sk ?_
     refine q_sq ?_
     refine q_sq ?_
     refine q_vu [] 5 [56] [(58, vb (decide (a2 > 64)))] [] [] ?_
     refine q_cn (decide (a2 > 64)) (fun b17 => ?_) (fun b17 => ?_)
     ·replace hm := qC b17 hm
      refine q_sq ?_
      refine q_vu [] 5 [0, 2, 4, 7, 58] [(6, vi 28)] [3, 4] [] ?_
      obtain rfl := Option.some.inj hm
      refine q_rt ?_
      exact q_rm
     ·replace hm := qB b17 hm
      refine q_sk ?_
      refine q_sq ?_
      refine q_sq ?_
      refine q_vu [] 5 [58] [(60, vi ((a3.getD a7.toNat default).Kind))] [] [] ?_
      refine q_bk 0 ?_
      refine q_sq ?_
      refine q_vu [] 5 [] [(61, vb (((a3.getD a7.toNat default).Kind) == 0))] [] [] ?_
      refine q_cn (((a3.getD a7.toNat default).Kind) == 0) (fun b18 => ?_) (fun b18 => ?_)
      ·replace hm := qC b18 hm
       refine q_sq ?_
       obtain ⟨g19, hm⟩ := qL hm
       refine q_du [qd 7 (drw 5 0 (rf qF ([(Leaf.mk a1 (-1))] : List Leaf))) (litP qF default 5 (fun _ => rfl) ([(Leaf.mk a1 (-1))] : List Leaf) 1 rfl), qd 8 (drw 1 1 (rf qF (a8 ++ ([(Leaf.mk a1 (-1))] : List Leaf)))) (apP qF default a8 ([(Leaf.mk a1 (-1))] : List Leaf) a8.length 1 5 40 (1 ≤ 1) (Nat.le_refl _) rfl rfl (fun _ => rfl) (wL g19))] [0, 0, 2, 6, 14, 0, 32, 96, 254, 511, 1023, 2047] 5 [0, 2, 4, 7, 60, 61] [] [0, 1, 3, 4] [(0, bx 143 [tl qJ default a3, tl qA default a4, cb a5, ci a6, ci (w64 (a7 + 1)), .own 1 1 5 (a8.length + 1), .own 2 0 4 a9.length]), (1, ro 1 78 5 (a8.length + 1) (rf qF (a8 ++ ([(Leaf.mk a1 (-1))] : List Leaf))))] ?_
       refine q_sq ?_
       refine q_vu [] 6 [] [(6, vi 0)] [] [] ?_
       refine q_fn [.len 1 ((a8 ++ ([(Leaf.mk a1 (-1))] : List Leaf)).length)] ⟨[(6, vi 0)], [(0, bx 143 [tl qJ default a3, tl qA default a4, cb a5, ci a6, ci (w64 (a7 + 1)), .own 1 1 5 ((a8 ++ ([(Leaf.mk a1 (-1))] : List Leaf)).length), .own 2 0 4 a9.length]), (1, ro 1 78 5 ((a8 ++ ([(Leaf.mk a1 (-1))] : List Leaf)).length) (rf qF (a8 ++ ([(Leaf.mk a1 (-1))] : List Leaf)))), (2, ro 0 28 4 a9.length (rf qE a9))]⟩ (o1 (And.intro (Eq.symm (show (a8 ++ ([(Leaf.mk a1 (-1))] : List Leaf)).length = (a8.length + 1) from (len_app rfl rfl))) (Eq.symm (show (a8 ++ ([(Leaf.mk a1 (-1))] : List Leaf)).length = (a8.length + 1) from (len_app rfl rfl))))) ?_
       obtain rfl := Option.some.inj hm
       refine q_rt ?_
       exact q_rm
      ·replace hm := qB b18 hm
       refine q_sq ?_
       refine q_vu [] 5 [60, 61] [(74, vb (((a3.getD a7.toNat default).Kind) == 1))] [] [] ?_
       refine q_cn (((a3.getD a7.toNat default).Kind) == 1) (fun b20 => ?_) (fun b20 => ?_)
       ·replace hm := qC b20 hm
        refine q_sq ?_
        obtain ⟨g21, hm⟩ := qL hm
        refine q_du [qd 9 (drw 5 0 (rf qF ([(Leaf.mk a1 ((a3.getD a7.toNat default).At))] : List Leaf))) (litP qF default 5 (fun _ => rfl) ([(Leaf.mk a1 ((a3.getD a7.toNat default).At))] : List Leaf) 1 rfl), qd 10 (drw 1 1 (rf qF (a8 ++ ([(Leaf.mk a1 ((a3.getD a7.toNat default).At))] : List Leaf)))) (apP qF default a8 ([(Leaf.mk a1 ((a3.getD a7.toNat default).At))] : List Leaf) a8.length 1 5 40 (1 ≤ 1) (Nat.le_refl _) rfl rfl (fun _ => rfl) (wL g21))] [0, 0, 2, 6, 14, 0, 0, 64, 224, 480, 1022, 2047, 4095, 8191] 5 [2, 74] [] [0, 1] [(0, bx 143 [tl qJ default a3, tl qA default a4, cb a5, ci a6, ci (w64 (a7 + 1)), .own 1 1 5 (a8.length + 1), .own 2 0 4 a9.length]), (1, ro 1 78 5 (a8.length + 1) (rf qF (a8 ++ ([(Leaf.mk a1 ((a3.getD a7.toNat default).At))] : List Leaf))))] ?_
        refine q_sq ?_
        obtain ⟨v22, h23, hm⟩ := qD hm
        refine q_vn [qd 3 (dpr [.len 1 ((a8 ++ ([(Leaf.mk a1 ((a3.getD a7.toNat default).At))] : List Leaf)).length)] (dex (cen [(0, 0), (1, 1), (2, 0)] [0, 2, 1] 3 1 (XC (a3.getD a7.toNat default) a1 a3 a4 a5 a6 (w64 (a7 + 1)) (a8 ++ ([(Leaf.mk a1 ((a3.getD a7.toNat default).At))] : List Leaf)) a9 v22) (XD (a3.getD a7.toNat default) a1 a3 a4 a5 a6 (w64 (a7 + 1)) (a8 ++ ([(Leaf.mk a1 ((a3.getD a7.toNat default).At))] : List Leaf)) a9 v22) [89, 90, 91] [0, 1, 2]))) (And.intro (Eq.symm (show (a8 ++ ([(Leaf.mk a1 ((a3.getD a7.toNat default).At))] : List Leaf)).length = (a8.length + 1) from (len_app rfl rfl))) (Eq.symm (show (a8 ++ ([(Leaf.mk a1 ((a3.getD a7.toNat default).At))] : List Leaf)).length = (a8.length + 1) from (len_app rfl rfl)))), qd 3 (Dir.none) (jI (K := (kx E 182 1)) ⟨[(89, vp 0 0), (90, va [ci ((a3.getD a7.toNat default).Kind), ci ((a3.getD a7.toNat default).At)]), (91, va (qE a1))], [(0, bx 143 [tl qJ default a3, tl qA default a4, cb a5, ci a6, ci (w64 (a7 + 1)), .own 1 1 5 ((a8 ++ ([(Leaf.mk a1 ((a3.getD a7.toNat default).At))] : List Leaf)).length), .own 2 0 4 a9.length]), (1, ro 1 78 5 ((a8 ++ ([(Leaf.mk a1 ((a3.getD a7.toNat default).At))] : List Leaf)).length) (rf qF (a8 ++ ([(Leaf.mk a1 ((a3.getD a7.toNat default).At))] : List Leaf)))), (2, ro 0 28 4 a9.length (rf qE a9))]⟩ (opAt (rg Tryz.f76 65210) 3) [(0, 0), (1, 1), (2, 0)] [0, 2, 1] 3 o0 rfl (BK (a3.getD a7.toNat default) a1 a3 a4 a5 a6 (w64 (a7 + 1)) (a8 ++ ([(Leaf.mk a1 ((a3.getD a7.toNat default).At))] : List Leaf)) a9 v22 h23) (.inl rfl) (by kernel_rfl))] 6 ⟨[(6, vi v22)], [(0, bx 143 [tl qJ default a3, tl qA default a4, cb a5, ci a6, ci (w64 (a7 + 1)), .own 1 2 5 ((a8 ++ ([(Leaf.mk a1 ((a3.getD a7.toNat default).At))] : List Leaf)).length), .own 2 1 4 a9.length]), (1, ro 2 78 5 ((a8 ++ ([(Leaf.mk a1 ((a3.getD a7.toNat default).At))] : List Leaf)).length) (rf qF (a8 ++ ([(Leaf.mk a1 ((a3.getD a7.toNat default).At))] : List Leaf)))), (2, ro 1 28 4 a9.length (rf qE a9))]⟩ ?_
        obtain rfl := Option.some.inj hm
        refine q_rt ?_
        exact q_rm
       ·replace hm := qB b20 hm
        refine q_sk ?_
        refine q_sq ?_
        refine q_du [] [0, 0, 0, 0, 0, 0, 57, 123, 255] 5 [74] [(8, vp 5 0), (9, vp 6 0), (10, vp 7 0)] [] [(5, bx 28 (qE a1)), (6, bx 28 (qE a1)), (7, bx 28 (qE a1))] ?_
        refine q_jn (ι := Rect × Rect × Rect) (fun p => VQ a2 a3 a4 a5 a6 a7 a8 a9 p.1 p.2.1 p.2.2) (fun p => XL a2 a3 a4 a5 a6 a7 a8 a9 (qQ n) p.1 p.2.1 p.2.2 = some r) ?_ ?_
        ·rintro ⟨x35, x36, x37⟩ hm
         show H _ (VQ a2 a3 a4 a5 a6 a7 a8 a9 x35 x36 x37) _ _
         refine q_sq ?_
         obtain ⟨g38, hm⟩ := qL hm
         refine q_du [qd 6 (drw 8 0 (rf qE ([x36] : List Rect))) (litP qE default 4 (fun _ => rfl) ([x36] : List Rect) 1 rfl), qd 7 (drw 2 1 (rf qE (a9 ++ ([x36] : List Rect)))) (apP qE default a9 ([x36] : List Rect) a9.length 1 4 32 (1 ≤ 1) (Nat.le_refl _) rfl rfl (fun _ => rfl) (wL g38))] [0, 0, 2, 6, 14, 0, 32, 126, 255, 511, 1023] 8 [9] [] [0, 2, 6] [(0, bx 143 [tl qJ default a3, tl qA default a4, cb a5, ci a6, ci (w64 (a7 + 1)), .own 1 0 5 a8.length, .own 2 1 4 (a9.length + 1)]), (2, ro 1 28 4 (a9.length + 1) (rf qE (a9 ++ ([x36] : List Rect))))] ?_
         refine q_sq ?_
         refine q_sq ?_
         obtain ⟨v39, h40, hm⟩ := qD hm
         refine q_vu [qd 4 (dpr [.len 2 ((a9 ++ ([x36] : List Rect)).length)] (dex (cen [(0, 0), (1, 0), (2, 1)] [0, 1, 2] 6 1 (jE x37 (w64 (a2 + 1)) a3 a4 a5 a6 (w64 (a7 + 1)) a8 (a9 ++ ([x36] : List Rect)) v39) (jD x37 (w64 (a2 + 1)) a3 a4 a5 a6 (w64 (a7 + 1)) a8 (a9 ++ ([x36] : List Rect)) v39) [169, 170, 172] [0, 1, 2]))) (And.intro (Eq.symm (show (a9 ++ ([x36] : List Rect)).length = (a9.length + 1) from (len_app rfl rfl))) (Eq.symm (show (a9 ++ ([x36] : List Rect)).length = (a9.length + 1) from (len_app rfl rfl)))), qd 4 (Dir.none) (jI (K := (kx E 182 1)) ⟨[(169, vp 0 0), (170, va (qE x37)), (172, vi (w64 (a2 + 1)))], [(0, bx 143 [tl qJ default a3, tl qA default a4, cb a5, ci a6, ci (w64 (a7 + 1)), .own 1 0 5 a8.length, .own 2 1 4 ((a9 ++ ([x36] : List Rect)).length)]), (1, ro 0 78 5 a8.length (rf qF a8)), (2, ro 1 28 4 ((a9 ++ ([x36] : List Rect)).length) (rf qE (a9 ++ ([x36] : List Rect))))]⟩ (opAt (rg Tryz.f76 8188) 4) [(0, 0), (1, 0), (2, 1)] [0, 1, 2] 6 o0 rfl (ih x37 (w64 (a2 + 1)) a3 a4 a5 a6 (w64 (a7 + 1)) a8 (a9 ++ ([x36] : List Rect)) v39 h40) (.inl rfl) (by kernel_rfl))] 9 [8] [(11, vi v39.1)] [0, 1, 2, 5] [(0, bx 143 [tl qJ default a3, tl qA default a4, cb a5, ci a6, ci v39.2.1, .own 1 1 5 v39.2.2.1.length, .own 2 2 4 v39.2.2.2.length]), (1, ro 1 78 5 v39.2.2.1.length (rf qF v39.2.2.1)), (2, ro 2 28 4 v39.2.2.2.length (rf qE v39.2.2.2))] ?_
         refine q_sq ?_
         refine q_vu [] 9 [] [(175, vb (v39.1 != 0))] [] [] ?_
         refine q_cn (v39.1 != 0) (fun b41 => ?_) (fun b41 => ?_)
         ·replace hm := qC b41 hm
          refine q_sq ?_
          refine q_vu [] 9 [0, 2, 10, 11, 175] [(6, vi v39.1)] [7] [] ?_
          obtain rfl := Option.some.inj hm
          refine q_rt ?_
          exact q_rm
         ·replace hm := qB b41 hm
          refine q_sk ?_
          refine q_sq ?_
          obtain ⟨v42, h43, hm⟩ := qD hm
          refine q_vn [qd 4 (dex (cen [(0, 0), (1, 1), (2, 2)] [0, 2, 3] 6 1 (jE x35 (w64 (a2 + 1)) a3 a4 a5 a6 v39.2.1 v39.2.2.1 v39.2.2.2 v42) (jD x35 (w64 (a2 + 1)) a3 a4 a5 a6 v39.2.1 v39.2.2.1 v39.2.2.2 v42) [177, 178, 180] [0, 1, 2])) (jI (K := (kx E 182 1)) ⟨[(177, vp 0 0), (178, va (qE x35)), (180, vi (w64 (a2 + 1)))], [(0, bx 143 [tl qJ default a3, tl qA default a4, cb a5, ci a6, ci v39.2.1, .own 1 1 5 v39.2.2.1.length, .own 2 2 4 v39.2.2.2.length]), (1, ro 1 78 5 v39.2.2.1.length (rf qF v39.2.2.1)), (2, ro 2 28 4 v39.2.2.2.length (rf qE v39.2.2.2))]⟩ (opAt (rg Tryz.f76 8190) 4) [(0, 0), (1, 1), (2, 2)] [0, 2, 3] 6 o0 rfl (ih x35 (w64 (a2 + 1)) a3 a4 a5 a6 v39.2.1 v39.2.2.1 v39.2.2.2 v42 h43) (.inl rfl) (by kernel_rfl))] 9 ⟨[(6, vi v42.1)], [(0, bx 143 [tl qJ default a3, tl qA default a4, cb a5, ci a6, ci v42.2.1, .own 1 2 5 v42.2.2.1.length, .own 2 3 4 v42.2.2.2.length]), (1, ro 2 78 5 v42.2.2.1.length (rf qF v42.2.2.1)), (2, ro 3 28 4 v42.2.2.2.length (rf qE v42.2.2.2))]⟩ ?_
          obtain rfl := Option.some.inj hm
          refine q_rt ?_
          exact q_rm
        ·refine q_sq ?_
         refine q_vu [] 8 [] [(98, vb (((a3.getD a7.toNat default).Kind) == 2))] [] [] ?_
         refine q_cn (((a3.getD a7.toNat default).Kind) == 2) (fun b24 => ?_) (fun b24 => ?_)
         ·replace hm := qC b24 hm
          refine q_sq ?_
          refine q_jn (ι := Bool) (fun p => VO a1 a2 a3 a4 a5 a6 a7 a8 a9 p) (fun p => XE a1 a2 a3 a4 a5 a6 a7 a8 a9 (qQ n) p = some r) ?_ ?_
          ·rintro x26 hm
           show H _ (VO a1 a2 a3 a4 a5 a6 a7 a8 a9 x26) _ _
           refine q_cn x26 (fun b27 => ?_) (fun b27 => ?_)
           ·replace hm := qC b27 hm
            refine q_sq ?_
            refine q_vu [] 8 [0, 2, 4, 7, 8, 9, 10, 112] [(6, vi 20)] [3, 4, 5, 6, 7] [] ?_
            obtain rfl := Option.some.inj hm
            refine q_rt ?_
            exact q_rm
           ·replace hm := qB b27 hm
            refine q_sk ?_
            obtain ⟨v28, h29, hm⟩ := qD hm
            refine q_du [qc 8 [115, 117, 121] 8 (JY a1.X ((a3.getD a7.toNat default).At) a6 v28 h29)] [0, 1, 0, 4, 0, 16, 48, 112, 255, 511, 1023, 1023, 1023, 2047, 10239, 28671, 61439, 131071, 262143] 8 [4, 7, 112] [] [3, 4, 5, 6, 7] [(5, bx 28 [ci v28.1.A, ci v28.1.B, ci a1.Y.A, ci a1.Y.B]), (6, bx 28 [ci v28.2.1.A, ci v28.2.1.B, ci a1.Y.A, ci a1.Y.B]), (7, bx 28 [ci v28.2.2.A, ci v28.2.2.B, ci a1.Y.A, ci a1.Y.B])] ?_
            exact q_J ((Rect.mk v28.2.2 a1.Y), (Rect.mk v28.2.1 a1.Y), (Rect.mk v28.1 a1.Y)) hm
          ·rcases Bool.eq_false_or_eq_true (decide (((a3.getD a7.toNat default).At) ≤ a1.X.A)) with b25 | b25
           ·replace hm := qC b25 hm
            refine q_vu [qf 6 b25] 8 [98] [(112, vb true)] [] [] ?_
            exact q_J (true) hm
           ·replace hm := qB b25 hm
            refine q_vu [qf 6 b25] 8 [98] [(112, vb (decide (((a3.getD a7.toNat default).At) ≥ a1.X.B)))] [] [] ?_
            exact q_J (decide (((a3.getD a7.toNat default).At) ≥ a1.X.B)) hm
         ·replace hm := qB b24 hm
          refine q_sq ?_
          refine q_jn (ι := Bool) (fun p => VM a1 a2 a3 a4 a5 a6 a7 a8 a9 p) (fun p => XH a1 a2 a3 a4 a5 a6 a7 a8 a9 (qQ n) p = some r) ?_ ?_
          ·rintro x31 hm
           show H _ (VM a1 a2 a3 a4 a5 a6 a7 a8 a9 x31) _ _
           refine q_cn x31 (fun b32 => ?_) (fun b32 => ?_)
           ·replace hm := qC b32 hm
            refine q_sq ?_
            refine q_vu [] 8 [0, 2, 4, 7, 8, 9, 10, 142] [(6, vi 20)] [3, 4, 5, 6, 7] [] ?_
            obtain rfl := Option.some.inj hm
            refine q_rt ?_
            exact q_rm
           ·replace hm := qB b32 hm
            refine q_sk ?_
            obtain ⟨v33, h34, hm⟩ := qD hm
            refine q_du [qc 8 [145, 147, 151] 8 (JY a1.Y ((a3.getD a7.toNat default).At) a6 v33 h34)] [0, 1, 0, 4, 0, 16, 48, 112, 255, 511, 1023, 1023, 1023, 2047, 10239, 28671, 61439, 131071, 262143] 8 [4, 7, 142] [] [3, 4, 5, 6, 7] [(5, bx 28 [ci a1.X.A, ci a1.X.B, ci v33.1.A, ci v33.1.B]), (6, bx 28 [ci a1.X.A, ci a1.X.B, ci v33.2.1.A, ci v33.2.1.B]), (7, bx 28 [ci a1.X.A, ci a1.X.B, ci v33.2.2.A, ci v33.2.2.B])] ?_
            exact q_J ((Rect.mk a1.X v33.2.2), (Rect.mk a1.X v33.2.1), (Rect.mk a1.X v33.1)) hm
          ·rcases Bool.eq_false_or_eq_true (decide (((a3.getD a7.toNat default).At) ≤ a1.Y.A)) with b30 | b30
           ·replace hm := qC b30 hm
            refine q_vu [qf 6 b30] 8 [98] [(142, vb true)] [] [] ?_
            exact q_J (true) hm
           ·replace hm := qB b30 hm
            refine q_vu [qf 6 b30] 8 [98] [(142, vb (decide (((a3.getD a7.toNat default).At) ≥ a1.Y.B)))] [] [] ?_
            exact q_J (decide (((a3.getD a7.toNat default).At) ≥ a1.Y.B)) hm
   ·rcases Bool.eq_false_or_eq_true (decide (((a3.getD a7.toNat default).Kind) < 0)) with b12 | b12
    ·replace hm := qC b12 hm
     refine q_vu [qf 3 b12] 5 [] [(56, vb true)] [] [] ?_
     exact q_J (true) hm
    ·replace hm := qB b12 hm
     rcases Bool.eq_false_or_eq_true (decide (((a3.getD a7.toNat default).Kind) > 3)) with b13 | b13
     ·replace hm := qC b13 hm
      refine q_vu [qf 3 b12, qf 8 b13] 5 [] [(56, vb true)] [] [] ?_
      exact q_J (true) hm
     ·replace hm := qB b13 hm
      rcases Bool.eq_false_or_eq_true (((a3.getD a7.toNat default).Kind) == 0) with b14 | b14
      ·replace hm := qC b14 hm
       refine q_vu [qf 3 b12, qf 8 b13, qf 12 b14] 5 [] [(56, vb (((a3.getD a7.toNat default).At) != 0))] [] [] ?_
       exact q_J (((a3.getD a7.toNat default).At) != 0) hm
      ·replace hm := qB b14 hm
       refine q_vu [qf 3 b12, qf 8 b13, qf 12 b14] 5 [] [(56, vb false)] [] [] ?_
       exact q_J (false) hm
theorem NR (a1 : Rect) (a2 : Int) (a3 : List Node) (a4 : List Product) (a5 : Bool) (a6 : Int) (a7 : Int) (a8 : List Leaf) (a9 : List Rect) (r : Int × Int × (List Leaf) × (List Rect)) (hm : TP a1 a2 a3 a4 a5 a6 a7 a8 a9 = some r) : CtX Tryz.prog globs 76 3 1 [.one (.bptr 0 0 0), .agg (qE a1), .one (ci a2)] [(0, bx 143 [tl qJ default a3, tl qA default a4, cb a5, ci a6, ci a7, .own 1 0 5 a8.length, .own 2 0 4 a9.length]), (1, ro 0 78 5 a8.length (rf qF a8)), (2, ro 0 28 4 a9.length (rf qE a9))] (jE a1 a2 a3 a4 a5 a6 a7 a8 a9 r) (jD a1 a2 a3 a4 a5 a6 a7 a8 a9 r) := by
 exact qAw FUEL a1 a2 a3 a4 a5 a6 a7 a8 a9 r hm
end Saw
end Go.SL
