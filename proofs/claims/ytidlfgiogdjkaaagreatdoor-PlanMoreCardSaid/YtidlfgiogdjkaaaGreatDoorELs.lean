import Derived.Test.YtidlfgiogdjkaaaGreatDoorEBase
import Derived.Test.YtidlfgiogdjkaaaGreatDoorEFa8
import Derived.Test.YtidlfgiogdjkaaaGreatDoorEFa2
set_option linter.unusedVariables false
set_option linter.unusedSimpArgs false
namespace Go.SL
namespace Saw
open Go.Proofs
set_option maxHeartbeats 4000000
set_option maxRecDepth 100000
def HP (r : Pattern × Int × Int) : V := .tup [.agg [ci r.1.Frame.X.A, ci r.1.Frame.X.B, ci r.1.Frame.Y.A, ci r.1.Frame.Y.B, .own 0 0 2 r.1.Nodes.length], .one (ci r.2.1), .one (ci r.2.2)]
def RD (r : Pattern × Int × Int) : List (Nat × (Nat × O)) := [(0, ro 0 65 2 r.1.Nodes.length (rf e_Node r.1.Nodes))]
theorem qA9 (r : Pattern × Int × Int) : yJ (RD r) := by
 intro i k o h
 unfold RD at h
 rw [look_cons] at h
 split at h
 ·cases h; exact fun _ _ => rfl
 ·cases h
theorem law24_best_ok (a1 : Law24_Given) (r : Pattern × Int × Int) (hm : jN a1 = some r) : CtX Tryz.prog globs 19 0 0 [.agg (zH a1)] [] (HP r) (RD r) := by
 unfold jN at hm
 refine q_E Tryz.f19 21 fun E => ?_
 refine s_vn [] 0 ⟨[(1, vp 0 0), (2, vp 1 0)], [(0, bx 42 (zH a1)), (1, bx 46 [ci 0, ci 0, ci 0, ci 0, .emp])]⟩ ?_
 obtain ⟨v2, h3, hm⟩ := qB hm
 refine s_vu [qc 12 [6, 8, 10, 12, 14, 16] 2 (qLF a1.Solid a1.Defects a1.Products a1.Frame a1.Saw a1.Rates v2 h3)] 2 [1] [(3, vi v2.2.1), (4, vi v2.2.2)] [0, 1] [(1, bx 46 [ci v2.1.Frame.X.A, ci v2.1.Frame.X.B, ci v2.1.Frame.Y.A, ci v2.1.Frame.Y.B, .own 2 0 2 v2.1.Nodes.length]), (2, ro 0 65 2 v2.1.Nodes.length (rf e_Node v2.1.Nodes))] ?_
 obtain rfl := oi hm
 refine qU 2 0 (by kernel_rfl) ?_
 refine q_rt ?_
 exact q_rm
def qMx (r : Int) : V := vi r
def qMg (r : Int) : List (Nat × (Nat × O)) := []
def qBH (a1 : Span) (a2 : Int) (x5 : Bool) : St :=
 ⟨[(1, vi a2), (2, vp 0 0), (16, vb x5)], [(0, bx 31 (e_Span a1))]⟩
theorem OP (a1 : Span) (a2 : Int) (r : Int) (hm : TC a1 a2 = some r) : CtX Tryz.prog globs 40 0 0 [.agg (e_Span a1), .one (ci a2)] [] (qMx r) (qMg r) := by
 unfold TC at hm
 refine q_E Tryz.f40 25 fun E => ?_
 refine s_vn [] 0 ⟨[(1, vi a2), (2, vp 0 0)], [(0, bx 31 (e_Span a1))]⟩ ?_
 refine q_sq ?_
 refine q_jn (ι := Bool) (fun p => qBH a1 a2 p) (fun p => UA a1 a2 p = some r) ?_ ?_
 ·rintro x5 hm
  show H _ (qBH a1 a2 x5) _ _
  refine q_cm hm (fun b6 hm => ?_) (fun b6 hm => ?_)
  ·refine s_vn [] 1 ⟨[(4, vi 1)], []⟩ ?_
   obtain rfl := oi hm
   refine q_rt ?_
   exact q_rm
  ·refine q_sk ?_
   obtain ⟨g7, hm⟩ := qI hm
   refine s_vn [qd 6 (Dir.none) (ET g7)] 1 ⟨[(4, vi (w64 ((w64 (Int.tdiv (w64 (a1.B - a1.A)) a2)) + 1)))], []⟩ ?_
   obtain rfl := oi hm
   refine q_rt ?_
   exact q_rm
 ·rcases bif_c hm with ⟨b3, hm⟩ | ⟨b3, hm⟩
  ·refine q_vu [qf 3 b3] 1 [] [(16, vb true)] [] [] ?_
   exact q_J (true) hm
  ·rcases bif_c hm with ⟨b4, hm⟩ | ⟨b4, hm⟩
   ·refine q_vu [qf 3 b3, qf 8 b4] 1 [] [(16, vb true)] [] [] ?_
    exact q_J (true) hm
   ·refine q_vu [qf 3 b3, qf 8 b4] 1 [] [(16, vb (decide (a2 < 1)))] [] [] ?_
    exact q_J (decide (a2 < 1)) hm
def OL (r : Bool) : V := vb r
def OG (r : Bool) : List (Nat × (Nat × O)) := []
def FQ (a1 : List qA) (x3 : Int) : St :=
 ⟨[(0, vc (tl qG default a1)), (3, vi x3)], []⟩
def qAt : St :=
 ⟨[], []⟩
theorem qFG (E : Env 0) (a1 : List qA) : ∀ (n : Nat) (x3 : Int) (res : Bool ⊕ Unit), YH a1 n x3 = some res → HL (kx E 21 0) (nd Tryz.f11 116) (jB 0 (fun o => qAt) (fun v st => RetQ Tryz.prog Tryz.f11 (OL v) (OG v) .ret st) res) n (FQ a1 x3) := by
 intro n
 induction n with
 | zero =>
  intro x3 res hm
  cases hm
 | succ n ih =>
  intro x3 res hm
  refine qN ?_
  refine q_sq ?_
  refine s_vu [] 0 [] [(10, vb (decide (x3 < ((a1.length : Nat) : Int))))] [] [] ?_
  refine q_cm hm (fun b4 hm => ?_) (fun b4 hm => ?_)
  ·refine q_sk ?_
   refine q_sq ?_
   refine q_bk 1 ?_
   obtain ⟨g5, hm⟩ := qI hm
   refine s_vu [qd 2 (Dir.none) (inb_of g5)] 0 [10] [(20, vb (decide ((((((a1.getD x3.toNat default).Sec).Rows).length : Nat) : Int) > 130)))] [] [] ?_
   refine q_cm hm (fun b6 hm => ?_) (fun b6 hm => ?_)
   ·refine s_vn [] 0 ⟨[(2, vb false)], []⟩ ?_
    obtain rfl := oi hm
    refine q_rt ?_
    refine zJ false ?_
    exact q_rm
   ·refine q_sk ?_
    refine q_vu [] 0 [3, 20] [(3, vi (w64 (x3 + 1)))] [] [] ?_
    exact q_hl (FQ a1 (w64 (x3 + 1))) (ih (w64 (x3 + 1)) _ hm)
  ·refine q_ex 0 ?_
   obtain rfl := oi hm
   exact jG () (by kernel_rfl) (by kernel_rfl)
theorem BF (a1 : List qA) (r : Bool) (hm : NQ a1 = some r) : CtX Tryz.prog globs 11 0 0 [.one (tl qG default a1)] [] (OL r) (OG r) := by
 unfold NQ at hm
 refine q_E Tryz.f11 21 fun E => ?_
 refine s_vn [] 0 ⟨[(0, vc (tl qG default a1))], []⟩ ?_
 refine q_sq ?_
 refine s_vu [] 0 [] [(6, vb (decide (((a1.length : Nat) : Int) > 30)))] [] [] ?_
 refine q_cm hm (fun b2 hm => ?_) (fun b2 hm => ?_)
 ·refine s_vn [] 0 ⟨[(2, vb false)], []⟩ ?_
  obtain rfl := oi hm
  refine q_rt ?_
  exact q_rm
 ·refine q_sk ?_
  refine q_sq ?_
  refine s_vu [] 0 [6] [(3, vi 0)] [] [] ?_
  obtain ⟨u9, h8, hm⟩ := qB hm
  refine zR (nd Tryz.f11 116) 0 (by kernel_rfl) FUEL (fun o => qAt) (fun v st => RetQ Tryz.prog Tryz.f11 (OL v) (OG v) .ret st) u9 (q_hl (FQ a1 0) (qFG E a1 FUEL 0 u9 h8)) ?_ ?_
  ·rintro v10 rfl st hr
   obtain rfl := oi hm
   exact hr
  ·rintro o7 rfl
   replace hm : _ = some r := hm
   refine s_vn [] 0 ⟨[(2, vb true)], []⟩ ?_
   obtain rfl := oi hm
   refine q_rt ?_
   exact q_rm
def qCl (r : Bool) : V := vb r
def qCu (r : Bool) : List (Nat × (Nat × O)) := []
def qDf (a1 : List Product) (x3 : Int) (x8 : Bool) : St :=
 ⟨[(0, vc (tl qC default a1)), (3, vi x3), (37, vb x8)], []⟩
def SH (a1 : List Product) (x3 : Int) : St :=
 ⟨[(0, vc (tl qC default a1)), (3, vi x3)], []⟩
def qDa : St :=
 ⟨[], []⟩
theorem qHY (E : Env 0) (a1 : List Product) : ∀ (n : Nat) (x3 : Int) (res : Bool ⊕ Unit), QP a1 n x3 = some res → HL (kx E 38 0) (nd Tryz.f10 116) (jB 0 (fun o => qDa) (fun v st => RetQ Tryz.prog Tryz.f10 (qCl v) (qCu v) .ret st) res) n (SH a1 x3) := by
 intro n
 induction n with
 | zero =>
  intro x3 res hm
  cases hm
 | succ n ih =>
  intro x3 res hm
  refine qN ?_
  refine q_sq ?_
  refine s_vu [] 0 [] [(10, vb (decide (x3 < ((a1.length : Nat) : Int))))] [] [] ?_
  refine q_cm hm (fun b4 hm => ?_) (fun b4 hm => ?_)
  ·refine q_sk ?_
   refine q_sq ?_
   refine q_bk 1 ?_
   refine q_jn (ι := Bool) (fun p => qDf a1 x3 p) (fun p => DJ x3 (QP a1 n) p = some res) ?_ ?_
   ·rintro x8 hm
    show H _ (qDf a1 x3 x8) _ _
    refine q_cm hm (fun b9 hm => ?_) (fun b9 hm => ?_)
    ·refine s_vn [] 0 ⟨[(2, vb false)], []⟩ ?_
     obtain rfl := oi hm
     refine q_rt ?_
     refine zJ false ?_
     exact q_rm
    ·refine q_sk ?_
     refine q_vu [] 0 [3, 37] [(3, vi (w64 (x3 + 1)))] [] [] ?_
     exact q_hl (SH a1 (w64 (x3 + 1))) (ih (w64 (x3 + 1)) _ hm)
   ·obtain ⟨g5, hm⟩ := qI hm
    rcases bif_c hm with ⟨b6, hm⟩ | ⟨b6, hm⟩
    ·refine q_vu [qd 2 (Dir.none) (inb_of g5), qf 7 b6] 0 [10] [(37, vb true)] [] [] ?_
     exact q_J (true) hm
    ·rcases bif_c hm with ⟨b7, hm⟩ | ⟨b7, hm⟩
     ·refine q_vu [qd 2 (Dir.none) (inb_of g5), qf 7 b6, qd 10 (Dir.none) (inb_of g5), qf 16 b7] 0 [10] [(37, vb true)] [] [] ?_
      exact q_J (true) hm
     ·refine q_vu [qd 2 (Dir.none) (inb_of g5), qf 7 b6, qd 10 (Dir.none) (inb_of g5), qf 16 b7, qd 19 (Dir.none) (inb_of g5)] 0 [10] [(37, vb (decide (((((a1.getD x3.toNat default).Prices).length : Nat) : Int) > 12)))] [] [] ?_
      exact q_J (decide (((((a1.getD x3.toNat default).Prices).length : Nat) : Int) > 12)) hm
  ·refine q_ex 0 ?_
   obtain rfl := oi hm
   exact jG () (by kernel_rfl) (by kernel_rfl)
theorem qEA (a1 : List Product) (r : Bool) (hm : IT a1 = some r) : CtX Tryz.prog globs 10 0 0 [.one (tl qC default a1)] [] (qCl r) (qCu r) := by
 unfold IT at hm
 refine q_E Tryz.f10 38 fun E => ?_
 refine s_vn [] 0 ⟨[(0, vc (tl qC default a1))], []⟩ ?_
 refine q_sq ?_
 refine s_vu [] 0 [] [(6, vb (decide (((a1.length : Nat) : Int) > 20)))] [] [] ?_
 refine q_cm hm (fun b2 hm => ?_) (fun b2 hm => ?_)
 ·refine s_vn [] 0 ⟨[(2, vb false)], []⟩ ?_
  obtain rfl := oi hm
  refine q_rt ?_
  exact q_rm
 ·refine q_sk ?_
  refine q_sq ?_
  refine s_vu [] 0 [6] [(3, vi 0)] [] [] ?_
  obtain ⟨u12, h11, hm⟩ := qB hm
  refine zR (nd Tryz.f10 116) 0 (by kernel_rfl) FUEL (fun o => qDa) (fun v st => RetQ Tryz.prog Tryz.f10 (qCl v) (qCu v) .ret st) u12 (q_hl (SH a1 0) (qHY E a1 FUEL 0 u12 h11)) ?_ ?_
  ·rintro v13 rfl st hr
   obtain rfl := oi hm
   exact hr
  ·rintro o10 rfl
   replace hm : _ = some r := hm
   refine s_vn [] 0 ⟨[(2, vb true)], []⟩ ?_
   obtain rfl := oi hm
   refine q_rt ?_
   exact q_rm
def qDY (r : Bool) : V := vb r
def FH (r : Bool) : List (Nat × (Nat × O)) := []
theorem qKG (r : Bool) : yJ (FH r) := by
 intro i k o h
 unfold FH at h
 cases h
def qAP (a1 : Law24_Given) (x15 : Bool) : St :=
 ⟨[(1, vp 0 0), (38, vb x15)], [(0, bx 42 (zH a1))]⟩
def qAr (a1 : Law24_Given) (x9 : Bool) : St :=
 ⟨[(1, vp 0 0), (24, vb x9)], [(0, bx 42 (zH a1))]⟩
theorem SB (a1 : Law24_Given) (r : Bool) (hm : YB a1 = some r) : CtX Tryz.prog globs 18 0 0 [.agg (zH a1)] [] (qDY r) (FH r) := by
 unfold YB at hm
 refine q_E Tryz.f18 55 fun E => ?_
 refine s_vn [] 0 ⟨[(1, vp 0 0)], [(0, bx 42 (zH a1))]⟩ ?_
 refine q_sq ?_
 refine q_jn (ι := Bool) (fun p => qAr a1 p) (fun p => ZV a1 p = some r) ?_ ?_
 ·rintro x9 hm
  show H _ (qAr a1 x9) _ _
  refine q_cm hm (fun b10 hm => ?_) (fun b10 hm => ?_)
  ·refine s_vn [] 1 ⟨[(2, vb false)], []⟩ ?_
   obtain rfl := oi hm
   refine q_rt ?_
   exact q_rm
  ·refine q_sk ?_
   refine q_sq ?_
   refine q_jn (ι := Bool) (fun p => qAP a1 p) (fun p => PX a1 p = some r) ?_ ?_
   ·rintro x15 hm
    show H _ (qAP a1 x15) _ _
    refine q_cm hm (fun b16 hm => ?_) (fun b16 hm => ?_)
    ·refine s_vn [] 1 ⟨[(2, vb false)], []⟩ ?_
     obtain rfl := oi hm
     refine q_rt ?_
     exact q_rm
    ·refine q_sk ?_
     obtain ⟨v17, h18, hm⟩ := qB hm
     obtain ⟨v19, h20, hm⟩ := qB hm
     refine s_dn [qc 6 [41, 44] 1 (OP a1.Frame.X a1.Saw.Pitch v17 h18), qc 13 [48, 51] 1 (OP a1.Frame.Y a1.Saw.Pitch v19 h20)] [0, 1, 3, 0, 8, 24, 63, 0, 128, 384, 0, 1024, 3072, 8191, 16383, 32767, 65535] 1 ⟨[(2, vb (decide ((w64 (v17 * v19)) ≤ 300)))], []⟩ ?_
     obtain rfl := oi hm
     refine q_rt ?_
     exact q_rm
   ·rcases bif_c hm with ⟨b11, hm⟩ | ⟨b11, hm⟩
    ·obtain ⟨v12, h13, hm⟩ := qB hm
     obtain ⟨g14, hm⟩ := qI hm
     refine q_du [qf 4 b11, qk 7 [29, 31] 1 ⟨[(29, vb true), (31, vc (tl qG default a1.Solid))], []⟩ (KE a1.Solid v12 h13), qd 11 (Dir.none) (ET g14)] [0, 1, 3, 7, 15, 31, 63, 127, 31, 287, 799, 2047, 4095, 8191] 1 [24] [(38, vb (decide ((w64 (Int.tdiv v12 a1.Saw.Step)) > 30)))] [] [] ?_
     exact q_J (decide ((w64 (Int.tdiv v12 a1.Saw.Step)) > 30)) hm
    ·refine q_du [qf 4 b11] [0, 1, 3, 7, 15, 31, 63, 127, 31, 287, 799, 2047, 4095, 8191] 1 [24] [(38, vb false)] [] [] ?_
     exact q_J (false) hm
 ·obtain ⟨v2, h3, hm⟩ := qB hm
  rcases bif_c hm with ⟨b4, hm⟩ | ⟨b4, hm⟩
  ·refine q_vu [qc 2 [4] 1 (BF a1.Solid v2 h3), qf 4 b4] 1 [] [(24, vb true)] [] [] ?_
   exact q_J (true) hm
  ·rcases bif_c hm with ⟨b5, hm⟩ | ⟨b5, hm⟩
   ·refine q_vu [qc 2 [4] 1 (BF a1.Solid v2 h3), qf 4 b4, qf 10 b5] 1 [] [(24, vb true)] [] [] ?_
    exact q_J (true) hm
   ·obtain ⟨v6, h7, hm⟩ := qB hm
    rcases bif_c hm with ⟨b8, hm⟩ | ⟨b8, hm⟩
    ·refine q_vu [qc 2 [4] 1 (BF a1.Solid v2 h3), qf 4 b4, qf 10 b5, qk 13 [13, 15] 1 ⟨[(13, vb false), (15, vc (tl qC default a1.Products))], []⟩ (qEA a1.Products v6 h7), qf 16 b8] 1 [] [(24, vb true)] [] [] ?_
     exact q_J (true) hm
    ·refine q_vu [qc 2 [4] 1 (BF a1.Solid v2 h3), qf 4 b4, qf 10 b5, qk 13 [13, 15] 1 ⟨[(13, vb false), (15, vc (tl qC default a1.Products))], []⟩ (qEA a1.Products v6 h7), qf 16 b8] 1 [] [(24, vb (decide (((a1.Products.length : Nat) : Int) > 4)))] [] [] ?_
     exact q_J (decide (((a1.Products.length : Nat) : Int) > 4)) hm
def qKs (r : Bool) : V := vb r
def qKB (r : Bool) : List (Nat × (Nat × O)) := []
theorem qI0 (a1 : Law24_Given) (r : Bool) (hm : NU a1 = some r) : CtX Tryz.prog globs 24 0 0 [.agg (zH a1)] [] (qKs r) (qKB r) := by
 unfold NU at hm
 refine q_E Tryz.f24 11 fun E => ?_
 refine s_vn [] 0 ⟨[(1, vp 0 0)], [(0, bx 42 (zH a1))]⟩ ?_
 obtain ⟨v2, h3, hm⟩ := qB hm
 refine s_vn [qc 6 [5, 8] 1 (OP a1.Frame.X a1.Saw.Pitch v2 h3)] 1 ⟨[(2, vb (decide (v2 ≤ 31)))], []⟩ ?_
 obtain rfl := oi hm
 refine q_rt ?_
 exact q_rm
end Saw
end Go.SL
