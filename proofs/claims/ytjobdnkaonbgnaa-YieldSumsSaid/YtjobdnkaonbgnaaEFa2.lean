import Derived.Test.YtjobdnkaonbgnaaEBase
set_option linter.unusedVariables false
set_option linter.unusedSimpArgs false
namespace Go.SL
namespace Saw
open Go.Proofs
set_option maxHeartbeats 4000000
set_option maxRecDepth 100000
def qAi (r : Bool) : V := vb r
def qAa (r : Bool) : List (Nat × (Nat × O)) := []
def GD (x5 : Bool) : St :=
 ⟨[(6, vb x5)], []⟩
theorem wY (a1 : Span) (a2 : Int) (a3 : Int) (r : Bool) (hm : ZX a1 a2 a3 = some r) : CtX Try.prog globs 89 0 0 [.agg (e_Span a1), .one (ci a2), .one (ci a3)] [] (qAi r) (qAa r) := by
 unfold ZX at hm
 refine q_E Try.f89 23 fun E => ?_
 refine q_sq ?_
 refine q_vn [] 0 ⟨[(1, vi a2), (2, vi a3), (3, vp 0 0)], [(0, bx 26 (e_Span a1))]⟩ ?_
 refine q_jn (ι := Bool) (fun p => GD p) (fun p => PB p = some r) ?_ ?_
 ·rintro x5 hm
  show H _ (GD x5) _ _
  obtain rfl := Option.some.inj hm
  refine q_rt ?_
  exact q_rm
 ·rcases Bool.eq_false_or_eq_true (decide ((imin a1.A a1.B) ≥ a2)) with b4 | b4
  ·replace hm := qB b4 hm
   refine q_vn [qf 7 b4] 1 ⟨[(6, vb (decide ((imax a1.A a1.B) ≤ a3)))], []⟩ ?_
   exact q_J (decide ((imax a1.A a1.B) ≤ a3)) hm
  ·replace hm := qA b4 hm
   refine q_vn [qf 7 b4] 1 ⟨[(6, vb false)], []⟩ ?_
   exact q_J (false) hm
def OM (r : Bool) : V := vb r
def OD (r : Bool) : List (Nat × (Nat × O)) := []
theorem qY (a1 : Span) (r : Bool) (hm : wE a1 = some r) : CtX Try.prog globs 88 0 0 [.agg (e_Span a1)] [] (OM r) (OD r) := by
 unfold wE at hm
 refine q_E Try.f88 8 fun E => ?_
 refine q_sq ?_
 refine q_vn [] 0 ⟨[(1, vp 0 0)], [(0, bx 26 (e_Span a1))]⟩ ?_
 refine q_sq ?_
 refine q_vn [] 1 ⟨[(2, vb (decide (a1.A ≥ a1.B)))], []⟩ ?_
 obtain rfl := Option.some.inj hm
 refine q_rt ?_
 exact q_rm
set_option maxRecDepth 100000
def qBl (r : Int) : V := vi r
def qAP (r : Int) : List (Nat × (Nat × O)) := []
def DN (x23 : Bool) : St :=
 ⟨[(29, vb x23)], []⟩
def DJ (a1 : Defect) (x13 : Bool) : St :=
 ⟨[(3, vp 1 0), (15, vb x13)], [(1, bx 52 (wM a1.Box))]⟩
def DH (a1 : Defect) (x3 : Bool) : St :=
 ⟨[(3, vp 1 0), (6, vb x3)], [(1, bx 52 (wM a1.Box))]⟩
theorem qAs (a1 : Defect) (r : Int) (hm : NJ a1 = some r) : CtX Try.prog globs 67 0 0 [.agg (qF a1)] [] (qBl r) (qAP r) := by
 unfold NJ at hm
 refine q_E Try.f67 46 fun E => ?_
 refine q_sq ?_
 refine q_vn [] 0 ⟨[(1, vp 0 0)], [(0, bx 139 (qF a1))]⟩ ?_
 refine q_sq ?_
 refine q_vu [] 1 [] [(3, vp 1 0)] [] [(1, bx 52 (wM a1.Box))] ?_
 refine q_sq ?_
 refine q_bk 0 ?_
 refine q_jn (ι := Bool) (fun p => DH a1 p) (fun p => TQ a1 p = some r) ?_ ?_
 ·rintro x3 hm
  show H _ (DH a1 x3) _ _
  refine q_cn x3 (fun b4 => ?_) (fun b4 => ?_)
  ·replace hm := qB b4 hm
   refine q_sq ?_
   refine q_vn [] 2 ⟨[(2, vi 10)], []⟩ ?_
   obtain rfl := Option.some.inj hm
   refine q_rt ?_
   exact q_rm
  ·replace hm := qA b4 hm
   refine q_jn (ι := Bool) (fun p => DJ a1 p) (fun p => JN a1 p = some r) ?_ ?_
   ·rintro x13 hm
    show H _ (DJ a1 x13) _ _
    refine q_cn x13 (fun b14 => ?_) (fun b14 => ?_)
    ·replace hm := qB b14 hm
     refine q_sq ?_
     refine q_vn [] 2 ⟨[(2, vi 19)], []⟩ ?_
     obtain rfl := Option.some.inj hm
     refine q_rt ?_
     exact q_rm
    ·replace hm := qA b14 hm
     refine q_jn (ι := Bool) (fun p => DN p) (fun p => JF p = some r) ?_ ?_
     ·rintro x23 hm
      show H _ (DN x23) _ _
      refine q_cn x23 (fun b24 => ?_) (fun b24 => ?_)
      ·replace hm := qB b24 hm
       refine q_sq ?_
       refine q_vn [] 2 ⟨[(2, vi 9)], []⟩ ?_
       obtain rfl := Option.some.inj hm
       refine q_rt ?_
       exact q_rm
      ·replace hm := qA b24 hm
       refine q_sk ?_
       refine q_sq ?_
       refine q_vn [] 2 ⟨[(2, vi 0)], []⟩ ?_
       obtain rfl := Option.some.inj hm
       refine q_rt ?_
       exact q_rm
     ·obtain ⟨v15, h16, hm⟩ := qC hm
      rcases Bool.eq_false_or_eq_true (!v15) with b17 | b17
      ·replace hm := qB b17 hm
       refine q_vn [qk 2 [31] 2 ⟨[(31, va (e_Span a1.Box.X))], []⟩ (wY a1.Box.X (-600) 600 v15 h16), qf 4 b17] 2 ⟨[(29, vb true)], []⟩ ?_
       exact q_J (true) hm
      ·replace hm := qA b17 hm
       obtain ⟨v18, h19, hm⟩ := qC hm
       rcases Bool.eq_false_or_eq_true (!v18) with b20 | b20
       ·replace hm := qB b20 hm
        refine q_vn [qk 2 [31] 2 ⟨[(31, va (e_Span a1.Box.X))], []⟩ (wY a1.Box.X (-600) 600 v15 h16), qf 4 b17, qk 7 [34, 36] 2 ⟨[(34, vb false), (36, va (e_Span a1.Box.Y))], []⟩ (wY a1.Box.Y (-600) 600 v18 h19), qf 10 b20] 2 ⟨[(29, vb true)], []⟩ ?_
        exact q_J (true) hm
       ·replace hm := qA b20 hm
        obtain ⟨v21, h22, hm⟩ := qC hm
        refine q_vn [qk 2 [31] 2 ⟨[(31, va (e_Span a1.Box.X))], []⟩ (wY a1.Box.X (-600) 600 v15 h16), qf 4 b17, qk 7 [34, 36] 2 ⟨[(34, vb false), (36, va (e_Span a1.Box.Y))], []⟩ (wY a1.Box.Y (-600) 600 v18 h19), qf 10 b20, qk 13 [40, 42] 2 ⟨[(40, vb false), (42, va (e_Span a1.Box.Z))], []⟩ (wY a1.Box.Z 0 20000 v21 h22)] 2 ⟨[(29, vb (!v21))], []⟩ ?_
        exact q_J (!v21) hm
   ·obtain ⟨v5, h6, hm⟩ := qC hm
    rcases Bool.eq_false_or_eq_true v5 with b7 | b7
    ·replace hm := qB b7 hm
     refine q_vu [qc 2 [17] 2 (qY a1.Box.X v5 h6), qf 3 b7] 2 [6] [(15, vb true)] [] [] ?_
     exact q_J (true) hm
    ·replace hm := qA b7 hm
     obtain ⟨v8, h9, hm⟩ := qC hm
     rcases Bool.eq_false_or_eq_true v8 with b10 | b10
     ·replace hm := qB b10 hm
      refine q_vu [qc 2 [17] 2 (qY a1.Box.X v5 h6), qf 3 b7, qk 6 [19, 21] 2 ⟨[(19, vb false), (21, va (e_Span a1.Box.Y))], []⟩ (qY a1.Box.Y v8 h9), qf 8 b10] 2 [6] [(15, vb true)] [] [] ?_
      exact q_J (true) hm
     ·replace hm := qA b10 hm
      obtain ⟨v11, h12, hm⟩ := qC hm
      refine q_vu [qc 2 [17] 2 (qY a1.Box.X v5 h6), qf 3 b7, qk 6 [19, 21] 2 ⟨[(19, vb false), (21, va (e_Span a1.Box.Y))], []⟩ (qY a1.Box.Y v8 h9), qf 8 b10, qk 11 [24, 26] 2 ⟨[(24, vb false), (26, va (e_Span a1.Box.Z))], []⟩ (qY a1.Box.Z v11 h12)] 2 [6] [(15, vb v11)] [] [] ?_
      exact q_J (v11) hm
 ·rcases Bool.eq_false_or_eq_true (decide (a1.Kind < 1)) with b2 | b2
  ·replace hm := qB b2 hm
   refine q_vu [qf 3 b2] 2 [1] [(6, vb true)] [0] [] ?_
   exact q_J (true) hm
  ·replace hm := qA b2 hm
   refine q_vu [qf 3 b2] 2 [1] [(6, vb (decide (a1.Kind > 6)))] [0] [] ?_
   exact q_J (decide (a1.Kind > 6)) hm
open Go.Proofs
set_option maxHeartbeats 4000000
set_option maxRecDepth 100000
def UV (r : Int) : V := vi r
def VC (r : Int) : List (Nat × (Nat × O)) := []
def XT (a1 : List Defect) (x3 : Int) : St :=
 ⟨[(9, vc (tl qF default a1)), (10, vi ((a1.length : Nat) : Int)), (11, vi x3)], []⟩
def DP : St :=
 ⟨[], []⟩
theorem EK (E : Env 0) (a1 : List Defect) : ∀ (n : Nat) (x3 : Int) (res : Int ⊕ Unit), RK a1 n x3 = some res → HL (kx E 21 0) (nd Try.f51 116) (wS 0 (fun o => DP) (fun v st => RetQ Try.prog Try.f51 (UV v) (VC v) .ret st) res) n (XT a1 x3) := by
 intro n
 induction n with
 | zero =>
  intro x3 res hm
  cases hm
 | succ n ih =>
  intro x3 res hm
  refine qU ?_
  refine q_sq ?_
  refine q_vu [] 0 [] [(12, vb (decide (x3 < ((a1.length : Nat) : Int))))] [] [] ?_
  refine q_sq ?_
  refine q_cn (decide (x3 < ((a1.length : Nat) : Int))) (fun b4 => ?_) (fun b4 => ?_)
  ·replace hm := qB b4 hm
   refine q_sk ?_
   refine q_sq ?_
   refine q_bk 1 ?_
   refine q_sq ?_
   obtain ⟨g5, hm⟩ := qO hm
   refine q_vu [qd 0 (Dir.none) (inb_of g5)] 0 [12] [(4, vp 0 0)] [] [(0, bx 139 [ci ((a1.getD x3.toNat default).Kind), ci ((((a1.getD x3.toNat default).Box).X).A), ci ((((a1.getD x3.toNat default).Box).X).B), ci ((((a1.getD x3.toNat default).Box).Y).A), ci ((((a1.getD x3.toNat default).Box).Y).B), ci ((((a1.getD x3.toNat default).Box).Z).A), ci ((((a1.getD x3.toNat default).Box).Z).B)])] ?_
   refine q_sq ?_
   obtain ⟨v6, h7, hm⟩ := qC hm
   refine q_vu [qc 1 [15] 1 (qAs (a1.getD x3.toNat default) v6 h7)] 1 [4] [(5, vi v6)] [0] [] ?_
   refine q_sq ?_
   refine q_vu [] 1 [] [(18, vb (v6 != 0))] [] [] ?_
   refine q_cn (v6 != 0) (fun b8 => ?_) (fun b8 => ?_)
   ·replace hm := qB b8 hm
    refine q_sq ?_
    refine q_vn [] 1 ⟨[(2, vi v6)], []⟩ ?_
    obtain rfl := Option.some.inj hm
    refine q_rt ?_
    refine zB v6 ?_
    exact q_rm
   ·replace hm := qA b8 hm
    refine q_sk ?_
    refine q_vu [] 1 [5, 11, 18] [(11, vi (w64 (x3 + 1)))] [] [] ?_
    exact q_hl (XT a1 (w64 (x3 + 1))) (ih (w64 (x3 + 1)) _ hm)
  ·replace hm := qA b4 hm
   refine q_ex 0 ?_
   obtain rfl := Option.some.inj hm
   exact wZ () (by kernel_rfl) (by kernel_rfl)
theorem WX (a1 : List Defect) (r : Int) (hm : RS a1 = some r) : CtX Try.prog globs 51 0 0 [.one (tl qF default a1)] [] (UV r) (VC r) := by
 unfold RS at hm
 refine q_E Try.f51 21 fun E => ?_
 refine q_sq ?_
 refine q_vn [] 0 ⟨[(0, vc (tl qF default a1))], []⟩ ?_
 refine q_sq ?_
 refine q_sq ?_
 refine q_vu [] 0 [] [(8, vb (decide (((a1.length : Nat) : Int) > 64)))] [] [] ?_
 refine q_cn (decide (((a1.length : Nat) : Int) > 64)) (fun b2 => ?_) (fun b2 => ?_)
 ·replace hm := qB b2 hm
  refine q_sq ?_
  refine q_vn [] 0 ⟨[(2, vi 4)], []⟩ ?_
  obtain rfl := Option.some.inj hm
  refine q_rt ?_
  exact q_rm
 ·replace hm := qA b2 hm
  refine q_sk ?_
  refine q_sq ?_
  refine q_sq ?_
  refine q_vn [] 0 ⟨[(9, vc (tl qF default a1)), (10, vi ((a1.length : Nat) : Int)), (11, vi 0)], []⟩ ?_
  obtain ⟨u11, h10, hm⟩ := qC hm
  refine zH (nd Try.f51 116) 0 (by kernel_rfl) FUEL (fun o => DP) (fun v st => RetQ Try.prog Try.f51 (UV v) (VC v) .ret st) u11 (q_hl (XT a1 0) (EK E a1 FUEL 0 u11 h10)) ?_ ?_
  ·rintro v12 rfl st hr
   obtain rfl := Option.some.inj hm
   exact hr
  ·rintro o9 rfl
   replace hm : _ = some r := hm
   refine q_sq ?_
   refine q_vn [] 0 ⟨[(2, vi 0)], []⟩ ?_
   obtain rfl := Option.some.inj hm
   refine q_rt ?_
   exact q_rm
def qAA (r : Bool) : V := vb r
def CA (r : Bool) : List (Nat × (Nat × O)) := []
def GE (x3 : Bool) : St :=
 ⟨[(2, vb x3)], []⟩
theorem ZW (a1 : Int) (r : Bool) (hm : KN a1 = some r) : CtX Try.prog globs 90 0 0 [.one (.val (.int .u8 a1))] [] (qAA r) (CA r) := by
 unfold KN at hm
 refine q_E Try.f90 9 fun E => ?_
 refine q_sq ?_
 refine q_vn [] 0 ⟨[(0, vc (.val (.int .u8 a1)))], []⟩ ?_
 refine q_jn (ι := Bool) (fun p => GE p) (fun p => PM p = some r) ?_ ?_
 ·rintro x3 hm
  show H _ (GE x3) _ _
  obtain rfl := Option.some.inj hm
  refine q_rt ?_
  exact q_rm
 ·rcases Bool.eq_false_or_eq_true (decide (97 ≤ a1)) with b2 | b2
  ·replace hm := qB b2 hm
   refine q_vn [qf 2 b2] 0 ⟨[(2, vb (decide (a1 ≤ 122)))], []⟩ ?_
   exact q_J (decide (a1 ≤ 122)) hm
  ·replace hm := qA b2 hm
   refine q_vn [qf 2 b2] 0 ⟨[(2, vb false)], []⟩ ?_
   exact q_J (false) hm
set_option maxRecDepth 100000
def CI (r : Bool) : V := vb r
def qAh (r : Bool) : List (Nat × (Nat × O)) := []
def VT (x3 : Bool) : St :=
 ⟨[(2, vb x3)], []⟩
theorem BQ (a1 : Int) (r : Bool) (hm : GV a1 = some r) : CtX Try.prog globs 91 0 0 [.one (.val (.int .u8 a1))] [] (CI r) (qAh r) := by
 unfold GV at hm
 refine q_E Try.f91 9 fun E => ?_
 refine q_sq ?_
 refine q_vn [] 0 ⟨[(0, vc (.val (.int .u8 a1)))], []⟩ ?_
 refine q_jn (ι := Bool) (fun p => VT p) (fun p => KV p = some r) ?_ ?_
 ·rintro x3 hm
  show H _ (VT x3) _ _
  obtain rfl := Option.some.inj hm
  refine q_rt ?_
  exact q_rm
 ·rcases Bool.eq_false_or_eq_true (decide (48 ≤ a1)) with b2 | b2
  ·replace hm := qB b2 hm
   refine q_vn [qf 2 b2] 0 ⟨[(2, vb (decide (a1 ≤ 57)))], []⟩ ?_
   exact q_J (decide (a1 ≤ 57)) hm
  ·replace hm := qA b2 hm
   refine q_vn [qf 2 b2] 0 ⟨[(2, vb false)], []⟩ ?_
   exact q_J (false) hm
open Go.Proofs
set_option maxHeartbeats 4000000
set_option maxRecDepth 100000
def VK (r : Bool) : V := vb r
def VJ (r : Bool) : List (Nat × (Nat × O)) := []
def DW (a1 : ByteArray) (x9 : Int) (x18 : Bool) : St :=
 ⟨[(0, vc (cs a1)), (3, vi x9), (39, vb x18)], []⟩
def XS (a1 : ByteArray) (x9 : Int) : St :=
 ⟨[(0, vc (cs a1)), (3, vi x9)], []⟩
def DL : St :=
 ⟨[], []⟩
def DS (a1 : ByteArray) (x7 : Bool) : St :=
 ⟨[(0, vc (cs a1)), (18, vb x7)], []⟩
theorem EC (E : Env 0) (a1 : ByteArray) : ∀ (n : Nat) (x9 : Int) (res : Bool ⊕ Unit), jG a1 n x9 = some res → HL (kx E 40 0) (nd Try.f68 116) (wS 0 (fun o => DL) (fun v st => RetQ Try.prog Try.f68 (VK v) (VJ v) .ret st) res) n (XS a1 x9) := by
 intro n
 induction n with
 | zero =>
  intro x9 res hm
  cases hm
 | succ n ih =>
  intro x9 res hm
  refine qU ?_
  refine q_sq ?_
  refine q_sq ?_
  refine q_vu [] 0 [] [(22, vb (decide (x9 < ((a1.size : Nat) : Int))))] [] [] ?_
  refine q_cn (decide (x9 < ((a1.size : Nat) : Int))) (fun b10 => ?_) (fun b10 => ?_)
  ·replace hm := qB b10 hm
   refine q_sk ?_
   refine q_sq ?_
   refine q_bk 1 ?_
   refine q_sq ?_
   obtain ⟨g11, hm⟩ := qO hm
   refine q_vu [qd 2 (Dir.none) (inb_of g11)] 0 [22] [(4, vc (.val (.int .u8 (jF a1 x9.toNat))))] [] [] ?_
   refine q_jn (ι := Bool) (fun p => DW a1 x9 p) (fun p => JH x9 (jG a1 n) p = some res) ?_ ?_
   ·rintro x18 hm
    show H _ (DW a1 x9 x18) _ _
    refine q_cn x18 (fun b19 => ?_) (fun b19 => ?_)
    ·replace hm := qB b19 hm
     refine q_sq ?_
     refine q_vn [] 0 ⟨[(2, vb false)], []⟩ ?_
     obtain rfl := Option.some.inj hm
     refine q_rt ?_
     refine zB false ?_
     exact q_rm
    ·replace hm := qA b19 hm
     refine q_sk ?_
     refine q_vu [] 0 [3, 39] [(3, vi (w64 (x9 + 1)))] [] [] ?_
     exact q_hl (XS a1 (w64 (x9 + 1))) (ih (w64 (x9 + 1)) _ hm)
   ·obtain ⟨v12, h13, hm⟩ := qC hm
    rcases Bool.eq_false_or_eq_true (!v12) with b14 | b14
    ·replace hm := qB b14 hm
     obtain ⟨v15, h16, hm⟩ := qC hm
     rcases Bool.eq_false_or_eq_true (!v15) with b17 | b17
     ·replace hm := qB b17 hm
      refine q_vu [qc 1 [28] 0 (ZW (jF a1 x9.toNat) v12 h13), qf 3 b14, qk 5 [31, 32] 0 ⟨[(31, vb true), (32, vc (.val (.int .u8 (jF a1 x9.toNat))))], []⟩ (BQ (jF a1 x9.toNat) v15 h16), qf 8 b17] 0 [4] [(39, vb ((jF a1 x9.toNat) != 95))] [] [] ?_
      exact q_J ((jF a1 x9.toNat) != 95) hm
     ·replace hm := qA b17 hm
      refine q_vu [qc 1 [28] 0 (ZW (jF a1 x9.toNat) v12 h13), qf 3 b14, qk 5 [31, 32] 0 ⟨[(31, vb true), (32, vc (.val (.int .u8 (jF a1 x9.toNat))))], []⟩ (BQ (jF a1 x9.toNat) v15 h16), qf 8 b17] 0 [4] [(39, vb false)] [] [] ?_
      exact q_J (false) hm
    ·replace hm := qA b14 hm
     refine q_vu [qc 1 [28] 0 (ZW (jF a1 x9.toNat) v12 h13), qf 3 b14] 0 [4] [(39, vb false)] [] [] ?_
     exact q_J (false) hm
  ·replace hm := qA b10 hm
   refine q_ex 0 ?_
   obtain rfl := Option.some.inj hm
   exact wZ () (by kernel_rfl) (by kernel_rfl)
theorem CS (a1 : ByteArray) (r : Bool) (hm : NL a1 = some r) : CtX Try.prog globs 68 0 0 [.one (cs a1)] [] (VK r) (VJ r) := by
 unfold NL at hm
 refine q_E Try.f68 40 fun E => ?_
 refine q_sq ?_
 refine q_vn [] 0 ⟨[(0, vc (cs a1))], []⟩ ?_
 refine q_sq ?_
 refine q_jn (ι := Bool) (fun p => DS a1 p) (fun p => JA a1 p = some r) ?_ ?_
 ·rintro x7 hm
  show H _ (DS a1 x7) _ _
  refine q_cn x7 (fun b8 => ?_) (fun b8 => ?_)
  ·replace hm := qB b8 hm
   refine q_sq ?_
   refine q_vn [] 0 ⟨[(2, vb false)], []⟩ ?_
   obtain rfl := Option.some.inj hm
   refine q_rt ?_
   exact q_rm
  ·replace hm := qA b8 hm
   refine q_sk ?_
   refine q_sq ?_
   refine q_sq ?_
   refine q_vu [] 0 [18] [(3, vi 1)] [] [] ?_
   obtain ⟨u22, h21, hm⟩ := qC hm
   refine zH (nd Try.f68 116) 0 (by kernel_rfl) FUEL (fun o => DL) (fun v st => RetQ Try.prog Try.f68 (VK v) (VJ v) .ret st) u22 (q_hl (XS a1 1) (EC E a1 FUEL 1 u22 h21)) ?_ ?_
   ·rintro v23 rfl st hr
    obtain rfl := Option.some.inj hm
    exact hr
   ·rintro o20 rfl
    replace hm : _ = some r := hm
    refine q_sq ?_
    refine q_vn [] 0 ⟨[(2, vb true)], []⟩ ?_
    obtain rfl := Option.some.inj hm
    refine q_rt ?_
    exact q_rm
 ·rcases Bool.eq_false_or_eq_true (decide (((a1.size : Nat) : Int) < 1)) with b2 | b2
  ·replace hm := qB b2 hm
   refine q_vu [qf 3 b2] 0 [] [(18, vb true)] [] [] ?_
   exact q_J (true) hm
  ·replace hm := qA b2 hm
   rcases Bool.eq_false_or_eq_true (decide (((a1.size : Nat) : Int) > 16)) with b3 | b3
   ·replace hm := qB b3 hm
    refine q_vu [qf 3 b2, qf 8 b3] 0 [] [(18, vb true)] [] [] ?_
    exact q_J (true) hm
   ·replace hm := qA b3 hm
    obtain ⟨g4, hm⟩ := qO hm
    obtain ⟨v5, h6, hm⟩ := qC hm
    refine q_vu [qf 3 b2, qf 8 b3, qd 10 (Dir.none) (inb_of g4), qk 11 [13, 15] 0 ⟨[(13, vb false), (15, vc (.val (.int .u8 (jF a1 ((0 : Int).toNat)))))], []⟩ (ZW (jF a1 ((0 : Int).toNat)) v5 h6)] 0 [] [(18, vb (!v5))] [] [] ?_
    exact q_J (!v5) hm
def UX (r : Int × Bool) : V := .tup [.one (ci r.1), .one (cb r.2)]
def VH (r : Int × Bool) : List (Nat × (Nat × O)) := []
def XQ (a1 : List Product) (a2 : ByteArray) (x3 : Int) : St :=
 ⟨[(1, vc (cs a2)), (8, vc (tl qE default a1)), (9, vi ((a1.length : Nat) : Int)), (10, vi x3)], []⟩
def DT : St :=
 ⟨[], []⟩
theorem AF (E : Env 0) (a1 : List Product) (a2 : ByteArray) : ∀ (n : Nat) (x3 : Int) (res : (Int × Bool) ⊕ Unit), TD a1 a2 n x3 = some res → HL (kx E 21 0) (nd Try.f69 52) (wS 0 (fun o => DT) (fun v st => RetQ Try.prog Try.f69 (UX v) (VH v) .ret st) res) n (XQ a1 a2 x3) := by
 intro n
 induction n with
 | zero =>
  intro x3 res hm
  cases hm
 | succ n ih =>
  intro x3 res hm
  refine qU ?_
  refine q_sq ?_
  refine q_vu [] 0 [] [(11, vb (decide (x3 < ((a1.length : Nat) : Int))))] [] [] ?_
  refine q_sq ?_
  refine q_cn (decide (x3 < ((a1.length : Nat) : Int))) (fun b4 => ?_) (fun b4 => ?_)
  ·replace hm := qB b4 hm
   refine q_sk ?_
   refine q_sq ?_
   refine q_bk 1 ?_
   refine q_sq ?_
   obtain ⟨g5, hm⟩ := qO hm
   refine q_vu [qd 1 (Dir.none) (inb_of g5)] 0 [11] [(6, vi x3), (7, vp 0 0)] [] [(0, bx 71 [cs ((a1.getD x3.toNat default).Name), ci ((a1.getD x3.toNat default).Thick), ci ((a1.getD x3.toNat default).Width), ci ((a1.getD x3.toNat default).Allow), ci ((a1.getD x3.toNat default).Wane), tl qK default ((a1.getD x3.toNat default).Lengths), tl qK default ((a1.getD x3.toNat default).Prices)])] ?_
   refine q_sq ?_
   refine q_vu [] 1 [7] [(18, vb (MY ((a1.getD x3.toNat default).Name) a2))] [0] [] ?_
   refine q_cn (MY ((a1.getD x3.toNat default).Name) a2) (fun b6 => ?_) (fun b6 => ?_)
   ·replace hm := qB b6 hm
    refine q_sq ?_
    refine q_vn [] 1 ⟨[(4, vi x3), (5, vb true)], []⟩ ?_
    obtain rfl := Option.some.inj hm
    refine q_rt ?_
    refine zB (x3, true) ?_
    exact q_rm
   ·replace hm := qA b6 hm
    refine q_sk ?_
    refine q_vu [] 1 [6, 10, 18] [(10, vi (w64 (x3 + 1)))] [] [] ?_
    exact q_hl (XQ a1 a2 (w64 (x3 + 1))) (ih (w64 (x3 + 1)) _ hm)
  ·replace hm := qA b4 hm
   refine q_ex 0 ?_
   obtain rfl := Option.some.inj hm
   exact wZ () (by kernel_rfl) (by kernel_rfl)
theorem qAD (a1 : List Product) (a2 : ByteArray) (r : Int × Bool) (hm : NQ a1 a2 = some r) : CtX Try.prog globs 69 0 0 [.one (tl qE default a1), .one (cs a2)] [] (UX r) (VH r) := by
 unfold NQ at hm
 refine q_E Try.f69 21 fun E => ?_
 refine q_sq ?_
 refine q_vn [] 0 ⟨[(0, vc (tl qE default a1)), (1, vc (cs a2))], []⟩ ?_
 refine q_sq ?_
 refine q_sq ?_
 refine q_vu [] 0 [0] [(8, vc (tl qE default a1)), (9, vi ((a1.length : Nat) : Int)), (10, vi 0)] [] [] ?_
 obtain ⟨u9, h8, hm⟩ := qC hm
 refine zH (nd Try.f69 52) 0 (by kernel_rfl) FUEL (fun o => DT) (fun v st => RetQ Try.prog Try.f69 (UX v) (VH v) .ret st) u9 (q_hl (XQ a1 a2 0) (AF E a1 a2 FUEL 0 u9 h8)) ?_ ?_
 ·rintro v10 rfl st hr
  obtain rfl := Option.some.inj hm
  exact hr
 ·rintro o7 rfl
  replace hm : _ = some r := hm
  refine q_sq ?_
  refine q_vn [] 0 ⟨[(4, vi 0), (5, vb false)], []⟩ ?_
  obtain rfl := Option.some.inj hm
  refine q_rt ?_
  exact q_rm
set_option maxRecDepth 100000
def qA3 (r : Int) : V := vi r
def qA6 (r : Int) : List (Nat × (Nat × O)) := []
theorem FK (a1 : Int) (a2 : Int) (r : Int) (hm : TF a1 a2 = some r) : CtX Try.prog globs 93 0 0 [.one (ci a1), .one (ci a2)] [] (qA3 r) (qA6 r) := by
 unfold TF at hm
 refine q_E Try.f93 11 fun E => ?_
 refine q_sq ?_
 refine q_vn [] 0 ⟨[(0, vi a1), (1, vi a2)], []⟩ ?_
 refine q_sq ?_
 refine q_vn [qd 5 (Dir.none) (show (1000 : Int) ≠ 0 by decide)] 0 ⟨[(4, vi (w64 (Int.tdiv (w64 ((w64 (a1 * (w64 (1000 + a2)))) + 999)) 1000)))], []⟩ ?_
 obtain rfl := Option.some.inj hm
 refine q_rt ?_
 exact q_rm
open Go.Proofs
set_option maxHeartbeats 4000000
set_option maxRecDepth 100000
def IZ (r : Bool) : V := vb r
def IX (r : Bool) : List (Nat × (Nat × O)) := []
def UM (x3 : Bool) : St :=
 ⟨[(2, vb x3)], []⟩
theorem zR (a1 : Int) (r : Bool) (hm : XF a1 = some r) : CtX Try.prog globs 92 0 0 [.one (ci a1)] [] (IZ r) (IX r) := by
 unfold XF at hm
 refine q_E Try.f92 9 fun E => ?_
 refine q_sq ?_
 refine q_vn [] 0 ⟨[(0, vi a1)], []⟩ ?_
 refine q_jn (ι := Bool) (fun p => UM p) (fun p => XR p = some r) ?_ ?_
 ·rintro x3 hm
  show H _ (UM x3) _ _
  obtain rfl := Option.some.inj hm
  refine q_rt ?_
  exact q_rm
 ·rcases Bool.eq_false_or_eq_true (decide (a1 ≥ 1)) with b2 | b2
  ·replace hm := qB b2 hm
   refine q_vn [qf 2 b2] 0 ⟨[(2, vb (decide (a1 ≤ 600)))], []⟩ ?_
   exact q_J (decide (a1 ≤ 600)) hm
  ·replace hm := qA b2 hm
   refine q_vn [qf 2 b2] 0 ⟨[(2, vb false)], []⟩ ?_
   exact q_J (false) hm
def CR (r : Int × Int) : V := .tup [.one (ci r.1), .one (ci r.2)]
def qAp (r : Int × Int) : List (Nat × (Nat × O)) := []
def VY (a1 : Product) (x9 : Bool) : St :=
 ⟨[(1, vp 0 0), (23, vb x9)], [(0, bx 71 (qE a1))]⟩
theorem PO (a1 : Product) (r : Int × Int) (hm : WB a1 = some r) : CtX Try.prog globs 72 0 0 [.agg (qE a1)] [] (CR r) (qAp r) := by
 unfold WB at hm
 refine q_E Try.f72 34 fun E => ?_
 refine q_sq ?_
 refine q_vn [] 0 ⟨[(1, vp 0 0)], [(0, bx 71 (qE a1))]⟩ ?_
 refine q_sq ?_
 refine q_jn (ι := Bool) (fun p => VY a1 p) (fun p => jZ a1 p = some r) ?_ ?_
 ·rintro x9 hm
  show H _ (VY a1 x9) _ _
  refine q_cn x9 (fun b10 => ?_) (fun b10 => ?_)
  ·replace hm := qB b10 hm
   refine q_sq ?_
   refine q_vn [] 1 ⟨[(2, vi 0), (3, vi 0)], []⟩ ?_
   obtain rfl := Option.some.inj hm
   refine q_rt ?_
   exact q_rm
  ·replace hm := qA b10 hm
   refine q_sk ?_
   refine q_sq ?_
   obtain ⟨v11, h12, hm⟩ := qC hm
   obtain ⟨v13, h14, hm⟩ := qC hm
   refine q_dn [qc 4 [25, 27] 1 (FK a1.Thick a1.Allow v11 h12), qc 9 [30, 32] 1 (FK a1.Width a1.Allow v13 h14)] [0, 1, 0, 4, 15, 0, 32, 0, 128, 511, 1023, 2047] 1 ⟨[(2, vi v11), (3, vi v13)], []⟩ ?_
   obtain rfl := Option.some.inj hm
   refine q_rt ?_
   exact q_rm
 ·obtain ⟨v2, h3, hm⟩ := qC hm
  rcases Bool.eq_false_or_eq_true (!v2) with b4 | b4
  ·replace hm := qB b4 hm
   refine q_vu [qc 2 [5] 1 (zR a1.Thick v2 h3), qf 4 b4] 1 [] [(23, vb true)] [] [] ?_
   exact q_J (true) hm
  ·replace hm := qA b4 hm
   obtain ⟨v5, h6, hm⟩ := qC hm
   rcases Bool.eq_false_or_eq_true (!v5) with b7 | b7
   ·replace hm := qB b7 hm
    refine q_vu [qc 2 [5] 1 (zR a1.Thick v2 h3), qf 4 b4, qk 7 [8, 10] 1 ⟨[(8, vb false), (10, vi a1.Width)], []⟩ (zR a1.Width v5 h6), qf 10 b7] 1 [] [(23, vb true)] [] [] ?_
    exact q_J (true) hm
   ·replace hm := qA b7 hm
    rcases Bool.eq_false_or_eq_true (decide (a1.Allow < 0)) with b8 | b8
    ·replace hm := qB b8 hm
     refine q_vu [qc 2 [5] 1 (zR a1.Thick v2 h3), qf 4 b4, qk 7 [8, 10] 1 ⟨[(8, vb false), (10, vi a1.Width)], []⟩ (zR a1.Width v5 h6), qf 10 b7, qf 15 b8] 1 [] [(23, vb true)] [] [] ?_
     exact q_J (true) hm
    ·replace hm := qA b8 hm
     refine q_vu [qc 2 [5] 1 (zR a1.Thick v2 h3), qf 4 b4, qk 7 [8, 10] 1 ⟨[(8, vb false), (10, vi a1.Width)], []⟩ (zR a1.Width v5 h6), qf 10 b7, qf 15 b8] 1 [] [(23, vb (decide (a1.Allow > 200)))] [] [] ?_
     exact q_J (decide (a1.Allow > 200)) hm
set_option maxRecDepth 100000
def zY (r : Int) : V := vi r
def wA (r : Int) : List (Nat × (Nat × O)) := []
def JC (a1 : Product) (x18 : Int) (x26 : Bool) : St :=
 ⟨[(1, vp 0 0), (70, vc (tl qK default a1.Lengths)), (71, vi ((a1.Lengths.length : Nat) : Int)), (72, vi x18), (94, vb x26)], [(0, bx 71 (qE a1))]⟩
def JE (a1 : Product) (x18 : Int) (x22 : Bool) : St :=
 ⟨[(1, vp 0 0), (5, vi x18), (6, vi (a1.Lengths.getD x18.toNat default)), (70, vc (tl qK default a1.Lengths)), (71, vi ((a1.Lengths.length : Nat) : Int)), (72, vi x18), (82, vb x22)], [(0, bx 71 (qE a1))]⟩
def jO (a1 : Product) (x18 : Int) : St :=
 ⟨[(1, vp 0 0), (70, vc (tl qK default a1.Lengths)), (71, vi ((a1.Lengths.length : Nat) : Int)), (72, vi x18)], [(0, bx 71 (qE a1))]⟩
def JJ (a1 : Product) : St :=
 ⟨[(1, vp 0 0)], [(0, bx 71 (qE a1))]⟩
def JG (a1 : Product) (x32 : Int) (x36 : Bool) : St :=
 ⟨[(97, vc (tl qK default a1.Prices)), (98, vi ((a1.Prices.length : Nat) : Int)), (99, vi x32), (108, vb x36)], []⟩
def jM (a1 : Product) (x32 : Int) : St :=
 ⟨[(97, vc (tl qK default a1.Prices)), (98, vi ((a1.Prices.length : Nat) : Int)), (99, vi x32)], []⟩
def WU : St :=
 ⟨[], []⟩
def JL (a1 : Product) (x10 : Bool) : St :=
 ⟨[(1, vp 0 0), (46, vb x10)], [(0, bx 71 (qE a1))]⟩
def JI (a1 : Product) (x5 : Bool) : St :=
 ⟨[(1, vp 0 0), (28, vb x5)], [(0, bx 71 (qE a1))]⟩
theorem DA (E : Env 0) (a1 : Product) : ∀ (n : Nat) (x18 : Int) (res : Int ⊕ Unit), zE a1 n x18 = some res → HL (kx E 110 0) (nd Try.f70 4084) (wS 0 (fun o => JJ a1) (fun v st => RetQ Try.prog Try.f70 (zY v) (wA v) .ret st) res) n (jO a1 x18) := by
 intro n
 induction n with
 | zero =>
  intro x18 res hm
  cases hm
 | succ n ih =>
  intro x18 res hm
  refine qU ?_
  refine q_sq ?_
  refine q_vu [] 1 [] [(73, vb (decide (x18 < ((a1.Lengths.length : Nat) : Int))))] [] [] ?_
  refine q_sq ?_
  refine q_cn (decide (x18 < ((a1.Lengths.length : Nat) : Int))) (fun b19 => ?_) (fun b19 => ?_)
  ·replace hm := qB b19 hm
   refine q_sk ?_
   refine q_sq ?_
   refine q_bk 1 ?_
   refine q_sq ?_
   obtain ⟨g20, hm⟩ := qO hm
   refine q_vu [qd 1 (Dir.none) (inb_of g20)] 1 [73] [(5, vi x18), (6, vi (a1.Lengths.getD x18.toNat default))] [] [] ?_
   refine q_sq ?_
   refine q_jn (ι := Bool) (fun p => JE a1 x18 p) (fun p => yJ a1 x18 (zE a1 n) p = some res) ?_ ?_
   ·rintro x22 hm
    show H _ (JE a1 x18 x22) _ _
    refine q_cn x22 (fun b23 => ?_) (fun b23 => ?_)
    ·replace hm := qB b23 hm
     refine q_sq ?_
     refine q_vn [] 1 ⟨[(2, vi 9)], []⟩ ?_
     obtain rfl := Option.some.inj hm
     refine q_rt ?_
     refine zB 9 ?_
     exact q_rm
    ·replace hm := qA b23 hm
     refine q_sk ?_
     refine q_jn (ι := Bool) (fun p => JC a1 x18 p) (fun p => yK x18 (zE a1 n) p = some res) ?_ ?_
     ·rintro x26 hm
      show H _ (JC a1 x18 x26) _ _
      refine q_cn x26 (fun b27 => ?_) (fun b27 => ?_)
      ·replace hm := qB b27 hm
       refine q_sq ?_
       refine q_vn [] 1 ⟨[(2, vi 11)], []⟩ ?_
       obtain rfl := Option.some.inj hm
       refine q_rt ?_
       refine zB 11 ?_
       exact q_rm
      ·replace hm := qA b27 hm
       refine q_sk ?_
       refine q_vu [] 1 [72, 94] [(72, vi (w64 (x18 + 1)))] [] [] ?_
       exact q_hl (jO a1 (w64 (x18 + 1))) (ih (w64 (x18 + 1)) _ hm)
     ·rcases Bool.eq_false_or_eq_true (decide (x18 > 0)) with b24 | b24
      ·replace hm := qB b24 hm
       obtain ⟨g25, hm⟩ := qO hm
       refine q_vu [qf 2 b24, qd 8 (Dir.none) (inb_of g25)] 1 [5, 6, 82] [(94, vb (decide ((a1.Lengths.getD x18.toNat default) ≤ (a1.Lengths.getD (w64 (x18 - 1)).toNat default))))] [] [] ?_
       exact q_J (decide ((a1.Lengths.getD x18.toNat default) ≤ (a1.Lengths.getD (w64 (x18 - 1)).toNat default))) hm
      ·replace hm := qA b24 hm
       refine q_vu [qf 2 b24] 1 [5, 6, 82] [(94, vb false)] [] [] ?_
       exact q_J (false) hm
   ·rcases Bool.eq_false_or_eq_true (decide ((a1.Lengths.getD x18.toNat default) < 100)) with b21 | b21
    ·replace hm := qB b21 hm
     refine q_vu [qf 2 b21] 1 [] [(82, vb true)] [] [] ?_
     exact q_J (true) hm
    ·replace hm := qA b21 hm
     refine q_vu [qf 2 b21] 1 [] [(82, vb (decide ((a1.Lengths.getD x18.toNat default) > 20000)))] [] [] ?_
     exact q_J (decide ((a1.Lengths.getD x18.toNat default) > 20000)) hm
  ·replace hm := qA b19 hm
   refine q_ex 0 ?_
   obtain rfl := Option.some.inj hm
   exact wZ () (by kernel_rfl) (by kernel_rfl)
theorem DB (E : Env 0) (a1 : Product) : ∀ (n : Nat) (x32 : Int) (res : Int ⊕ Unit), zQ a1 n x32 = some res → HL (kx E 110 0) (nd Try.f70 8180) (wS 2 (fun o => WU) (fun v st => RetQ Try.prog Try.f70 (zY v) (wA v) .ret st) res) n (jM a1 x32) := by
 intro n
 induction n with
 | zero =>
  intro x32 res hm
  cases hm
 | succ n ih =>
  intro x32 res hm
  refine qU ?_
  refine q_sq ?_
  refine q_vu [] 1 [] [(100, vb (decide (x32 < ((a1.Prices.length : Nat) : Int))))] [] [] ?_
  refine q_sq ?_
  refine q_cn (decide (x32 < ((a1.Prices.length : Nat) : Int))) (fun b33 => ?_) (fun b33 => ?_)
  ·replace hm := qB b33 hm
   refine q_sk ?_
   refine q_sq ?_
   refine q_bk 3 ?_
   refine q_sq ?_
   obtain ⟨g34, hm⟩ := qO hm
   refine q_vu [qd 0 (Dir.none) (inb_of g34)] 1 [100] [(8, vi (a1.Prices.getD x32.toNat default))] [] [] ?_
   refine q_jn (ι := Bool) (fun p => JG a1 x32 p) (fun p => yI x32 (zQ a1 n) p = some res) ?_ ?_
   ·rintro x36 hm
    show H _ (JG a1 x32 x36) _ _
    refine q_cn x36 (fun b37 => ?_) (fun b37 => ?_)
    ·replace hm := qB b37 hm
     refine q_sq ?_
     refine q_vn [] 1 ⟨[(2, vi 9)], []⟩ ?_
     obtain rfl := Option.some.inj hm
     refine q_rt ?_
     refine zB 9 ?_
     exact q_rm
    ·replace hm := qA b37 hm
     refine q_sk ?_
     refine q_vu [] 1 [99, 108] [(99, vi (w64 (x32 + 1)))] [] [] ?_
     exact q_hl (jM a1 (w64 (x32 + 1))) (ih (w64 (x32 + 1)) _ hm)
   ·rcases Bool.eq_false_or_eq_true (decide ((a1.Prices.getD x32.toNat default) < 0)) with b35 | b35
    ·replace hm := qB b35 hm
     refine q_vu [qf 2 b35] 1 [8] [(108, vb true)] [] [] ?_
     exact q_J (true) hm
    ·replace hm := qA b35 hm
     refine q_vu [qf 2 b35] 1 [8] [(108, vb (decide ((a1.Prices.getD x32.toNat default) > 1000000)))] [] [] ?_
     exact q_J (decide ((a1.Prices.getD x32.toNat default) > 1000000)) hm
  ·replace hm := qA b33 hm
   refine q_ex 2 ?_
   obtain rfl := Option.some.inj hm
   exact wZ () (by kernel_rfl) (by kernel_rfl)
theorem FB (a1 : Product) (r : Int) (hm : ZN a1 = some r) : CtX Try.prog globs 70 0 0 [.agg (qE a1)] [] (zY r) (wA r) := by
 unfold ZN at hm
 refine q_E Try.f70 110 fun E => ?_
 refine q_sq ?_
 refine q_vn [] 0 ⟨[(1, vp 0 0)], [(0, bx 71 (qE a1))]⟩ ?_
 refine q_sq ?_
 refine q_jn (ι := Bool) (fun p => JI a1 p) (fun p => zO a1 p = some r) ?_ ?_
 ·rintro x5 hm
  show H _ (JI a1 x5) _ _
  refine q_cn x5 (fun b6 => ?_) (fun b6 => ?_)
  ·replace hm := qB b6 hm
   refine q_sq ?_
   refine q_vn [] 1 ⟨[(2, vi 9)], []⟩ ?_
   obtain rfl := Option.some.inj hm
   refine q_rt ?_
   exact q_rm
  ·replace hm := qA b6 hm
   refine q_sk ?_
   refine q_sq ?_
   refine q_jn (ι := Bool) (fun p => JL a1 p) (fun p => zP a1 p = some r) ?_ ?_
   ·rintro x10 hm
    show H _ (JL a1 x10) _ _
    refine q_cn x10 (fun b11 => ?_) (fun b11 => ?_)
    ·replace hm := qB b11 hm
     refine q_sq ?_
     refine q_vn [] 1 ⟨[(2, vi 9)], []⟩ ?_
     obtain rfl := Option.some.inj hm
     refine q_rt ?_
     exact q_rm
    ·replace hm := qA b11 hm
     refine q_sk ?_
     refine q_sq ?_
     refine q_sq ?_
     obtain ⟨v12, h13, hm⟩ := qC hm
     refine q_vu [qc 1 [48] 1 (PO a1 v12 h13)] 1 [46] [(4, vi v12.2)] [] [] ?_
     refine q_sq ?_
     refine q_vu [] 1 [4] [(53, vb (decide (v12.2 > 600)))] [] [] ?_
     refine q_cn (decide (v12.2 > 600)) (fun b14 => ?_) (fun b14 => ?_)
     ·replace hm := qB b14 hm
      refine q_sq ?_
      refine q_vn [] 1 ⟨[(2, vi 9)], []⟩ ?_
      obtain rfl := Option.some.inj hm
      refine q_rt ?_
      exact q_rm
     ·replace hm := qA b14 hm
      refine q_sk ?_
      refine q_sq ?_
      refine q_sq ?_
      refine q_vu [] 1 [53] [(57, vb (((a1.Lengths.length : Nat) : Int) == 0))] [] [] ?_
      refine q_cn (((a1.Lengths.length : Nat) : Int) == 0) (fun b15 => ?_) (fun b15 => ?_)
      ·replace hm := qB b15 hm
       refine q_sq ?_
       refine q_vn [] 1 ⟨[(2, vi 3)], []⟩ ?_
       obtain rfl := Option.some.inj hm
       refine q_rt ?_
       exact q_rm
      ·replace hm := qA b15 hm
       refine q_sk ?_
       refine q_sq ?_
       refine q_sq ?_
       refine q_vu [] 1 [57] [(61, vb (decide (((a1.Lengths.length : Nat) : Int) > 8)))] [] [] ?_
       refine q_cn (decide (((a1.Lengths.length : Nat) : Int) > 8)) (fun b16 => ?_) (fun b16 => ?_)
       ·replace hm := qB b16 hm
        refine q_sq ?_
        refine q_vn [] 1 ⟨[(2, vi 4)], []⟩ ?_
        obtain rfl := Option.some.inj hm
        refine q_rt ?_
        exact q_rm
       ·replace hm := qA b16 hm
        refine q_sk ?_
        refine q_sq ?_
        refine q_sq ?_
        refine q_vu [] 1 [61] [(68, vb (((a1.Prices.length : Nat) : Int) != ((a1.Lengths.length : Nat) : Int)))] [] [] ?_
        refine q_cn (((a1.Prices.length : Nat) : Int) != ((a1.Lengths.length : Nat) : Int)) (fun b17 => ?_) (fun b17 => ?_)
        ·replace hm := qB b17 hm
         refine q_sq ?_
         refine q_vn [] 1 ⟨[(2, vi 19)], []⟩ ?_
         obtain rfl := Option.some.inj hm
         refine q_rt ?_
         exact q_rm
        ·replace hm := qA b17 hm
         refine q_sk ?_
         refine q_sq ?_
         refine q_sq ?_
         refine q_vu [] 1 [68] [(70, vc (tl qK default a1.Lengths)), (71, vi ((a1.Lengths.length : Nat) : Int)), (72, vi 0)] [] [] ?_
         obtain ⟨u30, h29, hm⟩ := qC hm
         refine zH (nd Try.f70 4084) 0 (by kernel_rfl) FUEL (fun o => JJ a1) (fun v st => RetQ Try.prog Try.f70 (zY v) (wA v) .ret st) u30 (q_hl (jO a1 0) (DA E a1 FUEL 0 u30 h29)) ?_ ?_
         ·rintro v31 rfl st hr
          obtain rfl := Option.some.inj hm
          exact hr
         ·rintro o28 rfl
          replace hm : _ = some r := hm
          refine q_sq ?_
          refine q_sq ?_
          refine q_vn [] 1 ⟨[(97, vc (tl qK default a1.Prices)), (98, vi ((a1.Prices.length : Nat) : Int)), (99, vi 0)], []⟩ ?_
          obtain ⟨u40, h39, hm⟩ := qC hm
          refine zH (nd Try.f70 8180) 2 (by kernel_rfl) FUEL (fun o => WU) (fun v st => RetQ Try.prog Try.f70 (zY v) (wA v) .ret st) u40 (q_hl (jM a1 0) (DB E a1 FUEL 0 u40 h39)) ?_ ?_
          ·rintro v41 rfl st hr
           obtain rfl := Option.some.inj hm
           exact hr
          ·rintro o38 rfl
           replace hm : _ = some r := hm
           refine q_sq ?_
           refine q_vn [] 1 ⟨[(2, vi 0)], []⟩ ?_
           obtain rfl := Option.some.inj hm
           refine q_rt ?_
           exact q_rm
   ·rcases Bool.eq_false_or_eq_true (decide (a1.Allow < 0)) with b7 | b7
    ·replace hm := qB b7 hm
     refine q_vu [qf 3 b7] 1 [28] [(46, vb true)] [] [] ?_
     exact q_J (true) hm
    ·replace hm := qA b7 hm
     rcases Bool.eq_false_or_eq_true (decide (a1.Allow > 200)) with b8 | b8
     ·replace hm := qB b8 hm
      refine q_vu [qf 3 b7, qf 8 b8] 1 [28] [(46, vb true)] [] [] ?_
      exact q_J (true) hm
     ·replace hm := qA b8 hm
      rcases Bool.eq_false_or_eq_true (decide (a1.Wane < 0)) with b9 | b9
      ·replace hm := qB b9 hm
       refine q_vu [qf 3 b7, qf 8 b8, qf 13 b9] 1 [28] [(46, vb true)] [] [] ?_
       exact q_J (true) hm
      ·replace hm := qA b9 hm
       refine q_vu [qf 3 b7, qf 8 b8, qf 13 b9] 1 [28] [(46, vb (decide (a1.Wane > 1000)))] [] [] ?_
       exact q_J (decide (a1.Wane > 1000)) hm
 ·rcases Bool.eq_false_or_eq_true (decide (a1.Thick < 5)) with b2 | b2
  ·replace hm := qB b2 hm
   refine q_vu [qf 3 b2] 1 [] [(28, vb true)] [] [] ?_
   exact q_J (true) hm
  ·replace hm := qA b2 hm
   rcases Bool.eq_false_or_eq_true (decide (a1.Thick > 300)) with b3 | b3
   ·replace hm := qB b3 hm
    refine q_vu [qf 3 b2, qf 8 b3] 1 [] [(28, vb true)] [] [] ?_
    exact q_J (true) hm
   ·replace hm := qA b3 hm
    rcases Bool.eq_false_or_eq_true (decide (a1.Width < a1.Thick)) with b4 | b4
    ·replace hm := qB b4 hm
     refine q_vu [qf 3 b2, qf 8 b3, qf 15 b4] 1 [] [(28, vb true)] [] [] ?_
     exact q_J (true) hm
    ·replace hm := qA b4 hm
     refine q_vu [qf 3 b2, qf 8 b3, qf 15 b4] 1 [] [(28, vb (decide (a1.Width > 600)))] [] [] ?_
     exact q_J (decide (a1.Width > 600)) hm
open Go.Proofs
set_option maxHeartbeats 4000000
set_option maxRecDepth 100000
def yS (r : Int) : V := vi r
def wJ (r : Int) : List (Nat × (Nat × O)) := []
theorem FZ (r : Int) : YA (wJ r) := by
 intro i k o h
 unfold wJ at h
 cases h
def YJ (a1 : List Product) (x3 : Int) : St :=
 ⟨[(0, vc (tl qE default a1)), (11, vc (tl qE default a1)), (12, vi ((a1.length : Nat) : Int)), (13, vi x3)], []⟩
def VX : St :=
 ⟨[], []⟩
theorem SF (E : Env 0) (a1 : List Product) : ∀ (n : Nat) (x3 : Int) (res : Int ⊕ Unit), KU a1 n x3 = some res → HL (kx E 38 0) (nd Try.f52 116) (wS 0 (fun o => VX) (fun v st => RetQ Try.prog Try.f52 (yS v) (wJ v) .ret st) res) n (YJ a1 x3) := by
 intro n
 induction n with
 | zero =>
  intro x3 res hm
  cases hm
 | succ n ih =>
  intro x3 res hm
  refine qU ?_
  refine q_sq ?_
  refine q_vu [] 0 [] [(14, vb (decide (x3 < ((a1.length : Nat) : Int))))] [] [] ?_
  refine q_sq ?_
  refine q_cn (decide (x3 < ((a1.length : Nat) : Int))) (fun b4 => ?_) (fun b4 => ?_)
  ·replace hm := qB b4 hm
   refine q_sk ?_
   refine q_sq ?_
   refine q_bk 1 ?_
   refine q_sq ?_
   obtain ⟨g5, hm⟩ := qO hm
   refine q_vu [qd 1 (Dir.none) (inb_of g5)] 0 [14] [(3, vi x3), (4, vp 0 0)] [] [(0, bx 71 [cs ((a1.getD x3.toNat default).Name), ci ((a1.getD x3.toNat default).Thick), ci ((a1.getD x3.toNat default).Width), ci ((a1.getD x3.toNat default).Allow), ci ((a1.getD x3.toNat default).Wane), tl qK default ((a1.getD x3.toNat default).Lengths), tl qK default ((a1.getD x3.toNat default).Prices)])] ?_
   refine q_sq ?_
   refine q_sq ?_
   obtain ⟨v6, h7, hm⟩ := qC hm
   refine q_vu [qc 2 [19] 1 (CS ((a1.getD x3.toNat default).Name) v6 h7)] 1 [] [(21, vb (!v6))] [] [] ?_
   refine q_cn (!v6) (fun b8 => ?_) (fun b8 => ?_)
   ·replace hm := qB b8 hm
    refine q_sq ?_
    refine q_vn [] 1 ⟨[(2, vi 6)], []⟩ ?_
    obtain rfl := Option.some.inj hm
    refine q_rt ?_
    refine zB 6 ?_
    exact q_rm
   ·replace hm := qA b8 hm
    refine q_sk ?_
    refine q_sq ?_
    refine q_sq ?_
    obtain ⟨g9, hm⟩ := qO hm
    obtain ⟨v10, h11, hm⟩ := qC hm
    refine q_du [qd 2 (drw ((a1.take x3.toNat).length) 0 (rf qE (a1.take x3.toNat))) (slPhi qE default a1 x3 (And.intro (slOk_of g9).2.1 (slOk_of g9).2.2)), qc 5 [25, 27] 1 (qAD (a1.take x3.toNat) ((a1.getD x3.toNat default).Name) v10 h11)] [0, 0, 3, 0, 8, 31, 63, 127, 127, 255, 1023] 1 [3, 21] [(6, vb v10.2)] [] [] ?_
    refine q_sq ?_
    refine q_vu [] 1 [6] [(31, vb v10.2)] [] [] ?_
    refine q_cn v10.2 (fun b12 => ?_) (fun b12 => ?_)
    ·replace hm := qB b12 hm
     refine q_sq ?_
     refine q_vn [] 1 ⟨[(2, vi 7)], []⟩ ?_
     obtain rfl := Option.some.inj hm
     refine q_rt ?_
     refine zB 7 ?_
     exact q_rm
    ·replace hm := qA b12 hm
     refine q_sk ?_
     refine q_sq ?_
     obtain ⟨v13, h14, hm⟩ := qC hm
     refine q_vu [qc 1 [32] 1 (FB (a1.getD x3.toNat default) v13 h14)] 1 [4, 31] [(7, vi v13)] [0] [] ?_
     refine q_sq ?_
     refine q_vu [] 1 [] [(35, vb (v13 != 0))] [] [] ?_
     refine q_cn (v13 != 0) (fun b15 => ?_) (fun b15 => ?_)
     ·replace hm := qB b15 hm
      refine q_sq ?_
      refine q_vn [] 1 ⟨[(2, vi v13)], []⟩ ?_
      obtain rfl := Option.some.inj hm
      refine q_rt ?_
      refine zB v13 ?_
      exact q_rm
     ·replace hm := qA b15 hm
      refine q_sk ?_
      refine q_vu [] 1 [7, 13, 35] [(13, vi (w64 (x3 + 1)))] [] [] ?_
      exact q_hl (YJ a1 (w64 (x3 + 1))) (ih (w64 (x3 + 1)) _ hm)
  ·replace hm := qA b4 hm
   refine q_ex 0 ?_
   obtain rfl := Option.some.inj hm
   exact wZ () (by kernel_rfl) (by kernel_rfl)
theorem PE (a1 : List Product) (r : Int) (hm : KL a1 = some r) : CtX Try.prog globs 52 0 0 [.one (tl qE default a1)] [] (yS r) (wJ r) := by
 unfold KL at hm
 refine q_E Try.f52 38 fun E => ?_
 refine q_sq ?_
 refine q_vn [] 0 ⟨[(0, vc (tl qE default a1))], []⟩ ?_
 refine q_sq ?_
 refine q_sq ?_
 refine q_vu [] 0 [] [(10, vb (decide (((a1.length : Nat) : Int) > 16)))] [] [] ?_
 refine q_cn (decide (((a1.length : Nat) : Int) > 16)) (fun b2 => ?_) (fun b2 => ?_)
 ·replace hm := qB b2 hm
  refine q_sq ?_
  refine q_vn [] 0 ⟨[(2, vi 4)], []⟩ ?_
  obtain rfl := Option.some.inj hm
  refine q_rt ?_
  exact q_rm
 ·replace hm := qA b2 hm
  refine q_sk ?_
  refine q_sq ?_
  refine q_sq ?_
  refine q_vu [] 0 [10] [(11, vc (tl qE default a1)), (12, vi ((a1.length : Nat) : Int)), (13, vi 0)] [] [] ?_
  obtain ⟨u18, h17, hm⟩ := qC hm
  refine zH (nd Try.f52 116) 0 (by kernel_rfl) FUEL (fun o => VX) (fun v st => RetQ Try.prog Try.f52 (yS v) (wJ v) .ret st) u18 (q_hl (YJ a1 0) (SF E a1 FUEL 0 u18 h17)) ?_ ?_
  ·rintro v19 rfl st hr
   obtain rfl := Option.some.inj hm
   exact hr
  ·rintro o16 rfl
   replace hm : _ = some r := hm
   refine q_sq ?_
   refine q_vn [] 0 ⟨[(2, vi 0)], []⟩ ?_
   obtain rfl := Option.some.inj hm
   refine q_rt ?_
   exact q_rm
def qAO (r : Bool) : V := vb r
def qAH (r : Bool) : List (Nat × (Nat × O)) := []
def DU (x3 : Bool) : St :=
 ⟨[(2, vb x3)], []⟩
theorem FJ (a1 : Int) (r : Bool) (hm : TE a1 = some r) : CtX Try.prog globs 62 0 0 [.one (ci a1)] [] (qAO r) (qAH r) := by
 unfold TE at hm
 refine q_E Try.f62 9 fun E => ?_
 refine q_sq ?_
 refine q_vn [] 0 ⟨[(0, vi a1)], []⟩ ?_
 refine q_jn (ι := Bool) (fun p => DU p) (fun p => UD p = some r) ?_ ?_
 ·rintro x3 hm
  show H _ (DU x3) _ _
  obtain rfl := Option.some.inj hm
  refine q_rt ?_
  exact q_rm
 ·rcases Bool.eq_false_or_eq_true (decide (a1 ≥ 0)) with b2 | b2
  ·replace hm := qB b2 hm
   refine q_vn [qf 2 b2] 0 ⟨[(2, vb (decide (a1 ≤ 1000000)))], []⟩ ?_
   exact q_J (decide (a1 ≤ 1000000)) hm
  ·replace hm := qA b2 hm
   refine q_vn [qf 2 b2] 0 ⟨[(2, vb false)], []⟩ ?_
   exact q_J (false) hm
set_option maxRecDepth 100000
def qAY (r : Bool) : V := vb r
def qBm (r : Bool) : List (Nat × (Nat × O)) := []
def BD (x3 : Bool) : St :=
 ⟨[(2, vb x3)], []⟩
theorem TK (a1 : Int) (r : Bool) (hm : TC a1 = some r) : CtX Try.prog globs 61 0 0 [.one (ci a1)] [] (qAY r) (qBm r) := by
 unfold TC at hm
 refine q_E Try.f61 9 fun E => ?_
 refine q_sq ?_
 refine q_vn [] 0 ⟨[(0, vi a1)], []⟩ ?_
 refine q_jn (ι := Bool) (fun p => BD p) (fun p => RY p = some r) ?_ ?_
 ·rintro x3 hm
  show H _ (BD x3) _ _
  obtain rfl := Option.some.inj hm
  refine q_rt ?_
  exact q_rm
 ·rcases Bool.eq_false_or_eq_true (decide (a1 ≥ 1)) with b2 | b2
  ·replace hm := qB b2 hm
   refine q_vn [qf 2 b2] 0 ⟨[(2, vb (decide (a1 ≤ 20000)))], []⟩ ?_
   exact q_J (decide (a1 ≤ 20000)) hm
  ·replace hm := qA b2 hm
   refine q_vn [qf 2 b2] 0 ⟨[(2, vb false)], []⟩ ?_
   exact q_J (false) hm
open Go.Proofs
set_option maxHeartbeats 4000000
set_option maxRecDepth 100000
def qBP (r : Int) : V := vi r
def qB3 (r : Int) : List (Nat × (Nat × O)) := []
def FA (x20 : Bool) : St :=
 ⟨[(60, vb x20)], []⟩
def BT (a2 : Rates) (x12 : Bool) : St :=
 ⟨[(3, vp 1 0), (36, vb x12)], [(1, bx 35 (yM a2))]⟩
def BW (a1 : Saw) (a2 : Rates) (x6 : Bool) : St :=
 ⟨[(2, vp 0 0), (3, vp 1 0), (22, vb x6)], [(0, bx 33 (zU a1)), (1, bx 35 (yM a2))]⟩
theorem qAN (a1 : Saw) (a2 : Rates) (r : Int) (hm : LP a1 a2 = some r) : CtX Try.prog globs 53 0 0 [.agg (zU a1), .agg (yM a2)] [] (qBP r) (qB3 r) := by
 unfold LP at hm
 refine q_E Try.f53 61 fun E => ?_
 refine q_sq ?_
 refine q_vn [] 0 ⟨[(2, vp 0 0), (3, vp 1 0)], [(0, bx 33 (zU a1)), (1, bx 35 (yM a2))]⟩ ?_
 refine q_sq ?_
 refine q_jn (ι := Bool) (fun p => BW a1 a2 p) (fun p => QV a1 a2 p = some r) ?_ ?_
 ·rintro x6 hm
  show H _ (BW a1 a2 x6) _ _
  refine q_cn x6 (fun b7 => ?_) (fun b7 => ?_)
  ·replace hm := qB b7 hm
   refine q_sq ?_
   refine q_vn [] 2 ⟨[(4, vi 9)], []⟩ ?_
   obtain rfl := Option.some.inj hm
   refine q_rt ?_
   exact q_rm
  ·replace hm := qA b7 hm
   refine q_sk ?_
   refine q_sq ?_
   refine q_jn (ι := Bool) (fun p => BT a2 p) (fun p => XD a2 p = some r) ?_ ?_
   ·rintro x12 hm
    show H _ (BT a2 x12) _ _
    refine q_cn x12 (fun b13 => ?_) (fun b13 => ?_)
    ·replace hm := qB b13 hm
     refine q_sq ?_
     refine q_vn [] 2 ⟨[(4, vi 9)], []⟩ ?_
     obtain rfl := Option.some.inj hm
     refine q_rt ?_
     exact q_rm
    ·replace hm := qA b13 hm
     refine q_sk ?_
     refine q_sq ?_
     refine q_jn (ι := Bool) (fun p => FA p) (fun p => jR p = some r) ?_ ?_
     ·rintro x20 hm
      show H _ (FA x20) _ _
      refine q_cn x20 (fun b21 => ?_) (fun b21 => ?_)
      ·replace hm := qB b21 hm
       refine q_sq ?_
       refine q_vn [] 2 ⟨[(4, vi 9)], []⟩ ?_
       obtain rfl := Option.some.inj hm
       refine q_rt ?_
       exact q_rm
      ·replace hm := qA b21 hm
       refine q_sk ?_
       refine q_sq ?_
       refine q_vn [] 2 ⟨[(4, vi 0)], []⟩ ?_
       obtain rfl := Option.some.inj hm
       refine q_rt ?_
       exact q_rm
     ·rcases Bool.eq_false_or_eq_true (decide (a2.Chip < 0)) with b14 | b14
      ·replace hm := qB b14 hm
       refine q_vn [qf 3 b14] 2 ⟨[(60, vb true)], []⟩ ?_
       exact q_J (true) hm
      ·replace hm := qA b14 hm
       rcases Bool.eq_false_or_eq_true (decide (a2.Chip > 1000)) with b15 | b15
       ·replace hm := qB b15 hm
        refine q_vn [qf 3 b14, qf 8 b15] 2 ⟨[(60, vb true)], []⟩ ?_
        exact q_J (true) hm
       ·replace hm := qA b15 hm
        rcases Bool.eq_false_or_eq_true (decide (a2.Dust < 0)) with b16 | b16
        ·replace hm := qB b16 hm
         refine q_vn [qf 3 b14, qf 8 b15, qf 13 b16] 2 ⟨[(60, vb true)], []⟩ ?_
         exact q_J (true) hm
        ·replace hm := qA b16 hm
         rcases Bool.eq_false_or_eq_true (decide (a2.Dust > 1000)) with b17 | b17
         ·replace hm := qB b17 hm
          refine q_vn [qf 3 b14, qf 8 b15, qf 13 b16, qf 18 b17] 2 ⟨[(60, vb true)], []⟩ ?_
          exact q_J (true) hm
         ·replace hm := qA b17 hm
          obtain ⟨v18, h19, hm⟩ := qC hm
          refine q_vn [qf 3 b14, qf 8 b15, qf 13 b16, qf 18 b17, qk 21 [55, 57] 2 ⟨[(55, vb false), (57, vi a2.Fine)], []⟩ (FJ a2.Fine v18 h19)] 2 ⟨[(60, vb (!v18))], []⟩ ?_
          exact q_J (!v18) hm
   ·rcases Bool.eq_false_or_eq_true (decide (a1.Pitch < 1)) with b8 | b8
    ·replace hm := qB b8 hm
     refine q_vu [qf 3 b8] 2 [2, 22] [(36, vb true)] [0] [] ?_
     exact q_J (true) hm
    ·replace hm := qA b8 hm
     rcases Bool.eq_false_or_eq_true (decide (a1.Pitch > 2000)) with b9 | b9
     ·replace hm := qB b9 hm
      refine q_vu [qf 3 b8, qf 8 b9] 2 [2, 22] [(36, vb true)] [0] [] ?_
      exact q_J (true) hm
     ·replace hm := qA b9 hm
      obtain ⟨v10, h11, hm⟩ := qC hm
      refine q_vu [qf 3 b8, qf 8 b9, qk 11 [31, 33] 2 ⟨[(31, vb false), (33, vi a1.Step)], []⟩ (TK a1.Step v10 h11)] 2 [2, 22] [(36, vb (!v10))] [0] [] ?_
      exact q_J (!v10) hm
 ·rcases Bool.eq_false_or_eq_true (decide (a1.Kerf < 0)) with b3 | b3
  ·replace hm := qB b3 hm
   refine q_vu [qf 3 b3] 2 [] [(22, vb true)] [] [] ?_
   exact q_J (true) hm
  ·replace hm := qA b3 hm
   rcases Bool.eq_false_or_eq_true (decide (a1.Kerf > 20)) with b4 | b4
   ·replace hm := qB b4 hm
    refine q_vu [qf 3 b3, qf 8 b4] 2 [] [(22, vb true)] [] [] ?_
    exact q_J (true) hm
   ·replace hm := qA b4 hm
    rcases Bool.eq_false_or_eq_true (decide (a1.Trim < 0)) with b5 | b5
    ·replace hm := qB b5 hm
     refine q_vu [qf 3 b3, qf 8 b4, qf 13 b5] 2 [] [(22, vb true)] [] [] ?_
     exact q_J (true) hm
    ·replace hm := qA b5 hm
     refine q_vu [qf 3 b3, qf 8 b4, qf 13 b5] 2 [] [(22, vb (decide (a1.Trim > 20)))] [] [] ?_
     exact q_J (decide (a1.Trim > 20)) hm
end Saw
end Go.SL
