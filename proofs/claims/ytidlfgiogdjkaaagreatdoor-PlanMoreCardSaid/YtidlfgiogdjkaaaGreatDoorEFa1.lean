import Derived.Test.YtidlfgiogdjkaaaGreatDoorEBase
set_option linter.unusedVariables false
set_option linter.unusedSimpArgs false
namespace Go.SL
namespace Saw
open Go.Proofs
set_option maxHeartbeats 4000000
set_option maxRecDepth 100000
def qK1 (r : Rect) : V := va (qH r)
def qLo (r : Rect) : List (Nat × (Nat × O)) := []
theorem ON (a1 : Rect) (a2 : Int) (a3 : Int) (r : Rect) (hm : RY a1 a2 a3 = some r) : CtX Tryz.prog globs 88 0 0 [.agg (qH a1), .one (ci a2), .one (ci a3)] [] (qK1 r) (qLo r) := by
 unfold RY at hm
 refine q_E Tryz.f88 21 fun E => ?_
 refine s_vn [] 0 ⟨[(1, vi a2), (2, vi a3), (3, vp 0 0), (6, vp 1 0)], [(0, bx 33 (qH a1)), (1, bx 33 [ci 0, ci 0, ci 0, ci 0])]⟩ ?_
 refine s_vn [] 2 ⟨[(6, vp 1 0)], [(1, bx 33 [ci a1.X.A, ci a1.X.B, ci (w64 (a1.Y.A + a2)), ci (w64 (a1.Y.A + a3))])]⟩ ?_
 obtain rfl := oi hm
 refine q_rt ?_
 exact q_rm
def CC (a1 : List Node) (a2 : List (List Node)) (r : (List (List Node)) × (List (List Node))) : V := vo 0 0 1 r.2.length
def plan_collect_s1_o (a1 : List Node) (a2 : List (List Node)) (r : (List (List Node)) × (List (List Node))) : List (Nat × (Nat × O)) := [(0, ro 0 44 1 r.2.length (rf (qD e_Node) r.2))]
theorem qE2 (a1 : List Node) (a2 : List (List Node)) (r : (List (List Node)) × (List (List Node))) (hm : VQ a1 a2 = some r) : CtX Tryz.prog globs 89 1 0 [.one (.own 0 0 1 a2.length), .one (tl e_Node default a1)] [(0, ro 0 44 1 a2.length (rf (qD e_Node) a2))] (CC a1 a2 r) (plan_collect_s1_o a1 a2 r) := by
 unfold VQ at hm
 refine q_E Tryz.f89 9 fun E => ?_
 refine s_vn [] 1 ⟨[(0, vo 0 0 1 a2.length), (1, vc (tl e_Node default a1))], [(0, ro 0 44 1 a2.length (rf (qD e_Node) a2))]⟩ ?_
 obtain ⟨g3, hm⟩ := qI hm
 refine s_vn [qd 2 (drw 1 0 (rf (qD e_Node) ([a1] : List (List Node)))) (litP (qD e_Node) default 1 (fun _ => rfl) ([a1] : List (List Node)) 1 rfl), qd 3 (drw 0 1 (rf (qD e_Node) (a2 ++ ([a1] : List (List Node))))) (apP (qD e_Node) default a2 ([a1] : List (List Node)) a2.length 1 1 24 (1 ≤ 1) (Nat.le_refl _) rfl rfl (fun _ => rfl) (zO g3))] 1 ⟨[(4, vo 0 1 1 (a2.length + 1))], [(0, ro 1 44 1 (a2.length + 1) (rf (qD e_Node) (a2 ++ ([a1] : List (List Node)))))]⟩ ?_
 refine q_fn [.len 0 ((a2 ++ ([a1] : List (List Node))).length)] ⟨[(4, vo 0 1 1 ((a2 ++ ([a1] : List (List Node))).length))], [(0, ro 1 44 1 ((a2 ++ ([a1] : List (List Node))).length) (rf (qD e_Node) (a2 ++ ([a1] : List (List Node)))))]⟩ (o1 (And.intro (Eq.symm (show (a2 ++ ([a1] : List (List Node))).length = (a2.length + 1) from (len_app rfl rfl))) (Eq.symm (show (a2 ++ ([a1] : List (List Node))).length = (a2.length + 1) from (len_app rfl rfl))))) ?_
 obtain rfl := oi hm
 refine q_rt ?_
 exact q_rm
def qFP (r : Bool) : V := vb r
def qFE (r : Bool) : List (Nat × (Nat × O)) := []
def HF (x3 : Bool) : St :=
 ⟨[(2, vb x3)], []⟩
theorem qEO (a1 : Span) (r : Bool) (hm : KI a1 = some r) : CtX Tryz.prog globs 203 0 0 [.agg (e_Span a1)] [] (qFP r) (qFE r) := by
 unfold KI at hm
 refine q_E Tryz.f203 17 fun E => ?_
 refine s_vn [] 0 ⟨[(1, vp 0 0)], [(0, bx 31 (e_Span a1))]⟩ ?_
 refine q_jn (ι := Bool) (fun p => HF p) (fun p => XZ p = some r) ?_ ?_
 ·rintro x3 hm
  show H _ (HF x3) _ _
  obtain rfl := oi hm
  refine q_rt ?_
  exact q_rm
 ·rcases bif_c hm with ⟨b2, hm⟩ | ⟨b2, hm⟩
  ·refine q_vn [qf 6 b2] 1 ⟨[(2, vb (decide ((imax a1.A a1.B) ≤ 600)))], []⟩ ?_
   exact q_J (decide ((imax a1.A a1.B) ≤ 600)) hm
  ·refine q_vn [qf 6 b2] 1 ⟨[(2, vb false)], []⟩ ?_
   exact q_J (false) hm
def qFL (r : Bool) : V := vb r
def qFx (r : Bool) : List (Nat × (Nat × O)) := []
theorem QB (a1 : Span) (r : Bool) (hm : QL a1 = some r) : CtX Tryz.prog globs 143 0 0 [.agg (e_Span a1)] [] (qFL r) (qFx r) := by
 unfold QL at hm
 refine q_E Tryz.f143 8 fun E => ?_
 refine s_vn [] 0 ⟨[(1, vp 0 0)], [(0, bx 31 (e_Span a1))]⟩ ?_
 refine s_vn [] 1 ⟨[(2, vb (decide (a1.A ≥ a1.B)))], []⟩ ?_
 obtain rfl := oi hm
 refine q_rt ?_
 exact q_rm
def XT (r : Int) : V := vi r
def XV (r : Int) : List (Nat × (Nat × O)) := []
def GF (a1 : qJ) (x6 : Int) : St :=
 ⟨[(1, vp 0 0), (3, vi ((a1.Rows.length : Nat) : Int)), (24, vc (tl e_Span default a1.Rows)), (25, vi ((a1.Rows.length : Nat) : Int)), (26, vi x6)], [(0, bx 70 (zP a1))]⟩
def AW (a1 : qJ) : St :=
 ⟨[(1, vp 0 0), (3, vi ((a1.Rows.length : Nat) : Int))], [(0, bx 70 (zP a1))]⟩
def AV (a1 : qJ) (x27 : Int) (x33 : Bool) : St :=
 ⟨[(54, vc (tl e_Span default a1.Rows)), (55, vi ((a1.Rows.length : Nat) : Int)), (56, vi x27), (66, vb x33)], []⟩
def DC (a1 : qJ) (x27 : Int) : St :=
 ⟨[(54, vc (tl e_Span default a1.Rows)), (55, vi ((a1.Rows.length : Nat) : Int)), (56, vi x27)], []⟩
def IV : St :=
 ⟨[], []⟩
def OC (a1 : qJ) (x25 : Bool) : St :=
 ⟨[(1, vp 0 0), (52, vb x25)], [(0, bx 70 (zP a1))]⟩
def AP (a1 : qJ) (x4 : Bool) : St :=
 ⟨[(1, vp 0 0), (3, vi ((a1.Rows.length : Nat) : Int)), (22, vb x4)], [(0, bx 70 (zP a1))]⟩
theorem qD9 (E : Env 0) (a1 : qJ) : ∀ (n : Nat) (x6 : Int) (res : Int ⊕ Unit), yU a1 n x6 = some res → HL (kx E 68 0) (nd Tryz.f170 500) (jB 0 (fun o => AW a1) (fun v st => RetQ Tryz.prog Tryz.f170 (XT v) (XV v) .ret st) res) n (GF a1 x6) := by
 intro n
 induction n with
 | zero =>
  intro x6 res hm
  cases hm
 | succ n ih =>
  intro x6 res hm
  refine qN ?_
  refine s_vu [] 1 [] [(27, vb (decide (x6 < ((a1.Rows.length : Nat) : Int))))] [] [] ?_
  refine q_sq ?_
  refine q_cm hm (fun b7 hm => ?_) (fun b7 hm => ?_)
  ·refine q_sk ?_
   refine q_sq ?_
   refine q_bk 1 ?_
   obtain ⟨g8, hm⟩ := qI hm
   refine s_vu [qd 0 (Dir.none) (inb_of g8)] 1 [27] [(5, vp 1 0)] [] [(1, bx 31 [ci ((a1.Rows.getD x6.toNat default).A), ci ((a1.Rows.getD x6.toNat default).B)])] ?_
   obtain ⟨v9, h10, hm⟩ := qB hm
   refine s_vu [qc 1 [30] 2 (qEO (a1.Rows.getD x6.toNat default) v9 h10)] 2 [5] [(32, vb (!v9))] [1] [] ?_
   refine q_cm hm (fun b11 hm => ?_) (fun b11 hm => ?_)
   ·refine s_vn [] 2 ⟨[(2, vi 9)], []⟩ ?_
    obtain rfl := oi hm
    refine q_rt ?_
    refine zJ 9 ?_
    exact q_rm
   ·refine q_sk ?_
    refine q_vu [] 2 [26, 32] [(26, vi (w64 (x6 + 1)))] [] [] ?_
    exact q_hl (GF a1 (w64 (x6 + 1))) (ih (w64 (x6 + 1)) _ hm)
  ·refine q_ex 0 ?_
   obtain rfl := oi hm
   exact jG () (by kernel_rfl) (by kernel_rfl)
theorem qEe (E : Env 0) (a1 : qJ) : ∀ (n : Nat) (x27 : Int) (res : Int ⊕ Unit), wW a1 n x27 = some res → HL (kx E 68 0) (nd Tryz.f170 4084) (jB 2 (fun o => IV) (fun v st => RetQ Tryz.prog Tryz.f170 (XT v) (XV v) .ret st) res) n (DC a1 x27) := by
 intro n
 induction n with
 | zero =>
  intro x27 res hm
  cases hm
 | succ n ih =>
  intro x27 res hm
  refine qN ?_
  refine s_vu [] 1 [] [(57, vb (decide (x27 < ((a1.Rows.length : Nat) : Int))))] [] [] ?_
  refine q_sq ?_
  refine q_cm hm (fun b28 hm => ?_) (fun b28 hm => ?_)
  ·refine q_sk ?_
   refine q_sq ?_
   refine q_bk 3 ?_
   obtain ⟨g29, hm⟩ := qI hm
   refine s_vu [qd 0 (Dir.none) (inb_of g29)] 1 [57] [(7, vp 1 0)] [] [(1, bx 31 [ci ((a1.Rows.getD x27.toNat default).A), ci ((a1.Rows.getD x27.toNat default).B)])] ?_
   refine q_jn (ι := Bool) (fun p => AV a1 x27 p) (fun p => RZ x27 (wW a1 n) p = some res) ?_ ?_
   ·rintro x33 hm
    show H _ (AV a1 x27 x33) _ _
    refine q_cm hm (fun b34 hm => ?_) (fun b34 hm => ?_)
    ·refine s_vn [] 2 ⟨[(2, vi 19)], []⟩ ?_
     obtain rfl := oi hm
     refine q_rt ?_
     refine zJ 19 ?_
     exact q_rm
    ·refine q_sk ?_
     refine q_vu [] 2 [56, 66] [(56, vi (w64 (x27 + 1)))] [] [] ?_
     exact q_hl (DC a1 (w64 (x27 + 1))) (ih (w64 (x27 + 1)) _ hm)
   ·obtain ⟨v30, h31, hm⟩ := qB hm
    rcases bif_c hm with ⟨b32, hm⟩ | ⟨b32, hm⟩
    ·refine q_vu [qc 1 [60] 2 (QB (a1.Rows.getD x27.toNat default) v30 h31), qf 2 b32] 2 [7] [(66, vb (!((((a1.Rows.getD x27.toNat default).A) == 0) && ((((a1.Rows.getD x27.toNat default).B) == 0) && true))))] [1] [] ?_
     exact q_J (!((((a1.Rows.getD x27.toNat default).A) == 0) && ((((a1.Rows.getD x27.toNat default).B) == 0) && true))) hm
    ·refine q_vu [qc 1 [60] 2 (QB (a1.Rows.getD x27.toNat default) v30 h31), qf 2 b32] 2 [7] [(66, vb false)] [1] [] ?_
     exact q_J (false) hm
  ·refine q_ex 2 ?_
   obtain rfl := oi hm
   exact jG () (by kernel_rfl) (by kernel_rfl)
theorem qAD (a1 : qJ) (r : Int) (hm : XK a1 = some r) : CtX Tryz.prog globs 170 0 0 [.agg (zP a1)] [] (XT r) (XV r) := by
 unfold XK at hm
 refine q_E Tryz.f170 68 fun E => ?_
 refine s_vn [] 0 ⟨[(1, vp 0 0)], [(0, bx 70 (zP a1))]⟩ ?_
 refine s_vu [] 1 [] [(3, vi ((a1.Rows.length : Nat) : Int))] [] [] ?_
 refine q_sq ?_
 refine s_vu [] 1 [] [(12, vb (decide (((a1.Rows.length : Nat) : Int) > 120)))] [] [] ?_
 refine q_cm hm (fun b2 hm => ?_) (fun b2 hm => ?_)
 ·refine s_vn [] 1 ⟨[(2, vi 4)], []⟩ ?_
  obtain rfl := oi hm
  refine q_rt ?_
  exact q_rm
 ·refine q_sk ?_
  refine q_sq ?_
  refine q_jn (ι := Bool) (fun p => AP a1 p) (fun p => TQ a1 p = some r) ?_ ?_
  ·rintro x4 hm
   show H _ (AP a1 x4) _ _
   refine q_cm hm (fun b5 hm => ?_) (fun b5 hm => ?_)
   ·refine s_vn [] 1 ⟨[(2, vi 9)], []⟩ ?_
    obtain rfl := oi hm
    refine q_rt ?_
    exact q_rm
   ·refine q_sk ?_
    refine q_sq ?_
    refine s_vu [] 1 [22] [(24, vc (tl e_Span default a1.Rows)), (25, vi ((a1.Rows.length : Nat) : Int)), (26, vi 0)] [] [] ?_
    obtain ⟨u14, h13, hm⟩ := qB hm
    refine zR (nd Tryz.f170 500) 0 (by kernel_rfl) FUEL (fun o => AW a1) (fun v st => RetQ Tryz.prog Tryz.f170 (XT v) (XV v) .ret st) u14 (q_hl (GF a1 0) (qD9 E a1 FUEL 0 u14 h13)) ?_ ?_
    ·rintro v15 rfl st hr
     obtain rfl := oi hm
     exact hr
    ·rintro o12 rfl
     replace hm : _ = some r := hm
     refine q_sq ?_
     refine s_vu [] 1 [] [(35, vb (((a1.Rows.length : Nat) : Int) == 0))] [] [] ?_
     refine q_cm hm (fun b16 hm => ?_) (fun b16 hm => ?_)
     ·refine q_sq ?_
      refine s_vn [] 1 ⟨[(38, vb (a1.Low != 0))], []⟩ ?_
      refine q_cm hm (fun b17 hm => ?_) (fun b17 hm => ?_)
      ·refine s_vn [] 1 ⟨[(2, vi 19)], []⟩ ?_
       obtain rfl := oi hm
       refine q_rt ?_
       exact q_rm
      ·refine q_sk ?_
       refine s_vn [] 1 ⟨[(2, vi 0)], []⟩ ?_
       obtain rfl := oi hm
       refine q_rt ?_
       exact q_rm
     ·refine q_sk ?_
      refine q_sq ?_
      refine q_jn (ι := Bool) (fun p => OC a1 p) (fun p => TF a1 p = some r) ?_ ?_
      ·rintro x25 hm
       show H _ (OC a1 x25) _ _
       refine q_cm hm (fun b26 hm => ?_) (fun b26 hm => ?_)
       ·refine s_vn [] 1 ⟨[(2, vi 19)], []⟩ ?_
        obtain rfl := oi hm
        refine q_rt ?_
        exact q_rm
       ·refine q_sk ?_
        refine q_sq ?_
        refine s_vn [] 1 ⟨[(54, vc (tl e_Span default a1.Rows)), (55, vi ((a1.Rows.length : Nat) : Int)), (56, vi 0)], []⟩ ?_
        obtain ⟨u37, h36, hm⟩ := qB hm
        refine zR (nd Tryz.f170 4084) 2 (by kernel_rfl) FUEL (fun o => IV) (fun v st => RetQ Tryz.prog Tryz.f170 (XT v) (XV v) .ret st) u37 (q_hl (DC a1 0) (qEe E a1 FUEL 0 u37 h36)) ?_ ?_
        ·rintro v38 rfl st hr
         obtain rfl := oi hm
         exact hr
        ·rintro o35 rfl
         replace hm : _ = some r := hm
         refine s_vn [] 1 ⟨[(2, vi 0)], []⟩ ?_
         obtain rfl := oi hm
         refine q_rt ?_
         exact q_rm
      ·obtain ⟨g18, hm⟩ := qI hm
       obtain ⟨v19, h20, hm⟩ := qB hm
       rcases bif_c hm with ⟨b21, hm⟩ | ⟨b21, hm⟩
       ·refine q_vu [qd 2 (Dir.none) (inb_of g18), qc 4 [42] 1 (QB (a1.Rows.getD (0 : Int).toNat default) v19 h20), qf 5 b21] 1 [3, 35] [(52, vb true)] [] [] ?_
        exact q_J (true) hm
       ·obtain ⟨g22, hm⟩ := qI hm
        obtain ⟨v23, h24, hm⟩ := qB hm
        refine q_vu [qd 2 (Dir.none) (inb_of g18), qc 4 [42] 1 (QB (a1.Rows.getD (0 : Int).toNat default) v19 h20), qf 5 b21, qd 10 (Dir.none) (inb_of g22), qk 12 [44, 50] 1 ⟨[(44, vb false), (50, va [ci ((a1.Rows.getD (w64 (((a1.Rows.length : Nat) : Int) - 1)).toNat default).A), ci ((a1.Rows.getD (w64 (((a1.Rows.length : Nat) : Int) - 1)).toNat default).B)])], []⟩ (QB (a1.Rows.getD (w64 (((a1.Rows.length : Nat) : Int) - 1)).toNat default) v23 h24)] 1 [3, 35] [(52, vb v23)] [] [] ?_
        exact q_J (v23) hm
  ·rcases bif_c hm with ⟨b3, hm⟩ | ⟨b3, hm⟩
   ·refine q_vu [qf 3 b3] 1 [12] [(22, vb true)] [] [] ?_
    exact q_J (true) hm
   ·refine q_vu [qf 3 b3] 1 [12] [(22, vb (decide (a1.Low > (w64 (60 - ((a1.Rows.length : Nat) : Int))))))] [] [] ?_
    exact q_J (decide (a1.Low > (w64 (60 - ((a1.Rows.length : Nat) : Int))))) hm
def OI (r : Int) : V := vi r
def OJ (r : Int) : List (Nat × (Nat × O)) := []
def qAw (a1 : List qA) (x4 : Int) (x5 : Int) (x13 : Bool) : St :=
 ⟨[(3, vi x4), (5, vp 0 0), (13, vc (tl qG default a1)), (14, vi ((a1.length : Nat) : Int)), (15, vi x5), (39, vb x13)], [(0, bx 72 [ci ((a1.getD x5.toNat default).Len), ci (((a1.getD x5.toNat default).Sec).Low), tl e_Span default (((a1.getD x5.toNat default).Sec).Rows)])]⟩
def FV (a1 : List qA) (x4 : Int) (x5 : Int) : St :=
 ⟨[(3, vi x4), (13, vc (tl qG default a1)), (14, vi ((a1.length : Nat) : Int)), (15, vi x5)], []⟩
def qAJ : St :=
 ⟨[], []⟩
theorem qFR (E : Env 0) (a1 : List qA) : ∀ (n : Nat) (x4 : Int) (x5 : Int) (res : Int ⊕ Unit), jT a1 n x4 x5 = some res → HL (kx E 45 0) (nd Tryz.f122 500) (jB 0 (fun o => qAJ) (fun v st => RetQ Tryz.prog Tryz.f122 (OI v) (OJ v) .ret st) res) n (FV a1 x4 x5) := by
 intro n
 induction n with
 | zero =>
  intro x4 x5 res hm
  cases hm
 | succ n ih =>
  intro x4 x5 res hm
  refine qN ?_
  refine s_vu [] 0 [] [(16, vb (decide (x5 < ((a1.length : Nat) : Int))))] [] [] ?_
  refine q_sq ?_
  refine q_cm hm (fun b6 hm => ?_) (fun b6 hm => ?_)
  ·refine q_sk ?_
   refine q_sq ?_
   refine q_bk 1 ?_
   obtain ⟨g7, hm⟩ := qI hm
   refine s_vu [qd 0 (Dir.none) (inb_of g7)] 0 [16] [(5, vp 0 0)] [] [(0, bx 72 [ci ((a1.getD x5.toNat default).Len), ci (((a1.getD x5.toNat default).Sec).Low), tl e_Span default (((a1.getD x5.toNat default).Sec).Rows)])] ?_
   refine q_sq ?_
   obtain ⟨v8, h9, hm⟩ := qB hm
   refine s_vu [qc 2 [20] 1 (qAD ((a1.getD x5.toNat default).Sec) v8 h9)] 1 [] [(6, vi v8)] [] [] ?_
   refine s_vu [] 1 [] [(23, vb (v8 != 0))] [] [] ?_
   refine q_cm hm (fun b10 hm => ?_) (fun b10 hm => ?_)
   ·refine s_vn [] 1 ⟨[(2, vi v8)], []⟩ ?_
    obtain rfl := oi hm
    refine q_rt ?_
    refine zJ v8 ?_
    exact q_rm
   ·refine q_sk ?_
    refine q_sq ?_
    refine s_vu [] 1 [6, 23] [(29, vb ((((((a1.getD x5.toNat default).Sec).Rows).length : Nat) : Int) == 0))] [] [] ?_
    refine q_cm hm (fun b11 hm => ?_) (fun b11 hm => ?_)
    ·refine s_vn [] 1 ⟨[(2, vi 18)], []⟩ ?_
     obtain rfl := oi hm
     refine q_rt ?_
     refine zJ 18 ?_
     exact q_rm
    ·refine q_sk ?_
     refine q_sq ?_
     refine q_jn (ι := Bool) (fun p => qAw a1 x4 x5 p) (fun p => DP a1 x4 x5 (jT a1 n) p = some res) ?_ ?_
     ·rintro x13 hm
      show H _ (qAw a1 x4 x5 x13) _ _
      refine q_cm hm (fun b14 hm => ?_) (fun b14 hm => ?_)
      ·refine s_vn [] 1 ⟨[(2, vi 9)], []⟩ ?_
       obtain rfl := oi hm
       refine q_rt ?_
       refine zJ 9 ?_
       exact q_rm
      ·refine q_sk ?_
       refine q_vu [] 1 [3, 5, 39] [(3, vi (w64 (x4 + ((a1.getD x5.toNat default).Len))))] [0] [] ?_
       refine q_vu [] 1 [15] [(15, vi (w64 (x5 + 1)))] [] [] ?_
       exact q_hl (FV a1 (w64 (x4 + ((a1.getD x5.toNat default).Len))) (w64 (x5 + 1))) (ih (w64 (x4 + ((a1.getD x5.toNat default).Len))) (w64 (x5 + 1)) _ hm)
     ·rcases bif_c hm with ⟨b12, hm⟩ | ⟨b12, hm⟩
      ·refine q_vu [qf 3 b12] 1 [29] [(39, vb true)] [] [] ?_
       exact q_J (true) hm
      ·refine q_vu [qf 3 b12] 1 [29] [(39, vb (decide (((a1.getD x5.toNat default).Len) > (w64 (20000 - x4)))))] [] [] ?_
       exact q_J (decide (((a1.getD x5.toNat default).Len) > (w64 (20000 - x4)))) hm
  ·refine q_ex 0 ?_
   obtain rfl := oi hm
   exact jG () (by kernel_rfl) (by kernel_rfl)
theorem ZX (a1 : List qA) (r : Int) (hm : WE a1 = some r) : CtX Tryz.prog globs 122 0 0 [.one (tl qG default a1)] [] (OI r) (OJ r) := by
 unfold WE at hm
 refine q_E Tryz.f122 45 fun E => ?_
 refine s_vn [] 0 ⟨[(0, vc (tl qG default a1))], []⟩ ?_
 refine q_sq ?_
 refine s_vu [] 0 [] [(9, vb (((a1.length : Nat) : Int) == 0))] [] [] ?_
 refine q_cm hm (fun b2 hm => ?_) (fun b2 hm => ?_)
 ·refine s_vn [] 0 ⟨[(2, vi 3)], []⟩ ?_
  obtain rfl := oi hm
  refine q_rt ?_
  exact q_rm
 ·refine q_sk ?_
  refine q_sq ?_
  refine s_vu [] 0 [9] [(12, vb (decide (((a1.length : Nat) : Int) > 24)))] [] [] ?_
  refine q_cm hm (fun b3 hm => ?_) (fun b3 hm => ?_)
  ·refine s_vn [] 0 ⟨[(2, vi 4)], []⟩ ?_
   obtain rfl := oi hm
   refine q_rt ?_
   exact q_rm
  ·refine q_sk ?_
   refine s_vu [] 0 [12] [(3, vi 0)] [] [] ?_
   refine q_sq ?_
   refine s_vu [] 0 [0] [(13, vc (tl qG default a1)), (14, vi ((a1.length : Nat) : Int)), (15, vi 0)] [] [] ?_
   obtain ⟨u17, h16, hm⟩ := qB hm
   refine zR (nd Tryz.f122 500) 0 (by kernel_rfl) FUEL (fun o => qAJ) (fun v st => RetQ Tryz.prog Tryz.f122 (OI v) (OJ v) .ret st) u17 (q_hl (FV a1 0 0) (qFR E a1 FUEL 0 0 u17 h16)) ?_ ?_
   ·rintro v18 rfl st hr
    obtain rfl := oi hm
    exact hr
   ·rintro o15 rfl
    replace hm : _ = some r := hm
    refine s_vn [] 0 ⟨[(2, vi 0)], []⟩ ?_
    obtain rfl := oi hm
    refine q_rt ?_
    exact q_rm
def qIc (r : Bool) : V := vb r
def qId (r : Bool) : List (Nat × (Nat × O)) := []
def OB (x5 : Bool) : St :=
 ⟨[(6, vb x5)], []⟩
theorem ZZ (a1 : Span) (a2 : Int) (a3 : Int) (r : Bool) (hm : JM a1 a2 a3 = some r) : CtX Tryz.prog globs 205 0 0 [.agg (e_Span a1), .one (ci a2), .one (ci a3)] [] (qIc r) (qId r) := by
 unfold JM at hm
 refine q_E Tryz.f205 23 fun E => ?_
 refine s_vn [] 0 ⟨[(1, vi a2), (2, vi a3), (3, vp 0 0)], [(0, bx 31 (e_Span a1))]⟩ ?_
 refine q_jn (ι := Bool) (fun p => OB p) (fun p => TG p = some r) ?_ ?_
 ·rintro x5 hm
  show H _ (OB x5) _ _
  obtain rfl := oi hm
  refine q_rt ?_
  exact q_rm
 ·rcases bif_c hm with ⟨b4, hm⟩ | ⟨b4, hm⟩
  ·refine q_vn [qf 7 b4] 1 ⟨[(6, vb (decide ((imax a1.A a1.B) ≤ a3)))], []⟩ ?_
   exact q_J (decide ((imax a1.A a1.B) ≤ a3)) hm
  ·refine q_vn [qf 7 b4] 1 ⟨[(6, vb false)], []⟩ ?_
   exact q_J (false) hm
def qGK (r : Bool) : V := vb r
def qGG (r : Bool) : List (Nat × (Nat × O)) := []
theorem zN (a1 : Span) (r : Bool) (hm : jP a1 = some r) : CtX Tryz.prog globs 204 0 0 [.agg (e_Span a1)] [] (qGK r) (qGG r) := by
 unfold jP at hm
 refine q_E Tryz.f204 8 fun E => ?_
 refine s_vn [] 0 ⟨[(1, vp 0 0)], [(0, bx 31 (e_Span a1))]⟩ ?_
 refine s_vn [] 1 ⟨[(2, vb (decide (a1.A ≥ a1.B)))], []⟩ ?_
 obtain rfl := oi hm
 refine q_rt ?_
 exact q_rm
def qJb (r : Int) : V := vi r
def qII (r : Int) : List (Nat × (Nat × O)) := []
def CT (x23 : Bool) : St :=
 ⟨[(29, vb x23)], []⟩
def CU (a1 : Defect) (x13 : Bool) : St :=
 ⟨[(3, vp 1 0), (15, vb x13)], [(1, bx 128 (QG a1.Box))]⟩
def CV (a1 : Defect) (x3 : Bool) : St :=
 ⟨[(3, vp 1 0), (6, vb x3)], [(1, bx 128 (QG a1.Box))]⟩
theorem qHr (a1 : Defect) (r : Int) (hm : GT a1 = some r) : CtX Tryz.prog globs 171 0 0 [.agg (qF a1)] [] (qJb r) (qII r) := by
 unfold GT at hm
 refine q_E Tryz.f171 46 fun E => ?_
 refine s_vn [] 0 ⟨[(1, vp 0 0)], [(0, bx 212 (qF a1))]⟩ ?_
 refine s_vu [] 1 [] [(3, vp 1 0)] [] [(1, bx 128 (QG a1.Box))] ?_
 refine q_sq ?_
 refine q_bk 0 ?_
 refine q_jn (ι := Bool) (fun p => CV a1 p) (fun p => VX a1 p = some r) ?_ ?_
 ·rintro x3 hm
  show H _ (CV a1 x3) _ _
  refine q_cm hm (fun b4 hm => ?_) (fun b4 hm => ?_)
  ·refine s_vn [] 2 ⟨[(2, vi 10)], []⟩ ?_
   obtain rfl := oi hm
   refine q_rt ?_
   exact q_rm
  ·refine q_jn (ι := Bool) (fun p => CU a1 p) (fun p => KG a1 p = some r) ?_ ?_
   ·rintro x13 hm
    show H _ (CU a1 x13) _ _
    refine q_cm hm (fun b14 hm => ?_) (fun b14 hm => ?_)
    ·refine s_vn [] 2 ⟨[(2, vi 19)], []⟩ ?_
     obtain rfl := oi hm
     refine q_rt ?_
     exact q_rm
    ·refine q_jn (ι := Bool) (fun p => CT p) (fun p => KH p = some r) ?_ ?_
     ·rintro x23 hm
      show H _ (CT x23) _ _
      refine q_cm hm (fun b24 hm => ?_) (fun b24 hm => ?_)
      ·refine s_vn [] 2 ⟨[(2, vi 9)], []⟩ ?_
       obtain rfl := oi hm
       refine q_rt ?_
       exact q_rm
      ·refine q_sk ?_
       refine s_vn [] 2 ⟨[(2, vi 0)], []⟩ ?_
       obtain rfl := oi hm
       refine q_rt ?_
       exact q_rm
     ·obtain ⟨v15, h16, hm⟩ := qB hm
      rcases bif_c hm with ⟨b17, hm⟩ | ⟨b17, hm⟩
      ·refine q_vn [qk 2 [31] 2 ⟨[(31, va (e_Span a1.Box.X))], []⟩ (ZZ a1.Box.X (-600) 600 v15 h16), qf 4 b17] 2 ⟨[(29, vb true)], []⟩ ?_
       exact q_J (true) hm
      ·obtain ⟨v18, h19, hm⟩ := qB hm
       rcases bif_c hm with ⟨b20, hm⟩ | ⟨b20, hm⟩
       ·refine q_vn [qk 2 [31] 2 ⟨[(31, va (e_Span a1.Box.X))], []⟩ (ZZ a1.Box.X (-600) 600 v15 h16), qf 4 b17, qk 7 [34, 36] 2 ⟨[(34, vb false), (36, va (e_Span a1.Box.Y))], []⟩ (ZZ a1.Box.Y (-600) 600 v18 h19), qf 10 b20] 2 ⟨[(29, vb true)], []⟩ ?_
        exact q_J (true) hm
       ·obtain ⟨v21, h22, hm⟩ := qB hm
        refine q_vn [qk 2 [31] 2 ⟨[(31, va (e_Span a1.Box.X))], []⟩ (ZZ a1.Box.X (-600) 600 v15 h16), qf 4 b17, qk 7 [34, 36] 2 ⟨[(34, vb false), (36, va (e_Span a1.Box.Y))], []⟩ (ZZ a1.Box.Y (-600) 600 v18 h19), qf 10 b20, qk 13 [40, 42] 2 ⟨[(40, vb false), (42, va (e_Span a1.Box.Z))], []⟩ (ZZ a1.Box.Z 0 20000 v21 h22)] 2 ⟨[(29, vb (!v21))], []⟩ ?_
        exact q_J (!v21) hm
   ·obtain ⟨v5, h6, hm⟩ := qB hm
    rcases bif_c hm with ⟨b7, hm⟩ | ⟨b7, hm⟩
    ·refine q_vu [qc 2 [17] 2 (zN a1.Box.X v5 h6), qf 3 b7] 2 [6] [(15, vb true)] [] [] ?_
     exact q_J (true) hm
    ·obtain ⟨v8, h9, hm⟩ := qB hm
     rcases bif_c hm with ⟨b10, hm⟩ | ⟨b10, hm⟩
     ·refine q_vu [qc 2 [17] 2 (zN a1.Box.X v5 h6), qf 3 b7, qk 6 [19, 21] 2 ⟨[(19, vb false), (21, va (e_Span a1.Box.Y))], []⟩ (zN a1.Box.Y v8 h9), qf 8 b10] 2 [6] [(15, vb true)] [] [] ?_
      exact q_J (true) hm
     ·obtain ⟨v11, h12, hm⟩ := qB hm
      refine q_vu [qc 2 [17] 2 (zN a1.Box.X v5 h6), qf 3 b7, qk 6 [19, 21] 2 ⟨[(19, vb false), (21, va (e_Span a1.Box.Y))], []⟩ (zN a1.Box.Y v8 h9), qf 8 b10, qk 11 [24, 26] 2 ⟨[(24, vb false), (26, va (e_Span a1.Box.Z))], []⟩ (zN a1.Box.Z v11 h12)] 2 [6] [(15, vb v11)] [] [] ?_
      exact q_J (v11) hm
 ·rcases bif_c hm with ⟨b2, hm⟩ | ⟨b2, hm⟩
  ·refine q_vu [qf 3 b2] 2 [1] [(6, vb true)] [0] [] ?_
   exact q_J (true) hm
  ·refine q_vu [qf 3 b2] 2 [1] [(6, vb (decide (a1.Kind > 6)))] [0] [] ?_
   exact q_J (decide (a1.Kind > 6)) hm
def SZ (r : Int) : V := vi r
def EK (r : Int) : List (Nat × (Nat × O)) := []
def BP (a1 : List Defect) (x3 : Int) : St :=
 ⟨[(9, vc (tl qF default a1)), (10, vi ((a1.length : Nat) : Int)), (11, vi x3)], []⟩
def CS : St :=
 ⟨[], []⟩
theorem qE4 (E : Env 0) (a1 : List Defect) : ∀ (n : Nat) (x3 : Int) (res : Int ⊕ Unit), QO a1 n x3 = some res → HL (kx E 21 0) (nd Tryz.f123 116) (jB 0 (fun o => CS) (fun v st => RetQ Tryz.prog Tryz.f123 (SZ v) (EK v) .ret st) res) n (BP a1 x3) := by
 intro n
 induction n with
 | zero =>
  intro x3 res hm
  cases hm
 | succ n ih =>
  intro x3 res hm
  refine qN ?_
  refine s_vu [] 0 [] [(12, vb (decide (x3 < ((a1.length : Nat) : Int))))] [] [] ?_
  refine q_sq ?_
  refine q_cm hm (fun b4 hm => ?_) (fun b4 hm => ?_)
  ·refine q_sk ?_
   refine q_sq ?_
   refine q_bk 1 ?_
   obtain ⟨g5, hm⟩ := qI hm
   refine s_vu [qd 0 (Dir.none) (inb_of g5)] 0 [12] [(4, vp 0 0)] [] [(0, bx 212 [ci ((a1.getD x3.toNat default).Kind), ci ((((a1.getD x3.toNat default).Box).X).A), ci ((((a1.getD x3.toNat default).Box).X).B), ci ((((a1.getD x3.toNat default).Box).Y).A), ci ((((a1.getD x3.toNat default).Box).Y).B), ci ((((a1.getD x3.toNat default).Box).Z).A), ci ((((a1.getD x3.toNat default).Box).Z).B)])] ?_
   obtain ⟨v6, h7, hm⟩ := qB hm
   refine s_vu [qc 1 [15] 1 (qHr (a1.getD x3.toNat default) v6 h7)] 1 [4] [(5, vi v6)] [0] [] ?_
   refine s_vu [] 1 [] [(18, vb (v6 != 0))] [] [] ?_
   refine q_cm hm (fun b8 hm => ?_) (fun b8 hm => ?_)
   ·refine s_vn [] 1 ⟨[(2, vi v6)], []⟩ ?_
    obtain rfl := oi hm
    refine q_rt ?_
    refine zJ v6 ?_
    exact q_rm
   ·refine q_sk ?_
    refine q_vu [] 1 [5, 11, 18] [(11, vi (w64 (x3 + 1)))] [] [] ?_
    exact q_hl (BP a1 (w64 (x3 + 1))) (ih (w64 (x3 + 1)) _ hm)
  ·refine q_ex 0 ?_
   obtain rfl := oi hm
   exact jG () (by kernel_rfl) (by kernel_rfl)
theorem KB (a1 : List Defect) (r : Int) (hm : WQ a1 = some r) : CtX Tryz.prog globs 123 0 0 [.one (tl qF default a1)] [] (SZ r) (EK r) := by
 unfold WQ at hm
 refine q_E Tryz.f123 21 fun E => ?_
 refine s_vn [] 0 ⟨[(0, vc (tl qF default a1))], []⟩ ?_
 refine q_sq ?_
 refine s_vu [] 0 [] [(8, vb (decide (((a1.length : Nat) : Int) > 64)))] [] [] ?_
 refine q_cm hm (fun b2 hm => ?_) (fun b2 hm => ?_)
 ·refine s_vn [] 0 ⟨[(2, vi 4)], []⟩ ?_
  obtain rfl := oi hm
  refine q_rt ?_
  exact q_rm
 ·refine q_sk ?_
  refine q_sq ?_
  refine s_vn [] 0 ⟨[(9, vc (tl qF default a1)), (10, vi ((a1.length : Nat) : Int)), (11, vi 0)], []⟩ ?_
  obtain ⟨u11, h10, hm⟩ := qB hm
  refine zR (nd Tryz.f123 116) 0 (by kernel_rfl) FUEL (fun o => CS) (fun v st => RetQ Tryz.prog Tryz.f123 (SZ v) (EK v) .ret st) u11 (q_hl (BP a1 0) (qE4 E a1 FUEL 0 u11 h10)) ?_ ?_
  ·rintro v12 rfl st hr
   obtain rfl := oi hm
   exact hr
  ·rintro o9 rfl
   replace hm : _ = some r := hm
   refine s_vn [] 0 ⟨[(2, vi 0)], []⟩ ?_
   obtain rfl := oi hm
   refine q_rt ?_
   exact q_rm
def qH6 (r : Bool) : V := vb r
def qH4 (r : Bool) : List (Nat × (Nat × O)) := []
def AN (x3 : Bool) : St :=
 ⟨[(2, vb x3)], []⟩
theorem TW (a1 : Int) (r : Bool) (hm : XF a1 = some r) : CtX Tryz.prog globs 129 0 0 [.one (.val (.int .u8 a1))] [] (qH6 r) (qH4 r) := by
 unfold XF at hm
 refine q_E Tryz.f129 9 fun E => ?_
 refine s_vn [] 0 ⟨[(0, vc (.val (.int .u8 a1)))], []⟩ ?_
 refine q_jn (ι := Bool) (fun p => AN p) (fun p => TK p = some r) ?_ ?_
 ·rintro x3 hm
  show H _ (AN x3) _ _
  obtain rfl := oi hm
  refine q_rt ?_
  exact q_rm
 ·rcases bif_c hm with ⟨b2, hm⟩ | ⟨b2, hm⟩
  ·refine q_vn [qf 2 b2] 0 ⟨[(2, vb (decide (a1 ≤ 122)))], []⟩ ?_
   exact q_J (decide (a1 ≤ 122)) hm
  ·refine q_vn [qf 2 b2] 0 ⟨[(2, vb false)], []⟩ ?_
   exact q_J (false) hm
def qIr (r : Bool) : V := vb r
def qIh (r : Bool) : List (Nat × (Nat × O)) := []
def IE (x3 : Bool) : St :=
 ⟨[(2, vb x3)], []⟩
theorem qAN (a1 : Int) (r : Bool) (hm : UC a1 = some r) : CtX Tryz.prog globs 130 0 0 [.one (.val (.int .u8 a1))] [] (qIr r) (qIh r) := by
 unfold UC at hm
 refine q_E Tryz.f130 9 fun E => ?_
 refine s_vn [] 0 ⟨[(0, vc (.val (.int .u8 a1)))], []⟩ ?_
 refine q_jn (ι := Bool) (fun p => IE p) (fun p => RS p = some r) ?_ ?_
 ·rintro x3 hm
  show H _ (IE x3) _ _
  obtain rfl := oi hm
  refine q_rt ?_
  exact q_rm
 ·rcases bif_c hm with ⟨b2, hm⟩ | ⟨b2, hm⟩
  ·refine q_vn [qf 2 b2] 0 ⟨[(2, vb (decide (a1 ≤ 57)))], []⟩ ?_
   exact q_J (decide (a1 ≤ 57)) hm
  ·refine q_vn [qf 2 b2] 0 ⟨[(2, vb false)], []⟩ ?_
   exact q_J (false) hm
def EE (r : Bool) : V := vb r
def SY (r : Bool) : List (Nat × (Nat × O)) := []
def CP (a1 : ByteArray) (x9 : Int) (x18 : Bool) : St :=
 ⟨[(0, vc (cs a1)), (3, vi x9), (39, vb x18)], []⟩
def BN (a1 : ByteArray) (x9 : Int) : St :=
 ⟨[(0, vc (cs a1)), (3, vi x9)], []⟩
def CH : St :=
 ⟨[], []⟩
def OS (a1 : ByteArray) (x7 : Bool) : St :=
 ⟨[(0, vc (cs a1)), (18, vb x7)], []⟩
theorem qE6 (E : Env 0) (a1 : ByteArray) : ∀ (n : Nat) (x9 : Int) (res : Bool ⊕ Unit), wS a1 n x9 = some res → HL (kx E 40 0) (nd Tryz.f72 116) (jB 0 (fun o => CH) (fun v st => RetQ Tryz.prog Tryz.f72 (EE v) (SY v) .ret st) res) n (BN a1 x9) := by
 intro n
 induction n with
 | zero =>
  intro x9 res hm
  cases hm
 | succ n ih =>
  intro x9 res hm
  refine qN ?_
  refine q_sq ?_
  refine s_vu [] 0 [] [(22, vb (decide (x9 < ((a1.size : Nat) : Int))))] [] [] ?_
  refine q_cm hm (fun b10 hm => ?_) (fun b10 hm => ?_)
  ·refine q_sk ?_
   refine q_sq ?_
   refine q_bk 1 ?_
   obtain ⟨g11, hm⟩ := qI hm
   refine s_vu [qd 2 (Dir.none) (inb_of g11)] 0 [22] [(4, vc (.val (.int .u8 (strAt a1 x9.toNat))))] [] [] ?_
   refine q_jn (ι := Bool) (fun p => CP a1 x9 p) (fun p => KL x9 (wS a1 n) p = some res) ?_ ?_
   ·rintro x18 hm
    show H _ (CP a1 x9 x18) _ _
    refine q_cm hm (fun b19 hm => ?_) (fun b19 hm => ?_)
    ·refine s_vn [] 0 ⟨[(2, vb false)], []⟩ ?_
     obtain rfl := oi hm
     refine q_rt ?_
     refine zJ false ?_
     exact q_rm
    ·refine q_sk ?_
     refine q_vu [] 0 [3, 39] [(3, vi (w64 (x9 + 1)))] [] [] ?_
     exact q_hl (BN a1 (w64 (x9 + 1))) (ih (w64 (x9 + 1)) _ hm)
   ·obtain ⟨v12, h13, hm⟩ := qB hm
    rcases bif_c hm with ⟨b14, hm⟩ | ⟨b14, hm⟩
    ·obtain ⟨v15, h16, hm⟩ := qB hm
     rcases bif_c hm with ⟨b17, hm⟩ | ⟨b17, hm⟩
     ·refine q_vu [qc 1 [28] 0 (TW (strAt a1 x9.toNat) v12 h13), qf 3 b14, qk 5 [31, 32] 0 ⟨[(31, vb true), (32, vc (.val (.int .u8 (strAt a1 x9.toNat))))], []⟩ (qAN (strAt a1 x9.toNat) v15 h16), qf 8 b17] 0 [4] [(39, vb ((strAt a1 x9.toNat) != 95))] [] [] ?_
      exact q_J ((strAt a1 x9.toNat) != 95) hm
     ·refine q_vu [qc 1 [28] 0 (TW (strAt a1 x9.toNat) v12 h13), qf 3 b14, qk 5 [31, 32] 0 ⟨[(31, vb true), (32, vc (.val (.int .u8 (strAt a1 x9.toNat))))], []⟩ (qAN (strAt a1 x9.toNat) v15 h16), qf 8 b17] 0 [4] [(39, vb false)] [] [] ?_
      exact q_J (false) hm
    ·refine q_vu [qc 1 [28] 0 (TW (strAt a1 x9.toNat) v12 h13), qf 3 b14] 0 [4] [(39, vb false)] [] [] ?_
     exact q_J (false) hm
  ·refine q_ex 0 ?_
   obtain rfl := oi hm
   exact jG () (by kernel_rfl) (by kernel_rfl)
theorem qHj (a1 : ByteArray) (r : Bool) (hm : GP a1 = some r) : CtX Tryz.prog globs 72 0 0 [.one (cs a1)] [] (EE r) (SY r) := by
 unfold GP at hm
 refine q_E Tryz.f72 40 fun E => ?_
 refine s_vn [] 0 ⟨[(0, vc (cs a1))], []⟩ ?_
 refine q_sq ?_
 refine q_jn (ι := Bool) (fun p => OS a1 p) (fun p => XR a1 p = some r) ?_ ?_
 ·rintro x7 hm
  show H _ (OS a1 x7) _ _
  refine q_cm hm (fun b8 hm => ?_) (fun b8 hm => ?_)
  ·refine s_vn [] 0 ⟨[(2, vb false)], []⟩ ?_
   obtain rfl := oi hm
   refine q_rt ?_
   exact q_rm
  ·refine q_sk ?_
   refine q_sq ?_
   refine s_vu [] 0 [18] [(3, vi 1)] [] [] ?_
   obtain ⟨u22, h21, hm⟩ := qB hm
   refine zR (nd Tryz.f72 116) 0 (by kernel_rfl) FUEL (fun o => CH) (fun v st => RetQ Tryz.prog Tryz.f72 (EE v) (SY v) .ret st) u22 (q_hl (BN a1 1) (qE6 E a1 FUEL 1 u22 h21)) ?_ ?_
   ·rintro v23 rfl st hr
    obtain rfl := oi hm
    exact hr
   ·rintro o20 rfl
    replace hm : _ = some r := hm
    refine s_vn [] 0 ⟨[(2, vb true)], []⟩ ?_
    obtain rfl := oi hm
    refine q_rt ?_
    exact q_rm
 ·rcases bif_c hm with ⟨b2, hm⟩ | ⟨b2, hm⟩
  ·refine q_vu [qf 3 b2] 0 [] [(18, vb true)] [] [] ?_
   exact q_J (true) hm
  ·rcases bif_c hm with ⟨b3, hm⟩ | ⟨b3, hm⟩
   ·refine q_vu [qf 3 b2, qf 8 b3] 0 [] [(18, vb true)] [] [] ?_
    exact q_J (true) hm
   ·obtain ⟨g4, hm⟩ := qI hm
    obtain ⟨v5, h6, hm⟩ := qB hm
    refine q_vu [qf 3 b2, qf 8 b3, qd 10 (Dir.none) (inb_of g4), qk 11 [13, 15] 0 ⟨[(13, vb false), (15, vc (.val (.int .u8 (strAt a1 ((0 : Int).toNat)))))], []⟩ (TW (strAt a1 ((0 : Int).toNat)) v5 h6)] 0 [] [(18, vb (!v5))] [] [] ?_
    exact q_J (!v5) hm
def SD (r : Int × Bool) : V := .tup [.one (ci r.1), .one (cb r.2)]
def EM (r : Int × Bool) : List (Nat × (Nat × O)) := []
def BX (a1 : List Product) (a2 : ByteArray) (x3 : Int) : St :=
 ⟨[(1, vc (cs a2)), (8, vc (tl qC default a1)), (9, vi ((a1.length : Nat) : Int)), (10, vi x3)], []⟩
def OW : St :=
 ⟨[], []⟩
theorem qEL (E : Env 0) (a1 : List Product) (a2 : ByteArray) : ∀ (n : Nat) (x3 : Int) (res : (Int × Bool) ⊕ Unit), QW a1 a2 n x3 = some res → HL (kx E 21 0) (nd Tryz.f73 52) (jB 0 (fun o => OW) (fun v st => RetQ Tryz.prog Tryz.f73 (SD v) (EM v) .ret st) res) n (BX a1 a2 x3) := by
 intro n
 induction n with
 | zero =>
  intro x3 res hm
  cases hm
 | succ n ih =>
  intro x3 res hm
  refine qN ?_
  refine s_vu [] 0 [] [(11, vb (decide (x3 < ((a1.length : Nat) : Int))))] [] [] ?_
  refine q_sq ?_
  refine q_cm hm (fun b4 hm => ?_) (fun b4 hm => ?_)
  ·refine q_sk ?_
   refine q_sq ?_
   refine q_bk 1 ?_
   obtain ⟨g5, hm⟩ := qI hm
   refine s_vu [qd 1 (Dir.none) (inb_of g5)] 0 [11] [(6, vi x3), (7, vp 0 0)] [] [(0, bx 54 [cs ((a1.getD x3.toNat default).Name), ci ((a1.getD x3.toNat default).Thick), ci ((a1.getD x3.toNat default).Width), ci ((a1.getD x3.toNat default).Allow), ci ((a1.getD x3.toNat default).Wane), tl e_i64 default ((a1.getD x3.toNat default).Lengths), tl e_i64 default ((a1.getD x3.toNat default).Prices)])] ?_
   refine s_vu [] 1 [7] [(18, vb (strEq ((a1.getD x3.toNat default).Name) a2))] [0] [] ?_
   refine q_cm hm (fun b6 hm => ?_) (fun b6 hm => ?_)
   ·refine s_vn [] 1 ⟨[(4, vi x3), (5, vb true)], []⟩ ?_
    obtain rfl := oi hm
    refine q_rt ?_
    refine zJ (x3, true) ?_
    exact q_rm
   ·refine q_sk ?_
    refine q_vu [] 1 [6, 10, 18] [(10, vi (w64 (x3 + 1)))] [] [] ?_
    exact q_hl (BX a1 a2 (w64 (x3 + 1))) (ih (w64 (x3 + 1)) _ hm)
  ·refine q_ex 0 ?_
   obtain rfl := oi hm
   exact jG () (by kernel_rfl) (by kernel_rfl)
theorem qHM (a1 : List Product) (a2 : ByteArray) (r : Int × Bool) (hm : GO a1 a2 = some r) : CtX Tryz.prog globs 73 0 0 [.one (tl qC default a1), .one (cs a2)] [] (SD r) (EM r) := by
 unfold GO at hm
 refine q_E Tryz.f73 21 fun E => ?_
 refine s_vn [] 0 ⟨[(0, vc (tl qC default a1)), (1, vc (cs a2))], []⟩ ?_
 refine q_sq ?_
 refine s_vu [] 0 [0] [(8, vc (tl qC default a1)), (9, vi ((a1.length : Nat) : Int)), (10, vi 0)] [] [] ?_
 obtain ⟨u9, h8, hm⟩ := qB hm
 refine zR (nd Tryz.f73 52) 0 (by kernel_rfl) FUEL (fun o => OW) (fun v st => RetQ Tryz.prog Tryz.f73 (SD v) (EM v) .ret st) u9 (q_hl (BX a1 a2 0) (qEL E a1 a2 FUEL 0 u9 h8)) ?_ ?_
 ·rintro v10 rfl st hr
  obtain rfl := oi hm
  exact hr
 ·rintro o7 rfl
  replace hm : _ = some r := hm
  refine s_vn [] 0 ⟨[(4, vi 0), (5, vb false)], []⟩ ?_
  obtain rfl := oi hm
  refine q_rt ?_
  exact q_rm
def qJh (r : Int) : V := vi r
def qIv (r : Int) : List (Nat × (Nat × O)) := []
theorem qBQ (a1 : Int) (a2 : Int) (r : Int) (hm : GA a1 a2 = some r) : CtX Tryz.prog globs 76 0 0 [.one (ci a1), .one (ci a2)] [] (qJh r) (qIv r) := by
 unfold GA at hm
 refine q_E Tryz.f76 11 fun E => ?_
 refine s_vn [] 0 ⟨[(0, vi a1), (1, vi a2)], []⟩ ?_
 refine s_vn [qd 5 (Dir.none) (show (1000 : Int) ≠ 0 by decide)] 0 ⟨[(4, vi (w64 (Int.tdiv (w64 ((w64 (a1 * (w64 (1000 + a2)))) + 999)) 1000)))], []⟩ ?_
 obtain rfl := oi hm
 refine q_rt ?_
 exact q_rm
def qGd (r : Bool) : V := vb r
def qGV (r : Bool) : List (Nat × (Nat × O)) := []
def HZ (x3 : Bool) : St :=
 ⟨[(2, vb x3)], []⟩
theorem jW (a1 : Int) (r : Bool) (hm : YI a1 = some r) : CtX Tryz.prog globs 75 0 0 [.one (ci a1)] [] (qGd r) (qGV r) := by
 unfold YI at hm
 refine q_E Tryz.f75 9 fun E => ?_
 refine s_vn [] 0 ⟨[(0, vi a1)], []⟩ ?_
 refine q_jn (ι := Bool) (fun p => HZ p) (fun p => KX p = some r) ?_ ?_
 ·rintro x3 hm
  show H _ (HZ x3) _ _
  obtain rfl := oi hm
  refine q_rt ?_
  exact q_rm
 ·rcases bif_c hm with ⟨b2, hm⟩ | ⟨b2, hm⟩
  ·refine q_vn [qf 2 b2] 0 ⟨[(2, vb (decide (a1 ≤ 600)))], []⟩ ?_
   exact q_J (decide (a1 ≤ 600)) hm
  ·refine q_vn [qf 2 b2] 0 ⟨[(2, vb false)], []⟩ ?_
   exact q_J (false) hm
def qHE (r : Int × Int) : V := .tup [.one (ci r.1), .one (ci r.2)]
def qH3 (r : Int × Int) : List (Nat × (Nat × O)) := []
def IL (a1 : Product) (x9 : Bool) : St :=
 ⟨[(1, vp 0 0), (23, vb x9)], [(0, bx 54 (qC a1))]⟩
theorem TR (a1 : Product) (r : Int × Int) (hm : yP a1 = some r) : CtX Tryz.prog globs 31 0 0 [.agg (qC a1)] [] (qHE r) (qH3 r) := by
 unfold yP at hm
 refine q_E Tryz.f31 34 fun E => ?_
 refine s_vn [] 0 ⟨[(1, vp 0 0)], [(0, bx 54 (qC a1))]⟩ ?_
 refine q_sq ?_
 refine q_jn (ι := Bool) (fun p => IL a1 p) (fun p => ZU a1 p = some r) ?_ ?_
 ·rintro x9 hm
  show H _ (IL a1 x9) _ _
  refine q_cm hm (fun b10 hm => ?_) (fun b10 hm => ?_)
  ·refine s_vn [] 1 ⟨[(2, vi 0), (3, vi 0)], []⟩ ?_
   obtain rfl := oi hm
   refine q_rt ?_
   exact q_rm
  ·refine q_sk ?_
   obtain ⟨v11, h12, hm⟩ := qB hm
   obtain ⟨v13, h14, hm⟩ := qB hm
   refine s_dn [qc 4 [25, 27] 1 (qBQ a1.Thick a1.Allow v11 h12), qc 9 [30, 32] 1 (qBQ a1.Width a1.Allow v13 h14)] [0, 1, 0, 4, 15, 0, 32, 0, 128, 511, 1023, 2047] 1 ⟨[(2, vi v11), (3, vi v13)], []⟩ ?_
   obtain rfl := oi hm
   refine q_rt ?_
   exact q_rm
 ·obtain ⟨v2, h3, hm⟩ := qB hm
  rcases bif_c hm with ⟨b4, hm⟩ | ⟨b4, hm⟩
  ·refine q_vu [qc 2 [5] 1 (jW a1.Thick v2 h3), qf 4 b4] 1 [] [(23, vb true)] [] [] ?_
   exact q_J (true) hm
  ·obtain ⟨v5, h6, hm⟩ := qB hm
   rcases bif_c hm with ⟨b7, hm⟩ | ⟨b7, hm⟩
   ·refine q_vu [qc 2 [5] 1 (jW a1.Thick v2 h3), qf 4 b4, qk 7 [8, 10] 1 ⟨[(8, vb false), (10, vi a1.Width)], []⟩ (jW a1.Width v5 h6), qf 10 b7] 1 [] [(23, vb true)] [] [] ?_
    exact q_J (true) hm
   ·rcases bif_c hm with ⟨b8, hm⟩ | ⟨b8, hm⟩
    ·refine q_vu [qc 2 [5] 1 (jW a1.Thick v2 h3), qf 4 b4, qk 7 [8, 10] 1 ⟨[(8, vb false), (10, vi a1.Width)], []⟩ (jW a1.Width v5 h6), qf 10 b7, qf 15 b8] 1 [] [(23, vb true)] [] [] ?_
     exact q_J (true) hm
    ·refine q_vu [qc 2 [5] 1 (jW a1.Thick v2 h3), qf 4 b4, qk 7 [8, 10] 1 ⟨[(8, vb false), (10, vi a1.Width)], []⟩ (jW a1.Width v5 h6), qf 10 b7, qf 15 b8] 1 [] [(23, vb (decide (a1.Allow > 200)))] [] [] ?_
     exact q_J (decide (a1.Allow > 200)) hm
def yG (r : Int) : V := vi r
def yI (r : Int) : List (Nat × (Nat × O)) := []
def VA (a1 : Product) (x18 : Int) (x26 : Bool) : St :=
 ⟨[(1, vp 0 0), (70, vc (tl e_i64 default a1.Lengths)), (71, vi ((a1.Lengths.length : Nat) : Int)), (72, vi x18), (94, vb x26)], [(0, bx 54 (qC a1))]⟩
def VF (a1 : Product) (x18 : Int) (x22 : Bool) : St :=
 ⟨[(1, vp 0 0), (5, vi x18), (6, vi (a1.Lengths.getD x18.toNat default)), (70, vc (tl e_i64 default a1.Lengths)), (71, vi ((a1.Lengths.length : Nat) : Int)), (72, vi x18), (82, vb x22)], [(0, bx 54 (qC a1))]⟩
def JX (a1 : Product) (x18 : Int) : St :=
 ⟨[(1, vp 0 0), (70, vc (tl e_i64 default a1.Lengths)), (71, vi ((a1.Lengths.length : Nat) : Int)), (72, vi x18)], [(0, bx 54 (qC a1))]⟩
def VN (a1 : Product) : St :=
 ⟨[(1, vp 0 0)], [(0, bx 54 (qC a1))]⟩
def VV (a1 : Product) (x32 : Int) (x36 : Bool) : St :=
 ⟨[(97, vc (tl e_i64 default a1.Prices)), (98, vi ((a1.Prices.length : Nat) : Int)), (99, vi x32), (108, vb x36)], []⟩
def JU (a1 : Product) (x32 : Int) : St :=
 ⟨[(97, vc (tl e_i64 default a1.Prices)), (98, vi ((a1.Prices.length : Nat) : Int)), (99, vi x32)], []⟩
def UZ : St :=
 ⟨[], []⟩
def VT (a1 : Product) (x10 : Bool) : St :=
 ⟨[(1, vp 0 0), (46, vb x10)], [(0, bx 54 (qC a1))]⟩
def VM (a1 : Product) (x5 : Bool) : St :=
 ⟨[(1, vp 0 0), (28, vb x5)], [(0, bx 54 (qC a1))]⟩
theorem OH (E : Env 0) (a1 : Product) : ∀ (n : Nat) (x18 : Int) (res : Int ⊕ Unit), zD a1 n x18 = some res → HL (kx E 110 0) (nd Tryz.f74 4084) (jB 0 (fun o => VN a1) (fun v st => RetQ Tryz.prog Tryz.f74 (yG v) (yI v) .ret st) res) n (JX a1 x18) := by
 intro n
 induction n with
 | zero =>
  intro x18 res hm
  cases hm
 | succ n ih =>
  intro x18 res hm
  refine qN ?_
  refine s_vu [] 1 [] [(73, vb (decide (x18 < ((a1.Lengths.length : Nat) : Int))))] [] [] ?_
  refine q_sq ?_
  refine q_cm hm (fun b19 hm => ?_) (fun b19 hm => ?_)
  ·refine q_sk ?_
   refine q_sq ?_
   refine q_bk 1 ?_
   obtain ⟨g20, hm⟩ := qI hm
   refine s_vu [qd 1 (Dir.none) (inb_of g20)] 1 [73] [(5, vi x18), (6, vi (a1.Lengths.getD x18.toNat default))] [] [] ?_
   refine q_sq ?_
   refine q_jn (ι := Bool) (fun p => VF a1 x18 p) (fun p => ZJ a1 x18 (zD a1 n) p = some res) ?_ ?_
   ·rintro x22 hm
    show H _ (VF a1 x18 x22) _ _
    refine q_cm hm (fun b23 hm => ?_) (fun b23 hm => ?_)
    ·refine s_vn [] 1 ⟨[(2, vi 9)], []⟩ ?_
     obtain rfl := oi hm
     refine q_rt ?_
     refine zJ 9 ?_
     exact q_rm
    ·refine q_sk ?_
     refine q_jn (ι := Bool) (fun p => VA a1 x18 p) (fun p => ZH x18 (zD a1 n) p = some res) ?_ ?_
     ·rintro x26 hm
      show H _ (VA a1 x18 x26) _ _
      refine q_cm hm (fun b27 hm => ?_) (fun b27 hm => ?_)
      ·refine s_vn [] 1 ⟨[(2, vi 11)], []⟩ ?_
       obtain rfl := oi hm
       refine q_rt ?_
       refine zJ 11 ?_
       exact q_rm
      ·refine q_sk ?_
       refine q_vu [] 1 [72, 94] [(72, vi (w64 (x18 + 1)))] [] [] ?_
       exact q_hl (JX a1 (w64 (x18 + 1))) (ih (w64 (x18 + 1)) _ hm)
     ·rcases bif_c hm with ⟨b24, hm⟩ | ⟨b24, hm⟩
      ·obtain ⟨g25, hm⟩ := qI hm
       refine q_vu [qf 2 b24, qd 8 (Dir.none) (inb_of g25)] 1 [5, 6, 82] [(94, vb (decide ((a1.Lengths.getD x18.toNat default) ≤ (a1.Lengths.getD (w64 (x18 - 1)).toNat default))))] [] [] ?_
       exact q_J (decide ((a1.Lengths.getD x18.toNat default) ≤ (a1.Lengths.getD (w64 (x18 - 1)).toNat default))) hm
      ·refine q_vu [qf 2 b24] 1 [5, 6, 82] [(94, vb false)] [] [] ?_
       exact q_J (false) hm
   ·rcases bif_c hm with ⟨b21, hm⟩ | ⟨b21, hm⟩
    ·refine q_vu [qf 2 b21] 1 [] [(82, vb true)] [] [] ?_
     exact q_J (true) hm
    ·refine q_vu [qf 2 b21] 1 [] [(82, vb (decide ((a1.Lengths.getD x18.toNat default) > 20000)))] [] [] ?_
     exact q_J (decide ((a1.Lengths.getD x18.toNat default) > 20000)) hm
  ·refine q_ex 0 ?_
   obtain rfl := oi hm
   exact jG () (by kernel_rfl) (by kernel_rfl)
theorem OM (E : Env 0) (a1 : Product) : ∀ (n : Nat) (x32 : Int) (res : Int ⊕ Unit), zM a1 n x32 = some res → HL (kx E 110 0) (nd Tryz.f74 8180) (jB 2 (fun o => UZ) (fun v st => RetQ Tryz.prog Tryz.f74 (yG v) (yI v) .ret st) res) n (JU a1 x32) := by
 intro n
 induction n with
 | zero =>
  intro x32 res hm
  cases hm
 | succ n ih =>
  intro x32 res hm
  refine qN ?_
  refine s_vu [] 1 [] [(100, vb (decide (x32 < ((a1.Prices.length : Nat) : Int))))] [] [] ?_
  refine q_sq ?_
  refine q_cm hm (fun b33 hm => ?_) (fun b33 hm => ?_)
  ·refine q_sk ?_
   refine q_sq ?_
   refine q_bk 3 ?_
   obtain ⟨g34, hm⟩ := qI hm
   refine s_vu [qd 0 (Dir.none) (inb_of g34)] 1 [100] [(8, vi (a1.Prices.getD x32.toNat default))] [] [] ?_
   refine q_jn (ι := Bool) (fun p => VV a1 x32 p) (fun p => ZI x32 (zM a1 n) p = some res) ?_ ?_
   ·rintro x36 hm
    show H _ (VV a1 x32 x36) _ _
    refine q_cm hm (fun b37 hm => ?_) (fun b37 hm => ?_)
    ·refine s_vn [] 1 ⟨[(2, vi 9)], []⟩ ?_
     obtain rfl := oi hm
     refine q_rt ?_
     refine zJ 9 ?_
     exact q_rm
    ·refine q_sk ?_
     refine q_vu [] 1 [99, 108] [(99, vi (w64 (x32 + 1)))] [] [] ?_
     exact q_hl (JU a1 (w64 (x32 + 1))) (ih (w64 (x32 + 1)) _ hm)
   ·rcases bif_c hm with ⟨b35, hm⟩ | ⟨b35, hm⟩
    ·refine q_vu [qf 2 b35] 1 [8] [(108, vb true)] [] [] ?_
     exact q_J (true) hm
    ·refine q_vu [qf 2 b35] 1 [8] [(108, vb (decide ((a1.Prices.getD x32.toNat default) > 1000000)))] [] [] ?_
     exact q_J (decide ((a1.Prices.getD x32.toNat default) > 1000000)) hm
  ·refine q_ex 2 ?_
   obtain rfl := oi hm
   exact jG () (by kernel_rfl) (by kernel_rfl)
theorem qBh (a1 : Product) (r : Int) (hm : QN a1 = some r) : CtX Tryz.prog globs 74 0 0 [.agg (qC a1)] [] (yG r) (yI r) := by
 unfold QN at hm
 refine q_E Tryz.f74 110 fun E => ?_
 refine s_vn [] 0 ⟨[(1, vp 0 0)], [(0, bx 54 (qC a1))]⟩ ?_
 refine q_sq ?_
 refine q_jn (ι := Bool) (fun p => VM a1 p) (fun p => wT a1 p = some r) ?_ ?_
 ·rintro x5 hm
  show H _ (VM a1 x5) _ _
  refine q_cm hm (fun b6 hm => ?_) (fun b6 hm => ?_)
  ·refine s_vn [] 1 ⟨[(2, vi 9)], []⟩ ?_
   obtain rfl := oi hm
   refine q_rt ?_
   exact q_rm
  ·refine q_sk ?_
   refine q_sq ?_
   refine q_jn (ι := Bool) (fun p => VT a1 p) (fun p => wU a1 p = some r) ?_ ?_
   ·rintro x10 hm
    show H _ (VT a1 x10) _ _
    refine q_cm hm (fun b11 hm => ?_) (fun b11 hm => ?_)
    ·refine s_vn [] 1 ⟨[(2, vi 9)], []⟩ ?_
     obtain rfl := oi hm
     refine q_rt ?_
     exact q_rm
    ·refine q_sk ?_
     refine q_sq ?_
     obtain ⟨v12, h13, hm⟩ := qB hm
     refine s_vu [qc 1 [48] 1 (TR a1 v12 h13)] 1 [46] [(4, vi v12.2)] [] [] ?_
     refine s_vu [] 1 [4] [(53, vb (decide (v12.2 > 600)))] [] [] ?_
     refine q_cm hm (fun b14 hm => ?_) (fun b14 hm => ?_)
     ·refine s_vn [] 1 ⟨[(2, vi 9)], []⟩ ?_
      obtain rfl := oi hm
      refine q_rt ?_
      exact q_rm
     ·refine q_sk ?_
      refine q_sq ?_
      refine s_vu [] 1 [53] [(57, vb (((a1.Lengths.length : Nat) : Int) == 0))] [] [] ?_
      refine q_cm hm (fun b15 hm => ?_) (fun b15 hm => ?_)
      ·refine s_vn [] 1 ⟨[(2, vi 3)], []⟩ ?_
       obtain rfl := oi hm
       refine q_rt ?_
       exact q_rm
      ·refine q_sk ?_
       refine q_sq ?_
       refine s_vu [] 1 [57] [(61, vb (decide (((a1.Lengths.length : Nat) : Int) > 8)))] [] [] ?_
       refine q_cm hm (fun b16 hm => ?_) (fun b16 hm => ?_)
       ·refine s_vn [] 1 ⟨[(2, vi 4)], []⟩ ?_
        obtain rfl := oi hm
        refine q_rt ?_
        exact q_rm
       ·refine q_sk ?_
        refine q_sq ?_
        refine s_vu [] 1 [61] [(68, vb (((a1.Prices.length : Nat) : Int) != ((a1.Lengths.length : Nat) : Int)))] [] [] ?_
        refine q_cm hm (fun b17 hm => ?_) (fun b17 hm => ?_)
        ·refine s_vn [] 1 ⟨[(2, vi 19)], []⟩ ?_
         obtain rfl := oi hm
         refine q_rt ?_
         exact q_rm
        ·refine q_sk ?_
         refine q_sq ?_
         refine s_vu [] 1 [68] [(70, vc (tl e_i64 default a1.Lengths)), (71, vi ((a1.Lengths.length : Nat) : Int)), (72, vi 0)] [] [] ?_
         obtain ⟨u30, h29, hm⟩ := qB hm
         refine zR (nd Tryz.f74 4084) 0 (by kernel_rfl) FUEL (fun o => VN a1) (fun v st => RetQ Tryz.prog Tryz.f74 (yG v) (yI v) .ret st) u30 (q_hl (JX a1 0) (OH E a1 FUEL 0 u30 h29)) ?_ ?_
         ·rintro v31 rfl st hr
          obtain rfl := oi hm
          exact hr
         ·rintro o28 rfl
          replace hm : _ = some r := hm
          refine q_sq ?_
          refine s_vn [] 1 ⟨[(97, vc (tl e_i64 default a1.Prices)), (98, vi ((a1.Prices.length : Nat) : Int)), (99, vi 0)], []⟩ ?_
          obtain ⟨u40, h39, hm⟩ := qB hm
          refine zR (nd Tryz.f74 8180) 2 (by kernel_rfl) FUEL (fun o => UZ) (fun v st => RetQ Tryz.prog Tryz.f74 (yG v) (yI v) .ret st) u40 (q_hl (JU a1 0) (OM E a1 FUEL 0 u40 h39)) ?_ ?_
          ·rintro v41 rfl st hr
           obtain rfl := oi hm
           exact hr
          ·rintro o38 rfl
           replace hm : _ = some r := hm
           refine s_vn [] 1 ⟨[(2, vi 0)], []⟩ ?_
           obtain rfl := oi hm
           refine q_rt ?_
           exact q_rm
   ·rcases bif_c hm with ⟨b7, hm⟩ | ⟨b7, hm⟩
    ·refine q_vu [qf 3 b7] 1 [28] [(46, vb true)] [] [] ?_
     exact q_J (true) hm
    ·rcases bif_c hm with ⟨b8, hm⟩ | ⟨b8, hm⟩
     ·refine q_vu [qf 3 b7, qf 8 b8] 1 [28] [(46, vb true)] [] [] ?_
      exact q_J (true) hm
     ·rcases bif_c hm with ⟨b9, hm⟩ | ⟨b9, hm⟩
      ·refine q_vu [qf 3 b7, qf 8 b8, qf 13 b9] 1 [28] [(46, vb true)] [] [] ?_
       exact q_J (true) hm
      ·refine q_vu [qf 3 b7, qf 8 b8, qf 13 b9] 1 [28] [(46, vb (decide (a1.Wane > 1000)))] [] [] ?_
       exact q_J (decide (a1.Wane > 1000)) hm
 ·rcases bif_c hm with ⟨b2, hm⟩ | ⟨b2, hm⟩
  ·refine q_vu [qf 3 b2] 1 [] [(28, vb true)] [] [] ?_
   exact q_J (true) hm
  ·rcases bif_c hm with ⟨b3, hm⟩ | ⟨b3, hm⟩
   ·refine q_vu [qf 3 b2, qf 8 b3] 1 [] [(28, vb true)] [] [] ?_
    exact q_J (true) hm
   ·rcases bif_c hm with ⟨b4, hm⟩ | ⟨b4, hm⟩
    ·refine q_vu [qf 3 b2, qf 8 b3, qf 15 b4] 1 [] [(28, vb true)] [] [] ?_
     exact q_J (true) hm
    ·refine q_vu [qf 3 b2, qf 8 b3, qf 15 b4] 1 [] [(28, vb (decide (a1.Width > 600)))] [] [] ?_
     exact q_J (decide (a1.Width > 600)) hm
end Saw
end Go.SL
