import Derived.Test.YtidlfgiogdjkaaaGreatDoorEBase
import Derived.Test.YtidlfgiogdjkaaaGreatDoorEFa5
import Derived.Test.YtidlfgiogdjkaaaGreatDoorEFa2
import Derived.Test.YtidlfgiogdjkaaaGreatDoorEFa4
import Derived.Test.YtidlfgiogdjkaaaGreatDoorYa6
import Derived.Ground.NamesProg
set_option linter.unusedVariables false
set_option linter.unusedSimpArgs false
namespace Go.SL
namespace Saw
open Go.Proofs
set_option maxHeartbeats 4000000
set_option maxRecDepth 100000
def XJ (r : (List Node) × Int) : V := .tup [.one (.own 0 0 2 r.1.length), .one (ci r.2)]
def ZB (r : (List Node) × Int) : List (Nat × (Nat × O)) := [(0, ro 0 65 2 r.1.length (rf e_Node r.1))]
theorem OQ (r : (List Node) × Int) : yJ (ZB r) := by
 intro i k o h
 unfold ZB at h
 rw [look_cons] at h
 split at h
 ·cases h; exact fun _ _ => rfl
 ·cases h
def qAs (a2 : Int) (a3 : Int) (a4 : List Span) (a5 : List (List Node)) (v17 : Span) (x21 : Int) (x40 : Int) (x41 : Bool) (l42 : List Node) (l42n : Nat) (x43 : Int) : St :=
 ⟨[(1, vi a2), (2, vi a3), (4, vc (tl (qD e_Node) default a5)), (12, vp 1 0), (13, vp 2 0), (14, vc (.fn 154 [.bptr 2 0 0, .bptr 1 0 0])), (15, vp 3 0), (16, vi x40), (17, vb x41), (18, vi x21), (45, vc (tl e_Span default a4)), (46, vi ((a4.length : Nat) : Int)), (47, vi x21)], [(1, bx 44 [.own 4 0 2 l42n]), (2, bx 3 [ci x43]), (3, bx 31 (e_Span v17)), (4, ro 0 65 2 l42n (rf e_Node l42))]⟩
def qAB (a2 : Int) (a3 : Int) (a4 : List Span) (a5 : List (List Node)) (v17 : Span) (x19 : Int) (x20 : Bool) (x21 : Int) (l35 : List Node) (l35n : Nat) (x36 : Int) : St :=
 ⟨[(1, vi a2), (2, vi a3), (4, vc (tl (qD e_Node) default a5)), (12, vp 1 0), (13, vp 2 0), (14, vc (.fn 154 [.bptr 2 0 0, .bptr 1 0 0])), (15, vp 3 0), (16, vi x19), (17, vb x20), (18, vi x21), (19, vp 5 0), (45, vc (tl e_Span default a4)), (46, vi ((a4.length : Nat) : Int)), (47, vi x21)], [(1, bx 44 [.own 4 0 2 l35n]), (2, bx 3 [ci x36]), (3, bx 31 (e_Span v17)), (4, ro 0 65 2 l35n (rf e_Node l35)), (5, bx 31 [ci ((a4.getD x21.toNat default).A), ci ((a4.getD x21.toNat default).B)])]⟩
def qBc (a2 : Int) (a3 : Int) (a4 : List Span) (a5 : List (List Node)) (v17 : Span) (x19 : Int) (x20 : Bool) (x21 : Int) (l22 : List Node) (x23 : Int) (x29 : Bool) : St :=
 ⟨[(1, vi a2), (2, vi a3), (4, vc (tl (qD e_Node) default a5)), (12, vp 1 0), (13, vp 2 0), (14, vc (.fn 154 [.bptr 2 0 0, .bptr 1 0 0])), (15, vp 3 0), (16, vi x19), (17, vb x20), (18, vi x21), (19, vp 5 0), (45, vc (tl e_Span default a4)), (46, vi ((a4.length : Nat) : Int)), (47, vi x21), (58, vb x29)], [(1, bx 44 [.own 4 0 2 l22.length]), (2, bx 3 [ci x23]), (3, bx 31 (e_Span v17)), (4, ro 0 65 2 l22.length (rf e_Node l22)), (5, bx 31 [ci ((a4.getD x21.toNat default).A), ci ((a4.getD x21.toNat default).B)])]⟩
def FP (a2 : Int) (a3 : Int) (a4 : List Span) (a5 : List (List Node)) (v17 : Span) (x19 : Int) (x20 : Bool) (x21 : Int) (l22 : List Node) (l22n : Nat) (x23 : Int) : St :=
 ⟨[(1, vi a2), (2, vi a3), (4, vc (tl (qD e_Node) default a5)), (12, vp 1 0), (13, vp 2 0), (14, vc (.fn 154 [.bptr 2 0 0, .bptr 1 0 0])), (15, vp 3 0), (16, vi x19), (17, vb x20), (45, vc (tl e_Span default a4)), (46, vi ((a4.length : Nat) : Int)), (47, vi x21)], [(1, bx 44 [.own 4 0 2 l22n]), (2, bx 3 [ci x23]), (3, bx 31 (e_Span v17)), (4, ro 0 65 2 l22n (rf e_Node l22))]⟩
def qAy (x47 : Bool) (l48 : List Node) (x49 : Int) : St :=
 ⟨[(12, vp 1 0), (13, vp 2 0), (14, vc (.fn 154 [.bptr 2 0 0, .bptr 1 0 0])), (17, vb x47)], [(1, bx 44 [.own 4 0 2 l48.length]), (2, bx 3 [ci x49]), (4, ro 0 65 2 l48.length (rf e_Node l48))]⟩
def qAH (x57 : Int) (l58 : List Node) (l58n : Nat) : St :=
 ⟨[(12, vp 1 0), (13, vp 2 0)], [(1, bx 44 [.own 4 0 2 l58n]), (2, bx 3 [ci x57]), (4, ro 0 65 2 l58n (rf e_Node l58))]⟩
def qAF (a1 : Rect) (a2 : Int) (a3 : Int) (a4 : List Span) (a5 : List (List Node)) (x15 : Bool) : St :=
 ⟨[(1, vi a2), (2, vi a3), (3, vc (tl e_Span default a4)), (4, vc (tl (qD e_Node) default a5)), (5, vp 0 0), (38, vb x15)], [(0, bx 33 (qH a1))]⟩
def qAE (a1 : Rect) (a2 : Int) (a3 : Int) (a4 : List Span) (a5 : List (List Node)) (x12 : Bool) : St :=
 ⟨[(1, vi a2), (2, vi a3), (3, vc (tl e_Span default a4)), (4, vc (tl (qD e_Node) default a5)), (5, vp 0 0), (32, vb x12)], [(0, bx 33 (qH a1))]⟩
theorem qFz (E : Env 0) (a2 : Int) (a3 : Int) (a4 : List Span) (a5 : List (List Node)) (v17 : Span) : ∀ (n : Nat) (x19 : Int) (x20 : Bool) (x21 : Int) (l22 : List Node) (l22n : Nat) (x23 : Int) (res : ((List Node) × Int) ⊕ (Bool × (List Node) × Int)), l22.length = l22n → wA a2 a3 a4 a5 v17 n x19 x20 x21 l22 x23 = some res → HL (kx E 130 0) (nd Tryz.f90 16372) (jB 0 (fun o => qAy o.1 o.2.1 o.2.2) (fun v st => RetQ Tryz.prog Tryz.f90 (XJ v) (ZB v) .ret st) res) n (FP a2 a3 a4 a5 v17 x19 x20 x21 l22 l22n x23) := by
 intro n
 induction n with
 | zero =>
  intro x19 x20 x21 l22 l22n x23 res hl0 hm
  cases hm
 | succ n ih =>
  intro x19 x20 x21 l22 l22n x23 res hl0 hm
  subst hl0
  refine qN ?_
  refine s_vu [] 5 [] [(48, vb (decide (x21 < ((a4.length : Nat) : Int))))] [] [] ?_
  refine q_sq ?_
  refine q_cm hm (fun b24 hm => ?_) (fun b24 hm => ?_)
  ·refine q_sk ?_
   refine q_sq ?_
   refine q_bk 1 ?_
   obtain ⟨g25, hm⟩ := qI hm
   refine s_vu [qd 1 (Dir.none) (inb_of g25)] 5 [48] [(18, vi x21), (19, vp 5 0)] [] [(5, bx 31 [ci ((a4.getD x21.toNat default).A), ci ((a4.getD x21.toNat default).B)])] ?_
   refine q_sq ?_
   refine q_bk 2 ?_
   refine s_vu [] 6 [] [(52, vb (decide (((a4.getD x21.toNat default).A) ≥ ((a4.getD x21.toNat default).B))))] [] [] ?_
   refine q_cm hm (fun b26 hm => ?_) (fun b26 hm => ?_)
   ·refine s_vn [] 6 ⟨[(10, vc (.emp)), (11, vi 19)], []⟩ ?_
    refine q_fn [.own 10 6 65 2 (rf e_Node ([] : List Node))] ⟨[(10, vo 6 0 2 0), (11, vi 19)], [(6, ro 0 65 2 0 (rf e_Node ([] : List Node)))]⟩ o0 ?_
    refine q_fn [.len 6 (([] : List Node).length)] ⟨[(10, vo 6 0 2 (([] : List Node).length)), (11, vi 19)], [(6, ro 0 65 2 (([] : List Node).length) (rf e_Node ([] : List Node)))]⟩ (o1 (And.intro (show 0 = ([] : List Node).length from rfl) (show 0 = ([] : List Node).length from rfl))) ?_
    obtain rfl := oi hm
    refine qU 6 0 (by kernel_rfl) ?_
    refine q_rt ?_
    refine zJ (([] : List Node), 19) ?_
    exact q_rm
   ·refine q_jn (ι := Bool) (fun p => qBc a2 a3 a4 a5 v17 x19 x20 x21 l22 x23 p) (fun p => PK a2 a3 a4 a5 v17 x19 x20 x21 l22 x23 (wA a2 a3 a4 a5 v17 n) p = some res) ?_ ?_
    ·rintro x29 hm
     show H _ (qBc a2 a3 a4 a5 v17 x19 x20 x21 l22 x23 x29) _ _
     refine q_cm hm (fun b30 hm => ?_) (fun b30 hm => ?_)
     ·refine s_vn [] 6 ⟨[(10, vc (.emp)), (11, vi 11)], []⟩ ?_
      refine q_fn [.own 10 6 65 2 (rf e_Node ([] : List Node))] ⟨[(10, vo 6 0 2 0), (11, vi 11)], [(6, ro 0 65 2 0 (rf e_Node ([] : List Node)))]⟩ o0 ?_
      refine q_fn [.len 6 (([] : List Node).length)] ⟨[(10, vo 6 0 2 (([] : List Node).length)), (11, vi 11)], [(6, ro 0 65 2 (([] : List Node).length) (rf e_Node ([] : List Node)))]⟩ (o1 (And.intro (show 0 = ([] : List Node).length from rfl) (show 0 = ([] : List Node).length from rfl))) ?_
      obtain rfl := oi hm
      refine qU 6 0 (by kernel_rfl) ?_
      refine q_rt ?_
      refine zJ (([] : List Node), 11) ?_
      exact q_rm
     ·refine s_vu [] 6 [58] [(75, vb (decide (((a4.getD x21.toNat default).B) > v17.B)))] [] [] ?_
      refine q_cm hm (fun b31 hm => ?_) (fun b31 hm => ?_)
      ·refine s_vn [] 6 ⟨[(10, vc (.emp)), (11, vi 20)], []⟩ ?_
       refine q_fn [.own 10 6 65 2 (rf e_Node ([] : List Node))] ⟨[(10, vo 6 0 2 0), (11, vi 20)], [(6, ro 0 65 2 0 (rf e_Node ([] : List Node)))]⟩ o0 ?_
       refine q_fn [.len 6 (([] : List Node).length)] ⟨[(10, vo 6 0 2 (([] : List Node).length)), (11, vi 20)], [(6, ro 0 65 2 (([] : List Node).length) (rf e_Node ([] : List Node)))]⟩ (o1 (And.intro (show 0 = ([] : List Node).length from rfl) (show 0 = ([] : List Node).length from rfl))) ?_
       obtain rfl := oi hm
       refine qU 6 0 (by kernel_rfl) ?_
       refine q_rt ?_
       refine zJ (([] : List Node), 20) ?_
       exact q_rm
      ·refine q_sk ?_
       refine q_jn (ι := (List Node) × Nat × Int) (fun p => qAB a2 a3 a4 a5 v17 x19 x20 x21 p.1 p.2.1 p.2.2) (fun p => p.1.length = p.2.1 ∧ RG a2 a3 a4 a5 v17 x19 x20 x21 (wA a2 a3 a4 a5 v17 n) p.1 p.2.2 = some res) ?_ ?_
       ·rintro ⟨l35, l35n, x36⟩ ⟨el35, hm⟩
        replace el35 : l35.length = l35n := el35
        subst el35
        show H _ (qAB a2 a3 a4 a5 v17 x19 x20 x21 l35 l35.length x36) _ _
        refine q_jn (ι := Int × Bool × (List Node) × Nat × Int) (fun p => qAs a2 a3 a4 a5 v17 x21 p.1 p.2.1 p.2.2.1 p.2.2.2.1 p.2.2.2.2) (fun p => p.2.2.1.length = p.2.2.2.1 ∧ DT a5 x21 (wA a2 a3 a4 a5 v17 n) p.1 p.2.1 p.2.2.1 p.2.2.2.2 = some res) ?_ ?_
        ·rintro ⟨x40, x41, l42, l42n, x43⟩ ⟨el42, hm⟩
         replace el42 : l42.length = l42n := el42
         subst el42
         show H _ (qAs a2 a3 a4 a5 v17 x21 x40 x41 l42 l42.length x43) _ _
         obtain ⟨g44, hm⟩ := qI hm
         obtain ⟨v45, h46, hm⟩ := qB hm
         refine q_vu [qd 3 (Dir.none) (inb_of g44), qd 5 (dex (cen [(2, 0), (1, 0), (4, 0)] [0, 0, 1] 5 2 (WK (a5.getD x21.toNat default) x43 l42 v45) (pattern_Row_1_s1_o (a5.getD x21.toNat default) x43 l42 v45) [114, 118] [2, 1, 4])) (wR (K := (kx E 130 0)) ⟨[(114, vc (.fn 154 [.bptr 2 0 0, .bptr 1 0 0])), (118, vc (tl e_Node default (a5.getD x21.toNat default)))], [(2, bx 3 [ci x43]), (1, bx 44 [.own 4 0 2 l42.length]), (4, ro 0 65 2 l42.length (rf e_Node l42))]⟩ (opAt (rg Tryz.f90 4191439) 5) [(2, 0), (1, 0), (4, 0)] [0, 0, 1] 5 o0 rfl (XA (a5.getD x21.toNat default) x43 l42 v45 h46) (.inl rfl) (by kernel_rfl))] 8 [18] [] [1, 2, 4] [(1, bx 44 [.own 4 1 2 v45.2.length]), (2, bx 3 [ci v45.1]), (4, ro 1 65 2 v45.2.length (rf e_Node v45.2))] ?_
         refine q_vu [] 8 [47] [(47, vi (w64 (x21 + 1)))] [] [] ?_
         exact q_hl (FP a2 a3 a4 a5 v17 x40 x41 (w64 (x21 + 1)) v45.2 v45.2.length v45.1) (ih x40 x41 (w64 (x21 + 1)) v45.2 v45.2.length v45.1 _ rfl hm)
        ·refine s_vu [] 7 [] [(99, vb (decide (((a4.getD x21.toNat default).B) < v17.B)))] [] [] ?_
         refine q_cm hm (fun b37 hm => ?_) (fun b37 hm => ?_)
         ·obtain ⟨v38, h39, hm⟩ := qB hm
          refine s_vu [qd 5 (drw 7 0 (rf e_Node ([(Node.mk a2 ((a4.getD x21.toNat default).B))] : List Node))) (litP e_Node default 2 (fun _ => rfl) ([(Node.mk a2 ((a4.getD x21.toNat default).B))] : List Node) 1 rfl), qd 6 (dex (cen [(2, 0), (1, 0), (4, 0)] [0, 0, 1] 5 2 (WK ([(Node.mk a2 ((a4.getD x21.toNat default).B))] : List Node) x36 l35 v38) (pattern_Row_1_s1_o ([(Node.mk a2 ((a4.getD x21.toNat default).B))] : List Node) x36 l35 v38) [100, 105] [2, 1, 4, 7])) (wR (K := (kx E 130 0)) (xs' := [.one (.lst 1 (rf e_Node ([(Node.mk a2 ((a4.getD x21.toNat default).B))] : List Node))), .one (.bptr 0 0 0), .one (.bptr 1 0 0)]) (b := false) ⟨[(100, vc (.fn 154 [.bptr 2 0 0, .bptr 1 0 0])), (105, vo 7 0 2 1)], [(2, bx 3 [ci x36]), (1, bx 44 [.own 4 0 2 l35.length]), (4, ro 0 65 2 l35.length (rf e_Node l35)), (7, ro 0 65 2 1 (rf e_Node ([(Node.mk a2 ((a4.getD x21.toNat default).B))] : List Node)))]⟩ (opAt (rg Tryz.f90 33531508) 6) [(2, 0), (1, 0), (4, 0)] [0, 0, 1] 5 (o1 (Nat.le_refl 1)) (by simp only [tl, rf, show ([(Node.mk a2 ((a4.getD x21.toNat default).B))] : List Node).length = 1 from rfl]) (XA ([(Node.mk a2 ((a4.getD x21.toNat default).B))] : List Node) x36 l35 v38 h39) (.inr ⟨(by kernel_rfl), GR  ([(Node.mk a2 ((a4.getD x21.toNat default).B))] : List Node) x36 l35 v38⟩) (by kernel_rfl))] 7 [16, 99] [] [1, 2, 4] [(1, bx 44 [.own 4 1 2 v38.2.length]), (2, bx 3 [ci v38.1]), (4, ro 1 65 2 v38.2.length (rf e_Node v38.2))] ?_
          refine q_vu [] 8 [19] [(16, vi (imin (w64 (((a4.getD x21.toNat default).B) + a3)) v17.B))] [5] [] ?_
          exact q_J (imin (w64 (((a4.getD x21.toNat default).B) + a3)) v17.B, x20, v38.2, v38.2.length, v38.1) ⟨rfl, hm⟩
         ·refine q_vu [] 7 [17, 19, 99] [(17, vb true)] [5] [] ?_
          exact q_J (x19, true, l35, l35.length, x36) ⟨rfl, hm⟩
       ·refine s_vu [] 6 [75] [(84, vb (decide (((a4.getD x21.toNat default).A) > x19)))] [] [] ?_
        refine q_cm hm (fun b32 hm => ?_) (fun b32 hm => ?_)
        ·obtain ⟨v33, h34, hm⟩ := qB hm
         refine q_vu [qd 8 (drw 6 0 (rf e_Node ([(Node.mk a2 (w64 (((a4.getD x21.toNat default).A) - a3))), (Node.mk 0 0)] : List Node))) (litP e_Node default 2 (fun _ => rfl) ([(Node.mk a2 (w64 (((a4.getD x21.toNat default).A) - a3))), (Node.mk 0 0)] : List Node) 2 rfl), qd 9 (dex (cen [(2, 0), (1, 0), (4, 0)] [0, 0, 1] 4 2 (WK ([(Node.mk a2 (w64 (((a4.getD x21.toNat default).A) - a3))), (Node.mk 0 0)] : List Node) x23 l22 v33) (pattern_Row_1_s1_o ([(Node.mk a2 (w64 (((a4.getD x21.toNat default).A) - a3))), (Node.mk 0 0)] : List Node) x23 l22 v33) [85, 93] [2, 1, 4, 6])) (wR (K := (kx E 130 0)) (xs' := [.one (.lst 2 (rf e_Node ([(Node.mk a2 (w64 (((a4.getD x21.toNat default).A) - a3))), (Node.mk 0 0)] : List Node))), .one (.bptr 0 0 0), .one (.bptr 1 0 0)]) (b := false) ⟨[(85, vc (.fn 154 [.bptr 2 0 0, .bptr 1 0 0])), (93, vo 6 0 2 2)], [(2, bx 3 [ci x23]), (1, bx 44 [.own 4 0 2 l22.length]), (4, ro 0 65 2 l22.length (rf e_Node l22)), (6, ro 0 65 2 2 (rf e_Node ([(Node.mk a2 (w64 (((a4.getD x21.toNat default).A) - a3))), (Node.mk 0 0)] : List Node)))]⟩ (opAt (rg Tryz.f90 8382874) 9) [(2, 0), (1, 0), (4, 0)] [0, 0, 1] 4 (o1 (Nat.le_refl 2)) (by simp only [tl, rf, show ([(Node.mk a2 (w64 (((a4.getD x21.toNat default).A) - a3))), (Node.mk 0 0)] : List Node).length = 2 from rfl]) (XA ([(Node.mk a2 (w64 (((a4.getD x21.toNat default).A) - a3))), (Node.mk 0 0)] : List Node) x23 l22 v33 h34) (.inr ⟨(by kernel_rfl), GR  ([(Node.mk a2 (w64 (((a4.getD x21.toNat default).A) - a3))), (Node.mk 0 0)] : List Node) x23 l22 v33⟩) (by kernel_rfl))] 6 [84] [] [1, 2, 4] [(1, bx 44 [.own 4 1 2 v33.2.length]), (2, bx 3 [ci v33.1]), (4, ro 1 65 2 v33.2.length (rf e_Node v33.2))] ?_
         exact q_J (v33.2, v33.2.length, v33.1) ⟨rfl, hm⟩
        ·refine q_sk ?_
         exact q_J (l22, l22.length, x23) ⟨rfl, hm⟩
    ·rcases bif_c hm with ⟨b27, hm⟩ | ⟨b27, hm⟩
     ·refine q_vu [qf 1 b27] 6 [52] [(58, vb true)] [] [] ?_
      exact q_J (true) hm
     ·rcases bif_c hm with ⟨b28, hm⟩ | ⟨b28, hm⟩
      ·refine q_vu [qf 1 b27, qf 6 b28] 6 [52] [(58, vb (decide (((a4.getD x21.toNat default).A) < (w64 ((w64 (x19 + a3)) + 1)))))] [] [] ?_
       exact q_J (decide (((a4.getD x21.toNat default).A) < (w64 ((w64 (x19 + a3)) + 1)))) hm
      ·refine q_vu [qf 1 b27, qf 6 b28] 6 [52] [(58, vb false)] [] [] ?_
       exact q_J (false) hm
  ·refine q_ex 0 ?_
   obtain rfl := oi hm
   exact jG (x20, l22, x23) (by kernel_rfl) (by kernel_rfl)
theorem pattern_Row_ok (a1 : Rect) (a2 : Int) (a3 : Int) (a4 : List Span) (a5 : List (List Node)) (r : (List Node) × Int) (hm : WB a1 a2 a3 a4 a5 = some r) : CtX Tryz.prog globs 90 0 0 [.agg (qH a1), .one (ci a2), .one (ci a3), .one (tl e_Span default a4), .one (tl (qD e_Node) default a5)] [] (XJ r) (ZB r) := by
 unfold WB at hm
 refine q_E Tryz.f90 130 fun E => ?_
 refine s_vn [] 0 ⟨[(1, vi a2), (2, vi a3), (3, vc (tl e_Span default a4)), (4, vc (tl (qD e_Node) default a5)), (5, vp 0 0)], [(0, bx 33 (qH a1))]⟩ ?_
 refine q_sq ?_
 obtain ⟨v6, h7, hm⟩ := qB hm
 refine s_vu [qc 1 [20] 1 (qGe a2 v6 h7)] 1 [] [(22, vb (!v6))] [] [] ?_
 refine q_cm hm (fun b8 hm => ?_) (fun b8 hm => ?_)
 ·refine s_vn [] 1 ⟨[(10, vc (.emp)), (11, vi 10)], []⟩ ?_
  refine q_fn [.own 10 1 65 2 (rf e_Node ([] : List Node))] ⟨[(10, vo 1 0 2 0), (11, vi 10)], [(1, ro 0 65 2 0 (rf e_Node ([] : List Node)))]⟩ o0 ?_
  refine q_fn [.len 1 (([] : List Node).length)] ⟨[(10, vo 1 0 2 (([] : List Node).length)), (11, vi 10)], [(1, ro 0 65 2 (([] : List Node).length) (rf e_Node ([] : List Node)))]⟩ (o1 (And.intro (show 0 = ([] : List Node).length from rfl) (show 0 = ([] : List Node).length from rfl))) ?_
  obtain rfl := oi hm
  refine qU 1 0 (by kernel_rfl) ?_
  refine q_rt ?_
  exact q_rm
 ·refine q_sk ?_
  refine q_sq ?_
  refine q_jn (ι := Bool) (fun p => qAE a1 a2 a3 a4 a5 p) (fun p => DS a1 a2 a3 a4 a5 p = some r) ?_ ?_
  ·rintro x12 hm
   show H _ (qAE a1 a2 a3 a4 a5 x12) _ _
   refine q_cm hm (fun b13 hm => ?_) (fun b13 hm => ?_)
   ·refine s_vn [] 1 ⟨[(10, vc (.emp)), (11, vi 19)], []⟩ ?_
    refine q_fn [.own 10 1 65 2 (rf e_Node ([] : List Node))] ⟨[(10, vo 1 0 2 0), (11, vi 19)], [(1, ro 0 65 2 0 (rf e_Node ([] : List Node)))]⟩ o0 ?_
    refine q_fn [.len 1 (([] : List Node).length)] ⟨[(10, vo 1 0 2 (([] : List Node).length)), (11, vi 19)], [(1, ro 0 65 2 (([] : List Node).length) (rf e_Node ([] : List Node)))]⟩ (o1 (And.intro (show 0 = ([] : List Node).length from rfl) (show 0 = ([] : List Node).length from rfl))) ?_
    obtain rfl := oi hm
    refine qU 1 0 (by kernel_rfl) ?_
    refine q_rt ?_
    exact q_rm
   ·refine q_sk ?_
    refine q_sq ?_
    refine q_jn (ι := Bool) (fun p => qAF a1 a2 a3 a4 a5 p) (fun p => BD a1 a2 a3 a4 a5 p = some r) ?_ ?_
    ·rintro x15 hm
     show H _ (qAF a1 a2 a3 a4 a5 x15) _ _
     refine q_cm hm (fun b16 hm => ?_) (fun b16 hm => ?_)
     ·refine s_vn [] 1 ⟨[(10, vc (.emp)), (11, vi 9)], []⟩ ?_
      refine q_fn [.own 10 1 65 2 (rf e_Node ([] : List Node))] ⟨[(10, vo 1 0 2 0), (11, vi 9)], [(1, ro 0 65 2 0 (rf e_Node ([] : List Node)))]⟩ o0 ?_
      refine q_fn [.len 1 (([] : List Node).length)] ⟨[(10, vo 1 0 2 (([] : List Node).length)), (11, vi 9)], [(1, ro 0 65 2 (([] : List Node).length) (rf e_Node ([] : List Node)))]⟩ (o1 (And.intro (show 0 = ([] : List Node).length from rfl) (show 0 = ([] : List Node).length from rfl))) ?_
      obtain rfl := oi hm
      refine qU 1 0 (by kernel_rfl) ?_
      refine q_rt ?_
      exact q_rm
     ·refine q_sk ?_
      refine s_vu [] 1 [38] [(12, vp 1 0)] [] [(1, bx 44 [.emp])] ?_
      refine s_vu [] 2 [] [(13, vp 2 0)] [] [(2, bx 3 [ci 0])] ?_
      refine s_vu [] 3 [] [(14, vc (.fn 154 [.bptr 2 0 0, .bptr 1 0 0]))] [] [] ?_
      obtain ⟨v17, h18, hm⟩ := qB hm
      refine s_vu [qc 2 [40, 41] 3 (qGW a1 a2 v17 h18)] 3 [5] [(15, vp 3 0)] [0] [(3, bx 31 (e_Span v17))] ?_
      refine s_vu [] 4 [] [(16, vi v17.A), (17, vb false)] [] [] ?_
      refine q_sq ?_
      refine s_vu [] 4 [3] [(45, vc (tl e_Span default a4)), (46, vi ((a4.length : Nat) : Int)), (47, vi 0)] [] [] ?_
      refine q_fn [.ownB 1 0 4 65 2 (rf e_Node ([] : List Node))] ⟨[(1, vi a2), (2, vi a3), (4, vc (tl (qD e_Node) default a5)), (12, vp 1 0), (13, vp 2 0), (14, vc (.fn 154 [.bptr 2 0 0, .bptr 1 0 0])), (15, vp 3 0), (16, vi v17.A), (17, vb false), (45, vc (tl e_Span default a4)), (46, vi ((a4.length : Nat) : Int)), (47, vi 0)], [(1, bx 44 [.own 4 0 2 0]), (2, bx 3 [ci 0]), (3, bx 31 (e_Span v17)), (4, ro 0 65 2 0 (rf e_Node ([] : List Node)))]⟩ o0 ?_
      obtain ⟨u52, h51, hm⟩ := qB hm
      refine zR (nd Tryz.f90 16372) 0 (by kernel_rfl) FUEL (fun o => qAy o.1 o.2.1 o.2.2) (fun v st => RetQ Tryz.prog Tryz.f90 (XJ v) (ZB v) .ret st) u52 (q_hl (FP a2 a3 a4 a5 v17 v17.A false 0 ([] : List Node) 0 0) (qFz E a2 a3 a4 a5 v17 FUEL v17.A false 0 ([] : List Node) 0 0 u52 rfl h51)) ?_ ?_
      ·rintro v53 rfl st hr
       obtain rfl := oi hm
       exact hr
      ·rintro o50 rfl
       replace hm : _ = some r := hm
       refine q_jn (ι := Int × (List Node) × Nat) (fun p => qAH p.1 p.2.1 p.2.2) (fun p => p.2.1.length = p.2.2 ∧ RF p.1 p.2.1 = some r) ?_ ?_
       ·rintro ⟨x57, l58, l58n⟩ ⟨el58, hm⟩
        replace el58 : l58.length = l58n := el58
        subst el58
        show H _ (qAH x57 l58 l58.length) _ _
        refine q_sq ?_
        refine s_vu [] 6 [13] [(128, vb (decide (x57 > 127)))] [2] [] ?_
        refine q_cm hm (fun b59 hm => ?_) (fun b59 hm => ?_)
        ·refine s_vn [] 6 ⟨[(10, vc (.emp)), (11, vi 4)], []⟩ ?_
         refine q_fn [.own 10 6 65 2 (rf e_Node ([] : List Node))] ⟨[(10, vo 6 0 2 0), (11, vi 4)], [(6, ro 0 65 2 0 (rf e_Node ([] : List Node)))]⟩ o0 ?_
         refine q_fn [.len 6 (([] : List Node).length)] ⟨[(10, vo 6 0 2 (([] : List Node).length)), (11, vi 4)], [(6, ro 0 65 2 (([] : List Node).length) (rf e_Node ([] : List Node)))]⟩ (o1 (And.intro (show 0 = ([] : List Node).length from rfl) (show 0 = ([] : List Node).length from rfl))) ?_
         obtain rfl := oi hm
         refine qU 6 0 (by kernel_rfl) ?_
         refine q_rt ?_
         exact q_rm
        ·refine q_sk ?_
         refine s_vu [] 6 [12, 128] [(10, vo 4 0 2 l58.length), (11, vi 0)] [1] [] ?_
         obtain rfl := oi hm
         refine qU 4 0 (by kernel_rfl) ?_
         refine q_rt ?_
         exact q_rm
       ·refine s_vu [] 5 [17] [(122, vb (!o50.1))] [] [] ?_
        refine q_cm hm (fun b54 hm => ?_) (fun b54 hm => ?_)
        ·obtain ⟨v55, h56, hm⟩ := qB hm
         refine q_vu [qd 2 (drw 5 0 (rf e_Node ([(Node.mk 0 0)] : List Node))) (litP e_Node default 2 (fun _ => rfl) ([(Node.mk 0 0)] : List Node) 1 rfl), qd 3 (dex (cen [(2, 0), (1, 0), (4, 0)] [0, 0, 1] 3 2 (WK ([(Node.mk 0 0)] : List Node) o50.2.2 o50.2.1 v55) (pattern_Row_1_s1_o ([(Node.mk 0 0)] : List Node) o50.2.2 o50.2.1 v55) [123, 125] [2, 1, 4, 5])) (wR (K := (kx E 130 0)) (xs' := [.one (.lst 1 (rf e_Node ([(Node.mk 0 0)] : List Node))), .one (.bptr 0 0 0), .one (.bptr 1 0 0)]) (b := false) ⟨[(123, vc (.fn 154 [.bptr 2 0 0, .bptr 1 0 0])), (125, vo 5 0 2 1)], [(2, bx 3 [ci o50.2.2]), (1, bx 44 [.own 4 0 2 o50.2.1.length]), (4, ro 0 65 2 o50.2.1.length (rf e_Node o50.2.1)), (5, ro 0 65 2 1 (rf e_Node ([(Node.mk 0 0)] : List Node)))]⟩ (opAt (rg Tryz.f90 16378) 3) [(2, 0), (1, 0), (4, 0)] [0, 0, 1] 3 (o1 (Nat.le_refl 1)) (by simp only [tl, rf, show ([(Node.mk 0 0)] : List Node).length = 1 from rfl]) (XA ([(Node.mk 0 0)] : List Node) o50.2.2 o50.2.1 v55 h56) (.inr ⟨(by kernel_rfl), GR  ([(Node.mk 0 0)] : List Node) o50.2.2 o50.2.1 v55⟩) (by kernel_rfl))] 5 [14, 122] [] [1, 2, 4] [(1, bx 44 [.own 4 1 2 v55.2.length]), (2, bx 3 [ci v55.1]), (4, ro 1 65 2 v55.2.length (rf e_Node v55.2))] ?_
         exact q_J (v55.1, v55.2, v55.2.length) ⟨rfl, hm⟩
        ·refine q_sk ?_
         exact q_J (o50.2.2, o50.2.1, o50.2.1.length) ⟨rfl, hm⟩
    ·rcases bif_c hm with ⟨b14, hm⟩ | ⟨b14, hm⟩
     ·refine q_vu [qf 2 b14] 1 [32] [(38, vb true)] [] [] ?_
      exact q_J (true) hm
     ·refine q_vu [qf 2 b14] 1 [32] [(38, vb (decide (a3 > 20)))] [] [] ?_
      exact q_J (decide (a3 > 20)) hm
  ·obtain ⟨v9, h10, hm⟩ := qB hm
   rcases bif_c hm with ⟨b11, hm⟩ | ⟨b11, hm⟩
   ·refine q_vu [qc 1 [23] 1 (AK a1 v9 h10), qf 3 b11] 1 [22] [(32, vb true)] [] [] ?_
    exact q_J (true) hm
   ·refine q_vu [qc 1 [23] 1 (AK a1 v9 h10), qf 3 b11] 1 [22] [(32, vb (((a4.length : Nat) : Int) != ((a5.length : Nat) : Int)))] [] [] ?_
    exact q_J (((a4.length : Nat) : Int) != ((a5.length : Nat) : Int)) hm
def qMU (r : (List Node) × Int × Int) : V := .tup [.one (.own 0 0 2 r.1.length), .one (ci r.2.1), .one (ci r.2.2)]
def qM7 (r : (List Node) × Int × Int) : List (Nat × (Nat × O)) := [(0, ro 0 65 2 r.1.length (rf e_Node r.1))]
def EF (a4 : Rect) (a5 : Saw) (v10 : (List Piece) × Int × Int) (v13 : (List Int) × (List Int)) (l15 : List Span) (l15n : Nat) (l16 : List (List Node)) (l16n : Nat) (x17 : Int) : St :=
 ⟨[(9, vp 0 0), (10, vp 1 0), (18, vi v10.2.1), (19, vo 9 0 1 v13.1.length), (20, vo 10 0 1 v13.2.length), (21, vo 11 0 2 l15n), (22, vo 12 0 1 l16n), (60, vo 8 0 2 v10.1.length), (61, vi ((v10.1.length : Nat) : Int)), (62, vi x17)], [(0, bx 33 (qH a4)), (1, bx 38 (qT a5)), (8, ro 0 92 2 v10.1.length (rf wO v10.1)), (9, ro 0 3 1 v13.1.length (rf e_i64 v13.1)), (10, ro 0 3 1 v13.2.length (rf e_i64 v13.2)), (11, ro 0 31 2 l15n (rf e_Span l15)), (12, ro 0 44 1 l16n (rf (qD e_Node) l16))]⟩
def qCR (a4 : Rect) (a5 : Saw) (v10 : (List Piece) × Int × Int) (l27 : List Span) (l28 : List (List Node)) : St :=
 ⟨[(9, vp 0 0), (10, vp 1 0), (18, vi v10.2.1), (21, vo 11 0 2 l27.length), (22, vo 12 0 1 l28.length)], [(0, bx 33 (qH a4)), (1, bx 38 (qT a5)), (11, ro 0 31 2 l27.length (rf e_Span l27)), (12, ro 0 44 1 l28.length (rf (qD e_Node) l28))]⟩
theorem qIg (E : Env 0) (a4 : Rect) (a5 : Saw) (v10 : (List Piece) × Int × Int) (v13 : (List Int) × (List Int)) : ∀ (n : Nat) (l15 : List Span) (l15n : Nat) (l16 : List (List Node)) (l16n : Nat) (x17 : Int) (res : (List Span) × (List (List Node))), l15.length = l15n → l16.length = l16n → PG a4 v10 v13 n l15 l16 x17 = some res → HL (kx E 106 0) (nd Tryz.f148 8180) (zQ 0 (fun o => qCR a4 a5 v10 o.1 o.2) res) n (EF a4 a5 v10 v13 l15 l15n l16 l16n x17) := by
 intro n
 induction n with
 | zero =>
  intro l15 l15n l16 l16n x17 res hl0 hl1 hm
  cases hm
 | succ n ih =>
  intro l15 l15n l16 l16n x17 res hl0 hl1 hm
  subst hl0
  subst hl1
  refine qN ?_
  refine s_vu [] 13 [] [(63, vb (decide (x17 < ((v10.1.length : Nat) : Int))))] [] [] ?_
  refine q_sq ?_
  refine q_cm hm (fun b18 hm => ?_) (fun b18 hm => ?_)
  ·refine q_sk ?_
   refine q_sq ?_
   refine q_bk 1 ?_
   obtain ⟨g19, hm⟩ := qI hm
   refine s_vu [qd 0 (Dir.none) (inb_of g19), qd 1 (Dir.none) (toNat_lt (inb_of g19))] 13 [63] [(24, vp 13 0)] [] [(13, bx 92 [ci ((v10.1.getD x17.toNat default).Size), ci ((v10.1.getD x17.toNat default).At)])] ?_
   obtain ⟨g20, hm⟩ := qI hm
   obtain ⟨v21, h22, hm⟩ := qB hm
   obtain ⟨g23, hm⟩ := qI hm
   refine s_du [qd 9 (Dir.none) (inb_of g20), qd 10 (Dir.none) (toNat_lt (inb_of g20)), qc 12 [67, 69, 77] 14 (qAO a4 ((v10.1.getD x17.toNat default).At) (w64 (((v10.1.getD x17.toNat default).At) + (v13.1.getD (((v10.1.getD x17.toNat default).Size).toNat) default))) v21 h22), qd 14 (drw 14 0 (rf e_Span ([v21.X] : List Span))) (litP e_Span default 2 (fun _ => rfl) ([v21.X] : List Span) 1 rfl), qd 15 (drw 11 1 (rf e_Span (l15 ++ ([v21.X] : List Span)))) (apP e_Span default l15 ([v21.X] : List Span) l15.length 1 2 16 (1 ≤ 1) (Nat.le_refl _) rfl rfl (fun _ => rfl) (zO g23))] [0, 0, 0, 4, 0, 16, 0, 0, 128, 448, 960, 2032, 4094, 8190, 16382, 32767, 65535] 14 [21] [(21, vo 11 1 2 (l15.length + 1))] [11] [(11, ro 1 31 2 (l15.length + 1) (rf e_Span (l15 ++ ([v21.X] : List Span))))] ?_
   obtain ⟨g24, hm⟩ := qI hm
   obtain ⟨v25, h26, hm⟩ := qB hm
   refine q_vu [qd 4 (Dir.none) (inb_of g24), qd 5 (Dir.none) (toNat_lt (inb_of g24)), qd 7 (drw 15 0 (rf e_Node ([(Node.mk 1 (v13.2.getD (((v10.1.getD x17.toNat default).Size).toNat) default))] : List Node))) (litP e_Node default 2 (fun _ => rfl) ([(Node.mk 1 (v13.2.getD (((v10.1.getD x17.toNat default).Size).toNat) default))] : List Node) 1 rfl), qd 8 (dpr [.len 15 (([(Node.mk 1 (v13.2.getD (((v10.1.getD x17.toNat default).Size).toNat) default))] : List Node).length)] (dex (cen [(12, 0), (15, 0)] [1, 1] 14 0 (CZ l16 ([(Node.mk 1 (v13.2.getD (((v10.1.getD x17.toNat default).Size).toNat) default))] : List Node) v25) (CO l16 ([(Node.mk 1 (v13.2.getD (((v10.1.getD x17.toNat default).Size).toNat) default))] : List Node) v25) [82, 89] [12, 15]))) (And.intro (show 1 = ([(Node.mk 1 (v13.2.getD (((v10.1.getD x17.toNat default).Size).toNat) default))] : List Node).length from rfl) (show 1 = ([(Node.mk 1 (v13.2.getD (((v10.1.getD x17.toNat default).Size).toNat) default))] : List Node).length from rfl)), qd 8 (Dir.none) (wR (K := (kx E 106 0)) ⟨[(82, vo 12 0 1 l16.length), (89, vo 15 0 2 (([(Node.mk 1 (v13.2.getD (((v10.1.getD x17.toNat default).Size).toNat) default))] : List Node).length))], [(12, ro 0 44 1 l16.length (rf (qD e_Node) l16)), (15, ro 0 65 2 (([(Node.mk 1 (v13.2.getD (((v10.1.getD x17.toNat default).Size).toNat) default))] : List Node).length) (rf e_Node ([(Node.mk 1 (v13.2.getD (((v10.1.getD x17.toNat default).Size).toNat) default))] : List Node)))]⟩ (opAt (rg Tryz.f148 523571) 8) [(12, 0), (15, 0)] [1, 1] 14 o0 rfl (qEk l16 ([(Node.mk 1 (v13.2.getD (((v10.1.getD x17.toNat default).Size).toNat) default))] : List Node) v25 h26) (.inl rfl) (by kernel_rfl))] 15 [22, 24] [(22, vo 12 1 1 v25.2.length)] [12, 13] [(12, ro 1 44 1 v25.2.length (rf (qD e_Node) v25.2))] ?_
   refine q_vu [] 16 [62] [(62, vi (w64 (x17 + 1)))] [] [] ?_
   exact q_hl (EF a4 a5 v10 v13 (l15 ++ ([v21.X] : List Span)) (l15.length + 1) v25.2 v25.2.length (w64 (x17 + 1))) (ih (l15 ++ ([v21.X] : List Span)) (l15.length + 1) v25.2 v25.2.length (w64 (x17 + 1)) _ (len_app rfl rfl) rfl hm)
  ·refine q_ex 0 ?_
   obtain rfl := oi hm
   exact wM (by kernel_rfl) (by kernel_rfl)
theorem qL1 (a1 : List qA) (a2 : List Defect) (a3 : List Product) (a4 : Rect) (a5 : Saw) (a6 : Rates) (r : (List Node) × Int × Int) (hm : IZ a1 a2 a3 a4 a5 a6 = some r) : CtX Tryz.prog globs 148 0 0 [.one (tl qG default a1), .one (tl qF default a2), .one (tl qC default a3), .agg (qH a4), .agg (qT a5), .agg (qQ a6)] [] (qMU r) (qM7 r) := by
 unfold IZ at hm
 refine q_E Tryz.f148 106 fun E => ?_
 refine s_vn [] 0 ⟨[(0, vc (tl qG default a1)), (1, vc (tl qF default a2)), (2, vc (tl qC default a3)), (9, vp 0 0), (10, vp 1 0), (11, vp 2 0)], [(0, bx 33 (qH a4)), (1, bx 38 (qT a5)), (2, bx 40 (qQ a6))]⟩ ?_
 obtain ⟨v7, h8, hm⟩ := qB hm
 refine s_vu [qc 6 [27, 28, 29, 30, 31, 32] 3 (qLi a1 a2 a3 a4 a5 a6 v7 h8)] 3 [0, 1, 11] [(15, vp 7 0), (16, vi v7.2)] [2] [(3, ro 0 3 1 v7.1.Sizes.length (rf e_i64 v7.1.Sizes)), (4, ro 0 28 1 v7.1.Gain.length (rf (qD e_i64) v7.1.Gain)), (5, ro 0 3 1 v7.1.Chip.length (rf e_i64 v7.1.Chip)), (6, ro 0 3 1 v7.1.Dust.length (rf e_i64 v7.1.Dust)), (7, bx 84 [ci v7.1.Len, ci v7.1.Kerf, ci v7.1.Pitch, .own 3 0 1 v7.1.Sizes.length, .own 4 0 1 v7.1.Gain.length, .own 5 0 1 v7.1.Chip.length, .own 6 0 1 v7.1.Dust.length])] ?_
 refine q_sq ?_
 refine s_vu [] 8 [] [(37, vb (v7.2 != 0))] [] [] ?_
 refine q_cm hm (fun b9 hm => ?_) (fun b9 hm => ?_)
 ·refine s_vn [] 8 ⟨[(12, vc (.emp)), (13, vi 0), (14, vi v7.2)], []⟩ ?_
  refine q_fn [.own 12 8 65 2 (rf e_Node ([] : List Node))] ⟨[(12, vo 8 0 2 0), (13, vi 0), (14, vi v7.2)], [(8, ro 0 65 2 0 (rf e_Node ([] : List Node)))]⟩ o0 ?_
  refine q_fn [.len 8 (([] : List Node).length)] ⟨[(12, vo 8 0 2 (([] : List Node).length)), (13, vi 0), (14, vi v7.2)], [(8, ro 0 65 2 (([] : List Node).length) (rf e_Node ([] : List Node)))]⟩ (o1 (And.intro (show 0 = ([] : List Node).length from rfl) (show 0 = ([] : List Node).length from rfl))) ?_
  obtain rfl := oi hm
  refine qU 8 0 (by kernel_rfl) ?_
  refine q_rt ?_
  exact q_rm
 ·refine q_sk ?_
  obtain ⟨v10, h11, hm⟩ := qB hm
  refine s_vu [qd 1 (dex (cen [] [] 8 0 (EN v10) (PC v10) [40] [3, 4, 5, 6])) (wR (K := (kx E 106 0)) (b := false) ⟨[(40, va [ci v7.1.Len, ci v7.1.Kerf, ci v7.1.Pitch, .own 3 0 1 v7.1.Sizes.length, .own 4 0 1 v7.1.Gain.length, .own 5 0 1 v7.1.Chip.length, .own 6 0 1 v7.1.Dust.length])], [(3, ro 0 3 1 v7.1.Sizes.length (rf e_i64 v7.1.Sizes)), (4, ro 0 28 1 v7.1.Gain.length (rf (qD e_i64) v7.1.Gain)), (5, ro 0 3 1 v7.1.Chip.length (rf e_i64 v7.1.Chip)), (6, ro 0 3 1 v7.1.Dust.length (rf e_i64 v7.1.Dust))]⟩ (opAt (rg Tryz.f148 30) 1) [] [] 8 (o1 (And.intro (Nat.le_refl v7.1.Sizes.length) (And.intro (Nat.le_refl v7.1.Gain.length) (And.intro (Nat.le_refl v7.1.Chip.length) (Nat.le_refl v7.1.Dust.length))))) rfl (cutting_Best_ok (Line.mk v7.1.Len v7.1.Kerf v7.1.Pitch v7.1.Sizes v7.1.Gain v7.1.Chip v7.1.Dust) v10 h11) (.inr ⟨(by kernel_rfl), qCJ v10⟩) (by kernel_rfl))] 8 [15, 16, 37] [(16, vi v10.2.2), (17, vo 8 0 2 v10.1.length), (18, vi v10.2.1)] [3, 4, 5, 6, 7] [(8, ro 0 92 2 v10.1.length (rf wO v10.1))] ?_
  refine q_sq ?_
  refine s_vu [] 9 [] [(46, vb (v10.2.2 != 0))] [] [] ?_
  refine q_cm hm (fun b12 hm => ?_) (fun b12 hm => ?_)
  ·refine s_vn [] 9 ⟨[(12, vc (.emp)), (13, vi 0), (14, vi v10.2.2)], []⟩ ?_
   refine q_fn [.own 12 9 65 2 (rf e_Node ([] : List Node))] ⟨[(12, vo 9 0 2 0), (13, vi 0), (14, vi v10.2.2)], [(9, ro 0 65 2 0 (rf e_Node ([] : List Node)))]⟩ o0 ?_
   refine q_fn [.len 9 (([] : List Node).length)] ⟨[(12, vo 9 0 2 (([] : List Node).length)), (13, vi 0), (14, vi v10.2.2)], [(9, ro 0 65 2 (([] : List Node).length) (rf e_Node ([] : List Node)))]⟩ (o1 (And.intro (show 0 = ([] : List Node).length from rfl) (show 0 = ([] : List Node).length from rfl))) ?_
   obtain rfl := oi hm
   refine qU 9 0 (by kernel_rfl) ?_
   refine q_rt ?_
   exact q_rm
  ·refine q_sk ?_
   obtain ⟨v13, h14, hm⟩ := qB hm
   refine s_vu [qc 8 [49, 56] 9 (OR a3 (w64 (a4.Y.B - a4.Y.A)) v13 h14)] 9 [2, 16, 46] [(19, vo 9 0 1 v13.1.length), (20, vo 10 0 1 v13.2.length)] [] [(9, ro 0 3 1 v13.1.length (rf e_i64 v13.1)), (10, ro 0 3 1 v13.2.length (rf e_i64 v13.2))] ?_
   refine s_vu [] 11 [] [(21, vc (.emp))] [] [] ?_
   refine s_vu [] 11 [] [(22, vc (.emp))] [] [] ?_
   refine q_sq ?_
   refine s_vu [] 11 [17] [(60, vo 8 0 2 v10.1.length), (61, vi ((v10.1.length : Nat) : Int)), (62, vi 0)] [] [] ?_
   refine q_fn [.own 21 11 31 2 (rf e_Span ([] : List Span))] ⟨[(9, vp 0 0), (10, vp 1 0), (18, vi v10.2.1), (19, vo 9 0 1 v13.1.length), (20, vo 10 0 1 v13.2.length), (21, vo 11 0 2 0), (22, vc (.emp)), (60, vo 8 0 2 v10.1.length), (61, vi ((v10.1.length : Nat) : Int)), (62, vi 0)], [(0, bx 33 (qH a4)), (1, bx 38 (qT a5)), (8, ro 0 92 2 v10.1.length (rf wO v10.1)), (9, ro 0 3 1 v13.1.length (rf e_i64 v13.1)), (10, ro 0 3 1 v13.2.length (rf e_i64 v13.2)), (11, ro 0 31 2 0 (rf e_Span ([] : List Span)))]⟩ o0 ?_
   refine q_fn [.own 22 12 44 1 (rf (qD e_Node) ([] : List (List Node)))] ⟨[(9, vp 0 0), (10, vp 1 0), (18, vi v10.2.1), (19, vo 9 0 1 v13.1.length), (20, vo 10 0 1 v13.2.length), (21, vo 11 0 2 0), (22, vo 12 0 1 0), (60, vo 8 0 2 v10.1.length), (61, vi ((v10.1.length : Nat) : Int)), (62, vi 0)], [(0, bx 33 (qH a4)), (1, bx 38 (qT a5)), (8, ro 0 92 2 v10.1.length (rf wO v10.1)), (9, ro 0 3 1 v13.1.length (rf e_i64 v13.1)), (10, ro 0 3 1 v13.2.length (rf e_i64 v13.2)), (11, ro 0 31 2 0 (rf e_Span ([] : List Span))), (12, ro 0 44 1 0 (rf (qD e_Node) ([] : List (List Node))))]⟩ o0 ?_
   obtain ⟨o29, h30, hm⟩ := qB hm
   refine zL (nd Tryz.f148 8180) 0 (by kernel_rfl) FUEL (fun o => qCR a4 a5 v10 o.1 o.2) o29 (q_hl (EF a4 a5 v10 v13 ([] : List Span) 0 ([] : List (List Node)) 0 0) (qIg E a4 a5 v10 v13 FUEL ([] : List Span) 0 ([] : List (List Node)) 0 0 o29 rfl rfl h30)) ?_
   obtain ⟨v31, h32, hm⟩ := qB hm
   refine s_vn [qd 5 (dex (cen [] [] 13 0 (XJ v31) (ZB v31) [93, 95, 96, 97] [11, 12])) (wR (K := (kx E 106 0)) (b := false) ⟨[(93, va (qH a4)), (95, vi a5.Kerf), (96, vo 11 0 2 o29.1.length), (97, vo 12 0 1 o29.2.length)], [(11, ro 0 31 2 o29.1.length (rf e_Span o29.1)), (12, ro 0 44 1 o29.2.length (rf (qD e_Node) o29.2))]⟩ (opAt (rg Tryz.f148 2046) 5) [] [] 13 (o1 (And.intro (Nat.le_refl o29.1.length) (Nat.le_refl o29.2.length))) rfl (pattern_Row_ok a4 2 a5.Kerf o29.1 o29.2 v31 h32) (.inr ⟨(by kernel_rfl), OQ v31⟩) (by kernel_rfl))] 13 ⟨[(16, vi v31.2), (18, vi v10.2.1), (25, vo 13 0 2 v31.1.length)], [(13, ro 0 65 2 v31.1.length (rf e_Node v31.1))]⟩ ?_
   refine q_sq ?_
   refine s_vu [] 14 [] [(102, vb (v31.2 != 0))] [] [] ?_
   refine q_cm hm (fun b33 hm => ?_) (fun b33 hm => ?_)
   ·refine s_vn [] 14 ⟨[(12, vc (.emp)), (13, vi 0), (14, vi v31.2)], []⟩ ?_
    refine q_fn [.own 12 14 65 2 (rf e_Node ([] : List Node))] ⟨[(12, vo 14 0 2 0), (13, vi 0), (14, vi v31.2)], [(14, ro 0 65 2 0 (rf e_Node ([] : List Node)))]⟩ o0 ?_
    refine q_fn [.len 14 (([] : List Node).length)] ⟨[(12, vo 14 0 2 (([] : List Node).length)), (13, vi 0), (14, vi v31.2)], [(14, ro 0 65 2 (([] : List Node).length) (rf e_Node ([] : List Node)))]⟩ (o1 (And.intro (show 0 = ([] : List Node).length from rfl) (show 0 = ([] : List Node).length from rfl))) ?_
    obtain rfl := oi hm
    refine qU 14 0 (by kernel_rfl) ?_
    refine q_rt ?_
    exact q_rm
   ·refine q_sk ?_
    refine s_vu [] 14 [16, 18, 25, 102] [(12, vo 13 0 2 v31.1.length), (13, vi v10.2.1), (14, vi 0)] [] [] ?_
    obtain rfl := oi hm
    refine qU 13 0 (by kernel_rfl) ?_
    refine q_rt ?_
    exact q_rm
def qFN (r : Bool) : V := vb r
def qFO (r : Bool) : List (Nat × (Nat × O)) := []
theorem qFb (a1 : Node) (r : Bool) (hm : UX a1 = some r) : CtX Tryz.prog globs 190 0 0 [.agg (e_Node a1)] [] (qFN r) (qFO r) := by
 unfold UX at hm
 refine q_E Tryz.f190 6 fun E => ?_
 refine s_vn [] 0 ⟨[(1, vp 0 0)], [(0, bx 65 (e_Node a1))]⟩ ?_
 refine s_vn [] 1 ⟨[(2, vb (a1.Kind == 1))], []⟩ ?_
 obtain rfl := oi hm
 refine q_rt ?_
 exact q_rm
def YO (r : Int) : V := vi r
def YR (r : Int) : List (Nat × (Nat × O)) := []
def WU (a1 : List Node) (x2 : Int) : St :=
 ⟨[(0, vc (tl e_Node default a1)), (1, vc (.fn 190 [])), (7, vi ((a1.length : Nat) : Int)), (8, vi x2)], []⟩
def RK : St :=
 ⟨[], []⟩
theorem EJ (E : Env 0) (a1 : List Node) : ∀ (n : Nat) (x2 : Int) (res : Int ⊕ Unit), wJ a1 n x2 = some res → HL (kx E 19 0) (nd Tryz.f212 52) (jB 0 (fun o => RK) (fun v st => RetQ Tryz.prog Tryz.f212 (YO v) (YR v) .ret st) res) n (WU a1 x2) := by
 intro n
 induction n with
 | zero =>
  intro x2 res hm
  cases hm
 | succ n ih =>
  intro x2 res hm
  refine qN ?_
  refine s_vu [] 0 [] [(9, vb (decide (x2 < ((a1.length : Nat) : Int))))] [] [] ?_
  refine q_sq ?_
  refine q_cm hm (fun b3 hm => ?_) (fun b3 hm => ?_)
  ·refine q_sk ?_
   refine q_sq ?_
   refine q_bk 1 ?_
   refine s_vu [] 0 [9] [(5, vi x2)] [] [] ?_
   obtain ⟨g4, hm⟩ := qI hm
   obtain ⟨v5, h6, hm⟩ := qB hm
   refine s_vu [qd 3 (Dir.none) (inb_of g4), qk 5 [11, 15] 0 ⟨[(11, vc (.fn 190 [])), (15, va [ci ((a1.getD x2.toNat default).Kind), ci ((a1.getD x2.toNat default).At)])], []⟩ (qFb (a1.getD x2.toNat default) v5 h6)] 0 [] [(16, vb v5)] [] [] ?_
   refine q_cm hm (fun b7 hm => ?_) (fun b7 hm => ?_)
   ·refine s_vn [] 0 ⟨[(4, vi x2)], []⟩ ?_
    obtain rfl := oi hm
    refine q_rt ?_
    refine zJ x2 ?_
    exact q_rm
   ·refine q_sk ?_
    refine q_vu [] 0 [5, 8, 16] [(8, vi (w64 (x2 + 1)))] [] [] ?_
    exact q_hl (WU a1 (w64 (x2 + 1))) (ih (w64 (x2 + 1)) _ hm)
  ·refine q_ex 0 ?_
   obtain rfl := oi hm
   exact jG () (by kernel_rfl) (by kernel_rfl)
theorem qAj (a1 : List Node) (r : Int) (hm : WF a1 = some r) : CtX Tryz.prog globs 212 0 0 [.one (tl e_Node default a1), .one (.fn 190 [])] [] (YO r) (YR r) := by
 unfold WF at hm
 refine q_E Tryz.f212 19 fun E => ?_
 refine s_vn [] 0 ⟨[(0, vc (tl e_Node default a1)), (1, vc (.fn 190 []))], []⟩ ?_
 refine q_sq ?_
 refine s_vu [] 0 [] [(7, vi ((a1.length : Nat) : Int)), (8, vi 0)] [] [] ?_
 obtain ⟨u10, h9, hm⟩ := qB hm
 refine zR (nd Tryz.f212 52) 0 (by kernel_rfl) FUEL (fun o => RK) (fun v st => RetQ Tryz.prog Tryz.f212 (YO v) (YR v) .ret st) u10 (q_hl (WU a1 0) (EJ E a1 FUEL 0 u10 h9)) ?_ ?_
 ·rintro v11 rfl st hr
  obtain rfl := oi hm
  exact hr
 ·rintro o8 rfl
  replace hm : _ = some r := hm
  refine s_vn [] 0 ⟨[(4, vi (-1))], []⟩ ?_
  obtain rfl := oi hm
  refine q_rt ?_
  exact q_rm
def AT (r : Bool) : V := vb r
def IA (r : Bool) : List (Nat × (Nat × O)) := []
theorem SG (a1 : List Node) (r : Bool) (hm : QC a1 = some r) : CtX Tryz.prog globs 189 0 0 [.one (tl e_Node default a1), .one (.fn 190 [])] [] (AT r) (IA r) := by
 unfold QC at hm
 refine q_E Tryz.f189 9 fun E => ?_
 refine s_vn [] 0 ⟨[(0, vc (tl e_Node default a1)), (1, vc (.fn 190 []))], []⟩ ?_
 obtain ⟨v2, h3, hm⟩ := qB hm
 refine s_vn [qc 2 [5, 6] 0 (qAj a1 v2 h3)] 0 ⟨[(4, vb (decide (v2 ≥ 0)))], []⟩ ?_
 obtain rfl := oi hm
 refine q_rt ?_
 exact q_rm
def qBw (r : Bool) : V := vb r
def VU (r : Bool) : List (Nat × (Nat × O)) := []
theorem qHa (r : Bool) : yJ (VU r) := by
 intro i k o h
 unfold VU at h
 cases h
theorem qGv (a1 : List Node) (r : Bool) (hm : UE a1 = some r) : CtX Tryz.prog globs 149 0 0 [.one (tl e_Node default a1)] [] (qBw r) (VU r) := by
 unfold UE at hm
 refine q_E Tryz.f149 5 fun E => ?_
 refine s_vn [] 0 ⟨[(0, vc (tl e_Node default a1))], []⟩ ?_
 obtain ⟨v2, h3, hm⟩ := qB hm
 refine s_vn [qk 1 [3] 0 ⟨[(3, vc (tl e_Node default a1))], []⟩ (SG a1 v2 h3)] 0 ⟨[(2, vb v2)], []⟩ ?_
 obtain rfl := oi hm
 refine q_rt ?_
 exact q_rm
def qKn (r : Int) : V := vi r
def qKx (r : Int) : List (Nat × (Nat × O)) := []
theorem qCU (a1 : List qA) (a2 : Rect) (r : Int) (hm : UK a1 a2 = some r) : CtX Tryz.prog globs 91 0 0 [.one (tl qG default a1), .agg (qH a2)] [] (qKn r) (qKx r) := by
 unfold UK at hm
 refine q_E Tryz.f91 15 fun E => ?_
 refine s_vn [] 0 ⟨[(0, vc (tl qG default a1)), (3, vp 0 0)], [(0, bx 33 (qH a2))]⟩ ?_
 obtain ⟨v3, h4, hm⟩ := qB hm
 obtain ⟨v5, h6, hm⟩ := qB hm
 refine s_dn [qc 6 [10] 1 (KE a1 v3 h4), qc 9 [5, 13] 1 (qBi a1 (Box.mk a2.X a2.Y (Span.mk 0 v3)) v5 h6)] [0, 0, 2, 0, 8, 0, 32, 96, 254, 511, 1023] 1 ⟨[(4, vi v5)], []⟩ ?_
 obtain rfl := oi hm
 refine q_rt ?_
 exact q_rm
def AO (a1 : List Int) (r : List Int) : V := .undef
def AY (a1 : List Int) (r : List Int) : List (Nat × (Nat × O)) := [(0, ro 0 3 1 r.length (rf e_i64 r))]
theorem lfA {α:Type} {o:Option α} {a b:α} (h:o=some a) (e:a=b:=by kernel_rfl):o=some b:=h.trans (congrArg some e)
def slices_Sort_Si64_lay_ren :Go.Shelf.Ren:=⟨fun |189=>32|125=>78|257=>77|128=>140|129=>141|294=>131|295=>132|296=>133|297=>134|298=>135|299=>136|216=>137|300=>138|301=>139|328=>179|329=>180|330=>181|331=>182|332=>183|215=>184|343=>207|n=>n,fun |28=>28|3=>3|46=>142|0=>0|51=>201|53=>178|4=>4|183=>194|182=>193|131=>135|5=>5|9=>9|218=>234|222=>238|228=>252|229=>75|n=>n,fun n=>n⟩
theorem slices_Sort_Si64_lay : Go.Proofs.Lays.n189 Tryz.prog slices_Sort_Si64_lay_ren :={mixed:=by kernel_rfl,f125:=lfA Tryz.func78,f128:=lfA Tryz.func140,f129:=lfA Tryz.func141,f189:=lfA Tryz.func32,f215:=lfA Tryz.func184,f216:=lfA Tryz.func137,f257:=lfA Tryz.func77,f294:=lfA Tryz.func131,f295:=lfA Tryz.func132,f296:=lfA Tryz.func133,f297:=lfA Tryz.func134,f298:=lfA Tryz.func135,f299:=lfA Tryz.func136,f300:=lfA Tryz.func138,f301:=lfA Tryz.func139,f328:=lfA Tryz.func179,f329:=lfA Tryz.func180,f330:=lfA Tryz.func181,f331:=lfA Tryz.func182,f332:=lfA Tryz.func183,f343:=lfA Tryz.func207,t0:=Tryz.underlying0,a0:=Tryz.isAgg0,z0:=Tryz.sizeOf0,v0:=Tryz.zeroValue0,t3:=Tryz.underlying3,a3:=Tryz.isAgg3,z3:=Tryz.sizeOf3,v3:=Tryz.zeroValue3,t4:=Tryz.underlying4,a4:=Tryz.isAgg4,z4:=Tryz.sizeOf4,v4:=Tryz.zeroValue4,t5:=Tryz.underlying5,a5:=Tryz.isAgg5,z5:=Tryz.sizeOf5,v5:=Tryz.zeroValue5,t9:=Tryz.underlying9,a9:=Tryz.isAgg9,z9:=Tryz.sizeOf9,v9:=Tryz.zeroValue9,t28:=Tryz.underlying28,a28:=Tryz.isAgg28,z28:=Tryz.sizeOf28,v28:=Tryz.zeroValue28,t46:=Tryz.underlying142,a46:=Tryz.isAgg142,z46:=Tryz.sizeOf142,v46:=Tryz.zeroValue142,t51:=Tryz.underlying201,a51:=Tryz.isAgg201,z51:=Tryz.sizeOf201,v51:=Tryz.zeroValue201,t53:=Tryz.underlying178,a53:=Tryz.isAgg178,z53:=Tryz.sizeOf178,v53:=Tryz.zeroValue178,t131:=Tryz.underlying135,a131:=Tryz.isAgg135,z131:=Tryz.sizeOf135,v131:=Tryz.zeroValue135,t182:=Tryz.underlying193,a182:=Tryz.isAgg193,z182:=Tryz.sizeOf193,v182:=Tryz.zeroValue193,t183:=Tryz.underlying194,a183:=Tryz.isAgg194,z183:=Tryz.sizeOf194,v183:=Tryz.zeroValue194,t218:=Tryz.underlying234,a218:=Tryz.isAgg234,z218:=Tryz.sizeOf234,v218:=Tryz.zeroValue234,t222:=Tryz.underlying238,a222:=Tryz.isAgg238,z222:=Tryz.sizeOf238,v222:=Tryz.zeroValue238,t228:=Tryz.underlying252,a228:=Tryz.isAgg252,z228:=Tryz.sizeOf252,v228:=Tryz.zeroValue252,t229:=Tryz.underlying75,a229:=Tryz.isAgg75,z229:=Tryz.sizeOf75,v229:=Tryz.zeroValue75}
theorem qEf (a1 : List Int) (r : List Int) (hm : RX a1 = some r) : CtX Tryz.prog globs 32 1 1 [.one (.own 0 0 1 a1.length)] [(0, ro 0 3 1 a1.length (rf e_i64 a1))] (AO a1 r) (AY a1 r) := by
 unfold RX at hm
 obtain ⟨g1, hm⟩ := qI hm
 obtain rfl := oi hm
 exact qPg (gl := globs) slices_Sort_Si64_lay 3 a1 (by simpa using g1)
def WX (a1 : List Int) (r : (List Int) × (List Int)) : V := vo 0 0 1 r.2.length
def JH (a1 : List Int) (r : (List Int) × (List Int)) : List (Nat × (Nat × O)) := [(0, ro 0 3 1 r.2.length (rf e_i64 r.2))]
def GU (l3 : List Int) (x4 : Int) (x12 : Int) (l19 : List Int) (l19n : Nat) (x20 : Int) : St :=
 ⟨[(0, vo 0 0 1 l19n), (3, vi x20), (4, vc (.sub 0 0 1 x4.toNat (l3.length - x4.toNat))), (5, vi x12)], [(0, ro 0 3 1 l19n (rf e_i64 l19))]⟩
def YW (l3 : List Int) (x4 : Int) (l10 : List Int) (l10n : Nat) (x11 : Int) (x12 : Int) : St :=
 ⟨[(0, vo 0 0 1 l10n), (3, vi x11), (4, vc (.sub 0 0 1 x4.toNat (l3.length - x4.toNat))), (5, vi x12)], [(0, ro 0 3 1 l10n (rf e_i64 l10))]⟩
def GY (l21 : List Int) (x22 : Int) : St :=
 ⟨[(0, vo 0 0 1 l21.length), (3, vi x22)], [(0, ro 0 3 1 l21.length (rf e_i64 l21))]⟩
def YP (l3 : List Int) (l3n : Nat) (x4 : Int) : St :=
 ⟨[(0, vo 0 0 1 l3n), (3, vi x4)], [(0, ro 0 3 1 l3n (rf e_i64 l3))]⟩
def GM (l27 : List Int) : St :=
 ⟨[(0, vo 0 0 1 l27.length)], [(0, ro 0 3 1 l27.length (rf e_i64 l27))]⟩
theorem qAe (E : Env 1) (l3 : List Int) (x4 : Int) : ∀ (n : Nat) (l10 : List Int) (l10n : Nat) (x11 : Int) (x12 : Int) (res : (List Int) × Int), l10.length = l10n → zW l3 x4 n l10 x11 x12 = some res → HL (kx E 61 1) (nd Tryz.f33 119380) (zQ 2 (fun o => GY o.1 o.2) res) n (YW l3 x4 l10 l10n x11 x12) := by
 intro n
 induction n with
 | zero =>
  intro l10 l10n x11 x12 res hl0 hm
  cases hm
 | succ n ih =>
  intro l10 l10n x11 x12 res hl0 hm
  subst hl0
  refine qN ?_
  refine q_sq ?_
  refine s_vu [] 1 [] [(32, vb (decide (x12 < (((l3.length - x4.toNat) : Nat) : Int))))] [] [] ?_
  refine q_cm hm (fun b13 hm => ?_) (fun b13 hm => ?_)
  ·refine q_sk ?_
   refine q_jn (ι := (List Int) × Nat × Int) (fun p => GU l3 x4 x12 p.1 p.2.1 p.2.2) (fun p => p.1.length = p.2.1 ∧ WD x12 (zW l3 x4 n) p.1 p.2.2 = some res) ?_ ?_
   ·rintro ⟨l19, l19n, x20⟩ ⟨el19, hm⟩
    replace el19 : l19.length = l19n := el19
    subst el19
    show H _ (GU l3 x4 x12 l19 l19.length x20) _ _
    refine q_vu [] 1 [5] [(5, vi (w64 (x12 + 1)))] [] [] ?_
    exact q_hl (YW l3 x4 l19 l19.length x20 (w64 (x12 + 1))) (ih l19 l19.length x20 (w64 (x12 + 1)) _ rfl hm)
   ·refine q_bk 3 ?_
    obtain ⟨g14, hm⟩ := qI hm
    obtain ⟨g15, hm⟩ := qI hm
    obtain ⟨g16, hm⟩ := qI hm
    refine s_du [qd 2 (Dir.none) (inb_of g14), qd 3 (Dir.none) (Nat.lt_of_lt_of_le (Nat.add_lt_add_left (toNat_lt (inb_of g14)) x4.toNat) (Nat.le_of_ble_eq_true g15)), qd 7 (Dir.none) (inb_of g16), qd 8 (Dir.none) (Nat.lt_of_lt_of_le (Nat.add_lt_add_left (toNat_lt (inb_of g16)) x4.toNat) (Nat.le_of_ble_eq_true g15))] [0, 0, 3, 7, 0, 0, 32, 112, 240, 511] 1 [32] [(44, vb ((l10.getD (x4.toNat + x12.toNat) default) != (l10.getD (x4.toNat + ((w64 (x12 - 1)).toNat)) default)))] [] [] ?_
    refine q_cm hm (fun b17 hm => ?_) (fun b17 hm => ?_)
    ·obtain ⟨g18, hm⟩ := qI hm
     refine s_vu [qd 4 (Dir.none) (inb_of g14), qd 5 (Dir.none) (Nat.lt_of_lt_of_le (Nat.add_lt_add_left (toNat_lt (inb_of g14)) x4.toNat) (Nat.le_of_ble_eq_true g15)), qd 6 (Dir.none) (inb_of g18), qd 7 (drw 0 0 (rf e_i64 (l10.set x11.toNat (l10.getD (x4.toNat + x12.toNat) default)))) (stP e_i64 default (l10.getD (x4.toNat + x12.toNat) default) l10 l10.length x11.toNat 0 [ci (l10.getD (x4.toNat + x12.toNat) default)] rfl (toNat_lt (inb_of g18)) rfl)] 1 [44] [] [0] [(0, ro 0 3 1 l10.length (rf e_i64 (l10.set x11.toNat (l10.getD (x4.toNat + x12.toNat) default))))] ?_
     refine q_vu [] 1 [3] [(3, vi (w64 (x11 + 1)))] [] [] ?_
     exact q_J ((l10.set x11.toNat (l10.getD (x4.toNat + x12.toNat) default)), l10.length, w64 (x11 + 1)) ⟨(len_set rfl), hm⟩
    ·refine q_sk ?_
     exact q_J (l10, l10.length, x11) ⟨rfl, hm⟩
  ·refine q_ex 2 ?_
   obtain rfl := oi hm
   exact wM (by kernel_rfl) (by kernel_rfl)
theorem qAd (E : Env 1) (a1 : List Int) : ∀ (n : Nat) (l3 : List Int) (l3n : Nat) (x4 : Int) (res : ((List Int) × (List Int)) ⊕ (List Int)), l3.length = l3n → jD n l3 x4 = some res → HL (kx E 61 1) (nd Tryz.f33 116) (jB 0 (fun o => GM o) (fun v st => RetQ Tryz.prog Tryz.f33 (WX a1 v) (JH a1 v) .ret st) res) n (YP l3 l3n x4) := by
 intro n
 induction n with
 | zero =>
  intro l3 l3n x4 res hl0 hm
  cases hm
 | succ n ih =>
  intro l3 l3n x4 res hl0 hm
  subst hl0
  refine qN ?_
  refine q_sq ?_
  refine s_vu [] 1 [] [(13, vb (decide (x4 < ((l3.length : Nat) : Int))))] [] [] ?_
  refine q_cm hm (fun b5 hm => ?_) (fun b5 hm => ?_)
  ·refine q_sk ?_
   refine q_sq ?_
   refine q_bk 1 ?_
   obtain ⟨g6, hm⟩ := qI hm
   obtain ⟨g7, hm⟩ := qI hm
   refine s_du [qd 2 (Dir.none) (inb_of g6), qd 3 (Dir.none) (toNat_lt (inb_of g6)), qd 7 (Dir.none) (inb_of g7), qd 8 (Dir.none) (toNat_lt (inb_of g7))] [0, 0, 3, 7, 0, 0, 32, 112, 240, 511] 1 [13] [(25, vb ((l3.getD x4.toNat default) == (l3.getD ((w64 (x4 - 1)).toNat) default)))] [] [] ?_
   refine q_cm hm (fun b8 hm => ?_) (fun b8 hm => ?_)
   ·obtain ⟨g9, hm⟩ := qI hm
    refine s_vu [qd 2 (Dir.none) (And.intro (slOk_of g9).1 (slOk_of g9).2.1)] 1 [25] [(4, vc (.sub 0 0 1 x4.toNat (l3.length - x4.toNat)))] [] [] ?_
    refine q_sq ?_
    refine s_vu [] 1 [] [(5, vi 1)] [] [] ?_
    obtain ⟨o23, h24, hm⟩ := qB hm
    refine zL (nd Tryz.f33 119380) 2 (by kernel_rfl) FUEL (fun o => GY o.1 o.2) o23 (q_hl (YW l3 x4 l3 l3.length x4 1) (qAe E l3 x4 FUEL l3 l3.length x4 1 o23 rfl h24)) ?_
    obtain ⟨g25, hm⟩ := qI hm
    refine s_wu [qd 2 (Dir.none) (And.intro (slOk_of g25).1 (slOk_of g25).2.1), qd 3 (drw 0 0 (rf e_i64 o23.1)) (show o23.2.toNat + (o23.1.length - o23.2.toNat) ≤ o23.1.length by have := (slOk_of g25); omega)] [.row 0 o23.2.toNat (rf e_i64 (o23.1.take o23.2.toNat))] (o1 (tkP e_i64 default o23.1 o23.2.toNat o23.2.toNat (Nat.le_refl _))) 1 [] [] [0] [(0, ro 0 3 1 o23.2.toNat (rf e_i64 (o23.1.take o23.2.toNat)))] ?_
    obtain ⟨g26, hm⟩ := qI hm
    refine s_vu [qd 2 (Dir.none) (And.intro (slOk_of g26).2.1 (slOk_of g26).2.2)] 1 [0, 3] [(2, vo 0 0 1 o23.2.toNat)] [] [] ?_
    refine q_fn [.len 0 ((o23.1.take o23.2.toNat).length)] ⟨[(2, vo 0 0 1 ((o23.1.take o23.2.toNat).length))], [(0, ro 0 3 1 ((o23.1.take o23.2.toNat).length) (rf e_i64 (o23.1.take o23.2.toNat)))]⟩ (o1 (And.intro (Eq.symm (show (o23.1.take o23.2.toNat).length = o23.2.toNat from (len_take rfl (Nat.le_trans (Nat.le_add_right _ _) (show o23.2.toNat + (o23.1.length - o23.2.toNat) ≤ o23.1.length by have := (slOk_of g25); omega))))) (Eq.symm (show (o23.1.take o23.2.toNat).length = o23.2.toNat from (len_take rfl (Nat.le_trans (Nat.le_add_right _ _) (show o23.2.toNat + (o23.1.length - o23.2.toNat) ≤ o23.1.length by have := (slOk_of g25); omega))))))) ?_
    obtain rfl := oi hm
    refine q_rt ?_
    refine zJ ((o23.1.take o23.2.toNat), (o23.1.take o23.2.toNat)) ?_
    exact q_rm
   ·refine q_sk ?_
    refine q_vu [] 1 [3, 25] [(3, vi (w64 (x4 + 1)))] [] [] ?_
    exact q_hl (YP l3 l3.length (w64 (x4 + 1))) (ih l3 l3.length (w64 (x4 + 1)) _ rfl hm)
  ·refine q_ex 0 ?_
   obtain rfl := oi hm
   exact jG l3 (by kernel_rfl) (by kernel_rfl)
theorem qCi (a1 : List Int) (r : (List Int) × (List Int)) (hm : ZN a1 = some r) : CtX Tryz.prog globs 33 1 1 [.one (.own 0 0 1 a1.length)] [(0, ro 0 3 1 a1.length (rf e_i64 a1))] (WX a1 r) (JH a1 r) := by
 unfold ZN at hm
 refine q_E Tryz.f33 61 fun E => ?_
 refine s_vn [] 1 ⟨[(0, vo 0 0 1 a1.length)], [(0, ro 0 3 1 a1.length (rf e_i64 a1))]⟩ ?_
 refine q_sq ?_
 refine s_vu [] 1 [] [(8, vb (decide (((a1.length : Nat) : Int) < 2)))] [] [] ?_
 refine q_cm hm (fun b2 hm => ?_) (fun b2 hm => ?_)
 ·refine s_vu [] 1 [0, 8] [(2, vo 0 0 1 a1.length)] [] [] ?_
  obtain rfl := oi hm
  refine q_rt ?_
  exact q_rm
 ·refine q_sk ?_
  refine q_sq ?_
  refine s_vu [] 1 [8] [(3, vi 1)] [] [] ?_
  obtain ⟨u30, h29, hm⟩ := qB hm
  refine zR (nd Tryz.f33 116) 0 (by kernel_rfl) FUEL (fun o => GM o) (fun v st => RetQ Tryz.prog Tryz.f33 (WX a1 v) (JH a1 v) .ret st) u30 (q_hl (YP a1 a1.length 1) (qAd E a1 FUEL a1 a1.length 1 u30 rfl h29)) ?_ ?_
  ·rintro v31 rfl st hr
   obtain rfl := oi hm
   exact hr
  ·rintro o28 rfl
   replace hm : _ = some r := hm
   refine s_vu [] 1 [0] [(2, vo 0 0 1 o28.length)] [] [] ?_
   obtain rfl := oi hm
   refine q_rt ?_
   exact q_rm
end Saw
end Go.SL
