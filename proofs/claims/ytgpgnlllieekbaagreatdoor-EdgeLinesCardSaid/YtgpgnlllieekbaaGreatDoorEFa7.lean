import Derived.Test.YtgpgnlllieekbaaGreatDoorEBase
import Derived.Test.YtgpgnlllieekbaaGreatDoorEFa6
import Derived.Test.YtgpgnlllieekbaaGreatDoorEFa1
import Derived.Test.YtgpgnlllieekbaaGreatDoorEFa5
import Derived.Test.YtgpgnlllieekbaaGreatDoorEFa4
set_option linter.unusedVariables false
set_option linter.unusedSimpArgs false
namespace Go.SL
namespace Saw
open Go.Proofs
set_option maxHeartbeats 4000000
set_option maxRecDepth 100000
def DF (r : (List Node) × Int) : V := .tup [.one (.own 0 0 2 r.1.length), .one (ci r.2)]
def JR (r : (List Node) × Int) : List (Nat × (Nat × O)) := [(0, ro 0 64 2 r.1.length (rf e_Node r.1))]
theorem qIP (r : (List Node) × Int) : YC (JR r) := by
 intro i k o h
 unfold JR at h
 rw [look_cons] at h
 split at h
 ·cases h; exact fun _ _ => rfl
 ·cases h
def CZ (a2 : Int) (a3 : Int) (a4 : List Span) (a5 : List (List Node)) (v17 : Span) (x21 : Int) (x40 : Int) (x41 : Bool) (l42 : List Node) (l42n : Nat) (x43 : Int) : St :=
 ⟨[(1, vi a2), (2, vi a3), (4, vc (tl (qM e_Node) default a5)), (12, vp 1 0), (13, vp 2 0), (14, vc (.fn 78 [.bptr 2 0 0, .bptr 1 0 0])), (15, vp 3 0), (16, vi x40), (17, vb x41), (18, vi x21), (45, vc (tl e_Span default a4)), (46, vi ((a4.length : Nat) : Int)), (47, vi x21)], [(1, bx 46 [.own 4 0 2 l42n]), (2, bx 3 [ci x43]), (3, bx 26 (e_Span v17)), (4, ro 0 64 2 l42n (rf e_Node l42))]⟩
def IV (a2 : Int) (a3 : Int) (a4 : List Span) (a5 : List (List Node)) (v17 : Span) (x19 : Int) (x20 : Bool) (x21 : Int) (l35 : List Node) (l35n : Nat) (x36 : Int) : St :=
 ⟨[(1, vi a2), (2, vi a3), (4, vc (tl (qM e_Node) default a5)), (12, vp 1 0), (13, vp 2 0), (14, vc (.fn 78 [.bptr 2 0 0, .bptr 1 0 0])), (15, vp 3 0), (16, vi x19), (17, vb x20), (18, vi x21), (19, vp 5 0), (45, vc (tl e_Span default a4)), (46, vi ((a4.length : Nat) : Int)), (47, vi x21)], [(1, bx 46 [.own 4 0 2 l35n]), (2, bx 3 [ci x36]), (3, bx 26 (e_Span v17)), (4, ro 0 64 2 l35n (rf e_Node l35)), (5, bx 26 [ci ((a4.getD x21.toNat default).A), ci ((a4.getD x21.toNat default).B)])]⟩
def OF (a2 : Int) (a3 : Int) (a4 : List Span) (a5 : List (List Node)) (v17 : Span) (x19 : Int) (x20 : Bool) (x21 : Int) (l22 : List Node) (x23 : Int) (x29 : Bool) : St :=
 ⟨[(1, vi a2), (2, vi a3), (4, vc (tl (qM e_Node) default a5)), (12, vp 1 0), (13, vp 2 0), (14, vc (.fn 78 [.bptr 2 0 0, .bptr 1 0 0])), (15, vp 3 0), (16, vi x19), (17, vb x20), (18, vi x21), (19, vp 5 0), (45, vc (tl e_Span default a4)), (46, vi ((a4.length : Nat) : Int)), (47, vi x21), (58, vb x29)], [(1, bx 46 [.own 4 0 2 l22.length]), (2, bx 3 [ci x23]), (3, bx 26 (e_Span v17)), (4, ro 0 64 2 l22.length (rf e_Node l22)), (5, bx 26 [ci ((a4.getD x21.toNat default).A), ci ((a4.getD x21.toNat default).B)])]⟩
def DO (a2 : Int) (a3 : Int) (a4 : List Span) (a5 : List (List Node)) (v17 : Span) (x19 : Int) (x20 : Bool) (x21 : Int) (l22 : List Node) (l22n : Nat) (x23 : Int) : St :=
 ⟨[(1, vi a2), (2, vi a3), (4, vc (tl (qM e_Node) default a5)), (12, vp 1 0), (13, vp 2 0), (14, vc (.fn 78 [.bptr 2 0 0, .bptr 1 0 0])), (15, vp 3 0), (16, vi x19), (17, vb x20), (45, vc (tl e_Span default a4)), (46, vi ((a4.length : Nat) : Int)), (47, vi x21)], [(1, bx 46 [.own 4 0 2 l22n]), (2, bx 3 [ci x23]), (3, bx 26 (e_Span v17)), (4, ro 0 64 2 l22n (rf e_Node l22))]⟩
def OO (x47 : Bool) (l48 : List Node) (x49 : Int) : St :=
 ⟨[(12, vp 1 0), (13, vp 2 0), (14, vc (.fn 78 [.bptr 2 0 0, .bptr 1 0 0])), (17, vb x47)], [(1, bx 46 [.own 4 0 2 l48.length]), (2, bx 3 [ci x49]), (4, ro 0 64 2 l48.length (rf e_Node l48))]⟩
def OI (x57 : Int) (l58 : List Node) (l58n : Nat) : St :=
 ⟨[(12, vp 1 0), (13, vp 2 0)], [(1, bx 46 [.own 4 0 2 l58n]), (2, bx 3 [ci x57]), (4, ro 0 64 2 l58n (rf e_Node l58))]⟩
def CH (a1 : Rect) (a2 : Int) (a3 : Int) (a4 : List Span) (a5 : List (List Node)) (x15 : Bool) : St :=
 ⟨[(1, vi a2), (2, vi a3), (3, vc (tl e_Span default a4)), (4, vc (tl (qM e_Node) default a5)), (5, vp 0 0), (38, vb x15)], [(0, bx 28 (qK a1))]⟩
def CQ (a1 : Rect) (a2 : Int) (a3 : Int) (a4 : List Span) (a5 : List (List Node)) (x12 : Bool) : St :=
 ⟨[(1, vi a2), (2, vi a3), (3, vc (tl e_Span default a4)), (4, vc (tl (qM e_Node) default a5)), (5, vp 0 0), (32, vb x12)], [(0, bx 28 (qK a1))]⟩
theorem qDB (E : Env 0) (a2 : Int) (a3 : Int) (a4 : List Span) (a5 : List (List Node)) (v17 : Span) : ∀ (n : Nat) (x19 : Int) (x20 : Bool) (x21 : Int) (l22 : List Node) (l22n : Nat) (x23 : Int) (res : ((List Node) × Int) ⊕ (Bool × (List Node) × Int)), l22.length = l22n → yJ a2 a3 a4 a5 v17 n x19 x20 x21 l22 x23 = some res → HL (kx E 130 0) (nd Tryz.f45 16372) (zZ 0 (fun o => OO o.1 o.2.1 o.2.2) (fun v st => RetQ Tryz.prog Tryz.f45 (DF v) (JR v) .ret st) res) n (DO a2 a3 a4 a5 v17 x19 x20 x21 l22 l22n x23) := by
 intro n
 induction n with
 | zero =>
  intro x19 x20 x21 l22 l22n x23 res hl0 hm
  cases hm
 | succ n ih =>
  intro x19 x20 x21 l22 l22n x23 res hl0 hm
  subst hl0
  refine qN ?_
  refine q_sq ?_
  refine q_vu [] 5 [] [(48, vb (decide (x21 < ((a4.length : Nat) : Int))))] [] [] ?_
  refine q_sq ?_
  refine q_cn (decide (x21 < ((a4.length : Nat) : Int))) (fun b24 => ?_) (fun b24 => ?_)
  ·replace hm := qC b24 hm
   refine q_sk ?_
   refine q_sq ?_
   refine q_bk 1 ?_
   refine q_sq ?_
   obtain ⟨g25, hm⟩ := qI hm
   refine q_vu [qd 1 (Dir.none) (inb_of g25)] 5 [48] [(18, vi x21), (19, vp 5 0)] [] [(5, bx 26 [ci ((a4.getD x21.toNat default).A), ci ((a4.getD x21.toNat default).B)])] ?_
   refine q_sq ?_
   refine q_bk 2 ?_
   refine q_sq ?_
   refine q_vu [] 6 [] [(52, vb (decide (((a4.getD x21.toNat default).A) ≥ ((a4.getD x21.toNat default).B))))] [] [] ?_
   refine q_cn (decide (((a4.getD x21.toNat default).A) ≥ ((a4.getD x21.toNat default).B))) (fun b26 => ?_) (fun b26 => ?_)
   ·replace hm := qC b26 hm
    refine q_sq ?_
    refine q_vn [] 6 ⟨[(10, vc (.emp)), (11, vi 19)], []⟩ ?_
    refine q_fn [.own 10 6 64 2 (rf e_Node ([] : List Node))] ⟨[(10, vo 6 0 2 0), (11, vi 19)], [(6, ro 0 64 2 0 (rf e_Node ([] : List Node)))]⟩ o0 ?_
    refine q_fn [.len 6 (([] : List Node).length)] ⟨[(10, vo 6 0 2 (([] : List Node).length)), (11, vi 19)], [(6, ro 0 64 2 (([] : List Node).length) (rf e_Node ([] : List Node)))]⟩ (o1 (And.intro (show 0 = ([] : List Node).length from rfl) (show 0 = ([] : List Node).length from rfl))) ?_
    obtain rfl := Option.some.inj hm
    refine qV 6 0 (by kernel_rfl) ?_
    refine q_rt ?_
    refine qR (([] : List Node), 19) ?_
    exact q_rm
   ·replace hm := qB b26 hm
    refine q_jn (ι := Bool) (fun p => OF a2 a3 a4 a5 v17 x19 x20 x21 l22 x23 p) (fun p => UQ a2 a3 a4 a5 v17 x19 x20 x21 l22 x23 (yJ a2 a3 a4 a5 v17 n) p = some res) ?_ ?_
    ·rintro x29 hm
     show H _ (OF a2 a3 a4 a5 v17 x19 x20 x21 l22 x23 x29) _ _
     refine q_cn x29 (fun b30 => ?_) (fun b30 => ?_)
     ·replace hm := qC b30 hm
      refine q_sq ?_
      refine q_vn [] 6 ⟨[(10, vc (.emp)), (11, vi 11)], []⟩ ?_
      refine q_fn [.own 10 6 64 2 (rf e_Node ([] : List Node))] ⟨[(10, vo 6 0 2 0), (11, vi 11)], [(6, ro 0 64 2 0 (rf e_Node ([] : List Node)))]⟩ o0 ?_
      refine q_fn [.len 6 (([] : List Node).length)] ⟨[(10, vo 6 0 2 (([] : List Node).length)), (11, vi 11)], [(6, ro 0 64 2 (([] : List Node).length) (rf e_Node ([] : List Node)))]⟩ (o1 (And.intro (show 0 = ([] : List Node).length from rfl) (show 0 = ([] : List Node).length from rfl))) ?_
      obtain rfl := Option.some.inj hm
      refine qV 6 0 (by kernel_rfl) ?_
      refine q_rt ?_
      refine qR (([] : List Node), 11) ?_
      exact q_rm
     ·replace hm := qB b30 hm
      refine q_sq ?_
      refine q_vu [] 6 [58] [(75, vb (decide (((a4.getD x21.toNat default).B) > v17.B)))] [] [] ?_
      refine q_cn (decide (((a4.getD x21.toNat default).B) > v17.B)) (fun b31 => ?_) (fun b31 => ?_)
      ·replace hm := qC b31 hm
       refine q_sq ?_
       refine q_vn [] 6 ⟨[(10, vc (.emp)), (11, vi 20)], []⟩ ?_
       refine q_fn [.own 10 6 64 2 (rf e_Node ([] : List Node))] ⟨[(10, vo 6 0 2 0), (11, vi 20)], [(6, ro 0 64 2 0 (rf e_Node ([] : List Node)))]⟩ o0 ?_
       refine q_fn [.len 6 (([] : List Node).length)] ⟨[(10, vo 6 0 2 (([] : List Node).length)), (11, vi 20)], [(6, ro 0 64 2 (([] : List Node).length) (rf e_Node ([] : List Node)))]⟩ (o1 (And.intro (show 0 = ([] : List Node).length from rfl) (show 0 = ([] : List Node).length from rfl))) ?_
       obtain rfl := Option.some.inj hm
       refine qV 6 0 (by kernel_rfl) ?_
       refine q_rt ?_
       refine qR (([] : List Node), 20) ?_
       exact q_rm
      ·replace hm := qB b31 hm
       refine q_sk ?_
       refine q_jn (ι := (List Node) × Nat × Int) (fun p => IV a2 a3 a4 a5 v17 x19 x20 x21 p.1 p.2.1 p.2.2) (fun p => p.1.length = p.2.1 ∧ LU a2 a3 a4 a5 v17 x19 x20 x21 (yJ a2 a3 a4 a5 v17 n) p.1 p.2.2 = some res) ?_ ?_
       ·rintro ⟨l35, l35n, x36⟩ ⟨el35, hm⟩
        replace el35 : l35.length = l35n := el35
        subst el35
        show H _ (IV a2 a3 a4 a5 v17 x19 x20 x21 l35 l35.length x36) _ _
        refine q_jn (ι := Int × Bool × (List Node) × Nat × Int) (fun p => CZ a2 a3 a4 a5 v17 x21 p.1 p.2.1 p.2.2.1 p.2.2.2.1 p.2.2.2.2) (fun p => p.2.2.1.length = p.2.2.2.1 ∧ MI a5 x21 (yJ a2 a3 a4 a5 v17 n) p.1 p.2.1 p.2.2.1 p.2.2.2.2 = some res) ?_ ?_
        ·rintro ⟨x40, x41, l42, l42n, x43⟩ ⟨el42, hm⟩
         replace el42 : l42.length = l42n := el42
         subst el42
         show H _ (CZ a2 a3 a4 a5 v17 x21 x40 x41 l42 l42.length x43) _ _
         obtain ⟨g44, hm⟩ := qI hm
         obtain ⟨v45, h46, hm⟩ := qD hm
         refine q_vu [qd 3 (Dir.none) (inb_of g44), qd 5 (dex (cen [(2, 0), (1, 0), (4, 0)] [0, 0, 1] 5 2 (ZM (a5.getD x21.toNat default) x43 l42 v45) (pattern_Row_1_s1_o (a5.getD x21.toNat default) x43 l42 v45) [114, 118] [2, 1, 4])) (ZI (K := (kx E 130 0)) ⟨[(114, vc (.fn 78 [.bptr 2 0 0, .bptr 1 0 0])), (118, vc (tl e_Node default (a5.getD x21.toNat default)))], [(2, bx 3 [ci x43]), (1, bx 46 [.own 4 0 2 l42.length]), (4, ro 0 64 2 l42.length (rf e_Node l42))]⟩ (opAt (rg Tryz.f45 4191439) 5) [(2, 0), (1, 0), (4, 0)] [0, 0, 1] 5 o0 rfl (JM (a5.getD x21.toNat default) x43 l42 v45 h46) (.inl rfl) (by kernel_rfl))] 8 [18] [] [1, 2, 4] [(1, bx 46 [.own 4 1 2 v45.2.length]), (2, bx 3 [ci v45.1]), (4, ro 1 64 2 v45.2.length (rf e_Node v45.2))] ?_
         refine q_vu [] 8 [47] [(47, vi (w64 (x21 + 1)))] [] [] ?_
         exact q_hl (DO a2 a3 a4 a5 v17 x40 x41 (w64 (x21 + 1)) v45.2 v45.2.length v45.1) (ih x40 x41 (w64 (x21 + 1)) v45.2 v45.2.length v45.1 _ rfl hm)
        ·refine q_sq ?_
         refine q_vu [] 7 [] [(99, vb (decide (((a4.getD x21.toNat default).B) < v17.B)))] [] [] ?_
         refine q_cn (decide (((a4.getD x21.toNat default).B) < v17.B)) (fun b37 => ?_) (fun b37 => ?_)
         ·replace hm := qC b37 hm
          refine q_sq ?_
          obtain ⟨v38, h39, hm⟩ := qD hm
          refine q_vu [qd 5 (drw 7 0 (rf e_Node ([(Node.mk a2 ((a4.getD x21.toNat default).B))] : List Node))) (litP e_Node default 2 (fun _ => rfl) ([(Node.mk a2 ((a4.getD x21.toNat default).B))] : List Node) 1 rfl), qd 6 (dex (cen [(2, 0), (1, 0), (4, 0)] [0, 0, 1] 5 2 (ZM ([(Node.mk a2 ((a4.getD x21.toNat default).B))] : List Node) x36 l35 v38) (pattern_Row_1_s1_o ([(Node.mk a2 ((a4.getD x21.toNat default).B))] : List Node) x36 l35 v38) [100, 105] [2, 1, 4, 7])) (ZI (K := (kx E 130 0)) (xs' := [.one (.lst 1 (rf e_Node ([(Node.mk a2 ((a4.getD x21.toNat default).B))] : List Node))), .one (.bptr 0 0 0), .one (.bptr 1 0 0)]) (b := false) ⟨[(100, vc (.fn 78 [.bptr 2 0 0, .bptr 1 0 0])), (105, vo 7 0 2 1)], [(2, bx 3 [ci x36]), (1, bx 46 [.own 4 0 2 l35.length]), (4, ro 0 64 2 l35.length (rf e_Node l35)), (7, ro 0 64 2 1 (rf e_Node ([(Node.mk a2 ((a4.getD x21.toNat default).B))] : List Node)))]⟩ (opAt (rg Tryz.f45 33531508) 6) [(2, 0), (1, 0), (4, 0)] [0, 0, 1] 5 (o1 (Nat.le_refl 1)) (by simp only [tl, rf, show ([(Node.mk a2 ((a4.getD x21.toNat default).B))] : List Node).length = 1 from rfl]) (JM ([(Node.mk a2 ((a4.getD x21.toNat default).B))] : List Node) x36 l35 v38 h39) (.inr ⟨(by kernel_rfl), TC  ([(Node.mk a2 ((a4.getD x21.toNat default).B))] : List Node) x36 l35 v38⟩) (by kernel_rfl))] 7 [16, 99] [] [1, 2, 4] [(1, bx 46 [.own 4 1 2 v38.2.length]), (2, bx 3 [ci v38.1]), (4, ro 1 64 2 v38.2.length (rf e_Node v38.2))] ?_
          refine q_vu [] 8 [19] [(16, vi (imin (w64 (((a4.getD x21.toNat default).B) + a3)) v17.B))] [5] [] ?_
          exact q_J (imin (w64 (((a4.getD x21.toNat default).B) + a3)) v17.B, x20, v38.2, v38.2.length, v38.1) ⟨rfl, hm⟩
         ·replace hm := qB b37 hm
          refine q_vu [] 7 [17, 19, 99] [(17, vb true)] [5] [] ?_
          exact q_J (x19, true, l35, l35.length, x36) ⟨rfl, hm⟩
       ·refine q_sq ?_
        refine q_vu [] 6 [75] [(84, vb (decide (((a4.getD x21.toNat default).A) > x19)))] [] [] ?_
        refine q_cn (decide (((a4.getD x21.toNat default).A) > x19)) (fun b32 => ?_) (fun b32 => ?_)
        ·replace hm := qC b32 hm
         obtain ⟨v33, h34, hm⟩ := qD hm
         refine q_vu [qd 8 (drw 6 0 (rf e_Node ([(Node.mk a2 (w64 (((a4.getD x21.toNat default).A) - a3))), (Node.mk 0 0)] : List Node))) (litP e_Node default 2 (fun _ => rfl) ([(Node.mk a2 (w64 (((a4.getD x21.toNat default).A) - a3))), (Node.mk 0 0)] : List Node) 2 rfl), qd 9 (dex (cen [(2, 0), (1, 0), (4, 0)] [0, 0, 1] 4 2 (ZM ([(Node.mk a2 (w64 (((a4.getD x21.toNat default).A) - a3))), (Node.mk 0 0)] : List Node) x23 l22 v33) (pattern_Row_1_s1_o ([(Node.mk a2 (w64 (((a4.getD x21.toNat default).A) - a3))), (Node.mk 0 0)] : List Node) x23 l22 v33) [85, 93] [2, 1, 4, 6])) (ZI (K := (kx E 130 0)) (xs' := [.one (.lst 2 (rf e_Node ([(Node.mk a2 (w64 (((a4.getD x21.toNat default).A) - a3))), (Node.mk 0 0)] : List Node))), .one (.bptr 0 0 0), .one (.bptr 1 0 0)]) (b := false) ⟨[(85, vc (.fn 78 [.bptr 2 0 0, .bptr 1 0 0])), (93, vo 6 0 2 2)], [(2, bx 3 [ci x23]), (1, bx 46 [.own 4 0 2 l22.length]), (4, ro 0 64 2 l22.length (rf e_Node l22)), (6, ro 0 64 2 2 (rf e_Node ([(Node.mk a2 (w64 (((a4.getD x21.toNat default).A) - a3))), (Node.mk 0 0)] : List Node)))]⟩ (opAt (rg Tryz.f45 8382874) 9) [(2, 0), (1, 0), (4, 0)] [0, 0, 1] 4 (o1 (Nat.le_refl 2)) (by simp only [tl, rf, show ([(Node.mk a2 (w64 (((a4.getD x21.toNat default).A) - a3))), (Node.mk 0 0)] : List Node).length = 2 from rfl]) (JM ([(Node.mk a2 (w64 (((a4.getD x21.toNat default).A) - a3))), (Node.mk 0 0)] : List Node) x23 l22 v33 h34) (.inr ⟨(by kernel_rfl), TC  ([(Node.mk a2 (w64 (((a4.getD x21.toNat default).A) - a3))), (Node.mk 0 0)] : List Node) x23 l22 v33⟩) (by kernel_rfl))] 6 [84] [] [1, 2, 4] [(1, bx 46 [.own 4 1 2 v33.2.length]), (2, bx 3 [ci v33.1]), (4, ro 1 64 2 v33.2.length (rf e_Node v33.2))] ?_
         exact q_J (v33.2, v33.2.length, v33.1) ⟨rfl, hm⟩
        ·replace hm := qB b32 hm
         refine q_sk ?_
         exact q_J (l22, l22.length, x23) ⟨rfl, hm⟩
    ·rcases Bool.eq_false_or_eq_true x20 with b27 | b27
     ·replace hm := qC b27 hm
      refine q_vu [qf 1 b27] 6 [52] [(58, vb true)] [] [] ?_
      exact q_J (true) hm
     ·replace hm := qB b27 hm
      rcases Bool.eq_false_or_eq_true (((a4.getD x21.toNat default).A) != x19) with b28 | b28
      ·replace hm := qC b28 hm
       refine q_vu [qf 1 b27, qf 6 b28] 6 [52] [(58, vb (decide (((a4.getD x21.toNat default).A) < (w64 ((w64 (x19 + a3)) + 1))))), (61, vp 5 0), (62, vi ((a4.getD x21.toNat default).A)), (63, vi x19), (64, vb (((a4.getD x21.toNat default).A) != x19)), (65, vb true), (66, vp 5 0), (67, vi ((a4.getD x21.toNat default).A)), (68, vi x19), (69, vi a3), (70, vi (w64 (x19 + a3))), (71, vi (w64 ((w64 (x19 + a3)) + 1))), (72, vb (decide (((a4.getD x21.toNat default).A) < (w64 ((w64 (x19 + a3)) + 1))))), (73, vb (decide (((a4.getD x21.toNat default).A) < (w64 ((w64 (x19 + a3)) + 1)))))] [] [] ?_
       exact q_J (decide (((a4.getD x21.toNat default).A) < (w64 ((w64 (x19 + a3)) + 1)))) hm
      ·replace hm := qB b28 hm
       refine q_vu [qf 1 b27, qf 6 b28] 6 [52] [(58, vb false), (61, vp 5 0), (62, vi ((a4.getD x21.toNat default).A)), (63, vi x19), (64, vb (((a4.getD x21.toNat default).A) != x19)), (65, vb false), (73, vb false)] [] [] ?_
       exact q_J (false) hm
  ·replace hm := qB b24 hm
   refine q_ex 0 ?_
   obtain rfl := Option.some.inj hm
   exact wC (x20, l22, x23) (by kernel_rfl) (by kernel_rfl)
theorem pattern_Row_ok (a1 : Rect) (a2 : Int) (a3 : Int) (a4 : List Span) (a5 : List (List Node)) (r : (List Node) × Int) (hm : qBa a1 a2 a3 a4 a5 = some r) : CtX Tryz.prog globs 45 0 0 [.agg (qK a1), .one (ci a2), .one (ci a3), .one (tl e_Span default a4), .one (tl (qM e_Node) default a5)] [] (DF r) (JR r) := by
 unfold qBa at hm
 refine q_E Tryz.f45 130 fun E => ?_
 refine q_sq ?_
 refine q_vn [] 0 ⟨[(1, vi a2), (2, vi a3), (3, vc (tl e_Span default a4)), (4, vc (tl (qM e_Node) default a5)), (5, vp 0 0)], [(0, bx 28 (qK a1))]⟩ ?_
 refine q_sq ?_
 refine q_sq ?_
 obtain ⟨v6, h7, hm⟩ := qD hm
 refine q_vu [qc 1 [20] 1 (qEe a2 v6 h7)] 1 [] [(22, vb (!v6))] [] [] ?_
 refine q_cn (!v6) (fun b8 => ?_) (fun b8 => ?_)
 ·replace hm := qC b8 hm
  refine q_sq ?_
  refine q_vn [] 1 ⟨[(10, vc (.emp)), (11, vi 10)], []⟩ ?_
  refine q_fn [.own 10 1 64 2 (rf e_Node ([] : List Node))] ⟨[(10, vo 1 0 2 0), (11, vi 10)], [(1, ro 0 64 2 0 (rf e_Node ([] : List Node)))]⟩ o0 ?_
  refine q_fn [.len 1 (([] : List Node).length)] ⟨[(10, vo 1 0 2 (([] : List Node).length)), (11, vi 10)], [(1, ro 0 64 2 (([] : List Node).length) (rf e_Node ([] : List Node)))]⟩ (o1 (And.intro (show 0 = ([] : List Node).length from rfl) (show 0 = ([] : List Node).length from rfl))) ?_
  obtain rfl := Option.some.inj hm
  refine qV 1 0 (by kernel_rfl) ?_
  refine q_rt ?_
  exact q_rm
 ·replace hm := qB b8 hm
  refine q_sk ?_
  refine q_sq ?_
  refine q_jn (ι := Bool) (fun p => CQ a1 a2 a3 a4 a5 p) (fun p => MQ a1 a2 a3 a4 a5 p = some r) ?_ ?_
  ·rintro x12 hm
   show H _ (CQ a1 a2 a3 a4 a5 x12) _ _
   refine q_cn x12 (fun b13 => ?_) (fun b13 => ?_)
   ·replace hm := qC b13 hm
    refine q_sq ?_
    refine q_vn [] 1 ⟨[(10, vc (.emp)), (11, vi 19)], []⟩ ?_
    refine q_fn [.own 10 1 64 2 (rf e_Node ([] : List Node))] ⟨[(10, vo 1 0 2 0), (11, vi 19)], [(1, ro 0 64 2 0 (rf e_Node ([] : List Node)))]⟩ o0 ?_
    refine q_fn [.len 1 (([] : List Node).length)] ⟨[(10, vo 1 0 2 (([] : List Node).length)), (11, vi 19)], [(1, ro 0 64 2 (([] : List Node).length) (rf e_Node ([] : List Node)))]⟩ (o1 (And.intro (show 0 = ([] : List Node).length from rfl) (show 0 = ([] : List Node).length from rfl))) ?_
    obtain rfl := Option.some.inj hm
    refine qV 1 0 (by kernel_rfl) ?_
    refine q_rt ?_
    exact q_rm
   ·replace hm := qB b13 hm
    refine q_sk ?_
    refine q_sq ?_
    refine q_jn (ι := Bool) (fun p => CH a1 a2 a3 a4 a5 p) (fun p => LV a1 a2 a3 a4 a5 p = some r) ?_ ?_
    ·rintro x15 hm
     show H _ (CH a1 a2 a3 a4 a5 x15) _ _
     refine q_cn x15 (fun b16 => ?_) (fun b16 => ?_)
     ·replace hm := qC b16 hm
      refine q_sq ?_
      refine q_vn [] 1 ⟨[(10, vc (.emp)), (11, vi 9)], []⟩ ?_
      refine q_fn [.own 10 1 64 2 (rf e_Node ([] : List Node))] ⟨[(10, vo 1 0 2 0), (11, vi 9)], [(1, ro 0 64 2 0 (rf e_Node ([] : List Node)))]⟩ o0 ?_
      refine q_fn [.len 1 (([] : List Node).length)] ⟨[(10, vo 1 0 2 (([] : List Node).length)), (11, vi 9)], [(1, ro 0 64 2 (([] : List Node).length) (rf e_Node ([] : List Node)))]⟩ (o1 (And.intro (show 0 = ([] : List Node).length from rfl) (show 0 = ([] : List Node).length from rfl))) ?_
      obtain rfl := Option.some.inj hm
      refine qV 1 0 (by kernel_rfl) ?_
      refine q_rt ?_
      exact q_rm
     ·replace hm := qB b16 hm
      refine q_sk ?_
      refine q_sq ?_
      refine q_vu [] 1 [38] [(12, vp 1 0)] [] [(1, bx 46 [.emp])] ?_
      refine q_sq ?_
      refine q_vu [] 2 [] [(13, vp 2 0)] [] [(2, bx 3 [ci 0])] ?_
      refine q_sq ?_
      refine q_vu [] 3 [] [(14, vc (.fn 78 [.bptr 2 0 0, .bptr 1 0 0]))] [] [] ?_
      refine q_sq ?_
      obtain ⟨v17, h18, hm⟩ := qD hm
      refine q_vu [qc 2 [40, 41] 3 (qER a1 a2 v17 h18)] 3 [5] [(15, vp 3 0)] [0] [(3, bx 26 (e_Span v17))] ?_
      refine q_sq ?_
      refine q_vu [] 4 [] [(16, vi v17.A), (17, vb false)] [] [] ?_
      refine q_sq ?_
      refine q_sq ?_
      refine q_vu [] 4 [3] [(45, vc (tl e_Span default a4)), (46, vi ((a4.length : Nat) : Int)), (47, vi 0)] [] [] ?_
      refine q_fn [.ownB 1 0 4 64 2 (rf e_Node ([] : List Node))] ⟨[(1, vi a2), (2, vi a3), (4, vc (tl (qM e_Node) default a5)), (12, vp 1 0), (13, vp 2 0), (14, vc (.fn 78 [.bptr 2 0 0, .bptr 1 0 0])), (15, vp 3 0), (16, vi v17.A), (17, vb false), (45, vc (tl e_Span default a4)), (46, vi ((a4.length : Nat) : Int)), (47, vi 0)], [(1, bx 46 [.own 4 0 2 0]), (2, bx 3 [ci 0]), (3, bx 26 (e_Span v17)), (4, ro 0 64 2 0 (rf e_Node ([] : List Node)))]⟩ o0 ?_
      obtain ⟨u52, h51, hm⟩ := qD hm
      refine zH (nd Tryz.f45 16372) 0 (by kernel_rfl) FUEL (fun o => OO o.1 o.2.1 o.2.2) (fun v st => RetQ Tryz.prog Tryz.f45 (DF v) (JR v) .ret st) u52 (q_hl (DO a2 a3 a4 a5 v17 v17.A false 0 ([] : List Node) 0 0) (qDB E a2 a3 a4 a5 v17 FUEL v17.A false 0 ([] : List Node) 0 0 u52 rfl h51)) ?_ ?_
      ·rintro v53 rfl st hr
       obtain rfl := Option.some.inj hm
       exact hr
      ·rintro o50 rfl
       replace hm : _ = some r := hm
       refine q_jn (ι := Int × (List Node) × Nat) (fun p => OI p.1 p.2.1 p.2.2) (fun p => p.2.1.length = p.2.2 ∧ MT p.1 p.2.1 = some r) ?_ ?_
       ·rintro ⟨x57, l58, l58n⟩ ⟨el58, hm⟩
        replace el58 : l58.length = l58n := el58
        subst el58
        show H _ (OI x57 l58 l58.length) _ _
        refine q_sq ?_
        refine q_sq ?_
        refine q_vu [] 6 [13] [(128, vb (decide (x57 > 127)))] [2] [] ?_
        refine q_cn (decide (x57 > 127)) (fun b59 => ?_) (fun b59 => ?_)
        ·replace hm := qC b59 hm
         refine q_sq ?_
         refine q_vn [] 6 ⟨[(10, vc (.emp)), (11, vi 4)], []⟩ ?_
         refine q_fn [.own 10 6 64 2 (rf e_Node ([] : List Node))] ⟨[(10, vo 6 0 2 0), (11, vi 4)], [(6, ro 0 64 2 0 (rf e_Node ([] : List Node)))]⟩ o0 ?_
         refine q_fn [.len 6 (([] : List Node).length)] ⟨[(10, vo 6 0 2 (([] : List Node).length)), (11, vi 4)], [(6, ro 0 64 2 (([] : List Node).length) (rf e_Node ([] : List Node)))]⟩ (o1 (And.intro (show 0 = ([] : List Node).length from rfl) (show 0 = ([] : List Node).length from rfl))) ?_
         obtain rfl := Option.some.inj hm
         refine qV 6 0 (by kernel_rfl) ?_
         refine q_rt ?_
         exact q_rm
        ·replace hm := qB b59 hm
         refine q_sk ?_
         refine q_sq ?_
         refine q_vu [] 6 [12, 128] [(10, vo 4 0 2 l58.length), (11, vi 0)] [1] [] ?_
         obtain rfl := Option.some.inj hm
         refine qV 4 0 (by kernel_rfl) ?_
         refine q_rt ?_
         exact q_rm
       ·refine q_sq ?_
        refine q_vu [] 5 [17] [(122, vb (!o50.1))] [] [] ?_
        refine q_cn (!o50.1) (fun b54 => ?_) (fun b54 => ?_)
        ·replace hm := qC b54 hm
         obtain ⟨v55, h56, hm⟩ := qD hm
         refine q_vu [qd 2 (drw 5 0 (rf e_Node ([(Node.mk 0 0)] : List Node))) (litP e_Node default 2 (fun _ => rfl) ([(Node.mk 0 0)] : List Node) 1 rfl), qd 3 (dex (cen [(2, 0), (1, 0), (4, 0)] [0, 0, 1] 3 2 (ZM ([(Node.mk 0 0)] : List Node) o50.2.2 o50.2.1 v55) (pattern_Row_1_s1_o ([(Node.mk 0 0)] : List Node) o50.2.2 o50.2.1 v55) [123, 125] [2, 1, 4, 5])) (ZI (K := (kx E 130 0)) (xs' := [.one (.lst 1 (rf e_Node ([(Node.mk 0 0)] : List Node))), .one (.bptr 0 0 0), .one (.bptr 1 0 0)]) (b := false) ⟨[(123, vc (.fn 78 [.bptr 2 0 0, .bptr 1 0 0])), (125, vo 5 0 2 1)], [(2, bx 3 [ci o50.2.2]), (1, bx 46 [.own 4 0 2 o50.2.1.length]), (4, ro 0 64 2 o50.2.1.length (rf e_Node o50.2.1)), (5, ro 0 64 2 1 (rf e_Node ([(Node.mk 0 0)] : List Node)))]⟩ (opAt (rg Tryz.f45 16378) 3) [(2, 0), (1, 0), (4, 0)] [0, 0, 1] 3 (o1 (Nat.le_refl 1)) (by simp only [tl, rf, show ([(Node.mk 0 0)] : List Node).length = 1 from rfl]) (JM ([(Node.mk 0 0)] : List Node) o50.2.2 o50.2.1 v55 h56) (.inr ⟨(by kernel_rfl), TC  ([(Node.mk 0 0)] : List Node) o50.2.2 o50.2.1 v55⟩) (by kernel_rfl))] 5 [14, 122] [] [1, 2, 4] [(1, bx 46 [.own 4 1 2 v55.2.length]), (2, bx 3 [ci v55.1]), (4, ro 1 64 2 v55.2.length (rf e_Node v55.2))] ?_
         exact q_J (v55.1, v55.2, v55.2.length) ⟨rfl, hm⟩
        ·replace hm := qB b54 hm
         refine q_sk ?_
         exact q_J (o50.2.2, o50.2.1, o50.2.1.length) ⟨rfl, hm⟩
    ·rcases Bool.eq_false_or_eq_true (decide (a3 < 0)) with b14 | b14
     ·replace hm := qC b14 hm
      refine q_vu [qf 2 b14] 1 [32] [(38, vb true)] [] [] ?_
      exact q_J (true) hm
     ·replace hm := qB b14 hm
      refine q_vu [qf 2 b14] 1 [32] [(38, vb (decide (a3 > 20)))] [] [] ?_
      exact q_J (decide (a3 > 20)) hm
  ·obtain ⟨v9, h10, hm⟩ := qD hm
   rcases Bool.eq_false_or_eq_true (!v9) with b11 | b11
   ·replace hm := qC b11 hm
    refine q_vu [qc 1 [23] 1 (SB a1 v9 h10), qf 3 b11] 1 [22] [(32, vb true)] [] [] ?_
    exact q_J (true) hm
   ·replace hm := qB b11 hm
    refine q_vu [qc 1 [23] 1 (SB a1 v9 h10), qf 3 b11] 1 [22] [(32, vb (((a4.length : Nat) : Int) != ((a5.length : Nat) : Int)))] [] [] ?_
    exact q_J (((a4.length : Nat) : Int) != ((a5.length : Nat) : Int)) hm
def qKF (r : (List Node) × Int × Int) : V := .tup [.one (.own 0 0 2 r.1.length), .one (ci r.2.1), .one (ci r.2.2)]
def qKH (r : (List Node) × Int × Int) : List (Nat × (Nat × O)) := [(0, ro 0 64 2 r.1.length (rf e_Node r.1))]
def LW (a4 : Rect) (a5 : Saw) (v10 : (List Piece) × Int × Int) (v13 : (List Int) × (List Int)) (l15 : List Span) (l15n : Nat) (l16 : List (List Node)) (l16n : Nat) (x17 : Int) : St :=
 ⟨[(9, vp 0 0), (10, vp 1 0), (18, vi v10.2.1), (19, vo 9 0 1 v13.1.length), (20, vo 10 0 1 v13.2.length), (21, vo 11 0 2 l15n), (22, vo 12 0 1 l16n), (60, vo 8 0 2 v10.1.length), (61, vi ((v10.1.length : Nat) : Int)), (62, vi x17)], [(0, bx 28 (qK a4)), (1, bx 30 (wA a5)), (8, ro 0 75 2 v10.1.length (rf jN v10.1)), (9, ro 0 3 1 v13.1.length (rf e_i64 v13.1)), (10, ro 0 3 1 v13.2.length (rf e_i64 v13.2)), (11, ro 0 26 2 l15n (rf e_Span l15)), (12, ro 0 46 1 l16n (rf (qM e_Node) l16))]⟩
def qBw (a4 : Rect) (a5 : Saw) (v10 : (List Piece) × Int × Int) (l27 : List Span) (l28 : List (List Node)) : St :=
 ⟨[(9, vp 0 0), (10, vp 1 0), (18, vi v10.2.1), (21, vo 11 0 2 l27.length), (22, vo 12 0 1 l28.length)], [(0, bx 28 (qK a4)), (1, bx 30 (wA a5)), (11, ro 0 26 2 l27.length (rf e_Span l27)), (12, ro 0 46 1 l28.length (rf (qM e_Node) l28))]⟩
theorem qFV (E : Env 0) (a4 : Rect) (a5 : Saw) (v10 : (List Piece) × Int × Int) (v13 : (List Int) × (List Int)) : ∀ (n : Nat) (l15 : List Span) (l15n : Nat) (l16 : List (List Node)) (l16n : Nat) (x17 : Int) (res : (List Span) × (List (List Node))), l15.length = l15n → l16.length = l16n → IR a4 v10 v13 n l15 l16 x17 = some res → HL (kx E 106 0) (nd Tryz.f24 8180) (zW 0 (fun o => qBw a4 a5 v10 o.1 o.2) res) n (LW a4 a5 v10 v13 l15 l15n l16 l16n x17) := by
 intro n
 induction n with
 | zero =>
  intro l15 l15n l16 l16n x17 res hl0 hl1 hm
  cases hm
 | succ n ih =>
  intro l15 l15n l16 l16n x17 res hl0 hl1 hm
  subst hl0
  subst hl1
  refine qN ?_
  refine q_sq ?_
  refine q_vu [] 13 [] [(63, vb (decide (x17 < ((v10.1.length : Nat) : Int))))] [] [] ?_
  refine q_sq ?_
  refine q_cn (decide (x17 < ((v10.1.length : Nat) : Int))) (fun b18 => ?_) (fun b18 => ?_)
  ·replace hm := qC b18 hm
   refine q_sk ?_
   refine q_sq ?_
   refine q_bk 1 ?_
   refine q_sq ?_
   obtain ⟨g19, hm⟩ := qI hm
   refine q_vu [qd 0 (Dir.none) (inb_of g19), qd 1 (Dir.none) (toNat_lt (inb_of g19))] 13 [63] [(24, vp 13 0)] [] [(13, bx 75 [ci ((v10.1.getD x17.toNat default).Size), ci ((v10.1.getD x17.toNat default).At)])] ?_
   refine q_sq ?_
   obtain ⟨g20, hm⟩ := qI hm
   obtain ⟨v21, h22, hm⟩ := qD hm
   obtain ⟨g23, hm⟩ := qI hm
   refine q_du [qd 9 (Dir.none) (inb_of g20), qd 10 (Dir.none) (toNat_lt (inb_of g20)), qc 12 [67, 69, 77] 14 (CF a4 ((v10.1.getD x17.toNat default).At) (w64 (((v10.1.getD x17.toNat default).At) + (v13.1.getD (((v10.1.getD x17.toNat default).Size).toNat) default))) v21 h22), qd 14 (drw 14 0 (rf e_Span ([v21.X] : List Span))) (litP e_Span default 2 (fun _ => rfl) ([v21.X] : List Span) 1 rfl), qd 15 (drw 11 1 (rf e_Span (l15 ++ ([v21.X] : List Span)))) (apP e_Span default l15 ([v21.X] : List Span) l15.length 1 2 16 (1 ≤ 1) (Nat.le_refl _) rfl rfl (fun _ => rfl) (wD g23))] [0, 0, 0, 4, 0, 16, 0, 0, 128, 448, 960, 2032, 4094, 8190, 16382, 32767, 65535] 14 [21] [(21, vo 11 1 2 (l15.length + 1))] [11] [(11, ro 1 26 2 (l15.length + 1) (rf e_Span (l15 ++ ([v21.X] : List Span))))] ?_
   obtain ⟨g24, hm⟩ := qI hm
   obtain ⟨v25, h26, hm⟩ := qD hm
   refine q_vu [qd 4 (Dir.none) (inb_of g24), qd 5 (Dir.none) (toNat_lt (inb_of g24)), qd 7 (drw 15 0 (rf e_Node ([(Node.mk 1 (v13.2.getD (((v10.1.getD x17.toNat default).Size).toNat) default))] : List Node))) (litP e_Node default 2 (fun _ => rfl) ([(Node.mk 1 (v13.2.getD (((v10.1.getD x17.toNat default).Size).toNat) default))] : List Node) 1 rfl), qd 8 (dpr [.len 15 (([(Node.mk 1 (v13.2.getD (((v10.1.getD x17.toNat default).Size).toNat) default))] : List Node).length)] (dex (cen [(12, 0), (15, 0)] [1, 1] 14 0 (AT l16 ([(Node.mk 1 (v13.2.getD (((v10.1.getD x17.toNat default).Size).toNat) default))] : List Node) v25) (AW l16 ([(Node.mk 1 (v13.2.getD (((v10.1.getD x17.toNat default).Size).toNat) default))] : List Node) v25) [82, 89] [12, 15]))) (And.intro (show 1 = ([(Node.mk 1 (v13.2.getD (((v10.1.getD x17.toNat default).Size).toNat) default))] : List Node).length from rfl) (show 1 = ([(Node.mk 1 (v13.2.getD (((v10.1.getD x17.toNat default).Size).toNat) default))] : List Node).length from rfl)), qd 8 (Dir.none) (ZI (K := (kx E 106 0)) ⟨[(82, vo 12 0 1 l16.length), (89, vo 15 0 2 (([(Node.mk 1 (v13.2.getD (((v10.1.getD x17.toNat default).Size).toNat) default))] : List Node).length))], [(12, ro 0 46 1 l16.length (rf (qM e_Node) l16)), (15, ro 0 64 2 (([(Node.mk 1 (v13.2.getD (((v10.1.getD x17.toNat default).Size).toNat) default))] : List Node).length) (rf e_Node ([(Node.mk 1 (v13.2.getD (((v10.1.getD x17.toNat default).Size).toNat) default))] : List Node)))]⟩ (opAt (rg Tryz.f24 523571) 8) [(12, 0), (15, 0)] [1, 1] 14 o0 rfl (qCZ l16 ([(Node.mk 1 (v13.2.getD (((v10.1.getD x17.toNat default).Size).toNat) default))] : List Node) v25 h26) (.inl rfl) (by kernel_rfl))] 15 [22, 24] [(22, vo 12 1 1 v25.2.length)] [12, 13] [(12, ro 1 46 1 v25.2.length (rf (qM e_Node) v25.2))] ?_
   refine q_vu [] 16 [62] [(62, vi (w64 (x17 + 1)))] [] [] ?_
   exact q_hl (LW a4 a5 v10 v13 (l15 ++ ([v21.X] : List Span)) (l15.length + 1) v25.2 v25.2.length (w64 (x17 + 1))) (ih (l15 ++ ([v21.X] : List Span)) (l15.length + 1) v25.2 v25.2.length (w64 (x17 + 1)) _ (len_app rfl rfl) rfl hm)
  ·replace hm := qB b18 hm
   refine q_ex 0 ?_
   obtain rfl := Option.some.inj hm
   exact wE (by kernel_rfl) (by kernel_rfl)
theorem qJm (a1 : List Slice) (a2 : List Defect) (a3 : List qA) (a4 : Rect) (a5 : Saw) (a6 : Rates) (r : (List Node) × Int × Int) (hm : qDl a1 a2 a3 a4 a5 a6 = some r) : CtX Tryz.prog globs 24 0 0 [.one (tl qF default a1), .one (tl qG default a2), .one (tl qE default a3), .agg (qK a4), .agg (wA a5), .agg (qW a6)] [] (qKF r) (qKH r) := by
 unfold qDl at hm
 refine q_E Tryz.f24 106 fun E => ?_
 refine q_sq ?_
 refine q_vn [] 0 ⟨[(0, vc (tl qF default a1)), (1, vc (tl qG default a2)), (2, vc (tl qE default a3)), (9, vp 0 0), (10, vp 1 0), (11, vp 2 0)], [(0, bx 28 (qK a4)), (1, bx 30 (wA a5)), (2, bx 32 (qW a6))]⟩ ?_
 refine q_sq ?_
 obtain ⟨v7, h8, hm⟩ := qD hm
 refine q_vu [qc 6 [27, 28, 29, 30, 31, 32] 3 (qC3 a1 a2 a3 a4 a5 a6 v7 h8)] 3 [0, 1, 11] [(15, vp 7 0), (16, vi v7.2)] [2] [(3, ro 0 3 1 v7.1.Sizes.length (rf e_i64 v7.1.Sizes)), (4, ro 0 37 1 v7.1.Gain.length (rf (qM e_i64) v7.1.Gain)), (5, ro 0 3 1 v7.1.Chip.length (rf e_i64 v7.1.Chip)), (6, ro 0 3 1 v7.1.Dust.length (rf e_i64 v7.1.Dust)), (7, bx 40 [ci v7.1.Len, ci v7.1.Kerf, ci v7.1.Pitch, .own 3 0 1 v7.1.Sizes.length, .own 4 0 1 v7.1.Gain.length, .own 5 0 1 v7.1.Chip.length, .own 6 0 1 v7.1.Dust.length])] ?_
 refine q_sq ?_
 refine q_sq ?_
 refine q_vu [] 8 [] [(37, vb (v7.2 != 0))] [] [] ?_
 refine q_cn (v7.2 != 0) (fun b9 => ?_) (fun b9 => ?_)
 ·replace hm := qC b9 hm
  refine q_sq ?_
  refine q_vn [] 8 ⟨[(12, vc (.emp)), (13, vi 0), (14, vi v7.2)], []⟩ ?_
  refine q_fn [.own 12 8 64 2 (rf e_Node ([] : List Node))] ⟨[(12, vo 8 0 2 0), (13, vi 0), (14, vi v7.2)], [(8, ro 0 64 2 0 (rf e_Node ([] : List Node)))]⟩ o0 ?_
  refine q_fn [.len 8 (([] : List Node).length)] ⟨[(12, vo 8 0 2 (([] : List Node).length)), (13, vi 0), (14, vi v7.2)], [(8, ro 0 64 2 (([] : List Node).length) (rf e_Node ([] : List Node)))]⟩ (o1 (And.intro (show 0 = ([] : List Node).length from rfl) (show 0 = ([] : List Node).length from rfl))) ?_
  obtain rfl := Option.some.inj hm
  refine qV 8 0 (by kernel_rfl) ?_
  refine q_rt ?_
  exact q_rm
 ·replace hm := qB b9 hm
  refine q_sk ?_
  refine q_sq ?_
  obtain ⟨v10, h11, hm⟩ := qD hm
  refine q_vu [qd 1 (dex (cen [] [] 8 0 (qBD v10) (UK v10) [40] [3, 4, 5, 6])) (ZI (K := (kx E 106 0)) (b := false) ⟨[(40, va [ci v7.1.Len, ci v7.1.Kerf, ci v7.1.Pitch, .own 3 0 1 v7.1.Sizes.length, .own 4 0 1 v7.1.Gain.length, .own 5 0 1 v7.1.Chip.length, .own 6 0 1 v7.1.Dust.length])], [(3, ro 0 3 1 v7.1.Sizes.length (rf e_i64 v7.1.Sizes)), (4, ro 0 37 1 v7.1.Gain.length (rf (qM e_i64) v7.1.Gain)), (5, ro 0 3 1 v7.1.Chip.length (rf e_i64 v7.1.Chip)), (6, ro 0 3 1 v7.1.Dust.length (rf e_i64 v7.1.Dust))]⟩ (opAt (rg Tryz.f24 30) 1) [] [] 8 (o1 (And.intro (Nat.le_refl v7.1.Sizes.length) (And.intro (Nat.le_refl v7.1.Gain.length) (And.intro (Nat.le_refl v7.1.Chip.length) (Nat.le_refl v7.1.Dust.length))))) rfl (cutting_Best_ok (Line.mk v7.1.Len v7.1.Kerf v7.1.Pitch v7.1.Sizes v7.1.Gain v7.1.Chip v7.1.Dust) v10 h11) (.inr ⟨(by kernel_rfl), qGg v10⟩) (by kernel_rfl))] 8 [15, 16, 37] [(16, vi v10.2.2), (17, vo 8 0 2 v10.1.length), (18, vi v10.2.1)] [3, 4, 5, 6, 7] [(8, ro 0 75 2 v10.1.length (rf jN v10.1))] ?_
  refine q_sq ?_
  refine q_sq ?_
  refine q_vu [] 9 [] [(46, vb (v10.2.2 != 0))] [] [] ?_
  refine q_cn (v10.2.2 != 0) (fun b12 => ?_) (fun b12 => ?_)
  ·replace hm := qC b12 hm
   refine q_sq ?_
   refine q_vn [] 9 ⟨[(12, vc (.emp)), (13, vi 0), (14, vi v10.2.2)], []⟩ ?_
   refine q_fn [.own 12 9 64 2 (rf e_Node ([] : List Node))] ⟨[(12, vo 9 0 2 0), (13, vi 0), (14, vi v10.2.2)], [(9, ro 0 64 2 0 (rf e_Node ([] : List Node)))]⟩ o0 ?_
   refine q_fn [.len 9 (([] : List Node).length)] ⟨[(12, vo 9 0 2 (([] : List Node).length)), (13, vi 0), (14, vi v10.2.2)], [(9, ro 0 64 2 (([] : List Node).length) (rf e_Node ([] : List Node)))]⟩ (o1 (And.intro (show 0 = ([] : List Node).length from rfl) (show 0 = ([] : List Node).length from rfl))) ?_
   obtain rfl := Option.some.inj hm
   refine qV 9 0 (by kernel_rfl) ?_
   refine q_rt ?_
   exact q_rm
  ·replace hm := qB b12 hm
   refine q_sk ?_
   refine q_sq ?_
   obtain ⟨v13, h14, hm⟩ := qD hm
   refine q_vu [qc 8 [49, 56] 9 (SU a3 (w64 (a4.Y.B - a4.Y.A)) v13 h14)] 9 [2, 16, 46] [(19, vo 9 0 1 v13.1.length), (20, vo 10 0 1 v13.2.length)] [] [(9, ro 0 3 1 v13.1.length (rf e_i64 v13.1)), (10, ro 0 3 1 v13.2.length (rf e_i64 v13.2))] ?_
   refine q_sq ?_
   refine q_vu [] 11 [] [(21, vc (.emp))] [] [] ?_
   refine q_sq ?_
   refine q_vu [] 11 [] [(22, vc (.emp))] [] [] ?_
   refine q_sq ?_
   refine q_sq ?_
   refine q_vu [] 11 [17] [(60, vo 8 0 2 v10.1.length), (61, vi ((v10.1.length : Nat) : Int)), (62, vi 0)] [] [] ?_
   refine q_fn [.own 21 11 26 2 (rf e_Span ([] : List Span))] ⟨[(9, vp 0 0), (10, vp 1 0), (18, vi v10.2.1), (19, vo 9 0 1 v13.1.length), (20, vo 10 0 1 v13.2.length), (21, vo 11 0 2 0), (22, vc (.emp)), (60, vo 8 0 2 v10.1.length), (61, vi ((v10.1.length : Nat) : Int)), (62, vi 0)], [(0, bx 28 (qK a4)), (1, bx 30 (wA a5)), (8, ro 0 75 2 v10.1.length (rf jN v10.1)), (9, ro 0 3 1 v13.1.length (rf e_i64 v13.1)), (10, ro 0 3 1 v13.2.length (rf e_i64 v13.2)), (11, ro 0 26 2 0 (rf e_Span ([] : List Span)))]⟩ o0 ?_
   refine q_fn [.own 22 12 46 1 (rf (qM e_Node) ([] : List (List Node)))] ⟨[(9, vp 0 0), (10, vp 1 0), (18, vi v10.2.1), (19, vo 9 0 1 v13.1.length), (20, vo 10 0 1 v13.2.length), (21, vo 11 0 2 0), (22, vo 12 0 1 0), (60, vo 8 0 2 v10.1.length), (61, vi ((v10.1.length : Nat) : Int)), (62, vi 0)], [(0, bx 28 (qK a4)), (1, bx 30 (wA a5)), (8, ro 0 75 2 v10.1.length (rf jN v10.1)), (9, ro 0 3 1 v13.1.length (rf e_i64 v13.1)), (10, ro 0 3 1 v13.2.length (rf e_i64 v13.2)), (11, ro 0 26 2 0 (rf e_Span ([] : List Span))), (12, ro 0 46 1 0 (rf (qM e_Node) ([] : List (List Node))))]⟩ o0 ?_
   obtain ⟨o29, h30, hm⟩ := qD hm
   refine zM (nd Tryz.f24 8180) 0 (by kernel_rfl) FUEL (fun o => qBw a4 a5 v10 o.1 o.2) o29 (q_hl (LW a4 a5 v10 v13 ([] : List Span) 0 ([] : List (List Node)) 0 0) (qFV E a4 a5 v10 v13 FUEL ([] : List Span) 0 ([] : List (List Node)) 0 0 o29 rfl rfl h30)) ?_
   refine q_sq ?_
   obtain ⟨v31, h32, hm⟩ := qD hm
   refine q_vn [qd 5 (dex (cen [] [] 13 0 (DF v31) (JR v31) [93, 95, 96, 97] [11, 12])) (ZI (K := (kx E 106 0)) (b := false) ⟨[(93, va (qK a4)), (95, vi a5.Kerf), (96, vo 11 0 2 o29.1.length), (97, vo 12 0 1 o29.2.length)], [(11, ro 0 26 2 o29.1.length (rf e_Span o29.1)), (12, ro 0 46 1 o29.2.length (rf (qM e_Node) o29.2))]⟩ (opAt (rg Tryz.f24 2046) 5) [] [] 13 (o1 (And.intro (Nat.le_refl o29.1.length) (Nat.le_refl o29.2.length))) rfl (pattern_Row_ok a4 2 a5.Kerf o29.1 o29.2 v31 h32) (.inr ⟨(by kernel_rfl), qIP v31⟩) (by kernel_rfl))] 13 ⟨[(16, vi v31.2), (18, vi v10.2.1), (25, vo 13 0 2 v31.1.length)], [(13, ro 0 64 2 v31.1.length (rf e_Node v31.1))]⟩ ?_
   refine q_sq ?_
   refine q_sq ?_
   refine q_vu [] 14 [] [(102, vb (v31.2 != 0))] [] [] ?_
   refine q_cn (v31.2 != 0) (fun b33 => ?_) (fun b33 => ?_)
   ·replace hm := qC b33 hm
    refine q_sq ?_
    refine q_vn [] 14 ⟨[(12, vc (.emp)), (13, vi 0), (14, vi v31.2)], []⟩ ?_
    refine q_fn [.own 12 14 64 2 (rf e_Node ([] : List Node))] ⟨[(12, vo 14 0 2 0), (13, vi 0), (14, vi v31.2)], [(14, ro 0 64 2 0 (rf e_Node ([] : List Node)))]⟩ o0 ?_
    refine q_fn [.len 14 (([] : List Node).length)] ⟨[(12, vo 14 0 2 (([] : List Node).length)), (13, vi 0), (14, vi v31.2)], [(14, ro 0 64 2 (([] : List Node).length) (rf e_Node ([] : List Node)))]⟩ (o1 (And.intro (show 0 = ([] : List Node).length from rfl) (show 0 = ([] : List Node).length from rfl))) ?_
    obtain rfl := Option.some.inj hm
    refine qV 14 0 (by kernel_rfl) ?_
    refine q_rt ?_
    exact q_rm
   ·replace hm := qB b33 hm
    refine q_sk ?_
    refine q_sq ?_
    refine q_vu [] 14 [16, 18, 25, 102] [(12, vo 13 0 2 v31.1.length), (13, vi v10.2.1), (14, vi 0)] [] [] ?_
    obtain rfl := Option.some.inj hm
    refine qV 13 0 (by kernel_rfl) ?_
    refine q_rt ?_
    exact q_rm
set_option maxRecDepth 100000
def qJu (r : Rect) : V := va (qK r)
def qJM (r : Rect) : List (Nat × (Nat × O)) := []
theorem qCi (a1 : Rect) (a2 : Int) (a3 : Int) (r : Rect) (hm : UF a1 a2 a3 = some r) : CtX Tryz.prog globs 21 0 0 [.agg (qK a1), .one (ci a2), .one (ci a3)] [] (qJu r) (qJM r) := by
 unfold UF at hm
 refine q_E Tryz.f21 21 fun E => ?_
 refine q_sq ?_
 refine q_vn [] 0 ⟨[(1, vi a2), (2, vi a3), (3, vp 0 0), (6, vp 1 0)], [(0, bx 28 (qK a1)), (1, bx 28 [ci 0, ci 0, ci 0, ci 0])]⟩ ?_
 refine q_sq ?_
 refine q_vn [] 2 ⟨[(6, vp 1 0)], [(1, bx 28 [ci (w64 (a1.X.A + a2)), ci (w64 (a1.X.A + a3)), ci a1.Y.A, ci a1.Y.B])]⟩ ?_
 obtain rfl := Option.some.inj hm
 refine q_rt ?_
 exact q_rm
open Go.Proofs
set_option maxHeartbeats 4000000
set_option maxRecDepth 100000
def qJN (r : Span) : V := va (e_Span r)
def qKq (r : Span) : List (Nat × (Nat × O)) := []
theorem ST (a1 : Span) (a2 : Span) (r : Span) (hm : KV a1 a2 = some r) : CtX Tryz.prog globs 131 0 0 [.agg (e_Span a1), .agg (e_Span a2)] [] (qJN r) (qKq r) := by
 unfold KV at hm
 refine q_E Tryz.f131 24 fun E => ?_
 refine q_sq ?_
 refine q_vn [] 0 ⟨[(2, vp 0 0), (3, vp 1 0), (4, vp 2 0)], [(0, bx 26 (e_Span a1)), (1, bx 26 (e_Span a2)), (2, bx 26 [ci 0, ci 0])]⟩ ?_
 refine q_sq ?_
 refine q_vu [] 3 [2, 3] [(5, vp 3 0)] [0, 1] [(3, bx 26 [ci (imax a1.A a2.A), ci (imin a1.B a2.B)])] ?_
 refine q_sq ?_
 refine q_sq ?_
 refine q_vu [] 4 [] [(21, vb (decide ((imax a1.A a2.A) ≥ (imin a1.B a2.B))))] [] [] ?_
 refine q_cn (decide ((imax a1.A a2.A) ≥ (imin a1.B a2.B))) (fun b3 => ?_) (fun b3 => ?_)
 ·replace hm := qC b3 hm
  refine q_sq ?_
  refine q_vu [] 4 [5, 21] [] [3] [] ?_
  obtain rfl := Option.some.inj hm
  refine q_rt ?_
  exact q_rm
 ·replace hm := qB b3 hm
  refine q_sk ?_
  refine q_sq ?_
  refine q_vn [] 4 ⟨[(4, vp 2 0)], [(2, bx 26 [ci (imax a1.A a2.A), ci (imin a1.B a2.B)])]⟩ ?_
  obtain rfl := Option.some.inj hm
  refine q_rt ?_
  exact q_rm
def qJC (r : Box) : V := va (zA r)
def qJ9 (r : Box) : List (Nat × (Nat × O)) := []
theorem qH5 (a1 : Box) (a2 : Box) (r : Box) (hm : IE a1 a2 = some r) : CtX Tryz.prog globs 125 0 0 [.agg (zA a1), .agg (zA a2)] [] (qJC r) (qJ9 r) := by
 unfold IE at hm
 refine q_E Tryz.f125 21 fun E => ?_
 refine q_sq ?_
 refine q_vn [] 0 ⟨[(2, vp 0 0), (3, vp 1 0), (4, vp 2 0)], [(0, bx 108 (zA a1)), (1, bx 108 (zA a2)), (2, bx 108 [ci 0, ci 0, ci 0, ci 0, ci 0, ci 0])]⟩ ?_
 refine q_sq ?_
 obtain ⟨v3, h4, hm⟩ := qD hm
 obtain ⟨v5, h6, hm⟩ := qD hm
 obtain ⟨v7, h8, hm⟩ := qD hm
 refine q_dn [qc 4 [6, 8] 3 (ST a1.X a2.X v3 h4), qc 9 [11, 13] 3 (ST a1.Y a2.Y v5 h6), qc 14 [16, 18] 3 (ST a1.Z a2.Z v7 h8)] [0, 1, 0, 4, 15, 0, 32, 0, 128, 511, 0, 1024, 0, 4096, 16383, 32767, 65535] 3 ⟨[(4, vp 2 0)], [(2, bx 108 [ci v3.A, ci v3.B, ci v5.A, ci v5.B, ci v7.A, ci v7.B])]⟩ ?_
 obtain rfl := Option.some.inj hm
 refine q_rt ?_
 exact q_rm
set_option maxRecDepth 100000
def qH7 (r : Bool) : V := vb r
def qIT (r : Bool) : List (Nat × (Nat × O)) := []
def OC (x4 : Bool) : St :=
 ⟨[(2, vb x4)], []⟩
theorem qBA (a1 : Box) (r : Bool) (hm : PP a1 = some r) : CtX Tryz.prog globs 62 0 0 [.agg (zA a1)] [] (qH7 r) (qIT r) := by
 unfold PP at hm
 refine q_E Tryz.f62 28 fun E => ?_
 refine q_sq ?_
 refine q_vn [] 0 ⟨[(1, vp 0 0)], [(0, bx 108 (zA a1))]⟩ ?_
 refine q_jn (ι := Bool) (fun p => OC p) (fun p => XB p = some r) ?_ ?_
 ·rintro x4 hm
  show H _ (OC x4) _ _
  obtain rfl := Option.some.inj hm
  refine q_rt ?_
  exact q_rm
 ·rcases Bool.eq_false_or_eq_true (decide (a1.X.A ≥ a1.X.B)) with b2 | b2
  ·replace hm := qC b2 hm
   refine q_vn [qf 7 b2] 1 ⟨[(2, vb true)], []⟩ ?_
   exact q_J (true) hm
  ·replace hm := qB b2 hm
   rcases Bool.eq_false_or_eq_true (decide (a1.Y.A ≥ a1.Y.B)) with b3 | b3
   ·replace hm := qC b3 hm
    refine q_vn [qf 7 b2, qf 16 b3] 1 ⟨[(2, vb true)], []⟩ ?_
    exact q_J (true) hm
   ·replace hm := qB b3 hm
    refine q_vn [qf 7 b2, qf 16 b3] 1 ⟨[(2, vb (decide (a1.Z.A ≥ a1.Z.B)))], []⟩ ?_
    exact q_J (decide (a1.Z.A ≥ a1.Z.B)) hm
open Go.Proofs
set_option maxHeartbeats 4000000
set_option maxRecDepth 100000
def qF4 (r : Bool) : V := vb r
def qFR (r : Bool) : List (Nat × (Nat × O)) := []
theorem CO (a1 : Defect) (a2 : Box) (r : Bool) (hm : JQ a1 a2 = some r) : CtX Tryz.prog globs 100 0 0 [.agg (qG a1), .agg (zA a2)] [] (qF4 r) (qFR r) := by
 unfold JQ at hm
 refine q_E Tryz.f100 11 fun E => ?_
 refine q_sq ?_
 refine q_vn [] 0 ⟨[(2, vp 0 0), (3, vp 1 0)], [(0, bx 110 (qG a1)), (1, bx 108 (zA a2))]⟩ ?_
 refine q_sq ?_
 obtain ⟨v3, h4, hm⟩ := qD hm
 obtain ⟨v5, h6, hm⟩ := qD hm
 refine q_vn [qc 3 [6, 7] 2 (qH5 a1.Box a2 v3 h4), qc 4 [8] 2 (qBA v3 v5 h6)] 2 ⟨[(4, vb (!v5))], []⟩ ?_
 obtain rfl := Option.some.inj hm
 refine q_rt ?_
 exact q_rm
def qGT (r : Bool) : V := vb r
def qG2 (r : Bool) : List (Nat × (Nat × O)) := []
def EK (x4 : Bool) : St :=
 ⟨[(2, vb x4)], []⟩
theorem jA (a1 : Span) (r : Bool) (hm : XJ a1 = some r) : CtX Tryz.prog globs 124 0 0 [.agg (e_Span a1)] [] (qGT r) (qG2 r) := by
 unfold XJ at hm
 refine q_E Tryz.f124 18 fun E => ?_
 refine q_sq ?_
 refine q_vn [] 0 ⟨[(1, vp 0 0)], [(0, bx 26 (e_Span a1))]⟩ ?_
 refine q_jn (ι := Bool) (fun p => EK p) (fun p => YD p = some r) ?_ ?_
 ·rintro x4 hm
  show H _ (EK x4) _ _
  obtain rfl := Option.some.inj hm
  refine q_rt ?_
  exact q_rm
 ·rcases Bool.eq_false_or_eq_true (decide (a1.A ≥ (-600))) with b2 | b2
  ·replace hm := qC b2 hm
   rcases Bool.eq_false_or_eq_true (decide (a1.A < a1.B)) with b3 | b3
   ·replace hm := qC b3 hm
    refine q_vn [qf 3 b2, qf 10 b3] 1 ⟨[(2, vb (decide (a1.B ≤ 600)))], []⟩ ?_
    exact q_J (decide (a1.B ≤ 600)) hm
   ·replace hm := qB b3 hm
    refine q_vn [qf 3 b2, qf 10 b3] 1 ⟨[(2, vb false)], []⟩ ?_
    exact q_J (false) hm
  ·replace hm := qB b2 hm
   refine q_vn [qf 3 b2] 1 ⟨[(2, vb false)], []⟩ ?_
   exact q_J (false) hm
set_option maxRecDepth 100000
def qHg (r : Bool) : V := vb r
def qGs (r : Bool) : List (Nat × (Nat × O)) := []
def AP (x13 : Bool) : St :=
 ⟨[(4, vb x13)], []⟩
theorem qEZ (a1 : List Slice) (a2 : Box) (r : Bool) (hm : TZ a1 a2 = some r) : CtX Tryz.prog globs 98 0 0 [.one (tl qF default a1), .agg (zA a2)] [] (qHg r) (qGs r) := by
 unfold TZ at hm
 refine q_E Tryz.f98 36 fun E => ?_
 refine q_sq ?_
 refine q_vn [] 0 ⟨[(0, vc (tl qF default a1)), (3, vp 0 0)], [(0, bx 108 (zA a2))]⟩ ?_
 refine q_jn (ι := Bool) (fun p => AP p) (fun p => QF p = some r) ?_ ?_
 ·rintro x13 hm
  show H _ (AP x13) _ _
  obtain rfl := Option.some.inj hm
  refine q_rt ?_
  exact q_rm
 ·obtain ⟨v3, h4, hm⟩ := qD hm
  rcases Bool.eq_false_or_eq_true v3 with b5 | b5
  ·replace hm := qC b5 hm
   obtain ⟨v6, h7, hm⟩ := qD hm
   rcases Bool.eq_false_or_eq_true v6 with b8 | b8
   ·replace hm := qC b8 hm
    rcases Bool.eq_false_or_eq_true (decide (a2.Z.A ≥ 0)) with b9 | b9
    ·replace hm := qC b9 hm
     rcases Bool.eq_false_or_eq_true (decide (a2.Z.A < a2.Z.B)) with b10 | b10
     ·replace hm := qC b10 hm
      obtain ⟨v11, h12, hm⟩ := qD hm
      refine q_dn [qc 2 [6] 1 (jA a2.X v3 h4), qf 3 b5, qk 6 [8, 10] 1 ⟨[(8, vb true), (10, va (e_Span a2.Y))], []⟩ (jA a2.Y v6 h7), qf 8 b8, qf 14 b9, qf 23 b10, qk 28 [28, 32] 1 ⟨[(28, vb true), (32, vc (tl qF default a1))], []⟩ (YM a1 v11 h12)] [0, 1, 3, 7, 15, 31, 63, 127, 255, 511, 1023, 2047, 4095, 8191, 16383, 32767, 65535, 131071, 32767, 294911, 819199, 2097151, 4194303, 8388607, 16777215, 33554431, 67108863, 16777215, 150994943, 536870911, 1073741823, 2147483647] 1 ⟨[(4, vb (decide (a2.Z.B ≤ v11)))], []⟩ ?_
      exact q_J (decide (a2.Z.B ≤ v11)) hm
     ·replace hm := qB b10 hm
      refine q_dn [qc 2 [6] 1 (jA a2.X v3 h4), qf 3 b5, qk 6 [8, 10] 1 ⟨[(8, vb true), (10, va (e_Span a2.Y))], []⟩ (jA a2.Y v6 h7), qf 8 b8, qf 14 b9, qf 23 b10] [0, 1, 3, 7, 15, 31, 63, 127, 255, 511, 1023, 2047, 4095, 8191, 16383, 32767, 65535, 131071, 32767, 294911, 819199, 2097151, 4194303, 8388607, 16777215, 33554431, 67108863, 16777215, 150994943, 536870911, 1073741823, 2147483647] 1 ⟨[(4, vb false)], []⟩ ?_
      exact q_J (false) hm
    ·replace hm := qB b9 hm
     refine q_dn [qc 2 [6] 1 (jA a2.X v3 h4), qf 3 b5, qk 6 [8, 10] 1 ⟨[(8, vb true), (10, va (e_Span a2.Y))], []⟩ (jA a2.Y v6 h7), qf 8 b8, qf 14 b9] [0, 1, 3, 7, 15, 31, 63, 127, 255, 511, 1023, 2047, 4095, 8191, 16383, 32767, 65535, 131071, 32767, 294911, 819199, 2097151, 4194303, 8388607, 16777215, 33554431, 67108863, 16777215, 150994943, 536870911, 1073741823, 2147483647] 1 ⟨[(4, vb false)], []⟩ ?_
     exact q_J (false) hm
   ·replace hm := qB b8 hm
    refine q_dn [qc 2 [6] 1 (jA a2.X v3 h4), qf 3 b5, qk 6 [8, 10] 1 ⟨[(8, vb true), (10, va (e_Span a2.Y))], []⟩ (jA a2.Y v6 h7), qf 8 b8] [0, 1, 3, 7, 15, 31, 63, 127, 255, 511, 1023, 2047, 4095, 8191, 16383, 32767, 65535, 131071, 32767, 294911, 819199, 2097151, 4194303, 8388607, 16777215, 33554431, 67108863, 16777215, 150994943, 536870911, 1073741823, 2147483647] 1 ⟨[(4, vb false)], []⟩ ?_
    exact q_J (false) hm
  ·replace hm := qB b5 hm
   refine q_dn [qc 2 [6] 1 (jA a2.X v3 h4), qf 3 b5] [0, 1, 3, 7, 15, 31, 63, 127, 255, 511, 1023, 2047, 4095, 8191, 16383, 32767, 65535, 131071, 32767, 294911, 819199, 2097151, 4194303, 8388607, 16777215, 33554431, 67108863, 16777215, 150994943, 536870911, 1073741823, 2147483647] 1 ⟨[(4, vb false)], []⟩ ?_
   exact q_J (false) hm
open Go.Proofs
set_option maxHeartbeats 4000000
set_option maxRecDepth 100000
def qIH (r : Bool) : V := vb r
def qIr (r : Bool) : List (Nat × (Nat × O)) := []
def OD (x5 : Bool) : St :=
 ⟨[(2, vb x5)], []⟩
theorem LZ (a1 : qA) (r : Bool) (hm : HA a1 = some r) : CtX Tryz.prog globs 67 0 0 [.agg (qE a1)] [] (qIH r) (qIr r) := by
 unfold HA at hm
 refine q_E Tryz.f67 21 fun E => ?_
 refine q_sq ?_
 refine q_vn [] 0 ⟨[(1, vp 0 0)], [(0, bx 58 (qE a1))]⟩ ?_
 refine q_jn (ι := Bool) (fun p => OD p) (fun p => JG p = some r) ?_ ?_
 ·rintro x5 hm
  show H _ (OD x5) _ _
  obtain rfl := Option.some.inj hm
  refine q_rt ?_
  exact q_rm
 ·rcases Bool.eq_false_or_eq_true (decide (a1.Thick ≥ 1)) with b2 | b2
  ·replace hm := qC b2 hm
   rcases Bool.eq_false_or_eq_true (decide (a1.Thick ≤ 600)) with b3 | b3
   ·replace hm := qC b3 hm
    rcases Bool.eq_false_or_eq_true (decide (a1.Width ≥ 1)) with b4 | b4
    ·replace hm := qC b4 hm
     refine q_vn [qf 3 b2, qf 8 b3, qf 13 b4] 1 ⟨[(2, vb (decide (a1.Width ≤ 600)))], []⟩ ?_
     exact q_J (decide (a1.Width ≤ 600)) hm
    ·replace hm := qB b4 hm
     refine q_vn [qf 3 b2, qf 8 b3, qf 13 b4] 1 ⟨[(2, vb false)], []⟩ ?_
     exact q_J (false) hm
   ·replace hm := qB b3 hm
    refine q_vn [qf 3 b2, qf 8 b3] 1 ⟨[(2, vb false)], []⟩ ?_
    exact q_J (false) hm
  ·replace hm := qB b2 hm
   refine q_vn [qf 3 b2] 1 ⟨[(2, vb false)], []⟩ ?_
   exact q_J (false) hm
def qIw (r : Int × Int) : V := .tup [.one (ci r.1), .one (ci r.2)]
def qIG (r : Int × Int) : List (Nat × (Nat × O)) := []
def OX (a1 : qA) (x6 : Bool) : St :=
 ⟨[(1, vp 0 0), (16, vb x6)], [(0, bx 58 (qE a1))]⟩
theorem MN (a1 : qA) (r : Int × Int) (hm : YW a1 = some r) : CtX Tryz.prog globs 40 0 0 [.agg (qE a1)] [] (qIw r) (qIG r) := by
 unfold YW at hm
 refine q_E Tryz.f40 33 fun E => ?_
 refine q_sq ?_
 refine q_vn [] 0 ⟨[(1, vp 0 0)], [(0, bx 58 (qE a1))]⟩ ?_
 refine q_sq ?_
 refine q_jn (ι := Bool) (fun p => OX a1 p) (fun p => XL a1 p = some r) ?_ ?_
 ·rintro x6 hm
  show H _ (OX a1 x6) _ _
  refine q_cn x6 (fun b7 => ?_) (fun b7 => ?_)
  ·replace hm := qC b7 hm
   refine q_sq ?_
   refine q_vn [] 1 ⟨[(2, vi 0), (3, vi 0)], []⟩ ?_
   obtain rfl := Option.some.inj hm
   refine q_rt ?_
   exact q_rm
  ·replace hm := qB b7 hm
   refine q_sk ?_
   refine q_sq ?_
   refine q_dn [qd 7 (Dir.none) (show (1000 : Int) ≠ 0 by decide), qd 15 (Dir.none) (show (1000 : Int) ≠ 0 by decide)] [0, 1, 0, 4, 12, 31, 63, 127, 0, 256, 0, 1024, 3072, 7936, 16128, 32512, 255, 131071] 1 ⟨[(2, vi (w64 (Int.tdiv (w64 ((w64 (a1.Thick * (w64 (1000 + a1.Allow)))) + 999)) 1000))), (3, vi (w64 (Int.tdiv (w64 ((w64 (a1.Width * (w64 (1000 + a1.Allow)))) + 999)) 1000)))], []⟩ ?_
   obtain rfl := Option.some.inj hm
   refine q_rt ?_
   exact q_rm
 ·obtain ⟨v2, h3, hm⟩ := qD hm
  rcases Bool.eq_false_or_eq_true (!v2) with b4 | b4
  ·replace hm := qC b4 hm
   refine q_vu [qc 1 [4] 1 (LZ a1 v2 h3), qf 3 b4] 1 [] [(16, vb true)] [] [] ?_
   exact q_J (true) hm
  ·replace hm := qB b4 hm
   rcases Bool.eq_false_or_eq_true (decide (a1.Allow < 0)) with b5 | b5
   ·replace hm := qC b5 hm
    refine q_vu [qc 1 [4] 1 (LZ a1 v2 h3), qf 3 b4, qf 8 b5] 1 [] [(16, vb true)] [] [] ?_
    exact q_J (true) hm
   ·replace hm := qB b5 hm
    refine q_vu [qc 1 [4] 1 (LZ a1 v2 h3), qf 3 b4, qf 8 b5] 1 [] [(16, vb (decide (a1.Allow > 200)))] [] [] ?_
    exact q_J (decide (a1.Allow > 200)) hm
end Saw
end Go.SL
