import Derived.Test.YtgpgnlllieekbaaDoorEBase
import Derived.Test.YtgpgnlllieekbaaDoorEFa6
import Derived.Test.YtgpgnlllieekbaaDoorEFa1
import Derived.Test.YtgpgnlllieekbaaDoorEFa5
import Derived.Test.YtgpgnlllieekbaaDoorEFa4
set_option linter.unusedVariables false
set_option linter.unusedSimpArgs false
namespace Go.SL
namespace Saw
open Go.Proofs
set_option maxHeartbeats 4000000

def pattern_Row_x (r : (List Node) × Int) : V := .tup [.one (.own 0 0 2 r.1.length), .one (ci r.2)]

def pattern_Row_o (r : (List Node) × Int) : List (Nat × (Nat × O)) := [(0, ro 0 80 2 r.1.length (rf e_Node r.1))]

theorem pattern_Row_f (r : (List Node) × Int) : Frozen (pattern_Row_o r) := by
 intro i k o h
 unfold pattern_Row_o at h
 rw [look_cons] at h
 split at h
 ·cases h; exact fun _ _ => rfl
 ·cases h

def pattern_Row_k6_S (a2 : Int) (a3 : Int) (a4 : List Span) (a5 : List (List Node)) (v17 : Span) (x21 : Int) (x40 : Int) (x41 : Bool) (l42 : List Node) (l42n : Nat) (x43 : Int) : St :=
 ⟨[(1, vi a2), (2, vi a3), (4, vc (tl (e_lst e_Node) default a5)), (12, vp 1 0), (13, vp 2 0), (14, vc (.fn 89 [.bptr 2 0 0, .bptr 1 0 0])), (15, vp 3 0), (16, vi x40), (17, vb x41), (18, vi x21), (45, vc (tl e_Span default a4)), (46, vi ((a4.length : Nat) : Int)), (47, vi x21)], [(1, bx 45 [.own 4 0 2 l42n]), (2, bx 3 [ci x43]), (3, bx 33 (e_Span v17)), (4, ro 0 80 2 l42n (rf e_Node l42))]⟩

def pattern_Row_k5_S (a2 : Int) (a3 : Int) (a4 : List Span) (a5 : List (List Node)) (v17 : Span) (x19 : Int) (x20 : Bool) (x21 : Int) (l35 : List Node) (l35n : Nat) (x36 : Int) : St :=
 ⟨[(1, vi a2), (2, vi a3), (4, vc (tl (e_lst e_Node) default a5)), (12, vp 1 0), (13, vp 2 0), (14, vc (.fn 89 [.bptr 2 0 0, .bptr 1 0 0])), (15, vp 3 0), (16, vi x19), (17, vb x20), (18, vi x21), (19, vp 5 0), (45, vc (tl e_Span default a4)), (46, vi ((a4.length : Nat) : Int)), (47, vi x21)], [(1, bx 45 [.own 4 0 2 l35n]), (2, bx 3 [ci x36]), (3, bx 33 (e_Span v17)), (4, ro 0 80 2 l35n (rf e_Node l35)), (5, bx 33 [ci ((a4.getD x21.toNat default).A), ci ((a4.getD x21.toNat default).B)])]⟩

def pattern_Row_k4_S (a2 : Int) (a3 : Int) (a4 : List Span) (a5 : List (List Node)) (v17 : Span) (x19 : Int) (x20 : Bool) (x21 : Int) (l22 : List Node) (x23 : Int) (x29 : Bool) : St :=
 ⟨[(1, vi a2), (2, vi a3), (4, vc (tl (e_lst e_Node) default a5)), (12, vp 1 0), (13, vp 2 0), (14, vc (.fn 89 [.bptr 2 0 0, .bptr 1 0 0])), (15, vp 3 0), (16, vi x19), (17, vb x20), (18, vi x21), (19, vp 5 0), (45, vc (tl e_Span default a4)), (46, vi ((a4.length : Nat) : Int)), (47, vi x21), (58, vb x29)], [(1, bx 45 [.own 4 0 2 l22.length]), (2, bx 3 [ci x23]), (3, bx 33 (e_Span v17)), (4, ro 0 80 2 l22.length (rf e_Node l22)), (5, bx 33 [ci ((a4.getD x21.toNat default).A), ci ((a4.getD x21.toNat default).B)])]⟩

def pattern_Row_L3_S (a2 : Int) (a3 : Int) (a4 : List Span) (a5 : List (List Node)) (v17 : Span) (x19 : Int) (x20 : Bool) (x21 : Int) (l22 : List Node) (l22n : Nat) (x23 : Int) : St :=
 ⟨[(1, vi a2), (2, vi a3), (4, vc (tl (e_lst e_Node) default a5)), (12, vp 1 0), (13, vp 2 0), (14, vc (.fn 89 [.bptr 2 0 0, .bptr 1 0 0])), (15, vp 3 0), (16, vi x19), (17, vb x20), (45, vc (tl e_Span default a4)), (46, vi ((a4.length : Nat) : Int)), (47, vi x21)], [(1, bx 45 [.own 4 0 2 l22n]), (2, bx 3 [ci x23]), (3, bx 33 (e_Span v17)), (4, ro 0 80 2 l22n (rf e_Node l22))]⟩

def pattern_Row_L3_T (x47 : Bool) (l48 : List Node) (x49 : Int) : St :=
 ⟨[(12, vp 1 0), (13, vp 2 0), (14, vc (.fn 89 [.bptr 2 0 0, .bptr 1 0 0])), (17, vb x47)], [(1, bx 45 [.own 4 0 2 l48.length]), (2, bx 3 [ci x49]), (4, ro 0 80 2 l48.length (rf e_Node l48))]⟩

def pattern_Row_k7_S (x57 : Int) (l58 : List Node) (l58n : Nat) : St :=
 ⟨[(12, vp 1 0), (13, vp 2 0)], [(1, bx 45 [.own 4 0 2 l58n]), (2, bx 3 [ci x57]), (4, ro 0 80 2 l58n (rf e_Node l58))]⟩

def pattern_Row_k2_S (a1 : Rect) (a2 : Int) (a3 : Int) (a4 : List Span) (a5 : List (List Node)) (x15 : Bool) : St :=
 ⟨[(1, vi a2), (2, vi a3), (3, vc (tl e_Span default a4)), (4, vc (tl (e_lst e_Node) default a5)), (5, vp 0 0), (38, vb x15)], [(0, bx 35 (e_Rect a1))]⟩

def pattern_Row_k1_S (a1 : Rect) (a2 : Int) (a3 : Int) (a4 : List Span) (a5 : List (List Node)) (x12 : Bool) : St :=
 ⟨[(1, vi a2), (2, vi a3), (3, vc (tl e_Span default a4)), (4, vc (tl (e_lst e_Node) default a5)), (5, vp 0 0), (32, vb x12)], [(0, bx 35 (e_Rect a1))]⟩

set_option maxRecDepth 100000 in
theorem pattern_Row_L3_ok (E : Env 0) (a2 : Int) (a3 : Int) (a4 : List Span) (a5 : List (List Node)) (v17 : Span) : ∀ (n : Nat) (x19 : Int) (x20 : Bool) (x21 : Int) (l22 : List Node) (l22n : Nat) (x23 : Int) (res : ((List Node) × Int) ⊕ (Bool × (List Node) × Int)), l22.length = l22n → pattern_Row_L3 a2 a3 a4 a5 v17 n x19 x20 x21 l22 x23 = some res → HL (kx E 130 0) (nd Tryd.f58 16372) (loopQ 0 (fun o => pattern_Row_L3_T o.1 o.2.1 o.2.2) (fun v st => RetQ Tryd.prog Tryd.f58 (pattern_Row_x v) (pattern_Row_o v) .ret st) res) n (pattern_Row_L3_S a2 a3 a4 a5 v17 x19 x20 x21 l22 l22n x23) := by
 intro n
 induction n with
 | zero =>
  intro x19 x20 x21 l22 l22n x23 res hl0 hm
  cases hm
 | succ n ih =>
  intro x19 x20 x21 l22 l22n x23 res hl0 hm
  subst hl0
  refine HL_succ ?_
  refine q_sq ?_
  refine q_vu [] 5 [] [(48, vb (decide (x21 < ((a4.length : Nat) : Int))))] [] [] ?_
  refine q_sq ?_
  refine q_cn (decide (x21 < ((a4.length : Nat) : Int))) (fun b24 => ?_) (fun b24 => ?_)
  ·replace hm := bif_t b24 hm
   refine q_sk ?_
   refine q_sq ?_
   refine q_bk 1 ?_
   refine q_sq ?_
   obtain ⟨g25, hm⟩ := bif_n hm
   refine q_vu [qd 1 (Dir.none) (inb_of g25)] 5 [48] [(18, vi x21), (19, vp 5 0)] [] [(5, bx 33 [ci ((a4.getD x21.toNat default).A), ci ((a4.getD x21.toNat default).B)])] ?_
   refine q_sq ?_
   refine q_bk 2 ?_
   refine q_sq ?_
   refine q_vu [] 6 [] [(52, vb (decide (((a4.getD x21.toNat default).A) ≥ ((a4.getD x21.toNat default).B))))] [] [] ?_
   refine q_cn (decide (((a4.getD x21.toNat default).A) ≥ ((a4.getD x21.toNat default).B))) (fun b26 => ?_) (fun b26 => ?_)
   ·replace hm := bif_t b26 hm
    refine q_sq ?_
    refine q_vn [] 6 ⟨[(10, vc (.emp)), (11, vi 19)], []⟩ ?_
    refine q_fn [.own 10 6 80 2 (rf e_Node ([] : List Node))] ⟨[(10, vo 6 0 2 0), (11, vi 19)], [(6, ro 0 80 2 0 (rf e_Node ([] : List Node)))]⟩ o0 ?_
    refine q_fn [.len 6 (([] : List Node).length)] ⟨[(10, vo 6 0 2 (([] : List Node).length)), (11, vi 19)], [(6, ro 0 80 2 (([] : List Node).length) (rf e_Node ([] : List Node)))]⟩ (o1 (And.intro (show 0 = ([] : List Node).length from rfl) (show 0 = ([] : List Node).length from rfl))) ?_
    obtain rfl := Option.some.inj hm
    refine H_swap 6 0 (by kernel_rfl) ?_
    refine q_rt ?_
    refine L1_ret (([] : List Node), 19) ?_
    exact q_rm
   ·replace hm := bif_f b26 hm
    refine q_jn (ι := Bool) (fun p => pattern_Row_k4_S a2 a3 a4 a5 v17 x19 x20 x21 l22 x23 p) (fun p => pattern_Row_k4 a2 a3 a4 a5 v17 x19 x20 x21 l22 x23 (pattern_Row_L3 a2 a3 a4 a5 v17 n) p = some res) ?_ ?_
    ·rintro x29 hm
     show H _ (pattern_Row_k4_S a2 a3 a4 a5 v17 x19 x20 x21 l22 x23 x29) _ _
     refine q_cn x29 (fun b30 => ?_) (fun b30 => ?_)
     ·replace hm := bif_t b30 hm
      refine q_sq ?_
      refine q_vn [] 6 ⟨[(10, vc (.emp)), (11, vi 11)], []⟩ ?_
      refine q_fn [.own 10 6 80 2 (rf e_Node ([] : List Node))] ⟨[(10, vo 6 0 2 0), (11, vi 11)], [(6, ro 0 80 2 0 (rf e_Node ([] : List Node)))]⟩ o0 ?_
      refine q_fn [.len 6 (([] : List Node).length)] ⟨[(10, vo 6 0 2 (([] : List Node).length)), (11, vi 11)], [(6, ro 0 80 2 (([] : List Node).length) (rf e_Node ([] : List Node)))]⟩ (o1 (And.intro (show 0 = ([] : List Node).length from rfl) (show 0 = ([] : List Node).length from rfl))) ?_
      obtain rfl := Option.some.inj hm
      refine H_swap 6 0 (by kernel_rfl) ?_
      refine q_rt ?_
      refine L1_ret (([] : List Node), 11) ?_
      exact q_rm
     ·replace hm := bif_f b30 hm
      refine q_sq ?_
      refine q_vu [] 6 [58] [(75, vb (decide (((a4.getD x21.toNat default).B) > v17.B)))] [] [] ?_
      refine q_cn (decide (((a4.getD x21.toNat default).B) > v17.B)) (fun b31 => ?_) (fun b31 => ?_)
      ·replace hm := bif_t b31 hm
       refine q_sq ?_
       refine q_vn [] 6 ⟨[(10, vc (.emp)), (11, vi 20)], []⟩ ?_
       refine q_fn [.own 10 6 80 2 (rf e_Node ([] : List Node))] ⟨[(10, vo 6 0 2 0), (11, vi 20)], [(6, ro 0 80 2 0 (rf e_Node ([] : List Node)))]⟩ o0 ?_
       refine q_fn [.len 6 (([] : List Node).length)] ⟨[(10, vo 6 0 2 (([] : List Node).length)), (11, vi 20)], [(6, ro 0 80 2 (([] : List Node).length) (rf e_Node ([] : List Node)))]⟩ (o1 (And.intro (show 0 = ([] : List Node).length from rfl) (show 0 = ([] : List Node).length from rfl))) ?_
       obtain rfl := Option.some.inj hm
       refine H_swap 6 0 (by kernel_rfl) ?_
       refine q_rt ?_
       refine L1_ret (([] : List Node), 20) ?_
       exact q_rm
      ·replace hm := bif_f b31 hm
       refine q_sk ?_
       refine q_jn (ι := (List Node) × Nat × Int) (fun p => pattern_Row_k5_S a2 a3 a4 a5 v17 x19 x20 x21 p.1 p.2.1 p.2.2) (fun p => p.1.length = p.2.1 ∧ pattern_Row_k5 a2 a3 a4 a5 v17 x19 x20 x21 (pattern_Row_L3 a2 a3 a4 a5 v17 n) p.1 p.2.2 = some res) ?_ ?_
       ·rintro ⟨l35, l35n, x36⟩ ⟨el35, hm⟩
        replace el35 : l35.length = l35n := el35
        subst el35
        show H _ (pattern_Row_k5_S a2 a3 a4 a5 v17 x19 x20 x21 l35 l35.length x36) _ _
        refine q_jn (ι := Int × Bool × (List Node) × Nat × Int) (fun p => pattern_Row_k6_S a2 a3 a4 a5 v17 x21 p.1 p.2.1 p.2.2.1 p.2.2.2.1 p.2.2.2.2) (fun p => p.2.2.1.length = p.2.2.2.1 ∧ pattern_Row_k6 a5 x21 (pattern_Row_L3 a2 a3 a4 a5 v17 n) p.1 p.2.1 p.2.2.1 p.2.2.2.2 = some res) ?_ ?_
        ·rintro ⟨x40, x41, l42, l42n, x43⟩ ⟨el42, hm⟩
         replace el42 : l42.length = l42n := el42
         subst el42
         show H _ (pattern_Row_k6_S a2 a3 a4 a5 v17 x21 x40 x41 l42 l42.length x43) _ _
         obtain ⟨g44, hm⟩ := bif_n hm
         obtain ⟨v45, h46, hm⟩ := bind_s hm
         refine q_vu [qd 3 (Dir.none) (inb_of g44), qd 5 (dex (cen [(2, 0), (1, 0), (4, 0)] [0, 0, 1] 5 2 (pattern_Row_1_s1_x (a5.getD x21.toNat default) x43 l42 v45) (pattern_Row_1_s1_o (a5.getD x21.toNat default) x43 l42 v45) [114, 118] [2, 1, 4])) (callS (K := (kx E 130 0)) ⟨[(114, vc (.fn 89 [.bptr 2 0 0, .bptr 1 0 0])), (118, vc (tl e_Node default (a5.getD x21.toNat default)))], [(2, bx 3 [ci x43]), (1, bx 45 [.own 4 0 2 l42.length]), (4, ro 0 80 2 l42.length (rf e_Node l42))]⟩ (opAt (rg Tryd.f58 4191439) 5) [(2, 0), (1, 0), (4, 0)] [0, 0, 1] 5 o0 rfl (pattern_Row_1_s1_ok (a5.getD x21.toNat default) x43 l42 v45 h46) (.inl rfl) (by kernel_rfl))] 8 [18] [] [1, 2, 4] [(1, bx 45 [.own 4 1 2 v45.2.length]), (2, bx 3 [ci v45.1]), (4, ro 1 80 2 v45.2.length (rf e_Node v45.2))] ?_
         refine q_vu [] 8 [47] [(47, vi (w64 (x21 + 1)))] [] [] ?_
         exact q_hl (pattern_Row_L3_S a2 a3 a4 a5 v17 x40 x41 (w64 (x21 + 1)) v45.2 v45.2.length v45.1) (ih x40 x41 (w64 (x21 + 1)) v45.2 v45.2.length v45.1 _ rfl hm)
        ·refine q_sq ?_
         refine q_vu [] 7 [] [(99, vb (decide (((a4.getD x21.toNat default).B) < v17.B)))] [] [] ?_
         refine q_cn (decide (((a4.getD x21.toNat default).B) < v17.B)) (fun b37 => ?_) (fun b37 => ?_)
         ·replace hm := bif_t b37 hm
          refine q_sq ?_
          obtain ⟨v38, h39, hm⟩ := bind_s hm
          refine q_vu [qd 5 (drw 7 0 (rf e_Node ([(Node.mk a2 ((a4.getD x21.toNat default).B))] : List Node))) (litP e_Node default 2 (fun _ => rfl) ([(Node.mk a2 ((a4.getD x21.toNat default).B))] : List Node) 1 rfl), qd 6 (dex (cen [(2, 0), (1, 0), (4, 0)] [0, 0, 1] 5 2 (pattern_Row_1_s1_x ([(Node.mk a2 ((a4.getD x21.toNat default).B))] : List Node) x36 l35 v38) (pattern_Row_1_s1_o ([(Node.mk a2 ((a4.getD x21.toNat default).B))] : List Node) x36 l35 v38) [100, 105] [2, 1, 4, 7])) (callS (K := (kx E 130 0)) (xs' := [.one (.lst 1 (rf e_Node ([(Node.mk a2 ((a4.getD x21.toNat default).B))] : List Node))), .one (.bptr 0 0 0), .one (.bptr 1 0 0)]) (b := false) ⟨[(100, vc (.fn 89 [.bptr 2 0 0, .bptr 1 0 0])), (105, vo 7 0 2 1)], [(2, bx 3 [ci x36]), (1, bx 45 [.own 4 0 2 l35.length]), (4, ro 0 80 2 l35.length (rf e_Node l35)), (7, ro 0 80 2 1 (rf e_Node ([(Node.mk a2 ((a4.getD x21.toNat default).B))] : List Node)))]⟩ (opAt (rg Tryd.f58 33531508) 6) [(2, 0), (1, 0), (4, 0)] [0, 0, 1] 5 (o1 (Nat.le_refl 1)) (by simp only [tl, rf, show ([(Node.mk a2 ((a4.getD x21.toNat default).B))] : List Node).length = 1 from rfl]) (pattern_Row_1_s1_ok ([(Node.mk a2 ((a4.getD x21.toNat default).B))] : List Node) x36 l35 v38 h39) (.inr ⟨(by kernel_rfl), pattern_Row_1_s1_f  ([(Node.mk a2 ((a4.getD x21.toNat default).B))] : List Node) x36 l35 v38⟩) (by kernel_rfl))] 7 [16, 99] [] [1, 2, 4] [(1, bx 45 [.own 4 1 2 v38.2.length]), (2, bx 3 [ci v38.1]), (4, ro 1 80 2 v38.2.length (rf e_Node v38.2))] ?_
          refine q_vu [] 8 [19] [(16, vi (imin (w64 (((a4.getD x21.toNat default).B) + a3)) v17.B))] [5] [] ?_
          exact q_J (imin (w64 (((a4.getD x21.toNat default).B) + a3)) v17.B, x20, v38.2, v38.2.length, v38.1) ⟨rfl, hm⟩
         ·replace hm := bif_f b37 hm
          refine q_vu [] 7 [17, 19, 99] [(17, vb true)] [5] [] ?_
          exact q_J (x19, true, l35, l35.length, x36) ⟨rfl, hm⟩
       ·refine q_sq ?_
        refine q_vu [] 6 [75] [(84, vb (decide (((a4.getD x21.toNat default).A) > x19)))] [] [] ?_
        refine q_cn (decide (((a4.getD x21.toNat default).A) > x19)) (fun b32 => ?_) (fun b32 => ?_)
        ·replace hm := bif_t b32 hm
         obtain ⟨v33, h34, hm⟩ := bind_s hm
         refine q_vu [qd 8 (drw 6 0 (rf e_Node ([(Node.mk a2 (w64 (((a4.getD x21.toNat default).A) - a3))), (Node.mk 0 0)] : List Node))) (litP e_Node default 2 (fun _ => rfl) ([(Node.mk a2 (w64 (((a4.getD x21.toNat default).A) - a3))), (Node.mk 0 0)] : List Node) 2 rfl), qd 9 (dex (cen [(2, 0), (1, 0), (4, 0)] [0, 0, 1] 4 2 (pattern_Row_1_s1_x ([(Node.mk a2 (w64 (((a4.getD x21.toNat default).A) - a3))), (Node.mk 0 0)] : List Node) x23 l22 v33) (pattern_Row_1_s1_o ([(Node.mk a2 (w64 (((a4.getD x21.toNat default).A) - a3))), (Node.mk 0 0)] : List Node) x23 l22 v33) [85, 93] [2, 1, 4, 6])) (callS (K := (kx E 130 0)) (xs' := [.one (.lst 2 (rf e_Node ([(Node.mk a2 (w64 (((a4.getD x21.toNat default).A) - a3))), (Node.mk 0 0)] : List Node))), .one (.bptr 0 0 0), .one (.bptr 1 0 0)]) (b := false) ⟨[(85, vc (.fn 89 [.bptr 2 0 0, .bptr 1 0 0])), (93, vo 6 0 2 2)], [(2, bx 3 [ci x23]), (1, bx 45 [.own 4 0 2 l22.length]), (4, ro 0 80 2 l22.length (rf e_Node l22)), (6, ro 0 80 2 2 (rf e_Node ([(Node.mk a2 (w64 (((a4.getD x21.toNat default).A) - a3))), (Node.mk 0 0)] : List Node)))]⟩ (opAt (rg Tryd.f58 8382874) 9) [(2, 0), (1, 0), (4, 0)] [0, 0, 1] 4 (o1 (Nat.le_refl 2)) (by simp only [tl, rf, show ([(Node.mk a2 (w64 (((a4.getD x21.toNat default).A) - a3))), (Node.mk 0 0)] : List Node).length = 2 from rfl]) (pattern_Row_1_s1_ok ([(Node.mk a2 (w64 (((a4.getD x21.toNat default).A) - a3))), (Node.mk 0 0)] : List Node) x23 l22 v33 h34) (.inr ⟨(by kernel_rfl), pattern_Row_1_s1_f  ([(Node.mk a2 (w64 (((a4.getD x21.toNat default).A) - a3))), (Node.mk 0 0)] : List Node) x23 l22 v33⟩) (by kernel_rfl))] 6 [84] [] [1, 2, 4] [(1, bx 45 [.own 4 1 2 v33.2.length]), (2, bx 3 [ci v33.1]), (4, ro 1 80 2 v33.2.length (rf e_Node v33.2))] ?_
         exact q_J (v33.2, v33.2.length, v33.1) ⟨rfl, hm⟩
        ·replace hm := bif_f b32 hm
         refine q_sk ?_
         exact q_J (l22, l22.length, x23) ⟨rfl, hm⟩
    ·rcases Bool.eq_false_or_eq_true x20 with b27 | b27
     ·replace hm := bif_t b27 hm
      refine q_vu [qf 1 b27] 6 [52] [(58, vb true)] [] [] ?_
      exact q_J (true) hm
     ·replace hm := bif_f b27 hm
      rcases Bool.eq_false_or_eq_true (((a4.getD x21.toNat default).A) != x19) with b28 | b28
      ·replace hm := bif_t b28 hm
       refine q_vu [qf 1 b27, qf 6 b28] 6 [52] [(58, vb (decide (((a4.getD x21.toNat default).A) < (w64 ((w64 (x19 + a3)) + 1))))), (61, vp 5 0), (62, vi ((a4.getD x21.toNat default).A)), (63, vi x19), (64, vb (((a4.getD x21.toNat default).A) != x19)), (65, vb true), (66, vp 5 0), (67, vi ((a4.getD x21.toNat default).A)), (68, vi x19), (69, vi a3), (70, vi (w64 (x19 + a3))), (71, vi (w64 ((w64 (x19 + a3)) + 1))), (72, vb (decide (((a4.getD x21.toNat default).A) < (w64 ((w64 (x19 + a3)) + 1))))), (73, vb (decide (((a4.getD x21.toNat default).A) < (w64 ((w64 (x19 + a3)) + 1)))))] [] [] ?_
       exact q_J (decide (((a4.getD x21.toNat default).A) < (w64 ((w64 (x19 + a3)) + 1)))) hm
      ·replace hm := bif_f b28 hm
       refine q_vu [qf 1 b27, qf 6 b28] 6 [52] [(58, vb false), (61, vp 5 0), (62, vi ((a4.getD x21.toNat default).A)), (63, vi x19), (64, vb (((a4.getD x21.toNat default).A) != x19)), (65, vb false), (73, vb false)] [] [] ?_
       exact q_J (false) hm
  ·replace hm := bif_f b24 hm
   refine q_ex 0 ?_
   obtain rfl := Option.some.inj hm
   exact L1_mk (x20, l22, x23) (by kernel_rfl) (by kernel_rfl)

set_option maxRecDepth 100000 in
theorem pattern_Row_ok (a1 : Rect) (a2 : Int) (a3 : Int) (a4 : List Span) (a5 : List (List Node)) (r : (List Node) × Int) (hm : pattern_Row a1 a2 a3 a4 a5 = some r) : CtX Tryd.prog globs 58 0 0 [.agg (e_Rect a1), .one (ci a2), .one (ci a3), .one (tl e_Span default a4), .one (tl (e_lst e_Node) default a5)] [] (pattern_Row_x r) (pattern_Row_o r) := by
 unfold pattern_Row at hm
 refine q_E Tryd.f58 130 fun E => ?_
 refine q_sq ?_
 refine q_vn [] 0 ⟨[(1, vi a2), (2, vi a3), (3, vc (tl e_Span default a4)), (4, vc (tl (e_lst e_Node) default a5)), (5, vp 0 0)], [(0, bx 35 (e_Rect a1))]⟩ ?_
 refine q_sq ?_
 refine q_sq ?_
 obtain ⟨v6, h7, hm⟩ := bind_s hm
 refine q_vu [qc 1 [20] 1 (pattern_isRip_ok a2 v6 h7)] 1 [] [(22, vb (!v6))] [] [] ?_
 refine q_cn (!v6) (fun b8 => ?_) (fun b8 => ?_)
 ·replace hm := bif_t b8 hm
  refine q_sq ?_
  refine q_vn [] 1 ⟨[(10, vc (.emp)), (11, vi 10)], []⟩ ?_
  refine q_fn [.own 10 1 80 2 (rf e_Node ([] : List Node))] ⟨[(10, vo 1 0 2 0), (11, vi 10)], [(1, ro 0 80 2 0 (rf e_Node ([] : List Node)))]⟩ o0 ?_
  refine q_fn [.len 1 (([] : List Node).length)] ⟨[(10, vo 1 0 2 (([] : List Node).length)), (11, vi 10)], [(1, ro 0 80 2 (([] : List Node).length) (rf e_Node ([] : List Node)))]⟩ (o1 (And.intro (show 0 = ([] : List Node).length from rfl) (show 0 = ([] : List Node).length from rfl))) ?_
  obtain rfl := Option.some.inj hm
  refine H_swap 1 0 (by kernel_rfl) ?_
  refine q_rt ?_
  exact q_rm
 ·replace hm := bif_f b8 hm
  refine q_sk ?_
  refine q_sq ?_
  refine q_jn (ι := Bool) (fun p => pattern_Row_k1_S a1 a2 a3 a4 a5 p) (fun p => pattern_Row_k1 a1 a2 a3 a4 a5 p = some r) ?_ ?_
  ·rintro x12 hm
   show H _ (pattern_Row_k1_S a1 a2 a3 a4 a5 x12) _ _
   refine q_cn x12 (fun b13 => ?_) (fun b13 => ?_)
   ·replace hm := bif_t b13 hm
    refine q_sq ?_
    refine q_vn [] 1 ⟨[(10, vc (.emp)), (11, vi 19)], []⟩ ?_
    refine q_fn [.own 10 1 80 2 (rf e_Node ([] : List Node))] ⟨[(10, vo 1 0 2 0), (11, vi 19)], [(1, ro 0 80 2 0 (rf e_Node ([] : List Node)))]⟩ o0 ?_
    refine q_fn [.len 1 (([] : List Node).length)] ⟨[(10, vo 1 0 2 (([] : List Node).length)), (11, vi 19)], [(1, ro 0 80 2 (([] : List Node).length) (rf e_Node ([] : List Node)))]⟩ (o1 (And.intro (show 0 = ([] : List Node).length from rfl) (show 0 = ([] : List Node).length from rfl))) ?_
    obtain rfl := Option.some.inj hm
    refine H_swap 1 0 (by kernel_rfl) ?_
    refine q_rt ?_
    exact q_rm
   ·replace hm := bif_f b13 hm
    refine q_sk ?_
    refine q_sq ?_
    refine q_jn (ι := Bool) (fun p => pattern_Row_k2_S a1 a2 a3 a4 a5 p) (fun p => pattern_Row_k2 a1 a2 a3 a4 a5 p = some r) ?_ ?_
    ·rintro x15 hm
     show H _ (pattern_Row_k2_S a1 a2 a3 a4 a5 x15) _ _
     refine q_cn x15 (fun b16 => ?_) (fun b16 => ?_)
     ·replace hm := bif_t b16 hm
      refine q_sq ?_
      refine q_vn [] 1 ⟨[(10, vc (.emp)), (11, vi 9)], []⟩ ?_
      refine q_fn [.own 10 1 80 2 (rf e_Node ([] : List Node))] ⟨[(10, vo 1 0 2 0), (11, vi 9)], [(1, ro 0 80 2 0 (rf e_Node ([] : List Node)))]⟩ o0 ?_
      refine q_fn [.len 1 (([] : List Node).length)] ⟨[(10, vo 1 0 2 (([] : List Node).length)), (11, vi 9)], [(1, ro 0 80 2 (([] : List Node).length) (rf e_Node ([] : List Node)))]⟩ (o1 (And.intro (show 0 = ([] : List Node).length from rfl) (show 0 = ([] : List Node).length from rfl))) ?_
      obtain rfl := Option.some.inj hm
      refine H_swap 1 0 (by kernel_rfl) ?_
      refine q_rt ?_
      exact q_rm
     ·replace hm := bif_f b16 hm
      refine q_sk ?_
      refine q_sq ?_
      refine q_vu [] 1 [38] [(12, vp 1 0)] [] [(1, bx 45 [.emp])] ?_
      refine q_sq ?_
      refine q_vu [] 2 [] [(13, vp 2 0)] [] [(2, bx 3 [ci 0])] ?_
      refine q_sq ?_
      refine q_vu [] 3 [] [(14, vc (.fn 89 [.bptr 2 0 0, .bptr 1 0 0]))] [] [] ?_
      refine q_sq ?_
      obtain ⟨v17, h18, hm⟩ := bind_s hm
      refine q_vu [qc 2 [40, 41] 3 (pattern_along_ok a1 a2 v17 h18)] 3 [5] [(15, vp 3 0)] [0] [(3, bx 33 (e_Span v17))] ?_
      refine q_sq ?_
      refine q_vu [] 4 [] [(16, vi v17.A), (17, vb false)] [] [] ?_
      refine q_sq ?_
      refine q_sq ?_
      refine q_vu [] 4 [3] [(45, vc (tl e_Span default a4)), (46, vi ((a4.length : Nat) : Int)), (47, vi 0)] [] [] ?_
      refine q_fn [.ownB 1 0 4 80 2 (rf e_Node ([] : List Node))] ⟨[(1, vi a2), (2, vi a3), (4, vc (tl (e_lst e_Node) default a5)), (12, vp 1 0), (13, vp 2 0), (14, vc (.fn 89 [.bptr 2 0 0, .bptr 1 0 0])), (15, vp 3 0), (16, vi v17.A), (17, vb false), (45, vc (tl e_Span default a4)), (46, vi ((a4.length : Nat) : Int)), (47, vi 0)], [(1, bx 45 [.own 4 0 2 0]), (2, bx 3 [ci 0]), (3, bx 33 (e_Span v17)), (4, ro 0 80 2 0 (rf e_Node ([] : List Node)))]⟩ o0 ?_
      obtain ⟨u52, h51, hm⟩ := bind_s hm
      refine R_loop1 (nd Tryd.f58 16372) 0 (by kernel_rfl) FUEL (fun o => pattern_Row_L3_T o.1 o.2.1 o.2.2) (fun v st => RetQ Tryd.prog Tryd.f58 (pattern_Row_x v) (pattern_Row_o v) .ret st) u52 (q_hl (pattern_Row_L3_S a2 a3 a4 a5 v17 v17.A false 0 ([] : List Node) 0 0) (pattern_Row_L3_ok E a2 a3 a4 a5 v17 FUEL v17.A false 0 ([] : List Node) 0 0 u52 rfl h51)) ?_ ?_
      ·rintro v53 rfl st hr
       obtain rfl := Option.some.inj hm
       exact hr
      ·rintro o50 rfl
       replace hm : _ = some r := hm
       refine q_jn (ι := Int × (List Node) × Nat) (fun p => pattern_Row_k7_S p.1 p.2.1 p.2.2) (fun p => p.2.1.length = p.2.2 ∧ pattern_Row_k7 p.1 p.2.1 = some r) ?_ ?_
       ·rintro ⟨x57, l58, l58n⟩ ⟨el58, hm⟩
        replace el58 : l58.length = l58n := el58
        subst el58
        show H _ (pattern_Row_k7_S x57 l58 l58.length) _ _
        refine q_sq ?_
        refine q_sq ?_
        refine q_vu [] 6 [13] [(128, vb (decide (x57 > 127)))] [2] [] ?_
        refine q_cn (decide (x57 > 127)) (fun b59 => ?_) (fun b59 => ?_)
        ·replace hm := bif_t b59 hm
         refine q_sq ?_
         refine q_vn [] 6 ⟨[(10, vc (.emp)), (11, vi 4)], []⟩ ?_
         refine q_fn [.own 10 6 80 2 (rf e_Node ([] : List Node))] ⟨[(10, vo 6 0 2 0), (11, vi 4)], [(6, ro 0 80 2 0 (rf e_Node ([] : List Node)))]⟩ o0 ?_
         refine q_fn [.len 6 (([] : List Node).length)] ⟨[(10, vo 6 0 2 (([] : List Node).length)), (11, vi 4)], [(6, ro 0 80 2 (([] : List Node).length) (rf e_Node ([] : List Node)))]⟩ (o1 (And.intro (show 0 = ([] : List Node).length from rfl) (show 0 = ([] : List Node).length from rfl))) ?_
         obtain rfl := Option.some.inj hm
         refine H_swap 6 0 (by kernel_rfl) ?_
         refine q_rt ?_
         exact q_rm
        ·replace hm := bif_f b59 hm
         refine q_sk ?_
         refine q_sq ?_
         refine q_vu [] 6 [12, 128] [(10, vo 4 0 2 l58.length), (11, vi 0)] [1] [] ?_
         obtain rfl := Option.some.inj hm
         refine H_swap 4 0 (by kernel_rfl) ?_
         refine q_rt ?_
         exact q_rm
       ·refine q_sq ?_
        refine q_vu [] 5 [17] [(122, vb (!o50.1))] [] [] ?_
        refine q_cn (!o50.1) (fun b54 => ?_) (fun b54 => ?_)
        ·replace hm := bif_t b54 hm
         obtain ⟨v55, h56, hm⟩ := bind_s hm
         refine q_vu [qd 2 (drw 5 0 (rf e_Node ([(Node.mk 0 0)] : List Node))) (litP e_Node default 2 (fun _ => rfl) ([(Node.mk 0 0)] : List Node) 1 rfl), qd 3 (dex (cen [(2, 0), (1, 0), (4, 0)] [0, 0, 1] 3 2 (pattern_Row_1_s1_x ([(Node.mk 0 0)] : List Node) o50.2.2 o50.2.1 v55) (pattern_Row_1_s1_o ([(Node.mk 0 0)] : List Node) o50.2.2 o50.2.1 v55) [123, 125] [2, 1, 4, 5])) (callS (K := (kx E 130 0)) (xs' := [.one (.lst 1 (rf e_Node ([(Node.mk 0 0)] : List Node))), .one (.bptr 0 0 0), .one (.bptr 1 0 0)]) (b := false) ⟨[(123, vc (.fn 89 [.bptr 2 0 0, .bptr 1 0 0])), (125, vo 5 0 2 1)], [(2, bx 3 [ci o50.2.2]), (1, bx 45 [.own 4 0 2 o50.2.1.length]), (4, ro 0 80 2 o50.2.1.length (rf e_Node o50.2.1)), (5, ro 0 80 2 1 (rf e_Node ([(Node.mk 0 0)] : List Node)))]⟩ (opAt (rg Tryd.f58 16378) 3) [(2, 0), (1, 0), (4, 0)] [0, 0, 1] 3 (o1 (Nat.le_refl 1)) (by simp only [tl, rf, show ([(Node.mk 0 0)] : List Node).length = 1 from rfl]) (pattern_Row_1_s1_ok ([(Node.mk 0 0)] : List Node) o50.2.2 o50.2.1 v55 h56) (.inr ⟨(by kernel_rfl), pattern_Row_1_s1_f  ([(Node.mk 0 0)] : List Node) o50.2.2 o50.2.1 v55⟩) (by kernel_rfl))] 5 [14, 122] [] [1, 2, 4] [(1, bx 45 [.own 4 1 2 v55.2.length]), (2, bx 3 [ci v55.1]), (4, ro 1 80 2 v55.2.length (rf e_Node v55.2))] ?_
         exact q_J (v55.1, v55.2, v55.2.length) ⟨rfl, hm⟩
        ·replace hm := bif_f b54 hm
         refine q_sk ?_
         exact q_J (o50.2.2, o50.2.1, o50.2.1.length) ⟨rfl, hm⟩
    ·rcases Bool.eq_false_or_eq_true (decide (a3 < 0)) with b14 | b14
     ·replace hm := bif_t b14 hm
      refine q_vu [qf 2 b14] 1 [32] [(38, vb true)] [] [] ?_
      exact q_J (true) hm
     ·replace hm := bif_f b14 hm
      refine q_vu [qf 2 b14] 1 [32] [(38, vb (decide (a3 > 20)))] [] [] ?_
      exact q_J (decide (a3 > 20)) hm
  ·obtain ⟨v9, h10, hm⟩ := bind_s hm
   rcases Bool.eq_false_or_eq_true (!v9) with b11 | b11
   ·replace hm := bif_t b11 hm
    refine q_vu [qc 1 [23] 1 (pattern_isFrame_ok a1 v9 h10), qf 3 b11] 1 [22] [(32, vb true)] [] [] ?_
    exact q_J (true) hm
   ·replace hm := bif_f b11 hm
    refine q_vu [qc 1 [23] 1 (pattern_isFrame_ok a1 v9 h10), qf 3 b11] 1 [22] [(32, vb (((a4.length : Nat) : Int) != ((a5.length : Nat) : Int)))] [] [] ?_
    exact q_J (((a4.length : Nat) : Int) != ((a5.length : Nat) : Int)) hm

end Saw
end Go.SL

namespace Go.SL
namespace Saw
open Go.Proofs
set_option maxHeartbeats 4000000

def edge_Best_x (r : (List Node) × Int × Int) : V := .tup [.one (.own 0 0 2 r.1.length), .one (ci r.2.1), .one (ci r.2.2)]

def edge_Best_o (r : (List Node) × Int × Int) : List (Nat × (Nat × O)) := [(0, ro 0 80 2 r.1.length (rf e_Node r.1))]

theorem edge_Best_f (r : (List Node) × Int × Int) : Frozen (edge_Best_o r) := by
 intro i k o h
 unfold edge_Best_o at h
 rw [look_cons] at h
 split at h
 ·cases h; exact fun _ _ => rfl
 ·cases h

def edge_Best_L1_S (a4 : Rect) (a5 : Saw) (v10 : (List Piece) × Int × Int) (v13 : (List Int) × (List Int)) (l15 : List Span) (l15n : Nat) (l16 : List (List Node)) (l16n : Nat) (x17 : Int) : St :=
 ⟨[(9, vp 0 0), (10, vp 1 0), (18, vi v10.2.1), (19, vo 9 0 1 v13.1.length), (20, vo 10 0 1 v13.2.length), (21, vo 11 0 2 l15n), (22, vo 12 0 1 l16n), (60, vo 8 0 2 v10.1.length), (61, vi ((v10.1.length : Nat) : Int)), (62, vi x17)], [(0, bx 35 (e_Rect a4)), (1, bx 37 (e_Saw a5)), (8, ro 0 98 2 v10.1.length (rf e_Piece v10.1)), (9, ro 0 3 1 v13.1.length (rf e_i64 v13.1)), (10, ro 0 3 1 v13.2.length (rf e_i64 v13.2)), (11, ro 0 33 2 l15n (rf e_Span l15)), (12, ro 0 45 1 l16n (rf (e_lst e_Node) l16))]⟩

def edge_Best_L1_T (a4 : Rect) (a5 : Saw) (v10 : (List Piece) × Int × Int) (l27 : List Span) (l28 : List (List Node)) : St :=
 ⟨[(9, vp 0 0), (10, vp 1 0), (18, vi v10.2.1), (21, vo 11 0 2 l27.length), (22, vo 12 0 1 l28.length)], [(0, bx 35 (e_Rect a4)), (1, bx 37 (e_Saw a5)), (11, ro 0 33 2 l27.length (rf e_Span l27)), (12, ro 0 45 1 l28.length (rf (e_lst e_Node) l28))]⟩

set_option maxRecDepth 100000 in
theorem edge_Best_L1_ok (E : Env 0) (a4 : Rect) (a5 : Saw) (v10 : (List Piece) × Int × Int) (v13 : (List Int) × (List Int)) : ∀ (n : Nat) (l15 : List Span) (l15n : Nat) (l16 : List (List Node)) (l16n : Nat) (x17 : Int) (res : (List Span) × (List (List Node))), l15.length = l15n → l16.length = l16n → edge_Best_L1 a4 v10 v13 n l15 l16 x17 = some res → HL (kx E 106 0) (nd Tryd.f28 8180) (loopQ0 0 (fun o => edge_Best_L1_T a4 a5 v10 o.1 o.2) res) n (edge_Best_L1_S a4 a5 v10 v13 l15 l15n l16 l16n x17) := by
 intro n
 induction n with
 | zero =>
  intro l15 l15n l16 l16n x17 res hl0 hl1 hm
  cases hm
 | succ n ih =>
  intro l15 l15n l16 l16n x17 res hl0 hl1 hm
  subst hl0
  subst hl1
  refine HL_succ ?_
  refine q_sq ?_
  refine q_vu [] 13 [] [(63, vb (decide (x17 < ((v10.1.length : Nat) : Int))))] [] [] ?_
  refine q_sq ?_
  refine q_cn (decide (x17 < ((v10.1.length : Nat) : Int))) (fun b18 => ?_) (fun b18 => ?_)
  ·replace hm := bif_t b18 hm
   refine q_sk ?_
   refine q_sq ?_
   refine q_bk 1 ?_
   refine q_sq ?_
   obtain ⟨g19, hm⟩ := bif_n hm
   refine q_vu [qd 0 (Dir.none) (inb_of g19), qd 1 (Dir.none) (toNat_lt (inb_of g19))] 13 [63] [(24, vp 13 0)] [] [(13, bx 98 [ci ((v10.1.getD x17.toNat default).Size), ci ((v10.1.getD x17.toNat default).At)])] ?_
   refine q_sq ?_
   obtain ⟨g20, hm⟩ := bif_n hm
   obtain ⟨v21, h22, hm⟩ := bind_s hm
   obtain ⟨g23, hm⟩ := bif_n hm
   refine q_du [qd 9 (Dir.none) (inb_of g20), qd 10 (Dir.none) (toNat_lt (inb_of g20)), qc 12 [67, 69, 77] 14 (edge_part_ok a4 ((v10.1.getD x17.toNat default).At) (w64 (((v10.1.getD x17.toNat default).At) + (v13.1.getD (((v10.1.getD x17.toNat default).Size).toNat) default))) v21 h22), qd 14 (drw 14 0 (rf e_Span ([v21.X] : List Span))) (litP e_Span default 2 (fun _ => rfl) ([v21.X] : List Span) 1 rfl), qd 15 (drw 11 1 (rf e_Span (l15 ++ ([v21.X] : List Span)))) (apP e_Span default l15 ([v21.X] : List Span) l15.length 1 2 16 (1 ≤ 1) (Nat.le_refl _) rfl rfl (fun _ => rfl) (room_of g23))] [0, 0, 0, 4, 0, 16, 0, 0, 128, 448, 960, 2032, 4094, 8190, 16382, 32767, 65535] 14 [21] [(21, vo 11 1 2 (l15.length + 1))] [11] [(11, ro 1 33 2 (l15.length + 1) (rf e_Span (l15 ++ ([v21.X] : List Span))))] ?_
   obtain ⟨g24, hm⟩ := bif_n hm
   obtain ⟨v25, h26, hm⟩ := bind_s hm
   refine q_vu [qd 4 (Dir.none) (inb_of g24), qd 5 (Dir.none) (toNat_lt (inb_of g24)), qd 7 (drw 15 0 (rf e_Node ([(Node.mk 1 (v13.2.getD (((v10.1.getD x17.toNat default).Size).toNat) default))] : List Node))) (litP e_Node default 2 (fun _ => rfl) ([(Node.mk 1 (v13.2.getD (((v10.1.getD x17.toNat default).Size).toNat) default))] : List Node) 1 rfl), qd 8 (dpr [.len 15 (([(Node.mk 1 (v13.2.getD (((v10.1.getD x17.toNat default).Size).toNat) default))] : List Node).length)] (dex (cen [(12, 0), (15, 0)] [1, 1] 14 0 (edge_collect_s1_x l16 ([(Node.mk 1 (v13.2.getD (((v10.1.getD x17.toNat default).Size).toNat) default))] : List Node) v25) (edge_collect_s1_o l16 ([(Node.mk 1 (v13.2.getD (((v10.1.getD x17.toNat default).Size).toNat) default))] : List Node) v25) [82, 89] [12, 15]))) (And.intro (show 1 = ([(Node.mk 1 (v13.2.getD (((v10.1.getD x17.toNat default).Size).toNat) default))] : List Node).length from rfl) (show 1 = ([(Node.mk 1 (v13.2.getD (((v10.1.getD x17.toNat default).Size).toNat) default))] : List Node).length from rfl)), qd 8 (Dir.none) (callS (K := (kx E 106 0)) ⟨[(82, vo 12 0 1 l16.length), (89, vo 15 0 2 (([(Node.mk 1 (v13.2.getD (((v10.1.getD x17.toNat default).Size).toNat) default))] : List Node).length))], [(12, ro 0 45 1 l16.length (rf (e_lst e_Node) l16)), (15, ro 0 80 2 (([(Node.mk 1 (v13.2.getD (((v10.1.getD x17.toNat default).Size).toNat) default))] : List Node).length) (rf e_Node ([(Node.mk 1 (v13.2.getD (((v10.1.getD x17.toNat default).Size).toNat) default))] : List Node)))]⟩ (opAt (rg Tryd.f28 523571) 8) [(12, 0), (15, 0)] [1, 1] 14 o0 rfl (edge_collect_s1_ok l16 ([(Node.mk 1 (v13.2.getD (((v10.1.getD x17.toNat default).Size).toNat) default))] : List Node) v25 h26) (.inl rfl) (by kernel_rfl))] 15 [22, 24] [(22, vo 12 1 1 v25.2.length)] [12, 13] [(12, ro 1 45 1 v25.2.length (rf (e_lst e_Node) v25.2))] ?_
   refine q_vu [] 16 [62] [(62, vi (w64 (x17 + 1)))] [] [] ?_
   exact q_hl (edge_Best_L1_S a4 a5 v10 v13 (l15 ++ ([v21.X] : List Span)) (l15.length + 1) v25.2 v25.2.length (w64 (x17 + 1))) (ih (l15 ++ ([v21.X] : List Span)) (l15.length + 1) v25.2 v25.2.length (w64 (x17 + 1)) _ (len_app rfl rfl) rfl hm)
  ·replace hm := bif_f b18 hm
   refine q_ex 0 ?_
   obtain rfl := Option.some.inj hm
   exact L0_mk (by kernel_rfl) (by kernel_rfl)

set_option maxRecDepth 100000 in
theorem edge_Best_ok (a1 : List Slice) (a2 : List Defect) (a3 : List Product) (a4 : Rect) (a5 : Saw) (a6 : Rates) (r : (List Node) × Int × Int) (hm : edge_Best a1 a2 a3 a4 a5 a6 = some r) : CtX Tryd.prog globs 28 0 0 [.one (tl e_Slice default a1), .one (tl e_Defect default a2), .one (tl e_Product default a3), .agg (e_Rect a4), .agg (e_Saw a5), .agg (e_Rates a6)] [] (edge_Best_x r) (edge_Best_o r) := by
 unfold edge_Best at hm
 refine q_E Tryd.f28 106 fun E => ?_
 refine q_sq ?_
 refine q_vn [] 0 ⟨[(0, vc (tl e_Slice default a1)), (1, vc (tl e_Defect default a2)), (2, vc (tl e_Product default a3)), (9, vp 0 0), (10, vp 1 0), (11, vp 2 0)], [(0, bx 35 (e_Rect a4)), (1, bx 37 (e_Saw a5)), (2, bx 39 (e_Rates a6))]⟩ ?_
 refine q_sq ?_
 obtain ⟨v7, h8, hm⟩ := bind_s hm
 refine q_vu [qc 6 [27, 28, 29, 30, 31, 32] 3 (edge_Line_ok a1 a2 a3 a4 a5 a6 v7 h8)] 3 [0, 1, 11] [(15, vp 7 0), (16, vi v7.2)] [2] [(3, ro 0 3 1 v7.1.Sizes.length (rf e_i64 v7.1.Sizes)), (4, ro 0 25 1 v7.1.Gain.length (rf (e_lst e_i64) v7.1.Gain)), (5, ro 0 3 1 v7.1.Chip.length (rf e_i64 v7.1.Chip)), (6, ro 0 3 1 v7.1.Dust.length (rf e_i64 v7.1.Dust)), (7, bx 64 [ci v7.1.Len, ci v7.1.Kerf, ci v7.1.Pitch, .own 3 0 1 v7.1.Sizes.length, .own 4 0 1 v7.1.Gain.length, .own 5 0 1 v7.1.Chip.length, .own 6 0 1 v7.1.Dust.length])] ?_
 refine q_sq ?_
 refine q_sq ?_
 refine q_vu [] 8 [] [(37, vb (v7.2 != 0))] [] [] ?_
 refine q_cn (v7.2 != 0) (fun b9 => ?_) (fun b9 => ?_)
 ·replace hm := bif_t b9 hm
  refine q_sq ?_
  refine q_vn [] 8 ⟨[(12, vc (.emp)), (13, vi 0), (14, vi v7.2)], []⟩ ?_
  refine q_fn [.own 12 8 80 2 (rf e_Node ([] : List Node))] ⟨[(12, vo 8 0 2 0), (13, vi 0), (14, vi v7.2)], [(8, ro 0 80 2 0 (rf e_Node ([] : List Node)))]⟩ o0 ?_
  refine q_fn [.len 8 (([] : List Node).length)] ⟨[(12, vo 8 0 2 (([] : List Node).length)), (13, vi 0), (14, vi v7.2)], [(8, ro 0 80 2 (([] : List Node).length) (rf e_Node ([] : List Node)))]⟩ (o1 (And.intro (show 0 = ([] : List Node).length from rfl) (show 0 = ([] : List Node).length from rfl))) ?_
  obtain rfl := Option.some.inj hm
  refine H_swap 8 0 (by kernel_rfl) ?_
  refine q_rt ?_
  exact q_rm
 ·replace hm := bif_f b9 hm
  refine q_sk ?_
  refine q_sq ?_
  obtain ⟨v10, h11, hm⟩ := bind_s hm
  refine q_vu [qd 1 (dex (cen [] [] 8 0 (cutting_Best_x v10) (cutting_Best_o v10) [40] [3, 4, 5, 6])) (callS (K := (kx E 106 0)) (b := false) ⟨[(40, va [ci v7.1.Len, ci v7.1.Kerf, ci v7.1.Pitch, .own 3 0 1 v7.1.Sizes.length, .own 4 0 1 v7.1.Gain.length, .own 5 0 1 v7.1.Chip.length, .own 6 0 1 v7.1.Dust.length])], [(3, ro 0 3 1 v7.1.Sizes.length (rf e_i64 v7.1.Sizes)), (4, ro 0 25 1 v7.1.Gain.length (rf (e_lst e_i64) v7.1.Gain)), (5, ro 0 3 1 v7.1.Chip.length (rf e_i64 v7.1.Chip)), (6, ro 0 3 1 v7.1.Dust.length (rf e_i64 v7.1.Dust))]⟩ (opAt (rg Tryd.f28 30) 1) [] [] 8 (o1 (And.intro (Nat.le_refl v7.1.Sizes.length) (And.intro (Nat.le_refl v7.1.Gain.length) (And.intro (Nat.le_refl v7.1.Chip.length) (Nat.le_refl v7.1.Dust.length))))) rfl (cutting_Best_ok (Line.mk v7.1.Len v7.1.Kerf v7.1.Pitch v7.1.Sizes v7.1.Gain v7.1.Chip v7.1.Dust) v10 h11) (.inr ⟨(by kernel_rfl), cutting_Best_f v10⟩) (by kernel_rfl))] 8 [15, 16, 37] [(16, vi v10.2.2), (17, vo 8 0 2 v10.1.length), (18, vi v10.2.1)] [3, 4, 5, 6, 7] [(8, ro 0 98 2 v10.1.length (rf e_Piece v10.1))] ?_
  refine q_sq ?_
  refine q_sq ?_
  refine q_vu [] 9 [] [(46, vb (v10.2.2 != 0))] [] [] ?_
  refine q_cn (v10.2.2 != 0) (fun b12 => ?_) (fun b12 => ?_)
  ·replace hm := bif_t b12 hm
   refine q_sq ?_
   refine q_vn [] 9 ⟨[(12, vc (.emp)), (13, vi 0), (14, vi v10.2.2)], []⟩ ?_
   refine q_fn [.own 12 9 80 2 (rf e_Node ([] : List Node))] ⟨[(12, vo 9 0 2 0), (13, vi 0), (14, vi v10.2.2)], [(9, ro 0 80 2 0 (rf e_Node ([] : List Node)))]⟩ o0 ?_
   refine q_fn [.len 9 (([] : List Node).length)] ⟨[(12, vo 9 0 2 (([] : List Node).length)), (13, vi 0), (14, vi v10.2.2)], [(9, ro 0 80 2 (([] : List Node).length) (rf e_Node ([] : List Node)))]⟩ (o1 (And.intro (show 0 = ([] : List Node).length from rfl) (show 0 = ([] : List Node).length from rfl))) ?_
   obtain rfl := Option.some.inj hm
   refine H_swap 9 0 (by kernel_rfl) ?_
   refine q_rt ?_
   exact q_rm
  ·replace hm := bif_f b12 hm
   refine q_sk ?_
   refine q_sq ?_
   obtain ⟨v13, h14, hm⟩ := bind_s hm
   refine q_vu [qc 8 [49, 56] 9 (edge_Sizes_ok a3 (w64 (a4.Y.B - a4.Y.A)) v13 h14)] 9 [2, 16, 46] [(19, vo 9 0 1 v13.1.length), (20, vo 10 0 1 v13.2.length)] [] [(9, ro 0 3 1 v13.1.length (rf e_i64 v13.1)), (10, ro 0 3 1 v13.2.length (rf e_i64 v13.2))] ?_
   refine q_sq ?_
   refine q_vu [] 11 [] [(21, vc (.emp))] [] [] ?_
   refine q_sq ?_
   refine q_vu [] 11 [] [(22, vc (.emp))] [] [] ?_
   refine q_sq ?_
   refine q_sq ?_
   refine q_vu [] 11 [17] [(60, vo 8 0 2 v10.1.length), (61, vi ((v10.1.length : Nat) : Int)), (62, vi 0)] [] [] ?_
   refine q_fn [.own 21 11 33 2 (rf e_Span ([] : List Span))] ⟨[(9, vp 0 0), (10, vp 1 0), (18, vi v10.2.1), (19, vo 9 0 1 v13.1.length), (20, vo 10 0 1 v13.2.length), (21, vo 11 0 2 0), (22, vc (.emp)), (60, vo 8 0 2 v10.1.length), (61, vi ((v10.1.length : Nat) : Int)), (62, vi 0)], [(0, bx 35 (e_Rect a4)), (1, bx 37 (e_Saw a5)), (8, ro 0 98 2 v10.1.length (rf e_Piece v10.1)), (9, ro 0 3 1 v13.1.length (rf e_i64 v13.1)), (10, ro 0 3 1 v13.2.length (rf e_i64 v13.2)), (11, ro 0 33 2 0 (rf e_Span ([] : List Span)))]⟩ o0 ?_
   refine q_fn [.own 22 12 45 1 (rf (e_lst e_Node) ([] : List (List Node)))] ⟨[(9, vp 0 0), (10, vp 1 0), (18, vi v10.2.1), (19, vo 9 0 1 v13.1.length), (20, vo 10 0 1 v13.2.length), (21, vo 11 0 2 0), (22, vo 12 0 1 0), (60, vo 8 0 2 v10.1.length), (61, vi ((v10.1.length : Nat) : Int)), (62, vi 0)], [(0, bx 35 (e_Rect a4)), (1, bx 37 (e_Saw a5)), (8, ro 0 98 2 v10.1.length (rf e_Piece v10.1)), (9, ro 0 3 1 v13.1.length (rf e_i64 v13.1)), (10, ro 0 3 1 v13.2.length (rf e_i64 v13.2)), (11, ro 0 33 2 0 (rf e_Span ([] : List Span))), (12, ro 0 45 1 0 (rf (e_lst e_Node) ([] : List (List Node))))]⟩ o0 ?_
   obtain ⟨o29, h30, hm⟩ := bind_s hm
   refine R_loop0 (nd Tryd.f28 8180) 0 (by kernel_rfl) FUEL (fun o => edge_Best_L1_T a4 a5 v10 o.1 o.2) o29 (q_hl (edge_Best_L1_S a4 a5 v10 v13 ([] : List Span) 0 ([] : List (List Node)) 0 0) (edge_Best_L1_ok E a4 a5 v10 v13 FUEL ([] : List Span) 0 ([] : List (List Node)) 0 0 o29 rfl rfl h30)) ?_
   refine q_sq ?_
   obtain ⟨v31, h32, hm⟩ := bind_s hm
   refine q_vn [qd 5 (dex (cen [] [] 13 0 (pattern_Row_x v31) (pattern_Row_o v31) [93, 95, 96, 97] [11, 12])) (callS (K := (kx E 106 0)) (b := false) ⟨[(93, va (e_Rect a4)), (95, vi a5.Kerf), (96, vo 11 0 2 o29.1.length), (97, vo 12 0 1 o29.2.length)], [(11, ro 0 33 2 o29.1.length (rf e_Span o29.1)), (12, ro 0 45 1 o29.2.length (rf (e_lst e_Node) o29.2))]⟩ (opAt (rg Tryd.f28 2046) 5) [] [] 13 (o1 (And.intro (Nat.le_refl o29.1.length) (Nat.le_refl o29.2.length))) rfl (pattern_Row_ok a4 2 a5.Kerf o29.1 o29.2 v31 h32) (.inr ⟨(by kernel_rfl), pattern_Row_f v31⟩) (by kernel_rfl))] 13 ⟨[(16, vi v31.2), (18, vi v10.2.1), (25, vo 13 0 2 v31.1.length)], [(13, ro 0 80 2 v31.1.length (rf e_Node v31.1))]⟩ ?_
   refine q_sq ?_
   refine q_sq ?_
   refine q_vu [] 14 [] [(102, vb (v31.2 != 0))] [] [] ?_
   refine q_cn (v31.2 != 0) (fun b33 => ?_) (fun b33 => ?_)
   ·replace hm := bif_t b33 hm
    refine q_sq ?_
    refine q_vn [] 14 ⟨[(12, vc (.emp)), (13, vi 0), (14, vi v31.2)], []⟩ ?_
    refine q_fn [.own 12 14 80 2 (rf e_Node ([] : List Node))] ⟨[(12, vo 14 0 2 0), (13, vi 0), (14, vi v31.2)], [(14, ro 0 80 2 0 (rf e_Node ([] : List Node)))]⟩ o0 ?_
    refine q_fn [.len 14 (([] : List Node).length)] ⟨[(12, vo 14 0 2 (([] : List Node).length)), (13, vi 0), (14, vi v31.2)], [(14, ro 0 80 2 (([] : List Node).length) (rf e_Node ([] : List Node)))]⟩ (o1 (And.intro (show 0 = ([] : List Node).length from rfl) (show 0 = ([] : List Node).length from rfl))) ?_
    obtain rfl := Option.some.inj hm
    refine H_swap 14 0 (by kernel_rfl) ?_
    refine q_rt ?_
    exact q_rm
   ·replace hm := bif_f b33 hm
    refine q_sk ?_
    refine q_sq ?_
    refine q_vu [] 14 [16, 18, 25, 102] [(12, vo 13 0 2 v31.1.length), (13, vi v10.2.1), (14, vi 0)] [] [] ?_
    obtain rfl := Option.some.inj hm
    refine H_swap 13 0 (by kernel_rfl) ?_
    refine q_rt ?_
    exact q_rm

end Saw
end Go.SL

namespace Go.SL
namespace Saw
open Go.Proofs
set_option maxHeartbeats 4000000

def cutting_permitted_x (r : Int) : V := vi r

def cutting_permitted_o (r : Int) : List (Nat × (Nat × O)) := []

theorem cutting_permitted_f (r : Int) : Frozen (cutting_permitted_o r) := by
 intro i k o h
 unfold cutting_permitted_o at h
 cases h

def cutting_permitted_k3_S (a1 : Line) (a3 : Piece) (x15 : Bool) : St :=
 ⟨[(3, vp 0 0), (5, vp 1 0), (63, vb x15)], [(0, bx 64 (e_Line a1)), (1, bx 98 (e_Piece a3))]⟩

def cutting_permitted_k2_S (a1 : Line) (a2 : Int) (a3 : Piece) (x9 : Bool) : St :=
 ⟨[(1, vi a2), (3, vp 0 0), (5, vp 1 0), (35, vb x9)], [(0, bx 64 (e_Line a1)), (1, bx 98 (e_Piece a3))]⟩

def cutting_permitted_k1_S (a1 : Line) (a2 : Int) (a3 : Piece) (x5 : Bool) : St :=
 ⟨[(1, vi a2), (3, vp 0 0), (5, vp 1 0), (18, vb x5)], [(0, bx 64 (e_Line a1)), (1, bx 98 (e_Piece a3))]⟩

set_option maxRecDepth 100000 in
theorem cutting_permitted_ok (a1 : Line) (a2 : Int) (a3 : Piece) (r : Int) (hm : cutting_permitted a1 a2 a3 = some r) : CtX Tryd.prog globs 68 0 0 [.agg (e_Line a1), .one (ci a2), .agg (e_Piece a3)] [] (cutting_permitted_x r) (cutting_permitted_o r) := by
 unfold cutting_permitted at hm
 refine q_E Tryd.f68 75 fun E => ?_
 refine q_sq ?_
 refine q_vn [] 0 ⟨[(1, vi a2), (3, vp 0 0), (5, vp 1 0)], [(0, bx 64 (e_Line a1)), (1, bx 98 (e_Piece a3))]⟩ ?_
 refine q_sq ?_
 refine q_jn (ι := Bool) (fun p => cutting_permitted_k1_S a1 a2 a3 p) (fun p => cutting_permitted_k1 a1 a2 a3 p = some r) ?_ ?_
 ·rintro x5 hm
  show H _ (cutting_permitted_k1_S a1 a2 a3 x5) _ _
  refine q_cn x5 (fun b6 => ?_) (fun b6 => ?_)
  ·replace hm := bif_t b6 hm
   refine q_sq ?_
   refine q_vn [] 2 ⟨[(6, vi 9)], []⟩ ?_
   obtain rfl := Option.some.inj hm
   refine q_rt ?_
   exact q_rm
  ·replace hm := bif_f b6 hm
   refine q_sk ?_
   refine q_sq ?_
   refine q_jn (ι := Bool) (fun p => cutting_permitted_k2_S a1 a2 a3 p) (fun p => cutting_permitted_k2 a1 a2 a3 p = some r) ?_ ?_
   ·rintro x9 hm
    show H _ (cutting_permitted_k2_S a1 a2 a3 x9) _ _
    refine q_cn x9 (fun b10 => ?_) (fun b10 => ?_)
    ·replace hm := bif_t b10 hm
     refine q_sq ?_
     refine q_vn [] 2 ⟨[(6, vi 20)], []⟩ ?_
     obtain rfl := Option.some.inj hm
     refine q_rt ?_
     exact q_rm
    ·replace hm := bif_f b10 hm
     refine q_sk ?_
     refine q_sq ?_
     refine q_vu [] 2 [35] [(7, vi (w64 ((w64 (a3.At - a1.Kerf)) - a2)))] [] [] ?_
     refine q_sq ?_
     refine q_jn (ι := Bool) (fun p => cutting_permitted_k3_S a1 a3 p) (fun p => cutting_permitted_k3 a1 a3 p = some r) ?_ ?_
     ·rintro x15 hm
      show H _ (cutting_permitted_k3_S a1 a3 x15) _ _
      refine q_cn x15 (fun b16 => ?_) (fun b16 => ?_)
      ·replace hm := bif_t b16 hm
       refine q_sq ?_
       refine q_vn [] 2 ⟨[(6, vi 11)], []⟩ ?_
       obtain rfl := Option.some.inj hm
       refine q_rt ?_
       exact q_rm
      ·replace hm := bif_f b16 hm
       refine q_sk ?_
       refine q_sq ?_
       refine q_sq ?_
       obtain ⟨g17, hm⟩ := bif_n hm
       obtain ⟨g18, hm⟩ := bif_n hm
       refine q_dn [qd 4 (Dir.none) (inb_of g17), qd 8 (Dir.none) (inb_of g18)] [0, 1, 0, 4, 15, 31, 0, 64, 255, 511, 1023] 2 ⟨[(74, vb (decide (((a1.Gain.getD a3.Size.toNat default).getD a3.At.toNat default) < 0)))], []⟩ ?_
       refine q_cn (decide (((a1.Gain.getD a3.Size.toNat default).getD a3.At.toNat default) < 0)) (fun b19 => ?_) (fun b19 => ?_)
       ·replace hm := bif_t b19 hm
        refine q_sq ?_
        refine q_vn [] 2 ⟨[(6, vi 14)], []⟩ ?_
        obtain rfl := Option.some.inj hm
        refine q_rt ?_
        exact q_rm
       ·replace hm := bif_f b19 hm
        refine q_sk ?_
        refine q_sq ?_
        refine q_vn [] 2 ⟨[(6, vi 0)], []⟩ ?_
        obtain rfl := Option.some.inj hm
        refine q_rt ?_
        exact q_rm
     ·rcases Bool.eq_false_or_eq_true (decide (a2 < 0)) with b11 | b11
      ·replace hm := bif_t b11 hm
       refine q_vu [qf 2 b11] 2 [1, 7] [(63, vb true)] [] [] ?_
       exact q_J (true) hm
      ·replace hm := bif_f b11 hm
       rcases Bool.eq_false_or_eq_true (a3.At != a2) with b12 | b12
       ·replace hm := bif_t b12 hm
        rcases Bool.eq_false_or_eq_true (decide ((w64 ((w64 (a3.At - a1.Kerf)) - a2)) < a1.Pitch)) with b13 | b13
        ·replace hm := bif_t b13 hm
         refine q_vu [qf 2 b11, qf 7 b12, qf 12 b13] 2 [1, 7] [(63, vb true)] [] [] ?_
         exact q_J (true) hm
        ·replace hm := bif_f b13 hm
         obtain ⟨g14, hm⟩ := bif_n hm
         refine q_vu [qf 2 b11, qf 7 b12, qf 12 b13, qd 16 (Dir.none) (nz_of g14)] 2 [1, 7] [(63, vb ((Int.tmod (w64 ((w64 (a3.At - a1.Kerf)) - a2)) a1.Pitch) != 0))] [] [] ?_
         exact q_J ((Int.tmod (w64 ((w64 (a3.At - a1.Kerf)) - a2)) a1.Pitch) != 0) hm
       ·replace hm := bif_f b12 hm
        refine q_vu [qf 2 b11, qf 7 b12] 2 [1, 7] [(63, vb false)] [] [] ?_
        exact q_J (false) hm
   ·rcases Bool.eq_false_or_eq_true (decide (a3.At < 0)) with b7 | b7
    ·replace hm := bif_t b7 hm
     refine q_du [qf 3 b7] [0, 1, 3, 7, 15, 31, 15, 79, 15, 271, 15, 1039, 3855, 7951, 16335, 32767, 65535] 2 [18] [(35, vb true)] [] [] ?_
     exact q_J (true) hm
    ·replace hm := bif_f b7 hm
     obtain ⟨g8, hm⟩ := bif_n hm
     refine q_du [qf 3 b7, qd 12 (Dir.none) (inb_of g8)] [0, 1, 3, 7, 15, 31, 15, 79, 15, 271, 15, 1039, 3855, 7951, 16335, 32767, 65535] 2 [18] [(35, vb (decide (a3.At > (w64 (a1.Len - (a1.Sizes.getD a3.Size.toNat default))))))] [] [] ?_
     exact q_J (decide (a3.At > (w64 (a1.Len - (a1.Sizes.getD a3.Size.toNat default))))) hm
 ·rcases Bool.eq_false_or_eq_true (decide (a3.Size < 0)) with b4 | b4
  ·replace hm := bif_t b4 hm
   refine q_vu [qf 3 b4] 2 [] [(18, vb true)] [] [] ?_
   exact q_J (true) hm
  ·replace hm := bif_f b4 hm
   refine q_vu [qf 3 b4] 2 [] [(18, vb (decide (a3.Size ≥ ((a1.Sizes.length : Nat) : Int))))] [] [] ?_
   exact q_J (decide (a3.Size ≥ ((a1.Sizes.length : Nat) : Int))) hm

end Saw
end Go.SL

namespace Go.SL
namespace Saw
open Go.Proofs
set_option maxHeartbeats 4000000

def cutting_add_s1_x (a1 : Int) (a2 : Int) (a3 : List Span) (r : (List Span) × (List Span)) : V := vo 0 0 2 r.2.length

def cutting_add_s1_o (a1 : Int) (a2 : Int) (a3 : List Span) (r : (List Span) × (List Span)) : List (Nat × (Nat × O)) := [(0, ro 0 33 2 r.2.length (rf e_Span r.2))]

theorem cutting_add_s1_f (a1 : Int) (a2 : Int) (a3 : List Span) (r : (List Span) × (List Span)) : Frozen (cutting_add_s1_o a1 a2 a3 r) := by
 intro i k o h
 unfold cutting_add_s1_o at h
 rw [look_cons] at h
 split at h
 ·cases h; exact fun _ _ => rfl
 ·cases h

set_option maxRecDepth 100000 in
theorem cutting_add_s1_ok (a1 : Int) (a2 : Int) (a3 : List Span) (r : (List Span) × (List Span)) (hm : cutting_add_s1 a1 a2 a3 = some r) : CtX Tryd.prog globs 69 1 0 [.one (.own 0 0 2 a3.length), .one (ci a1), .one (ci a2)] [(0, ro 0 33 2 a3.length (rf e_Span a3))] (cutting_add_s1_x a1 a2 a3 r) (cutting_add_s1_o a1 a2 a3 r) := by
 unfold cutting_add_s1 at hm
 refine q_E Tryd.f69 17 fun E => ?_
 refine q_sq ?_
 refine q_vn [] 1 ⟨[(0, vo 0 0 2 a3.length), (1, vi a1), (2, vi a2)], [(0, ro 0 33 2 a3.length (rf e_Span a3))]⟩ ?_
 refine q_sq ?_
 refine q_sq ?_
 refine q_vu [] 1 [] [(9, vb (decide (a1 ≥ a2)))] [] [] ?_
 refine q_cn (decide (a1 ≥ a2)) (fun b4 => ?_) (fun b4 => ?_)
 ·replace hm := bif_t b4 hm
  refine q_sq ?_
  refine q_vu [] 1 [0, 1, 2, 9] [(6, vo 0 0 2 a3.length)] [] [] ?_
  obtain rfl := Option.some.inj hm
  refine q_rt ?_
  exact q_rm
 ·replace hm := bif_f b4 hm
  refine q_sk ?_
  refine q_sq ?_
  obtain ⟨g5, hm⟩ := bif_n hm
  refine q_vn [qd 4 (drw 1 0 (rf e_Span ([(Span.mk a1 a2)] : List Span))) (litP e_Span default 2 (fun _ => rfl) ([(Span.mk a1 a2)] : List Span) 1 rfl), qd 5 (drw 0 1 (rf e_Span (a3 ++ ([(Span.mk a1 a2)] : List Span)))) (apP e_Span default a3 ([(Span.mk a1 a2)] : List Span) a3.length 1 2 16 (1 ≤ 1) (Nat.le_refl _) rfl rfl (fun _ => rfl) (room_of g5))] 1 ⟨[(6, vo 0 1 2 (a3.length + 1))], [(0, ro 1 33 2 (a3.length + 1) (rf e_Span (a3 ++ ([(Span.mk a1 a2)] : List Span))))]⟩ ?_
  refine q_fn [.len 0 ((a3 ++ ([(Span.mk a1 a2)] : List Span)).length)] ⟨[(6, vo 0 1 2 ((a3 ++ ([(Span.mk a1 a2)] : List Span)).length))], [(0, ro 1 33 2 ((a3 ++ ([(Span.mk a1 a2)] : List Span)).length) (rf e_Span (a3 ++ ([(Span.mk a1 a2)] : List Span))))]⟩ (o1 (And.intro (Eq.symm (show (a3 ++ ([(Span.mk a1 a2)] : List Span)).length = (a3.length + 1) from (len_app rfl rfl))) (Eq.symm (show (a3 ++ ([(Span.mk a1 a2)] : List Span)).length = (a3.length + 1) from (len_app rfl rfl))))) ?_
  obtain rfl := Option.some.inj hm
  refine q_rt ?_
  exact q_rm

end Saw
end Go.SL
