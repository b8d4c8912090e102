import Derived.Test.YtpphchcejhodkaaDoorEBase
import Derived.Test.YtpphchcejhodkaaDoorEFa6
import Derived.Test.YtpphchcejhodkaaDoorEFa1
import Derived.Test.YtpphchcejhodkaaDoorEFa5
import Derived.Test.YtpphchcejhodkaaDoorEFa4
import Derived.Test.YtpphchcejhodkaaDoorEFa2
set_option linter.unusedVariables false
set_option linter.unusedSimpArgs false
namespace Go.SL
namespace Saw
open Go.Proofs
set_option maxHeartbeats 4000000
set_option maxRecDepth 100000
def NR (r : (List Node) × Int) : V := .tup [.one (.own 0 0 2 r.1.length), .one (ci r.2)]
def XJ (r : (List Node) × Int) : List (Nat × (Nat × O)) := [(0, ro 0 69 2 r.1.length (rf e_Node r.1))]
theorem qIS (r : (List Node) × Int) : JD (XJ r) := by
 intro i k o h
 unfold XJ at h
 rw [look_cons] at h
 split at h
 ·cases h; exact fun _ _ => rfl
 ·cases h
def qAo (a2 : Int) (a3 : Int) (a4 : List Span) (a5 : List (List Node)) (v17 : Span) (x21 : Int) (x40 : Int) (x41 : Bool) (l42 : List Node) (l42n : Nat) (x43 : Int) : St :=
 ⟨[(1, vi a2), (2, vi a3), (4, vc (tl (qV e_Node) default a5)), (12, vp 1 0), (13, vp 2 0), (14, vc (.fn 66 [.bptr 2 0 0, .bptr 1 0 0])), (15, vp 3 0), (16, vi x40), (17, vb x41), (18, vi x21), (45, vc (tl e_Span default a4)), (46, vi ((a4.length : Nat) : Int)), (47, vi x21)], [(1, bx 37 [.own 4 0 2 l42n]), (2, bx 3 [ci x43]), (3, bx 26 (e_Span v17)), (4, ro 0 69 2 l42n (rf e_Node l42))]⟩
def CX (a2 : Int) (a3 : Int) (a4 : List Span) (a5 : List (List Node)) (v17 : Span) (x19 : Int) (x20 : Bool) (x21 : Int) (l35 : List Node) (l35n : Nat) (x36 : Int) : St :=
 ⟨[(1, vi a2), (2, vi a3), (4, vc (tl (qV e_Node) default a5)), (12, vp 1 0), (13, vp 2 0), (14, vc (.fn 66 [.bptr 2 0 0, .bptr 1 0 0])), (15, vp 3 0), (16, vi x19), (17, vb x20), (18, vi x21), (19, vp 5 0), (45, vc (tl e_Span default a4)), (46, vi ((a4.length : Nat) : Int)), (47, vi x21)], [(1, bx 37 [.own 4 0 2 l35n]), (2, bx 3 [ci x36]), (3, bx 26 (e_Span v17)), (4, ro 0 69 2 l35n (rf e_Node l35)), (5, bx 26 [ci ((a4.getD x21.toNat default).A), ci ((a4.getD x21.toNat default).B)])]⟩
def CA (a2 : Int) (a3 : Int) (a4 : List Span) (a5 : List (List Node)) (v17 : Span) (x19 : Int) (x20 : Bool) (x21 : Int) (l22 : List Node) (x23 : Int) (x29 : Bool) : St :=
 ⟨[(1, vi a2), (2, vi a3), (4, vc (tl (qV e_Node) default a5)), (12, vp 1 0), (13, vp 2 0), (14, vc (.fn 66 [.bptr 2 0 0, .bptr 1 0 0])), (15, vp 3 0), (16, vi x19), (17, vb x20), (18, vi x21), (19, vp 5 0), (45, vc (tl e_Span default a4)), (46, vi ((a4.length : Nat) : Int)), (47, vi x21), (58, vb x29)], [(1, bx 37 [.own 4 0 2 l22.length]), (2, bx 3 [ci x23]), (3, bx 26 (e_Span v17)), (4, ro 0 69 2 l22.length (rf e_Node l22)), (5, bx 26 [ci ((a4.getD x21.toNat default).A), ci ((a4.getD x21.toNat default).B)])]⟩
def FD (a2 : Int) (a3 : Int) (a4 : List Span) (a5 : List (List Node)) (v17 : Span) (x19 : Int) (x20 : Bool) (x21 : Int) (l22 : List Node) (l22n : Nat) (x23 : Int) : St :=
 ⟨[(1, vi a2), (2, vi a3), (4, vc (tl (qV e_Node) default a5)), (12, vp 1 0), (13, vp 2 0), (14, vc (.fn 66 [.bptr 2 0 0, .bptr 1 0 0])), (15, vp 3 0), (16, vi x19), (17, vb x20), (45, vc (tl e_Span default a4)), (46, vi ((a4.length : Nat) : Int)), (47, vi x21)], [(1, bx 37 [.own 4 0 2 l22n]), (2, bx 3 [ci x23]), (3, bx 26 (e_Span v17)), (4, ro 0 69 2 l22n (rf e_Node l22))]⟩
def CE (x47 : Bool) (l48 : List Node) (x49 : Int) : St :=
 ⟨[(12, vp 1 0), (13, vp 2 0), (14, vc (.fn 66 [.bptr 2 0 0, .bptr 1 0 0])), (17, vb x47)], [(1, bx 37 [.own 4 0 2 l48.length]), (2, bx 3 [ci x49]), (4, ro 0 69 2 l48.length (rf e_Node l48))]⟩
def CL (x57 : Int) (l58 : List Node) (l58n : Nat) : St :=
 ⟨[(12, vp 1 0), (13, vp 2 0)], [(1, bx 37 [.own 4 0 2 l58n]), (2, bx 3 [ci x57]), (4, ro 0 69 2 l58n (rf e_Node l58))]⟩
def OO (a1 : Rect) (a2 : Int) (a3 : Int) (a4 : List Span) (a5 : List (List Node)) (x15 : Bool) : St :=
 ⟨[(1, vi a2), (2, vi a3), (3, vc (tl e_Span default a4)), (4, vc (tl (qV e_Node) default a5)), (5, vp 0 0), (38, vb x15)], [(0, bx 28 (qK a1))]⟩
def CB (a1 : Rect) (a2 : Int) (a3 : Int) (a4 : List Span) (a5 : List (List Node)) (x12 : Bool) : St :=
 ⟨[(1, vi a2), (2, vi a3), (3, vc (tl e_Span default a4)), (4, vc (tl (qV e_Node) default a5)), (5, vp 0 0), (32, vb x12)], [(0, bx 28 (qK a1))]⟩
theorem qED (E : Env 0) (a2 : Int) (a3 : Int) (a4 : List Span) (a5 : List (List Node)) (v17 : Span) : ∀ (n : Nat) (x19 : Int) (x20 : Bool) (x21 : Int) (l22 : List Node) (l22n : Nat) (x23 : Int) (res : ((List Node) × Int) ⊕ (Bool × (List Node) × Int)), l22.length = l22n → zW a2 a3 a4 a5 v17 n x19 x20 x21 l22 x23 = some res → HL (kx E 130 0) (nd Tryd.f35 16372) (wW 0 (fun o => CE o.1 o.2.1 o.2.2) (fun v st => RetQ Tryd.prog Tryd.f35 (NR v) (XJ v) .ret st) res) n (FD a2 a3 a4 a5 v17 x19 x20 x21 l22 l22n x23) := by
 intro n
 induction n with
 | zero =>
  intro x19 x20 x21 l22 l22n x23 res hl0 hm
  cases hm
 | succ n ih =>
  intro x19 x20 x21 l22 l22n x23 res hl0 hm
  subst hl0
  refine qQ ?_
  refine q_sq ?_
  refine q_vu [] 5 [] [(48, vb (decide (x21 < ((a4.length : Nat) : Int))))] [] [] ?_
  refine q_sq ?_
  refine q_cn (decide (x21 < ((a4.length : Nat) : Int))) (fun b24 => ?_) (fun b24 => ?_)
  ·replace hm := qA b24 hm
   refine q_sk ?_
   refine q_sq ?_
   refine q_bk 1 ?_
   refine q_sq ?_
   obtain ⟨g25, hm⟩ := qM hm
   refine q_vu [qd 1 (Dir.none) (inb_of g25)] 5 [48] [(18, vi x21), (19, vp 5 0)] [] [(5, bx 26 [ci ((a4.getD x21.toNat default).A), ci ((a4.getD x21.toNat default).B)])] ?_
   refine q_sq ?_
   refine q_bk 2 ?_
   refine q_sq ?_
   refine q_vu [] 6 [] [(52, vb (decide (((a4.getD x21.toNat default).A) ≥ ((a4.getD x21.toNat default).B))))] [] [] ?_
   refine q_cn (decide (((a4.getD x21.toNat default).A) ≥ ((a4.getD x21.toNat default).B))) (fun b26 => ?_) (fun b26 => ?_)
   ·replace hm := qA b26 hm
    refine q_sq ?_
    refine q_vn [] 6 ⟨[(10, vc (.emp)), (11, vi 19)], []⟩ ?_
    refine q_fn [.own 10 6 69 2 (rf e_Node ([] : List Node))] ⟨[(10, vo 6 0 2 0), (11, vi 19)], [(6, ro 0 69 2 0 (rf e_Node ([] : List Node)))]⟩ o0 ?_
    refine q_fn [.len 6 (([] : List Node).length)] ⟨[(10, vo 6 0 2 (([] : List Node).length)), (11, vi 19)], [(6, ro 0 69 2 (([] : List Node).length) (rf e_Node ([] : List Node)))]⟩ (o1 (And.intro (show 0 = ([] : List Node).length from rfl) (show 0 = ([] : List Node).length from rfl))) ?_
    obtain rfl := Option.some.inj hm
    refine qZ 6 0 (by kernel_rfl) ?_
    refine q_rt ?_
    refine zB (([] : List Node), 19) ?_
    exact q_rm
   ·replace hm := qB b26 hm
    refine q_jn (ι := Bool) (fun p => CA a2 a3 a4 a5 v17 x19 x20 x21 l22 x23 p) (fun p => PP a2 a3 a4 a5 v17 x19 x20 x21 l22 x23 (zW a2 a3 a4 a5 v17 n) p = some res) ?_ ?_
    ·rintro x29 hm
     show H _ (CA a2 a3 a4 a5 v17 x19 x20 x21 l22 x23 x29) _ _
     refine q_cn x29 (fun b30 => ?_) (fun b30 => ?_)
     ·replace hm := qA b30 hm
      refine q_sq ?_
      refine q_vn [] 6 ⟨[(10, vc (.emp)), (11, vi 11)], []⟩ ?_
      refine q_fn [.own 10 6 69 2 (rf e_Node ([] : List Node))] ⟨[(10, vo 6 0 2 0), (11, vi 11)], [(6, ro 0 69 2 0 (rf e_Node ([] : List Node)))]⟩ o0 ?_
      refine q_fn [.len 6 (([] : List Node).length)] ⟨[(10, vo 6 0 2 (([] : List Node).length)), (11, vi 11)], [(6, ro 0 69 2 (([] : List Node).length) (rf e_Node ([] : List Node)))]⟩ (o1 (And.intro (show 0 = ([] : List Node).length from rfl) (show 0 = ([] : List Node).length from rfl))) ?_
      obtain rfl := Option.some.inj hm
      refine qZ 6 0 (by kernel_rfl) ?_
      refine q_rt ?_
      refine zB (([] : List Node), 11) ?_
      exact q_rm
     ·replace hm := qB b30 hm
      refine q_sq ?_
      refine q_vu [] 6 [58] [(75, vb (decide (((a4.getD x21.toNat default).B) > v17.B)))] [] [] ?_
      refine q_cn (decide (((a4.getD x21.toNat default).B) > v17.B)) (fun b31 => ?_) (fun b31 => ?_)
      ·replace hm := qA b31 hm
       refine q_sq ?_
       refine q_vn [] 6 ⟨[(10, vc (.emp)), (11, vi 20)], []⟩ ?_
       refine q_fn [.own 10 6 69 2 (rf e_Node ([] : List Node))] ⟨[(10, vo 6 0 2 0), (11, vi 20)], [(6, ro 0 69 2 0 (rf e_Node ([] : List Node)))]⟩ o0 ?_
       refine q_fn [.len 6 (([] : List Node).length)] ⟨[(10, vo 6 0 2 (([] : List Node).length)), (11, vi 20)], [(6, ro 0 69 2 (([] : List Node).length) (rf e_Node ([] : List Node)))]⟩ (o1 (And.intro (show 0 = ([] : List Node).length from rfl) (show 0 = ([] : List Node).length from rfl))) ?_
       obtain rfl := Option.some.inj hm
       refine qZ 6 0 (by kernel_rfl) ?_
       refine q_rt ?_
       refine zB (([] : List Node), 20) ?_
       exact q_rm
      ·replace hm := qB b31 hm
       refine q_sk ?_
       refine q_jn (ι := (List Node) × Nat × Int) (fun p => CX a2 a3 a4 a5 v17 x19 x20 x21 p.1 p.2.1 p.2.2) (fun p => p.1.length = p.2.1 ∧ PF a2 a3 a4 a5 v17 x19 x20 x21 (zW a2 a3 a4 a5 v17 n) p.1 p.2.2 = some res) ?_ ?_
       ·rintro ⟨l35, l35n, x36⟩ ⟨el35, hm⟩
        replace el35 : l35.length = l35n := el35
        subst el35
        show H _ (CX a2 a3 a4 a5 v17 x19 x20 x21 l35 l35.length x36) _ _
        refine q_jn (ι := Int × Bool × (List Node) × Nat × Int) (fun p => qAo a2 a3 a4 a5 v17 x21 p.1 p.2.1 p.2.2.1 p.2.2.2.1 p.2.2.2.2) (fun p => p.2.2.1.length = p.2.2.2.1 ∧ BA a5 x21 (zW a2 a3 a4 a5 v17 n) p.1 p.2.1 p.2.2.1 p.2.2.2.2 = some res) ?_ ?_
        ·rintro ⟨x40, x41, l42, l42n, x43⟩ ⟨el42, hm⟩
         replace el42 : l42.length = l42n := el42
         subst el42
         show H _ (qAo a2 a3 a4 a5 v17 x21 x40 x41 l42 l42.length x43) _ _
         obtain ⟨g44, hm⟩ := qM hm
         obtain ⟨v45, h46, hm⟩ := qC hm
         refine q_vu [qd 3 (Dir.none) (inb_of g44), qd 5 (dex (cen [(2, 0), (1, 0), (4, 0)] [0, 0, 1] 5 2 (WJ (a5.getD x21.toNat default) x43 l42 v45) (pattern_Row_1_s1_o (a5.getD x21.toNat default) x43 l42 v45) [114, 118] [2, 1, 4])) (WA (K := (kx E 130 0)) ⟨[(114, vc (.fn 66 [.bptr 2 0 0, .bptr 1 0 0])), (118, vc (tl e_Node default (a5.getD x21.toNat default)))], [(2, bx 3 [ci x43]), (1, bx 37 [.own 4 0 2 l42.length]), (4, ro 0 69 2 l42.length (rf e_Node l42))]⟩ (opAt (rg Tryd.f35 4191439) 5) [(2, 0), (1, 0), (4, 0)] [0, 0, 1] 5 o0 rfl (YW (a5.getD x21.toNat default) x43 l42 v45 h46) (.inl rfl) (by kernel_rfl))] 8 [18] [] [1, 2, 4] [(1, bx 37 [.own 4 1 2 v45.2.length]), (2, bx 3 [ci v45.1]), (4, ro 1 69 2 v45.2.length (rf e_Node v45.2))] ?_
         refine q_vu [] 8 [47] [(47, vi (w64 (x21 + 1)))] [] [] ?_
         exact q_hl (FD a2 a3 a4 a5 v17 x40 x41 (w64 (x21 + 1)) v45.2 v45.2.length v45.1) (ih x40 x41 (w64 (x21 + 1)) v45.2 v45.2.length v45.1 _ rfl hm)
        ·refine q_sq ?_
         refine q_vu [] 7 [] [(99, vb (decide (((a4.getD x21.toNat default).B) < v17.B)))] [] [] ?_
         refine q_cn (decide (((a4.getD x21.toNat default).B) < v17.B)) (fun b37 => ?_) (fun b37 => ?_)
         ·replace hm := qA b37 hm
          refine q_sq ?_
          obtain ⟨v38, h39, hm⟩ := qC hm
          refine q_vu [qd 5 (drw 7 0 (rf e_Node ([(Node.mk a2 ((a4.getD x21.toNat default).B))] : List Node))) (litP e_Node default 2 (fun _ => rfl) ([(Node.mk a2 ((a4.getD x21.toNat default).B))] : List Node) 1 rfl), qd 6 (dex (cen [(2, 0), (1, 0), (4, 0)] [0, 0, 1] 5 2 (WJ ([(Node.mk a2 ((a4.getD x21.toNat default).B))] : List Node) x36 l35 v38) (pattern_Row_1_s1_o ([(Node.mk a2 ((a4.getD x21.toNat default).B))] : List Node) x36 l35 v38) [100, 105] [2, 1, 4, 7])) (WA (K := (kx E 130 0)) (xs' := [.one (.lst 1 (rf e_Node ([(Node.mk a2 ((a4.getD x21.toNat default).B))] : List Node))), .one (.bptr 0 0 0), .one (.bptr 1 0 0)]) (b := false) ⟨[(100, vc (.fn 66 [.bptr 2 0 0, .bptr 1 0 0])), (105, vo 7 0 2 1)], [(2, bx 3 [ci x36]), (1, bx 37 [.own 4 0 2 l35.length]), (4, ro 0 69 2 l35.length (rf e_Node l35)), (7, ro 0 69 2 1 (rf e_Node ([(Node.mk a2 ((a4.getD x21.toNat default).B))] : List Node)))]⟩ (opAt (rg Tryd.f35 33531508) 6) [(2, 0), (1, 0), (4, 0)] [0, 0, 1] 5 (o1 (Nat.le_refl 1)) (by simp only [tl, rf, show ([(Node.mk a2 ((a4.getD x21.toNat default).B))] : List Node).length = 1 from rfl]) (YW ([(Node.mk a2 ((a4.getD x21.toNat default).B))] : List Node) x36 l35 v38 h39) (.inr ⟨(by kernel_rfl), GX  ([(Node.mk a2 ((a4.getD x21.toNat default).B))] : List Node) x36 l35 v38⟩) (by kernel_rfl))] 7 [16, 99] [] [1, 2, 4] [(1, bx 37 [.own 4 1 2 v38.2.length]), (2, bx 3 [ci v38.1]), (4, ro 1 69 2 v38.2.length (rf e_Node v38.2))] ?_
          refine q_vu [] 8 [19] [(16, vi (imin (w64 (((a4.getD x21.toNat default).B) + a3)) v17.B))] [5] [] ?_
          exact q_J (imin (w64 (((a4.getD x21.toNat default).B) + a3)) v17.B, x20, v38.2, v38.2.length, v38.1) ⟨rfl, hm⟩
         ·replace hm := qB b37 hm
          refine q_vu [] 7 [17, 19, 99] [(17, vb true)] [5] [] ?_
          exact q_J (x19, true, l35, l35.length, x36) ⟨rfl, hm⟩
       ·refine q_sq ?_
        refine q_vu [] 6 [75] [(84, vb (decide (((a4.getD x21.toNat default).A) > x19)))] [] [] ?_
        refine q_cn (decide (((a4.getD x21.toNat default).A) > x19)) (fun b32 => ?_) (fun b32 => ?_)
        ·replace hm := qA b32 hm
         obtain ⟨v33, h34, hm⟩ := qC hm
         refine q_vu [qd 8 (drw 6 0 (rf e_Node ([(Node.mk a2 (w64 (((a4.getD x21.toNat default).A) - a3))), (Node.mk 0 0)] : List Node))) (litP e_Node default 2 (fun _ => rfl) ([(Node.mk a2 (w64 (((a4.getD x21.toNat default).A) - a3))), (Node.mk 0 0)] : List Node) 2 rfl), qd 9 (dex (cen [(2, 0), (1, 0), (4, 0)] [0, 0, 1] 4 2 (WJ ([(Node.mk a2 (w64 (((a4.getD x21.toNat default).A) - a3))), (Node.mk 0 0)] : List Node) x23 l22 v33) (pattern_Row_1_s1_o ([(Node.mk a2 (w64 (((a4.getD x21.toNat default).A) - a3))), (Node.mk 0 0)] : List Node) x23 l22 v33) [85, 93] [2, 1, 4, 6])) (WA (K := (kx E 130 0)) (xs' := [.one (.lst 2 (rf e_Node ([(Node.mk a2 (w64 (((a4.getD x21.toNat default).A) - a3))), (Node.mk 0 0)] : List Node))), .one (.bptr 0 0 0), .one (.bptr 1 0 0)]) (b := false) ⟨[(85, vc (.fn 66 [.bptr 2 0 0, .bptr 1 0 0])), (93, vo 6 0 2 2)], [(2, bx 3 [ci x23]), (1, bx 37 [.own 4 0 2 l22.length]), (4, ro 0 69 2 l22.length (rf e_Node l22)), (6, ro 0 69 2 2 (rf e_Node ([(Node.mk a2 (w64 (((a4.getD x21.toNat default).A) - a3))), (Node.mk 0 0)] : List Node)))]⟩ (opAt (rg Tryd.f35 8382874) 9) [(2, 0), (1, 0), (4, 0)] [0, 0, 1] 4 (o1 (Nat.le_refl 2)) (by simp only [tl, rf, show ([(Node.mk a2 (w64 (((a4.getD x21.toNat default).A) - a3))), (Node.mk 0 0)] : List Node).length = 2 from rfl]) (YW ([(Node.mk a2 (w64 (((a4.getD x21.toNat default).A) - a3))), (Node.mk 0 0)] : List Node) x23 l22 v33 h34) (.inr ⟨(by kernel_rfl), GX  ([(Node.mk a2 (w64 (((a4.getD x21.toNat default).A) - a3))), (Node.mk 0 0)] : List Node) x23 l22 v33⟩) (by kernel_rfl))] 6 [84] [] [1, 2, 4] [(1, bx 37 [.own 4 1 2 v33.2.length]), (2, bx 3 [ci v33.1]), (4, ro 1 69 2 v33.2.length (rf e_Node v33.2))] ?_
         exact q_J (v33.2, v33.2.length, v33.1) ⟨rfl, hm⟩
        ·replace hm := qB b32 hm
         refine q_sk ?_
         exact q_J (l22, l22.length, x23) ⟨rfl, hm⟩
    ·rcases Bool.eq_false_or_eq_true x20 with b27 | b27
     ·replace hm := qA b27 hm
      refine q_vu [qf 1 b27] 6 [52] [(58, vb true)] [] [] ?_
      exact q_J (true) hm
     ·replace hm := qB b27 hm
      rcases Bool.eq_false_or_eq_true (((a4.getD x21.toNat default).A) != x19) with b28 | b28
      ·replace hm := qA b28 hm
       refine q_vu [qf 1 b27, qf 6 b28] 6 [52] [(58, vb (decide (((a4.getD x21.toNat default).A) < (w64 ((w64 (x19 + a3)) + 1)))))] [] [] ?_
       exact q_J (decide (((a4.getD x21.toNat default).A) < (w64 ((w64 (x19 + a3)) + 1)))) hm
      ·replace hm := qB b28 hm
       refine q_vu [qf 1 b27, qf 6 b28] 6 [52] [(58, vb false)] [] [] ?_
       exact q_J (false) hm
  ·replace hm := qB b24 hm
   refine q_ex 0 ?_
   obtain rfl := Option.some.inj hm
   exact jE (x20, l22, x23) (by kernel_rfl) (by kernel_rfl)
theorem pattern_Row_ok (a1 : Rect) (a2 : Int) (a3 : Int) (a4 : List Span) (a5 : List (List Node)) (r : (List Node) × Int) (hm : NJ a1 a2 a3 a4 a5 = some r) : CtX Tryd.prog globs 35 0 0 [.agg (qK a1), .one (ci a2), .one (ci a3), .one (tl e_Span default a4), .one (tl (qV e_Node) default a5)] [] (NR r) (XJ r) := by
 unfold NJ at hm
 refine q_E Tryd.f35 130 fun E => ?_
 refine q_sq ?_
 refine q_vn [] 0 ⟨[(1, vi a2), (2, vi a3), (3, vc (tl e_Span default a4)), (4, vc (tl (qV e_Node) default a5)), (5, vp 0 0)], [(0, bx 28 (qK a1))]⟩ ?_
 refine q_sq ?_
 refine q_sq ?_
 obtain ⟨v6, h7, hm⟩ := qC hm
 refine q_vu [qc 1 [20] 1 (yX a2 v6 h7)] 1 [] [(22, vb (!v6))] [] [] ?_
 refine q_cn (!v6) (fun b8 => ?_) (fun b8 => ?_)
 ·replace hm := qA b8 hm
  refine q_sq ?_
  refine q_vn [] 1 ⟨[(10, vc (.emp)), (11, vi 10)], []⟩ ?_
  refine q_fn [.own 10 1 69 2 (rf e_Node ([] : List Node))] ⟨[(10, vo 1 0 2 0), (11, vi 10)], [(1, ro 0 69 2 0 (rf e_Node ([] : List Node)))]⟩ o0 ?_
  refine q_fn [.len 1 (([] : List Node).length)] ⟨[(10, vo 1 0 2 (([] : List Node).length)), (11, vi 10)], [(1, ro 0 69 2 (([] : List Node).length) (rf e_Node ([] : List Node)))]⟩ (o1 (And.intro (show 0 = ([] : List Node).length from rfl) (show 0 = ([] : List Node).length from rfl))) ?_
  obtain rfl := Option.some.inj hm
  refine qZ 1 0 (by kernel_rfl) ?_
  refine q_rt ?_
  exact q_rm
 ·replace hm := qB b8 hm
  refine q_sk ?_
  refine q_sq ?_
  refine q_jn (ι := Bool) (fun p => CB a1 a2 a3 a4 a5 p) (fun p => DT a1 a2 a3 a4 a5 p = some r) ?_ ?_
  ·rintro x12 hm
   show H _ (CB a1 a2 a3 a4 a5 x12) _ _
   refine q_cn x12 (fun b13 => ?_) (fun b13 => ?_)
   ·replace hm := qA b13 hm
    refine q_sq ?_
    refine q_vn [] 1 ⟨[(10, vc (.emp)), (11, vi 19)], []⟩ ?_
    refine q_fn [.own 10 1 69 2 (rf e_Node ([] : List Node))] ⟨[(10, vo 1 0 2 0), (11, vi 19)], [(1, ro 0 69 2 0 (rf e_Node ([] : List Node)))]⟩ o0 ?_
    refine q_fn [.len 1 (([] : List Node).length)] ⟨[(10, vo 1 0 2 (([] : List Node).length)), (11, vi 19)], [(1, ro 0 69 2 (([] : List Node).length) (rf e_Node ([] : List Node)))]⟩ (o1 (And.intro (show 0 = ([] : List Node).length from rfl) (show 0 = ([] : List Node).length from rfl))) ?_
    obtain rfl := Option.some.inj hm
    refine qZ 1 0 (by kernel_rfl) ?_
    refine q_rt ?_
    exact q_rm
   ·replace hm := qB b13 hm
    refine q_sk ?_
    refine q_sq ?_
    refine q_jn (ι := Bool) (fun p => OO a1 a2 a3 a4 a5 p) (fun p => DW a1 a2 a3 a4 a5 p = some r) ?_ ?_
    ·rintro x15 hm
     show H _ (OO a1 a2 a3 a4 a5 x15) _ _
     refine q_cn x15 (fun b16 => ?_) (fun b16 => ?_)
     ·replace hm := qA b16 hm
      refine q_sq ?_
      refine q_vn [] 1 ⟨[(10, vc (.emp)), (11, vi 9)], []⟩ ?_
      refine q_fn [.own 10 1 69 2 (rf e_Node ([] : List Node))] ⟨[(10, vo 1 0 2 0), (11, vi 9)], [(1, ro 0 69 2 0 (rf e_Node ([] : List Node)))]⟩ o0 ?_
      refine q_fn [.len 1 (([] : List Node).length)] ⟨[(10, vo 1 0 2 (([] : List Node).length)), (11, vi 9)], [(1, ro 0 69 2 (([] : List Node).length) (rf e_Node ([] : List Node)))]⟩ (o1 (And.intro (show 0 = ([] : List Node).length from rfl) (show 0 = ([] : List Node).length from rfl))) ?_
      obtain rfl := Option.some.inj hm
      refine qZ 1 0 (by kernel_rfl) ?_
      refine q_rt ?_
      exact q_rm
     ·replace hm := qB b16 hm
      refine q_sk ?_
      refine q_sq ?_
      refine q_vu [] 1 [38] [(12, vp 1 0)] [] [(1, bx 37 [.emp])] ?_
      refine q_sq ?_
      refine q_vu [] 2 [] [(13, vp 2 0)] [] [(2, bx 3 [ci 0])] ?_
      refine q_sq ?_
      refine q_vu [] 3 [] [(14, vc (.fn 66 [.bptr 2 0 0, .bptr 1 0 0]))] [] [] ?_
      refine q_sq ?_
      obtain ⟨v17, h18, hm⟩ := qC hm
      refine q_vu [qc 2 [40, 41] 3 (FP a1 a2 v17 h18)] 3 [5] [(15, vp 3 0)] [0] [(3, bx 26 (e_Span v17))] ?_
      refine q_sq ?_
      refine q_vu [] 4 [] [(16, vi v17.A), (17, vb false)] [] [] ?_
      refine q_sq ?_
      refine q_sq ?_
      refine q_vu [] 4 [3] [(45, vc (tl e_Span default a4)), (46, vi ((a4.length : Nat) : Int)), (47, vi 0)] [] [] ?_
      refine q_fn [.ownB 1 0 4 69 2 (rf e_Node ([] : List Node))] ⟨[(1, vi a2), (2, vi a3), (4, vc (tl (qV e_Node) default a5)), (12, vp 1 0), (13, vp 2 0), (14, vc (.fn 66 [.bptr 2 0 0, .bptr 1 0 0])), (15, vp 3 0), (16, vi v17.A), (17, vb false), (45, vc (tl e_Span default a4)), (46, vi ((a4.length : Nat) : Int)), (47, vi 0)], [(1, bx 37 [.own 4 0 2 0]), (2, bx 3 [ci 0]), (3, bx 26 (e_Span v17)), (4, ro 0 69 2 0 (rf e_Node ([] : List Node)))]⟩ o0 ?_
      obtain ⟨u52, h51, hm⟩ := qC hm
      refine zP (nd Tryd.f35 16372) 0 (by kernel_rfl) FUEL (fun o => CE o.1 o.2.1 o.2.2) (fun v st => RetQ Tryd.prog Tryd.f35 (NR v) (XJ v) .ret st) u52 (q_hl (FD a2 a3 a4 a5 v17 v17.A false 0 ([] : List Node) 0 0) (qED E a2 a3 a4 a5 v17 FUEL v17.A false 0 ([] : List Node) 0 0 u52 rfl h51)) ?_ ?_
      ·rintro v53 rfl st hr
       obtain rfl := Option.some.inj hm
       exact hr
      ·rintro o50 rfl
       replace hm : _ = some r := hm
       refine q_jn (ι := Int × (List Node) × Nat) (fun p => CL p.1 p.2.1 p.2.2) (fun p => p.2.1.length = p.2.2 ∧ RE p.1 p.2.1 = some r) ?_ ?_
       ·rintro ⟨x57, l58, l58n⟩ ⟨el58, hm⟩
        replace el58 : l58.length = l58n := el58
        subst el58
        show H _ (CL x57 l58 l58.length) _ _
        refine q_sq ?_
        refine q_sq ?_
        refine q_vu [] 6 [13] [(128, vb (decide (x57 > 127)))] [2] [] ?_
        refine q_cn (decide (x57 > 127)) (fun b59 => ?_) (fun b59 => ?_)
        ·replace hm := qA b59 hm
         refine q_sq ?_
         refine q_vn [] 6 ⟨[(10, vc (.emp)), (11, vi 4)], []⟩ ?_
         refine q_fn [.own 10 6 69 2 (rf e_Node ([] : List Node))] ⟨[(10, vo 6 0 2 0), (11, vi 4)], [(6, ro 0 69 2 0 (rf e_Node ([] : List Node)))]⟩ o0 ?_
         refine q_fn [.len 6 (([] : List Node).length)] ⟨[(10, vo 6 0 2 (([] : List Node).length)), (11, vi 4)], [(6, ro 0 69 2 (([] : List Node).length) (rf e_Node ([] : List Node)))]⟩ (o1 (And.intro (show 0 = ([] : List Node).length from rfl) (show 0 = ([] : List Node).length from rfl))) ?_
         obtain rfl := Option.some.inj hm
         refine qZ 6 0 (by kernel_rfl) ?_
         refine q_rt ?_
         exact q_rm
        ·replace hm := qB b59 hm
         refine q_sk ?_
         refine q_sq ?_
         refine q_vu [] 6 [12, 128] [(10, vo 4 0 2 l58.length), (11, vi 0)] [1] [] ?_
         obtain rfl := Option.some.inj hm
         refine qZ 4 0 (by kernel_rfl) ?_
         refine q_rt ?_
         exact q_rm
       ·refine q_sq ?_
        refine q_vu [] 5 [17] [(122, vb (!o50.1))] [] [] ?_
        refine q_cn (!o50.1) (fun b54 => ?_) (fun b54 => ?_)
        ·replace hm := qA b54 hm
         obtain ⟨v55, h56, hm⟩ := qC hm
         refine q_vu [qd 2 (drw 5 0 (rf e_Node ([(Node.mk 0 0)] : List Node))) (litP e_Node default 2 (fun _ => rfl) ([(Node.mk 0 0)] : List Node) 1 rfl), qd 3 (dex (cen [(2, 0), (1, 0), (4, 0)] [0, 0, 1] 3 2 (WJ ([(Node.mk 0 0)] : List Node) o50.2.2 o50.2.1 v55) (pattern_Row_1_s1_o ([(Node.mk 0 0)] : List Node) o50.2.2 o50.2.1 v55) [123, 125] [2, 1, 4, 5])) (WA (K := (kx E 130 0)) (xs' := [.one (.lst 1 (rf e_Node ([(Node.mk 0 0)] : List Node))), .one (.bptr 0 0 0), .one (.bptr 1 0 0)]) (b := false) ⟨[(123, vc (.fn 66 [.bptr 2 0 0, .bptr 1 0 0])), (125, vo 5 0 2 1)], [(2, bx 3 [ci o50.2.2]), (1, bx 37 [.own 4 0 2 o50.2.1.length]), (4, ro 0 69 2 o50.2.1.length (rf e_Node o50.2.1)), (5, ro 0 69 2 1 (rf e_Node ([(Node.mk 0 0)] : List Node)))]⟩ (opAt (rg Tryd.f35 16378) 3) [(2, 0), (1, 0), (4, 0)] [0, 0, 1] 3 (o1 (Nat.le_refl 1)) (by simp only [tl, rf, show ([(Node.mk 0 0)] : List Node).length = 1 from rfl]) (YW ([(Node.mk 0 0)] : List Node) o50.2.2 o50.2.1 v55 h56) (.inr ⟨(by kernel_rfl), GX  ([(Node.mk 0 0)] : List Node) o50.2.2 o50.2.1 v55⟩) (by kernel_rfl))] 5 [14, 122] [] [1, 2, 4] [(1, bx 37 [.own 4 1 2 v55.2.length]), (2, bx 3 [ci v55.1]), (4, ro 1 69 2 v55.2.length (rf e_Node v55.2))] ?_
         exact q_J (v55.1, v55.2, v55.2.length) ⟨rfl, hm⟩
        ·replace hm := qB b54 hm
         refine q_sk ?_
         exact q_J (o50.2.2, o50.2.1, o50.2.1.length) ⟨rfl, hm⟩
    ·rcases Bool.eq_false_or_eq_true (decide (a3 < 0)) with b14 | b14
     ·replace hm := qA b14 hm
      refine q_vu [qf 2 b14] 1 [32] [(38, vb true)] [] [] ?_
      exact q_J (true) hm
     ·replace hm := qB b14 hm
      refine q_vu [qf 2 b14] 1 [32] [(38, vb (decide (a3 > 20)))] [] [] ?_
      exact q_J (decide (a3 > 20)) hm
  ·obtain ⟨v9, h10, hm⟩ := qC hm
   rcases Bool.eq_false_or_eq_true (!v9) with b11 | b11
   ·replace hm := qA b11 hm
    refine q_vu [qc 1 [23] 1 (XW a1 v9 h10), qf 3 b11] 1 [22] [(32, vb true)] [] [] ?_
    exact q_J (true) hm
   ·replace hm := qB b11 hm
    refine q_vu [qc 1 [23] 1 (XW a1 v9 h10), qf 3 b11] 1 [22] [(32, vb (((a4.length : Nat) : Int) != ((a5.length : Nat) : Int)))] [] [] ?_
    exact q_J (((a4.length : Nat) : Int) != ((a5.length : Nat) : Int)) hm
def qLo (r : (List Node) × Int × Int) : V := .tup [.one (.own 0 0 2 r.1.length), .one (ci r.2.1), .one (ci r.2.2)]
def qK8 (r : (List Node) × Int × Int) : List (Nat × (Nat × O)) := [(0, ro 0 69 2 r.1.length (rf e_Node r.1))]
def SH (a4 : Rect) (a5 : Saw) (v10 : (List Piece) × Int × Int) (v13 : (List Int) × (List Int)) (l15 : List Span) (l15n : Nat) (l16 : List (List Node)) (l16n : Nat) (x17 : Int) : St :=
 ⟨[(9, vp 0 0), (10, vp 1 0), (18, vi v10.2.1), (19, vo 9 0 1 v13.1.length), (20, vo 10 0 1 v13.2.length), (21, vo 11 0 2 l15n), (22, vo 12 0 1 l16n), (60, vo 8 0 2 v10.1.length), (61, vi ((v10.1.length : Nat) : Int)), (62, vi x17)], [(0, bx 28 (qK a4)), (1, bx 30 (zL a5)), (8, ro 0 98 2 v10.1.length (rf yA v10.1)), (9, ro 0 3 1 v13.1.length (rf e_i64 v13.1)), (10, ro 0 3 1 v13.2.length (rf e_i64 v13.2)), (11, ro 0 26 2 l15n (rf e_Span l15)), (12, ro 0 37 1 l16n (rf (qV e_Node) l16))]⟩
def qBL (a4 : Rect) (a5 : Saw) (v10 : (List Piece) × Int × Int) (l27 : List Span) (l28 : List (List Node)) : St :=
 ⟨[(9, vp 0 0), (10, vp 1 0), (18, vi v10.2.1), (21, vo 11 0 2 l27.length), (22, vo 12 0 1 l28.length)], [(0, bx 28 (qK a4)), (1, bx 30 (zL a5)), (11, ro 0 26 2 l27.length (rf e_Span l27)), (12, ro 0 37 1 l28.length (rf (qV e_Node) l28))]⟩
theorem qGB (E : Env 0) (a4 : Rect) (a5 : Saw) (v10 : (List Piece) × Int × Int) (v13 : (List Int) × (List Int)) : ∀ (n : Nat) (l15 : List Span) (l15n : Nat) (l16 : List (List Node)) (l16n : Nat) (x17 : Int) (res : (List Span) × (List (List Node))), l15.length = l15n → l16.length = l16n → PZ a4 v10 v13 n l15 l16 x17 = some res → HL (kx E 106 0) (nd Tryd.f16 8180) (wO 0 (fun o => qBL a4 a5 v10 o.1 o.2) res) n (SH a4 a5 v10 v13 l15 l15n l16 l16n x17) := by
 intro n
 induction n with
 | zero =>
  intro l15 l15n l16 l16n x17 res hl0 hl1 hm
  cases hm
 | succ n ih =>
  intro l15 l15n l16 l16n x17 res hl0 hl1 hm
  subst hl0
  subst hl1
  refine qQ ?_
  refine q_sq ?_
  refine q_vu [] 13 [] [(63, vb (decide (x17 < ((v10.1.length : Nat) : Int))))] [] [] ?_
  refine q_sq ?_
  refine q_cn (decide (x17 < ((v10.1.length : Nat) : Int))) (fun b18 => ?_) (fun b18 => ?_)
  ·replace hm := qA b18 hm
   refine q_sk ?_
   refine q_sq ?_
   refine q_bk 1 ?_
   refine q_sq ?_
   obtain ⟨g19, hm⟩ := qM hm
   refine q_vu [qd 0 (Dir.none) (inb_of g19), qd 1 (Dir.none) (toNat_lt (inb_of g19))] 13 [63] [(24, vp 13 0)] [] [(13, bx 98 [ci ((v10.1.getD x17.toNat default).Size), ci ((v10.1.getD x17.toNat default).At)])] ?_
   refine q_sq ?_
   obtain ⟨g20, hm⟩ := qM hm
   obtain ⟨v21, h22, hm⟩ := qC hm
   obtain ⟨g23, hm⟩ := qM hm
   refine q_du [qd 9 (Dir.none) (inb_of g20), qd 10 (Dir.none) (toNat_lt (inb_of g20)), qc 12 [67, 69, 77] 14 (CD a4 ((v10.1.getD x17.toNat default).At) (w64 (((v10.1.getD x17.toNat default).At) + (v13.1.getD (((v10.1.getD x17.toNat default).Size).toNat) default))) v21 h22), qd 14 (drw 14 0 (rf e_Span ([v21.X] : List Span))) (litP e_Span default 2 (fun _ => rfl) ([v21.X] : List Span) 1 rfl), qd 15 (drw 11 1 (rf e_Span (l15 ++ ([v21.X] : List Span)))) (apP e_Span default l15 ([v21.X] : List Span) l15.length 1 2 16 (1 ≤ 1) (Nat.le_refl _) rfl rfl (fun _ => rfl) (wR g23))] [0, 0, 0, 4, 0, 16, 0, 0, 128, 448, 960, 2032, 4094, 8190, 16382, 32767, 65535] 14 [21] [(21, vo 11 1 2 (l15.length + 1))] [11] [(11, ro 1 26 2 (l15.length + 1) (rf e_Span (l15 ++ ([v21.X] : List Span))))] ?_
   obtain ⟨g24, hm⟩ := qM hm
   obtain ⟨v25, h26, hm⟩ := qC hm
   refine q_vu [qd 4 (Dir.none) (inb_of g24), qd 5 (Dir.none) (toNat_lt (inb_of g24)), qd 7 (drw 15 0 (rf e_Node ([(Node.mk 1 (v13.2.getD (((v10.1.getD x17.toNat default).Size).toNat) default))] : List Node))) (litP e_Node default 2 (fun _ => rfl) ([(Node.mk 1 (v13.2.getD (((v10.1.getD x17.toNat default).Size).toNat) default))] : List Node) 1 rfl), qd 8 (dpr [.len 15 (([(Node.mk 1 (v13.2.getD (((v10.1.getD x17.toNat default).Size).toNat) default))] : List Node).length)] (dex (cen [(12, 0), (15, 0)] [1, 1] 14 0 (IZ l16 ([(Node.mk 1 (v13.2.getD (((v10.1.getD x17.toNat default).Size).toNat) default))] : List Node) v25) (IL l16 ([(Node.mk 1 (v13.2.getD (((v10.1.getD x17.toNat default).Size).toNat) default))] : List Node) v25) [82, 89] [12, 15]))) (And.intro (show 1 = ([(Node.mk 1 (v13.2.getD (((v10.1.getD x17.toNat default).Size).toNat) default))] : List Node).length from rfl) (show 1 = ([(Node.mk 1 (v13.2.getD (((v10.1.getD x17.toNat default).Size).toNat) default))] : List Node).length from rfl)), qd 8 (Dir.none) (WA (K := (kx E 106 0)) ⟨[(82, vo 12 0 1 l16.length), (89, vo 15 0 2 (([(Node.mk 1 (v13.2.getD (((v10.1.getD x17.toNat default).Size).toNat) default))] : List Node).length))], [(12, ro 0 37 1 l16.length (rf (qV e_Node) l16)), (15, ro 0 69 2 (([(Node.mk 1 (v13.2.getD (((v10.1.getD x17.toNat default).Size).toNat) default))] : List Node).length) (rf e_Node ([(Node.mk 1 (v13.2.getD (((v10.1.getD x17.toNat default).Size).toNat) default))] : List Node)))]⟩ (opAt (rg Tryd.f16 523571) 8) [(12, 0), (15, 0)] [1, 1] 14 o0 rfl (qDe l16 ([(Node.mk 1 (v13.2.getD (((v10.1.getD x17.toNat default).Size).toNat) default))] : List Node) v25 h26) (.inl rfl) (by kernel_rfl))] 15 [22, 24] [(22, vo 12 1 1 v25.2.length)] [12, 13] [(12, ro 1 37 1 v25.2.length (rf (qV e_Node) v25.2))] ?_
   refine q_vu [] 16 [62] [(62, vi (w64 (x17 + 1)))] [] [] ?_
   exact q_hl (SH a4 a5 v10 v13 (l15 ++ ([v21.X] : List Span)) (l15.length + 1) v25.2 v25.2.length (w64 (x17 + 1))) (ih (l15 ++ ([v21.X] : List Span)) (l15.length + 1) v25.2 v25.2.length (w64 (x17 + 1)) _ (len_app rfl rfl) rfl hm)
  ·replace hm := qB b18 hm
   refine q_ex 0 ?_
   obtain rfl := Option.some.inj hm
   exact yM (by kernel_rfl) (by kernel_rfl)
theorem qKf (a1 : List qD) (a2 : List Defect) (a3 : List Product) (a4 : Rect) (a5 : Saw) (a6 : Rates) (r : (List Node) × Int × Int) (hm : ER a1 a2 a3 a4 a5 a6 = some r) : CtX Tryd.prog globs 16 0 0 [.one (tl qI default a1), .one (tl qH default a2), .one (tl qE default a3), .agg (qK a4), .agg (zL a5), .agg (zM a6)] [] (qLo r) (qK8 r) := by
 unfold ER at hm
 refine q_E Tryd.f16 106 fun E => ?_
 refine q_sq ?_
 refine q_vn [] 0 ⟨[(0, vc (tl qI default a1)), (1, vc (tl qH default a2)), (2, vc (tl qE default a3)), (9, vp 0 0), (10, vp 1 0), (11, vp 2 0)], [(0, bx 28 (qK a4)), (1, bx 30 (zL a5)), (2, bx 32 (zM a6))]⟩ ?_
 refine q_sq ?_
 obtain ⟨v7, h8, hm⟩ := qC hm
 refine q_vu [qc 6 [27, 28, 29, 30, 31, 32] 3 (qDS a1 a2 a3 a4 a5 a6 v7 h8)] 3 [0, 1, 11] [(15, vp 7 0), (16, vi v7.2)] [2] [(3, ro 0 3 1 v7.1.Sizes.length (rf e_i64 v7.1.Sizes)), (4, ro 0 57 1 v7.1.Gain.length (rf (qV e_i64) v7.1.Gain)), (5, ro 0 3 1 v7.1.Chip.length (rf e_i64 v7.1.Chip)), (6, ro 0 3 1 v7.1.Dust.length (rf e_i64 v7.1.Dust)), (7, bx 63 [ci v7.1.Len, ci v7.1.Kerf, ci v7.1.Pitch, .own 3 0 1 v7.1.Sizes.length, .own 4 0 1 v7.1.Gain.length, .own 5 0 1 v7.1.Chip.length, .own 6 0 1 v7.1.Dust.length])] ?_
 refine q_sq ?_
 refine q_sq ?_
 refine q_vu [] 8 [] [(37, vb (v7.2 != 0))] [] [] ?_
 refine q_cn (v7.2 != 0) (fun b9 => ?_) (fun b9 => ?_)
 ·replace hm := qA b9 hm
  refine q_sq ?_
  refine q_vn [] 8 ⟨[(12, vc (.emp)), (13, vi 0), (14, vi v7.2)], []⟩ ?_
  refine q_fn [.own 12 8 69 2 (rf e_Node ([] : List Node))] ⟨[(12, vo 8 0 2 0), (13, vi 0), (14, vi v7.2)], [(8, ro 0 69 2 0 (rf e_Node ([] : List Node)))]⟩ o0 ?_
  refine q_fn [.len 8 (([] : List Node).length)] ⟨[(12, vo 8 0 2 (([] : List Node).length)), (13, vi 0), (14, vi v7.2)], [(8, ro 0 69 2 (([] : List Node).length) (rf e_Node ([] : List Node)))]⟩ (o1 (And.intro (show 0 = ([] : List Node).length from rfl) (show 0 = ([] : List Node).length from rfl))) ?_
  obtain rfl := Option.some.inj hm
  refine qZ 8 0 (by kernel_rfl) ?_
  refine q_rt ?_
  exact q_rm
 ·replace hm := qB b9 hm
  refine q_sk ?_
  refine q_sq ?_
  obtain ⟨v10, h11, hm⟩ := qC hm
  refine q_vu [qd 1 (dex (cen [] [] 8 0 (qBT v10) (DL v10) [40] [3, 4, 5, 6])) (WA (K := (kx E 106 0)) (b := false) ⟨[(40, va [ci v7.1.Len, ci v7.1.Kerf, ci v7.1.Pitch, .own 3 0 1 v7.1.Sizes.length, .own 4 0 1 v7.1.Gain.length, .own 5 0 1 v7.1.Chip.length, .own 6 0 1 v7.1.Dust.length])], [(3, ro 0 3 1 v7.1.Sizes.length (rf e_i64 v7.1.Sizes)), (4, ro 0 57 1 v7.1.Gain.length (rf (qV e_i64) v7.1.Gain)), (5, ro 0 3 1 v7.1.Chip.length (rf e_i64 v7.1.Chip)), (6, ro 0 3 1 v7.1.Dust.length (rf e_i64 v7.1.Dust))]⟩ (opAt (rg Tryd.f16 30) 1) [] [] 8 (o1 (And.intro (Nat.le_refl v7.1.Sizes.length) (And.intro (Nat.le_refl v7.1.Gain.length) (And.intro (Nat.le_refl v7.1.Chip.length) (Nat.le_refl v7.1.Dust.length))))) rfl (cutting_Best_ok (Line.mk v7.1.Len v7.1.Kerf v7.1.Pitch v7.1.Sizes v7.1.Gain v7.1.Chip v7.1.Dust) v10 h11) (.inr ⟨(by kernel_rfl), qHA v10⟩) (by kernel_rfl))] 8 [15, 16, 37] [(16, vi v10.2.2), (17, vo 8 0 2 v10.1.length), (18, vi v10.2.1)] [3, 4, 5, 6, 7] [(8, ro 0 98 2 v10.1.length (rf yA v10.1))] ?_
  refine q_sq ?_
  refine q_sq ?_
  refine q_vu [] 9 [] [(46, vb (v10.2.2 != 0))] [] [] ?_
  refine q_cn (v10.2.2 != 0) (fun b12 => ?_) (fun b12 => ?_)
  ·replace hm := qA b12 hm
   refine q_sq ?_
   refine q_vn [] 9 ⟨[(12, vc (.emp)), (13, vi 0), (14, vi v10.2.2)], []⟩ ?_
   refine q_fn [.own 12 9 69 2 (rf e_Node ([] : List Node))] ⟨[(12, vo 9 0 2 0), (13, vi 0), (14, vi v10.2.2)], [(9, ro 0 69 2 0 (rf e_Node ([] : List Node)))]⟩ o0 ?_
   refine q_fn [.len 9 (([] : List Node).length)] ⟨[(12, vo 9 0 2 (([] : List Node).length)), (13, vi 0), (14, vi v10.2.2)], [(9, ro 0 69 2 (([] : List Node).length) (rf e_Node ([] : List Node)))]⟩ (o1 (And.intro (show 0 = ([] : List Node).length from rfl) (show 0 = ([] : List Node).length from rfl))) ?_
   obtain rfl := Option.some.inj hm
   refine qZ 9 0 (by kernel_rfl) ?_
   refine q_rt ?_
   exact q_rm
  ·replace hm := qB b12 hm
   refine q_sk ?_
   refine q_sq ?_
   obtain ⟨v13, h14, hm⟩ := qC hm
   refine q_vu [qc 8 [49, 56] 9 (AV a3 (w64 (a4.Y.B - a4.Y.A)) v13 h14)] 9 [2, 16, 46] [(19, vo 9 0 1 v13.1.length), (20, vo 10 0 1 v13.2.length)] [] [(9, ro 0 3 1 v13.1.length (rf e_i64 v13.1)), (10, ro 0 3 1 v13.2.length (rf e_i64 v13.2))] ?_
   refine q_sq ?_
   refine q_vu [] 11 [] [(21, vc (.emp))] [] [] ?_
   refine q_sq ?_
   refine q_vu [] 11 [] [(22, vc (.emp))] [] [] ?_
   refine q_sq ?_
   refine q_sq ?_
   refine q_vu [] 11 [17] [(60, vo 8 0 2 v10.1.length), (61, vi ((v10.1.length : Nat) : Int)), (62, vi 0)] [] [] ?_
   refine q_fn [.own 21 11 26 2 (rf e_Span ([] : List Span))] ⟨[(9, vp 0 0), (10, vp 1 0), (18, vi v10.2.1), (19, vo 9 0 1 v13.1.length), (20, vo 10 0 1 v13.2.length), (21, vo 11 0 2 0), (22, vc (.emp)), (60, vo 8 0 2 v10.1.length), (61, vi ((v10.1.length : Nat) : Int)), (62, vi 0)], [(0, bx 28 (qK a4)), (1, bx 30 (zL a5)), (8, ro 0 98 2 v10.1.length (rf yA v10.1)), (9, ro 0 3 1 v13.1.length (rf e_i64 v13.1)), (10, ro 0 3 1 v13.2.length (rf e_i64 v13.2)), (11, ro 0 26 2 0 (rf e_Span ([] : List Span)))]⟩ o0 ?_
   refine q_fn [.own 22 12 37 1 (rf (qV e_Node) ([] : List (List Node)))] ⟨[(9, vp 0 0), (10, vp 1 0), (18, vi v10.2.1), (19, vo 9 0 1 v13.1.length), (20, vo 10 0 1 v13.2.length), (21, vo 11 0 2 0), (22, vo 12 0 1 0), (60, vo 8 0 2 v10.1.length), (61, vi ((v10.1.length : Nat) : Int)), (62, vi 0)], [(0, bx 28 (qK a4)), (1, bx 30 (zL a5)), (8, ro 0 98 2 v10.1.length (rf yA v10.1)), (9, ro 0 3 1 v13.1.length (rf e_i64 v13.1)), (10, ro 0 3 1 v13.2.length (rf e_i64 v13.2)), (11, ro 0 26 2 0 (rf e_Span ([] : List Span))), (12, ro 0 37 1 0 (rf (qV e_Node) ([] : List (List Node))))]⟩ o0 ?_
   obtain ⟨o29, h30, hm⟩ := qC hm
   refine wB (nd Tryd.f16 8180) 0 (by kernel_rfl) FUEL (fun o => qBL a4 a5 v10 o.1 o.2) o29 (q_hl (SH a4 a5 v10 v13 ([] : List Span) 0 ([] : List (List Node)) 0 0) (qGB E a4 a5 v10 v13 FUEL ([] : List Span) 0 ([] : List (List Node)) 0 0 o29 rfl rfl h30)) ?_
   refine q_sq ?_
   obtain ⟨v31, h32, hm⟩ := qC hm
   refine q_vn [qd 5 (dex (cen [] [] 13 0 (NR v31) (XJ v31) [93, 95, 96, 97] [11, 12])) (WA (K := (kx E 106 0)) (b := false) ⟨[(93, va (qK a4)), (95, vi a5.Kerf), (96, vo 11 0 2 o29.1.length), (97, vo 12 0 1 o29.2.length)], [(11, ro 0 26 2 o29.1.length (rf e_Span o29.1)), (12, ro 0 37 1 o29.2.length (rf (qV e_Node) o29.2))]⟩ (opAt (rg Tryd.f16 2046) 5) [] [] 13 (o1 (And.intro (Nat.le_refl o29.1.length) (Nat.le_refl o29.2.length))) rfl (pattern_Row_ok a4 2 a5.Kerf o29.1 o29.2 v31 h32) (.inr ⟨(by kernel_rfl), qIS v31⟩) (by kernel_rfl))] 13 ⟨[(16, vi v31.2), (18, vi v10.2.1), (25, vo 13 0 2 v31.1.length)], [(13, ro 0 69 2 v31.1.length (rf e_Node v31.1))]⟩ ?_
   refine q_sq ?_
   refine q_sq ?_
   refine q_vu [] 14 [] [(102, vb (v31.2 != 0))] [] [] ?_
   refine q_cn (v31.2 != 0) (fun b33 => ?_) (fun b33 => ?_)
   ·replace hm := qA b33 hm
    refine q_sq ?_
    refine q_vn [] 14 ⟨[(12, vc (.emp)), (13, vi 0), (14, vi v31.2)], []⟩ ?_
    refine q_fn [.own 12 14 69 2 (rf e_Node ([] : List Node))] ⟨[(12, vo 14 0 2 0), (13, vi 0), (14, vi v31.2)], [(14, ro 0 69 2 0 (rf e_Node ([] : List Node)))]⟩ o0 ?_
    refine q_fn [.len 14 (([] : List Node).length)] ⟨[(12, vo 14 0 2 (([] : List Node).length)), (13, vi 0), (14, vi v31.2)], [(14, ro 0 69 2 (([] : List Node).length) (rf e_Node ([] : List Node)))]⟩ (o1 (And.intro (show 0 = ([] : List Node).length from rfl) (show 0 = ([] : List Node).length from rfl))) ?_
    obtain rfl := Option.some.inj hm
    refine qZ 14 0 (by kernel_rfl) ?_
    refine q_rt ?_
    exact q_rm
   ·replace hm := qB b33 hm
    refine q_sk ?_
    refine q_sq ?_
    refine q_vu [] 14 [16, 18, 25, 102] [(12, vo 13 0 2 v31.1.length), (13, vi v10.2.1), (14, vi 0)] [] [] ?_
    obtain rfl := Option.some.inj hm
    refine qZ 13 0 (by kernel_rfl) ?_
    refine q_rt ?_
    exact q_rm
set_option maxRecDepth 100000
def qLv (r : Box) : V := va (QE r)
def qLz (r : Box) : List (Nat × (Nat × O)) := []
theorem MR (a1 : Rect) (a2 : Span) (r : Box) (hm : KG a1 a2 = some r) : CtX Tryd.prog globs 20 0 0 [.agg (qK a1), .agg (e_Span a2)] [] (qLv r) (qLz r) := by
 unfold KG at hm
 refine q_E Tryd.f20 11 fun E => ?_
 refine q_sq ?_
 refine q_vn [] 0 ⟨[(2, vp 0 0), (3, vp 1 0), (4, vp 2 0)], [(0, bx 28 (qK a1)), (1, bx 26 (e_Span a2)), (2, bx 50 [ci 0, ci 0, ci 0, ci 0, ci 0, ci 0])]⟩ ?_
 refine q_sq ?_
 refine q_vn [] 3 ⟨[(4, vp 2 0)], [(2, bx 50 [ci a1.X.A, ci a1.X.B, ci a1.Y.A, ci a1.Y.B, ci a2.A, ci a2.B])]⟩ ?_
 obtain rfl := Option.some.inj hm
 refine q_rt ?_
 exact q_rm
open Go.Proofs
set_option maxHeartbeats 4000000
set_option maxRecDepth 100000
def qEZ (r : qF × Int) : V := vc (.fn 77 [.bptr 0 0 0, .bptr 1 0 0])
def qFy (r : qF × Int) : List (Nat × (Nat × O)) := [(0, bx 46 (qG r.1)), (1, bx 3 [ci r.2])]
theorem KW (a1 : qF) (a2 : Int) (r : qF × Int) (hm : jF a1 a2 = some r) : CtX Tryd.prog globs 45 0 0 [.agg (qG a1), .one (ci a2)] [] (qEZ r) (qFy r) := by
 unfold jF at hm
 refine q_E Tryd.f45 6 fun E => ?_
 refine q_sq ?_
 refine q_vn [] 0 ⟨[(2, vp 0 0), (3, vp 1 0)], [(0, bx 46 (qG a1)), (1, bx 3 [ci a2])]⟩ ?_
 refine q_sq ?_
 refine q_vu [] 2 [2, 3] [(4, vc (.fn 77 [.bptr 0 0 0, .bptr 1 0 0]))] [] [] ?_
 obtain rfl := Option.some.inj hm
 refine q_rt ?_
 exact q_rm
def qCG (r : Int) : V := vi r
def qCR (r : Int) : List (Nat × (Nat × O)) := []
def BU : St :=
 ⟨[], []⟩
def NG (x15 : Bool) : St :=
 ⟨[(46, vb x15)], []⟩
def BZ (a1 : Node) (a2 : Pattern_place) (x6 : Bool) : St :=
 ⟨[(2, vp 0 0), (3, vp 1 0), (23, vb x6)], [(0, bx 69 (e_Node a1)), (1, bx 122 (e_Pattern_place a2))]⟩
theorem MD (a1 : Node) (a2 : Pattern_place) (r : Int) (hm : QV a1 a2 = some r) : CtX Tryd.prog globs 76 0 0 [.agg (e_Node a1), .agg (e_Pattern_place a2)] [] (qCG r) (qCR r) := by
 unfold QV at hm
 refine q_E Tryd.f76 47 fun E => ?_
 refine q_sq ?_
 refine q_vn [] 0 ⟨[(2, vp 0 0), (3, vp 1 0)], [(0, bx 69 (e_Node a1)), (1, bx 122 (e_Pattern_place a2))]⟩ ?_
 refine q_sq ?_
 refine q_jn (ι := Bool) (fun p => BZ a1 a2 p) (fun p => wZ a1 a2 p = some r) ?_ ?_
 ·rintro x6 hm
  show H _ (BZ a1 a2 x6) _ _
  refine q_cn x6 (fun b7 => ?_) (fun b7 => ?_)
  ·replace hm := qA b7 hm
   refine q_sq ?_
   refine q_vn [] 2 ⟨[(4, vi 10)], []⟩ ?_
   obtain rfl := Option.some.inj hm
   refine q_rt ?_
   exact q_rm
  ·replace hm := qB b7 hm
   refine q_sk ?_
   refine q_sq ?_
   refine q_sq ?_
   refine q_vu [] 2 [23] [(26, vb (decide (a2.level > 64)))] [] [] ?_
   refine q_cn (decide (a2.level > 64)) (fun b8 => ?_) (fun b8 => ?_)
   ·replace hm := qA b8 hm
    refine q_sq ?_
    refine q_vn [] 2 ⟨[(4, vi 28)], []⟩ ?_
    obtain rfl := Option.some.inj hm
    refine q_rt ?_
    exact q_rm
   ·replace hm := qB b8 hm
    refine q_sk ?_
    refine q_jn (ι := Unit) (fun p => BU) (fun p => QK = some r) ?_ ?_
    ·rintro _ hm
     show H _ (BU) _ _
     refine q_sq ?_
     refine q_vn [] 3 ⟨[(4, vi 0)], []⟩ ?_
     obtain rfl := Option.some.inj hm
     refine q_rt ?_
     exact q_rm
    ·refine q_sq ?_
     obtain ⟨v9, h10, hm⟩ := qC hm
     refine q_vu [qc 2 [28] 2 (yX a1.Kind v9 h10)] 2 [26] [(29, vb v9)] [] [] ?_
     refine q_cn v9 (fun b11 => ?_) (fun b11 => ?_)
     ·replace hm := qA b11 hm
      refine q_sq ?_
      obtain ⟨v12, h13, hm⟩ := qC hm
      refine q_vu [qc 4 [31, 33] 2 (FP a2.rect a1.Kind v12 h13)] 2 [3, 29] [(5, vp 2 0)] [1] [(2, bx 26 (e_Span v12))] ?_
      refine q_jn (ι := Bool) (fun p => NG p) (fun p => JK p = some r) ?_ ?_
      ·rintro x15 hm
       show H _ (NG x15) _ _
       refine q_cn x15 (fun b16 => ?_) (fun b16 => ?_)
       ·replace hm := qA b16 hm
        refine q_sq ?_
        refine q_vn [] 3 ⟨[(4, vi 20)], []⟩ ?_
        obtain rfl := Option.some.inj hm
        refine q_rt ?_
        exact q_rm
       ·replace hm := qB b16 hm
        refine q_sk ?_
        exact q_J () hm
      ·rcases Bool.eq_false_or_eq_true (decide (a1.At ≤ v12.A)) with b14 | b14
       ·replace hm := qA b14 hm
        refine q_vn [qf 5 b14] 3 ⟨[(46, vb true)], []⟩ ?_
        exact q_J (true) hm
       ·replace hm := qB b14 hm
        refine q_vn [qf 5 b14] 3 ⟨[(46, vb (decide (a1.At ≥ v12.B)))], []⟩ ?_
        exact q_J (decide (a1.At ≥ v12.B)) hm
     ·replace hm := qB b11 hm
      refine q_sk ?_
      exact q_J () hm
 ·rcases Bool.eq_false_or_eq_true (decide (a1.Kind < 0)) with b3 | b3
  ·replace hm := qA b3 hm
   refine q_vu [qf 3 b3] 2 [] [(23, vb true)] [] [] ?_
   exact q_J (true) hm
  ·replace hm := qB b3 hm
   rcases Bool.eq_false_or_eq_true (decide (a1.Kind > 3)) with b4 | b4
   ·replace hm := qA b4 hm
    refine q_vu [qf 3 b3, qf 8 b4] 2 [] [(23, vb true)] [] [] ?_
    exact q_J (true) hm
   ·replace hm := qB b4 hm
    rcases Bool.eq_false_or_eq_true (a1.Kind == 0) with b5 | b5
    ·replace hm := qA b5 hm
     refine q_vu [qf 3 b3, qf 8 b4, qf 12 b5] 2 [] [(23, vb (a1.At != 0))] [] [] ?_
     exact q_J (a1.At != 0) hm
    ·replace hm := qB b5 hm
     refine q_vu [qf 3 b3, qf 8 b4, qf 12 b5] 2 [] [(23, vb false)] [] [] ?_
     exact q_J (false) hm
set_option maxRecDepth 100000
def IJ (a1 : Rect) (a2 : Int) (a3 : List Product) (r : Int) : V := vi r
def pattern_Check_1_o (a1 : Rect) (a2 : Int) (a3 : List Product) (r : Int) : List (Nat × (Nat × O)) := [(0, bx 24 [tl qE default a3])]
def MJ (a3 : List Product) (x18 : Bool) : St :=
 ⟨[(49, vb x18)], [(0, bx 24 [tl qE default a3])]⟩
def MU (a1 : Rect) (a2 : Int) (a3 : List Product) (x5 : Bool) : St :=
 ⟨[(1, vi a2), (2, vp 0 0), (3, vp 1 0), (17, vb x5)], [(0, bx 24 [tl qE default a3]), (1, bx 28 (qK a1))]⟩
theorem qDH (a1 : Rect) (a2 : Int) (a3 : List Product) (r : Int) (hm : KC a1 a2 a3 = some r) : CtX Tryd.prog globs 72 1 1 [.agg (qK a1), .one (ci a2), .one (.bptr 0 0 0)] [(0, bx 24 [tl qE default a3])] (IJ a1 a2 a3 r) (pattern_Check_1_o a1 a2 a3 r) := by
 unfold KC at hm
 refine q_E Tryd.f72 50 fun E => ?_
 refine q_sq ?_
 refine q_vn [] 1 ⟨[(1, vi a2), (2, vp 0 0), (3, vp 1 0)], [(0, bx 24 [tl qE default a3]), (1, bx 28 (qK a1))]⟩ ?_
 refine q_sq ?_
 refine q_jn (ι := Bool) (fun p => MU a1 a2 a3 p) (fun p => yY a1 a2 a3 p = some r) ?_ ?_
 ·rintro x5 hm
  show H _ (MU a1 a2 a3 x5) _ _
  refine q_cn x5 (fun b6 => ?_) (fun b6 => ?_)
  ·replace hm := qA b6 hm
   refine q_sq ?_
   refine q_vu [] 2 [1, 2, 3, 17] [(5, vi 8)] [1] [] ?_
   obtain rfl := Option.some.inj hm
   refine q_rt ?_
   exact q_rm
  ·replace hm := qB b6 hm
   refine q_sk ?_
   refine q_sq ?_
   obtain ⟨g7, hm⟩ := qM hm
   obtain ⟨v8, h9, hm⟩ := qC hm
   refine q_vu [qd 2 (Dir.none) (inb_of g7), qc 4 [22] 2 (RY (a3.getD a2.toNat default) v8 h9)] 2 [1, 2, 17] [(6, vi v8.1), (7, vi v8.2)] [] [] ?_
   refine q_sq ?_
   obtain ⟨v10, h11, hm⟩ := qC hm
   obtain ⟨v12, h13, hm⟩ := qC hm
   refine q_du [qc 2 [27] 2 (UG a1.X v10 h11), qc 5 [30] 2 (UG a1.Y v12 h13)] [0, 1, 3, 0, 8, 31, 63, 127] 2 [3] [(8, vi v10), (9, vi v12)] [1] [] ?_
   refine q_sq ?_
   refine q_jn (ι := Bool) (fun p => MJ a3 p) (fun p => jQ p = some r) ?_ ?_
   ·rintro x18 hm
    show H _ (MJ a3 x18) _ _
    refine q_cn x18 (fun b19 => ?_) (fun b19 => ?_)
    ·replace hm := qA b19 hm
     refine q_sq ?_
     refine q_vu [] 2 [49] [(5, vi 20)] [] [] ?_
     obtain rfl := Option.some.inj hm
     refine q_rt ?_
     exact q_rm
    ·replace hm := qB b19 hm
     refine q_sk ?_
     refine q_sq ?_
     refine q_vu [] 2 [49] [(5, vi 0)] [] [] ?_
     obtain rfl := Option.some.inj hm
     refine q_rt ?_
     exact q_rm
   ·rcases Bool.eq_false_or_eq_true (v10 != v8.1) with b14 | b14
    ·replace hm := qA b14 hm
     rcases Bool.eq_false_or_eq_true (v10 != v8.2) with b15 | b15
     ·replace hm := qA b15 hm
      refine q_vu [qf 3 b14, qf 12 b15] 2 [6, 7, 8, 9] [(49, vb true)] [] [] ?_
      exact q_J (true) hm
     ·replace hm := qB b15 hm
      refine q_vu [qf 3 b14, qf 12 b15] 2 [6, 7, 8, 9] [(49, vb (v12 != v8.1))] [] [] ?_
      exact q_J (v12 != v8.1) hm
    ·replace hm := qB b14 hm
     rcases Bool.eq_false_or_eq_true (v12 != v8.2) with b16 | b16
     ·replace hm := qA b16 hm
      rcases Bool.eq_false_or_eq_true (v10 != v8.2) with b17 | b17
      ·replace hm := qA b17 hm
       refine q_vu [qf 3 b14, qf 8 b16, qf 12 b17] 2 [6, 7, 8, 9] [(49, vb true)] [] [] ?_
       exact q_J (true) hm
      ·replace hm := qB b17 hm
       refine q_vu [qf 3 b14, qf 8 b16, qf 12 b17] 2 [6, 7, 8, 9] [(49, vb (v12 != v8.1))] [] [] ?_
       exact q_J (v12 != v8.1) hm
     ·replace hm := qB b16 hm
      refine q_vu [qf 3 b14, qf 8 b16] 2 [6, 7, 8, 9] [(49, vb false)] [] [] ?_
      exact q_J (false) hm
 ·rcases Bool.eq_false_or_eq_true (decide (a2 < 0)) with b4 | b4
  ·replace hm := qA b4 hm
   refine q_vu [qf 2 b4] 2 [] [(17, vb true)] [] [] ?_
   exact q_J (true) hm
  ·replace hm := qB b4 hm
   refine q_vu [qf 2 b4] 2 [] [(17, vb (decide (a2 ≥ ((a3.length : Nat) : Int))))] [] [] ?_
   exact q_J (decide (a2 ≥ ((a3.length : Nat) : Int))) hm
open Go.Proofs
set_option maxHeartbeats 4000000
set_option maxRecDepth 100000
noncomputable def PQ (a1 : Int) (a2 : Pattern_place) (a3 : qF) (a4 : List Product) (a5 : Int) (a6 : Int) (ri : RI 67) (r : Nat × Int × Int) : V := vb (Nat.beq r.1 0)
noncomputable def RD (a1 : Int) (a2 : Pattern_place) (a3 : qF) (a4 : List Product) (a5 : Int) (a6 : Int) (ri : RI 67) (r : Nat × Int × Int) : List (Nat × (Nat × O)) := [(0, lz (rc Tryd.f43 506 ri) ri.b [.ret] r.1), (1, bx 46 (qG a3)), (2, bx 117 [.fn 72 [.bptr 3 0 0]]), (3, bx 24 [tl qE default a4]), (4, bx 38 [ci r.2.1]), (5, bx 3 [ci r.2.2])]
noncomputable def VM (ri : RI 67) (a1 : Int) (a3 : qF) (a4 : List Product) (a5 : Int) (a6 : Int) (x16 : Int) : St :=
 ⟨[(6, vp 4 0), (7, vp 5 0), (8, vi a1), (11, vi x16)], [(0, ly (rc Tryd.f43 506 ri) ri.b), (1, bx 46 (qG a3)), (2, bx 117 [.fn 72 [.bptr 3 0 0]]), (3, bx 24 [tl qE default a4]), (4, bx 38 [ci a5]), (5, bx 3 [ci a6])]⟩
noncomputable def GP (ri : RI 67) (a1 : Int) (a2 : Pattern_place) (a3 : qF) (a4 : List Product) (a5 : Int) (a6 : Int) (v9 : Int) (x12 : Bool) : St :=
 ⟨[(5, vp 2 0), (6, vp 4 0), (7, vp 5 0), (8, vi a1), (9, vp 6 0), (10, vp 7 0), (11, vi v9), (50, vb x12)], [(0, ly (rc Tryd.f43 506 ri) ri.b), (1, bx 46 (qG a3)), (2, bx 117 [.fn 72 [.bptr 3 0 0]]), (3, bx 24 [tl qE default a4]), (4, bx 38 [ci a5]), (5, bx 3 [ci a6]), (6, bx 122 (e_Pattern_place a2)), (7, bx 69 [ci ((a3.Nodes.getD a1.toNat default).Kind), ci ((a3.Nodes.getD a1.toNat default).At)])]⟩
theorem NF (a1 : Int) (a2 : Pattern_place) (a3 : qF) (a4 : List Product) (a5 : Int) (a6 : Int) (ri : RI 67) (r : Nat × Int × Int) (hm : jH a1 a2 a3 a4 a5 a6 = some r) : CtR Tryd.prog globs (rc Tryd.f43 506 ri) ri.b [3, 5, 6, 7] 6 6 [.one (ci a1), .agg (e_Pattern_place a2), .one (.bptr 1 0 0), .one (.bptr 2 0 0), .one (.bptr 4 0 0), .one (.bptr 5 0 0)] [(0, lq (rc Tryd.f43 506 ri) ri.b), (1, bx 46 (qG a3)), (2, bx 117 [.fn 72 [.bptr 3 0 0]]), (3, bx 24 [tl qE default a4]), (4, bx 38 [ci a5]), (5, bx 3 [ci a6])] (PQ a1 a2 a3 a4 a5 a6 ri r) (RD a1 a2 a3 a4 a5 a6 ri r) := by
 unfold jH at hm
 refine q_R Tryd.f43 506 67 ri fun E => ?_
 refine q_sq ?_
 refine q_vn [] 6 ⟨[(3, vp 1 0), (5, vp 2 0), (6, vp 4 0), (7, vp 5 0), (8, vi a1), (30, va (e_Pattern_place a2))], [(0, lq (rc Tryd.f43 506 ri) ri.b), (1, bx 46 (qG a3)), (2, bx 117 [.fn 72 [.bptr 3 0 0]]), (3, bx 24 [tl qE default a4]), (4, bx 38 [ci a5]), (5, bx 3 [ci a6])]⟩ ?_
 refine q_vu [] 6 [30] [(9, vp 6 0)] [] [(6, bx 122 (e_Pattern_place a2))] ?_
 refine q_rd ⟨[(3, vp 1 0), (5, vp 2 0), (6, vp 4 0), (7, vp 5 0), (8, vi a1), (9, vp 6 0)], [(0, ly (rc Tryd.f43 506 ri) ri.b), (1, bx 46 (qG a3)), (2, bx 117 [.fn 72 [.bptr 3 0 0]]), (3, bx 24 [tl qE default a4]), (4, bx 38 [ci a5]), (5, bx 3 [ci a6]), (6, bx 122 (e_Pattern_place a2))]⟩ ?_
 refine q_bk 1 ?_
 refine q_sq ?_
 refine q_sq ?_
 refine q_vu [] 7 [] [(35, vb (decide (a1 ≥ ((a3.Nodes.length : Nat) : Int))))] [] [] ?_
 refine q_cn (decide (a1 ≥ ((a3.Nodes.length : Nat) : Int))) (fun b7 => ?_) (fun b7 => ?_)
 ·replace hm := qA b7 hm
  refine q_sq ?_
  refine q_vu [] 7 [3, 5, 6, 7, 8, 9, 35] [] [4, 6] [(4, bx 38 [ci 3])] ?_
  obtain rfl := Option.some.inj hm
  refine q_rt ?_
  exact q_rq
 ·replace hm := qB b7 hm
  refine q_sk ?_
  refine q_sq ?_
  obtain ⟨g8, hm⟩ := qM hm
  refine q_vu [qd 3 (Dir.none) (inb_of g8)] 7 [3, 35] [(10, vp 7 0)] [] [(7, bx 69 [ci ((a3.Nodes.getD a1.toNat default).Kind), ci ((a3.Nodes.getD a1.toNat default).At)])] ?_
  refine q_sq ?_
  obtain ⟨v9, h10, hm⟩ := qC hm
  refine q_vu [qc 2 [41, 42] 8 (MD (a3.Nodes.getD a1.toNat default) a2 v9 h10)] 8 [] [(11, vi v9)] [] [] ?_
  refine q_jn (ι := Int) (fun p => VM ri a1 a3 a4 a5 a6 p) (fun p => WF a1 a5 a6 p = some r) ?_ ?_
  ·rintro x16 hm
   show H _ (VM ri a1 a3 a4 a5 a6 x16) _ _
   refine q_sq ?_
   refine q_sq ?_
   refine q_vu [] 8 [] [(58, vb (x16 != 0))] [] [] ?_
   refine q_cn (x16 != 0) (fun b17 => ?_) (fun b17 => ?_)
   ·replace hm := qA b17 hm
    refine q_sq ?_
    refine q_vu [] 8 [6, 7, 8, 11, 58] [] [4] [(4, bx 38 [ci x16])] ?_
    obtain rfl := Option.some.inj hm
    refine q_rt ?_
    exact q_rq
   ·replace hm := qB b17 hm
    refine q_sk ?_
    refine q_vu [] 8 [6, 7, 8, 11, 58] [] [5] [(5, bx 3 [ci (w64 (a1 + 1))])] ?_
    obtain rfl := Option.some.inj hm
    exact q_rq
  ·refine q_jn (ι := Bool) (fun p => GP ri a1 a2 a3 a4 a5 a6 v9 p) (fun p => ZY a1 a2 a3 a4 a5 a6 v9 p = some r) ?_ ?_
   ·rintro x12 hm
    show H _ (GP ri a1 a2 a3 a4 a5 a6 v9 x12) _ _
    refine q_cn x12 (fun b13 => ?_) (fun b13 => ?_)
    ·replace hm := qA b13 hm
     obtain ⟨v14, h15, hm⟩ := qC hm
     refine q_vu [qd 5 (dex (cen [(3, 0)] [0] 7 1 (IJ a2.rect ((a3.Nodes.getD a1.toNat default).At) a4 v14) (pattern_Check_1_o a2.rect ((a3.Nodes.getD a1.toNat default).At) a4 v14) [51, 53, 55] [3])) (WA (K := (kr E 67 6 ri.b)) ⟨[(51, vc (.fn 72 [.bptr 3 0 0])), (53, va (qK a2.rect)), (55, vi ((a3.Nodes.getD a1.toNat default).At))], [(3, bx 24 [tl qE default a4])]⟩ (opAt (rg Tryd.f43 129722) 5) [(3, 0)] [0] 7 o0 rfl (qDH a2.rect ((a3.Nodes.getD a1.toNat default).At) a4 v14 h15) (.inl rfl) (by kernel_rfl))] 8 [5, 9, 10, 11, 50] [(11, vi v14)] [6, 7] [] ?_
     exact q_J (v14) hm
    ·replace hm := qB b13 hm
     refine q_sk ?_
     exact q_J (v9) hm
   ·rcases Bool.eq_false_or_eq_true (v9 == 0) with b11 | b11
    ·replace hm := qA b11 hm
     refine q_vu [qf 2 b11] 8 [] [(50, vb (((a3.Nodes.getD a1.toNat default).Kind) == 1))] [] [] ?_
     exact q_J (((a3.Nodes.getD a1.toNat default).Kind) == 1) hm
    ·replace hm := qB b11 hm
     refine q_vu [qf 2 b11] 8 [] [(50, vb false)] [] [] ?_
     exact q_J (false) hm
def qHm (r : Rect) : V := va (qK r)
def qHH (r : Rect) : List (Nat × (Nat × O)) := []
def IM (x5 : Rect) : St :=
 ⟨[(3, vp 0 0), (6, vp 2 0)], [(0, bx 28 (qK x5)), (2, bx 28 [ci 0, ci 0, ci 0, ci 0])]⟩
theorem LM (a1 : Rect) (a2 : Int) (a3 : Span) (r : Rect) (hm : YS a1 a2 a3 = some r) : CtX Tryd.prog globs 78 0 0 [.agg (qK a1), .one (ci a2), .agg (e_Span a3)] [] (qHm r) (qHH r) := by
 unfold YS at hm
 refine q_E Tryd.f78 14 fun E => ?_
 refine q_sq ?_
 refine q_vn [] 0 ⟨[(1, vi a2), (3, vp 0 0), (5, vp 1 0), (6, vp 2 0)], [(0, bx 28 (qK a1)), (1, bx 26 (e_Span a3)), (2, bx 28 [ci 0, ci 0, ci 0, ci 0])]⟩ ?_
 refine q_jn (ι := Rect) (fun p => IM p) (fun p => US p = some r) ?_ ?_
 ·rintro x5 hm
  show H _ (IM x5) _ _
  refine q_sq ?_
  refine q_vu [] 3 [3] [] [0, 2] [(2, bx 28 (qK x5))] ?_
  obtain rfl := Option.some.inj hm
  refine q_rt ?_
  exact q_rm
 ·refine q_sq ?_
  refine q_vu [] 3 [1] [(8, vb (a2 == 2))] [] [] ?_
  refine q_cn (a2 == 2) (fun b4 => ?_) (fun b4 => ?_)
  ·replace hm := qA b4 hm
   refine q_vu [] 3 [5, 8] [] [0, 1] [(0, bx 28 [ci a3.A, ci a3.B, ci a1.Y.A, ci a1.Y.B])] ?_
   exact q_J ((Rect.mk a3 a1.Y)) hm
  ·replace hm := qB b4 hm
   refine q_vu [] 3 [5, 8] [] [0, 1] [(0, bx 28 [ci a1.X.A, ci a1.X.B, ci a3.A, ci a3.B])] ?_
   exact q_J ((Rect.mk a1.X a3)) hm
end Saw
end Go.SL
