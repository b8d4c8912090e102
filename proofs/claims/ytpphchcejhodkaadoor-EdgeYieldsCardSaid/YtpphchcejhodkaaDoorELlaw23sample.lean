import Derived.Test.YtpphchcejhodkaaDoorEBase
import Derived.Test.YtpphchcejhodkaaDoorELs
set_option linter.unusedVariables false
set_option linter.unusedSimpArgs false
namespace Go.SL
namespace Saw
open Go.Proofs
set_option maxHeartbeats 4000000
set_option maxRecDepth 100000
def qHL (r : qP) : V := va [.own 0 0 3 r.Solid.length, .own 1 0 7 r.Defects.length, .own 2 0 7 r.Products.length, ci r.Strip.X.A, ci r.Strip.X.B, ci r.Strip.Y.A, ci r.Strip.Y.B, ci r.Saw.Kerf, ci r.Saw.Trim, ci r.Saw.Pitch, ci r.Saw.Step, ci r.Rates.Chip, ci r.Rates.Dust, ci r.Rates.Fine]
def qHg (r : qP) : List (Nat × (Nat × O)) := [(0, ro 0 56 3 r.Solid.length (rf qI r.Solid)), (1, ro 0 151 7 r.Defects.length (rf qH r.Defects)), (2, ro 0 59 7 r.Products.length (rf qE r.Products))]
def BJ (x1 : Int) (l2 : List Span) (l2n : Nat) : St :=
 ⟨[(0, vp 0 0), (1, vp 1 0), (2, vi x1)], [(0, bx 34 [.emp, .emp, .emp, ci 0, ci 0, ci 0, ci 0, ci 0, ci 0, ci 0, ci 0, ci 0, ci 0, ci 0]), (1, bx 56 [ci 3000, ci (-10), .own 2 0 2 l2n]), (2, ro 0 26 2 l2n (rf e_Span l2))]⟩
def ID (l5 : List Span) : St :=
 ⟨[(0, vp 0 0), (1, vp 1 0)], [(0, bx 34 [.emp, .emp, .emp, ci 0, ci 0, ci 0, ci 0, ci 0, ci 0, ci 0, ci 0, ci 0, ci 0, ci 0]), (1, bx 56 [ci 3000, ci (-10), .own 2 0 2 l5.length]), (2, ro 0 26 2 l5.length (rf e_Span l5))]⟩
theorem qDl (E : Env 0) : ∀ (n : Nat) (x1 : Int) (l2 : List Span) (l2n : Nat) (res : (List Span)), l2.length = l2n → MV n x1 l2 = some res → HL (kx E 28 0) (nd Tryd.f13 116) (wO 0 (fun o => ID o) res) n (BJ x1 l2 l2n) := by
 intro n
 induction n with
 | zero =>
  intro x1 l2 l2n res hl0 hm
  cases hm
 | succ n ih =>
  intro x1 l2 l2n res hl0 hm
  subst hl0
  refine qQ ?_
  refine q_sq ?_
  refine q_sq ?_
  refine q_vu [] 3 [] [(7, vb (decide (x1 < 20)))] [] [] ?_
  refine q_cn (decide (x1 < 20)) (fun b3 => ?_) (fun b3 => ?_)
  ·replace hm := qA b3 hm
   refine q_sk ?_
   refine q_sq ?_
   refine q_bk 1 ?_
   obtain ⟨g4, hm⟩ := qM hm
   refine q_vu [qd 4 (drw 3 0 (rf e_Span ([(Span.mk (-100) 100)] : List Span))) (litP e_Span default 2 (fun _ => rfl) ([(Span.mk (-100) 100)] : List Span) 1 rfl), qd 5 (drw 2 1 (rf e_Span (l2 ++ ([(Span.mk (-100) 100)] : List Span)))) (apP e_Span default l2 ([(Span.mk (-100) 100)] : List Span) l2.length 1 2 16 (1 ≤ 1) (Nat.le_refl _) rfl rfl (fun _ => rfl) (wR g4))] 3 [7] [] [1, 2] [(1, bx 56 [ci 3000, ci (-10), .own 2 1 2 (l2.length + 1)]), (2, ro 1 26 2 (l2.length + 1) (rf e_Span (l2 ++ ([(Span.mk (-100) 100)] : List Span))))] ?_
   refine q_vu [] 4 [2] [(2, vi (w64 (x1 + 1)))] [] [] ?_
   exact q_hl (BJ (w64 (x1 + 1)) (l2 ++ ([(Span.mk (-100) 100)] : List Span)) (l2.length + 1)) (ih (w64 (x1 + 1)) (l2 ++ ([(Span.mk (-100) 100)] : List Span)) (l2.length + 1) _ (len_app rfl rfl) hm)
  ·replace hm := qB b3 hm
   refine q_ex 0 ?_
   obtain rfl := Option.some.inj hm
   exact yM (by kernel_rfl) (by kernel_rfl)
theorem qF4 (r : qP) (hm : CU = some r) : CtX Tryd.prog globs 13 0 0 [] [] (qHL r) (qHg r) := by
 unfold CU at hm
 refine q_E Tryd.f13 28 fun E => ?_
 refine q_sq ?_
 refine q_vn [] 0 ⟨[(0, vp 0 0)], [(0, bx 34 [.emp, .emp, .emp, ci 0, ci 0, ci 0, ci 0, ci 0, ci 0, ci 0, ci 0, ci 0, ci 0, ci 0])]⟩ ?_
 refine q_sq ?_
 refine q_vu [] 1 [] [(1, vp 1 0)] [] [(1, bx 56 [ci 3000, ci (-10), .emp])] ?_
 refine q_sq ?_
 refine q_sq ?_
 refine q_vu [] 2 [] [(2, vi 0)] [] [] ?_
 refine q_fn [.ownB 1 2 2 26 2 (rf e_Span ([] : List Span))] ⟨[(0, vp 0 0), (1, vp 1 0), (2, vi 0)], [(0, bx 34 [.emp, .emp, .emp, ci 0, ci 0, ci 0, ci 0, ci 0, ci 0, ci 0, ci 0, ci 0, ci 0, ci 0]), (1, bx 56 [ci 3000, ci (-10), .own 2 0 2 0]), (2, ro 0 26 2 0 (rf e_Span ([] : List Span)))]⟩ o0 ?_
 obtain ⟨o6, h7, hm⟩ := qC hm
 refine wB (nd Tryd.f13 116) 0 (by kernel_rfl) FUEL (fun o => ID o) o6 (q_hl (BJ 0 ([] : List Span) 0) (qDl E  FUEL 0 ([] : List Span) 0 o6 rfl h7)) ?_
 refine q_sq ?_
 refine q_vu [] 3 [] [(3, vp 3 0)] [] [(3, bx 28 [ci (-100), ci 10, ci 0, ci 42])] ?_
 refine q_sq ?_
 obtain ⟨v10, h11, hm⟩ := qC hm
 refine q_xn [.frz 2] (o1 (Nat.le_refl o6.length)) [qd 1 (drw 4 0 (rf qI ([(qD.mk 3000 (qL.mk (-10) o6))] : List qD))) (litP qI default 3 (fun _ => rfl) ([(qD.mk 3000 (qL.mk (-10) o6))] : List qD) 1 rfl), qc 2 [] 5 (CtX.frz (x' := va (qE v10)) (ob' := []) (CtX.frz (x' := va [cs v10.Name, ci v10.Thick, ci v10.Width, ci v10.Allow, ci v10.Wane, tl e_i64 default v10.Lengths, .own 1 0 1 v10.Prices.length]) (ob' := [(1, ro 0 3 1 v10.Prices.length (rf e_i64 v10.Prices))]) (qHK v10 h11) 0 (o1 (Nat.le_refl v10.Lengths.length)) (by kernel_rfl)) 1 (o1 (Nat.le_refl v10.Prices.length)) (by kernel_rfl)), qd 3 (drw 5 0 (rf qE ([v10] : List Product))) (litP qE default 7 (fun _ => rfl) ([v10] : List Product) 1 rfl)] [] o0 [0, 1, 0, 4, 0, 0, 63, 127] 4 ⟨[(0, vp 0 0)], [(0, bx 34 [.own 4 0 3 1, .emp, .own 5 0 7 1, ci (-100), ci 10, ci 0, ci 42, ci 4, ci 5, ci 5, ci 500, ci 0, ci 0, ci 0]), (4, ro 0 56 3 1 (rf qI ([(qD.mk 3000 (qL.mk (-10) o6))] : List qD))), (5, ro 0 59 7 1 (rf qE ([v10] : List Product)))]⟩ ?_
 refine q_fn [.ownB 0 1 6 151 7 (rf qH ([] : List Defect))] ⟨[(0, vp 0 0)], [(0, bx 34 [.own 4 0 3 1, .own 6 0 7 0, .own 5 0 7 1, ci (-100), ci 10, ci 0, ci 42, ci 4, ci 5, ci 5, ci 500, ci 0, ci 0, ci 0]), (4, ro 0 56 3 1 (rf qI ([(qD.mk 3000 (qL.mk (-10) o6))] : List qD))), (5, ro 0 59 7 1 (rf qE ([v10] : List Product))), (6, ro 0 151 7 0 (rf qH ([] : List Defect)))]⟩ o0 ?_
 refine q_fn [.len 4 (([(qD.mk 3000 (qL.mk (-10) o6))] : List qD).length)] ⟨[(0, vp 0 0)], [(0, bx 34 [.own 4 0 3 (([(qD.mk 3000 (qL.mk (-10) o6))] : List qD).length), .own 6 0 7 0, .own 5 0 7 1, ci (-100), ci 10, ci 0, ci 42, ci 4, ci 5, ci 5, ci 500, ci 0, ci 0, ci 0]), (4, ro 0 56 3 (([(qD.mk 3000 (qL.mk (-10) o6))] : List qD).length) (rf qI ([(qD.mk 3000 (qL.mk (-10) o6))] : List qD))), (5, ro 0 59 7 1 (rf qE ([v10] : List Product))), (6, ro 0 151 7 0 (rf qH ([] : List Defect)))]⟩ (o1 (And.intro (show 1 = ([(qD.mk 3000 (qL.mk (-10) o6))] : List qD).length from rfl) (show 1 = ([(qD.mk 3000 (qL.mk (-10) o6))] : List qD).length from rfl))) ?_
 refine q_fn [.len 6 (([] : List Defect).length)] ⟨[(0, vp 0 0)], [(0, bx 34 [.own 4 0 3 (([(qD.mk 3000 (qL.mk (-10) o6))] : List qD).length), .own 6 0 7 (([] : List Defect).length), .own 5 0 7 1, ci (-100), ci 10, ci 0, ci 42, ci 4, ci 5, ci 5, ci 500, ci 0, ci 0, ci 0]), (4, ro 0 56 3 (([(qD.mk 3000 (qL.mk (-10) o6))] : List qD).length) (rf qI ([(qD.mk 3000 (qL.mk (-10) o6))] : List qD))), (5, ro 0 59 7 1 (rf qE ([v10] : List Product))), (6, ro 0 151 7 (([] : List Defect).length) (rf qH ([] : List Defect)))]⟩ (o1 (And.intro (show 0 = ([] : List Defect).length from rfl) (show 0 = ([] : List Defect).length from rfl))) ?_
 refine q_fn [.len 5 (([v10] : List Product).length)] ⟨[(0, vp 0 0)], [(0, bx 34 [.own 4 0 3 (([(qD.mk 3000 (qL.mk (-10) o6))] : List qD).length), .own 6 0 7 (([] : List Defect).length), .own 5 0 7 (([v10] : List Product).length), ci (-100), ci 10, ci 0, ci 42, ci 4, ci 5, ci 5, ci 500, ci 0, ci 0, ci 0]), (4, ro 0 56 3 (([(qD.mk 3000 (qL.mk (-10) o6))] : List qD).length) (rf qI ([(qD.mk 3000 (qL.mk (-10) o6))] : List qD))), (5, ro 0 59 7 (([v10] : List Product).length) (rf qE ([v10] : List Product))), (6, ro 0 151 7 (([] : List Defect).length) (rf qH ([] : List Defect)))]⟩ (o1 (And.intro (show 1 = ([v10] : List Product).length from rfl) (show 1 = ([v10] : List Product).length from rfl))) ?_
 obtain rfl := Option.some.inj hm
 refine qZ 4 0 (by kernel_rfl) ?_
 refine qZ 6 1 (by kernel_rfl) ?_
 refine qZ 5 2 (by kernel_rfl) ?_
 refine q_rt ?_
 exact q_rm
end Saw
end Go.SL
