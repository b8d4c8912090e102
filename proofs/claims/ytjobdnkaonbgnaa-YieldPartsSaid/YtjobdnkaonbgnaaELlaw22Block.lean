import Derived.Test.YtjobdnkaonbgnaaEBase
set_option linter.unusedVariables false
set_option linter.unusedSimpArgs false
namespace Go.SL
namespace Saw
open Go.Proofs
set_option maxHeartbeats 4000000
set_option maxRecDepth 100000
def qFP (r : (List qF)) : V := vo 0 0 3 r.length
def qFM (r : (List qF)) : List (Nat × (Nat × O)) := [(0, ro 0 68 3 r.length (rf qH r))]
def DG (a1 : Int) (a2 : Int) (a3 : Int) (a4 : Span) (x5 : Int) (l6 : List Span) (l6n : Nat) : St :=
 ⟨[(2, vi a3), (7, vp 0 0), (9, vp 1 0), (10, vi x5)], [(0, bx 26 (e_Span a4)), (1, bx 68 [ci a1, ci a2, .own 2 0 2 l6n]), (2, ro 0 26 2 l6n (rf e_Span l6))]⟩
def SP (a1 : Int) (a2 : Int) (l9 : List Span) : St :=
 ⟨[(9, vp 1 0)], [(1, bx 68 [ci a1, ci a2, .own 2 0 2 l9.length]), (2, ro 0 26 2 l9.length (rf e_Span l9))]⟩
theorem qBw (E : Env 0) (a1 : Int) (a2 : Int) (a3 : Int) (a4 : Span) : ∀ (n : Nat) (x5 : Int) (l6 : List Span) (l6n : Nat) (res : (List Span)), l6.length = l6n → zaQ a3 a4 n x5 l6 = some res → HL (kx E 30 0) (nd Try.f35 116) (jU 0 (fun o => SP a1 a2 o) res) n (DG a1 a2 a3 a4 x5 l6 l6n) := by
 intro n
 induction n with
 | zero =>
  intro x5 l6 l6n res hl0 hm
  cases hm
 | succ n ih =>
  intro x5 l6 l6n res hl0 hm
  subst hl0
  refine qT ?_
  refine q_sq ?_
  refine q_sq ?_
  refine q_vu [] 3 [] [(17, vb (decide (x5 < a3)))] [] [] ?_
  refine q_cn (decide (x5 < a3)) (fun b7 => ?_) (fun b7 => ?_)
  ·replace hm := qA b7 hm
   refine q_sk ?_
   refine q_sq ?_
   refine q_bk 1 ?_
   obtain ⟨g8, hm⟩ := qP hm
   refine q_vu [qd 4 (drw 3 0 (rf e_Span ([a4] : List Span))) (litP e_Span default 2 (fun _ => rfl) ([a4] : List Span) 1 rfl), qd 5 (drw 2 1 (rf e_Span (l6 ++ ([a4] : List Span)))) (apP e_Span default l6 ([a4] : List Span) l6.length 1 2 16 (1 ≤ 1) (Nat.le_refl _) rfl rfl (fun _ => rfl) (XW g8))] 3 [17] [] [1, 2] [(1, bx 68 [ci a1, ci a2, .own 2 1 2 (l6.length + 1)]), (2, ro 1 26 2 (l6.length + 1) (rf e_Span (l6 ++ ([a4] : List Span))))] ?_
   refine q_vu [] 4 [10] [(10, vi (w64 (x5 + 1)))] [] [] ?_
   exact q_hl (DG a1 a2 a3 a4 (w64 (x5 + 1)) (l6 ++ ([a4] : List Span)) (l6.length + 1)) (ih (w64 (x5 + 1)) (l6 ++ ([a4] : List Span)) (l6.length + 1) _ (len_app rfl rfl) hm)
  ·replace hm := qB b7 hm
   refine q_ex 0 ?_
   obtain rfl := Option.some.inj hm
   exact ZP (by kernel_rfl) (by kernel_rfl)
theorem qEi (a1 : Int) (a2 : Int) (a3 : Int) (a4 : Span) (r : (List qF)) (hm : IP a1 a2 a3 a4 = some r) : CtX Try.prog globs 35 0 0 [.one (ci a1), .one (ci a2), .one (ci a3), .agg (e_Span a4)] [] (qFP r) (qFM r) := by
 unfold IP at hm
 refine q_E Try.f35 30 fun E => ?_
 refine q_sq ?_
 refine q_vn [] 0 ⟨[(0, vi a1), (1, vi a2), (2, vi a3), (7, vp 0 0)], [(0, bx 26 (e_Span a4))]⟩ ?_
 refine q_sq ?_
 refine q_vu [] 1 [0, 1] [(9, vp 1 0)] [] [(1, bx 68 [ci a1, ci a2, .emp])] ?_
 refine q_sq ?_
 refine q_sq ?_
 refine q_vu [] 2 [] [(10, vi 0)] [] [] ?_
 refine q_fn [.ownB 1 2 2 26 2 (rf e_Span ([] : List Span))] ⟨[(2, vi a3), (7, vp 0 0), (9, vp 1 0), (10, vi 0)], [(0, bx 26 (e_Span a4)), (1, bx 68 [ci a1, ci a2, .own 2 0 2 0]), (2, ro 0 26 2 0 (rf e_Span ([] : List Span)))]⟩ o0 ?_
 obtain ⟨o10, h11, hm⟩ := qC hm
 refine jL (nd Try.f35 116) 0 (by kernel_rfl) FUEL (fun o => SP a1 a2 o) o10 (q_hl (DG a1 a2 a3 a4 0 ([] : List Span) 0) (qBw E a1 a2 a3 a4 FUEL 0 ([] : List Span) 0 o10 rfl h11)) ?_
 refine q_sq ?_
 refine q_vn [qd 1 (dpr [.frz 2] (drw 3 0 (rf qH ([(qF.mk a1 (qI.mk a2 o10))] : List qF)))) (And.intro (Nat.le_refl o10.length) (Nat.le_refl o10.length)), qd 1 (Dir.none) (litP qH default 3 (fun _ => rfl) ([(qF.mk a1 (qI.mk a2 o10))] : List qF) 1 rfl)] 3 ⟨[(8, vo 3 0 3 1)], [(3, ro 0 68 3 1 (rf qH ([(qF.mk a1 (qI.mk a2 o10))] : List qF)))]⟩ ?_
 refine q_fn [.len 3 (([(qF.mk a1 (qI.mk a2 o10))] : List qF).length)] ⟨[(8, vo 3 0 3 (([(qF.mk a1 (qI.mk a2 o10))] : List qF).length))], [(3, ro 0 68 3 (([(qF.mk a1 (qI.mk a2 o10))] : List qF).length) (rf qH ([(qF.mk a1 (qI.mk a2 o10))] : List qF)))]⟩ (o1 (And.intro (show 1 = ([(qF.mk a1 (qI.mk a2 o10))] : List qF).length from rfl) (show 1 = ([(qF.mk a1 (qI.mk a2 o10))] : List qF).length from rfl))) ?_
 obtain rfl := Option.some.inj hm
 refine jO 3 0 (by kernel_rfl) ?_
 refine q_rt ?_
 exact q_rm
end Saw
end Go.SL
