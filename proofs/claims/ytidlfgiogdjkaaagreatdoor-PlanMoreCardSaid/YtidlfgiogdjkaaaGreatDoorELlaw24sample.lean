import Derived.Test.YtidlfgiogdjkaaaGreatDoorEBase
set_option linter.unusedVariables false
set_option linter.unusedSimpArgs false
namespace Go.SL
namespace Saw
open Go.Proofs
set_option maxHeartbeats 4000000
set_option maxRecDepth 100000
def qJi (r : Law24_Given) : V := va [.own 0 0 3 r.Solid.length, .own 1 0 7 r.Defects.length, .own 2 0 7 r.Products.length, ci r.Frame.X.A, ci r.Frame.X.B, ci r.Frame.Y.A, ci r.Frame.Y.B, ci r.Saw.Kerf, ci r.Saw.Trim, ci r.Saw.Pitch, ci r.Saw.Step, ci r.Rates.Chip, ci r.Rates.Dust, ci r.Rates.Fine]
def qIC (r : Law24_Given) : List (Nat × (Nat × O)) := [(0, ro 0 72 3 r.Solid.length (rf qG r.Solid)), (1, ro 0 212 7 r.Defects.length (rf qF r.Defects)), (2, ro 0 54 7 r.Products.length (rf qC r.Products))]
def NB (a1 : Int) (x2 : Int) (l3 : List Span) (l3n : Nat) : St :=
 ⟨[(0, vi a1), (2, vp 0 0), (3, vp 1 0), (4, vi x2)], [(0, bx 42 [.emp, .emp, .emp, ci 0, ci 0, ci 0, ci 0, ci 0, ci 0, ci 0, ci 0, ci 0, ci 0, ci 0]), (1, bx 72 [ci 3000, ci (-10), .own 2 0 2 l3n]), (2, ro 0 31 2 l3n (rf e_Span l3))]⟩
def qAb (a1 : Int) (l6 : List Span) : St :=
 ⟨[(0, vi a1), (2, vp 0 0), (3, vp 1 0)], [(0, bx 42 [.emp, .emp, .emp, ci 0, ci 0, ci 0, ci 0, ci 0, ci 0, ci 0, ci 0, ci 0, ci 0, ci 0]), (1, bx 72 [ci 3000, ci (-10), .own 2 0 2 l6.length]), (2, ro 0 31 2 l6.length (rf e_Span l6))]⟩
theorem qE0 (E : Env 0) (a1 : Int) : ∀ (n : Nat) (x2 : Int) (l3 : List Span) (l3n : Nat) (res : (List Span)), l3.length = l3n → VJ n x2 l3 = some res → HL (kx E 33 0) (nd Tryz.f29 116) (zQ 0 (fun o => qAb a1 o) res) n (NB a1 x2 l3 l3n) := by
 intro n
 induction n with
 | zero =>
  intro x2 l3 l3n res hl0 hm
  cases hm
 | succ n ih =>
  intro x2 l3 l3n res hl0 hm
  subst hl0
  refine qN ?_
  refine q_sq ?_
  refine s_vu [] 3 [] [(9, vb (decide (x2 < 20)))] [] [] ?_
  refine q_cm hm (fun b4 hm => ?_) (fun b4 hm => ?_)
  ·refine q_sk ?_
   refine q_sq ?_
   refine q_bk 1 ?_
   obtain ⟨g5, hm⟩ := qI hm
   refine q_vu [qd 4 (drw 3 0 (rf e_Span ([(Span.mk (-100) 100)] : List Span))) (litP e_Span default 2 (fun _ => rfl) ([(Span.mk (-100) 100)] : List Span) 1 rfl), qd 5 (drw 2 1 (rf e_Span (l3 ++ ([(Span.mk (-100) 100)] : List Span)))) (apP e_Span default l3 ([(Span.mk (-100) 100)] : List Span) l3.length 1 2 16 (1 ≤ 1) (Nat.le_refl _) rfl rfl (fun _ => rfl) (zO g5))] 3 [9] [] [1, 2] [(1, bx 72 [ci 3000, ci (-10), .own 2 1 2 (l3.length + 1)]), (2, ro 1 31 2 (l3.length + 1) (rf e_Span (l3 ++ ([(Span.mk (-100) 100)] : List Span))))] ?_
   refine q_vu [] 4 [4] [(4, vi (w64 (x2 + 1)))] [] [] ?_
   exact q_hl (NB a1 (w64 (x2 + 1)) (l3 ++ ([(Span.mk (-100) 100)] : List Span)) (l3.length + 1)) (ih (w64 (x2 + 1)) (l3 ++ ([(Span.mk (-100) 100)] : List Span)) (l3.length + 1) _ (len_app rfl rfl) hm)
  ·refine q_ex 0 ?_
   obtain rfl := oi hm
   exact wM (by kernel_rfl) (by kernel_rfl)
theorem qBP (a1 : Int) (r : Law24_Given) (hm : YT a1 = some r) : CtX Tryz.prog globs 29 0 0 [.one (ci a1)] [] (qJi r) (qIC r) := by
 unfold YT at hm
 refine q_E Tryz.f29 33 fun E => ?_
 refine s_vn [] 0 ⟨[(0, vi a1), (2, vp 0 0)], [(0, bx 42 [.emp, .emp, .emp, ci 0, ci 0, ci 0, ci 0, ci 0, ci 0, ci 0, ci 0, ci 0, ci 0, ci 0])]⟩ ?_
 refine s_vu [] 1 [] [(3, vp 1 0)] [] [(1, bx 72 [ci 3000, ci (-10), .emp])] ?_
 refine q_sq ?_
 refine s_vu [] 2 [] [(4, vi 0)] [] [] ?_
 refine q_fn [.ownB 1 2 2 31 2 (rf e_Span ([] : List Span))] ⟨[(0, vi a1), (2, vp 0 0), (3, vp 1 0), (4, vi 0)], [(0, bx 42 [.emp, .emp, .emp, ci 0, ci 0, ci 0, ci 0, ci 0, ci 0, ci 0, ci 0, ci 0, ci 0, ci 0]), (1, bx 72 [ci 3000, ci (-10), .own 2 0 2 0]), (2, ro 0 31 2 0 (rf e_Span ([] : List Span)))]⟩ o0 ?_
 obtain ⟨o7, h8, hm⟩ := qB hm
 refine zL (nd Tryz.f29 116) 0 (by kernel_rfl) FUEL (fun o => qAb a1 o) o7 (q_hl (NB a1 0 ([] : List Span) 0) (qE0 E a1 FUEL 0 ([] : List Span) 0 o7 rfl h8)) ?_
 refine s_vu [qd 0 (drw 3 0 (rf e_i64 ([2000] : List Int))) (litP e_i64 default 1 (fun _ => rfl) ([2000] : List Int) 1 rfl), qd 1 (drw 4 0 (rf e_i64 ([70] : List Int))) (litP e_i64 default 1 (fun _ => rfl) ([70] : List Int) 1 rfl), qd 3 (dpr [.len 3 (([2000] : List Int).length), .frz 3, .len 4 (([70] : List Int).length), .frz 4] (drw 5 0 (rf qC ([(Product.mk (ByteArray.mk #[112, 108, 97, 110, 107]) 40 100 50 0 ([2000] : List Int) ([70] : List Int))] : List Product)))) (And.intro (And.intro (And.intro (show 1 = ([2000] : List Int).length from rfl) (show 1 = ([2000] : List Int).length from rfl)) (show 1 = ([2000] : List Int).length from rfl)) (And.intro (And.intro (Nat.le_refl (([2000] : List Int).length)) (Nat.le_refl (([2000] : List Int).length))) (And.intro (And.intro (And.intro (show 1 = ([70] : List Int).length from rfl) (show 1 = ([70] : List Int).length from rfl)) (show 1 = ([70] : List Int).length from rfl)) (And.intro (Nat.le_refl (([70] : List Int).length)) (Nat.le_refl (([70] : List Int).length)))))), qd 3 (Dir.none) (litP qC default 7 (fun _ => rfl) ([(Product.mk (ByteArray.mk #[112, 108, 97, 110, 107]) 40 100 50 0 ([2000] : List Int) ([70] : List Int))] : List Product) 1 rfl)] 3 [] [(5, vo 5 0 7 1)] [] [(5, ro 0 54 7 1 (rf qC ([(Product.mk (ByteArray.mk #[112, 108, 97, 110, 107]) 40 100 50 0 ([2000] : List Int) ([70] : List Int))] : List Product)))] ?_
 refine s_vu [qd 1 (dpr [.frz 2] (drw 6 0 (rf qG ([(qA.mk 3000 (qJ.mk (-10) o7))] : List qA)))) (And.intro (Nat.le_refl o7.length) (Nat.le_refl o7.length)), qd 1 (Dir.none) (litP qG default 3 (fun _ => rfl) ([(qA.mk 3000 (qJ.mk (-10) o7))] : List qA) 1 rfl)] 6 [0, 3, 5] [] [0, 1, 2] [(0, bx 42 [.own 6 0 3 1, .emp, .own 5 0 7 1, ci (-100), ci 10, ci 0, ci a1, ci 4, ci 5, ci 5, ci 500, ci 0, ci 0, ci 0]), (6, ro 0 72 3 1 (rf qG ([(qA.mk 3000 (qJ.mk (-10) o7))] : List qA)))] ?_
 refine q_fn [.ownB 0 1 7 212 7 (rf qF ([] : List Defect))] ⟨[(2, vp 0 0)], [(0, bx 42 [.own 6 0 3 1, .own 7 0 7 0, .own 5 0 7 1, ci (-100), ci 10, ci 0, ci a1, ci 4, ci 5, ci 5, ci 500, ci 0, ci 0, ci 0]), (5, ro 0 54 7 1 (rf qC ([(Product.mk (ByteArray.mk #[112, 108, 97, 110, 107]) 40 100 50 0 ([2000] : List Int) ([70] : List Int))] : List Product))), (6, ro 0 72 3 1 (rf qG ([(qA.mk 3000 (qJ.mk (-10) o7))] : List qA))), (7, ro 0 212 7 0 (rf qF ([] : List Defect)))]⟩ o0 ?_
 refine q_fn [.len 6 (([(qA.mk 3000 (qJ.mk (-10) o7))] : List qA).length)] ⟨[(2, vp 0 0)], [(0, bx 42 [.own 6 0 3 (([(qA.mk 3000 (qJ.mk (-10) o7))] : List qA).length), .own 7 0 7 0, .own 5 0 7 1, ci (-100), ci 10, ci 0, ci a1, ci 4, ci 5, ci 5, ci 500, ci 0, ci 0, ci 0]), (5, ro 0 54 7 1 (rf qC ([(Product.mk (ByteArray.mk #[112, 108, 97, 110, 107]) 40 100 50 0 ([2000] : List Int) ([70] : List Int))] : List Product))), (6, ro 0 72 3 (([(qA.mk 3000 (qJ.mk (-10) o7))] : List qA).length) (rf qG ([(qA.mk 3000 (qJ.mk (-10) o7))] : List qA))), (7, ro 0 212 7 0 (rf qF ([] : List Defect)))]⟩ (o1 (And.intro (show 1 = ([(qA.mk 3000 (qJ.mk (-10) o7))] : List qA).length from rfl) (show 1 = ([(qA.mk 3000 (qJ.mk (-10) o7))] : List qA).length from rfl))) ?_
 refine q_fn [.len 7 (([] : List Defect).length)] ⟨[(2, vp 0 0)], [(0, bx 42 [.own 6 0 3 (([(qA.mk 3000 (qJ.mk (-10) o7))] : List qA).length), .own 7 0 7 (([] : List Defect).length), .own 5 0 7 1, ci (-100), ci 10, ci 0, ci a1, ci 4, ci 5, ci 5, ci 500, ci 0, ci 0, ci 0]), (5, ro 0 54 7 1 (rf qC ([(Product.mk (ByteArray.mk #[112, 108, 97, 110, 107]) 40 100 50 0 ([2000] : List Int) ([70] : List Int))] : List Product))), (6, ro 0 72 3 (([(qA.mk 3000 (qJ.mk (-10) o7))] : List qA).length) (rf qG ([(qA.mk 3000 (qJ.mk (-10) o7))] : List qA))), (7, ro 0 212 7 (([] : List Defect).length) (rf qF ([] : List Defect)))]⟩ (o1 (And.intro (show 0 = ([] : List Defect).length from rfl) (show 0 = ([] : List Defect).length from rfl))) ?_
 refine q_fn [.len 5 (([(Product.mk (ByteArray.mk #[112, 108, 97, 110, 107]) 40 100 50 0 ([2000] : List Int) ([70] : List Int))] : List Product).length)] ⟨[(2, vp 0 0)], [(0, bx 42 [.own 6 0 3 (([(qA.mk 3000 (qJ.mk (-10) o7))] : List qA).length), .own 7 0 7 (([] : List Defect).length), .own 5 0 7 (([(Product.mk (ByteArray.mk #[112, 108, 97, 110, 107]) 40 100 50 0 ([2000] : List Int) ([70] : List Int))] : List Product).length), ci (-100), ci 10, ci 0, ci a1, ci 4, ci 5, ci 5, ci 500, ci 0, ci 0, ci 0]), (5, ro 0 54 7 (([(Product.mk (ByteArray.mk #[112, 108, 97, 110, 107]) 40 100 50 0 ([2000] : List Int) ([70] : List Int))] : List Product).length) (rf qC ([(Product.mk (ByteArray.mk #[112, 108, 97, 110, 107]) 40 100 50 0 ([2000] : List Int) ([70] : List Int))] : List Product))), (6, ro 0 72 3 (([(qA.mk 3000 (qJ.mk (-10) o7))] : List qA).length) (rf qG ([(qA.mk 3000 (qJ.mk (-10) o7))] : List qA))), (7, ro 0 212 7 (([] : List Defect).length) (rf qF ([] : List Defect)))]⟩ (o1 (And.intro (show 1 = ([(Product.mk (ByteArray.mk #[112, 108, 97, 110, 107]) 40 100 50 0 ([2000] : List Int) ([70] : List Int))] : List Product).length from rfl) (show 1 = ([(Product.mk (ByteArray.mk #[112, 108, 97, 110, 107]) 40 100 50 0 ([2000] : List Int) ([70] : List Int))] : List Product).length from rfl))) ?_
 obtain rfl := oi hm
 refine qU 6 0 (by kernel_rfl) ?_
 refine qU 7 1 (by kernel_rfl) ?_
 refine qU 5 2 (by kernel_rfl) ?_
 refine q_rt ?_
 exact q_rm
end Saw
end Go.SL
