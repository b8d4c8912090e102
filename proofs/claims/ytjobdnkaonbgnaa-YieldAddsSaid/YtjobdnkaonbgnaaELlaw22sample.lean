import Derived.Test.YtjobdnkaonbgnaaEBase
import Derived.Test.YtjobdnkaonbgnaaELlaw22Block
import Derived.Test.YtjobdnkaonbgnaaELs
set_option linter.unusedVariables false
set_option linter.unusedSimpArgs false
namespace Go.SL
namespace Saw
open Go.Proofs
set_option maxHeartbeats 4000000
set_option maxRecDepth 100000
def qBy (r : Law22_Given) : V := va [.own 0 0 3 r.Solid.length, .own 1 0 7 r.Defects.length, .own 2 0 7 r.Products.length, ci r.Pattern.Frame.X.A, ci r.Pattern.Frame.X.B, ci r.Pattern.Frame.Y.A, ci r.Pattern.Frame.Y.B, .own 3 0 2 r.Pattern.Nodes.length, ci r.Saw.Kerf, ci r.Saw.Trim, ci r.Saw.Pitch, ci r.Saw.Step, ci r.Rates.Chip, ci r.Rates.Dust, ci r.Rates.Fine]
def qBp (r : Law22_Given) : List (Nat × (Nat × O)) := [(0, ro 0 68 3 r.Solid.length (rf qI r.Solid)), (1, ro 0 139 7 r.Defects.length (rf qF r.Defects)), (2, ro 0 71 7 r.Products.length (rf qE r.Products)), (3, ro 0 59 2 r.Pattern.Nodes.length (rf zO r.Pattern.Nodes))]
theorem qA8 (r : Law22_Given) (hm : zaQ = some r) : CtX Try.prog globs 23 0 0 [] [] (qBy r) (qBp r) := by
 unfold zaQ at hm
 refine q_E Try.f23 15 fun E => ?_
 refine q_sq ?_
 refine q_vn [] 0 ⟨[(0, vp 0 0)], [(0, bx 37 [.emp, .emp, .emp, ci 0, ci 0, ci 0, ci 0, .emp, ci 0, ci 0, ci 0, ci 0, ci 0, ci 0, ci 0])]⟩ ?_
 refine q_sq ?_
 refine q_vu [qd 4 (drw 1 0 (rf zO ([(Node.mk 1 0)] : List Node))) (litP zO default 2 (fun _ => rfl) ([(Node.mk 1 0)] : List Node) 1 rfl)] 1 [] [(1, vp 2 0)] [] [(1, ro 0 59 2 1 (rf zO ([(Node.mk 1 0)] : List Node))), (2, bx 31 [ci (-50), ci 55, ci 0, ci 42, .own 1 0 2 1])] ?_
 refine q_sq ?_
 obtain ⟨v1, h2, hm⟩ := qC hm
 obtain ⟨v3, h4, hm⟩ := qC hm
 refine q_du [qk 1 [8] 3 ⟨[(8, va [ci (-100), ci 100])], []⟩ (qBR 3000 (-10) 20 (Span.mk (-100) 100) v1 h2), qc 2 [] 4 (qBA v3 h4)] [0, 1, 3, 0, 0, 0, 63, 127] 3 [1] [] [0, 2] [(0, bx 37 [.own 3 0 3 v1.length, .emp, .own 4 0 7 v3.length, ci (-50), ci 55, ci 0, ci 42, .own 1 0 2 1, ci 4, ci 5, ci 1, ci 500, ci 1, ci 0, ci 0]), (3, ro 0 68 3 v1.length (rf qI v1)), (4, ro 0 71 7 v3.length (rf qE v3))] ?_
 refine q_fn [.ownB 0 1 5 139 7 (rf qF ([] : List Defect))] ⟨[(0, vp 0 0)], [(0, bx 37 [.own 3 0 3 v1.length, .own 5 0 7 0, .own 4 0 7 v3.length, ci (-50), ci 55, ci 0, ci 42, .own 1 0 2 1, ci 4, ci 5, ci 1, ci 500, ci 1, ci 0, ci 0]), (1, ro 0 59 2 1 (rf zO ([(Node.mk 1 0)] : List Node))), (3, ro 0 68 3 v1.length (rf qI v1)), (4, ro 0 71 7 v3.length (rf qE v3)), (5, ro 0 139 7 0 (rf qF ([] : List Defect)))]⟩ o0 ?_
 refine q_fn [.len 5 (([] : List Defect).length)] ⟨[(0, vp 0 0)], [(0, bx 37 [.own 3 0 3 v1.length, .own 5 0 7 (([] : List Defect).length), .own 4 0 7 v3.length, ci (-50), ci 55, ci 0, ci 42, .own 1 0 2 1, ci 4, ci 5, ci 1, ci 500, ci 1, ci 0, ci 0]), (1, ro 0 59 2 1 (rf zO ([(Node.mk 1 0)] : List Node))), (3, ro 0 68 3 v1.length (rf qI v1)), (4, ro 0 71 7 v3.length (rf qE v3)), (5, ro 0 139 7 (([] : List Defect).length) (rf qF ([] : List Defect)))]⟩ (o1 (And.intro (show 0 = ([] : List Defect).length from rfl) (show 0 = ([] : List Defect).length from rfl))) ?_
 refine q_fn [.len 1 (([(Node.mk 1 0)] : List Node).length)] ⟨[(0, vp 0 0)], [(0, bx 37 [.own 3 0 3 v1.length, .own 5 0 7 (([] : List Defect).length), .own 4 0 7 v3.length, ci (-50), ci 55, ci 0, ci 42, .own 1 0 2 (([(Node.mk 1 0)] : List Node).length), ci 4, ci 5, ci 1, ci 500, ci 1, ci 0, ci 0]), (1, ro 0 59 2 (([(Node.mk 1 0)] : List Node).length) (rf zO ([(Node.mk 1 0)] : List Node))), (3, ro 0 68 3 v1.length (rf qI v1)), (4, ro 0 71 7 v3.length (rf qE v3)), (5, ro 0 139 7 (([] : List Defect).length) (rf qF ([] : List Defect)))]⟩ (o1 (And.intro (show 1 = ([(Node.mk 1 0)] : List Node).length from rfl) (show 1 = ([(Node.mk 1 0)] : List Node).length from rfl))) ?_
 obtain rfl := Option.some.inj hm
 refine wB 3 0 (by kernel_rfl) ?_
 refine wB 5 1 (by kernel_rfl) ?_
 refine wB 4 2 (by kernel_rfl) ?_
 refine wB 5 3 (by kernel_rfl) ?_
 refine q_rt ?_
 exact q_rm
end Saw
end Go.SL
