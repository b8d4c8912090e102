import Derived.Test.YtgpgnlllieekbaaGreatDoorEBase
import Derived.Test.YtgpgnlllieekbaaGreatDoorEFa1
import Derived.Test.YtgpgnlllieekbaaGreatDoorEFa8
import Derived.Test.YtgpgnlllieekbaaGreatDoorEFa9
import Derived.Test.YtgpgnlllieekbaaGreatDoorEFa7
set_option linter.unusedVariables false
set_option linter.unusedSimpArgs false
namespace Go.SL
namespace Saw
open Go.Proofs
set_option maxHeartbeats 4000000
set_option maxRecDepth 100000
def qK9 (r : Int) : V := vi r
def qKB (r : Int) : List (Nat × (Nat × O)) := []
def qAE (x27 : Bool) : St :=
 ⟨[(61, vb x27)], []⟩
def qAg (a4 : Rect) (x20 : Bool) : St :=
 ⟨[(9, vp 0 0), (53, vb x20)], [(0, bx 28 (qK a4))]⟩
theorem qIL (a1 : List Slice) (a2 : List Defect) (a3 : List qC) (a4 : Rect) (a5 : Saw) (a6 : Rates) (r : Int) (hm : ND a1 a2 a3 a4 a5 a6 = some r) : CtX Tryz.prog globs 18 0 0 [.one (tl qG default a1), .one (tl qH default a2), .one (tl qE default a3), .agg (qK a4), .agg (zY a5), .agg (qW a6)] [] (qK9 r) (qKB r) := by
 unfold ND at hm
 refine q_E Tryz.f18 62 fun E => ?_
 refine q_sq ?_
 refine q_vn [] 0 ⟨[(0, vc (tl qG default a1)), (1, vc (tl qH default a2)), (2, vc (tl qE default a3)), (9, vp 0 0), (10, vp 1 0), (11, vp 2 0)], [(0, bx 28 (qK a4)), (1, bx 30 (zY a5)), (2, bx 32 (qW a6))]⟩ ?_
 refine q_sq ?_
 refine q_sq ?_
 obtain ⟨v7, h8, hm⟩ := qD hm
 refine q_vu [qc 1 [17] 3 (jF a1 v7 h8)] 3 [0] [(13, vi v7)] [] [] ?_
 refine q_sq ?_
 refine q_vu [] 3 [] [(20, vb (v7 != 0))] [] [] ?_
 refine q_cn (v7 != 0) (fun b9 => ?_) (fun b9 => ?_)
 ·replace hm := qB b9 hm
  refine q_sq ?_
  refine q_vn [] 3 ⟨[(12, vi v7)], []⟩ ?_
  obtain rfl := Option.some.inj hm
  refine q_rt ?_
  exact q_rm
 ·replace hm := qA b9 hm
  refine q_sk ?_
  refine q_sq ?_
  refine q_sq ?_
  obtain ⟨v10, h11, hm⟩ := qD hm
  refine q_vu [qc 1 [22] 3 (ED a2 v10 h11)] 3 [1, 13, 20] [(14, vi v10)] [] [] ?_
  refine q_sq ?_
  refine q_vu [] 3 [] [(25, vb (v10 != 0))] [] [] ?_
  refine q_cn (v10 != 0) (fun b12 => ?_) (fun b12 => ?_)
  ·replace hm := qB b12 hm
   refine q_sq ?_
   refine q_vn [] 3 ⟨[(12, vi v10)], []⟩ ?_
   obtain rfl := Option.some.inj hm
   refine q_rt ?_
   exact q_rm
  ·replace hm := qA b12 hm
   refine q_sk ?_
   refine q_sq ?_
   refine q_sq ?_
   obtain ⟨v13, h14, hm⟩ := qD hm
   refine q_vu [qc 1 [27] 3 (EE a3 v13 h14)] 3 [2, 14, 25] [(15, vi v13)] [] [] ?_
   refine q_sq ?_
   refine q_vu [] 3 [] [(30, vb (v13 != 0))] [] [] ?_
   refine q_cn (v13 != 0) (fun b15 => ?_) (fun b15 => ?_)
   ·replace hm := qB b15 hm
    refine q_sq ?_
    refine q_vn [] 3 ⟨[(12, vi v13)], []⟩ ?_
    obtain rfl := Option.some.inj hm
    refine q_rt ?_
    exact q_rm
   ·replace hm := qA b15 hm
    refine q_sk ?_
    refine q_sq ?_
    refine q_sq ?_
    obtain ⟨v16, h17, hm⟩ := qD hm
    refine q_vu [qc 2 [32, 33] 3 (qIH a5 a6 v16 h17)] 3 [10, 11, 15, 30] [(16, vi v16)] [1, 2] [] ?_
    refine q_sq ?_
    refine q_vu [] 3 [] [(36, vb (v16 != 0))] [] [] ?_
    refine q_cn (v16 != 0) (fun b18 => ?_) (fun b18 => ?_)
    ·replace hm := qB b18 hm
     refine q_sq ?_
     refine q_vn [] 3 ⟨[(12, vi v16)], []⟩ ?_
     obtain rfl := Option.some.inj hm
     refine q_rt ?_
     exact q_rm
    ·replace hm := qA b18 hm
     refine q_sk ?_
     refine q_sq ?_
     refine q_jn (ι := Bool) (fun p => qAg a4 p) (fun p => GR a4 p = some r) ?_ ?_
     ·rintro x20 hm
      show H _ (qAg a4 x20) _ _
      refine q_cn x20 (fun b21 => ?_) (fun b21 => ?_)
      ·replace hm := qB b21 hm
       refine q_sq ?_
       refine q_vn [] 3 ⟨[(12, vi 19)], []⟩ ?_
       obtain rfl := Option.some.inj hm
       refine q_rt ?_
       exact q_rm
      ·replace hm := qA b21 hm
       refine q_sk ?_
       refine q_sq ?_
       refine q_jn (ι := Bool) (fun p => qAE p) (fun p => DE p = some r) ?_ ?_
       ·rintro x27 hm
        show H _ (qAE x27) _ _
        refine q_cn x27 (fun b28 => ?_) (fun b28 => ?_)
        ·replace hm := qB b28 hm
         refine q_sq ?_
         refine q_vn [] 3 ⟨[(12, vi 9)], []⟩ ?_
         obtain rfl := Option.some.inj hm
         refine q_rt ?_
         exact q_rm
        ·replace hm := qA b28 hm
         refine q_sk ?_
         refine q_sq ?_
         refine q_vn [] 3 ⟨[(12, vi 0)], []⟩ ?_
         obtain rfl := Option.some.inj hm
         refine q_rt ?_
         exact q_rm
       ·obtain ⟨v22, h23, hm⟩ := qD hm
        rcases Bool.eq_false_or_eq_true v22 with b24 | b24
        ·replace hm := qB b24 hm
         refine q_vn [qc 2 [55] 3 (MS a4.X v22 h23), qf 3 b24] 3 ⟨[(61, vb true)], []⟩ ?_
         exact q_J (true) hm
        ·replace hm := qA b24 hm
         obtain ⟨v25, h26, hm⟩ := qD hm
         refine q_vn [qc 2 [55] 3 (MS a4.X v22 h23), qf 3 b24, qk 6 [57, 59] 3 ⟨[(57, vb false), (59, va (e_Span a4.Y))], []⟩ (MS a4.Y v25 h26)] 3 ⟨[(61, vb v25)], []⟩ ?_
         exact q_J (v25) hm
     ·rcases Bool.eq_false_or_eq_true (decide (a4.X.A ≥ a4.X.B)) with b19 | b19
      ·replace hm := qB b19 hm
       refine q_vu [qf 7 b19] 3 [16, 36] [(53, vb true)] [] [] ?_
       exact q_J (true) hm
      ·replace hm := qA b19 hm
       refine q_vu [qf 7 b19] 3 [16, 36] [(53, vb (decide (a4.Y.A ≥ a4.Y.B)))] [] [] ?_
       exact q_J (decide (a4.Y.A ≥ a4.Y.B)) hm
def qKr (r : (List Int) × (List Int)) : V := .tup [.one (.own 0 0 1 r.1.length), .one (.own 1 0 1 r.2.length)]
def qK2 (r : (List Int) × (List Int)) : List (Nat × (Nat × O)) := [(0, ro 0 3 1 r.1.length (rf e_i64 r.1)), (1, ro 0 3 1 r.2.length (rf e_i64 r.2))]
def qAm (a1 : List qC) (a2 : Int) (x8 : Int) (l19 : List Int) (l19n : Nat) (l20 : List Int) (l20n : Nat) : St :=
 ⟨[(0, vc (tl qE default a1)), (1, vi a2), (6, vo 0 0 1 l19n), (7, vo 1 0 1 l20n), (8, vi x8)], [(0, ro 0 3 1 l19n (rf e_i64 l19)), (1, ro 0 3 1 l20n (rf e_i64 l20))]⟩
def LE (a1 : List qC) (a2 : Int) (l6 : List Int) (l6n : Nat) (l7 : List Int) (l7n : Nat) (x8 : Int) : St :=
 ⟨[(0, vc (tl qE default a1)), (1, vi a2), (6, vo 0 0 1 l6n), (7, vo 1 0 1 l7n), (8, vi x8)], [(0, ro 0 3 1 l6n (rf e_i64 l6)), (1, ro 0 3 1 l7n (rf e_i64 l7))]⟩
def qAU (l21 : List Int) (l22 : List Int) : St :=
 ⟨[(6, vo 0 0 1 l21.length), (7, vo 1 0 1 l22.length)], [(0, ro 0 3 1 l21.length (rf e_i64 l21)), (1, ro 0 3 1 l22.length (rf e_i64 l22))]⟩
theorem qFq (E : Env 0) (a1 : List qC) (a2 : Int) : ∀ (n : Nat) (l6 : List Int) (l6n : Nat) (l7 : List Int) (l7n : Nat) (x8 : Int) (res : (List Int) × (List Int)), l6.length = l6n → l7.length = l7n → jE a1 a2 n l6 l7 x8 = some res → HL (kx E 52 0) (nd Tryz.f19 244) (zN 0 (fun o => qAU o.1 o.2) res) n (LE a1 a2 l6 l6n l7 l7n x8) := by
 intro n
 induction n with
 | zero =>
  intro l6 l6n l7 l7n x8 res hl0 hl1 hm
  cases hm
 | succ n ih =>
  intro l6 l6n l7 l7n x8 res hl0 hl1 hm
  subst hl0
  subst hl1
  refine qO ?_
  refine q_sq ?_
  refine q_sq ?_
  refine q_vu [] 2 [] [(17, vb (decide (x8 < ((a1.length : Nat) : Int))))] [] [] ?_
  refine q_cn (decide (x8 < ((a1.length : Nat) : Int))) (fun b9 => ?_) (fun b9 => ?_)
  ·replace hm := qB b9 hm
   refine q_sk ?_
   refine q_jn (ι := (List Int) × Nat × (List Int) × Nat) (fun p => qAm a1 a2 x8 p.1 p.2.1 p.2.2.1 p.2.2.2) (fun p => p.1.length = p.2.1 ∧ p.2.2.1.length = p.2.2.2 ∧ PG x8 (jE a1 a2 n) p.1 p.2.2.1 = some res) ?_ ?_
   ·rintro ⟨l19, l19n, l20, l20n⟩ ⟨el19, el20, hm⟩
    replace el19 : l19.length = l19n := el19
    subst el19
    replace el20 : l20.length = l20n := el20
    subst el20
    show H _ (qAm a1 a2 x8 l19 l19.length l20 l20.length) _ _
    refine q_vu [] 4 [8] [(8, vi (w64 (x8 + 1)))] [] [] ?_
    exact q_hl (LE a1 a2 l19 l19.length l20 l20.length (w64 (x8 + 1))) (ih l19 l19.length l20 l20.length (w64 (x8 + 1)) _ rfl rfl hm)
   ·refine q_bk 1 ?_
    refine q_sq ?_
    obtain ⟨g10, hm⟩ := qI hm
    obtain ⟨v11, h12, hm⟩ := qD hm
    refine q_vu [qd 2 (Dir.none) (inb_of g10), qc 4 [24] 2 (SU (a1.getD x8.toNat default) v11 h12)] 2 [17] [(9, vi v11.1), (10, vi v11.2)] [] [] ?_
    refine q_sq ?_
    refine q_vu [] 2 [] [(30, vb (v11.1 == a2))] [] [] ?_
    refine q_cn (v11.1 == a2) (fun b13 => ?_) (fun b13 => ?_)
    ·replace hm := qB b13 hm
     refine q_sq ?_
     obtain ⟨g14, hm⟩ := qI hm
     refine q_vu [qd 2 (drw 2 0 (rf e_i64 ([v11.2] : List Int))) (litP e_i64 default 1 (fun _ => rfl) ([v11.2] : List Int) 1 rfl), qd 3 (drw 0 1 (rf e_i64 (l6 ++ ([v11.2] : List Int)))) (apP e_i64 default l6 ([v11.2] : List Int) l6.length 1 1 8 (1 ≤ 1) (Nat.le_refl _) rfl rfl (fun _ => rfl) (zS g14))] 2 [6, 9, 10, 30] [(6, vo 0 1 1 (l6.length + 1))] [0] [(0, ro 1 3 1 (l6.length + 1) (rf e_i64 (l6 ++ ([v11.2] : List Int))))] ?_
     obtain ⟨g15, hm⟩ := qI hm
     refine q_vu [qd 2 (drw 3 0 (rf e_i64 ([x8] : List Int))) (litP e_i64 default 1 (fun _ => rfl) ([x8] : List Int) 1 rfl), qd 3 (drw 1 1 (rf e_i64 (l7 ++ ([x8] : List Int)))) (apP e_i64 default l7 ([x8] : List Int) l7.length 1 1 8 (1 ≤ 1) (Nat.le_refl _) rfl rfl (fun _ => rfl) (zS g15))] 3 [7] [(7, vo 1 1 1 (l7.length + 1))] [1] [(1, ro 1 3 1 (l7.length + 1) (rf e_i64 (l7 ++ ([x8] : List Int))))] ?_
     exact q_J ((l6 ++ ([v11.2] : List Int)), (l6.length + 1), (l7 ++ ([x8] : List Int)), (l7.length + 1)) ⟨(len_app rfl rfl), (len_app rfl rfl), hm⟩
    ·replace hm := qA b13 hm
     refine q_sq ?_
     refine q_vu [] 2 [10, 30] [(41, vb (v11.2 == a2))] [] [] ?_
     refine q_cn (v11.2 == a2) (fun b16 => ?_) (fun b16 => ?_)
     ·replace hm := qB b16 hm
      refine q_sq ?_
      obtain ⟨g17, hm⟩ := qI hm
      refine q_vu [qd 2 (drw 2 0 (rf e_i64 ([v11.1] : List Int))) (litP e_i64 default 1 (fun _ => rfl) ([v11.1] : List Int) 1 rfl), qd 3 (drw 0 1 (rf e_i64 (l6 ++ ([v11.1] : List Int)))) (apP e_i64 default l6 ([v11.1] : List Int) l6.length 1 1 8 (1 ≤ 1) (Nat.le_refl _) rfl rfl (fun _ => rfl) (zS g17))] 2 [6, 9, 41] [(6, vo 0 1 1 (l6.length + 1))] [0] [(0, ro 1 3 1 (l6.length + 1) (rf e_i64 (l6 ++ ([v11.1] : List Int))))] ?_
      obtain ⟨g18, hm⟩ := qI hm
      refine q_vu [qd 2 (drw 3 0 (rf e_i64 ([x8] : List Int))) (litP e_i64 default 1 (fun _ => rfl) ([x8] : List Int) 1 rfl), qd 3 (drw 1 1 (rf e_i64 (l7 ++ ([x8] : List Int)))) (apP e_i64 default l7 ([x8] : List Int) l7.length 1 1 8 (1 ≤ 1) (Nat.le_refl _) rfl rfl (fun _ => rfl) (zS g18))] 3 [7] [(7, vo 1 1 1 (l7.length + 1))] [1] [(1, ro 1 3 1 (l7.length + 1) (rf e_i64 (l7 ++ ([x8] : List Int))))] ?_
      exact q_J ((l6 ++ ([v11.1] : List Int)), (l6.length + 1), (l7 ++ ([x8] : List Int)), (l7.length + 1)) ⟨(len_app rfl rfl), (len_app rfl rfl), hm⟩
     ·replace hm := qA b16 hm
      refine q_sk ?_
      exact q_J (l6, l6.length, l7, l7.length) ⟨rfl, rfl, hm⟩
  ·replace hm := qA b9 hm
   refine q_ex 0 ?_
   obtain rfl := Option.some.inj hm
   exact zX (by kernel_rfl) (by kernel_rfl)
theorem qC6 (a1 : List qC) (a2 : Int) (r : (List Int) × (List Int)) (hm : TU a1 a2 = some r) : CtX Tryz.prog globs 19 0 0 [.one (tl qE default a1), .one (ci a2)] [] (qKr r) (qK2 r) := by
 unfold TU at hm
 refine q_E Tryz.f19 52 fun E => ?_
 refine q_sq ?_
 refine q_vn [] 0 ⟨[(0, vc (tl qE default a1)), (1, vi a2)], []⟩ ?_
 refine q_sq ?_
 refine q_sq ?_
 obtain ⟨v3, h4, hm⟩ := qD hm
 refine q_vu [qc 1 [11] 0 (EE a1 v3 h4)] 0 [] [(13, vb (v3 != 0))] [] [] ?_
 refine q_cn (v3 != 0) (fun b5 => ?_) (fun b5 => ?_)
 ·replace hm := qB b5 hm
  refine q_sq ?_
  refine q_vn [] 0 ⟨[(4, vc (.emp)), (5, vc (.emp))], []⟩ ?_
  refine q_fn [.own 4 0 3 1 (rf e_i64 ([] : List Int))] ⟨[(4, vo 0 0 1 0), (5, vc (.emp))], [(0, ro 0 3 1 0 (rf e_i64 ([] : List Int)))]⟩ o0 ?_
  refine q_fn [.own 5 1 3 1 (rf e_i64 ([] : List Int))] ⟨[(4, vo 0 0 1 0), (5, vo 1 0 1 0)], [(0, ro 0 3 1 0 (rf e_i64 ([] : List Int))), (1, ro 0 3 1 0 (rf e_i64 ([] : List Int)))]⟩ o0 ?_
  refine q_fn [.len 0 (([] : List Int).length)] ⟨[(4, vo 0 0 1 (([] : List Int).length)), (5, vo 1 0 1 0)], [(0, ro 0 3 1 (([] : List Int).length) (rf e_i64 ([] : List Int))), (1, ro 0 3 1 0 (rf e_i64 ([] : List Int)))]⟩ (o1 (And.intro (show 0 = ([] : List Int).length from rfl) (show 0 = ([] : List Int).length from rfl))) ?_
  refine q_fn [.len 1 (([] : List Int).length)] ⟨[(4, vo 0 0 1 (([] : List Int).length)), (5, vo 1 0 1 (([] : List Int).length))], [(0, ro 0 3 1 (([] : List Int).length) (rf e_i64 ([] : List Int))), (1, ro 0 3 1 (([] : List Int).length) (rf e_i64 ([] : List Int)))]⟩ (o1 (And.intro (show 0 = ([] : List Int).length from rfl) (show 0 = ([] : List Int).length from rfl))) ?_
  obtain rfl := Option.some.inj hm
  refine q_rt ?_
  exact q_rm
 ·replace hm := qA b5 hm
  refine q_sk ?_
  refine q_sq ?_
  refine q_vu [] 0 [13] [(6, vc (.emp)), (7, vc (.emp))] [] [] ?_
  refine q_sq ?_
  refine q_sq ?_
  refine q_vu [] 0 [] [(8, vi 0)] [] [] ?_
  refine q_fn [.own 6 0 3 1 (rf e_i64 ([] : List Int))] ⟨[(0, vc (tl qE default a1)), (1, vi a2), (6, vo 0 0 1 0), (7, vc (.emp)), (8, vi 0)], [(0, ro 0 3 1 0 (rf e_i64 ([] : List Int)))]⟩ o0 ?_
  refine q_fn [.own 7 1 3 1 (rf e_i64 ([] : List Int))] ⟨[(0, vc (tl qE default a1)), (1, vi a2), (6, vo 0 0 1 0), (7, vo 1 0 1 0), (8, vi 0)], [(0, ro 0 3 1 0 (rf e_i64 ([] : List Int))), (1, ro 0 3 1 0 (rf e_i64 ([] : List Int)))]⟩ o0 ?_
  obtain ⟨o23, h24, hm⟩ := qD hm
  refine zF (nd Tryz.f19 244) 0 (by kernel_rfl) FUEL (fun o => qAU o.1 o.2) o23 (q_hl (LE a1 a2 ([] : List Int) 0 ([] : List Int) 0 0) (qFq E a1 a2 FUEL ([] : List Int) 0 ([] : List Int) 0 0 o23 rfl rfl h24)) ?_
  refine q_sq ?_
  refine q_vu [] 2 [6, 7] [(4, vo 0 0 1 o23.1.length), (5, vo 1 0 1 o23.2.length)] [] [] ?_
  obtain rfl := Option.some.inj hm
  refine q_rt ?_
  exact q_rm
set_option maxRecDepth 100000
def qLF (r : Line × Int) : V := .tup [.agg [ci r.1.Len, ci r.1.Kerf, ci r.1.Pitch, .own 0 0 1 r.1.Sizes.length, .own 1 0 1 r.1.Gain.length, .own 2 0 1 r.1.Chip.length, .own 3 0 1 r.1.Dust.length], .one (ci r.2)]
def qLw (r : Line × Int) : List (Nat × (Nat × O)) := [(0, ro 0 3 1 r.1.Sizes.length (rf e_i64 r.1.Sizes)), (1, ro 0 37 1 r.1.Gain.length (rf (qL e_i64) r.1.Gain)), (2, ro 0 3 1 r.1.Chip.length (rf e_i64 r.1.Chip)), (3, ro 0 3 1 r.1.Dust.length (rf e_i64 r.1.Dust))]
def qCu (a1 : List Slice) (a2 : List Defect) (a3 : List qC) (a4 : Rect) (a5 : Saw) (a6 : Rates) (v10 : (List Int) × (List Int)) (x12 : Int) (l13 : List (List Int)) (l15 : List Int) (x16 : Int) (x27 : Int) : St :=
 ⟨[(0, vc (tl qG default a1)), (1, vc (tl qH default a2)), (2, vc (tl qE default a3)), (9, vp 0 0), (10, vp 1 0), (11, vp 2 0), (12, vp 3 0), (15, vo 4 0 1 v10.1.length), (16, vo 5 0 1 v10.2.length), (17, vp 6 0), (18, vi x12), (19, vo 8 0 1 l15.length), (20, vi x16), (21, vi x27)], [(0, bx 28 (qK a4)), (1, bx 30 (zY a5)), (2, bx 32 (qW a6)), (3, bx 40 [ci 0, ci 0, ci 0, .emp, .emp, .emp, .emp]), (4, ro 0 3 1 v10.1.length (rf e_i64 v10.1)), (5, ro 0 3 1 v10.2.length (rf e_i64 v10.2)), (6, bx 40 [ci (w64 (a4.X.B - a4.X.A)), ci a5.Kerf, ci 1, .own 4 0 1 v10.1.length, .own 7 0 1 l13.length, .emp, .emp]), (7, ro 0 37 1 l13.length (rf (qL e_i64) l13)), (8, ro 0 3 1 l15.length (rf e_i64 l15))]⟩
def MP (a1 : List Slice) (a2 : List Defect) (a3 : List qC) (a4 : Rect) (a5 : Saw) (a6 : Rates) (v10 : (List Int) × (List Int)) (x12 : Int) (l13 : List (List Int)) (l15 : List Int) (l15n : Nat) (x16 : Int) : St :=
 ⟨[(0, vc (tl qG default a1)), (1, vc (tl qH default a2)), (2, vc (tl qE default a3)), (9, vp 0 0), (10, vp 1 0), (11, vp 2 0), (12, vp 3 0), (15, vo 4 0 1 v10.1.length), (16, vo 5 0 1 v10.2.length), (17, vp 6 0), (18, vi x12), (19, vo 8 0 1 l15n), (20, vi x16)], [(0, bx 28 (qK a4)), (1, bx 30 (zY a5)), (2, bx 32 (qW a6)), (3, bx 40 [ci 0, ci 0, ci 0, .emp, .emp, .emp, .emp]), (4, ro 0 3 1 v10.1.length (rf e_i64 v10.1)), (5, ro 0 3 1 v10.2.length (rf e_i64 v10.2)), (6, bx 40 [ci (w64 (a4.X.B - a4.X.A)), ci a5.Kerf, ci 1, .own 4 0 1 v10.1.length, .own 7 0 1 l13.length, .emp, .emp]), (7, ro 0 37 1 l13.length (rf (qL e_i64) l13)), (8, ro 0 3 1 l15n (rf e_i64 l15))]⟩
def qCz (a1 : List Slice) (a2 : List Defect) (a3 : List qC) (a4 : Rect) (a5 : Saw) (a6 : Rates) (v10 : (List Int) × (List Int)) (x12 : Int) (l13 : List (List Int)) (l29 : List Int) : St :=
 ⟨[(0, vc (tl qG default a1)), (1, vc (tl qH default a2)), (2, vc (tl qE default a3)), (9, vp 0 0), (10, vp 1 0), (11, vp 2 0), (12, vp 3 0), (15, vo 4 0 1 v10.1.length), (16, vo 5 0 1 v10.2.length), (17, vp 6 0), (18, vi x12), (19, vo 8 0 1 l29.length)], [(0, bx 28 (qK a4)), (1, bx 30 (zY a5)), (2, bx 32 (qW a6)), (3, bx 40 [ci 0, ci 0, ci 0, .emp, .emp, .emp, .emp]), (4, ro 0 3 1 v10.1.length (rf e_i64 v10.1)), (5, ro 0 3 1 v10.2.length (rf e_i64 v10.2)), (6, bx 40 [ci (w64 (a4.X.B - a4.X.A)), ci a5.Kerf, ci 1, .own 4 0 1 v10.1.length, .own 7 0 1 l13.length, .emp, .emp]), (7, ro 0 37 1 l13.length (rf (qL e_i64) l13)), (8, ro 0 3 1 l29.length (rf e_i64 l29))]⟩
def ME (a1 : List Slice) (a2 : List Defect) (a3 : List qC) (a4 : Rect) (a5 : Saw) (a6 : Rates) (v10 : (List Int) × (List Int)) (x12 : Int) (l13 : List (List Int)) (l13n : Nat) : St :=
 ⟨[(0, vc (tl qG default a1)), (1, vc (tl qH default a2)), (2, vc (tl qE default a3)), (9, vp 0 0), (10, vp 1 0), (11, vp 2 0), (12, vp 3 0), (15, vo 4 0 1 v10.1.length), (16, vo 5 0 1 v10.2.length), (17, vp 6 0), (18, vi x12)], [(0, bx 28 (qK a4)), (1, bx 30 (zY a5)), (2, bx 32 (qW a6)), (3, bx 40 [ci 0, ci 0, ci 0, .emp, .emp, .emp, .emp]), (4, ro 0 3 1 v10.1.length (rf e_i64 v10.1)), (5, ro 0 3 1 v10.2.length (rf e_i64 v10.2)), (6, bx 40 [ci (w64 (a4.X.B - a4.X.A)), ci a5.Kerf, ci 1, .own 4 0 1 v10.1.length, .own 7 0 1 l13n, .emp, .emp]), (7, ro 0 37 1 l13n (rf (qL e_i64) l13))]⟩
def qBD (a1 : List Slice) (a4 : Rect) (a5 : Saw) (a6 : Rates) (v10 : (List Int) × (List Int)) (l33 : List (List Int)) : St :=
 ⟨[(0, vc (tl qG default a1)), (9, vp 0 0), (11, vp 2 0), (12, vp 3 0), (17, vp 6 0)], [(0, bx 28 (qK a4)), (2, bx 32 (qW a6)), (3, bx 40 [ci 0, ci 0, ci 0, .emp, .emp, .emp, .emp]), (4, ro 0 3 1 v10.1.length (rf e_i64 v10.1)), (6, bx 40 [ci (w64 (a4.X.B - a4.X.A)), ci a5.Kerf, ci 1, .own 4 0 1 v10.1.length, .own 7 0 1 l33.length, .emp, .emp]), (7, ro 0 37 1 l33.length (rf (qL e_i64) l33))]⟩
def HB (a1 : List Slice) (a4 : Rect) (a5 : Saw) (a6 : Rates) (v10 : (List Int) × (List Int)) (o34 : (List (List Int))) (x36 : Int) (l37 : List Int) (l37n : Nat) (l38 : List Int) (l38n : Nat) : St :=
 ⟨[(0, vc (tl qG default a1)), (9, vp 0 0), (11, vp 2 0), (12, vp 3 0), (17, vp 6 0), (22, vi x36)], [(0, bx 28 (qK a4)), (2, bx 32 (qW a6)), (3, bx 40 [ci 0, ci 0, ci 0, .emp, .emp, .emp, .emp]), (4, ro 0 3 1 v10.1.length (rf e_i64 v10.1)), (6, bx 40 [ci (w64 (a4.X.B - a4.X.A)), ci a5.Kerf, ci 1, .own 4 0 1 v10.1.length, .own 7 0 1 o34.length, .own 8 0 1 l37n, .own 9 0 1 l38n]), (7, ro 0 37 1 o34.length (rf (qL e_i64) o34)), (8, ro 0 3 1 l37n (rf e_i64 l37)), (9, ro 0 3 1 l38n (rf e_i64 l38))]⟩
def qBJ (a4 : Rect) (a5 : Saw) (v10 : (List Int) × (List Int)) (o34 : (List (List Int))) (l46 : List Int) (l47 : List Int) : St :=
 ⟨[(12, vp 3 0), (17, vp 6 0)], [(3, bx 40 [ci 0, ci 0, ci 0, .emp, .emp, .emp, .emp]), (4, ro 0 3 1 v10.1.length (rf e_i64 v10.1)), (6, bx 40 [ci (w64 (a4.X.B - a4.X.A)), ci a5.Kerf, ci 1, .own 4 0 1 v10.1.length, .own 7 0 1 o34.length, .own 8 0 1 l46.length, .own 9 0 1 l47.length]), (7, ro 0 37 1 o34.length (rf (qL e_i64) o34)), (8, ro 0 3 1 l46.length (rf e_i64 l46)), (9, ro 0 3 1 l47.length (rf e_i64 l47))]⟩
theorem qGm (E : Env 0) (a1 : List Slice) (a2 : List Defect) (a3 : List qC) (a4 : Rect) (a5 : Saw) (a6 : Rates) (v10 : (List Int) × (List Int)) (x12 : Int) (l13 : List (List Int)) : ∀ (n : Nat) (l15 : List Int) (l15n : Nat) (x16 : Int) (res : (List Int)), l15.length = l15n → yK a1 a2 a3 a4 a5 a6 v10 x12 n l15 x16 = some res → HL (kx E 143 0) (nd Tryz.f8 128148) (zN 2 (fun o => qCz a1 a2 a3 a4 a5 a6 v10 x12 l13 o) res) n (MP a1 a2 a3 a4 a5 a6 v10 x12 l13 l15 l15n x16) := by
 intro n
 induction n with
 | zero =>
  intro l15 l15n x16 res hl0 hm
  cases hm
 | succ n ih =>
  intro l15 l15n x16 res hl0 hm
  subst hl0
  refine qO ?_
  refine q_sq ?_
  refine q_sq ?_
  obtain ⟨g17, hm⟩ := qI hm
  refine q_du [qd 3 (Dir.none) (inb_of g17), qd 4 (Dir.none) (toNat_lt (inb_of g17))] [0, 0, 0, 6, 14, 31, 0, 64, 255] 9 [] [(72, vb (decide ((w64 (x16 + (v10.1.getD x12.toNat default))) ≤ (w64 (a4.X.B - a4.X.A)))))] [] [] ?_
  refine q_cn (decide ((w64 (x16 + (v10.1.getD x12.toNat default))) ≤ (w64 (a4.X.B - a4.X.A)))) (fun b18 => ?_) (fun b18 => ?_)
  ·replace hm := qB b18 hm
   refine q_sk ?_
   refine q_sq ?_
   refine q_bk 3 ?_
   refine q_sq ?_
   refine q_vu [] 9 [72] [(21, vi (-1))] [] [] ?_
   refine q_jn (ι := Int) (fun p => qCu a1 a2 a3 a4 a5 a6 v10 x12 l13 l15 x16 p) (fun p => NY l15 x16 (yK a1 a2 a3 a4 a5 a6 v10 x12 n) p = some res) ?_ ?_
   ·rintro x27 hm
    show H _ (qCu a1 a2 a3 a4 a5 a6 v10 x12 l13 l15 x16 x27) _ _
    obtain ⟨g28, hm⟩ := qI hm
    refine q_vu [qd 2 (drw 9 0 (rf e_i64 ([x27] : List Int))) (litP e_i64 default 1 (fun _ => rfl) ([x27] : List Int) 1 rfl), qd 3 (drw 8 1 (rf e_i64 (l15 ++ ([x27] : List Int)))) (apP e_i64 default l15 ([x27] : List Int) l15.length 1 1 8 (1 ≤ 1) (Nat.le_refl _) rfl rfl (fun _ => rfl) (zS g28))] 9 [19, 21] [(19, vo 8 1 1 (l15.length + 1))] [8] [(8, ro 1 3 1 (l15.length + 1) (rf e_i64 (l15 ++ ([x27] : List Int))))] ?_
    refine q_vu [] 10 [20] [(20, vi (w64 (x16 + 1)))] [] [] ?_
    exact q_hl (MP a1 a2 a3 a4 a5 a6 v10 x12 l13 (l15 ++ ([x27] : List Int)) (l15.length + 1) (w64 (x16 + 1))) (ih (l15 ++ ([x27] : List Int)) (l15.length + 1) (w64 (x16 + 1)) _ (len_app rfl rfl) hm)
   ·refine q_sq ?_
    obtain ⟨g19, hm⟩ := qI hm
    refine q_vu [qd 3 (Dir.none) (qLl g19)] 9 [] [(79, vb ((Int.tmod x16 a5.Pitch) == 0))] [] [] ?_
    refine q_cn ((Int.tmod x16 a5.Pitch) == 0) (fun b20 => ?_) (fun b20 => ?_)
    ·replace hm := qB b20 hm
     obtain ⟨g21, hm⟩ := qI hm
     obtain ⟨g22, hm⟩ := qI hm
     obtain ⟨v23, h24, hm⟩ := qD hm
     obtain ⟨v25, h26, hm⟩ := qD hm
     refine q_du [qd 5 (Dir.none) (inb_of g21), qd 6 (Dir.none) (toNat_lt (inb_of g21)), qd 7 (Dir.none) (inb_of g22), qd 14 (Dir.none) (inb_of g17), qd 15 (Dir.none) (toNat_lt (inb_of g17)), qc 17 [89, 90, 96] 9 (IW a4 x16 (w64 (x16 + (v10.1.getD x12.toNat default))) v23 h24), qc 20 [80, 81, 88, 97, 98, 99] 9 (qKY a1 a2 (a3.getD (v10.2.getD x12.toNat default).toNat default) v23 a5 a6 v25 h26)] [0, 0, 0, 0, 0, 24, 56, 124, 252, 0, 0, 0, 0, 0, 12288, 28672, 63488, 130560, 0, 0, 1048575, 2097151] 9 [21, 79] [(21, vi v25)] [] [] ?_
     exact q_J (v25) hm
    ·replace hm := qA b20 hm
     refine q_sk ?_
     exact q_J ((-1)) hm
  ·replace hm := qA b18 hm
   refine q_ex 2 ?_
   obtain rfl := Option.some.inj hm
   exact zX (by kernel_rfl) (by kernel_rfl)
theorem qGO (E : Env 0) (a1 : List Slice) (a2 : List Defect) (a3 : List qC) (a4 : Rect) (a5 : Saw) (a6 : Rates) (v10 : (List Int) × (List Int)) : ∀ (n : Nat) (x12 : Int) (l13 : List (List Int)) (l13n : Nat) (res : (List (List Int))), l13.length = l13n → JB a1 a2 a3 a4 a5 a6 v10 n x12 l13 = some res → HL (kx E 143 0) (nd Tryz.f8 500) (zN 0 (fun o => qBD a1 a4 a5 a6 v10 o) res) n (ME a1 a2 a3 a4 a5 a6 v10 x12 l13 l13n) := by
 intro n
 induction n with
 | zero =>
  intro x12 l13 l13n res hl0 hm
  cases hm
 | succ n ih =>
  intro x12 l13 l13n res hl0 hm
  subst hl0
  refine qO ?_
  refine q_sq ?_
  refine q_sq ?_
  refine q_vu [] 8 [] [(61, vb (decide (x12 < ((v10.1.length : Nat) : Int))))] [] [] ?_
  refine q_cn (decide (x12 < ((v10.1.length : Nat) : Int))) (fun b14 => ?_) (fun b14 => ?_)
  ·replace hm := qB b14 hm
   refine q_sk ?_
   refine q_sq ?_
   refine q_bk 1 ?_
   refine q_sq ?_
   refine q_vu [] 8 [61] [(19, vc (.emp))] [] [] ?_
   refine q_sq ?_
   refine q_sq ?_
   refine q_vu [] 8 [] [(20, vi 0)] [] [] ?_
   refine q_fn [.own 19 8 3 1 (rf e_i64 ([] : List Int))] ⟨[(0, vc (tl qG default a1)), (1, vc (tl qH default a2)), (2, vc (tl qE default a3)), (9, vp 0 0), (10, vp 1 0), (11, vp 2 0), (12, vp 3 0), (15, vo 4 0 1 v10.1.length), (16, vo 5 0 1 v10.2.length), (17, vp 6 0), (18, vi x12), (19, vo 8 0 1 0), (20, vi 0)], [(0, bx 28 (qK a4)), (1, bx 30 (zY a5)), (2, bx 32 (qW a6)), (3, bx 40 [ci 0, ci 0, ci 0, .emp, .emp, .emp, .emp]), (4, ro 0 3 1 v10.1.length (rf e_i64 v10.1)), (5, ro 0 3 1 v10.2.length (rf e_i64 v10.2)), (6, bx 40 [ci (w64 (a4.X.B - a4.X.A)), ci a5.Kerf, ci 1, .own 4 0 1 v10.1.length, .own 7 0 1 l13.length, .emp, .emp]), (7, ro 0 37 1 l13.length (rf (qL e_i64) l13)), (8, ro 0 3 1 0 (rf e_i64 ([] : List Int)))]⟩ o0 ?_
   obtain ⟨o30, h31, hm⟩ := qD hm
   refine zF (nd Tryz.f8 128148) 2 (by kernel_rfl) FUEL (fun o => qCz a1 a2 a3 a4 a5 a6 v10 x12 l13 o) o30 (q_hl (MP a1 a2 a3 a4 a5 a6 v10 x12 l13 ([] : List Int) 0 0) (qGm E a1 a2 a3 a4 a5 a6 v10 x12 l13 FUEL ([] : List Int) 0 0 o30 rfl h31)) ?_
   obtain ⟨g32, hm⟩ := qI hm
   refine q_vu [qd 3 (dpr [.frz 8] (drw 9 0 (rf (qL e_i64) ([o30] : List (List Int))))) (And.intro (Nat.le_refl o30.length) (Nat.le_refl o30.length)), qd 3 (Dir.none) (litP (qL e_i64) default 1 (fun _ => rfl) ([o30] : List (List Int)) 1 rfl), qd 4 (drw 7 1 (rf (qL e_i64) (l13 ++ ([o30] : List (List Int))))) (apP (qL e_i64) default l13 ([o30] : List (List Int)) l13.length 1 1 24 (1 ≤ 1) (Nat.le_refl _) rfl rfl (fun _ => rfl) (zS g32))] 9 [19] [] [6, 7, 8] [(6, bx 40 [ci (w64 (a4.X.B - a4.X.A)), ci a5.Kerf, ci 1, .own 4 0 1 v10.1.length, .own 7 1 1 (l13.length + 1), .emp, .emp]), (7, ro 1 37 1 (l13.length + 1) (rf (qL e_i64) (l13 ++ ([o30] : List (List Int)))))] ?_
   refine q_vu [] 10 [18] [(18, vi (w64 (x12 + 1)))] [] [] ?_
   exact q_hl (ME a1 a2 a3 a4 a5 a6 v10 (w64 (x12 + 1)) (l13 ++ ([o30] : List (List Int))) (l13.length + 1)) (ih (w64 (x12 + 1)) (l13 ++ ([o30] : List (List Int))) (l13.length + 1) _ (len_app rfl rfl) hm)
  ·replace hm := qA b14 hm
   refine q_ex 0 ?_
   obtain rfl := Option.some.inj hm
   exact zX (by kernel_rfl) (by kernel_rfl)
theorem qGx (E : Env 0) (a1 : List Slice) (a4 : Rect) (a5 : Saw) (a6 : Rates) (v10 : (List Int) × (List Int)) (o34 : (List (List Int))) : ∀ (n : Nat) (x36 : Int) (l37 : List Int) (l37n : Nat) (l38 : List Int) (l38n : Nat) (res : (List Int) × (List Int)), l37.length = l37n → l38.length = l38n → WV a1 a4 a6 n x36 l37 l38 = some res → HL (kx E 143 0) (nd Tryz.f8 1012) (zN 4 (fun o => qBJ a4 a5 v10 o34 o.1 o.2) res) n (HB a1 a4 a5 a6 v10 o34 x36 l37 l37n l38 l38n) := by
 intro n
 induction n with
 | zero =>
  intro x36 l37 l37n l38 l38n res hl0 hl1 hm
  cases hm
 | succ n ih =>
  intro x36 l37 l37n l38 l38n res hl0 hl1 hm
  subst hl0
  subst hl1
  refine qO ?_
  refine q_sq ?_
  refine q_sq ?_
  refine q_vu [] 10 [] [(114, vb (decide (x36 < (w64 (a4.X.B - a4.X.A)))))] [] [] ?_
  refine q_cn (decide (x36 < (w64 (a4.X.B - a4.X.A)))) (fun b39 => ?_) (fun b39 => ?_)
  ·replace hm := qB b39 hm
   refine q_sk ?_
   refine q_sq ?_
   refine q_bk 5 ?_
   refine q_sq ?_
   obtain ⟨v40, h41, hm⟩ := qD hm
   obtain ⟨v42, h43, hm⟩ := qD hm
   refine q_vu [qc 5 [118, 119, 121] 10 (IW a4 x36 (w64 (x36 + 1)) v40 h41), qc 6 [117, 122] 10 (qCk a1 v40 v42 h43)] 10 [114] [(23, vi v42)] [] [] ?_
   refine q_sq ?_
   obtain ⟨g44, hm⟩ := qI hm
   refine q_vu [qd 6 (drw 10 0 (rf e_i64 ([w64 (a6.Chip * v42)] : List Int))) (litP e_i64 default 1 (fun _ => rfl) ([w64 (a6.Chip * v42)] : List Int) 1 rfl), qd 7 (drw 8 1 (rf e_i64 (l37 ++ ([w64 (a6.Chip * v42)] : List Int)))) (apP e_i64 default l37 ([w64 (a6.Chip * v42)] : List Int) l37.length 1 1 8 (1 ≤ 1) (Nat.le_refl _) rfl rfl (fun _ => rfl) (zS g44))] 10 [] [] [6, 8] [(6, bx 40 [ci (w64 (a4.X.B - a4.X.A)), ci a5.Kerf, ci 1, .own 4 0 1 v10.1.length, .own 7 0 1 o34.length, .own 8 1 1 (l37.length + 1), .own 9 0 1 l38.length]), (8, ro 1 3 1 (l37.length + 1) (rf e_i64 (l37 ++ ([w64 (a6.Chip * v42)] : List Int))))] ?_
   obtain ⟨g45, hm⟩ := qI hm
   refine q_vu [qd 6 (drw 11 0 (rf e_i64 ([w64 (a6.Dust * v42)] : List Int))) (litP e_i64 default 1 (fun _ => rfl) ([w64 (a6.Dust * v42)] : List Int) 1 rfl), qd 7 (drw 9 1 (rf e_i64 (l38 ++ ([w64 (a6.Dust * v42)] : List Int)))) (apP e_i64 default l38 ([w64 (a6.Dust * v42)] : List Int) l38.length 1 1 8 (1 ≤ 1) (Nat.le_refl _) rfl rfl (fun _ => rfl) (zS g45))] 11 [23] [] [6, 9] [(6, bx 40 [ci (w64 (a4.X.B - a4.X.A)), ci a5.Kerf, ci 1, .own 4 0 1 v10.1.length, .own 7 0 1 o34.length, .own 8 1 1 (l37.length + 1), .own 9 1 1 (l38.length + 1)]), (9, ro 1 3 1 (l38.length + 1) (rf e_i64 (l38 ++ ([w64 (a6.Dust * v42)] : List Int))))] ?_
   refine q_vu [] 12 [22] [(22, vi (w64 (x36 + 1)))] [] [] ?_
   exact q_hl (HB a1 a4 a5 a6 v10 o34 (w64 (x36 + 1)) (l37 ++ ([w64 (a6.Chip * v42)] : List Int)) (l37.length + 1) (l38 ++ ([w64 (a6.Dust * v42)] : List Int)) (l38.length + 1)) (ih (w64 (x36 + 1)) (l37 ++ ([w64 (a6.Chip * v42)] : List Int)) (l37.length + 1) (l38 ++ ([w64 (a6.Dust * v42)] : List Int)) (l38.length + 1) _ (len_app rfl rfl) (len_app rfl rfl) hm)
  ·replace hm := qA b39 hm
   refine q_ex 4 ?_
   obtain rfl := Option.some.inj hm
   exact zX (by kernel_rfl) (by kernel_rfl)
theorem qK0 (a1 : List Slice) (a2 : List Defect) (a3 : List qC) (a4 : Rect) (a5 : Saw) (a6 : Rates) (r : Line × Int) (hm : MN a1 a2 a3 a4 a5 a6 = some r) : CtX Tryz.prog globs 8 0 0 [.one (tl qG default a1), .one (tl qH default a2), .one (tl qE default a3), .agg (qK a4), .agg (zY a5), .agg (qW a6)] [] (qLF r) (qLw r) := by
 unfold MN at hm
 refine q_E Tryz.f8 143 fun E => ?_
 refine q_sq ?_
 refine q_vn [] 0 ⟨[(0, vc (tl qG default a1)), (1, vc (tl qH default a2)), (2, vc (tl qE default a3)), (9, vp 0 0), (10, vp 1 0), (11, vp 2 0), (12, vp 3 0)], [(0, bx 28 (qK a4)), (1, bx 30 (zY a5)), (2, bx 32 (qW a6)), (3, bx 40 [ci 0, ci 0, ci 0, .emp, .emp, .emp, .emp])]⟩ ?_
 refine q_sq ?_
 refine q_sq ?_
 obtain ⟨v7, h8, hm⟩ := qD hm
 refine q_vu [qc 6 [24, 25, 26, 27, 28, 29] 4 (qIL a1 a2 a3 a4 a5 a6 v7 h8)] 4 [] [(14, vi v7)] [] [] ?_
 refine q_sq ?_
 refine q_vu [] 4 [] [(32, vb (v7 != 0))] [] [] ?_
 refine q_cn (v7 != 0) (fun b9 => ?_) (fun b9 => ?_)
 ·replace hm := qB b9 hm
  refine q_sq ?_
  refine q_vu [] 4 [0, 1, 2, 9, 10, 11, 14, 32] [(13, vi v7)] [0, 1, 2] [] ?_
  refine q_fn [.ownB 3 3 4 3 1 (rf e_i64 ([] : List Int))] ⟨[(12, vp 3 0), (13, vi v7)], [(3, bx 40 [ci 0, ci 0, ci 0, .own 4 0 1 0, .emp, .emp, .emp]), (4, ro 0 3 1 0 (rf e_i64 ([] : List Int)))]⟩ o0 ?_
  refine q_fn [.ownB 3 4 5 37 1 (rf (qL e_i64) ([] : List (List Int)))] ⟨[(12, vp 3 0), (13, vi v7)], [(3, bx 40 [ci 0, ci 0, ci 0, .own 4 0 1 0, .own 5 0 1 0, .emp, .emp]), (4, ro 0 3 1 0 (rf e_i64 ([] : List Int))), (5, ro 0 37 1 0 (rf (qL e_i64) ([] : List (List Int))))]⟩ o0 ?_
  refine q_fn [.ownB 3 5 6 3 1 (rf e_i64 ([] : List Int))] ⟨[(12, vp 3 0), (13, vi v7)], [(3, bx 40 [ci 0, ci 0, ci 0, .own 4 0 1 0, .own 5 0 1 0, .own 6 0 1 0, .emp]), (4, ro 0 3 1 0 (rf e_i64 ([] : List Int))), (5, ro 0 37 1 0 (rf (qL e_i64) ([] : List (List Int)))), (6, ro 0 3 1 0 (rf e_i64 ([] : List Int)))]⟩ o0 ?_
  refine q_fn [.ownB 3 6 7 3 1 (rf e_i64 ([] : List Int))] ⟨[(12, vp 3 0), (13, vi v7)], [(3, bx 40 [ci 0, ci 0, ci 0, .own 4 0 1 0, .own 5 0 1 0, .own 6 0 1 0, .own 7 0 1 0]), (4, ro 0 3 1 0 (rf e_i64 ([] : List Int))), (5, ro 0 37 1 0 (rf (qL e_i64) ([] : List (List Int)))), (6, ro 0 3 1 0 (rf e_i64 ([] : List Int))), (7, ro 0 3 1 0 (rf e_i64 ([] : List Int)))]⟩ o0 ?_
  refine q_fn [.len 4 (([] : List Int).length)] ⟨[(12, vp 3 0), (13, vi v7)], [(3, bx 40 [ci 0, ci 0, ci 0, .own 4 0 1 (([] : List Int).length), .own 5 0 1 0, .own 6 0 1 0, .own 7 0 1 0]), (4, ro 0 3 1 (([] : List Int).length) (rf e_i64 ([] : List Int))), (5, ro 0 37 1 0 (rf (qL e_i64) ([] : List (List Int)))), (6, ro 0 3 1 0 (rf e_i64 ([] : List Int))), (7, ro 0 3 1 0 (rf e_i64 ([] : List Int)))]⟩ (o1 (And.intro (show 0 = ([] : List Int).length from rfl) (show 0 = ([] : List Int).length from rfl))) ?_
  refine q_fn [.len 5 (([] : List (List Int)).length)] ⟨[(12, vp 3 0), (13, vi v7)], [(3, bx 40 [ci 0, ci 0, ci 0, .own 4 0 1 (([] : List Int).length), .own 5 0 1 (([] : List (List Int)).length), .own 6 0 1 0, .own 7 0 1 0]), (4, ro 0 3 1 (([] : List Int).length) (rf e_i64 ([] : List Int))), (5, ro 0 37 1 (([] : List (List Int)).length) (rf (qL e_i64) ([] : List (List Int)))), (6, ro 0 3 1 0 (rf e_i64 ([] : List Int))), (7, ro 0 3 1 0 (rf e_i64 ([] : List Int)))]⟩ (o1 (And.intro (show 0 = ([] : List (List Int)).length from rfl) (show 0 = ([] : List (List Int)).length from rfl))) ?_
  refine q_fn [.len 6 (([] : List Int).length)] ⟨[(12, vp 3 0), (13, vi v7)], [(3, bx 40 [ci 0, ci 0, ci 0, .own 4 0 1 (([] : List Int).length), .own 5 0 1 (([] : List (List Int)).length), .own 6 0 1 (([] : List Int).length), .own 7 0 1 0]), (4, ro 0 3 1 (([] : List Int).length) (rf e_i64 ([] : List Int))), (5, ro 0 37 1 (([] : List (List Int)).length) (rf (qL e_i64) ([] : List (List Int)))), (6, ro 0 3 1 (([] : List Int).length) (rf e_i64 ([] : List Int))), (7, ro 0 3 1 0 (rf e_i64 ([] : List Int)))]⟩ (o1 (And.intro (show 0 = ([] : List Int).length from rfl) (show 0 = ([] : List Int).length from rfl))) ?_
  refine q_fn [.len 7 (([] : List Int).length)] ⟨[(12, vp 3 0), (13, vi v7)], [(3, bx 40 [ci 0, ci 0, ci 0, .own 4 0 1 (([] : List Int).length), .own 5 0 1 (([] : List (List Int)).length), .own 6 0 1 (([] : List Int).length), .own 7 0 1 (([] : List Int).length)]), (4, ro 0 3 1 (([] : List Int).length) (rf e_i64 ([] : List Int))), (5, ro 0 37 1 (([] : List (List Int)).length) (rf (qL e_i64) ([] : List (List Int)))), (6, ro 0 3 1 (([] : List Int).length) (rf e_i64 ([] : List Int))), (7, ro 0 3 1 (([] : List Int).length) (rf e_i64 ([] : List Int)))]⟩ (o1 (And.intro (show 0 = ([] : List Int).length from rfl) (show 0 = ([] : List Int).length from rfl))) ?_
  obtain rfl := Option.some.inj hm
  refine qR 4 0 (by kernel_rfl) ?_
  refine qR 5 1 (by kernel_rfl) ?_
  refine qR 6 2 (by kernel_rfl) ?_
  refine qR 7 3 (by kernel_rfl) ?_
  refine q_rt ?_
  exact q_rm
 ·replace hm := qA b9 hm
  refine q_sk ?_
  refine q_sq ?_
  obtain ⟨v10, h11, hm⟩ := qD hm
  refine q_vu [qc 8 [36, 43] 4 (qC6 a3 (w64 (a4.Y.B - a4.Y.A)) v10 h11)] 4 [14, 32] [(15, vo 4 0 1 v10.1.length), (16, vo 5 0 1 v10.2.length)] [] [(4, ro 0 3 1 v10.1.length (rf e_i64 v10.1)), (5, ro 0 3 1 v10.2.length (rf e_i64 v10.2))] ?_
  refine q_sq ?_
  refine q_vu [] 6 [] [(17, vp 6 0)] [] [(6, bx 40 [ci (w64 (a4.X.B - a4.X.A)), ci a5.Kerf, ci 1, .own 4 0 1 v10.1.length, .emp, .emp, .emp])] ?_
  refine q_sq ?_
  refine q_sq ?_
  refine q_vu [] 7 [] [(18, vi 0)] [] [] ?_
  refine q_fn [.ownB 6 4 7 37 1 (rf (qL e_i64) ([] : List (List Int)))] ⟨[(0, vc (tl qG default a1)), (1, vc (tl qH default a2)), (2, vc (tl qE default a3)), (9, vp 0 0), (10, vp 1 0), (11, vp 2 0), (12, vp 3 0), (15, vo 4 0 1 v10.1.length), (16, vo 5 0 1 v10.2.length), (17, vp 6 0), (18, vi 0)], [(0, bx 28 (qK a4)), (1, bx 30 (zY a5)), (2, bx 32 (qW a6)), (3, bx 40 [ci 0, ci 0, ci 0, .emp, .emp, .emp, .emp]), (4, ro 0 3 1 v10.1.length (rf e_i64 v10.1)), (5, ro 0 3 1 v10.2.length (rf e_i64 v10.2)), (6, bx 40 [ci (w64 (a4.X.B - a4.X.A)), ci a5.Kerf, ci 1, .own 4 0 1 v10.1.length, .own 7 0 1 0, .emp, .emp]), (7, ro 0 37 1 0 (rf (qL e_i64) ([] : List (List Int))))]⟩ o0 ?_
  obtain ⟨o34, h35, hm⟩ := qD hm
  refine zF (nd Tryz.f8 500) 0 (by kernel_rfl) FUEL (fun o => qBD a1 a4 a5 a6 v10 o) o34 (q_hl (ME a1 a2 a3 a4 a5 a6 v10 0 ([] : List (List Int)) 0) (qGO E a1 a2 a3 a4 a5 a6 v10 FUEL 0 ([] : List (List Int)) 0 o34 rfl h35)) ?_
  refine q_sq ?_
  refine q_sq ?_
  refine q_vu [] 8 [] [(22, vi 0)] [] [] ?_
  refine q_fn [.ownB 6 5 8 3 1 (rf e_i64 ([] : List Int))] ⟨[(0, vc (tl qG default a1)), (9, vp 0 0), (11, vp 2 0), (12, vp 3 0), (17, vp 6 0), (22, vi 0)], [(0, bx 28 (qK a4)), (2, bx 32 (qW a6)), (3, bx 40 [ci 0, ci 0, ci 0, .emp, .emp, .emp, .emp]), (4, ro 0 3 1 v10.1.length (rf e_i64 v10.1)), (6, bx 40 [ci (w64 (a4.X.B - a4.X.A)), ci a5.Kerf, ci 1, .own 4 0 1 v10.1.length, .own 7 0 1 o34.length, .own 8 0 1 0, .emp]), (7, ro 0 37 1 o34.length (rf (qL e_i64) o34)), (8, ro 0 3 1 0 (rf e_i64 ([] : List Int)))]⟩ o0 ?_
  refine q_fn [.ownB 6 6 9 3 1 (rf e_i64 ([] : List Int))] ⟨[(0, vc (tl qG default a1)), (9, vp 0 0), (11, vp 2 0), (12, vp 3 0), (17, vp 6 0), (22, vi 0)], [(0, bx 28 (qK a4)), (2, bx 32 (qW a6)), (3, bx 40 [ci 0, ci 0, ci 0, .emp, .emp, .emp, .emp]), (4, ro 0 3 1 v10.1.length (rf e_i64 v10.1)), (6, bx 40 [ci (w64 (a4.X.B - a4.X.A)), ci a5.Kerf, ci 1, .own 4 0 1 v10.1.length, .own 7 0 1 o34.length, .own 8 0 1 0, .own 9 0 1 0]), (7, ro 0 37 1 o34.length (rf (qL e_i64) o34)), (8, ro 0 3 1 0 (rf e_i64 ([] : List Int))), (9, ro 0 3 1 0 (rf e_i64 ([] : List Int)))]⟩ o0 ?_
  obtain ⟨o48, h49, hm⟩ := qD hm
  refine zF (nd Tryz.f8 1012) 4 (by kernel_rfl) FUEL (fun o => qBJ a4 a5 v10 o34 o.1 o.2) o48 (q_hl (HB a1 a4 a5 a6 v10 o34 0 ([] : List Int) 0 ([] : List Int) 0) (qGx E a1 a4 a5 a6 v10 o34 FUEL 0 ([] : List Int) 0 ([] : List Int) 0 o48 rfl rfl h49)) ?_
  refine q_sq ?_
  refine q_vu [] 10 [17] [(13, vi 0)] [3, 6] [(3, bx 40 [ci (w64 (a4.X.B - a4.X.A)), ci a5.Kerf, ci 1, .own 4 0 1 v10.1.length, .own 7 0 1 o34.length, .own 8 0 1 o48.1.length, .own 9 0 1 o48.2.length])] ?_
  obtain rfl := Option.some.inj hm
  refine qR 4 0 (by kernel_rfl) ?_
  refine qR 7 1 (by kernel_rfl) ?_
  refine qR 8 2 (by kernel_rfl) ?_
  refine qR 9 3 (by kernel_rfl) ?_
  refine q_rt ?_
  exact q_rm
open Go.Proofs
set_option maxHeartbeats 4000000
set_option maxRecDepth 100000
def qKJ (r : Int) : V := vi r
def qKG (r : Int) : List (Nat × (Nat × O)) := []
theorem qJf (a1 : Line) (a2 : Piece) (a3 : List Int) (a4 : List Ref17_step) (r : Int) (hm : NI a1 a2 a3 a4 = some r) : CtX Tryz.prog globs 81 0 0 [.agg (qS a1), .agg (zD a2), .one (tl e_i64 default a3), .one (tl e_Ref17_step default a4)] [] (qKJ r) (qKG r) := by
 unfold NI at hm
 refine q_E Tryz.f81 60 fun E => ?_
 refine q_sq ?_
 refine q_vn [] 0 ⟨[(2, vc (tl e_i64 default a3)), (3, vc (tl e_Ref17_step default a4)), (4, vp 0 0), (5, vp 1 0)], [(0, bx 40 (qS a1)), (1, bx 75 (zD a2))]⟩ ?_
 refine q_sq ?_
 obtain ⟨g5, hm⟩ := qI hm
 obtain ⟨g6, hm⟩ := qI hm
 refine q_du [qd 4 (Dir.none) (inb_of g5), qd 8 (Dir.none) (inb_of g6)] [0, 1, 0, 4, 15, 31, 0, 64, 255, 511, 1023] 2 [] [(9, vi ((a1.Gain.getD a2.Size.toNat default).getD a2.At.toNat default))] [] [] ?_
 refine q_sq ?_
 obtain ⟨g7, hm⟩ := qI hm
 refine q_du [qd 6 (Dir.none) (inb_of g7)] [0, 1, 0, 4, 0, 16, 60, 124, 255, 511] 2 [5] [(10, vi (w64 (a2.At + (a1.Sizes.getD a2.Size.toNat default))))] [1] [] ?_
 refine q_sq ?_
 refine q_sq ?_
 refine q_vu [] 2 [] [(34, vb ((w64 (a2.At + (a1.Sizes.getD a2.Size.toNat default))) == a1.Len))] [] [] ?_
 refine q_cn ((w64 (a2.At + (a1.Sizes.getD a2.Size.toNat default))) == a1.Len) (fun b8 => ?_) (fun b8 => ?_)
 ·replace hm := qB b8 hm
  refine q_sq ?_
  refine q_vn [] 2 ⟨[(8, vi ((a1.Gain.getD a2.Size.toNat default).getD a2.At.toNat default))], []⟩ ?_
  obtain rfl := Option.some.inj hm
  refine q_rt ?_
  exact q_rm
 ·replace hm := qA b8 hm
  refine q_sk ?_
  refine q_sq ?_
  refine q_vu [] 2 [4, 34] [(11, vi (imin (w64 ((w64 (a2.At + (a1.Sizes.getD a2.Size.toNat default))) + a1.Kerf)) a1.Len))] [0] [] ?_
  refine q_sq ?_
  obtain ⟨g9, hm⟩ := qI hm
  obtain ⟨g10, hm⟩ := qI hm
  obtain ⟨g11, hm⟩ := qI hm
  refine q_dn [qd 3 (Dir.none) (inb_of g9), qd 8 (Dir.none) (inb_of g10), qd 13 (Dir.none) (inb_of g11)] [0, 0, 0, 6, 14, 31, 0, 0, 192, 448, 1023, 0, 0, 6144, 14336, 30720, 65535, 131071] 2 ⟨[(8, vi (w64 ((w64 ((w64 (((a1.Gain.getD a2.Size.toNat default).getD a2.At.toNat default) + (a3.getD (imin (w64 ((w64 (a2.At + (a1.Sizes.getD a2.Size.toNat default))) + a1.Kerf)) a1.Len).toNat default))) - (a3.getD (w64 (a2.At + (a1.Sizes.getD a2.Size.toNat default))).toNat default))) + ((a4.getD (imin (w64 ((w64 (a2.At + (a1.Sizes.getD a2.Size.toNat default))) + a1.Kerf)) a1.Len).toNat default).value))))], []⟩ ?_
  obtain rfl := Option.some.inj hm
  refine q_rt ?_
  exact q_rm
def qEV (r : Ref17_step) : V := va (e_Ref17_step r)
def HC (r : Ref17_step) : List (Nat × (Nat × O)) := []
theorem qLL (r : Ref17_step) : WC (HC r) := by
 intro i k o h
 unfold HC at h
 cases h
def qBE (a1 : Line) (a2 : Int) (a3 : List Int) (a4 : List Int) (a5 : List Ref17_step) (x8 : Int) (x17 : Int) (x18 : Int) (x19 : Int) (x31 : Ref17_step) : St :=
 ⟨[(1, vi a2), (2, vc (tl e_i64 default a3)), (3, vc (tl e_i64 default a4)), (4, vc (tl e_Ref17_step default a5)), (5, vp 0 0), (10, vp 1 0), (11, vp 2 0), (12, vi x8), (13, vi x17), (14, vi x18), (15, vi x19)], [(0, bx 40 (qS a1)), (1, bx 94 [ci 0, ci 0, ci 0]), (2, bx 94 (e_Ref17_step x31))]⟩
def qB6 (a1 : Line) (a2 : Int) (a3 : List Int) (a4 : List Int) (a5 : List Ref17_step) (x8 : Int) (x17 : Int) (x18 : Int) (x19 : Int) (x20 : Ref17_step) (x26 : Bool) : St :=
 ⟨[(1, vi a2), (2, vc (tl e_i64 default a3)), (3, vc (tl e_i64 default a4)), (4, vc (tl e_Ref17_step default a5)), (5, vp 0 0), (10, vp 1 0), (11, vp 2 0), (12, vi x8), (13, vi x17), (14, vi x18), (15, vi x19), (103, vb x26)], [(0, bx 40 (qS a1)), (1, bx 94 [ci 0, ci 0, ci 0]), (2, bx 94 (e_Ref17_step x20))]⟩
def HM (a1 : Line) (a2 : Int) (a3 : List Int) (a4 : List Int) (a5 : List Ref17_step) (x8 : Int) (x17 : Int) (x18 : Int) (x19 : Int) (x20 : Ref17_step) : St :=
 ⟨[(1, vi a2), (2, vc (tl e_i64 default a3)), (3, vc (tl e_i64 default a4)), (4, vc (tl e_Ref17_step default a5)), (5, vp 0 0), (10, vp 1 0), (11, vp 2 0), (12, vi x8), (13, vi x17), (14, vi x18), (15, vi x19)], [(0, bx 40 (qS a1)), (1, bx 94 [ci 0, ci 0, ci 0]), (2, bx 94 (e_Ref17_step x20))]⟩
def qCr (a1 : Line) (a2 : Int) (a3 : List Int) (a4 : List Int) (a5 : List Ref17_step) (x8 : Int) (x32 : Ref17_step) : St :=
 ⟨[(1, vi a2), (2, vc (tl e_i64 default a3)), (3, vc (tl e_i64 default a4)), (4, vc (tl e_Ref17_step default a5)), (5, vp 0 0), (10, vp 1 0), (11, vp 2 0), (12, vi x8)], [(0, bx 40 (qS a1)), (1, bx 94 [ci 0, ci 0, ci 0]), (2, bx 94 (e_Ref17_step x32))]⟩
def qB7 (a1 : Line) (a2 : Int) (a3 : List Int) (a4 : List Int) (a5 : List Ref17_step) (x8 : Int) (x9 : Ref17_step) (x17 : Int) (x18 : Int) : St :=
 ⟨[(1, vi a2), (2, vc (tl e_i64 default a3)), (3, vc (tl e_i64 default a4)), (4, vc (tl e_Ref17_step default a5)), (5, vp 0 0), (10, vp 1 0), (11, vp 2 0), (12, vi x8), (13, vi x17), (14, vi x18)], [(0, bx 40 (qS a1)), (1, bx 94 [ci 0, ci 0, ci 0]), (2, bx 94 (e_Ref17_step x9))]⟩
def HT (a1 : Line) (a2 : Int) (a3 : List Int) (a4 : List Int) (a5 : List Ref17_step) (x8 : Int) (x9 : Ref17_step) : St :=
 ⟨[(1, vi a2), (2, vc (tl e_i64 default a3)), (3, vc (tl e_i64 default a4)), (4, vc (tl e_Ref17_step default a5)), (5, vp 0 0), (10, vp 1 0), (11, vp 2 0), (12, vi x8)], [(0, bx 40 (qS a1)), (1, bx 94 [ci 0, ci 0, ci 0]), (2, bx 94 (e_Ref17_step x9))]⟩
def qBN (x35 : Ref17_step) : St :=
 ⟨[(10, vp 1 0), (11, vp 2 0)], [(1, bx 94 [ci 0, ci 0, ci 0]), (2, bx 94 (e_Ref17_step x35))]⟩
theorem qGh (E : Env 0) (a1 : Line) (a2 : Int) (a3 : List Int) (a4 : List Int) (a5 : List Ref17_step) (x8 : Int) (x17 : Int) (x18 : Int) : ∀ (n : Nat) (x19 : Int) (x20 : Ref17_step) (res : Ref17_step), jP a1 a4 a5 x17 x18 n x19 x20 = some res → HL (kx E 122 0) (nd Tryz.f48 29852) (zN 2 (fun o => qCr a1 a2 a3 a4 a5 x8 o) res) n (HM a1 a2 a3 a4 a5 x8 x17 x18 x19 x20) := by
 intro n
 induction n with
 | zero =>
  intro x19 x20 res hm
  cases hm
 | succ n ih =>
  intro x19 x20 res hm
  refine qO ?_
  refine q_sq ?_
  refine q_sq ?_
  refine q_vu [] 3 [] [(80, vb (decide (x19 < ((a1.Sizes.length : Nat) : Int))))] [] [] ?_
  refine q_cn (decide (x19 < ((a1.Sizes.length : Nat) : Int))) (fun b21 => ?_) (fun b21 => ?_)
  ·replace hm := qB b21 hm
   refine q_sk ?_
   refine q_jn (ι := Ref17_step) (fun p => qBE a1 a2 a3 a4 a5 x8 x17 x18 x19 p) (fun p => TM x19 (jP a1 a4 a5 x17 x18 n) p = some res) ?_ ?_
   ·rintro x31 hm
    show H _ (qBE a1 a2 a3 a4 a5 x8 x17 x18 x19 x31) _ _
    refine q_vu [] 4 [15] [(15, vi (w64 (x19 + 1)))] [] [] ?_
    exact q_hl (HM a1 a2 a3 a4 a5 x8 x17 x18 (w64 (x19 + 1)) x31) (ih (w64 (x19 + 1)) x31 _ hm)
   ·refine q_bk 3 ?_
    refine q_sq ?_
    refine q_jn (ι := Bool) (fun p => qB6 a1 a2 a3 a4 a5 x8 x17 x18 x19 x20 p) (fun p => FB a1 a4 a5 x17 x18 x19 x20 (jP a1 a4 a5 x17 x18 n) p = some res) ?_ ?_
    ·rintro x26 hm
     show H _ (qB6 a1 a2 a3 a4 a5 x8 x17 x18 x19 x20 x26) _ _
     refine q_cn x26 (fun b27 => ?_) (fun b27 => ?_)
     ·replace hm := qB b27 hm
      refine q_ex 3 ?_
      exact q_J (x20) hm
     ·replace hm := qA b27 hm
      refine q_sk ?_
      refine q_sq ?_
      refine q_vu [] 3 [103] [(16, vp 3 0)] [] [(3, bx 75 [ci x19, ci x17])] ?_
      refine q_sq ?_
      obtain ⟨v28, h29, hm⟩ := qD hm
      refine q_vu [qc 5 [108, 109, 110, 111] 4 (qJf a1 (Piece.mk x19 x17) a4 a5 v28 h29)] 4 [] [(17, vi (w64 (x18 + v28)))] [] [] ?_
      refine q_sq ?_
      refine q_vu [] 4 [] [(117, vb (decide ((w64 (x18 + v28)) > x20.value)))] [] [] ?_
      refine q_cn (decide ((w64 (x18 + v28)) > x20.value)) (fun b30 => ?_) (fun b30 => ?_)
      ·replace hm := qB b30 hm
       refine q_vu [] 4 [16, 17, 117] [] [2, 3] [(2, bx 94 [ci (w64 (x18 + v28)), ci x19, ci x17])] ?_
       exact q_J ((Ref17_step.mk (w64 (x18 + v28)) (Piece.mk x19 x17))) hm
      ·replace hm := qA b30 hm
       refine q_sk ?_
       exact q_J (x20) hm
    ·obtain ⟨g22, hm⟩ := qI hm
     rcases Bool.eq_false_or_eq_true (decide (x17 > (w64 (a1.Len - (a1.Sizes.getD x19.toNat default))))) with b23 | b23
     ·replace hm := qB b23 hm
      refine q_du [qd 6 (Dir.none) (inb_of g22), qf 10 b23] [0, 0, 2, 0, 8, 0, 56, 120, 254, 511, 1023, 2047, 4095, 2047, 16383, 32767, 2047, 131071, 262143, 524287, 1048575] 3 [80] [(103, vb true)] [] [] ?_
      exact q_J (true) hm
     ·replace hm := qA b23 hm
      obtain ⟨g24, hm⟩ := qI hm
      obtain ⟨g25, hm⟩ := qI hm
      refine q_du [qd 6 (Dir.none) (inb_of g22), qf 10 b23, qd 14 (Dir.none) (inb_of g24), qd 17 (Dir.none) (inb_of g25)] [0, 0, 2, 0, 8, 0, 56, 120, 254, 511, 1023, 2047, 4095, 2047, 16383, 32767, 2047, 131071, 262143, 524287, 1048575] 3 [80] [(94, vp 0 4), (95, vc (tl (qL e_i64) default a1.Gain)), (96, vi x19), (97, vc (.lptr ((qL e_i64) (a1.Gain.getD x19.toNat default)))), (98, vc (tl e_i64 default (a1.Gain.getD x19.toNat default))), (99, vi x17), (100, vc (.lptr (e_i64 ((a1.Gain.getD x19.toNat default).getD x17.toNat default)))), (101, vi ((a1.Gain.getD x19.toNat default).getD x17.toNat default)), (102, vb (decide (((a1.Gain.getD x19.toNat default).getD x17.toNat default) < 0))), (103, vb (decide (((a1.Gain.getD x19.toNat default).getD x17.toNat default) < 0)))] [] [] ?_
      exact q_J (decide (((a1.Gain.getD x19.toNat default).getD x17.toNat default) < 0)) hm
  ·replace hm := qA b21 hm
   refine q_ex 2 ?_
   obtain rfl := Option.some.inj hm
   exact zX (by kernel_rfl) (by kernel_rfl)
theorem ref17_from_L1_ok (E : Env 0) (a1 : Line) (a2 : Int) (a3 : List Int) (a4 : List Int) (a5 : List Ref17_step) : ∀ (n : Nat) (x8 : Int) (x9 : Ref17_step) (res : Ref17_step), jO a1 a2 a3 a4 a5 n x8 x9 = some res → HL (kx E 122 0) (nd Tryz.f48 116) (zN 0 (fun o => qBN o) res) n (HT a1 a2 a3 a4 a5 x8 x9) := by
 intro n
 induction n with
 | zero =>
  intro x8 x9 res hm
  cases hm
 | succ n ih =>
  intro x8 x9 res hm
  refine qO ?_
  refine q_sq ?_
  refine q_sq ?_
  refine q_vu [] 3 [] [(35, vb (decide ((w64 (a2 + x8)) ≤ a1.Len)))] [] [] ?_
  refine q_cn (decide ((w64 (a2 + x8)) ≤ a1.Len)) (fun b10 => ?_) (fun b10 => ?_)
  ·replace hm := qB b10 hm
   refine q_sk ?_
   refine q_sq ?_
   refine q_bk 1 ?_
   refine q_sq ?_
   refine q_vu [] 3 [35] [(13, vi a2), (14, vi 0)] [] [] ?_
   refine q_jn (ι := Int × Int) (fun p => qB7 a1 a2 a3 a4 a5 x8 x9 p.1 p.2) (fun p => RV a1 a4 a5 x8 x9 (jO a1 a2 a3 a4 a5 n) p.1 p.2 = some res) ?_ ?_
   ·rintro ⟨x17, x18⟩ hm
    show H _ (qB7 a1 a2 a3 a4 a5 x8 x9 x17 x18) _ _
    refine q_sq ?_
    refine q_vu [] 3 [] [(15, vi 0)] [] [] ?_
    obtain ⟨o33, h34, hm⟩ := qD hm
    refine zF (nd Tryz.f48 29852) 2 (by kernel_rfl) FUEL (fun o => qCr a1 a2 a3 a4 a5 x8 o) o33 (q_hl (HM a1 a2 a3 a4 a5 x8 x17 x18 0 x9) (qGh E a1 a2 a3 a4 a5 x8 x17 x18 FUEL 0 x9 o33 h34)) ?_
    refine q_vu [] 3 [12] [(12, vi (w64 (x8 + a1.Pitch)))] [] [] ?_
    exact q_hl (HT a1 a2 a3 a4 a5 (w64 (x8 + a1.Pitch)) o33) (ih (w64 (x8 + a1.Pitch)) o33 _ hm)
   ·refine q_sq ?_
    refine q_vu [] 3 [] [(42, vb (decide (x8 > 0)))] [] [] ?_
    refine q_cn (decide (x8 > 0)) (fun b11 => ?_) (fun b11 => ?_)
    ·replace hm := qB b11 hm
     refine q_sq ?_
     refine q_vu [] 3 [13, 14, 42] [(13, vi (w64 ((w64 (a2 + x8)) + a1.Kerf)))] [] [] ?_
     refine q_sq ?_
     refine q_sq ?_
     refine q_vu [] 3 [] [(52, vb (decide ((w64 ((w64 (a2 + x8)) + a1.Kerf)) > a1.Len)))] [] [] ?_
     refine q_cn (decide ((w64 ((w64 (a2 + x8)) + a1.Kerf)) > a1.Len)) (fun b12 => ?_) (fun b12 => ?_)
     ·replace hm := qB b12 hm
      refine q_ex 0 ?_
      obtain rfl := Option.some.inj hm
      exact zX (by kernel_rfl) (by kernel_rfl)
     ·replace hm := qA b12 hm
      refine q_sk ?_
      obtain ⟨g13, hm⟩ := qI hm
      obtain ⟨g14, hm⟩ := qI hm
      obtain ⟨g15, hm⟩ := qI hm
      obtain ⟨g16, hm⟩ := qI hm
      refine q_du [qd 4 (Dir.none) (inb_of g13), qd 8 (Dir.none) (inb_of g14), qd 13 (Dir.none) (inb_of g15), qd 20 (Dir.none) (inb_of g16)] [0, 0, 0, 6, 15, 31, 0, 0, 192, 448, 1023, 0, 0, 6144, 14336, 32767, 0, 0, 0, 393216, 983040, 2031616, 4194303, 8388607] 3 [52] [(14, vi (w64 ((w64 ((w64 ((a3.getD (w64 (a2 + x8)).toNat default) - (a3.getD a2.toNat default))) + (a4.getD (w64 ((w64 (a2 + x8)) + a1.Kerf)).toNat default))) - (a4.getD (w64 (a2 + x8)).toNat default))))] [] [] ?_
      exact q_J (w64 ((w64 (a2 + x8)) + a1.Kerf), w64 ((w64 ((w64 ((a3.getD (w64 (a2 + x8)).toNat default) - (a3.getD a2.toNat default))) + (a4.getD (w64 ((w64 (a2 + x8)) + a1.Kerf)).toNat default))) - (a4.getD (w64 (a2 + x8)).toNat default))) hm
    ·replace hm := qA b11 hm
     refine q_sk ?_
     exact q_J (a2, 0) hm
  ·replace hm := qA b10 hm
   refine q_ex 0 ?_
   obtain rfl := Option.some.inj hm
   exact zX (by kernel_rfl) (by kernel_rfl)
theorem ref17_from_ok (a1 : Line) (a2 : Int) (a3 : List Int) (a4 : List Int) (a5 : List Ref17_step) (r : Ref17_step) (hm : MF a1 a2 a3 a4 a5 = some r) : CtX Tryz.prog globs 48 0 0 [.agg (qS a1), .one (ci a2), .one (tl e_i64 default a3), .one (tl e_i64 default a4), .one (tl e_Ref17_step default a5)] [] (qEV r) (HC r) := by
 unfold MF at hm
 refine q_E Tryz.f48 122 fun E => ?_
 refine q_sq ?_
 refine q_vn [] 0 ⟨[(1, vi a2), (2, vc (tl e_i64 default a3)), (3, vc (tl e_i64 default a4)), (4, vc (tl e_Ref17_step default a5)), (5, vp 0 0), (10, vp 1 0)], [(0, bx 40 (qS a1)), (1, bx 94 [ci 0, ci 0, ci 0])]⟩ ?_
 refine q_sq ?_
 obtain ⟨g6, hm⟩ := qI hm
 obtain ⟨g7, hm⟩ := qI hm
 refine q_du [qd 3 (Dir.none) (inb_of g6), qd 7 (Dir.none) (inb_of g7)] [0, 0, 2, 7, 15, 0, 0, 96, 224, 511, 0, 2047, 0, 8191] 2 [] [(11, vp 2 0)] [] [(2, bx 94 [ci (w64 ((a3.getD a1.Len.toNat default) - (a3.getD a2.toNat default))), ci (-1), ci 0])] ?_
 refine q_sq ?_
 refine q_sq ?_
 refine q_vu [] 3 [] [(12, vi 0)] [] [] ?_
 obtain ⟨o36, h37, hm⟩ := qD hm
 refine zF (nd Tryz.f48 116) 0 (by kernel_rfl) FUEL (fun o => qBN o) o36 (q_hl (HT a1 a2 a3 a4 a5 0 (Ref17_step.mk (w64 ((a3.getD a1.Len.toNat default) - (a3.getD a2.toNat default))) (Piece.mk (-1) 0))) (ref17_from_L1_ok E a1 a2 a3 a4 a5 FUEL 0 (Ref17_step.mk (w64 ((a3.getD a1.Len.toNat default) - (a3.getD a2.toNat default))) (Piece.mk (-1) 0)) o36 h37)) ?_
 refine q_sq ?_
 refine q_vu [] 3 [11] [] [1, 2] [(1, bx 94 (e_Ref17_step o36))] ?_
 obtain rfl := Option.some.inj hm
 refine q_rt ?_
 exact q_rm
set_option maxRecDepth 100000
def OC (r : Bool) : V := vb r
def IM (r : Bool) : List (Nat × (Nat × O)) := []
def qBy (a1 : List Int) (x2 : Int) (x6 : Bool) : St :=
 ⟨[(0, vc (tl e_i64 default a1)), (3, vi x2), (21, vb x6)], []⟩
def FV (a1 : List Int) (x2 : Int) : St :=
 ⟨[(0, vc (tl e_i64 default a1)), (3, vi x2)], []⟩
def qAS : St :=
 ⟨[], []⟩
theorem qFL (E : Env 0) (a1 : List Int) : ∀ (n : Nat) (x2 : Int) (res : Bool ⊕ Unit), yZ a1 n x2 = some res → HL (kx E 22 0) (nd Tryz.f80 52) (wC 0 (fun o => qAS) (fun v st => RetQ Tryz.prog Tryz.f80 (OC v) (IM v) .ret st) res) n (FV a1 x2) := by
 intro n
 induction n with
 | zero =>
  intro x2 res hm
  cases hm
 | succ n ih =>
  intro x2 res hm
  refine qO ?_
  refine q_sq ?_
  refine q_sq ?_
  refine q_vu [] 0 [] [(7, vb (decide (x2 < ((a1.length : Nat) : Int))))] [] [] ?_
  refine q_cn (decide (x2 < ((a1.length : Nat) : Int))) (fun b3 => ?_) (fun b3 => ?_)
  ·replace hm := qB b3 hm
   refine q_sk ?_
   refine q_sq ?_
   refine q_bk 1 ?_
   refine q_jn (ι := Bool) (fun p => qBy a1 x2 p) (fun p => GX x2 (yZ a1 n) p = some res) ?_ ?_
   ·rintro x6 hm
    show H _ (qBy a1 x2 x6) _ _
    refine q_cn x6 (fun b7 => ?_) (fun b7 => ?_)
    ·replace hm := qB b7 hm
     refine q_sq ?_
     refine q_vn [] 0 ⟨[(2, vb false)], []⟩ ?_
     obtain rfl := Option.some.inj hm
     refine q_rt ?_
     refine qU false ?_
     exact q_rm
    ·replace hm := qA b7 hm
     refine q_sk ?_
     refine q_vu [] 0 [3, 21] [(3, vi (w64 (x2 + 1)))] [] [] ?_
     exact q_hl (FV a1 (w64 (x2 + 1))) (ih (w64 (x2 + 1)) _ hm)
   ·obtain ⟨g4, hm⟩ := qI hm
    rcases Bool.eq_false_or_eq_true (decide ((a1.getD x2.toNat default) < (-1125899906842624))) with b5 | b5
    ·replace hm := qB b5 hm
     refine q_vu [qd 2 (Dir.none) (inb_of g4), qf 5 b5] 0 [7] [(21, vb true)] [] [] ?_
     exact q_J (true) hm
    ·replace hm := qA b5 hm
     refine q_vu [qd 2 (Dir.none) (inb_of g4), qf 5 b5, qd 8 (Dir.none) (inb_of g4)] 0 [7] [(16, vc (tl e_i64 default a1)), (17, vi x2), (18, vc (.lptr (e_i64 (a1.getD x2.toNat default)))), (19, vi (a1.getD x2.toNat default)), (20, vb (decide ((a1.getD x2.toNat default) > 1125899906842624))), (21, vb (decide ((a1.getD x2.toNat default) > 1125899906842624)))] [] [] ?_
     exact q_J (decide ((a1.getD x2.toNat default) > 1125899906842624)) hm
  ·replace hm := qA b3 hm
   refine q_ex 0 ?_
   obtain rfl := Option.some.inj hm
   exact wF () (by kernel_rfl) (by kernel_rfl)
theorem DS (a1 : List Int) (r : Bool) (hm : KI a1 = some r) : CtX Tryz.prog globs 80 0 0 [.one (tl e_i64 default a1)] [] (OC r) (IM r) := by
 unfold KI at hm
 refine q_E Tryz.f80 22 fun E => ?_
 refine q_sq ?_
 refine q_vn [] 0 ⟨[(0, vc (tl e_i64 default a1))], []⟩ ?_
 refine q_sq ?_
 refine q_sq ?_
 refine q_vu [] 0 [] [(3, vi 0)] [] [] ?_
 obtain ⟨u10, h9, hm⟩ := qD hm
 refine zI (nd Tryz.f80 52) 0 (by kernel_rfl) FUEL (fun o => qAS) (fun v st => RetQ Tryz.prog Tryz.f80 (OC v) (IM v) .ret st) u10 (q_hl (FV a1 0) (qFL E a1 FUEL 0 u10 h9)) ?_ ?_
 ·rintro v11 rfl st hr
  obtain rfl := Option.some.inj hm
  exact hr
 ·rintro o8 rfl
  replace hm : _ = some r := hm
  refine q_sq ?_
  refine q_vn [] 0 ⟨[(2, vb true)], []⟩ ?_
  obtain rfl := Option.some.inj hm
  refine q_rt ?_
  exact q_rm
end Saw
end Go.SL
