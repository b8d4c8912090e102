import Derived.Test.YtgpgnlllieekbaaGreatDoorEBase
import Derived.Test.YtgpgnlllieekbaaGreatDoorEFa1
import Derived.Test.YtgpgnlllieekbaaGreatDoorEFa8
import Derived.Test.YtgpgnlllieekbaaGreatDoorEFa9
import Derived.Test.YtgpgnlllieekbaaGreatDoorEFa7
set_option linter.unusedVariables false
set_option linter.unusedSimpArgs false
namespace Go.SL
namespace Saw
open Go.Proofs
set_option maxHeartbeats 4000000
set_option maxRecDepth 100000
def qII (r : Int) : V := vi r
def qIO (r : Int) : List (Nat × (Nat × O)) := []
def IP (x27 : Bool) : St :=
 ⟨[(61, vb x27)], []⟩
def CU (a4 : Rect) (x20 : Bool) : St :=
 ⟨[(9, vp 0 0), (53, vb x20)], [(0, bx 28 (qK a4))]⟩
theorem qGM (a1 : List Slice) (a2 : List Defect) (a3 : List qA) (a4 : Rect) (a5 : Saw) (a6 : Rates) (r : Int) (hm : GP a1 a2 a3 a4 a5 a6 = some r) : CtX Tryz.prog globs 18 0 0 [.one (tl qF default a1), .one (tl qG default a2), .one (tl qE default a3), .agg (qK a4), .agg (wA a5), .agg (qW a6)] [] (qII r) (qIO r) := by
 unfold GP at hm
 refine q_E Tryz.f18 62 fun E => ?_
 refine q_sq ?_
 refine q_vn [] 0 ⟨[(0, vc (tl qF default a1)), (1, vc (tl qG default a2)), (2, vc (tl qE default a3)), (9, vp 0 0), (10, vp 1 0), (11, vp 2 0)], [(0, bx 28 (qK a4)), (1, bx 30 (wA a5)), (2, bx 32 (qW a6))]⟩ ?_
 refine q_sq ?_
 refine q_sq ?_
 obtain ⟨v7, h8, hm⟩ := qD hm
 refine q_vu [qc 1 [17] 3 (wT a1 v7 h8)] 3 [0] [(13, vi v7)] [] [] ?_
 refine q_sq ?_
 refine q_vu [] 3 [] [(20, vb (v7 != 0))] [] [] ?_
 refine q_cn (v7 != 0) (fun b9 => ?_) (fun b9 => ?_)
 ·replace hm := qC b9 hm
  refine q_sq ?_
  refine q_vn [] 3 ⟨[(12, vi v7)], []⟩ ?_
  obtain rfl := Option.some.inj hm
  refine q_rt ?_
  exact q_rm
 ·replace hm := qB b9 hm
  refine q_sk ?_
  refine q_sq ?_
  refine q_sq ?_
  obtain ⟨v10, h11, hm⟩ := qD hm
  refine q_vu [qc 1 [22] 3 (MP a2 v10 h11)] 3 [1, 13, 20] [(14, vi v10)] [] [] ?_
  refine q_sq ?_
  refine q_vu [] 3 [] [(25, vb (v10 != 0))] [] [] ?_
  refine q_cn (v10 != 0) (fun b12 => ?_) (fun b12 => ?_)
  ·replace hm := qC b12 hm
   refine q_sq ?_
   refine q_vn [] 3 ⟨[(12, vi v10)], []⟩ ?_
   obtain rfl := Option.some.inj hm
   refine q_rt ?_
   exact q_rm
  ·replace hm := qB b12 hm
   refine q_sk ?_
   refine q_sq ?_
   refine q_sq ?_
   obtain ⟨v13, h14, hm⟩ := qD hm
   refine q_vu [qc 1 [27] 3 (LX a3 v13 h14)] 3 [2, 14, 25] [(15, vi v13)] [] [] ?_
   refine q_sq ?_
   refine q_vu [] 3 [] [(30, vb (v13 != 0))] [] [] ?_
   refine q_cn (v13 != 0) (fun b15 => ?_) (fun b15 => ?_)
   ·replace hm := qC b15 hm
    refine q_sq ?_
    refine q_vn [] 3 ⟨[(12, vi v13)], []⟩ ?_
    obtain rfl := Option.some.inj hm
    refine q_rt ?_
    exact q_rm
   ·replace hm := qB b15 hm
    refine q_sk ?_
    refine q_sq ?_
    refine q_sq ?_
    obtain ⟨v16, h17, hm⟩ := qD hm
    refine q_vu [qc 2 [32, 33] 3 (qGp a5 a6 v16 h17)] 3 [10, 11, 15, 30] [(16, vi v16)] [1, 2] [] ?_
    refine q_sq ?_
    refine q_vu [] 3 [] [(36, vb (v16 != 0))] [] [] ?_
    refine q_cn (v16 != 0) (fun b18 => ?_) (fun b18 => ?_)
    ·replace hm := qC b18 hm
     refine q_sq ?_
     refine q_vn [] 3 ⟨[(12, vi v16)], []⟩ ?_
     obtain rfl := Option.some.inj hm
     refine q_rt ?_
     exact q_rm
    ·replace hm := qB b18 hm
     refine q_sk ?_
     refine q_sq ?_
     refine q_jn (ι := Bool) (fun p => CU a4 p) (fun p => UW a4 p = some r) ?_ ?_
     ·rintro x20 hm
      show H _ (CU a4 x20) _ _
      refine q_cn x20 (fun b21 => ?_) (fun b21 => ?_)
      ·replace hm := qC b21 hm
       refine q_sq ?_
       refine q_vn [] 3 ⟨[(12, vi 19)], []⟩ ?_
       obtain rfl := Option.some.inj hm
       refine q_rt ?_
       exact q_rm
      ·replace hm := qB b21 hm
       refine q_sk ?_
       refine q_sq ?_
       refine q_jn (ι := Bool) (fun p => IP p) (fun p => UI p = some r) ?_ ?_
       ·rintro x27 hm
        show H _ (IP x27) _ _
        refine q_cn x27 (fun b28 => ?_) (fun b28 => ?_)
        ·replace hm := qC b28 hm
         refine q_sq ?_
         refine q_vn [] 3 ⟨[(12, vi 9)], []⟩ ?_
         obtain rfl := Option.some.inj hm
         refine q_rt ?_
         exact q_rm
        ·replace hm := qB b28 hm
         refine q_sk ?_
         refine q_sq ?_
         refine q_vn [] 3 ⟨[(12, vi 0)], []⟩ ?_
         obtain rfl := Option.some.inj hm
         refine q_rt ?_
         exact q_rm
       ·obtain ⟨v22, h23, hm⟩ := qD hm
        rcases Bool.eq_false_or_eq_true v22 with b24 | b24
        ·replace hm := qC b24 hm
         refine q_vn [qc 2 [55] 3 (NR a4.X v22 h23), qf 3 b24] 3 ⟨[(61, vb true)], []⟩ ?_
         exact q_J (true) hm
        ·replace hm := qB b24 hm
         obtain ⟨v25, h26, hm⟩ := qD hm
         refine q_vn [qc 2 [55] 3 (NR a4.X v22 h23), qf 3 b24, qk 6 [57, 59] 3 ⟨[(57, vb false), (59, va (e_Span a4.Y))], []⟩ (NR a4.Y v25 h26)] 3 ⟨[(61, vb v25)], []⟩ ?_
         exact q_J (v25) hm
     ·rcases Bool.eq_false_or_eq_true (decide (a4.X.A ≥ a4.X.B)) with b19 | b19
      ·replace hm := qC b19 hm
       refine q_vu [qf 7 b19] 3 [16, 36] [(53, vb true)] [] [] ?_
       exact q_J (true) hm
      ·replace hm := qB b19 hm
       refine q_vu [qf 7 b19] 3 [16, 36] [(53, vb (decide (a4.Y.A ≥ a4.Y.B)))] [] [] ?_
       exact q_J (decide (a4.Y.A ≥ a4.Y.B)) hm
def qIx (r : (List Int) × (List Int)) : V := .tup [.one (.own 0 0 1 r.1.length), .one (.own 1 0 1 r.2.length)]
def qIC (r : (List Int) × (List Int)) : List (Nat × (Nat × O)) := [(0, ro 0 3 1 r.1.length (rf e_i64 r.1)), (1, ro 0 3 1 r.2.length (rf e_i64 r.2))]
def ON (a1 : List qA) (a2 : Int) (x8 : Int) (l19 : List Int) (l19n : Nat) (l20 : List Int) (l20n : Nat) : St :=
 ⟨[(0, vc (tl qE default a1)), (1, vi a2), (6, vo 0 0 1 l19n), (7, vo 1 0 1 l20n), (8, vi x8)], [(0, ro 0 3 1 l19n (rf e_i64 l19)), (1, ro 0 3 1 l20n (rf e_i64 l20))]⟩
def BN (a1 : List qA) (a2 : Int) (l6 : List Int) (l6n : Nat) (l7 : List Int) (l7n : Nat) (x8 : Int) : St :=
 ⟨[(0, vc (tl qE default a1)), (1, vi a2), (6, vo 0 0 1 l6n), (7, vo 1 0 1 l7n), (8, vi x8)], [(0, ro 0 3 1 l6n (rf e_i64 l6)), (1, ro 0 3 1 l7n (rf e_i64 l7))]⟩
def CI (l21 : List Int) (l22 : List Int) : St :=
 ⟨[(6, vo 0 0 1 l21.length), (7, vo 1 0 1 l22.length)], [(0, ro 0 3 1 l21.length (rf e_i64 l21)), (1, ro 0 3 1 l22.length (rf e_i64 l22))]⟩
theorem qDE (E : Env 0) (a1 : List qA) (a2 : Int) : ∀ (n : Nat) (l6 : List Int) (l6n : Nat) (l7 : List Int) (l7n : Nat) (x8 : Int) (res : (List Int) × (List Int)), l6.length = l6n → l7.length = l7n → wU a1 a2 n l6 l7 x8 = some res → HL (kx E 52 0) (nd Tryz.f19 244) (zW 0 (fun o => CI o.1 o.2) res) n (BN a1 a2 l6 l6n l7 l7n x8) := by
 intro n
 induction n with
 | zero =>
  intro l6 l6n l7 l7n x8 res hl0 hl1 hm
  cases hm
 | succ n ih =>
  intro l6 l6n l7 l7n x8 res hl0 hl1 hm
  subst hl0
  subst hl1
  refine qN ?_
  refine q_sq ?_
  refine q_sq ?_
  refine q_vu [] 2 [] [(17, vb (decide (x8 < ((a1.length : Nat) : Int))))] [] [] ?_
  refine q_cn (decide (x8 < ((a1.length : Nat) : Int))) (fun b9 => ?_) (fun b9 => ?_)
  ·replace hm := qC b9 hm
   refine q_sk ?_
   refine q_jn (ι := (List Int) × Nat × (List Int) × Nat) (fun p => ON a1 a2 x8 p.1 p.2.1 p.2.2.1 p.2.2.2) (fun p => p.1.length = p.2.1 ∧ p.2.2.1.length = p.2.2.2 ∧ XF x8 (wU a1 a2 n) p.1 p.2.2.1 = some res) ?_ ?_
   ·rintro ⟨l19, l19n, l20, l20n⟩ ⟨el19, el20, hm⟩
    replace el19 : l19.length = l19n := el19
    subst el19
    replace el20 : l20.length = l20n := el20
    subst el20
    show H _ (ON a1 a2 x8 l19 l19.length l20 l20.length) _ _
    refine q_vu [] 4 [8] [(8, vi (w64 (x8 + 1)))] [] [] ?_
    exact q_hl (BN a1 a2 l19 l19.length l20 l20.length (w64 (x8 + 1))) (ih l19 l19.length l20 l20.length (w64 (x8 + 1)) _ rfl rfl hm)
   ·refine q_bk 1 ?_
    refine q_sq ?_
    obtain ⟨g10, hm⟩ := qI hm
    obtain ⟨v11, h12, hm⟩ := qD hm
    refine q_vu [qd 2 (Dir.none) (inb_of g10), qc 4 [24] 2 (MN (a1.getD x8.toNat default) v11 h12)] 2 [17] [(9, vi v11.1), (10, vi v11.2)] [] [] ?_
    refine q_sq ?_
    refine q_vu [] 2 [] [(30, vb (v11.1 == a2))] [] [] ?_
    refine q_cn (v11.1 == a2) (fun b13 => ?_) (fun b13 => ?_)
    ·replace hm := qC b13 hm
     refine q_sq ?_
     obtain ⟨g14, hm⟩ := qI hm
     refine q_vu [qd 2 (drw 2 0 (rf e_i64 ([v11.2] : List Int))) (litP e_i64 default 1 (fun _ => rfl) ([v11.2] : List Int) 1 rfl), qd 3 (drw 0 1 (rf e_i64 (l6 ++ ([v11.2] : List Int)))) (apP e_i64 default l6 ([v11.2] : List Int) l6.length 1 1 8 (1 ≤ 1) (Nat.le_refl _) rfl rfl (fun _ => rfl) (wD g14))] 2 [6, 9, 10, 30] [(6, vo 0 1 1 (l6.length + 1))] [0] [(0, ro 1 3 1 (l6.length + 1) (rf e_i64 (l6 ++ ([v11.2] : List Int))))] ?_
     obtain ⟨g15, hm⟩ := qI hm
     refine q_vu [qd 2 (drw 3 0 (rf e_i64 ([x8] : List Int))) (litP e_i64 default 1 (fun _ => rfl) ([x8] : List Int) 1 rfl), qd 3 (drw 1 1 (rf e_i64 (l7 ++ ([x8] : List Int)))) (apP e_i64 default l7 ([x8] : List Int) l7.length 1 1 8 (1 ≤ 1) (Nat.le_refl _) rfl rfl (fun _ => rfl) (wD g15))] 3 [7] [(7, vo 1 1 1 (l7.length + 1))] [1] [(1, ro 1 3 1 (l7.length + 1) (rf e_i64 (l7 ++ ([x8] : List Int))))] ?_
     exact q_J ((l6 ++ ([v11.2] : List Int)), (l6.length + 1), (l7 ++ ([x8] : List Int)), (l7.length + 1)) ⟨(len_app rfl rfl), (len_app rfl rfl), hm⟩
    ·replace hm := qB b13 hm
     refine q_sq ?_
     refine q_vu [] 2 [10, 30] [(41, vb (v11.2 == a2))] [] [] ?_
     refine q_cn (v11.2 == a2) (fun b16 => ?_) (fun b16 => ?_)
     ·replace hm := qC b16 hm
      refine q_sq ?_
      obtain ⟨g17, hm⟩ := qI hm
      refine q_vu [qd 2 (drw 2 0 (rf e_i64 ([v11.1] : List Int))) (litP e_i64 default 1 (fun _ => rfl) ([v11.1] : List Int) 1 rfl), qd 3 (drw 0 1 (rf e_i64 (l6 ++ ([v11.1] : List Int)))) (apP e_i64 default l6 ([v11.1] : List Int) l6.length 1 1 8 (1 ≤ 1) (Nat.le_refl _) rfl rfl (fun _ => rfl) (wD g17))] 2 [6, 9, 41] [(6, vo 0 1 1 (l6.length + 1))] [0] [(0, ro 1 3 1 (l6.length + 1) (rf e_i64 (l6 ++ ([v11.1] : List Int))))] ?_
      obtain ⟨g18, hm⟩ := qI hm
      refine q_vu [qd 2 (drw 3 0 (rf e_i64 ([x8] : List Int))) (litP e_i64 default 1 (fun _ => rfl) ([x8] : List Int) 1 rfl), qd 3 (drw 1 1 (rf e_i64 (l7 ++ ([x8] : List Int)))) (apP e_i64 default l7 ([x8] : List Int) l7.length 1 1 8 (1 ≤ 1) (Nat.le_refl _) rfl rfl (fun _ => rfl) (wD g18))] 3 [7] [(7, vo 1 1 1 (l7.length + 1))] [1] [(1, ro 1 3 1 (l7.length + 1) (rf e_i64 (l7 ++ ([x8] : List Int))))] ?_
      exact q_J ((l6 ++ ([v11.1] : List Int)), (l6.length + 1), (l7 ++ ([x8] : List Int)), (l7.length + 1)) ⟨(len_app rfl rfl), (len_app rfl rfl), hm⟩
     ·replace hm := qB b16 hm
      refine q_sk ?_
      exact q_J (l6, l6.length, l7, l7.length) ⟨rfl, rfl, hm⟩
  ·replace hm := qB b9 hm
   refine q_ex 0 ?_
   obtain rfl := Option.some.inj hm
   exact wE (by kernel_rfl) (by kernel_rfl)
theorem qGv (a1 : List qA) (a2 : Int) (r : (List Int) × (List Int)) (hm : GE a1 a2 = some r) : CtX Tryz.prog globs 19 0 0 [.one (tl qE default a1), .one (ci a2)] [] (qIx r) (qIC r) := by
 unfold GE at hm
 refine q_E Tryz.f19 52 fun E => ?_
 refine q_sq ?_
 refine q_vn [] 0 ⟨[(0, vc (tl qE default a1)), (1, vi a2)], []⟩ ?_
 refine q_sq ?_
 refine q_sq ?_
 obtain ⟨v3, h4, hm⟩ := qD hm
 refine q_vu [qc 1 [11] 0 (LX a1 v3 h4)] 0 [] [(13, vb (v3 != 0))] [] [] ?_
 refine q_cn (v3 != 0) (fun b5 => ?_) (fun b5 => ?_)
 ·replace hm := qC b5 hm
  refine q_sq ?_
  refine q_vn [] 0 ⟨[(4, vc (.emp)), (5, vc (.emp))], []⟩ ?_
  refine q_fn [.own 4 0 3 1 (rf e_i64 ([] : List Int))] ⟨[(4, vo 0 0 1 0), (5, vc (.emp))], [(0, ro 0 3 1 0 (rf e_i64 ([] : List Int)))]⟩ o0 ?_
  refine q_fn [.own 5 1 3 1 (rf e_i64 ([] : List Int))] ⟨[(4, vo 0 0 1 0), (5, vo 1 0 1 0)], [(0, ro 0 3 1 0 (rf e_i64 ([] : List Int))), (1, ro 0 3 1 0 (rf e_i64 ([] : List Int)))]⟩ o0 ?_
  refine q_fn [.len 0 (([] : List Int).length)] ⟨[(4, vo 0 0 1 (([] : List Int).length)), (5, vo 1 0 1 0)], [(0, ro 0 3 1 (([] : List Int).length) (rf e_i64 ([] : List Int))), (1, ro 0 3 1 0 (rf e_i64 ([] : List Int)))]⟩ (o1 (And.intro (show 0 = ([] : List Int).length from rfl) (show 0 = ([] : List Int).length from rfl))) ?_
  refine q_fn [.len 1 (([] : List Int).length)] ⟨[(4, vo 0 0 1 (([] : List Int).length)), (5, vo 1 0 1 (([] : List Int).length))], [(0, ro 0 3 1 (([] : List Int).length) (rf e_i64 ([] : List Int))), (1, ro 0 3 1 (([] : List Int).length) (rf e_i64 ([] : List Int)))]⟩ (o1 (And.intro (show 0 = ([] : List Int).length from rfl) (show 0 = ([] : List Int).length from rfl))) ?_
  obtain rfl := Option.some.inj hm
  refine q_rt ?_
  exact q_rm
 ·replace hm := qB b5 hm
  refine q_sk ?_
  refine q_sq ?_
  refine q_vu [] 0 [13] [(6, vc (.emp)), (7, vc (.emp))] [] [] ?_
  refine q_sq ?_
  refine q_sq ?_
  refine q_vu [] 0 [] [(8, vi 0)] [] [] ?_
  refine q_fn [.own 6 0 3 1 (rf e_i64 ([] : List Int))] ⟨[(0, vc (tl qE default a1)), (1, vi a2), (6, vo 0 0 1 0), (7, vc (.emp)), (8, vi 0)], [(0, ro 0 3 1 0 (rf e_i64 ([] : List Int)))]⟩ o0 ?_
  refine q_fn [.own 7 1 3 1 (rf e_i64 ([] : List Int))] ⟨[(0, vc (tl qE default a1)), (1, vi a2), (6, vo 0 0 1 0), (7, vo 1 0 1 0), (8, vi 0)], [(0, ro 0 3 1 0 (rf e_i64 ([] : List Int))), (1, ro 0 3 1 0 (rf e_i64 ([] : List Int)))]⟩ o0 ?_
  obtain ⟨o23, h24, hm⟩ := qD hm
  refine zM (nd Tryz.f19 244) 0 (by kernel_rfl) FUEL (fun o => CI o.1 o.2) o23 (q_hl (BN a1 a2 ([] : List Int) 0 ([] : List Int) 0 0) (qDE E a1 a2 FUEL ([] : List Int) 0 ([] : List Int) 0 0 o23 rfl rfl h24)) ?_
  refine q_sq ?_
  refine q_vu [] 2 [6, 7] [(4, vo 0 0 1 o23.1.length), (5, vo 1 0 1 o23.2.length)] [] [] ?_
  obtain rfl := Option.some.inj hm
  refine q_rt ?_
  exact q_rm
set_option maxRecDepth 100000
def qKa (r : Line × Int) : V := .tup [.agg [ci r.1.Len, ci r.1.Kerf, ci r.1.Pitch, .own 0 0 1 r.1.Sizes.length, .own 1 0 1 r.1.Gain.length, .own 2 0 1 r.1.Chip.length, .own 3 0 1 r.1.Dust.length], .one (ci r.2)]
def qI7 (r : Line × Int) : List (Nat × (Nat × O)) := [(0, ro 0 3 1 r.1.Sizes.length (rf e_i64 r.1.Sizes)), (1, ro 0 37 1 r.1.Gain.length (rf (qM e_i64) r.1.Gain)), (2, ro 0 3 1 r.1.Chip.length (rf e_i64 r.1.Chip)), (3, ro 0 3 1 r.1.Dust.length (rf e_i64 r.1.Dust))]
def qAL (a1 : List Slice) (a2 : List Defect) (a3 : List qA) (a4 : Rect) (a5 : Saw) (a6 : Rates) (v10 : (List Int) × (List Int)) (x12 : Int) (l13 : List (List Int)) (l15 : List Int) (x16 : Int) (x27 : Int) : St :=
 ⟨[(0, vc (tl qF default a1)), (1, vc (tl qG default a2)), (2, vc (tl qE default a3)), (9, vp 0 0), (10, vp 1 0), (11, vp 2 0), (12, vp 3 0), (15, vo 4 0 1 v10.1.length), (16, vo 5 0 1 v10.2.length), (17, vp 6 0), (18, vi x12), (19, vo 8 0 1 l15.length), (20, vi x16), (21, vi x27)], [(0, bx 28 (qK a4)), (1, bx 30 (wA a5)), (2, bx 32 (qW a6)), (3, bx 40 [ci 0, ci 0, ci 0, .emp, .emp, .emp, .emp]), (4, ro 0 3 1 v10.1.length (rf e_i64 v10.1)), (5, ro 0 3 1 v10.2.length (rf e_i64 v10.2)), (6, bx 40 [ci (w64 (a4.X.B - a4.X.A)), ci a5.Kerf, ci 1, .own 4 0 1 v10.1.length, .own 7 0 1 l13.length, .emp, .emp]), (7, ro 0 37 1 l13.length (rf (qM e_i64) l13)), (8, ro 0 3 1 l15.length (rf e_i64 l15))]⟩
def NN (a1 : List Slice) (a2 : List Defect) (a3 : List qA) (a4 : Rect) (a5 : Saw) (a6 : Rates) (v10 : (List Int) × (List Int)) (x12 : Int) (l13 : List (List Int)) (l15 : List Int) (l15n : Nat) (x16 : Int) : St :=
 ⟨[(0, vc (tl qF default a1)), (1, vc (tl qG default a2)), (2, vc (tl qE default a3)), (9, vp 0 0), (10, vp 1 0), (11, vp 2 0), (12, vp 3 0), (15, vo 4 0 1 v10.1.length), (16, vo 5 0 1 v10.2.length), (17, vp 6 0), (18, vi x12), (19, vo 8 0 1 l15n), (20, vi x16)], [(0, bx 28 (qK a4)), (1, bx 30 (wA a5)), (2, bx 32 (qW a6)), (3, bx 40 [ci 0, ci 0, ci 0, .emp, .emp, .emp, .emp]), (4, ro 0 3 1 v10.1.length (rf e_i64 v10.1)), (5, ro 0 3 1 v10.2.length (rf e_i64 v10.2)), (6, bx 40 [ci (w64 (a4.X.B - a4.X.A)), ci a5.Kerf, ci 1, .own 4 0 1 v10.1.length, .own 7 0 1 l13.length, .emp, .emp]), (7, ro 0 37 1 l13.length (rf (qM e_i64) l13)), (8, ro 0 3 1 l15n (rf e_i64 l15))]⟩
def qAu (a1 : List Slice) (a2 : List Defect) (a3 : List qA) (a4 : Rect) (a5 : Saw) (a6 : Rates) (v10 : (List Int) × (List Int)) (x12 : Int) (l13 : List (List Int)) (l29 : List Int) : St :=
 ⟨[(0, vc (tl qF default a1)), (1, vc (tl qG default a2)), (2, vc (tl qE default a3)), (9, vp 0 0), (10, vp 1 0), (11, vp 2 0), (12, vp 3 0), (15, vo 4 0 1 v10.1.length), (16, vo 5 0 1 v10.2.length), (17, vp 6 0), (18, vi x12), (19, vo 8 0 1 l29.length)], [(0, bx 28 (qK a4)), (1, bx 30 (wA a5)), (2, bx 32 (qW a6)), (3, bx 40 [ci 0, ci 0, ci 0, .emp, .emp, .emp, .emp]), (4, ro 0 3 1 v10.1.length (rf e_i64 v10.1)), (5, ro 0 3 1 v10.2.length (rf e_i64 v10.2)), (6, bx 40 [ci (w64 (a4.X.B - a4.X.A)), ci a5.Kerf, ci 1, .own 4 0 1 v10.1.length, .own 7 0 1 l13.length, .emp, .emp]), (7, ro 0 37 1 l13.length (rf (qM e_i64) l13)), (8, ro 0 3 1 l29.length (rf e_i64 l29))]⟩
def FB (a1 : List Slice) (a2 : List Defect) (a3 : List qA) (a4 : Rect) (a5 : Saw) (a6 : Rates) (v10 : (List Int) × (List Int)) (x12 : Int) (l13 : List (List Int)) (l13n : Nat) : St :=
 ⟨[(0, vc (tl qF default a1)), (1, vc (tl qG default a2)), (2, vc (tl qE default a3)), (9, vp 0 0), (10, vp 1 0), (11, vp 2 0), (12, vp 3 0), (15, vo 4 0 1 v10.1.length), (16, vo 5 0 1 v10.2.length), (17, vp 6 0), (18, vi x12)], [(0, bx 28 (qK a4)), (1, bx 30 (wA a5)), (2, bx 32 (qW a6)), (3, bx 40 [ci 0, ci 0, ci 0, .emp, .emp, .emp, .emp]), (4, ro 0 3 1 v10.1.length (rf e_i64 v10.1)), (5, ro 0 3 1 v10.2.length (rf e_i64 v10.2)), (6, bx 40 [ci (w64 (a4.X.B - a4.X.A)), ci a5.Kerf, ci 1, .own 4 0 1 v10.1.length, .own 7 0 1 l13n, .emp, .emp]), (7, ro 0 37 1 l13n (rf (qM e_i64) l13))]⟩
def qA2 (a1 : List Slice) (a4 : Rect) (a5 : Saw) (a6 : Rates) (v10 : (List Int) × (List Int)) (l33 : List (List Int)) : St :=
 ⟨[(0, vc (tl qF default a1)), (9, vp 0 0), (11, vp 2 0), (12, vp 3 0), (17, vp 6 0)], [(0, bx 28 (qK a4)), (2, bx 32 (qW a6)), (3, bx 40 [ci 0, ci 0, ci 0, .emp, .emp, .emp, .emp]), (4, ro 0 3 1 v10.1.length (rf e_i64 v10.1)), (6, bx 40 [ci (w64 (a4.X.B - a4.X.A)), ci a5.Kerf, ci 1, .own 4 0 1 v10.1.length, .own 7 0 1 l33.length, .emp, .emp]), (7, ro 0 37 1 l33.length (rf (qM e_i64) l33))]⟩
def zaQ (a1 : List Slice) (a4 : Rect) (a5 : Saw) (a6 : Rates) (v10 : (List Int) × (List Int)) (o34 : (List (List Int))) (x36 : Int) (l37 : List Int) (l37n : Nat) (l38 : List Int) (l38n : Nat) : St :=
 ⟨[(0, vc (tl qF default a1)), (9, vp 0 0), (11, vp 2 0), (12, vp 3 0), (17, vp 6 0), (22, vi x36)], [(0, bx 28 (qK a4)), (2, bx 32 (qW a6)), (3, bx 40 [ci 0, ci 0, ci 0, .emp, .emp, .emp, .emp]), (4, ro 0 3 1 v10.1.length (rf e_i64 v10.1)), (6, bx 40 [ci (w64 (a4.X.B - a4.X.A)), ci a5.Kerf, ci 1, .own 4 0 1 v10.1.length, .own 7 0 1 o34.length, .own 8 0 1 l37n, .own 9 0 1 l38n]), (7, ro 0 37 1 o34.length (rf (qM e_i64) o34)), (8, ro 0 3 1 l37n (rf e_i64 l37)), (9, ro 0 3 1 l38n (rf e_i64 l38))]⟩
def qA1 (a4 : Rect) (a5 : Saw) (v10 : (List Int) × (List Int)) (o34 : (List (List Int))) (l46 : List Int) (l47 : List Int) : St :=
 ⟨[(12, vp 3 0), (17, vp 6 0)], [(3, bx 40 [ci 0, ci 0, ci 0, .emp, .emp, .emp, .emp]), (4, ro 0 3 1 v10.1.length (rf e_i64 v10.1)), (6, bx 40 [ci (w64 (a4.X.B - a4.X.A)), ci a5.Kerf, ci 1, .own 4 0 1 v10.1.length, .own 7 0 1 o34.length, .own 8 0 1 l46.length, .own 9 0 1 l47.length]), (7, ro 0 37 1 o34.length (rf (qM e_i64) o34)), (8, ro 0 3 1 l46.length (rf e_i64 l46)), (9, ro 0 3 1 l47.length (rf e_i64 l47))]⟩
theorem qEm (E : Env 0) (a1 : List Slice) (a2 : List Defect) (a3 : List qA) (a4 : Rect) (a5 : Saw) (a6 : Rates) (v10 : (List Int) × (List Int)) (x12 : Int) (l13 : List (List Int)) : ∀ (n : Nat) (l15 : List Int) (l15n : Nat) (x16 : Int) (res : (List Int)), l15.length = l15n → jY a1 a2 a3 a4 a5 a6 v10 x12 n l15 x16 = some res → HL (kx E 143 0) (nd Tryz.f8 128148) (zW 2 (fun o => qAu a1 a2 a3 a4 a5 a6 v10 x12 l13 o) res) n (NN a1 a2 a3 a4 a5 a6 v10 x12 l13 l15 l15n x16) := by
 intro n
 induction n with
 | zero =>
  intro l15 l15n x16 res hl0 hm
  cases hm
 | succ n ih =>
  intro l15 l15n x16 res hl0 hm
  subst hl0
  refine qN ?_
  refine q_sq ?_
  refine q_sq ?_
  obtain ⟨g17, hm⟩ := qI hm
  refine q_du [qd 3 (Dir.none) (inb_of g17), qd 4 (Dir.none) (toNat_lt (inb_of g17))] [0, 0, 0, 6, 14, 31, 0, 64, 255] 9 [] [(72, vb (decide ((w64 (x16 + (v10.1.getD x12.toNat default))) ≤ (w64 (a4.X.B - a4.X.A)))))] [] [] ?_
  refine q_cn (decide ((w64 (x16 + (v10.1.getD x12.toNat default))) ≤ (w64 (a4.X.B - a4.X.A)))) (fun b18 => ?_) (fun b18 => ?_)
  ·replace hm := qC b18 hm
   refine q_sk ?_
   refine q_sq ?_
   refine q_bk 3 ?_
   refine q_sq ?_
   refine q_vu [] 9 [72] [(21, vi (-1))] [] [] ?_
   refine q_jn (ι := Int) (fun p => qAL a1 a2 a3 a4 a5 a6 v10 x12 l13 l15 x16 p) (fun p => GX l15 x16 (jY a1 a2 a3 a4 a5 a6 v10 x12 n) p = some res) ?_ ?_
   ·rintro x27 hm
    show H _ (qAL a1 a2 a3 a4 a5 a6 v10 x12 l13 l15 x16 x27) _ _
    obtain ⟨g28, hm⟩ := qI hm
    refine q_vu [qd 2 (drw 9 0 (rf e_i64 ([x27] : List Int))) (litP e_i64 default 1 (fun _ => rfl) ([x27] : List Int) 1 rfl), qd 3 (drw 8 1 (rf e_i64 (l15 ++ ([x27] : List Int)))) (apP e_i64 default l15 ([x27] : List Int) l15.length 1 1 8 (1 ≤ 1) (Nat.le_refl _) rfl rfl (fun _ => rfl) (wD g28))] 9 [19, 21] [(19, vo 8 1 1 (l15.length + 1))] [8] [(8, ro 1 3 1 (l15.length + 1) (rf e_i64 (l15 ++ ([x27] : List Int))))] ?_
    refine q_vu [] 10 [20] [(20, vi (w64 (x16 + 1)))] [] [] ?_
    exact q_hl (NN a1 a2 a3 a4 a5 a6 v10 x12 l13 (l15 ++ ([x27] : List Int)) (l15.length + 1) (w64 (x16 + 1))) (ih (l15 ++ ([x27] : List Int)) (l15.length + 1) (w64 (x16 + 1)) _ (len_app rfl rfl) hm)
   ·refine q_sq ?_
    obtain ⟨g19, hm⟩ := qI hm
    refine q_vu [qd 3 (Dir.none) (qIX g19)] 9 [] [(79, vb ((Int.tmod x16 a5.Pitch) == 0))] [] [] ?_
    refine q_cn ((Int.tmod x16 a5.Pitch) == 0) (fun b20 => ?_) (fun b20 => ?_)
    ·replace hm := qC b20 hm
     obtain ⟨g21, hm⟩ := qI hm
     obtain ⟨g22, hm⟩ := qI hm
     obtain ⟨v23, h24, hm⟩ := qD hm
     obtain ⟨v25, h26, hm⟩ := qD hm
     refine q_du [qd 5 (Dir.none) (inb_of g21), qd 6 (Dir.none) (toNat_lt (inb_of g21)), qd 7 (Dir.none) (inb_of g22), qd 14 (Dir.none) (inb_of g17), qd 15 (Dir.none) (toNat_lt (inb_of g17)), qc 17 [89, 90, 96] 9 (qCi a4 x16 (w64 (x16 + (v10.1.getD x12.toNat default))) v23 h24), qc 20 [80, 81, 88, 97, 98, 99] 9 (qIk a1 a2 (a3.getD (v10.2.getD x12.toNat default).toNat default) v23 a5 a6 v25 h26)] [0, 0, 0, 0, 0, 24, 56, 124, 252, 0, 0, 0, 0, 0, 12288, 28672, 63488, 130560, 0, 0, 1048575, 2097151] 9 [21, 79] [(21, vi v25)] [] [] ?_
     exact q_J (v25) hm
    ·replace hm := qB b20 hm
     refine q_sk ?_
     exact q_J ((-1)) hm
  ·replace hm := qB b18 hm
   refine q_ex 2 ?_
   obtain rfl := Option.some.inj hm
   exact wE (by kernel_rfl) (by kernel_rfl)
theorem qEN (E : Env 0) (a1 : List Slice) (a2 : List Defect) (a3 : List qA) (a4 : Rect) (a5 : Saw) (a6 : Rates) (v10 : (List Int) × (List Int)) : ∀ (n : Nat) (x12 : Int) (l13 : List (List Int)) (l13n : Nat) (res : (List (List Int))), l13.length = l13n → WH a1 a2 a3 a4 a5 a6 v10 n x12 l13 = some res → HL (kx E 143 0) (nd Tryz.f8 500) (zW 0 (fun o => qA2 a1 a4 a5 a6 v10 o) res) n (FB a1 a2 a3 a4 a5 a6 v10 x12 l13 l13n) := by
 intro n
 induction n with
 | zero =>
  intro x12 l13 l13n res hl0 hm
  cases hm
 | succ n ih =>
  intro x12 l13 l13n res hl0 hm
  subst hl0
  refine qN ?_
  refine q_sq ?_
  refine q_sq ?_
  refine q_vu [] 8 [] [(61, vb (decide (x12 < ((v10.1.length : Nat) : Int))))] [] [] ?_
  refine q_cn (decide (x12 < ((v10.1.length : Nat) : Int))) (fun b14 => ?_) (fun b14 => ?_)
  ·replace hm := qC b14 hm
   refine q_sk ?_
   refine q_sq ?_
   refine q_bk 1 ?_
   refine q_sq ?_
   refine q_vu [] 8 [61] [(19, vc (.emp))] [] [] ?_
   refine q_sq ?_
   refine q_sq ?_
   refine q_vu [] 8 [] [(20, vi 0)] [] [] ?_
   refine q_fn [.own 19 8 3 1 (rf e_i64 ([] : List Int))] ⟨[(0, vc (tl qF default a1)), (1, vc (tl qG default a2)), (2, vc (tl qE default a3)), (9, vp 0 0), (10, vp 1 0), (11, vp 2 0), (12, vp 3 0), (15, vo 4 0 1 v10.1.length), (16, vo 5 0 1 v10.2.length), (17, vp 6 0), (18, vi x12), (19, vo 8 0 1 0), (20, vi 0)], [(0, bx 28 (qK a4)), (1, bx 30 (wA a5)), (2, bx 32 (qW a6)), (3, bx 40 [ci 0, ci 0, ci 0, .emp, .emp, .emp, .emp]), (4, ro 0 3 1 v10.1.length (rf e_i64 v10.1)), (5, ro 0 3 1 v10.2.length (rf e_i64 v10.2)), (6, bx 40 [ci (w64 (a4.X.B - a4.X.A)), ci a5.Kerf, ci 1, .own 4 0 1 v10.1.length, .own 7 0 1 l13.length, .emp, .emp]), (7, ro 0 37 1 l13.length (rf (qM e_i64) l13)), (8, ro 0 3 1 0 (rf e_i64 ([] : List Int)))]⟩ o0 ?_
   obtain ⟨o30, h31, hm⟩ := qD hm
   refine zM (nd Tryz.f8 128148) 2 (by kernel_rfl) FUEL (fun o => qAu a1 a2 a3 a4 a5 a6 v10 x12 l13 o) o30 (q_hl (NN a1 a2 a3 a4 a5 a6 v10 x12 l13 ([] : List Int) 0 0) (qEm E a1 a2 a3 a4 a5 a6 v10 x12 l13 FUEL ([] : List Int) 0 0 o30 rfl h31)) ?_
   obtain ⟨g32, hm⟩ := qI hm
   refine q_vu [qd 3 (dpr [.frz 8] (drw 9 0 (rf (qM e_i64) ([o30] : List (List Int))))) (And.intro (Nat.le_refl o30.length) (Nat.le_refl o30.length)), qd 3 (Dir.none) (litP (qM e_i64) default 1 (fun _ => rfl) ([o30] : List (List Int)) 1 rfl), qd 4 (drw 7 1 (rf (qM e_i64) (l13 ++ ([o30] : List (List Int))))) (apP (qM e_i64) default l13 ([o30] : List (List Int)) l13.length 1 1 24 (1 ≤ 1) (Nat.le_refl _) rfl rfl (fun _ => rfl) (wD g32))] 9 [19] [] [6, 7, 8] [(6, bx 40 [ci (w64 (a4.X.B - a4.X.A)), ci a5.Kerf, ci 1, .own 4 0 1 v10.1.length, .own 7 1 1 (l13.length + 1), .emp, .emp]), (7, ro 1 37 1 (l13.length + 1) (rf (qM e_i64) (l13 ++ ([o30] : List (List Int)))))] ?_
   refine q_vu [] 10 [18] [(18, vi (w64 (x12 + 1)))] [] [] ?_
   exact q_hl (FB a1 a2 a3 a4 a5 a6 v10 (w64 (x12 + 1)) (l13 ++ ([o30] : List (List Int))) (l13.length + 1)) (ih (w64 (x12 + 1)) (l13 ++ ([o30] : List (List Int))) (l13.length + 1) _ (len_app rfl rfl) hm)
  ·replace hm := qB b14 hm
   refine q_ex 0 ?_
   obtain rfl := Option.some.inj hm
   exact wE (by kernel_rfl) (by kernel_rfl)
theorem qED (E : Env 0) (a1 : List Slice) (a4 : Rect) (a5 : Saw) (a6 : Rates) (v10 : (List Int) × (List Int)) (o34 : (List (List Int))) : ∀ (n : Nat) (x36 : Int) (l37 : List Int) (l37n : Nat) (l38 : List Int) (l38n : Nat) (res : (List Int) × (List Int)), l37.length = l37n → l38.length = l38n → WG a1 a4 a6 n x36 l37 l38 = some res → HL (kx E 143 0) (nd Tryz.f8 1012) (zW 4 (fun o => qA1 a4 a5 v10 o34 o.1 o.2) res) n (zaQ a1 a4 a5 a6 v10 o34 x36 l37 l37n l38 l38n) := by
 intro n
 induction n with
 | zero =>
  intro x36 l37 l37n l38 l38n res hl0 hl1 hm
  cases hm
 | succ n ih =>
  intro x36 l37 l37n l38 l38n res hl0 hl1 hm
  subst hl0
  subst hl1
  refine qN ?_
  refine q_sq ?_
  refine q_sq ?_
  refine q_vu [] 10 [] [(114, vb (decide (x36 < (w64 (a4.X.B - a4.X.A)))))] [] [] ?_
  refine q_cn (decide (x36 < (w64 (a4.X.B - a4.X.A)))) (fun b39 => ?_) (fun b39 => ?_)
  ·replace hm := qC b39 hm
   refine q_sk ?_
   refine q_sq ?_
   refine q_bk 5 ?_
   refine q_sq ?_
   obtain ⟨v40, h41, hm⟩ := qD hm
   obtain ⟨v42, h43, hm⟩ := qD hm
   refine q_vu [qc 5 [118, 119, 121] 10 (qCi a4 x36 (w64 (x36 + 1)) v40 h41), qc 6 [117, 122] 10 (qAV a1 v40 v42 h43)] 10 [114] [(23, vi v42)] [] [] ?_
   refine q_sq ?_
   obtain ⟨g44, hm⟩ := qI hm
   refine q_vu [qd 6 (drw 10 0 (rf e_i64 ([w64 (a6.Chip * v42)] : List Int))) (litP e_i64 default 1 (fun _ => rfl) ([w64 (a6.Chip * v42)] : List Int) 1 rfl), qd 7 (drw 8 1 (rf e_i64 (l37 ++ ([w64 (a6.Chip * v42)] : List Int)))) (apP e_i64 default l37 ([w64 (a6.Chip * v42)] : List Int) l37.length 1 1 8 (1 ≤ 1) (Nat.le_refl _) rfl rfl (fun _ => rfl) (wD g44))] 10 [] [] [6, 8] [(6, bx 40 [ci (w64 (a4.X.B - a4.X.A)), ci a5.Kerf, ci 1, .own 4 0 1 v10.1.length, .own 7 0 1 o34.length, .own 8 1 1 (l37.length + 1), .own 9 0 1 l38.length]), (8, ro 1 3 1 (l37.length + 1) (rf e_i64 (l37 ++ ([w64 (a6.Chip * v42)] : List Int))))] ?_
   obtain ⟨g45, hm⟩ := qI hm
   refine q_vu [qd 6 (drw 11 0 (rf e_i64 ([w64 (a6.Dust * v42)] : List Int))) (litP e_i64 default 1 (fun _ => rfl) ([w64 (a6.Dust * v42)] : List Int) 1 rfl), qd 7 (drw 9 1 (rf e_i64 (l38 ++ ([w64 (a6.Dust * v42)] : List Int)))) (apP e_i64 default l38 ([w64 (a6.Dust * v42)] : List Int) l38.length 1 1 8 (1 ≤ 1) (Nat.le_refl _) rfl rfl (fun _ => rfl) (wD g45))] 11 [23] [] [6, 9] [(6, bx 40 [ci (w64 (a4.X.B - a4.X.A)), ci a5.Kerf, ci 1, .own 4 0 1 v10.1.length, .own 7 0 1 o34.length, .own 8 1 1 (l37.length + 1), .own 9 1 1 (l38.length + 1)]), (9, ro 1 3 1 (l38.length + 1) (rf e_i64 (l38 ++ ([w64 (a6.Dust * v42)] : List Int))))] ?_
   refine q_vu [] 12 [22] [(22, vi (w64 (x36 + 1)))] [] [] ?_
   exact q_hl (zaQ a1 a4 a5 a6 v10 o34 (w64 (x36 + 1)) (l37 ++ ([w64 (a6.Chip * v42)] : List Int)) (l37.length + 1) (l38 ++ ([w64 (a6.Dust * v42)] : List Int)) (l38.length + 1)) (ih (w64 (x36 + 1)) (l37 ++ ([w64 (a6.Chip * v42)] : List Int)) (l37.length + 1) (l38 ++ ([w64 (a6.Dust * v42)] : List Int)) (l38.length + 1) _ (len_app rfl rfl) (len_app rfl rfl) hm)
  ·replace hm := qB b39 hm
   refine q_ex 4 ?_
   obtain rfl := Option.some.inj hm
   exact wE (by kernel_rfl) (by kernel_rfl)
theorem qH8 (a1 : List Slice) (a2 : List Defect) (a3 : List qA) (a4 : Rect) (a5 : Saw) (a6 : Rates) (r : Line × Int) (hm : FR a1 a2 a3 a4 a5 a6 = some r) : CtX Tryz.prog globs 8 0 0 [.one (tl qF default a1), .one (tl qG default a2), .one (tl qE default a3), .agg (qK a4), .agg (wA a5), .agg (qW a6)] [] (qKa r) (qI7 r) := by
 unfold FR at hm
 refine q_E Tryz.f8 143 fun E => ?_
 refine q_sq ?_
 refine q_vn [] 0 ⟨[(0, vc (tl qF default a1)), (1, vc (tl qG default a2)), (2, vc (tl qE default a3)), (9, vp 0 0), (10, vp 1 0), (11, vp 2 0), (12, vp 3 0)], [(0, bx 28 (qK a4)), (1, bx 30 (wA a5)), (2, bx 32 (qW a6)), (3, bx 40 [ci 0, ci 0, ci 0, .emp, .emp, .emp, .emp])]⟩ ?_
 refine q_sq ?_
 refine q_sq ?_
 obtain ⟨v7, h8, hm⟩ := qD hm
 refine q_vu [qc 6 [24, 25, 26, 27, 28, 29] 4 (qGM a1 a2 a3 a4 a5 a6 v7 h8)] 4 [] [(14, vi v7)] [] [] ?_
 refine q_sq ?_
 refine q_vu [] 4 [] [(32, vb (v7 != 0))] [] [] ?_
 refine q_cn (v7 != 0) (fun b9 => ?_) (fun b9 => ?_)
 ·replace hm := qC b9 hm
  refine q_sq ?_
  refine q_vu [] 4 [0, 1, 2, 9, 10, 11, 14, 32] [(13, vi v7)] [0, 1, 2] [] ?_
  refine q_fn [.ownB 3 3 4 3 1 (rf e_i64 ([] : List Int))] ⟨[(12, vp 3 0), (13, vi v7)], [(3, bx 40 [ci 0, ci 0, ci 0, .own 4 0 1 0, .emp, .emp, .emp]), (4, ro 0 3 1 0 (rf e_i64 ([] : List Int)))]⟩ o0 ?_
  refine q_fn [.ownB 3 4 5 37 1 (rf (qM e_i64) ([] : List (List Int)))] ⟨[(12, vp 3 0), (13, vi v7)], [(3, bx 40 [ci 0, ci 0, ci 0, .own 4 0 1 0, .own 5 0 1 0, .emp, .emp]), (4, ro 0 3 1 0 (rf e_i64 ([] : List Int))), (5, ro 0 37 1 0 (rf (qM e_i64) ([] : List (List Int))))]⟩ o0 ?_
  refine q_fn [.ownB 3 5 6 3 1 (rf e_i64 ([] : List Int))] ⟨[(12, vp 3 0), (13, vi v7)], [(3, bx 40 [ci 0, ci 0, ci 0, .own 4 0 1 0, .own 5 0 1 0, .own 6 0 1 0, .emp]), (4, ro 0 3 1 0 (rf e_i64 ([] : List Int))), (5, ro 0 37 1 0 (rf (qM e_i64) ([] : List (List Int)))), (6, ro 0 3 1 0 (rf e_i64 ([] : List Int)))]⟩ o0 ?_
  refine q_fn [.ownB 3 6 7 3 1 (rf e_i64 ([] : List Int))] ⟨[(12, vp 3 0), (13, vi v7)], [(3, bx 40 [ci 0, ci 0, ci 0, .own 4 0 1 0, .own 5 0 1 0, .own 6 0 1 0, .own 7 0 1 0]), (4, ro 0 3 1 0 (rf e_i64 ([] : List Int))), (5, ro 0 37 1 0 (rf (qM e_i64) ([] : List (List Int)))), (6, ro 0 3 1 0 (rf e_i64 ([] : List Int))), (7, ro 0 3 1 0 (rf e_i64 ([] : List Int)))]⟩ o0 ?_
  refine q_fn [.len 4 (([] : List Int).length)] ⟨[(12, vp 3 0), (13, vi v7)], [(3, bx 40 [ci 0, ci 0, ci 0, .own 4 0 1 (([] : List Int).length), .own 5 0 1 0, .own 6 0 1 0, .own 7 0 1 0]), (4, ro 0 3 1 (([] : List Int).length) (rf e_i64 ([] : List Int))), (5, ro 0 37 1 0 (rf (qM e_i64) ([] : List (List Int)))), (6, ro 0 3 1 0 (rf e_i64 ([] : List Int))), (7, ro 0 3 1 0 (rf e_i64 ([] : List Int)))]⟩ (o1 (And.intro (show 0 = ([] : List Int).length from rfl) (show 0 = ([] : List Int).length from rfl))) ?_
  refine q_fn [.len 5 (([] : List (List Int)).length)] ⟨[(12, vp 3 0), (13, vi v7)], [(3, bx 40 [ci 0, ci 0, ci 0, .own 4 0 1 (([] : List Int).length), .own 5 0 1 (([] : List (List Int)).length), .own 6 0 1 0, .own 7 0 1 0]), (4, ro 0 3 1 (([] : List Int).length) (rf e_i64 ([] : List Int))), (5, ro 0 37 1 (([] : List (List Int)).length) (rf (qM e_i64) ([] : List (List Int)))), (6, ro 0 3 1 0 (rf e_i64 ([] : List Int))), (7, ro 0 3 1 0 (rf e_i64 ([] : List Int)))]⟩ (o1 (And.intro (show 0 = ([] : List (List Int)).length from rfl) (show 0 = ([] : List (List Int)).length from rfl))) ?_
  refine q_fn [.len 6 (([] : List Int).length)] ⟨[(12, vp 3 0), (13, vi v7)], [(3, bx 40 [ci 0, ci 0, ci 0, .own 4 0 1 (([] : List Int).length), .own 5 0 1 (([] : List (List Int)).length), .own 6 0 1 (([] : List Int).length), .own 7 0 1 0]), (4, ro 0 3 1 (([] : List Int).length) (rf e_i64 ([] : List Int))), (5, ro 0 37 1 (([] : List (List Int)).length) (rf (qM e_i64) ([] : List (List Int)))), (6, ro 0 3 1 (([] : List Int).length) (rf e_i64 ([] : List Int))), (7, ro 0 3 1 0 (rf e_i64 ([] : List Int)))]⟩ (o1 (And.intro (show 0 = ([] : List Int).length from rfl) (show 0 = ([] : List Int).length from rfl))) ?_
  refine q_fn [.len 7 (([] : List Int).length)] ⟨[(12, vp 3 0), (13, vi v7)], [(3, bx 40 [ci 0, ci 0, ci 0, .own 4 0 1 (([] : List Int).length), .own 5 0 1 (([] : List (List Int)).length), .own 6 0 1 (([] : List Int).length), .own 7 0 1 (([] : List Int).length)]), (4, ro 0 3 1 (([] : List Int).length) (rf e_i64 ([] : List Int))), (5, ro 0 37 1 (([] : List (List Int)).length) (rf (qM e_i64) ([] : List (List Int)))), (6, ro 0 3 1 (([] : List Int).length) (rf e_i64 ([] : List Int))), (7, ro 0 3 1 (([] : List Int).length) (rf e_i64 ([] : List Int)))]⟩ (o1 (And.intro (show 0 = ([] : List Int).length from rfl) (show 0 = ([] : List Int).length from rfl))) ?_
  obtain rfl := Option.some.inj hm
  refine qV 4 0 (by kernel_rfl) ?_
  refine qV 5 1 (by kernel_rfl) ?_
  refine qV 6 2 (by kernel_rfl) ?_
  refine qV 7 3 (by kernel_rfl) ?_
  refine q_rt ?_
  exact q_rm
 ·replace hm := qB b9 hm
  refine q_sk ?_
  refine q_sq ?_
  obtain ⟨v10, h11, hm⟩ := qD hm
  refine q_vu [qc 8 [36, 43] 4 (qGv a3 (w64 (a4.Y.B - a4.Y.A)) v10 h11)] 4 [14, 32] [(15, vo 4 0 1 v10.1.length), (16, vo 5 0 1 v10.2.length)] [] [(4, ro 0 3 1 v10.1.length (rf e_i64 v10.1)), (5, ro 0 3 1 v10.2.length (rf e_i64 v10.2))] ?_
  refine q_sq ?_
  refine q_vu [] 6 [] [(17, vp 6 0)] [] [(6, bx 40 [ci (w64 (a4.X.B - a4.X.A)), ci a5.Kerf, ci 1, .own 4 0 1 v10.1.length, .emp, .emp, .emp])] ?_
  refine q_sq ?_
  refine q_sq ?_
  refine q_vu [] 7 [] [(18, vi 0)] [] [] ?_
  refine q_fn [.ownB 6 4 7 37 1 (rf (qM e_i64) ([] : List (List Int)))] ⟨[(0, vc (tl qF default a1)), (1, vc (tl qG default a2)), (2, vc (tl qE default a3)), (9, vp 0 0), (10, vp 1 0), (11, vp 2 0), (12, vp 3 0), (15, vo 4 0 1 v10.1.length), (16, vo 5 0 1 v10.2.length), (17, vp 6 0), (18, vi 0)], [(0, bx 28 (qK a4)), (1, bx 30 (wA a5)), (2, bx 32 (qW a6)), (3, bx 40 [ci 0, ci 0, ci 0, .emp, .emp, .emp, .emp]), (4, ro 0 3 1 v10.1.length (rf e_i64 v10.1)), (5, ro 0 3 1 v10.2.length (rf e_i64 v10.2)), (6, bx 40 [ci (w64 (a4.X.B - a4.X.A)), ci a5.Kerf, ci 1, .own 4 0 1 v10.1.length, .own 7 0 1 0, .emp, .emp]), (7, ro 0 37 1 0 (rf (qM e_i64) ([] : List (List Int))))]⟩ o0 ?_
  obtain ⟨o34, h35, hm⟩ := qD hm
  refine zM (nd Tryz.f8 500) 0 (by kernel_rfl) FUEL (fun o => qA2 a1 a4 a5 a6 v10 o) o34 (q_hl (FB a1 a2 a3 a4 a5 a6 v10 0 ([] : List (List Int)) 0) (qEN E a1 a2 a3 a4 a5 a6 v10 FUEL 0 ([] : List (List Int)) 0 o34 rfl h35)) ?_
  refine q_sq ?_
  refine q_sq ?_
  refine q_vu [] 8 [] [(22, vi 0)] [] [] ?_
  refine q_fn [.ownB 6 5 8 3 1 (rf e_i64 ([] : List Int))] ⟨[(0, vc (tl qF default a1)), (9, vp 0 0), (11, vp 2 0), (12, vp 3 0), (17, vp 6 0), (22, vi 0)], [(0, bx 28 (qK a4)), (2, bx 32 (qW a6)), (3, bx 40 [ci 0, ci 0, ci 0, .emp, .emp, .emp, .emp]), (4, ro 0 3 1 v10.1.length (rf e_i64 v10.1)), (6, bx 40 [ci (w64 (a4.X.B - a4.X.A)), ci a5.Kerf, ci 1, .own 4 0 1 v10.1.length, .own 7 0 1 o34.length, .own 8 0 1 0, .emp]), (7, ro 0 37 1 o34.length (rf (qM e_i64) o34)), (8, ro 0 3 1 0 (rf e_i64 ([] : List Int)))]⟩ o0 ?_
  refine q_fn [.ownB 6 6 9 3 1 (rf e_i64 ([] : List Int))] ⟨[(0, vc (tl qF default a1)), (9, vp 0 0), (11, vp 2 0), (12, vp 3 0), (17, vp 6 0), (22, vi 0)], [(0, bx 28 (qK a4)), (2, bx 32 (qW a6)), (3, bx 40 [ci 0, ci 0, ci 0, .emp, .emp, .emp, .emp]), (4, ro 0 3 1 v10.1.length (rf e_i64 v10.1)), (6, bx 40 [ci (w64 (a4.X.B - a4.X.A)), ci a5.Kerf, ci 1, .own 4 0 1 v10.1.length, .own 7 0 1 o34.length, .own 8 0 1 0, .own 9 0 1 0]), (7, ro 0 37 1 o34.length (rf (qM e_i64) o34)), (8, ro 0 3 1 0 (rf e_i64 ([] : List Int))), (9, ro 0 3 1 0 (rf e_i64 ([] : List Int)))]⟩ o0 ?_
  obtain ⟨o48, h49, hm⟩ := qD hm
  refine zM (nd Tryz.f8 1012) 4 (by kernel_rfl) FUEL (fun o => qA1 a4 a5 v10 o34 o.1 o.2) o48 (q_hl (zaQ a1 a4 a5 a6 v10 o34 0 ([] : List Int) 0 ([] : List Int) 0) (qED E a1 a4 a5 a6 v10 o34 FUEL 0 ([] : List Int) 0 ([] : List Int) 0 o48 rfl rfl h49)) ?_
  refine q_sq ?_
  refine q_vu [] 10 [17] [(13, vi 0)] [3, 6] [(3, bx 40 [ci (w64 (a4.X.B - a4.X.A)), ci a5.Kerf, ci 1, .own 4 0 1 v10.1.length, .own 7 0 1 o34.length, .own 8 0 1 o48.1.length, .own 9 0 1 o48.2.length])] ?_
  obtain rfl := Option.some.inj hm
  refine qV 4 0 (by kernel_rfl) ?_
  refine qV 7 1 (by kernel_rfl) ?_
  refine qV 8 2 (by kernel_rfl) ?_
  refine qV 9 3 (by kernel_rfl) ?_
  refine q_rt ?_
  exact q_rm
open Go.Proofs
set_option maxHeartbeats 4000000
set_option maxRecDepth 100000
def BD (r : Bool) : V := vb r
def DN (r : Bool) : List (Nat × (Nat × O)) := []
def PS (a1 : List Int) (a2 : List Int) (x4 : Int) : St :=
 ⟨[(0, vc (tl e_i64 default a1)), (1, vc (tl e_i64 default a2)), (5, vi x4)], []⟩
def LJ : St :=
 ⟨[], []⟩
theorem qBU (E : Env 0) (a1 : List Int) (a2 : List Int) : ∀ (n : Nat) (x4 : Int) (res : Bool ⊕ Unit), QJ a1 a2 n x4 = some res → HL (kx E 26 0) (nd Tryz.f23 116) (zZ 0 (fun o => LJ) (fun v st => RetQ Tryz.prog Tryz.f23 (BD v) (DN v) .ret st) res) n (PS a1 a2 x4) := by
 intro n
 induction n with
 | zero =>
  intro x4 res hm
  cases hm
 | succ n ih =>
  intro x4 res hm
  refine qN ?_
  refine q_sq ?_
  refine q_sq ?_
  refine q_vu [] 0 [] [(14, vb (decide (x4 < ((a1.length : Nat) : Int))))] [] [] ?_
  refine q_cn (decide (x4 < ((a1.length : Nat) : Int))) (fun b5 => ?_) (fun b5 => ?_)
  ·replace hm := qC b5 hm
   refine q_sk ?_
   refine q_sq ?_
   refine q_bk 1 ?_
   refine q_sq ?_
   obtain ⟨g6, hm⟩ := qI hm
   obtain ⟨g7, hm⟩ := qI hm
   refine q_du [qd 2 (Dir.none) (inb_of g6), qd 6 (Dir.none) (inb_of g7)] [0, 0, 3, 7, 0, 0, 48, 112, 255] 0 [14] [(25, vb ((a1.getD x4.toNat default) != (a2.getD x4.toNat default)))] [] [] ?_
   refine q_cn ((a1.getD x4.toNat default) != (a2.getD x4.toNat default)) (fun b8 => ?_) (fun b8 => ?_)
   ·replace hm := qC b8 hm
    refine q_sq ?_
    refine q_vn [] 0 ⟨[(4, vb false)], []⟩ ?_
    obtain rfl := Option.some.inj hm
    refine q_rt ?_
    refine qR false ?_
    exact q_rm
   ·replace hm := qB b8 hm
    refine q_sk ?_
    refine q_vu [] 0 [5, 25] [(5, vi (w64 (x4 + 1)))] [] [] ?_
    exact q_hl (PS a1 a2 (w64 (x4 + 1))) (ih (w64 (x4 + 1)) _ hm)
  ·replace hm := qB b5 hm
   refine q_ex 0 ?_
   obtain rfl := Option.some.inj hm
   exact wC () (by kernel_rfl) (by kernel_rfl)
theorem wV (a1 : List Int) (a2 : List Int) (r : Bool) (hm : yK a1 a2 = some r) : CtX Tryz.prog globs 23 0 0 [.one (tl e_i64 default a1), .one (tl e_i64 default a2)] [] (BD r) (DN r) := by
 unfold yK at hm
 refine q_E Tryz.f23 26 fun E => ?_
 refine q_sq ?_
 refine q_vn [] 0 ⟨[(0, vc (tl e_i64 default a1)), (1, vc (tl e_i64 default a2))], []⟩ ?_
 refine q_sq ?_
 refine q_sq ?_
 refine q_vu [] 0 [] [(10, vb (((a1.length : Nat) : Int) != ((a2.length : Nat) : Int)))] [] [] ?_
 refine q_cn (((a1.length : Nat) : Int) != ((a2.length : Nat) : Int)) (fun b3 => ?_) (fun b3 => ?_)
 ·replace hm := qC b3 hm
  refine q_sq ?_
  refine q_vn [] 0 ⟨[(4, vb false)], []⟩ ?_
  obtain rfl := Option.some.inj hm
  refine q_rt ?_
  exact q_rm
 ·replace hm := qB b3 hm
  refine q_sk ?_
  refine q_sq ?_
  refine q_sq ?_
  refine q_vu [] 0 [10] [(5, vi 0)] [] [] ?_
  obtain ⟨u11, h10, hm⟩ := qD hm
  refine zH (nd Tryz.f23 116) 0 (by kernel_rfl) FUEL (fun o => LJ) (fun v st => RetQ Tryz.prog Tryz.f23 (BD v) (DN v) .ret st) u11 (q_hl (PS a1 a2 0) (qBU E a1 a2 FUEL 0 u11 h10)) ?_ ?_
  ·rintro v12 rfl st hr
   obtain rfl := Option.some.inj hm
   exact hr
  ·rintro o9 rfl
   replace hm : _ = some r := hm
   refine q_sq ?_
   refine q_vn [] 0 ⟨[(4, vb true)], []⟩ ?_
   obtain rfl := Option.some.inj hm
   refine q_rt ?_
   exact q_rm
def ZB (r : Bool) : V := vb r
def jB (r : Bool) : List (Nat × (Nat × O)) := []
theorem DX (r : Bool) : YC (jB r) := by
 intro i k o h
 unfold jB at h
 cases h
def PU (a1 : Line) (a2 : Line) (x17 : Int) : St :=
 ⟨[(2, vp 0 0), (3, vp 1 0), (5, vi x17)], [(0, bx 40 (zF a1)), (1, bx 40 (zF a2))]⟩
def LL : St :=
 ⟨[], []⟩
def LK (a1 : Line) (a2 : Line) (x15 : Bool) : St :=
 ⟨[(2, vp 0 0), (3, vp 1 0), (57, vb x15)], [(0, bx 40 (zF a1)), (1, bx 40 (zF a2))]⟩
theorem qB5 (E : Env 0) (a1 : Line) (a2 : Line) : ∀ (n : Nat) (x17 : Int) (res : Bool ⊕ Unit), QI a1 a2 n x17 = some res → HL (kx E 77 0) (nd Tryz.f9 116) (zZ 0 (fun o => LL) (fun v st => RetQ Tryz.prog Tryz.f9 (ZB v) (jB v) .ret st) res) n (PU a1 a2 x17) := by
 intro n
 induction n with
 | zero =>
  intro x17 res hm
  cases hm
 | succ n ih =>
  intro x17 res hm
  refine qN ?_
  refine q_sq ?_
  refine q_sq ?_
  refine q_vu [] 2 [] [(62, vb (decide (x17 < ((a1.Gain.length : Nat) : Int))))] [] [] ?_
  refine q_cn (decide (x17 < ((a1.Gain.length : Nat) : Int))) (fun b18 => ?_) (fun b18 => ?_)
  ·replace hm := qC b18 hm
   refine q_sk ?_
   refine q_sq ?_
   refine q_bk 1 ?_
   refine q_sq ?_
   obtain ⟨g19, hm⟩ := qI hm
   obtain ⟨g20, hm⟩ := qI hm
   obtain ⟨v21, h22, hm⟩ := qD hm
   refine q_du [qd 3 (Dir.none) (inb_of g19), qd 8 (Dir.none) (inb_of g20), qc 10 [69, 74] 2 (wV (a1.Gain.getD x17.toNat default) (a2.Gain.getD x17.toNat default) v21 h22)] [0, 1, 0, 7, 15, 0, 32, 0, 224, 480, 1023, 2047] 2 [62] [(76, vb (!v21))] [] [] ?_
   refine q_cn (!v21) (fun b23 => ?_) (fun b23 => ?_)
   ·replace hm := qC b23 hm
    refine q_sq ?_
    refine q_vn [] 2 ⟨[(4, vb false)], []⟩ ?_
    obtain rfl := Option.some.inj hm
    refine q_rt ?_
    refine qR false ?_
    exact q_rm
   ·replace hm := qB b23 hm
    refine q_sk ?_
    refine q_vu [] 2 [5, 76] [(5, vi (w64 (x17 + 1)))] [] [] ?_
    exact q_hl (PU a1 a2 (w64 (x17 + 1))) (ih (w64 (x17 + 1)) _ hm)
  ·replace hm := qB b18 hm
   refine q_ex 0 ?_
   obtain rfl := Option.some.inj hm
   exact wC () (by kernel_rfl) (by kernel_rfl)
theorem ref17_SameLine_ok (a1 : Line) (a2 : Line) (r : Bool) (hm : JC a1 a2 = some r) : CtX Tryz.prog globs 9 0 0 [.agg (zF a1), .agg (zF a2)] [] (ZB r) (jB r) := by
 unfold JC at hm
 refine q_E Tryz.f9 77 fun E => ?_
 refine q_sq ?_
 refine q_vn [] 0 ⟨[(2, vp 0 0), (3, vp 1 0)], [(0, bx 40 (zF a1)), (1, bx 40 (zF a2))]⟩ ?_
 refine q_sq ?_
 refine q_jn (ι := Bool) (fun p => LK a1 a2 p) (fun p => wG a1 a2 p = some r) ?_ ?_
 ·rintro x15 hm
  show H _ (LK a1 a2 x15) _ _
  refine q_cn x15 (fun b16 => ?_) (fun b16 => ?_)
  ·replace hm := qC b16 hm
   refine q_sq ?_
   refine q_vn [] 2 ⟨[(4, vb false)], []⟩ ?_
   obtain rfl := Option.some.inj hm
   refine q_rt ?_
   exact q_rm
  ·replace hm := qB b16 hm
   refine q_sk ?_
   refine q_sq ?_
   refine q_sq ?_
   refine q_vu [] 2 [57] [(5, vi 0)] [] [] ?_
   obtain ⟨u26, h25, hm⟩ := qD hm
   refine zH (nd Tryz.f9 116) 0 (by kernel_rfl) FUEL (fun o => LL) (fun v st => RetQ Tryz.prog Tryz.f9 (ZB v) (jB v) .ret st) u26 (q_hl (PU a1 a2 0) (qB5 E a1 a2 FUEL 0 u26 h25)) ?_ ?_
   ·rintro v27 rfl st hr
    obtain rfl := Option.some.inj hm
    exact hr
   ·rintro o24 rfl
    replace hm : _ = some r := hm
    refine q_sq ?_
    refine q_vn [] 2 ⟨[(4, vb true)], []⟩ ?_
    obtain rfl := Option.some.inj hm
    refine q_rt ?_
    exact q_rm
 ·rcases Bool.eq_false_or_eq_true (a1.Len != a2.Len) with b3 | b3
  ·replace hm := qC b3 hm
   refine q_vu [qf 5 b3] 2 [] [(57, vb true)] [] [] ?_
   exact q_J (true) hm
  ·replace hm := qB b3 hm
   rcases Bool.eq_false_or_eq_true (a1.Kerf != a2.Kerf) with b4 | b4
   ·replace hm := qC b4 hm
    refine q_vu [qf 5 b3, qf 12 b4] 2 [] [(57, vb true)] [] [] ?_
    exact q_J (true) hm
   ·replace hm := qB b4 hm
    rcases Bool.eq_false_or_eq_true (a1.Pitch != a2.Pitch) with b5 | b5
    ·replace hm := qC b5 hm
     refine q_vu [qf 5 b3, qf 12 b4, qf 19 b5] 2 [] [(57, vb true)] [] [] ?_
     exact q_J (true) hm
    ·replace hm := qB b5 hm
     obtain ⟨v6, h7, hm⟩ := qD hm
     rcases Bool.eq_false_or_eq_true (!v6) with b8 | b8
     ·replace hm := qC b8 hm
      refine q_vu [qf 5 b3, qf 12 b4, qf 19 b5, qk 24 [25, 27, 29] 2 ⟨[(25, vb false), (27, vc (tl e_i64 default a1.Sizes)), (29, vc (tl e_i64 default a2.Sizes))], []⟩ (wV a1.Sizes a2.Sizes v6 h7), qf 27 b8] 2 [] [(57, vb true)] [] [] ?_
      exact q_J (true) hm
     ·replace hm := qB b8 hm
      rcases Bool.eq_false_or_eq_true (((a1.Gain.length : Nat) : Int) != ((a2.Gain.length : Nat) : Int)) with b9 | b9
      ·replace hm := qC b9 hm
       refine q_vu [qf 5 b3, qf 12 b4, qf 19 b5, qk 24 [25, 27, 29] 2 ⟨[(25, vb false), (27, vc (tl e_i64 default a1.Sizes)), (29, vc (tl e_i64 default a2.Sizes))], []⟩ (wV a1.Sizes a2.Sizes v6 h7), qf 27 b8, qf 36 b9] 2 [] [(57, vb true)] [] [] ?_
       exact q_J (true) hm
      ·replace hm := qB b9 hm
       obtain ⟨v10, h11, hm⟩ := qD hm
       rcases Bool.eq_false_or_eq_true (!v10) with b12 | b12
       ·replace hm := qC b12 hm
        refine q_vu [qf 5 b3, qf 12 b4, qf 19 b5, qk 24 [25, 27, 29] 2 ⟨[(25, vb false), (27, vc (tl e_i64 default a1.Sizes)), (29, vc (tl e_i64 default a2.Sizes))], []⟩ (wV a1.Sizes a2.Sizes v6 h7), qf 27 b8, qf 36 b9, qk 41 [42, 44, 46] 2 ⟨[(42, vb false), (44, vc (tl e_i64 default a1.Chip)), (46, vc (tl e_i64 default a2.Chip))], []⟩ (wV a1.Chip a2.Chip v10 h11), qf 44 b12] 2 [] [(57, vb true)] [] [] ?_
        exact q_J (true) hm
       ·replace hm := qB b12 hm
        obtain ⟨v13, h14, hm⟩ := qD hm
        refine q_vu [qf 5 b3, qf 12 b4, qf 19 b5, qk 24 [25, 27, 29] 2 ⟨[(25, vb false), (27, vc (tl e_i64 default a1.Sizes)), (29, vc (tl e_i64 default a2.Sizes))], []⟩ (wV a1.Sizes a2.Sizes v6 h7), qf 27 b8, qf 36 b9, qk 41 [42, 44, 46] 2 ⟨[(42, vb false), (44, vc (tl e_i64 default a1.Chip)), (46, vc (tl e_i64 default a2.Chip))], []⟩ (wV a1.Chip a2.Chip v10 h11), qf 44 b12, qk 49 [50, 52, 54] 2 ⟨[(50, vb false), (52, vc (tl e_i64 default a1.Dust)), (54, vc (tl e_i64 default a2.Dust))], []⟩ (wV a1.Dust a2.Dust v13 h14)] 2 [] [(57, vb (!v13))] [] [] ?_
        exact q_J (!v13) hm
end Saw
end Go.SL
