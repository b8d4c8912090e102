import Derived.Test.YtjobdnkaonbgnaaGreatEBase
import Derived.Test.YtjobdnkaonbgnaaGreatEFa7
import Derived.Test.YtjobdnkaonbgnaaGreatEFa10
import Derived.Test.YtjobdnkaonbgnaaGreatEFa8
set_option linter.unusedVariables false
set_option linter.unusedSimpArgs false
namespace Go.SL
namespace Saw
open Go.Proofs
set_option maxHeartbeats 4000000
set_option maxRecDepth 100000
def qND (r : (List Slice)) : V := vo 0 0 3 r.length
def qNI (r : (List Slice)) : List (Nat × (Nat × O)) := [(0, ro 0 59 3 r.length (rf qH r))]
def qDa (a1 : List Slice) (a2 : Span) (x7 : Int) (x8 : Int) (l15 : List Slice) (l15n : Nat) : St :=
 ⟨[(0, vc (tl qH default a1)), (3, vp 0 0), (5, vo 1 0 3 l15n), (6, vi x7), (7, vi x8)], [(0, bx 26 [ci (imax a2.A 0), ci (imin a2.B 20000)]), (1, ro 0 59 3 l15n (rf qH l15))]⟩
def IH (a1 : List Slice) (a2 : Span) (l6 : List Slice) (l6n : Nat) (x7 : Int) (x8 : Int) : St :=
 ⟨[(0, vc (tl qH default a1)), (3, vp 0 0), (5, vo 1 0 3 l6n), (6, vi x7), (7, vi x8)], [(0, bx 26 [ci (imax a2.A 0), ci (imin a2.B 20000)]), (1, ro 0 59 3 l6n (rf qH l6))]⟩
def qDz (l16 : List Slice) : St :=
 ⟨[(5, vo 1 0 3 l16.length)], [(1, ro 0 59 3 l16.length (rf qH l16))]⟩
theorem qHL (E : Env 0) (a1 : List Slice) (a2 : Span) : ∀ (n : Nat) (l6 : List Slice) (l6n : Nat) (x7 : Int) (x8 : Int) (res : (List Slice)), l6.length = l6n → WW a1 a2 n l6 x7 x8 = some res → HL (kx E 53 0) (nd Tryz.f119 1012) (wC 0 (fun o => qDz o) res) n (IH a1 a2 l6 l6n x7 x8) := by
 intro n
 induction n with
 | zero =>
  intro l6 l6n x7 x8 res hl0 hm
  cases hm
 | succ n ih =>
  intro l6 l6n x7 x8 res hl0 hm
  subst hl0
  refine qQ ?_
  refine q_sq ?_
  refine s_vu [] 2 [] [(22, vb (decide (x8 < ((a1.length : Nat) : Int))))] [] [] ?_
  refine q_cn (decide (x8 < ((a1.length : Nat) : Int))) (fun b9 => ?_) (fun b9 => ?_)
  ·replace hm := qB b9 hm
   refine q_sk ?_
   refine q_sq ?_
   refine q_bk 1 ?_
   obtain ⟨g10, hm⟩ := qM hm
   obtain ⟨v11, h12, hm⟩ := qD hm
   refine s_du [qd 4 (Dir.none) (inb_of g10), qc 7 [25, 26, 31] 2 (qEi (Span.mk (imax a2.A 0) (imin a2.B 20000)) x7 ((a1.getD x8.toNat default).Len) v11 h12)] [0, 0, 0, 0, 12, 28, 60, 127, 255] 2 [22] [(8, vi v11)] [] [] ?_
   refine q_jn (ι := (List Slice) × Nat) (fun p => qDa a1 a2 x7 x8 p.1 p.2) (fun p => p.1.length = p.2 ∧ EH a1 x7 x8 (WW a1 a2 n) p.1 = some res) ?_ ?_
   ·rintro ⟨l15, l15n⟩ ⟨el15, hm⟩
    replace el15 : l15.length = l15n := el15
    subst el15
    show H _ (qDa a1 a2 x7 x8 l15 l15.length) _ _
    refine q_vu [qd 3 (Dir.none) (inb_of g10)] 3 [6] [(6, vi (w64 (x7 + ((a1.getD x8.toNat default).Len))))] [] [] ?_
    refine q_vu [] 3 [7] [(7, vi (w64 (x8 + 1)))] [] [] ?_
    exact q_hl (IH a1 a2 l15 l15.length (w64 (x7 + ((a1.getD x8.toNat default).Len))) (w64 (x8 + 1))) (ih l15 l15.length (w64 (x7 + ((a1.getD x8.toNat default).Len))) (w64 (x8 + 1)) _ rfl hm)
   ·refine s_vu [] 2 [] [(34, vb (decide (v11 > 0)))] [] [] ?_
    refine q_cn (decide (v11 > 0)) (fun b13 => ?_) (fun b13 => ?_)
    ·replace hm := qB b13 hm
     obtain ⟨g14, hm⟩ := qM hm
     refine q_vu [qd 4 (Dir.none) (inb_of g10), qd 8 (drw 2 0 (rf qH ([(Slice.mk v11 ((a1.getD x8.toNat default).Sec))] : List Slice))) (litP qH default 3 (fun _ => rfl) ([(Slice.mk v11 ((a1.getD x8.toNat default).Sec))] : List Slice) 1 rfl), qd 9 (drw 1 1 (rf qH (l6 ++ ([(Slice.mk v11 ((a1.getD x8.toNat default).Sec))] : List Slice)))) (apP qH default l6 ([(Slice.mk v11 ((a1.getD x8.toNat default).Sec))] : List Slice) l6.length 1 3 40 (1 ≤ 1) (Nat.le_refl _) rfl rfl (fun _ => rfl) (wV g14))] 2 [5, 8, 34] [(5, vo 1 1 3 (l6.length + 1))] [1] [(1, ro 1 59 3 (l6.length + 1) (rf qH (l6 ++ ([(Slice.mk v11 ((a1.getD x8.toNat default).Sec))] : List Slice))))] ?_
     exact q_J ((l6 ++ ([(Slice.mk v11 ((a1.getD x8.toNat default).Sec))] : List Slice)), (l6.length + 1)) ⟨(len_app rfl rfl), hm⟩
    ·replace hm := qC b13 hm
     refine q_sk ?_
     exact q_J (l6, l6.length) ⟨rfl, hm⟩
  ·replace hm := qC b9 hm
   refine q_ex 0 ?_
   obtain rfl := oi hm
   exact jP (by kernel_rfl) (by kernel_rfl)
theorem qMo (a1 : List Slice) (a2 : Span) (r : (List Slice)) (hm : OB a1 a2 = some r) : CtX Tryz.prog globs 119 0 0 [.one (tl qH default a1), .agg (e_Span a2)] [] (qND r) (qNI r) := by
 unfold OB at hm
 refine q_E Tryz.f119 53 fun E => ?_
 refine s_vn [] 0 ⟨[(0, vc (tl qH default a1)), (3, vp 0 0)], [(0, bx 26 (e_Span a2))]⟩ ?_
 refine q_sq ?_
 obtain ⟨v3, h4, hm⟩ := qD hm
 refine s_vu [qc 1 [9] 1 (wO a1 v3 h4)] 1 [] [(11, vb (v3 != 0))] [] [] ?_
 refine q_cn (v3 != 0) (fun b5 => ?_) (fun b5 => ?_)
 ·replace hm := qB b5 hm
  refine s_vn [] 1 ⟨[(4, vc (.emp))], []⟩ ?_
  refine q_fn [.own 4 1 59 3 (rf qH ([] : List Slice))] ⟨[(4, vo 1 0 3 0)], [(1, ro 0 59 3 0 (rf qH ([] : List Slice)))]⟩ o0 ?_
  refine q_fn [.len 1 (([] : List Slice).length)] ⟨[(4, vo 1 0 3 (([] : List Slice).length))], [(1, ro 0 59 3 (([] : List Slice).length) (rf qH ([] : List Slice)))]⟩ (o1 (And.intro (show 0 = ([] : List Slice).length from rfl) (show 0 = ([] : List Slice).length from rfl))) ?_
  obtain rfl := oi hm
  refine qS 1 0 (by kernel_rfl) ?_
  refine q_rt ?_
  exact q_rm
 ·replace hm := qC b5 hm
  refine q_sk ?_
  refine s_vu [] 1 [11] [(5, vc (.emp))] [] [] ?_
  refine s_vu [] 1 [] [] [0] [(0, bx 26 [ci (imax a2.A 0), ci (imin a2.B 20000)])] ?_
  refine s_vu [] 1 [] [(6, vi 0)] [] [] ?_
  refine q_sq ?_
  refine s_vu [] 1 [] [(7, vi 0)] [] [] ?_
  refine q_fn [.own 5 1 59 3 (rf qH ([] : List Slice))] ⟨[(0, vc (tl qH default a1)), (3, vp 0 0), (5, vo 1 0 3 0), (6, vi 0), (7, vi 0)], [(0, bx 26 [ci (imax a2.A 0), ci (imin a2.B 20000)]), (1, ro 0 59 3 0 (rf qH ([] : List Slice)))]⟩ o0 ?_
  obtain ⟨o17, h18, hm⟩ := qD hm
  refine zX (nd Tryz.f119 1012) 0 (by kernel_rfl) FUEL (fun o => qDz o) o17 (q_hl (IH a1 a2 ([] : List Slice) 0 0 0) (qHL E a1 a2 FUEL ([] : List Slice) 0 0 0 o17 rfl h18)) ?_
  refine s_vu [] 2 [5] [(4, vo 1 0 3 o17.length)] [] [] ?_
  obtain rfl := oi hm
  refine qS 1 0 (by kernel_rfl) ?_
  refine q_rt ?_
  exact q_rm
def qML (r : Int) : V := vi r
def qNm (r : Int) : List (Nat × (Nat × O)) := []
def SM (a2 : Box) (v3 : (List Slice)) (x5 : Int) (x6 : Int) : St :=
 ⟨[(3, vp 0 0), (5, vo 1 0 3 v3.length), (6, vi (w64 ((w64 (a2.X.B - a2.X.A)) * (w64 (a2.Y.B - a2.Y.A))))), (7, vi x5), (8, vi x6)], [(0, bx 67 (zC a2)), (1, ro 0 59 3 v3.length (rf qH v3))]⟩
def qCO (x12 : Int) : St :=
 ⟨[(7, vi x12)], []⟩
theorem qHe (E : Env 0) (a2 : Box) (v3 : (List Slice)) : ∀ (n : Nat) (x5 : Int) (x6 : Int) (res : Int), KG a2 v3 n x5 x6 = some res → HL (kx E 58 0) (nd Tryz.f80 500) (wC 0 (fun o => qCO o) res) n (SM a2 v3 x5 x6) := by
 intro n
 induction n with
 | zero =>
  intro x5 x6 res hm
  cases hm
 | succ n ih =>
  intro x5 x6 res hm
  refine qQ ?_
  refine q_sq ?_
  refine s_vu [] 2 [] [(32, vb (decide (x6 < ((v3.length : Nat) : Int))))] [] [] ?_
  refine q_cn (decide (x6 < ((v3.length : Nat) : Int))) (fun b7 => ?_) (fun b7 => ?_)
  ·replace hm := qB b7 hm
   refine q_sk ?_
   refine q_sq ?_
   refine q_bk 1 ?_
   obtain ⟨g8, hm⟩ := qM hm
   obtain ⟨v9, h10, hm⟩ := qD hm
   refine s_du [qd 2 (Dir.none) (inb_of g8), qd 4 (Dir.none) (toNat_lt (inb_of g8)), qc 10 [39, 44] 2 (qCM ((v3.getD x6.toNat default).Sec) (Rect.mk a2.X a2.Y) v9 h10)] [0, 0, 3, 7, 15, 0, 32, 0, 128, 480, 1023, 2047] 2 [32] [(9, vi v9)] [] [] ?_
   obtain ⟨g11, hm⟩ := qM hm
   refine q_vu [qd 9 (Dir.none) (qIE g11)] 2 [7, 9] [(7, vi (imax x5 (w64 (Int.tdiv (w64 ((w64 ((w64 (1000 * (w64 ((w64 ((w64 (a2.X.B - a2.X.A)) * (w64 (a2.Y.B - a2.Y.A)))) - v9)))) + (w64 ((w64 (a2.X.B - a2.X.A)) * (w64 (a2.Y.B - a2.Y.A)))))) - 1)) (w64 ((w64 (a2.X.B - a2.X.A)) * (w64 (a2.Y.B - a2.Y.A))))))))] [] [] ?_
   refine q_vu [] 2 [8] [(8, vi (w64 (x6 + 1)))] [] [] ?_
   exact q_hl (SM a2 v3 (imax x5 (w64 (Int.tdiv (w64 ((w64 ((w64 (1000 * (w64 ((w64 ((w64 (a2.X.B - a2.X.A)) * (w64 (a2.Y.B - a2.Y.A)))) - v9)))) + (w64 ((w64 (a2.X.B - a2.X.A)) * (w64 (a2.Y.B - a2.Y.A)))))) - 1)) (w64 ((w64 (a2.X.B - a2.X.A)) * (w64 (a2.Y.B - a2.Y.A))))))) (w64 (x6 + 1))) (ih (imax x5 (w64 (Int.tdiv (w64 ((w64 ((w64 (1000 * (w64 ((w64 ((w64 (a2.X.B - a2.X.A)) * (w64 (a2.Y.B - a2.Y.A)))) - v9)))) + (w64 ((w64 (a2.X.B - a2.X.A)) * (w64 (a2.Y.B - a2.Y.A)))))) - 1)) (w64 ((w64 (a2.X.B - a2.X.A)) * (w64 (a2.Y.B - a2.Y.A))))))) (w64 (x6 + 1)) _ hm)
  ·replace hm := qC b7 hm
   refine q_ex 0 ?_
   obtain rfl := oi hm
   exact jP (by kernel_rfl) (by kernel_rfl)
theorem qLC (a1 : List Slice) (a2 : Box) (r : Int) (hm : EG a1 a2 = some r) : CtX Tryz.prog globs 80 0 0 [.one (tl qH default a1), .agg (zC a2)] [] (qML r) (qNm r) := by
 unfold EG at hm
 refine q_E Tryz.f80 58 fun E => ?_
 refine s_vn [] 0 ⟨[(0, vc (tl qH default a1)), (3, vp 0 0)], [(0, bx 67 (zC a2))]⟩ ?_
 obtain ⟨v3, h4, hm⟩ := qD hm
 refine s_vu [qc 3 [10, 12] 1 (qMo a1 a2.Z v3 h4)] 1 [0] [(5, vo 1 0 3 v3.length)] [] [(1, ro 0 59 3 v3.length (rf qH v3))] ?_
 refine s_vu [] 2 [] [(6, vi (w64 ((w64 (a2.X.B - a2.X.A)) * (w64 (a2.Y.B - a2.Y.A)))))] [] [] ?_
 refine s_vu [] 2 [] [(7, vi 0)] [] [] ?_
 refine q_sq ?_
 refine s_vu [] 2 [] [(8, vi 0)] [] [] ?_
 obtain ⟨o13, h14, hm⟩ := qD hm
 refine zX (nd Tryz.f80 500) 0 (by kernel_rfl) FUEL (fun o => qCO o) o13 (q_hl (SM a2 v3 0 0) (qHe E a2 v3 FUEL 0 0 o13 h14)) ?_
 refine s_vn [] 2 ⟨[(4, vi o13)], []⟩ ?_
 obtain rfl := oi hm
 refine q_rt ?_
 exact q_rm
def AS (r : Bool) : V := vb r
def AO (r : Bool) : List (Nat × (Nat × O)) := []
def qAt (a1 : List Slice) (a2 : List Defect) (a3 : Product) (a4 : Box) (x19 : Int) (x25 : Bool) : St :=
 ⟨[(0, vc (tl qH default a1)), (1, vc (tl qI default a2)), (6, vp 0 0), (7, vp 1 0), (15, vi x19), (94, vb x25)], [(0, bx 62 (qA a3)), (1, bx 67 (zC a4))]⟩
def zaQ (a1 : List Slice) (a2 : List Defect) (a3 : Product) (a4 : Box) (x19 : Int) : St :=
 ⟨[(0, vc (tl qH default a1)), (1, vc (tl qI default a2)), (6, vp 0 0), (7, vp 1 0), (15, vi x19)], [(0, bx 62 (qA a3)), (1, bx 67 (zC a4))]⟩
def qAx (a1 : List Slice) (a3 : Product) (a4 : Box) : St :=
 ⟨[(0, vc (tl qH default a1)), (6, vp 0 0), (7, vp 1 0)], [(0, bx 62 (qA a3)), (1, bx 67 (zC a4))]⟩
def qAy (a1 : List Slice) (a2 : List Defect) (a3 : Product) (a4 : Box) (x17 : Bool) : St :=
 ⟨[(0, vc (tl qH default a1)), (1, vc (tl qI default a2)), (6, vp 0 0), (7, vp 1 0), (74, vb x17)], [(0, bx 62 (qA a3)), (1, bx 67 (zC a4))]⟩
theorem qEP (E : Env 0) (a1 : List Slice) (a2 : List Defect) (a3 : Product) (a4 : Box) : ∀ (n : Nat) (x19 : Int) (res : Bool ⊕ Unit), jQ a2 a4 n x19 = some res → HL (kx E 101 0) (nd Tryz.f44 2036) (wN 0 (fun o => qAx a1 a3 a4) (fun v st => RetQ Tryz.prog Tryz.f44 (AS v) (AO v) .ret st) res) n (zaQ a1 a2 a3 a4 x19) := by
 intro n
 induction n with
 | zero =>
  intro x19 res hm
  cases hm
 | succ n ih =>
  intro x19 res hm
  refine qQ ?_
  refine q_sq ?_
  refine s_vu [] 2 [] [(78, vb (decide (x19 < ((a2.length : Nat) : Int))))] [] [] ?_
  refine q_cn (decide (x19 < ((a2.length : Nat) : Int))) (fun b20 => ?_) (fun b20 => ?_)
  ·replace hm := qB b20 hm
   refine q_sk ?_
   refine q_sq ?_
   refine q_bk 1 ?_
   refine q_jn (ι := Bool) (fun p => qAt a1 a2 a3 a4 x19 p) (fun p => GW x19 (jQ a2 a4 n) p = some res) ?_ ?_
   ·rintro x25 hm
    show H _ (qAt a1 a2 a3 a4 x19 x25) _ _
    refine q_cn x25 (fun b26 => ?_) (fun b26 => ?_)
    ·replace hm := qB b26 hm
     refine s_vn [] 2 ⟨[(8, vb false)], []⟩ ?_
     obtain rfl := oi hm
     refine q_rt ?_
     refine zB false ?_
     exact q_rm
    ·replace hm := qC b26 hm
     refine q_sk ?_
     refine q_vu [] 2 [15, 94] [(15, vi (w64 (x19 + 1)))] [] [] ?_
     exact q_hl (zaQ a1 a2 a3 a4 (w64 (x19 + 1))) (ih (w64 (x19 + 1)) _ hm)
   ·obtain ⟨g21, hm⟩ := qM hm
    rcases Bool.eq_false_or_eq_true (((a2.getD x19.toNat default).Kind) == 3) with b22 | b22
    ·replace hm := qB b22 hm
     obtain ⟨v23, h24, hm⟩ := qD hm
     refine q_du [qd 2 (Dir.none) (inb_of g21), qf 6 b22, qd 9 (Dir.none) (inb_of g21), qk 12 [87, 91, 92] 2 ⟨[(87, vb true), (91, va [ci ((a2.getD x19.toNat default).Kind), ci ((((a2.getD x19.toNat default).Box).X).A), ci ((((a2.getD x19.toNat default).Box).X).B), ci ((((a2.getD x19.toNat default).Box).Y).A), ci ((((a2.getD x19.toNat default).Box).Y).B), ci ((((a2.getD x19.toNat default).Box).Z).A), ci ((((a2.getD x19.toNat default).Box).Z).B)]), (92, va (zC a4))], []⟩ (qBL (a2.getD x19.toNat default) a4 v23 h24)] [0, 0, 3, 7, 15, 31, 63, 127, 127, 511, 1023, 127, 4095, 8191] 2 [78] [(94, vb v23)] [] [] ?_
     exact q_J (v23) hm
    ·replace hm := qC b22 hm
     refine q_du [qd 2 (Dir.none) (inb_of g21), qf 6 b22] [0, 0, 3, 7, 15, 31, 63, 127, 127, 511, 1023, 127, 4095, 8191] 2 [78] [(94, vb false)] [] [] ?_
     exact q_J (false) hm
  ·replace hm := qC b20 hm
   refine q_ex 0 ?_
   obtain rfl := oi hm
   exact wR () (by kernel_rfl) (by kernel_rfl)
theorem qHy (a1 : List Slice) (a2 : List Defect) (a3 : Product) (a4 : Box) (r : Bool) (hm : BZ a1 a2 a3 a4 = some r) : CtX Tryz.prog globs 44 0 0 [.one (tl qH default a1), .one (tl qI default a2), .agg (qA a3), .agg (zC a4)] [] (AS r) (AO r) := by
 unfold BZ at hm
 refine q_E Tryz.f44 101 fun E => ?_
 refine s_vn [] 0 ⟨[(0, vc (tl qH default a1)), (1, vc (tl qI default a2)), (6, vp 0 0), (7, vp 1 0)], [(0, bx 62 (qA a3)), (1, bx 67 (zC a4))]⟩ ?_
 refine q_sq ?_
 obtain ⟨v5, h6, hm⟩ := qD hm
 refine s_vu [qc 2 [16, 17] 2 (qHS a1 a4 v5 h6)] 2 [] [(19, vb (!v5))] [] [] ?_
 refine q_cn (!v5) (fun b7 => ?_) (fun b7 => ?_)
 ·replace hm := qB b7 hm
  refine s_vn [] 2 ⟨[(8, vb false)], []⟩ ?_
  obtain rfl := oi hm
  refine q_rt ?_
  exact q_rm
 ·replace hm := qC b7 hm
  refine q_sk ?_
  refine s_du [] [0, 1, 3, 0, 8, 24, 63, 0, 128, 384, 0, 1024, 3072, 8064, 127, 32767] 2 [19] [(9, vi (w64 (a4.X.B - a4.X.A))), (10, vi (w64 (a4.Y.B - a4.Y.A)))] [] [] ?_
  obtain ⟨v8, h9, hm⟩ := qD hm
  refine s_vu [qc 1 [35] 2 (NV a3 v8 h9)] 2 [] [(11, vi v8.1), (12, vi v8.2)] [] [] ?_
  obtain ⟨v10, h11, hm⟩ := qD hm
  refine s_vu [qc 8 [40, 47] 2 (qDn a3 (w64 (a4.Z.B - a4.Z.A)) v10 h11)] 2 [] [(14, vb v10.2)] [] [] ?_
  refine q_sq ?_
  refine q_jn (ι := Bool) (fun p => qAy a1 a2 a3 a4 p) (fun p => wH a1 a2 a3 a4 p = some r) ?_ ?_
  ·rintro x17 hm
   show H _ (qAy a1 a2 a3 a4 x17) _ _
   refine q_cn x17 (fun b18 => ?_) (fun b18 => ?_)
   ·replace hm := qB b18 hm
    refine s_vn [] 2 ⟨[(8, vb false)], []⟩ ?_
    obtain rfl := oi hm
    refine q_rt ?_
    exact q_rm
   ·replace hm := qC b18 hm
    refine q_sk ?_
    refine q_sq ?_
    refine s_vu [] 2 [74] [(15, vi 0)] [] [] ?_
    obtain ⟨u29, h28, hm⟩ := qD hm
    refine zP (nd Tryz.f44 2036) 0 (by kernel_rfl) FUEL (fun o => qAx a1 a3 a4) (fun v st => RetQ Tryz.prog Tryz.f44 (AS v) (AO v) .ret st) u29 (q_hl (zaQ a1 a2 a3 a4 0) (qEP E a1 a2 a3 a4 FUEL 0 u29 h28)) ?_ ?_
    ·rintro v30 rfl st hr
     obtain rfl := oi hm
     exact hr
    ·rintro o27 rfl
     replace hm : _ = some r := hm
     obtain ⟨v31, h32, hm⟩ := qD hm
     refine s_dn [qc 2 [95, 96] 2 (qLC a1 a4 v31 h32)] [0, 0, 3, 0, 8, 31, 63] 2 ⟨[(8, vb (decide (v31 ≤ a3.Wane)))], []⟩ ?_
     obtain rfl := oi hm
     refine q_rt ?_
     exact q_rm
  ·rcases Bool.eq_false_or_eq_true (!v10.2) with b12 | b12
   ·replace hm := qB b12 hm
    refine q_vu [qf 2 b12] 2 [9, 10, 11, 12, 14] [(74, vb true)] [] [] ?_
    exact q_J (true) hm
   ·replace hm := qC b12 hm
    rcases Bool.eq_false_or_eq_true ((w64 (a4.X.B - a4.X.A)) == v8.1) with b13 | b13
    ·replace hm := qB b13 hm
     rcases Bool.eq_false_or_eq_true (!((w64 (a4.Y.B - a4.Y.A)) == v8.2)) with b14 | b14
     ·replace hm := qB b14 hm
      rcases Bool.eq_false_or_eq_true ((w64 (a4.X.B - a4.X.A)) == v8.2) with b15 | b15
      ·replace hm := qB b15 hm
       refine q_vu [qf 2 b12, qf 6 b13, qf 12 b14, qf 16 b15] 2 [9, 10, 11, 12, 14] [(74, vb (!((w64 (a4.Y.B - a4.Y.A)) == v8.1)))] [] [] ?_
       exact q_J (!((w64 (a4.Y.B - a4.Y.A)) == v8.1)) hm
      ·replace hm := qC b15 hm
       refine q_vu [qf 2 b12, qf 6 b13, qf 12 b14, qf 16 b15] 2 [9, 10, 11, 12, 14] [(74, vb true)] [] [] ?_
       exact q_J (true) hm
     ·replace hm := qC b14 hm
      refine q_vu [qf 2 b12, qf 6 b13, qf 12 b14] 2 [9, 10, 11, 12, 14] [(74, vb false)] [] [] ?_
      exact q_J (false) hm
    ·replace hm := qC b13 hm
     rcases Bool.eq_false_or_eq_true ((w64 (a4.X.B - a4.X.A)) == v8.2) with b16 | b16
     ·replace hm := qB b16 hm
      refine q_vu [qf 2 b12, qf 6 b13, qf 16 b16] 2 [9, 10, 11, 12, 14] [(74, vb (!((w64 (a4.Y.B - a4.Y.A)) == v8.1)))] [] [] ?_
      exact q_J (!((w64 (a4.Y.B - a4.Y.A)) == v8.1)) hm
     ·replace hm := qC b16 hm
      refine q_vu [qf 2 b12, qf 6 b13, qf 16 b16] 2 [9, 10, 11, 12, 14] [(74, vb true)] [] [] ?_
      exact q_J (true) hm
def qLm (r : Int) : V := vi r
def qLv (r : Int) : List (Nat × (Nat × O)) := []
def qBq (a1 : List Defect) (a3 : Box) (a4 : Int) (x8 : Int) (x14 : Int) : St :=
 ⟨[(0, vc (tl qI default a1)), (3, vi a4), (6, vp 1 0), (9, vi x14), (11, vi x8)], [(1, bx 67 (zC a3))]⟩
def HJ (a1 : List Defect) (a3 : Box) (a4 : Int) (x7 : Int) (x8 : Int) : St :=
 ⟨[(0, vc (tl qI default a1)), (3, vi a4), (6, vp 1 0), (9, vi x7), (11, vi x8)], [(1, bx 67 (zC a3))]⟩
def qBD (x15 : Int) : St :=
 ⟨[(9, vi x15)], []⟩
theorem qFR (E : Env 0) (a1 : List Defect) (a3 : Box) (a4 : Int) : ∀ (n : Nat) (x7 : Int) (x8 : Int) (res : Int), QI a1 a3 a4 n x7 x8 = some res → HL (kx E 41 0) (nd Tryz.f45 116) (wC 0 (fun o => qBD o) res) n (HJ a1 a3 a4 x7 x8) := by
 intro n
 induction n with
 | zero =>
  intro x7 x8 res hm
  cases hm
 | succ n ih =>
  intro x7 x8 res hm
  refine qQ ?_
  refine q_sq ?_
  refine s_vu [] 2 [] [(27, vb (decide (x8 < ((a1.length : Nat) : Int))))] [] [] ?_
  refine q_cn (decide (x8 < ((a1.length : Nat) : Int))) (fun b9 => ?_) (fun b9 => ?_)
  ·replace hm := qB b9 hm
   refine q_sk ?_
   refine q_jn (ι := Int) (fun p => qBq a1 a3 a4 x8 p) (fun p => FB x8 (QI a1 a3 a4 n) p = some res) ?_ ?_
   ·rintro x14 hm
    show H _ (qBq a1 a3 a4 x8 x14) _ _
    refine q_vu [] 2 [11] [(11, vi (w64 (x8 + 1)))] [] [] ?_
    exact q_hl (HJ a1 a3 a4 x14 (w64 (x8 + 1))) (ih x14 (w64 (x8 + 1)) _ hm)
   ·refine q_bk 1 ?_
    obtain ⟨g10, hm⟩ := qM hm
    obtain ⟨v11, h12, hm⟩ := qD hm
    refine s_du [qd 2 (Dir.none) (inb_of g10), qc 5 [33, 34] 2 (qBL (a1.getD x8.toNat default) a3 v11 h12)] [0, 0, 3, 7, 0, 31] 2 [27] [(35, vb v11)] [] [] ?_
    refine q_cn v11 (fun b13 => ?_) (fun b13 => ?_)
    ·replace hm := qB b13 hm
     refine q_vu [] 2 [9, 35] [(9, vi (w64 (x7 - a4)))] [] [] ?_
     exact q_J (w64 (x7 - a4)) hm
    ·replace hm := qC b13 hm
     refine q_sk ?_
     exact q_J (x7) hm
  ·replace hm := qC b9 hm
   refine q_ex 0 ?_
   obtain rfl := oi hm
   exact jP (by kernel_rfl) (by kernel_rfl)
theorem qJ3 (a1 : List Defect) (a2 : Product) (a3 : Box) (a4 : Int) (r : Int) (hm : LU a1 a2 a3 a4 = some r) : CtX Tryz.prog globs 45 0 0 [.one (tl qI default a1), .agg (qA a2), .agg (zC a3), .one (ci a4)] [] (qLm r) (qLv r) := by
 unfold LU at hm
 refine q_E Tryz.f45 41 fun E => ?_
 refine s_vn [] 0 ⟨[(0, vc (tl qI default a1)), (3, vi a4), (5, vp 0 0), (6, vp 1 0)], [(0, bx 62 (qA a2)), (1, bx 67 (zC a3))]⟩ ?_
 obtain ⟨v5, h6, hm⟩ := qD hm
 refine s_vu [qc 8 [13, 20] 2 (qDn a2 (w64 (a3.Z.B - a3.Z.A)) v5 h6)] 2 [5] [(9, vi v5.1)] [0] [] ?_
 refine q_sq ?_
 refine s_vu [] 2 [] [(11, vi 0)] [] [] ?_
 obtain ⟨o16, h17, hm⟩ := qD hm
 refine zX (nd Tryz.f45 116) 0 (by kernel_rfl) FUEL (fun o => qBD o) o16 (q_hl (HJ a1 a3 a4 v5.1 0) (qFR E a1 a3 a4 FUEL v5.1 0 o16 h17)) ?_
 refine s_vn [] 2 ⟨[(8, vi (imax 0 o16))], []⟩ ?_
 obtain rfl := oi hm
 refine q_rt ?_
 exact q_rm
def qLs (r : Bool) : V := vb r
def qK0 (r : Bool) : List (Nat × (Nat × O)) := []
def qBO (x12 : Bool) : St :=
 ⟨[(6, vb x12)], []⟩
theorem qIW (a1 : List Slice) (a2 : List Defect) (a3 : Product) (r : Bool) (hm : IU a1 a2 a3 = some r) : CtX Tryz.prog globs 42 0 0 [.one (tl qH default a1), .one (tl qI default a2), .agg (qA a3)] [] (qLs r) (qK0 r) := by
 unfold IU at hm
 refine q_E Tryz.f42 21 fun E => ?_
 refine s_vn [] 0 ⟨[(0, vc (tl qH default a1)), (1, vc (tl qI default a2)), (5, vp 0 0)], [(0, bx 62 (qA a3))]⟩ ?_
 refine q_jn (ι := Bool) (fun p => qBO p) (fun p => RH p = some r) ?_ ?_
 ·rintro x12 hm
  show H _ (qBO x12) _ _
  obtain rfl := oi hm
  refine q_rt ?_
  exact q_rm
 ·obtain ⟨v4, h5, hm⟩ := qD hm
  rcases Bool.eq_false_or_eq_true (v4 == 0) with b6 | b6
  ·replace hm := qB b6 hm
   obtain ⟨v7, h8, hm⟩ := qD hm
   rcases Bool.eq_false_or_eq_true (v7 == 0) with b9 | b9
   ·replace hm := qB b9 hm
    obtain ⟨v10, h11, hm⟩ := qD hm
    refine q_vn [qc 1 [7] 1 (wO a1 v4 h5), qf 3 b6, qk 5 [10, 11] 1 ⟨[(10, vb true), (11, vc (tl qI default a2))], []⟩ (IB a2 v7 h8), qf 8 b9, qd 10 (drw 1 0 (rf qA ([a3] : List Product))) (litP qA default 7 (fun _ => rfl) ([a3] : List Product) 1 rfl), qd 11 (dex (cen [] [] 2 0 (KI v10) (ZL v10) [15, 17] [1])) (ZC (K := (kx E 21 0)) (xs' := [.one (.lst 1 (rf qA ([a3] : List Product)))]) (b := false) ⟨[(15, vb true), (17, vo 1 0 7 1)], [(1, ro 0 62 7 1 (rf qA ([a3] : List Product)))]⟩ (opAt (rg Tryz.f42 6) 11) [] [] 2 (o1 (Nat.le_refl 1)) (by simp only [tl, rf, show ([a3] : List Product).length = 1 from rfl]) (qDy ([a3] : List Product) v10 h11) (.inr ⟨(by kernel_rfl), qLB v10⟩) (by kernel_rfl))] 1 ⟨[(6, vb (v10 == 0))], []⟩ ?_
    exact q_J (v10 == 0) hm
   ·replace hm := qC b9 hm
    refine q_vn [qc 1 [7] 1 (wO a1 v4 h5), qf 3 b6, qk 5 [10, 11] 1 ⟨[(10, vb true), (11, vc (tl qI default a2))], []⟩ (IB a2 v7 h8), qf 8 b9] 1 ⟨[(6, vb false)], []⟩ ?_
    exact q_J (false) hm
  ·replace hm := qC b6 hm
   refine q_vn [qc 1 [7] 1 (wO a1 v4 h5), qf 3 b6] 1 ⟨[(6, vb false)], []⟩ ?_
   exact q_J (false) hm
def qMY (r : Span × Int × Bool) : V := .tup [.agg (e_Span r.1), .one (ci r.2.1), .one (cb r.2.2)]
def qMg (r : Span × Int × Bool) : List (Nat × (Nat × O)) := []
def qCo (a1 : List Slice) (a2 : List Defect) (a3 : Product) (a4 : Rect) (a5 : Int) (a6 : Int) (x19 : Int) (x26 : Int) (x38 : Int) (x39 : Bool) (x40 : Span) : St :=
 ⟨[(0, vc (tl qH default a1)), (1, vc (tl qI default a2)), (4, vi a5), (5, vi a6), (8, vp 0 0), (9, vp 1 0), (12, vp 2 0), (15, vp 3 0), (16, vi x38), (17, vb x39), (18, vi x19), (19, vi x26)], [(0, bx 62 (qA a3)), (1, bx 28 (qE a4)), (2, bx 26 [ci 0, ci 0]), (3, bx 26 (e_Span x40))]⟩
def qCK (a1 : List Slice) (a2 : List Defect) (a3 : Product) (a4 : Rect) (a5 : Int) (a6 : Int) (x19 : Int) (x24 : Int) (x25 : Bool) (x26 : Int) (x27 : Span) (v33 : Int) (x36 : Bool) : St :=
 ⟨[(0, vc (tl qH default a1)), (1, vc (tl qI default a2)), (4, vi a5), (5, vi a6), (8, vp 0 0), (9, vp 1 0), (12, vp 2 0), (15, vp 3 0), (16, vi x24), (17, vb x25), (18, vi x19), (19, vi x26), (20, vp 4 0), (21, vi v33), (84, vb x36)], [(0, bx 62 (qA a3)), (1, bx 28 (qE a4)), (2, bx 26 [ci 0, ci 0]), (3, bx 26 (e_Span x27)), (4, bx 67 [ci a4.X.A, ci a4.X.B, ci a4.Y.A, ci a4.Y.B, ci x19, ci (w64 (x19 + (a3.Lengths.getD x26.toNat default)))])]⟩
def SR (a1 : List Slice) (a2 : List Defect) (a3 : Product) (a4 : Rect) (a5 : Int) (a6 : Int) (x19 : Int) (x24 : Int) (x25 : Bool) (x26 : Int) (x27 : Span) : St :=
 ⟨[(0, vc (tl qH default a1)), (1, vc (tl qI default a2)), (4, vi a5), (5, vi a6), (8, vp 0 0), (9, vp 1 0), (12, vp 2 0), (15, vp 3 0), (16, vi x24), (17, vb x25), (18, vi x19), (19, vi x26)], [(0, bx 62 (qA a3)), (1, bx 28 (qE a4)), (2, bx 26 [ci 0, ci 0]), (3, bx 26 (e_Span x27))]⟩
def qCr (a1 : List Slice) (a2 : List Defect) (a3 : Product) (a4 : Rect) (a5 : Int) (a6 : Int) (x19 : Int) (x41 : Int) (x42 : Bool) (x43 : Span) : St :=
 ⟨[(0, vc (tl qH default a1)), (1, vc (tl qI default a2)), (4, vi a5), (5, vi a6), (8, vp 0 0), (9, vp 1 0), (12, vp 2 0), (15, vp 3 0), (16, vi x41), (17, vb x42), (18, vi x19)], [(0, bx 62 (qA a3)), (1, bx 28 (qE a4)), (2, bx 26 [ci 0, ci 0]), (3, bx 26 (e_Span x43))]⟩
def EJ (a1 : List Slice) (a2 : List Defect) (a3 : Product) (a4 : Rect) (a5 : Int) (a6 : Int) (x17 : Int) (x18 : Bool) (x19 : Int) (x20 : Span) : St :=
 ⟨[(0, vc (tl qH default a1)), (1, vc (tl qI default a2)), (4, vi a5), (5, vi a6), (8, vp 0 0), (9, vp 1 0), (12, vp 2 0), (15, vp 3 0), (16, vi x17), (17, vb x18), (18, vi x19)], [(0, bx 62 (qA a3)), (1, bx 28 (qE a4)), (2, bx 26 [ci 0, ci 0]), (3, bx 26 (e_Span x20))]⟩
def qCP (x46 : Int) (x47 : Bool) (x48 : Span) : St :=
 ⟨[(12, vp 2 0), (15, vp 3 0), (16, vi x46), (17, vb x47)], [(2, bx 26 [ci 0, ci 0]), (3, bx 26 (e_Span x48))]⟩
def qB4 (a1 : List Slice) (a2 : List Defect) (a3 : Product) (a4 : Rect) (a5 : Int) (a6 : Int) (x15 : Bool) : St :=
 ⟨[(0, vc (tl qH default a1)), (1, vc (tl qI default a2)), (4, vi a5), (5, vi a6), (8, vp 0 0), (9, vp 1 0), (12, vp 2 0), (36, vb x15)], [(0, bx 62 (qA a3)), (1, bx 28 (qE a4)), (2, bx 26 [ci 0, ci 0])]⟩
theorem qG6 (E : Env 0) (a1 : List Slice) (a2 : List Defect) (a3 : Product) (a4 : Rect) (a5 : Int) (a6 : Int) (x19 : Int) : ∀ (n : Nat) (x24 : Int) (x25 : Bool) (x26 : Int) (x27 : Span) (res : Int × Bool × Span), jG a1 a2 a3 a4 a6 x19 n x24 x25 x26 x27 = some res → HL (kx E 91 0) (nd Tryz.f20 15652) (wC 2 (fun o => qCr a1 a2 a3 a4 a5 a6 x19 o.1 o.2.1 o.2.2) res) n (SR a1 a2 a3 a4 a5 a6 x19 x24 x25 x26 x27) := by
 intro n
 induction n with
 | zero =>
  intro x24 x25 x26 x27 res hm
  cases hm
 | succ n ih =>
  intro x24 x25 x26 x27 res hm
  refine qQ ?_
  refine q_sq ?_
  refine s_vu [] 4 [] [(50, vb (decide (x26 < ((a3.Lengths.length : Nat) : Int))))] [] [] ?_
  refine q_cn (decide (x26 < ((a3.Lengths.length : Nat) : Int))) (fun b28 => ?_) (fun b28 => ?_)
  ·replace hm := qB b28 hm
   refine q_sk ?_
   refine q_jn (ι := Int × Bool × Span) (fun p => qCo a1 a2 a3 a4 a5 a6 x19 x26 p.1 p.2.1 p.2.2) (fun p => JX x26 (jG a1 a2 a3 a4 a6 x19 n) p.1 p.2.1 p.2.2 = some res) ?_ ?_
   ·rintro ⟨x38, x39, x40⟩ hm
    show H _ (qCo a1 a2 a3 a4 a5 a6 x19 x26 x38 x39 x40) _ _
    refine q_vu [] 5 [19] [(19, vi (w64 (x26 + 1)))] [] [] ?_
    exact q_hl (SR a1 a2 a3 a4 a5 a6 x19 x38 x39 (w64 (x26 + 1)) x40) (ih x38 x39 (w64 (x26 + 1)) x40 _ hm)
   ·refine q_bk 3 ?_
    obtain ⟨g29, hm⟩ := qM hm
    refine s_du [qd 9 (Dir.none) (inb_of g29)] [0, 1, 0, 4, 0, 0, 0, 64, 0, 448, 960, 2016, 4080, 8191, 0, 32767] 4 [50] [(20, vp 4 0)] [] [(4, bx 67 [ci a4.X.A, ci a4.X.B, ci a4.Y.A, ci a4.Y.B, ci x19, ci (w64 (x19 + (a3.Lengths.getD x26.toNat default)))])] ?_
    refine q_sq ?_
    obtain ⟨v30, h31, hm⟩ := qD hm
    refine s_vu [qc 4 [67, 68, 69, 70] 5 (qHy a1 a2 a3 (Box.mk a4.X a4.Y (Span.mk x19 (w64 (x19 + (a3.Lengths.getD x26.toNat default))))) v30 h31)] 5 [] [(72, vb (!v30))] [] [] ?_
    refine q_cn (!v30) (fun b32 => ?_) (fun b32 => ?_)
    ·replace hm := qB b32 hm
     refine q_ex 3 ?_
     exact q_J (x24, x25, x27) hm
    ·replace hm := qC b32 hm
     refine q_sk ?_
     obtain ⟨v33, h34, hm⟩ := qD hm
     refine s_vu [qc 4 [73, 74, 75, 76] 5 (qJ3 a2 a3 (Box.mk a4.X a4.Y (Span.mk x19 (w64 (x19 + (a3.Lengths.getD x26.toNat default))))) a6 v33 h34)] 5 [72] [(21, vi v33)] [] [] ?_
     refine q_jn (ι := Bool) (fun p => qCK a1 a2 a3 a4 a5 a6 x19 x24 x25 x26 x27 v33 p) (fun p => MM a3 x19 x24 x25 x26 x27 (jG a1 a2 a3 a4 a6 x19 n) v33 p = some res) ?_ ?_
     ·rintro x36 hm
      show H _ (qCK a1 a2 a3 a4 a5 a6 x19 x24 x25 x26 x27 v33 x36) _ _
      refine q_cn x36 (fun b37 => ?_) (fun b37 => ?_)
      ·replace hm := qB b37 hm
       refine q_vu [] 5 [16, 17, 20, 21, 84] [(16, vi v33), (17, vb true)] [3, 4] [(3, bx 26 [ci x19, ci (w64 (x19 + (a3.Lengths.getD x26.toNat default)))])] ?_
       exact q_J (v33, true, (Span.mk x19 (w64 (x19 + (a3.Lengths.getD x26.toNat default))))) hm
      ·replace hm := qC b37 hm
       refine q_sk ?_
       exact q_J (x24, x25, x27) hm
     ·rcases Bool.eq_false_or_eq_true (!x25) with b35 | b35
      ·replace hm := qB b35 hm
       refine q_vu [qf 2 b35] 5 [] [(84, vb true)] [] [] ?_
       exact q_J (true) hm
      ·replace hm := qC b35 hm
       refine q_vu [qf 2 b35] 5 [] [(84, vb (decide (v33 > x24)))] [] [] ?_
       exact q_J (decide (v33 > x24)) hm
  ·replace hm := qC b28 hm
   refine q_ex 2 ?_
   obtain rfl := oi hm
   exact jP (by kernel_rfl) (by kernel_rfl)
theorem qG8 (E : Env 0) (a1 : List Slice) (a2 : List Defect) (a3 : Product) (a4 : Rect) (a5 : Int) (a6 : Int) : ∀ (n : Nat) (x17 : Int) (x18 : Bool) (x19 : Int) (x20 : Span) (res : Int × Bool × Span), KA a1 a2 a3 a4 a5 a6 n x17 x18 x19 x20 = some res → HL (kx E 91 0) (nd Tryz.f20 244) (wC 0 (fun o => qCP o.1 o.2.1 o.2.2) res) n (EJ a1 a2 a3 a4 a5 a6 x17 x18 x19 x20) := by
 intro n
 induction n with
 | zero =>
  intro x17 x18 x19 x20 res hm
  cases hm
 | succ n ih =>
  intro x17 x18 x19 x20 res hm
  refine qQ ?_
  refine q_sq ?_
  obtain ⟨v21, h22, hm⟩ := qD hm
  refine s_vu [qc 2 [40] 4 (DF a1 v21 h22)] 4 [] [(42, vb (decide (x19 < v21)))] [] [] ?_
  refine q_cn (decide (x19 < v21)) (fun b23 => ?_) (fun b23 => ?_)
  ·replace hm := qB b23 hm
   refine q_sk ?_
   refine q_sq ?_
   refine q_bk 1 ?_
   refine s_vu [] 4 [42] [(19, vi 0)] [] [] ?_
   obtain ⟨o44, h45, hm⟩ := qD hm
   refine zX (nd Tryz.f20 15652) 2 (by kernel_rfl) FUEL (fun o => qCr a1 a2 a3 a4 a5 a6 x19 o.1 o.2.1 o.2.2) o44 (q_hl (SR a1 a2 a3 a4 a5 a6 x19 x17 x18 0 x20) (qG6 E a1 a2 a3 a4 a5 a6 x19 FUEL x17 x18 0 x20 o44 h45)) ?_
   refine q_vu [] 4 [18] [(18, vi (w64 (x19 + a5)))] [] [] ?_
   exact q_hl (EJ a1 a2 a3 a4 a5 a6 o44.1 o44.2.1 (w64 (x19 + a5)) o44.2.2) (ih o44.1 o44.2.1 (w64 (x19 + a5)) o44.2.2 _ hm)
  ·replace hm := qC b23 hm
   refine q_ex 0 ?_
   obtain rfl := oi hm
   exact jP (by kernel_rfl) (by kernel_rfl)
theorem qK5 (a1 : List Slice) (a2 : List Defect) (a3 : Product) (a4 : Rect) (a5 : Int) (a6 : Int) (r : Span × Int × Bool) (hm : SU a1 a2 a3 a4 a5 a6 = some r) : CtX Tryz.prog globs 20 0 0 [.one (tl qH default a1), .one (tl qI default a2), .agg (qA a3), .agg (qE a4), .one (ci a5), .one (ci a6)] [] (qMY r) (qMg r) := by
 unfold SU at hm
 refine q_E Tryz.f20 91 fun E => ?_
 refine s_vn [] 0 ⟨[(0, vc (tl qH default a1)), (1, vc (tl qI default a2)), (4, vi a5), (5, vi a6), (8, vp 0 0), (9, vp 1 0), (12, vp 2 0)], [(0, bx 62 (qA a3)), (1, bx 28 (qE a4)), (2, bx 26 [ci 0, ci 0])]⟩ ?_
 refine q_sq ?_
 refine q_jn (ι := Bool) (fun p => qB4 a1 a2 a3 a4 a5 a6 p) (fun p => UZ a1 a2 a3 a4 a5 a6 p = some r) ?_ ?_
 ·rintro x15 hm
  show H _ (qB4 a1 a2 a3 a4 a5 a6 x15) _ _
  refine q_cn x15 (fun b16 => ?_) (fun b16 => ?_)
  ·replace hm := qB b16 hm
   refine s_vu [] 3 [0, 1, 4, 5, 8, 9, 36] [(13, vi 0), (14, vb false)] [0, 1] [] ?_
   obtain rfl := oi hm
   refine q_rt ?_
   exact q_rm
  ·replace hm := qC b16 hm
   refine q_sk ?_
   refine s_vu [] 3 [36] [(15, vp 3 0), (16, vi 0), (17, vb false)] [] [(3, bx 26 [ci 0, ci 0])] ?_
   refine q_sq ?_
   refine s_vu [] 4 [] [(18, vi 0)] [] [] ?_
   obtain ⟨o49, h50, hm⟩ := qD hm
   refine zX (nd Tryz.f20 244) 0 (by kernel_rfl) FUEL (fun o => qCP o.1 o.2.1 o.2.2) o49 (q_hl (EJ a1 a2 a3 a4 a5 a6 0 false 0 (Span.mk 0 0)) (qG8 E a1 a2 a3 a4 a5 a6 FUEL 0 false 0 (Span.mk 0 0) o49 h50)) ?_
   refine s_vn [] 4 ⟨[(12, vp 2 0), (13, vi o49.1), (14, vb o49.2.1)], [(2, bx 26 (e_Span o49.2.2))]⟩ ?_
   obtain rfl := oi hm
   refine q_rt ?_
   exact q_rm
 ·obtain ⟨v7, h8, hm⟩ := qD hm
  rcases Bool.eq_false_or_eq_true (!v7) with b9 | b9
  ·replace hm := qB b9 hm
   refine q_vu [qk 1 [22] 3 ⟨[(22, vi a5)], []⟩ (zE a5 1 20000 v7 h8), qf 3 b9] 3 [] [(36, vb true)] [] [] ?_
   exact q_J (true) hm
  ·replace hm := qC b9 hm
   obtain ⟨v10, h11, hm⟩ := qD hm
   rcases Bool.eq_false_or_eq_true (!v10) with b12 | b12
   ·replace hm := qB b12 hm
    refine q_vu [qk 1 [22] 3 ⟨[(22, vi a5)], []⟩ (zE a5 1 20000 v7 h8), qf 3 b9, qk 5 [25, 26] 3 ⟨[(25, vb false), (26, vi a6)], []⟩ (zE a6 0 1000000 v10 h11), qf 8 b12] 3 [] [(36, vb true)] [] [] ?_
    exact q_J (true) hm
   ·replace hm := qC b12 hm
    obtain ⟨v13, h14, hm⟩ := qD hm
    refine q_vu [qk 1 [22] 3 ⟨[(22, vi a5)], []⟩ (zE a5 1 20000 v7 h8), qf 3 b9, qk 5 [25, 26] 3 ⟨[(25, vb false), (26, vi a6)], []⟩ (zE a6 0 1000000 v10 h11), qf 8 b12, qk 12 [30, 31, 32, 33] 3 ⟨[(30, vb false), (31, vc (tl qH default a1)), (32, vc (tl qI default a2)), (33, va (qA a3))], []⟩ (qIW a1 a2 a3 v13 h14)] 3 [] [(36, vb (!v13))] [] [] ?_
    exact q_J (!v13) hm
def qJS (r : (List Leaf) × Int) : V := .tup [.one (.own 0 0 5 r.1.length), .one (ci r.2)]
def qJl (r : (List Leaf) × Int) : List (Nat × (Nat × O)) := [(0, ro 0 78 5 r.1.length (rf qG r.1))]
theorem qIk (a1 : Pattern) (a2 : Int) (r : (List Leaf) × Int) (hm : DX a1 a2 = some r) : CtX Tryz.prog globs 19 0 0 [.agg (qF a1), .one (ci a2)] [] (qJS r) (qJl r) := by
 unfold DX at hm
 refine q_E Tryz.f19 18 fun E => ?_
 refine s_vn [] 0 ⟨[(1, vi a2), (2, vp 0 0)], [(0, bx 31 (qF a1))]⟩ ?_
 obtain ⟨v3, h4, hm⟩ := qD hm
 refine s_vn [qk 2 [10, 11] 1 ⟨[(10, va (qF a1)), (11, vi a2)], []⟩ (CtX.emp (xs' := [.agg (qF a1), .one (.emp), .one (cb false), .one (ci a2)]) (CJ a1 ([] : List Product) false a2 v3 h4) (And.intro (And.intro rfl (And.intro rfl (And.intro rfl (And.intro rfl (And.intro rfl trivial))))) (And.intro rfl (And.intro rfl (And.intro rfl trivial)))))] 1 ⟨[(6, vo 1 0 5 v3.1.length), (8, vi v3.2.2)], [(1, ro 0 78 5 v3.1.length (rf qG v3.1))]⟩ ?_
 refine s_vu [] 3 [6, 8] [(4, vo 1 0 5 v3.1.length), (5, vi v3.2.2)] [] [] ?_
 obtain rfl := oi hm
 refine qS 1 0 (by kernel_rfl) ?_
 refine q_rt ?_
 exact q_rm
def qJ2 (r : (List Ref22_Cut) × Int) : V := .tup [.one (.own 0 0 9 r.1.length), .one (ci r.2)]
def qJP (r : (List Ref22_Cut) × Int) : List (Nat × (Nat × O)) := [(0, ro 0 81 9 r.1.length (rf wF r.1))]
def qAp (a1 : List Slice) (a2 : List Defect) (a3 : List Product) (a5 : Saw) (a6 : Int) (v10 : (List Leaf) × Int) (x13 : Int) (l22 : List Ref22_Cut) (l22n : Nat) : St :=
 ⟨[(0, vc (tl qH default a1)), (1, vc (tl qI default a2)), (2, vc (tl qA default a3)), (5, vi a6), (10, vp 1 0), (15, vo 2 0 5 v10.1.length), (17, vo 3 0 9 l22n), (18, vi x13)], [(1, bx 33 (zZ a5)), (2, ro 0 78 5 v10.1.length (rf qG v10.1)), (3, ro 0 81 9 l22n (rf wF l22))]⟩
def FZ (a1 : List Slice) (a2 : List Defect) (a3 : List Product) (a5 : Saw) (a6 : Int) (v10 : (List Leaf) × Int) (l12 : List Ref22_Cut) (l12n : Nat) (x13 : Int) : St :=
 ⟨[(0, vc (tl qH default a1)), (1, vc (tl qI default a2)), (2, vc (tl qA default a3)), (5, vi a6), (10, vp 1 0), (15, vo 2 0 5 v10.1.length), (17, vo 3 0 9 l12n), (18, vi x13)], [(1, bx 33 (zZ a5)), (2, ro 0 78 5 v10.1.length (rf qG v10.1)), (3, ro 0 81 9 l12n (rf wF l12))]⟩
def qAC (l23 : List Ref22_Cut) : St :=
 ⟨[(17, vo 3 0 9 l23.length)], [(3, ro 0 81 9 l23.length (rf wF l23))]⟩
theorem qEx (E : Env 0) (a1 : List Slice) (a2 : List Defect) (a3 : List Product) (a5 : Saw) (a6 : Int) (v10 : (List Leaf) × Int) : ∀ (n : Nat) (l12 : List Ref22_Cut) (l12n : Nat) (x13 : Int) (res : (List Ref22_Cut)), l12.length = l12n → wQ a1 a2 a3 a5 a6 v10 n l12 x13 = some res → HL (kx E 89 0) (nd Tryz.f8 500) (wC 0 (fun o => qAC o) res) n (FZ a1 a2 a3 a5 a6 v10 l12 l12n x13) := by
 intro n
 induction n with
 | zero =>
  intro l12 l12n x13 res hl0 hm
  cases hm
 | succ n ih =>
  intro l12 l12n x13 res hl0 hm
  subst hl0
  refine qQ ?_
  refine q_sq ?_
  refine s_vu [] 4 [] [(44, vb (decide (x13 < ((v10.1.length : Nat) : Int))))] [] [] ?_
  refine q_cn (decide (x13 < ((v10.1.length : Nat) : Int))) (fun b14 => ?_) (fun b14 => ?_)
  ·replace hm := qB b14 hm
   refine q_sk ?_
   refine q_jn (ι := (List Ref22_Cut) × Nat) (fun p => qAp a1 a2 a3 a5 a6 v10 x13 p.1 p.2) (fun p => p.1.length = p.2 ∧ KX x13 (wQ a1 a2 a3 a5 a6 v10 n) p.1 = some res) ?_ ?_
   ·rintro ⟨l22, l22n⟩ ⟨el22, hm⟩
    replace el22 : l22.length = l22n := el22
    subst el22
    show H _ (qAp a1 a2 a3 a5 a6 v10 x13 l22 l22.length) _ _
    refine q_vu [] 7 [18] [(18, vi (w64 (x13 + 1)))] [] [] ?_
    exact q_hl (FZ a1 a2 a3 a5 a6 v10 l22 l22.length (w64 (x13 + 1))) (ih l22 l22.length (w64 (x13 + 1)) _ rfl hm)
   ·refine q_bk 1 ?_
    obtain ⟨g15, hm⟩ := qM hm
    refine s_vu [qd 2 (Dir.none) (inb_of g15), qd 3 (Dir.none) (toNat_lt (inb_of g15))] 4 [44] [(19, vp 4 0)] [] [(4, bx 78 [ci ((((v10.1.getD x13.toNat default).Rect).X).A), ci ((((v10.1.getD x13.toNat default).Rect).X).B), ci ((((v10.1.getD x13.toNat default).Rect).Y).A), ci ((((v10.1.getD x13.toNat default).Rect).Y).B), ci ((v10.1.getD x13.toNat default).Product)])] ?_
    refine q_sq ?_
    refine s_vu [] 5 [] [(53, vb (decide (((v10.1.getD x13.toNat default).Product) < 0)))] [] [] ?_
    refine q_cn (decide (((v10.1.getD x13.toNat default).Product) < 0)) (fun b16 => ?_) (fun b16 => ?_)
    ·replace hm := qB b16 hm
     refine q_ex 1 ?_
     exact q_J (l12, l12.length) ⟨rfl, hm⟩
    ·replace hm := qC b16 hm
     refine q_sk ?_
     obtain ⟨g17, hm⟩ := qM hm
     obtain ⟨v18, h19, hm⟩ := qD hm
     refine s_du [qd 5 (Dir.none) (inb_of g17), qc 12 [55, 56, 61, 63, 65, 66] 5 (qK5 a1 a2 (a3.getD ((v10.1.getD x13.toNat default).Product).toNat default) ((v10.1.getD x13.toNat default).Rect) a5.Step a6 v18 h19)] [0, 0, 0, 0, 8, 28, 60, 0, 128, 0, 512, 0, 4095, 8191, 16383, 16383, 16383, 0, 163839, 458751, 1048575] 5 [53] [(20, vp 5 0), (21, vi v18.2.1), (22, vb v18.2.2)] [] [(5, bx 26 (e_Span v18.1))] ?_
     refine s_vu [] 6 [22] [(71, vb v18.2.2)] [] [] ?_
     refine q_cn v18.2.2 (fun b20 => ?_) (fun b20 => ?_)
     ·replace hm := qB b20 hm
      obtain ⟨g21, hm⟩ := qM hm
      refine q_vu [qd 14 (drw 6 0 (rf wF ([(Ref22_Cut.mk x13 ((v10.1.getD x13.toNat default).Product) (Box.mk (((v10.1.getD x13.toNat default).Rect).X) (((v10.1.getD x13.toNat default).Rect).Y) v18.1) v18.2.1)] : List Ref22_Cut))) (litP wF default 9 (fun _ => rfl) ([(Ref22_Cut.mk x13 ((v10.1.getD x13.toNat default).Product) (Box.mk (((v10.1.getD x13.toNat default).Rect).X) (((v10.1.getD x13.toNat default).Rect).Y) v18.1) v18.2.1)] : List Ref22_Cut) 1 rfl), qd 15 (drw 3 1 (rf wF (l12 ++ ([(Ref22_Cut.mk x13 ((v10.1.getD x13.toNat default).Product) (Box.mk (((v10.1.getD x13.toNat default).Rect).X) (((v10.1.getD x13.toNat default).Rect).Y) v18.1) v18.2.1)] : List Ref22_Cut)))) (apP wF default l12 ([(Ref22_Cut.mk x13 ((v10.1.getD x13.toNat default).Product) (Box.mk (((v10.1.getD x13.toNat default).Rect).X) (((v10.1.getD x13.toNat default).Rect).Y) v18.1) v18.2.1)] : List Ref22_Cut) l12.length 1 9 72 (1 ≤ 1) (Nat.le_refl _) rfl rfl (fun _ => rfl) (wV g21))] 6 [17, 19, 20, 21, 71] [(17, vo 3 1 9 (l12.length + 1))] [3, 4, 5] [(3, ro 1 81 9 (l12.length + 1) (rf wF (l12 ++ ([(Ref22_Cut.mk x13 ((v10.1.getD x13.toNat default).Product) (Box.mk (((v10.1.getD x13.toNat default).Rect).X) (((v10.1.getD x13.toNat default).Rect).Y) v18.1) v18.2.1)] : List Ref22_Cut))))] ?_
      exact q_J ((l12 ++ ([(Ref22_Cut.mk x13 ((v10.1.getD x13.toNat default).Product) (Box.mk (((v10.1.getD x13.toNat default).Rect).X) (((v10.1.getD x13.toNat default).Rect).Y) v18.1) v18.2.1)] : List Ref22_Cut)), (l12.length + 1)) ⟨(len_app rfl rfl), hm⟩
     ·replace hm := qC b20 hm
      refine q_sk ?_
      exact q_J (l12, l12.length) ⟨rfl, hm⟩
  ·replace hm := qC b14 hm
   refine q_ex 0 ?_
   obtain rfl := oi hm
   exact jP (by kernel_rfl) (by kernel_rfl)
theorem qIt (a1 : List Slice) (a2 : List Defect) (a3 : List Product) (a4 : Pattern) (a5 : Saw) (a6 : Int) (r : (List Ref22_Cut) × Int) (hm : NF a1 a2 a3 a4 a5 a6 = some r) : CtX Tryz.prog globs 8 0 0 [.one (tl qH default a1), .one (tl qI default a2), .one (tl qA default a3), .agg (qF a4), .agg (zZ a5), .one (ci a6)] [] (qJ2 r) (qJP r) := by
 unfold NF at hm
 refine q_E Tryz.f8 89 fun E => ?_
 refine s_vn [] 0 ⟨[(0, vc (tl qH default a1)), (1, vc (tl qI default a2)), (2, vc (tl qA default a3)), (5, vi a6), (9, vp 0 0), (10, vp 1 0)], [(0, bx 31 (qF a4)), (1, bx 33 (zZ a5))]⟩ ?_
 refine q_sq ?_
 obtain ⟨v7, h8, hm⟩ := qD hm
 refine s_vu [qc 7 [23, 24, 25, 26, 27, 29] 2 (qDg a1 a2 a3 a4 a5 (Rates.mk 0 0 a6) v7 h8)] 2 [] [(14, vi v7)] [] [] ?_
 refine s_vu [] 2 [] [(32, vb (v7 != 0))] [] [] ?_
 refine q_cn (v7 != 0) (fun b9 => ?_) (fun b9 => ?_)
 ·replace hm := qB b9 hm
  refine s_vn [] 2 ⟨[(12, vc (.emp)), (13, vi v7)], []⟩ ?_
  refine q_fn [.own 12 2 81 9 (rf wF ([] : List Ref22_Cut))] ⟨[(12, vo 2 0 9 0), (13, vi v7)], [(2, ro 0 81 9 0 (rf wF ([] : List Ref22_Cut)))]⟩ o0 ?_
  refine q_fn [.len 2 (([] : List Ref22_Cut).length)] ⟨[(12, vo 2 0 9 (([] : List Ref22_Cut).length)), (13, vi v7)], [(2, ro 0 81 9 (([] : List Ref22_Cut).length) (rf wF ([] : List Ref22_Cut)))]⟩ (o1 (And.intro (show 0 = ([] : List Ref22_Cut).length from rfl) (show 0 = ([] : List Ref22_Cut).length from rfl))) ?_
  obtain rfl := oi hm
  refine qS 2 0 (by kernel_rfl) ?_
  refine q_rt ?_
  exact q_rm
 ·replace hm := qC b9 hm
  refine q_sk ?_
  obtain ⟨v10, h11, hm⟩ := qD hm
  refine s_vu [qc 3 [35, 37] 2 (qIk a4 a5.Kerf v10 h11)] 2 [9, 14, 32] [(15, vo 2 0 5 v10.1.length)] [0] [(2, ro 0 78 5 v10.1.length (rf qG v10.1))] ?_
  refine s_vu [] 3 [] [(17, vc (.emp))] [] [] ?_
  refine q_sq ?_
  refine s_vu [] 3 [] [(18, vi 0)] [] [] ?_
  refine q_fn [.own 17 3 81 9 (rf wF ([] : List Ref22_Cut))] ⟨[(0, vc (tl qH default a1)), (1, vc (tl qI default a2)), (2, vc (tl qA default a3)), (5, vi a6), (10, vp 1 0), (15, vo 2 0 5 v10.1.length), (17, vo 3 0 9 0), (18, vi 0)], [(1, bx 33 (zZ a5)), (2, ro 0 78 5 v10.1.length (rf qG v10.1)), (3, ro 0 81 9 0 (rf wF ([] : List Ref22_Cut)))]⟩ o0 ?_
  obtain ⟨o24, h25, hm⟩ := qD hm
  refine zX (nd Tryz.f8 500) 0 (by kernel_rfl) FUEL (fun o => qAC o) o24 (q_hl (FZ a1 a2 a3 a5 a6 v10 ([] : List Ref22_Cut) 0 0) (qEx E a1 a2 a3 a5 a6 v10 FUEL ([] : List Ref22_Cut) 0 0 o24 rfl h25)) ?_
  refine s_vu [] 4 [17] [(12, vo 3 0 9 o24.length), (13, vi 0)] [] [] ?_
  obtain rfl := oi hm
  refine qS 3 0 (by kernel_rfl) ?_
  refine q_rt ?_
  exact q_rm
def qMF (r : (List Rect) × Int) : V := .tup [.one (.own 0 0 4 r.1.length), .one (ci r.2)]
def qMk (r : (List Rect) × Int) : List (Nat × (Nat × O)) := [(0, ro 0 28 4 r.1.length (rf qE r.1))]
theorem qLJ (a1 : Pattern) (a2 : Int) (r : (List Rect) × Int) (hm : EW a1 a2 = some r) : CtX Tryz.prog globs 22 0 0 [.agg (qF a1), .one (ci a2)] [] (qMF r) (qMk r) := by
 unfold EW at hm
 refine q_E Tryz.f22 18 fun E => ?_
 refine s_vn [] 0 ⟨[(1, vi a2), (2, vp 0 0)], [(0, bx 31 (qF a1))]⟩ ?_
 obtain ⟨v3, h4, hm⟩ := qD hm
 refine s_vn [qk 2 [10, 11] 1 ⟨[(10, va (qF a1)), (11, vi a2)], []⟩ (CtX.emp (xs' := [.agg (qF a1), .one (.emp), .one (cb false), .one (ci a2)]) (CJ a1 ([] : List Product) false a2 v3 h4) (And.intro (And.intro rfl (And.intro rfl (And.intro rfl (And.intro rfl (And.intro rfl trivial))))) (And.intro rfl (And.intro rfl (And.intro rfl trivial)))))] 1 ⟨[(7, vo 2 0 4 v3.2.1.length), (8, vi v3.2.2)], [(2, ro 0 28 4 v3.2.1.length (rf qE v3.2.1))]⟩ ?_
 refine s_vu [] 3 [7, 8] [(4, vo 2 0 4 v3.2.1.length), (5, vi v3.2.2)] [] [] ?_
 obtain rfl := oi hm
 refine qS 2 0 (by kernel_rfl) ?_
 refine q_rt ?_
 exact q_rm
def qM1 (r : Int) : V := vi r
def qMH (r : Int) : List (Nat × (Nat × O)) := []
def EI (v2 : qK) (x4 : Int) (x5 : Int) : St :=
 ⟨[(1, vp 0 0), (3, vi x4), (4, vi x5)], [(0, bx 57 (qW v2))]⟩
def qCq (x8 : Int) : St :=
 ⟨[(3, vi x8)], []⟩
theorem qGE (E : Env 0) (v2 : qK) : ∀ (n : Nat) (x4 : Int) (x5 : Int) (res : Int), KJ v2 n x4 x5 = some res → HL (kx E 31 0) (nd Tryz.f50 244) (wC 0 (fun o => qCq o) res) n (EI v2 x4 x5) := by
 intro n
 induction n with
 | zero =>
  intro x4 x5 res hm
  cases hm
 | succ n ih =>
  intro x4 x5 res hm
  refine qQ ?_
  refine q_sq ?_
  refine s_vu [] 1 [] [(11, vb (decide (x5 < ((v2.Rows.length : Nat) : Int))))] [] [] ?_
  refine q_cn (decide (x5 < ((v2.Rows.length : Nat) : Int))) (fun b6 => ?_) (fun b6 => ?_)
  ·replace hm := qB b6 hm
   refine q_sk ?_
   refine q_sq ?_
   refine q_bk 1 ?_
   obtain ⟨g7, hm⟩ := qM hm
   refine q_du [qd 4 (Dir.none) (inb_of g7), qd 10 (Dir.none) (inb_of g7)] [0, 0, 2, 0, 14, 30, 62, 0, 128, 0, 896, 1920, 3968, 8190, 16382, 32767, 65535] 1 [3, 11] [(3, vi (w64 (x4 + (w64 (10 * (w64 (((v2.Rows.getD x5.toNat default).B) - ((v2.Rows.getD x5.toNat default).A))))))))] [] [] ?_
   refine q_vu [] 1 [4] [(4, vi (w64 (x5 + 1)))] [] [] ?_
   exact q_hl (EI v2 (w64 (x4 + (w64 (10 * (w64 (((v2.Rows.getD x5.toNat default).B) - ((v2.Rows.getD x5.toNat default).A))))))) (w64 (x5 + 1))) (ih (w64 (x4 + (w64 (10 * (w64 (((v2.Rows.getD x5.toNat default).B) - ((v2.Rows.getD x5.toNat default).A))))))) (w64 (x5 + 1)) _ hm)
  ·replace hm := qC b6 hm
   refine q_ex 0 ?_
   obtain rfl := oi hm
   exact jP (by kernel_rfl) (by kernel_rfl)
theorem qLM (a1 : qK) (r : Int) (hm : EZ a1 = some r) : CtX Tryz.prog globs 50 0 0 [.agg (qW a1)] [] (qM1 r) (qMH r) := by
 unfold EZ at hm
 refine q_E Tryz.f50 31 fun E => ?_
 refine s_vn [] 0 ⟨[(1, vp 0 0)], [(0, bx 57 (qW a1))]⟩ ?_
 refine s_vu [] 1 [] [(3, vi 0)] [] [] ?_
 obtain ⟨v2, h3, hm⟩ := qD hm
 refine s_vu [qc 1 [5] 1 (qDu a1 v2 h3)] 1 [] [] [0] [(0, bx 57 (qW v2))] ?_
 refine q_sq ?_
 refine s_vu [] 1 [] [(4, vi 0)] [] [] ?_
 obtain ⟨o9, h10, hm⟩ := qD hm
 refine zX (nd Tryz.f50 244) 0 (by kernel_rfl) FUEL (fun o => qCq o) o9 (q_hl (EI v2 0 0) (qGE E v2 FUEL 0 0 o9 h10)) ?_
 refine s_vn [] 1 ⟨[(2, vi o9)], []⟩ ?_
 obtain rfl := oi hm
 refine q_rt ?_
 exact q_rm
def qIK (r : Int) : V := vi r
def qI8 (r : Int) : List (Nat × (Nat × O)) := []
def LB (a1 : List Slice) (x5 : Int) (x6 : Int) : St :=
 ⟨[(0, vc (tl qH default a1)), (3, vi x5), (4, vi x6)], []⟩
def qAi (x11 : Int) : St :=
 ⟨[(3, vi x11)], []⟩
theorem qER (E : Env 0) (a1 : List Slice) : ∀ (n : Nat) (x5 : Int) (x6 : Int) (res : Int), JF a1 n x5 x6 = some res → HL (kx E 29 0) (nd Tryz.f23 244) (wC 0 (fun o => qAi o) res) n (LB a1 x5 x6) := by
 intro n
 induction n with
 | zero =>
  intro x5 x6 res hm
  cases hm
 | succ n ih =>
  intro x5 x6 res hm
  refine qQ ?_
  refine q_sq ?_
  refine s_vu [] 0 [] [(11, vb (decide (x6 < ((a1.length : Nat) : Int))))] [] [] ?_
  refine q_cn (decide (x6 < ((a1.length : Nat) : Int))) (fun b7 => ?_) (fun b7 => ?_)
  ·replace hm := qB b7 hm
   refine q_sk ?_
   refine q_sq ?_
   refine q_bk 1 ?_
   obtain ⟨g8, hm⟩ := qM hm
   obtain ⟨v9, h10, hm⟩ := qD hm
   refine q_du [qd 3 (Dir.none) (inb_of g8), qd 8 (Dir.none) (inb_of g8), qc 11 [24] 0 (qLM ((a1.getD x6.toNat default).Sec) v9 h10)] [0, 0, 0, 6, 14, 30, 0, 0, 192, 448, 960, 1984, 4094, 8191, 16383] 0 [3, 11] [(3, vi (w64 (x5 + (w64 (((a1.getD x6.toNat default).Len) * v9)))))] [] [] ?_
   refine q_vu [] 0 [4] [(4, vi (w64 (x6 + 1)))] [] [] ?_
   exact q_hl (LB a1 (w64 (x5 + (w64 (((a1.getD x6.toNat default).Len) * v9)))) (w64 (x6 + 1))) (ih (w64 (x5 + (w64 (((a1.getD x6.toNat default).Len) * v9)))) (w64 (x6 + 1)) _ hm)
  ·replace hm := qC b7 hm
   refine q_ex 0 ?_
   obtain rfl := oi hm
   exact jP (by kernel_rfl) (by kernel_rfl)
theorem qHU (a1 : List Slice) (r : Int) (hm : DT a1 = some r) : CtX Tryz.prog globs 23 0 0 [.one (tl qH default a1)] [] (qIK r) (qI8 r) := by
 unfold DT at hm
 refine q_E Tryz.f23 29 fun E => ?_
 refine s_vn [] 0 ⟨[(0, vc (tl qH default a1))], []⟩ ?_
 refine q_sq ?_
 obtain ⟨v2, h3, hm⟩ := qD hm
 refine s_vu [qc 1 [5] 0 (wO a1 v2 h3)] 0 [] [(7, vb (v2 != 0))] [] [] ?_
 refine q_cn (v2 != 0) (fun b4 => ?_) (fun b4 => ?_)
 ·replace hm := qB b4 hm
  refine s_vn [] 0 ⟨[(2, vi 0)], []⟩ ?_
  obtain rfl := oi hm
  refine q_rt ?_
  exact q_rm
 ·replace hm := qC b4 hm
  refine q_sk ?_
  refine s_vu [] 0 [7] [(3, vi 0)] [] [] ?_
  refine q_sq ?_
  refine s_vu [] 0 [] [(4, vi 0)] [] [] ?_
  obtain ⟨o12, h13, hm⟩ := qD hm
  refine zX (nd Tryz.f23 244) 0 (by kernel_rfl) FUEL (fun o => qAi o) o12 (q_hl (LB a1 0 0) (qER E a1 FUEL 0 0 o12 h13)) ?_
  refine s_vn [] 0 ⟨[(2, vi o12)], []⟩ ?_
  obtain rfl := oi hm
  refine q_rt ?_
  exact q_rm
end Saw
end Go.SL
