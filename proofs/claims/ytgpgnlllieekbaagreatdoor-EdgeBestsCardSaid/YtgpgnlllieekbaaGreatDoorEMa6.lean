/- Edge's plain mathematics over the reference, part 2: the reference's walk; checks; volumes. -/
import Derived.Test.YtgpgnlllieekbaaGreatDoorEMa5
set_option linter.unusedVariables false
set_option linter.unusedSimpArgs false
namespace Go.SL
namespace Saw
theorem qFX {a : Line} (h : VL a) : ∀ (p n : Nat) (l : List Sp), p < n → (p : Int) ≤ a.Len + 1 → (l.length : Int) = a.Len + 1 → (∀ x : Nat, p ≤ x → (x : Int) ≤ a.Len → l.getD x default = stp (bst a x)) →
  ∃ l', YS a (sums a.Chip) (sums a.Dust) n l ((p : Int) - 1) = some l' ∧ (l'.length : Int) = a.Len + 1 ∧ ∀ x : Nat, (x : Int) ≤ a.Len → l'.getD x default = stp (bst a x)
 | 0, n, l, hn, hp, hl, he => by
  obtain ⟨n, rfl⟩ : ∃ m, n = m + 1 := ⟨n - 1, by omega⟩
  refine ⟨l, ?_, hl, fun x hx => he x (by omega) hx⟩
  rw [YS, decide_eq_false (by omega)]; rfl
 | p + 1, n, l, hn, hp, hl, he => by
  have ln := h.len
  obtain ⟨n, rfl⟩ : ∃ m, n = m + 1 := ⟨n - 1, by omega⟩
  have ep : ((p + 1 : Nat) : Int) - 1 = (p : Int) := by omega
  obtain ⟨l', e1, e2, e3⟩ := qFX h p n (l.set p (stp (bst a p))) (by omega) (by omega) (by simpa using hl) (fun x h1 h2 => by
   by_cases c : x = p
   ·subst c; rw [ER _ (by omega)]
   ·rw [NF _ (fun e => c e.symm)]; exact he x (by omega) h2)
  refine ⟨l', ?_, e2, e3⟩
  rw [YS, ep, decide_eq_true (by omega), from_eq h (by omega) hl (fun x h1 h2 => he x (by omega) h2), qM (by omega) (by omega), Int.toNat_natCast, qF (by omega) (by omega)]
  exact e1
theorem qF7 {a : Line} (h : VL a) {c : List Sp} (hl : (c.length : Int) = a.Len + 1) (hc : ∀ x : Nat, (x : Int) ≤ a.Len → c.getD x default = stp (bst a x)) :
  ∀ (d n m p : Nat) (l : List Piece), a.Len.toNat - p < d → d < n → d < m → (p : Int) ≤ a.Len → l.length + d ≤ 5000 → TH a c n l (p : Int) = some (l ++ walk a m p)
 | 0, n, m, p, l, hd, _, _, _, _ => by omega
 | d + 1, n, m, p, l, hd, hn, hm, hp, hll => by
  have ln := h.len
  obtain ⟨n, rfl⟩ : ∃ k, n = k + 1 := ⟨n - 1, by omega⟩
  obtain ⟨m, rfl⟩ : ∃ k, m = k + 1 := ⟨m - 1, by omega⟩
  rw [TH, qM (by omega) (by omega), walk]
  simp only [cond_true, Int.toNat_natCast, hc p hp, stp]
  cases hn' : isNo (bst a p) with
  | true => simp
  | false =>
   obtain ⟨i, q, e, hi, hq, hg, hw⟩ := qBV h hp hn'
   have sz := h.sz i hi
   have hpq : p ≤ q := by
    rcases hw with rfl | ⟨k, hk, rfl⟩
    ·exact Nat.le_refl _
    ·have := LG h p k; omega
   clear hw
   have en : (endN a q i : Int) = q + szAt a i := by unfold endN szAt; omega
   simp only [Bool.false_eq_true, if_false, cond_false, e, Int.toNat_natCast]
   rw [decide_eq_true (show (i : Int) ≥ 0 by omega), zG (by omega) (by omega), qM (by omega) (by omega), qF (n := (q : Int) + a.Sizes.getD i default) (by unfold szAt at *; omega) (by unfold szAt at *; omega)]
   simp only [cond_true]
   rw [show (q : Int) + a.Sizes.getD i default = (endN a q i : Int) by rw [en]; rfl]
   by_cases c1 : (endN a q i : Int) = a.Len
   ·rw [if_pos c1, show ((endN a q i : Int) == a.Len) = true by rw [beq_iff_eq]; exact c1]
    rfl
   ·rw [if_neg c1, show ((endN a q i : Int) == a.Len) = false by rw [beq_eq_false_iff_ne]; exact c1]
    have kf := h.kerf
    have ws := qCC h hi hq hpq c1
    have mm := wL ((endN a q i : Int) + a.Kerf) a.Len
    have en2 : imin ((endN a q i : Int) + a.Kerf) a.Len = (nxtN a (endN a q i) : Int) := by unfold nxtN; omega
    simp only [cond_false, qF (n := (endN a q i : Int) + a.Kerf) (by unfold szAt at *; omega) (by unfold szAt at *; omega), en2]
    rw [qF7 h hl hc d n m (nxtN a (endN a q i)) _ (by omega) (by omega) (by omega) ws.2 (by simp; omega)]
    simp
theorem qPM {a : Line} (h : VL a) : HO a = some (wX a, (bst a 0).value, 0) := by
 have ln := h.len
 have cl := h.cl
 have dl := h.dl
 unfold HO
 rw [qOK h, qHJ (by omega) h.cb, qHJ (by omega) h.db]
 simp only [Option.bind_some, bne_self_eq_false, cond_false]
 rw [qF (n := a.Len + 1) (by omega) (by omega), show a.Len + 1 = ((a.Len.toNat + 1 : Nat) : Int) by omega, qEP (by omega) (by omega), Int.toNat_natCast]
 simp only [cond_true]
 obtain ⟨c, e1, e2, e3⟩ := qFX h (a.Len.toNat + 1) FUEL (List.replicate (a.Len.toNat + 1) ⟨0, ⟨0, 0⟩⟩) (by rw [FUEL_eq]; omega) (by omega) (by simp; omega) (fun x h1 h2 => by omega)
 rw [show ((a.Len.toNat + 1 : Nat) : Int) - 1 = a.Len by omega] at e1
 rw [e1]
 simp only [Option.bind_some]
 have := qF7 h e2 e3 2500 FUEL 3000 0 [] (by omega) (by rw [FUEL_eq]; omega) (by omega) (by omega) (by simp)
 rw [show ((0 : Nat) : Int) = 0 from rfl] at this
 rw [this, qM (by omega) (by omega)]
 simp only [Option.bind_some, cond_true, show (0 : Int).toNat = 0 from rfl, e3 0 (by omega)]
 rfl
/-! ### Rows -/
theorem qOe {r : Rect} (h : VR r) : VT r = some true := by
 unfold VR at h
 unfold VT
 simp only [decide_eq_true (show r.X.A < r.X.B by omega), decide_eq_true (show r.Y.A < r.Y.B by omega), decide_eq_true (show r.X.A ≥ -600 by omega), decide_eq_true (show r.X.B ≤ 600 by omega), decide_eq_true (show r.Y.A ≥ -600 by omega), decide_eq_true (show r.Y.B ≤ 600 by omega)]
 rfl
theorem qHo {axis kerf : Int} (hk : 0 ≤ kerf ∧ kerf ≤ 20) {s : Span} (hs : -600 ≤ s.A ∧ s.B ≤ 600) {L : List Pt} (hL : L.length ≤ 100000) :
  ∀ (rest : List Pt) (i n : Nat) (e : Int) (T : List Node), L.drop i = rest → i ≤ L.length → rest.length < n → -600 ≤ e → e ≤ 600 → goodL kerf s.B e rest → T.length + ndC rest ≤ 1000000 →
  wR axis kerf (L.map Prod.fst) (L.map Prod.snd) s n T e false (i : Int) = some (.inr (T ++ (rowB axis kerf s.B e rest).1, (rowB axis kerf s.B e rest).2))
 | [], i, n, e, T, hd, hi, hn, he1, he2, hg, hb => by
  obtain ⟨n, rfl⟩ : ∃ m, n = m + 1 := ⟨n - 1, by omega⟩
  have hi' : i = L.length := by have := List.drop_eq_nil_iff.1 hd; omega
  rw [wR, List.length_map, decide_eq_false (by omega)]
  simp [rowB]
 | x :: r, i, n, e, T, hd, hi, hn, he1, he2, hg, hb => by
  obtain ⟨n, rfl⟩ : ∃ m, n = m + 1 := ⟨n - 1, by omega⟩
  have hi' : i < L.length := by
   by_cases c : i < L.length
   ·exact c
   ·rw [List.drop_eq_nil_of_le (by omega)] at hd; cases hd
  have hx : L.getD i default = x := by rw [GN L i hi'] at hd; exact (List.cons.inj hd).1
  have hr : L.drop (i + 1) = r := by rw [GN L i hi'] at hd; exact (List.cons.inj hd).2
  have hxa : (L.map Prod.fst).getD i default = x.1 := by rw [qCd.getD_map'' Prod.fst hi', hx]
  have hxb : (L.map Prod.snd).getD i default = x.2 := by rw [qCd.getD_map'' Prod.snd hi', hx]
  obtain ⟨g1, g2, g3, g4⟩ := hg
  have hc : ndC (x :: r) = 3 + x.2.length + ndC r := by simp [ndC]
  rw [hc] at hb
  rw [wR, List.length_map, decide_eq_true (by omega), qM (by omega) (by omega)]
  simp only [cond_true, cond_false, Int.toNat_natCast, hxa, GF]
  rw [decide_eq_false (show ¬ x.1.A ≥ x.1.B by omega), qF (n := e + kerf) (by omega) (by omega), qF (n := e + kerf + 1) (by omega) (by omega), decide_eq_false (show ¬ x.1.B > s.B by omega)]
  simp only [cond_false]
  have gA : ∀ {β : Type} (u v : β), (bif x.1.A != e then (bif decide (x.1.A < e + kerf + 1) then u else v) else (bif false then u else v)) = v := fun u v => by
   by_cases c : x.1.A = e
   ·rw [show (x.1.A != e) = false by rw [bne_eq_false_iff_eq]; exact c]; rfl
   ·rw [show (x.1.A != e) = true by rw [bne_iff_ne]; exact c, decide_eq_false (show ¬ x.1.A < e + kerf + 1 by omega)]; rfl
  simp only [cond_false] at gA
  rw [gA]
  have mi := wL (x.1.B + kerf) s.B
  -- behind the first nodes
  have key : ∀ (T2 : List Node), T2.length + 1 + x.2.length + ndC r ≤ 1000000 → VX axis kerf (L.map Prod.fst) (L.map Prod.snd) s (i : Int) (wR axis kerf (L.map Prod.fst) (L.map Prod.snd) s n) T2
    = some (.inr (T2 ++ (if x.1.B < s.B then (⟨axis, x.1.B⟩ :: x.2 ++ (rowB axis kerf s.B (imin (x.1.B + kerf) s.B) r).1) else x.2), (if x.1.B < s.B then (rowB axis kerf s.B (imin (x.1.B + kerf) s.B) r).2 else true))) := by
   intro T2 hb2
   unfold VX MA
   simp only [Int.toNat_natCast, hxa, hxb, List.length_map, qQ (show i < 4611686018427387904 by omega), qF (n := x.1.B + kerf) (by omega) (by omega)]
   rw [qM (show (0 : Int) ≤ (i : Int) by omega) (show (i : Int) < ((L.length : Nat) : Int) by omega)]
   simp only [cond_true]
   by_cases c : x.1.B < s.B
   ·rw [if_pos c, if_pos c, show (x.1.B == s.B) = false by rw [beq_eq_false_iff_ne]; omega]
    rw [if_pos c] at g4
    rw [zG (by omega) (by omega), zG (by simp; omega) (by omega)]
    simp only [Bool.not_false, cond_true]
    rw [qHo hk hs hL r (i + 1) n (imin (x.1.B + kerf) s.B) _ hr (by omega) (by simp at hn; omega) (by omega) (by omega) g4 (by simp; omega)]
    simp
   ·rw [if_neg c, if_neg c, show (x.1.B == s.B) = true by rw [beq_iff_eq]; omega]
    rw [if_neg c] at g4
    subst g4
    rw [zG (n := T2.length + x.2.length) (by omega) (by omega)]
    simp only [Bool.not_true, cond_false, cond_true]
    obtain ⟨n, rfl⟩ : ∃ m, n = m + 1 := ⟨n - 1, by simp at hn; omega⟩
    have hi2 : i + 1 = L.length := by have := List.drop_eq_nil_iff.1 hr; omega
    rw [wR, List.length_map, decide_eq_false (by omega)]
    rfl
  by_cases c : x.1.A = e
  ·rw [show (x.1.A != e) = false by rw [bne_eq_false_iff_eq]; exact c]
   simp only [cond_false]
   rw [key T (by omega), LP, if_neg (show ¬ x.1.A > e by omega)]
   split <;> simp
  ·rw [show (x.1.A != e) = true by rw [bne_iff_ne]; exact c, zG (by omega) (by omega), qF (n := x.1.A - kerf) (by omega) (by omega)]
   simp only [cond_true]
   rw [key _ (by simp; omega), LP, if_pos (show x.1.A > e by omega)]
   split <;> simp
theorem rRow_eq {r : Rect} (hr : VR r) {axis kerf : Int} (ha : axis = 2 ∨ axis = 3) (hk : 0 ≤ kerf ∧ kerf ≤ 20) {L : List Pt} (hL : L.length ≤ 100000) (hg : goodL kerf (axS r axis).B (axS r axis).A L) (hb : ndC L + 1 ≤ 1000000) :
  LO r axis kerf (L.map Prod.fst) (L.map Prod.snd) = some (rowR (rowN axis kerf (axS r axis) L)) := by
 have hs : -600 ≤ (axS r axis).A ∧ (axS r axis).B ≤ 600 ∧ (axS r axis).A < (axS r axis).B := by
  unfold VR at hr
  unfold axS
  split <;> omega
 have e0 : LO r axis kerf (L.map Prod.fst) (L.map Prod.snd) = VU axis kerf (L.map Prod.fst) (L.map Prod.snd) (axS r axis) := by
  unfold LO HQ LV MJ
  rw [qOe hr]
  simp only [Option.bind_some, Bool.not_true, cond_false, List.length_map, bne_self_eq_false]
  rw [decide_eq_false (show ¬ kerf < 0 by omega), decide_eq_false (show ¬ kerf > 20 by omega)]
  rcases ha with rfl | rfl <;> rfl
 rw [e0]
 unfold VU
 have k1 := qHo (axis := axis) hk ⟨hs.1, hs.2.1⟩ hL L 0 FUEL (axS r axis).A [] (by simp) (by omega) (by rw [FUEL_eq]; omega) hs.1 (by omega) hg (by simp; omega)
 rw [show ((0 : Nat) : Int) = 0 from rfl] at k1
 rw [k1]
 simp only [Option.bind_some, Sum.elim_inr, List.nil_append]
 have bl := qF9 axis kerf (axS r axis).B L (axS r axis).A
 unfold rowN
 generalize rowB axis kerf (axS r axis).B (axS r axis).A L = B at *
 obtain ⟨b1, b2⟩ := B
 simp only at bl ⊢
 have fin : ∀ T : List Node, GC T = some (rowR T) := fun T => by
  unfold GC rowR
  by_cases c : T.length ≤ 127
  ·rw [decide_eq_false (by omega), if_pos c]; rfl
  ·rw [decide_eq_true (by omega), if_neg c]; rfl
 cases b2 with
 | true =>
  simp only [Bool.not_true, cond_false, if_true, List.append_nil]
  exact fin _
 | false =>
  simp only [Bool.not_false, cond_true, Bool.false_eq_true, if_false]
  rw [zG (by omega) (by omega)]
  exact fin _
theorem qGa (n a b : Int) : jR n a b = some (decide (a ≤ n ∧ n ≤ b)) := by
 unfold jR NW
 by_cases h1 : n ≥ a
 ·rw [decide_eq_true h1]
  by_cases h2 : n ≤ b
  ·rw [decide_eq_true h2, decide_eq_true ⟨h1, h2⟩]; rfl
  ·rw [decide_eq_false h2, decide_eq_false (fun h => h2 h.2)]; rfl
 ·rw [decide_eq_false h1, decide_eq_false (show ¬ (a ≤ n ∧ n ≤ b) from fun h => h1 h.1)]; rfl
theorem qO5 (s : Saw) (r : Rates) : NG s r = some (DJ s r) := by
 unfold NG JZ PK
 simp only [qGa, Option.bind_some]
 have no : ¬ VW s r → DJ s r = 9 := fun h => by unfold DJ; rw [if_neg h]
 by_cases c1' : ¬ (0 ≤ s.Kerf ∧ s.Kerf ≤ 20)
 ·rw [decide_eq_false c1', no (fun h => c1' h.kerf)]; rfl
 have c1 : 0 ≤ s.Kerf ∧ s.Kerf ≤ 20 := Decidable.not_not.1 c1'
 by_cases c2' : ¬ (0 ≤ s.Trim ∧ s.Trim ≤ 20)
 ·rw [decide_eq_true c1, decide_eq_false c2', no (fun h => c2' h.trim)]; rfl
 have c2 : 0 ≤ s.Trim ∧ s.Trim ≤ 20 := Decidable.not_not.1 c2'
 by_cases c3' : ¬ (1 ≤ s.Pitch ∧ s.Pitch ≤ 2000)
 ·rw [decide_eq_true c1, decide_eq_true c2, decide_eq_false c3', no (fun h => c3' h.pitch)]; rfl
 have c3 : 1 ≤ s.Pitch ∧ s.Pitch ≤ 2000 := Decidable.not_not.1 c3'
 by_cases c4' : ¬ (1 ≤ s.Step ∧ s.Step ≤ 20000)
 ·rw [decide_eq_true c1, decide_eq_true c2, decide_eq_true c3, decide_eq_false c4', no (fun h => c4' h.step)]; rfl
 have c4 : 1 ≤ s.Step ∧ s.Step ≤ 20000 := Decidable.not_not.1 c4'
 by_cases c5' : ¬ (0 ≤ r.Chip ∧ r.Chip ≤ 1000)
 ·rw [decide_eq_true c1, decide_eq_true c2, decide_eq_true c3, decide_eq_true c4, decide_eq_false c5', no (fun h => c5' h.chip)]; rfl
 have c5 : 0 ≤ r.Chip ∧ r.Chip ≤ 1000 := Decidable.not_not.1 c5'
 by_cases c6' : ¬ (0 ≤ r.Dust ∧ r.Dust ≤ 1000)
 ·rw [decide_eq_true c1, decide_eq_true c2, decide_eq_true c3, decide_eq_true c4, decide_eq_true c5, decide_eq_false c6', no (fun h => c6' h.dust)]; rfl
 have c6 : 0 ≤ r.Dust ∧ r.Dust ≤ 1000 := Decidable.not_not.1 c6'
 by_cases c7' : ¬ (0 ≤ r.Fine ∧ r.Fine ≤ 1000000)
 ·rw [decide_eq_true c1, decide_eq_true c2, decide_eq_true c3, decide_eq_true c4, decide_eq_true c5, decide_eq_true c6, decide_eq_false c7', no (fun h => c7' h.fine)]; rfl
 have c7 : 0 ≤ r.Fine ∧ r.Fine ≤ 1000000 := Decidable.not_not.1 c7'
 rw [decide_eq_true c1, decide_eq_true c2, decide_eq_true c3, decide_eq_true c4, decide_eq_true c5, decide_eq_true c6, decide_eq_true c7, (CY s r).2 ⟨c1, c2, c3, c4, c5, c6, c7⟩]; rfl
theorem qJR (b : Box) : TT b = some (empS b.X || (empS b.Y || empS b.Z)) := by
 unfold TT PN empS
 show (bif decide (b.X.B ≤ b.X.A) then _ else bif decide (b.Y.B ≤ b.Y.A) then _ else some (decide (b.Z.B ≤ b.Z.A))) = _
 cases decide (b.X.B ≤ b.X.A) <;> cases decide (b.Y.B ≤ b.Y.A) <;> rfl
theorem qLr {s : Span} (h : empS s = false) (a b : Int) : FF s a b = some (insS s a b) := by
 have h' : ¬ s.B ≤ s.A := of_decide_eq_false h
 unfold FF EP insS
 by_cases c1 : a ≤ s.A
 ·rw [decide_eq_true c1]
  simp only [cond_true]
  congr 1
  rw [decide_eq_decide]; omega
 ·rw [decide_eq_false c1, decide_eq_false (show ¬ ((a ≤ s.A ∧ a ≤ s.B) ∧ (s.A ≤ b ∧ s.B ≤ b)) from fun q => c1 q.1.1)]; rfl
theorem qNX {b : Box} (h : (empS b.X || (empS b.Y || empS b.Z)) = false) : VQ b = some (insS b.X (-600) 600 && (insS b.Y (-600) 600 && insS b.Z 0 20000)) := by
 have h1 : empS b.X = false := by cases e : empS b.X with | false => rfl | true => rw [e] at h; cases h
 have h2 : empS b.Y = false := by cases e : empS b.Y with | false => rfl | true => rw [h1, e] at h; cases h
 have h3 : empS b.Z = false := by cases e : empS b.Z with | false => rfl | true => rw [h1, h2, e] at h; cases h
 unfold VQ XU
 simp only [qLr h1, qLr h2, qLr h3, Option.bind_some]
 cases insS b.X (-600) 600 <;> cases insS b.Y (-600) 600 <;> rfl
theorem qJ0 (l : List Defect) : TW l = some (JG l) := by
 unfold TW JG
 by_cases h : 64 < l.length
 ·rw [if_pos h, decide_eq_true (by omega)]; rfl
 rw [if_neg h, decide_eq_false (by omega)]
 have L : jT l FUEL 0 = some (findE badD l) := by
  refine PT l (jT l) badD (by omega) (fun n x hx => ?_) (fun n => ?_)
  ·rw [jT, decide_eq_true (by omega), qM (by omega) (by omega)]
   simp only [cond_true, Int.toNat_natCast, qQ (show x < 4611686018427387904 by omega), DR, qJR, Option.bind_some]
   rw [qM (by omega) (by omega)]
   unfold badD chkD
   by_cases h1 : (l.getD x default).Kind < 1
   ·rw [decide_eq_true h1, if_pos (.inl h1)]; rfl
   rw [decide_eq_false h1]
   by_cases h2 : (l.getD x default).Kind > 6
   ·rw [decide_eq_true h2, if_pos (.inr h2)]; rfl
   rw [decide_eq_false h2, if_neg (by omega)]
   simp only [cond_false, cond_true]
   cases he : (empS (l.getD x default).Box.X || (empS (l.getD x default).Box.Y || empS (l.getD x default).Box.Z)) with
   | true => rfl
   | false =>
    rw [qNX he]
    cases (insS (l.getD x default).Box.X (-600) 600 && (insS (l.getD x default).Box.Y (-600) 600 && insS (l.getD x default).Box.Z 0 20000)) <;> rfl
  ·rw [jT, decide_eq_false (by omega)]; rfl
 rw [L]
 simp only [cond_false, Option.bind_some]
 cases findE badD l <;> rfl
theorem qN8 (s : Span) : PP s = some (decide (s.A < -600 ∨ 600 < s.A ∨ s.B < -600 ∨ 600 < s.B)) := by
 unfold PP WN
 by_cases c1 : s.A < -600
 ·rw [decide_eq_true c1, decide_eq_true (show s.A < -600 ∨ 600 < s.A ∨ s.B < -600 ∨ 600 < s.B by omega)]; rfl
 rw [decide_eq_false c1]
 by_cases c2 : s.A > 600
 ·rw [decide_eq_true c2, decide_eq_true (show s.A < -600 ∨ 600 < s.A ∨ s.B < -600 ∨ 600 < s.B by omega)]; rfl
 rw [decide_eq_false c2]
 by_cases c3 : s.B < -600
 ·rw [decide_eq_true c3, decide_eq_true (show s.A < -600 ∨ 600 < s.A ∨ s.B < -600 ∨ 600 < s.B by omega)]; rfl
 rw [decide_eq_false c3]
 by_cases c4 : s.B > 600
 ·rw [decide_eq_true c4, decide_eq_true (show s.A < -600 ∨ 600 < s.A ∨ s.B < -600 ∨ 600 < s.B by omega)]; rfl
 rw [decide_eq_false c4, decide_eq_false (show ¬ (s.A < -600 ∨ 600 < s.A ∨ s.B < -600 ∨ 600 < s.B) by omega)]; rfl
theorem qQe (s : List Slice) (d : List Defect) (p : List qC) (r : Rect) (w : Saw) (t : Rates) : ND s d p r w t = some (chkE s d p r w t) := by
 unfold ND chkE GR DE
 rw [(VF s).2, qJ0, qAw, qO5]
 simp only [Option.bind_some, qN8]
 have bt : ∀ {n : Int}, n ≠ 0 → (n != 0) = true := fun h => by rw [bne_iff_ne]; exact h
 have bf : ∀ {n : Int}, ¬ n ≠ 0 → (n != 0) = false := fun h => by rw [bne_eq_false_iff_eq]; omega
 by_cases h1 : RC s ≠ 0
 ·rw [if_pos h1, bt h1]; rfl
 rw [if_neg h1, bf h1]
 by_cases h2 : JG d ≠ 0
 ·rw [if_pos h2, bt h2]; rfl
 rw [if_neg h2, bf h2]
 by_cases h3 : wZ p ≠ 0
 ·rw [if_pos h3, bt h3]; rfl
 rw [if_neg h3, bf h3]
 by_cases h4 : DJ w t ≠ 0
 ·rw [if_pos h4, bt h4]; rfl
 rw [if_neg h4, bf h4]
 simp only [cond_false]
 by_cases h5 : r.X.A ≥ r.X.B
 ·rw [if_pos (.inl h5), decide_eq_true h5]; rfl
 rw [decide_eq_false h5]
 by_cases h6 : r.Y.A ≥ r.Y.B
 ·rw [if_pos (.inr h6), decide_eq_true h6]; rfl
 rw [decide_eq_false h6, if_neg (by omega)]
 simp only [cond_false]
 by_cases h7 : r.X.A < -600 ∨ 600 < r.X.A ∨ r.X.B < -600 ∨ 600 < r.X.B
 ·rw [decide_eq_true h7, if_pos (by omega)]; rfl
 rw [decide_eq_false h7]
 by_cases h8 : r.Y.A < -600 ∨ 600 < r.Y.A ∨ r.Y.B < -600 ∨ 600 < r.Y.B
 ·rw [decide_eq_true h8, if_pos (by omega)]; rfl
 rw [decide_eq_false h8, if_neg (by omega)]; rfl
theorem qGs {r : Rect} (h : VR r) {a b : Int} (h1 : -2000 ≤ a ∧ a ≤ 2000) (h2 : -2000 ≤ b ∧ b ≤ 2000) : RG r a b = some (UR r a b) := by
 unfold VR at h
 unfold RG UR
 rw [qF (by omega) (by omega), qF (by omega) (by omega)]
/-! ### Volumes -/
theorem qO1 (s : qJ) : NA s = some (NT s) := by
 unfold NA NT
 rw [(qDM s).2]
 simp only [Option.bind_some]
 by_cases h : WK s = 0
 ·rw [h]; rfl
 ·have : (WK s != 0) = true := by simpa using h
  rw [this, if_neg h]; rfl
theorem qJZ {x : Span} (y : Span) (h : rngS x = true) : PQ x y = some (ml x y) := by
 have b := mx_b (y := y) h
 have a1 := ZB x.A y.A
 have a2 := wL x.B y.B
 unfold PQ UN JJ
 simp only [Option.bind_some]
 unfold ml lenS empS mxS
 simp only
 by_cases c : imin x.B y.B ≤ imax x.A y.A
 ·rw [decide_eq_true c]
  cases decide (y.A ≥ y.B) <;> simp [c]
 ·rw [decide_eq_false c, decide_eq_false (show ¬ y.A ≥ y.B by omega)]
  rw [SJ] at h
  simp only [cond_false]
  rw [qF (by omega) (by omega)]
theorem rhgt_eq {r : Int} (h1 : -60 ≤ r) (h2 : r < 60) : RW r = some (hgt r) := by
 unfold RW hgt
 rw [qF (n := r + 1) (by omega) (by omega), qF (by omega) (by omega), qF (by omega) (by omega)]
theorem qG8 (s : qJ) (R : Rect) : PB s R = some (zQ (NT s) R.X R.Y) := by
 have h := qMP s
 unfold PB
 rw [qO1 s]
 simp only [Option.bind_some]
 generalize NT s = t at *
 have b := h.len
 have b1 := h.low
 have b2 := h.high
 have pb : ∀ x, x < t.Rows.length → 0 ≤ ml (t.Rows.getD x default) R.X * ml (hgt (t.Low + x)) R.Y ∧ ml (t.Rows.getD x default) R.X * ml (hgt (t.Low + x)) R.Y ≤ 1440000 := fun x hx => by
  have m1 := ml_b R.X (h.rng _ (JM hx))
  have m2 := ml_b R.Y (qFj (r := t.Low + x) (by omega) (by omega))
  have := yX (a := ml (t.Rows.getD x default) R.X) (b := ml (hgt (t.Low + x)) R.Y) (m := 1200) (n := 1200) (by omega) (by omega) (by omega) (by omega) (by omega) (by omega)
  exact ⟨Int.mul_nonneg m1.1 m2.1, by omega⟩
 have k2 := qEX t.Rows (fun n (a : Int) x => WJ R t n a x) (fun x => (x : Int)) (fun x a s => s + ml a R.X * ml (hgt (t.Low + x)) R.Y) (fun s => s) (fun x s => 0 ≤ s ∧ s ≤ 1440000 * (x : Int)) (by omega)
  (fun n x a hx hi => by
   have p := pb x hx
   refine ⟨?_, by omega⟩
   rw [WJ, decide_eq_true (show (x : Int) < _ by omega), qM (by omega) (by omega), qQ (by omega), qF (n := t.Low + x) (by omega) (by omega), rhgt_eq (r := t.Low + x) (by omega) (by omega)]
   simp only [cond_true, Int.toNat_natCast, Option.bind_some]
   rw [qJZ R.X (h.rng _ (JM hx)), qJZ R.Y (qFj (r := t.Low + x) (by omega) (by omega))]
   simp only [Option.bind_some]
   rw [qF (n := _ * _) (by omega) (by omega), qF (by omega) (by omega)])
  (fun n a _ => by rw [WJ]; simp) (i := 0) rfl 0 (by omega)
 rw [qFd (fun x a => ml a R.X * ml (hgt (t.Low + x)) R.Y)] at k2
 have e := qMM h (fun r a => ml a R.X * ml (hgt r) R.Y) (fun r => by
  have : ml ⟨0, 0⟩ R.X = 0 := by have := ml_b (x := ⟨0, 0⟩) R.X rfl; have e : lenS ⟨0, 0⟩ = 0 := rfl; omega
  rw [this]; simp)
 simp only [Nat.zero_add, Int.zero_add] at k2
 rw [e] at k2
 rw [k2.1]; rfl
theorem qJ1 {l : List Slice} (h : VSol l) {i : Nat} (hi : i < l.length) (z : Span) : GS ⟨imax z.A 0, imin z.B 20000⟩ (qX l i) (l.getD i default).Len = some (ml (ext l i) z) := by
 have b := h.bd (i := i) (by omega)
 have b' := h.bd (i := i + 1) (by omega)
 have at' := (h.at hi).2.2
 rw [zT] at b'
 unfold GS
 rw [qF (n := qX l i + (l.getD i default).Len) (by omega) (by omega), qH7]
 rw [show (ext l i).A = qX l i from rfl, show (ext l i).B = qX l i + (l.getD i default).Len from zT l i]
 have a1 := ZB z.A 0
 have a2 := wL z.B 20000
 have a3 := ZB (imax z.A 0) (qX l i)
 have a4 := wL (imin z.B 20000) (qX l i + (l.getD i default).Len)
 have a5 := ZB (qX l i) z.A
 have a6 := wL (qX l i + (l.getD i default).Len) z.B
 simp only
 by_cases c : imax (imax z.A 0) (qX l i) ≥ imin (imin z.B 20000) (qX l i + (l.getD i default).Len)
 ·rw [decide_eq_true c, if_pos (by omega)]; rfl
 ·rw [decide_eq_false c, if_neg (by omega), qF (by omega) (by omega)]
  simp only [cond_false]
  congr 1
  omega
theorem qI6 {x y : Span} (h : y.B ≤ y.A) : ml x y = 0 := by
 rw [qH7]
 have a5 := ZB x.A y.A
 have a6 := wL x.B y.B
 rw [if_pos (by omega)]
theorem qGy (l : List Slice) {x y z : Span} (h : x.B ≤ x.A ∨ y.B ≤ y.A ∨ z.B ≤ z.A) : volS l x y z = 0 := by
 unfold volS
 refine LR (fun i _ => ?_)
 rcases h with h | h | h
 ·have : zQ (l.getD i default).Sec x y = 0 := by unfold zQ; exact LR (fun j _ => by simp only; rw [qI6 h]; simp)
  rw [this]; simp
 ·have : zQ (l.getD i default).Sec x y = 0 := by unfold zQ; exact LR (fun j _ => by simp only; rw [qI6 h]; simp)
  rw [this]; simp
 ·rw [qI6 h]; simp
theorem qKp {l : List Slice} (h : VSol l) (b : Box) : UX l b = some (volS l b.X b.Y b.Z) := by
 have hl := h.len
 unfold UX
 rw [(VF l).2, (XE l).2 h]
 simp only [Option.bind_some, bne_self_eq_false, cond_false]
 have K : ∀ q, (q = true → volS l b.X b.Y b.Z = 0) → QW l b q = some (volS l b.X b.Y b.Z) := fun q hq => by
  unfold QW
  cases q with
  | true => rw [hq rfl]; rfl
  | false =>
   have k := zE l.length (fun n (s : Int × Int) i => yF l b n s.1 s.2 i) (fun i s => (s.1 + ml (ext l i) b.Z * zQ (l.getD i default).Sec b.X b.Y, qX l (i + 1))) (fun s => s.1)
    (fun i s => s.1 = sumN i (fun i => ml (ext l i) b.Z * zQ (l.getD i default).Sec b.X b.Y) ∧ s.2 = qX l i) 0 (by omega) (by omega)
    (fun n i s hi hs => by
     obtain ⟨s1, s2⟩ := s
     obtain ⟨e1, e2⟩ := hs
     simp only at e1 e2
     have p := qDT h b.X b.Y b.Z (k := i) (by omega)
     have t := qGl h b.X b.Y b.Z hi
     have bd := h.bd (i := i) (by omega)
     have at' := (h.at hi).2.2
     rw [zT] at at'
     refine ⟨?_, by simp only; rw [e1]; rfl, rfl⟩
     simp only
     rw [yF, decide_eq_true (by omega), qM (by omega) (by omega)]
     simp only [cond_true, Int.toNat_natCast, qQ (show i < 4611686018427387904 by omega), e2, qJ1 h hi b.Z, Option.bind_some, UU, qG8]
     rw [qDx (h.at hi).1, qF (n := qX l i + (l.getD i default).Len) (by omega) (by omega), ← zT]
     by_cases c : ml (ext l i) b.Z > 0
     ·rw [decide_eq_true c]
      simp only [cond_true]
      rw [qF (n := ml (ext l i) b.Z * zQ (l.getD i default).Sec b.X b.Y) (by omega) (by omega), qF (by omega) (by omega)]
     ·have z : ml (ext l i) b.Z = 0 := by have := qFg (ext l i) b.Z; omega
      rw [decide_eq_false c, z]
      simp)
    (fun n s _ => by
     try simp only
     rw [yF, decide_eq_false (by omega)]; rfl) (0, 0) ⟨rfl, rfl⟩
   rw [show ((0 : Nat) : Int) = 0 from rfl, Nat.sub_zero] at k
   simp only at k
   rw [k.1, k.2.1]
   rfl
 by_cases c1 : b.X.A ≥ b.X.B
 ·rw [decide_eq_true c1]; exact K true (fun _ => qGy l (.inl c1))
 rw [decide_eq_false c1]
 by_cases c2 : b.Y.A ≥ b.Y.B
 ·rw [decide_eq_true c2]; exact K true (fun _ => qGy l (.inr (.inl c2)))
 rw [decide_eq_false c2]
 exact K _ (fun q => qGy l (.inr (.inr (of_decide_eq_true q))))
theorem qKb {l : List Slice} (h : VSol l) (r : Rect) (z : Span) : JK l r z = some (volS l r.X r.Y z) := by
 unfold JK
 rw [qKp h]; rfl
theorem qHa {l : List Slice} (h : VSol l) (r : Rect) : KO l r = some (volS l r.X r.Y ⟨0, qY l⟩) := by
 unfold KO
 rw [(XW l).2, TN h]
 simp only [Option.bind_some, qKb h]
theorem qKc (p : qC) (n : Int) (h : p.Lengths.length ≤ 1000000) : TR p n = some (price p n) := by
 unfold TR price
 have L : ZQ p n FUEL ((0 : Nat) : Int) = some (findN (priceAt p n) 0 (p.Lengths.length - 0)) := by
  refine wO p.Lengths.length (ZQ p n) _ 0 (by omega) (by omega) (fun m i hi hN => ?_) (fun m => ?_)
  ·rw [ZQ, decide_eq_true (by omega), qM (by omega) (by omega)]
   simp only [cond_true, Int.toNat_natCast, qQ (show i < 4611686018427387904 by omega), priceAt]
   by_cases c : p.Lengths.getD i default ≠ n
   ·rw [if_pos c, show (p.Lengths.getD i default == n) = false by rw [beq_eq_false_iff_ne]; exact c]; rfl
   rw [if_neg c, show (p.Lengths.getD i default == n) = true by rw [beq_iff_eq]; omega]
   by_cases c2 : p.Prices.length ≤ i
   ·rw [if_pos c2, decide_eq_true (show (i : Int) ≥ ((p.Prices.length : Nat) : Int) by omega)]; rfl
   ·rw [if_neg c2, decide_eq_false (show ¬ (i : Int) ≥ ((p.Prices.length : Nat) : Int) by omega), qM (by omega) (by omega)]; rfl
  ·rw [ZQ, decide_eq_false (by omega)]; rfl
 rw [show ((0 : Nat) : Int) = 0 from rfl, Nat.sub_zero] at L
 rw [L]
 simp only [Option.bind_some]
 cases findN (priceAt p n) 0 p.Lengths.length <;> rfl
theorem qP4 (x y : Span) : RE x y = some (nrm (mxS x y)) := by
 unfold RE nrm mxS empS
 simp only
 show (bif decide (imin x.B y.B ≤ imax x.A y.A) then _ else _) = _
 cases decide (imin x.B y.B ≤ imax x.A y.A) <;> rfl
theorem qF2 (d : Defect) (b : Box) : YV d b = some (tch d.Box b) := by
 unfold YV qAa tch
 simp only [qP4, Option.bind_some, qJR, qIR]
/-! ### Defects near a rectangle -/
def wdL (b : Box) (fine : Int) : List Defect → Int → (Int × Bool) ⊕ Int
 | [], v => .inr v
 | d :: ds, v => bif tch d.Box b then (bif d.Kind == 3 then .inl (0, false) else wdL b fine ds (v - fine)) else wdL b fine ds v
theorem qFo (ds : List Defect) (b : Box) (fine : Int) : ∀ (k x : Nat) (v : Int), x + k = ds.length → runN (dstep ds b fine) x k v = wdL b fine (ds.drop x) v
 | 0, x, v, h => by rw [List.drop_eq_nil_of_le (by omega)]; rfl
 | k + 1, x, v, h => by
  rw [GN ds x (by omega)]
  unfold runN wdL dstep
  cases tch (ds.getD x default).Box b with
  | false => exact qFo ds b fine k (x + 1) v (by omega)
  | true => cases (ds.getD x default).Kind == 3 with
   | true => rfl
   | false => exact qFo ds b fine k (x + 1) (v - fine) (by omega)
theorem qNp (ds : List Defect) (b : Box) : near ds b = ds.filter (fun d => tch d.Box b) := by
 unfold near
 have key : ∀ k, k ≤ ds.length → foldN (fun i t => bif tch (ds.getD i default).Box b then t ++ [ds.getD i default] else t) 0 k ([] : List Defect) = (ds.take k).filter (fun d => tch d.Box b) := by
  intro k
  induction k with
  | zero => intro _; rfl
  | succ k ih =>
   intro hk
   have tk : ds.take (k + 1) = ds.take k ++ [ds.getD k default] := by rw [List.take_add_one, List.getD_eq_getElem?_getD, List.getElem?_eq_getElem (by omega)]; rfl
   rw [yM, ih (by omega), Nat.zero_add, tk, List.filter_append]
   generalize ds.getD k default = d
   cases h : tch d.Box b <;> simp [List.filter, h]
 rw [key _ (Nat.le_refl _), List.take_length]
theorem CZ {b W : Box} (fine : Int) (h : ∀ d : Box, tch d b = true → tch d W = true) : ∀ (ds : List Defect) (v : Int), wdL b fine (ds.filter (fun d => tch d.Box W)) v = wdL b fine ds v
 | [], v => rfl
 | d :: ds, v => by
  cases hW : tch d.Box W with
  | true =>
   rw [List.filter_cons, hW]
   simp only [if_true]
   unfold wdL
   rw [CZ fine h ds, CZ fine h ds]
  | false =>
   have hb : tch d.Box b = false := by cases e : tch d.Box b with | false => rfl | true => rw [h _ e] at hW; cases hW
   rw [List.filter_cons, hW]
   simp only [Bool.false_eq_true, if_false]
   rw [CZ fine h ds]
   conv => rhs; unfold wdL
   rw [hb]; rfl
theorem qFZ {ds : List Defect} {b W : Box} (fine v : Int) (h : ∀ d : Box, tch d b = true → tch d W = true) : XN (near ds W) b fine v = XN ds b fine v := by
 unfold XN
 rw [qFo _ _ _ _ 0 _ (by omega), qFo _ _ _ _ 0 _ (by omega), List.drop_zero, List.drop_zero, qNp, CZ fine h]
theorem qND {x y s : Span} {n : Int} (h1 : 0 ≤ s.A) (h2 : s.B ≤ n) (d : Box) : tch d ⟨x, y, s⟩ = true → tch d ⟨x, y, ⟨0, n⟩⟩ = true := by
 unfold tch
 simp only
 have e : empS (mxS d.Z s) = false → empS (mxS d.Z ⟨0, n⟩) = false := fun h => by
  have h' : ¬ imin d.Z.B s.B ≤ imax d.Z.A s.A := of_decide_eq_false h
  have a1 := wL d.Z.B s.B
  have a2 := ZB d.Z.A s.A
  have a3 := wL d.Z.B n
  have a4 := ZB d.Z.A 0
  refine decide_eq_false (show ¬ imin d.Z.B n ≤ imax d.Z.A 0 from ?_)
  omega
 cases empS (mxS d.X x) <;> cases empS (mxS d.Y y) <;> cases hz : empS (mxS d.Z s) <;> simp
 exact e hz
def bad3 (ds : List Defect) (b : Box) (i : Nat) : Option Bool := bif (ds.getD i default).Kind == 3 && tch (ds.getD i default).Box b then some false else none
def qBQ (ds : List Defect) (b : Box) (fine : Int) (i : Nat) (v : Int) : Int := bif tch (ds.getD i default).Box b then v - fine else v
theorem qBW (ds : List Defect) (b : Box) (fine : Int) : ∀ (k x : Nat) (v : Int), runN (dstep ds b fine) x k v = match findN (bad3 ds b) x k with | .inl _ => .inl (0, false) | .inr _ => .inr (foldN (qBQ ds b fine) x k v)
 | 0, x, v => rfl
 | k + 1, x, v => by
  unfold runN findN foldN
  cases h1 : tch (ds.getD x default).Box b with
  | false =>
   have e1 : dstep ds b fine x v = .inr v := by unfold dstep; rw [h1]; rfl
   have e2 : bad3 ds b x = none := by unfold bad3; rw [h1, Bool.and_false]; rfl
   have e3 : qBQ ds b fine x v = v := by unfold qBQ; rw [h1]; rfl
   rw [e1, e2, e3]
   exact qBW ds b fine k (x + 1) v
  | true => cases h2 : (ds.getD x default).Kind == 3 with
   | true =>
    have e1 : dstep ds b fine x v = .inl (0, false) := by unfold dstep; rw [h1, h2]; rfl
    have e2 : bad3 ds b x = some false := by unfold bad3; rw [h1, h2]; rfl
    rw [e1, e2]
   | false =>
    have e1 : dstep ds b fine x v = .inr (v - fine) := by unfold dstep; rw [h1, h2]; rfl
    have e2 : bad3 ds b x = none := by unfold bad3; rw [h1, h2]; rfl
    have e3 : qBQ ds b fine x v = v - fine := by unfold qBQ; rw [h1]; rfl
    rw [e1, e2, e3]
    exact qBW ds b fine k (x + 1) (v - fine)
theorem qOh (ds : List Defect) (b : Box) : ∀ (k x : Nat) (e : Bool), findN (bad3 ds b) x k = .inl e → e = false := by
 intro k x e h
 obtain ⟨i, _, _, c, _⟩ := QO h
 unfold bad3 at c
 cases hc : (ds.getD i default).Kind == 3 && tch (ds.getD i default).Box b with
 | true => rw [hc] at c; cases c; rfl
 | false => rw [hc] at c; cases c
/-! ### Wane -/
theorem hit_ml {l : List Slice} (h : VSol l) {i : Nat} (hi : i < l.length) {s : Span} (hs : s.A < s.B) : decide (ml (ext l i) s > 0) = hitZ (ext l i) s := by
 have at' := (h.at hi).2.2
 have e2 : (ext l i).B = qX l i + (l.getD i default).Len := zT l i
 have e1 : (ext l i).A = qX l i := rfl
 unfold hitZ
 rw [qH7, e1, e2]
 have a1 := wL (qX l i + (l.getD i default).Len) s.B
 have a2 := ZB (qX l i) s.A
 rw [Bool.eq_iff_iff]
 simp only [decide_eq_true_eq, Bool.and_eq_true]
 split <;> omega
def cutL (l : List Slice) (s : Span) (k : Nat) : List Slice := (List.range k).filterMap (fun i => if ml (ext l i) s > 0 then some ⟨ml (ext l i) s, (l.getD i default).Sec⟩ else none)
theorem qEG (l : List Slice) (s : Span) (k : Nat) : cutL l s (k + 1) = if ml (ext l k) s > 0 then cutL l s k ++ [⟨ml (ext l k) s, (l.getD k default).Sec⟩] else cutL l s k := by
 unfold cutL
 rw [List.range_succ, List.filterMap_append]
 by_cases c : ml (ext l k) s > 0
 ·rw [if_pos c]; simp [c]
 ·rw [if_neg c]; simp [c]
theorem qGE (l : List Slice) (s : Span) : ∀ k, (cutL l s k).length ≤ k
 | 0 => by simp [cutL]
 | k + 1 => by
  have := qGE l s k
  rw [qEG]
  split <;> simp <;> omega
theorem Cut_eq {l : List Slice} (h : VSol l) (s : Span) : AF l s = some (cutL l s l.length) := by
 have hl := h.len
 unfold AF
 rw [(VF l).2, (XE l).2 h]
 simp only [Option.bind_some, bne_self_eq_false, cond_false]
 have k := zE l.length (fun n (t : List Slice × Int) i => WG l s n t.1 t.2 i) (fun i t => (cutL l s (i + 1), qX l (i + 1))) (fun t => t.1)
  (fun i t => t.1 = cutL l s i ∧ t.2 = qX l i) 0 (by omega) (by omega)
  (fun n i t hi ht => by
   obtain ⟨t1, t2⟩ := t
   obtain ⟨e1, e2⟩ := ht
   simp only at e1 e2
   have bd := h.bd (i := i) (by omega)
   have at' := (h.at hi).2.2
   rw [zT] at at'
   refine ⟨?_, rfl, rfl⟩
   simp only
   rw [WG, decide_eq_true (by omega), qM (by omega) (by omega)]
   simp only [cond_true, Int.toNat_natCast, qQ (show i < 4611686018427387904 by omega), e2, qJ1 h hi s, Option.bind_some, HW]
   rw [qF (n := qX l i + (l.getD i default).Len) (by omega) (by omega), ← zT, qEG]
   have cl := qGE l s i
   by_cases c : ml (ext l i) s > 0
   ·rw [decide_eq_true c, if_pos c, zG (by rw [e1]; omega) (by omega), e1]; rfl
   ·rw [decide_eq_false c, if_neg c, e1]; rfl)
  (fun n t _ => by rw [WG, decide_eq_false (by omega)]; rfl) ([], 0) ⟨rfl, rfl⟩
 rw [show ((0 : Nat) : Int) = 0 from rfl, Nat.sub_zero] at k
 simp only at k
 rw [k.1, k.2.1]; rfl
theorem qQh {l : List Slice} {s : Span} {k : Nat} : ∀ x ∈ cutL l s k, ∃ i, i < k ∧ x.Sec = (l.getD i default).Sec := by
 intro x hx
 unfold cutL at hx
 rw [List.mem_filterMap] at hx
 obtain ⟨i, hi, e⟩ := hx
 refine ⟨i, by simpa using hi, ?_⟩
 split at e
 ·cases e; rfl
 ·cases e
theorem wane_eq {l : List Slice} (h : VSol l) {r : Rect} (hr : VR r) {s : Span} (hs : s.A < s.B) : HA l ⟨r.X, r.Y, s⟩ = some (worst (zones l r) s) := by
 have hl := h.len
 have ha := qNN hr
 have eA : w64 (w64 (r.X.B - r.X.A) * w64 (r.Y.B - r.Y.A)) = QD r := by
  have hr' := hr
  unfold VR at hr'
  rw [qF (n := r.X.B - r.X.A) (by omega) (by omega), qF (n := r.Y.B - r.Y.A) (by omega) (by omega)]
  unfold QD at ha ⊢
  exact qF (by omega) (by omega)
 unfold HA
 rw [Cut_eq h]
 simp only [Option.bind_some]
 have cl := qGE l s l.length
 have k := qEX (cutL l s l.length) (fun n (m : Int) i => YY ⟨r.X, r.Y, s⟩ (cutL l s l.length) n m i) (fun x => (x : Int)) (fun _ a m => imax m (DU (QD r) (zQ a.Sec r.X r.Y))) (fun m => m) (fun _ _ => True) (by omega)
  (fun n x m hx _ => by
   refine ⟨?_, trivial⟩
   obtain ⟨i, hi, es⟩ := qQh _ (JM hx)
   have vs := (h.at hi).1
   rw [YY, decide_eq_true (by omega), qM (by omega) (by omega)]
   simp only [cond_true, Int.toNat_natCast, qQ (show x < 4611686018427387904 by omega), qG8, Option.bind_some, eA, es]
   have wb := qGW vs r.X r.Y
   rw [qDx vs, nz_t (by omega), qF (n := QD r - zQ (l.getD i default).Sec r.X r.Y) (by omega) (by omega), qF (n := 1000 * _) (by omega) (by omega), qF (n := 1000 * _ + _) (by omega) (by omega), qF (n := 1000 * _ + _ - 1) (by omega) (by omega)]
   simp only [cond_true]
   have tb : -2000000000 ≤ DU (QD r) (zQ (l.getD i default).Sec r.X r.Y) ∧ DU (QD r) (zQ (l.getD i default).Sec r.X r.Y) ≤ 2000000000 := by
    unfold DU
    generalize hu : 1000 * (QD r - zQ (l.getD i default).Sec r.X r.Y) + QD r - 1 = u
    have hub : -1440000000 ≤ u ∧ u ≤ 1441440000 := by omega
    have ab := Int.natAbs_tdiv_le_natAbs u (QD r)
    omega
   unfold DU at tb ⊢
   rw [qF (by omega) (by omega)])
  (fun n m _ => by rw [YY, decide_eq_false (by omega)]; rfl) (i := 0) rfl 0 trivial
 rw [k.1, qF6]
 simp only [Option.bind_some]
 unfold worst
 rw [qJI]
 have key : ∀ j, j ≤ l.length → (cutL l s j).foldl (fun m a => imax m (DU (QD r) (zQ a.Sec r.X r.Y))) 0 = foldN (fun i m => bif hitZ ((zones l r).getD i default).z s then imax m ((zones l r).getD i default).lack else m) 0 j 0 := by
  intro j
  induction j with
  | zero => intro _; rfl
  | succ j ih =>
   intro hj
   have hz : (zones l r).getD j default = ⟨ext l j, DU (QD r) (zQ (l.getD j default).Sec r.X r.Y)⟩ := by unfold zones; exact ZY _ (by omega)
   rw [yM, ← ih (by omega), Nat.zero_add, hz, qEG]
   simp only
   rw [← hit_ml h (by omega) hs]
   by_cases c : ml (ext l j) s > 0
   ·rw [if_pos c, decide_eq_true c, List.foldl_append]; rfl
   ·rw [if_neg c, decide_eq_false c]; rfl
 rw [key _ (Nat.le_refl _)]
/-! ### The reference's pieces -/
theorem qJS {x : Span} (h : -600 ≤ x.A ∧ x.A < x.B ∧ x.B ≤ 600) : KQ x = some true := by
 unfold KQ XG
 rw [decide_eq_true (show x.A ≥ -600 by omega), decide_eq_true h.2.1, decide_eq_true h.2.2]; rfl
theorem qPh {l : List Slice} (h : VSol l) {r : Rect} (hr : VR r) (s : Span) : UZ l ⟨r.X, r.Y, s⟩ = some (decide (0 ≤ s.A ∧ s.A < s.B ∧ s.B ≤ qY l)) := by
 unfold UZ QG
 rw [qJS hr.1, qJS hr.2, (XW l).2, TN h]
 simp only [Option.bind_some, cond_true]
 by_cases c1 : s.A ≥ 0
 ·rw [decide_eq_true c1]
  by_cases c2 : s.A < s.B
  ·rw [decide_eq_true c2]
   simp only [cond_true]
   congr 1
   rw [decide_eq_decide]; omega
  ·rw [decide_eq_false c2, decide_eq_false (show ¬ (0 ≤ s.A ∧ s.A < s.B ∧ s.B ≤ qY l) by omega)]; rfl
 ·rw [decide_eq_false c1, decide_eq_false (show ¬ (0 ≤ s.A ∧ s.A < s.B ∧ s.B ≤ qY l) by omega)]; rfl
theorem qPj {l : List Slice} (h : VSol l) {ds : List Defect} (hd : ds.length ≤ 64) {p : qC} (hv : VP p) {r : Rect} (hr : VR r) (fine : Int) (s : Span) : GA l ds p ⟨r.X, r.Y, s⟩ = some (dimOk r p && (worthV (viewOf l ds p r) s fine).2) := by
 have hr' := hr
 unfold VR at hr'
 have hll := hv.ll
 have sb := SO h
 unfold GA
 rw [qPh h hr]
 simp only [Option.bind_some]
 unfold worthV
 rw [show (viewOf l ds p r).length = qY l from rfl]
 by_cases c' : ¬ (0 ≤ s.A ∧ s.A < s.B ∧ s.B ≤ qY l)
 ·rw [decide_eq_false c', if_neg c', Bool.and_false]; rfl
 have c : 0 ≤ s.A ∧ s.A < s.B ∧ s.B ≤ qY l := Decidable.not_not.1 c'
 rw [decide_eq_true c, if_pos c, (SP p).2, qF (n := s.B - s.A) (by omega) (by omega), qKc p _ (by omega), qF (n := r.X.B - r.X.A) (by omega) (by omega), qF (n := r.Y.B - r.Y.A) (by omega) (by omega)]
 simp only [Option.bind_some, Bool.not_true, cond_false]
 rw [show (viewOf l ds p r).product = p from rfl, show (viewOf l ds p r).zones = zones l r from rfl, show (viewOf l ds p r).rect = r from rfl, show (viewOf l ds p r).defects = near ds ⟨r.X, r.Y, ⟨0, qY l⟩⟩ from rfl, qFZ fine _ (qND c.1 c.2.2)]
 have K : wI l ds p ⟨r.X, r.Y, s⟩ false = some ((if worst (zones l r) s > p.Wane then ((0 : Int), false) else XN ds ⟨r.X, r.Y, s⟩ fine (price p (s.B - s.A)).1).2) := by
  unfold wI
  have L : jI ds ⟨r.X, r.Y, s⟩ FUEL ((0 : Nat) : Int) = some (findN (bad3 ds ⟨r.X, r.Y, s⟩) 0 (ds.length - 0)) := by
   refine wO ds.length (jI ds ⟨r.X, r.Y, s⟩) _ 0 (by omega) (by omega) (fun m i hi hN => ?_) (fun m => ?_)
   ·rw [jI, decide_eq_true (by omega), qM (by omega) (by omega)]
    simp only [cond_true, Int.toNat_natCast, qQ (show i < 4611686018427387904 by omega), qF2, Option.bind_some, UE, bad3]
    cases (ds.getD i default).Kind == 3 <;> cases tch (ds.getD i default).Box ⟨r.X, r.Y, s⟩ <;> rfl
   ·rw [jI, decide_eq_false (by omega)]; rfl
  rw [show ((0 : Nat) : Int) = 0 from rfl, Nat.sub_zero] at L
  rw [L, wane_eq h hr c.2.1]
  unfold XN
  rw [qBW]
  simp only [cond_false, Option.bind_some]
  cases hf : findN (bad3 ds ⟨r.X, r.Y, s⟩) 0 ds.length with
  | inl e =>
   rw [qOh _ _ _ _ _ hf]
   simp only [Sum.elim_inl]
   split <;> rfl
  | inr u =>
   simp only [Sum.elim_inr]
   by_cases c4 : worst (zones l r) s > p.Wane
   ·rw [if_pos c4, decide_eq_false (by omega)]
   ·rw [if_neg c4, decide_eq_true (by omega)]
 have KT : wI l ds p ⟨r.X, r.Y, s⟩ true = some false := rfl
 have KB : ∀ q, wI l ds p ⟨r.X, r.Y, s⟩ q = some (!q && ((if worst (zones l r) s > p.Wane then ((0 : Int), false) else XN ds ⟨r.X, r.Y, s⟩ fine (price p (s.B - s.A)).1).2)) := fun q => by
  cases q with
  | true => exact KT
  | false => rw [K]; rfl
 simp only [KB]
 cases hq : (price p (s.B - s.A)).2 with
 | false => simp only [Bool.not_false, cond_true, Bool.not_true, Bool.false_and, cond_false, Bool.and_false]
 | true =>
  simp only [Bool.not_true, cond_false, cond_true, dimOk]
  generalize (if worst (zones l r) s > p.Wane then ((0 : Int), false) else XN ds ⟨r.X, r.Y, s⟩ fine (price p (s.B - s.A)).1).2 = W
  cases r.X.B - r.X.A == (zA p).1 <;> cases r.Y.B - r.Y.A == (zA p).2 <;> cases r.X.B - r.X.A == (zA p).2 <;> cases r.Y.B - r.Y.A == (zA p).1 <;> rfl
theorem qPo {l : List Slice} (h : VSol l) {ds : List Defect} (hd : ds.length ≤ 64) {p : qC} (hv : VP p) {r : Rect} {fine : Int} (hf : 0 ≤ fine ∧ fine ≤ 1000000) {s : Span} (ha : (worthV (viewOf l ds p r) s fine).2 = true) : BU ds p ⟨r.X, r.Y, s⟩ fine = some (worthV (viewOf l ds p r) s fine).1 := by
 have hll := hv.ll
 have sb := SO h
 unfold BU
 unfold worthV at ha ⊢
 rw [show (viewOf l ds p r).length = qY l from rfl] at ha ⊢
 by_cases c' : ¬ (0 ≤ s.A ∧ s.A < s.B ∧ s.B ≤ qY l)
 ·rw [if_neg c'] at ha; cases ha
 have c : 0 ≤ s.A ∧ s.A < s.B ∧ s.B ≤ qY l := Decidable.not_not.1 c'
 rw [if_pos c] at ha ⊢
 rw [show (viewOf l ds p r).product = p from rfl, show (viewOf l ds p r).zones = zones l r from rfl, show (viewOf l ds p r).rect = r from rfl, show (viewOf l ds p r).defects = near ds ⟨r.X, r.Y, ⟨0, qY l⟩⟩ from rfl, qFZ fine _ (qND c.1 c.2.2)] at ha ⊢
 rw [qF (n := s.B - s.A) (by omega) (by omega), qKc p _ (by omega)]
 simp only [Option.bind_some]
 have pb := qIs hv (s.B - s.A)
 cases hq : (price p (s.B - s.A)).2 with
 | false => rw [hq] at ha; cases ha
 | true =>
  rw [hq] at ha
  simp only [cond_true] at ha ⊢
  by_cases c4 : worst (zones l r) s > p.Wane
  ·rw [if_pos c4] at ha; cases ha
  rw [if_neg c4] at ha ⊢
  have k := zE ds.length (fun n (v : Int) i => yU ds ⟨r.X, r.Y, s⟩ fine n v i) (qBQ ds ⟨r.X, r.Y, s⟩ fine) (fun v => v) (fun i v => -(1000000 * (i : Int)) ≤ v ∧ v ≤ 1000000) 0 (by omega) (by omega)
   (fun n i v hi hv' => by
    refine ⟨?_, ?_⟩
    ·rw [yU, decide_eq_true (by omega), qM (by omega) (by omega)]
     simp only [cond_true, Int.toNat_natCast, qQ (show i < 4611686018427387904 by omega), qF2, Option.bind_some, DQ, qBQ]
     rw [qF (n := v - fine) (by omega) (by omega)]
     cases tch (ds.getD i default).Box ⟨r.X, r.Y, s⟩ <;> rfl
    ·unfold qBQ
     cases tch (ds.getD i default).Box ⟨r.X, r.Y, s⟩ with
     | true => simp only [cond_true]; omega
     | false => simp only [cond_false]; omega)
   (fun n v _ => by rw [yU, decide_eq_false (by omega)]; rfl) (price p (s.B - s.A)).1 (by omega)
  rw [show ((0 : Nat) : Int) = 0 from rfl, Nat.sub_zero] at k
  rw [k.1]
  unfold XN at ha ⊢
  rw [qBW] at ha ⊢
  cases hf2 : findN (bad3 ds ⟨r.X, r.Y, s⟩) 0 ds.length with
  | inl e => rw [hf2] at ha; cases ha
  | inr u =>
   simp only [Option.bind_some]
   congr 1
   unfold imax
   split <;> split <;> omega
theorem qOo {l : List Slice} (h : VSol l) {ds : List Defect} (hd : ds.length ≤ 64) {p : qC} (hv : VP p) {r : Rect} (hr : VR r) {fine z : Int} (hf : 0 ≤ fine ∧ fine ≤ 1000000) (h0 : 0 ≤ z) (h1 : z ≤ 20000) (st : Int × Bool × Span) :
  jB l ds p r fine z FUEL st.1 st.2.1 0 st.2.2 = some (bif dimOk r p then qBo (viewOf l ds p r) fine z st else st) := by
 have hll := hv.ll
 have k := zE p.Lengths.length (fun n (s : Int × Bool × Span) i => jB l ds p r fine z n s.1 s.2.1 i s.2.2) (fun i st => bif dimOk r p then BY st (worthV (viewOf l ds p r) (spanAt p z i) fine) (spanAt p z i) else st) (fun s => s) (fun _ _ => True) 0 (by omega) (by omega)
  (fun n i s hi _ => ⟨by
   obtain ⟨s1, s2, s3⟩ := s
   have lb := hv.lb i hi
   try simp only
   rw [jB, decide_eq_true (by omega), qM (by omega) (by omega)]
   simp only [cond_true, Int.toNat_natCast, qQ (show i < 4611686018427387904 by omega)]
   rw [qF (n := z + p.Lengths.getD i default) (by omega) (by omega)]
   rw [show (Box.mk r.X r.Y ⟨z, z + p.Lengths.getD i default⟩) = ⟨r.X, r.Y, spanAt p z i⟩ from rfl, qPj h hd hv hr fine]
   simp only [Option.bind_some]
   cases hdm : dimOk r p with
   | false => simp only [Bool.false_and, Bool.not_false, cond_true, cond_false, WX, qQ (show i < 4611686018427387904 by omega)]
   | true =>
    simp only [Bool.true_and, cond_true]
    cases ha : (worthV (viewOf l ds p r) (spanAt p z i) fine).2 with
    | false =>
     have : BY (s1, s2, s3) (worthV (viewOf l ds p r) (spanAt p z i) fine) (spanAt p z i) = (s1, s2, s3) := by unfold BY; rw [ha]; rfl
     rw [this]
     simp only [Bool.not_false, cond_true, WX, qQ (show i < 4611686018427387904 by omega)]
    | true =>
     rw [qPo h hd hv hf ha]
     simp only [Option.bind_some, Bool.not_true, cond_false, NR, WX, BY, Int.toNat_natCast, qQ (show i < 4611686018427387904 by omega)]
     rw [ha, qF (n := z + p.Lengths.getD i default) (by omega) (by omega)]
     cases s2 <;> cases decide ((worthV (viewOf l ds p r) (spanAt p z i) fine).1 > s1) <;> rfl, trivial⟩)
  (fun n s _ => by rw [jB, decide_eq_false (by omega)]; rfl) st trivial
 rw [show ((0 : Nat) : Int) = 0 from rfl, Nat.sub_zero] at k
 rw [k.1]
 cases dimOk r p with
 | true => rfl
 | false =>
  have : ∀ m, foldN (fun i (st : Int × Bool × Span) => bif false then BY st (worthV (viewOf l ds p r) (spanAt p z i) fine) (spanAt p z i) else st) 0 m st = st := fun m => by
   induction m with
   | zero => rfl
   | succ m ih => rw [yM, ih]; rfl
  rw [this]; rfl
theorem qOQ {l : List Slice} {ds : List Defect} {p : qC} {r : Rect} {step fine : Int} (hs : VSol l) (hd : JG ds = 0) (hp : wZ [p] = 0) (hv : VP p) (hr : VR r) (hst : 1 ≤ step ∧ step ≤ 20000) (hf : 0 ≤ fine ∧ fine ≤ 1000000) :
  MY l ds p r step fine = some ((QP l ds p r step fine).2.2, (QP l ds p r step fine).1, (QP l ds p r step fine).2.1) := by
 have hdl := ((KA ds).1 hd).1
 have sb := SO hs
 unfold MY TD EN KN
 rw [qGa, qGa, decide_eq_true hst, decide_eq_true hf, (VF l).2, (XE l).2 hs, qJ0, hd, qAw, hp]
 simp only [Option.bind_some, Bool.not_true, cond_false, beq_self_eq_true, cond_true]
 have hN : GK (qY l) step ≤ 1000000000 := by
  unfold GK
  have := Int.ediv_le_self step (show 0 ≤ qY l + step - 1 by omega)
  omega
 have k := qDY (GK (qY l) step) (fun n (s : Int × Bool × Span) (z : Int) => YW l ds p r step fine n s.1 s.2.1 z s.2.2) (fun k => (k : Int) * step) (fun k st => bif dimOk r p then qBo (viewOf l ds p r) fine ((k : Int) * step) st else st) (fun s => s) (fun _ _ => True) hN
  (fun n i s hi _ => ⟨by
   have h1 := (qCo (by omega) hst.1).1 hi
   have h0 : 0 ≤ (i : Int) * step := Int.mul_nonneg (by omega) (by omega)
   have e : (i : Int) * step + step = ((i + 1 : Nat) : Int) * step := by rw [Int.natCast_add, Int.add_mul]; simp
   try simp only
   rw [YW, (XW l).2, TN hs]
   simp only [Option.bind_some]
   rw [decide_eq_true h1, qOo hs hdl hv hr hf h0 (by omega) s, qF (by omega) (by omega), e]
   rfl, trivial⟩)
  (fun n s _ => by
   have h1 : ¬ ((GK (qY l) step : Nat) : Int) * step < qY l := fun h => by have := (qCo (by omega) hst.1).2 h; omega
   try simp only
   rw [YW, (XW l).2, TN hs]
   simp only [Option.bind_some]
   rw [decide_eq_false h1]; rfl) (0, false, ⟨0, 0⟩) trivial
 simp only [Int.natCast_zero, Int.zero_mul] at k
 rw [k.1]
 unfold QP bestV
 cases dimOk r p with
 | true => rfl
 | false =>
  have : ∀ m, foldN (fun k (st : Int × Bool × Span) => bif false then qBo (viewOf l ds p r) fine ((k : Int) * step) st else st) 0 m (0, false, ⟨0, 0⟩) = (0, false, ⟨0, 0⟩) := fun m => by
   induction m with
   | zero => rfl
   | succ m ih => rw [yM, ih]; rfl
  rw [this]; rfl
end Saw
end Go.SL
