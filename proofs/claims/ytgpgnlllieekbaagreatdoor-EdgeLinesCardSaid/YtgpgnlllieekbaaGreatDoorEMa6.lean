/- Edge's plain mathematics over the reference, part 2: the reference's walk; checks; volumes. -/
import Derived.Test.YtgpgnlllieekbaaGreatDoorEMa5
set_option linter.unusedVariables false
set_option linter.unusedSimpArgs false
namespace Go.SL
namespace Saw
/-! ### Rows -/
theorem qEB (n a b : Int) : jK n a b = some (decide (a ≤ n ∧ n ≤ b)) := by
 unfold jK DH
 by_cases h1 : n ≥ a
 ·rw [decide_eq_true h1]
  by_cases h2 : n ≤ b
  ·rw [decide_eq_true h2, decide_eq_true ⟨h1, h2⟩]; rfl
  ·rw [decide_eq_false h2, decide_eq_false (fun h => h2 h.2)]; rfl
 ·rw [decide_eq_false h1, decide_eq_false (show ¬ (a ≤ n ∧ n ≤ b) from fun h => h1 h.1)]; rfl
theorem qMw (s : Saw) (r : Rates) : GG s r = some (UG s r) := by
 unfold GG WV XW
 simp only [qEB, Option.bind_some]
 have no : ¬ VW s r → UG s r = 9 := fun h => by unfold UG; rw [if_neg h]
 by_cases c1' : ¬ (0 ≤ s.Kerf ∧ s.Kerf ≤ 20)
 ·rw [decide_eq_false c1', no (fun h => c1' h.kerf)]; rfl
 have c1 : 0 ≤ s.Kerf ∧ s.Kerf ≤ 20 := Decidable.not_not.1 c1'
 by_cases c2' : ¬ (0 ≤ s.Trim ∧ s.Trim ≤ 20)
 ·rw [decide_eq_true c1, decide_eq_false c2', no (fun h => c2' h.trim)]; rfl
 have c2 : 0 ≤ s.Trim ∧ s.Trim ≤ 20 := Decidable.not_not.1 c2'
 by_cases c3' : ¬ (1 ≤ s.Pitch ∧ s.Pitch ≤ 2000)
 ·rw [decide_eq_true c1, decide_eq_true c2, decide_eq_false c3', no (fun h => c3' h.pitch)]; rfl
 have c3 : 1 ≤ s.Pitch ∧ s.Pitch ≤ 2000 := Decidable.not_not.1 c3'
 by_cases c4' : ¬ (1 ≤ s.Step ∧ s.Step ≤ 20000)
 ·rw [decide_eq_true c1, decide_eq_true c2, decide_eq_true c3, decide_eq_false c4', no (fun h => c4' h.step)]; rfl
 have c4 : 1 ≤ s.Step ∧ s.Step ≤ 20000 := Decidable.not_not.1 c4'
 by_cases c5' : ¬ (0 ≤ r.Chip ∧ r.Chip ≤ 1000)
 ·rw [decide_eq_true c1, decide_eq_true c2, decide_eq_true c3, decide_eq_true c4, decide_eq_false c5', no (fun h => c5' h.chip)]; rfl
 have c5 : 0 ≤ r.Chip ∧ r.Chip ≤ 1000 := Decidable.not_not.1 c5'
 by_cases c6' : ¬ (0 ≤ r.Dust ∧ r.Dust ≤ 1000)
 ·rw [decide_eq_true c1, decide_eq_true c2, decide_eq_true c3, decide_eq_true c4, decide_eq_true c5, decide_eq_false c6', no (fun h => c6' h.dust)]; rfl
 have c6 : 0 ≤ r.Dust ∧ r.Dust ≤ 1000 := Decidable.not_not.1 c6'
 by_cases c7' : ¬ (0 ≤ r.Fine ∧ r.Fine ≤ 1000000)
 ·rw [decide_eq_true c1, decide_eq_true c2, decide_eq_true c3, decide_eq_true c4, decide_eq_true c5, decide_eq_true c6, decide_eq_false c7', no (fun h => c7' h.fine)]; rfl
 have c7 : 0 ≤ r.Fine ∧ r.Fine ≤ 1000000 := Decidable.not_not.1 c7'
 rw [decide_eq_true c1, decide_eq_true c2, decide_eq_true c3, decide_eq_true c4, decide_eq_true c5, decide_eq_true c6, decide_eq_true c7, (IG s r).2 ⟨c1, c2, c3, c4, c5, c6, c7⟩]; rfl
theorem qHP (b : Box) : PP b = some (empS b.X || (empS b.Y || empS b.Z)) := by
 unfold PP XB empS
 show (bif decide (b.X.B ≤ b.X.A) then _ else bif decide (b.Y.B ≤ b.Y.A) then _ else some (decide (b.Z.B ≤ b.Z.A))) = _
 cases decide (b.X.B ≤ b.X.A) <;> cases decide (b.Y.B ≤ b.Y.A) <;> rfl
theorem qJZ {s : Span} (h : empS s = false) (a b : Int) : BJ s a b = some (insS s a b) := by
 have h' : ¬ s.B ≤ s.A := of_decide_eq_false h
 unfold BJ MX insS
 by_cases c1 : a ≤ s.A
 ·rw [decide_eq_true c1]
  simp only [cond_true]
  congr 1
  rw [decide_eq_decide]; omega
 ·rw [decide_eq_false c1, decide_eq_false (show ¬ ((a ≤ s.A ∧ a ≤ s.B) ∧ (s.A ≤ b ∧ s.B ≤ b)) from fun q => c1 q.1.1)]; rfl
theorem qLF {b : Box} (h : (empS b.X || (empS b.Y || empS b.Z)) = false) : RU b = some (insS b.X (-600) 600 && (insS b.Y (-600) 600 && insS b.Z 0 20000)) := by
 have h1 : empS b.X = false := by cases e : empS b.X with | false => rfl | true => rw [e] at h; cases h
 have h2 : empS b.Y = false := by cases e : empS b.Y with | false => rfl | true => rw [h1, e] at h; cases h
 have h3 : empS b.Z = false := by cases e : empS b.Z with | false => rfl | true => rw [h1, h2, e] at h; cases h
 unfold RU YP
 simp only [qJZ h1, qJZ h2, qJZ h3, Option.bind_some]
 cases insS b.X (-600) 600 <;> cases insS b.Y (-600) 600 <;> rfl
theorem qHS (l : List Defect) : PM l = some (WO l) := by
 unfold PM WO
 by_cases h : 64 < l.length
 ·rw [if_pos h, decide_eq_true (by omega)]; rfl
 rw [if_neg h, decide_eq_false (by omega)]
 have L : jJ l FUEL 0 = some (findE badD l) := by
  refine KA l (jJ l) badD (by omega) (fun n x hx => ?_) (fun n => ?_)
  ·rw [jJ, decide_eq_true (by omega), qS (by omega) (by omega)]
   simp only [cond_true, Int.toNat_natCast, qU (show x < 4611686018427387904 by omega), UC, qHP, Option.bind_some]
   rw [qS (by omega) (by omega)]
   unfold badD chkD
   by_cases h1 : (l.getD x default).Kind < 1
   ·rw [decide_eq_true h1, if_pos (.inl h1)]; rfl
   rw [decide_eq_false h1]
   by_cases h2 : (l.getD x default).Kind > 6
   ·rw [decide_eq_true h2, if_pos (.inr h2)]; rfl
   rw [decide_eq_false h2, if_neg (by omega)]
   simp only [cond_false, cond_true]
   cases he : (empS (l.getD x default).Box.X || (empS (l.getD x default).Box.Y || empS (l.getD x default).Box.Z)) with
   | true => rfl
   | false =>
    rw [qLF he]
    cases (insS (l.getD x default).Box.X (-600) 600 && (insS (l.getD x default).Box.Y (-600) 600 && insS (l.getD x default).Box.Z 0 20000)) <;> rfl
  ·rw [jJ, decide_eq_false (by omega)]; rfl
 rw [L]
 simp only [cond_false, Option.bind_some]
 cases findE badD l <;> rfl
theorem qLP (s : Span) : XV s = some (decide (s.A < -600 ∨ 600 < s.A ∨ s.B < -600 ∨ 600 < s.B)) := by
 unfold XV ZR
 by_cases c1 : s.A < -600
 ·rw [decide_eq_true c1, decide_eq_true (show s.A < -600 ∨ 600 < s.A ∨ s.B < -600 ∨ 600 < s.B by omega)]; rfl
 rw [decide_eq_false c1]
 by_cases c2 : s.A > 600
 ·rw [decide_eq_true c2, decide_eq_true (show s.A < -600 ∨ 600 < s.A ∨ s.B < -600 ∨ 600 < s.B by omega)]; rfl
 rw [decide_eq_false c2]
 by_cases c3 : s.B < -600
 ·rw [decide_eq_true c3, decide_eq_true (show s.A < -600 ∨ 600 < s.A ∨ s.B < -600 ∨ 600 < s.B by omega)]; rfl
 rw [decide_eq_false c3]
 by_cases c4 : s.B > 600
 ·rw [decide_eq_true c4, decide_eq_true (show s.A < -600 ∨ 600 < s.A ∨ s.B < -600 ∨ 600 < s.B by omega)]; rfl
 rw [decide_eq_false c4, decide_eq_false (show ¬ (s.A < -600 ∨ 600 < s.A ∨ s.B < -600 ∨ 600 < s.B) by omega)]; rfl
theorem qNl (s : List Slice) (d : List Defect) (p : List qA) (r : Rect) (w : Saw) (t : Rates) : GP s d p r w t = some (chkE s d p r w t) := by
 unfold GP chkE UW UI
 rw [(UA s).2, qHS, OT, qMw]
 simp only [Option.bind_some, qLP]
 have bt : ∀ {n : Int}, n ≠ 0 → (n != 0) = true := fun h => by rw [bne_iff_ne]; exact h
 have bf : ∀ {n : Int}, ¬ n ≠ 0 → (n != 0) = false := fun h => by rw [bne_eq_false_iff_eq]; omega
 by_cases h1 : KH s ≠ 0
 ·rw [if_pos h1, bt h1]; rfl
 rw [if_neg h1, bf h1]
 by_cases h2 : WO d ≠ 0
 ·rw [if_pos h2, bt h2]; rfl
 rw [if_neg h2, bf h2]
 by_cases h3 : wM p ≠ 0
 ·rw [if_pos h3, bt h3]; rfl
 rw [if_neg h3, bf h3]
 by_cases h4 : UG w t ≠ 0
 ·rw [if_pos h4, bt h4]; rfl
 rw [if_neg h4, bf h4]
 simp only [cond_false]
 by_cases h5 : r.X.A ≥ r.X.B
 ·rw [if_pos (.inl h5), decide_eq_true h5]; rfl
 rw [decide_eq_false h5]
 by_cases h6 : r.Y.A ≥ r.Y.B
 ·rw [if_pos (.inr h6), decide_eq_true h6]; rfl
 rw [decide_eq_false h6, if_neg (by omega)]
 simp only [cond_false]
 by_cases h7 : r.X.A < -600 ∨ 600 < r.X.A ∨ r.X.B < -600 ∨ 600 < r.X.B
 ·rw [decide_eq_true h7, if_pos (by omega)]; rfl
 rw [decide_eq_false h7]
 by_cases h8 : r.Y.A < -600 ∨ 600 < r.Y.A ∨ r.Y.B < -600 ∨ 600 < r.Y.B
 ·rw [decide_eq_true h8, if_pos (by omega)]; rfl
 rw [decide_eq_false h8, if_neg (by omega)]; rfl
theorem qJa {r : Rect} (h : VR r) {a b : Int} (h1 : -2000 ≤ a ∧ a ≤ 2000) (h2 : -2000 ≤ b ∧ b ≤ 2000) : UF r a b = some (DG r a b) := by
 unfold VR at h
 unfold UF DG
 rw [qJ (by omega) (by omega), qJ (by omega) (by omega)]
/-! ### Volumes -/
theorem qMC (s : qH) : GL s = some (DA s) := by
 unfold GL DA
 rw [(qBN s).2]
 simp only [Option.bind_some]
 by_cases h : ZX s = 0
 ·rw [h]; rfl
 ·have : (ZX s != 0) = true := by simpa using h
  rw [this, if_neg h]; rfl
theorem qHD {x : Span} (y : Span) (h : rngS x = true) : XH x y = some (ml x y) := by
 have b := mx_b (y := y) h
 have a1 := ZS x.A y.A
 have a2 := ZW x.B y.B
 unfold XH RQ WR
 simp only [Option.bind_some]
 unfold ml lenS empS mxS
 simp only
 by_cases c : imin x.B y.B ≤ imax x.A y.A
 ·rw [decide_eq_true c]
  cases decide (y.A ≥ y.B) <;> simp [c]
 ·rw [decide_eq_false c, decide_eq_false (show ¬ y.A ≥ y.B by omega)]
  rw [MF] at h
  simp only [cond_false]
  rw [qJ (by omega) (by omega)]
theorem rhgt_eq {r : Int} (h1 : -60 ≤ r) (h2 : r < 60) : PC r = some (hgt r) := by
 unfold PC hgt
 rw [qJ (n := r + 1) (by omega) (by omega), qJ (by omega) (by omega), qJ (by omega) (by omega)]
theorem qE4 (s : qH) (R : Rect) : XN s R = some (zL (DA s) R.X R.Y) := by
 have h := qJv s
 unfold XN
 rw [qMC s]
 simp only [Option.bind_some]
 generalize DA s = t at *
 have b := h.len
 have b1 := h.low
 have b2 := h.high
 have pb : ∀ x, x < t.Rows.length → 0 ≤ ml (t.Rows.getD x default) R.X * ml (hgt (t.Low + x)) R.Y ∧ ml (t.Rows.getD x default) R.X * ml (hgt (t.Low + x)) R.Y ≤ 1440000 := fun x hx => by
  have m1 := ml_b R.X (h.rng _ (XY hx))
  have m2 := ml_b R.Y (qDw (r := t.Low + x) (by omega) (by omega))
  have := yD (a := ml (t.Rows.getD x default) R.X) (b := ml (hgt (t.Low + x)) R.Y) (m := 1200) (n := 1200) (by omega) (by omega) (by omega) (by omega) (by omega) (by omega)
  exact ⟨Int.mul_nonneg m1.1 m2.1, by omega⟩
 have k2 := qC7 t.Rows (fun n (a : Int) x => WB R t n a x) (fun x => (x : Int)) (fun x a s => s + ml a R.X * ml (hgt (t.Low + x)) R.Y) (fun s => s) (fun x s => 0 ≤ s ∧ s ≤ 1440000 * (x : Int)) (by omega)
  (fun n x a hx hi => by
   have p := pb x hx
   refine ⟨?_, by omega⟩
   rw [WB, decide_eq_true (show (x : Int) < _ by omega), qS (by omega) (by omega), qU (by omega), qJ (n := t.Low + x) (by omega) (by omega), rhgt_eq (r := t.Low + x) (by omega) (by omega)]
   simp only [cond_true, Int.toNat_natCast, Option.bind_some]
   rw [qHD R.X (h.rng _ (XY hx)), qHD R.Y (qDw (r := t.Low + x) (by omega) (by omega))]
   simp only [Option.bind_some]
   rw [qJ (n := _ * _) (by omega) (by omega), qJ (by omega) (by omega)])
  (fun n a _ => by rw [WB]; simp) (i := 0) rfl 0 (by omega)
 rw [qCT (fun x a => ml a R.X * ml (hgt (t.Low + x)) R.Y)] at k2
 have e := qJ7 h (fun r a => ml a R.X * ml (hgt r) R.Y) (fun r => by
  have : ml ⟨0, 0⟩ R.X = 0 := by have := ml_b (x := ⟨0, 0⟩) R.X rfl; have e : lenS ⟨0, 0⟩ = 0 := rfl; omega
  rw [this]; simp)
 simp only [Nat.zero_add, Int.zero_add] at k2
 rw [e] at k2
 rw [k2.1]; rfl
theorem qHn {l : List Slice} (h : VSol l) {i : Nat} (hi : i < l.length) (z : Span) : UM ⟨imax z.A 0, imin z.B 20000⟩ (qT l i) (l.getD i default).Len = some (ml (ext l i) z) := by
 have b := h.bd (i := i) (by omega)
 have b' := h.bd (i := i + 1) (by omega)
 have at' := (h.at hi).2.2
 rw [zO] at b'
 unfold UM
 rw [qJ (n := qT l i + (l.getD i default).Len) (by omega) (by omega), qFd]
 rw [show (ext l i).A = qT l i from rfl, show (ext l i).B = qT l i + (l.getD i default).Len from zO l i]
 have a1 := ZS z.A 0
 have a2 := ZW z.B 20000
 have a3 := ZS (imax z.A 0) (qT l i)
 have a4 := ZW (imin z.B 20000) (qT l i + (l.getD i default).Len)
 have a5 := ZS (qT l i) z.A
 have a6 := ZW (qT l i + (l.getD i default).Len) z.B
 simp only
 by_cases c : imax (imax z.A 0) (qT l i) ≥ imin (imin z.B 20000) (qT l i + (l.getD i default).Len)
 ·rw [decide_eq_true c, if_pos (by omega)]; rfl
 ·rw [decide_eq_false c, if_neg (by omega), qJ (by omega) (by omega)]
  simp only [cond_false]
  congr 1
  omega
theorem qGY {x y : Span} (h : y.B ≤ y.A) : ml x y = 0 := by
 rw [qFd]
 have a5 := ZS x.A y.A
 have a6 := ZW x.B y.B
 rw [if_pos (by omega)]
theorem qEp (l : List Slice) {x y z : Span} (h : x.B ≤ x.A ∨ y.B ≤ y.A ∨ z.B ≤ z.A) : volS l x y z = 0 := by
 unfold volS
 refine NC (fun i _ => ?_)
 rcases h with h | h | h
 ·have : zL (l.getD i default).Sec x y = 0 := by unfold zL; exact NC (fun j _ => by simp only; rw [qGY h]; simp)
  rw [this]; simp
 ·have : zL (l.getD i default).Sec x y = 0 := by unfold zL; exact NC (fun j _ => by simp only; rw [qGY h]; simp)
  rw [this]; simp
 ·rw [qGY h]; simp
theorem qID {l : List Slice} (h : VSol l) (b : Box) : TA l b = some (volS l b.X b.Y b.Z) := by
 have hl := h.len
 unfold TA
 rw [(UA l).2, (YU l).2 h]
 simp only [Option.bind_some, bne_self_eq_false, cond_false]
 have K : ∀ q, (q = true → volS l b.X b.Y b.Z = 0) → QD l b q = some (volS l b.X b.Y b.Z) := fun q hq => by
  unfold QD
  cases q with
  | true => rw [hq rfl]; rfl
  | false =>
   have k := zS l.length (fun n (s : Int × Int) i => jR l b n s.1 s.2 i) (fun i s => (s.1 + ml (ext l i) b.Z * zL (l.getD i default).Sec b.X b.Y, qT l (i + 1))) (fun s => s.1)
    (fun i s => s.1 = sumN i (fun i => ml (ext l i) b.Z * zL (l.getD i default).Sec b.X b.Y) ∧ s.2 = qT l i) 0 (by omega) (by omega)
    (fun n i s hi hs => by
     obtain ⟨s1, s2⟩ := s
     obtain ⟨e1, e2⟩ := hs
     simp only at e1 e2
     have p := qB4 h b.X b.Y b.Z (k := i) (by omega)
     have t := qEo h b.X b.Y b.Z hi
     have bd := h.bd (i := i) (by omega)
     have at' := (h.at hi).2.2
     rw [zO] at at'
     refine ⟨?_, by simp only; rw [e1]; rfl, rfl⟩
     simp only
     rw [jR, decide_eq_true (by omega), qS (by omega) (by omega)]
     simp only [cond_true, Int.toNat_natCast, qU (show i < 4611686018427387904 by omega), e2, qHn h hi b.Z, Option.bind_some, RG, qE4]
     rw [qBX (h.at hi).1, qJ (n := qT l i + (l.getD i default).Len) (by omega) (by omega), ← zO]
     by_cases c : ml (ext l i) b.Z > 0
     ·rw [decide_eq_true c]
      simp only [cond_true]
      rw [qJ (n := ml (ext l i) b.Z * zL (l.getD i default).Sec b.X b.Y) (by omega) (by omega), qJ (by omega) (by omega)]
     ·have z : ml (ext l i) b.Z = 0 := by have := qDq (ext l i) b.Z; omega
      rw [decide_eq_false c, z]
      simp)
    (fun n s _ => by
     try simp only
     rw [jR, decide_eq_false (by omega)]; rfl) (0, 0) ⟨rfl, rfl⟩
   rw [show ((0 : Nat) : Int) = 0 from rfl, Nat.sub_zero] at k
   simp only at k
   rw [k.1, k.2.1]
   rfl
 by_cases c1 : b.X.A ≥ b.X.B
 ·rw [decide_eq_true c1]; exact K true (fun _ => qEp l (.inl c1))
 rw [decide_eq_false c1]
 by_cases c2 : b.Y.A ≥ b.Y.B
 ·rw [decide_eq_true c2]; exact K true (fun _ => qEp l (.inr (.inl c2)))
 rw [decide_eq_false c2]
 exact K _ (fun q => qEp l (.inr (.inr (of_decide_eq_true q))))
theorem qHB {l : List Slice} (h : VSol l) (r : Rect) (z : Span) : WT l r z = some (volS l r.X r.Y z) := by
 unfold WT
 rw [qID h]; rfl
theorem qFb {l : List Slice} (h : VSol l) (r : Rect) : XD l r = some (volS l r.X r.Y ⟨0, qX l⟩) := by
 unfold XD
 rw [(YG l).2, PJ h]
 simp only [Option.bind_some, qHB h]
theorem qHZ (p : qA) (n : Int) (h : p.Lengths.length ≤ 1000000) : PL p n = some (price p n) := by
 unfold PL price
 have L : QY p n FUEL ((0 : Nat) : Int) = some (findN (priceAt p n) 0 (p.Lengths.length - 0)) := by
  refine wF p.Lengths.length (QY p n) _ 0 (by omega) (by omega) (fun m i hi hN => ?_) (fun m => ?_)
  ·rw [QY, decide_eq_true (by omega), qS (by omega) (by omega)]
   simp only [cond_true, Int.toNat_natCast, qU (show i < 4611686018427387904 by omega), priceAt]
   by_cases c : p.Lengths.getD i default ≠ n
   ·rw [if_pos c, show (p.Lengths.getD i default == n) = false by rw [beq_eq_false_iff_ne]; exact c]; rfl
   rw [if_neg c, show (p.Lengths.getD i default == n) = true by rw [beq_iff_eq]; omega]
   by_cases c2 : p.Prices.length ≤ i
   ·rw [if_pos c2, decide_eq_true (show (i : Int) ≥ ((p.Prices.length : Nat) : Int) by omega)]; rfl
   ·rw [if_neg c2, decide_eq_false (show ¬ (i : Int) ≥ ((p.Prices.length : Nat) : Int) by omega), qS (by omega) (by omega)]; rfl
  ·rw [QY, decide_eq_false (by omega)]; rfl
 rw [show ((0 : Nat) : Int) = 0 from rfl, Nat.sub_zero] at L
 rw [L]
 simp only [Option.bind_some]
 cases findN (priceAt p n) 0 p.Lengths.length <;> rfl
theorem qNv (x y : Span) : KV x y = some (nrm (mxS x y)) := by
 unfold KV nrm mxS empS
 simp only
 show (bif decide (imin x.B y.B ≤ imax x.A y.A) then _ else _) = _
 cases decide (imin x.B y.B ≤ imax x.A y.A) <;> rfl
theorem qEb (d : Defect) (b : Box) : JQ d b = some (tch d.Box b) := by
 unfold JQ IE tch
 simp only [qNv, Option.bind_some, qHP, qHc]
/-! ### Defects near a rectangle -/
def wdL (b : Box) (fine : Int) : List Defect → Int → (Int × Bool) ⊕ Int
 | [], v => .inr v
 | d :: ds, v => bif tch d.Box b then (bif d.Kind == 3 then .inl (0, false) else wdL b fine ds (v - fine)) else wdL b fine ds v
theorem qDr (ds : List Defect) (b : Box) (fine : Int) : ∀ (k x : Nat) (v : Int), x + k = ds.length → runN (dstep ds b fine) x k v = wdL b fine (ds.drop x) v
 | 0, x, v, h => by rw [List.drop_eq_nil_of_le (by omega)]; rfl
 | k + 1, x, v, h => by
  rw [qDj ds x (by omega)]
  unfold runN wdL dstep
  cases tch (ds.getD x default).Box b with
  | false => exact qDr ds b fine k (x + 1) v (by omega)
  | true => cases (ds.getD x default).Kind == 3 with
   | true => rfl
   | false => exact qDr ds b fine k (x + 1) (v - fine) (by omega)
theorem qKw (ds : List Defect) (b : Box) : near ds b = ds.filter (fun d => tch d.Box b) := by
 unfold near
 have key : ∀ k, k ≤ ds.length → zX (fun i t => bif tch (ds.getD i default).Box b then t ++ [ds.getD i default] else t) 0 k ([] : List Defect) = (ds.take k).filter (fun d => tch d.Box b) := by
  intro k
  induction k with
  | zero => intro _; rfl
  | succ k ih =>
   intro hk
   have tk : ds.take (k + 1) = ds.take k ++ [ds.getD k default] := by rw [List.take_add_one, List.getD_eq_getElem?_getD, List.getElem?_eq_getElem (by omega)]; rfl
   rw [WP, ih (by omega), Nat.zero_add, tk, List.filter_append]
   generalize ds.getD k default = d
   cases h : tch d.Box b <;> simp [List.filter, h]
 rw [key _ (Nat.le_refl _), List.take_length]
theorem IB {b W : Box} (fine : Int) (h : ∀ d : Box, tch d b = true → tch d W = true) : ∀ (ds : List Defect) (v : Int), wdL b fine (ds.filter (fun d => tch d.Box W)) v = wdL b fine ds v
 | [], v => rfl
 | d :: ds, v => by
  cases hW : tch d.Box W with
  | true =>
   rw [List.filter_cons, hW]
   simp only [if_true]
   unfold wdL
   rw [IB fine h ds, IB fine h ds]
  | false =>
   have hb : tch d.Box b = false := by cases e : tch d.Box b with | false => rfl | true => rw [h _ e] at hW; cases hW
   rw [List.filter_cons, hW]
   simp only [Bool.false_eq_true, if_false]
   rw [IB fine h ds]
   conv => rhs; unfold wdL
   rw [hb]; rfl
theorem qD7 {ds : List Defect} {b W : Box} (fine v : Int) (h : ∀ d : Box, tch d b = true → tch d W = true) : YJ (near ds W) b fine v = YJ ds b fine v := by
 unfold YJ
 rw [qDr _ _ _ _ 0 _ (by omega), qDr _ _ _ _ 0 _ (by omega), List.drop_zero, List.drop_zero, qKw, IB fine h]
theorem qK5 {x y s : Span} {n : Int} (h1 : 0 ≤ s.A) (h2 : s.B ≤ n) (d : Box) : tch d ⟨x, y, s⟩ = true → tch d ⟨x, y, ⟨0, n⟩⟩ = true := by
 unfold tch
 simp only
 have e : empS (mxS d.Z s) = false → empS (mxS d.Z ⟨0, n⟩) = false := fun h => by
  have h' : ¬ imin d.Z.B s.B ≤ imax d.Z.A s.A := of_decide_eq_false h
  have a1 := ZW d.Z.B s.B
  have a2 := ZS d.Z.A s.A
  have a3 := ZW d.Z.B n
  have a4 := ZS d.Z.A 0
  refine decide_eq_false (show ¬ imin d.Z.B n ≤ imax d.Z.A 0 from ?_)
  omega
 cases empS (mxS d.X x) <;> cases empS (mxS d.Y y) <;> cases hz : empS (mxS d.Z s) <;> simp
 exact e hz
def bad3 (ds : List Defect) (b : Box) (i : Nat) : Option Bool := bif (ds.getD i default).Kind == 3 && tch (ds.getD i default).Box b then some false else none
def qAm (ds : List Defect) (b : Box) (fine : Int) (i : Nat) (v : Int) : Int := bif tch (ds.getD i default).Box b then v - fine else v
theorem qAr (ds : List Defect) (b : Box) (fine : Int) : ∀ (k x : Nat) (v : Int), runN (dstep ds b fine) x k v = match findN (bad3 ds b) x k with | .inl _ => .inl (0, false) | .inr _ => .inr (zX (qAm ds b fine) x k v)
 | 0, x, v => rfl
 | k + 1, x, v => by
  unfold runN findN zX
  cases h1 : tch (ds.getD x default).Box b with
  | false =>
   have e1 : dstep ds b fine x v = .inr v := by unfold dstep; rw [h1]; rfl
   have e2 : bad3 ds b x = none := by unfold bad3; rw [h1, Bool.and_false]; rfl
   have e3 : qAm ds b fine x v = v := by unfold qAm; rw [h1]; rfl
   rw [e1, e2, e3]
   exact qAr ds b fine k (x + 1) v
  | true => cases h2 : (ds.getD x default).Kind == 3 with
   | true =>
    have e1 : dstep ds b fine x v = .inl (0, false) := by unfold dstep; rw [h1, h2]; rfl
    have e2 : bad3 ds b x = some false := by unfold bad3; rw [h1, h2]; rfl
    rw [e1, e2]
   | false =>
    have e1 : dstep ds b fine x v = .inr (v - fine) := by unfold dstep; rw [h1, h2]; rfl
    have e2 : bad3 ds b x = none := by unfold bad3; rw [h1, h2]; rfl
    have e3 : qAm ds b fine x v = v - fine := by unfold qAm; rw [h1]; rfl
    rw [e1, e2, e3]
    exact qAr ds b fine k (x + 1) (v - fine)
theorem qLH (ds : List Defect) (b : Box) : ∀ (k x : Nat) (e : Bool), findN (bad3 ds b) x k = .inl e → e = false := by
 intro k x e h
 obtain ⟨i, _, _, c, _⟩ := yP h
 unfold bad3 at c
 cases hc : (ds.getD i default).Kind == 3 && tch (ds.getD i default).Box b with
 | true => rw [hc] at c; cases c; rfl
 | false => rw [hc] at c; cases c
/-! ### Wane -/
theorem hit_ml {l : List Slice} (h : VSol l) {i : Nat} (hi : i < l.length) {s : Span} (hs : s.A < s.B) : decide (ml (ext l i) s > 0) = hitZ (ext l i) s := by
 have at' := (h.at hi).2.2
 have e2 : (ext l i).B = qT l i + (l.getD i default).Len := zO l i
 have e1 : (ext l i).A = qT l i := rfl
 unfold hitZ
 rw [qFd, e1, e2]
 have a1 := ZW (qT l i + (l.getD i default).Len) s.B
 have a2 := ZS (qT l i) s.A
 rw [Bool.eq_iff_iff]
 simp only [decide_eq_true_eq, Bool.and_eq_true]
 split <;> omega
def cutL (l : List Slice) (s : Span) (k : Nat) : List Slice := (List.range k).filterMap (fun i => if ml (ext l i) s > 0 then some ⟨ml (ext l i) s, (l.getD i default).Sec⟩ else none)
theorem qCN (l : List Slice) (s : Span) (k : Nat) : cutL l s (k + 1) = if ml (ext l k) s > 0 then cutL l s k ++ [⟨ml (ext l k) s, (l.getD k default).Sec⟩] else cutL l s k := by
 unfold cutL
 rw [List.range_succ, List.filterMap_append]
 by_cases c : ml (ext l k) s > 0
 ·rw [if_pos c]; simp [c]
 ·rw [if_neg c]; simp [c]
theorem qEI (l : List Slice) (s : Span) : ∀ k, (cutL l s k).length ≤ k
 | 0 => by simp [cutL]
 | k + 1 => by
  have := qEI l s k
  rw [qCN]
  split <;> simp <;> omega
theorem Cut_eq {l : List Slice} (h : VSol l) (s : Span) : HR l s = some (cutL l s l.length) := by
 have hl := h.len
 unfold HR
 rw [(UA l).2, (YU l).2 h]
 simp only [Option.bind_some, bne_self_eq_false, cond_false]
 have k := zS l.length (fun n (t : List Slice × Int) i => ZK l s n t.1 t.2 i) (fun i t => (cutL l s (i + 1), qT l (i + 1))) (fun t => t.1)
  (fun i t => t.1 = cutL l s i ∧ t.2 = qT l i) 0 (by omega) (by omega)
  (fun n i t hi ht => by
   obtain ⟨t1, t2⟩ := t
   obtain ⟨e1, e2⟩ := ht
   simp only at e1 e2
   have bd := h.bd (i := i) (by omega)
   have at' := (h.at hi).2.2
   rw [zO] at at'
   refine ⟨?_, rfl, rfl⟩
   simp only
   rw [ZK, decide_eq_true (by omega), qS (by omega) (by omega)]
   simp only [cond_true, Int.toNat_natCast, qU (show i < 4611686018427387904 by omega), e2, qHn h hi s, Option.bind_some, LG]
   rw [qJ (n := qT l i + (l.getD i default).Len) (by omega) (by omega), ← zO, qCN]
   have cl := qEI l s i
   by_cases c : ml (ext l i) s > 0
   ·rw [decide_eq_true c, if_pos c, jH (by rw [e1]; omega) (by omega), e1]; rfl
   ·rw [decide_eq_false c, if_neg c, e1]; rfl)
  (fun n t _ => by rw [ZK, decide_eq_false (by omega)]; rfl) ([], 0) ⟨rfl, rfl⟩
 rw [show ((0 : Nat) : Int) = 0 from rfl, Nat.sub_zero] at k
 simp only at k
 rw [k.1, k.2.1]; rfl
theorem qNr {l : List Slice} {s : Span} {k : Nat} : ∀ x ∈ cutL l s k, ∃ i, i < k ∧ x.Sec = (l.getD i default).Sec := by
 intro x hx
 unfold cutL at hx
 rw [List.mem_filterMap] at hx
 obtain ⟨i, hi, e⟩ := hx
 refine ⟨i, by simpa using hi, ?_⟩
 split at e
 ·cases e; rfl
 ·cases e
theorem wane_eq {l : List Slice} (h : VSol l) {r : Rect} (hr : VR r) {s : Span} (hs : s.A < s.B) : LB l ⟨r.X, r.Y, s⟩ = some (worst (zones l r) s) := by
 have hl := h.len
 have ha := qLn hr
 have eA : w64 (w64 (r.X.B - r.X.A) * w64 (r.Y.B - r.Y.A)) = yO r := by
  have hr' := hr
  unfold VR at hr'
  rw [qJ (n := r.X.B - r.X.A) (by omega) (by omega), qJ (n := r.Y.B - r.Y.A) (by omega) (by omega)]
  unfold yO at ha ⊢
  exact qJ (by omega) (by omega)
 unfold LB
 rw [Cut_eq h]
 simp only [Option.bind_some]
 have cl := qEI l s l.length
 have k := qC7 (cutL l s l.length) (fun n (m : Int) i => JV ⟨r.X, r.Y, s⟩ (cutL l s l.length) n m i) (fun x => (x : Int)) (fun _ a m => imax m (UZ (yO r) (zL a.Sec r.X r.Y))) (fun m => m) (fun _ _ => True) (by omega)
  (fun n x m hx _ => by
   refine ⟨?_, trivial⟩
   obtain ⟨i, hi, es⟩ := qNr _ (XY hx)
   have vs := (h.at hi).1
   rw [JV, decide_eq_true (by omega), qS (by omega) (by omega)]
   simp only [cond_true, Int.toNat_natCast, qU (show x < 4611686018427387904 by omega), qE4, Option.bind_some, eA, es]
   have wb := qES vs r.X r.Y
   rw [qBX vs, nz_t (by omega), qJ (n := yO r - zL (l.getD i default).Sec r.X r.Y) (by omega) (by omega), qJ (n := 1000 * _) (by omega) (by omega), qJ (n := 1000 * _ + _) (by omega) (by omega), qJ (n := 1000 * _ + _ - 1) (by omega) (by omega)]
   simp only [cond_true]
   have tb : -2000000000 ≤ UZ (yO r) (zL (l.getD i default).Sec r.X r.Y) ∧ UZ (yO r) (zL (l.getD i default).Sec r.X r.Y) ≤ 2000000000 := by
    unfold UZ
    generalize hu : 1000 * (yO r - zL (l.getD i default).Sec r.X r.Y) + yO r - 1 = u
    have hub : -1440000000 ≤ u ∧ u ≤ 1441440000 := by omega
    have ab := Int.natAbs_tdiv_le_natAbs u (yO r)
    omega
   unfold UZ at tb ⊢
   rw [qJ (by omega) (by omega)])
  (fun n m _ => by rw [JV, decide_eq_false (by omega)]; rfl) (i := 0) rfl 0 trivial
 rw [k.1, qD8]
 simp only [Option.bind_some]
 unfold worst
 rw [qH0]
 have key : ∀ j, j ≤ l.length → (cutL l s j).foldl (fun m a => imax m (UZ (yO r) (zL a.Sec r.X r.Y))) 0 = zX (fun i m => bif hitZ ((zones l r).getD i default).z s then imax m ((zones l r).getD i default).lack else m) 0 j 0 := by
  intro j
  induction j with
  | zero => intro _; rfl
  | succ j ih =>
   intro hj
   have hz : (zones l r).getD j default = ⟨ext l j, UZ (yO r) (zL (l.getD j default).Sec r.X r.Y)⟩ := by unfold zones; exact KN _ (by omega)
   rw [WP, ← ih (by omega), Nat.zero_add, hz, qCN]
   simp only
   rw [← hit_ml h (by omega) hs]
   by_cases c : ml (ext l j) s > 0
   ·rw [if_pos c, decide_eq_true c, List.foldl_append]; rfl
   ·rw [if_neg c, decide_eq_false c]; rfl
 rw [key _ (Nat.le_refl _)]
/-! ### The reference's pieces -/
theorem qHW {x : Span} (h : -600 ≤ x.A ∧ x.A < x.B ∧ x.B ≤ 600) : XJ x = some true := by
 unfold XJ YD
 rw [decide_eq_true (show x.A ≥ -600 by omega), decide_eq_true h.2.1, decide_eq_true h.2.2]; rfl
theorem qLS {l : List Slice} (h : VSol l) {r : Rect} (hr : VR r) (s : Span) : TZ l ⟨r.X, r.Y, s⟩ = some (decide (0 ≤ s.A ∧ s.A < s.B ∧ s.B ≤ qX l)) := by
 unfold TZ QF
 rw [qHW hr.1, qHW hr.2, (YG l).2, PJ h]
 simp only [Option.bind_some, cond_true]
 by_cases c1 : s.A ≥ 0
 ·rw [decide_eq_true c1]
  by_cases c2 : s.A < s.B
  ·rw [decide_eq_true c2]
   simp only [cond_true]
   congr 1
   rw [decide_eq_decide]; omega
  ·rw [decide_eq_false c2, decide_eq_false (show ¬ (0 ≤ s.A ∧ s.A < s.B ∧ s.B ≤ qX l) by omega)]; rfl
 ·rw [decide_eq_false c1, decide_eq_false (show ¬ (0 ≤ s.A ∧ s.A < s.B ∧ s.B ≤ qX l) by omega)]; rfl
theorem qMG {l : List Slice} (h : VSol l) {ds : List Defect} (hd : ds.length ≤ 64) {p : qA} (hv : VP p) {r : Rect} (hr : VR r) (fine : Int) (s : Span) : RR l ds p ⟨r.X, r.Y, s⟩ = some (dimOk r p && (worthV (viewOf l ds p r) s fine).2) := by
 have hr' := hr
 unfold VR at hr'
 have hll := hv.ll
 have sb := MR h
 unfold RR
 rw [qLS h hr]
 simp only [Option.bind_some]
 unfold worthV
 rw [show (viewOf l ds p r).length = qX l from rfl]
 by_cases c' : ¬ (0 ≤ s.A ∧ s.A < s.B ∧ s.B ≤ qX l)
 ·rw [decide_eq_false c', if_neg c', Bool.and_false]; rfl
 have c : 0 ≤ s.A ∧ s.A < s.B ∧ s.B ≤ qX l := Decidable.not_not.1 c'
 rw [decide_eq_true c, if_pos c, (MC p).2, qJ (n := s.B - s.A) (by omega) (by omega), qHZ p _ (by omega), qJ (n := r.X.B - r.X.A) (by omega) (by omega), qJ (n := r.Y.B - r.Y.A) (by omega) (by omega)]
 simp only [Option.bind_some, Bool.not_true, cond_false]
 rw [show (viewOf l ds p r).product = p from rfl, show (viewOf l ds p r).zones = zones l r from rfl, show (viewOf l ds p r).rect = r from rfl, show (viewOf l ds p r).defects = near ds ⟨r.X, r.Y, ⟨0, qX l⟩⟩ from rfl, qD7 fine _ (qK5 c.1 c.2.2)]
 have K : wB l ds p ⟨r.X, r.Y, s⟩ false = some ((if worst (zones l r) s > p.Wane then ((0 : Int), false) else YJ ds ⟨r.X, r.Y, s⟩ fine (price p (s.B - s.A)).1).2) := by
  unfold wB
  have L : wZ ds ⟨r.X, r.Y, s⟩ FUEL ((0 : Nat) : Int) = some (findN (bad3 ds ⟨r.X, r.Y, s⟩) 0 (ds.length - 0)) := by
   refine wF ds.length (wZ ds ⟨r.X, r.Y, s⟩) _ 0 (by omega) (by omega) (fun m i hi hN => ?_) (fun m => ?_)
   ·rw [wZ, decide_eq_true (by omega), qS (by omega) (by omega)]
    simp only [cond_true, Int.toNat_natCast, qU (show i < 4611686018427387904 by omega), qEb, Option.bind_some, RO, bad3]
    cases (ds.getD i default).Kind == 3 <;> cases tch (ds.getD i default).Box ⟨r.X, r.Y, s⟩ <;> rfl
   ·rw [wZ, decide_eq_false (by omega)]; rfl
  rw [show ((0 : Nat) : Int) = 0 from rfl, Nat.sub_zero] at L
  rw [L, wane_eq h hr c.2.1]
  unfold YJ
  rw [qAr]
  simp only [cond_false, Option.bind_some]
  cases hf : findN (bad3 ds ⟨r.X, r.Y, s⟩) 0 ds.length with
  | inl e =>
   rw [qLH _ _ _ _ _ hf]
   simp only [Sum.elim_inl]
   split <;> rfl
  | inr u =>
   simp only [Sum.elim_inr]
   by_cases c4 : worst (zones l r) s > p.Wane
   ·rw [if_pos c4, decide_eq_false (by omega)]
   ·rw [if_neg c4, decide_eq_true (by omega)]
 have KT : wB l ds p ⟨r.X, r.Y, s⟩ true = some false := rfl
 have KB : ∀ q, wB l ds p ⟨r.X, r.Y, s⟩ q = some (!q && ((if worst (zones l r) s > p.Wane then ((0 : Int), false) else YJ ds ⟨r.X, r.Y, s⟩ fine (price p (s.B - s.A)).1).2)) := fun q => by
  cases q with
  | true => exact KT
  | false => rw [K]; rfl
 simp only [KB]
 cases hq : (price p (s.B - s.A)).2 with
 | false => simp only [Bool.not_false, cond_true, Bool.not_true, Bool.false_and, cond_false, Bool.and_false]
 | true =>
  simp only [Bool.not_true, cond_false, cond_true, dimOk]
  generalize (if worst (zones l r) s > p.Wane then ((0 : Int), false) else YJ ds ⟨r.X, r.Y, s⟩ fine (price p (s.B - s.A)).1).2 = W
  cases r.X.B - r.X.A == (zB p).1 <;> cases r.Y.B - r.Y.A == (zB p).2 <;> cases r.X.B - r.X.A == (zB p).2 <;> cases r.Y.B - r.Y.A == (zB p).1 <;> rfl
theorem qL2 {l : List Slice} (h : VSol l) {ds : List Defect} (hd : ds.length ≤ 64) {p : qA} (hv : VP p) {r : Rect} {fine : Int} (hf : 0 ≤ fine ∧ fine ≤ 1000000) {s : Span} (ha : (worthV (viewOf l ds p r) s fine).2 = true) : GM ds p ⟨r.X, r.Y, s⟩ fine = some (worthV (viewOf l ds p r) s fine).1 := by
 have hll := hv.ll
 have sb := MR h
 unfold GM
 unfold worthV at ha ⊢
 rw [show (viewOf l ds p r).length = qX l from rfl] at ha ⊢
 by_cases c' : ¬ (0 ≤ s.A ∧ s.A < s.B ∧ s.B ≤ qX l)
 ·rw [if_neg c'] at ha; cases ha
 have c : 0 ≤ s.A ∧ s.A < s.B ∧ s.B ≤ qX l := Decidable.not_not.1 c'
 rw [if_pos c] at ha ⊢
 rw [show (viewOf l ds p r).product = p from rfl, show (viewOf l ds p r).zones = zones l r from rfl, show (viewOf l ds p r).rect = r from rfl, show (viewOf l ds p r).defects = near ds ⟨r.X, r.Y, ⟨0, qX l⟩⟩ from rfl, qD7 fine _ (qK5 c.1 c.2.2)] at ha ⊢
 rw [qJ (n := s.B - s.A) (by omega) (by omega), qHZ p _ (by omega)]
 simp only [Option.bind_some]
 have pb := qG8 hv (s.B - s.A)
 cases hq : (price p (s.B - s.A)).2 with
 | false => rw [hq] at ha; cases ha
 | true =>
  rw [hq] at ha
  simp only [cond_true] at ha ⊢
  by_cases c4 : worst (zones l r) s > p.Wane
  ·rw [if_pos c4] at ha; cases ha
  rw [if_neg c4] at ha ⊢
  have k := zS ds.length (fun n (v : Int) i => yL ds ⟨r.X, r.Y, s⟩ fine n v i) (qAm ds ⟨r.X, r.Y, s⟩ fine) (fun v => v) (fun i v => -(1000000 * (i : Int)) ≤ v ∧ v ≤ 1000000) 0 (by omega) (by omega)
   (fun n i v hi hv' => by
    refine ⟨?_, ?_⟩
    ·rw [yL, decide_eq_true (by omega), qS (by omega) (by omega)]
     simp only [cond_true, Int.toNat_natCast, qU (show i < 4611686018427387904 by omega), qEb, Option.bind_some, UJ, qAm]
     rw [qJ (n := v - fine) (by omega) (by omega)]
     cases tch (ds.getD i default).Box ⟨r.X, r.Y, s⟩ <;> rfl
    ·unfold qAm
     cases tch (ds.getD i default).Box ⟨r.X, r.Y, s⟩ with
     | true => simp only [cond_true]; omega
     | false => simp only [cond_false]; omega)
   (fun n v _ => by rw [yL, decide_eq_false (by omega)]; rfl) (price p (s.B - s.A)).1 (by omega)
  rw [show ((0 : Nat) : Int) = 0 from rfl, Nat.sub_zero] at k
  rw [k.1]
  unfold YJ at ha ⊢
  rw [qAr] at ha ⊢
  cases hf2 : findN (bad3 ds ⟨r.X, r.Y, s⟩) 0 ds.length with
  | inl e => rw [hf2] at ha; cases ha
  | inr u =>
   simp only [Option.bind_some]
   congr 1
   unfold imax
   split <;> split <;> omega
theorem qLI {l : List Slice} (h : VSol l) {ds : List Defect} (hd : ds.length ≤ 64) {p : qA} (hv : VP p) {r : Rect} (hr : VR r) {fine z : Int} (hf : 0 ≤ fine ∧ fine ≤ 1000000) (h0 : 0 ≤ z) (h1 : z ≤ 20000) (st : Int × Bool × Span) :
  wQ l ds p r fine z FUEL st.1 st.2.1 0 st.2.2 = some (bif dimOk r p then CX (viewOf l ds p r) fine z st else st) := by
 have hll := hv.ll
 have k := zS p.Lengths.length (fun n (s : Int × Bool × Span) i => wQ l ds p r fine z n s.1 s.2.1 i s.2.2) (fun i st => bif dimOk r p then GF st (worthV (viewOf l ds p r) (spanAt p z i) fine) (spanAt p z i) else st) (fun s => s) (fun _ _ => True) 0 (by omega) (by omega)
  (fun n i s hi _ => ⟨by
   obtain ⟨s1, s2, s3⟩ := s
   have lb := hv.lb i hi
   try simp only
   rw [wQ, decide_eq_true (by omega), qS (by omega) (by omega)]
   simp only [cond_true, Int.toNat_natCast, qU (show i < 4611686018427387904 by omega)]
   rw [qJ (n := z + p.Lengths.getD i default) (by omega) (by omega)]
   rw [show (Box.mk r.X r.Y ⟨z, z + p.Lengths.getD i default⟩) = ⟨r.X, r.Y, spanAt p z i⟩ from rfl, qMG h hd hv hr fine]
   simp only [Option.bind_some]
   cases hdm : dimOk r p with
   | false => simp only [Bool.false_and, Bool.not_false, cond_true, cond_false, WF, qU (show i < 4611686018427387904 by omega)]
   | true =>
    simp only [Bool.true_and, cond_true]
    cases ha : (worthV (viewOf l ds p r) (spanAt p z i) fine).2 with
    | false =>
     have : GF (s1, s2, s3) (worthV (viewOf l ds p r) (spanAt p z i) fine) (spanAt p z i) = (s1, s2, s3) := by unfold GF; rw [ha]; rfl
     rw [this]
     simp only [Bool.not_false, cond_true, WF, qU (show i < 4611686018427387904 by omega)]
    | true =>
     rw [qL2 h hd hv hf ha]
     simp only [Option.bind_some, Bool.not_true, cond_false, DE, WF, GF, Int.toNat_natCast, qU (show i < 4611686018427387904 by omega)]
     rw [ha, qJ (n := z + p.Lengths.getD i default) (by omega) (by omega)]
     cases s2 <;> cases decide ((worthV (viewOf l ds p r) (spanAt p z i) fine).1 > s1) <;> rfl, trivial⟩)
  (fun n s _ => by rw [wQ, decide_eq_false (by omega)]; rfl) st trivial
 rw [show ((0 : Nat) : Int) = 0 from rfl, Nat.sub_zero] at k
 rw [k.1]
 cases dimOk r p with
 | true => rfl
 | false =>
  have : ∀ m, zX (fun i (st : Int × Bool × Span) => bif false then GF st (worthV (viewOf l ds p r) (spanAt p z i) fine) (spanAt p z i) else st) 0 m st = st := fun m => by
   induction m with
   | zero => rfl
   | succ m ih => rw [WP, ih]; rfl
  rw [this]; rfl
theorem qMa {l : List Slice} {ds : List Defect} {p : qA} {r : Rect} {step fine : Int} (hs : VSol l) (hd : WO ds = 0) (hp : wM [p] = 0) (hv : VP p) (hr : VR r) (hst : 1 ≤ step ∧ step ≤ 20000) (hf : 0 ≤ fine ∧ fine ≤ 1000000) :
  FJ l ds p r step fine = some ((yY l ds p r step fine).2.2, (yY l ds p r step fine).1, (yY l ds p r step fine).2.1) := by
 have hdl := ((YV ds).1 hd).1
 have sb := MR hs
 unfold FJ PE HD XR
 rw [qEB, qEB, decide_eq_true hst, decide_eq_true hf, (UA l).2, (YU l).2 hs, qHS, hd, OT, hp]
 simp only [Option.bind_some, Bool.not_true, cond_false, beq_self_eq_true, cond_true]
 have hN : TE (qX l) step ≤ 1000000000 := by
  unfold TE
  have := Int.ediv_le_self step (show 0 ≤ qX l + step - 1 by omega)
  omega
 have k := qFJ (TE (qX l) step) (fun n (s : Int × Bool × Span) (z : Int) => JS l ds p r step fine n s.1 s.2.1 z s.2.2) (fun k => (k : Int) * step) (fun k st => bif dimOk r p then CX (viewOf l ds p r) fine ((k : Int) * step) st else st) (fun s => s) (fun _ _ => True) hN
  (fun n i s hi _ => ⟨by
   have h1 := (qAI (by omega) hst.1).1 hi
   have h0 : 0 ≤ (i : Int) * step := Int.mul_nonneg (by omega) (by omega)
   have e : (i : Int) * step + step = ((i + 1 : Nat) : Int) * step := by rw [Int.natCast_add, Int.add_mul]; simp
   try simp only
   rw [JS, (YG l).2, PJ hs]
   simp only [Option.bind_some]
   rw [decide_eq_true h1, qLI hs hdl hv hr hf h0 (by omega) s, qJ (by omega) (by omega), e]
   rfl, trivial⟩)
  (fun n s _ => by
   have h1 : ¬ ((TE (qX l) step : Nat) : Int) * step < qX l := fun h => by have := (qAI (by omega) hst.1).2 h; omega
   try simp only
   rw [JS, (YG l).2, PJ hs]
   simp only [Option.bind_some]
   rw [decide_eq_false h1]; rfl) (0, false, ⟨0, 0⟩) trivial
 simp only [Int.natCast_zero, Int.zero_mul] at k
 rw [k.1]
 unfold yY bestV
 cases dimOk r p with
 | true => rfl
 | false =>
  have : ∀ m, zX (fun k (st : Int × Bool × Span) => bif false then CX (viewOf l ds p r) fine ((k : Int) * step) st else st) 0 m (0, false, ⟨0, 0⟩) = (0, false, ⟨0, 0⟩) := fun m => by
   induction m with
   | zero => rfl
   | succ m ih => rw [WP, ih]; rfl
  rw [this]; rfl
end Saw
end Go.SL
