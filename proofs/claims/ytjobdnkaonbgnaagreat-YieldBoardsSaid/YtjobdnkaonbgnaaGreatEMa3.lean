/- Edge's plain mathematics, part 3: solids. -/
import Derived.Test.YtjobdnkaonbgnaaGreatEMa2
set_option linter.unusedVariables false
set_option linter.unusedSimpArgs false
namespace Go.SL
/-- A looking loop with a further state that the index settles. -/
theorem qHK {ε σ : Type} (N : Nat) (L : Nat → σ → Int → Option (ε ⊕ Unit)) (bad : Nat → Option ε) (st : Nat → σ) (hN : N ≤ 1000000000)
  (h0 : ∀ n i, i < N → (∀ j, j < i → bad j = none) → L (n + 1) (st i) (i : Int) = match bad i with | some e => some (.inl e) | none => L n (st (i + 1)) ((i + 1 : Nat) : Int))
  (h1 : ∀ n, L (n + 1) (st N) (N : Int) = some (.inr ())) : L FUEL (st 0) 0 = some (findN bad 0 N) := by
 have key : ∀ k n x, x + k = N → k < n → (∀ j, j < x → bad j = none) → L n (st x) (x : Int) = some (findN bad x k) := by
  intro k
  induction k with
  | zero =>
   intro n x hx hn hb
   obtain ⟨n, rfl⟩ : ∃ m, n = m + 1 := ⟨n - 1, by omega⟩
   rw [Nat.add_zero] at hx
   subst hx
   exact h1 n
  | succ k ih =>
   intro n x hx hn hb
   obtain ⟨n, rfl⟩ : ∃ m, n = m + 1 := ⟨n - 1, by omega⟩
   rw [h0 n x (by omega) hb, findN]
   cases hc : bad x with
   | some e => rfl
   | none =>
    exact ih n (x + 1) (by omega) (by omega) (fun j hj => by
     by_cases e : j = x
     ·subst e; exact hc
     ·exact hb j (by omega))
 exact key N FUEL 0 (by omega) (by rw [YF]; omega) (fun j hj => by omega)
namespace Saw
/-! ### The check of a solid -/
def zH (l : List Slice) (k : Nat) : Int := sumN k (fun i => (l.getD i default).Len)
theorem wY (l : List Slice) (k : Nat) : zH l (k + 1) = zH l k + (l.getD k default).Len := rfl
def badSl (l : List Slice) (i : Nat) : Option Int :=
 if WP (l.getD i default).Sec ≠ 0 then some (WP (l.getD i default).Sec)
 else if (l.getD i default).Sec.Rows.length = 0 then some 18
 else if (l.getD i default).Len < 1 ∨ 20000 - zH l i < (l.getD i default).Len then some 9 else none
theorem qHR {l : List Slice} {i : Nat} : badSl l i = none ↔ VS (l.getD i default).Sec ∧ (l.getD i default).Sec.Rows ≠ [] ∧ 1 ≤ (l.getD i default).Len ∧ zH l (i + 1) ≤ 20000 := by
 unfold badSl
 rw [← chk10_zero, wY]
 by_cases h1 : WP (l.getD i default).Sec ≠ 0
 ·rw [if_pos h1]; exact ⟨fun h => (by cases h), fun h => absurd h.1 h1⟩
 rw [if_neg h1]
 have h1' : WP (l.getD i default).Sec = 0 := by omega
 by_cases h2 : (l.getD i default).Sec.Rows.length = 0
 ·rw [if_pos h2]; exact ⟨fun h => (by cases h), fun h => absurd (List.length_eq_zero_iff.1 h2) h.2.1⟩
 rw [if_neg h2]
 have h2' : (l.getD i default).Sec.Rows ≠ [] := fun e => h2 (by rw [e]; rfl)
 by_cases h3 : (l.getD i default).Len < 1 ∨ 20000 - zH l i < (l.getD i default).Len
 ·rw [if_pos h3]
  simp only [reduceCtorEq, false_iff]
  rintro ⟨_, _, a, b⟩
  omega
 ·rw [if_neg h3]
  simp only [true_iff]
  exact ⟨h1', h2', by omega, by omega⟩
theorem qQc {l : List Slice} {i : Nat} {e : Int} (h : badSl l i = some e) : e ≠ 0 := by
 unfold badSl at h
 split at h
 ·cases h; assumption
 ·split at h
  ·cases h; decide
  ·split at h
   ·cases h; decide
   ·cases h
theorem qDV {l : List Slice} : ∀ {i : Nat}, (∀ j, j < i → badSl l j = none) → (i : Int) ≤ zH l i ∧ zH l i ≤ 20000
 | 0, _ => ⟨by simp [zH, sumN], by simp [zH, sumN]⟩
 | i + 1, h => by
  have a := qHR.1 (h i (by omega))
  have b := qDV (i := i) (fun j hj => h j (by omega))
  rw [wY] at *
  exact ⟨by omega, a.2.2.2⟩
def LS (l : List Slice) : Int := if l.length = 0 then 3 else if 24 < l.length then 4 else match findN (badSl l) 0 l.length with | .inl e => e | .inr _ => 0
theorem qNr (l : List Slice) (h : l.length ≤ 24) : yA l FUEL 0 0 = some (findN (badSl l) 0 l.length) ∧ jV l FUEL 0 0 = some (findN (badSl l) 0 l.length) := by
 constructor
 ·refine qHK l.length (yA l) (badSl l) (zH l) (by omega) (fun n i hi hb => ?_) (fun n => ?_)
  ·have b := qDV hb
   rw [yA, decide_eq_true (by omega), zA (by omega) (by omega)]
   simp only [cond_true, Int.toNat_natCast, (qDP _).1, Option.bind_some, NJ, zF (show i < 4611686018427387904 by omega)]
   rw [qP (n := 20000 - zH l i) (by omega) (by omega)]
   unfold badSl
   by_cases h1 : WP (l.getD i default).Sec ≠ 0
   ·rw [if_pos h1, show (WP (l.getD i default).Sec != 0) = true by rw [bne_iff_ne]; exact h1]; rfl
   rw [if_neg h1, show (WP (l.getD i default).Sec != 0) = false by rw [bne_eq_false_iff_eq]; omega]
   by_cases h2 : (l.getD i default).Sec.Rows.length = 0
   ·rw [if_pos h2, h2]; rfl
   rw [if_neg h2, show ((((l.getD i default).Sec.Rows.length : Nat) : Int) == 0) = false by rw [beq_eq_false_iff_ne]; omega]
   by_cases h3 : (l.getD i default).Len < 1
   ·rw [if_pos (.inl h3), decide_eq_true h3]; rfl
   rw [decide_eq_false h3]
   by_cases h4 : 20000 - zH l i < (l.getD i default).Len
   ·rw [if_pos (.inr h4), decide_eq_true (show (l.getD i default).Len > 20000 - zH l i from h4)]; rfl
   rw [if_neg (by omega), decide_eq_false (show ¬ (l.getD i default).Len > 20000 - zH l i from h4), wY, qP (by omega) (by omega)]
   rfl
  ·rw [yA, decide_eq_false (by omega)]; rfl
 ·refine qHK l.length (jV l) (badSl l) (zH l) (by omega) (fun n i hi hb => ?_) (fun n => ?_)
  ·have b := qDV hb
   rw [jV, decide_eq_true (by omega), zA (by omega) (by omega)]
   simp only [cond_true, Int.toNat_natCast, (qDP _).2, Option.bind_some, BQ, zF (show i < 4611686018427387904 by omega)]
   rw [qP (n := 20000 - zH l i) (by omega) (by omega)]
   unfold badSl
   by_cases h1 : WP (l.getD i default).Sec ≠ 0
   ·rw [if_pos h1, show (WP (l.getD i default).Sec != 0) = true by rw [bne_iff_ne]; exact h1]; rfl
   rw [if_neg h1, show (WP (l.getD i default).Sec != 0) = false by rw [bne_eq_false_iff_eq]; omega]
   by_cases h2 : (l.getD i default).Sec.Rows.length = 0
   ·rw [if_pos h2, h2]; rfl
   rw [if_neg h2, show ((((l.getD i default).Sec.Rows.length : Nat) : Int) == 0) = false by rw [beq_eq_false_iff_ne]; omega]
   by_cases h3 : (l.getD i default).Len < 1
   ·rw [if_pos (.inl h3), decide_eq_true h3]; rfl
   rw [decide_eq_false h3]
   by_cases h4 : 20000 - zH l i < (l.getD i default).Len
   ·rw [if_pos (.inr h4), decide_eq_true (show (l.getD i default).Len > 20000 - zH l i from h4)]; rfl
   rw [if_neg (by omega), decide_eq_false (show ¬ (l.getD i default).Len > 20000 - zH l i from h4), wY, qP (by omega) (by omega)]
   rfl
  ·rw [jV, decide_eq_false (by omega)]; rfl
theorem MV (l : List Slice) : PC l = some (LS l) ∧ JU l = some (LS l) := by
 unfold PC JU LS
 by_cases h0 : l.length = 0
 ·rw [if_pos h0, h0]; exact ⟨rfl, rfl⟩
 rw [if_neg h0, show (((l.length : Nat) : Int) == 0) = false by rw [beq_eq_false_iff_ne]; omega]
 by_cases h1 : 24 < l.length
 ·rw [if_pos h1, decide_eq_true (by omega)]; exact ⟨rfl, rfl⟩
 rw [if_neg h1, decide_eq_false (by omega)]
 simp only [cond_false]
 rw [(qNr l (by omega)).1, (qNr l (by omega)).2]
 cases findN (badSl l) 0 l.length <;> exact ⟨rfl, rfl⟩
/-- A valid solid. -/
structure VSol (l : List Slice) : Prop where
 ne : 0 < l.length
 len : l.length ≤ 24
 ok : ∀ i, i < l.length → badSl l i = none
theorem TU (l : List Slice) : LS l = 0 ↔ VSol l := by
 unfold LS
 by_cases h0 : l.length = 0
 ·rw [if_pos h0]; exact ⟨fun h => absurd h (by decide), fun h => by have := h.ne; omega⟩
 rw [if_neg h0]
 by_cases h1 : 24 < l.length
 ·rw [if_pos h1]; exact ⟨fun h => absurd h (by decide), fun h => by have := h.len; omega⟩
 rw [if_neg h1]
 cases hf : findN (badSl l) 0 l.length with
 | inl e =>
  obtain ⟨i, a, b, c, d⟩ := WF hf
  simp only
  exact ⟨fun h => absurd h (qQc c), fun h => by rw [h.ok i (by omega)] at c; cases c⟩
 | inr u => exact ⟨fun _ => ⟨by omega, by omega, fun i hi => TR.1 hf i (by omega) (by omega)⟩, fun _ => rfl⟩
theorem VSol.at {l : List Slice} (h : VSol l) {i : Nat} (hi : i < l.length) : VS (l.getD i default).Sec ∧ (l.getD i default).Sec.Rows ≠ [] ∧ 1 ≤ (l.getD i default).Len ∧ zH l (i + 1) ≤ 20000 := qHR.1 (h.ok i hi)
theorem VSol.bd {l : List Slice} (h : VSol l) {i : Nat} (hi : i ≤ l.length) : (i : Int) ≤ zH l i ∧ zH l i ≤ 20000 := qDV (fun j hj => h.ok j (by omega))
theorem VSol.mono {l : List Slice} (h : VSol l) : ∀ {j : Nat}, j ≤ l.length → ∀ {i : Nat}, i ≤ j → zH l i ≤ zH l j
 | 0, _, i, hi => by rw [show i = 0 by omega]; exact Int.le_refl _
 | j + 1, hj, i, hi => by
  by_cases e : i = j + 1
  ·rw [e]; exact Int.le_refl _
  ·have := h.mono (j := j) (by omega) (i := i) (by omega)
   have := (h.at (i := j) (by omega)).2.2.1
   rw [wY]; omega
def valL (l : List Slice) : List Slice := if LS l = 0 then l else []
theorem valL_eq (l : List Slice) : KZ l = some (valL l) := by
 unfold KZ valL
 rw [(MV l).1]
 simp only [Option.bind_some]
 by_cases h : LS l = 0
 ·rw [if_pos h, h]; rfl
 ·rw [if_neg h, show (LS l != 0) = true by rw [bne_iff_ne]; exact h]; rfl
theorem qDb {l : List Slice} (h : VSol l) : valL l = l := by unfold valL; rw [if_pos ((TU l).2 h)]
def zT (l : List Slice) : Int := zH l l.length
theorem qL1 {l : List Slice} (h : VSol l) : QN l FUEL 0 0 = some (zT l) ∧ QW l FUEL 0 0 = some (zT l) := by
 have hl := h.len
 have f : ∀ k, yO (fun i s => s + (l.getD i default).Len) 0 k 0 = zH l k := by
  intro k
  induction k with
  | zero => rfl
  | succ k ih => rw [TH, ih, Nat.zero_add]; rfl
 constructor
 ·have k := (JK l.length (fun n (s : Int) i => QN l n s i) (fun i s => s + (l.getD i default).Len) (fun s => s) (fun i s => s = zH l i) 0 (by omega) (by omega) (fun n i s hi hs => by
   have b := h.bd (i := i) (by omega)
   have b' := h.bd (i := i + 1) (by omega)
   rw [wY] at b'
   refine ⟨?_, by rw [hs, wY]⟩
   rw [QN, decide_eq_true (by omega), zA (by omega) (by omega)]
   simp only [cond_true, Int.toNat_natCast, zF (show i < 4611686018427387904 by omega)]
   rw [qP (by omega) (by omega)]) (fun n s _ => by rw [QN, decide_eq_false (by omega)]; rfl) 0 rfl).1
  rw [Nat.sub_zero, f] at k
  exact k
 ·have k := (JK l.length (fun n (s : Int) i => QW l n s i) (fun i s => s + (l.getD i default).Len) (fun s => s) (fun i s => s = zH l i) 0 (by omega) (by omega) (fun n i s hi hs => by
   have b := h.bd (i := i) (by omega)
   have b' := h.bd (i := i + 1) (by omega)
   rw [wY] at b'
   refine ⟨?_, by rw [hs, wY]⟩
   rw [QW, decide_eq_true (by omega), zA (by omega) (by omega)]
   simp only [cond_true, Int.toNat_natCast, zF (show i < 4611686018427387904 by omega)]
   rw [qP (by omega) (by omega)]) (fun n s _ => by rw [QW, decide_eq_false (by omega)]; rfl) 0 rfl).1
  rw [Nat.sub_zero, f] at k
  exact k
theorem qB0 (l : List Slice) : RP l = some (zT (valL l)) ∧ RK l = some (zT (valL l)) := by
 unfold RP RK
 rw [valL_eq, (MV l).2]
 simp only [Option.bind_some]
 by_cases h : LS l = 0
 ·have v := (TU l).1 h
  rw [qDb v, h, (qL1 v).1, (qL1 v).2]; exact ⟨rfl, rfl⟩
 ·have e : valL l = [] := by unfold valL; rw [if_neg h]
  rw [e, show (LS l != 0) = true by rw [bne_iff_ne]; exact h]
  constructor
  ·rw [YF]; rfl
  ·rfl
def ext (l : List Slice) (i : Nat) : Span := ⟨zH l i, zH l (i + 1)⟩
theorem qN0 {α : Type} [Inhabited α] (f : Nat → α) {n i : Nat} (h : i < n) : ((List.range n).map f).getD i default = f i := by
 rw [List.getD_eq_getElem?_getD, List.getElem?_map, List.getElem?_range h]; rfl
/-- The volume of the solid in a box. -/
def volS (l : List Slice) (x y z : Span) : Int := sumN l.length (fun i => ml (ext l i) z * jO (l.getD i default).Sec x y)
theorem qLu {s : qK} (h : VS s) (x y : Span) : 0 ≤ jO s x y ∧ jO s x y ≤ 1440000 := ⟨qJQ s x y, Int.le_trans (qKa s x y) (area_b h).2⟩
def insS (s : Span) (lo hi : Int) : Bool := decide ((lo ≤ s.A ∧ lo ≤ s.B) ∧ (s.A ≤ hi ∧ s.B ≤ hi))
theorem qPm (s : Span) (lo hi : Int) : JC s lo hi = some (insS s lo hi) := by
 unfold JC TF insS
 have a := imin_or s.A s.B
 have b := PM s.A s.B
 by_cases h1 : imin s.A s.B ≥ lo
 ·rw [decide_eq_true h1]
  by_cases h2 : imax s.A s.B ≤ hi
  ·rw [decide_eq_true h2, decide_eq_true (by omega)]; rfl
  ·rw [decide_eq_false h2, decide_eq_false (by omega)]; rfl
 ·rw [decide_eq_false h1, decide_eq_false (show ¬ ((lo ≤ s.A ∧ lo ≤ s.B) ∧ (s.A ≤ hi ∧ s.B ≤ hi)) by omega)]; rfl
def chkD (d : Defect) : Int :=
 if d.Kind < 1 ∨ 6 < d.Kind then 10
 else bif empS d.Box.X || (empS d.Box.Y || empS d.Box.Z) then 19
 else bif insS d.Box.X (-600) 600 && (insS d.Box.Y (-600) 600 && insS d.Box.Z 0 20000) then 0 else 9
theorem qJJ (s : Span) : yC s = some (empS s) := rfl
theorem chkD_eq (d : Defect) : GW d = some (chkD d) := by
 unfold GW VU KX KU chkD
 simp only [qJJ, qPm, Option.bind_some]
 by_cases h1 : d.Kind < 1
 ·rw [decide_eq_true h1, if_pos (.inl h1)]; rfl
 rw [decide_eq_false h1]
 by_cases h2 : d.Kind > 6
 ·rw [decide_eq_true h2, if_pos (.inr h2)]; rfl
 rw [decide_eq_false h2, if_neg (by omega)]
 cases empS d.Box.X <;> cases empS d.Box.Y <;> cases empS d.Box.Z <;> cases insS d.Box.X (-600) 600 <;> cases insS d.Box.Y (-600) 600 <;> cases insS d.Box.Z 0 20000 <;> rfl
structure VD (d : Defect) : Prop where
 k1 : 1 ≤ d.Kind
 k2 : d.Kind ≤ 6
 x : d.Box.X.A < d.Box.X.B ∧ -600 ≤ d.Box.X.A ∧ d.Box.X.B ≤ 600
 y : d.Box.Y.A < d.Box.Y.B ∧ -600 ≤ d.Box.Y.A ∧ d.Box.Y.B ≤ 600
 z : d.Box.Z.A < d.Box.Z.B ∧ 0 ≤ d.Box.Z.A ∧ d.Box.Z.B ≤ 20000
theorem qOA (d : Defect) : chkD d = 0 ↔ VD d := by
 unfold chkD
 by_cases h1 : d.Kind < 1 ∨ 6 < d.Kind
 ·rw [if_pos h1]; exact ⟨fun h => absurd h (by decide), fun h => by have := h.k1; have := h.k2; omega⟩
 rw [if_neg h1]
 cases hx : empS d.Box.X with
 | true => exact ⟨fun h => absurd (show (19 : Int) = 0 from h) (by decide), fun h => by have := h.x; have := of_decide_eq_true hx; omega⟩
 | false =>
 cases hy : empS d.Box.Y with
 | true => exact ⟨fun h => absurd (show (19 : Int) = 0 from h) (by decide), fun h => by have := h.y; have := of_decide_eq_true hy; omega⟩
 | false =>
 cases hz : empS d.Box.Z with
 | true => exact ⟨fun h => absurd (show (19 : Int) = 0 from h) (by decide), fun h => by have := h.z; have := of_decide_eq_true hz; omega⟩
 | false =>
 have ex := of_decide_eq_false hx
 have ey := of_decide_eq_false hy
 have ez := of_decide_eq_false hz
 unfold insS
 by_cases i1 : (-600 ≤ d.Box.X.A ∧ -600 ≤ d.Box.X.B) ∧ d.Box.X.A ≤ 600 ∧ d.Box.X.B ≤ 600
 ·rw [decide_eq_true i1]
  by_cases i2 : (-600 ≤ d.Box.Y.A ∧ -600 ≤ d.Box.Y.B) ∧ d.Box.Y.A ≤ 600 ∧ d.Box.Y.B ≤ 600
  ·rw [decide_eq_true i2]
   by_cases i3 : (0 ≤ d.Box.Z.A ∧ 0 ≤ d.Box.Z.B) ∧ d.Box.Z.A ≤ 20000 ∧ d.Box.Z.B ≤ 20000
   ·rw [decide_eq_true i3]
    exact ⟨fun _ => ⟨by omega, by omega, by omega, by omega, by omega⟩, fun _ => rfl⟩
   ·rw [decide_eq_false i3]; exact ⟨fun h => absurd h (by decide), fun h => by have := h.z; omega⟩
  ·rw [decide_eq_false i2]; exact ⟨fun h => absurd (show (9 : Int) = 0 from h) (by decide), fun h => by have := h.y; omega⟩
 ·rw [decide_eq_false i1]; exact ⟨fun h => absurd (show (9 : Int) = 0 from h) (by decide), fun h => by have := h.x; omega⟩
def badD (d : Defect) : Option Int := bif chkD d != 0 then some (chkD d) else none
def VT (l : List Defect) : Int := if 64 < l.length then 4 else match findE badD l with | .inl e => e | .inr _ => 0
theorem qMN (l : List Defect) : RH l = some (VT l) := by
 unfold RH VT
 by_cases h : 64 < l.length
 ·rw [if_pos h, decide_eq_true (by omega)]; rfl
 rw [if_neg h, decide_eq_false (by omega)]
 have L : QL l FUEL 0 = some (findE badD l) := by
  refine RX l (QL l) badD (by omega) (fun n x hx => ?_) (fun n => ?_)
  ·rw [QL, decide_eq_true (by omega), zA (by omega) (by omega)]
   simp only [cond_true, Int.toNat_natCast, zF (show x < 4611686018427387904 by omega), chkD_eq, Option.bind_some, badD]
   cases chkD (l.getD x default) != 0 <;> rfl
  ·rw [QL, decide_eq_false (by omega)]; rfl
 rw [L]
 simp only [cond_false, Option.bind_some]
 cases findE badD l <;> rfl
theorem qJC {d : Defect} : badD d = none ↔ VD d := by
 rw [← qOA]
 unfold badD
 by_cases h : chkD d = 0
 ·rw [h]; simp
 ·rw [show (chkD d != 0) = true by rw [bne_iff_ne]; exact h]; simp [h]
theorem qDY (l : List Defect) : VT l = 0 ↔ l.length ≤ 64 ∧ ∀ d ∈ l, VD d := by
 unfold VT
 by_cases h : 64 < l.length
 ·rw [if_pos h]; exact ⟨fun h => absurd h (by decide), fun h => by omega⟩
 rw [if_neg h]
 cases hf : findE badD l with
 | inl e =>
  obtain ⟨a, ha, hb⟩ := qCo hf
  simp only
  have hn : e ≠ 0 := by
   unfold badD at hb
   cases hc : chkD a != 0 with
   | true => rw [hc] at hb; cases hb; exact bne_iff_ne.1 hc
   | false => rw [hc] at hb; cases hb
  exact ⟨fun h => absurd h hn, fun h => by rw [qJC.2 (h.2 a ha)] at hb; cases hb⟩
 | inr u => exact ⟨fun _ => ⟨by omega, fun d hd => qJC.1 (HV.1 hf d hd)⟩, fun _ => rfl⟩
/-! ### Saws and rates -/
structure VW (s : Saw) (r : Rates) : Prop where
 kerf : 0 ≤ s.Kerf ∧ s.Kerf ≤ 20
 trim : 0 ≤ s.Trim ∧ s.Trim ≤ 20
 pitch : 1 ≤ s.Pitch ∧ s.Pitch ≤ 2000
 step : 1 ≤ s.Step ∧ s.Step ≤ 20000
 chip : 0 ≤ r.Chip ∧ r.Chip ≤ 1000
 dust : 0 ≤ r.Dust ∧ r.Dust ≤ 1000
 fine : 0 ≤ r.Fine ∧ r.Fine ≤ 1000000
theorem qJ8 (n : Int) : RM n = some (decide (1 ≤ n ∧ n ≤ 20000)) := by
 unfold RM VZ
 by_cases h1 : n ≥ 1
 ·rw [decide_eq_true h1]
  by_cases h2 : n ≤ 20000
  ·rw [decide_eq_true h2, decide_eq_true ⟨h1, h2⟩]; rfl
  ·rw [decide_eq_false h2, decide_eq_false (fun h => h2 h.2)]; rfl
 ·rw [decide_eq_false h1, decide_eq_false (show ¬ (1 ≤ n ∧ n ≤ 20000) from fun h => h1 h.1)]; rfl
theorem qKh (n : Int) : RB n = some (decide (0 ≤ n ∧ n ≤ 1000000)) := by
 unfold RB GR
 by_cases h1 : n ≥ 0
 ·rw [decide_eq_true h1]
  by_cases h2 : n ≤ 1000000
  ·rw [decide_eq_true h2, decide_eq_true ⟨h1, h2⟩]; rfl
  ·rw [decide_eq_false h2, decide_eq_false (fun h => h2 h.2)]; rfl
 ·rw [decide_eq_false h1, decide_eq_false (show ¬ (0 ≤ n ∧ n ≤ 1000000) from fun h => h1 h.1)]; rfl
open Classical in
noncomputable def IH (s : Saw) (r : Rates) : Int := if VW s r then 0 else 9
theorem qAz (s : Saw) (r : Rates) : IH s r = 0 ↔ VW s r := by
 unfold IH
 by_cases h : VW s r
 ·rw [if_pos h]; simp [h]
 ·rw [if_neg h]; simp [h]
theorem qPV (s : Saw) (r : Rates) : FR s r = some (IH s r) := by
 unfold FR YI RT ZX
 simp only [qJ8, qKh, Option.bind_some]
 have no : ¬ VW s r → IH s r = 9 := fun h => by unfold IH; rw [if_neg h]
 by_cases c1 : s.Kerf < 0
 ·rw [decide_eq_true c1, no (fun h => by have := h.kerf; omega)]; rfl
 rw [decide_eq_false c1]
 by_cases c2 : s.Kerf > 20
 ·rw [decide_eq_true c2, no (fun h => by have := h.kerf; omega)]; rfl
 rw [decide_eq_false c2]
 by_cases c3 : s.Trim < 0
 ·rw [decide_eq_true c3, no (fun h => by have := h.trim; omega)]; rfl
 rw [decide_eq_false c3]
 by_cases c4 : s.Trim > 20
 ·rw [decide_eq_true c4, no (fun h => by have := h.trim; omega)]; rfl
 rw [decide_eq_false c4]
 simp only [cond_false]
 by_cases c5 : s.Pitch < 1
 ·rw [decide_eq_true c5, no (fun h => by have := h.pitch; omega)]; rfl
 rw [decide_eq_false c5]
 by_cases c6 : s.Pitch > 2000
 ·rw [decide_eq_true c6, no (fun h => by have := h.pitch; omega)]; rfl
 rw [decide_eq_false c6]
 by_cases c7 : 1 ≤ s.Step ∧ s.Step ≤ 20000
 ·rw [decide_eq_true c7]
  simp only [cond_false, Bool.not_true]
  by_cases d1 : r.Chip < 0
  ·rw [decide_eq_true d1, no (fun h => by have := h.chip; omega)]; rfl
  rw [decide_eq_false d1]
  by_cases d2 : r.Chip > 1000
  ·rw [decide_eq_true d2, no (fun h => by have := h.chip; omega)]; rfl
  rw [decide_eq_false d2]
  by_cases d3 : r.Dust < 0
  ·rw [decide_eq_true d3, no (fun h => by have := h.dust; omega)]; rfl
  rw [decide_eq_false d3]
  by_cases d4 : r.Dust > 1000
  ·rw [decide_eq_true d4, no (fun h => by have := h.dust; omega)]; rfl
  rw [decide_eq_false d4]
  by_cases d5 : 0 ≤ r.Fine ∧ r.Fine ≤ 1000000
  ·rw [decide_eq_true d5, (qAz s r).2 ⟨by omega, by omega, by omega, by omega, by omega, by omega, by omega⟩]; rfl
  ·rw [decide_eq_false d5, no (fun h => d5 h.fine)]; rfl
 ·rw [decide_eq_false c7, no (fun h => c7 h.step)]; rfl
/-! ### Rectangles -/
def VR (r : Rect) : Prop := (-600 ≤ r.X.A ∧ r.X.A < r.X.B ∧ r.X.B ≤ 600) ∧ (-600 ≤ r.Y.A ∧ r.Y.A < r.Y.B ∧ r.Y.B ≤ 600)
instance (r : Rect) : Decidable (VR r) := by unfold VR; exact inferInstance
def badR (lo hi : Int) : Option Bool := if lo < -600 ∨ 600 < hi ∨ hi ≤ lo then some false else none
theorem qCF {lo hi : Int} : badR lo hi = none ↔ -600 ≤ lo ∧ lo < hi ∧ hi ≤ 600 := by
 unfold badR
 by_cases h : lo < -600 ∨ 600 < hi ∨ hi ≤ lo
 ·rw [if_pos h]; exact ⟨fun h => (by cases h), fun h => by omega⟩
 ·rw [if_neg h]; exact ⟨fun _ => by omega, fun _ => rfl⟩
theorem qMA (r : Rect) (L : Nat → Int → Option (Bool ⊕ Unit))
  (h0 : ∀ n, L (n + 1) 0 = match badR r.X.A r.X.B with | some e => some (.inl e) | none => L n 1)
  (h1 : ∀ n, L (n + 1) 1 = match badR r.Y.A r.Y.B with | some e => some (.inl e) | none => L n 2)
  (h2 : ∀ n, L (n + 1) 2 = some (.inr ())) : ((L FUEL 0).bind fun u => Sum.elim (fun v => some v) (fun _ => some true) u) = some (decide (VR r)) := by
 rw [YF, show (4611686018427387904 : Nat) = 4611686018427387901 + 1 + 1 + 1 from rfl, h0]
 cases hx : badR r.X.A r.X.B with
 | some e =>
  have : ¬ VR r := fun h => by rw [qCF.2 h.1] at hx; cases hx
  rw [decide_eq_false this]
  unfold badR at hx
  split at hx <;> cases hx
  rfl
 | none =>
  simp only
  rw [h1]
  cases hy : badR r.Y.A r.Y.B with
  | some e =>
   have : ¬ VR r := fun h => by rw [qCF.2 h.2] at hy; cases hy
   rw [decide_eq_false this]
   unfold badR at hy
   split at hy <;> cases hy
   rfl
  | none =>
   simp only
   rw [h2, decide_eq_true (show VR r from ⟨qCF.1 hx, qCF.1 hy⟩)]; rfl
theorem qLf {lo hi : Int} {α : Type} (k : Bool → α) : (bif decide (lo < -600) then k true else bif decide (hi > 600) then k true else k (decide (lo ≥ hi))) = k (match badR lo hi with | some _ => true | none => false) := by
 unfold badR
 by_cases h1 : lo < -600
 ·rw [decide_eq_true h1, if_pos (.inl h1)]; rfl
 rw [decide_eq_false h1]
 by_cases h2 : hi > 600
 ·rw [decide_eq_true h2, if_pos (by omega)]; rfl
 rw [decide_eq_false h2]
 by_cases h3 : lo ≥ hi
 ·rw [decide_eq_true h3, if_pos (by omega)]; rfl
 ·rw [decide_eq_false h3, if_neg (by omega)]; rfl
theorem qOU (r : Rect) : BO r = some (decide (VR r)) := by
 unfold BO
 refine qMA r (zY r) (fun n => ?_) (fun n => ?_) (fun n => ?_)
 ·rw [zY, decide_eq_true (by omega), zA (by omega) (by omega)]
  simp only [cond_true]
  refine (qLf (lo := r.X.A) (hi := r.X.B) (fun b => yN 0 (zY r n) b)).trans ?_
  unfold badR yN
  split <;> rename_i h <;> revert h <;> split <;> intro h <;> (try cases h) <;> rfl
 ·rw [zY, decide_eq_true (by omega), zA (by omega) (by omega)]
  simp only [cond_true]
  refine (qLf (lo := r.Y.A) (hi := r.Y.B) (fun b => yN 1 (zY r n) b)).trans ?_
  unfold badR yN
  split <;> rename_i h <;> revert h <;> split <;> intro h <;> (try cases h) <;> rfl
 ·rw [zY, decide_eq_false (by omega)]; rfl
theorem isFrame_eq (r : Rect) : WU r = some (decide (VR r)) := by
 unfold WU
 refine qMA r (zN r) (fun n => ?_) (fun n => ?_) (fun n => ?_)
 ·rw [zN, decide_eq_true (by omega), zA (by omega) (by omega)]
  simp only [cond_true]
  refine (qLf (lo := r.X.A) (hi := r.X.B) (fun b => wP 0 (zN r n) b)).trans ?_
  unfold badR wP
  split <;> rename_i h <;> revert h <;> split <;> intro h <;> (try cases h) <;> rfl
 ·rw [zN, decide_eq_true (by omega), zA (by omega) (by omega)]
  simp only [cond_true]
  refine (qLf (lo := r.Y.A) (hi := r.Y.B) (fun b => wP 1 (zN r n) b)).trans ?_
  unfold badR wP
  split <;> rename_i h <;> revert h <;> split <;> intro h <;> (try cases h) <;> rfl
 ·rw [zN, decide_eq_false (by omega)]; rfl
structure VE (s : List Slice) (d : List Defect) (p : List Product) (r : Rect) (w : Saw) (t : Rates) : Prop where
 sol : VSol s
 dl : d.length ≤ 64
 dd : ∀ x ∈ d, VD x
 pr : QE p = 0
 vw : VW w t
 vr : VR r
end Saw
end Go.SL

namespace Go.SL
/-- A loop whose index goes as it likes. -/
theorem qHr {σ β ι : Type} (N : Nat) (L : Nat → σ → ι → Option β) (idx : Nat → ι) (f : Nat → σ → σ) (out : σ → β) (Inv : Nat → σ → Prop) (hN : N ≤ 1000000000)
  (h0 : ∀ n i s, i < N → Inv i s → L (n + 1) s (idx i) = L n (f i s) (idx (i + 1)) ∧ Inv (i + 1) (f i s))
  (h1 : ∀ n s, Inv N s → L (n + 1) s (idx N) = some (out s)) (s : σ) (hs : Inv 0 s) : L FUEL s (idx 0) = some (out (yO f 0 N s)) ∧ Inv N (yO f 0 N s) := by
 have key : ∀ k n x s, x + k = N → k < n → Inv x s → L n s (idx x) = some (out (yO f x k s)) ∧ Inv N (yO f x k s) := by
  intro k
  induction k with
  | zero =>
   intro n x s hx hn hi
   obtain ⟨n, rfl⟩ : ∃ m, n = m + 1 := ⟨n - 1, by omega⟩
   rw [Nat.add_zero] at hx
   subst hx
   exact ⟨h1 n s hi, hi⟩
  | succ k ih =>
   intro n x s hx hn hi
   obtain ⟨n, rfl⟩ : ∃ m, n = m + 1 := ⟨n - 1, by omega⟩
   have h := h0 n x s (by omega) hi
   rw [h.1]
   exact ih n (x + 1) (f x s) (by omega) (by omega) h.2
 exact key N FUEL 0 s (by omega) (by rw [YF]; omega) hs
namespace Saw
/-! ### Prices -/
def priceAt (p : Product) (n : Int) (i : Nat) : Option (Int × Bool) :=
 if p.Lengths.getD i default ≠ n then none else if p.Prices.length ≤ i then some (0, false) else some (p.Prices.getD i default, true)
def PI (p : Product) (n : Int) : Int × Bool := match findN (priceAt p n) 0 p.Lengths.length with | .inl e => e | .inr _ => (0, false)
theorem qPH (p : Product) (n : Int) (h : p.Lengths.length ≤ 1000000) : UT p n = some (PI p n) := by
 unfold UT PI
 have L : yV p n FUEL ((0 : Nat) : Int) = some (findN (priceAt p n) 0 (p.Lengths.length - 0)) := by
  refine QO p.Lengths.length (yV p n) _ 0 (by omega) (by omega) (fun m i hi hN => ?_) (fun m => ?_)
  ·rw [yV, decide_eq_true (by omega), zA (by omega) (by omega)]
   simp only [cond_true, Int.toNat_natCast, zF (show i < 4611686018427387904 by omega), priceAt]
   by_cases c : p.Lengths.getD i default ≠ n
   ·rw [if_pos c, show (p.Lengths.getD i default != n) = true by rw [bne_iff_ne]; exact c]; rfl
   rw [if_neg c, show (p.Lengths.getD i default != n) = false by rw [bne_eq_false_iff_eq]; omega]
   by_cases c2 : p.Prices.length ≤ i
   ·rw [if_pos c2, decide_eq_true (show (i : Int) ≥ ((p.Prices.length : Nat) : Int) by omega)]; rfl
   ·rw [if_neg c2, decide_eq_false (show ¬ (i : Int) ≥ ((p.Prices.length : Nat) : Int) by omega), zA (by omega) (by omega)]; rfl
  ·rw [yV, decide_eq_false (by omega)]; rfl
 rw [show ((0 : Nat) : Int) = 0 from rfl, Nat.sub_zero] at L
 rw [L]
 simp only [Option.bind_some]
 cases findN (priceAt p n) 0 p.Lengths.length <;> rfl
/-! ### What defects touch -/
def tch (d b : Box) : Bool := !(empS (mxS d.X b.X) || (empS (mxS d.Y b.Y) || empS (mxS d.Z b.Z)))
theorem qHz (d : Defect) (b : Box) : YH d b = some (tch d.Box b) := by
 unfold YH IG RG tch
 simp only [qEA, Option.bind_some, qJJ, qJb]
 cases empS (mxS d.Box.X b.X) <;> cases empS (mxS d.Box.Y b.Y) <;> cases empS (mxS d.Box.Z b.Z) <;> rfl
/-! ### Wane -/
def QF (r : Rect) : Int := (r.X.B - r.X.A) * (r.Y.B - r.Y.A)
def NC (a w : Int) : Int := Int.tdiv (1000 * (a - w) + a - 1) a
def zones (l : List Slice) (r : Rect) : List Worth_zone := (List.range l.length).map (fun i => ⟨ext l i, NC (QF r) (jO (l.getD i default).Sec r.X r.Y)⟩)
theorem qNl {r : Rect} (h : VR r) : 1 ≤ QF r ∧ QF r ≤ 1440000 := by
 unfold VR at h
 unfold QF
 have a := qEO (a := r.X.B - r.X.A) (b := r.Y.B - r.Y.A) (m := 1200) (n := 1200) (by omega) (by omega) (by omega) (by omega) (by omega) (by omega)
 have b := Int.mul_pos (show 0 < r.X.B - r.X.A by omega) (show 0 < r.Y.B - r.Y.A by omega)
 omega
theorem qPS {l : List Slice} (h : VSol l) {r : Rect} (hr : VR r) : FU l r = some (zones l r) := by
 have hl := h.len
 have ha := qNl hr
 have eA : w64 (w64 (r.X.B - r.X.A) * w64 (r.Y.B - r.Y.A)) = QF r := by
  have hr' := hr
  unfold VR at hr'
  rw [qP (n := r.X.B - r.X.A) (by omega) (by omega), qP (n := r.Y.B - r.Y.A) (by omega) (by omega)]
  unfold QF at ha ⊢
  exact qP (by omega) (by omega)
 unfold FU
 let zn : Nat → Worth_zone := fun i => ⟨ext l i, NC (QF r) (jO (l.getD i default).Sec r.X r.Y)⟩
 have k := JK l.length (fun n (s : List Worth_zone × Int) i => YJ l r n s.1 s.2 i) (fun i s => (s.1 ++ [zn i], zH l (i + 1))) (fun s => s.1)
  (fun i s => s.1 = (List.range i).map zn ∧ s.2 = zH l i) 0 (by omega) (by omega)
  (fun n i s hi hs => by
   obtain ⟨s1, s2⟩ := s
   obtain ⟨e1, e2⟩ := hs
   simp only at e1 e2
   have b := h.bd (i := i) (by omega)
   have b' := h.bd (i := i + 1) (by omega)
   have wb := qLu (h.at hi).1 r.X r.Y
   rw [wY] at b'
   have e1' : s1.length = i := by rw [e1]; simp
   refine ⟨?_, by rw [e1, List.range_succ, List.map_append]; rfl, rfl⟩
   simp only
   rw [YJ, decide_eq_true (by omega), zA (by omega) (by omega)]
   simp only [cond_true, Int.toNat_natCast, zF (show i < 4611686018427387904 by omega), qON, Option.bind_some, eA, e2]
   rw [qMv (h.at hi).1, nz_t (by omega), JN (by omega) (by omega), qP (n := zH l i + (l.getD i default).Len) (by omega) (by omega),
    qP (n := QF r - jO (l.getD i default).Sec r.X r.Y) (by omega) (by omega), qP (n := 1000 * _) (by omega) (by omega), qP (n := 1000 * _ + _) (by omega) (by omega), qP (n := 1000 * _ + _ - 1) (by omega) (by omega)]
   simp only [cond_true]
   have tb : -2000000000 ≤ NC (QF r) (jO (l.getD i default).Sec r.X r.Y) ∧ NC (QF r) (jO (l.getD i default).Sec r.X r.Y) ≤ 2000000000 := by
    unfold NC
    generalize hu : 1000 * (QF r - jO (l.getD i default).Sec r.X r.Y) + QF r - 1 = u
    have hub : -1440000000 ≤ u ∧ u ≤ 1441440000 := by omega
    have ab := Int.natAbs_tdiv_le_natAbs u (QF r)
    omega
   unfold NC at tb
   rw [qP (by omega) (by omega)]
   rfl)
  (fun n s _ => by rw [YJ, decide_eq_false (by omega)]; rfl) ([], 0) ⟨rfl, rfl⟩
 rw [show ((0 : Nat) : Int) = 0 from rfl] at k
 rw [k.1]
 exact congrArg some k.2.1
/-! ### Valid products -/
structure VP (p : Product) : Prop where
 nm : isNm p.Name = true
 th : 5 ≤ p.Thick ∧ p.Thick ≤ 300
 wd : p.Thick ≤ p.Width ∧ p.Width ≤ 600
 al : 0 ≤ p.Allow ∧ p.Allow ≤ 200
 wn : 0 ≤ p.Wane ∧ p.Wane ≤ 1000
 gr : (zV p).2 ≤ 600
 ll : 1 ≤ p.Lengths.length ∧ p.Lengths.length ≤ 8
 pl : p.Prices.length = p.Lengths.length
 lb : ∀ i, i < p.Lengths.length → 100 ≤ p.Lengths.getD i default ∧ p.Lengths.getD i default ≤ 20000
 pb : ∀ x ∈ p.Prices, 0 ≤ x ∧ x ≤ 1000000
theorem qNc {p : Product} (hn : isNm p.Name = true) (h : PZ p = 0) : VP p := by
 unfold PZ at h
 by_cases h1 : p.Thick < 5 ∨ 300 < p.Thick ∨ p.Width < p.Thick ∨ 600 < p.Width ∨ p.Allow < 0 ∨ 200 < p.Allow ∨ p.Wane < 0 ∨ 1000 < p.Wane
 ·rw [if_pos h1] at h; exact absurd h (by decide)
 rw [if_neg h1] at h
 by_cases h2 : 600 < (zV p).2
 ·rw [if_pos h2] at h; exact absurd h (by decide)
 rw [if_neg h2] at h
 unfold qA2 at h
 by_cases h3 : p.Lengths.length = 0
 ·rw [if_pos h3] at h; exact absurd h (by decide)
 rw [if_neg h3] at h
 by_cases h4 : 8 < p.Lengths.length
 ·rw [if_pos h4] at h; exact absurd h (by decide)
 rw [if_neg h4] at h
 by_cases h5 : p.Prices.length ≠ p.Lengths.length
 ·rw [if_pos h5] at h; exact absurd h (by decide)
 rw [if_neg h5] at h
 cases hf : findN (badLen p) 0 p.Lengths.length with
 | inl e =>
  rw [hf] at h
  obtain ⟨i, a, b, c, d⟩ := WF hf
  unfold badLen at c
  simp only at h
  subst h
  split at c
  ·cases c
  ·split at c <;> cases c
 | inr u =>
  rw [hf] at h
  cases hg : findE badPr p.Prices with
  | inl e =>
   rw [hg] at h
   obtain ⟨a, ha, hb⟩ := qCo hg
   simp only at h
   subst h
   unfold badPr at hb
   split at hb <;> cases hb
  | inr u' =>
   refine ⟨hn, by omega, by omega, by omega, by omega, by omega, by omega, by omega, fun i hi => ?_, fun x hx => ?_⟩
   ·have := TR.1 hf i (by omega) (by omega)
    unfold badLen at this
    split at this
    ·cases this
    ·omega
   ·have := HV.1 hg x hx
    unfold badPr at this
    split at this
    ·cases this
    ·omega
theorem qKj {p : Product} (hn : isNm p.Name = true) {l : List Product} {i : Nat} (h : badP l i = none) (e : l.getD i default = p) : PZ p = 0 := by
 unfold badP at h
 rw [e, hn] at h
 simp only [cond_true] at h
 cases hf : findN (twin l i) 0 i with
 | inl e => rw [hf] at h; cases h
 | inr u =>
  rw [hf] at h
  by_cases hc : PZ p = 0
  ·exact hc
  ·rw [show (PZ p != 0) = true by rw [bne_iff_ne]; exact hc] at h; cases h
theorem qJt {l : List Product} {i : Nat} (h : badP l i = none) : isNm (l.getD i default).Name = true := by
 unfold badP at h
 cases hn : isNm (l.getD i default).Name with
 | true => rfl
 | false => rw [hn] at h; cases h
theorem qMx {l : List Product} (h : QE l = 0) {i : Nat} (hi : i < l.length) : badP l i = none := by
 unfold QE at h
 split at h
 ·exact absurd h (by decide)
 ·cases hf : findN (badP l) 0 l.length with
  | inr u => exact TR.1 hf i (by omega) (by omega)
  | inl e =>
   rw [hf] at h
   simp only at h
   subst h
   obtain ⟨j, a, b, c, d⟩ := WF hf
   unfold badP at c
   cases hn : isNm (l.getD j default).Name with
   | false => rw [hn] at c; cases c
   | true =>
    rw [hn] at c
    simp only [cond_true] at c
    cases hf' : findN (twin l j) 0 j with
    | inl e =>
     rw [hf'] at c
     obtain ⟨i', a', b', c', d'⟩ := WF hf'
     unfold twin at c'
     cases c
     cases hs : strEq (l.getD i' default).Name (l.getD j default).Name <;> rw [hs] at c' <;> cases c'
    | inr u =>
     rw [hf'] at c
     cases hz : PZ (l.getD j default) != 0 with
     | true => rw [hz] at c; simp only [cond_true] at c; injection c with c; exact absurd c (bne_iff_ne.1 hz)
     | false => rw [hz] at c; cases c
theorem qPQ {l : List Product} (h : QE l = 0) {i : Nat} (hi : i < l.length) : VP (l.getD i default) := by
 have b := qMx h hi
 exact qNc (qJt b) (qKj (qJt b) b rfl)
theorem qPl {l : List Product} (h : QE l = 0) {i : Nat} (hi : i < l.length) : QE [l.getD i default] = 0 := by
 have b := qMx h hi
 have hn := qJt b
 have hc := qKj hn b rfl
 unfold QE
 rw [if_neg (by simp)]
 have e : badP [l.getD i default] 0 = none := by
  unfold badP
  rw [show [l.getD i default].getD 0 default = l.getD i default from rfl, hn, hc]
  rfl
 simp only [List.length_cons, List.length_nil, Nat.zero_add, findN, e]
/-! ### The worst wane -/
def hitZ (z s : Span) : Bool := decide (z.A < s.B) && decide (s.A < z.B)
def worst (zs : List Worth_zone) (s : Span) : Int := yO (fun i m => bif hitZ (zs.getD i default).z s then imax m (zs.getD i default).lack else m) 0 zs.length 0
theorem qP7 (zs : List Worth_zone) (s : Span) (h : zs.length ≤ 1000000) : FW zs s = some (worst zs s) := by
 unfold FW worst
 have k := JK zs.length (fun n (m : Int) i => yF zs s n m i) (fun i m => bif hitZ (zs.getD i default).z s then imax m (zs.getD i default).lack else m) (fun m => m) (fun _ _ => True) 0 (by omega) (by omega)
  (fun n i m hi _ => ⟨by
   rw [yF, decide_eq_true (by omega), zA (by omega) (by omega)]
   simp only [cond_true, Int.toNat_natCast, zF (show i < 4611686018427387904 by omega), BS, BV, hitZ]
   cases decide ((zs.getD i default).z.A < s.B) <;> cases decide (s.A < (zs.getD i default).z.B) <;> rfl, trivial⟩)
  (fun n m _ => by rw [yF, decide_eq_false (by omega)]; rfl) 0 trivial
 rw [show ((0 : Nat) : Int) = 0 from rfl, Nat.sub_zero] at k
 rw [k.1]; rfl
/-! ### A piece's worth -/
def dstep (ds : List Defect) (b : Box) (fine : Int) (i : Nat) (v : Int) : (Int × Bool) ⊕ Int :=
 bif tch (ds.getD i default).Box b then (bif (ds.getD i default).Kind == 3 then .inl (0, false) else .inr (v - fine)) else .inr v
def BI (ds : List Defect) (b : Box) (fine v : Int) : Int × Bool := match runN (dstep ds b fine) 0 ds.length v with | .inl e => e | .inr o => (imax o 0, true)
def worthV (v : Worth_view) (s : Span) (fine : Int) : Int × Bool :=
 if 0 ≤ s.A ∧ s.A < s.B ∧ s.B ≤ v.length then
  bif (PI v.product (s.B - s.A)).2 then
   if worst v.zones s > v.product.Wane then (0, false) else BI v.defects ⟨v.rect.X, v.rect.Y, s⟩ fine (PI v.product (s.B - s.A)).1
  else (0, false)
 else (0, false)
theorem qNE {p : Product} (h : VP p) (n : Int) : 0 ≤ (PI p n).1 ∧ (PI p n).1 ≤ 1000000 := by
 unfold PI
 cases hf : findN (priceAt p n) 0 p.Lengths.length with
 | inr u => exact ⟨show (0 : Int) ≤ 0 by decide, show (0 : Int) ≤ 1000000 by decide⟩
 | inl e =>
  obtain ⟨i, a, b, c, d⟩ := WF hf
  unfold priceAt at c
  split at c
  ·cases c
  ·split at c
   ·cases c; exact ⟨by decide, by decide⟩
   ·cases c
    exact h.pb _ (KF (by omega))
theorem qOy (v : Worth_view) (s : Span) {fine v0 : Int} (hf : 0 ≤ fine ∧ fine ≤ 1000000) (hv : 0 ≤ v0 ∧ v0 ≤ 1000000) (hl : v.defects.length ≤ 64) :
  ((zK v fine ⟨v.rect.X, v.rect.Y, s⟩ FUEL v0 0).bind fun u => Sum.elim (fun w => some w) (fun o => some (imax o 0, true)) u) = some (BI v.defects ⟨v.rect.X, v.rect.Y, s⟩ fine v0) := by
 have k := qCG v.defects.length (fun n (m : Int) i => zK v fine ⟨v.rect.X, v.rect.Y, s⟩ n m i) (dstep v.defects ⟨v.rect.X, v.rect.Y, s⟩ fine) (fun r => r) (fun i m => -(1000000 * (i : Int)) ≤ m ∧ m ≤ 1000000)
  (fun n i m hi hm => by
   unfold dstep
   have e : zK v fine ⟨v.rect.X, v.rect.Y, s⟩ (n + 1) m (i : Int) = bif tch (v.defects.getD i default).Box ⟨v.rect.X, v.rect.Y, s⟩ then (bif (v.defects.getD i default).Kind == 3 then some (.inl (0, false)) else zK v fine ⟨v.rect.X, v.rect.Y, s⟩ n (m - fine) ((i + 1 : Nat) : Int)) else zK v fine ⟨v.rect.X, v.rect.Y, s⟩ n m ((i + 1 : Nat) : Int) := by
    rw [zK, decide_eq_true (by omega), zA (by omega) (by omega)]
    simp only [cond_true, Int.toNat_natCast, zF (show i < 4611686018427387904 by omega), qHz, Option.bind_some, YY]
    rw [qP (n := m - fine) (by omega) (by omega)]
    cases tch (v.defects.getD i default).Box ⟨v.rect.X, v.rect.Y, s⟩ <;> cases (v.defects.getD i default).Kind == 3 <;> rfl
   cases h1 : tch (v.defects.getD i default).Box ⟨v.rect.X, v.rect.Y, s⟩ with
   | false => rw [h1] at e; exact ⟨e, by omega⟩
   | true => cases h2 : (v.defects.getD i default).Kind == 3 with
    | true => rw [h1, h2] at e; exact e
    | false => rw [h1, h2] at e; exact ⟨e, by omega⟩)
  (fun n m _ => by rw [zK, decide_eq_false (by omega)]; rfl) FUEL 0 v0 (by rw [YF]; omega) (by omega) (by omega)
 rw [show ((0 : Nat) : Int) = 0 from rfl, Nat.sub_zero] at k
 rw [k]
 unfold BI
 cases runN (dstep v.defects ⟨v.rect.X, v.rect.Y, s⟩ fine) 0 v.defects.length v0 <;> rfl
theorem qPi (v : Worth_view) (s : Span) {fine : Int} (hf : 0 ≤ fine ∧ fine ≤ 1000000) (hp : VP v.product) (hl : v.defects.length ≤ 64) (hz : v.zones.length ≤ 1000000) (hn : v.length ≤ 20000) :
  ZU v s fine = some (worthV v s fine) := by
 unfold ZU worthV NB JG
 have hll := hp.ll
 by_cases c1 : s.A ≥ 0
 ·rw [decide_eq_true c1]
  by_cases c2 : s.A < s.B
  ·rw [decide_eq_true c2]
   by_cases c3 : s.B ≤ v.length
   ·rw [decide_eq_true c3, if_pos ⟨c1, c2, c3⟩, qP (n := s.B - s.A) (by omega) (by omega)]
    simp only [cond_true, Option.bind_some, Bool.not_true, cond_false, qPH v.product (s.B - s.A) (by omega), qP7 v.zones s hz, YZ, JW]
    cases hq : (PI v.product (s.B - s.A)).2 with
    | false => rfl
    | true =>
     simp only [Bool.not_true, cond_false, cond_true]
     by_cases c4 : worst v.zones s > v.product.Wane
     ·rw [decide_eq_true c4, if_pos c4]; rfl
     ·rw [decide_eq_false c4, if_neg c4]
      simp only [cond_false]
      exact qOy v s hf (qNE hp _) hl
   ·rw [decide_eq_false c3, if_neg (fun h => c3 h.2.2)]; rfl
  ·rw [decide_eq_false c2, if_neg (fun h => c2 h.2.1)]; rfl
 ·rw [decide_eq_false c1, if_neg (fun h => c1 h.1)]; rfl
end Saw
end Go.SL
