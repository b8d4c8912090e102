/- Edge's plain mathematics, part 3: solids. -/
import Derived.Test.YtjobdnkaonbgnaaGreatEMa2
set_option linter.unusedVariables false
set_option linter.unusedSimpArgs false
namespace Go.SL
/-- A looking loop with a further state that the index settles. -/
theorem qH7 {ε σ : Type} (N : Nat) (L : Nat → σ → Int → Option (ε ⊕ Unit)) (bad : Nat → Option ε) (st : Nat → σ) (hN : N ≤ 1000000000)
  (h0 : ∀ n i, i < N → (∀ j, j < i → bad j = none) → L (n + 1) (st i) (i : Int) = match bad i with | some e => some (.inl e) | none => L n (st (i + 1)) ((i + 1 : Nat) : Int))
  (h1 : ∀ n, L (n + 1) (st N) (N : Int) = some (.inr ())) : L FUEL (st 0) 0 = some (findN bad 0 N) := by
 have key : ∀ k n x, x + k = N → k < n → (∀ j, j < x → bad j = none) → L n (st x) (x : Int) = some (findN bad x k) := by
  intro k
  induction k with
  | zero =>
   intro n x hx hn hb
   obtain ⟨n, rfl⟩ : ∃ m, n = m + 1 := ⟨n - 1, by omega⟩
   rw [Nat.add_zero] at hx
   subst hx
   exact h1 n
  | succ k ih =>
   intro n x hx hn hb
   obtain ⟨n, rfl⟩ : ∃ m, n = m + 1 := ⟨n - 1, by omega⟩
   rw [h0 n x (by omega) hb, findN]
   cases hc : bad x with
   | some e => rfl
   | none =>
    exact ih n (x + 1) (by omega) (by omega) (fun j hj => by
     by_cases e : j = x
     ·subst e; exact hc
     ·exact hb j (by omega))
 exact key N FUEL 0 (by omega) (by rw [YW]; omega) (fun j hj => by omega)
namespace Saw
/-! ### The check of a solid -/
def qZ (l : List Slice) (k : Nat) : Int := sumN k (fun i => (l.getD i default).Len)
theorem zH (l : List Slice) (k : Nat) : qZ l (k + 1) = qZ l k + (l.getD k default).Len := rfl
def badSl (l : List Slice) (i : Nat) : Option Int :=
 if JE (l.getD i default).Sec ≠ 0 then some (JE (l.getD i default).Sec)
 else if (l.getD i default).Sec.Rows.length = 0 then some 18
 else if (l.getD i default).Len < 1 ∨ 20000 - qZ l i < (l.getD i default).Len then some 9 else none
theorem qIr {l : List Slice} {i : Nat} : badSl l i = none ↔ VS (l.getD i default).Sec ∧ (l.getD i default).Sec.Rows ≠ [] ∧ 1 ≤ (l.getD i default).Len ∧ qZ l (i + 1) ≤ 20000 := by
 unfold badSl
 rw [← chk10_zero, zH]
 by_cases h1 : JE (l.getD i default).Sec ≠ 0
 ·rw [if_pos h1]; exact ⟨fun h => (by cases h), fun h => absurd h.1 h1⟩
 rw [if_neg h1]
 have h1' : JE (l.getD i default).Sec = 0 := by omega
 by_cases h2 : (l.getD i default).Sec.Rows.length = 0
 ·rw [if_pos h2]; exact ⟨fun h => (by cases h), fun h => absurd (List.length_eq_zero_iff.1 h2) h.2.1⟩
 rw [if_neg h2]
 have h2' : (l.getD i default).Sec.Rows ≠ [] := fun e => h2 (by rw [e]; rfl)
 by_cases h3 : (l.getD i default).Len < 1 ∨ 20000 - qZ l i < (l.getD i default).Len
 ·rw [if_pos h3]
  simp only [reduceCtorEq, false_iff]
  rintro ⟨_, _, a, b⟩
  omega
 ·rw [if_neg h3]
  simp only [true_iff]
  exact ⟨h1', h2', by omega, by omega⟩
theorem qQ2 {l : List Slice} {i : Nat} {e : Int} (h : badSl l i = some e) : e ≠ 0 := by
 unfold badSl at h
 split at h
 ·cases h; assumption
 ·split at h
  ·cases h; decide
  ·split at h
   ·cases h; decide
   ·cases h
theorem qDD {l : List Slice} : ∀ {i : Nat}, (∀ j, j < i → badSl l j = none) → (i : Int) ≤ qZ l i ∧ qZ l i ≤ 20000
 | 0, _ => ⟨by simp [qZ, sumN], by simp [qZ, sumN]⟩
 | i + 1, h => by
  have a := qIr.1 (h i (by omega))
  have b := qDD (i := i) (fun j hj => h j (by omega))
  rw [zH] at *
  exact ⟨by omega, a.2.2.2⟩
def MG (l : List Slice) : Int := if l.length = 0 then 3 else if 24 < l.length then 4 else match findN (badSl l) 0 l.length with | .inl e => e | .inr _ => 0
theorem qOc (l : List Slice) (h : l.length ≤ 24) : jZ l FUEL 0 0 = some (findN (badSl l) 0 l.length) ∧ yJ l FUEL 0 0 = some (findN (badSl l) 0 l.length) := by
 constructor
 ·refine qH7 l.length (jZ l) (badSl l) (qZ l) (by omega) (fun n i hi hb => ?_) (fun n => ?_)
  ·have b := qDD hb
   rw [jZ, decide_eq_true (by omega), qV (by omega) (by omega)]
   simp only [cond_true, Int.toNat_natCast, (qD7 _).1, Option.bind_some, NL, zA (show i < 4611686018427387904 by omega)]
   rw [qL (n := 20000 - qZ l i) (by omega) (by omega)]
   unfold badSl
   by_cases h1 : JE (l.getD i default).Sec ≠ 0
   ·rw [if_pos h1, show (JE (l.getD i default).Sec != 0) = true by rw [bne_iff_ne]; exact h1]; rfl
   rw [if_neg h1, show (JE (l.getD i default).Sec != 0) = false by rw [bne_eq_false_iff_eq]; omega]
   by_cases h2 : (l.getD i default).Sec.Rows.length = 0
   ·rw [if_pos h2, h2]; rfl
   rw [if_neg h2, show ((((l.getD i default).Sec.Rows.length : Nat) : Int) == 0) = false by rw [beq_eq_false_iff_ne]; omega]
   by_cases h3 : (l.getD i default).Len < 1
   ·rw [if_pos (.inl h3), decide_eq_true h3]; rfl
   rw [decide_eq_false h3]
   by_cases h4 : 20000 - qZ l i < (l.getD i default).Len
   ·rw [if_pos (.inr h4), decide_eq_true (show (l.getD i default).Len > 20000 - qZ l i from h4)]; rfl
   rw [if_neg (by omega), decide_eq_false (show ¬ (l.getD i default).Len > 20000 - qZ l i from h4), zH, qL (by omega) (by omega)]
   rfl
  ·rw [jZ, decide_eq_false (by omega)]; rfl
 ·refine qH7 l.length (yJ l) (badSl l) (qZ l) (by omega) (fun n i hi hb => ?_) (fun n => ?_)
  ·have b := qDD hb
   rw [yJ, decide_eq_true (by omega), qV (by omega) (by omega)]
   simp only [cond_true, Int.toNat_natCast, (qD7 _).2, Option.bind_some, FA, zA (show i < 4611686018427387904 by omega)]
   rw [qL (n := 20000 - qZ l i) (by omega) (by omega)]
   unfold badSl
   by_cases h1 : JE (l.getD i default).Sec ≠ 0
   ·rw [if_pos h1, show (JE (l.getD i default).Sec != 0) = true by rw [bne_iff_ne]; exact h1]; rfl
   rw [if_neg h1, show (JE (l.getD i default).Sec != 0) = false by rw [bne_eq_false_iff_eq]; omega]
   by_cases h2 : (l.getD i default).Sec.Rows.length = 0
   ·rw [if_pos h2, h2]; rfl
   rw [if_neg h2, show ((((l.getD i default).Sec.Rows.length : Nat) : Int) == 0) = false by rw [beq_eq_false_iff_ne]; omega]
   by_cases h3 : (l.getD i default).Len < 1
   ·rw [if_pos (.inl h3), decide_eq_true h3]; rfl
   rw [decide_eq_false h3]
   by_cases h4 : 20000 - qZ l i < (l.getD i default).Len
   ·rw [if_pos (.inr h4), decide_eq_true (show (l.getD i default).Len > 20000 - qZ l i from h4)]; rfl
   rw [if_neg (by omega), decide_eq_false (show ¬ (l.getD i default).Len > 20000 - qZ l i from h4), zH, qL (by omega) (by omega)]
   rfl
  ·rw [yJ, decide_eq_false (by omega)]; rfl
theorem TV (l : List Slice) : PP l = some (MG l) ∧ QO l = some (MG l) := by
 unfold PP QO MG
 by_cases h0 : l.length = 0
 ·rw [if_pos h0, h0]; exact ⟨rfl, rfl⟩
 rw [if_neg h0, show (((l.length : Nat) : Int) == 0) = false by rw [beq_eq_false_iff_ne]; omega]
 by_cases h1 : 24 < l.length
 ·rw [if_pos h1, decide_eq_true (by omega)]; exact ⟨rfl, rfl⟩
 rw [if_neg h1, decide_eq_false (by omega)]
 simp only [cond_false]
 rw [(qOc l (by omega)).1, (qOc l (by omega)).2]
 cases findN (badSl l) 0 l.length <;> exact ⟨rfl, rfl⟩
/-- A valid solid. -/
structure VSol (l : List Slice) : Prop where
 ne : 0 < l.length
 len : l.length ≤ 24
 ok : ∀ i, i < l.length → badSl l i = none
theorem YG (l : List Slice) : MG l = 0 ↔ VSol l := by
 unfold MG
 by_cases h0 : l.length = 0
 ·rw [if_pos h0]; exact ⟨fun h => absurd h (by decide), fun h => by have := h.ne; omega⟩
 rw [if_neg h0]
 by_cases h1 : 24 < l.length
 ·rw [if_pos h1]; exact ⟨fun h => absurd h (by decide), fun h => by have := h.len; omega⟩
 rw [if_neg h1]
 cases hf : findN (badSl l) 0 l.length with
 | inl e =>
  obtain ⟨i, a, b, c, d⟩ := WT hf
  simp only
  exact ⟨fun h => absurd h (qQ2 c), fun h => by rw [h.ok i (by omega)] at c; cases c⟩
 | inr u => exact ⟨fun _ => ⟨by omega, by omega, fun i hi => UC.1 hf i (by omega) (by omega)⟩, fun _ => rfl⟩
theorem VSol.at {l : List Slice} (h : VSol l) {i : Nat} (hi : i < l.length) : VS (l.getD i default).Sec ∧ (l.getD i default).Sec.Rows ≠ [] ∧ 1 ≤ (l.getD i default).Len ∧ qZ l (i + 1) ≤ 20000 := qIr.1 (h.ok i hi)
theorem VSol.bd {l : List Slice} (h : VSol l) {i : Nat} (hi : i ≤ l.length) : (i : Int) ≤ qZ l i ∧ qZ l i ≤ 20000 := qDD (fun j hj => h.ok j (by omega))
theorem VSol.mono {l : List Slice} (h : VSol l) : ∀ {j : Nat}, j ≤ l.length → ∀ {i : Nat}, i ≤ j → qZ l i ≤ qZ l j
 | 0, _, i, hi => by rw [show i = 0 by omega]; exact Int.le_refl _
 | j + 1, hj, i, hi => by
  by_cases e : i = j + 1
  ·rw [e]; exact Int.le_refl _
  ·have := h.mono (j := j) (by omega) (i := i) (by omega)
   have := (h.at (i := j) (by omega)).2.2.1
   rw [zH]; omega
def valL (l : List Slice) : List Slice := if MG l = 0 then l else []
theorem qIQ (l : List Slice) : PK l = some (valL l) := by
 unfold PK valL
 rw [(TV l).1]
 simp only [Option.bind_some]
 by_cases h : MG l = 0
 ·rw [if_pos h, h]; rfl
 ·rw [if_neg h, show (MG l != 0) = true by rw [bne_iff_ne]; exact h]; rfl
theorem VZ {l : List Slice} (h : VSol l) : valL l = l := by unfold valL; rw [if_pos ((YG l).2 h)]
def zI (l : List Slice) : Int := qZ l l.length
theorem qNc {l : List Slice} (h : VSol l) : ZB l FUEL 0 0 = some (zI l) ∧ QZ l FUEL 0 0 = some (zI l) := by
 have hl := h.len
 have f : ∀ k, jS (fun i s => s + (l.getD i default).Len) 0 k 0 = qZ l k := by
  intro k
  induction k with
  | zero => rfl
  | succ k ih => rw [TZ, ih, Nat.zero_add]; rfl
 constructor
 ·have k := (QB l.length (fun n (s : Int) i => ZB l n s i) (fun i s => s + (l.getD i default).Len) (fun s => s) (fun i s => s = qZ l i) 0 (by omega) (by omega) (fun n i s hi hs => by
   have b := h.bd (i := i) (by omega)
   have b' := h.bd (i := i + 1) (by omega)
   rw [zH] at b'
   refine ⟨?_, by rw [hs, zH]⟩
   rw [ZB, decide_eq_true (by omega), qV (by omega) (by omega)]
   simp only [cond_true, Int.toNat_natCast, zA (show i < 4611686018427387904 by omega)]
   rw [qL (by omega) (by omega)]) (fun n s _ => by rw [ZB, decide_eq_false (by omega)]; rfl) 0 rfl).1
  rw [Nat.sub_zero, f] at k
  exact k
 ·have k := (QB l.length (fun n (s : Int) i => QZ l n s i) (fun i s => s + (l.getD i default).Len) (fun s => s) (fun i s => s = qZ l i) 0 (by omega) (by omega) (fun n i s hi hs => by
   have b := h.bd (i := i) (by omega)
   have b' := h.bd (i := i + 1) (by omega)
   rw [zH] at b'
   refine ⟨?_, by rw [hs, zH]⟩
   rw [QZ, decide_eq_true (by omega), qV (by omega) (by omega)]
   simp only [cond_true, Int.toNat_natCast, zA (show i < 4611686018427387904 by omega)]
   rw [qL (by omega) (by omega)]) (fun n s _ => by rw [QZ, decide_eq_false (by omega)]; rfl) 0 rfl).1
  rw [Nat.sub_zero, f] at k
  exact k
theorem BG (l : List Slice) : RV l = some (zI (valL l)) ∧ WZ l = some (zI (valL l)) := by
 unfold RV WZ
 rw [qIQ, (TV l).2]
 simp only [Option.bind_some]
 by_cases h : MG l = 0
 ·have v := (YG l).1 h
  rw [VZ v, h, (qNc v).1, (qNc v).2]; exact ⟨rfl, rfl⟩
 ·have e : valL l = [] := by unfold valL; rw [if_neg h]
  rw [e, show (MG l != 0) = true by rw [bne_iff_ne]; exact h]
  constructor
  ·rw [YW]; rfl
  ·rfl
def ext (l : List Slice) (i : Nat) : Span := ⟨qZ l i, qZ l (i + 1)⟩
theorem qEb {α : Type} [Inhabited α] (f : Nat → α) {n i : Nat} (h : i < n) : ((List.range n).map f).getD i default = f i := by
 rw [List.getD_eq_getElem?_getD, List.getElem?_map, List.getElem?_range h]; rfl
theorem qOZ {l : List Slice} (h : VSol l ∨ l = []) : UX l = some ((List.range l.length).map (ext l)) := by
 unfold UX
 rcases h with h | h
 ·have hl := h.len
  rw [qP9 (by omega) (by omega), Int.toNat_natCast]
  simp only [cond_true]
  have k := QB l.length (fun n (s : List Span × Int) i => WA l n s.1 s.2 i) (fun i s => (s.1.set i (ext l i), qZ l (i + 1))) (fun s => s.1)
   (fun i s => s.1.length = l.length ∧ s.2 = qZ l i ∧ ∀ j, j < i → s.1.getD j default = ext l j) 0 (by omega) (by omega)
   (fun n i s hi hs => by
    obtain ⟨s1, s2⟩ := s
    obtain ⟨e1, e2, e3⟩ := hs
    simp only at e1 e2 e3
    have b := h.bd (i := i) (by omega)
    have b' := h.bd (i := i + 1) (by omega)
    refine ⟨?_, by simpa using e1, rfl, fun j hj => ?_⟩
    ·simp only
     rw [WA, decide_eq_true (by omega), qV (by omega) (by omega), qV (by omega) (by omega)]
     simp only [cond_true, Int.toNat_natCast, zA (show i < 4611686018427387904 by omega), e2]
     rw [zH] at b'
     rw [qL (by omega) (by omega)]
     rfl
    ·simp only
     by_cases c : j = i
     ·subst c; rw [qNx _ (by omega)]
     ·rw [qNS _ (fun e => c e.symm), e3 j (by omega)])
   (fun n s _ => by rw [WA, decide_eq_false (by omega)]; rfl) (List.replicate l.length (Span.mk 0 0), 0) ⟨by simp, rfl, fun j hj => by omega⟩
  obtain ⟨k1, k2, k3, k4⟩ := k
  simp only [Nat.sub_zero] at k1 k2 k3 k4
  rw [show ((0 : Nat) : Int) = 0 from rfl] at k1
  rw [k1]
  simp only [Option.bind_some]
  congr 1
  refine qQH (by simp [k2]) (fun j hj => ?_)
  rw [k2] at hj
  rw [k4 j hj, qEb _ hj]
 ·subst h
  rw [qP9 (by simp) (by simp)]
  rw [YW]
  rfl
theorem mx_b' {x y : Span} {M : Int} (h : x.B - x.A ≤ M) (h0 : 0 ≤ M) : (nrm (mxS x y)).B - (nrm (mxS x y)).A ≤ M := by
 unfold nrm
 cases he : empS (mxS x y) with
 | true => simpa using h0
 | false =>
  simp only [cond_false]
  unfold mxS
  have := JM x.A y.A
  have := imin_or x.B y.B
  simp only
  omega
theorem ml_eq' {x : Span} (y : Span) (h : x.B - x.A ≤ 100000) : JV (nrm (mxS x y)) = some (ml x y) := by
 rw [LS (by have := mx_b' (y := y) h (by omega); omega), qN2]; rfl
theorem ext_len {l : List Slice} (h : VSol l) {i : Nat} (hi : i < l.length) : lenS (ext l i) = (l.getD i default).Len := by
 have := (h.at hi).2.2.1
 rw [qKa, show (ext l i).A = qZ l i from rfl, show (ext l i).B = qZ l i + (l.getD i default).Len from zH l i]
 rw [if_neg (by omega)]; omega
/-- The volume of the solid in a box. -/
def volS (l : List Slice) (x y z : Span) : Int := sumN l.length (fun i => ml (ext l i) z * zM (l.getD i default).Sec x y)
theorem qG9 {s : qK} (h : VS s) (x y : Span) : 0 ≤ zM s x y ∧ zM s x y ≤ 1440000 := ⟨qKP s x y, Int.le_trans (qKi s x y) (qH6 h).2⟩
theorem qGx {l : List Slice} (h : VSol l) (x y z : Span) {i : Nat} (hi : i < l.length) : 0 ≤ ml (ext l i) z * zM (l.getD i default).Sec x y ∧ ml (ext l i) z * zM (l.getD i default).Sec x y ≤ 1440000 * (l.getD i default).Len := by
 have a := qG9 (h.at hi).1 x y
 have b := qFB (ext l i) z
 have c := ml_le (ext l i) z
 rw [ext_len h hi] at c
 refine ⟨Int.mul_nonneg b a.1, ?_⟩
 have := Int.mul_le_mul c a.2 a.1 (by have := (h.at hi).2.2.1; omega)
 rw [Int.mul_comm 1440000]; exact this
theorem qDX {l : List Slice} (h : VSol l) (x y z : Span) : ∀ {k : Nat}, k ≤ l.length → 0 ≤ sumN k (fun i => ml (ext l i) z * zM (l.getD i default).Sec x y) ∧ sumN k (fun i => ml (ext l i) z * zM (l.getD i default).Sec x y) ≤ 1440000 * qZ l k
 | 0, _ => by simp [sumN, qZ]
 | k + 1, hk => by
  have a := qDX h x y z (k := k) (by omega)
  have b := qGx h x y z (i := k) (by omega)
  rw [zH]
  simp only [sumN]
  omega
theorem qEa {l : List Slice} (h : VSol l) (x y z : Span) : 0 ≤ volS l x y z ∧ volS l x y z ≤ 28800000000 := by
 have a := qDX h x y z (Nat.le_refl l.length)
 have b := (h.bd (Nat.le_refl l.length)).2
 exact ⟨a.1, Int.le_trans a.2 (by omega)⟩
theorem qET {l : List Slice} (h : VSol l) (b : Box) : WX l b = some (volS l b.X b.Y b.Z) := by
 have hl := h.len
 unfold WX
 rw [qIQ, VZ h]
 simp only [Option.bind_some]
 rw [qOZ (.inl h)]
 simp only [Option.bind_some]
 have hlen : ((List.range l.length).map (ext l)).length = l.length := by simp
 have k := (QB l.length (fun n (s : Int) i => yU b l ((List.range l.length).map (ext l)) n s i) (fun i s => s + ml (ext l i) b.Z * zM (l.getD i default).Sec b.X b.Y) (fun s => s)
  (fun i s => s = sumN i (fun i => ml (ext l i) b.Z * zM (l.getD i default).Sec b.X b.Y)) 0 (by omega) (by omega)
  (fun n i s hi hs => by
   have p := qDX h b.X b.Y b.Z (k := i) (by omega)
   have t := qGx h b.X b.Y b.Z hi
   have bd := h.bd (i := i) (by omega)
   have at' := (h.at hi).2.2
   rw [zH] at at'
   refine ⟨?_, by rw [hs]; rfl⟩
   rw [yU, hlen, decide_eq_true (by omega), qV (by omega) (by omega)]
   simp only [cond_true, Int.toNat_natCast, zA (show i < 4611686018427387904 by omega), qEb _ hi, qB0, Option.bind_some, GH]
   rw [ml_eq' b.Z (show (ext l i).B - (ext l i).A ≤ 100000 by rw [show (ext l i).A = qZ l i from rfl, show (ext l i).B = qZ l i + (l.getD i default).Len from zH l i]; omega)]
   simp only [Option.bind_some, qKH]
   rw [AV (h.at hi).1]
   by_cases c : ml (ext l i) b.Z > 0
   ·rw [decide_eq_true c]
    simp only [cond_true]
    rw [qL (n := ml (ext l i) b.Z * zM (l.getD i default).Sec b.X b.Y) (by omega) (by omega), qL (by omega) (by omega)]
   ·have z : ml (ext l i) b.Z = 0 := by have := qFB (ext l i) b.Z; omega
    rw [decide_eq_false c, z]
    simp)
  (fun n s _ => by rw [yU, hlen, decide_eq_false (by omega)]; rfl) 0 rfl)
 rw [show ((0 : Nat) : Int) = 0 from rfl] at k
 rw [k.1]
 simp only [Option.bind_some]
 exact congrArg some k.2
def insS (s : Span) (lo hi : Int) : Bool := decide ((lo ≤ s.A ∧ lo ≤ s.B) ∧ (s.A ≤ hi ∧ s.B ≤ hi))
theorem qPW (s : Span) (lo hi : Int) : JS s lo hi = some (insS s lo hi) := by
 unfold JS TY insS
 have a := imin_or s.A s.B
 have b := JM s.A s.B
 by_cases h1 : imin s.A s.B ≥ lo
 ·rw [decide_eq_true h1]
  by_cases h2 : imax s.A s.B ≤ hi
  ·rw [decide_eq_true h2, decide_eq_true (by omega)]; rfl
  ·rw [decide_eq_false h2, decide_eq_false (by omega)]; rfl
 ·rw [decide_eq_false h1, decide_eq_false (show ¬ ((lo ≤ s.A ∧ lo ≤ s.B) ∧ (s.A ≤ hi ∧ s.B ≤ hi)) by omega)]; rfl
def chkD (d : Defect) : Int :=
 if d.Kind < 1 ∨ 6 < d.Kind then 10
 else bif empS d.Box.X || (empS d.Box.Y || empS d.Box.Z) then 19
 else bif insS d.Box.X (-600) 600 && (insS d.Box.Y (-600) 600 && insS d.Box.Z 0 20000) then 0 else 9
theorem qKO (s : Span) : yK s = some (empS s) := rfl
theorem chkD_eq (d : Defect) : BW d = some (chkD d) := by
 unfold BW DP KM KW chkD
 simp only [qKO, qPW, Option.bind_some]
 by_cases h1 : d.Kind < 1
 ·rw [decide_eq_true h1, if_pos (.inl h1)]; rfl
 rw [decide_eq_false h1]
 by_cases h2 : d.Kind > 6
 ·rw [decide_eq_true h2, if_pos (.inr h2)]; rfl
 rw [decide_eq_false h2, if_neg (by omega)]
 cases empS d.Box.X <;> cases empS d.Box.Y <;> cases empS d.Box.Z <;> cases insS d.Box.X (-600) 600 <;> cases insS d.Box.Y (-600) 600 <;> cases insS d.Box.Z 0 20000 <;> rfl
structure VD (d : Defect) : Prop where
 k1 : 1 ≤ d.Kind
 k2 : d.Kind ≤ 6
 x : d.Box.X.A < d.Box.X.B ∧ -600 ≤ d.Box.X.A ∧ d.Box.X.B ≤ 600
 y : d.Box.Y.A < d.Box.Y.B ∧ -600 ≤ d.Box.Y.A ∧ d.Box.Y.B ≤ 600
 z : d.Box.Z.A < d.Box.Z.B ∧ 0 ≤ d.Box.Z.A ∧ d.Box.Z.B ≤ 20000
theorem qQf (d : Defect) : chkD d = 0 ↔ VD d := by
 unfold chkD
 by_cases h1 : d.Kind < 1 ∨ 6 < d.Kind
 ·rw [if_pos h1]; exact ⟨fun h => absurd h (by decide), fun h => by have := h.k1; have := h.k2; omega⟩
 rw [if_neg h1]
 cases hx : empS d.Box.X with
 | true => exact ⟨fun h => absurd (show (19 : Int) = 0 from h) (by decide), fun h => by have := h.x; have := of_decide_eq_true hx; omega⟩
 | false =>
 cases hy : empS d.Box.Y with
 | true => exact ⟨fun h => absurd (show (19 : Int) = 0 from h) (by decide), fun h => by have := h.y; have := of_decide_eq_true hy; omega⟩
 | false =>
 cases hz : empS d.Box.Z with
 | true => exact ⟨fun h => absurd (show (19 : Int) = 0 from h) (by decide), fun h => by have := h.z; have := of_decide_eq_true hz; omega⟩
 | false =>
 have ex := of_decide_eq_false hx
 have ey := of_decide_eq_false hy
 have ez := of_decide_eq_false hz
 unfold insS
 by_cases i1 : (-600 ≤ d.Box.X.A ∧ -600 ≤ d.Box.X.B) ∧ d.Box.X.A ≤ 600 ∧ d.Box.X.B ≤ 600
 ·rw [decide_eq_true i1]
  by_cases i2 : (-600 ≤ d.Box.Y.A ∧ -600 ≤ d.Box.Y.B) ∧ d.Box.Y.A ≤ 600 ∧ d.Box.Y.B ≤ 600
  ·rw [decide_eq_true i2]
   by_cases i3 : (0 ≤ d.Box.Z.A ∧ 0 ≤ d.Box.Z.B) ∧ d.Box.Z.A ≤ 20000 ∧ d.Box.Z.B ≤ 20000
   ·rw [decide_eq_true i3]
    exact ⟨fun _ => ⟨by omega, by omega, by omega, by omega, by omega⟩, fun _ => rfl⟩
   ·rw [decide_eq_false i3]; exact ⟨fun h => absurd h (by decide), fun h => by have := h.z; omega⟩
  ·rw [decide_eq_false i2]; exact ⟨fun h => absurd (show (9 : Int) = 0 from h) (by decide), fun h => by have := h.y; omega⟩
 ·rw [decide_eq_false i1]; exact ⟨fun h => absurd (show (9 : Int) = 0 from h) (by decide), fun h => by have := h.x; omega⟩
def badD (d : Defect) : Option Int := bif chkD d != 0 then some (chkD d) else none
def GV (l : List Defect) : Int := if 64 < l.length then 4 else match findE badD l with | .inl e => e | .inr _ => 0
theorem qM7 (l : List Defect) : RM l = some (GV l) := by
 unfold RM GV
 by_cases h : 64 < l.length
 ·rw [if_pos h, decide_eq_true (by omega)]; rfl
 rw [if_neg h, decide_eq_false (by omega)]
 have L : QW l FUEL 0 = some (findE badD l) := by
  refine TL l (QW l) badD (by omega) (fun n x hx => ?_) (fun n => ?_)
  ·rw [QW, decide_eq_true (by omega), qV (by omega) (by omega)]
   simp only [cond_true, Int.toNat_natCast, zA (show x < 4611686018427387904 by omega), chkD_eq, Option.bind_some, badD]
   cases chkD (l.getD x default) != 0 <;> rfl
  ·rw [QW, decide_eq_false (by omega)]; rfl
 rw [L]
 simp only [cond_false, Option.bind_some]
 cases findE badD l <;> rfl
theorem qKF {d : Defect} : badD d = none ↔ VD d := by
 rw [← qQf]
 unfold badD
 by_cases h : chkD d = 0
 ·rw [h]; simp
 ·rw [show (chkD d != 0) = true by rw [bne_iff_ne]; exact h]; simp [h]
theorem qDU (l : List Defect) : GV l = 0 ↔ l.length ≤ 64 ∧ ∀ d ∈ l, VD d := by
 unfold GV
 by_cases h : 64 < l.length
 ·rw [if_pos h]; exact ⟨fun h => absurd h (by decide), fun h => by omega⟩
 rw [if_neg h]
 cases hf : findE badD l with
 | inl e =>
  obtain ⟨a, ha, hb⟩ := qCA hf
  simp only
  have hn : e ≠ 0 := by
   unfold badD at hb
   cases hc : chkD a != 0 with
   | true => rw [hc] at hb; cases hb; exact bne_iff_ne.1 hc
   | false => rw [hc] at hb; cases hb
  exact ⟨fun h => absurd h hn, fun h => by rw [qKF.2 (h.2 a ha)] at hb; cases hb⟩
 | inr u => exact ⟨fun _ => ⟨by omega, fun d hd => qKF.1 (SQ.1 hf d hd)⟩, fun _ => rfl⟩
/-! ### Saws and rates -/
structure VW (s : Saw) (r : Rates) : Prop where
 kerf : 0 ≤ s.Kerf ∧ s.Kerf ≤ 20
 trim : 0 ≤ s.Trim ∧ s.Trim ≤ 20
 pitch : 1 ≤ s.Pitch ∧ s.Pitch ≤ 2000
 step : 1 ≤ s.Step ∧ s.Step ≤ 20000
 chip : 0 ≤ r.Chip ∧ r.Chip ≤ 1000
 dust : 0 ≤ r.Dust ∧ r.Dust ≤ 1000
 fine : 0 ≤ r.Fine ∧ r.Fine ≤ 1000000
theorem qKk (n : Int) : TE n = some (decide (1 ≤ n ∧ n ≤ 20000)) := by
 unfold TE GS
 by_cases h1 : n ≥ 1
 ·rw [decide_eq_true h1]
  by_cases h2 : n ≤ 20000
  ·rw [decide_eq_true h2, decide_eq_true ⟨h1, h2⟩]; rfl
  ·rw [decide_eq_false h2, decide_eq_false (fun h => h2 h.2)]; rfl
 ·rw [decide_eq_false h1, decide_eq_false (show ¬ (1 ≤ n ∧ n ≤ 20000) from fun h => h1 h.1)]; rfl
theorem qKd (n : Int) : RP n = some (decide (0 ≤ n ∧ n ≤ 1000000)) := by
 unfold RP DB
 by_cases h1 : n ≥ 0
 ·rw [decide_eq_true h1]
  by_cases h2 : n ≤ 1000000
  ·rw [decide_eq_true h2, decide_eq_true ⟨h1, h2⟩]; rfl
  ·rw [decide_eq_false h2, decide_eq_false (fun h => h2 h.2)]; rfl
 ·rw [decide_eq_false h1, decide_eq_false (show ¬ (0 ≤ n ∧ n ≤ 1000000) from fun h => h1 h.1)]; rfl
open Classical in
noncomputable def zbQ (s : Saw) (r : Rates) : Int := if VW s r then 0 else 9
theorem qAX (s : Saw) (r : Rates) : zbQ s r = 0 ↔ VW s r := by
 unfold zbQ
 by_cases h : VW s r
 ·rw [if_pos h]; simp [h]
 ·rw [if_neg h]; simp [h]
theorem qQM (s : Saw) (r : Rates) : MD s r = some (zbQ s r) := by
 unfold MD YX RF WH
 simp only [qKk, qKd, Option.bind_some]
 have no : ¬ VW s r → zbQ s r = 9 := fun h => by unfold zbQ; rw [if_neg h]
 by_cases c1 : s.Kerf < 0
 ·rw [decide_eq_true c1, no (fun h => by have := h.kerf; omega)]; rfl
 rw [decide_eq_false c1]
 by_cases c2 : s.Kerf > 20
 ·rw [decide_eq_true c2, no (fun h => by have := h.kerf; omega)]; rfl
 rw [decide_eq_false c2]
 by_cases c3 : s.Trim < 0
 ·rw [decide_eq_true c3, no (fun h => by have := h.trim; omega)]; rfl
 rw [decide_eq_false c3]
 by_cases c4 : s.Trim > 20
 ·rw [decide_eq_true c4, no (fun h => by have := h.trim; omega)]; rfl
 rw [decide_eq_false c4]
 simp only [cond_false]
 by_cases c5 : s.Pitch < 1
 ·rw [decide_eq_true c5, no (fun h => by have := h.pitch; omega)]; rfl
 rw [decide_eq_false c5]
 by_cases c6 : s.Pitch > 2000
 ·rw [decide_eq_true c6, no (fun h => by have := h.pitch; omega)]; rfl
 rw [decide_eq_false c6]
 by_cases c7 : 1 ≤ s.Step ∧ s.Step ≤ 20000
 ·rw [decide_eq_true c7]
  simp only [cond_false, Bool.not_true]
  by_cases d1 : r.Chip < 0
  ·rw [decide_eq_true d1, no (fun h => by have := h.chip; omega)]; rfl
  rw [decide_eq_false d1]
  by_cases d2 : r.Chip > 1000
  ·rw [decide_eq_true d2, no (fun h => by have := h.chip; omega)]; rfl
  rw [decide_eq_false d2]
  by_cases d3 : r.Dust < 0
  ·rw [decide_eq_true d3, no (fun h => by have := h.dust; omega)]; rfl
  rw [decide_eq_false d3]
  by_cases d4 : r.Dust > 1000
  ·rw [decide_eq_true d4, no (fun h => by have := h.dust; omega)]; rfl
  rw [decide_eq_false d4]
  by_cases d5 : 0 ≤ r.Fine ∧ r.Fine ≤ 1000000
  ·rw [decide_eq_true d5, (qAX s r).2 ⟨by omega, by omega, by omega, by omega, by omega, by omega, by omega⟩]; rfl
  ·rw [decide_eq_false d5, no (fun h => d5 h.fine)]; rfl
 ·rw [decide_eq_false c7, no (fun h => c7 h.step)]; rfl
/-! ### Rectangles -/
def VR (r : Rect) : Prop := (-600 ≤ r.X.A ∧ r.X.A < r.X.B ∧ r.X.B ≤ 600) ∧ (-600 ≤ r.Y.A ∧ r.Y.A < r.Y.B ∧ r.Y.B ≤ 600)
instance (r : Rect) : Decidable (VR r) := by unfold VR; exact inferInstance
def badR (lo hi : Int) : Option Bool := if lo < -600 ∨ 600 < hi ∨ hi ≤ lo then some false else none
theorem qCx {lo hi : Int} : badR lo hi = none ↔ -600 ≤ lo ∧ lo < hi ∧ hi ≤ 600 := by
 unfold badR
 by_cases h : lo < -600 ∨ 600 < hi ∨ hi ≤ lo
 ·rw [if_pos h]; exact ⟨fun h => (by cases h), fun h => by omega⟩
 ·rw [if_neg h]; exact ⟨fun _ => by omega, fun _ => rfl⟩
theorem qNb (r : Rect) (L : Nat → Int → Option (Bool ⊕ Unit))
  (h0 : ∀ n, L (n + 1) 0 = match badR r.X.A r.X.B with | some e => some (.inl e) | none => L n 1)
  (h1 : ∀ n, L (n + 1) 1 = match badR r.Y.A r.Y.B with | some e => some (.inl e) | none => L n 2)
  (h2 : ∀ n, L (n + 1) 2 = some (.inr ())) : ((L FUEL 0).bind fun u => Sum.elim (fun v => some v) (fun _ => some true) u) = some (decide (VR r)) := by
 rw [YW, show (4611686018427387904 : Nat) = 4611686018427387901 + 1 + 1 + 1 from rfl, h0]
 cases hx : badR r.X.A r.X.B with
 | some e =>
  have : ¬ VR r := fun h => by rw [qCx.2 h.1] at hx; cases hx
  rw [decide_eq_false this]
  unfold badR at hx
  split at hx <;> cases hx
  rfl
 | none =>
  simp only
  rw [h1]
  cases hy : badR r.Y.A r.Y.B with
  | some e =>
   have : ¬ VR r := fun h => by rw [qCx.2 h.2] at hy; cases hy
   rw [decide_eq_false this]
   unfold badR at hy
   split at hy <;> cases hy
   rfl
  | none =>
   simp only
   rw [h2, decide_eq_true (show VR r from ⟨qCx.1 hx, qCx.1 hy⟩)]; rfl
theorem qLU {lo hi : Int} {α : Type} (k : Bool → α) : (bif decide (lo < -600) then k true else bif decide (hi > 600) then k true else k (decide (lo ≥ hi))) = k (match badR lo hi with | some _ => true | none => false) := by
 unfold badR
 by_cases h1 : lo < -600
 ·rw [decide_eq_true h1, if_pos (.inl h1)]; rfl
 rw [decide_eq_false h1]
 by_cases h2 : hi > 600
 ·rw [decide_eq_true h2, if_pos (by omega)]; rfl
 rw [decide_eq_false h2]
 by_cases h3 : lo ≥ hi
 ·rw [decide_eq_true h3, if_pos (by omega)]; rfl
 ·rw [decide_eq_false h3, if_neg (by omega)]; rfl
theorem qPc (r : Rect) : BP r = some (decide (VR r)) := by
 unfold BP
 refine qNb r (wB r) (fun n => ?_) (fun n => ?_) (fun n => ?_)
 ·rw [wB, decide_eq_true (by omega), qV (by omega) (by omega)]
  simp only [cond_true]
  refine (qLU (lo := r.X.A) (hi := r.X.B) (fun b => yT 0 (wB r n) b)).trans ?_
  unfold badR yT
  split <;> rename_i h <;> revert h <;> split <;> intro h <;> (try cases h) <;> rfl
 ·rw [wB, decide_eq_true (by omega), qV (by omega) (by omega)]
  simp only [cond_true]
  refine (qLU (lo := r.Y.A) (hi := r.Y.B) (fun b => yT 1 (wB r n) b)).trans ?_
  unfold badR yT
  split <;> rename_i h <;> revert h <;> split <;> intro h <;> (try cases h) <;> rfl
 ·rw [wB, decide_eq_false (by omega)]; rfl
theorem isFrame_eq (r : Rect) : JI r = some (decide (VR r)) := by
 unfold JI
 refine qNb r (zO r) (fun n => ?_) (fun n => ?_) (fun n => ?_)
 ·rw [zO, decide_eq_true (by omega), qV (by omega) (by omega)]
  simp only [cond_true]
  refine (qLU (lo := r.X.A) (hi := r.X.B) (fun b => wU 0 (zO r n) b)).trans ?_
  unfold badR wU
  split <;> rename_i h <;> revert h <;> split <;> intro h <;> (try cases h) <;> rfl
 ·rw [zO, decide_eq_true (by omega), qV (by omega) (by omega)]
  simp only [cond_true]
  refine (qLU (lo := r.Y.A) (hi := r.Y.B) (fun b => wU 1 (zO r n) b)).trans ?_
  unfold badR wU
  split <;> rename_i h <;> revert h <;> split <;> intro h <;> (try cases h) <;> rfl
 ·rw [zO, decide_eq_false (by omega)]; rfl
structure VE (s : List Slice) (d : List Defect) (p : List Product) (r : Rect) (w : Saw) (t : Rates) : Prop where
 sol : VSol s
 dl : d.length ≤ 64
 dd : ∀ x ∈ d, VD x
 pr : yV p = 0
 vw : VW w t
 vr : VR r
end Saw
end Go.SL

namespace Go.SL
/-- A loop whose index goes as it likes. -/
theorem qHK {σ β ι : Type} (N : Nat) (L : Nat → σ → ι → Option β) (idx : Nat → ι) (f : Nat → σ → σ) (out : σ → β) (Inv : Nat → σ → Prop) (hN : N ≤ 1000000000)
  (h0 : ∀ n i s, i < N → Inv i s → L (n + 1) s (idx i) = L n (f i s) (idx (i + 1)) ∧ Inv (i + 1) (f i s))
  (h1 : ∀ n s, Inv N s → L (n + 1) s (idx N) = some (out s)) (s : σ) (hs : Inv 0 s) : L FUEL s (idx 0) = some (out (jS f 0 N s)) ∧ Inv N (jS f 0 N s) := by
 have key : ∀ k n x s, x + k = N → k < n → Inv x s → L n s (idx x) = some (out (jS f x k s)) ∧ Inv N (jS f x k s) := by
  intro k
  induction k with
  | zero =>
   intro n x s hx hn hi
   obtain ⟨n, rfl⟩ : ∃ m, n = m + 1 := ⟨n - 1, by omega⟩
   rw [Nat.add_zero] at hx
   subst hx
   exact ⟨h1 n s hi, hi⟩
  | succ k ih =>
   intro n x s hx hn hi
   obtain ⟨n, rfl⟩ : ∃ m, n = m + 1 := ⟨n - 1, by omega⟩
   have h := h0 n x s (by omega) hi
   rw [h.1]
   exact ih n (x + 1) (f x s) (by omega) (by omega) h.2
 exact key N FUEL 0 s (by omega) (by rw [YW]; omega) hs
namespace Saw
/-! ### Prices -/
def priceAt (p : Product) (n : Int) (i : Nat) : Option (Int × Bool) :=
 if p.Lengths.getD i default ≠ n then none else if p.Prices.length ≤ i then some (0, false) else some (p.Prices.getD i default, true)
def price (p : Product) (n : Int) : Int × Bool := match findN (priceAt p n) 0 p.Lengths.length with | .inl e => e | .inr _ => (0, false)
theorem qQm (p : Product) (n : Int) (h : p.Lengths.length ≤ 1000000) : UK p n = some (price p n) := by
 unfold UK price
 have L : QC p n FUEL ((0 : Nat) : Int) = some (findN (priceAt p n) 0 (p.Lengths.length - 0)) := by
  refine ZE p.Lengths.length (QC p n) _ 0 (by omega) (by omega) (fun m i hi hN => ?_) (fun m => ?_)
  ·rw [QC, decide_eq_true (by omega), qV (by omega) (by omega)]
   simp only [cond_true, Int.toNat_natCast, zA (show i < 4611686018427387904 by omega), priceAt]
   by_cases c : p.Lengths.getD i default ≠ n
   ·rw [if_pos c, show (p.Lengths.getD i default != n) = true by rw [bne_iff_ne]; exact c]; rfl
   rw [if_neg c, show (p.Lengths.getD i default != n) = false by rw [bne_eq_false_iff_eq]; omega]
   by_cases c2 : p.Prices.length ≤ i
   ·rw [if_pos c2, decide_eq_true (show (i : Int) ≥ ((p.Prices.length : Nat) : Int) by omega)]; rfl
   ·rw [if_neg c2, decide_eq_false (show ¬ (i : Int) ≥ ((p.Prices.length : Nat) : Int) by omega), qV (by omega) (by omega)]; rfl
  ·rw [QC, decide_eq_false (by omega)]; rfl
 rw [show ((0 : Nat) : Int) = 0 from rfl, Nat.sub_zero] at L
 rw [L]
 simp only [Option.bind_some]
 cases findN (priceAt p n) 0 p.Lengths.length <;> rfl
/-! ### What defects touch -/
def tch (d b : Box) : Bool := !(empS (mxS d.X b.X) || (empS (mxS d.Y b.Y) || empS (mxS d.Z b.Z)))
theorem qH9 (d : Defect) (b : Box) : YL d b = some (tch d.Box b) := by
 unfold YL IW RE tch
 simp only [qB0, Option.bind_some, qKO, qJA]
 cases empS (mxS d.Box.X b.X) <;> cases empS (mxS d.Box.Y b.Y) <;> cases empS (mxS d.Box.Z b.Z) <;> rfl
/-! ### Wane -/
def QN (r : Rect) : Int := (r.X.B - r.X.A) * (r.Y.B - r.Y.A)
def FC (a w : Int) : Int := Int.tdiv (1000 * (a - w) + a - 1) a
def zones (l : List Slice) (r : Rect) : List Worth_zone := (List.range l.length).map (fun i => ⟨ext l i, FC (QN r) (zM (l.getD i default).Sec r.X r.Y)⟩)
theorem qOi {r : Rect} (h : VR r) : 1 ≤ QN r ∧ QN r ≤ 1440000 := by
 unfold VR at h
 unfold QN
 have a := DW (a := r.X.B - r.X.A) (b := r.Y.B - r.Y.A) (m := 1200) (n := 1200) (by omega) (by omega) (by omega) (by omega) (by omega) (by omega)
 have b := Int.mul_pos (show 0 < r.X.B - r.X.A by omega) (show 0 < r.Y.B - r.Y.A by omega)
 omega
theorem qQK {l : List Slice} (h : VSol l) {r : Rect} (hr : VR r) : LR l r = some (zones l r) := by
 have hl := h.len
 have ha := qOi hr
 have eA : w64 (w64 (r.X.B - r.X.A) * w64 (r.Y.B - r.Y.A)) = QN r := by
  have hr' := hr
  unfold VR at hr'
  rw [qL (n := r.X.B - r.X.A) (by omega) (by omega), qL (n := r.Y.B - r.Y.A) (by omega) (by omega)]
  unfold QN at ha ⊢
  exact qL (by omega) (by omega)
 unfold LR
 let zn : Nat → Worth_zone := fun i => ⟨ext l i, FC (QN r) (zM (l.getD i default).Sec r.X r.Y)⟩
 have k := QB l.length (fun n (s : List Worth_zone × Int) i => YR l r n s.1 s.2 i) (fun i s => (s.1 ++ [zn i], qZ l (i + 1))) (fun s => s.1)
  (fun i s => s.1 = (List.range i).map zn ∧ s.2 = qZ l i) 0 (by omega) (by omega)
  (fun n i s hi hs => by
   obtain ⟨s1, s2⟩ := s
   obtain ⟨e1, e2⟩ := hs
   simp only at e1 e2
   have b := h.bd (i := i) (by omega)
   have b' := h.bd (i := i + 1) (by omega)
   have wb := qG9 (h.at hi).1 r.X r.Y
   rw [zH] at b'
   have e1' : s1.length = i := by rw [e1]; simp
   refine ⟨?_, by rw [e1, List.range_succ, List.map_append]; rfl, rfl⟩
   simp only
   rw [YR, decide_eq_true (by omega), qV (by omega) (by omega)]
   simp only [cond_true, Int.toNat_natCast, zA (show i < 4611686018427387904 by omega), qKH, Option.bind_some, eA, e2]
   rw [AV (h.at hi).1, nz_t (by omega), YD (by omega) (by omega), qL (n := qZ l i + (l.getD i default).Len) (by omega) (by omega),
    qL (n := QN r - zM (l.getD i default).Sec r.X r.Y) (by omega) (by omega), qL (n := 1000 * _) (by omega) (by omega), qL (n := 1000 * _ + _) (by omega) (by omega), qL (n := 1000 * _ + _ - 1) (by omega) (by omega)]
   simp only [cond_true]
   have tb : -2000000000 ≤ FC (QN r) (zM (l.getD i default).Sec r.X r.Y) ∧ FC (QN r) (zM (l.getD i default).Sec r.X r.Y) ≤ 2000000000 := by
    unfold FC
    generalize hu : 1000 * (QN r - zM (l.getD i default).Sec r.X r.Y) + QN r - 1 = u
    have hub : -1440000000 ≤ u ∧ u ≤ 1441440000 := by omega
    have ab := Int.natAbs_tdiv_le_natAbs u (QN r)
    omega
   unfold FC at tb
   rw [qL (by omega) (by omega)]
   rfl)
  (fun n s _ => by rw [YR, decide_eq_false (by omega)]; rfl) ([], 0) ⟨rfl, rfl⟩
 rw [show ((0 : Nat) : Int) = 0 from rfl] at k
 rw [k.1]
 exact congrArg some k.2.1
/-! ### Valid products -/
structure VP (p : Product) : Prop where
 nm : isNm p.Name = true
 th : 5 ≤ p.Thick ∧ p.Thick ≤ 300
 wd : p.Thick ≤ p.Width ∧ p.Width ≤ 600
 al : 0 ≤ p.Allow ∧ p.Allow ≤ 200
 wn : 0 ≤ p.Wane ∧ p.Wane ≤ 1000
 gr : (zY p).2 ≤ 600
 ll : 1 ≤ p.Lengths.length ∧ p.Lengths.length ≤ 8
 pl : p.Prices.length = p.Lengths.length
 lb : ∀ i, i < p.Lengths.length → 100 ≤ p.Lengths.getD i default ∧ p.Lengths.getD i default ≤ 20000
 pb : ∀ x ∈ p.Prices, 0 ≤ x ∧ x ≤ 1000000
theorem qNH {p : Product} (hn : isNm p.Name = true) (h : RC p = 0) : VP p := by
 unfold RC at h
 by_cases h1 : p.Thick < 5 ∨ 300 < p.Thick ∨ p.Width < p.Thick ∨ 600 < p.Width ∨ p.Allow < 0 ∨ 200 < p.Allow ∨ p.Wane < 0 ∨ 1000 < p.Wane
 ·rw [if_pos h1] at h; exact absurd h (by decide)
 rw [if_neg h1] at h
 by_cases h2 : 600 < (zY p).2
 ·rw [if_pos h2] at h; exact absurd h (by decide)
 rw [if_neg h2] at h
 unfold qBP at h
 by_cases h3 : p.Lengths.length = 0
 ·rw [if_pos h3] at h; exact absurd h (by decide)
 rw [if_neg h3] at h
 by_cases h4 : 8 < p.Lengths.length
 ·rw [if_pos h4] at h; exact absurd h (by decide)
 rw [if_neg h4] at h
 by_cases h5 : p.Prices.length ≠ p.Lengths.length
 ·rw [if_pos h5] at h; exact absurd h (by decide)
 rw [if_neg h5] at h
 cases hf : findN (badLen p) 0 p.Lengths.length with
 | inl e =>
  rw [hf] at h
  obtain ⟨i, a, b, c, d⟩ := WT hf
  unfold badLen at c
  simp only at h
  subst h
  split at c
  ·cases c
  ·split at c <;> cases c
 | inr u =>
  rw [hf] at h
  cases hg : findE badPr p.Prices with
  | inl e =>
   rw [hg] at h
   obtain ⟨a, ha, hb⟩ := qCA hg
   simp only at h
   subst h
   unfold badPr at hb
   split at hb <;> cases hb
  | inr u' =>
   refine ⟨hn, by omega, by omega, by omega, by omega, by omega, by omega, by omega, fun i hi => ?_, fun x hx => ?_⟩
   ·have := UC.1 hf i (by omega) (by omega)
    unfold badLen at this
    split at this
    ·cases this
    ·omega
   ·have := SQ.1 hg x hx
    unfold badPr at this
    split at this
    ·cases this
    ·omega
theorem qKD {p : Product} (hn : isNm p.Name = true) {l : List Product} {i : Nat} (h : badP l i = none) (e : l.getD i default = p) : RC p = 0 := by
 unfold badP at h
 rw [e, hn] at h
 simp only [cond_true] at h
 cases hf : findN (twin l i) 0 i with
 | inl e => rw [hf] at h; cases h
 | inr u =>
  rw [hf] at h
  by_cases hc : RC p = 0
  ·exact hc
  ·rw [show (RC p != 0) = true by rw [bne_iff_ne]; exact hc] at h; cases h
theorem qIH {l : List Product} {i : Nat} (h : badP l i = none) : isNm (l.getD i default).Name = true := by
 unfold badP at h
 cases hn : isNm (l.getD i default).Name with
 | true => rfl
 | false => rw [hn] at h; cases h
theorem qMn {l : List Product} (h : yV l = 0) {i : Nat} (hi : i < l.length) : badP l i = none := by
 unfold yV at h
 split at h
 ·exact absurd h (by decide)
 ·cases hf : findN (badP l) 0 l.length with
  | inr u => exact UC.1 hf i (by omega) (by omega)
  | inl e =>
   rw [hf] at h
   simp only at h
   subst h
   obtain ⟨j, a, b, c, d⟩ := WT hf
   unfold badP at c
   cases hn : isNm (l.getD j default).Name with
   | false => rw [hn] at c; cases c
   | true =>
    rw [hn] at c
    simp only [cond_true] at c
    cases hf' : findN (twin l j) 0 j with
    | inl e =>
     rw [hf'] at c
     obtain ⟨i', a', b', c', d'⟩ := WT hf'
     unfold twin at c'
     cases c
     cases hs : strEq (l.getD i' default).Name (l.getD j default).Name <;> rw [hs] at c' <;> cases c'
    | inr u =>
     rw [hf'] at c
     cases hz : RC (l.getD j default) != 0 with
     | true => rw [hz] at c; simp only [cond_true] at c; injection c with c; exact absurd c (bne_iff_ne.1 hz)
     | false => rw [hz] at c; cases c
theorem qQF {l : List Product} (h : yV l = 0) {i : Nat} (hi : i < l.length) : VP (l.getD i default) := by
 have b := qMn h hi
 exact qNH (qIH b) (qKD (qIH b) b rfl)
theorem qPg {l : List Product} (h : yV l = 0) {i : Nat} (hi : i < l.length) : yV [l.getD i default] = 0 := by
 have b := qMn h hi
 have hn := qIH b
 have hc := qKD hn b rfl
 unfold yV
 rw [if_neg (by simp)]
 have e : badP [l.getD i default] 0 = none := by
  unfold badP
  rw [show [l.getD i default].getD 0 default = l.getD i default from rfl, hn, hc]
  rfl
 simp only [List.length_cons, List.length_nil, Nat.zero_add, findN, e]
/-! ### The worst wane -/
def hitZ (z s : Span) : Bool := decide (z.A < s.B) && decide (s.A < z.B)
def worst (zs : List Worth_zone) (s : Span) : Int := jS (fun i m => bif hitZ (zs.getD i default).z s then imax m (zs.getD i default).lack else m) 0 zs.length 0
theorem qRb (zs : List Worth_zone) (s : Span) (h : zs.length ≤ 1000000) : LM zs s = some (worst zs s) := by
 unfold LM worst
 have k := QB zs.length (fun n (m : Int) i => jY zs s n m i) (fun i m => bif hitZ (zs.getD i default).z s then imax m (zs.getD i default).lack else m) (fun m => m) (fun _ _ => True) 0 (by omega) (by omega)
  (fun n i m hi _ => ⟨by
   rw [jY, decide_eq_true (by omega), qV (by omega) (by omega)]
   simp only [cond_true, Int.toNat_natCast, zA (show i < 4611686018427387904 by omega), NN, FG, hitZ]
   cases decide ((zs.getD i default).z.A < s.B) <;> cases decide (s.A < (zs.getD i default).z.B) <;> rfl, trivial⟩)
  (fun n m _ => by rw [jY, decide_eq_false (by omega)]; rfl) 0 trivial
 rw [show ((0 : Nat) : Int) = 0 from rfl, Nat.sub_zero] at k
 rw [k.1]; rfl
/-! ### A piece's worth -/
def dstep (ds : List Defect) (b : Box) (fine : Int) (i : Nat) (v : Int) : (Int × Bool) ⊕ Int :=
 bif tch (ds.getD i default).Box b then (bif (ds.getD i default).Kind == 3 then .inl (0, false) else .inr (v - fine)) else .inr v
def PA (ds : List Defect) (b : Box) (fine v : Int) : Int × Bool := match runN (dstep ds b fine) 0 ds.length v with | .inl e => e | .inr o => (imax o 0, true)
def worthV (v : Worth_view) (s : Span) (fine : Int) : Int × Bool :=
 if 0 ≤ s.A ∧ s.A < s.B ∧ s.B ≤ v.length then
  bif (price v.product (s.B - s.A)).2 then
   if worst v.zones s > v.product.Wane then (0, false) else PA v.defects ⟨v.rect.X, v.rect.Y, s⟩ fine (price v.product (s.B - s.A)).1
  else (0, false)
 else (0, false)
theorem qI5 {p : Product} (h : VP p) (n : Int) : 0 ≤ (price p n).1 ∧ (price p n).1 ≤ 1000000 := by
 unfold price
 cases hf : findN (priceAt p n) 0 p.Lengths.length with
 | inr u => exact ⟨show (0 : Int) ≤ 0 by decide, show (0 : Int) ≤ 1000000 by decide⟩
 | inl e =>
  obtain ⟨i, a, b, c, d⟩ := WT hf
  unfold priceAt at c
  split at c
  ·cases c
  ·split at c
   ·cases c; exact ⟨by decide, by decide⟩
   ·cases c
    exact h.pb _ (ZQ (by omega))
theorem qP0 (v : Worth_view) (s : Span) {fine v0 : Int} (hf : 0 ≤ fine ∧ fine ≤ 1000000) (hv : 0 ≤ v0 ∧ v0 ≤ 1000000) (hl : v.defects.length ≤ 64) :
  ((zL v fine ⟨v.rect.X, v.rect.Y, s⟩ FUEL v0 0).bind fun u => Sum.elim (fun w => some w) (fun o => some (imax o 0, true)) u) = some (PA v.defects ⟨v.rect.X, v.rect.Y, s⟩ fine v0) := by
 have k := qB6 v.defects.length (fun n (m : Int) i => zL v fine ⟨v.rect.X, v.rect.Y, s⟩ n m i) (dstep v.defects ⟨v.rect.X, v.rect.Y, s⟩ fine) (fun r => r) (fun i m => -(1000000 * (i : Int)) ≤ m ∧ m ≤ 1000000)
  (fun n i m hi hm => by
   unfold dstep
   have e : zL v fine ⟨v.rect.X, v.rect.Y, s⟩ (n + 1) m (i : Int) = bif tch (v.defects.getD i default).Box ⟨v.rect.X, v.rect.Y, s⟩ then (bif (v.defects.getD i default).Kind == 3 then some (.inl (0, false)) else zL v fine ⟨v.rect.X, v.rect.Y, s⟩ n (m - fine) ((i + 1 : Nat) : Int)) else zL v fine ⟨v.rect.X, v.rect.Y, s⟩ n m ((i + 1 : Nat) : Int) := by
    rw [zL, decide_eq_true (by omega), qV (by omega) (by omega)]
    simp only [cond_true, Int.toNat_natCast, zA (show i < 4611686018427387904 by omega), qH9, Option.bind_some, XK]
    rw [qL (n := m - fine) (by omega) (by omega)]
    cases tch (v.defects.getD i default).Box ⟨v.rect.X, v.rect.Y, s⟩ <;> cases (v.defects.getD i default).Kind == 3 <;> rfl
   cases h1 : tch (v.defects.getD i default).Box ⟨v.rect.X, v.rect.Y, s⟩ with
   | false => rw [h1] at e; exact ⟨e, by omega⟩
   | true => cases h2 : (v.defects.getD i default).Kind == 3 with
    | true => rw [h1, h2] at e; exact e
    | false => rw [h1, h2] at e; exact ⟨e, by omega⟩)
  (fun n m _ => by rw [zL, decide_eq_false (by omega)]; rfl) FUEL 0 v0 (by rw [YW]; omega) (by omega) (by omega)
 rw [show ((0 : Nat) : Int) = 0 from rfl, Nat.sub_zero] at k
 rw [k]
 unfold PA
 cases runN (dstep v.defects ⟨v.rect.X, v.rect.Y, s⟩ fine) 0 v.defects.length v0 <;> rfl
theorem qQi (v : Worth_view) (s : Span) {fine : Int} (hf : 0 ≤ fine ∧ fine ≤ 1000000) (hp : VP v.product) (hl : v.defects.length ≤ 64) (hz : v.zones.length ≤ 1000000) (hn : v.length ≤ 20000) :
  WG v s fine = some (worthV v s fine) := by
 unfold WG worthV NP YA
 have hll := hp.ll
 by_cases c1 : s.A ≥ 0
 ·rw [decide_eq_true c1]
  by_cases c2 : s.A < s.B
  ·rw [decide_eq_true c2]
   by_cases c3 : s.B ≤ v.length
   ·rw [decide_eq_true c3, if_pos ⟨c1, c2, c3⟩, qL (n := s.B - s.A) (by omega) (by omega)]
    simp only [cond_true, Option.bind_some, Bool.not_true, cond_false, qQm v.product (s.B - s.A) (by omega), qRb v.zones s hz, XM, YN]
    cases hq : (price v.product (s.B - s.A)).2 with
    | false => rfl
    | true =>
     simp only [Bool.not_true, cond_false, cond_true]
     by_cases c4 : worst v.zones s > v.product.Wane
     ·rw [decide_eq_true c4, if_pos c4]; rfl
     ·rw [decide_eq_false c4, if_neg c4]
      simp only [cond_false]
      exact qP0 v s hf (qI5 hp _) hl
   ·rw [decide_eq_false c3, if_neg (fun h => c3 h.2.2)]; rfl
  ·rw [decide_eq_false c2, if_neg (fun h => c2 h.2.1)]; rfl
 ·rw [decide_eq_false c1, if_neg (fun h => c1 h.1)]; rfl
theorem qRc {ds : List Defect} {b : Box} {fine v : Int} (hf : 0 ≤ fine) (hv : 0 ≤ v ∧ v ≤ 1000000) : 0 ≤ (PA ds b fine v).1 ∧ (PA ds b fine v).1 ≤ 1000000 := by
 unfold PA
 cases hr : runN (dstep ds b fine) 0 ds.length v with
 | inl e =>
  have : ∀ (k x : Nat) (w : Int), runN (dstep ds b fine) x k w = .inl e → e = (0, false) := by
   intro k
   induction k with
   | zero => intro x w h; cases h
   | succ k ih =>
    intro x w h
    unfold runN at h
    cases hd : dstep ds b fine x w with
    | inr w' => rw [hd] at h; exact ih _ _ h
    | inl e' =>
     rw [hd] at h
     cases h
     unfold dstep at hd
     cases h1 : tch (ds.getD x default).Box b with
     | false => rw [h1] at hd; cases hd
     | true => cases h2 : (ds.getD x default).Kind == 3 with
      | false => rw [h1, h2] at hd; cases hd
      | true => rw [h1, h2] at hd; cases hd; rfl
  rw [this _ _ _ hr]; decide
 | inr o =>
  have := runN_inv (dstep ds b fine) (fun _ m => m ≤ 1000000) ds.length (fun x m m' _ hm e => by
   unfold dstep at e
   cases h1 : tch (ds.getD x default).Box b with
   | false => rw [h1] at e; cases e; exact hm
   | true => cases h2 : (ds.getD x default).Kind == 3 with
    | true => rw [h1, h2] at e; cases e
    | false => rw [h1, h2] at e; cases e; show m - fine ≤ 1000000; omega) ds.length 0 v o (by omega) hv.2 hr
  have h2 := JM o 0
  simp only
  omega
theorem qQz {v : Worth_view} {s : Span} {fine : Int} (hf : 0 ≤ fine) (hp : VP v.product) : 0 ≤ (worthV v s fine).1 ∧ (worthV v s fine).1 ≤ 1000000 ∧ ((worthV v s fine).2 = true → 0 ≤ s.A ∧ s.A < s.B ∧ s.B ≤ v.length) := by
 unfold worthV
 split
 ·rename_i h
  cases (price v.product (s.B - s.A)).2 with
  | false => exact ⟨show (0 : Int) ≤ 0 by decide, show (0 : Int) ≤ 1000000 by decide, fun h => by cases h⟩
  | true =>
   simp only [cond_true]
   split
   ·exact ⟨by decide, by decide, fun h => by cases h⟩
   ·have := qRc (ds := v.defects) (b := ⟨v.rect.X, v.rect.Y, s⟩) hf (qI5 hp (s.B - s.A))
    exact ⟨this.1, this.2, fun _ => h⟩
 ·exact ⟨by decide, by decide, fun h => by cases h⟩
end Saw
end Go.SL
