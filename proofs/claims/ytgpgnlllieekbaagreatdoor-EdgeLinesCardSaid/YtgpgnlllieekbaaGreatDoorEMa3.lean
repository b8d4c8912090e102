/- Edge's plain mathematics, part 5: defects, rates, rectangles; the check of an edging. -/
import Derived.Test.YtgpgnlllieekbaaGreatDoorEMa2
set_option linter.unusedVariables false
set_option linter.unusedSimpArgs false
namespace Go.SL
namespace Saw
def insS (s : Span) (lo hi : Int) : Bool := decide ((lo ≤ s.A ∧ lo ≤ s.B) ∧ (s.A ≤ hi ∧ s.B ≤ hi))
theorem qMm (s : Span) (lo hi : Int) : WJ s lo hi = some (insS s lo hi) := by
 unfold WJ KC insS
 have a := ZW s.A s.B
 have b := ZS s.A s.B
 by_cases h1 : imin s.A s.B ≥ lo
 ·rw [decide_eq_true h1]
  by_cases h2 : imax s.A s.B ≤ hi
  ·rw [decide_eq_true h2, decide_eq_true (by omega)]; rfl
  ·rw [decide_eq_false h2, decide_eq_false (by omega)]; rfl
 ·rw [decide_eq_false h1, decide_eq_false (show ¬ ((lo ≤ s.A ∧ lo ≤ s.B) ∧ (s.A ≤ hi ∧ s.B ≤ hi)) by omega)]; rfl
def chkD (d : Defect) : Int :=
 if d.Kind < 1 ∨ 6 < d.Kind then 10
 else bif empS d.Box.X || (empS d.Box.Y || empS d.Box.Z) then 19
 else bif insS d.Box.X (-600) 600 && (insS d.Box.Y (-600) 600 && insS d.Box.Z 0 20000) then 0 else 9
theorem qHE (s : Span) : jL s = some (empS s) := rfl
theorem chkD_eq (d : Defect) : TU d = some (chkD d) := by
 unfold TU RC YL JY chkD
 simp only [qHE, qMm, Option.bind_some]
 by_cases h1 : d.Kind < 1
 ·rw [decide_eq_true h1, if_pos (.inl h1)]; rfl
 rw [decide_eq_false h1]
 by_cases h2 : d.Kind > 6
 ·rw [decide_eq_true h2, if_pos (.inr h2)]; rfl
 rw [decide_eq_false h2, if_neg (by omega)]
 cases empS d.Box.X <;> cases empS d.Box.Y <;> cases empS d.Box.Z <;> cases insS d.Box.X (-600) 600 <;> cases insS d.Box.Y (-600) 600 <;> cases insS d.Box.Z 0 20000 <;> rfl
structure VD (d : Defect) : Prop where
 k1 : 1 ≤ d.Kind
 k2 : d.Kind ≤ 6
 x : d.Box.X.A < d.Box.X.B ∧ -600 ≤ d.Box.X.A ∧ d.Box.X.B ≤ 600
 y : d.Box.Y.A < d.Box.Y.B ∧ -600 ≤ d.Box.Y.A ∧ d.Box.Y.B ≤ 600
 z : d.Box.Z.A < d.Box.Z.B ∧ 0 ≤ d.Box.Z.A ∧ d.Box.Z.B ≤ 20000
theorem qLX (d : Defect) : chkD d = 0 ↔ VD d := by
 unfold chkD
 by_cases h1 : d.Kind < 1 ∨ 6 < d.Kind
 ·rw [if_pos h1]; exact ⟨fun h => absurd h (by decide), fun h => by have := h.k1; have := h.k2; omega⟩
 rw [if_neg h1]
 cases hx : empS d.Box.X with
 | true => exact ⟨fun h => absurd (show (19 : Int) = 0 from h) (by decide), fun h => by have := h.x; have := of_decide_eq_true hx; omega⟩
 | false =>
 cases hy : empS d.Box.Y with
 | true => exact ⟨fun h => absurd (show (19 : Int) = 0 from h) (by decide), fun h => by have := h.y; have := of_decide_eq_true hy; omega⟩
 | false =>
 cases hz : empS d.Box.Z with
 | true => exact ⟨fun h => absurd (show (19 : Int) = 0 from h) (by decide), fun h => by have := h.z; have := of_decide_eq_true hz; omega⟩
 | false =>
 have ex := of_decide_eq_false hx
 have ey := of_decide_eq_false hy
 have ez := of_decide_eq_false hz
 unfold insS
 by_cases i1 : (-600 ≤ d.Box.X.A ∧ -600 ≤ d.Box.X.B) ∧ d.Box.X.A ≤ 600 ∧ d.Box.X.B ≤ 600
 ·rw [decide_eq_true i1]
  by_cases i2 : (-600 ≤ d.Box.Y.A ∧ -600 ≤ d.Box.Y.B) ∧ d.Box.Y.A ≤ 600 ∧ d.Box.Y.B ≤ 600
  ·rw [decide_eq_true i2]
   by_cases i3 : (0 ≤ d.Box.Z.A ∧ 0 ≤ d.Box.Z.B) ∧ d.Box.Z.A ≤ 20000 ∧ d.Box.Z.B ≤ 20000
   ·rw [decide_eq_true i3]
    exact ⟨fun _ => ⟨by omega, by omega, by omega, by omega, by omega⟩, fun _ => rfl⟩
   ·rw [decide_eq_false i3]; exact ⟨fun h => absurd h (by decide), fun h => by have := h.z; omega⟩
  ·rw [decide_eq_false i2]; exact ⟨fun h => absurd (show (9 : Int) = 0 from h) (by decide), fun h => by have := h.y; omega⟩
 ·rw [decide_eq_false i1]; exact ⟨fun h => absurd (show (9 : Int) = 0 from h) (by decide), fun h => by have := h.x; omega⟩
def badD (d : Defect) : Option Int := bif chkD d != 0 then some (chkD d) else none
def WO (l : List Defect) : Int := if 64 < l.length then 4 else match findE badD l with | .inl e => e | .inr _ => 0
theorem qJW (l : List Defect) : XO l = some (WO l) := by
 unfold XO WO
 by_cases h : 64 < l.length
 ·rw [if_pos h, decide_eq_true (by omega)]; rfl
 rw [if_neg h, decide_eq_false (by omega)]
 have L : yW l FUEL 0 = some (findE badD l) := by
  refine KA l (yW l) badD (by omega) (fun n x hx => ?_) (fun n => ?_)
  ·rw [yW, decide_eq_true (by omega), qS (by omega) (by omega)]
   simp only [cond_true, Int.toNat_natCast, qU (show x < 4611686018427387904 by omega), chkD_eq, Option.bind_some, badD]
   cases chkD (l.getD x default) != 0 <;> rfl
  ·rw [yW, decide_eq_false (by omega)]; rfl
 rw [L]
 simp only [cond_false, Option.bind_some]
 cases findE badD l <;> rfl
theorem qHL {d : Defect} : badD d = none ↔ VD d := by
 rw [← qLX]
 unfold badD
 by_cases h : chkD d = 0
 ·rw [h]; simp
 ·rw [show (chkD d != 0) = true by rw [bne_iff_ne]; exact h]; simp [h]
theorem YV (l : List Defect) : WO l = 0 ↔ l.length ≤ 64 ∧ ∀ d ∈ l, VD d := by
 unfold WO
 by_cases h : 64 < l.length
 ·rw [if_pos h]; exact ⟨fun h => absurd h (by decide), fun h => by omega⟩
 rw [if_neg h]
 cases hf : findE badD l with
 | inl e =>
  obtain ⟨a, ha, hb⟩ := qAT hf
  simp only
  have hn : e ≠ 0 := by
   unfold badD at hb
   cases hc : chkD a != 0 with
   | true => rw [hc] at hb; cases hb; exact bne_iff_ne.1 hc
   | false => rw [hc] at hb; cases hb
  exact ⟨fun h => absurd h hn, fun h => by rw [qHL.2 (h.2 a ha)] at hb; cases hb⟩
 | inr u => exact ⟨fun _ => ⟨by omega, fun d hd => qHL.1 (FA.1 hf d hd)⟩, fun _ => rfl⟩
/-! ### Saws and rates -/
structure VW (s : Saw) (r : Rates) : Prop where
 kerf : 0 ≤ s.Kerf ∧ s.Kerf ≤ 20
 trim : 0 ≤ s.Trim ∧ s.Trim ≤ 20
 pitch : 1 ≤ s.Pitch ∧ s.Pitch ≤ 2000
 step : 1 ≤ s.Step ∧ s.Step ≤ 20000
 chip : 0 ≤ r.Chip ∧ r.Chip ≤ 1000
 dust : 0 ≤ r.Dust ∧ r.Dust ≤ 1000
 fine : 0 ≤ r.Fine ∧ r.Fine ≤ 1000000
theorem qHy (n : Int) : XK n = some (decide (1 ≤ n ∧ n ≤ 20000)) := by
 unfold XK PW
 by_cases h1 : n ≥ 1
 ·rw [decide_eq_true h1]
  by_cases h2 : n ≤ 20000
  ·rw [decide_eq_true h2, decide_eq_true ⟨h1, h2⟩]; rfl
  ·rw [decide_eq_false h2, decide_eq_false (fun h => h2 h.2)]; rfl
 ·rw [decide_eq_false h1, decide_eq_false (show ¬ (1 ≤ n ∧ n ≤ 20000) from fun h => h1 h.1)]; rfl
theorem qHF (n : Int) : XI n = some (decide (0 ≤ n ∧ n ≤ 1000000)) := by
 unfold XI RM
 by_cases h1 : n ≥ 0
 ·rw [decide_eq_true h1]
  by_cases h2 : n ≤ 1000000
  ·rw [decide_eq_true h2, decide_eq_true ⟨h1, h2⟩]; rfl
  ·rw [decide_eq_false h2, decide_eq_false (fun h => h2 h.2)]; rfl
 ·rw [decide_eq_false h1, decide_eq_false (show ¬ (0 ≤ n ∧ n ≤ 1000000) from fun h => h1 h.1)]; rfl
open Classical in
noncomputable def UG (s : Saw) (r : Rates) : Int := if VW s r then 0 else 9
theorem IG (s : Saw) (r : Rates) : UG s r = 0 ↔ VW s r := by
 unfold UG
 by_cases h : VW s r
 ·rw [if_pos h]; simp [h]
 ·rw [if_neg h]; simp [h]
theorem qNH (s : Saw) (r : Rates) : GS s r = some (UG s r) := by
 unfold GS WZ XC QX
 simp only [qHy, qHF, Option.bind_some]
 have no : ¬ VW s r → UG s r = 9 := fun h => by unfold UG; rw [if_neg h]
 by_cases c1 : s.Kerf < 0
 ·rw [decide_eq_true c1, no (fun h => by have := h.kerf; omega)]; rfl
 rw [decide_eq_false c1]
 by_cases c2 : s.Kerf > 20
 ·rw [decide_eq_true c2, no (fun h => by have := h.kerf; omega)]; rfl
 rw [decide_eq_false c2]
 by_cases c3 : s.Trim < 0
 ·rw [decide_eq_true c3, no (fun h => by have := h.trim; omega)]; rfl
 rw [decide_eq_false c3]
 by_cases c4 : s.Trim > 20
 ·rw [decide_eq_true c4, no (fun h => by have := h.trim; omega)]; rfl
 rw [decide_eq_false c4]
 simp only [cond_false]
 by_cases c5 : s.Pitch < 1
 ·rw [decide_eq_true c5, no (fun h => by have := h.pitch; omega)]; rfl
 rw [decide_eq_false c5]
 by_cases c6 : s.Pitch > 2000
 ·rw [decide_eq_true c6, no (fun h => by have := h.pitch; omega)]; rfl
 rw [decide_eq_false c6]
 by_cases c7 : 1 ≤ s.Step ∧ s.Step ≤ 20000
 ·rw [decide_eq_true c7]
  simp only [cond_false, Bool.not_true]
  by_cases d1 : r.Chip < 0
  ·rw [decide_eq_true d1, no (fun h => by have := h.chip; omega)]; rfl
  rw [decide_eq_false d1]
  by_cases d2 : r.Chip > 1000
  ·rw [decide_eq_true d2, no (fun h => by have := h.chip; omega)]; rfl
  rw [decide_eq_false d2]
  by_cases d3 : r.Dust < 0
  ·rw [decide_eq_true d3, no (fun h => by have := h.dust; omega)]; rfl
  rw [decide_eq_false d3]
  by_cases d4 : r.Dust > 1000
  ·rw [decide_eq_true d4, no (fun h => by have := h.dust; omega)]; rfl
  rw [decide_eq_false d4]
  by_cases d5 : 0 ≤ r.Fine ∧ r.Fine ≤ 1000000
  ·rw [decide_eq_true d5, (IG s r).2 ⟨by omega, by omega, by omega, by omega, by omega, by omega, by omega⟩]; rfl
  ·rw [decide_eq_false d5, no (fun h => d5 h.fine)]; rfl
 ·rw [decide_eq_false c7, no (fun h => c7 h.step)]; rfl
/-! ### Rectangles -/
def VR (r : Rect) : Prop := (-600 ≤ r.X.A ∧ r.X.A < r.X.B ∧ r.X.B ≤ 600) ∧ (-600 ≤ r.Y.A ∧ r.Y.A < r.Y.B ∧ r.Y.B ≤ 600)
instance (r : Rect) : Decidable (VR r) := by unfold VR; exact inferInstance
def badR (lo hi : Int) : Option Bool := if lo < -600 ∨ 600 < hi ∨ hi ≤ lo then some false else none
theorem qAZ {lo hi : Int} : badR lo hi = none ↔ -600 ≤ lo ∧ lo < hi ∧ hi ≤ 600 := by
 unfold badR
 by_cases h : lo < -600 ∨ 600 < hi ∨ hi ≤ lo
 ·rw [if_pos h]; exact ⟨fun h => (by cases h), fun h => by omega⟩
 ·rw [if_neg h]; exact ⟨fun _ => by omega, fun _ => rfl⟩
theorem qNw (r : Rect) (L : Nat → Int → Option (Bool ⊕ Unit))
  (h0 : ∀ n, L (n + 1) 0 = match badR r.X.A r.X.B with | some e => some (.inl e) | none => L n 1)
  (h1 : ∀ n, L (n + 1) 1 = match badR r.Y.A r.Y.B with | some e => some (.inl e) | none => L n 2)
  (h2 : ∀ n, L (n + 1) 2 = some (.inr ())) : ((L FUEL 0).bind fun u => Sum.elim (fun v => some v) (fun _ => some true) u) = some (decide (VR r)) := by
 rw [PO, show (4611686018427387904 : Nat) = 4611686018427387901 + 1 + 1 + 1 from rfl, h0]
 cases hx : badR r.X.A r.X.B with
 | some e =>
  have : ¬ VR r := fun h => by rw [qAZ.2 h.1] at hx; cases hx
  rw [decide_eq_false this]
  unfold badR at hx
  split at hx <;> cases hx
  rfl
 | none =>
  simp only
  rw [h1]
  cases hy : badR r.Y.A r.Y.B with
  | some e =>
   have : ¬ VR r := fun h => by rw [qAZ.2 h.2] at hy; cases hy
   rw [decide_eq_false this]
   unfold badR at hy
   split at hy <;> cases hy
   rfl
  | none =>
   simp only
   rw [h2, decide_eq_true (show VR r from ⟨qAZ.1 hx, qAZ.1 hy⟩)]; rfl
theorem ladd3 {lo hi : Int} {α : Type} (k : Bool → α) : (bif decide (lo < -600) then k true else bif decide (hi > 600) then k true else k (decide (lo ≥ hi))) = k (match badR lo hi with | some _ => true | none => false) := by
 unfold badR
 by_cases h1 : lo < -600
 ·rw [decide_eq_true h1, if_pos (.inl h1)]; rfl
 rw [decide_eq_false h1]
 by_cases h2 : hi > 600
 ·rw [decide_eq_true h2, if_pos (by omega)]; rfl
 rw [decide_eq_false h2]
 by_cases h3 : lo ≥ hi
 ·rw [decide_eq_true h3, if_pos (by omega)]; rfl
 ·rw [decide_eq_false h3, if_neg (by omega)]; rfl
theorem qMx (r : Rect) : TS r = some (decide (VR r)) := by
 unfold TS
 refine qNw r (zY r) (fun n => ?_) (fun n => ?_) (fun n => ?_)
 ·rw [zY, decide_eq_true (by omega), qS (by omega) (by omega)]
  simp only [cond_true]
  refine (ladd3 (lo := r.X.A) (hi := r.X.B) (fun b => jT 0 (zY r n) b)).trans ?_
  unfold badR jT
  split <;> rename_i h <;> revert h <;> split <;> intro h <;> (try cases h) <;> rfl
 ·rw [zY, decide_eq_true (by omega), qS (by omega) (by omega)]
  simp only [cond_true]
  refine (ladd3 (lo := r.Y.A) (hi := r.Y.B) (fun b => jT 1 (zY r n) b)).trans ?_
  unfold badR jT
  split <;> rename_i h <;> revert h <;> split <;> intro h <;> (try cases h) <;> rfl
 ·rw [zY, decide_eq_false (by omega)]; rfl
noncomputable def chkE (s : List Slice) (d : List Defect) (p : List qA) (r : Rect) (w : Saw) (t : Rates) : Int :=
 if KH s ≠ 0 then KH s else if WO d ≠ 0 then WO d else if wM p ≠ 0 then wM p else if UG w t ≠ 0 then UG w t
 else if r.X.A ≥ r.X.B ∨ r.Y.A ≥ r.Y.B then 19
 else if r.X.A < -600 ∨ 600 < r.X.A ∨ r.X.B < -600 ∨ 600 < r.X.B ∨ r.Y.A < -600 ∨ 600 < r.Y.A ∨ r.Y.B < -600 ∨ 600 < r.Y.B then 9 else 0
structure VE (s : List Slice) (d : List Defect) (p : List qA) (r : Rect) (w : Saw) (t : Rates) : Prop where
 sol : VSol s
 dl : d.length ≤ 64
 dd : ∀ x ∈ d, VD x
 pr : wM p = 0
 vw : VW w t
 vr : VR r
theorem qCO {s : List Slice} {d : List Defect} {p : List qA} {r : Rect} {w : Saw} {t : Rates} : chkE s d p r w t = 0 ↔ VE s d p r w t := by
 unfold chkE
 by_cases h1 : KH s ≠ 0
 ·rw [if_pos h1]; exact ⟨fun h => absurd h h1, fun h => absurd ((YU s).2 h.sol) h1⟩
 rw [if_neg h1]
 by_cases h2 : WO d ≠ 0
 ·rw [if_pos h2]; exact ⟨fun h => absurd h h2, fun h => absurd ((YV d).2 ⟨h.dl, h.dd⟩) h2⟩
 rw [if_neg h2]
 by_cases h3 : wM p ≠ 0
 ·rw [if_pos h3]; exact ⟨fun h => absurd h h3, fun h => absurd h.pr h3⟩
 rw [if_neg h3]
 by_cases h4 : UG w t ≠ 0
 ·rw [if_pos h4]; exact ⟨fun h => absurd h h4, fun h => absurd ((IG w t).2 h.vw) h4⟩
 rw [if_neg h4]
 by_cases h5 : r.X.A ≥ r.X.B ∨ r.Y.A ≥ r.Y.B
 ·rw [if_pos h5]; exact ⟨fun h => absurd h (by decide), fun h => by have := h.vr; unfold VR at this; omega⟩
 rw [if_neg h5]
 by_cases h6 : r.X.A < -600 ∨ 600 < r.X.A ∨ r.X.B < -600 ∨ 600 < r.X.B ∨ r.Y.A < -600 ∨ 600 < r.Y.A ∨ r.Y.B < -600 ∨ 600 < r.Y.B
 ·rw [if_pos h6]; exact ⟨fun h => absurd h (by decide), fun h => by have := h.vr; unfold VR at this; omega⟩
 rw [if_neg h6]
 have k2 := (YV d).1 (by omega)
 exact ⟨fun _ => ⟨(YU s).1 (by omega), k2.1, k2.2, by omega, (IG w t).1 (by omega), by unfold VR; omega⟩, fun _ => rfl⟩
theorem chkE_eq (s : List Slice) (d : List Defect) (p : List qA) (r : Rect) (w : Saw) (t : Rates) : LD s d p r w t = some (chkE s d p r w t) := by
 unfold LD chkE GY
 rw [(UA s).1, qJW, qEr, qNH]
 simp only [Option.bind_some]
 have bt : ∀ {n : Int}, n ≠ 0 → (n != 0) = true := fun h => by rw [bne_iff_ne]; exact h
 have bf : ∀ {n : Int}, ¬ n ≠ 0 → (n != 0) = false := fun h => by rw [bne_eq_false_iff_eq]; omega
 by_cases h1 : KH s ≠ 0
 ·rw [if_pos h1, bt h1]; rfl
 rw [if_neg h1, bf h1]
 by_cases h2 : WO d ≠ 0
 ·rw [if_pos h2, bt h2]; rfl
 rw [if_neg h2, bf h2]
 by_cases h3 : wM p ≠ 0
 ·rw [if_pos h3, bt h3]; rfl
 rw [if_neg h3, bf h3]
 by_cases h4 : UG w t ≠ 0
 ·rw [if_pos h4, bt h4]; rfl
 rw [if_neg h4, bf h4]
 simp only [cond_false]
 by_cases h5 : r.X.A ≥ r.X.B
 ·rw [if_pos (.inl h5), decide_eq_true h5]; rfl
 rw [decide_eq_false h5]
 by_cases h6 : r.Y.A ≥ r.Y.B
 ·rw [if_pos (.inr h6), decide_eq_true h6]; rfl
 rw [decide_eq_false h6, if_neg (by omega)]
 simp only [cond_false]
 have L : jX r FUEL ((0 : Nat) : Int) = some (findN (fun i => if (([r.X.A, r.X.B, r.Y.A, r.Y.B] : List Int).getD i 0) < -600 ∨ 600 < (([r.X.A, r.X.B, r.Y.A, r.Y.B] : List Int).getD i 0) then some (9 : Int) else none) 0 (4 - 0)) := by
  refine wF 4 (jX r) _ 0 (by omega) (by omega) (fun n i hi hN => ?_) (fun n => ?_)
  ·rw [jX, decide_eq_true (by omega), qS (by omega) (by omega)]
   simp only [cond_true, Int.toNat_natCast, qU (show i < 4611686018427387904 by omega), GZ]
   by_cases c1 : ([r.X.A, r.X.B, r.Y.A, r.Y.B] : List Int).getD i 0 < -600
   ·rw [decide_eq_true c1, if_pos (.inl c1)]; rfl
   rw [decide_eq_false c1]
   by_cases c2 : 600 < ([r.X.A, r.X.B, r.Y.A, r.Y.B] : List Int).getD i 0
   ·rw [decide_eq_true (show ([r.X.A, r.X.B, r.Y.A, r.Y.B] : List Int).getD i 0 > 600 from c2), if_pos (.inr c2)]; rfl
   ·rw [decide_eq_false (show ¬ ([r.X.A, r.X.B, r.Y.A, r.Y.B] : List Int).getD i 0 > 600 from c2), if_neg (by omega)]; rfl
  ·rw [jX, decide_eq_false (by omega)]; rfl
 rw [show ((0 : Nat) : Int) = 0 from rfl] at L
 rw [L]
 simp only [findN, List.getD_cons_zero, List.getD_cons_succ, Nat.sub_zero]
 by_cases c1 : r.X.A < -600 ∨ 600 < r.X.A
 ·rw [if_pos c1, if_pos (show (r.X.A < -600 ∨ 600 < r.X.A ∨ r.X.B < -600 ∨ 600 < r.X.B ∨ r.Y.A < -600 ∨ 600 < r.Y.A ∨ r.Y.B < -600 ∨ 600 < r.Y.B) by omega)]; rfl
 rw [if_neg c1]
 by_cases c2 : r.X.B < -600 ∨ 600 < r.X.B
 ·rw [if_pos c2, if_pos (show (r.X.A < -600 ∨ 600 < r.X.A ∨ r.X.B < -600 ∨ 600 < r.X.B ∨ r.Y.A < -600 ∨ 600 < r.Y.A ∨ r.Y.B < -600 ∨ 600 < r.Y.B) by omega)]; rfl
 rw [if_neg c2]
 by_cases c3 : r.Y.A < -600 ∨ 600 < r.Y.A
 ·rw [if_pos c3, if_pos (show (r.X.A < -600 ∨ 600 < r.X.A ∨ r.X.B < -600 ∨ 600 < r.X.B ∨ r.Y.A < -600 ∨ 600 < r.Y.A ∨ r.Y.B < -600 ∨ 600 < r.Y.B) by omega)]; rfl
 rw [if_neg c3]
 by_cases c4 : r.Y.B < -600 ∨ 600 < r.Y.B
 ·rw [if_pos c4, if_pos (show (r.X.A < -600 ∨ 600 < r.X.A ∨ r.X.B < -600 ∨ 600 < r.X.B ∨ r.Y.A < -600 ∨ 600 < r.Y.A ∨ r.Y.B < -600 ∨ 600 < r.Y.B) by omega)]; rfl
 rw [if_neg c4, if_neg (show ¬ (r.X.A < -600 ∨ 600 < r.X.A ∨ r.X.B < -600 ∨ 600 < r.X.B ∨ r.Y.A < -600 ∨ 600 < r.Y.A ∨ r.Y.B < -600 ∨ 600 < r.Y.B) by omega)]; rfl
theorem qNa (a : qO) : ∃ b, GI a = some b := by
 have k4 : ∀ x, ∃ b, jG a x = some b := fun x => by
  unfold jG
  cases x with
  | true => exact ⟨false, rfl⟩
  | false => rw [(YG a.Solid).2]; exact ⟨_, rfl⟩
 unfold GI
 by_cases h1 : ((a.Solid.length : Nat) : Int) > 6
 ·rw [decide_eq_true h1]; exact ⟨false, rfl⟩
 rw [decide_eq_false h1]
 by_cases h2 : ((a.Defects.length : Nat) : Int) > 70
 ·rw [decide_eq_true h2]; exact ⟨false, rfl⟩
 rw [decide_eq_false h2]
 by_cases h3 : ((a.Products.length : Nat) : Int) > 4
 ·rw [decide_eq_true h3]; exact ⟨false, rfl⟩
 rw [decide_eq_false h3, qNL]
 simp only [cond_false, Option.bind_some]
 cases isShort a.Products with
 | false => exact ⟨false, rfl⟩
 | true =>
  unfold WY
  simp only [Bool.not_true, cond_false]
  have L2 : ∃ u, QW a FUEL ((0 : Nat) : Int) = some u := ⟨_, wF a.Solid.length (QW a) (fun i => if ((((a.Solid.getD i default).Sec.Rows.length : Nat) : Int) > 130) then some false else none) 0 (by omega) (by omega) (fun n i hi hN => by
   rw [QW, decide_eq_true (by omega), qS (by omega) (by omega)]
   simp only [cond_true, Int.toNat_natCast, qU (show i < 4611686018427387904 by omega)]
   by_cases c : ((((a.Solid.getD i default).Sec.Rows.length : Nat) : Int) > 130)
   ·rw [decide_eq_true c, if_pos c]; rfl
   ·rw [decide_eq_false c, if_neg c]; rfl) (fun n => by rw [QW, decide_eq_false (by omega)]; rfl)⟩
  have L3 : ∃ u, ZD a FUEL ((0 : Nat) : Int) = some u := ⟨_, wF a.Products.length (ZD a) (fun i => if ((((a.Products.getD i default).Lengths.length : Nat) : Int) > 4) then some false else none) 0 (by omega) (by omega) (fun n i hi hN => by
   rw [ZD, decide_eq_true (by omega), qS (by omega) (by omega)]
   simp only [cond_true, Int.toNat_natCast, qU (show i < 4611686018427387904 by omega)]
   by_cases c : ((((a.Products.getD i default).Lengths.length : Nat) : Int) > 4)
   ·rw [decide_eq_true c, if_pos c]; rfl
   ·rw [decide_eq_false c, if_neg c]; rfl) (fun n => by rw [ZD, decide_eq_false (by omega)]; rfl)⟩
  obtain ⟨u2, e2⟩ := L2
  obtain ⟨u3, e3⟩ := L3
  rw [show ((0 : Nat) : Int) = 0 from rfl] at e2 e3
  rw [e2, e3]
  simp only [Option.bind_some]
  cases u2 with
  | inl v => exact ⟨v, rfl⟩
  | inr _ =>
   simp only [Sum.elim_inr]
   cases u3 with
   | inl v => exact ⟨v, rfl⟩
   | inr _ =>
    simp only [Sum.elim_inr]
    cases decide (a.Saw.Pitch < 5) <;> cases decide (a.Saw.Step < 1) <;> cases decide (a.Strip.X.A < -1000) <;> cases decide (a.Strip.X.B > 1000) <;> cases decide (a.Strip.X.B > a.Strip.X.A) <;> simp only [cond_true, cond_false] <;> exact k4 _
end Saw
end Go.SL

namespace Go.SL
/-- A loop whose index goes as it likes. -/
theorem qFJ {σ β ι : Type} (N : Nat) (L : Nat → σ → ι → Option β) (idx : Nat → ι) (f : Nat → σ → σ) (out : σ → β) (Inv : Nat → σ → Prop) (hN : N ≤ 1000000000)
  (h0 : ∀ n i s, i < N → Inv i s → L (n + 1) s (idx i) = L n (f i s) (idx (i + 1)) ∧ Inv (i + 1) (f i s))
  (h1 : ∀ n s, Inv N s → L (n + 1) s (idx N) = some (out s)) (s : σ) (hs : Inv 0 s) : L FUEL s (idx 0) = some (out (zX f 0 N s)) ∧ Inv N (zX f 0 N s) := by
 have key : ∀ k n x s, x + k = N → k < n → Inv x s → L n s (idx x) = some (out (zX f x k s)) ∧ Inv N (zX f x k s) := by
  intro k
  induction k with
  | zero =>
   intro n x s hx hn hi
   obtain ⟨n, rfl⟩ : ∃ m, n = m + 1 := ⟨n - 1, by omega⟩
   rw [Nat.add_zero] at hx
   subst hx
   exact ⟨h1 n s hi, hi⟩
  | succ k ih =>
   intro n x s hx hn hi
   obtain ⟨n, rfl⟩ : ∃ m, n = m + 1 := ⟨n - 1, by omega⟩
   have h := h0 n x s (by omega) hi
   rw [h.1]
   exact ih n (x + 1) (f x s) (by omega) (by omega) h.2
 exact key N FUEL 0 s (by omega) (by rw [PO]; omega) hs
namespace Saw
/-! ### Prices -/
def priceAt (p : qA) (n : Int) (i : Nat) : Option (Int × Bool) :=
 if p.Lengths.getD i default ≠ n then none else if p.Prices.length ≤ i then some (0, false) else some (p.Prices.getD i default, true)
def price (p : qA) (n : Int) : Int × Bool := match findN (priceAt p n) 0 p.Lengths.length with | .inl e => e | .inr _ => (0, false)
theorem qMZ (p : qA) (n : Int) (h : p.Lengths.length ≤ 1000000) : PF p n = some (price p n) := by
 unfold PF price
 have L : yA p n FUEL ((0 : Nat) : Int) = some (findN (priceAt p n) 0 (p.Lengths.length - 0)) := by
  refine wF p.Lengths.length (yA p n) _ 0 (by omega) (by omega) (fun m i hi hN => ?_) (fun m => ?_)
  ·rw [yA, decide_eq_true (by omega), qS (by omega) (by omega)]
   simp only [cond_true, Int.toNat_natCast, qU (show i < 4611686018427387904 by omega), priceAt]
   by_cases c : p.Lengths.getD i default ≠ n
   ·rw [if_pos c, show (p.Lengths.getD i default != n) = true by rw [bne_iff_ne]; exact c]; rfl
   rw [if_neg c, show (p.Lengths.getD i default != n) = false by rw [bne_eq_false_iff_eq]; omega]
   by_cases c2 : p.Prices.length ≤ i
   ·rw [if_pos c2, decide_eq_true (show (i : Int) ≥ ((p.Prices.length : Nat) : Int) by omega)]; rfl
   ·rw [if_neg c2, decide_eq_false (show ¬ (i : Int) ≥ ((p.Prices.length : Nat) : Int) by omega), qS (by omega) (by omega)]; rfl
  ·rw [yA, decide_eq_false (by omega)]; rfl
 rw [show ((0 : Nat) : Int) = 0 from rfl, Nat.sub_zero] at L
 rw [L]
 simp only [Option.bind_some]
 cases findN (priceAt p n) 0 p.Lengths.length <;> rfl
/-! ### What defects touch -/
def tch (d b : Box) : Bool := !(empS (mxS d.X b.X) || (empS (mxS d.Y b.Y) || empS (mxS d.Z b.Z)))
theorem qFD (d : Defect) (b : Box) : JF d b = some (tch d.Box b) := by
 unfold JF HF XU tch
 simp only [OK, Option.bind_some, qHE, qHc]
 cases empS (mxS d.Box.X b.X) <;> cases empS (mxS d.Box.Y b.Y) <;> cases empS (mxS d.Box.Z b.Z) <;> rfl
/-! ### Wane -/
def yO (r : Rect) : Int := (r.X.B - r.X.A) * (r.Y.B - r.Y.A)
def UZ (a w : Int) : Int := Int.tdiv (1000 * (a - w) + a - 1) a
def zones (l : List Slice) (r : Rect) : List Worth_zone := (List.range l.length).map (fun i => ⟨ext l i, UZ (yO r) (zL (l.getD i default).Sec r.X r.Y)⟩)
theorem qLn {r : Rect} (h : VR r) : 1 ≤ yO r ∧ yO r ≤ 1440000 := by
 unfold VR at h
 unfold yO
 have a := yD (a := r.X.B - r.X.A) (b := r.Y.B - r.Y.A) (m := 1200) (n := 1200) (by omega) (by omega) (by omega) (by omega) (by omega) (by omega)
 have b := Int.mul_pos (show 0 < r.X.B - r.X.A by omega) (show 0 < r.Y.B - r.Y.A by omega)
 omega
theorem qNh {l : List Slice} (h : VSol l) {r : Rect} (hr : VR r) : GJ l r = some (zones l r) := by
 have hl := h.len
 have ha := qLn hr
 have eA : w64 (w64 (r.X.B - r.X.A) * w64 (r.Y.B - r.Y.A)) = yO r := by
  have hr' := hr
  unfold VR at hr'
  rw [qJ (n := r.X.B - r.X.A) (by omega) (by omega), qJ (n := r.Y.B - r.Y.A) (by omega) (by omega)]
  unfold yO at ha ⊢
  exact qJ (by omega) (by omega)
 unfold GJ
 let zn : Nat → Worth_zone := fun i => ⟨ext l i, UZ (yO r) (zL (l.getD i default).Sec r.X r.Y)⟩
 have k := zS l.length (fun n (s : List Worth_zone × Int) i => JA l r n s.1 s.2 i) (fun i s => (s.1 ++ [zn i], qT l (i + 1))) (fun s => s.1)
  (fun i s => s.1 = (List.range i).map zn ∧ s.2 = qT l i) 0 (by omega) (by omega)
  (fun n i s hi hs => by
   obtain ⟨s1, s2⟩ := s
   obtain ⟨e1, e2⟩ := hs
   simp only at e1 e2
   have b := h.bd (i := i) (by omega)
   have b' := h.bd (i := i + 1) (by omega)
   have wb := qES (h.at hi).1 r.X r.Y
   rw [zO] at b'
   have e1' : s1.length = i := by rw [e1]; simp
   refine ⟨?_, by rw [e1, List.range_succ, List.map_append]; rfl, rfl⟩
   simp only
   rw [JA, decide_eq_true (by omega), qS (by omega) (by omega)]
   simp only [cond_true, Int.toNat_natCast, qU (show i < 4611686018427387904 by omega), qHN, Option.bind_some, eA, e2]
   rw [qBX (h.at hi).1, nz_t (by omega), jH (by omega) (by omega), qJ (n := qT l i + (l.getD i default).Len) (by omega) (by omega),
    qJ (n := yO r - zL (l.getD i default).Sec r.X r.Y) (by omega) (by omega), qJ (n := 1000 * _) (by omega) (by omega), qJ (n := 1000 * _ + _) (by omega) (by omega), qJ (n := 1000 * _ + _ - 1) (by omega) (by omega)]
   simp only [cond_true]
   have tb : -2000000000 ≤ UZ (yO r) (zL (l.getD i default).Sec r.X r.Y) ∧ UZ (yO r) (zL (l.getD i default).Sec r.X r.Y) ≤ 2000000000 := by
    unfold UZ
    generalize hu : 1000 * (yO r - zL (l.getD i default).Sec r.X r.Y) + yO r - 1 = u
    have hub : -1440000000 ≤ u ∧ u ≤ 1441440000 := by omega
    have ab := Int.natAbs_tdiv_le_natAbs u (yO r)
    omega
   unfold UZ at tb
   rw [qJ (by omega) (by omega)]
   rfl)
  (fun n s _ => by rw [JA, decide_eq_false (by omega)]; rfl) ([], 0) ⟨rfl, rfl⟩
 rw [show ((0 : Nat) : Int) = 0 from rfl] at k
 rw [k.1]
 exact congrArg some k.2.1
/-! ### Valid products -/
structure VP (p : qA) : Prop where
 nm : isNm p.Name = true
 th : 5 ≤ p.Thick ∧ p.Thick ≤ 300
 wd : p.Thick ≤ p.Width ∧ p.Width ≤ 600
 al : 0 ≤ p.Allow ∧ p.Allow ≤ 200
 wn : 0 ≤ p.Wane ∧ p.Wane ≤ 1000
 gr : (zB p).2 ≤ 600
 ll : 1 ≤ p.Lengths.length ∧ p.Lengths.length ≤ 8
 pl : p.Prices.length = p.Lengths.length
 lb : ∀ i, i < p.Lengths.length → 100 ≤ p.Lengths.getD i default ∧ p.Lengths.getD i default ≤ 20000
 pb : ∀ x ∈ p.Prices, 0 ≤ x ∧ x ≤ 1000000
theorem qKD {p : qA} (hn : isNm p.Name = true) (h : XQ p = 0) : VP p := by
 unfold XQ at h
 by_cases h1 : p.Thick < 5 ∨ 300 < p.Thick ∨ p.Width < p.Thick ∨ 600 < p.Width ∨ p.Allow < 0 ∨ 200 < p.Allow ∨ p.Wane < 0 ∨ 1000 < p.Wane
 ·rw [if_pos h1] at h; exact absurd h (by decide)
 rw [if_neg h1] at h
 by_cases h2 : 600 < (zB p).2
 ·rw [if_pos h2] at h; exact absurd h (by decide)
 rw [if_neg h2] at h
 unfold zbQ at h
 by_cases h3 : p.Lengths.length = 0
 ·rw [if_pos h3] at h; exact absurd h (by decide)
 rw [if_neg h3] at h
 by_cases h4 : 8 < p.Lengths.length
 ·rw [if_pos h4] at h; exact absurd h (by decide)
 rw [if_neg h4] at h
 by_cases h5 : p.Prices.length ≠ p.Lengths.length
 ·rw [if_pos h5] at h; exact absurd h (by decide)
 rw [if_neg h5] at h
 cases hf : findN (badLen p) 0 p.Lengths.length with
 | inl e =>
  rw [hf] at h
  obtain ⟨i, a, b, c, d⟩ := yP hf
  unfold badLen at c
  simp only at h
  subst h
  split at c
  ·cases c
  ·split at c <;> cases c
 | inr u =>
  rw [hf] at h
  cases hg : findE badPr p.Prices with
  | inl e =>
   rw [hg] at h
   obtain ⟨a, ha, hb⟩ := qAT hg
   simp only at h
   subst h
   unfold badPr at hb
   split at hb <;> cases hb
  | inr u' =>
   refine ⟨hn, by omega, by omega, by omega, by omega, by omega, by omega, by omega, fun i hi => ?_, fun x hx => ?_⟩
   ·have := WQ.1 hf i (by omega) (by omega)
    unfold badLen at this
    split at this
    ·cases this
    ·omega
   ·have := FA.1 hg x hx
    unfold badPr at this
    split at this
    ·cases this
    ·omega
theorem qHQ {p : qA} (hn : isNm p.Name = true) {l : List qA} {i : Nat} (h : badP l i = none) (e : l.getD i default = p) : XQ p = 0 := by
 unfold badP at h
 rw [e, hn] at h
 simp only [cond_true] at h
 cases hf : findN (twin l i) 0 i with
 | inl e => rw [hf] at h; cases h
 | inr u =>
  rw [hf] at h
  by_cases hc : XQ p = 0
  ·exact hc
  ·rw [show (XQ p != 0) = true by rw [bne_iff_ne]; exact hc] at h; cases h
theorem qGH {l : List qA} {i : Nat} (h : badP l i = none) : isNm (l.getD i default).Name = true := by
 unfold badP at h
 cases hn : isNm (l.getD i default).Name with
 | true => rfl
 | false => rw [hn] at h; cases h
theorem qJK {l : List qA} (h : wM l = 0) {i : Nat} (hi : i < l.length) : badP l i = none := by
 unfold wM at h
 split at h
 ·exact absurd h (by decide)
 ·cases hf : findN (badP l) 0 l.length with
  | inr u => exact WQ.1 hf i (by omega) (by omega)
  | inl e =>
   rw [hf] at h
   simp only at h
   subst h
   obtain ⟨j, a, b, c, d⟩ := yP hf
   unfold badP at c
   cases hn : isNm (l.getD j default).Name with
   | false => rw [hn] at c; cases c
   | true =>
    rw [hn] at c
    simp only [cond_true] at c
    cases hf' : findN (twin l j) 0 j with
    | inl e =>
     rw [hf'] at c
     obtain ⟨i', a', b', c', d'⟩ := yP hf'
     unfold twin at c'
     cases c
     cases hs : strEq (l.getD i' default).Name (l.getD j default).Name <;> rw [hs] at c' <;> cases c'
    | inr u =>
     rw [hf'] at c
     cases hz : XQ (l.getD j default) != 0 with
     | true => rw [hz] at c; simp only [cond_true] at c; injection c with c; exact absurd c (bne_iff_ne.1 hz)
     | false => rw [hz] at c; cases c
theorem qNK {l : List qA} (h : wM l = 0) {i : Nat} (hi : i < l.length) : VP (l.getD i default) := by
 have b := qJK h hi
 exact qKD (qGH b) (qHQ (qGH b) b rfl)
theorem qL3 {l : List qA} (h : wM l = 0) {i : Nat} (hi : i < l.length) : wM [l.getD i default] = 0 := by
 have b := qJK h hi
 have hn := qGH b
 have hc := qHQ hn b rfl
 unfold wM
 rw [if_neg (by simp)]
 have e : badP [l.getD i default] 0 = none := by
  unfold badP
  rw [show [l.getD i default].getD 0 default = l.getD i default from rfl, hn, hc]
  rfl
 simp only [List.length_cons, List.length_nil, Nat.zero_add, findN, e]
/-! ### The worst wane -/
def hitZ (z s : Span) : Bool := decide (z.A < s.B) && decide (s.A < z.B)
def worst (zs : List Worth_zone) (s : Span) : Int := zX (fun i m => bif hitZ (zs.getD i default).z s then imax m (zs.getD i default).lack else m) 0 zs.length 0
theorem qNm (zs : List Worth_zone) (s : Span) (h : zs.length ≤ 1000000) : GD zs s = some (worst zs s) := by
 unfold GD worst
 have k := zS zs.length (fun n (m : Int) i => jF zs s n m i) (fun i m => bif hitZ (zs.getD i default).z s then imax m (zs.getD i default).lack else m) (fun m => m) (fun _ _ => True) 0 (by omega) (by omega)
  (fun n i m hi _ => ⟨by
   rw [jF, decide_eq_true (by omega), qS (by omega) (by omega)]
   simp only [cond_true, Int.toNat_natCast, qU (show i < 4611686018427387904 by omega), UB, UU, hitZ]
   cases decide ((zs.getD i default).z.A < s.B) <;> cases decide (s.A < (zs.getD i default).z.B) <;> rfl, trivial⟩)
  (fun n m _ => by rw [jF, decide_eq_false (by omega)]; rfl) 0 trivial
 rw [show ((0 : Nat) : Int) = 0 from rfl, Nat.sub_zero] at k
 rw [k.1]; rfl
/-! ### A piece's worth -/
def dstep (ds : List Defect) (b : Box) (fine : Int) (i : Nat) (v : Int) : (Int × Bool) ⊕ Int :=
 bif tch (ds.getD i default).Box b then (bif (ds.getD i default).Kind == 3 then .inl (0, false) else .inr (v - fine)) else .inr v
def YJ (ds : List Defect) (b : Box) (fine v : Int) : Int × Bool := match runN (dstep ds b fine) 0 ds.length v with | .inl e => e | .inr o => (imax o 0, true)
def worthV (v : Worth_view) (s : Span) (fine : Int) : Int × Bool :=
 if 0 ≤ s.A ∧ s.A < s.B ∧ s.B ≤ v.length then
  bif (price v.product (s.B - s.A)).2 then
   if worst v.zones s > v.product.Wane then (0, false) else YJ v.defects ⟨v.rect.X, v.rect.Y, s⟩ fine (price v.product (s.B - s.A)).1
  else (0, false)
 else (0, false)
theorem qG8 {p : qA} (h : VP p) (n : Int) : 0 ≤ (price p n).1 ∧ (price p n).1 ≤ 1000000 := by
 unfold price
 cases hf : findN (priceAt p n) 0 p.Lengths.length with
 | inr u => exact ⟨show (0 : Int) ≤ 0 by decide, show (0 : Int) ≤ 1000000 by decide⟩
 | inl e =>
  obtain ⟨i, a, b, c, d⟩ := yP hf
  unfold priceAt at c
  split at c
  ·cases c
  ·split at c
   ·cases c; exact ⟨by decide, by decide⟩
   ·cases c
    exact h.pb _ (XY (by omega))
theorem qL6 (v : Worth_view) (s : Span) {fine v0 : Int} (hf : 0 ≤ fine ∧ fine ≤ 1000000) (hv : 0 ≤ v0 ∧ v0 ≤ 1000000) (hl : v.defects.length ≤ 64) :
  ((zJ v fine ⟨v.rect.X, v.rect.Y, s⟩ FUEL v0 0).bind fun u => Sum.elim (fun w => some w) (fun o => some (imax o 0, true)) u) = some (YJ v.defects ⟨v.rect.X, v.rect.Y, s⟩ fine v0) := by
 have k := qAv v.defects.length (fun n (m : Int) i => zJ v fine ⟨v.rect.X, v.rect.Y, s⟩ n m i) (dstep v.defects ⟨v.rect.X, v.rect.Y, s⟩ fine) (fun r => r) (fun i m => -(1000000 * (i : Int)) ≤ m ∧ m ≤ 1000000)
  (fun n i m hi hm => by
   unfold dstep
   have e : zJ v fine ⟨v.rect.X, v.rect.Y, s⟩ (n + 1) m (i : Int) = bif tch (v.defects.getD i default).Box ⟨v.rect.X, v.rect.Y, s⟩ then (bif (v.defects.getD i default).Kind == 3 then some (.inl (0, false)) else zJ v fine ⟨v.rect.X, v.rect.Y, s⟩ n (m - fine) ((i + 1 : Nat) : Int)) else zJ v fine ⟨v.rect.X, v.rect.Y, s⟩ n m ((i + 1 : Nat) : Int) := by
    rw [zJ, decide_eq_true (by omega), qS (by omega) (by omega)]
    simp only [cond_true, Int.toNat_natCast, qU (show i < 4611686018427387904 by omega), qFD, Option.bind_some, JN]
    rw [qJ (n := m - fine) (by omega) (by omega)]
    cases tch (v.defects.getD i default).Box ⟨v.rect.X, v.rect.Y, s⟩ <;> cases (v.defects.getD i default).Kind == 3 <;> rfl
   cases h1 : tch (v.defects.getD i default).Box ⟨v.rect.X, v.rect.Y, s⟩ with
   | false => rw [h1] at e; exact ⟨e, by omega⟩
   | true => cases h2 : (v.defects.getD i default).Kind == 3 with
    | true => rw [h1, h2] at e; exact e
    | false => rw [h1, h2] at e; exact ⟨e, by omega⟩)
  (fun n m _ => by rw [zJ, decide_eq_false (by omega)]; rfl) FUEL 0 v0 (by rw [PO]; omega) (by omega) (by omega)
 rw [show ((0 : Nat) : Int) = 0 from rfl, Nat.sub_zero] at k
 rw [k]
 unfold YJ
 cases runN (dstep v.defects ⟨v.rect.X, v.rect.Y, s⟩ fine) 0 v.defects.length v0 <;> rfl
theorem qMn (v : Worth_view) (s : Span) {fine : Int} (hf : 0 ≤ fine ∧ fine ≤ 1000000) (hp : VP v.product) (hl : v.defects.length ≤ 64) (hz : v.zones.length ≤ 1000000) (hn : v.length ≤ 20000) :
  QZ v s fine = some (worthV v s fine) := by
 unfold QZ worthV UY WK
 have hll := hp.ll
 by_cases c1 : s.A ≥ 0
 ·rw [decide_eq_true c1]
  by_cases c2 : s.A < s.B
  ·rw [decide_eq_true c2]
   by_cases c3 : s.B ≤ v.length
   ·rw [decide_eq_true c3, if_pos ⟨c1, c2, c3⟩, qJ (n := s.B - s.A) (by omega) (by omega)]
    simp only [cond_true, Option.bind_some, Bool.not_true, cond_false, qMZ v.product (s.B - s.A) (by omega), qNm v.zones s hz, JL, WW]
    cases hq : (price v.product (s.B - s.A)).2 with
    | false => rfl
    | true =>
     simp only [Bool.not_true, cond_false, cond_true]
     by_cases c4 : worst v.zones s > v.product.Wane
     ·rw [decide_eq_true c4, if_pos c4]; rfl
     ·rw [decide_eq_false c4, if_neg c4]
      simp only [cond_false]
      exact qL6 v s hf (qG8 hp _) hl
   ·rw [decide_eq_false c3, if_neg (fun h => c3 h.2.2)]; rfl
  ·rw [decide_eq_false c2, if_neg (fun h => c2 h.2.1)]; rfl
 ·rw [decide_eq_false c1, if_neg (fun h => c1 h.1)]; rfl
theorem qMU {ds : List Defect} {b : Box} {fine v : Int} (hf : 0 ≤ fine) (hv : 0 ≤ v ∧ v ≤ 1000000) : 0 ≤ (YJ ds b fine v).1 ∧ (YJ ds b fine v).1 ≤ 1000000 := by
 unfold YJ
 cases hr : runN (dstep ds b fine) 0 ds.length v with
 | inl e =>
  have : ∀ (k x : Nat) (w : Int), runN (dstep ds b fine) x k w = .inl e → e = (0, false) := by
   intro k
   induction k with
   | zero => intro x w h; cases h
   | succ k ih =>
    intro x w h
    unfold runN at h
    cases hd : dstep ds b fine x w with
    | inr w' => rw [hd] at h; exact ih _ _ h
    | inl e' =>
     rw [hd] at h
     cases h
     unfold dstep at hd
     cases h1 : tch (ds.getD x default).Box b with
     | false => rw [h1] at hd; cases hd
     | true => cases h2 : (ds.getD x default).Kind == 3 with
      | false => rw [h1, h2] at hd; cases hd
      | true => rw [h1, h2] at hd; cases hd; rfl
  rw [this _ _ _ hr]; decide
 | inr o =>
  have := runN_inv (dstep ds b fine) (fun _ m => m ≤ 1000000) ds.length (fun x m m' _ hm e => by
   unfold dstep at e
   cases h1 : tch (ds.getD x default).Box b with
   | false => rw [h1] at e; cases e; exact hm
   | true => cases h2 : (ds.getD x default).Kind == 3 with
    | true => rw [h1, h2] at e; cases e
    | false => rw [h1, h2] at e; cases e; show m - fine ≤ 1000000; omega) ds.length 0 v o (by omega) hv.2 hr
  have h2 := ZS o 0
  simp only
  omega
theorem qNB {v : Worth_view} {s : Span} {fine : Int} (hf : 0 ≤ fine) (hp : VP v.product) : 0 ≤ (worthV v s fine).1 ∧ (worthV v s fine).1 ≤ 1000000 ∧ ((worthV v s fine).2 = true → 0 ≤ s.A ∧ s.A < s.B ∧ s.B ≤ v.length) := by
 unfold worthV
 split
 ·rename_i h
  cases (price v.product (s.B - s.A)).2 with
  | false => exact ⟨show (0 : Int) ≤ 0 by decide, show (0 : Int) ≤ 1000000 by decide, fun h => by cases h⟩
  | true =>
   simp only [cond_true]
   split
   ·exact ⟨by decide, by decide, fun h => by cases h⟩
   ·have := qMU (ds := v.defects) (b := ⟨v.rect.X, v.rect.Y, s⟩) hf (qG8 hp (s.B - s.A))
    exact ⟨this.1, this.2, fun _ => h⟩
 ·exact ⟨by decide, by decide, fun h => by cases h⟩
def dimOk (r : Rect) (p : qA) : Bool := ((r.X.B - r.X.A == (zB p).1) && (r.Y.B - r.Y.A == (zB p).2)) || ((r.X.B - r.X.A == (zB p).2) && (r.Y.B - r.Y.A == (zB p).1))
def near (ds : List Defect) (b : Box) : List Defect := zX (fun i t => bif tch (ds.getD i default).Box b then t ++ [ds.getD i default] else t) 0 ds.length []
theorem qNA (ds : List Defect) (b : Box) : (near ds b).length ≤ ds.length := by
 unfold near
 have : ∀ k, (zX (fun i t => bif tch (ds.getD i default).Box b then t ++ [ds.getD i default] else t) 0 k ([] : List Defect)).length ≤ k := by
  intro k
  induction k with
  | zero => simp [zX]
  | succ k ih =>
   rw [WP]
   cases tch (ds.getD (0 + k) default).Box b with
   | true => simp only [cond_true, List.length_append, List.length_cons, List.length_nil]; omega
   | false => simp only [cond_false]; omega
 exact this _
def viewOf (l : List Slice) (ds : List Defect) (p : qA) (r : Rect) : Worth_view := ⟨p, r, qX l, zones l r, near ds ⟨r.X, r.Y, ⟨0, qX l⟩⟩⟩
def qLU : Worth_view := ⟨⟨⟨#[]⟩, 0, 0, 0, 0, [], []⟩, ⟨⟨0, 0⟩, ⟨0, 0⟩⟩, 0, [], []⟩
theorem look_eq {l : List Slice} {ds : List Defect} {p : qA} {r : Rect} (hs : VSol l) (hd : WO ds = 0) (hp : wM [p] = 0) (hr : VR r) :
  NS l ds p r = some (bif dimOk r p then (viewOf l ds p r, true) else (qLU, false)) := by
 have hdl := ((YV ds).1 hd).1
 unfold NS
 rw [(UA l).1, (YU l).2 hs, qJW, hd, qEr, hp, qMx, decide_eq_true hr]
 simp only [Option.bind_some, bne_self_eq_false, cond_false, Bool.not_true]
 unfold JX
 rw [(MC p).1]
 have hr' := hr
 unfold VR at hr'
 rw [qJ (n := r.X.B - r.X.A) (by omega) (by omega), qJ (n := r.Y.B - r.Y.A) (by omega) (by omega)]
 have K : ∀ b, KY l ds p r b = some (bif b then (qLU, false) else (viewOf l ds p r, true)) := fun b => by
  unfold KY
  cases b with
  | true => rfl
  | false =>
   rw [(YG l).1, PJ hs, qNh hs hr]
   simp only [Option.bind_some, cond_false, WW]
   have k := zS ds.length (fun n (t : List Defect) i => QM ds ⟨r.X, r.Y, ⟨0, qX l⟩⟩ n i t) (fun i t => bif tch (ds.getD i default).Box ⟨r.X, r.Y, ⟨0, qX l⟩⟩ then t ++ [ds.getD i default] else t) (fun t => t) (fun i t => t.length ≤ i) 0 (by omega) (by omega)
    (fun n i t hi ht => by
     refine ⟨?_, ?_⟩
     ·rw [QM, decide_eq_true (by omega), qS (by omega) (by omega)]
      simp only [cond_true, Int.toNat_natCast, qU (show i < 4611686018427387904 by omega), qFD, Option.bind_some, GU]
      rw [jH (by omega) (by omega)]
      cases tch (ds.getD i default).Box ⟨r.X, r.Y, ⟨0, qX l⟩⟩ <;> rfl
     ·cases tch (ds.getD i default).Box ⟨r.X, r.Y, ⟨0, qX l⟩⟩ with
      | true => simp only [cond_true, List.length_append, List.length_cons, List.length_nil]; omega
      | false => simp only [cond_false]; omega)
    (fun n t _ => by rw [QM, decide_eq_false (by omega)]; rfl) [] (by simp)
   rw [show ((0 : Nat) : Int) = 0 from rfl, Nat.sub_zero] at k
   rw [k.1]
   rfl
 simp only [Option.bind_some, cond_false, K, Bool.and_true, dimOk]
 cases (r.X.B - r.X.A == (zB p).1) && (r.Y.B - r.Y.A == (zB p).2) <;> cases (r.X.B - r.X.A == (zB p).2) && (r.Y.B - r.Y.A == (zB p).1) <;> rfl
/-! ### The best piece -/
def spanAt (p : qA) (z : Int) (i : Nat) : Span := ⟨z, z + p.Lengths.getD i default⟩
def GF (st : Int × Bool × Span) (v : Int × Bool) (s : Span) : Int × Bool × Span := bif v.2 && (!st.2.1 || decide (v.1 > st.1)) then (v.1, true, s) else st
def CX (v : Worth_view) (fine z : Int) (st : Int × Bool × Span) : Int × Bool × Span := zX (fun i st => GF st (worthV v (spanAt v.product z i) fine) (spanAt v.product z i)) 0 v.product.Lengths.length st
def TE (n step : Int) : Nat := ((n + step - 1) / step).toNat
def bestV (v : Worth_view) (step fine : Int) : Int × Bool × Span := zX (fun k st => CX v fine ((k : Int) * step) st) 0 (TE v.length step) (0, false, ⟨0, 0⟩)
theorem qAI {n step : Int} (h0 : 0 ≤ n) (h1 : 1 ≤ step) {k : Nat} : k < TE n step ↔ (k : Int) * step < n := by
 unfold TE
 have hd : 0 ≤ (n + step - 1) / step := Int.ediv_nonneg (by omega) (by omega)
 have a : (k : Int) < (n + step - 1) / step ↔ ((k : Int) + 1) * step ≤ n + step - 1 := by
  rw [← Int.le_ediv_iff_mul_le (by omega)]; omega
 have e : ((k : Int) + 1) * step = (k : Int) * step + step := by rw [Int.add_mul]; simp
 rw [e] at a
 omega
/-- What a best piece is like. -/
def BI' (n : Int) (st : Int × Bool × Span) : Prop := 0 ≤ st.1 ∧ st.1 ≤ 1000000 ∧ (st.2.1 = true → 0 ≤ st.2.2.A ∧ st.2.2.A < st.2.2.B ∧ st.2.2.B ≤ n)
theorem qMP {n : Int} {st : Int × Bool × Span} {v : Int × Bool} {s : Span} (h : BI' n st) (hv : 0 ≤ v.1 ∧ v.1 ≤ 1000000 ∧ (v.2 = true → 0 ≤ s.A ∧ s.A < s.B ∧ s.B ≤ n)) : BI' n (GF st v s) := by
 unfold GF
 cases hc : v.2 && (!st.2.1 || decide (v.1 > st.1)) with
 | false => exact h
 | true =>
  have : v.2 = true := by cases h2 : v.2 with | true => rfl | false => rw [h2] at hc; cases hc
  exact ⟨hv.1, hv.2.1, fun _ => hv.2.2 this⟩
theorem qDg {σ : Type} {f : Nat → σ → σ} {P : σ → Prop} : ∀ {k x : Nat} {s : σ}, P s → (∀ i s, x ≤ i → i < x + k → P s → P (f i s)) → P (zX f x k s)
 | 0, _, _, h, _ => h
 | k + 1, x, s, h, hf => by
  unfold zX
  exact qDg (k := k) (hf x s (Nat.le_refl _) (by omega) h) (fun i s h1 h2 => hf i s (by omega) (by omega))
theorem qL4 {v : Worth_view} {fine z : Int} {st : Int × Bool × Span} (hf : 0 ≤ fine) (hp : VP v.product) (h : BI' v.length st) : BI' v.length (CX v fine z st) :=
 qDg h (fun i s _ _ hs => qMP hs (qNB hf hp))
theorem qNj {v : Worth_view} {step fine : Int} (hf : 0 ≤ fine) (hp : VP v.product) : BI' v.length (bestV v step fine) :=
 qDg ⟨by decide, by decide, fun h => by cases h⟩ (fun i s _ _ hs => qL4 hf hp hs)
theorem qMI (v : Worth_view) {fine z : Int} (hf : 0 ≤ fine ∧ fine ≤ 1000000) (hp : VP v.product) (hl : v.defects.length ≤ 64) (hz : v.zones.length ≤ 1000000) (hn : v.length ≤ 20000) (h0 : 0 ≤ z) (h1 : z ≤ 20000) (a b : Bool) (st : Int × Bool × Span) :
  wP v.product fine (v, a) z FUEL st.1 st.2.1 0 st.2.2 = some (CX v fine z st) := by
 have hll := hp.ll
 have k := zS v.product.Lengths.length (fun n (s : Int × Bool × Span) i => wP v.product fine (v, a) z n s.1 s.2.1 i s.2.2) (fun i st => GF st (worthV v (spanAt v.product z i) fine) (spanAt v.product z i)) (fun s => s) (fun _ _ => True) 0 (by omega) (by omega)
  (fun n i s hi _ => ⟨by
   obtain ⟨s1, s2, s3⟩ := s
   have lb := hp.lb i hi
   try simp only
   rw [wP, decide_eq_true (by omega), qS (by omega) (by omega)]
   simp only [cond_true, Int.toNat_natCast, qU (show i < 4611686018427387904 by omega)]
   rw [qJ (n := z + v.product.Lengths.getD i default) (by omega) (by omega)]
   have e : QZ ⟨v.product, v.rect, v.length, v.zones, v.defects⟩ ⟨z, z + v.product.Lengths.getD i default⟩ fine = some (worthV v (spanAt v.product z i) fine) := qMn v (spanAt v.product z i) hf hp hl hz hn
   rw [e]
   simp only [Option.bind_some, PD, GV, GF, Int.toNat_natCast, qU (show i < 4611686018427387904 by omega)]
   rw [qJ (n := z + v.product.Lengths.getD i default) (by omega) (by omega)]
   cases (worthV v (spanAt v.product z i) fine).2 <;> cases s2 <;> cases decide ((worthV v (spanAt v.product z i) fine).1 > s1) <;> rfl, trivial⟩)
  (fun n s _ => by rw [wP, decide_eq_false (by omega)]; rfl) st trivial
 rw [show ((0 : Nat) : Int) = 0 from rfl, Nat.sub_zero] at k
 exact k.1
theorem qNs (v : Worth_view) {step fine : Int} (hf : 0 ≤ fine ∧ fine ≤ 1000000) (hs : 1 ≤ step ∧ step ≤ 20000) (hp : VP v.product) (hl : v.defects.length ≤ 64) (hz : v.zones.length ≤ 1000000) (hn : 0 ≤ v.length ∧ v.length ≤ 20000) (a : Bool) :
  WE v.product step fine (v, a) FUEL 0 false 0 ⟨0, 0⟩ = some (bestV v step fine) := by
 have hN : TE v.length step ≤ 1000000000 := by
  unfold TE
  have := Int.ediv_le_self step (show 0 ≤ v.length + step - 1 by omega)
  omega
 have k := qFJ (TE v.length step) (fun n (s : Int × Bool × Span) (z : Int) => WE v.product step fine (v, a) n s.1 s.2.1 z s.2.2) (fun k => (k : Int) * step) (fun k st => CX v fine ((k : Int) * step) st) (fun s => s) (fun _ _ => True) hN
  (fun n i s hi _ => ⟨by
   have h1 := (qAI hn.1 hs.1).1 hi
   have h0 : 0 ≤ (i : Int) * step := Int.mul_nonneg (by omega) (by omega)
   have e : (i : Int) * step + step = ((i + 1 : Nat) : Int) * step := by rw [Int.natCast_add, Int.add_mul]; simp
   try simp only
   rw [WE, decide_eq_true h1, qMI v hf hp hl hz hn.2 h0 (by omega) a true s, qJ (by omega) (by omega), e]
   rfl, trivial⟩)
  (fun n s _ => by
   have h1 : ¬ ((TE v.length step : Nat) : Int) * step < v.length := fun h => by have := (qAI hn.1 hs.1).2 h; omega
   try simp only
   rw [WE, decide_eq_false h1]; rfl) (0, false, ⟨0, 0⟩) trivial
 simp only [Int.natCast_zero, Int.zero_mul] at k
 exact k.1
def yY (l : List Slice) (ds : List Defect) (p : qA) (r : Rect) (step fine : Int) : Int × Bool × Span := bif dimOk r p then bestV (viewOf l ds p r) step fine else (0, false, ⟨0, 0⟩)
theorem qH0 (l : List Slice) (r : Rect) : (zones l r).length = l.length := by unfold zones; simp
theorem MR {l : List Slice} (h : VSol l) : 1 ≤ qX l ∧ qX l ≤ 20000 := by
 have := h.bd (Nat.le_refl l.length)
 have := h.ne
 unfold qX; omega
theorem qJJ {l : List Slice} {ds : List Defect} {p : qA} {r : Rect} {step fine : Int} (hf : 0 ≤ fine) (hp : VP p) : BI' (qX l) (yY l ds p r step fine) := by
 unfold yY
 cases dimOk r p with
 | true => exact qNj (v := viewOf l ds p r) hf hp
 | false => exact ⟨show (0 : Int) ≤ 0 by decide, show (0 : Int) ≤ 1000000 by decide, fun h => by cases h⟩
theorem qM4 {l : List Slice} {ds : List Defect} {p : qA} {r : Rect} {step fine : Int} (hs : VSol l) (hd : WO ds = 0) (hp : wM [p] = 0) (hv : VP p) (hr : VR r) (hst : 1 ≤ step ∧ step ≤ 20000) (hf : 0 ≤ fine ∧ fine ≤ 1000000) :
  FW l ds p r step fine = some ((yY l ds p r step fine).2.2, (yY l ds p r step fine).1, (yY l ds p r step fine).2.1) := by
 have hdl := ((YV ds).1 hd).1
 have hl := hs.len
 unfold FW GT
 rw [qHy, qHF, decide_eq_true hst, decide_eq_true hf]
 simp only [Option.bind_some, Bool.not_true, cond_false, look_eq hs hd hp hr]
 unfold yY
 cases dimOk r p with
 | false => rfl
 | true =>
  simp only [cond_true, Bool.not_true, cond_false]
  have nl := qNA ds ⟨r.X, r.Y, ⟨0, qX l⟩⟩
  have sb := MR hs
  have k := qNs (viewOf l ds p r) (step := step) hf hst hv (by show (near ds _).length ≤ 64; omega) (by show (zones l r).length ≤ 1000000; rw [qH0]; omega) ⟨by show 0 ≤ qX l; omega, sb.2⟩ true
  rw [show (viewOf l ds p r).product = p from rfl] at k
  rw [k]; rfl
/-- The gain of a product's piece in a rectangle, -1 if there is none. -/
def qBZ (l : List Slice) (ds : List Defect) (p : qA) (r : Rect) (w : Saw) (t : Rates) : Int :=
 bif (yY l ds p r w.Step t.Fine).2.1 then
  (1000000 * (yY l ds p r w.Step t.Fine).1
   + t.Dust * (volS l r.X r.Y ⟨imax 0 ((yY l ds p r w.Step t.Fine).2.2.A - w.Trim), (yY l ds p r w.Step t.Fine).2.2.A⟩ + volS l r.X r.Y ⟨(yY l ds p r w.Step t.Fine).2.2.B, imin ((yY l ds p r w.Step t.Fine).2.2.B + w.Trim) (qX l)⟩))
   + t.Chip * (volS l r.X r.Y ⟨0, qX l⟩ - volS l r.X r.Y (yY l ds p r w.Step t.Fine).2.2
     - (volS l r.X r.Y ⟨imax 0 ((yY l ds p r w.Step t.Fine).2.2.A - w.Trim), (yY l ds p r w.Step t.Fine).2.2.A⟩ + volS l r.X r.Y ⟨(yY l ds p r w.Step t.Fine).2.2.B, imin ((yY l ds p r w.Step t.Fine).2.2.B + w.Trim) (qX l)⟩))
 else -1
theorem qKZ {l : List Slice} {ds : List Defect} {p : qA} {r : Rect} {w : Saw} {t : Rates} (hs : VSol l) (hd : WO ds = 0) (hp : wM [p] = 0) (hv : VP p) (hr : VR r) (hw : VW w t) :
  SI l ds p r w t = some (qBZ l ds p r w t) ∧ -1125899906842624 ≤ qBZ l ds p r w t ∧ qBZ l ds p r w t ≤ 1125899906842624 := by
 unfold SI qBZ
 rw [qM4 hs hd hp hv hr hw.step hw.fine]
 have B := qJJ (l := l) (ds := ds) (p := p) (r := r) (step := w.Step) hw.fine.1 hv
 generalize yY l ds p r w.Step t.Fine = b at *
 obtain ⟨v, f, z⟩ := b
 simp only [Option.bind_some] at *
 cases f with
 | false => exact ⟨rfl, show (-1125899906842624 : Int) ≤ -1 by decide, show (-1 : Int) ≤ 1125899906842624 by decide⟩
 | true =>
  obtain ⟨b1, b2, b3⟩ := B
  have b3 := b3 rfl
  simp only at b1 b2 b3
  simp only [Bool.not_true, cond_false, cond_true]
  have sb := MR hs
  have tr := hw.trim
  rw [(YG l).1, PJ hs]
  simp only [Option.bind_some, qMl hs]
  rw [qJ (n := z.A - w.Trim) (by omega) (by omega), qJ (n := z.B + w.Trim) (by omega) (by omega)]
  have v1 := ID hs r.X r.Y ⟨0, qX l⟩
  have v2 := ID hs r.X r.Y z
  have v3 := ID hs r.X r.Y ⟨imax 0 (z.A - w.Trim), z.A⟩
  have v4 := ID hs r.X r.Y ⟨z.B, imin (z.B + w.Trim) (qX l)⟩
  generalize volS l r.X r.Y ⟨0, qX l⟩ = x1 at *
  generalize volS l r.X r.Y z = x2 at *
  generalize volS l r.X r.Y ⟨imax 0 (z.A - w.Trim), z.A⟩ = x3 at *
  generalize volS l r.X r.Y ⟨z.B, imin (z.B + w.Trim) (qX l)⟩ = x4 at *
  have m1 := yD (a := t.Dust) (b := x3 + x4) (m := 1000) (n := 57600000000) (by have := hw.dust; omega) (by have := hw.dust; omega) (by omega) (by omega) (by omega) (by omega)
  have m2 := yD (a := t.Chip) (b := x1 - x2 - (x3 + x4)) (m := 1000) (n := 86400000000) (by have := hw.chip; omega) (by have := hw.chip; omega) (by omega) (by omega) (by omega) (by omega)
  rw [qJ (n := 1000000 * v) (by omega) (by omega), qJ (n := x3 + x4) (by omega) (by omega), qJ (n := x1 - x2) (by omega) (by omega), qJ (n := x1 - x2 - (x3 + x4)) (by omega) (by omega)]
  generalize t.Dust * (x3 + x4) = y1 at *
  generalize t.Chip * (x1 - x2 - (x3 + x4)) = y2 at *
  rw [qJ (n := y1) (by omega) (by omega), qJ (n := y2) (by omega) (by omega), qJ (n := 1000000 * v + y1) (by omega) (by omega), qJ (by omega) (by omega)]
  exact ⟨rfl, by omega, by omega⟩
end Saw
end Go.SL
