/- Edge's plain mathematics, part 10: the best piece of a rectangle, and its gain. -/
import Derived.Test.YtjobdnkaonbgnaaGreatEMa3
import Derived.Test.YtjobdnkaonbgnaaGreatEMa1
set_option linter.unusedVariables false
set_option linter.unusedSimpArgs false
namespace Go.SL
namespace Saw
def dimOk (r : Rect) (p : Product) : Bool := ((r.X.B - r.X.A == (zY p).1) && (r.Y.B - r.Y.A == (zY p).2)) || ((r.X.B - r.X.A == (zY p).2) && (r.Y.B - r.Y.A == (zY p).1))
def near (ds : List Defect) (b : Box) : List Defect := jS (fun i t => bif tch (ds.getD i default).Box b then t ++ [ds.getD i default] else t) 0 ds.length []
theorem qQX (ds : List Defect) (b : Box) : (near ds b).length ≤ ds.length := by
 unfold near
 have : ∀ k, (jS (fun i t => bif tch (ds.getD i default).Box b then t ++ [ds.getD i default] else t) 0 k ([] : List Defect)).length ≤ k := by
  intro k
  induction k with
  | zero => simp [jS]
  | succ k ih =>
   rw [TZ]
   cases tch (ds.getD (0 + k) default).Box b with
   | true => simp only [cond_true, List.length_append, List.length_cons, List.length_nil]; omega
   | false => simp only [cond_false]; omega
 exact this _
def viewOf (l : List Slice) (ds : List Defect) (p : Product) (r : Rect) : Worth_view := ⟨p, r, zI l, zones l r, near ds ⟨r.X, r.Y, ⟨0, zI l⟩⟩⟩
def qPY : Worth_view := ⟨⟨⟨#[]⟩, 0, 0, 0, 0, [], []⟩, ⟨⟨0, 0⟩, ⟨0, 0⟩⟩, 0, [], []⟩
theorem look_eq {l : List Slice} {ds : List Defect} {p : Product} {r : Rect} (hs : VSol l) (hd : GV ds = 0) (hp : yV [p] = 0) (hr : VR r) :
  EK l ds p r = some (bif dimOk r p then (viewOf l ds p r, true) else (qPY, false)) := by
 have hdl := ((qDU ds).1 hd).1
 unfold EK
 rw [(TV l).1, (YG l).2 hs, qM7, hd, qMa, hp, qPc, decide_eq_true hr]
 simp only [Option.bind_some, bne_self_eq_false, cond_false, Bool.not_true]
 unfold KH
 rw [(IK p).1]
 have hr' := hr
 unfold VR at hr'
 rw [qL (n := r.X.B - r.X.A) (by omega) (by omega), qL (n := r.Y.B - r.Y.A) (by omega) (by omega)]
 have K : ∀ b, UO l ds p r b = some (bif b then (qPY, false) else (viewOf l ds p r, true)) := fun b => by
  unfold UO
  cases b with
  | true => rfl
  | false =>
   rw [(BG l).1, VZ hs, qQK hs hr]
   simp only [Option.bind_some, cond_false, YN]
   have k := QB ds.length (fun n (t : List Defect) i => ZP ds ⟨r.X, r.Y, ⟨0, zI l⟩⟩ n i t) (fun i t => bif tch (ds.getD i default).Box ⟨r.X, r.Y, ⟨0, zI l⟩⟩ then t ++ [ds.getD i default] else t) (fun t => t) (fun i t => t.length ≤ i) 0 (by omega) (by omega)
    (fun n i t hi ht => by
     refine ⟨?_, ?_⟩
     ·rw [ZP, decide_eq_true (by omega), qV (by omega) (by omega)]
      simp only [cond_true, Int.toNat_natCast, zA (show i < 4611686018427387904 by omega), qH9, Option.bind_some, MI]
      rw [YD (by omega) (by omega)]
      cases tch (ds.getD i default).Box ⟨r.X, r.Y, ⟨0, zI l⟩⟩ <;> rfl
     ·cases tch (ds.getD i default).Box ⟨r.X, r.Y, ⟨0, zI l⟩⟩ with
      | true => simp only [cond_true, List.length_append, List.length_cons, List.length_nil]; omega
      | false => simp only [cond_false]; omega)
    (fun n t _ => by rw [ZP, decide_eq_false (by omega)]; rfl) [] (by simp)
   rw [show ((0 : Nat) : Int) = 0 from rfl, Nat.sub_zero] at k
   rw [k.1]
   rfl
 simp only [Option.bind_some, cond_false, K, Bool.and_true, dimOk]
 cases (r.X.B - r.X.A == (zY p).1) && (r.Y.B - r.Y.A == (zY p).2) <;> cases (r.X.B - r.X.A == (zY p).2) && (r.Y.B - r.Y.A == (zY p).1) <;> rfl
/-! ### The best piece -/
def spanAt (p : Product) (z : Int) (i : Nat) : Span := ⟨z, z + p.Lengths.getD i default⟩
def LQ (st : Int × Bool × Span) (v : Int × Bool) (s : Span) : Int × Bool × Span := bif v.2 && (!st.2.1 || decide (v.1 > st.1)) then (v.1, true, s) else st
def qBX (v : Worth_view) (fine z : Int) (st : Int × Bool × Span) : Int × Bool × Span := jS (fun i st => LQ st (worthV v (spanAt v.product z i) fine) (spanAt v.product z i)) 0 v.product.Lengths.length st
def BX (n step : Int) : Nat := ((n + step - 1) / step).toNat
def bestV (v : Worth_view) (step fine : Int) : Int × Bool × Span := jS (fun k st => qBX v fine ((k : Int) * step) st) 0 (BX v.length step) (0, false, ⟨0, 0⟩)
theorem qCl {n step : Int} (h0 : 0 ≤ n) (h1 : 1 ≤ step) {k : Nat} : k < BX n step ↔ (k : Int) * step < n := by
 unfold BX
 have hd : 0 ≤ (n + step - 1) / step := Int.ediv_nonneg (by omega) (by omega)
 have a : (k : Int) < (n + step - 1) / step ↔ ((k : Int) + 1) * step ≤ n + step - 1 := by
  rw [← Int.le_ediv_iff_mul_le (by omega)]; omega
 have e : ((k : Int) + 1) * step = (k : Int) * step + step := by rw [Int.add_mul]; simp
 rw [e] at a
 omega
/-- What a best piece is like. -/
def BI' (n : Int) (st : Int × Bool × Span) : Prop := 0 ≤ st.1 ∧ st.1 ≤ 1000000 ∧ (st.2.1 = true → 0 ≤ st.2.2.A ∧ st.2.2.A < st.2.2.B ∧ st.2.2.B ≤ n)
theorem qPt {n : Int} {st : Int × Bool × Span} {v : Int × Bool} {s : Span} (h : BI' n st) (hv : 0 ≤ v.1 ∧ v.1 ≤ 1000000 ∧ (v.2 = true → 0 ≤ s.A ∧ s.A < s.B ∧ s.B ≤ n)) : BI' n (LQ st v s) := by
 unfold LQ
 cases hc : v.2 && (!st.2.1 || decide (v.1 > st.1)) with
 | false => exact h
 | true =>
  have : v.2 = true := by cases h2 : v.2 with | true => rfl | false => rw [h2] at hc; cases hc
  exact ⟨hv.1, hv.2.1, fun _ => hv.2.2 this⟩
theorem qED {σ : Type} {f : Nat → σ → σ} {P : σ → Prop} : ∀ {k x : Nat} {s : σ}, P s → (∀ i s, x ≤ i → i < x + k → P s → P (f i s)) → P (jS f x k s)
 | 0, _, _, h, _ => h
 | k + 1, x, s, h, hf => by
  unfold jS
  exact qED (k := k) (hf x s (Nat.le_refl _) (by omega) h) (fun i s h1 h2 => hf i s (by omega) (by omega))
theorem qP5 {v : Worth_view} {fine z : Int} {st : Int × Bool × Span} (hf : 0 ≤ fine) (hp : VP v.product) (h : BI' v.length st) : BI' v.length (qBX v fine z st) :=
 qED h (fun i s _ _ hs => qPt hs (qQz hf hp))
theorem qQ0 {v : Worth_view} {step fine : Int} (hf : 0 ≤ fine) (hp : VP v.product) : BI' v.length (bestV v step fine) :=
 qED ⟨by decide, by decide, fun h => by cases h⟩ (fun i s _ _ hs => qP5 hf hp hs)
theorem qPq (v : Worth_view) {fine z : Int} (hf : 0 ≤ fine ∧ fine ≤ 1000000) (hp : VP v.product) (hl : v.defects.length ≤ 64) (hz : v.zones.length ≤ 1000000) (hn : v.length ≤ 20000) (h0 : 0 ≤ z) (h1 : z ≤ 20000) (a b : Bool) (st : Int × Bool × Span) :
  jF v.product fine (v, a) z FUEL st.1 st.2.1 0 st.2.2 = some (qBX v fine z st) := by
 have hll := hp.ll
 have k := QB v.product.Lengths.length (fun n (s : Int × Bool × Span) i => jF v.product fine (v, a) z n s.1 s.2.1 i s.2.2) (fun i st => LQ st (worthV v (spanAt v.product z i) fine) (spanAt v.product z i)) (fun s => s) (fun _ _ => True) 0 (by omega) (by omega)
  (fun n i s hi _ => ⟨by
   obtain ⟨s1, s2, s3⟩ := s
   have lb := hp.lb i hi
   try simp only
   rw [jF, decide_eq_true (by omega), qV (by omega) (by omega)]
   simp only [cond_true, Int.toNat_natCast, zA (show i < 4611686018427387904 by omega)]
   rw [qL (n := z + v.product.Lengths.getD i default) (by omega) (by omega)]
   have e : WG ⟨v.product, v.rect, v.length, v.zones, v.defects⟩ ⟨z, z + v.product.Lengths.getD i default⟩ fine = some (worthV v (spanAt v.product z i) fine) := qQi v (spanAt v.product z i) hf hp hl hz hn
   rw [e]
   simp only [Option.bind_some, VH, MK, LQ, Int.toNat_natCast, zA (show i < 4611686018427387904 by omega)]
   rw [qL (n := z + v.product.Lengths.getD i default) (by omega) (by omega)]
   cases (worthV v (spanAt v.product z i) fine).2 <;> cases s2 <;> cases decide ((worthV v (spanAt v.product z i) fine).1 > s1) <;> rfl, trivial⟩)
  (fun n s _ => by rw [jF, decide_eq_false (by omega)]; rfl) st trivial
 rw [show ((0 : Nat) : Int) = 0 from rfl, Nat.sub_zero] at k
 exact k.1
theorem qQZ (v : Worth_view) {step fine : Int} (hf : 0 ≤ fine ∧ fine ≤ 1000000) (hs : 1 ≤ step ∧ step ≤ 20000) (hp : VP v.product) (hl : v.defects.length ≤ 64) (hz : v.zones.length ≤ 1000000) (hn : 0 ≤ v.length ∧ v.length ≤ 20000) (a : Bool) :
  JU v.product step fine (v, a) FUEL 0 false 0 ⟨0, 0⟩ = some (bestV v step fine) := by
 have hN : BX v.length step ≤ 1000000000 := by
  unfold BX
  have := Int.ediv_le_self step (show 0 ≤ v.length + step - 1 by omega)
  omega
 have k := qHK (BX v.length step) (fun n (s : Int × Bool × Span) (z : Int) => JU v.product step fine (v, a) n s.1 s.2.1 z s.2.2) (fun k => (k : Int) * step) (fun k st => qBX v fine ((k : Int) * step) st) (fun s => s) (fun _ _ => True) hN
  (fun n i s hi _ => ⟨by
   have h1 := (qCl hn.1 hs.1).1 hi
   have h0 : 0 ≤ (i : Int) * step := Int.mul_nonneg (by omega) (by omega)
   have e : (i : Int) * step + step = ((i + 1 : Nat) : Int) * step := by rw [Int.natCast_add, Int.add_mul]; simp
   try simp only
   rw [JU, decide_eq_true h1, qPq v hf hp hl hz hn.2 h0 (by omega) a true s, qL (by omega) (by omega), e]
   rfl, trivial⟩)
  (fun n s _ => by
   have h1 : ¬ ((BX v.length step : Nat) : Int) * step < v.length := fun h => by have := (qCl hn.1 hs.1).2 h; omega
   try simp only
   rw [JU, decide_eq_false h1]; rfl) (0, false, ⟨0, 0⟩) trivial
 simp only [Int.natCast_zero, Int.zero_mul] at k
 exact k.1
def bestR (l : List Slice) (ds : List Defect) (p : Product) (r : Rect) (step fine : Int) : Int × Bool × Span := bif dimOk r p then bestV (viewOf l ds p r) step fine else (0, false, ⟨0, 0⟩)
theorem qKg (l : List Slice) (r : Rect) : (zones l r).length = l.length := by unfold zones; simp
theorem MZ {l : List Slice} (h : VSol l) : 1 ≤ zI l ∧ zI l ≤ 20000 := by
 have := h.bd (Nat.le_refl l.length)
 have := h.ne
 unfold zI; omega
theorem qQA {l : List Slice} {ds : List Defect} {p : Product} {r : Rect} {step fine : Int} (hf : 0 ≤ fine) (hp : VP p) : BI' (zI l) (bestR l ds p r step fine) := by
 unfold bestR
 cases dimOk r p with
 | true => exact qQ0 (v := viewOf l ds p r) hf hp
 | false => exact ⟨show (0 : Int) ≤ 0 by decide, show (0 : Int) ≤ 1000000 by decide, fun h => by cases h⟩
theorem qQ8 {l : List Slice} {ds : List Defect} {p : Product} {r : Rect} {step fine : Int} (hs : VSol l) (hd : GV ds = 0) (hp : yV [p] = 0) (hv : VP p) (hr : VR r) (hst : 1 ≤ step ∧ step ≤ 20000) (hf : 0 ≤ fine ∧ fine ≤ 1000000) :
  EP l ds p r step fine = some ((bestR l ds p r step fine).2.2, (bestR l ds p r step fine).1, (bestR l ds p r step fine).2.1) := by
 have hdl := ((qDU ds).1 hd).1
 have hl := hs.len
 unfold EP MN
 rw [qKk, qKd, decide_eq_true hst, decide_eq_true hf]
 simp only [Option.bind_some, Bool.not_true, cond_false, look_eq hs hd hp hr]
 unfold bestR
 cases dimOk r p with
 | false => rfl
 | true =>
  simp only [cond_true, Bool.not_true, cond_false]
  have nl := qQX ds ⟨r.X, r.Y, ⟨0, zI l⟩⟩
  have sb := MZ hs
  have k := qQZ (viewOf l ds p r) (step := step) hf hst hv (by show (near ds _).length ≤ 64; omega) (by show (zones l r).length ≤ 1000000; rw [qKg]; omega) ⟨by show 0 ≤ zI l; omega, sb.2⟩ true
  rw [show (viewOf l ds p r).product = p from rfl] at k
  rw [k]; rfl
end Saw
end Go.SL

namespace Go.SL.Saw
def bdAny (_ : Rect) (a : Int) : Int := if a < 0 ∨ 16 ≤ a then 8 else 0
def bdCat (l : List Product) (r : Rect) (a : Int) : Int := if a < 0 ∨ (l.length : Int) ≤ a then 8 else bif dimOk r (l.getD a.toNat default) then 0 else 20
theorem any_eq (r : Rect) (a : Int) : XH r a = some (bdAny r a) := by
 unfold XH XJ bdAny
 by_cases h1 : a < 0
 ·rw [decide_eq_true h1, if_pos (.inl h1)]; rfl
 ·by_cases h2 : 16 ≤ a
  ·rw [decide_eq_false h1, decide_eq_true (show a ≥ 16 from h2), if_pos (.inr h2)]; rfl
  ·rw [decide_eq_false h1, decide_eq_false (show ¬ a ≥ 16 from h2), if_neg (by omega)]; rfl
theorem qPr {s : Span} (h : WS s) : lenS s = s.B - s.A := by
 unfold lenS empS
 obtain ⟨h1, h2, h3⟩ := h
 by_cases e : s.B ≤ s.A
 ·rw [decide_eq_true e]; simp; omega
 ·rw [decide_eq_false e]; simp
theorem cat_eq {r : Rect} (hw : WR r) (a : Int) (l : List Product) : KN r a l = some (bdCat l r a) := by
 unfold KN bdCat
 have k : ∀ b, QF r a l b = bif b then some 8 else QF r a l false := fun b => by cases b <;> rfl
 by_cases h1 : a < 0
 ·rw [decide_eq_true h1, if_pos (.inl h1)]; rfl
 ·rw [decide_eq_false h1, cond_false]
  by_cases h2 : (l.length : Int) ≤ a
  ·rw [decide_eq_true (show a ≥ _ from h2), if_pos (.inr h2)]; rfl
  ·rw [decide_eq_false (show ¬ a ≥ _ from h2), if_neg (by omega)]
   unfold QF
   rw [cond_false, qV (by omega) (by omega), cond_true, (IK _).1, LS (by have := hw.1; unfold WS at this; omega), LS (by have := hw.2; unfold WS at this; omega), qPr hw.1, qPr hw.2]
   simp only [Option.bind_some]
   unfold dimOk jU
   simp only [bne]
   generalize (zY (l.getD a.toNat default)).1 = g1
   generalize (zY (l.getD a.toNat default)).2 = g2
   generalize r.X.B - r.X.A = x
   generalize r.Y.B - r.Y.A = y
   cases x == g1 <;> cases x == g2 <;> cases y == g1 <;> cases y == g2 <;> rfl
theorem qEZ (n : Node) (x : Pattern_place) : ZK n x = some (chkN (fun _ _ => 0) n x) := by
 have k : ∀ b, wY n x b = some (if b = true then 10 else if 64 < x.level then 28 else if ripB n.Kind = true ∧ (n.At ≤ (alP x.rect n.Kind).A ∨ (alP x.rect n.Kind).B ≤ n.At) then 20 else 0) := by
  intro b
  unfold wY
  cases b with
  | true => rfl
  | false =>
   simp only [cond_false, qGH, qMx, Option.bind_some, Bool.false_eq_true, if_false]
   by_cases h2 : x.level > 64
   ·rw [decide_eq_true h2, if_pos (show 64 < x.level from h2)]; rfl
   ·rw [decide_eq_false h2, if_neg (show ¬ 64 < x.level from h2), cond_false]
    cases hr : ripB n.Kind with
    | false => simp [QX]
    | true =>
     simp only [cond_true, true_and]
     unfold YF QX
     by_cases h3 : n.At ≤ (alP x.rect n.Kind).A
     ·rw [decide_eq_true h3, if_pos (.inl h3)]; rfl
     ·by_cases h4 : (alP x.rect n.Kind).B ≤ n.At
      ·rw [decide_eq_false h3, decide_eq_true (show n.At ≥ _ from h4), if_pos (.inr h4)]; rfl
      ·rw [decide_eq_false h3, decide_eq_false (show ¬ n.At ≥ _ from h4), if_neg (by omega)]; rfl
 unfold ZK chkN
 simp only [k]
 have e0 : ∀ b : Bool, (if n.Kind = 1 then (0 : Int) else 0) = 0 := fun _ => by split <;> rfl
 rw [e0 true]
 by_cases h1 : n.Kind < 0
 ·rw [decide_eq_true h1, if_pos (c := n.Kind < 0 ∨ 3 < n.Kind ∨ (n.Kind = 0 ∧ n.At ≠ 0)) (.inl h1)]; rfl
 ·by_cases h2 : n.Kind > 3
  ·rw [decide_eq_false h1, decide_eq_true h2, if_pos (c := n.Kind < 0 ∨ 3 < n.Kind ∨ (n.Kind = 0 ∧ n.At ≠ 0)) (.inr (.inl h2))]; rfl
  ·rw [decide_eq_false h1, decide_eq_false h2, cond_false, cond_false]
   by_cases h3 : n.Kind = 0
   ·have e3 : (n.Kind == 0) = true := by simpa using h3
    rw [e3, cond_true]
    by_cases h4 : n.At = 0
    ·have e4 : (n.At != 0) = false := by simpa using h4
     rw [e4, if_neg (c := n.Kind < 0 ∨ 3 < n.Kind ∨ (n.Kind = 0 ∧ n.At ≠ 0)) (by omega)]; rfl
    ·have e4 : (n.At != 0) = true := by simpa using h4
     rw [e4, if_pos (c := n.Kind < 0 ∨ 3 < n.Kind ∨ (n.Kind = 0 ∧ n.At ≠ 0)) (by omega)]; rfl
   ·have e3 : (n.Kind == 0) = false := by simpa using h3
    rw [e3, cond_false, if_neg (c := n.Kind < 0 ∨ 3 < n.Kind ∨ (n.Kind = 0 ∧ n.At ≠ 0)) (by omega)]; rfl
theorem qN1 (bd : Rect → Int → Int) (n : Node) (x : Pattern_place) : chkN bd n x = if chkN (fun _ _ => 0) n x ≠ 0 then chkN (fun _ _ => 0) n x else if n.Kind = 1 then bd x.rect n.At else 0 := by
 unfold chkN
 split
 ·rfl
 ·split
  ·rfl
  ·split
   ·rfl
   ·split <;> simp
abbrev RdC := Int → Pattern_place → Int × Int → Option (Nat × Int × Int)
/-- A round of the check. -/
def qL0 (f : RdC) (bd : Rect → Int → Int) (nodes : List Node) : Prop :=
 ∀ (i : Nat) (x : Pattern_place) (s : Int × Int), WR x.rect → i < 1000000 →
  f (i : Int) x s = some (if nodes.length ≤ i then (1, 3, s.2) else if chkN bd (nodes.getD i default) x ≠ 0 then (1, chkN bd (nodes.getD i default) x, s.2) else (0, s.1, (i : Int) + 1))
def finC (nodes : List Node) (v : Nat × Int × Int) : Option Int := bif Nat.beq v.1 0 then (bif decide (v.2.2 < ((nodes.length : Nat) : Int)) then some 4 else some 0) else bif Nat.beq v.1 1 then some v.2.1 else none
theorem qOa {f : RdC} {bd : Rect → Int → Int} {nodes : List Node} (hf : qL0 f bd nodes) {kerf : Int} (hk : 0 ≤ kerf ∧ kerf ≤ 20) (hn : nodes.length ≤ 1000) :
  ∀ (ns : List Node) (i : Nat) (st : List Pattern_place) (r : Int), nodes.drop i = ns → i ≤ nodes.length → (∀ x ∈ st, WR x.rect) →
   ∃ v, runP f kerf ns (i : Int) st (r, (i : Int)) = some v ∧ finC nodes v = some (chkP bd kerf ns st)
 | [], i, [], r, hd, hi, _ => by
  have hil : nodes.length ≤ i := by have := congrArg List.length hd; simp at this; omega
  refine ⟨(0, r, (i : Int)), rfl, ?_⟩
  unfold finC
  rw [decide_eq_false (by simp; omega)]; rfl
 | n :: ns, i, [], r, hd, hi, _ => by
  have hil : i < nodes.length := by
   rcases Nat.lt_or_ge i nodes.length with h | h
   ·exact h
   ·rw [List.drop_eq_nil_of_le h] at hd; cases hd
  refine ⟨(0, r, (i : Int)), rfl, ?_⟩
  unfold finC
  rw [decide_eq_true (by simp; omega)]; rfl
 | [], i, x :: st, r, hd, hi, hw => by
  have hil : nodes.length ≤ i := by have := congrArg List.length hd; simp at this; omega
  refine ⟨(1, 3, (i : Int)), ?_, rfl⟩
  show f (i : Int) x (r, (i : Int)) = _
  rw [hf i x _ (hw x List.mem_cons_self) (by omega), if_pos hil]
 | n :: ns, i, x :: st, r, hd, hi, hw => by
  have hil : i < nodes.length := by
   rcases Nat.lt_or_ge i nodes.length with h | h
   ·exact h
   ·rw [List.drop_eq_nil_of_le h] at hd; cases hd
  have hg : nodes.getD i default = n := by
   have h0 := congrArg (fun l => l.getD 0 default) hd
   simpa [List.getD_eq_getElem?_getD] using h0
  have hd2 : nodes.drop (i + 1) = ns := by
   have h0 := congrArg List.tail hd
   simpa using h0
  show ∃ v, ((f (i : Int) x (r, (i : Int))).bind fun v => bif Nat.beq v.1 0 then runP f kerf ns ((i : Int) + 1) (pushP kerf n x st) v.2 else some v) = some v ∧ finC nodes v = some (if chkN bd n x ≠ 0 then chkN bd n x else chkP bd kerf ns (pushP kerf n x st))
  rw [hf i x _ (hw x List.mem_cons_self) (by omega), if_neg (by omega), hg]
  by_cases c : chkN bd n x = 0
  ·rw [if_neg (by simpa using c), if_neg (by simpa using c)]
   have hp : ∀ y ∈ pushP kerf n x st, WR y.rect := by
    intro y hy
    unfold pushP at hy
    cases hr : ripB n.Kind with
    | false => rw [hr, cond_false] at hy; exact hw y (List.mem_cons_of_mem _ hy)
    | true =>
     rw [hr, cond_true] at hy
     have c3 := (cut3 hr (hw x List.mem_cons_self) (qN0 hr c) hk).1
     rcases List.mem_cons.1 hy with rfl | hy
     ·exact c3.wf
     ·rcases List.mem_cons.1 hy with rfl | hy
      ·exact c3.ws
      ·exact hw y (List.mem_cons_of_mem _ hy)
   exact qOa hf hk hn ns (i + 1) (pushP kerf n x st) r hd2 hil hp
  ·rw [if_pos c, if_pos c]
   exact ⟨_, rfl, rfl⟩
theorem VR_WR {r : Rect} (h : VR r) : WR r := ⟨⟨h.1.1, by have := h.1.2; omega, h.1.2.2⟩, h.2.1, by have := h.2.2; omega, h.2.2.2⟩
/-- The first error of a pattern. -/
def zS (bd : Rect → Int → Int) (p : Pattern) (kerf : Int) : Int :=
 if ¬ VR p.Frame then 19 else if kerf < 0 ∨ 20 < kerf then 9 else if 127 < p.Nodes.length then 4 else chkP bd kerf p.Nodes [⟨p.Frame, 1⟩]
theorem qOh {f : RdC} {bd : Rect → Int → Int} {p : Pattern} (hf : qL0 f bd p.Nodes) {kerf : Int} (hv : VR p.Frame) (hk : 0 ≤ kerf ∧ kerf ≤ 20) (hn : p.Nodes.length ≤ 127) :
  (runP f kerf p.Nodes 0 [⟨p.Frame, 1⟩] (0, 0)).bind (finC p.Nodes) = some (chkP bd kerf p.Nodes [⟨p.Frame, 1⟩]) := by
 obtain ⟨v, e1, e2⟩ := qOa hf hk (by omega) p.Nodes 0 [⟨p.Frame, 1⟩] 0 rfl (Nat.zero_le _) (fun x hx => by simp at hx; subst hx; exact VR_WR hv)
 have e1' : runP f kerf p.Nodes 0 [⟨p.Frame, 1⟩] (0, 0) = some v := e1
 rw [e1']; exact e2
theorem qPi (p : Pattern) (l : List Product) : qL0 (fun i x s => jM i x p l s.1 s.2) (bdCat l) p.Nodes := by
 intro i x s hw hi
 simp only
 unfold jM WQ WN
 by_cases h : p.Nodes.length ≤ i
 ·rw [decide_eq_true (by simp; omega), if_pos h]; rfl
 ·rw [decide_eq_false (by simp; omega), if_neg h, cond_false, qV (by omega) (by omega), cond_true, Int.toNat_natCast, qEZ, qN1 (bdCat l)]
  simp only [Option.bind_some, cat_eq hw]
  by_cases c : chkN (fun _ _ => 0) (p.Nodes.getD i default) x = 0
  ·rw [c]
   simp only [ne_eq, not_true_eq_false, if_false, beq_self_eq_true, cond_true]
   by_cases c1 : (p.Nodes.getD i default).Kind = 1
   ·have e1 : ((p.Nodes.getD i default).Kind == 1) = true := by simpa using c1
    rw [e1, cond_true, if_pos c1]
    by_cases c2 : bdCat l x.rect (p.Nodes.getD i default).At = 0
    ·rw [c2]; simp [qL (n := (i : Int) + 1) (by omega) (by omega)]
    ·have e2 : (bdCat l x.rect (p.Nodes.getD i default).At != 0) = true := by simpa using c2
     rw [e2, if_pos c2]; rfl
   ·have e1 : ((p.Nodes.getD i default).Kind == 1) = false := by simpa using c1
    rw [e1, cond_false, if_neg c1]; simp [qL (n := (i : Int) + 1) (by omega) (by omega)]
  ·have e1 : (chkN (fun _ _ => 0) (p.Nodes.getD i default) x == 0) = false := by simpa using c
   have e2 : (chkN (fun _ _ => 0) (p.Nodes.getD i default) x != 0) = true := by simpa using c
   rw [e1, cond_false, cond_false, e2, cond_true, if_pos c, if_pos c]
theorem qP3 (p : Pattern) : qL0 (fun i x s => wJ i x p s.1 s.2) bdAny p.Nodes := by
 intro i x s hw hi
 simp only
 unfold wJ QK QL
 by_cases h : p.Nodes.length ≤ i
 ·rw [decide_eq_true (by simp; omega), if_pos h]; rfl
 ·rw [decide_eq_false (by simp; omega), if_neg h, cond_false, qV (by omega) (by omega), cond_true, Int.toNat_natCast, qEZ, qN1 bdAny]
  simp only [Option.bind_some, any_eq]
  by_cases c : chkN (fun _ _ => 0) (p.Nodes.getD i default) x = 0
  ·rw [c]
   simp only [ne_eq, not_true_eq_false, if_false, beq_self_eq_true, cond_true]
   by_cases c1 : (p.Nodes.getD i default).Kind = 1
   ·have e1 : ((p.Nodes.getD i default).Kind == 1) = true := by simpa using c1
    rw [e1, cond_true, if_pos c1]
    by_cases c2 : bdAny x.rect (p.Nodes.getD i default).At = 0
    ·rw [c2]; simp [qL (n := (i : Int) + 1) (by omega) (by omega)]
    ·have e2 : (bdAny x.rect (p.Nodes.getD i default).At != 0) = true := by simpa using c2
     rw [e2, if_pos c2]; rfl
   ·have e1 : ((p.Nodes.getD i default).Kind == 1) = false := by simpa using c1
    rw [e1, cond_false, if_neg c1]; simp [qL (n := (i : Int) + 1) (by omega) (by omega)]
  ·have e1 : (chkN (fun _ _ => 0) (p.Nodes.getD i default) x == 0) = false := by simpa using c
   have e2 : (chkN (fun _ _ => 0) (p.Nodes.getD i default) x != 0) = true := by simpa using c
   rw [e1, cond_false, cond_false, e2, cond_true, if_pos c, if_pos c]
theorem qNL (p : Pattern) (l : List Product) (kerf : Int) : VI p l kerf = some (zS (bdCat l) p kerf) := by
 have k : ∀ b, WF p kerf l b = bif b then some 9 else WF p kerf l false := fun b => by cases b <;> rfl
 unfold VI ML zS
 rw [isFrame_eq]
 simp only [Option.bind_some]
 by_cases hv : VR p.Frame
 ·rw [decide_eq_true hv, if_neg (by simpa using hv)]
  simp only [Bool.not_true, cond_false]
  by_cases h1 : kerf < 0
  ·rw [decide_eq_true h1, if_pos (.inl h1)]; rfl
  ·by_cases h2 : kerf > 20
   ·rw [decide_eq_false h1, decide_eq_true h2, if_pos (.inr h2)]; rfl
   ·rw [decide_eq_false h1, decide_eq_false h2, if_neg (by omega), cond_false]
    unfold WF jK
    rw [cond_false]
    by_cases h3 : 127 < p.Nodes.length
    ·rw [decide_eq_true (show ((p.Nodes.length : Nat) : Int) > 127 by omega), if_pos h3]; rfl
    ·rw [decide_eq_false (show ¬ ((p.Nodes.length : Nat) : Int) > 127 by omega), if_neg h3, cond_false]
     simp only [Option.bind_some]
     rw [qOR _ _ _ _ _ _ (by omega)]
     have := qOh (qPi p l) hv (kerf := kerf) (by omega) (by omega)
     unfold finC at this
     rw [this]; rfl
 ·rw [decide_eq_false hv, if_pos (by simpa using hv)]; rfl
theorem qKW (p : Pattern) (kerf : Int) : WD p kerf = some (zS bdAny p kerf) := by
 unfold WD zS
 rw [isFrame_eq]
 simp only [Option.bind_some]
 by_cases hv : VR p.Frame
 ·rw [decide_eq_true hv, if_neg (by simpa using hv)]
  simp only [Bool.not_true, cond_false]
  by_cases h1 : kerf < 0
  ·rw [decide_eq_true h1, if_pos (.inl h1)]; rfl
  ·by_cases h2 : kerf > 20
   ·rw [decide_eq_false h1, decide_eq_true h2, if_pos (.inr h2)]; rfl
   ·rw [decide_eq_false h1, decide_eq_false h2, if_neg (by omega), cond_false]
    unfold XN jK
    rw [cond_false]
    by_cases h3 : 127 < p.Nodes.length
    ·rw [decide_eq_true (show ((p.Nodes.length : Nat) : Int) > 127 by omega), if_pos h3]; rfl
    ·rw [decide_eq_false (show ¬ ((p.Nodes.length : Nat) : Int) > 127 by omega), if_neg h3, cond_false]
     simp only [Option.bind_some]
     rw [qOy _ _ _ _ _ (by omega)]
     have := qOh (qP3 p) hv (kerf := kerf) (by omega) (by omega)
     unfold finC at this
     rw [this]
 ·rw [decide_eq_false hv, if_pos (by simpa using hv)]; rfl
/-- A walk that gathers. -/
theorem qIU {α : Type} {g : Node → Pattern_place → List α} (hg1 : ∀ n x, (g n x).length ≤ 1) {bd : Rect → Int → Int} {nodes : List Node} {f : Int → Pattern_place → List α → Option (Nat × List α)} {kerf : Int} (hn : nodes.length ≤ 1000)
  (hf : ∀ (i : Nat) (x : Pattern_place) (s : List α), i < nodes.length → s.length ≤ 1000 → f (i : Int) x s = some (0, s ++ g (nodes.getD i default) x)) :
  ∀ (ns : List Node) (i : Nat) (st : List Pattern_place) (s : List α), nodes.drop i = ns → i ≤ nodes.length → s.length ≤ i → chkP bd kerf ns st = 0 → runP f kerf ns (i : Int) st s = some (0, s ++ allP g kerf ns st)
 | [], i, [], s, _, _, _, _ => by simp [runP, allP]
 | n :: ns, i, [], s, _, _, _, h => by simp [chkP] at h
 | [], i, x :: st, s, _, _, _, h => by simp [chkP] at h
 | n :: ns, i, x :: st, s, hd, hi, hs, h => by
  have hil : i < nodes.length := by
   rcases Nat.lt_or_ge i nodes.length with h | h
   ·exact h
   ·rw [List.drop_eq_nil_of_le h] at hd; cases hd
  have hgn : nodes.getD i default = n := by
   have h0 := congrArg (fun l => l.getD 0 default) hd
   simpa [List.getD_eq_getElem?_getD] using h0
  have hd2 : nodes.drop (i + 1) = ns := by
   have h0 := congrArg List.tail hd
   simpa using h0
  have h' : chkP bd kerf ns (pushP kerf n x st) = 0 := by
   unfold chkP at h
   split at h
   ·rename_i c; exact (c h).elim
   ·exact h
  show ((f (i : Int) x s).bind fun v => bif Nat.beq v.1 0 then runP f kerf ns ((i : Int) + 1) (pushP kerf n x st) v.2 else some v) = _
  rw [hf i x s hil (by omega), hgn]
  have e := qIU hg1 (bd := bd) hn hf ns (i + 1) (pushP kerf n x st) (s ++ g n x) hd2 hil (by have := hg1 n x; simp; omega) h'
  show runP f kerf ns ((i : Int) + 1) (pushP kerf n x st) (s ++ g n x) = _
  rw [show ((i : Int) + 1) = ((i + 1 : Nat) : Int) by omega, e, List.append_assoc]
  rfl
theorem leafG1 (n : Node) (x : Pattern_place) : (MQ n x).length ≤ 1 := by unfold MQ; split <;> (try split) <;> simp
theorem cutG1 (kerf : Int) (n : Node) (x : Pattern_place) : (cutG kerf n x).length ≤ 1 := by unfold cutG; split <;> simp
theorem VQ {bd : Rect → Int → Int} {p : Pattern} {kerf : Int} : zS bd p kerf = 0 ↔ VR p.Frame ∧ (0 ≤ kerf ∧ kerf ≤ 20) ∧ p.Nodes.length ≤ 127 ∧ chkP bd kerf p.Nodes [⟨p.Frame, 1⟩] = 0 := by
 unfold zS
 by_cases hv : VR p.Frame
 ·rw [if_neg (by simpa using hv)]
  by_cases h1 : kerf < 0 ∨ 20 < kerf
  ·rw [if_pos h1]; constructor
   ·intro h; cases h
   ·rintro ⟨_, h, _⟩; omega
  ·rw [if_neg h1]
   by_cases h3 : 127 < p.Nodes.length
   ·rw [if_pos h3]; constructor
    ·intro h; cases h
    ·rintro ⟨_, _, h, _⟩; omega
   ·rw [if_neg h3]; constructor
    ·intro h; exact ⟨hv, by omega, by omega, h⟩
    ·rintro ⟨_, _, _, h⟩; exact h
 ·rw [if_pos (by simpa using hv)]; constructor
  ·intro h; cases h
  ·rintro ⟨h, _⟩; exact (hv h).elim
def lvP (p : Pattern) (kerf : Int) : List Leaf := allP MQ kerf p.Nodes [⟨p.Frame, 1⟩]
def ctP (p : Pattern) (kerf : Int) : List Rect := allP (cutG kerf) kerf p.Nodes [⟨p.Frame, 1⟩]
theorem qPj (p : Pattern) (kerf : Int) : RR p kerf = some (if zS bdAny p kerf = 0 then (lvP p kerf, 0) else ([], zS bdAny p kerf)) := by
 unfold RR
 rw [qKW]
 simp only [Option.bind_some]
 by_cases h : zS bdAny p kerf = 0
 ·have hz := VQ.1 h
  rw [if_pos h, h]
  unfold jK
  simp only [bne_self_eq_false, cond_false, Option.bind_some]
  rw [qOv _ _ _ _ (by omega)]
  have e := qIU leafG1 (bd := bdAny) (kerf := kerf) (nodes := p.Nodes) (f := fun i x (s : List Leaf) => wZ i x p s) (by omega) (by
   intro i x s hi hs
   unfold wZ MQ
   rw [qV (by omega) (by omega), cond_true, Int.toNat_natCast, YD (by omega) (by omega)]
   by_cases c0 : (p.Nodes.getD i default).Kind = 0
   ·have e0 : ((p.Nodes.getD i default).Kind == 0) = true := by simpa using c0
    rw [e0, if_pos c0]; rfl
   ·have e0 : ((p.Nodes.getD i default).Kind == 0) = false := by simpa using c0
    rw [e0, if_neg c0, cond_false]
    by_cases c1 : (p.Nodes.getD i default).Kind = 1
    ·have e1 : ((p.Nodes.getD i default).Kind == 1) = true := by simpa using c1
     rw [e1, if_pos c1]; rfl
    ·have e1 : ((p.Nodes.getD i default).Kind == 1) = false := by simpa using c1
     rw [e1, if_neg c1, cond_false, List.append_nil]) p.Nodes 0 [⟨p.Frame, 1⟩] [] rfl (Nat.zero_le _) (Nat.zero_le _) hz.2.2.2
  rw [show (0 : Int) = ((0 : Nat) : Int) from rfl, e]
  rfl
 ·have h' : (zS bdAny p kerf != 0) = true := by simpa using h
  rw [if_neg h, h']; rfl
theorem Cuts_eq (p : Pattern) (kerf : Int) : NK p kerf = some (if zS bdAny p kerf = 0 then (ctP p kerf, 0) else ([], zS bdAny p kerf)) := by
 unfold NK
 rw [qKW]
 simp only [Option.bind_some]
 by_cases h : zS bdAny p kerf = 0
 ·have hz := VQ.1 h
  rw [if_pos h, h]
  unfold jK
  simp only [bne_self_eq_false, cond_false, Option.bind_some]
  rw [qPb _ _ _ _ _ (by omega)]
  have e := qIU (cutG1 kerf) (bd := bdAny) (kerf := kerf) (nodes := p.Nodes) (f := fun i x (s : List Rect) => jT i x p kerf s) (by omega) (by
   intro i x s hi hs
   unfold jT cutG
   rw [qV (by omega) (by omega), cond_true, Int.toNat_natCast, qGH, YD (by omega) (by omega)]
   simp only [Option.bind_some, qNf]
   cases c0 : ripB (p.Nodes.getD i default).Kind
   ·simp
   ·simp) p.Nodes 0 [⟨p.Frame, 1⟩] [] rfl (Nat.zero_le _) (Nat.zero_le _) hz.2.2.2
  rw [show (0 : Int) = ((0 : Nat) : Int) from rfl, e]
  rfl
 ·have h' : (zS bdAny p kerf != 0) = true := by simpa using h
  rw [if_neg h, h']; rfl
end Go.SL.Saw

namespace Go.SL.Saw
abbrev WR4 := Int × Int × List Leaf × List Rect
section
variable (n : Node) (kerf : Int) (bdf : Node → Rect → Option Int) (rec1 : Rect → Int → Int → List Rect → Option WR4) (rec2 : Rect → Int → Int → List Leaf → List Rect → Option WR4) (r : Rect) (l i : Int) (lv : List Leaf) (ct : List Rect)
def k4W (a b c : Rect) : Option WR4 :=
 bif room (ct.length + 1) 32 then
  (rec1 c (w64 (l + 1)) (w64 (i + 1)) (ct ++ [b])).bind fun v39 =>
  bif v39.1 != 0 then some (v39.1, v39.2.1, v39.2.2.1, v39.2.2.2)
  else (rec2 a (w64 (l + 1)) v39.2.1 v39.2.2.1 v39.2.2.2).bind fun v42 => some (v42.1, v42.2.1, v42.2.2.1, v42.2.2.2)
 else none
def k2W (b : Bool) : Option WR4 :=
 bif b then some (20, w64 (i + 1), lv, ct) else (jW r.X n.At kerf).bind fun v28 => k4W rec1 rec2 l i ct ⟨v28.2.2, r.Y⟩ ⟨v28.2.1, r.Y⟩ ⟨v28.1, r.Y⟩
def k3W (b : Bool) : Option WR4 :=
 bif b then some (20, w64 (i + 1), lv, ct) else (jW r.Y n.At kerf).bind fun v28 => k4W rec1 rec2 l i ct ⟨r.X, v28.2.2⟩ ⟨r.X, v28.2.1⟩ ⟨r.X, v28.1⟩
def k1W (b : Bool) : Option WR4 :=
 bif b then some (10, w64 (i + 1), lv, ct)
 else bif decide (l > 64) then some (28, w64 (i + 1), lv, ct)
 else bif n.Kind == 0 then (bif room (lv.length + 1) 40 then some (0, w64 (i + 1), lv ++ [⟨r, -1⟩], ct) else none)
 else bif n.Kind == 1 then (bif room (lv.length + 1) 40 then (bdf n r).bind fun v => some (v, w64 (i + 1), lv ++ [⟨r, n.At⟩], ct) else none)
 else bif n.Kind == 2 then (bif decide (n.At ≤ r.X.A) then k2W n kerf rec1 rec2 r l i lv ct true else k2W n kerf rec1 rec2 r l i lv ct (decide (n.At ≥ r.X.B)))
 else (bif decide (n.At ≤ r.Y.A) then k3W n kerf rec1 rec2 r l i lv ct true else k3W n kerf rec1 rec2 r l i lv ct (decide (n.At ≥ r.Y.B)))
end
/-- A step of the walk: what becomes of the node at an index. -/
def ER (nodes : List Node) (kerf : Int) (bdf : Node → Rect → Option Int) (rec1 : Rect → Int → Int → List Rect → Option WR4) (rec2 : Rect → Int → Int → List Leaf → List Rect → Option WR4) (r : Rect) (l i : Int) (lv : List Leaf) (ct : List Rect) : Option WR4 :=
 bif decide (i ≥ ((nodes.length : Nat) : Int)) then some (3, i, lv, ct)
 else bif inb i nodes.length then
  bif decide ((nodes.getD i.toNat default).Kind < 0) then k1W (nodes.getD i.toNat default) kerf bdf rec1 rec2 r l i lv ct true
  else bif decide ((nodes.getD i.toNat default).Kind > 3) then k1W (nodes.getD i.toNat default) kerf bdf rec1 rec2 r l i lv ct true
  else bif (nodes.getD i.toNat default).Kind == 0 then k1W (nodes.getD i.toNat default) kerf bdf rec1 rec2 r l i lv ct ((nodes.getD i.toNat default).At != 0) else k1W (nodes.getD i.toNat default) kerf bdf rec1 rec2 r l i lv ct false
 else none
/-- What a walk from an index gives. -/
def OutW (bd : Rect → Int → Int) (kerf : Int) (ns : List Node) (i : Nat) (x : Pattern_place) (lv : List Leaf) (ct : List Rect) (res : Option WR4) : Prop :=
 (∃ t rest, ns = wA t ++ rest ∧ okT bd kerf t x ∧ res = some (0, ((i + (wA t).length : Nat) : Int), lv ++ lvT kerf t x, ct ++ ctT kerf t x))
 ∨ ∃ e a l c, e ≠ 0 ∧ res = some (e, a, l, c) ∧ ∀ st, chkP bd kerf ns (x :: st) = e
def qD5 (bd : Rect → Int → Int) (kerf : Int) (nodes : List Node) (m : Nat) (lv : List Leaf) (f : Rect → Int → Int → List Rect → Option WR4) : Prop :=
 ∀ (ns : List Node) (i : Nat) (x : Pattern_place) (ct : List Rect), nodes.drop i = ns → i ≤ nodes.length → ns.length < m → WR x.rect → 1 ≤ x.level → x.level ≤ 65 → lv.length ≤ i → ct.length ≤ i → OutW bd kerf ns i x lv ct (f x.rect x.level (i : Int) ct)
theorem qE7 {nodes : List Node} {kerf : Int} (hk : 0 ≤ kerf ∧ kerf ≤ 20) (hn : nodes.length ≤ 1000) {bd : Rect → Int → Int} {bdf : Node → Rect → Option Int} (hbd : ∀ n r, WR r → bdf n r = some (bd r n.At)) {m : Nat} {lv : List Leaf}
  {rec1 : Rect → Int → Int → List Rect → Option WR4} {rec2 : Rect → Int → Int → List Leaf → List Rect → Option WR4} (h1 : qD5 bd kerf nodes m lv rec1) (h2 : ∀ lv, qD5 bd kerf nodes m lv (fun r l i ct => rec2 r l i lv ct)) :
  qD5 bd kerf nodes (m + 1) lv (fun r l i ct => ER nodes kerf bdf rec1 rec2 r l i lv ct) := by
 intro ns i x ct hd hi hm hw hl1 hl2 hlv hct
 cases ns with
 | nil =>
  have hil : nodes.length ≤ i := by have := congrArg List.length hd; simp at this; omega
  refine .inr ⟨3, (i : Int), lv, ct, by decide, ?_, fun st => rfl⟩
  show ER _ _ _ _ _ _ _ _ _ _ = _
  unfold ER
  rw [decide_eq_true (show (i : Int) ≥ ((nodes.length : Nat) : Int) by omega)]; rfl
 | cons n ns =>
  have hil : i < nodes.length := by
   rcases Nat.lt_or_ge i nodes.length with h | h
   ·exact h
   ·rw [List.drop_eq_nil_of_le h] at hd; cases hd
  have hg : nodes.getD i default = n := by
   have h0 := congrArg (fun l => l.getD 0 default) hd
   simpa [List.getD_eq_getElem?_getD] using h0
  have hd2 : nodes.drop (i + 1) = ns := by
   have h0 := congrArg List.tail hd
   simpa using h0
  have ei : w64 ((i : Int) + 1) = ((i + 1 : Nat) : Int) := by rw [qL (by omega) (by omega)]; omega
  have el : x.level ≤ 64 → w64 (x.level + 1) = x.level + 1 := fun h => qL (by omega) (by omega)
  have err : ∀ {e a : Int} {l : List Leaf} {c : List Rect}, e ≠ 0 → chkN bd n x = e → OutW bd kerf (n :: ns) i x lv ct (some (e, a, l, c)) := fun he hc => .inr ⟨_, _, _, _, he, rfl, fun st => by
   show (if chkN bd n x ≠ 0 then chkN bd n x else _) = _
   rw [hc, if_pos he]⟩
  show OutW bd kerf (n :: ns) i x lv ct (ER nodes kerf bdf rec1 rec2 x.rect x.level (i : Int) lv ct)
  unfold ER
  rw [Int.toNat_natCast, hg, decide_eq_false (show ¬ (i : Int) ≥ ((nodes.length : Nat) : Int) by omega), qV (by omega) (by omega)]
  simp only [cond_false, cond_true]
  have kt : k1W n kerf bdf rec1 rec2 x.rect x.level (i : Int) lv ct true = some (10, w64 ((i : Int) + 1), lv, ct) := rfl
  by_cases c1 : n.Kind < 0
  ·rw [decide_eq_true c1, cond_true, kt]; exact err (by decide) (by unfold chkN; rw [if_pos (.inl c1)])
  rw [decide_eq_false c1]
  by_cases c2 : n.Kind > 3
  ·rw [decide_eq_true c2, cond_true, kt]; exact err (by decide) (by unfold chkN; rw [if_pos (.inr (.inl c2))])
  rw [decide_eq_false c2]
  simp only [cond_false]
  by_cases c3 : n.Kind = 0 ∧ n.At ≠ 0
  ·have e1 : (n.Kind == 0) = true := by simpa using c3.1
   have e2 : (n.At != 0) = true := by simpa using c3.2
   rw [e1, e2, cond_true, kt]; exact err (by decide) (by unfold chkN; rw [if_pos (.inr (.inr c3))])
  have eb : ∀ (A : Bool → Option WR4), (bif n.Kind == 0 then A (n.At != 0) else A false) = A false := by
   intro A
   by_cases c : n.Kind = 0
   ·have e1 : (n.Kind == 0) = true := by simpa using c
    have e2 : (n.At != 0) = false := by
     have : n.At = 0 := Classical.byContradiction fun h => c3 ⟨c, h⟩
     simpa using this
    rw [e1, e2]; rfl
   ·have e1 : (n.Kind == 0) = false := by simpa using c
    rw [e1]; rfl
  have kd : ¬ (n.Kind < 0 ∨ 3 < n.Kind ∨ (n.Kind = 0 ∧ n.At ≠ 0)) := by
   rintro (h | h | h)
   ·exact c1 h
   ·exact c2 h
   ·exact c3 h
  rw [eb]
  ·unfold k1W k2W k3W k4W
   rw [ei, YD (by omega) (by omega), YD (by omega) (by omega)]
   simp only [cond_false, cond_true]
   by_cases c4 : x.level > 64
   ·rw [decide_eq_true c4]; exact err (by decide) (by unfold chkN; rw [if_neg kd, if_pos c4])
   rw [decide_eq_false c4]
   simp only [cond_false]
   by_cases k0 : n.Kind = 0
   ·have e1 : (n.Kind == 0) = true := by simpa using k0
    rw [e1, cond_true]
    have hr : ripB n.Kind = false := by rw [k0]; rfl
    have hc : chkN bd n x = 0 := by
     unfold chkN; rw [if_neg kd, if_neg c4, if_neg (by rw [hr]; simp), if_neg (by omega)]
    refine .inl ⟨.leaf n, ns, rfl, ⟨hr, hc⟩, ?_⟩
    simp [wA, lvT, ctT, allT, MQ, cutG, k0, ripB]
   ·have e1 : (n.Kind == 0) = false := by simpa using k0
    rw [e1, cond_false]
    by_cases k1 : n.Kind = 1
    ·have e2 : (n.Kind == 1) = true := by simpa using k1
     rw [e2, cond_true, hbd n x.rect hw]
     have hr : ripB n.Kind = false := by rw [k1]; rfl
     have hc : chkN bd n x = bd x.rect n.At := by
      unfold chkN; rw [if_neg kd, if_neg c4, if_neg (by rw [hr]; simp), if_pos k1]
     by_cases hb : bd x.rect n.At = 0
     ·rw [hb]
      refine .inl ⟨.leaf n, ns, rfl, ⟨hr, by rw [hc, hb]⟩, ?_⟩
      simp [wA, lvT, ctT, allT, MQ, cutG, k1, ripB]
     ·exact err hb hc
    ·have e2 : (n.Kind == 1) = false := by simpa using k1
     rw [e2, cond_false]
     have hr : ripB n.Kind = true := ripB_iff.2 (by omega)
     -- the two parts
     have key : ∀ (hin : (alP x.rect n.Kind).A < n.At ∧ n.At < (alP x.rect n.Kind).B), OutW bd kerf (n :: ns) i x lv ct ((rec1 (fiP x.rect n) (x.level + 1) ((i + 1 : Nat) : Int) (ct ++ [cuP x.rect n kerf])).bind fun v39 => bif v39.1 != 0 then some (v39.1, v39.2.1, v39.2.2.1, v39.2.2.2) else (rec2 (seP x.rect n kerf) (x.level + 1) v39.2.1 v39.2.2.1 v39.2.2.2).bind fun v42 => some (v42.1, v42.2.1, v42.2.2.1, v42.2.2.2)) := by
      intro hin
      have hc : chkN bd n x = 0 := by
       unfold chkN; rw [if_neg kd, if_neg c4, if_neg (by omega), if_neg k1]
      have c3' := (cut3 hr hw hin hk).1
      have ep : ∀ st, chkP bd kerf (n :: ns) (x :: st) = chkP bd kerf ns (⟨fiP x.rect n, x.level + 1⟩ :: ⟨seP x.rect n kerf, x.level + 1⟩ :: st) := fun st => by
       show (if chkN bd n x ≠ 0 then chkN bd n x else chkP bd kerf ns (pushP kerf n x st)) = _
       rw [if_neg (by simpa using hc)]; unfold pushP; rw [hr, cond_true]
      have hm' : ns.length < m := by simp at hm; omega
      rcases h1 ns (i + 1) ⟨fiP x.rect n, x.level + 1⟩ (ct ++ [cuP x.rect n kerf]) hd2 hil hm' c3'.wf (by simp only; omega) (by simp only; omega) (by omega) (by simp; omega) with ⟨t1, r1, g1, g2, g3⟩ | ⟨e, a, l', c', he, g1, g2⟩
      ·simp only at g3
       rw [g3]
       simp only [Option.bind_some, bne_self_eq_false, cond_false]
       have hd3 : nodes.drop (i + 1 + (wA t1).length) = r1 := by
        rw [← List.drop_drop, hd2, g1]; simp
       have hlen : ns.length = (wA t1).length + r1.length := by rw [g1]; simp
       have hnl : ns.length = nodes.length - (i + 1) := by rw [← hd2]; simp
       have pl := qFH hk t1 _ g2 c3'.wf
       have pl1 := pl.ll
       have pl2 := pl.lc
       rcases h2 (lv ++ lvT kerf t1 ⟨fiP x.rect n, x.level + 1⟩) r1 (i + 1 + (wA t1).length) ⟨seP x.rect n kerf, x.level + 1⟩ ((ct ++ [cuP x.rect n kerf]) ++ ctT kerf t1 ⟨fiP x.rect n, x.level + 1⟩) hd3 (by omega) (by omega) c3'.ws (by simp only; omega) (by simp only; omega) (by simp; omega) (by simp; omega) with ⟨t2, r2, q1, q2, q3⟩ | ⟨e, a, l', c', he, q1, q2⟩
       ·simp only at q3
        rw [q3]
        refine .inl ⟨.rip n t1 t2, r2, ?_, ⟨hr, hc, g2, q2⟩, ?_⟩
        ·rw [g1, q1]; simp [wA]
        ·simp only [Option.bind_some]
         rw [(qIj hr).1, (qIj hr).2]
         simp [wA]
         omega
       ·simp only at q1
        rw [q1]
        refine .inr ⟨e, a, l', c', he, rfl, fun st => ?_⟩
        rw [ep st, g1, qA3 t1 _ _ _ g2]
        exact q2 st
      ·simp only at g1
       rw [g1]
       have he' : (e != 0) = true := by simpa using he
       simp only [Option.bind_some, he', cond_true]
       exact .inr ⟨e, a, l', c', he, rfl, fun st => by rw [ep st]; exact g2 _⟩
     have enx : ∀ s : Span, imin (w64 (n.At + kerf)) s.B = imin (w64 (n.At + kerf)) s.B := fun _ => rfl
     by_cases k2 : n.Kind = 2
     ·have e3 : (n.Kind == 2) = true := by simpa using k2
      rw [e3, cond_true]
      have ea : alP x.rect n.Kind = x.rect.X := by unfold alP; rw [e3]; rfl
      have ew : ∀ s, wiP x.rect n.Kind s = ⟨s, x.rect.Y⟩ := fun s => by unfold wiP; rw [e3]; rfl
      by_cases d1 : n.At ≤ x.rect.X.A
      ·rw [decide_eq_true d1]
       exact err (by decide) (by unfold chkN; rw [if_neg kd, if_neg c4, if_pos ⟨hr, .inl (by rw [ea]; exact d1)⟩])
      by_cases d2 : n.At ≥ x.rect.X.B
      ·rw [decide_eq_false d1, decide_eq_true d2]
       exact err (by decide) (by unfold chkN; rw [if_neg kd, if_neg c4, if_pos ⟨hr, .inr (by rw [ea]; exact d2)⟩])
      rw [decide_eq_false d1, decide_eq_false d2]
      have := key (by rw [ea]; omega)
      unfold fiP cuP seP enP at this
      simp only [ew, ea] at this
      unfold jW
      simp only [cond_false, Option.bind_some, el (by omega)]
      exact this
     ·have e3 : (n.Kind == 2) = false := by simpa using k2
      rw [e3, cond_false]
      have ea : alP x.rect n.Kind = x.rect.Y := by unfold alP; rw [e3]; rfl
      have ew : ∀ s, wiP x.rect n.Kind s = ⟨x.rect.X, s⟩ := fun s => by unfold wiP; rw [e3]; rfl
      by_cases d1 : n.At ≤ x.rect.Y.A
      ·rw [decide_eq_true d1]
       exact err (by decide) (by unfold chkN; rw [if_neg kd, if_neg c4, if_pos ⟨hr, .inl (by rw [ea]; exact d1)⟩])
      by_cases d2 : n.At ≥ x.rect.Y.B
      ·rw [decide_eq_false d1, decide_eq_true d2]
       exact err (by decide) (by unfold chkN; rw [if_neg kd, if_neg c4, if_pos ⟨hr, .inr (by rw [ea]; exact d2)⟩])
      rw [decide_eq_false d1, decide_eq_false d2]
      have := key (by rw [ea]; omega)
      unfold fiP cuP seP enP at this
      simp only [ew, ea] at this
      unfold jW
      simp only [cond_false, Option.bind_some, el (by omega)]
      exact this
end Go.SL.Saw
