/- Patterns: the checks, the leaves and the cuts are those of the trees. -/
import Derived.Test.YtjobdnkaonbgnaaEMa1
import Derived.Test.YtjobdnkaonbgnaaEMa4
import Derived.Test.YtjobdnkaonbgnaaEMod
set_option linter.unusedVariables false
set_option linter.unusedSimpArgs false
namespace Go.SL.Saw
def bdAny (_ : Rect) (a : Int) : Int := if a < 0 ∨ 16 ≤ a then 8 else 0
def bdCat (l : List Product) (r : Rect) (a : Int) : Int := if a < 0 ∨ (l.length : Int) ≤ a then 8 else bif dimOk r (l.getD a.toNat default) then 0 else 20
theorem any_eq (r : Rect) (a : Int) : WN r a = some (bdAny r a) := by
 unfold WN JF bdAny
 by_cases h1 : a < 0
 ·rw [decide_eq_true h1, if_pos (.inl h1)]; rfl
 ·by_cases h2 : 16 ≤ a
  ·rw [decide_eq_false h1, decide_eq_true (show a ≥ 16 from h2), if_pos (.inr h2)]; rfl
  ·rw [decide_eq_false h1, decide_eq_false (show ¬ a ≥ 16 from h2), if_neg (by omega)]; rfl
theorem qIJ {s : Span} (h : WS s) : lenS s = s.B - s.A := by
 unfold lenS empS
 obtain ⟨h1, h2, h3⟩ := h
 by_cases e : s.B ≤ s.A
 ·rw [decide_eq_true e]; simp; omega
 ·rw [decide_eq_false e]; simp
theorem cat_eq {r : Rect} (hw : WR r) (a : Int) (l : List Product) : JT r a l = some (bdCat l r a) := by
 unfold JT bdCat
 have k : ∀ b, jV r a l b = bif b then some 8 else jV r a l false := fun b => by cases b <;> rfl
 by_cases h1 : a < 0
 ·rw [decide_eq_true h1, if_pos (.inl h1)]; rfl
 ·rw [decide_eq_false h1, cond_false]
  by_cases h2 : (l.length : Int) ≤ a
  ·rw [decide_eq_true (show a ≥ _ from h2), if_pos (.inr h2)]; rfl
  ·rw [decide_eq_false (show ¬ a ≥ _ from h2), if_neg (by omega)]
   unfold jV
   rw [cond_false, zA (by omega) (by omega), cond_true, (qCd _).1, VF (by have := hw.1; unfold WS at this; omega), VF (by have := hw.2; unfold WS at this; omega), qIJ hw.1, qIJ hw.2]
   simp only [Option.bind_some]
   unfold dimOk wR
   simp only [bne]
   generalize (wK (l.getD a.toNat default)).1 = g1
   generalize (wK (l.getD a.toNat default)).2 = g2
   generalize r.X.B - r.X.A = x
   generalize r.Y.B - r.Y.A = y
   cases x == g1 <;> cases x == g2 <;> cases y == g1 <;> cases y == g2 <;> rfl
theorem qAF (n : Node) (x : Pattern_place) : yR n x = some (chkN (fun _ _ => 0) n x) := by
 have k : ∀ b, wB n x b = some (if b = true then 10 else if 64 < x.level then 28 else if ripB n.Kind = true ∧ (n.At ≤ (alP x.rect n.Kind).A ∨ (alP x.rect n.Kind).B ≤ n.At) then 20 else 0) := by
  intro b
  unfold wB
  cases b with
  | true => rfl
  | false =>
   simp only [cond_false, qBK, qGj, Option.bind_some, Bool.false_eq_true, if_false]
   by_cases h2 : x.level > 64
   ·rw [decide_eq_true h2, if_pos (show 64 < x.level from h2)]; rfl
   ·rw [decide_eq_false h2, if_neg (show ¬ 64 < x.level from h2), cond_false]
    cases hr : ripB n.Kind with
    | false => simp [yL]
    | true =>
     simp only [cond_true, true_and]
     unfold ZY yL
     by_cases h3 : n.At ≤ (alP x.rect n.Kind).A
     ·rw [decide_eq_true h3, if_pos (.inl h3)]; rfl
     ·by_cases h4 : (alP x.rect n.Kind).B ≤ n.At
      ·rw [decide_eq_false h3, decide_eq_true (show n.At ≥ _ from h4), if_pos (.inr h4)]; rfl
      ·rw [decide_eq_false h3, decide_eq_false (show ¬ n.At ≥ _ from h4), if_neg (by omega)]; rfl
 unfold yR chkN
 simp only [k]
 have e0 : ∀ b : Bool, (if n.Kind = 1 then (0 : Int) else 0) = 0 := fun _ => by split <;> rfl
 rw [e0 true]
 by_cases h1 : n.Kind < 0
 ·rw [decide_eq_true h1, if_pos (c := n.Kind < 0 ∨ 3 < n.Kind ∨ (n.Kind = 0 ∧ n.At ≠ 0)) (.inl h1)]; rfl
 ·by_cases h2 : n.Kind > 3
  ·rw [decide_eq_false h1, decide_eq_true h2, if_pos (c := n.Kind < 0 ∨ 3 < n.Kind ∨ (n.Kind = 0 ∧ n.At ≠ 0)) (.inr (.inl h2))]; rfl
  ·rw [decide_eq_false h1, decide_eq_false h2, cond_false, cond_false]
   by_cases h3 : n.Kind = 0
   ·have e3 : (n.Kind == 0) = true := by simpa using h3
    rw [e3, cond_true]
    by_cases h4 : n.At = 0
    ·have e4 : (n.At != 0) = false := by simpa using h4
     rw [e4, if_neg (c := n.Kind < 0 ∨ 3 < n.Kind ∨ (n.Kind = 0 ∧ n.At ≠ 0)) (by omega)]; rfl
    ·have e4 : (n.At != 0) = true := by simpa using h4
     rw [e4, if_pos (c := n.Kind < 0 ∨ 3 < n.Kind ∨ (n.Kind = 0 ∧ n.At ≠ 0)) (by omega)]; rfl
   ·have e3 : (n.Kind == 0) = false := by simpa using h3
    rw [e3, cond_false, if_neg (c := n.Kind < 0 ∨ 3 < n.Kind ∨ (n.Kind = 0 ∧ n.At ≠ 0)) (by omega)]; rfl
theorem qHz (bd : Rect → Int → Int) (n : Node) (x : Pattern_place) : chkN bd n x = if chkN (fun _ _ => 0) n x ≠ 0 then chkN (fun _ _ => 0) n x else if n.Kind = 1 then bd x.rect n.At else 0 := by
 unfold chkN
 split
 ·rfl
 ·split
  ·rfl
  ·split
   ·rfl
   ·split <;> simp
abbrev RdC := Int → Pattern_place → Int × Int → Option (Nat × Int × Int)
/-- A round of the check. -/
def qFA (f : RdC) (bd : Rect → Int → Int) (nodes : List Node) : Prop :=
 ∀ (i : Nat) (x : Pattern_place) (s : Int × Int), WR x.rect → i < 1000000 →
  f (i : Int) x s = some (if nodes.length ≤ i then (1, 3, s.2) else if chkN bd (nodes.getD i default) x ≠ 0 then (1, chkN bd (nodes.getD i default) x, s.2) else (0, s.1, (i : Int) + 1))
def finC (nodes : List Node) (v : Nat × Int × Int) : Option Int := bif Nat.beq v.1 0 then (bif decide (v.2.2 < ((nodes.length : Nat) : Int)) then some 4 else some 0) else bif Nat.beq v.1 1 then some v.2.1 else none
theorem qHI {f : RdC} {bd : Rect → Int → Int} {nodes : List Node} (hf : qFA f bd nodes) {kerf : Int} (hk : 0 ≤ kerf ∧ kerf ≤ 20) (hn : nodes.length ≤ 1000) :
  ∀ (ns : List Node) (i : Nat) (st : List Pattern_place) (r : Int), nodes.drop i = ns → i ≤ nodes.length → (∀ x ∈ st, WR x.rect) →
   ∃ v, runP f kerf ns (i : Int) st (r, (i : Int)) = some v ∧ finC nodes v = some (chkP bd kerf ns st)
 | [], i, [], r, hd, hi, _ => by
  have hil : nodes.length ≤ i := by have := congrArg List.length hd; simp at this; omega
  refine ⟨(0, r, (i : Int)), rfl, ?_⟩
  unfold finC
  rw [decide_eq_false (by simp; omega)]; rfl
 | n :: ns, i, [], r, hd, hi, _ => by
  have hil : i < nodes.length := by
   rcases Nat.lt_or_ge i nodes.length with h | h
   ·exact h
   ·rw [List.drop_eq_nil_of_le h] at hd; cases hd
  refine ⟨(0, r, (i : Int)), rfl, ?_⟩
  unfold finC
  rw [decide_eq_true (by simp; omega)]; rfl
 | [], i, x :: st, r, hd, hi, hw => by
  have hil : nodes.length ≤ i := by have := congrArg List.length hd; simp at this; omega
  refine ⟨(1, 3, (i : Int)), ?_, rfl⟩
  show f (i : Int) x (r, (i : Int)) = _
  rw [hf i x _ (hw x List.mem_cons_self) (by omega), if_pos hil]
 | n :: ns, i, x :: st, r, hd, hi, hw => by
  have hil : i < nodes.length := by
   rcases Nat.lt_or_ge i nodes.length with h | h
   ·exact h
   ·rw [List.drop_eq_nil_of_le h] at hd; cases hd
  have hg : nodes.getD i default = n := by
   have h0 := congrArg (fun l => l.getD 0 default) hd
   simpa [List.getD_eq_getElem?_getD] using h0
  have hd2 : nodes.drop (i + 1) = ns := by
   have h0 := congrArg List.tail hd
   simpa using h0
  show ∃ v, ((f (i : Int) x (r, (i : Int))).bind fun v => bif Nat.beq v.1 0 then runP f kerf ns ((i : Int) + 1) (pushP kerf n x st) v.2 else some v) = some v ∧ finC nodes v = some (if chkN bd n x ≠ 0 then chkN bd n x else chkP bd kerf ns (pushP kerf n x st))
  rw [hf i x _ (hw x List.mem_cons_self) (by omega), if_neg (by omega), hg]
  by_cases c : chkN bd n x = 0
  ·rw [if_neg (by simpa using c), if_neg (by simpa using c)]
   have hp : ∀ y ∈ pushP kerf n x st, WR y.rect := by
    intro y hy
    unfold pushP at hy
    cases hr : ripB n.Kind with
    | false => rw [hr, cond_false] at hy; exact hw y (List.mem_cons_of_mem _ hy)
    | true =>
     rw [hr, cond_true] at hy
     have c3 := (cut3 hr (hw x List.mem_cons_self) (qHl hr c) hk).1
     rcases List.mem_cons.1 hy with rfl | hy
     ·exact c3.wf
     ·rcases List.mem_cons.1 hy with rfl | hy
      ·exact c3.ws
      ·exact hw y (List.mem_cons_of_mem _ hy)
   exact qHI hf hk hn ns (i + 1) (pushP kerf n x st) r hd2 hil hp
  ·rw [if_pos c, if_pos c]
   exact ⟨_, rfl, rfl⟩
theorem VR_WR {r : Rect} (h : VR r) : WR r := ⟨⟨h.1.1, by have := h.1.2; omega, h.1.2.2⟩, h.2.1, by have := h.2.2; omega, h.2.2.2⟩
/-- The first error of a pattern. -/
def ZD (bd : Rect → Int → Int) (p : Pattern) (kerf : Int) : Int :=
 if ¬ VR p.Frame then 19 else if kerf < 0 ∨ 20 < kerf then 9 else if 127 < p.Nodes.length then 4 else chkP bd kerf p.Nodes [⟨p.Frame, 1⟩]
theorem qHn {f : RdC} {bd : Rect → Int → Int} {p : Pattern} (hf : qFA f bd p.Nodes) {kerf : Int} (hv : VR p.Frame) (hk : 0 ≤ kerf ∧ kerf ≤ 20) (hn : p.Nodes.length ≤ 127) :
  (runP f kerf p.Nodes 0 [⟨p.Frame, 1⟩] (0, 0)).bind (finC p.Nodes) = some (chkP bd kerf p.Nodes [⟨p.Frame, 1⟩]) := by
 obtain ⟨v, e1, e2⟩ := qHI hf hk (by omega) p.Nodes 0 [⟨p.Frame, 1⟩] 0 rfl (Nat.zero_le _) (fun x hx => by simp at hx; subst hx; exact VR_WR hv)
 have e1' : runP f kerf p.Nodes 0 [⟨p.Frame, 1⟩] (0, 0) = some v := e1
 rw [e1']; exact e2
theorem qIU (p : Pattern) (l : List Product) : qFA (fun i x s => wN i x p l s.1 s.2) (bdCat l) p.Nodes := by
 intro i x s hw hi
 simp only
 unfold wN QU QY
 by_cases h : p.Nodes.length ≤ i
 ·rw [decide_eq_true (by simp; omega), if_pos h]; rfl
 ·rw [decide_eq_false (by simp; omega), if_neg h, cond_false, zA (by omega) (by omega), cond_true, Int.toNat_natCast, qAF, qHz (bdCat l)]
  simp only [Option.bind_some, cat_eq hw]
  by_cases c : chkN (fun _ _ => 0) (p.Nodes.getD i default) x = 0
  ·rw [c]
   simp only [ne_eq, not_true_eq_false, if_false, beq_self_eq_true, cond_true]
   by_cases c1 : (p.Nodes.getD i default).Kind = 1
   ·have e1 : ((p.Nodes.getD i default).Kind == 1) = true := by simpa using c1
    rw [e1, cond_true, if_pos c1]
    by_cases c2 : bdCat l x.rect (p.Nodes.getD i default).At = 0
    ·rw [c2]; simp [qN (n := (i : Int) + 1) (by omega) (by omega)]
    ·have e2 : (bdCat l x.rect (p.Nodes.getD i default).At != 0) = true := by simpa using c2
     rw [e2, if_pos c2]; rfl
   ·have e1 : ((p.Nodes.getD i default).Kind == 1) = false := by simpa using c1
    rw [e1, cond_false, if_neg c1]; simp [qN (n := (i : Int) + 1) (by omega) (by omega)]
  ·have e1 : (chkN (fun _ _ => 0) (p.Nodes.getD i default) x == 0) = false := by simpa using c
   have e2 : (chkN (fun _ _ => 0) (p.Nodes.getD i default) x != 0) = true := by simpa using c
   rw [e1, cond_false, cond_false, e2, cond_true, if_pos c, if_pos c]
theorem qJi (p : Pattern) : qFA (fun i x s => zQ i x p s.1 s.2) bdAny p.Nodes := by
 intro i x s hw hi
 simp only
 unfold zQ yA jX
 by_cases h : p.Nodes.length ≤ i
 ·rw [decide_eq_true (by simp; omega), if_pos h]; rfl
 ·rw [decide_eq_false (by simp; omega), if_neg h, cond_false, zA (by omega) (by omega), cond_true, Int.toNat_natCast, qAF, qHz bdAny]
  simp only [Option.bind_some, any_eq]
  by_cases c : chkN (fun _ _ => 0) (p.Nodes.getD i default) x = 0
  ·rw [c]
   simp only [ne_eq, not_true_eq_false, if_false, beq_self_eq_true, cond_true]
   by_cases c1 : (p.Nodes.getD i default).Kind = 1
   ·have e1 : ((p.Nodes.getD i default).Kind == 1) = true := by simpa using c1
    rw [e1, cond_true, if_pos c1]
    by_cases c2 : bdAny x.rect (p.Nodes.getD i default).At = 0
    ·rw [c2]; simp [qN (n := (i : Int) + 1) (by omega) (by omega)]
    ·have e2 : (bdAny x.rect (p.Nodes.getD i default).At != 0) = true := by simpa using c2
     rw [e2, if_pos c2]; rfl
   ·have e1 : ((p.Nodes.getD i default).Kind == 1) = false := by simpa using c1
    rw [e1, cond_false, if_neg c1]; simp [qN (n := (i : Int) + 1) (by omega) (by omega)]
  ·have e1 : (chkN (fun _ _ => 0) (p.Nodes.getD i default) x == 0) = false := by simpa using c
   have e2 : (chkN (fun _ _ => 0) (p.Nodes.getD i default) x != 0) = true := by simpa using c
   rw [e1, cond_false, cond_false, e2, cond_true, if_pos c, if_pos c]
theorem qGV (p : Pattern) (l : List Product) (kerf : Int) : PF p l kerf = some (ZD (bdCat l) p kerf) := by
 have k : ∀ b, QT p kerf l b = bif b then some 9 else QT p kerf l false := fun b => by cases b <;> rfl
 unfold PF VZ ZD
 rw [isFrame_eq]
 simp only [Option.bind_some]
 by_cases hv : VR p.Frame
 ·rw [decide_eq_true hv, if_neg (by simpa using hv)]
  simp only [Bool.not_true, cond_false]
  by_cases h1 : kerf < 0
  ·rw [decide_eq_true h1, if_pos (.inl h1)]; rfl
  ·by_cases h2 : kerf > 20
   ·rw [decide_eq_false h1, decide_eq_true h2, if_pos (.inr h2)]; rfl
   ·rw [decide_eq_false h1, decide_eq_false h2, if_neg (by omega), cond_false]
    unfold QT wM
    rw [cond_false]
    by_cases h3 : 127 < p.Nodes.length
    ·rw [decide_eq_true (show ((p.Nodes.length : Nat) : Int) > 127 by omega), if_pos h3]; rfl
    ·rw [decide_eq_false (show ¬ ((p.Nodes.length : Nat) : Int) > 127 by omega), if_neg h3, cond_false]
     simp only [Option.bind_some]
     rw [qH6 _ _ _ _ _ _ (by omega)]
     have := qHn (qIU p l) hv (kerf := kerf) (by omega) (by omega)
     unfold finC at this
     rw [this]; rfl
 ·rw [decide_eq_false hv, if_pos (by simpa using hv)]; rfl
theorem qE1 (p : Pattern) (kerf : Int) : QR p kerf = some (ZD bdAny p kerf) := by
 unfold QR ZD
 rw [isFrame_eq]
 simp only [Option.bind_some]
 by_cases hv : VR p.Frame
 ·rw [decide_eq_true hv, if_neg (by simpa using hv)]
  simp only [Bool.not_true, cond_false]
  by_cases h1 : kerf < 0
  ·rw [decide_eq_true h1, if_pos (.inl h1)]; rfl
  ·by_cases h2 : kerf > 20
   ·rw [decide_eq_false h1, decide_eq_true h2, if_pos (.inr h2)]; rfl
   ·rw [decide_eq_false h1, decide_eq_false h2, if_neg (by omega), cond_false]
    unfold JE wM
    rw [cond_false]
    by_cases h3 : 127 < p.Nodes.length
    ·rw [decide_eq_true (show ((p.Nodes.length : Nat) : Int) > 127 by omega), if_pos h3]; rfl
    ·rw [decide_eq_false (show ¬ ((p.Nodes.length : Nat) : Int) > 127 by omega), if_neg h3, cond_false]
     simp only [Option.bind_some]
     rw [qId _ _ _ _ _ (by omega)]
     have := qHn (qJi p) hv (kerf := kerf) (by omega) (by omega)
     unfold finC at this
     rw [this]
 ·rw [decide_eq_false hv, if_pos (by simpa using hv)]; rfl
/-- A walk that gathers. -/
theorem qDU {α : Type} {g : Node → Pattern_place → List α} (hg1 : ∀ n x, (g n x).length ≤ 1) {bd : Rect → Int → Int} {nodes : List Node} {f : Int → Pattern_place → List α → Option (Nat × List α)} {kerf : Int} (hn : nodes.length ≤ 1000)
  (hf : ∀ (i : Nat) (x : Pattern_place) (s : List α), i < nodes.length → s.length ≤ 1000 → f (i : Int) x s = some (0, s ++ g (nodes.getD i default) x)) :
  ∀ (ns : List Node) (i : Nat) (st : List Pattern_place) (s : List α), nodes.drop i = ns → i ≤ nodes.length → s.length ≤ i → chkP bd kerf ns st = 0 → runP f kerf ns (i : Int) st s = some (0, s ++ allP g kerf ns st)
 | [], i, [], s, _, _, _, _ => by simp [runP, allP]
 | n :: ns, i, [], s, _, _, _, h => by simp [chkP] at h
 | [], i, x :: st, s, _, _, _, h => by simp [chkP] at h
 | n :: ns, i, x :: st, s, hd, hi, hs, h => by
  have hil : i < nodes.length := by
   rcases Nat.lt_or_ge i nodes.length with h | h
   ·exact h
   ·rw [List.drop_eq_nil_of_le h] at hd; cases hd
  have hgn : nodes.getD i default = n := by
   have h0 := congrArg (fun l => l.getD 0 default) hd
   simpa [List.getD_eq_getElem?_getD] using h0
  have hd2 : nodes.drop (i + 1) = ns := by
   have h0 := congrArg List.tail hd
   simpa using h0
  have h' : chkP bd kerf ns (pushP kerf n x st) = 0 := by
   unfold chkP at h
   split at h
   ·rename_i c; exact (c h).elim
   ·exact h
  show ((f (i : Int) x s).bind fun v => bif Nat.beq v.1 0 then runP f kerf ns ((i : Int) + 1) (pushP kerf n x st) v.2 else some v) = _
  rw [hf i x s hil (by omega), hgn]
  have e := qDU hg1 (bd := bd) hn hf ns (i + 1) (pushP kerf n x st) (s ++ g n x) hd2 hil (by have := hg1 n x; simp; omega) h'
  show runP f kerf ns ((i : Int) + 1) (pushP kerf n x st) (s ++ g n x) = _
  rw [show ((i : Int) + 1) = ((i + 1 : Nat) : Int) by omega, e, List.append_assoc]
  rfl
theorem leafG1 (n : Node) (x : Pattern_place) : (MU n x).length ≤ 1 := by unfold MU; split <;> (try split) <;> simp
theorem cutG1 (kerf : Int) (n : Node) (x : Pattern_place) : (cutG kerf n x).length ≤ 1 := by unfold cutG; split <;> simp
theorem YL {bd : Rect → Int → Int} {p : Pattern} {kerf : Int} : ZD bd p kerf = 0 ↔ VR p.Frame ∧ (0 ≤ kerf ∧ kerf ≤ 20) ∧ p.Nodes.length ≤ 127 ∧ chkP bd kerf p.Nodes [⟨p.Frame, 1⟩] = 0 := by
 unfold ZD
 by_cases hv : VR p.Frame
 ·rw [if_neg (by simpa using hv)]
  by_cases h1 : kerf < 0 ∨ 20 < kerf
  ·rw [if_pos h1]; constructor
   ·intro h; cases h
   ·rintro ⟨_, h, _⟩; omega
  ·rw [if_neg h1]
   by_cases h3 : 127 < p.Nodes.length
   ·rw [if_pos h3]; constructor
    ·intro h; cases h
    ·rintro ⟨_, _, h, _⟩; omega
   ·rw [if_neg h3]; constructor
    ·intro h; exact ⟨hv, by omega, by omega, h⟩
    ·rintro ⟨_, _, _, h⟩; exact h
 ·rw [if_pos (by simpa using hv)]; constructor
  ·intro h; cases h
  ·rintro ⟨h, _⟩; exact (hv h).elim
def lvP (p : Pattern) (kerf : Int) : List Leaf := allP MU kerf p.Nodes [⟨p.Frame, 1⟩]
def ctP (p : Pattern) (kerf : Int) : List Rect := allP (cutG kerf) kerf p.Nodes [⟨p.Frame, 1⟩]
theorem qIX (p : Pattern) (kerf : Int) : XF p kerf = some (if ZD bdAny p kerf = 0 then (lvP p kerf, 0) else ([], ZD bdAny p kerf)) := by
 unfold XF
 rw [qE1]
 simp only [Option.bind_some]
 by_cases h : ZD bdAny p kerf = 0
 ·have hz := YL.1 h
  rw [if_pos h, h]
  unfold wM
  simp only [bne_self_eq_false, cond_false, Option.bind_some]
  rw [qHU _ _ _ _ (by omega)]
  have e := qDU leafG1 (bd := bdAny) (kerf := kerf) (nodes := p.Nodes) (f := fun i x (s : List Leaf) => wD i x p s) (by omega) (by
   intro i x s hi hs
   unfold wD MU
   rw [zA (by omega) (by omega), cond_true, Int.toNat_natCast, KI (by omega) (by omega)]
   by_cases c0 : (p.Nodes.getD i default).Kind = 0
   ·have e0 : ((p.Nodes.getD i default).Kind == 0) = true := by simpa using c0
    rw [e0, if_pos c0]; rfl
   ·have e0 : ((p.Nodes.getD i default).Kind == 0) = false := by simpa using c0
    rw [e0, if_neg c0, cond_false]
    by_cases c1 : (p.Nodes.getD i default).Kind = 1
    ·have e1 : ((p.Nodes.getD i default).Kind == 1) = true := by simpa using c1
     rw [e1, if_pos c1]; rfl
    ·have e1 : ((p.Nodes.getD i default).Kind == 1) = false := by simpa using c1
     rw [e1, if_neg c1, cond_false, List.append_nil]) p.Nodes 0 [⟨p.Frame, 1⟩] [] rfl (Nat.zero_le _) (Nat.zero_le _) hz.2.2.2
  rw [show (0 : Int) = ((0 : Nat) : Int) from rfl, e]
  rfl
 ·have h' : (ZD bdAny p kerf != 0) = true := by simpa using h
  rw [if_neg h, h']; rfl
theorem Cuts_eq (p : Pattern) (kerf : Int) : TG p kerf = some (if ZD bdAny p kerf = 0 then (ctP p kerf, 0) else ([], ZD bdAny p kerf)) := by
 unfold TG
 rw [qE1]
 simp only [Option.bind_some]
 by_cases h : ZD bdAny p kerf = 0
 ·have hz := YL.1 h
  rw [if_pos h, h]
  unfold wM
  simp only [bne_self_eq_false, cond_false, Option.bind_some]
  rw [qH3 _ _ _ _ _ (by omega)]
  have e := qDU (cutG1 kerf) (bd := bdAny) (kerf := kerf) (nodes := p.Nodes) (f := fun i x (s : List Rect) => wS i x p kerf s) (by omega) (by
   intro i x s hi hs
   unfold wS cutG
   rw [zA (by omega) (by omega), cond_true, Int.toNat_natCast, qBK, KI (by omega) (by omega)]
   simp only [Option.bind_some, qGQ]
   cases c0 : ripB (p.Nodes.getD i default).Kind
   ·simp
   ·simp) p.Nodes 0 [⟨p.Frame, 1⟩] [] rfl (Nat.zero_le _) (Nat.zero_le _) hz.2.2.2
  rw [show (0 : Int) = ((0 : Nat) : Int) from rfl, e]
  rfl
 ·have h' : (ZD bdAny p kerf != 0) = true := by simpa using h
  rw [if_neg h, h']; rfl
end Go.SL.Saw

namespace Go.SL.Saw
def FT (l : List qF) (r : Rect) : Int := volS l r.X r.Y ⟨0, zX l⟩
def volT (l : List qF) : Int := sumN l.length (fun i => (l.getD i default).Len * UK (l.getD i default).Sec)
theorem Area_eq (s : qI) : TK s = some (UK (FK s)) := by
 have h := qFM s
 unfold TK
 rw [qFO s]
 simp only [Option.bind_some]
 generalize FK s = t at *
 have b := h.len
 have k1 := LD t.Rows (fun n (a : Int) x => ZH t n a x) (fun x => (x : Int)) (fun _ a s => s + lenS a) (fun s => s) (fun x s => 0 ≤ s ∧ s ≤ 1200 * (x : Int)) (by omega)
  (fun n x a hx hi => by
   have l := h.len_b hx
   refine ⟨?_, by omega⟩
   rw [ZH, decide_eq_true (show (x : Int) < _ by omega), zA (by omega) (by omega), zJ (by omega)]
   simp only [cond_true, Int.toNat_natCast]
   rw [VF (by omega)]
   simp only [Option.bind_some]
   rw [qN (by omega) (by omega)])
  (fun n a _ => by rw [ZH]; simp) (i := 0) rfl 0 (by omega)
 rw [AF (fun _ a => lenS a)] at k1
 have e := qGl h (fun _ a => lenS a) (fun _ => rfl)
 rw [e, Int.zero_add] at k1
 rw [k1.1]
 simp only [Option.bind_some]
 unfold UK
 have := k1.2
 rw [qN (by omega) (by omega)]
theorem ED {l : List qF} (h : VSol l) : ∀ {k : Nat}, k ≤ l.length → 0 ≤ sumN k (fun i => (l.getD i default).Len * UK (l.getD i default).Sec) ∧ sumN k (fun i => (l.getD i default).Len * UK (l.getD i default).Sec) ≤ 1440000 * zF l k
 | 0, _ => by simp [sumN, zF]
 | k + 1, hk => by
  have ih := ED h (k := k) (by omega)
  have a := qGz (h.at (i := k) (by omega)).1
  have b := (h.at (i := k) (by omega)).2.2.1
  have c := Int.mul_le_mul_of_nonneg_left a.2 (show 0 ≤ (l.getD k default).Len by omega)
  have d := Int.mul_nonneg (show 0 ≤ (l.getD k default).Len by omega) a.1
  rw [zN]
  show 0 ≤ sumN k _ + _ ∧ sumN k _ + _ ≤ _
  simp only at ih ⊢
  rw [Int.mul_add]
  constructor <;> omega
theorem volT_b {l : List qF} (h : VSol l) : 0 ≤ volT l ∧ volT l ≤ 28800000000 := by
 have := ED h (Nat.le_refl _)
 have b := (h.bd (Nat.le_refl _)).2
 unfold volT
 have : (1440000 : Int) * zF l l.length ≤ 1440000 * 20000 := Int.mul_le_mul_of_nonneg_left b (by omega)
 omega
theorem qIR {l : List qF} (h : VSol l) : TR l = some (volT l) := by
 have hl := h.len
 unfold TR
 rw [qEk, HH h]
 simp only [Option.bind_some]
 have k1 := LD l (fun n (a : Int) x => ZL l n a x) (fun x => (x : Int)) (fun _ a s => s + a.Len * UK a.Sec) (fun s => s) (fun x s => s = sumN x (fun i => (l.getD i default).Len * UK (l.getD i default).Sec)) (by omega)
  (fun n x a hx hi => by
   have p := ED h (k := x) (by omega)
   have p' := ED h (k := x + 1) (by omega)
   have b1 := (h.bd (i := x) (by omega)).2
   have b2 := (h.bd (i := x + 1) (by omega)).2
   have vs := (h.at hx).1
   have ar := qGz vs
   have ln := (h.at hx).2.2.1
   have l2 : (l.getD x default).Len ≤ 20000 := by have := zN l x; have := (h.bd (i := x) (by omega)).1; omega
   have pr := Int.mul_le_mul l2 ar.2 ar.1 (by omega)
   have pn := Int.mul_nonneg (show 0 ≤ (l.getD x default).Len by omega) ar.1
   refine ⟨?_, by rw [hi]; rfl⟩
   rw [ZL, decide_eq_true (show (x : Int) < _ by omega), zA (by omega) (by omega), zJ (by omega)]
   simp only [cond_true, Int.toNat_natCast, Area_eq, Option.bind_some]
   rw [qB7 vs]
   rw [qN (n := (l.getD x default).Len * UK (l.getD x default).Sec) (by omega) (by omega), qN (by omega) (by omega)])
  (fun n a _ => by rw [ZL]; simp) (i := 0) rfl 0 rfl
 rw [k1.1, AF (fun _ (a : qF) => a.Len * UK a.Sec), Int.zero_add]
 simp only [Option.bind_some, Nat.zero_add]
 rfl
end Go.SL.Saw

namespace Go.SL.Saw
theorem qIa {p : Product} (h : VP p) : 5 ≤ (wK p).1 ∧ (wK p).1 ≤ 721 ∧ 5 ≤ (wK p).2 ∧ (wK p).2 ≤ 600 := by
 have b := qJB p
 have g := h.gr
 have t := h.th
 have w := h.wd
 have a := h.al
 have e : okG p = true := qEd.2 ⟨by omega, by omega, a⟩
 have g1 := HJ (n := p.Thick) (a := p.Allow) (by omega) (by omega) a.1 a.2
 have g2 := HJ (n := p.Width) (a := p.Allow) (by omega) (by omega) a.1 a.2
 have eg : wK p = (SX p.Thick p.Allow, SX p.Width p.Allow) := by unfold wK; rw [e]; rfl
 rw [eg] at b g ⊢
 simp only at b g ⊢
 omega
noncomputable def chkY (s : List qF) (d : List Defect) (p : List Product) (pt : Pattern) (w : Saw) (t : Rates) : Int :=
 if GD s ≠ 0 then GD s else if FL d ≠ 0 then FL d else if QC p ≠ 0 then QC p else if OU w t ≠ 0 then OU w t else ZD (bdCat p) pt w.Kerf
structure VY (s : List qF) (d : List Defect) (p : List Product) (pt : Pattern) (w : Saw) (t : Rates) : Prop where
 sol : VSol s
 df : FL d = 0
 pr : QC p = 0
 vw : VW w t
 pat : ZD (bdCat p) pt w.Kerf = 0
theorem qAo (s : List qF) (d : List Defect) (p : List Product) (pt : Pattern) (w : Saw) (t : Rates) : PL s d p pt w t = some (chkY s d p pt w t) := by
 unfold PL chkY
 simp only [(OO s).1, qGu, qGe, qJ2, qGV, Option.bind_some]
 have k : ∀ (n : Int) (a b : Option Int), (bif n != 0 then a else b) = if n ≠ 0 then a else b := by
  intro n a b
  by_cases h : n = 0
  ·rw [h]; rfl
  ·have : (n != 0) = true := by simpa using h
   rw [this, if_pos h]; rfl
 simp only [k]
 split
 ·rfl
 ·split
  ·rfl
  ·split
   ·rfl
   ·split <;> rfl
theorem qAS {s : List qF} {d : List Defect} {p : List Product} {pt : Pattern} {w : Saw} {t : Rates} : chkY s d p pt w t = 0 ↔ VY s d p pt w t := by
 unfold chkY
 constructor
 ·intro h
  split at h
  ·rename_i c; exact (c h).elim
  ·rename_i c1
   split at h
   ·rename_i c; exact (c h).elim
   ·rename_i c2
    split at h
    ·rename_i c; exact (c h).elim
    ·rename_i c3
     split at h
     ·rename_i c; exact (c h).elim
     ·rename_i c4
      exact ⟨(BB s).1 (by simpa using c1), by simpa using c2, by simpa using c3, (OP w t).1 (by simpa using c4), h⟩
 ·rintro ⟨h1, h2, h3, h4, h5⟩
  rw [if_neg (by simpa using (BB s).2 h1), if_neg (by simpa using h2), if_neg (by simpa using h3), if_neg (by simpa using (OP w t).2 h4), h5]
variable {s : List qF} {d : List Defect} {p : List Product} {pt : Pattern} {w : Saw} {t : Rates}
theorem bd_any {p : List Product} (h : QC p = 0) (r : Rect) (a : Int) (hb : bdCat p r a = 0) : bdAny r a = 0 := by
 have hl := qIK (l := p) (by simpa using h)
 unfold bdCat at hb
 unfold bdAny
 split at hb
 ·cases hb
 ·rw [if_neg (by omega)]
theorem VY.any (h : VY s d p pt w t) : ZD bdAny pt w.Kerf = 0 := by
 have hz := YL.1 h.pat
 obtain ⟨T, e1, e2⟩ := qGv hz.2.2.2
 rw [YL]
 refine ⟨hz.1, hz.2.1, hz.2.2.1, ?_⟩
 rw [e1]
 exact chkP_of (qBR (bd_any h.pr) e2)
/-- The tree of the pattern. -/
theorem VY.tree (h : VY s d p pt w t) : ∃ T, pt.Nodes = jD T ∧ okT (bdCat p) w.Kerf T ⟨pt.Frame, 1⟩ ∧ lvP pt w.Kerf = lvT w.Kerf T ⟨pt.Frame, 1⟩ ∧ ctP pt w.Kerf = ctT w.Kerf T ⟨pt.Frame, 1⟩ := by
 have hz := YL.1 h.pat
 obtain ⟨T, e1, e2⟩ := qGv hz.2.2.2
 refine ⟨T, e1, e2, ?_, ?_⟩
 ·unfold lvP lvT; rw [e1, qBM MU w.Kerf _ (DB e2)]
 ·unfold ctP ctT; rw [e1, qBM (cutG w.Kerf) w.Kerf _ (DB e2)]
theorem VY.parts (h : VY s d p pt w t) : Parts (bdCat p) pt.Frame (lvP pt w.Kerf) (ctP pt w.Kerf) 127 := by
 have hz := YL.1 h.pat
 obtain ⟨T, e1, e2, e3, e4⟩ := h.tree
 have q := qDZ hz.2.1 T _ e2 (VR_WR hz.1)
 rw [e3, e4]
 have hl : (jD T).length ≤ 127 := by rw [← e1]; exact hz.2.2.1
 exact ⟨q.wl, q.wc, q.ap, by have := q.ll; omega, by have := q.lc; omega, q.sum⟩
/-- The board of a leaf. -/
def bdOf (s : List qF) (d : List Defect) (p : List Product) (step fine : Int) (i : Nat) (x : Leaf) : List Yield_Cut :=
 if x.Product = -1 then [] else
  bif (bestR s d (p.getD x.Product.toNat default) x.Rect step fine).2.1 then [⟨(i : Int), x.Product, ⟨x.Rect.X, x.Rect.Y, (bestR s d (p.getD x.Product.toNat default) x.Rect step fine).2.2⟩, (bestR s d (p.getD x.Product.toNat default) x.Rect step fine).1⟩] else []
def bdsFrom (s : List qF) (d : List Defect) (p : List Product) (step fine : Int) : Nat → List Leaf → List Yield_Cut
 | _, [] => []
 | i, x :: l => bdOf s d p step fine i x ++ bdsFrom s d p step fine (i + 1) l
theorem qJN (step fine : Int) (i : Nat) (x : Leaf) : (bdOf s d p step fine i x).length ≤ 1 := by
 unfold bdOf; split
 ·simp
 ·cases (bestR s d (p.getD x.Product.toNat default) x.Rect step fine).2.1 <;> simp
theorem qBD (step fine : Int) : ∀ (l : List Leaf) (i : Nat), (bdsFrom s d p step fine i l).length ≤ l.length
 | [], _ => Nat.le_refl _
 | x :: l, i => by
  have := qBD step fine l (i + 1)
  have := qJN (s := s) (d := d) (p := p) step fine i x
  simp [bdsFrom]; omega
/-- A leaf of a board. -/
structure qDx (p : List Product) (x : Leaf) : Prop where
 w : WR x.Rect
 b : x.Product = -1 ∨ bdCat p x.Rect x.Product = 0
theorem qHt {x : Leaf} (hp : QC p = 0) (h : qDx p x) (hx : x.Product ≠ -1) : 0 ≤ x.Product ∧ x.Product < (p.length : Int) ∧ VP (p.getD x.Product.toNat default) ∧ QC [p.getD x.Product.toNat default] = 0 ∧ VR x.Rect ∧ dimOk x.Rect (p.getD x.Product.toNat default) = true := by
 have hb := h.b.resolve_left hx
 unfold bdCat at hb
 split at hb
 ·cases hb
 ·rename_i c
  have hd : dimOk x.Rect (p.getD x.Product.toNat default) = true := by
   cases hh : dimOk x.Rect (p.getD x.Product.toNat default) with
   | true => rfl
   | false => rw [hh] at hb; cases hb
  have hi : x.Product.toNat < p.length := by omega
  have hv := qJ1 hp hi
  refine ⟨by omega, by omega, hv, qJa hp hi, ?_, hd⟩
  have g := qIa hv
  obtain ⟨⟨x1, x2, x3⟩, y1, y2, y3⟩ := h.w
  unfold dimOk at hd
  simp only [Bool.or_eq_true, Bool.and_eq_true, beq_iff_eq] at hd
  refine ⟨⟨x1, ?_, x3⟩, y1, ?_, y3⟩ <;> omega
theorem qIr (hs : VSol s) (hd : FL d = 0) (hp : QC p = 0) (hw : 1 ≤ w.Step ∧ w.Step ≤ 20000) {fine : Int} (hf : 0 ≤ fine ∧ fine ≤ 1000000) {lv : List Leaf} (hl : lv.length ≤ 1000) (hg : ∀ x ∈ lv, qDx p x) :
  QF s d p w fine lv [] = some (0, bdsFrom s d p w.Step fine 0 lv) := by
 have key : ∀ (k i n : Nat) (acc : List Yield_Cut), i + k = lv.length → k < n → acc.length ≤ i → zC s d p w fine lv n (i : Int) acc = some (.inr (acc ++ bdsFrom s d p w.Step fine i (lv.drop i))) := by
  intro k
  induction k with
  | zero =>
   intro i n acc hi hn _
   obtain ⟨n, rfl⟩ : ∃ m, n = m + 1 := ⟨n - 1, by omega⟩
   unfold zC
   rw [decide_eq_false (by omega), List.drop_eq_nil_of_le (by omega)]
   simp [bdsFrom]
  | succ k ih =>
   intro i n acc hi hn ha
   obtain ⟨n, rfl⟩ : ∃ m, n = m + 1 := ⟨n - 1, by omega⟩
   have hil : i < lv.length := by omega
   unfold zC
   rw [decide_eq_true (by omega), zA (by omega) (by omega), qAe lv i hil]
   have hx := hg _ (RJ hil)
   unfold QZ
   rw [zJ (by omega)]
   simp only [cond_true, Int.toNat_natCast, bdsFrom]
   unfold bdOf
   by_cases c : (lv.getD i default).Product = -1
   ·have e : ((lv.getD i default).Product != -1) = false := by simpa using c
    rw [e, if_pos c, cond_false, ih (i + 1) n acc (by omega) (by omega) (by omega)]
    rfl
   ·have e : ((lv.getD i default).Product != -1) = true := by simpa using c
    obtain ⟨g1, g2, g3, g4, g5, _⟩ := qHt hp hx c
    rw [e, if_neg c, cond_true]
    unfold JU JP
    rw [zA g1 g2, cond_true, qJ9 hs hd g4 g3 g5 hw hf]
    simp only [Option.bind_some]
    rw [KI (by omega) (by omega)]
    cases hb : (bestR s d (p.getD (lv.getD i default).Product.toNat default) (lv.getD i default).Rect w.Step fine).2.1 with
    | false =>
     simp only [cond_false, Option.bind_some]
     show zC s d p w fine lv n ((i + 1 : Nat) : Int) acc = _
     rw [ih (i + 1) n acc (by omega) (by omega) (by omega)]
     rfl
    | true =>
     simp only [cond_true, Option.bind_some]
     show zC s d p w fine lv n ((i + 1 : Nat) : Int) _ = _
     rw [ih (i + 1) n _ (by omega) (by omega) (by simp; omega)]
     simp
 unfold QF
 have e := key lv.length 0 FUEL [] (by omega) (by rw [XW]; omega) (Nat.le_refl _)
 rw [show (0 : Int) = ((0 : Nat) : Int) from rfl, e]
 simp
/-- The boards of a log. -/
def bds (s : List qF) (d : List Defect) (p : List Product) (pt : Pattern) (w : Saw) (fine : Int) : List Yield_Cut := bdsFrom s d p w.Step fine 0 (lvP pt w.Kerf)
theorem VW.fine0 (h : VW w t) : VW w ⟨0, 0, t.Fine⟩ := ⟨h.kerf, h.trim, h.pitch, h.step, by simp, by simp, h.fine⟩
theorem qHG (h : VY s d p pt w t) : ∀ x ∈ lvP pt w.Kerf, qDx p x := fun x hx => ⟨(h.parts.wl x hx).1, (h.parts.wl x hx).2.2⟩
theorem qIG (h : VY s d p pt w t) : XG s d p pt w t.Fine = some (bds s d p pt w t.Fine, 0) := by
 have hv : VY s d p pt w ⟨0, 0, t.Fine⟩ := ⟨h.sol, h.df, h.pr, h.vw.fine0, h.pat⟩
 unfold XG
 rw [qAo, qAS.2 hv, qIX, if_pos h.any]
 simp only [Option.bind_some, bne_self_eq_false, cond_false]
 unfold YS
 simp only [Option.bind_some]
 rw [qIr h.sol h.df h.pr h.vw.step h.vw.fine (by have := h.parts.ll; omega) (qHG h)]
 rfl
end Go.SL.Saw

namespace Go.SL.Saw
variable {s : List qF} {d : List Defect} {p : List Product} {pt : Pattern} {w : Saw} {t : Rates}
def qCY (z : Span) (trim : Int) : Span := ⟨imax 0 (z.A - trim), z.A⟩
def qFC (z : Span) (trim len : Int) : Span := ⟨z.B, imin (z.B + trim) len⟩
def brdV (s : List qF) (c : Yield_Cut) : Int := volS s c.Box.X c.Box.Y c.Box.Z
def trmV (s : List qF) (trim : Int) (c : Yield_Cut) : Int := volS s c.Box.X c.Box.Y (qCY c.Box.Z trim) + volS s c.Box.X c.Box.Y (qFC c.Box.Z trim (zX s))
/-- A board that a log can give. -/
structure qFz (s : List qF) (c : Yield_Cut) : Prop where
 z : 0 ≤ c.Box.Z.A ∧ c.Box.Z.A < c.Box.Z.B ∧ c.Box.Z.B ≤ zX s
 wth : 0 ≤ c.Worth ∧ c.Worth ≤ 1000000
theorem qJo (hp : QC p = 0) {step fine : Int} (hf : 0 ≤ fine) {i : Nat} {x : Leaf} (hx : qDx p x) {c : Yield_Cut} (h : c ∈ bdOf s d p step fine i x) : qFz s c ∧ c.Leaf = (i : Int) ∧ c.Box.X = x.Rect.X ∧ c.Box.Y = x.Rect.Y ∧ c.Product = x.Product ∧ x.Product ≠ -1 := by
 unfold bdOf at h
 split at h
 ·exact (List.not_mem_nil h).elim
 ·rename_i c0
  obtain ⟨_, _, g3, _, _, _⟩ := qHt hp hx c0
  have bi := qJq (l := s) (ds := d) (p := p.getD x.Product.toNat default) (r := x.Rect) (step := step) (fine := fine) hf g3
  cases hb : (bestR s d (p.getD x.Product.toNat default) x.Rect step fine).2.1 with
  | false => rw [hb, cond_false] at h; exact (List.not_mem_nil h).elim
  | true =>
   rw [hb, cond_true] at h
   simp at h
   subst h
   exact ⟨⟨bi.2.2 hb, bi.1, bi.2.1⟩, rfl, rfl, rfl, rfl, c0⟩
theorem qHs (hp : QC p = 0) {step fine : Int} (hf : 0 ≤ fine) : ∀ {lv : List Leaf} {i : Nat}, (∀ x ∈ lv, qDx p x) → ∀ c ∈ bdsFrom s d p step fine i lv, qFz s c ∧ (i : Int) ≤ c.Leaf ∧ ∃ x ∈ lv, c.Box.X = x.Rect.X ∧ c.Box.Y = x.Rect.Y ∧ c.Product = x.Product ∧ x.Product ≠ -1
 | [], _, _, c, hc => (List.not_mem_nil hc).elim
 | x :: l, i, hg, c, hc => by
  rcases List.mem_append.1 hc with hc | hc
  ·obtain ⟨a, b, e⟩ := qJo hp hf (hg x List.mem_cons_self) hc
   exact ⟨a, by omega, x, List.mem_cons_self, e⟩
  ·obtain ⟨a, b, y, hy, e⟩ := qHs hp hf (fun y hy => hg y (List.mem_cons_of_mem _ hy)) c hc
   exact ⟨a, by omega, y, List.mem_cons_of_mem _ hy, e⟩
def OY (s : List qF) (ct : List Rect) : Int := sumL (FT s) ct
theorem qDc {α : Type} (F : α → Int) : ∀ (l : List α) (x : Nat) (s : Int), PX (fun _ a s => s + F a) x l s = s + sumL F l
 | [], _, s => by simp [PX, sumL]
 | a :: l, x, s => by
  show PX _ (x + 1) l (s + F a) = _
  rw [qDc F l (x + 1) (s + F a), TM]; omega
theorem qEM {α : Type} (F G H : α → Int) : ∀ (l : List α) (x : Nat) (s : Int × Int × Int), PX (fun _ a s => (s.1 + F a, s.2.1 + G a, s.2.2 + H a)) x l s = (s.1 + sumL F l, s.2.1 + sumL G l, s.2.2 + sumL H l)
 | [], _, s => by simp [PX, sumL]
 | a :: l, x, s => by
  show PX _ (x + 1) l (s.1 + F a, s.2.1 + G a, s.2.2 + H a) = _
  rw [qEM F G H l (x + 1) _, TM, TM, TM]
  simp only [Int.add_assoc]
theorem qHy (h : VSol s) (r : Rect) : 0 ≤ FT s r ∧ FT s r ≤ 28800000000 := qFI h _ _ _
theorem qJz (hs : VSol s) {ct : List Rect} (hl : ct.length ≤ 1000) (e v : Int) : YN s (ct, e) (zX s) v FUEL 0 0 = some ⟨v, 0, 0, OY s ct, 0⟩ ∧ 0 ≤ OY s ct ∧ OY s ct ≤ 28800000000 * ct.length := by
 have k1 := LD ct (fun n (a : Int) x => YN s (ct, e) (zX s) v n x a) (fun x => (x : Int)) (fun _ a s' => s' + FT s a) (fun q => (⟨v, 0, 0, q, 0⟩ : Yield)) (fun x q => 0 ≤ q ∧ q ≤ 28800000000 * (x : Int)) (by omega)
  (fun n x a hx hi => by
   have b := qHy hs (ct.getD x default)
   refine ⟨?_, by omega⟩
   rw [YN, decide_eq_true (show (x : Int) < _ by simp only; omega), zA (by omega) (by simp only; omega), zJ (by omega)]
   unfold JP
   simp only [cond_true, Int.toNat_natCast, Option.bind_some, SU hs]
   unfold FT at *
   rw [qN (by omega) (by omega)])
  (fun n a _ => by rw [YN]; simp) (i := 0) rfl 0 (by omega)
 rw [qDc (FT s), Int.zero_add] at k1
 exact ⟨k1.1, k1.2⟩
theorem qJn (hs : VSol s) (ht : 0 ≤ w.Trim ∧ w.Trim ≤ 20) {b : List Yield_Cut} (hl : b.length ≤ 1000) (hg : ∀ c ∈ b, qFz s c) (e v dd : Int) (hd : 0 ≤ dd ∧ dd ≤ 28800000000 * 1000) :
  YM s w (b, e) (zX s) ⟨v, 0, 0, dd, 0⟩ FUEL 0 0 dd 0 = some ⟨v, sumL (brdV s) b, 0, dd + sumL (trmV s w.Trim) b, sumL (fun c => 1000000 * c.Worth) b⟩
   ∧ (0 ≤ sumL (brdV s) b ∧ sumL (brdV s) b ≤ 28800000000 * b.length) ∧ (0 ≤ sumL (trmV s w.Trim) b ∧ sumL (trmV s w.Trim) b ≤ 57600000000 * b.length) ∧ (0 ≤ sumL (fun c : Yield_Cut => 1000000 * c.Worth) b ∧ sumL (fun c : Yield_Cut => 1000000 * c.Worth) b ≤ 1000000000000 * b.length) := by
 have sl := qGH hs
 have k1 := LD b (fun n (q : Int × Int × Int) x => YM s w (b, e) (zX s) ⟨v, 0, 0, dd, 0⟩ n x q.1 q.2.1 q.2.2) (fun x => (x : Int)) (fun _ a q => (q.1 + brdV s a, q.2.1 + trmV s w.Trim a, q.2.2 + 1000000 * a.Worth)) (fun q => (⟨v, q.1, 0, q.2.1, q.2.2⟩ : Yield))
  (fun x q => (0 ≤ q.1 ∧ q.1 ≤ 28800000000 * (x : Int)) ∧ (dd ≤ q.2.1 ∧ q.2.1 ≤ dd + 57600000000 * (x : Int)) ∧ (0 ≤ q.2.2 ∧ q.2.2 ≤ 1000000000000 * (x : Int))) (by omega)
  (fun n x q hx hi => by
   have b1 := qFI hs (b.getD x default).Box.X (b.getD x default).Box.Y (b.getD x default).Box.Z
   have b2 := qFI hs (b.getD x default).Box.X (b.getD x default).Box.Y (qCY (b.getD x default).Box.Z w.Trim)
   have b3 := qFI hs (b.getD x default).Box.X (b.getD x default).Box.Y (qFC (b.getD x default).Box.Z w.Trim (zX s))
   have g := hg _ (RJ hx)
   obtain ⟨z1, z2, z3⟩ := g.z
   have gw := g.wth
   have eb : brdV s (b.getD x default) = volS s (b.getD x default).Box.X (b.getD x default).Box.Y (b.getD x default).Box.Z := rfl
   have et : trmV s w.Trim (b.getD x default) = volS s (b.getD x default).Box.X (b.getD x default).Box.Y (qCY (b.getD x default).Box.Z w.Trim) + volS s (b.getD x default).Box.X (b.getD x default).Box.Y (qFC (b.getD x default).Box.Z w.Trim (zX s)) := rfl
   refine ⟨?_, by simp only; rw [eb, et]; omega⟩
   simp only
   rw [YM, decide_eq_true (show (x : Int) < _ by simp only; omega), zA (by omega) (by simp only; omega), zJ (by omega)]
   unfold JP
   simp only [cond_true, Int.toNat_natCast, Option.bind_some, SU hs]
   rw [qN (n := (b.getD x default).Box.Z.A - w.Trim) (by omega) (by omega), qN (n := (b.getD x default).Box.Z.B + w.Trim) (by omega) (by omega)]
   rw [eb, et]
   unfold qCY qFC at *
   rw [qN (n := 1000000 * (b.getD x default).Worth) (by omega) (by omega), qN (n := q.1 + _) (by omega) (by omega), qN (n := q.2.1 + _) (by omega) (by omega), qN (n := q.2.1 + _ + _) (by omega) (by omega), qN (n := q.2.2 + _) (by omega) (by omega), Int.add_assoc])
  (fun n q _ => by rw [YM]; simp) (i := 0) rfl (0, dd, 0) (by simp only; omega)
 rw [qEM (brdV s) (trmV s w.Trim) (fun c => 1000000 * c.Worth)] at k1
 simp only [Int.zero_add] at k1
 exact ⟨k1.1, k1.2.1, by have := k1.2.2.1; omega, k1.2.2.2⟩
/-- What becomes of a log. -/
def yB (s : List qF) (d : List Defect) (p : List Product) (pt : Pattern) (w : Saw) (fine : Int) : Int := sumL (brdV s) (bds s d p pt w fine)
def yD (s : List qF) (d : List Defect) (p : List Product) (pt : Pattern) (w : Saw) (fine : Int) : Int := OY s (ctP pt w.Kerf) + sumL (trmV s w.Trim) (bds s d p pt w fine)
def yW (s : List qF) (d : List Defect) (p : List Product) (pt : Pattern) (w : Saw) (fine : Int) : Int := sumL (fun c : Yield_Cut => 1000000 * c.Worth) (bds s d p pt w fine)
def yC (s : List qF) (d : List Defect) (p : List Product) (pt : Pattern) (w : Saw) (fine : Int) : Int := volT s - yB s d p pt w fine - yD s d p pt w fine
def qIl (s : List qF) (d : List Defect) (p : List Product) (pt : Pattern) (w : Saw) (t : Rates) : Yield :=
 ⟨volT s, yB s d p pt w t.Fine, yC s d p pt w t.Fine, yD s d p pt w t.Fine, yW s d p pt w t.Fine + (t.Chip * yC s d p pt w t.Fine + t.Dust * yD s d p pt w t.Fine)⟩
theorem bds_len (h : VY s d p pt w t) (fine : Int) : (bds s d p pt w fine).length ≤ 127 := by
 have := qBD (s := s) (d := d) (p := p) w.Step fine (lvP pt w.Kerf) 0
 have := h.parts.ll
 unfold bds; omega
theorem qJW (h : VY s d p pt w t) : ∀ c ∈ bds s d p pt w t.Fine, qFz s c := fun c hc => (qHs h.pr h.vw.fine.1 (qHG h) c hc).1
structure YBnd (s : List qF) (d : List Defect) (p : List Product) (pt : Pattern) (w : Saw) (fine : Int) : Prop where
 nB : 0 ≤ yB s d p pt w fine ∧ yB s d p pt w fine ≤ 28800000000 * 127
 nD : 0 ≤ yD s d p pt w fine ∧ yD s d p pt w fine ≤ 28800000000 * 127 + 57600000000 * 127
 nW : 0 ≤ yW s d p pt w fine ∧ yW s d p pt w fine ≤ 1000000000000 * 127
theorem Of_ok (h : VY s d p pt w t) : GS s d p pt w t = some (qIl s d p pt w t, 0) ∧ YBnd s d p pt w t.Fine := by
 have lb := bds_len h t.Fine
 have lc := h.parts.lc
 have ev : valL s = s := HH h.sol
 obtain ⟨e1, c1, c2⟩ := qJz h.sol (ct := ctP pt w.Kerf) (by omega) 0 (volT s)
 obtain ⟨e2, b1, b2, b3⟩ := qJn (w := w) h.sol h.vw.trim (b := bds s d p pt w t.Fine) (by omega) (qJW h) 0 (volT s) (OY s (ctP pt w.Kerf)) (by omega)
 have bd : YBnd s d p pt w t.Fine := ⟨by unfold yB; omega, by unfold yD; omega, by unfold yW; omega⟩
 refine ⟨?_, bd⟩
 unfold GS
 rw [qAo, qAS.2 h, qIG h, Cuts_eq, if_pos h.any, (qAH s).1, ev, qIR h.sol]
 simp only [Option.bind_some, bne_self_eq_false, cond_false, e1, e2]
 have bv := volT_b h.sol
 have bb := bd.nB
 have b4 := bd.nD
 have b5 := bd.nW
 have eC : w64 (w64 (volT s - sumL (brdV s) (bds s d p pt w t.Fine)) - (OY s (ctP pt w.Kerf) + sumL (trmV s w.Trim) (bds s d p pt w t.Fine))) = yC s d p pt w t.Fine := by
  unfold yC yB yD at *
  rw [qN (n := volT s - _) (by omega) (by omega), qN (by omega) (by omega)]
 rw [eC]
 have hC : -28800000000 * 1000 ≤ yC s d p pt w t.Fine ∧ yC s d p pt w t.Fine ≤ 28800000000 * 1000 := by unfold yC; omega
 have m1 := SY (a := t.Chip) (b := yC s d p pt w t.Fine) (m := 1000) (n := 28800000000 * 1000) (by have := h.vw.chip; omega) (by have := h.vw.chip; omega) (by omega) hC.2 (by omega) (by omega)
 have m2 := SY (a := t.Dust) (b := yD s d p pt w t.Fine) (m := 1000) (n := 28800000000 * 1000) (by have := h.vw.dust; omega) (by have := h.vw.dust; omega) (by omega) (by omega) (by omega) (by omega)
 show some ((⟨volT s, yB s d p pt w t.Fine, _, yD s d p pt w t.Fine, w64 (yW s d p pt w t.Fine + w64 (w64 (t.Chip * yC s d p pt w t.Fine) + w64 (t.Dust * yD s d p pt w t.Fine)))⟩ : Yield), (0 : Int)) = _
 rw [qN (n := t.Chip * _) (by omega) (by omega), qN (n := t.Dust * _) (by omega) (by omega), qN (n := t.Chip * _ + _) (by omega) (by omega), qN (by omega) (by omega)]
 rfl
theorem qIM (h : ¬ VY s d p pt w t) : GS s d p pt w t = some (⟨0, 0, 0, 0, 0⟩, chkY s d p pt w t) ∧ chkY s d p pt w t ≠ 0 := by
 have hc : ¬ chkY s d p pt w t = 0 := fun e => h (qAS.1 e)
 refine ⟨?_, hc⟩
 unfold GS
 rw [qAo]
 have : (chkY s d p pt w t != 0) = true := by simpa using hc
 simp only [Option.bind_some, this, cond_true]
end Go.SL.Saw

namespace Go.SL
namespace Saw
theorem DV : YP = some true := by kernel_rfl
end Saw
end Go.SL
