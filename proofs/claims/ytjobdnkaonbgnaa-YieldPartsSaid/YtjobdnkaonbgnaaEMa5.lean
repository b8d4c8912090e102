/- Patterns: the checks, the leaves and the cuts are those of the trees. -/
import Derived.Test.YtjobdnkaonbgnaaEMa1
import Derived.Test.YtjobdnkaonbgnaaEMa4
import Derived.Test.YtjobdnkaonbgnaaEMod
set_option linter.unusedVariables false
set_option linter.unusedSimpArgs false
namespace Go.SL.Saw
def bdAny (_ : Rect) (a : Int) : Int := if a < 0 ∨ 16 ≤ a then 8 else 0
def bdCat (l : List Product) (r : Rect) (a : Int) : Int := if a < 0 ∨ (l.length : Int) ≤ a then 8 else bif dimOk r (l.getD a.toNat default) then 0 else 20
theorem any_eq (r : Rect) (a : Int) : WZ r a = some (bdAny r a) := by
 unfold WZ JL bdAny
 by_cases h1 : a < 0
 ·rw [decide_eq_true h1, if_pos (.inl h1)]; rfl
 ·by_cases h2 : 16 ≤ a
  ·rw [decide_eq_false h1, decide_eq_true (show a ≥ 16 from h2), if_pos (.inr h2)]; rfl
  ·rw [decide_eq_false h1, decide_eq_false (show ¬ a ≥ 16 from h2), if_neg (by omega)]; rfl
theorem qI8 {s : Span} (h : WS s) : lenS s = s.B - s.A := by
 unfold lenS empS
 obtain ⟨h1, h2, h3⟩ := h
 by_cases e : s.B ≤ s.A
 ·rw [decide_eq_true e]; simp; omega
 ·rw [decide_eq_false e]; simp
theorem cat_eq {r : Rect} (hw : WR r) (a : Int) (l : List Product) : YA r a l = some (bdCat l r a) := by
 unfold YA bdCat
 have k : ∀ b, jX r a l b = bif b then some 8 else jX r a l false := fun b => by cases b <;> rfl
 by_cases h1 : a < 0
 ·rw [decide_eq_true h1, if_pos (.inl h1)]; rfl
 ·rw [decide_eq_false h1, cond_false]
  by_cases h2 : (l.length : Int) ≤ a
  ·rw [decide_eq_true (show a ≥ _ from h2), if_pos (.inr h2)]; rfl
  ·rw [decide_eq_false (show ¬ a ≥ _ from h2), if_neg (by omega)]
   unfold jX
   rw [cond_false, qY (by omega) (by omega), cond_true, (qCL _).1, GD (by have := hw.1; unfold WS at this; omega), GD (by have := hw.2; unfold WS at this; omega), qI8 hw.1, qI8 hw.2]
   simp only [Option.bind_some]
   unfold dimOk wU
   simp only [bne]
   generalize (wM (l.getD a.toNat default)).1 = g1
   generalize (wM (l.getD a.toNat default)).2 = g2
   generalize r.X.B - r.X.A = x
   generalize r.Y.B - r.Y.A = y
   cases x == g1 <;> cases x == g2 <;> cases y == g1 <;> cases y == g2 <;> rfl
theorem qBb (n : Node) (x : Pattern_place) : yY n x = some (chkN (fun _ _ => 0) n x) := by
 have k : ∀ b, wE n x b = some (if b = true then 10 else if 64 < x.level then 28 else if ripB n.Kind = true ∧ (n.At ≤ (alP x.rect n.Kind).A ∨ (alP x.rect n.Kind).B ≤ n.At) then 20 else 0) := by
  intro b
  unfold wE
  cases b with
  | true => rfl
  | false =>
   simp only [cond_false, qCm, qGz, Option.bind_some, Bool.false_eq_true, if_false]
   by_cases h2 : x.level > 64
   ·rw [decide_eq_true h2, if_pos (show 64 < x.level from h2)]; rfl
   ·rw [decide_eq_false h2, if_neg (show ¬ 64 < x.level from h2), cond_false]
    cases hr : ripB n.Kind with
    | false => simp [yK]
    | true =>
     simp only [cond_true, true_and]
     unfold WD yK
     by_cases h3 : n.At ≤ (alP x.rect n.Kind).A
     ·rw [decide_eq_true h3, if_pos (.inl h3)]; rfl
     ·by_cases h4 : (alP x.rect n.Kind).B ≤ n.At
      ·rw [decide_eq_false h3, decide_eq_true (show n.At ≥ _ from h4), if_pos (.inr h4)]; rfl
      ·rw [decide_eq_false h3, decide_eq_false (show ¬ n.At ≥ _ from h4), if_neg (by omega)]; rfl
 unfold yY chkN
 simp only [k]
 have e0 : ∀ b : Bool, (if n.Kind = 1 then (0 : Int) else 0) = 0 := fun _ => by split <;> rfl
 rw [e0 true]
 by_cases h1 : n.Kind < 0
 ·rw [decide_eq_true h1, if_pos (c := n.Kind < 0 ∨ 3 < n.Kind ∨ (n.Kind = 0 ∧ n.At ≠ 0)) (.inl h1)]; rfl
 ·by_cases h2 : n.Kind > 3
  ·rw [decide_eq_false h1, decide_eq_true h2, if_pos (c := n.Kind < 0 ∨ 3 < n.Kind ∨ (n.Kind = 0 ∧ n.At ≠ 0)) (.inr (.inl h2))]; rfl
  ·rw [decide_eq_false h1, decide_eq_false h2, cond_false, cond_false]
   by_cases h3 : n.Kind = 0
   ·have e3 : (n.Kind == 0) = true := by simpa using h3
    rw [e3, cond_true]
    by_cases h4 : n.At = 0
    ·have e4 : (n.At != 0) = false := by simpa using h4
     rw [e4, if_neg (c := n.Kind < 0 ∨ 3 < n.Kind ∨ (n.Kind = 0 ∧ n.At ≠ 0)) (by omega)]; rfl
    ·have e4 : (n.At != 0) = true := by simpa using h4
     rw [e4, if_pos (c := n.Kind < 0 ∨ 3 < n.Kind ∨ (n.Kind = 0 ∧ n.At ≠ 0)) (by omega)]; rfl
   ·have e3 : (n.Kind == 0) = false := by simpa using h3
    rw [e3, cond_false, if_neg (c := n.Kind < 0 ∨ 3 < n.Kind ∨ (n.Kind = 0 ∧ n.At ≠ 0)) (by omega)]; rfl
theorem qH3 (bd : Rect → Int → Int) (n : Node) (x : Pattern_place) : chkN bd n x = if chkN (fun _ _ => 0) n x ≠ 0 then chkN (fun _ _ => 0) n x else if n.Kind = 1 then bd x.rect n.At else 0 := by
 unfold chkN
 split
 ·rfl
 ·split
  ·rfl
  ·split
   ·rfl
   ·split <;> simp
abbrev RdC := Int → Pattern_place → Int × Int → Option (Nat × Int × Int)
/-- A round of the check. -/
def qF4 (f : RdC) (bd : Rect → Int → Int) (nodes : List Node) : Prop :=
 ∀ (i : Nat) (x : Pattern_place) (s : Int × Int), WR x.rect → i < 1000000 →
  f (i : Int) x s = some (if nodes.length ≤ i then (1, 3, s.2) else if chkN bd (nodes.getD i default) x ≠ 0 then (1, chkN bd (nodes.getD i default) x, s.2) else (0, s.1, (i : Int) + 1))
def finC (nodes : List Node) (v : Nat × Int × Int) : Option Int := bif Nat.beq v.1 0 then (bif decide (v.2.2 < ((nodes.length : Nat) : Int)) then some 4 else some 0) else bif Nat.beq v.1 1 then some v.2.1 else none
theorem qIc {f : RdC} {bd : Rect → Int → Int} {nodes : List Node} (hf : qF4 f bd nodes) {kerf : Int} (hk : 0 ≤ kerf ∧ kerf ≤ 20) (hn : nodes.length ≤ 1000) :
  ∀ (ns : List Node) (i : Nat) (st : List Pattern_place) (r : Int), nodes.drop i = ns → i ≤ nodes.length → (∀ x ∈ st, WR x.rect) →
   ∃ v, runP f kerf ns (i : Int) st (r, (i : Int)) = some v ∧ finC nodes v = some (chkP bd kerf ns st)
 | [], i, [], r, hd, hi, _ => by
  have hil : nodes.length ≤ i := by have := congrArg List.length hd; simp at this; omega
  refine ⟨(0, r, (i : Int)), rfl, ?_⟩
  unfold finC
  rw [decide_eq_false (by simp; omega)]; rfl
 | n :: ns, i, [], r, hd, hi, _ => by
  have hil : i < nodes.length := by
   rcases Nat.lt_or_ge i nodes.length with h | h
   ·exact h
   ·rw [List.drop_eq_nil_of_le h] at hd; cases hd
  refine ⟨(0, r, (i : Int)), rfl, ?_⟩
  unfold finC
  rw [decide_eq_true (by simp; omega)]; rfl
 | [], i, x :: st, r, hd, hi, hw => by
  have hil : nodes.length ≤ i := by have := congrArg List.length hd; simp at this; omega
  refine ⟨(1, 3, (i : Int)), ?_, rfl⟩
  show f (i : Int) x (r, (i : Int)) = _
  rw [hf i x _ (hw x List.mem_cons_self) (by omega), if_pos hil]
 | n :: ns, i, x :: st, r, hd, hi, hw => by
  have hil : i < nodes.length := by
   rcases Nat.lt_or_ge i nodes.length with h | h
   ·exact h
   ·rw [List.drop_eq_nil_of_le h] at hd; cases hd
  have hg : nodes.getD i default = n := by
   have h0 := congrArg (fun l => l.getD 0 default) hd
   simpa [List.getD_eq_getElem?_getD] using h0
  have hd2 : nodes.drop (i + 1) = ns := by
   have h0 := congrArg List.tail hd
   simpa using h0
  show ∃ v, ((f (i : Int) x (r, (i : Int))).bind fun v => bif Nat.beq v.1 0 then runP f kerf ns ((i : Int) + 1) (pushP kerf n x st) v.2 else some v) = some v ∧ finC nodes v = some (if chkN bd n x ≠ 0 then chkN bd n x else chkP bd kerf ns (pushP kerf n x st))
  rw [hf i x _ (hw x List.mem_cons_self) (by omega), if_neg (by omega), hg]
  by_cases c : chkN bd n x = 0
  ·rw [if_neg (by simpa using c), if_neg (by simpa using c)]
   have hp : ∀ y ∈ pushP kerf n x st, WR y.rect := by
    intro y hy
    unfold pushP at hy
    cases hr : ripB n.Kind with
    | false => rw [hr, cond_false] at hy; exact hw y (List.mem_cons_of_mem _ hy)
    | true =>
     rw [hr, cond_true] at hy
     have c3 := (cut3 hr (hw x List.mem_cons_self) (qHV hr c) hk).1
     rcases List.mem_cons.1 hy with rfl | hy
     ·exact c3.wf
     ·rcases List.mem_cons.1 hy with rfl | hy
      ·exact c3.ws
      ·exact hw y (List.mem_cons_of_mem _ hy)
   exact qIc hf hk hn ns (i + 1) (pushP kerf n x st) r hd2 hil hp
  ·rw [if_pos c, if_pos c]
   exact ⟨_, rfl, rfl⟩
theorem VR_WR {r : Rect} (h : VR r) : WR r := ⟨⟨h.1.1, by have := h.1.2; omega, h.1.2.2⟩, h.2.1, by have := h.2.2; omega, h.2.2.2⟩
/-- The first error of a pattern. -/
def ZG (bd : Rect → Int → Int) (p : Pattern) (kerf : Int) : Int :=
 if ¬ VR p.Frame then 19 else if kerf < 0 ∨ 20 < kerf then 9 else if 127 < p.Nodes.length then 4 else chkP bd kerf p.Nodes [⟨p.Frame, 1⟩]
theorem qHU {f : RdC} {bd : Rect → Int → Int} {p : Pattern} (hf : qF4 f bd p.Nodes) {kerf : Int} (hv : VR p.Frame) (hk : 0 ≤ kerf ∧ kerf ≤ 20) (hn : p.Nodes.length ≤ 127) :
  (runP f kerf p.Nodes 0 [⟨p.Frame, 1⟩] (0, 0)).bind (finC p.Nodes) = some (chkP bd kerf p.Nodes [⟨p.Frame, 1⟩]) := by
 obtain ⟨v, e1, e2⟩ := qIc hf hk (by omega) p.Nodes 0 [⟨p.Frame, 1⟩] 0 rfl (Nat.zero_le _) (fun x hx => by simp at hx; subst hx; exact VR_WR hv)
 have e1' : runP f kerf p.Nodes 0 [⟨p.Frame, 1⟩] (0, 0) = some v := e1
 rw [e1']; exact e2
theorem qJk (p : Pattern) (l : List Product) : qF4 (fun i x s => wO i x p l s.1 s.2) (bdCat l) p.Nodes := by
 intro i x s hw hi
 simp only
 unfold wO ZC QZ
 by_cases h : p.Nodes.length ≤ i
 ·rw [decide_eq_true (by simp; omega), if_pos h]; rfl
 ·rw [decide_eq_false (by simp; omega), if_neg h, cond_false, qY (by omega) (by omega), cond_true, Int.toNat_natCast, qBb, qH3 (bdCat l)]
  simp only [Option.bind_some, cat_eq hw]
  by_cases c : chkN (fun _ _ => 0) (p.Nodes.getD i default) x = 0
  ·rw [c]
   simp only [ne_eq, not_true_eq_false, if_false, beq_self_eq_true, cond_true]
   by_cases c1 : (p.Nodes.getD i default).Kind = 1
   ·have e1 : ((p.Nodes.getD i default).Kind == 1) = true := by simpa using c1
    rw [e1, cond_true, if_pos c1]
    by_cases c2 : bdCat l x.rect (p.Nodes.getD i default).At = 0
    ·rw [c2]; simp [qN (n := (i : Int) + 1) (by omega) (by omega)]
    ·have e2 : (bdCat l x.rect (p.Nodes.getD i default).At != 0) = true := by simpa using c2
     rw [e2, if_pos c2]; rfl
   ·have e1 : ((p.Nodes.getD i default).Kind == 1) = false := by simpa using c1
    rw [e1, cond_false, if_neg c1]; simp [qN (n := (i : Int) + 1) (by omega) (by omega)]
  ·have e1 : (chkN (fun _ _ => 0) (p.Nodes.getD i default) x == 0) = false := by simpa using c
   have e2 : (chkN (fun _ _ => 0) (p.Nodes.getD i default) x != 0) = true := by simpa using c
   rw [e1, cond_false, cond_false, e2, cond_true, if_pos c, if_pos c]
theorem qJH (p : Pattern) : qF4 (fun i x s => zV i x p s.1 s.2) bdAny p.Nodes := by
 intro i x s hw hi
 simp only
 unfold zV yF yE
 by_cases h : p.Nodes.length ≤ i
 ·rw [decide_eq_true (by simp; omega), if_pos h]; rfl
 ·rw [decide_eq_false (by simp; omega), if_neg h, cond_false, qY (by omega) (by omega), cond_true, Int.toNat_natCast, qBb, qH3 bdAny]
  simp only [Option.bind_some, any_eq]
  by_cases c : chkN (fun _ _ => 0) (p.Nodes.getD i default) x = 0
  ·rw [c]
   simp only [ne_eq, not_true_eq_false, if_false, beq_self_eq_true, cond_true]
   by_cases c1 : (p.Nodes.getD i default).Kind = 1
   ·have e1 : ((p.Nodes.getD i default).Kind == 1) = true := by simpa using c1
    rw [e1, cond_true, if_pos c1]
    by_cases c2 : bdAny x.rect (p.Nodes.getD i default).At = 0
    ·rw [c2]; simp [qN (n := (i : Int) + 1) (by omega) (by omega)]
    ·have e2 : (bdAny x.rect (p.Nodes.getD i default).At != 0) = true := by simpa using c2
     rw [e2, if_pos c2]; rfl
   ·have e1 : ((p.Nodes.getD i default).Kind == 1) = false := by simpa using c1
    rw [e1, cond_false, if_neg c1]; simp [qN (n := (i : Int) + 1) (by omega) (by omega)]
  ·have e1 : (chkN (fun _ _ => 0) (p.Nodes.getD i default) x == 0) = false := by simpa using c
   have e2 : (chkN (fun _ _ => 0) (p.Nodes.getD i default) x != 0) = true := by simpa using c
   rw [e1, cond_false, cond_false, e2, cond_true, if_pos c, if_pos c]
theorem qHD (p : Pattern) (l : List Product) (kerf : Int) : PO p l kerf = some (ZG (bdCat l) p kerf) := by
 have k : ∀ b, QN p kerf l b = bif b then some 9 else QN p kerf l false := fun b => by cases b <;> rfl
 unfold PO GO ZG
 rw [isFrame_eq]
 simp only [Option.bind_some]
 by_cases hv : VR p.Frame
 ·rw [decide_eq_true hv, if_neg (by simpa using hv)]
  simp only [Bool.not_true, cond_false]
  by_cases h1 : kerf < 0
  ·rw [decide_eq_true h1, if_pos (.inl h1)]; rfl
  ·by_cases h2 : kerf > 20
   ·rw [decide_eq_false h1, decide_eq_true h2, if_pos (.inr h2)]; rfl
   ·rw [decide_eq_false h1, decide_eq_false h2, if_neg (by omega), cond_false]
    unfold QN wN
    rw [cond_false]
    by_cases h3 : 127 < p.Nodes.length
    ·rw [decide_eq_true (show ((p.Nodes.length : Nat) : Int) > 127 by omega), if_pos h3]; rfl
    ·rw [decide_eq_false (show ¬ ((p.Nodes.length : Nat) : Int) > 127 by omega), if_neg h3, cond_false]
     simp only [Option.bind_some]
     rw [qIM _ _ _ _ _ _ (by omega)]
     have := qHU (qJk p l) hv (kerf := kerf) (by omega) (by omega)
     unfold finC at this
     rw [this]; rfl
 ·rw [decide_eq_false hv, if_pos (by simpa using hv)]; rfl
theorem qFm (p : Pattern) (kerf : Int) : QU p kerf = some (ZG bdAny p kerf) := by
 unfold QU ZG
 rw [isFrame_eq]
 simp only [Option.bind_some]
 by_cases hv : VR p.Frame
 ·rw [decide_eq_true hv, if_neg (by simpa using hv)]
  simp only [Bool.not_true, cond_false]
  by_cases h1 : kerf < 0
  ·rw [decide_eq_true h1, if_pos (.inl h1)]; rfl
  ·by_cases h2 : kerf > 20
   ·rw [decide_eq_false h1, decide_eq_true h2, if_pos (.inr h2)]; rfl
   ·rw [decide_eq_false h1, decide_eq_false h2, if_neg (by omega), cond_false]
    unfold JM wN
    rw [cond_false]
    by_cases h3 : 127 < p.Nodes.length
    ·rw [decide_eq_true (show ((p.Nodes.length : Nat) : Int) > 127 by omega), if_pos h3]; rfl
    ·rw [decide_eq_false (show ¬ ((p.Nodes.length : Nat) : Int) > 127 by omega), if_neg h3, cond_false]
     simp only [Option.bind_some]
     rw [qIT _ _ _ _ _ (by omega)]
     have := qHU (qJH p) hv (kerf := kerf) (by omega) (by omega)
     unfold finC at this
     rw [this]
 ·rw [decide_eq_false hv, if_pos (by simpa using hv)]; rfl
/-- A walk that gathers. -/
theorem qEu {α : Type} {g : Node → Pattern_place → List α} (hg1 : ∀ n x, (g n x).length ≤ 1) {bd : Rect → Int → Int} {nodes : List Node} {f : Int → Pattern_place → List α → Option (Nat × List α)} {kerf : Int} (hn : nodes.length ≤ 1000)
  (hf : ∀ (i : Nat) (x : Pattern_place) (s : List α), i < nodes.length → s.length ≤ 1000 → f (i : Int) x s = some (0, s ++ g (nodes.getD i default) x)) :
  ∀ (ns : List Node) (i : Nat) (st : List Pattern_place) (s : List α), nodes.drop i = ns → i ≤ nodes.length → s.length ≤ i → chkP bd kerf ns st = 0 → runP f kerf ns (i : Int) st s = some (0, s ++ allP g kerf ns st)
 | [], i, [], s, _, _, _, _ => by simp [runP, allP]
 | n :: ns, i, [], s, _, _, _, h => by simp [chkP] at h
 | [], i, x :: st, s, _, _, _, h => by simp [chkP] at h
 | n :: ns, i, x :: st, s, hd, hi, hs, h => by
  have hil : i < nodes.length := by
   rcases Nat.lt_or_ge i nodes.length with h | h
   ·exact h
   ·rw [List.drop_eq_nil_of_le h] at hd; cases hd
  have hgn : nodes.getD i default = n := by
   have h0 := congrArg (fun l => l.getD 0 default) hd
   simpa [List.getD_eq_getElem?_getD] using h0
  have hd2 : nodes.drop (i + 1) = ns := by
   have h0 := congrArg List.tail hd
   simpa using h0
  have h' : chkP bd kerf ns (pushP kerf n x st) = 0 := by
   unfold chkP at h
   split at h
   ·rename_i c; exact (c h).elim
   ·exact h
  show ((f (i : Int) x s).bind fun v => bif Nat.beq v.1 0 then runP f kerf ns ((i : Int) + 1) (pushP kerf n x st) v.2 else some v) = _
  rw [hf i x s hil (by omega), hgn]
  have e := qEu hg1 (bd := bd) hn hf ns (i + 1) (pushP kerf n x st) (s ++ g n x) hd2 hil (by have := hg1 n x; simp; omega) h'
  show runP f kerf ns ((i : Int) + 1) (pushP kerf n x st) (s ++ g n x) = _
  rw [show ((i : Int) + 1) = ((i + 1 : Nat) : Int) by omega, e, List.append_assoc]
  rfl
theorem leafG1 (n : Node) (x : Pattern_place) : (HS n x).length ≤ 1 := by unfold HS; split <;> (try split) <;> simp
theorem cutG1 (kerf : Int) (n : Node) (x : Pattern_place) : (cutG kerf n x).length ≤ 1 := by unfold cutG; split <;> simp
theorem RD {bd : Rect → Int → Int} {p : Pattern} {kerf : Int} : ZG bd p kerf = 0 ↔ VR p.Frame ∧ (0 ≤ kerf ∧ kerf ≤ 20) ∧ p.Nodes.length ≤ 127 ∧ chkP bd kerf p.Nodes [⟨p.Frame, 1⟩] = 0 := by
 unfold ZG
 by_cases hv : VR p.Frame
 ·rw [if_neg (by simpa using hv)]
  by_cases h1 : kerf < 0 ∨ 20 < kerf
  ·rw [if_pos h1]; constructor
   ·intro h; cases h
   ·rintro ⟨_, h, _⟩; omega
  ·rw [if_neg h1]
   by_cases h3 : 127 < p.Nodes.length
   ·rw [if_pos h3]; constructor
    ·intro h; cases h
    ·rintro ⟨_, _, h, _⟩; omega
   ·rw [if_neg h3]; constructor
    ·intro h; exact ⟨hv, by omega, by omega, h⟩
    ·rintro ⟨_, _, _, h⟩; exact h
 ·rw [if_pos (by simpa using hv)]; constructor
  ·intro h; cases h
  ·rintro ⟨h, _⟩; exact (hv h).elim
def lvP (p : Pattern) (kerf : Int) : List Leaf := allP HS kerf p.Nodes [⟨p.Frame, 1⟩]
def ctP (p : Pattern) (kerf : Int) : List Rect := allP (cutG kerf) kerf p.Nodes [⟨p.Frame, 1⟩]
theorem qJi (p : Pattern) (kerf : Int) : XZ p kerf = some (if ZG bdAny p kerf = 0 then (lvP p kerf, 0) else ([], ZG bdAny p kerf)) := by
 unfold XZ
 rw [qFm]
 simp only [Option.bind_some]
 by_cases h : ZG bdAny p kerf = 0
 ·have hz := RD.1 h
  rw [if_pos h, h]
  unfold wN
  simp only [bne_self_eq_false, cond_false, Option.bind_some]
  rw [qIO _ _ _ _ (by omega)]
  have e := qEu leafG1 (bd := bdAny) (kerf := kerf) (nodes := p.Nodes) (f := fun i x (s : List Leaf) => wG i x p s) (by omega) (by
   intro i x s hi hs
   unfold wG HS
   rw [qY (by omega) (by omega), cond_true, Int.toNat_natCast, BC (by omega) (by omega)]
   by_cases c0 : (p.Nodes.getD i default).Kind = 0
   ·have e0 : ((p.Nodes.getD i default).Kind == 0) = true := by simpa using c0
    rw [e0, if_pos c0]; rfl
   ·have e0 : ((p.Nodes.getD i default).Kind == 0) = false := by simpa using c0
    rw [e0, if_neg c0, cond_false]
    by_cases c1 : (p.Nodes.getD i default).Kind = 1
    ·have e1 : ((p.Nodes.getD i default).Kind == 1) = true := by simpa using c1
     rw [e1, if_pos c1]; rfl
    ·have e1 : ((p.Nodes.getD i default).Kind == 1) = false := by simpa using c1
     rw [e1, if_neg c1, cond_false, List.append_nil]) p.Nodes 0 [⟨p.Frame, 1⟩] [] rfl (Nat.zero_le _) (Nat.zero_le _) hz.2.2.2
  rw [show (0 : Int) = ((0 : Nat) : Int) from rfl, e]
  rfl
 ·have h' : (ZG bdAny p kerf != 0) = true := by simpa using h
  rw [if_neg h, h']; rfl
theorem Cuts_eq (p : Pattern) (kerf : Int) : TZ p kerf = some (if ZG bdAny p kerf = 0 then (ctP p kerf, 0) else ([], ZG bdAny p kerf)) := by
 unfold TZ
 rw [qFm]
 simp only [Option.bind_some]
 by_cases h : ZG bdAny p kerf = 0
 ·have hz := RD.1 h
  rw [if_pos h, h]
  unfold wN
  simp only [bne_self_eq_false, cond_false, Option.bind_some]
  rw [qIF _ _ _ _ _ (by omega)]
  have e := qEu (cutG1 kerf) (bd := bdAny) (kerf := kerf) (nodes := p.Nodes) (f := fun i x (s : List Rect) => wV i x p kerf s) (by omega) (by
   intro i x s hi hs
   unfold wV cutG
   rw [qY (by omega) (by omega), cond_true, Int.toNat_natCast, qCm, BC (by omega) (by omega)]
   simp only [Option.bind_some, qHg]
   cases c0 : ripB (p.Nodes.getD i default).Kind
   ·simp
   ·simp) p.Nodes 0 [⟨p.Frame, 1⟩] [] rfl (Nat.zero_le _) (Nat.zero_le _) hz.2.2.2
  rw [show (0 : Int) = ((0 : Nat) : Int) from rfl, e]
  rfl
 ·have h' : (ZG bdAny p kerf != 0) = true := by simpa using h
  rw [if_neg h, h']; rfl
end Go.SL.Saw

namespace Go.SL.Saw
theorem qJB (s : qI) {A m B : Int} (y : Span) (h1 : A ≤ m) (h2 : m ≤ B) : zM s ⟨A, m⟩ y + zM s ⟨m, B⟩ y = zM s ⟨A, B⟩ y := by
 unfold zM
 rw [← qGR]
 refine qDk (fun r _ _ => ?_)
 rw [← qGx (row s r) h1 h2, Int.add_mul]
theorem qI9 (s : qI) {A m B : Int} (x : Span) (h1 : A ≤ m) (h2 : m ≤ B) : zM s x ⟨A, m⟩ + zM s x ⟨m, B⟩ = zM s x ⟨A, B⟩ := by
 unfold zM
 rw [← qGR]
 refine qDk (fun r _ _ => ?_)
 rw [← qGx (hgt r) h1 h2, Int.mul_add]
theorem vol_aX (l : List qF) {A m B : Int} (y z : Span) (h1 : A ≤ m) (h2 : m ≤ B) : volS l ⟨A, m⟩ y z + volS l ⟨m, B⟩ y z = volS l ⟨A, B⟩ y z := by
 unfold volS
 rw [← OZ]
 refine PA (fun i _ => ?_)
 rw [← qJB _ y h1 h2, Int.mul_add]
theorem vol_aY (l : List qF) {A m B : Int} (x z : Span) (h1 : A ≤ m) (h2 : m ≤ B) : volS l x ⟨A, m⟩ z + volS l x ⟨m, B⟩ z = volS l x ⟨A, B⟩ z := by
 unfold volS
 rw [← OZ]
 refine PA (fun i _ => ?_)
 rw [← qI9 _ x h1 h2, Int.mul_add]
theorem qDt (l : List qF) {A m B : Int} (x y : Span) (h1 : A ≤ m) (h2 : m ≤ B) : volS l x y ⟨A, m⟩ + volS l x y ⟨m, B⟩ = volS l x y ⟨A, B⟩ := by
 unfold volS
 rw [← OZ]
 refine PA (fun i _ => ?_)
 rw [← qGx (ext l i) h1 h2, Int.add_mul]
theorem qCW (l : List qF) (x y z : Span) : 0 ≤ volS l x y z := by
 unfold volS
 have := qEq (n := l.length) (f := fun _ => 0) (g := fun i => ml (ext l i) z * zM (l.getD i default).Sec x y) (fun i _ => Int.mul_nonneg (CR _ _) (AZ _ _ _))
 rw [LO (fun _ _ => rfl)] at this; exact this
theorem qKJ (l : List qF) (x y : Span) {A B : Int} (h : B ≤ A) : volS l x y ⟨A, B⟩ = 0 := by
 unfold volS
 refine LO (fun i _ => ?_)
 have : ml (ext l i) ⟨A, B⟩ = 0 := by
  rw [qGn]
  have a1 := imin_or (ext l i).B B
  have a2 := PY (ext l i).A A
  simp only
  split <;> omega
 rw [this, Int.zero_mul]
theorem qKo (l : List qF) (x y : Span) {A B C D : Int} (h1 : C ≤ A) (h2 : B ≤ D) : volS l x y ⟨A, B⟩ ≤ volS l x y ⟨C, D⟩ := by
 by_cases h : A ≤ B
 ·have e1 := qDt l x y h1 h
  have e2 := qDt l x y (show C ≤ B by omega) h2
  have := qCW l x y ⟨C, A⟩
  have := qCW l x y ⟨B, D⟩
  omega
 ·rw [qKJ l x y (by omega)]; exact qCW _ _ _ _
def WW (l : List qF) (r : Rect) : Int := volS l r.X r.Y ⟨0, zN l⟩
theorem qJD (l : List qF) : AddR (WW l) := ⟨fun y h1 h2 => vol_aX l y _ h1 h2, fun x h1 h2 => vol_aY l x _ h1 h2⟩
theorem qKS (l : List qF) (r : Rect) : 0 ≤ WW l r := qCW _ _ _ _
def volT (l : List qF) : Int := sumN l.length (fun i => (l.getD i default).Len * UZ (l.getD i default).Sec)
theorem qKM {l : List qF} (h : VSol l) (r : Rect) : WW l r ≤ volT l := by
 unfold WW volS volT
 refine qEq (fun i hi => ?_)
 have hlen := qHQ h hi
 have h1 := qF5 (ext l i) ⟨0, zN l⟩
 rw [hlen] at h1
 have h2 := qAG (l.getD i default).Sec r.X r.Y
 have h3 := AZ (l.getD i default).Sec r.X r.Y
 have h4 := CR (ext l i) ⟨0, zN l⟩
 have h5 := (h.at hi).2.2.1
 exact Int.mul_le_mul h1 h2 h3 (by omega)
theorem Area_eq (s : qI) : TI s = some (UZ (LB s)) := by
 have h := qHc s
 unfold TI
 rw [qHn s]
 simp only [Option.bind_some]
 generalize LB s = t at *
 have b := h.len
 have k1 := DZ t.Rows (fun n (a : Int) x => ZQ t n a x) (fun x => (x : Int)) (fun _ a s => s + lenS a) (fun s => s) (fun x s => 0 ≤ s ∧ s ≤ 1200 * (x : Int)) (by omega)
  (fun n x a hx hi => by
   have l := h.len_b hx
   refine ⟨?_, by omega⟩
   rw [ZQ, decide_eq_true (show (x : Int) < _ by omega), qY (by omega) (by omega), zJ (by omega)]
   simp only [cond_true, Int.toNat_natCast]
   rw [GD (by omega)]
   simp only [Option.bind_some]
   rw [qN (by omega) (by omega)])
  (fun n a _ => by rw [ZQ]; simp) (i := 0) rfl 0 (by omega)
 rw [AV (fun _ a => lenS a)] at k1
 have e := qHa h (fun _ a => lenS a) (fun _ => rfl)
 rw [e, Int.zero_add] at k1
 rw [k1.1]
 simp only [Option.bind_some]
 unfold UZ
 have := k1.2
 rw [qN (by omega) (by omega)]
theorem AF {l : List qF} (h : VSol l) : ∀ {k : Nat}, k ≤ l.length → 0 ≤ sumN k (fun i => (l.getD i default).Len * UZ (l.getD i default).Sec) ∧ sumN k (fun i => (l.getD i default).Len * UZ (l.getD i default).Sec) ≤ 1440000 * zH l k
 | 0, _ => by simp [sumN, zH]
 | k + 1, hk => by
  have ih := AF h (k := k) (by omega)
  have a := qG0 (h.at (i := k) (by omega)).1
  have b := (h.at (i := k) (by omega)).2.2.1
  have c := Int.mul_le_mul_of_nonneg_left a.2 (show 0 ≤ (l.getD k default).Len by omega)
  have d := Int.mul_nonneg (show 0 ≤ (l.getD k default).Len by omega) a.1
  rw [zR]
  show 0 ≤ sumN k _ + _ ∧ sumN k _ + _ ≤ _
  simp only at ih ⊢
  rw [Int.mul_add]
  constructor <;> omega
theorem qGE {l : List qF} (h : VSol l) : 0 ≤ volT l ∧ volT l ≤ 28800000000 := by
 have := AF h (Nat.le_refl _)
 have b := (h.bd (Nat.le_refl _)).2
 unfold volT
 have : (1440000 : Int) * zH l l.length ≤ 1440000 * 20000 := Int.mul_le_mul_of_nonneg_left b (by omega)
 omega
theorem qFa {l : List qF} (h : VSol l) : XX l = some (volT l) := by
 have hl := h.len
 unfold XX
 rw [qD6, HW h]
 simp only [Option.bind_some]
 have k1 := DZ l (fun n (a : Int) x => ZS l n a x) (fun x => (x : Int)) (fun _ a s => s + a.Len * UZ a.Sec) (fun s => s) (fun x s => s = sumN x (fun i => (l.getD i default).Len * UZ (l.getD i default).Sec)) (by omega)
  (fun n x a hx hi => by
   have p := AF h (k := x) (by omega)
   have p' := AF h (k := x + 1) (by omega)
   have b1 := (h.bd (i := x) (by omega)).2
   have b2 := (h.bd (i := x + 1) (by omega)).2
   have vs := (h.at hx).1
   have ar := qG0 vs
   have ln := (h.at hx).2.2.1
   have l2 : (l.getD x default).Len ≤ 20000 := by have := zR l x; have := (h.bd (i := x) (by omega)).1; omega
   have pr := Int.mul_le_mul l2 ar.2 ar.1 (by omega)
   have pn := Int.mul_nonneg (show 0 ≤ (l.getD x default).Len by omega) ar.1
   refine ⟨?_, by rw [hi]; rfl⟩
   rw [ZS, decide_eq_true (show (x : Int) < _ by omega), qY (by omega) (by omega), zJ (by omega)]
   simp only [cond_true, Int.toNat_natCast, Area_eq, Option.bind_some]
   rw [qCf vs]
   rw [qN (n := (l.getD x default).Len * UZ (l.getD x default).Sec) (by omega) (by omega), qN (by omega) (by omega)])
  (fun n a _ => by rw [ZS]; simp) (i := 0) rfl 0 rfl
 rw [k1.1, AV (fun _ (a : qF) => a.Len * UZ a.Sec), Int.zero_add]
 simp only [Option.bind_some, Nat.zero_add]
 rfl
end Go.SL.Saw

namespace Go.SL.Saw
theorem qIy {p : Product} (h : VP p) : 5 ≤ (wM p).1 ∧ (wM p).1 ≤ 721 ∧ 5 ≤ (wM p).2 ∧ (wM p).2 ≤ 600 := by
 have b := qJ6 p
 have g := h.gr
 have t := h.th
 have w := h.wd
 have a := h.al
 have e : okG p = true := qEy.2 ⟨by omega, by omega, a⟩
 have g1 := HY (n := p.Thick) (a := p.Allow) (by omega) (by omega) a.1 a.2
 have g2 := HY (n := p.Width) (a := p.Allow) (by omega) (by omega) a.1 a.2
 have eg : wM p = (AR p.Thick p.Allow, AR p.Width p.Allow) := by unfold wM; rw [e]; rfl
 rw [eg] at b g ⊢
 simp only at b g ⊢
 omega
noncomputable def chkY (s : List qF) (d : List Defect) (p : List Product) (pt : Pattern) (w : Saw) (t : Rates) : Int :=
 if GR s ≠ 0 then GR s else if LC d ≠ 0 then LC d else if yH p ≠ 0 then yH p else if OQ w t ≠ 0 then OQ w t else ZG (bdCat p) pt w.Kerf
structure VY (s : List qF) (d : List Defect) (p : List Product) (pt : Pattern) (w : Saw) (t : Rates) : Prop where
 sol : VSol s
 df : LC d = 0
 pr : yH p = 0
 vw : VW w t
 pat : ZG (bdCat p) pt w.Kerf = 0
theorem EV (s : List qF) (d : List Defect) (p : List Product) (pt : Pattern) (w : Saw) (t : Rates) : RB s d p pt w t = some (chkY s d p pt w t) := by
 unfold RB chkY
 simp only [(CQ s).1, qHo, qGa, qJY, qHD, Option.bind_some]
 have k : ∀ (n : Int) (a b : Option Int), (bif n != 0 then a else b) = if n ≠ 0 then a else b := by
  intro n a b
  by_cases h : n = 0
  ·rw [h]; rfl
  ·have : (n != 0) = true := by simpa using h
   rw [this, if_pos h]; rfl
 simp only [k]
 split
 ·rfl
 ·split
  ·rfl
  ·split
   ·rfl
   ·split <;> rfl
theorem LF {s : List qF} {d : List Defect} {p : List Product} {pt : Pattern} {w : Saw} {t : Rates} : chkY s d p pt w t = 0 ↔ VY s d p pt w t := by
 unfold chkY
 constructor
 ·intro h
  split at h
  ·rename_i c; exact (c h).elim
  ·rename_i c1
   split at h
   ·rename_i c; exact (c h).elim
   ·rename_i c2
    split at h
    ·rename_i c; exact (c h).elim
    ·rename_i c3
     split at h
     ·rename_i c; exact (c h).elim
     ·rename_i c4
      exact ⟨(BL s).1 (by simpa using c1), by simpa using c2, by simpa using c3, (OT w t).1 (by simpa using c4), h⟩
 ·rintro ⟨h1, h2, h3, h4, h5⟩
  rw [if_neg (by simpa using (BL s).2 h1), if_neg (by simpa using h2), if_neg (by simpa using h3), if_neg (by simpa using (OT w t).2 h4), h5]
variable {s : List qF} {d : List Defect} {p : List Product} {pt : Pattern} {w : Saw} {t : Rates}
theorem bd_any {p : List Product} (h : yH p = 0) (r : Rect) (a : Int) (hb : bdCat p r a = 0) : bdAny r a = 0 := by
 have hl := qI6 (l := p) (by simpa using h)
 unfold bdCat at hb
 unfold bdAny
 split at hb
 ·cases hb
 ·rw [if_neg (by omega)]
theorem VY.any (h : VY s d p pt w t) : ZG bdAny pt w.Kerf = 0 := by
 have hz := RD.1 h.pat
 obtain ⟨T, e1, e2⟩ := qGu hz.2.2.2
 rw [RD]
 refine ⟨hz.1, hz.2.1, hz.2.2.1, ?_⟩
 rw [e1]
 exact chkP_of (qCk (bd_any h.pr) e2)
/-- The tree of the pattern. -/
theorem VY.tree (h : VY s d p pt w t) : ∃ T, pt.Nodes = jW T ∧ okT (bdCat p) w.Kerf T ⟨pt.Frame, 1⟩ ∧ lvP pt w.Kerf = lvT w.Kerf T ⟨pt.Frame, 1⟩ ∧ ctP pt w.Kerf = ctT w.Kerf T ⟨pt.Frame, 1⟩ := by
 have hz := RD.1 h.pat
 obtain ⟨T, e1, e2⟩ := qGu hz.2.2.2
 refine ⟨T, e1, e2, ?_, ?_⟩
 ·unfold lvP lvT; rw [e1, qGh HS w.Kerf _ (ET e2)]
 ·unfold ctP ctT; rw [e1, qGh (cutG w.Kerf) w.Kerf _ (ET e2)]
theorem VY.parts (h : VY s d p pt w t) : Parts (bdCat p) pt.Frame (lvP pt w.Kerf) (ctP pt w.Kerf) 127 := by
 have hz := RD.1 h.pat
 obtain ⟨T, e1, e2, e3, e4⟩ := h.tree
 have q := qEz hz.2.1 T _ e2 (VR_WR hz.1)
 rw [e3, e4]
 have hl : (jW T).length ≤ 127 := by rw [← e1]; exact hz.2.2.1
 exact ⟨q.wl, q.wc, q.ap, by have := q.ll; omega, by have := q.lc; omega, q.sum⟩
/-- The board of a leaf. -/
def bdOf (s : List qF) (d : List Defect) (p : List Product) (step fine : Int) (i : Nat) (x : Leaf) : List Yield_Cut :=
 if x.Product = -1 then [] else
  bif (bestR s d (p.getD x.Product.toNat default) x.Rect step fine).2.1 then [⟨(i : Int), x.Product, ⟨x.Rect.X, x.Rect.Y, (bestR s d (p.getD x.Product.toNat default) x.Rect step fine).2.2⟩, (bestR s d (p.getD x.Product.toNat default) x.Rect step fine).1⟩] else []
def bdsFrom (s : List qF) (d : List Defect) (p : List Product) (step fine : Int) : Nat → List Leaf → List Yield_Cut
 | _, [] => []
 | i, x :: l => bdOf s d p step fine i x ++ bdsFrom s d p step fine (i + 1) l
theorem qCF (step fine : Int) (i : Nat) (x : Leaf) : (bdOf s d p step fine i x).length ≤ 1 := by
 unfold bdOf; split
 ·simp
 ·cases (bestR s d (p.getD x.Product.toNat default) x.Rect step fine).2.1 <;> simp
theorem qBP (step fine : Int) : ∀ (l : List Leaf) (i : Nat), (bdsFrom s d p step fine i l).length ≤ l.length
 | [], _ => Nat.le_refl _
 | x :: l, i => by
  have := qBP step fine l (i + 1)
  have := qCF (s := s) (d := d) (p := p) step fine i x
  simp [bdsFrom]; omega
/-- A leaf of a board. -/
structure OS (p : List Product) (x : Leaf) : Prop where
 w : WR x.Rect
 b : x.Product = -1 ∨ bdCat p x.Rect x.Product = 0
theorem qH1 {x : Leaf} (hp : yH p = 0) (h : OS p x) (hx : x.Product ≠ -1) : 0 ≤ x.Product ∧ x.Product < (p.length : Int) ∧ VP (p.getD x.Product.toNat default) ∧ yH [p.getD x.Product.toNat default] = 0 ∧ VR x.Rect ∧ dimOk x.Rect (p.getD x.Product.toNat default) = true := by
 have hb := h.b.resolve_left hx
 unfold bdCat at hb
 split at hb
 ·cases hb
 ·rename_i c
  have hd : dimOk x.Rect (p.getD x.Product.toNat default) = true := by
   cases hh : dimOk x.Rect (p.getD x.Product.toNat default) with
   | true => rfl
   | false => rw [hh] at hb; cases hb
  have hi : x.Product.toNat < p.length := by omega
  have hv := qKB hp hi
  refine ⟨by omega, by omega, hv, qJq hp hi, ?_, hd⟩
  have g := qIy hv
  obtain ⟨⟨x1, x2, x3⟩, y1, y2, y3⟩ := h.w
  unfold dimOk at hd
  simp only [Bool.or_eq_true, Bool.and_eq_true, beq_iff_eq] at hd
  refine ⟨⟨x1, ?_, x3⟩, y1, ?_, y3⟩ <;> omega
theorem qJx (hs : VSol s) (hd : LC d = 0) (hp : yH p = 0) (hw : 1 ≤ w.Step ∧ w.Step ≤ 20000) {fine : Int} (hf : 0 ≤ fine ∧ fine ≤ 1000000) {lv : List Leaf} (hl : lv.length ≤ 1000) (hg : ∀ x ∈ lv, OS p x) :
  QJ s d p w fine lv [] = some (0, bdsFrom s d p w.Step fine 0 lv) := by
 have key : ∀ (k i n : Nat) (acc : List Yield_Cut), i + k = lv.length → k < n → acc.length ≤ i → zD s d p w fine lv n (i : Int) acc = some (.inr (acc ++ bdsFrom s d p w.Step fine i (lv.drop i))) := by
  intro k
  induction k with
  | zero =>
   intro i n acc hi hn _
   obtain ⟨n, rfl⟩ : ∃ m, n = m + 1 := ⟨n - 1, by omega⟩
   unfold zD
   rw [decide_eq_false (by omega), List.drop_eq_nil_of_le (by omega)]
   simp [bdsFrom]
  | succ k ih =>
   intro i n acc hi hn ha
   obtain ⟨n, rfl⟩ : ∃ m, n = m + 1 := ⟨n - 1, by omega⟩
   have hil : i < lv.length := by omega
   unfold zD
   rw [decide_eq_true (by omega), qY (by omega) (by omega), qA0 lv i hil]
   have hx := hg _ (KJ hil)
   unfold ZD
   rw [zJ (by omega)]
   simp only [cond_true, Int.toNat_natCast, bdsFrom]
   unfold bdOf
   by_cases c : (lv.getD i default).Product = -1
   ·have e : ((lv.getD i default).Product != -1) = false := by simpa using c
    rw [e, if_pos c, cond_false, ih (i + 1) n acc (by omega) (by omega) (by omega)]
    rfl
   ·have e : ((lv.getD i default).Product != -1) = true := by simpa using c
    obtain ⟨g1, g2, g3, g4, g5, _⟩ := qH1 hp hx c
    rw [e, if_neg c, cond_true]
    unfold YQ YC
    rw [qY g1 g2, cond_true, qKG hs hd g4 g3 g5 hw hf]
    simp only [Option.bind_some]
    rw [BC (by omega) (by omega)]
    cases hb : (bestR s d (p.getD (lv.getD i default).Product.toNat default) (lv.getD i default).Rect w.Step fine).2.1 with
    | false =>
     simp only [cond_false, Option.bind_some]
     show zD s d p w fine lv n ((i + 1 : Nat) : Int) acc = _
     rw [ih (i + 1) n acc (by omega) (by omega) (by omega)]
     rfl
    | true =>
     simp only [cond_true, Option.bind_some]
     show zD s d p w fine lv n ((i + 1 : Nat) : Int) _ = _
     rw [ih (i + 1) n _ (by omega) (by omega) (by simp; omega)]
     simp
 unfold QJ
 have e := key lv.length 0 FUEL [] (by omega) (by rw [WM]; omega) (Nat.le_refl _)
 rw [show (0 : Int) = ((0 : Nat) : Int) from rfl, e]
 simp
/-- The boards of a log. -/
def bds (s : List qF) (d : List Defect) (p : List Product) (pt : Pattern) (w : Saw) (fine : Int) : List Yield_Cut := bdsFrom s d p w.Step fine 0 (lvP pt w.Kerf)
theorem VW.fine0 (h : VW w t) : VW w ⟨0, 0, t.Fine⟩ := ⟨h.kerf, h.trim, h.pitch, h.step, by simp, by simp, h.fine⟩
theorem OI (h : VY s d p pt w t) : ∀ x ∈ lvP pt w.Kerf, OS p x := fun x hx => ⟨(h.parts.wl x hx).1, (h.parts.wl x hx).2.2⟩
theorem qAs (h : VY s d p pt w t) : ZH s d p pt w t.Fine = some (bds s d p pt w t.Fine, 0) := by
 have hv : VY s d p pt w ⟨0, 0, t.Fine⟩ := ⟨h.sol, h.df, h.pr, h.vw.fine0, h.pat⟩
 unfold ZH
 rw [EV, LF.2 hv, qJi, if_pos h.any]
 simp only [Option.bind_some, bne_self_eq_false, cond_false]
 unfold YZ
 simp only [Option.bind_some]
 rw [qJx h.sol h.df h.pr h.vw.step h.vw.fine (by have := h.parts.ll; omega) (OI h)]
 rfl
theorem qIr {fine : Int} (h : ¬ VY s d p pt w ⟨0, 0, fine⟩) : ∃ e, e ≠ 0 ∧ ZH s d p pt w fine = some ([], e) ∧ e = chkY s d p pt w ⟨0, 0, fine⟩ := by
 refine ⟨chkY s d p pt w ⟨0, 0, fine⟩, fun e => h (LF.1 e), ?_, rfl⟩
 unfold ZH
 rw [EV]
 have : (chkY s d p pt w ⟨0, 0, fine⟩ != 0) = true := by
  have : ¬ chkY s d p pt w ⟨0, 0, fine⟩ = 0 := fun e => h (LF.1 e)
  simpa using this
 simp only [Option.bind_some, this, cond_true]
end Go.SL.Saw

namespace Go.SL.Saw
variable {s : List qF} {d : List Defect} {p : List Product} {pt : Pattern} {w : Saw} {t : Rates}
def qA8 (z : Span) (trim : Int) : Span := ⟨imax 0 (z.A - trim), z.A⟩
def qCR (z : Span) (trim len : Int) : Span := ⟨z.B, imin (z.B + trim) len⟩
def brdV (s : List qF) (c : Yield_Cut) : Int := volS s c.Box.X c.Box.Y c.Box.Z
def trmV (s : List qF) (trim : Int) (c : Yield_Cut) : Int := volS s c.Box.X c.Box.Y (qA8 c.Box.Z trim) + volS s c.Box.X c.Box.Y (qCR c.Box.Z trim (zN s))
/-- A board that a log can give. -/
structure qDc (s : List qF) (c : Yield_Cut) : Prop where
 z : 0 ≤ c.Box.Z.A ∧ c.Box.Z.A < c.Box.Z.B ∧ c.Box.Z.B ≤ zN s
 wth : 0 ≤ c.Worth ∧ c.Worth ≤ 1000000
theorem qB4 (hp : yH p = 0) {step fine : Int} (hf : 0 ≤ fine) {i : Nat} {x : Leaf} (hx : OS p x) {c : Yield_Cut} (h : c ∈ bdOf s d p step fine i x) : qDc s c ∧ c.Leaf = (i : Int) ∧ c.Box.X = x.Rect.X ∧ c.Box.Y = x.Rect.Y ∧ c.Product = x.Product ∧ x.Product ≠ -1 := by
 unfold bdOf at h
 split at h
 ·exact (List.not_mem_nil h).elim
 ·rename_i c0
  obtain ⟨_, _, g3, _, _, _⟩ := qH1 hp hx c0
  have bi := qKA (l := s) (ds := d) (p := p.getD x.Product.toNat default) (r := x.Rect) (step := step) (fine := fine) hf g3
  cases hb : (bestR s d (p.getD x.Product.toNat default) x.Rect step fine).2.1 with
  | false => rw [hb, cond_false] at h; exact (List.not_mem_nil h).elim
  | true =>
   rw [hb, cond_true] at h
   simp at h
   subst h
   exact ⟨⟨bi.2.2 hb, bi.1, bi.2.1⟩, rfl, rfl, rfl, rfl, c0⟩
theorem qBj (hp : yH p = 0) {step fine : Int} (hf : 0 ≤ fine) : ∀ {lv : List Leaf} {i : Nat}, (∀ x ∈ lv, OS p x) → ∀ c ∈ bdsFrom s d p step fine i lv, qDc s c ∧ (i : Int) ≤ c.Leaf ∧ ∃ x ∈ lv, c.Box.X = x.Rect.X ∧ c.Box.Y = x.Rect.Y ∧ c.Product = x.Product ∧ x.Product ≠ -1
 | [], _, _, c, hc => (List.not_mem_nil hc).elim
 | x :: l, i, hg, c, hc => by
  rcases List.mem_append.1 hc with hc | hc
  ·obtain ⟨a, b, e⟩ := qB4 hp hf (hg x List.mem_cons_self) hc
   exact ⟨a, by omega, x, List.mem_cons_self, e⟩
  ·obtain ⟨a, b, y, hy, e⟩ := qBj hp hf (fun y hy => hg y (List.mem_cons_of_mem _ hy)) c hc
   exact ⟨a, by omega, y, List.mem_cons_of_mem _ hy, e⟩
theorem qGI (hp : yH p = 0) {step fine : Int} (hf : 0 ≤ fine) : ∀ {lv : List Leaf} {i : Nat}, (∀ x ∈ lv, OS p x) → (lv.Pairwise fun a b => UJ a.Rect b.Rect) → (bdsFrom s d p step fine i lv).Pairwise fun a b => a.Leaf < b.Leaf ∧ UJ ⟨a.Box.X, a.Box.Y⟩ ⟨b.Box.X, b.Box.Y⟩
 | [], _, _, _ => List.Pairwise.nil
 | x :: l, i, hg, hp2 => by
  obtain ⟨h1, h2⟩ := List.pairwise_cons.1 hp2
  refine List.pairwise_append.2 ⟨?_, qGI hp hf (fun y hy => hg y (List.mem_cons_of_mem _ hy)) h2, ?_⟩
  ·have := qCF (s := s) (d := d) (p := p) step fine i x
   match hm : bdOf s d p step fine i x with
   | [] => exact List.Pairwise.nil
   | [a] => simp
   | a :: b :: l => rw [hm] at this; simp at this
  ·intro a ha b hb
   obtain ⟨_, a2, a3, a4, _⟩ := qB4 hp hf (hg x List.mem_cons_self) ha
   obtain ⟨_, b2, y, hy, b3, b4, _⟩ := qBj hp hf (fun y hy => hg y (List.mem_cons_of_mem _ hy)) b hb
   refine ⟨by omega, ?_⟩
   have := h1 y hy
   unfold UJ at this ⊢
   rw [a3, a4, b3, b4]
   exact this
def CF (s : List qF) (ct : List Rect) : Int := sumL (WW s) ct
theorem OO {α : Type} (F : α → Int) : ∀ (l : List α) (x : Nat) (s : Int), RV (fun _ a s => s + F a) x l s = s + sumL F l
 | [], _, s => by simp [RV, sumL]
 | a :: l, x, s => by
  show RV _ (x + 1) l (s + F a) = _
  rw [OO F l (x + 1) (s + F a), KO]; omega
theorem qFA {α : Type} (F G H : α → Int) : ∀ (l : List α) (x : Nat) (s : Int × Int × Int), RV (fun _ a s => (s.1 + F a, s.2.1 + G a, s.2.2 + H a)) x l s = (s.1 + sumL F l, s.2.1 + sumL G l, s.2.2 + sumL H l)
 | [], _, s => by simp [RV, sumL]
 | a :: l, x, s => by
  show RV _ (x + 1) l (s.1 + F a, s.2.1 + G a, s.2.2 + H a) = _
  rw [qFA F G H l (x + 1) _, KO, KO, KO]
  simp only [Int.add_assoc]
theorem whole_b (h : VSol s) (r : Rect) : 0 ≤ WW s r ∧ WW s r ≤ 28800000000 := qC4 h _ _ _
theorem qKT (hs : VSol s) {ct : List Rect} (hl : ct.length ≤ 1000) (e v : Int) : YU s (ct, e) (zN s) v FUEL 0 0 = some ⟨v, 0, 0, CF s ct, 0⟩ ∧ 0 ≤ CF s ct ∧ CF s ct ≤ 28800000000 * ct.length := by
 have k1 := DZ ct (fun n (a : Int) x => YU s (ct, e) (zN s) v n x a) (fun x => (x : Int)) (fun _ a s' => s' + WW s a) (fun q => (⟨v, 0, 0, q, 0⟩ : Yield)) (fun x q => 0 ≤ q ∧ q ≤ 28800000000 * (x : Int)) (by omega)
  (fun n x a hx hi => by
   have b := whole_b hs (ct.getD x default)
   refine ⟨?_, by omega⟩
   rw [YU, decide_eq_true (show (x : Int) < _ by simp only; omega), qY (by omega) (by simp only; omega), zJ (by omega)]
   unfold YC
   simp only [cond_true, Int.toNat_natCast, Option.bind_some, ST hs]
   unfold WW at *
   rw [qN (by omega) (by omega)])
  (fun n a _ => by rw [YU]; simp) (i := 0) rfl 0 (by omega)
 rw [OO (WW s), Int.zero_add] at k1
 exact ⟨k1.1, k1.2⟩
theorem qKf (hs : VSol s) (ht : 0 ≤ w.Trim ∧ w.Trim ≤ 20) {b : List Yield_Cut} (hl : b.length ≤ 1000) (hg : ∀ c ∈ b, qDc s c) (e v dd : Int) (hd : 0 ≤ dd ∧ dd ≤ 28800000000 * 1000) :
  YT s w (b, e) (zN s) ⟨v, 0, 0, dd, 0⟩ FUEL 0 0 dd 0 = some ⟨v, sumL (brdV s) b, 0, dd + sumL (trmV s w.Trim) b, sumL (fun c => 1000000 * c.Worth) b⟩
   ∧ (0 ≤ sumL (brdV s) b ∧ sumL (brdV s) b ≤ 28800000000 * b.length) ∧ (0 ≤ sumL (trmV s w.Trim) b ∧ sumL (trmV s w.Trim) b ≤ 57600000000 * b.length) ∧ (0 ≤ sumL (fun c : Yield_Cut => 1000000 * c.Worth) b ∧ sumL (fun c : Yield_Cut => 1000000 * c.Worth) b ≤ 1000000000000 * b.length) := by
 have sl := qGZ hs
 have k1 := DZ b (fun n (q : Int × Int × Int) x => YT s w (b, e) (zN s) ⟨v, 0, 0, dd, 0⟩ n x q.1 q.2.1 q.2.2) (fun x => (x : Int)) (fun _ a q => (q.1 + brdV s a, q.2.1 + trmV s w.Trim a, q.2.2 + 1000000 * a.Worth)) (fun q => (⟨v, q.1, 0, q.2.1, q.2.2⟩ : Yield))
  (fun x q => (0 ≤ q.1 ∧ q.1 ≤ 28800000000 * (x : Int)) ∧ (dd ≤ q.2.1 ∧ q.2.1 ≤ dd + 57600000000 * (x : Int)) ∧ (0 ≤ q.2.2 ∧ q.2.2 ≤ 1000000000000 * (x : Int))) (by omega)
  (fun n x q hx hi => by
   have b1 := qC4 hs (b.getD x default).Box.X (b.getD x default).Box.Y (b.getD x default).Box.Z
   have b2 := qC4 hs (b.getD x default).Box.X (b.getD x default).Box.Y (qA8 (b.getD x default).Box.Z w.Trim)
   have b3 := qC4 hs (b.getD x default).Box.X (b.getD x default).Box.Y (qCR (b.getD x default).Box.Z w.Trim (zN s))
   have g := hg _ (KJ hx)
   obtain ⟨z1, z2, z3⟩ := g.z
   have gw := g.wth
   have eb : brdV s (b.getD x default) = volS s (b.getD x default).Box.X (b.getD x default).Box.Y (b.getD x default).Box.Z := rfl
   have et : trmV s w.Trim (b.getD x default) = volS s (b.getD x default).Box.X (b.getD x default).Box.Y (qA8 (b.getD x default).Box.Z w.Trim) + volS s (b.getD x default).Box.X (b.getD x default).Box.Y (qCR (b.getD x default).Box.Z w.Trim (zN s)) := rfl
   refine ⟨?_, by simp only; rw [eb, et]; omega⟩
   simp only
   rw [YT, decide_eq_true (show (x : Int) < _ by simp only; omega), qY (by omega) (by simp only; omega), zJ (by omega)]
   unfold YC
   simp only [cond_true, Int.toNat_natCast, Option.bind_some, ST hs]
   rw [qN (n := (b.getD x default).Box.Z.A - w.Trim) (by omega) (by omega), qN (n := (b.getD x default).Box.Z.B + w.Trim) (by omega) (by omega)]
   rw [eb, et]
   unfold qA8 qCR at *
   rw [qN (n := 1000000 * (b.getD x default).Worth) (by omega) (by omega), qN (n := q.1 + _) (by omega) (by omega), qN (n := q.2.1 + _) (by omega) (by omega), qN (n := q.2.1 + _ + _) (by omega) (by omega), qN (n := q.2.2 + _) (by omega) (by omega), Int.add_assoc])
  (fun n q _ => by rw [YT]; simp) (i := 0) rfl (0, dd, 0) (by simp only; omega)
 rw [qFA (brdV s) (trmV s w.Trim) (fun c => 1000000 * c.Worth)] at k1
 simp only [Int.zero_add] at k1
 exact ⟨k1.1, k1.2.1, by have := k1.2.2.1; omega, k1.2.2.2⟩
/-- What becomes of a log. -/
def yB (s : List qF) (d : List Defect) (p : List Product) (pt : Pattern) (w : Saw) (fine : Int) : Int := sumL (brdV s) (bds s d p pt w fine)
def yD (s : List qF) (d : List Defect) (p : List Product) (pt : Pattern) (w : Saw) (fine : Int) : Int := CF s (ctP pt w.Kerf) + sumL (trmV s w.Trim) (bds s d p pt w fine)
def yW (s : List qF) (d : List Defect) (p : List Product) (pt : Pattern) (w : Saw) (fine : Int) : Int := sumL (fun c : Yield_Cut => 1000000 * c.Worth) (bds s d p pt w fine)
def yC (s : List qF) (d : List Defect) (p : List Product) (pt : Pattern) (w : Saw) (fine : Int) : Int := volT s - yB s d p pt w fine - yD s d p pt w fine
def qDS (s : List qF) (d : List Defect) (p : List Product) (pt : Pattern) (w : Saw) (t : Rates) : Yield :=
 ⟨volT s, yB s d p pt w t.Fine, yC s d p pt w t.Fine, yD s d p pt w t.Fine, yW s d p pt w t.Fine + (t.Chip * yC s d p pt w t.Fine + t.Dust * yD s d p pt w t.Fine)⟩
theorem qHZ (h : VY s d p pt w t) (fine : Int) : (bds s d p pt w fine).length ≤ 127 := by
 have := qBP (s := s) (d := d) (p := p) w.Step fine (lvP pt w.Kerf) 0
 have := h.parts.ll
 unfold bds; omega
theorem qKn (h : VY s d p pt w t) : ∀ c ∈ bds s d p pt w t.Fine, qDc s c := fun c hc => (qBj h.pr h.vw.fine.1 (OI h) c hc).1
structure YBnd (s : List qF) (d : List Defect) (p : List Product) (pt : Pattern) (w : Saw) (fine : Int) : Prop where
 nB : 0 ≤ yB s d p pt w fine ∧ yB s d p pt w fine ≤ 28800000000 * 127
 nD : 0 ≤ yD s d p pt w fine ∧ yD s d p pt w fine ≤ 28800000000 * 127 + 57600000000 * 127
 nW : 0 ≤ yW s d p pt w fine ∧ yW s d p pt w fine ≤ 1000000000000 * 127
theorem Of_ok (h : VY s d p pt w t) : GT s d p pt w t = some (qDS s d p pt w t, 0) ∧ YBnd s d p pt w t.Fine := by
 have lb := qHZ h t.Fine
 have lc := h.parts.lc
 have ev : valL s = s := HW h.sol
 obtain ⟨e1, c1, c2⟩ := qKT h.sol (ct := ctP pt w.Kerf) (by omega) 0 (volT s)
 obtain ⟨e2, b1, b2, b3⟩ := qKf (w := w) h.sol h.vw.trim (b := bds s d p pt w t.Fine) (by omega) (qKn h) 0 (volT s) (CF s (ctP pt w.Kerf)) (by omega)
 have bd : YBnd s d p pt w t.Fine := ⟨by unfold yB; omega, by unfold yD; omega, by unfold yW; omega⟩
 refine ⟨?_, bd⟩
 unfold GT
 rw [EV, LF.2 h, qAs h, Cuts_eq, if_pos h.any, (qAt s).1, ev, qFa h.sol]
 simp only [Option.bind_some, bne_self_eq_false, cond_false, e1, e2]
 have bv := qGE h.sol
 have bb := bd.nB
 have b4 := bd.nD
 have b5 := bd.nW
 have eC : w64 (w64 (volT s - sumL (brdV s) (bds s d p pt w t.Fine)) - (CF s (ctP pt w.Kerf) + sumL (trmV s w.Trim) (bds s d p pt w t.Fine))) = yC s d p pt w t.Fine := by
  unfold yC yB yD at *
  rw [qN (n := volT s - _) (by omega) (by omega), qN (by omega) (by omega)]
 rw [eC]
 have hC : -28800000000 * 1000 ≤ yC s d p pt w t.Fine ∧ yC s d p pt w t.Fine ≤ 28800000000 * 1000 := by unfold yC; omega
 have m1 := AK (a := t.Chip) (b := yC s d p pt w t.Fine) (m := 1000) (n := 28800000000 * 1000) (by have := h.vw.chip; omega) (by have := h.vw.chip; omega) (by omega) hC.2 (by omega) (by omega)
 have m2 := AK (a := t.Dust) (b := yD s d p pt w t.Fine) (m := 1000) (n := 28800000000 * 1000) (by have := h.vw.dust; omega) (by have := h.vw.dust; omega) (by omega) (by omega) (by omega) (by omega)
 show some ((⟨volT s, yB s d p pt w t.Fine, _, yD s d p pt w t.Fine, w64 (yW s d p pt w t.Fine + w64 (w64 (t.Chip * yC s d p pt w t.Fine) + w64 (t.Dust * yD s d p pt w t.Fine)))⟩ : Yield), (0 : Int)) = _
 rw [qN (n := t.Chip * _) (by omega) (by omega), qN (n := t.Dust * _) (by omega) (by omega), qN (n := t.Chip * _ + _) (by omega) (by omega), qN (by omega) (by omega)]
 rfl
theorem qJy (h : ¬ VY s d p pt w t) : GT s d p pt w t = some (⟨0, 0, 0, 0, 0⟩, chkY s d p pt w t) ∧ chkY s d p pt w t ≠ 0 := by
 have hc : ¬ chkY s d p pt w t = 0 := fun e => h (LF.1 e)
 refine ⟨?_, hc⟩
 unfold GT
 rw [EV]
 have : (chkY s d p pt w t != 0) = true := by simpa using hc
 simp only [Option.bind_some, this, cond_true]
end Go.SL.Saw

namespace Go.SL
namespace Saw
theorem SH : PW = some true := by kernel_rfl
end Saw
end Go.SL
