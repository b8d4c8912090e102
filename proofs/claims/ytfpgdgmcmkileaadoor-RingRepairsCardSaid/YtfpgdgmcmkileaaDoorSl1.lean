/- A symbolic logic over the model: abstract cells, memory maps, representation, and what keeps it. -/
import Derived.Below
import Derived.Orders
import Derived.LoopN
import Derived.Laws.AppendOwn
import Derived.Laws.MakeOwn
import Derived.KernelRfl
import Derived.Laws.Entries
set_option linter.unusedVariables false
set_option linter.unusedSimpArgs false
namespace Go.SL
open Go.RowKit

/-- What one cell is known to hold. 'own': a slice over an object of the call's own; 'bptr', 'rptr': pointers into such objects; a pair (id, k) names an object at its version k. -/
inductive C where
  | val (v : Value)
  | emp
  | lst (n : Nat) (f : Nat → List C)
  | own (id k sz len : Nat)
  | bptr (id k j : Nat)
  | rptr (id k sz i j : Nat)
  | lptr (cs : List C)
  | aptr (n sz : Nat) (f : Nat → List C)
  | unk

/-- Which object lies in which block, at which version; 'A': the blocks in which immutable data may lie. -/
structure Mem where
  ver : Nat → Option Nat
  blk : Nat → Option Nat
  A : Nat → Prop

def Mem.owns (M : Mem) (b : Nat) : Prop := ∃ id k, M.ver id = some k ∧ M.blk id = some b

/-- Immutable data: what never changes while it is looked at. -/
inductive IRep (w : World) (ok : Nat → Prop) : C → Value → Prop
  | val (v : Value) (h : v.oneCell' = true) : IRep w ok (.val v) v
  | emp (a : Option Addr) : IRep w ok .emp (.slice a 0 0)
  | lst0 (a : Option Addr) (f : Nat → List C) : IRep w ok (.lst 0 f) (.slice a 0 0)
  | lst (b o n cap sz : Nat) (f : Nat → List C) (g : Nat → Nat → Value) (hn : n ≤ cap) (hm : cap ≤ maxLen) (hl : ∀ i, i < n → (f i).length = sz)
      (hb : ∀ i j, i < n → j < sz → ok b)
      (hc : ∀ i j, i < n → j < sz → w.cell? ⟨b, o + (i * sz + j), none⟩ = some (g i j))
      (hr : ∀ i j, i < n → j < sz → IRep w ok ((f i).getD j .unk) (g i j)) : IRep w ok (.lst n f) (.slice (some ⟨b, o, none⟩) n cap)
  | lptr (b o : Nat) (cs : List C) (g : Nat → Value) (hb : ∀ j, j < cs.length → ok b)
      (hc : ∀ j, j < cs.length → w.cell? ⟨b, o + j, none⟩ = some (g j))
      (hr : ∀ j, j < cs.length → IRep w ok (cs.getD j .unk) (g j)) : IRep w ok (.lptr cs) (.pointer (some ⟨b, o, none⟩))
  | aptr (b o n sz : Nat) (f : Nat → List C) (g : Nat → Nat → Value) (hl : ∀ i, i < n → (f i).length = sz)
      (hb : ∀ i j, i < n → j < sz → ok b)
      (hc : ∀ i j, i < n → j < sz → w.cell? ⟨b, o + (i * sz + j), none⟩ = some (g i j))
      (hr : ∀ i j, i < n → j < sz → IRep w ok ((f i).getD j .unk) (g i j)) : IRep w ok (.aptr n sz f) (.pointer (some ⟨b, o, none⟩))

theorem IRep.cell {w : World} {ok : Nat → Prop} {c : C} {v : Value} (h : IRep w ok c v) : v.oneCell' = true := by
  cases h <;> first | assumption | rfl

theorem IRep.val_eq {w : World} {ok : Nat → Prop} {x v : Value} (h : IRep w ok (.val x) v) : v = x := by
  generalize hc : C.val x = c at h
  cases h <;> cases hc
  rfl

/-- From one world to another in which the blocks that may be looked at are as they were. -/
theorem IRep.move {w w' : World} {ok ok' : Nat → Prop} (hh : ∀ b, ok b → b < w.heap.size → w'.heap[b]? = w.heap[b]?) (hk : ∀ b, ok b → b < w.heap.size → ok' b)
    {c : C} {v : Value} (h : IRep w ok c v) : IRep w' ok' c v := by
  have cellmv : ∀ (b o : Nat) (x : Value), ok b → w.cell? ⟨b, o, none⟩ = some x → w'.cell? ⟨b, o, none⟩ = some x := fun b o x hb hx => by
    rw [← hx]; exact World.cell?_of_block (hh b hb (World.block_lt_of_cell? w _ hx))
  induction h with
  | val v h => exact .val v h
  | emp a => exact .emp a
  | lst0 a f => exact .lst0 a f
  | lst b o n cap sz f g hn hm hl hb hc _ ih =>
    exact .lst b o n cap sz f g hn hm hl (fun i j hi hj => hk b (hb i j hi hj) (World.block_lt_of_cell? w _ (hc i j hi hj))) (fun i j hi hj => cellmv _ _ _ (hb i j hi hj) (hc i j hi hj)) ih
  | lptr b o cs g hb hc _ ih =>
    exact .lptr b o cs g (fun j hj => hk b (hb j hj) (World.block_lt_of_cell? w _ (hc j hj))) (fun j hj => cellmv _ _ _ (hb j hj) (hc j hj)) ih
  | aptr b o n sz f g hl hb hc _ ih =>
    exact .aptr b o n sz f g hl (fun i j hi hj => hk b (hb i j hi hj) (World.block_lt_of_cell? w _ (hc i j hi hj))) (fun i j hi hj => cellmv _ _ _ (hb i j hi hj) (hc i j hi hj)) ih

def Mem.imm (M : Mem) (b : Nat) : Prop := M.A b ∧ ¬ M.owns b

def CRep (w : World) (M : Mem) : C → Value → Prop
  | .own id k sz len, v => (len = 0 ∧ ∃ a, v = .slice a 0 0) ∨
      ∃ b cap, v = .slice (some ⟨b, 0, none⟩) len cap ∧ len ≤ cap ∧ cap ≤ maxLen ∧ (M.ver id = some k → M.blk id = some b ∧ ∃ arr e, w.heap[b]? = some (.cells arr e (0, 0)) ∧ arr.size = cap * sz)
  | .bptr id k j, v => ∃ b, v = .pointer (some ⟨b, j, none⟩) ∧ (M.ver id = some k → M.blk id = some b)
  | .rptr id k sz i j, v => ∃ b, v = .pointer (some ⟨b, i * sz + j, none⟩) ∧ (M.ver id = some k → M.blk id = some b)
  | .unk, v => v.oneCell' = true
  | c, v => IRep w M.imm c v

theorem CRep.cell {w : World} {M : Mem} {c : C} {v : Value} (h : CRep w M c v) : v.oneCell' = true := by
  cases c with
  | own id k sz len => rcases h with ⟨_, a, rfl⟩ | ⟨_, _, rfl, _⟩ <;> rfl
  | bptr id k j => obtain ⟨_, rfl, _⟩ := h; rfl
  | rptr id k sz i j => obtain ⟨_, rfl, _⟩ := h; rfl
  | unk => exact h
  | _ => exact IRep.cell h

inductive V1 where
  | one (c : C)
  | agg (cs : List C)

inductive V where
  | any
  | undef
  | v (x : V1)
  | tup (xs : List V1)

def CsRep (w : World) (M : Mem) (cs : List C) (vs : Array Value) : Prop := vs.size = cs.length ∧ ∀ j, j < cs.length → CRep w M (cs.getD j .unk) (vs.getD j undef)

def V1Rep (w : World) (M : Mem) : V1 → Value → Prop
  | .one c, v => CRep w M c v
  | .agg cs, v => ∃ vs : Array Value, v = .agg vs ∧ CsRep w M cs vs

def VRep (w : World) (M : Mem) : V → Value → Prop
  | .any, _ => True
  | .undef, v => v = Go.undef
  | .v x, v => V1Rep w M x v
  | .tup xs, v => ∃ vs : Array Value, v = .tuple vs ∧ vs.size = xs.length ∧ ∀ j, j < xs.length → V1Rep w M (xs.getD j (.one .unk)) (vs.getD j Go.undef)

/-- An object of the call's own: a box (a variable's cells), or a row of elements. -/
inductive O where
  | box (e : TypeId) (cs : List C)
  | row (e : TypeId) (sz n : Nat) (f : Nat → List C)

def ORep (w : World) (M : Mem) (id k : Nat) : O → Prop
  | .box e cs => M.ver id = some k ∧ ∃ b arr, M.blk id = some b ∧ w.heap[b]? = some (.cells arr e (0, 0)) ∧ CsRep w M cs arr
  | .row e sz n f => M.ver id = some k ∧ ((M.blk id = none ∧ n = 0) ∨ ∃ b arr, M.blk id = some b ∧ w.heap[b]? = some (.cells arr e (0, 0)) ∧ n * sz ≤ arr.size ∧
      ∀ i, i < n → (f i).length = sz ∧ ∀ j, j < sz → IRep w M.imm ((f i).getD j .unk) (arr.getD (i * sz + j) undef))

theorem ORep.ver {w : World} {M : Mem} {id k : Nat} {o : O} (h : ORep w M id k o) : M.ver id = some k := by
  cases o <;> exact h.1

def look {β : Type} (s : Nat) : List (Nat × β) → Option β
  | [] => none
  | (k, x) :: r => bif Nat.beq k s then some x else look s r

theorem look_cons {β : Type} (s k : Nat) (x : β) (r : List (Nat × β)) : look s ((k, x) :: r) = if k = s then some x else look s r := by
  by_cases h : k = s
  · subst h; simp [look]
  · have : Nat.beq k s = false := by cases hb : Nat.beq k s with | false => rfl | true => exact absurd (Nat.eq_of_beq_eq_true hb) h
    simp [look, h, this]

theorem look_append {β : Type} (s : Nat) (l r : List (Nat × β)) : look s (l ++ r) = (look s l).or (look s r) := by
  induction l with
  | nil => rfl
  | cons p l ih =>
    obtain ⟨k, x⟩ := p
    simp only [List.cons_append, look_cons, ih]
    split <;> simp

theorem look_mem {β : Type} {s : Nat} {x : β} : ∀ {l : List (Nat × β)}, look s l = some x → (s, x) ∈ l
  | (k, y) :: r, h => by
    rw [look_cons] at h
    split at h
    · rename_i hk; subst hk; cases h; exact List.mem_cons_self
    · exact List.mem_cons_of_mem _ (look_mem h)

structure St where
  slots : List (Nat × V)
  objs : List (Nat × (Nat × O))

structure Ctx where
  P : Program
  w0 : World
  nt : Nat
  A : Nat → Prop
  globs : List (Nat × C)
  mixed : P.follows .mixedOrders = true
  glob : ∀ g c, look g globs = some c → IRep w0 A c (.pointer (some ⟨g, 0, none⟩))

structure Sim (K : Ctx) (M : Mem) (st : St) (a : Act) (w : World) : Prop where
  inj : ∀ i j k l b, M.ver i = some k → M.ver j = some l → M.blk i = some b → M.blk j = some b → i = j
  rng : ∀ i k b, M.ver i = some k → M.blk i = some b → K.w0.heap.size ≤ b ∧ b < w.heap.size
  below : Below K.w0.heap.size K.w0 w
  area : ∀ b, M.A b ↔ K.A b ∨ K.w0.heap.size ≤ b
  size : a.tmps.size = K.nt
  defers : a.defers = []
  slots : ∀ s x, look s st.slots = some x → VRep w M x (a.tmps.getD s undef)
  objs : ∀ i k o, look i st.objs = some (k, o) → ORep w M i k o

/-- One step of memory: 'wr': the objects that may be written or are new; 'nv': the pairs (object, version) that are new. -/
structure Ext (M : Mem) (w : World) (M' : Mem) (w' : World) (wr : Nat → Prop) (nv : Nat → Nat → Prop) : Prop where
  ver : ∀ i k, M'.ver i = some k → nv i k ∨ M.ver i = some k
  keep : ∀ i k, M.ver i = some k → ¬ wr i → M'.ver i = some k
  blk : ∀ i k, M'.ver i = some k → ¬ nv i k → M'.blk i = M.blk i
  fresh : ∀ i k b, nv i k → M'.ver i = some k → M'.blk i = some b → w.heap.size ≤ b ∨ (∃ k', M.ver i = some k' ∧ M.blk i = some b)
  inj : ∀ i j k l b, M'.ver i = some k → M'.ver j = some l → M'.blk i = some b → M'.blk j = some b → i = j
  rng : ∀ i k b, M'.ver i = some k → M'.blk i = some b → b < w'.heap.size
  heap : ∀ b, b < w.heap.size → (∀ i k, wr i → M.ver i = some k → M.blk i ≠ some b) → w'.heap[b]? = w.heap[b]?
  shape : ∀ (b : Nat) (arr : Array Value) (e : TypeId), w.heap[b]? = some (.cells arr e (0, 0)) → ∃ arr' : Array Value, w'.heap[b]? = some (.cells arr' e (0, 0)) ∧ arr'.size = arr.size
  size : w.heap.size ≤ w'.heap.size
  area : M'.A = M.A
  os : w'.os = w.os
  tape : w'.tape = w.tape
  output : w'.output = w.output

section
variable {M : Mem} {w : World} {M' : Mem} {w' : World} {wr : Nat → Prop} {nv : Nat → Nat → Prop}

theorem Ext.imm (h : Ext M w M' w' wr nv) {b : Nat} (hb : M.imm b) (hlt : b < w.heap.size) : M'.imm b := by
  refine ⟨by rw [h.area]; exact hb.1, ?_⟩
  rintro ⟨i, k, hd, hk⟩
  by_cases hi : nv i k
  · rcases h.fresh i k b hi hd hk with h1 | ⟨k', h1, h2⟩
    · omega
    · exact hb.2 ⟨i, k', h1, h2⟩
  · exact hb.2 ⟨i, k, (h.ver i k hd).resolve_left hi, by rw [← h.blk i k hd hi]; exact hk⟩

theorem Ext.irep (h : Ext M w M' w' wr nv) {c : C} {v : Value} (hr : IRep w M.imm c v) : IRep w' M'.imm c v :=
  hr.move (fun b hb hlt => h.heap b hlt fun i k _ hd hk => hb.2 ⟨i, k, hd, hk⟩) (fun _ hb hlt => h.imm hb hlt)

def C.free (nv : Nat → Nat → Prop) : C → Prop
  | .own id k _ _ => ¬ nv id k
  | .bptr id k _ => ¬ nv id k
  | .rptr id k _ _ _ => ¬ nv id k
  | _ => True

theorem Ext.crep (h : Ext M w M' w' wr nv) {c : C} {v : Value} (hf : c.free nv) (hr : CRep w M c v) : CRep w' M' c v := by
  cases c with
  | own id k sz len =>
    rcases hr with h0 | ⟨b, cap, hv, h1, h2, hx⟩
    · exact .inl h0
    · refine .inr ⟨b, cap, hv, h1, h2, fun hd => ?_⟩
      obtain ⟨hb, arr, e, hh, h3⟩ := hx ((h.ver id k hd).resolve_left hf)
      obtain ⟨arr', ha, hs⟩ := h.shape b arr e hh
      exact ⟨by rw [h.blk id k hd hf]; exact hb, arr', e, ha, by omega⟩
  | bptr id k j =>
    obtain ⟨b, hv, hx⟩ := hr
    exact ⟨b, hv, fun hd => by rw [h.blk id k hd hf]; exact hx ((h.ver id k hd).resolve_left hf)⟩
  | rptr id k sz i j =>
    obtain ⟨b, hv, hx⟩ := hr
    exact ⟨b, hv, fun hd => by rw [h.blk id k hd hf]; exact hx ((h.ver id k hd).resolve_left hf)⟩
  | unk => exact hr
  | val v => exact h.irep hr
  | emp => exact h.irep hr
  | lst n f => exact h.irep hr
  | lptr cs => exact h.irep hr
  | aptr n sz f => exact h.irep hr

theorem getD_mem {α : Type} {l : List α} {j : Nat} {d : α} (h : j < l.length) : l.getD j d ∈ l := by
  rw [List.getD_eq_getElem?_getD, List.getElem?_eq_getElem h]; exact List.getElem_mem h

def CsFree (nv : Nat → Nat → Prop) (cs : List C) : Prop := ∀ c ∈ cs, c.free nv

theorem Ext.csrep (h : Ext M w M' w' wr nv) {cs : List C} {vs : Array Value} (hf : CsFree nv cs) (hr : CsRep w M cs vs) : CsRep w' M' cs vs :=
  ⟨hr.1, fun j hj => h.crep (hf _ (getD_mem hj)) (hr.2 j hj)⟩

def V1.free (nv : Nat → Nat → Prop) : V1 → Prop
  | .one c => c.free nv
  | .agg cs => CsFree nv cs
def V.free (nv : Nat → Nat → Prop) : V → Prop
  | .v x => x.free nv
  | .tup xs => ∀ x ∈ xs, x.free nv
  | _ => True
def O.free (nv : Nat → Nat → Prop) : O → Prop
  | .box _ cs => CsFree nv cs
  | _ => True

theorem Ext.v1rep (h : Ext M w M' w' wr nv) {x : V1} {v : Value} (hf : x.free nv) (hr : V1Rep w M x v) : V1Rep w' M' x v := by
  cases x with
  | one c => exact h.crep hf hr
  | agg cs =>
    obtain ⟨vs, hv, hc⟩ := hr
    exact ⟨vs, hv, h.csrep hf hc⟩

theorem Ext.vrep (h : Ext M w M' w' wr nv) {x : V} {v : Value} (hf : x.free nv) (hr : VRep w M x v) : VRep w' M' x v := by
  cases x with
  | any => trivial
  | undef => exact hr
  | v x => exact h.v1rep hf hr
  | tup xs =>
    obtain ⟨vs, hv, hs, hc⟩ := hr
    exact ⟨vs, hv, hs, fun j hj => h.v1rep (hf _ (getD_mem hj)) (hc j hj)⟩

theorem Ext.orep (h : Ext M w M' w' wr nv)
    (hinj : ∀ i j k l b, M.ver i = some k → M.ver j = some l → M.blk i = some b → M.blk j = some b → i = j) (hlt : ∀ i k b, M.ver i = some k → M.blk i = some b → b < w.heap.size)
    (hnv : ∀ i k, nv i k → wr i) {id k : Nat} {o : O} (hid : ¬ wr id) (hf : o.free nv) (hr : ORep w M id k o) : ORep w' M' id k o := by
  have hrb : ¬ nv id k := fun hm => hid (hnv id k hm)
  have hd := hr.ver
  have hd' := h.keep id k hd hid
  have hsame : ∀ b, M.blk id = some b → w'.heap[b]? = w.heap[b]? := fun b hb => h.heap b (hlt id k b hd hb) fun i l hw hdi hbi => hid (hinj i id l k b hdi hd hbi hb ▸ hw)
  cases o with
  | box e cs =>
    obtain ⟨_, b, arr, hb, hh, hc⟩ := hr
    exact ⟨hd', b, arr, by rw [h.blk id k hd' hrb]; exact hb, by rw [hsame b hb]; exact hh, h.csrep hf hc⟩
  | row e sz n f =>
    refine ⟨hd', ?_⟩
    rcases hr.2 with ⟨hb, hn⟩ | ⟨b, arr, hb, hh, hs, hc⟩
    · exact .inl ⟨by rw [h.blk id k hd' hrb]; exact hb, hn⟩
    · exact .inr ⟨b, arr, by rw [h.blk id k hd' hrb]; exact hb, by rw [hsame b hb]; exact hh, hs, fun i hi => ⟨(hc i hi).1, fun j hj => h.irep ((hc i hi).2 j hj)⟩⟩
end

/-! ### What a state looks like behind a step -/

def St.app (st : St) (dst : Option Nat) (x : V) (ob : List (Nat × (Nat × O))) : St :=
  { slots := (match dst with | some d => [(d, x)] | none => []) ++ st.slots, objs := ob ++ st.objs }

def hits (ob : List (Nat × (Nat × O))) (i : Nat) : Prop := (look i ob).isSome = true

/-- The pairs of 'nv' are named by nothing that 'st' knows. -/
def St.free (nv : Nat → Nat → Prop) (st : St) : Prop := (∀ s x, look s st.slots = some x → x.free nv) ∧ (∀ i k o, look i st.objs = some (k, o) → o.free nv)

def newIn (nv : List (Nat × Nat)) (i k : Nat) : Prop := (i, k) ∈ nv

/-- What an operation does: its value, the objects that it writes or makes. -/
def Step (K : Ctx) (st : St) (o : Oper) (nv : List (Nat × Nat)) (ob : List (Nat × (Nat × O))) (x : V) : Prop :=
  ∀ M a w, Sim K M st a w → (∀ i k, (i, k) ∈ nv → (look i st.objs).isSome = true ∨ M.ver i = none) →
    o.wp K.P a w (fun a' w' => ∃ v M', a' = a.put o.dst v ∧ Ext M w M' w' (hits ob) (newIn nv) ∧ VRep w' M' x v ∧ (∀ i k o, look i ob = some (k, o) → ORep w' M' i k o) ∧
      (∀ i, M'.ver i ≠ none → M.ver i ≠ none ∨ hits ob i)) (fun _ _ _ => False)

theorem Sim.step {K : Ctx} {M : Mem} {st : St} {a : Act} {w : World} (h : Sim K M st a w) {dst : Option Nat} {nv : List (Nat × Nat)} {ob : List (Nat × (Nat × O))} {x : V} {v : Value} {M' : Mem} {w' : World}
    (he : Ext M w M' w' (hits ob) (newIn nv)) (hx : VRep w' M' x v) (ho : ∀ i k o, look i ob = some (k, o) → ORep w' M' i k o) (hnv : ∀ i k, (i, k) ∈ nv → hits ob i)
    (hf : st.free (newIn nv)) (hd : ∀ d, dst = some d → d < K.nt) : Sim K M' (st.app dst x ob) (a.put dst v) w' where
  inj := he.inj
  rng := fun i k b hv hb => by
    refine ⟨?_, he.rng i k b hv hb⟩
    by_cases hn : newIn nv i k
    · rcases he.fresh i k b hn hv hb with h1 | ⟨k', h1, h2⟩
      · exact Nat.le_trans h.below.size h1
      · exact (h.rng i k' b h1 h2).1
    · exact (h.rng i k b ((he.ver i k hv).resolve_left hn) (by rw [← he.blk i k hv hn]; exact hb)).1
  below := h.below.trans ⟨he.os, he.tape, he.output, he.size, fun b hb => he.heap b (Nat.lt_of_lt_of_le hb h.below.size) fun i k _ hv hbi => by
    have := (h.rng i k b hv hbi).1; omega⟩
  area := fun b => by rw [he.area]; exact h.area b
  size := by rw [← h.size]; cases dst <;> simp [Act.put]
  defers := by rw [← h.defers]; cases dst <;> rfl
  slots := fun s y hy => by
    cases dst with
    | none => exact he.vrep (hf.1 s y hy) (h.slots s y hy)
    | some d =>
      have hlt : d < a.tmps.size := by rw [h.size]; exact hd d rfl
      simp only [St.app, List.cons_append, List.nil_append, look_cons] at hy
      by_cases hds : d = s
      · subst hds
        simp only [if_true, Option.some.injEq] at hy
        subst hy
        have : (a.put (some d) v).tmps.getD d undef = v := by simp [Act.put, hlt]
        rw [this]; exact hx
      · simp only [hds, if_false] at hy
        have : (a.put (some d) v).tmps.getD s undef = a.tmps.getD s undef := by simp [Act.put, Array.getElem?_setIfInBounds_ne hds]
        rw [this]; exact he.vrep (hf.1 s y hy) (h.slots s y hy)
  objs := fun i k o hi => by
    simp only [St.app, look_append] at hi
    cases hl : look i ob with
    | some p =>
      obtain ⟨k', o'⟩ := p
      rw [hl] at hi
      simp only [Option.some_or, Option.some.injEq, Prod.mk.injEq] at hi
      obtain ⟨rfl, rfl⟩ := hi
      exact ho _ _ _ hl
    | none =>
      rw [hl] at hi
      simp only [Option.none_or] at hi
      exact he.orep h.inj (fun i k b hv hb => (h.rng i k b hv hb).2) hnv (by simp [hits, hl]) (hf.2 i k o hi) (h.objs i k o hi)

end Go.SL
