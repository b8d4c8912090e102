/- The logic: regions (in the text's order, and in whatever order is drawn), control, loops. -/
import Derived.Test.YtfpgdgmcmkileaaDoorSl1
set_option linter.unusedVariables false
set_option linter.unusedSimpArgs false
namespace Go.SL
open Go.RowKit

def Sim1 (K : Ctx) (M : Mem) (st : St) (a : Act) (w : World) : Prop := Sim K M st a w ∧ ∀ i, M.ver i ≠ none → hits st.objs i

def Post (K : Ctx) (Q : Exit → St → Prop) (e : Exit) (a : Act) (w : World) : Prop := ∃ M st, Q e st ∧ Sim1 K M st a w

def H (K : Ctx) (st : St) (c : Code) (Q : Exit → St → Prop) : Prop := ∀ M a w, Sim1 K M st a w → c.wp K.P (Post K Q) a w

def opAt (ops : Array Oper) (i : Nat) : Oper := (ops[i]?).getD default

theorem opAt_some {ops : Array Oper} {i : Nat} (h : i < ops.size) : ops[i]? = some (opAt ops i) := by
  simp [opAt, h]

/-- Is an operation carried out? By what its guard's slot is known to hold. -/
def gd (ops : Array Oper) (st : St) (o : Oper) : Option Bool :=
  match o.guard with
  | none => some true
  | some (j, want) =>
    match (opAt ops j).dst with
    | none => none
    | some d =>
      match look d st.slots with
      | some (.v (.one (.val (.bool b)))) => some (b == want)
      | some .undef => some false
      | _ => none

theorem gd_sound {K : Ctx} {ops : Array Oper} {st : St} {o : Oper} {M : Mem} {a : Act} {w : World} (h : Sim K M st a w) {b : Bool} (hg : gd ops st o = some b)
    (hj : ∀ j want, o.guard = some (j, want) → j < ops.size) (hd : ∀ j d, (opAt ops j).dst = some d → d < K.nt) : Region.wanted o (yielded ops a.tmps) = b := by
  unfold gd at hg
  unfold Region.wanted
  cases hgd : o.guard with
  | none => rw [hgd] at hg; simpa using hg
  | some p =>
    obtain ⟨j, want⟩ := p
    rw [hgd] at hg
    simp only at hg ⊢
    cases hdj : (opAt ops j).dst with
    | none => rw [hdj] at hg; cases hg
    | some d =>
      rw [hdj] at hg
      simp only at hg
      have hlt : d < a.tmps.size := by rw [h.size]; exact hd j d hdj
      have hy : yielded ops a.tmps j = match a.tmps.getD d undef with | .bool b => some b | _ => none := by
        unfold yielded
        rw [opAt_some (hj j want hgd)]
        simp only [Option.bind_some, hdj, Array.getElem?_eq_getElem hlt, Array.getD_eq_getD_getElem?, Option.getD_some]
        cases a.tmps[d] <;> rfl
      cases hl : look d st.slots with
      | none => rw [hl] at hg; cases hg
      | some x =>
        have hr := h.slots d x hl
        rw [hl] at hg
        rw [hy]
        split at hg
        · rename_i b' heq
          cases heq
          have hv := IRep.val_eq hr
          rw [hv]
          simp only [Option.some.injEq] at hg
          rw [← hg]
          cases b' <;> cases want <;> rfl
        · rename_i heq
          cases heq
          have hr' : a.tmps.getD d undef = undef := hr
          rw [hr']
          simp only [Option.some.injEq] at hg
          rw [← hg]
          rfl
        · cases hg

theorem Oper.wp_any {P : Program} {o : Oper} {a : Act} {w : World} {K K' : Act → World → Prop} {Q Q' : Exit → Act → World → Prop} (h : ∀ a w, K a w → K' a w) (hq : ∀ e a w, Q e a w → Q' e a w)
    (hh : o.wp P a w K Q) : o.wp P a w K' Q' := by
  unfold Oper.wp at *
  generalize (execOp a.eval o).run P w = r at *
  cases r with
  | ok n w' =>
    cases n <;> simp only [Oper.upon] at hh ⊢ <;>
      first
        | exact h _ _ hh
        | exact Calls.mono hh (fun e w'' he => by
            cases e with
            | returned v => exact h _ _ he
            | panicked c => exact hq _ _ _ he
            | outgrown => obtain ⟨a, w, hq'⟩ := he; exact ⟨a, w, hq _ _ _ hq'⟩)
        | exact Rows.mono hh (fun _ _ he => h _ _ he)
  | halt x w' => cases x <;> simp only [Oper.upon] at hh ⊢ <;> first | exact hh.elim | exact hq _ _ _ hh

/-- A step that leaves memory as it is. -/
theorem Ext.same {K : Ctx} {M : Mem} {st : St} {a : Act} {w : World} (h : Sim K M st a w) {w' : World} (hh : w'.heap = w.heap) (h1 : w'.os = w.os) (h2 : w'.tape = w.tape) (h3 : w'.output = w.output) :
    Ext M w M w' (hits []) (newIn []) :=
  ⟨fun _ _ h => .inr h, fun _ _ h _ => h, fun _ _ _ _ => rfl, fun _ _ _ h => (by cases h), h.inj, fun i k b h1 h2 => by rw [hh]; exact (h.rng i k b h1 h2).2, fun _ _ _ => by rw [hh], fun b arr e h => ⟨arr, by rw [hh]; exact h, rfl⟩,
    by rw [hh]; exact Nat.le_refl _, rfl, h1, h2, h3⟩

/-! ### A region in the text's order -/

def HOps (K : Ctx) (ops : Array Oper) (i : Nat) (st : St) (Q : Exit → St → Prop) : Prop :=
  ∀ M a w, Sim1 K M st a w → wpOps K.P ops (Post K Q) (List.range' i (ops.size - i)) a w

theorem H_region {K : Ctx} {st : St} {id : Nat} {ops : Array Oper} {Q : Exit → St → Prop} (h : HOps K ops 0 st Q) : H K st (.region id ops false) Q :=
  fun M a w hs => wp_region (by rw [List.range_eq_range']; exact h M a w hs)

theorem HOps_end {K : Ctx} {ops : Array Oper} {i : Nat} {st : St} {Q : Exit → St → Prop} (hi : Nat.ble ops.size i = true) (h : Q .normal st) : HOps K ops i st Q := by
  intro M a w hs
  have : ops.size - i = 0 := by have := Nat.le_of_ble_eq_true hi; omega
  rw [this]
  exact ⟨M, st, h, hs⟩

def dstOk (nt : Nat) : Option Nat → Bool
  | none => true
  | some d => Nat.blt d nt

theorem dstOk_lt {nt : Nat} {dst : Option Nat} (h : dstOk nt dst = true) : ∀ d, dst = some d → d < nt := by
  rintro d rfl
  simpa [dstOk, Nat.blt_eq] using h

/-- What is asked of a region once: every slot that it writes is there; a guard's operation is there. -/
def opsOk (nt : Nat) (ops : Array Oper) : Bool :=
  ops.toList.all fun o => dstOk nt o.dst && (match o.guard with | none => true | some (j, _) => Nat.blt j ops.size)

theorem opsOk_dst {nt : Nat} {ops : Array Oper} (h : opsOk nt ops = true) (j d : Nat) (hd : (opAt ops j).dst = some d) : d < nt := by
  by_cases hj : j < ops.size
  · have := List.all_eq_true.1 h (opAt ops j) (by have := opAt_some hj; exact Array.mem_toList_iff.2 (Array.mem_of_getElem? this))
    simp only [Bool.and_eq_true] at this
    exact dstOk_lt this.1 d hd
  · simp [opAt, hj] at hd
    cases hd

theorem opsOk_guard {nt : Nat} {ops : Array Oper} (h : opsOk nt ops = true) {i : Nat} (hi : i < ops.size) : ∀ j want, (opAt ops i).guard = some (j, want) → j < ops.size := by
  intro j want hg
  have := List.all_eq_true.1 h (opAt ops i) (by have := opAt_some hi; exact Array.mem_toList_iff.2 (Array.mem_of_getElem? this))
  simp only [Bool.and_eq_true, hg] at this
  simpa [Nat.blt_eq] using this.2

theorem range'_cons {i n : Nat} (h : i < n) : List.range' i (n - i) = i :: List.range' (i + 1) (n - (i + 1)) := by
  have : n - i = (n - (i + 1)) + 1 := by omega
  rw [this, List.range'_succ]

theorem freeNil (st : St) : st.free (newIn []) := by
  have hc : ∀ c : C, c.free (newIn []) := fun c => by cases c <;> simp [C.free, newIn]
  have hcs : ∀ cs, CsFree (newIn []) cs := fun cs c _ => hc c
  have hx : ∀ x : V1, x.free (newIn []) := fun x => by cases x <;> simp [V1.free, hc, hcs]
  refine ⟨fun s x _ => ?_, fun i k o _ => ?_⟩
  · cases x <;> simp [V.free, hx]
  · cases o <;> simp [O.free, hcs]

def pairIn (nv : List (Nat × Nat)) (i k : Nat) : Bool := nv.any fun p => Nat.beq p.1 i && Nat.beq p.2 k
theorem pairIn_of {nv : List (Nat × Nat)} {i k : Nat} (h : (i, k) ∈ nv) : pairIn nv i k = true := by
  simp only [pairIn, List.any_eq_true]
  exact ⟨(i, k), h, by simp⟩
def C.freeB (nv : List (Nat × Nat)) : C → Bool
  | .own id k _ _ => !pairIn nv id k
  | .bptr id k _ => !pairIn nv id k
  | .rptr id k _ _ _ => !pairIn nv id k
  | _ => true
theorem C.free_of {nv : List (Nat × Nat)} {c : C} (h : c.freeB nv = true) : c.free (newIn nv) := by
  cases c <;> first | trivial | (intro hm; simp [C.freeB, pairIn_of hm] at h)
def V1.freeB (nv : List (Nat × Nat)) : V1 → Bool
  | .one c => c.freeB nv
  | .agg cs => cs.all (C.freeB nv)
def V.freeB (nv : List (Nat × Nat)) : V → Bool
  | .v x => x.freeB nv
  | .tup xs => xs.all (V1.freeB nv)
  | _ => true
def O.freeB (nv : List (Nat × Nat)) : O → Bool
  | .box _ cs => cs.all (C.freeB nv)
  | _ => true
theorem CsFree_of {nv : List (Nat × Nat)} {cs : List C} (h : cs.all (C.freeB nv) = true) : CsFree (newIn nv) cs := fun c hc => C.free_of (List.all_eq_true.1 h c hc)
theorem V1.free_of {nv : List (Nat × Nat)} {x : V1} (h : x.freeB nv = true) : x.free (newIn nv) := by
  cases x with
  | one c => exact C.free_of h
  | agg cs => exact CsFree_of h
theorem V.free_of {nv : List (Nat × Nat)} {x : V} (h : x.freeB nv = true) : x.free (newIn nv) := by
  cases x with
  | v x => exact V1.free_of h
  | tup xs => exact fun x hx => V1.free_of (List.all_eq_true.1 h x hx)
  | _ => trivial
theorem O.free_of {nv : List (Nat × Nat)} {o : O} (h : o.freeB nv = true) : o.free (newIn nv) := by
  cases o with
  | box e cs => exact CsFree_of h
  | row e sz n f => trivial
def St.freeB (nv : List (Nat × Nat)) (st : St) : Bool := st.slots.all (fun p => p.2.freeB nv) && st.objs.all (fun p => p.2.2.freeB nv)
theorem St.free_of {nv : List (Nat × Nat)} {st : St} (h : st.freeB nv = true) : st.free (newIn nv) := by
  simp only [St.freeB, Bool.and_eq_true] at h
  exact ⟨fun s x hl => V.free_of (List.all_eq_true.1 h.1 _ (look_mem hl)), fun i k o hl => O.free_of (List.all_eq_true.1 h.2 _ (look_mem hl))⟩

def nvOk (nv : List (Nat × Nat)) (ob : List (Nat × (Nat × O))) : Bool := nv.all fun p => (look p.1 ob).isSome
theorem nvOk_hits {nv : List (Nat × Nat)} {ob : List (Nat × (Nat × O))} (h : nvOk nv ob = true) : ∀ i k, (i, k) ∈ nv → hits ob i := fun i k hm => List.all_eq_true.1 h (i, k) hm

theorem hits_append {l r : List (Nat × (Nat × O))} {i : Nat} : hits (l ++ r) i ↔ hits l i ∨ hits r i := by
  simp only [hits, look_append]
  cases look i l <;> simp

theorem Sim1.step {K : Ctx} {M : Mem} {st : St} {a : Act} {w : World} (h : Sim1 K M st a w) {dst : Option Nat} {nv : List (Nat × Nat)} {ob : List (Nat × (Nat × O))} {x : V} {v : Value} {M' : Mem} {w' : World}
    (he : Ext M w M' w' (hits ob) (newIn nv)) (hx : VRep w' M' x v) (ho : ∀ i k o, look i ob = some (k, o) → ORep w' M' i k o) (hv : ∀ i, M'.ver i ≠ none → M.ver i ≠ none ∨ hits ob i) (hnv : nvOk nv ob = true)
    (hf : st.free (newIn nv)) (hd : ∀ d, dst = some d → d < K.nt) : Sim1 K M' (st.app dst x ob) (a.put dst v) w' :=
  ⟨h.1.step he hx ho (nvOk_hits hnv) hf hd, fun i hi => by
    show hits (ob ++ st.objs) i
    rw [hits_append]
    exact (hv i hi).symm.imp id (h.2 i)⟩

theorem Sim1.drew {K : Ctx} {M : Mem} {st : St} {a : Act} {w : World} (h : Sim1 K M st a w) : Sim1 K M st a { w with drawn := w.drawn + 1 } := by
  have he : Ext M w M { w with drawn := w.drawn + 1 } (hits []) (newIn []) := Ext.same h.1 rfl rfl rfl rfl
  have := h.step (dst := none) (nv := []) (ob := []) (x := .any) (v := undef) he trivial (fun i k o h => by cases h) (fun i hi => .inl hi) rfl (freeNil st) (fun d hd => by cases hd)
  exact this

/-- One operation of a region, in the text's order. -/
theorem HOps_step {K : Ctx} {ops : Array Oper} {i : Nat} {st : St} {Q : Exit → St → Prop} (hok : opsOk K.nt ops = true) (hi : Nat.blt i ops.size = true) (hg : gd ops st (opAt ops i) = some true)
    {nv : List (Nat × Nat)} {ob : List (Nat × (Nat × O))} {x : V} (hs : Step K st (opAt ops i) nv ob x) (hnv : nvOk nv ob = true) (hf : st.free (newIn nv))
    (h : HOps K ops (i + 1) (st.app (opAt ops i).dst x ob) Q) : HOps K ops i st Q := by
  intro M a w hsim
  have hi' : i < ops.size := by simpa [Nat.blt_eq] using hi
  rw [range'_cons hi']
  simp only [wpOps, opAt_some hi', gd_sound hsim.1 hg (opsOk_guard hok hi') (opsOk_dst hok), if_true]
  refine .inl (Oper.wp_any ?_ (fun _ _ _ hf => hf.elim) (hs M a w hsim.1 fun j k _ => ?_))
  · rintro a' w' ⟨v, M', rfl, he, hx, ho, hv⟩
    exact h M' _ w' (hsim.step he hx ho hv hnv hf (opsOk_dst hok i))
  · by_cases hv : M.ver j = none
    · exact .inr hv
    · exact .inl (hsim.2 j hv)

theorem HOps_skip {K : Ctx} {ops : Array Oper} {i : Nat} {st : St} {Q : Exit → St → Prop} (hok : opsOk K.nt ops = true) (hi : Nat.blt i ops.size = true) (hg : gd ops st (opAt ops i) = some false)
    (h : HOps K ops (i + 1) (st.app (opAt ops i).dst .undef []) Q) : HOps K ops i st Q := by
  intro M a w hsim
  have hi' : i < ops.size := by simpa [Nat.blt_eq] using hi
  rw [range'_cons hi']
  have hw := gd_sound hsim.1 hg (opsOk_guard hok hi') (opsOk_dst hok)
  simp only [wpOps, opAt_some hi', hw, Bool.false_eq_true, if_false]
  refine h M _ w (hsim.step (nv := []) (ob := []) (w' := w) (M' := M) ?_ rfl (fun i k o h => by cases h) (fun i hi => .inl hi) rfl (freeNil st) (opsOk_dst hok i))
  exact ⟨fun _ _ h => .inr h, fun _ _ h _ => h, fun _ _ _ _ => rfl, fun _ _ _ h => (by cases h), hsim.1.inj, fun i k b h1 h2 => (hsim.1.rng i k b h1 h2).2, fun _ _ _ => rfl, fun b arr e h => ⟨arr, h, rfl⟩, Nat.le_refl _, rfl, rfl, rfl, rfl⟩

def boolV (b : Bool) : V := .v (.one (.val (.bool b)))

/-- A bool that is known by an expression: both ways. -/
theorem Sim1.setBool {K : Ctx} {M : Mem} {st : St} {a : Act} {w : World} (h : Sim1 K M st a w) {d : Nat} {b : Bool} (hl : look d st.slots = some (boolV b)) : Sim1 K M (st.app (some d) (boolV b) []) a w := by
  refine ⟨⟨h.1.inj, h.1.rng, h.1.below, h.1.area, h.1.size, h.1.defers, fun s x hx => ?_, fun i k o ho => h.1.objs i k o ho⟩, h.2⟩
  simp only [St.app, List.cons_append, List.nil_append, look_cons] at hx
  split at hx
  · rename_i hds; subst hds; cases hx; exact h.1.slots _ _ hl
  · exact h.1.slots s x hx

theorem HOps_bool {K : Ctx} {ops : Array Oper} {i : Nat} {st : St} {Q : Exit → St → Prop} (d : Nat) (b : Bool) (hl : look d st.slots = some (boolV b))
    (ht : b = true → HOps K ops i (st.app (some d) (boolV true) []) Q) (hf : b = false → HOps K ops i (st.app (some d) (boolV false) []) Q) : HOps K ops i st Q := by
  intro M a w hs
  cases b
  · exact hf rfl M a w (hs.setBool hl)
  · exact ht rfl M a w (hs.setBool hl)

/-! ### Control -/

def thenQ (Q : Exit → St → Prop) (N : St → Prop) : Exit → St → Prop
  | .normal, st => N st
  | e, st => Q e st

theorem Post.mono {K : Ctx} {Q Q' : Exit → St → Prop} (h : ∀ e st, Q e st → Q' e st) {e : Exit} {a : Act} {w : World} : Post K Q e a w → Post K Q' e a w :=
  fun ⟨M, st, hq, hs⟩ => ⟨M, st, h e st hq, hs⟩

theorem H_mono {K : Ctx} {st : St} {c : Code} {Q Q' : Exit → St → Prop} (h : H K st c Q) (hq : ∀ e st, Q e st → Q' e st) : H K st c Q' :=
  fun M a w hs => wp_mono (h M a w hs) fun _ _ _ => Post.mono hq

theorem H_seq {K : Ctx} {st : St} {x y : Code} {Q : Exit → St → Prop} (h : H K st x (thenQ Q fun st' => H K st' y Q)) : H K st (.seq x y) Q := by
  intro M a w hs
  refine wp_seq (wp_mono (h M a w hs) ?_)
  rintro e a' w' ⟨M', st', hq, hs'⟩
  cases e with
  | normal => exact hq M' a' w' hs'
  | _ => exact ⟨M', st', hq, hs'⟩

theorem H_skip {K : Ctx} {st : St} {Q : Exit → St → Prop} (h : Q .normal st) : H K st .skip Q := fun M _ _ hs => wp_skip ⟨M, st, h, hs⟩
theorem H_ret {K : Ctx} {st : St} {Q : Exit → St → Prop} (h : Q .ret st) : H K st .ret Q := fun M _ _ hs => wp_ret ⟨M, st, h, hs⟩
theorem H_exit {K : Ctx} {st : St} {id : Nat} {Q : Exit → St → Prop} (h : Q (.exit id) st) : H K st (.exit id) Q := fun M _ _ hs => wp_exit ⟨M, st, h, hs⟩

def blockQ (id : Nat) (Q : Exit → St → Prop) : Exit → St → Prop
  | .exit id', st => bif Nat.beq id' id then Q .normal st else Q (.exit id') st
  | e, st => Q e st

theorem H_block {K : Ctx} {st : St} {id : Nat} {c : Code} {Q : Exit → St → Prop} (h : H K st c (blockQ id Q)) : H K st (.block id c) Q := by
  intro M a w hs
  refine wp_block (wp_mono (h M a w hs) ?_)
  rintro e a' w' ⟨M', st', hq, hs'⟩
  cases e with
  | exit id' =>
    simp only [blockQ] at hq
    simp only [Exit.inBlock]
    split
    · rename_i hid; subst hid; rw [Nat.beq_refl] at hq; exact ⟨M', st', hq, hs'⟩
    · rename_i hid
      have : Nat.beq id' id = false := by cases hb : Nat.beq id' id with | false => rfl | true => exact absurd (Nat.eq_of_beq_eq_true hb) hid
      rw [this] at hq; exact ⟨M', st', hq, hs'⟩
  | _ => exact ⟨M', st', hq, hs'⟩

/-- The operand of a test. -/
def opB (st : St) : Operand → Option Bool
  | .tmp t => match look t st.slots with | some (.v (.one (.val (.bool b)))) => some b | _ => none
  | .const (.bool b) => some b
  | _ => none

theorem opB_sound {K : Ctx} {M : Mem} {st : St} {a : Act} {w : World} (h : Sim K M st a w) {o : Operand} {b : Bool} (ho : opB st o = some b) : a.eval o = .bool b := by
  unfold opB at ho
  split at ho
  · rename_i t
    split at ho
    · rename_i b' heq
      cases ho
      exact IRep.val_eq (h.slots t _ heq)
    · cases ho
  · cases ho; rfl
  · cases ho

theorem H_cond {K : Ctx} {st : St} {o : Operand} {x y : Code} {Q : Exit → St → Prop} (b : Bool) (ho : opB st o = some b) (ht : b = true → H K st x Q) (hf : b = false → H K st y Q) : H K st (.cond o x y) Q :=
  fun M a w hs => wp_cond_split (opB_sound hs.1 ho) (fun hb => ht hb M a w hs) (fun hb => hf hb M a w hs)

/-- A loop: 'n' rounds at most. -/
def HL (K : Ctx) (c : Code) (Q : Exit → St → Prop) (n : Nat) (st : St) : Prop := ∀ M a w, Sim1 K M st a w → Code.rounds K.P c (Post K Q) n a w

theorem H_loop {K : Ctx} {st : St} {c : Code} {Q : Exit → St → Prop} (n : Nat) (h : HL K c Q n st) : H K st (.loop c) Q := fun M a w hs => wp_loop_rounds n (h M a w hs)

theorem HL_succ {K : Ctx} {st : St} {c : Code} {Q : Exit → St → Prop} {n : Nat} (h : H K st c (thenQ Q fun st' => HL K c Q n st')) : HL K c Q (n + 1) st := by
  intro M a w hs
  rw [rounds_succ]
  refine wp_mono (h M a w hs) ?_
  rintro e a' w' ⟨M', st', hq, hs'⟩
  cases e with
  | normal => exact hq M' a' w' hs'
  | _ => exact ⟨M', st', hq, hs'⟩

end Go.SL
