/- A region whose order is drawn: what its operations touch is ordered wherever it must be, so every order comes to the same. -/
import Derived.Test.YtfpgdgmcmkileaaDoorSl2
set_option linter.unusedVariables false
set_option linter.unusedSimpArgs false
namespace Go.SL
open Go.RowKit

/-- An operation of such a region: is it carried out; its value; the new pairs; the objects written; the slots and objects looked at. -/
structure Ent where
  run : Bool
  x : V
  nv : List (Nat × Nat)
  ob : List (Nat × (Nat × O))
  rs : List Nat
  ro : List Nat

def St.only (st : St) (rs ro : List Nat) : St :=
  { slots := rs.filterMap fun s => (look s st.slots).map fun x => (s, x), objs := ro.filterMap fun i => (look i st.objs).map fun x => (i, x) }

theorem look_filterMap {β : Type} {l : List (Nat × β)} {s : Nat} {x : β} : ∀ {rs : List Nat}, look s (rs.filterMap fun s => (look s l).map fun x => (s, x)) = some x → s ∈ rs ∧ look s l = some x
  | r :: rs, h => by
    simp only [List.filterMap_cons] at h
    cases hl : look r l with
    | none => rw [hl] at h; have := look_filterMap (rs := rs) h; exact ⟨List.mem_cons_of_mem _ this.1, this.2⟩
    | some y =>
      rw [hl] at h
      simp only [Option.map_some, look_cons] at h
      split at h
      · rename_i he; subst he; cases h; exact ⟨List.mem_cons_self, hl⟩
      · have := look_filterMap (rs := rs) h; exact ⟨List.mem_cons_of_mem _ this.1, this.2⟩

def appE (ops : Array Oper) (k : Nat) (e : Ent) (st : St) : St := st.app (opAt ops k).dst e.x e.ob

def stg (ops : Array Oper) (S : Nat → Bool) : St → Nat → List Ent → St
  | st, _, [] => st
  | st, k, e :: r => stg ops S (bif S k then appE ops k e st else st) (k + 1) r

def nvRo (st : St) (e : Ent) : Bool := e.nv.all fun p => e.ro.any (Nat.beq p.1) || (look p.1 st.objs).isNone

def StepE (K : Ctx) (ops : Array Oper) (k : Nat) (st : St) (e : Ent) : Prop :=
  match e.run with
  | true => gd ops (st.only e.rs e.ro) (opAt ops k) = some true ∧ nvRo st e = true ∧ Step K (st.only e.rs e.ro) (opAt ops k) e.nv e.ob e.x
  | false => gd ops (st.only e.rs e.ro) (opAt ops k) = some false ∧ e.x = .undef ∧ e.ob = [] ∧ e.nv = []

def AllSteps (K : Ctx) (ops : Array Oper) : Nat → St → List Ent → Prop
  | _, _, [] => True
  | k, st, e :: r => StepE K ops k st e ∧ AllSteps K ops (k + 1) (appE ops k e st) r

theorem stg_none (ops : Array Oper) (S : Nat → Bool) : ∀ (es : List Ent) (st : St) (k : Nat), (∀ m, k ≤ m → S m = false) → stg ops S st k es = st
  | [], _, _, _ => rfl
  | e :: r, st, k, h => by
    simp only [stg, h k (Nat.le_refl k), cond_false]
    exact stg_none ops S r st (k + 1) fun m hm => h m (by omega)

theorem AllSteps.get {K : Ctx} {ops : Array Oper} : ∀ {es : List Ent} {k : Nat} {st : St}, AllSteps K ops k st es → ∀ j e, es[j]? = some e → StepE K ops (k + j) (stg ops (fun m => Nat.blt m (k + j)) st k es) e
  | e :: r, k, st, h, 0, e', he => by
    cases he
    have : stg ops (fun m => Nat.blt m (k + 0)) st k (e :: r) = st := stg_none _ _ _ _ _ fun m hm => Bool.eq_false_iff.2 fun h => by rw [Nat.blt_eq] at h; omega
    rw [this]
    exact h.1
  | e :: r, k, st, h, j + 1, e', he => by
    have := AllSteps.get h.2 j e' he
    have hk : k + 1 + j = k + (j + 1) := by omega
    rw [hk] at this
    have hb : Nat.blt k (k + (j + 1)) = true := by rw [Nat.blt_eq]; omega
    simp only [stg, hb, cond_true]
    exact this

def memB (l : List Nat) (x : Nat) : Bool := l.any (Nat.beq x)
theorem memB_of {l : List Nat} {x : Nat} (h : x ∈ l) : memB l x = true := by
  simp only [memB, List.any_eq_true]
  exact ⟨x, h, by simp⟩
def keys (ob : List (Nat × (Nat × O))) : List Nat := ob.map (·.1)
def meets (a b : List Nat) : Bool := a.any (memB b)
def dstIn (dst : Option Nat) (l : List Nat) : Bool := match dst with | none => false | some d => memB l d
def sameDst (a b : Option Nat) : Bool := match a, b with | some d, some e => Nat.beq d e | _, _ => false
theorem meets_of {a b : List Nat} {x : Nat} (ha : x ∈ a) (hb : x ∈ b) : meets a b = true := by
  simp only [meets, List.any_eq_true]
  exact ⟨x, ha, memB_of hb⟩
theorem keys_of {ob : List (Nat × (Nat × O))} {i : Nat} (h : hits ob i) : i ∈ keys ob := by
  simp only [hits, Option.isSome_iff_exists] at h
  obtain ⟨p, hp⟩ := h
  exact List.mem_map.2 ⟨_, look_mem hp, rfl⟩

def freeE (e : Ent) (nv : List (Nat × Nat)) : Bool := e.x.freeB nv && e.ob.all fun p => p.2.2.freeB nv

def confl (ops : Array Oper) (k : Nat) (e : Ent) (l : Nat) (f : Ent) : Bool :=
  dstIn (opAt ops k).dst f.rs || dstIn (opAt ops l).dst e.rs || sameDst (opAt ops k).dst (opAt ops l).dst ||
  meets (keys e.ob) f.ro || meets (keys f.ob) e.ro || meets (keys e.ob) (keys f.ob) || !freeE f e.nv

def pairOk (ops : Array Oper) (bm : List Nat) (k : Nat) (e : Ent) (l : Nat) (f : Ent) : Bool :=
  ((bm.getD l 0).testBit k || !confl ops k e l f) && freeE e f.nv
def pairsFrom (ops : Array Oper) (bm : List Nat) (k : Nat) (e : Ent) : Nat → List Ent → Bool
  | _, [] => true
  | l, f :: r => pairOk ops bm k e l f && pairsFrom ops bm k e (l + 1) r
def pairsOk (ops : Array Oper) (bm : List Nat) : Nat → List Ent → Bool
  | _, [] => true
  | k, e :: r => pairsFrom ops bm k e (k + 1) r && pairsOk ops bm (k + 1) r

theorem pairsFrom_get {ops : Array Oper} {bm : List Nat} {k : Nat} {e : Ent} : ∀ {es : List Ent} {l : Nat}, pairsFrom ops bm k e l es = true → ∀ j f, es[j]? = some f → pairOk ops bm k e (l + j) f = true
  | f :: r, l, h, 0, f', hf => by cases hf; simp only [pairsFrom, Bool.and_eq_true] at h; exact h.1
  | f :: r, l, h, j + 1, f', hf => by
    simp only [pairsFrom, Bool.and_eq_true] at h
    have := pairsFrom_get h.2 j f' hf
    rwa [show l + 1 + j = l + (j + 1) by omega] at this

theorem pairsOk_get {ops : Array Oper} {bm : List Nat} : ∀ {es : List Ent} {k : Nat}, pairsOk ops bm k es = true → ∀ i j e f, i < j → es[i]? = some e → es[j]? = some f → pairOk ops bm (k + i) e (k + j) f = true
  | e :: r, k, h, 0, j + 1, e', f, _, he, hf => by
    cases he
    simp only [pairsOk, Bool.and_eq_true] at h
    have := pairsFrom_get h.1 j f hf
    rwa [show k + 1 + j = k + (j + 1) by omega] at this
  | e :: r, k, h, i + 1, j + 1, e', f, hij, he, hf => by
    simp only [pairsOk, Bool.and_eq_true] at h
    have := pairsOk_get h.2 i j e' f (by omega) he hf
    rwa [show k + 1 + i = k + (i + 1) by omega, show k + 1 + j = k + (j + 1) by omega] at this

def edgeMask (bm : List Nat) : List Edge → Nat
  | [] => 0
  | e :: r => bif Region.binds .any e then (2 ^ e.on ||| bm.getD e.on 0) ||| edgeMask bm r else edgeMask bm r
def maskOk (ops : Array Oper) (bm : List Nat) : Bool :=
  (List.range ops.size).all fun l => Nat.beq (bm.getD l 0) (edgeMask bm (opAt ops l).after.toList) && (opAt ops l).after.toList.all fun e => !Region.binds .any e || Nat.blt e.on l

theorem edgeMask_bit {bm : List Nat} {k : Nat} : ∀ {es : List Edge}, (edgeMask bm es).testBit k = true → ∃ e ∈ es, Region.binds .any e = true ∧ (e.on = k ∨ (bm.getD e.on 0).testBit k = true)
  | [], h => by simp [edgeMask] at h
  | e :: r, h => by
    simp only [edgeMask] at h
    cases hb : Region.binds .any e with
    | false =>
      rw [hb] at h
      obtain ⟨e', hm, h'⟩ := edgeMask_bit (es := r) h
      exact ⟨e', List.mem_cons_of_mem _ hm, h'⟩
    | true =>
      rw [hb] at h
      simp only [cond_true, Nat.testBit_or, Bool.or_eq_true] at h
      rcases h with (h | h) | h
      · refine ⟨e, List.mem_cons_self, hb, .inl ?_⟩
        rw [Nat.testBit_two_pow] at h
        simpa using h
      · exact ⟨e, List.mem_cons_self, hb, .inr h⟩
      · obtain ⟨e', hm, h'⟩ := edgeMask_bit (es := r) h
        exact ⟨e', List.mem_cons_of_mem _ hm, h'⟩

def Down (ops : Array Oper) (S : Nat → Bool) (l : Nat) : Prop := ∀ e ∈ (opAt ops l).after, Region.binds .any e = true → S e.on = true

theorem anc {ops : Array Oper} {bm : List Nat} (hm : maskOk ops bm = true) {S : Nat → Bool} (hS : ∀ l, l < ops.size → S l = true → Down ops S l) : ∀ (l k : Nat), l < ops.size → Down ops S l → (bm.getD l 0).testBit k = true → S k = true := by
  intro l
  induction l using Nat.strongRecOn with
  | _ l ih =>
    intro k hl hd hb
    have hl' := List.all_eq_true.1 hm l (by simpa using hl)
    simp only [Bool.and_eq_true] at hl'
    rw [Nat.eq_of_beq_eq_true hl'.1] at hb
    obtain ⟨e, he, hbe, h⟩ := edgeMask_bit hb
    have hlt := List.all_eq_true.1 hl'.2 e he
    simp only [hbe, Bool.not_true, Bool.false_or, Nat.blt_eq] at hlt
    have hSe := hd e (by simpa using he) hbe
    rcases h with h | h
    · rw [← h]; exact hSe
    · exact ih e.on hlt k (by omega) (hS e.on (by omega) hSe) h

/-! ### Looking into stages -/

theorem look_appE_slot {ops : Array Oper} {k : Nat} {e : Ent} {st : St} (s : Nat) : look s (appE ops k e st).slots = if (opAt ops k).dst = some s then some e.x else look s st.slots := by
  unfold appE St.app
  cases hd : (opAt ops k).dst with
  | none => simp
  | some d =>
    simp only [List.cons_append, List.nil_append, look_cons, Option.some.injEq]

theorem look_appE_obj {ops : Array Oper} {k : Nat} {e : Ent} {st : St} (i : Nat) : look i (appE ops k e st).objs = (look i e.ob).or (look i st.objs) := by
  simp only [appE, St.app, look_append]

structure Agree (rs ro : List Nat) (a b : St) : Prop where
  slot : ∀ s ∈ rs, look s a.slots = look s b.slots
  obj : ∀ i ∈ ro, look i a.objs = look i b.objs

def Untouched (ops : Array Oper) (k : Nat) (e : Ent) (rs ro : List Nat) : Prop := (∀ s ∈ rs, (opAt ops k).dst ≠ some s) ∧ ∀ i ∈ ro, look i e.ob = none

theorem Agree.both {ops : Array Oper} {k : Nat} {e : Ent} {rs ro : List Nat} {a b : St} (h : Agree rs ro a b) : Agree rs ro (appE ops k e a) (appE ops k e b) :=
  ⟨fun s hs => by rw [look_appE_slot, look_appE_slot, h.slot s hs], fun i hi => by rw [look_appE_obj, look_appE_obj, h.obj i hi]⟩
theorem Agree.left {ops : Array Oper} {k : Nat} {e : Ent} {rs ro : List Nat} {a b : St} (h : Agree rs ro a b) (hu : Untouched ops k e rs ro) : Agree rs ro (appE ops k e a) b :=
  ⟨fun s hs => by rw [look_appE_slot, if_neg (hu.1 s hs), h.slot s hs], fun i hi => by rw [look_appE_obj, hu.2 i hi, h.obj i hi]; rfl⟩
theorem Agree.symm {rs ro : List Nat} {a b : St} (h : Agree rs ro a b) : Agree rs ro b a := ⟨fun s hs => (h.slot s hs).symm, fun i hi => (h.obj i hi).symm⟩

theorem stg_agree {ops : Array Oper} {S T : Nat → Bool} {rs ro : List Nat} : ∀ (es : List Ent) (k : Nat) (a b : St), Agree rs ro a b →
    (∀ j e, es[j]? = some e → S (k + j) ≠ T (k + j) → Untouched ops (k + j) e rs ro) → Agree rs ro (stg ops S a k es) (stg ops T b k es)
  | [], _, _, _, h, _ => h
  | e :: r, k, a, b, h, hu => by
    refine stg_agree r (k + 1) _ _ ?_ fun j e' he hne => by
      have := hu (j + 1) e' he
      rw [show k + (j + 1) = k + 1 + j by omega] at this
      exact this hne
    have h0 := hu 0 e rfl
    simp only [Nat.add_zero] at h0
    cases hS : S k <;> cases hT : T k
    · exact h
    · exact (h.symm.left (h0 (by simp [hS, hT]))).symm
    · exact h.left (h0 (by simp [hS, hT]))
    · exact h.both

/-- The same to every look. -/
structure Alike (a b : St) : Prop where
  slot : ∀ s, look s a.slots = look s b.slots
  obj : ∀ i, look i a.objs = look i b.objs

theorem Sim1.alike {K : Ctx} {M : Mem} {st st' : St} {a : Act} {w : World} (h : Sim1 K M st a w) (he : Alike st' st) : Sim1 K M st' a w :=
  ⟨⟨h.1.inj, h.1.rng, h.1.below, h.1.area, h.1.size, h.1.defers, fun s x hx => h.1.slots s x (by rw [← he.slot]; exact hx), fun i k o ho => h.1.objs i k o (by rw [← he.obj]; exact ho)⟩,
   fun i hi => by unfold hits; rw [he.obj]; exact h.2 i hi⟩

def Apart (ops : Array Oper) (k : Nat) (e : Ent) (l : Nat) (f : Ent) : Prop := (∀ s, (opAt ops k).dst = some s → (opAt ops l).dst ≠ some s) ∧ ∀ i, look i e.ob ≠ none → look i f.ob = none

theorem appE_comm {ops : Array Oper} {k l : Nat} {e f : Ent} {a b : St} (h : Alike b (appE ops l f a)) (hap : Apart ops k e l f) : Alike (appE ops k e b) (appE ops l f (appE ops k e a)) := by
  refine ⟨fun s => ?_, fun i => ?_⟩
  · have := h.slot s
    simp only [look_appE_slot] at this ⊢
    by_cases hk : (opAt ops k).dst = some s
    · rw [if_pos hk, if_neg (hap.1 s hk), if_pos hk]
    · rw [if_neg hk, if_neg hk, this]
  · have := h.obj i
    simp only [look_appE_obj] at this ⊢
    cases hk : look i e.ob with
    | none => simp only [Option.none_or]; exact this
    | some p => rw [hap.2 i (by rw [hk]; simp)]; rfl

def ins (S : Nat → Bool) (l : Nat) (k : Nat) : Bool := S k || Nat.beq k l

theorem stg_comm {ops : Array Oper} {S : Nat → Bool} {l : Nat} {f : Ent} : ∀ (es : List Ent) (k : Nat) (a b : St), Alike b (appE ops l f a) → l < k →
    (∀ j e, es[j]? = some e → S (k + j) = true → Apart ops (k + j) e l f) → Alike (stg ops (ins S l) b k es) (appE ops l f (stg ops S a k es))
  | [], _, _, _, h, _, _ => h
  | e :: r, k, a, b, h, hl, hap => by
    have hne : Nat.beq k l = false := by cases hb : Nat.beq k l with | false => rfl | true => have := Nat.eq_of_beq_eq_true hb; omega
    have hins : ins S l k = S k := by simp [ins, hne]
    simp only [stg, hins]
    refine stg_comm r (k + 1) _ _ ?_ (by omega) fun j e' he hS => by
      have := hap (j + 1) e' he
      rw [show k + (j + 1) = k + 1 + j by omega] at this
      exact this hS
    have h0 := hap 0 e rfl
    simp only [Nat.add_zero] at h0
    cases hS : S k
    · exact h
    · exact appE_comm h (h0 hS)

theorem stg_ins {ops : Array Oper} {S : Nat → Bool} {l : Nat} {f : Ent} : ∀ (es : List Ent) (k : Nat) (a : St), k ≤ l → es[l - k]? = some f → S l = false →
    (∀ j e, es[j]? = some e → l < k + j → S (k + j) = true → Apart ops (k + j) e l f) → Alike (stg ops (ins S l) a k es) (appE ops l f (stg ops S a k es))
  | e :: r, k, a, hk, hf, hS, hap => by
    by_cases hkl : k = l
    · subst hkl
      simp only [Nat.sub_self, List.getElem?_cons_zero, Option.some.injEq] at hf
      subst hf
      have hins : ins S k k = true := by simp [ins]
      simp only [stg, hins, hS, cond_true, cond_false]
      refine stg_comm r (k + 1) _ _ ⟨fun _ => rfl, fun _ => rfl⟩ (by omega) fun j e' he hS' => by
        have := hap (j + 1) e' he
        rw [show k + (j + 1) = k + 1 + j by omega] at this
        exact this (by omega) hS'
    · have hne : Nat.beq k l = false := by cases hb : Nat.beq k l with | false => rfl | true => exact absurd (Nat.eq_of_beq_eq_true hb) hkl
      have hins : ins S l k = S k := by simp [ins, hne]
      simp only [stg, hins]
      have hf' : r[l - (k + 1)]? = some f := by rw [show l - k = (l - (k + 1)) + 1 by omega] at hf; simpa using hf
      exact stg_ins r (k + 1) _ (by omega) hf' hS fun j e' he hlt hS' => by
        have := hap (j + 1) e' he
        rw [show k + (j + 1) = k + 1 + j by omega] at this
        exact this hlt hS'

theorem stg_free {ops : Array Oper} {S : Nat → Bool} {nv : List (Nat × Nat)} : ∀ (es : List Ent) (k : Nat) (a : St), a.free (newIn nv) → (∀ j e, es[j]? = some e → S (k + j) = true → freeE e nv = true) → (stg ops S a k es).free (newIn nv)
  | [], _, _, h, _ => h
  | e :: r, k, a, h, hf => by
    refine stg_free r (k + 1) _ ?_ fun j e' he hS => by
      have := hf (j + 1) e' he
      rw [show k + (j + 1) = k + 1 + j by omega] at this
      exact this hS
    have h0 := hf 0 e rfl
    simp only [Nat.add_zero] at h0
    cases hS : S k
    · exact h
    · have h1 := h0 hS
      simp only [freeE, Bool.and_eq_true] at h1
      refine ⟨fun s x hx => ?_, fun i k' o ho => ?_⟩
      · simp only [cond_true, look_appE_slot] at hx
        split at hx
        · cases hx; exact V.free_of h1.1
        · exact h.1 s x hx
      · simp only [cond_true, look_appE_obj] at ho
        cases hl : look i e.ob with
        | none => rw [hl] at ho; exact h.2 i k' o ho
        | some p => rw [hl] at ho; cases ho; exact O.free_of (List.all_eq_true.1 h1.2 _ (look_mem hl))

theorem stg_obj_none {ops : Array Oper} {S : Nat → Bool} {i : Nat} : ∀ (es : List Ent) (k : Nat) (a : St), look i a.objs = none → (∀ j e, es[j]? = some e → S (k + j) = true → look i e.ob = none) → look i (stg ops S a k es).objs = none
  | [], _, _, h, _ => h
  | e :: r, k, a, h, hf => by
    refine stg_obj_none r (k + 1) _ ?_ fun j e' he hS => by
      have := hf (j + 1) e' he
      rw [show k + (j + 1) = k + 1 + j by omega] at this
      exact this hS
    have h0 := hf 0 e rfl
    simp only [Nat.add_zero] at h0
    cases hS : S k
    · exact h
    · simp only [cond_true, look_appE_obj, h0 hS, Option.none_or]; exact h

/-- An object that the stage 'all before l' does not know was there neither at first nor by an operation before l. -/
theorem stg_obj_some {ops : Array Oper} {T : Nat → Bool} {i : Nat} : ∀ (es : List Ent) (k : Nat) (a : St), look i (stg ops T a k es).objs = none → look i a.objs = none ∧ ∀ j e, es[j]? = some e → T (k + j) = true → look i e.ob = none
  | [], _, _, h => ⟨h, fun j e he => by cases he⟩
  | e :: r, k, a, h => by
    have ih := stg_obj_some r (k + 1) _ h
    cases hT : T k with
    | false =>
      rw [hT] at ih
      refine ⟨ih.1, fun j e' he hTj => ?_⟩
      cases j with
      | zero => rw [Nat.add_zero, hT] at hTj; cases hTj
      | succ j => exact ih.2 j e' he (by rw [show k + 1 + j = k + (j + 1) by omega]; exact hTj)
    | true =>
      rw [hT] at ih
      have h1 := ih.1
      simp only [cond_true, look_appE_obj] at h1
      cases hl : look i e.ob with
      | some p => rw [hl] at h1; cases h1
      | none =>
        rw [hl] at h1
        refine ⟨h1, fun j e' he hTj => ?_⟩
        cases j with
        | zero => cases he; exact hl
        | succ j => exact ih.2 j e' he (by rw [show k + 1 + j = k + (j + 1) by omega]; exact hTj)

theorem stg_all {ops : Array Oper} {S T : Nat → Bool} : ∀ (es : List Ent) (k : Nat) (a : St), (∀ j, j < es.length → S (k + j) = T (k + j)) → stg ops S a k es = stg ops T a k es
  | [], _, _, _ => rfl
  | e :: r, k, a, h => by
    have h0 := h 0 (by simp)
    simp only [Nat.add_zero] at h0
    simp only [stg, h0]
    exact stg_all r (k + 1) _ fun j hj => by
      have := h (j + 1) (by simp; omega)
      rwa [show k + (j + 1) = k + 1 + j by omega] at this

def seqAll (ops : Array Oper) : Nat → St → List Ent → St
  | _, st, [] => st
  | k, st, e :: r => seqAll ops (k + 1) (appE ops k e st) r

theorem stg_true (ops : Array Oper) : ∀ (es : List Ent) (k : Nat) (a : St), stg ops (fun _ => true) a k es = seqAll ops k a es
  | [], _, _ => rfl
  | e :: r, k, a => by simp only [stg, seqAll, cond_true]; exact stg_true ops r (k + 1) _


def stOfListed (listed : Array Bool) (k : Nat) : Bool := listed.getD k false

theorem ready_mem {ops : Array Oper} {listed : Array Bool} (hsz : listed.size = ops.size) {i : Nat} : i ∈ Region.ready .any ops listed ↔ i < ops.size ∧ stOfListed listed i = false ∧ Down ops (stOfListed listed) i := by
  simp only [Region.ready, List.mem_filter, List.mem_range, Bool.and_eq_true, Bool.not_eq_true']
  constructor
  · rintro ⟨hi, h1, h2⟩
    refine ⟨hi, ?_, ?_⟩
    · have hi' : i < listed.size := by omega
      simp only [stOfListed, Array.getD_eq_getD_getElem?, Array.getElem?_eq_getElem hi', Option.getD_some] at h1 ⊢
      exact h1
    · rw [opAt_some hi] at h2
      simp only [Option.map_some, Option.getD_some, Array.all_eq_true_iff_forall_mem] at h2
      intro e he hb
      have := h2 e he
      simp only [hb, Bool.not_true, Bool.false_or] at this
      exact this
  · rintro ⟨hi, h1, h2⟩
    refine ⟨hi, ?_, ?_⟩
    · have hi' : i < listed.size := by omega
      simp only [stOfListed, Array.getD_eq_getD_getElem?, Array.getElem?_eq_getElem hi', Option.getD_some] at h1 ⊢
      exact h1
    · rw [opAt_some hi]
      simp only [Option.map_some, Option.getD_some, Array.all_eq_true_iff_forall_mem]
      intro e he
      cases hb : Region.binds .any e with
      | false => rfl
      | true => simp only [Bool.not_true, Bool.false_or]; exact h2 e he hb

theorem listed_set {listed : Array Bool} {i : Nat} (hi : i < listed.size) (k : Nat) : stOfListed (listed.setIfInBounds i true) k = ins (stOfListed listed) i k := by
  simp only [stOfListed, ins, Array.getD_eq_getD_getElem?, Array.getElem?_setIfInBounds]
  by_cases h : i = k
  · subst h; simp [hi]
  · have : Nat.beq k i = false := by cases hb : Nat.beq k i with | false => rfl | true => exact absurd (Nat.eq_of_beq_eq_true hb).symm h
    simp [h, this]

theorem count_set {listed : Array Bool} {i : Nat} (hi : i < listed.size) (h : stOfListed listed i = false) : (listed.setIfInBounds i true).toList.count false + 1 = listed.toList.count false := by
  have hi' : i < listed.toList.length := by simpa using hi
  have hv : listed.toList[i] = false := by
    simp only [stOfListed, Array.getD_eq_getD_getElem?, Array.getElem?_eq_getElem hi, Option.getD_some] at h
    simpa using h
  rw [Array.toList_setIfInBounds, List.count_set hi', hv]
  have : 0 < listed.toList.count false := List.count_pos_iff.2 (by rw [← hv]; exact List.getElem_mem hi')
  simp only [beq_self_eq_true, if_true]
  have hb : (true == false) = false := rfl
  simp only [hb, Bool.false_eq_true, if_false]
  omega

theorem all_of_count {listed : Array Bool} (h : listed.toList.count false = 0) {k : Nat} (hk : k < listed.size) : stOfListed listed k = true := by
  have := List.count_eq_zero.1 h
  cases hv : stOfListed listed k with
  | true => rfl
  | false =>
    simp only [stOfListed, Array.getD_eq_getD_getElem?, Array.getElem?_eq_getElem hk, Option.getD_some] at hv
    exact absurd (by rw [← hv]; exact Array.getElem_mem_toList hk) this

theorem all_of_ready {ops : Array Oper} {bm : List Nat} (hm : maskOk ops bm = true) {listed : Array Bool} (hsz : listed.size = ops.size) (hr : Region.ready .any ops listed = []) : ∀ k, k < ops.size → stOfListed listed k = true := by
  intro k
  induction k using Nat.strongRecOn with
  | _ k ih =>
    intro hk
    cases hv : stOfListed listed k with
    | true => rfl
    | false =>
      have : k ∈ Region.ready .any ops listed := (ready_mem hsz).2 ⟨hk, hv, fun e he hb => by
        have hl' := List.all_eq_true.1 hm k (by simpa using hk)
        simp only [Bool.and_eq_true] at hl'
        have hlt := List.all_eq_true.1 hl'.2 e (by simpa using he)
        simp only [hb, Bool.not_true, Bool.false_or, Nat.blt_eq] at hlt
        exact ih e.on hlt (by omega)⟩
      rw [hr] at this
      cases this

/-- ANY ORDER: the law of a region that draws. -/
theorem H_draw {K : Ctx} {st : St} {id : Nat} {ops : Array Oper} {Q : Exit → St → Prop} (es : List Ent) (bm : List Nat) (hok : opsOk K.nt ops = true) (hlen : Nat.beq es.length ops.size = true) (hm : maskOk ops bm = true)
    (hp : pairsOk ops bm 0 es = true) (hnv : es.all (fun e => nvOk e.nv e.ob) = true) (hfree : es.all (fun e => st.freeB e.nv) = true) (hs : AllSteps K ops 0 st es) (hq : Q .normal (seqAll ops 0 st es)) :
    H K st (.region id ops true) Q := by
  have hlen' : es.length = ops.size := Nat.eq_of_beq_eq_true hlen
  have key : ∀ (fuel : Nat) (listed : Array Bool) (a : Act) (w : World), listed.size = ops.size → (∀ l, l < ops.size → stOfListed listed l = true → Down ops (stOfListed listed) l) → listed.toList.count false = fuel →
      (∃ M, Sim1 K M (stg ops (stOfListed listed) st 0 es) a w) → wpAny K.P .any ops (Post K Q) fuel listed a w := by
    intro fuel
    induction fuel with
    | zero =>
      intro listed a w hsz hdn hc ⟨M, hsim⟩
      have hall : ∀ k, k < ops.size → stOfListed listed k = true := fun k hk => all_of_count hc (by omega)
      refine ⟨?_, M, _, hq, ?_⟩
      · rw [List.eq_nil_iff_forall_not_mem]
        intro i hi
        obtain ⟨h1, h2, _⟩ := (ready_mem hsz).1 hi
        rw [hall i h1] at h2
        cases h2
      · rw [← stg_true, ← stg_all (S := stOfListed listed) es 0 st fun j hj => by rw [Nat.zero_add]; exact hall j (by omega)]
        exact hsim
    | succ fuel ih =>
      intro listed a w hsz hdn hc ⟨M, hsim⟩
      refine ⟨fun hr => ⟨M, _, hq, ?_⟩, fun l hl => ?_⟩
      · rw [← stg_true, ← stg_all (S := stOfListed listed) es 0 st fun j hj => by rw [Nat.zero_add]; exact all_of_ready hm hsz hr j (by omega)]
        exact hsim
      · obtain ⟨hl1, hl2, hl3⟩ := (ready_mem hsz).1 hl
        obtain ⟨f, hf⟩ : ∃ f, es[l]? = some f := ⟨_, List.getElem?_eq_getElem (by omega)⟩
        have hanc : ∀ k, (bm.getD l 0).testBit k = true → stOfListed listed k = true := fun k => anc hm hdn l k hl1 hl3
        have hafter : ∀ k e, es[k]? = some e → l < k → stOfListed listed k = true → (bm.getD k 0).testBit l = false := fun k e he hlk hS => by
          cases hb : (bm.getD k 0).testBit l with
          | false => rfl
          | true =>
            have hk : k < ops.size := by rw [← hlen']; exact (List.getElem?_eq_some_iff.1 he).1
            rw [anc hm hdn k l hk (hdn k hk hS) hb] at hl2
            cases hl2
        have hpair : ∀ i j e g, i < j → es[i]? = some e → es[j]? = some g → pairOk ops bm i e j g = true := fun i j e g hij he hg => by
          have := pairsOk_get hp i j e g hij he hg
          simpa using this
        have hstep := hs.get l f hf
        rw [Nat.zero_add] at hstep
        -- what the operation looks at is what the text's order would show it
        have hag : Agree f.rs f.ro (stg ops (stOfListed listed) st 0 es) (stg ops (fun m => Nat.blt m l) st 0 es) := by
          refine stg_agree es 0 st st ⟨fun _ _ => rfl, fun _ _ => rfl⟩ fun k e he hne => ?_
          rw [Nat.zero_add] at hne ⊢
          have hkl : k ≠ l := by
            rintro rfl
            have : Nat.blt k k = false := Bool.eq_false_iff.2 fun h => by rw [Nat.blt_eq] at h; omega
            rw [hl2, this] at hne
            exact hne rfl
          have hc' : ∀ (c : Bool), (c = true → False) → c = false := fun c h => by cases c <;> simp_all
          rcases Nat.lt_or_gt_of_ne hkl with hlt | hgt
          · have hb : Nat.blt k l = true := by rw [Nat.blt_eq]; exact hlt
            have hS : stOfListed listed k = false := by cases hS : stOfListed listed k with | false => rfl | true => rw [hS, hb] at hne; exact absurd rfl hne
            have hpo := hpair k l e f hlt he hf
            have hbit : (bm.getD l 0).testBit k = false := hc' _ fun h => by rw [hanc k h] at hS; cases hS
            simp only [pairOk, hbit, Bool.false_or, Bool.and_eq_true, Bool.not_eq_true', confl, Bool.or_eq_false_iff] at hpo
            obtain ⟨⟨⟨⟨⟨⟨⟨c1, c2⟩, c3⟩, c4⟩, c5⟩, c6⟩, c7⟩, _⟩ := hpo
            refine ⟨fun s hs' hd => ?_, fun i hi => ?_⟩
            · rw [hd] at c1; simp [dstIn, memB_of hs'] at c1
            · cases hlk : look i e.ob with
              | none => rfl
              | some p => rw [meets_of (keys_of (by simp [hits, hlk])) hi] at c4; cases c4
          · have hb : Nat.blt k l = false := Bool.eq_false_iff.2 fun h => by rw [Nat.blt_eq] at h; omega
            have hS : stOfListed listed k = true := by cases hS : stOfListed listed k with | true => rfl | false => rw [hS, hb] at hne; exact absurd rfl hne
            have hpo := hpair l k f e hgt hf he
            have hbit := hafter k e he hgt hS
            simp only [pairOk, hbit, Bool.false_or, Bool.and_eq_true, Bool.not_eq_true', confl, Bool.or_eq_false_iff] at hpo
            obtain ⟨⟨⟨⟨⟨⟨⟨c1, c2⟩, c3⟩, c4⟩, c5⟩, c6⟩, c7⟩, _⟩ := hpo
            refine ⟨fun s hs' hd => ?_, fun i hi => ?_⟩
            · rw [hd] at c2; simp [dstIn, memB_of hs'] at c2
            · cases hlk : look i e.ob with
              | none => rfl
              | some p => rw [meets_of (keys_of (by simp [hits, hlk])) hi] at c5; cases c5
        have hsee : Sim K M ((stg ops (fun m => Nat.blt m l) st 0 es).only f.rs f.ro) a w :=
          ⟨hsim.1.inj, hsim.1.rng, hsim.1.below, hsim.1.area, hsim.1.size, hsim.1.defers,
            fun s x hx => by have := look_filterMap hx; exact hsim.1.slots s x (by rw [hag.slot s this.1]; exact this.2),
            fun i k o ho => by have := look_filterMap ho; exact hsim.1.objs i k o (by rw [hag.obj i this.1]; exact this.2)⟩
        -- behind it: the stage with this operation
        have hall : Alike (stg ops (ins (stOfListed listed) l) st 0 es) (appE ops l f (stg ops (stOfListed listed) st 0 es)) := by
          refine stg_ins es 0 st (Nat.zero_le _) (by simpa using hf) hl2 fun k e he hlk hS => ?_
          rw [Nat.zero_add] at hlk hS ⊢
          have hpo := hpair l k f e hlk hf he
          have hbit := hafter k e he hlk hS
          simp only [pairOk, hbit, Bool.false_or, Bool.and_eq_true, Bool.not_eq_true', confl, Bool.or_eq_false_iff] at hpo
          obtain ⟨⟨⟨⟨⟨⟨⟨c1, c2⟩, c3⟩, c4⟩, c5⟩, c6⟩, c7⟩, _⟩ := hpo
          refine ⟨fun s hd hd' => ?_, fun i hi => ?_⟩
          · rw [hd, hd'] at c3; simp [sameDst] at c3
          · cases hlk' : look i f.ob with
            | none => rfl
            | some p =>
              have h1 : hits e.ob i := by simp [hits, Option.isSome_iff_ne_none, hi]
              rw [meets_of (keys_of (by simp [hits, hlk'])) (keys_of h1)] at c6
              cases c6
        have hfr : (stg ops (stOfListed listed) st 0 es).free (newIn f.nv) := by
          refine stg_free es 0 st (St.free_of (List.all_eq_true.1 hfree f (List.mem_of_getElem? hf))) fun k e he hS => ?_
          rw [Nat.zero_add] at hS
          have hkl : k ≠ l := by rintro rfl; rw [hl2] at hS; cases hS
          rcases Nat.lt_or_gt_of_ne hkl with hlt | hgt
          · have hpo := hpair k l e f hlt he hf
            simp only [pairOk, Bool.and_eq_true] at hpo
            exact hpo.2
          · have hpo := hpair l k f e hgt hf he
            have hbit := hafter k e he hgt hS
            simp only [pairOk, hbit, Bool.false_or, Bool.and_eq_true, Bool.not_eq_true', confl, Bool.or_eq_false_iff] at hpo
            simpa using hpo.1.2
        have hnvl : nvOk f.nv f.ob = true := List.all_eq_true.1 hnv f (List.mem_of_getElem? hf)
        have hlsz : l < listed.size := by omega
        have hnext : ∀ a' w', (∃ M', Sim1 K M' (appE ops l f (stg ops (stOfListed listed) st 0 es)) a' w') → wpAny K.P .any ops (Post K Q) fuel (listed.setIfInBounds l true) a' w' := by
          rintro a' w' ⟨M', hM'⟩
          have hfun : stOfListed (listed.setIfInBounds l true) = ins (stOfListed listed) l := funext (listed_set hlsz)
          refine ih _ a' w' (by simpa using hsz) (fun k hk hS e he hb => ?_) (by have := count_set hlsz hl2; omega) ⟨M', ?_⟩
          · rw [hfun] at hS ⊢
            have hd : Down ops (stOfListed listed) k := by
              simp only [ins, Bool.or_eq_true] at hS
              rcases hS with hS | hS
              · exact hdn k hk hS
              · rw [Nat.eq_of_beq_eq_true hS]; exact hl3
            simp [ins, hd e he hb]
          · rw [hfun]; exact hM'.alike hall
        have hgd := fun b hg => gd_sound (b := b) (o := opAt ops l) hsee hg (opsOk_guard hok hl1) (opsOk_dst hok)
        unfold wpOp
        rw [opAt_some hl1]
        simp only []
        unfold StepE at hstep
        cases hrun : f.run with
        | true =>
          rw [hrun] at hstep
          obtain ⟨hg, hro, hst⟩ := hstep
          rw [hgd true hg]
          simp only [if_true]
          refine .inl (Oper.wp_any ?_ (fun _ _ _ hf => hf.elim) (hst M a w hsee fun i k hik => ?_))
          · rintro a' w' ⟨v, M', rfl, he, hx, ho, hv⟩
            exact hnext _ _ ⟨M', hsim.step he hx ho hv hnvl hfr (opsOk_dst hok l)⟩
          · by_cases hmem : i ∈ f.ro ∧ look i (stg ops (fun m => Nat.blt m l) st 0 es).objs ≠ none
            · left
              obtain ⟨hmem, hne⟩ := hmem
              cases hlk : look i (stg ops (fun m => Nat.blt m l) st 0 es).objs with
              | none => exact absurd hlk hne
              | some p =>
                have : ∀ ro : List Nat, i ∈ ro → (look i (ro.filterMap fun i => (look i (stg ops (fun m => Nat.blt m l) st 0 es).objs).map fun x => (i, x))).isSome = true := by
                  intro ro
                  induction ro with
                  | nil => intro h; cases h
                  | cons r ro ihr =>
                    intro hm'
                    simp only [List.filterMap_cons]
                    by_cases hri : r = i
                    · subst hri; simp [hlk, look_cons]
                    · have hm2 : i ∈ ro := by rcases List.mem_cons.1 hm' with h | h; exact absurd h.symm hri; exact h
                      cases hlr : look r (stg ops (fun m => Nat.blt m l) st 0 es).objs with
                      | none => exact ihr hm2
                      | some q => simp only [Option.map_some, look_cons, if_neg hri]; exact ihr hm2
                exact this f.ro hmem
            · by_cases hv : M.ver i = none
              · exact .inr hv
              · left
                have hh := hsim.2 i hv
                -- i is known to the stage; then the text's order knows it too, and 'ro' names it
                exfalso
                have hhit : hits f.ob i := nvOk_hits hnvl i k hik
                have hnone : look i (stg ops (stOfListed listed) st 0 es).objs = none := by
                  have hn : look i (stg ops (fun m => Nat.blt m l) st 0 es).objs = none := by
                    have := List.all_eq_true.1 hro (i, k) hik
                    simp only [Bool.or_eq_true, Option.isNone_iff_eq_none] at this
                    rcases this with h1 | h1
                    · simp only [List.any_eq_true] at h1
                      obtain ⟨y, hy, hy'⟩ := h1
                      have hyi := Nat.eq_of_beq_eq_true hy'
                      rw [← hyi] at hy
                      cases hlk : look i (stg ops (fun m => Nat.blt m l) st 0 es).objs with
                      | none => rfl
                      | some q => exact absurd ⟨hy, by rw [hlk]; simp⟩ hmem
                    · exact h1
                  obtain ⟨h0, hbef⟩ := stg_obj_some es 0 st hn
                  refine stg_obj_none es 0 st h0 fun j e he hS => ?_
                  rw [Nat.zero_add] at hS
                  have hjl : j ≠ l := by rintro rfl; rw [hl2] at hS; cases hS
                  rcases Nat.lt_or_gt_of_ne hjl with hlt | hgt
                  · exact hbef j e he (by rw [Nat.zero_add, Nat.blt_eq]; exact hlt)
                  · have hpo := hpair l j f e hgt hf he
                    have hbit := hafter j e he hgt hS
                    simp only [pairOk, hbit, Bool.false_or, Bool.and_eq_true, Bool.not_eq_true', confl, Bool.or_eq_false_iff] at hpo
                    obtain ⟨⟨⟨⟨⟨⟨⟨c1, c2⟩, c3⟩, c4⟩, c5⟩, c6⟩, c7⟩, _⟩ := hpo
                    cases hlk : look i e.ob with
                    | none => rfl
                    | some q => rw [meets_of (keys_of hhit) (keys_of (by simp [hits, hlk]))] at c6; cases c6
                simp [hits, hnone] at hh
        | false =>
          rw [hrun] at hstep
          obtain ⟨hg, hx, hob, hnv0⟩ := hstep
          rw [hgd false hg]
          simp only [Bool.false_eq_true, if_false]
          refine hnext _ _ ⟨M, ?_⟩
          unfold appE
          rw [hx, hob]
          refine hsim.step (nv := []) (ob := []) (w' := w) (M' := M) ?_ rfl (fun i k o h => by cases h) (fun i hi => .inl hi) rfl (freeNil _) (opsOk_dst hok l)
          exact ⟨fun _ _ h => .inr h, fun _ _ h _ => h, fun _ _ _ _ => rfl, fun _ _ _ h => (by cases h), hsim.1.inj, fun i k b h1 h2 => (hsim.1.rng i k b h1 h2).2, fun _ _ _ => rfl, fun b arr e h => ⟨arr, h, rfl⟩, Nat.le_refl _, rfl, rfl, rfl, rfl⟩
  intro M a w hsim
  refine wp_region_any K.mixed (key ops.size _ a _ (by simp) (fun l hl hS => ?_) (by simp) ⟨M, ?_⟩)
  · simp [stOfListed, hl] at hS
  · rw [stg_none _ _ _ _ _ fun m _ => by simp only [stOfListed, Array.getD_eq_getD_getElem?, Array.getElem?_replicate]; split <;> rfl]
    exact hsim.drew

end Go.SL
