/- Joins, loops, rows of the call's own that begin empty, rows spelt anew, names of objects exchanged. -/
import Derived.Test.YtfpgdgmcmkileaaDoorSl11
set_option linter.unusedVariables false
set_option linter.unusedSimpArgs false
namespace Go.SL
open Go.RowKit

section
variable {K : Ctx} {st : St} {Q : Exit → St → Prop}

/-- Ways that meet again: at each of them some 'i' of the join's parameters. -/
theorem R_join {c : Code} (x y : Code) (hc : c = .seq x y) {ι : Type} (S : ι → St) (J : ι → Prop) (hk : ∀ i, J i → H K (S i) y Q) (h : H K st x (thenQ Q fun st' => ∃ i, J i ∧ Sub (S i) st'.rev)) : H K st c Q := by
  refine R_seq x y hc (H_mono h ?_)
  intro e st' hq
  cases e with
  | normal => obtain ⟨i, hj, hs⟩ := hq; exact H_sub (S i) hs (hk i hj)
  | _ => exact hq

/-- What a loop comes to: it is left (block b) with 'o', or the function returns with 'v'. -/
def loopQ {ω ρ : Type} (b : Nat) (S : ω → St) (R : ρ → St → Prop) (res : ρ ⊕ ω) : Exit → St → Prop
  | .exit id, st => Nat.beq id b = true ∧ ∃ o, res = .inr o ∧ Sub (S o) st.rev
  | .ret, st => ∃ v, res = .inl v ∧ R v st
  | _, _ => False
def loopQ0 {ω : Type} (b : Nat) (S : ω → St) (res : ω) : Exit → St → Prop
  | .exit id, st => Nat.beq id b = true ∧ Sub (S res) st.rev
  | _, _ => False

theorem HL_mono {c : Code} {Q' : Exit → St → Prop} {n : Nat} (h : HL K c Q n st) (hq : ∀ e st, Q e st → Q' e st) : HL K c Q' n st := by
  induction n generalizing st with
  | zero => exact fun M a w hs => h M a w hs
  | succ n ih =>
    intro M a w hs
    have := h M a w hs
    rw [rounds_succ] at this ⊢
    refine wp_mono this ?_
    intro e a' w' hq'
    cases e with
    | normal =>
      have mono : ∀ n a w, Code.rounds K.P c (Post K Q) n a w → Code.rounds K.P c (Post K Q') n a w := by
        intro n
        induction n with
        | zero => intro a w h; exact h
        | succ n ihn =>
          intro a w h
          rw [rounds_succ] at h ⊢
          refine wp_mono h ?_
          intro e a' w' hx
          cases e with
          | normal => exact ihn _ _ hx
          | _ => exact Post.mono hq hx
      exact mono n _ _ hq'
    | _ => exact Post.mono hq hq'

/-- From one post to another, by way of what is known. -/
theorem H_post {c : Code} {Q' : Exit → St → Prop} (h : H K st c Q) (hq : ∀ e st, Q e st → Q' e st ∨ ∃ st', Q' e st' ∧ Sub st' st.rev) : H K st c Q' := by
  intro M a w hs
  refine wp_mono (h M a w hs) ?_
  rintro e a' w' ⟨M', st', hq', hs'⟩
  rcases hq e st' hq' with h1 | ⟨st2, h1, h2⟩
  · exact ⟨M', st', h1, hs'⟩
  · exact ⟨_, st2, h1, hs'.rev.sub h2⟩

/-- A loop in its block. -/
theorem R_loop0 {c : Code} (x : Code) (b : Nat) (hc : c = .block b (.loop x)) (n : Nat) {ω : Type} (S : ω → St) (res : ω) (hl : HL K x (loopQ0 b S res) n st) (hk : Q .normal (S res)) : H K st c Q := by
  subst hc
  have h1 : H K st (.block b (.loop x)) (fun e st' => match e with | .normal => Sub (S res) st'.rev | _ => False) := by
    refine H_block (H_loop n (HL_mono hl ?_))
    intro e st' hq
    cases e with
    | exit id =>
      obtain ⟨hb, hs⟩ := hq
      simp only [blockQ, hb, cond_true]
      exact hs
    | _ => exact hq.elim
  refine H_post h1 ?_
  intro e st' hq
  cases e with
  | normal => exact .inr ⟨S res, hk, hq⟩
  | _ => exact hq.elim

theorem R_loop1 {c : Code} (x : Code) (b : Nat) (hc : c = .block b (.loop x)) (n : Nat) {ω ρ : Type} (S : ω → St) (R : ρ → St → Prop) (res : ρ ⊕ ω) (hl : HL K x (loopQ b S R res) n st)
    (hr : ∀ v, res = .inl v → ∀ st', R v st' → Q .ret st') (hk : ∀ o, res = .inr o → Q .normal (S o)) : H K st c Q := by
  subst hc
  have h1 : H K st (.block b (.loop x)) (fun e st' => match e with | .normal => ∃ o, res = .inr o ∧ Sub (S o) st'.rev | .ret => Q .ret st' | _ => False) := by
    refine H_block (H_loop n (HL_mono hl ?_))
    intro e st' hq
    cases e with
    | exit id =>
      obtain ⟨hb, o, ho, hs⟩ := hq
      simp only [blockQ, hb, cond_true]
      exact ⟨o, ho, hs⟩
    | ret =>
      obtain ⟨v, hv, hr'⟩ := hq
      exact hr v hv st' hr'
    | normal => exact hq.elim
    | goto l => exact hq.elim
    | panic c => exact hq.elim
    | outgrown => exact hq.elim
  refine H_post h1 ?_
  intro e st' hq
  cases e with
  | normal => obtain ⟨o, ho, hs⟩ := hq; exact .inr ⟨S o, hk o ho, hs⟩
  | ret => exact .inl hq
  | exit id => exact hq.elim
  | goto l => exact hq.elim
  | panic c => exact hq.elim
  | outgrown => exact hq.elim

end

/-! ### A slice of the call's own that begins empty -/

def setL {α : Type} (l : List α) (j : Nat) (x : α) : List α := l.set j x

theorem Ext.intro {K : Ctx} {M : Mem} {st : St} {a : Act} {w : World} (h : Sim K M st a w) (id k : Nat) (o : O) : Ext M w (M.put id k none) w (hits [(id, (k, o))]) (newIn [(id, k)]) :=
  Ext.put h (fun b' hb => by cases hb) (fun _ _ _ => rfl) (fun c arr e hc => ⟨arr, hc, rfl⟩) (Nat.le_refl _) rfl rfl rfl

/-- A slot that holds an empty slice without room: from now on a row of the call's own. -/
theorem Sim1.own {K : Ctx} {M : Mem} {st : St} {a : Act} {w : World} (h : Sim1 K M st a w) (s id e sz : Nat) (f : Nat → List C) (hs : look s st.slots = some (.v (.one .emp))) (hf : st.freeB [(id, 0)] = true) (hlt : Nat.blt s K.nt = true) :
    Sim1 K (M.put id 0 none) (st.app (some s) (.v (.one (.own id 0 sz 0))) [(id, (0, .row e sz 0 f))]) a w := by
  have he := Ext.intro h.1 id 0 (.row e sz 0 f)
  have hv := h.1.slots s _ hs
  have hlt' : s < a.tmps.size := by rw [h.1.size]; simpa [Nat.blt_eq] using hlt
  have hput : a.put (some s) (a.tmps.getD s undef) = a := by
    have : a.tmps.setIfInBounds s (a.tmps.getD s undef) = a.tmps := by
      apply Array.ext
      · simp
      · intro i h1 h2
        rw [Array.getElem_setIfInBounds]
        split
        · rename_i hsi; subst hsi; simp
        · rfl
    simp only [Act.put, this]
  have := h.step (dst := some s) (nv := [(id, 0)]) (ob := [(id, (0, .row e sz 0 f))]) (x := .v (.one (.own id 0 sz 0))) (v := a.tmps.getD s undef) he ?_ ?_ put_ver (by simp [nvOk, look]) (St.free_of hf) ?_
  · rw [hput] at this; exact this
  · have hv' : IRep w M.imm .emp (a.tmps.getD s undef) := hv
    generalize a.tmps.getD s undef = u at hv'
    cases hv' with
    | emp b => exact .inl ⟨rfl, b, rfl⟩
  · intro i k o hl
    obtain ⟨rfl, rfl, rfl⟩ := look_one hl
    exact ⟨by simp [Mem.put], .inl ⟨by simp [Mem.put], rfl⟩⟩
  · intro d hd; cases hd; simpa [Nat.blt_eq] using hlt

theorem H_own {K : Ctx} {st : St} {c : Code} {Q : Exit → St → Prop} (s id e sz : Nat) (f : Nat → List C) (hs : (look s st.slots, st.freeB [(id, 0)], Nat.blt s K.nt) = (some (.v (.one .emp)), true, true))
    (h : H K (st.app (some s) (.v (.one (.own id 0 sz 0))) [(id, (0, .row e sz 0 f))]) c Q) : H K st c Q := by
  simp only [Prod.mk.injEq] at hs
  exact fun M a w hsim => h _ a w (hsim.own s id e sz f hs.1 hs.2.1 hs.2.2)

/-- The same for a cell of a box. -/
theorem Sim1.ownB {K : Ctx} {M : Mem} {st : St} {a : Act} {w : World} (h : Sim1 K M st a w) (bx kb eb j id e sz : Nat) (cs : List C) (f : Nat → List C) (hs : look bx st.objs = some (kb, .box eb cs)) (hj : cs[j]? = some .emp) (hf : st.freeB [(id, 0)] = true) (hne : Nat.beq bx id = false) :
    Sim1 K (M.put id 0 none) (st.app none .any [(bx, (kb, .box eb (cs.set j (.own id 0 sz 0)))), (id, (0, .row e sz 0 f))]) a w := by
  have hne' : bx ≠ id := fun h => by rw [h, Nat.beq_refl] at hne; cases hne
  obtain ⟨hver, b, arr, hb, hh, hc⟩ := h.1.objs bx kb _ hs
  have he1 := Ext.intro h.1 id 0 (.row e sz 0 f)
  have he : Ext M w (M.put id 0 none) w (hits [(bx, (kb, .box eb (cs.set j (.own id 0 sz 0)))), (id, (0, .row e sz 0 f))]) (newIn [(id, 0)]) :=
    ⟨he1.ver, fun i k hv hw => he1.keep i k hv fun hh => hw (by
        have := hits_one.1 hh
        unfold hits; rw [look_cons]; split
        · rfl
        · rw [look_cons, if_pos this.symm]; rfl), he1.blk, he1.fresh, he1.inj, he1.rng, fun _ _ _ => rfl, he1.shape, he1.size, he1.area, he1.os, he1.tape, he1.output⟩
  have hfree := St.free_of hf
  refine h.step (dst := none) (nv := [(id, 0)]) (ob := [(bx, (kb, .box eb (cs.set j (.own id 0 sz 0)))), (id, (0, .row e sz 0 f))]) (x := .any) (v := undef) he trivial ?_ ?_ ?_ hfree (fun d hd => by cases hd)
  · intro i k o ho
    rw [look_cons] at ho
    split at ho
    · rename_i hi
      cases ho
      subst hi
      refine ⟨by simp only [Mem.put, hne', if_false]; exact hver, b, arr, by simp only [Mem.put, hne', if_false]; exact hb, hh, by simpa using hc.1, fun l hl => ?_⟩
      have hl' : l < cs.length := by simpa using hl
      by_cases hlj : l = j
      · subst hlj
        have h1 := hc.2 l hl'
        have h2 : cs.getD l .unk = .emp := by rw [List.getD_eq_getElem?_getD, hj]; rfl
        rw [h2] at h1
        rw [List.getD_eq_getElem?_getD, List.getElem?_set_self hl', Option.getD_some]
        generalize arr.getD l undef = u at h1
        cases h1 with
        | emp q => exact .inl ⟨rfl, q, rfl⟩
      · have h1 := hc.2 l hl'
        have hcf : (cs.getD l .unk).free (newIn [(id, 0)]) := hfree.2 bx kb _ hs _ (getD_mem hl')
        rw [List.getD_eq_getElem?_getD, List.getElem?_set_ne (Ne.symm hlj), ← List.getD_eq_getElem?_getD]
        exact he.crep hcf h1
    · obtain ⟨rfl, rfl, rfl⟩ := look_one ho
      exact ⟨by simp [Mem.put], .inl ⟨by simp [Mem.put], rfl⟩⟩
  · intro i hi
    by_cases h' : i = id
    · right
      unfold hits; rw [look_cons]; split
      · rfl
      · rw [look_cons, if_pos h'.symm]; rfl
    · exact .inl (by simpa [Mem.put, h'] using hi)
  · simp only [nvOk, List.all_cons, List.all_nil, Bool.and_true, look_cons]
    rw [if_neg hne']; simp

theorem H_ownB {K : Ctx} {st : St} {c : Code} {Q : Exit → St → Prop} (bx kb eb j id e sz : Nat) (cs : List C) (f : Nat → List C) (hs : (look bx st.objs, cs[j]?, st.freeB [(id, 0)], Nat.beq bx id) = (some (kb, .box eb cs), some .emp, true, false))
    (h : H K (st.app none .any [(bx, (kb, .box eb (cs.set j (.own id 0 sz 0)))), (id, (0, .row e sz 0 f))]) c Q) : H K st c Q := by
  simp only [Prod.mk.injEq] at hs
  exact fun M a w hsim => h _ a w (hsim.ownB bx kb eb j id e sz cs f hs.1 hs.2.1 hs.2.2.1 hs.2.2.2)

theorem HOps_own {K : Ctx} {st : St} {ops : Array Oper} {i : Nat} {Q : Exit → St → Prop} (s id e sz : Nat) (f : Nat → List C) (hs : (look s st.slots, st.freeB [(id, 0)], Nat.blt s K.nt) = (some (.v (.one .emp)), true, true))
    (h : HOps K ops i (st.app (some s) (.v (.one (.own id 0 sz 0))) [(id, (0, .row e sz 0 f))]) Q) : HOps K ops i st Q := by
  simp only [Prod.mk.injEq] at hs
  exact fun M a w hsim => h _ a w (hsim.own s id e sz f hs.1 hs.2.1 hs.2.2)
theorem HOps_ownB {K : Ctx} {st : St} {ops : Array Oper} {i : Nat} {Q : Exit → St → Prop} (bx kb eb j id e sz : Nat) (cs : List C) (f : Nat → List C) (hs : (look bx st.objs, cs[j]?, st.freeB [(id, 0)], Nat.beq bx id) = (some (kb, .box eb cs), some .emp, true, false))
    (h : HOps K ops i (st.app none .any [(bx, (kb, .box eb (cs.set j (.own id 0 sz 0)))), (id, (0, .row e sz 0 f))]) Q) : HOps K ops i st Q := by
  simp only [Prod.mk.injEq] at hs
  exact fun M a w hsim => h _ a w (hsim.ownB bx kb eb j id e sz cs f hs.1 hs.2.1 hs.2.2.1 hs.2.2.2)

/-- A row, spelt anew. -/
theorem Sim1.respell {K : Ctx} {M : Mem} {st : St} {a : Act} {w : World} (h : Sim1 K M st a w) (id k e sz n n' : Nat) (f f' : Nat → List C) (hl : look id st.objs = some (k, .row e sz n f)) (hn' : n' ≤ n) (hf : ∀ i, i < n' → f' i = f i) :
    Sim1 K M (st.app none .any [(id, (k, .row e sz n' f'))]) a w := by
  have he : Ext M w M w (hits [(id, (k, .row e sz n' f'))]) (newIn []) :=
    ⟨fun _ _ h => .inr h, fun _ _ h _ => h, fun _ _ _ _ => rfl, fun _ _ _ h => (by cases h), h.1.inj, fun i k b h1 h2 => (h.1.rng i k b h1 h2).2, fun _ _ _ => rfl, fun b arr e h => ⟨arr, h, rfl⟩, Nat.le_refl _, rfl, rfl, rfl, rfl⟩
  refine h.step (dst := none) (nv := []) (ob := [(id, (k, .row e sz n' f'))]) (x := .any) (v := undef) he trivial ?_ (fun i hi => .inl hi) rfl (freeNil st) (fun d hd => by cases hd)
  intro i k' o ho
  obtain ⟨rfl, rfl, rfl⟩ := look_one ho
  obtain ⟨hver, hr⟩ := h.1.objs _ _ _ hl
  refine ⟨hver, ?_⟩
  rcases hr with ⟨h0, h1⟩ | ⟨b, arr, hb, hh, hn, hc⟩
  · exact .inl ⟨h0, by omega⟩
  · exact .inr ⟨b, arr, hb, hh, Nat.le_trans (Nat.mul_le_mul_right _ hn') hn, fun i hi => by rw [hf i hi]; exact hc i (by omega)⟩

theorem HOps_respell {K : Ctx} {st : St} {ops : Array Oper} {j : Nat} {Q : Exit → St → Prop} (id k e sz n n' : Nat) (f f' : Nat → List C) (hl : look id st.objs = some (k, .row e sz n f)) (hn' : n' ≤ n) (hf : ∀ i, i < n' → f' i = f i)
    (h : HOps K ops j (st.app none .any [(id, (k, .row e sz n' f'))]) Q) : HOps K ops j st Q := fun M a w hsim => h M a w (hsim.respell id k e sz n n' f f' hl hn' hf)
theorem H_respell {K : Ctx} {st : St} {c : Code} {Q : Exit → St → Prop} (id k e sz n n' : Nat) (f f' : Nat → List C) (hl : look id st.objs = some (k, .row e sz n f)) (hn' : n' ≤ n) (hf : ∀ i, i < n' → f' i = f i)
    (h : H K (st.app none .any [(id, (k, .row e sz n' f'))]) c Q) : H K st c Q := fun M a w hsim => h M a w (hsim.respell id k e sz n n' f f' hl hn' hf)

/-! ### The names of two objects exchanged -/

def swp (i j x : Nat) : Nat := bif Nat.beq x i then j else bif Nat.beq x j then i else x
theorem beq_dec (a b : Nat) : Nat.beq a b = decide (a = b) := by
  by_cases h : a = b
  · subst h; simp
  · simp only [h, decide_false]; cases hb : Nat.beq a b with | false => rfl | true => exact absurd (Nat.eq_of_beq_eq_true hb) h
theorem swp_eq (i j x : Nat) : swp i j x = if x = i then j else if x = j then i else x := by
  simp only [swp, beq_dec, Bool.cond_decide]
theorem swp_swp (i j x : Nat) : swp i j (swp i j x) = x := by
  simp only [swp_eq]
  by_cases h1 : x = i
  · subst h1
    simp only [if_true]
    by_cases h3 : j = x
    · rw [if_pos h3]; exact h3
    · rw [if_neg h3]
  · simp only [h1, if_false]
    by_cases h2 : x = j
    · subst h2; simp
    · simp only [h2, if_false, h1]

def C.swp (i j : Nat) : C → C
  | .own id k sz len => .own (SL.swp i j id) k sz len
  | .bptr id k l => .bptr (SL.swp i j id) k l
  | .rptr id k sz m l => .rptr (SL.swp i j id) k sz m l
  | c => c
def V1.swp (i j : Nat) : V1 → V1
  | .one c => .one (c.swp i j)
  | .agg cs => .agg (cs.map (C.swp i j))
def V.swp (i j : Nat) : V → V
  | .v x => .v (x.swp i j)
  | .tup xs => .tup (xs.map (V1.swp i j))
  | x => x
def O.swp (i j : Nat) : O → O
  | .box e cs => .box e (cs.map (C.swp i j))
  | o => o
def St.swp (i j : Nat) (st : St) : St := { slots := st.slots.map fun p => (p.1, p.2.swp i j), objs := st.objs.map fun p => (SL.swp i j p.1, (p.2.1, p.2.2.swp i j)) }
def Mem.swp (i j : Nat) (M : Mem) : Mem := { ver := fun x => M.ver (SL.swp i j x), blk := fun x => M.blk (SL.swp i j x), A := M.A }

section
variable {M : Mem} {w : World} {i j : Nat}

theorem swp_imm {b : Nat} : (M.swp i j).imm b ↔ M.imm b := by
  refine ⟨fun h => ⟨h.1, fun ⟨x, k, hv, hb⟩ => h.2 ⟨SL.swp i j x, k, ?_, ?_⟩⟩, fun h => ⟨h.1, fun ⟨x, k, hv, hb⟩ => h.2 ⟨SL.swp i j x, k, hv, hb⟩⟩⟩
  · simp only [Mem.swp, swp_swp]; exact hv
  · simp only [Mem.swp, swp_swp]; exact hb

theorem swp_irep {c : C} {v : Value} (h : IRep w M.imm c v) : IRep w (M.swp i j).imm c v := h.move (fun _ _ _ => rfl) fun _ hb _ => swp_imm.2 hb

theorem swp_crep {c : C} {v : Value} (h : CRep w M c v) : CRep w (M.swp i j) (c.swp i j) v := by
  cases c with
  | own id k sz len =>
    rcases h with h0 | ⟨b, cap, h1, h2, h3, hx⟩
    · exact .inl h0
    · exact .inr ⟨b, cap, h1, h2, h3, fun hv => by simp only [Mem.swp, swp_swp] at hv ⊢; exact hx hv⟩
  | bptr id k l => obtain ⟨b, h1, hx⟩ := h; exact ⟨b, h1, fun hv => by simp only [Mem.swp, swp_swp] at hv ⊢; exact hx hv⟩
  | rptr id k sz m l => obtain ⟨b, h1, hx⟩ := h; exact ⟨b, h1, fun hv => by simp only [Mem.swp, swp_swp] at hv ⊢; exact hx hv⟩
  | unk => exact h
  | val v => exact swp_irep h
  | emp => exact swp_irep h
  | lst n f => exact swp_irep h
  | lptr cs => exact swp_irep h
  | aptr n sz f => exact swp_irep h

theorem swp_csrep {cs : List C} {vs : Array Value} (h : CsRep w M cs vs) : CsRep w (M.swp i j) (cs.map (C.swp i j)) vs := by
  refine ⟨by simpa using h.1, fun l hl => ?_⟩
  have hl' : l < cs.length := by simpa using hl
  have := swp_crep (i := i) (j := j) (h.2 l hl')
  simpa only [List.getD_eq_getElem?_getD, List.getElem?_map, List.getElem?_eq_getElem hl', Option.map_some, Option.getD_some] using this
theorem swp_v1rep {x : V1} {v : Value} (h : V1Rep w M x v) : V1Rep w (M.swp i j) (x.swp i j) v := by
  cases x with
  | one c => exact swp_crep h
  | agg cs => obtain ⟨vs, hv, hr⟩ := h; exact ⟨vs, hv, swp_csrep hr⟩
theorem swp_vrep {x : V} {v : Value} (h : VRep w M x v) : VRep w (M.swp i j) (x.swp i j) v := by
  cases x with
  | any => trivial
  | undef => exact h
  | v x => exact swp_v1rep h
  | tup xs =>
    obtain ⟨vs, hv, hl, hr⟩ := h
    refine ⟨vs, hv, by simpa using hl, fun l hl => ?_⟩
    have hl' : l < xs.length := by simpa using hl
    have := swp_v1rep (i := i) (j := j) (hr l hl')
    simpa only [List.getD_eq_getElem?_getD, List.getElem?_map, List.getElem?_eq_getElem hl', Option.map_some, Option.getD_some] using this
theorem swp_orep {id k : Nat} {o : O} (h : ORep w M id k o) : ORep w (M.swp i j) (SL.swp i j id) k (o.swp i j) := by
  cases o with
  | box e cs =>
    obtain ⟨hv, b, arr, hb, hh, hr⟩ := h
    exact ⟨by simp only [Mem.swp, swp_swp]; exact hv, b, arr, by simp only [Mem.swp, swp_swp]; exact hb, hh, swp_csrep hr⟩
  | row e sz n f =>
    obtain ⟨hv, hr⟩ := h
    refine ⟨by simp only [Mem.swp, swp_swp]; exact hv, ?_⟩
    rcases hr with ⟨h0, h1⟩ | ⟨b, arr, hb, hh, hn, hc⟩
    · exact .inl ⟨by simp only [Mem.swp, swp_swp]; exact h0, h1⟩
    · exact .inr ⟨b, arr, by simp only [Mem.swp, swp_swp]; exact hb, hh, hn, fun m hm => ⟨(hc m hm).1, fun q hq => swp_irep ((hc m hm).2 q hq)⟩⟩
end

theorem look_swp {β γ : Type} (f : β → γ) (i j s : Nat) (l : List (Nat × β)) : look s (l.map fun p => (swp i j p.1, f p.2)) = (look (swp i j s) l).map f := by
  induction l with
  | nil => rfl
  | cons p l ih =>
    obtain ⟨k, x⟩ := p
    simp only [List.map_cons, look_cons, ih]
    by_cases h : swp i j k = s
    · have : k = swp i j s := by rw [← h, swp_swp]
      rw [if_pos h, if_pos this]; rfl
    · have : ¬ k = swp i j s := fun e => h (by rw [e, swp_swp])
      rw [if_neg h, if_neg this]

theorem Sim1.swap {K : Ctx} {M : Mem} {st : St} {a : Act} {w : World} (h : Sim1 K M st a w) (i j : Nat) : Sim1 K (M.swp i j) (st.swp i j) a w := by
  have hs := h.1
  refine ⟨⟨fun x y k l b hx hy hbx hby => ?_, fun x k b hv hb => hs.rng _ k b hv hb, hs.below, hs.area, hs.size, hs.defers, fun s x hx => ?_, fun x k o ho => ?_⟩, fun x hx => ?_⟩
  · have := hs.inj _ _ k l b hx hy hbx hby
    have h2 := congrArg (swp i j) this
    rwa [swp_swp, swp_swp] at h2
  · have : look s (st.slots.map fun p => (p.1, p.2.swp i j)) = some x := hx
    rw [look_map (V.swp i j), Option.map_eq_some_iff] at this
    obtain ⟨y, hy, rfl⟩ := this
    exact swp_vrep (hs.slots s y hy)
  · have : look x (st.objs.map fun p => (swp i j p.1, (p.2.1, p.2.2.swp i j))) = some (k, o) := ho
    rw [look_swp (fun q : Nat × O => (q.1, q.2.swp i j)), Option.map_eq_some_iff] at this
    obtain ⟨⟨k', o'⟩, hy, he⟩ := this
    cases he
    have := swp_orep (i := i) (j := j) (hs.objs _ k' o' hy)
    rwa [swp_swp] at this
  · have := h.2 (swp i j x) hx
    unfold hits at this ⊢
    show (look x (st.objs.map fun p => (swp i j p.1, (p.2.1, p.2.2.swp i j)))).isSome = true
    rw [look_swp (fun q : Nat × O => (q.1, q.2.swp i j)), Option.isSome_map]
    exact this

theorem H_swap {K : Ctx} {st : St} {c : Code} {Q : Exit → St → Prop} (i j : Nat) (h : H K (st.swp i j) c Q) : H K st c Q := fun _ a w hsim => h _ a w (hsim.swap i j)

/-! ### Words of the models -/

def inb (i : Int) (n : Nat) : Bool := decide (0 ≤ i ∧ i < (n : Int))
def nz (b : Int) : Bool := decide (b ≠ 0)
def room (n bytes : Nat) : Bool := decide (n * bytes ≤ 140737488355328)
def mkOk (z : Int) (bytes : Nat) : Bool := decide (0 ≤ z ∧ (bytes : Int) * z ≤ 140737488355328 ∧ z ≤ 9223372036854775807)
def slOk (lo hi : Int) (n : Nat) : Bool := decide (0 ≤ lo ∧ lo ≤ hi ∧ hi ≤ (n : Int))
theorem bif_n {α : Type} {c : Bool} {A : Option α} {r : α} (h : (bif c then A else none) = some r) : c = true ∧ A = some r := by
  cases c
  · cases h
  · exact ⟨rfl, h⟩
theorem inb_of {i : Int} {n : Nat} (h : inb i n = true) : 0 ≤ i ∧ i < (n : Int) := of_decide_eq_true h
theorem nz_of {b : Int} (h : nz b = true) : b ≠ 0 := of_decide_eq_true h
theorem room_of {n b : Nat} (h : room n b = true) : n * b ≤ 140737488355328 := of_decide_eq_true h
theorem mkOk_of {z : Int} {b : Nat} (h : mkOk z b = true) : 0 ≤ z ∧ (b : Int) * z ≤ 140737488355328 ∧ z ≤ 9223372036854775807 := of_decide_eq_true h
theorem slOk_of {lo hi : Int} {n : Nat} (h : slOk lo hi n = true) : 0 ≤ lo ∧ lo ≤ hi ∧ hi ≤ (n : Int) := of_decide_eq_true h
theorem bind_s {α β : Type} {x : Option α} {f : α → Option β} {r : β} (h : x.bind f = some r) : ∃ a, x = some a ∧ f a = some r := Option.bind_eq_some_iff.1 h

def w64 (n : Int) : Int := IntKind.i64.wrap n
def imax (a b : Int) : Int := if b > a then b else a
def imin (a b : Int) : Int := if b < a then b else a
theorem toNat_lt {z : Int} {n : Nat} (h : 0 ≤ z ∧ z < (n : Int)) : z.toNat < n := by omega
theorem lit_zero {f' f : Nat → List C} : ∀ m, m < 0 → f' m = f m := fun m hm => by omega
theorem lit_succ {f' f : Nat → List C} {n : Nat} (h : ∀ m, m < n → f' m = f m) (hn : f' n = f n) : ∀ m, m < n + 1 → f' m = f m := fun m hm => by
  by_cases he : m = n
  · subst he; exact hn
  · exact h m (by omega)
theorem J_mk {ι : Type} {S : ι → St} {J : ι → Prop} {st : St} (i : ι) (hj : J i) (h1 : (S i).slots.map (fun p => look p.1 st.rev.slots) = (S i).slots.map fun p => some p.2) (h2 : (S i).objs.map (fun p => look p.1 st.rev.objs) = (S i).objs.map fun p => some p.2) : ∃ i, J i ∧ Sub (S i) st.rev := ⟨i, hj, h1, h2⟩
theorem ret_mk {P : Program} {fn : Func} {x : V} {ob : List (Nat × (Nat × O))} {st : St} (h1 : retV P st.rev fn.results.toList = some x) (h2 : ob.map (fun p => look p.1 st.rev.objs) = ob.map fun p => some p.2) : RetQ P fn x ob .ret st := ⟨h1, h2⟩
theorem HL_enter {K : Ctx} {st : St} {c : Code} {Q : Exit → St → Prop} {n : Nat} (st' : St) (h1 : st'.slots.map (fun p => look p.1 st.rev.slots) = st'.slots.map fun p => some p.2) (h2 : st'.objs.map (fun p => look p.1 st.rev.objs) = st'.objs.map fun p => some p.2) (h : HL K c Q n st') : HL K c Q n st := HL_sub st' ⟨h1, h2⟩ h
theorem L0_mk {ω : Type} {b : Nat} {S : ω → St} {res : ω} {st : St} (h1 : (S res).slots.map (fun p => look p.1 st.rev.slots) = (S res).slots.map fun p => some p.2) (h2 : (S res).objs.map (fun p => look p.1 st.rev.objs) = (S res).objs.map fun p => some p.2) : loopQ0 b S res (.exit b) st := ⟨Nat.beq_refl b, h1, h2⟩
theorem L1_mk {ω ρ : Type} {b : Nat} {S : ω → St} (o : ω) {st : St} (h1 : (S o).slots.map (fun p => look p.1 st.rev.slots) = (S o).slots.map fun p => some p.2) (h2 : (S o).objs.map (fun p => look p.1 st.rev.objs) = (S o).objs.map fun p => some p.2) : Nat.beq b b = true ∧ ∃ o', (Sum.inr o : ρ ⊕ ω) = .inr o' ∧ Sub (S o') st.rev := ⟨Nat.beq_refl b, o, rfl, h1, h2⟩
theorem L1_ret {ω ρ : Type} {R : ρ → St → Prop} (v : ρ) {st : St} (h : R v st) : ∃ v', (Sum.inl v : ρ ⊕ ω) = .inl v' ∧ R v' st := ⟨v, rfl, h⟩
theorem elim_s {α β γ : Type} {f : α → Option γ} {g : β → Option γ} {s : α ⊕ β} {r : γ} (h : Sum.elim f g s = some r) : (∃ v, s = .inl v ∧ f v = some r) ∨ ∃ o, s = .inr o ∧ g o = some r := by
  cases s with
  | inl v => exact .inl ⟨v, rfl, h⟩
  | inr o => exact .inr ⟨o, rfl, h⟩

/-- A typed immutable slice. -/
def tl {α : Type} (enc : α → List C) (d : α) (l : List α) : C := .lst l.length (rowf enc d l)

theorem rowf_append {α : Type} (enc : α → List C) (d : α) (l r : List α) : ∀ j, j < l.length + r.length → rowf enc d (l ++ r) j = if j < l.length then rowf enc d l j else rowf enc d r (j - l.length) := fun j _ => by
  unfold rowf
  simp only [List.getD_eq_getElem?_getD]
  by_cases h : j < l.length
  · rw [if_pos h, List.getElem?_append_left h]
  · rw [if_neg h, List.getElem?_append_right (by omega)]

/-- The row of the first 'len' elements, with more behind them. -/
theorem rowf_app {α : Type} (enc : α → List C) (d : α) (l r : List α) (n m : Nat) (hn : l.length = n) (hm : r.length = m) : ∀ j, j < n + m → rowf enc d (l ++ r) j = if j < n then rowf enc d l j else rowf enc d r (j - n) := by
  subst hn hm; exact rowf_append enc d l r

theorem rowf_set {α : Type} (enc : α → List C) (d x : α) (l : List α) (n i j : Nat) (xs : List C) (hn : l.length = n) (hx : enc x = splice (enc (l.getD i d)) j xs) : ∀ m, m < n → rowf enc d (l.set i x) m = if m = i then splice (rowf enc d l i) j xs else rowf enc d l m := fun m hm => by
  unfold rowf
  simp only [List.getD_eq_getElem?_getD] at hx ⊢
  by_cases h : m = i
  · subst h
    rw [if_pos rfl, List.getElem?_set_self (by omega), ← hx]
    rfl
  · rw [if_neg h, List.getElem?_set_ne (Ne.symm h)]

theorem rowf_rep {α : Type} (enc : α → List C) (d x : α) (n : Nat) (cs : List C) (hx : enc x = cs) : ∀ m, m < n → rowf enc d (List.replicate n x) m = cs := fun m hm => by
  unfold rowf
  rw [List.getD_eq_getElem?_getD, List.getElem?_replicate, if_pos hm]
  exact hx

theorem len_app {α : Type} {l r : List α} {n m : Nat} (h1 : l.length = n) (h2 : r.length = m) : (l ++ r).length = n + m := by rw [List.length_append, h1, h2]
theorem len_set {α : Type} {l : List α} {n i : Nat} {x : α} (h : l.length = n) : (l.set i x).length = n := by rw [List.length_set, h]
theorem len_rep {α : Type} {n : Nat} {x : α} : (List.replicate n x).length = n := List.length_replicate
theorem len_take {α : Type} {l : List α} {n n' : Nat} (h : l.length = n) (hn : n' ≤ n) : (l.take n').length = n' := by rw [List.length_take, h]; omega
theorem rowf_take {α : Type} (enc : α → List C) (d : α) (l : List α) (n' : Nat) : ∀ i, i < n' → rowf enc d (l.take n') i = rowf enc d l i := fun i hi => by
  unfold rowf
  simp only [List.getD_eq_getElem?_getD, List.getElem?_take, hi, if_true]

def e_i64 (n : Int) : List C := [.val (.int .i64 n)]
def e_u8 (n : Int) : List C := [.val (.int .u8 n)]
def e_bool (b : Bool) : List C := [.val (.bool b)]
def e_str (b : ByteArray) : List C := [.val (.string b)]
def e_lst {α : Type} [Inhabited α] (enc : α → List C) (l : List α) : List C := [tl enc default l]
@[irreducible] def FUEL : Nat := 4611686018427387904

end Go.SL
namespace Go.SL
open Go.RowKit

theorem eq_nil {P : Program} {w : World} {t e : TypeId} (ht : P.underlying t = some (.slice e)) (d : Nat) (a : Option Addr) (n c : Nat) : (Op.equalIn (d + 1) t (.slice a n c) (.slice none 0 0)).run P w = .ok a.isNone w := by
  cases a <;> simp [Op.equalIn, run_underlying ht]

theorem bin_nil {P : Program} {w : World} {t e : TypeId} (ht : P.underlying t = some (.slice e)) (a : Option Addr) (n c : Nat) (x y : Operand) :
    (do eqGuard .eql t x y (.slice a n c) (.slice none 0 0); binOp .eql t (.slice a n c) (.slice none 0 0) : Sem Value).run P w = .ok (.bool a.isNone) w := by
  have he : (Op.equal t (.slice a n c) (.slice none 0 0)).run P w = .ok a.isNone w := eq_nil ht 9999 a n c
  have hg : (eqGuard .eql t x y (.slice a n c) (.slice none 0 0)).run P w = .ok () w := rfl
  rw [Sem.run_bind, hg]
  show ((do pure (.bool (← Op.equal t (.slice a n c) (.slice none 0 0)))) : Sem Value).run P w = _
  rw [Sem.run_bind, he]
  rfl

/-- 's == nil': true at most where s is empty. -/
theorem HOps_nil {K : Ctx} {ops : Array Oper} {i : Nat} {st : St} {Q : Exit → St → Prop} (hok : opsOk K.nt ops = true) (t t' : TypeId) (e : TypeId) (x : Operand) (n : Nat) (f : Nat → List C)
    (hg : (gd ops st (opAt ops i), Nat.blt i ops.size, (opAt ops i).op, op1 K.globs st x, K.P.underlying t) = (some true, true, .binOp .eql t x (.const (.slice none 0 0)) t', some (.one (.lst n f)), some (.slice e)))
    (h : ∀ b : Bool, (b = true → n = 0) → HOps K ops (i + 1) (st.app (opAt ops i).dst (boolV b) []) Q) : HOps K ops i st Q := by
  simp only [Prod.mk.injEq] at hg
  obtain ⟨h1, h2, h3, h4, h5⟩ := hg
  intro M a w hs
  have hv : IRep w M.imm (.lst n f) (a.eval x) := op1_rep hs.1 h4
  have key : ∃ b : Bool, (b = true → n = 0) ∧ (execOp a.eval (opAt ops i)).run K.P w = .ok (.value (.bool b)) w := by
    have hgen : ∀ u, IRep w M.imm (.lst n f) u → ∃ b : Bool, (b = true → n = 0) ∧ (do eqGuard .eql t x (.const (.slice none 0 0)) u (.slice none 0 0); binOp .eql t u (.slice none 0 0) : Sem Value).run K.P w = .ok (.bool b) w := by
      intro u hu
      cases hu with
      | lst0 b => exact ⟨b.isNone, fun _ => rfl, bin_nil h5 b 0 0 _ _⟩
      | lst b o n cap sz f g hn hm hl hb hc hr => exact ⟨false, fun hb => (by cases hb), bin_nil h5 (some ⟨b, o, none⟩) n cap _ _⟩
    obtain ⟨b, hb, hr⟩ := hgen _ hv
    refine ⟨b, hb, ?_⟩
    unfold execOp
    rw [h3]
    exact run_v hr
  obtain ⟨b, hb, hrun⟩ := key
  have hi' : i < ops.size := by simpa [Nat.blt_eq] using h2
  rw [range'_cons hi']
  simp only [wpOps, opAt_some hi', gd_sound hs.1 h1 (opsOk_guard hok hi') (opsOk_dst hok), if_true]
  refine .inl ?_
  unfold Oper.wp
  rw [hrun]
  exact h b hb M _ w (hs.step (nv := []) (ob := []) (x := boolV b) (v := .bool b) (Ext.same hs.1 rfl rfl rfl rfl) (v1_mk _ rfl) (fun i k o h => by cases h) (fun i hi => .inl hi) rfl (freeNil st) (opsOk_dst hok i))
end Go.SL
