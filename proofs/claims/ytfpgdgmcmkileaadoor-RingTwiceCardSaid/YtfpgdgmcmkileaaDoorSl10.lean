/- Calls; slices handed on or kept. -/
import Derived.Test.YtfpgdgmcmkileaaDoorSl9
set_option linter.unusedVariables false
set_option linter.unusedSimpArgs false
namespace Go.SL
open Go.RowKit

/-- An argument as the callee sees it: a slice of the caller's own is a slice that does not change. -/
def C.view (st : St) : C → Option (C × Prop)
  | .own id k sz len => match look id st.objs with | some (k', .row _ sz' n f) => bif Nat.beq k k' && Nat.beq sz sz' && Nat.blt 0 sz then some (.lst len f, len ≤ n) else none | _ => none
  | .val v => some (.val v, True)
  | .emp => some (.emp, True)
  | .lst n f => some (.lst n f, True)
  | _ => none
def viewL (st : St) : List C → Option (List C × Prop)
  | [] => some ([], True)
  | c :: r => match c.view st, viewL st r with | some (d, p), some (ds, q) => some (d :: ds, p ∧ q) | _, _ => none
def V1.view (st : St) : V1 → Option (V1 × Prop)
  | .one c => match c.view st with | some (d, p) => some (.one d, p) | none => none
  | .agg cs => match viewL st cs with | some (ds, p) => some (.agg ds, p) | none => none
def viewAll (st : St) : List V1 → Option (List V1 × Prop)
  | [] => some ([], True)
  | x :: r => match x.view st, viewAll st r with | some (y, p), some (ys, q) => some (y :: ys, p ∧ q) | _, _ => none

section
variable {K : Ctx} {M : Mem} {st : St} {a : Act} {w : World}

theorem view_irep (h : Sim K M st a w) {c d : C} {p : Prop} {v : Value} (hc : CRep w M c v) (hv : c.view st = some (d, p)) (hp : p) : IRep w (fun _ => True) d v := by
  have triv : ∀ {c : C} {v : Value}, IRep w M.imm c v → IRep w (fun _ => True) c v := fun hr => hr.move (fun _ _ _ => rfl) fun _ _ _ => trivial
  unfold C.view at hv
  split at hv
  · rename_i id k sz len
    split at hv
    · rename_i k' e sz' n f hl
      cases hk : Nat.beq k k' && Nat.beq sz sz' && Nat.blt 0 sz with
      | false => rw [hk] at hv; cases hv
      | true =>
        rw [hk] at hv
        cases hv
        simp only [Bool.and_eq_true, Nat.blt_eq] at hk
        have hkk := Nat.eq_of_beq_eq_true hk.1.1
        have hss := Nat.eq_of_beq_eq_true hk.1.2
        subst hkk hss
        obtain ⟨hver, hrow⟩ := h.objs id k _ hl
        rcases hc with ⟨h0, b, rfl⟩ | ⟨b, cap, rfl, h1, h2, hx⟩
        · subst h0; exact .lst0 _ _
        · obtain ⟨hb, arr, e', hh, hsize⟩ := hx hver
          by_cases hz : len = 0
          · subst hz
            exact .lst b 0 0 cap 0 _ (fun _ _ => undef) (Nat.zero_le _) h2 (fun i hi => by omega) (fun i j hi => by omega) (fun i j hi => by omega) (fun i j hi => by omega)
          · rcases hrow with ⟨hnone, _⟩ | ⟨b', arr', hb', hh', hns, hcr⟩
            · rw [hb] at hnone; cases hnone
            · have hbb : b' = b := Option.some.inj (hb'.symm.trans hb)
              subst hbb
              rw [hh] at hh'
              cases hh'
              refine .lst b' 0 len cap sz f (fun i j => arr.getD (i * sz + j) undef) h1 h2 (fun i hi => (hcr i (by omega)).1) (fun _ _ _ _ => trivial) (fun i j hi hj => ?_) (fun i j hi hj => triv ((hcr i (by omega)).2 j hj))
              rw [Nat.zero_add]
              exact cell_of_row' hh (by have := row_lt (n := n) (show i < n by omega) hj; omega)
    · cases hv
  · cases hv; exact triv hc
  · cases hv; exact triv hc
  · cases hv; exact triv hc
  · cases hv

theorem irep_any {A : Nat → Prop} {c : C} {v : Value} (h : IRep w A c v) : IRep w (Mem.of A).imm c v := h.move (fun _ _ _ => rfl) fun _ hb _ => ⟨hb, fun ⟨i, k, hv, _⟩ => by cases hv⟩

theorem viewL_rep (h : Sim K M st a w) : ∀ {cs ds : List C} {p : Prop} {vs : Array Value}, CsRep w M cs vs → viewL st cs = some (ds, p) → p → CsRep w (Mem.of fun _ => True) ds vs := by
  intro cs ds p vs hc hv hp
  have key : ∀ (cs ds : List C) (p : Prop), viewL st cs = some (ds, p) → p → ds.length = cs.length ∧ ∀ j v, j < cs.length → CRep w M (cs.getD j .unk) v → CRep w (Mem.of fun _ => True) (ds.getD j .unk) v := by
    intro cs
    induction cs with
    | nil => intro ds p hv _; cases hv; exact ⟨rfl, fun j v hj => by simp at hj⟩
    | cons c cs ih =>
      intro ds p hv hp
      simp only [viewL] at hv
      split at hv
      · rename_i d p1 ds' p2 h1 h2
        cases hv
        obtain ⟨l1, l2⟩ := ih _ _ h2 hp.2
        refine ⟨by simp [l1], fun j v hj hr => ?_⟩
        cases j with
        | zero =>
          have := view_irep h hr h1 hp.1
          exact crep_of_imm this.isImm (irep_any this)
        | succ j => exact l2 j v (by simpa using hj) (by simpa using hr)
      · cases hv
  obtain ⟨k1, k2⟩ := key cs ds p hv hp
  exact ⟨by rw [hc.1, k1], fun j hj => k2 j _ (by omega) (hc.2 j (by omega))⟩

theorem view_v1rep (h : Sim K M st a w) {x y : V1} {p : Prop} {v : Value} (hc : V1Rep w M x v) (hv : x.view st = some (y, p)) (hp : p) : V1Rep w (Mem.of fun _ => True) y v := by
  unfold V1.view at hv
  split at hv
  · rename_i c
    split at hv
    · rename_i d p' hd
      cases hv
      have := view_irep h hc hd hp
      exact crep_of_imm this.isImm (irep_any this)
    · cases hv
  · rename_i cs
    split at hv
    · rename_i ds p' hd
      cases hv
      obtain ⟨vs, hvs, hcs⟩ := hc
      exact ⟨vs, hvs, viewL_rep h hcs hd hp⟩
    · cases hv

theorem viewAll_rep (h : Sim K M st a w) : ∀ {xs ys : List V1} {p : Prop} {vs : List Value}, xs.length = vs.length → (∀ j, j < xs.length → V1Rep w M (xs.getD j (.one .unk)) (vs.getD j undef)) → viewAll st xs = some (ys, p) → p →
    ys.length = xs.length ∧ ∀ j, j < ys.length → V1Rep w (Mem.of fun _ => True) (ys.getD j (.one .unk)) (vs.getD j undef)
  | [], _, _, _, _, _, hv, _ => by cases hv; exact ⟨rfl, fun j hj => by simp at hj⟩
  | x :: xs, _, _, [], hl, _, _, _ => by simp at hl
  | x :: xs, ys, p, v :: vs, hl, hr, hv, hp => by
    simp only [viewAll] at hv
    split at hv
    · rename_i y p1 ys' p2 h1 h2
      cases hv
      have ih := viewAll_rep h (vs := vs) (by simpa using hl) (fun j hj => by simpa using hr (j + 1) (by simp; omega)) h2 hp.2
      refine ⟨by simp [ih.1], fun j hj => ?_⟩
      cases j with
      | zero => exact view_v1rep h (by simpa using hr 0 (by simp)) h1 hp.1
      | succ j => simpa using ih.2 j (by simpa using hj)
    · cases hv

end

/-! ### The callee's objects, under the caller's numbers -/

def C.sh (c : Nat) : C → C
  | .own id k sz len => .own (id + c) k sz len
  | .bptr id k j => .bptr (id + c) k j
  | .rptr id k sz i j => .rptr (id + c) k sz i j
  | x => x
def V1.sh (c : Nat) : V1 → V1
  | .one x => .one (x.sh c)
  | .agg cs => .agg (cs.map (C.sh c))
def V.sh (c : Nat) : V → V
  | .v x => .v (x.sh c)
  | .tup xs => .tup (xs.map (V1.sh c))
  | x => x
def O.sh (c : Nat) : O → O
  | .box e cs => .box e (cs.map (C.sh c))
  | o => o
def obSh (c : Nat) (ob : List (Nat × (Nat × O))) : List (Nat × (Nat × O)) := ob.map fun p => (p.1 + c, (p.2.1, p.2.2.sh c))
def obNv (c : Nat) (ob : List (Nat × (Nat × O))) : List (Nat × Nat) := ob.map fun p => (p.1 + c, p.2.1)

/-- Every object that is named is there. -/
def C.closed (ob : List (Nat × (Nat × O))) : C → Bool
  | .own id _ _ _ => (look id ob).isSome
  | .bptr id _ _ => (look id ob).isSome
  | .rptr id _ _ _ _ => (look id ob).isSome
  | _ => true
def V1.closed (ob : List (Nat × (Nat × O))) : V1 → Bool
  | .one c => c.closed ob
  | .agg cs => cs.all (C.closed ob)
def V.closed (ob : List (Nat × (Nat × O))) : V → Bool
  | .v x => x.closed ob
  | .tup xs => xs.all (V1.closed ob)
  | _ => true
def O.closed (ob : List (Nat × (Nat × O))) : O → Bool
  | .box _ cs => cs.all (C.closed ob)
  | _ => true

/-- Nothing in it may lie in an argument's memory. -/
def C.noLst : C → Bool
  | .lst _ _ | .lptr _ | .aptr _ _ _ => false
  | _ => true
def V1.noLst : V1 → Bool
  | .one c => c.noLst
  | .agg cs => cs.all C.noLst
def V.noLst : V → Bool
  | .v x => x.noLst
  | .tup xs => xs.all V1.noLst
  | _ => true

theorem look_obSh (c i : Nat) (ob : List (Nat × (Nat × O))) : look i (obSh c ob) = if c ≤ i then (look (i - c) ob).map fun q => (q.1, q.2.sh c) else none := by
  induction ob with
  | nil => simp [obSh, look]
  | cons p ob ih =>
    obtain ⟨k, q⟩ := p
    have ih' : look i (obSh c ob) = if c ≤ i then (look (i - c) ob).map fun q => (q.1, q.2.sh c) else none := ih
    show look i ((k + c, (q.1, q.2.sh c)) :: obSh c ob) = _
    rw [look_cons, ih', look_cons]
    by_cases h : k + c = i
    · rw [if_pos h, if_pos (by omega), if_pos (by omega)]; rfl
    · rw [if_neg h]
      by_cases hc : c ≤ i
      · rw [if_pos hc, if_pos hc, if_neg (by omega)]
      · rw [if_neg hc, if_neg hc]

/-- The memory map behind a call: the caller's objects, and the callee's. -/
def Mem.join (M R : Mem) (c : Nat) : Mem :=
  { ver := fun i => if c ≤ i ∧ R.ver (i - c) ≠ none then R.ver (i - c) else M.ver i, blk := fun i => if c ≤ i ∧ R.ver (i - c) ≠ none then R.blk (i - c) else M.blk i, A := M.A }

theorem join_new {M R : Mem} {c i k : Nat} (h : R.ver i = some k) : (M.join R c).ver (i + c) = some k ∧ (M.join R c).blk (i + c) = R.blk i := by
  simp [Mem.join, h]

section
variable {M R : Mem} {w' : World} {c : Nat}

theorem sh_irep {x : C} (hM : x.noLst = true ∨ ∀ b, R.imm b → b < w'.heap.size → (M.join R c).imm b) {v : Value} (h : IRep w' R.imm x v) : IRep w' (M.join R c).imm x v := by
  rcases hM with hM | hM
  · cases h with
    | val v hv => exact .val v hv
    | emp a => exact .emp a
    | _ => cases hM
  · exact h.move (fun _ _ _ => rfl) hM

theorem sh_crep {ob : List (Nat × (Nat × O))} (hob : ∀ i k o, look i ob = some (k, o) → R.ver i = some k) {x : C} (hM : x.noLst = true ∨ ∀ b, R.imm b → b < w'.heap.size → (M.join R c).imm b) {v : Value} (hc : x.closed ob = true) (h : CRep w' R x v) : CRep w' (M.join R c) (x.sh c) v := by
  have key : ∀ id k, (look id ob).isSome = true → (M.join R c).ver (id + c) = some k → R.ver id = some k ∧ (M.join R c).blk (id + c) = R.blk id := by
    intro id k hs hv
    obtain ⟨⟨k', o⟩, hl⟩ := Option.isSome_iff_exists.1 hs
    have hr := hob id k' o hl
    have := join_new (M := M) (c := c) hr
    rw [this.1] at hv
    cases hv
    exact ⟨hr, this.2⟩
  cases x with
  | own id k sz len =>
    rcases h with h0 | ⟨b, cap, h1, h2, h3, hx⟩
    · exact .inl h0
    · refine .inr ⟨b, cap, h1, h2, h3, fun hv => ?_⟩
      obtain ⟨k1, k2⟩ := key id k hc hv
      rw [k2]
      exact hx k1
  | bptr id k j =>
    obtain ⟨b, h1, hx⟩ := h
    refine ⟨b, h1, fun hv => ?_⟩
    obtain ⟨k1, k2⟩ := key id k hc hv
    rw [k2]
    exact hx k1
  | rptr id k sz i j =>
    obtain ⟨b, h1, hx⟩ := h
    refine ⟨b, h1, fun hv => ?_⟩
    obtain ⟨k1, k2⟩ := key id k hc hv
    rw [k2]
    exact hx k1
  | unk => exact h
  | val v => exact sh_irep hM h
  | emp => exact sh_irep hM h
  | lst n f => exact sh_irep hM h
  | lptr cs => exact sh_irep hM h
  | aptr n sz f => exact sh_irep hM h

theorem sh_csrep {ob : List (Nat × (Nat × O))} (hob : ∀ i k o, look i ob = some (k, o) → R.ver i = some k) {cs : List C} (hM : cs.all C.noLst = true ∨ ∀ b, R.imm b → b < w'.heap.size → (M.join R c).imm b) {vs : Array Value} (hc : cs.all (C.closed ob) = true) (h : CsRep w' R cs vs) : CsRep w' (M.join R c) (cs.map (C.sh c)) vs := by
  refine ⟨by simpa using h.1, fun j hj => ?_⟩
  have hj' : j < cs.length := by simpa using hj
  have := sh_crep (M := M) (c := c) hob (x := cs.getD j .unk) (hM.imp (fun hm => List.all_eq_true.1 hm _ (getD_mem hj')) id) (List.all_eq_true.1 hc _ (getD_mem hj')) (h.2 j hj')
  simpa only [List.getD_eq_getElem?_getD, List.getElem?_map, List.getElem?_eq_getElem hj', Option.map_some, Option.getD_some] using this

theorem sh_v1rep {ob : List (Nat × (Nat × O))} (hob : ∀ i k o, look i ob = some (k, o) → R.ver i = some k) {x : V1} (hM : x.noLst = true ∨ ∀ b, R.imm b → b < w'.heap.size → (M.join R c).imm b) {v : Value} (hc : x.closed ob = true) (h : V1Rep w' R x v) : V1Rep w' (M.join R c) (x.sh c) v := by
  cases x with
  | one x => exact sh_crep hob hM hc h
  | agg cs => obtain ⟨vs, hv, hr⟩ := h; exact ⟨vs, hv, sh_csrep hob hM hc hr⟩

theorem sh_vrep {ob : List (Nat × (Nat × O))} (hob : ∀ i k o, look i ob = some (k, o) → R.ver i = some k) {x : V} (hM : x.noLst = true ∨ ∀ b, R.imm b → b < w'.heap.size → (M.join R c).imm b) {v : Value} (hc : x.closed ob = true) (h : VRep w' R x v) : VRep w' (M.join R c) (x.sh c) v := by
  cases x with
  | any => trivial
  | undef => exact h
  | v x => exact sh_v1rep hob hM hc h
  | tup xs =>
    obtain ⟨vs, hv, hl, hr⟩ := h
    refine ⟨vs, hv, by simpa using hl, fun j hj => ?_⟩
    have hj' : j < xs.length := by simpa using hj
    have := sh_v1rep (M := M) (c := c) hob (x := xs.getD j (.one .unk)) (hM.imp (fun hm => List.all_eq_true.1 hm _ (getD_mem hj')) id) (List.all_eq_true.1 hc _ (getD_mem hj')) (hr j hj')
    simpa only [List.getD_eq_getElem?_getD, List.getElem?_map, List.getElem?_eq_getElem hj', Option.map_some, Option.getD_some] using this

def O.noLst : O → Prop
  | .box _ cs => cs.all C.noLst = true
  | .row _ _ n f => ∀ i, i < n → (f i).all C.noLst = true

theorem sh_orep {ob : List (Nat × (Nat × O))} (hob : ∀ i k o, look i ob = some (k, o) → R.ver i = some k) {o : O} (hM : o.noLst ∨ ∀ b, R.imm b → b < w'.heap.size → (M.join R c).imm b) {i k : Nat} (hc : o.closed ob = true) (h : ORep w' R i k o) : ORep w' (M.join R c) (i + c) k (o.sh c) := by
  have hv := h.ver
  have hj := join_new (M := M) (c := c) hv
  cases o with
  | box e cs =>
    obtain ⟨_, b, arr, hb, hh, hr⟩ := h
    exact ⟨hj.1, b, arr, by rw [hj.2]; exact hb, hh, sh_csrep hob hM hc hr⟩
  | row e sz n f =>
    refine ⟨hj.1, ?_⟩
    rcases h.2 with ⟨h0, h1⟩ | ⟨b, arr, hb, hh, hn, hr⟩
    · exact .inl ⟨by rw [hj.2]; exact h0, h1⟩
    · refine .inr ⟨b, arr, by rw [hj.2]; exact hb, hh, hn, fun m hm => ⟨(hr m hm).1, fun q hq => sh_irep ?_ ((hr m hm).2 q hq)⟩⟩
      exact hM.imp (fun hm' => List.all_eq_true.1 (hm' m hm) _ (getD_mem (by rw [(hr m hm).1]; exact hq))) id
end

def callOf : Op → Option (FuncId × List Operand)
  | .call { callee := .value (.func f), args, .. } => some (f, args.toList)
  | _ => none

def Frozen (ob : List (Nat × (Nat × O))) : Prop := ∀ i k o, look i ob = some (k, o) → o.noLst

/-- Behind a call. -/
theorem join_ext {K : Ctx} {M R : Mem} {st : St} {a : Act} {w w' : World} (h : Sim K M st a w) {ob : List (Nat × (Nat × O))} (c : Nat) (hb : Below w.heap.size w w') (h1 : ∀ i, R.ver i ≠ none → hits ob i)
    (h2 : ∀ i j k l b, R.ver i = some k → R.ver j = some l → R.blk i = some b → R.blk j = some b → i = j) (h3 : ∀ i k b, R.ver i = some k → R.blk i = some b → w.heap.size ≤ b ∧ b < w'.heap.size) (hob : ∀ i k o, look i ob = some (k, o) → R.ver i = some k) :
    Ext M w (M.join R c) w' (hits (obSh c ob)) (newIn (obNv c ob)) := by
  have cases_ver : ∀ i k, (M.join R c).ver i = some k → (∃ j, i = j + c ∧ R.ver j = some k ∧ (M.join R c).blk i = R.blk j) ∨ (M.ver i = some k ∧ (M.join R c).blk i = M.blk i ∧ ¬ (c ≤ i ∧ R.ver (i - c) ≠ none)) := by
    intro i k hv
    by_cases hc : c ≤ i ∧ R.ver (i - c) ≠ none
    · left
      have : (M.join R c).ver i = R.ver (i - c) := by simp only [Mem.join, if_pos hc]
      have hbk : (M.join R c).blk i = R.blk (i - c) := by simp only [Mem.join, if_pos hc]
      exact ⟨i - c, by omega, by rw [← this]; exact hv, hbk⟩
    · right
      have : (M.join R c).ver i = M.ver i := by simp only [Mem.join, if_neg hc]
      have hbk : (M.join R c).blk i = M.blk i := by simp only [Mem.join, if_neg hc]
      exact ⟨by rw [← this]; exact hv, hbk, hc⟩
  have hit : ∀ j k, R.ver j = some k → ∃ o, look j ob = some (k, o) := by
    intro j k hv
    have := h1 j (by rw [hv]; simp)
    obtain ⟨⟨k', o⟩, hl⟩ := Option.isSome_iff_exists.1 this
    have hr := hob j k' o hl
    rw [hv] at hr
    cases hr
    exact ⟨o, hl⟩
  have nvmem : ∀ j k, R.ver j = some k → newIn (obNv c ob) (j + c) k := by
    intro j k hv
    obtain ⟨o, hl⟩ := hit j k hv
    exact List.mem_map.2 ⟨(j, (k, o)), look_mem hl, rfl⟩
  have hheap : ∀ b, b < w.heap.size → w'.heap[b]? = w.heap[b]? := hb.block
  refine ⟨fun i k hv => ?_, fun i k hv hw => ?_, fun i k hv hn => ?_, fun i k b hn hv hbk => ?_, fun i j k l b hi hj hbi hbj => ?_, fun i k b hv hbk => ?_, fun b hlt _ => hheap b hlt, fun b arr e hc => ⟨arr, by rw [hheap b (Array.getElem?_eq_some_iff.1 hc).1]; exact hc, rfl⟩, hb.size, rfl, hb.os, hb.tape, hb.output⟩
  · rcases cases_ver i k hv with ⟨j, rfl, hj, _⟩ | ⟨hm, _⟩
    · exact .inl (nvmem j k hj)
    · exact .inr hm
  · by_cases hc : c ≤ i ∧ R.ver (i - c) ≠ none
    · exfalso
      refine hw ?_
      have hh := h1 (i - c) hc.2
      unfold hits at hh ⊢
      rw [look_obSh, if_pos hc.1, Option.isSome_map]
      exact hh
    · simp only [Mem.join, if_neg hc, hv]
  · rcases cases_ver i k hv with ⟨j, rfl, hj, _⟩ | ⟨_, hm, _⟩
    · exact absurd (nvmem j k hj) hn
    · exact hm
  · rcases cases_ver i k hv with ⟨j, rfl, hj, hbj⟩ | ⟨hm, hbm, _⟩
    · rw [hbj] at hbk
      exact .inl (h3 j k b hj hbk).1
    · exact .inr ⟨k, hm, by rw [← hbm]; exact hbk⟩
  · rcases cases_ver i k hi with ⟨i', rfl, hi', hbi'⟩ | ⟨hmi, hbmi, _⟩ <;> rcases cases_ver j l hj with ⟨j', rfl, hj', hbj'⟩ | ⟨hmj, hbmj, _⟩
    · rw [hbi'] at hbi; rw [hbj'] at hbj
      rw [h2 i' j' k l b hi' hj' hbi hbj]
    · rw [hbi'] at hbi; rw [hbmj] at hbj
      have e1 := (h3 i' k b hi' hbi).1
      have e2 := (h.rng j l b hmj hbj).2
      omega
    · rw [hbmi] at hbi; rw [hbj'] at hbj
      have e1 := (h3 j' l b hj' hbj).1
      have e2 := (h.rng i k b hmi hbi).2
      omega
    · rw [hbmi] at hbi; rw [hbmj] at hbj
      exact h.inj i j k l b hmi hmj hbi hbj
  · rcases cases_ver i k hv with ⟨j, rfl, hj, hbj⟩ | ⟨hm, hbm, _⟩
    · rw [hbj] at hbk
      exact (h3 j k b hj hbk).2
    · rw [hbm] at hbk
      exact Nat.lt_of_lt_of_le (h.rng i k b hm hbk).2 hb.size

theorem wp_call {P : Program} {o : Oper} {f : FuncId} {args : List Operand} {a : Act} {w : World} {Kn : Act → World → Prop} {Q : Exit → Act → World → Prop} (ho : callOf o.op = some (f, args)) {fn : Func} (hf : P.funcs[f]? = some fn) (hbody : fn.body.isSome = true) (hname : (fn.name == "runtime.NumGoroutine") = false)
    (h : Calls P f (args.map a.eval).toArray w fun e w' => ∃ v, e = .returned v ∧ Kn (a.put o.dst v) w') : o.wp P a w Kn Q := by
  unfold callOf at ho
  split at ho
  · rename_i f' args' ats heq
    cases ho
    unfold Oper.wp
    have hrun : (execOp a.eval o).run P w = .ok (.enter f (args'.map a.eval)) w := by
      unfold execOp
      rw [heq]
      obtain ⟨c, hc⟩ := Option.isSome_iff_exists.1 hbody
      have hn : ¬ fn.name = "runtime.NumGoroutine" := by simpa using hname
      simp [resolve, Deferred.ofValue, Act.eval, invoke, callFunc, hf, hn, hc]
    rw [hrun]
    have hargs : (args'.toList.map a.eval).toArray = args'.map a.eval := by apply Array.toList_inj.1; simp
    rw [hargs] at h
    refine Calls.mono h ?_
    rintro e w' ⟨v, rfl, hk⟩
    exact hk
  · cases ho

/-- A call: no argument is a slice of the caller's own. -/
theorem Step_call {K : Ctx} {st : St} {o : Oper} {f : FuncId} {args : List Operand} {fn : Func} {ys xs : List V1} {x : V} {ob : List (Nat × (Nat × O))} (c : Nat) (ho : callOf o.op = some (f, args)) (hf : K.P.funcs[f]? = some fn) (hbody : fn.body.isSome = true) (hname : (fn.name == "runtime.NumGoroutine") = false)
    (hys : opsV K.globs st args = some ys) (himm : ys.all (fun y => y.cells.all C.isImm) = true) (hxs : ys = xs) (hct : Ct K.P K.globs f xs x ob) (hcl : x.closed ob = true) (hcl2 : ob.all (fun p => p.2.2.closed ob) = true) :
    Step K st o (obNv c ob) (obSh c ob) (x.sh c) := by
  subst hxs
  intro M a w h _
  obtain ⟨hl, hr⟩ := opsV_rep h hys
  have hargs : ArgsRep w M.imm ys (args.map a.eval).toArray := by
    refine ⟨by simp [hl], fun j hj => ?_⟩
    have h1 := hr j hj
    have h2 := List.all_eq_true.1 himm _ (getD_mem (d := .one .unk) hj)
    have hconv : ∀ {c : C} {v : Value}, c.isImm = true → CRep w M c v → CRep w (Mem.of M.imm) c v := fun {c v} hc hcr => by
      cases c <;> first | cases hc; done | exact irep_any hcr
    have hget : (args.map a.eval).toArray.getD j undef = (args.map a.eval).getD j undef := by simp [Array.getD_eq_getD_getElem?, List.getD_eq_getElem?_getD]
    rw [hget]
    generalize ys.getD j (.one .unk) = y at h1 h2
    cases y with
    | one c => exact hconv (by simpa [V1.cells] using h2) h1
    | agg cs =>
      obtain ⟨vs, hv, hcs⟩ := h1
      exact ⟨vs, hv, hcs.1, fun j hj => hconv (List.all_eq_true.1 h2 _ (getD_mem hj)) (hcs.2 j hj)⟩
  have hgl : Globs K.globs w M.imm := fun g c hg => (K.glob g c hg).move (fun b _ hb => h.below.block b hb) fun b ha hb => ⟨(h.area b).2 (.inl ha), fun ⟨i, k, hv, hbk⟩ => by have := (h.rng i k b hv hbk).1; omega⟩
  refine wp_call ho hf hbody hname (Calls.mono (hct w M.imm _ hgl hargs) ?_)
  rintro e w' ⟨v, rfl, hbel, ⟨R, r1, r2, r3, r4, r5, r6⟩⟩
  have hob : ∀ i k o, look i ob = some (k, o) → R.ver i = some k := fun i k o hl => (r6 i k o hl).ver
  have hM : ∀ b, R.imm b → b < w'.heap.size → (M.join R c).imm b := by
    rintro b ⟨hb1, hb2⟩ _
    refine ⟨?_, ?_⟩
    · rcases (r4 b).1 hb1 with h1 | h1
      · exact h1.1
      · exact (h.area b).2 (.inr (Nat.le_trans h.below.size h1))
    · rintro ⟨i, k, hv, hbk⟩
      by_cases hc : c ≤ i ∧ R.ver (i - c) ≠ none
      · simp only [Mem.join, if_pos hc] at hv hbk
        exact hb2 ⟨i - c, k, hv, hbk⟩
      · simp only [Mem.join, if_neg hc] at hv hbk
        rcases (r4 b).1 hb1 with h1 | h1
        · exact h1.2 ⟨i, k, hv, hbk⟩
        · have := (h.rng i k b hv hbk).2; omega
  refine ⟨v, rfl, v, M.join R c, rfl, join_ext h c hbel r1 r2 r3 hob, sh_vrep hob (.inr hM) hcl r5, fun i k o hl => ?_, fun i hi => ?_⟩
  · rw [look_obSh] at hl
    split at hl
    · rename_i hci
      rw [Option.map_eq_some_iff] at hl
      obtain ⟨⟨k', o'⟩, hl', he⟩ := hl
      cases he
      have := sh_orep (M := M) (c := c) hob (.inr hM) (List.all_eq_true.1 hcl2 _ (look_mem hl')) (r6 (i - c) k' o' hl')
      rw [Nat.sub_add_cancel hci] at this
      exact this
    · cases hl
  · by_cases hc : c ≤ i ∧ R.ver (i - c) ≠ none
    · right
      unfold hits
      rw [look_obSh, if_pos hc.1, Option.isSome_map]
      exact r1 (i - c) hc.2
    · left
      simpa only [Mem.join, if_neg hc] using hi

/-- A call that is handed slices of the caller's own (the callee does not change them): its result names nothing that could be an argument's memory. -/
theorem Step_call_own {K : Ctx} {st : St} {o : Oper} {f : FuncId} {args : List Operand} {fn : Func} {ys zs xs : List V1} {p : Prop} {x : V} {ob : List (Nat × (Nat × O))} (c : Nat) (ho : callOf o.op = some (f, args)) (hf : K.P.funcs[f]? = some fn) (hbody : fn.body.isSome = true) (hname : (fn.name == "runtime.NumGoroutine") = false)
    (hys : opsV K.globs st args = some ys) (hview : viewAll st ys = some (zs, p)) (hp : p) (hxs : zs = xs) (hct : Ct K.P K.globs f xs x ob) (hcl : x.closed ob = true) (hcl2 : ob.all (fun p => p.2.2.closed ob) = true) (hno : x.noLst = true) (hno2 : Frozen ob) :
    Step K st o (obNv c ob) (obSh c ob) (x.sh c) := by
  subst hxs
  intro M a w h _
  obtain ⟨hl, hr⟩ := opsV_rep h hys
  have hv := viewAll_rep h (vs := args.map a.eval) (by simpa using hl) hr hview hp
  have hargs : ArgsRep w (fun _ => True) zs (args.map a.eval).toArray := by
    refine ⟨by simp [hv.1, hl], fun j hj => ?_⟩
    have hget : (args.map a.eval).toArray.getD j undef = (args.map a.eval).getD j undef := by simp [Array.getD_eq_getD_getElem?, List.getD_eq_getElem?_getD]
    rw [hget]
    exact hv.2 j hj
  have hgl : Globs K.globs w fun _ => True := fun g c hg => (K.glob g c hg).move (fun b _ hb => h.below.block b hb) fun _ _ _ => trivial
  refine wp_call ho hf hbody hname (Calls.mono (hct w _ _ hgl hargs) ?_)
  rintro e w' ⟨v, rfl, hbel, ⟨R, r1, r2, r3, r4, r5, r6⟩⟩
  have hob : ∀ i k o, look i ob = some (k, o) → R.ver i = some k := fun i k o hl => (r6 i k o hl).ver
  refine ⟨v, rfl, v, M.join R c, rfl, join_ext h c hbel r1 r2 r3 hob, sh_vrep hob (.inl hno) hcl r5, fun i k o hl => ?_, fun i hi => ?_⟩
  · rw [look_obSh] at hl
    split at hl
    · rename_i hci
      rw [Option.map_eq_some_iff] at hl
      obtain ⟨⟨k', o'⟩, hl', he⟩ := hl
      cases he
      have := sh_orep (M := M) (c := c) hob (.inl (hno2 _ _ _ hl')) (List.all_eq_true.1 hcl2 _ (look_mem hl')) (r6 (i - c) k' o' hl')
      rw [Nat.sub_add_cancel hci] at this
      exact this
    · cases hl
  · by_cases hc : c ≤ i ∧ R.ver (i - c) ≠ none
    · right
      unfold hits
      rw [look_obSh, if_pos hc.1, Option.isSome_map]
      exact r1 (i - c) hc.2
    · left
      simpa only [Mem.join, if_neg hc] using hi

end Go.SL
