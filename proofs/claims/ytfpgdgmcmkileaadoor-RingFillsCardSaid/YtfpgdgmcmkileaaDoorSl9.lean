/- Less is known; contracts; calls; returns. -/
import Derived.Test.YtfpgdgmcmkileaaDoorSl8
set_option linter.unusedVariables false
set_option linter.unusedSimpArgs false
namespace Go.SL
open Go.RowKit

/-! ### Versions set back to 0; less is known -/

def C.rev (objs : List (Nat × (Nat × O))) : C → C
  | .own id k sz len => match look id objs with | some (k', _) => bif Nat.beq k k' then .own id 0 sz len else .unk | none => .unk
  | .bptr id k j => match look id objs with | some (k', _) => bif Nat.beq k k' then .bptr id 0 j else .unk | none => .unk
  | .rptr id k sz i j => match look id objs with | some (k', _) => bif Nat.beq k k' then .rptr id 0 sz i j else .unk | none => .unk
  | c => c
def V1.rev (objs : List (Nat × (Nat × O))) : V1 → V1
  | .one c => .one (c.rev objs)
  | .agg cs => .agg (cs.map (C.rev objs))
def V.rev (objs : List (Nat × (Nat × O))) : V → V
  | .v x => .v (x.rev objs)
  | .tup xs => .tup (xs.map (V1.rev objs))
  | x => x
def O.rev (objs : List (Nat × (Nat × O))) : O → O
  | .box e cs => .box e (cs.map (C.rev objs))
  | o => o
def St.rev (st : St) : St := { slots := st.slots.map fun p => (p.1, p.2.rev st.objs), objs := st.objs.map fun p => (p.1, (0, p.2.2.rev st.objs)) }

theorem look_map {β γ : Type} (f : β → γ) (s : Nat) (l : List (Nat × β)) : look s (l.map fun p => (p.1, f p.2)) = (look s l).map f := by
  induction l with
  | nil => rfl
  | cons p l ih =>
    obtain ⟨k, x⟩ := p
    simp only [List.map_cons, look_cons, ih]
    split <;> rfl

def Mem.rev (M : Mem) (objs : List (Nat × (Nat × O))) : Mem := { ver := fun i => (look i objs).map fun _ => 0, blk := M.blk, A := M.A }

section
variable {K : Ctx} {M : Mem} {st : St} {a : Act} {w : World}

theorem rev_owns (h : Sim K M st a w) {b : Nat} (hb : (M.rev st.objs).owns b) : M.owns b := by
  obtain ⟨i, k, hv, hbk⟩ := hb
  simp only [Mem.rev, Option.map_eq_some_iff] at hv
  obtain ⟨⟨k', o⟩, hl, _⟩ := hv
  exact ⟨i, k', (h.objs i k' o hl).ver, hbk⟩

theorem rev_irep (h : Sim K M st a w) {c : C} {v : Value} (hr : IRep w M.imm c v) : IRep w (M.rev st.objs).imm c v :=
  hr.move (fun _ _ _ => rfl) fun _ hb _ => ⟨hb.1, fun ho => hb.2 (rev_owns h ho)⟩

theorem rev_crep (h : Sim K M st a w) {c : C} {v : Value} (hr : CRep w M c v) : CRep w (M.rev st.objs) (c.rev st.objs) v := by
  cases c with
  | own id k sz len =>
    simp only [C.rev]
    split
    · rename_i k' o hl
      cases hk : Nat.beq k k' with
      | false => exact hr.cell
      | true =>
        have hkk := Nat.eq_of_beq_eq_true hk
        subst hkk
        have hv := (h.objs id k o hl).ver
        rcases hr with h0 | ⟨b, cap, h1, h2, h3, hx⟩
        · exact .inl h0
        · exact .inr ⟨b, cap, h1, h2, h3, fun _ => hx hv⟩
    · exact hr.cell
  | bptr id k j =>
    simp only [C.rev]
    split
    · rename_i k' o hl
      cases hk : Nat.beq k k' with
      | false => exact hr.cell
      | true =>
        have hkk := Nat.eq_of_beq_eq_true hk
        subst hkk
        have hv := (h.objs id k o hl).ver
        obtain ⟨b, h1, hx⟩ := hr
        exact ⟨b, h1, fun _ => hx hv⟩
    · exact hr.cell
  | rptr id k sz i j =>
    simp only [C.rev]
    split
    · rename_i k' o hl
      cases hk : Nat.beq k k' with
      | false => exact hr.cell
      | true =>
        have hkk := Nat.eq_of_beq_eq_true hk
        subst hkk
        have hv := (h.objs id k o hl).ver
        obtain ⟨b, h1, hx⟩ := hr
        exact ⟨b, h1, fun _ => hx hv⟩
    · exact hr.cell
  | unk => exact hr
  | val v => exact rev_irep h hr
  | emp => exact rev_irep h hr
  | lst n f => exact rev_irep h hr
  | lptr cs => exact rev_irep h hr
  | aptr n sz f => exact rev_irep h hr

theorem rev_csrep (h : Sim K M st a w) {cs : List C} {vs : Array Value} (hr : CsRep w M cs vs) : CsRep w (M.rev st.objs) (cs.map (C.rev st.objs)) vs := by
  refine ⟨by simpa using hr.1, fun j hj => ?_⟩
  have hj' : j < cs.length := by simpa using hj
  have := rev_crep h (hr.2 j hj')
  simpa only [List.getD_eq_getElem?_getD, List.getElem?_map, List.getElem?_eq_getElem hj', Option.map_some, Option.getD_some] using this

theorem rev_v1rep (h : Sim K M st a w) {x : V1} {v : Value} (hr : V1Rep w M x v) : V1Rep w (M.rev st.objs) (x.rev st.objs) v := by
  cases x with
  | one c => exact rev_crep h hr
  | agg cs => obtain ⟨vs, hv, hc⟩ := hr; exact ⟨vs, hv, rev_csrep h hc⟩

theorem rev_vrep (h : Sim K M st a w) {x : V} {v : Value} (hr : VRep w M x v) : VRep w (M.rev st.objs) (x.rev st.objs) v := by
  cases x with
  | any => trivial
  | undef => exact hr
  | v x => exact rev_v1rep h hr
  | tup xs =>
    obtain ⟨vs, hv, hl, hc⟩ := hr
    refine ⟨vs, hv, by simpa using hl, fun j hj => ?_⟩
    have hj' : j < xs.length := by simpa using hj
    have := rev_v1rep h (hc j hj')
    simpa only [List.getD_eq_getElem?_getD, List.getElem?_map, List.getElem?_eq_getElem hj', Option.map_some, Option.getD_some] using this

theorem Sim1.rev (h : Sim1 K M st a w) : Sim1 K (M.rev st.objs) st.rev a w := by
  have hs := h.1
  have old : ∀ i k, (M.rev st.objs).ver i = some k → ∃ k', M.ver i = some k' := fun i k hv => by
    simp only [Mem.rev, Option.map_eq_some_iff] at hv
    obtain ⟨⟨k', o⟩, hl, _⟩ := hv
    exact ⟨k', (hs.objs i k' o hl).ver⟩
  refine ⟨⟨fun i j k l b hi hj hbi hbj => ?_, fun i k b hv hb => ?_, hs.below, hs.area, hs.size, hs.defers, fun s x hx => ?_, fun i k o ho => ?_⟩, fun i hi => ?_⟩
  · obtain ⟨k', hk'⟩ := old i k hi
    obtain ⟨l', hl'⟩ := old j l hj
    exact hs.inj i j k' l' b hk' hl' hbi hbj
  · obtain ⟨k', hk'⟩ := old i k hv
    exact hs.rng i k' b hk' hb
  · have : look s (st.slots.map fun p => (p.1, p.2.rev st.objs)) = some x := hx
    rw [look_map (V.rev st.objs), Option.map_eq_some_iff] at this
    obtain ⟨y, hy, rfl⟩ := this
    exact rev_vrep hs (hs.slots s y hy)
  · have : look i (st.objs.map fun p => (p.1, ((0 : Nat), p.2.2.rev st.objs))) = some (k, o) := ho
    rw [look_map (fun q : Nat × O => ((0 : Nat), q.2.rev st.objs)), Option.map_eq_some_iff] at this
    obtain ⟨⟨k', o'⟩, hy, hko⟩ := this
    cases hko
    have hv : (M.rev st.objs).ver i = some 0 := by simp [Mem.rev, hy]
    have hor := hs.objs i k' o' hy
    cases o' with
    | box e cs =>
      obtain ⟨_, b, arr, hb, hh, hc⟩ := hor
      exact ⟨hv, b, arr, hb, hh, rev_csrep hs hc⟩
    | row e sz n f =>
      refine ⟨hv, ?_⟩
      rcases hor.2 with h0 | ⟨b, arr, hb, hh, hn, hc⟩
      · exact .inl h0
      · exact .inr ⟨b, arr, hb, hh, hn, fun i hi => ⟨(hc i hi).1, fun j hj => rev_irep hs ((hc i hi).2 j hj)⟩⟩
  · simp only [Mem.rev, ne_eq, Option.map_eq_none_iff] at hi
    unfold hits
    show (look i (st.objs.map fun p => (p.1, ((0 : Nat), p.2.2.rev st.objs)))).isSome = true
    rw [look_map (fun q : Nat × O => ((0 : Nat), q.2.rev st.objs)), Option.isSome_map]
    exact Option.isSome_iff_ne_none.2 hi

def Mem.keep (M : Mem) (objs : List (Nat × (Nat × O))) : Mem := { ver := fun i => if (look i objs).isSome then M.ver i else none, blk := M.blk, A := M.A }

theorem keep_ver {M : Mem} {objs : List (Nat × (Nat × O))} {i k : Nat} (h : (M.keep objs).ver i = some k) : M.ver i = some k := by
  simp only [Mem.keep] at h
  split at h
  · exact h
  · cases h

theorem keep_irep {objs : List (Nat × (Nat × O))} {c : C} {v : Value} (hr : IRep w M.imm c v) : IRep w (M.keep objs).imm c v :=
  hr.move (fun _ _ _ => rfl) fun _ hb _ => ⟨hb.1, fun ⟨i, k, hv, hbk⟩ => hb.2 ⟨i, k, keep_ver hv, hbk⟩⟩

theorem keep_crep {objs : List (Nat × (Nat × O))} {c : C} {v : Value} (hr : CRep w M c v) : CRep w (M.keep objs) c v := by
  cases c with
  | own id k sz len =>
    rcases hr with h0 | ⟨b, cap, h1, h2, h3, hx⟩
    · exact .inl h0
    · exact .inr ⟨b, cap, h1, h2, h3, fun hv => hx (keep_ver hv)⟩
  | bptr id k j => obtain ⟨b, h1, hx⟩ := hr; exact ⟨b, h1, fun hv => hx (keep_ver hv)⟩
  | rptr id k sz i j => obtain ⟨b, h1, hx⟩ := hr; exact ⟨b, h1, fun hv => hx (keep_ver hv)⟩
  | unk => exact hr
  | val v => exact keep_irep hr
  | emp => exact keep_irep hr
  | lst n f => exact keep_irep hr
  | lptr cs => exact keep_irep hr
  | aptr n sz f => exact keep_irep hr

theorem keep_csrep {objs : List (Nat × (Nat × O))} {cs : List C} {vs : Array Value} (hr : CsRep w M cs vs) : CsRep w (M.keep objs) cs vs := ⟨hr.1, fun j hj => keep_crep (hr.2 j hj)⟩
theorem keep_v1rep {objs : List (Nat × (Nat × O))} {x : V1} {v : Value} (hr : V1Rep w M x v) : V1Rep w (M.keep objs) x v := by
  cases x with
  | one c => exact keep_crep hr
  | agg cs => obtain ⟨vs, hv, hc⟩ := hr; exact ⟨vs, hv, keep_csrep hc⟩
theorem keep_vrep {objs : List (Nat × (Nat × O))} {x : V} {v : Value} (hr : VRep w M x v) : VRep w (M.keep objs) x v := by
  cases x with
  | any => trivial
  | undef => exact hr
  | v x => exact keep_v1rep hr
  | tup xs => obtain ⟨vs, hv, hl, hc⟩ := hr; exact ⟨vs, hv, hl, fun j hj => keep_v1rep (hc j hj)⟩
theorem keep_orep {objs : List (Nat × (Nat × O))} {i k : Nat} {o : O} (hi : (look i objs).isSome = true) (hr : ORep w M i k o) : ORep w (M.keep objs) i k o := by
  have hv : (M.keep objs).ver i = some k := by simp only [Mem.keep, hi, if_true]; exact hr.ver
  cases o with
  | box e cs => obtain ⟨_, b, arr, hb, hh, hc⟩ := hr; exact ⟨hv, b, arr, hb, hh, keep_csrep hc⟩
  | row e sz n f =>
    refine ⟨hv, ?_⟩
    rcases hr.2 with h0 | ⟨b, arr, hb, hh, hn, hc⟩
    · exact .inl h0
    · exact .inr ⟨b, arr, hb, hh, hn, fun i hi => ⟨(hc i hi).1, fun j hj => keep_irep ((hc i hi).2 j hj)⟩⟩

structure Sub (st' st : St) : Prop where
  slots : st'.slots.map (fun p => look p.1 st.slots) = st'.slots.map fun p => some p.2
  objs : st'.objs.map (fun p => look p.1 st.objs) = st'.objs.map fun p => some p.2

theorem of_map_eq {β : Type} {l : List (Nat × β)} {g : Nat → Option β} (h : l.map (fun p => g p.1) = l.map fun p => some p.2) {s : Nat} {x : β} (hx : look s l = some x) : g s = some x := by
  have hm := look_mem hx
  clear hx
  induction l with
  | nil => cases hm
  | cons p l ih =>
    simp only [List.map_cons, List.cons.injEq] at h
    rcases List.mem_cons.1 hm with h1 | h1
    · rw [← h1] at h; exact h.1
    · exact ih h.2 h1

theorem Sim1.sub (h : Sim1 K M st a w) {st' : St} (hs : Sub st' st) : Sim1 K (M.keep st'.objs) st' a w := by
  refine ⟨⟨fun i j k l b hi hj hbi hbj => h.1.inj i j k l b (keep_ver hi) (keep_ver hj) hbi hbj, fun i k b hv hb => h.1.rng i k b (keep_ver hv) hb, h.1.below, h.1.area, h.1.size, h.1.defers, fun s x hx => ?_, fun i k o ho => ?_⟩, fun i hi => ?_⟩
  · exact keep_vrep (h.1.slots s x (of_map_eq (g := fun s => look s st.slots) hs.slots hx))
  · exact keep_orep (by rw [ho]; rfl) (h.1.objs i k o (of_map_eq (g := fun s => look s st.objs) hs.objs ho))
  · simp only [Mem.keep] at hi
    split at hi
    · assumption
    · exact absurd rfl hi

end

/-- Go on with less: what the rest wants to know, the versions set back. -/
theorem H_sub {K : Ctx} {st : St} {c : Code} {Q : Exit → St → Prop} (st' : St) (hs : Sub st' st.rev) (h : H K st' c Q) : H K st c Q := fun _ a w hsim => h _ a w (hsim.rev.sub hs)
theorem HL_sub {K : Ctx} {st : St} {c : Code} {Q : Exit → St → Prop} {n : Nat} (st' : St) (hs : Sub st' st.rev) (h : HL K c Q n st') : HL K c Q n st := fun _ a w hsim => h _ a w (hsim.rev.sub hs)
theorem HOps_sub {K : Ctx} {st : St} {ops : Array Oper} {i : Nat} {Q : Exit → St → Prop} (st' : St) (hs : Sub st' st.rev) (h : HOps K ops i st' Q) : HOps K ops i st Q := fun _ a w hsim => h _ a w (hsim.rev.sub hs)

/-! ### Contracts -/

def Mem.of (A : Nat → Prop) : Mem := ⟨fun _ => none, fun _ => none, A⟩

def ArgsRep (w : World) (A : Nat → Prop) (xs : List V1) (vs : Array Value) : Prop := vs.size = xs.length ∧ ∀ j, j < xs.length → V1Rep w (Mem.of A) (xs.getD j (.one .unk)) (vs.getD j undef)

structure RetOk (w w' : World) (A : Nat → Prop) (x : V) (ob : List (Nat × (Nat × O))) (v : Value) : Prop where
  ex : ∃ M : Mem, (∀ i, M.ver i ≠ none → hits ob i) ∧ (∀ i j k l b, M.ver i = some k → M.ver j = some l → M.blk i = some b → M.blk j = some b → i = j) ∧
    (∀ i k b, M.ver i = some k → M.blk i = some b → w.heap.size ≤ b ∧ b < w'.heap.size) ∧ (∀ b, M.A b ↔ A b ∨ w.heap.size ≤ b) ∧ VRep w' M x v ∧ ∀ i k o, look i ob = some (k, o) → ORep w' M i k o

def Globs (gl : List (Nat × C)) (w : World) (A : Nat → Prop) : Prop := ∀ g c, look g gl = some c → IRep w A c (.pointer (some ⟨g, 0, none⟩))

/-- What a function does: called with such arguments it returns such a value, in new memory of its own (or in its arguments'); nothing that was there has changed. -/
def Ct (P : Program) (gl : List (Nat × C)) (f : FuncId) (xs : List V1) (x : V) (ob : List (Nat × (Nat × O))) : Prop :=
  ∀ (w : World) (A : Nat → Prop) (vs : Array Value), Globs gl w A → ArgsRep w A xs vs → Calls P f vs w fun e w' => ∃ v, e = .returned v ∧ Below w.heap.size w w' ∧ RetOk w w' A x ob v

/-- What the result variables hold. -/
def retOne (P : Program) (st : St) : ResultVar → Option V1
  | .tmp t => match look t st.slots with | some (.v x) => some x | _ => none
  | .cell a t => match look a st.slots with | some (.v (.one (.bptr id k j))) => (match ptrCells st (.bptr id k j) with | some (cs, _) => takeV P t cs | none => none) | _ => none
def retAll (P : Program) (st : St) : List ResultVar → Option (List V1)
  | [] => some []
  | r :: rs => match retOne P st r, retAll P st rs with | some x, some xs => some (x :: xs) | _, _ => none
def retV (P : Program) (st : St) (rs : List ResultVar) : Option V :=
  match retAll P st rs with
  | some [x] => some (.v x)
  | some [] => some .undef
  | some xs => some (.tup xs)
  | none => none

theorem retOne_run {K : Ctx} {M : Mem} {st : St} {a : Act} {w : World} (h : Sim K M st a w) {r : ResultVar} {x : V1} (hr : retOne K.P st r = some x) :
    ∃ v, (match r with | .tmp t => pure (a.tmps.getD t undef) | .cell b t => do loadVar t (← asAddr (a.tmps.getD b undef)) : Sem Value).run K.P w = .ok v w ∧ V1Rep w M x v := by
  unfold retOne at hr
  split at hr
  · rename_i t
    split at hr
    · rename_i y hl; cases hr; exact ⟨_, rfl, h.slots t _ hl⟩
    · cases hr
  · rename_i b t
    split at hr
    · rename_i id k j hl
      split at hr
      · rename_i cs ob hp
        have hc := h.slots b _ hl
        have hob : ob := by
          unfold ptrCells at hp
          simp only at hp
          split at hp
          · rename_i k' e cs' hl'
            cases hk : Nat.beq k k' with
            | false => rw [hk] at hp; cases hp
            | true => rw [hk] at hp; cases hp; trivial
          · cases hp
        obtain ⟨b', o', g, hv, hc1, hc2⟩ := ptrCells_rep h (c := .bptr id k j) hc hp hob
        obtain ⟨v, hv1, hv2⟩ := run_loadVar (P := K.P) hr hc1 hc2
        exact ⟨v, by simp only [hv, asAddr, Sem.run_bind, Sem.run_pure, Result.andThen_ok, hv1], hv2⟩
      · cases hr
    · cases hr

theorem retAll_run {K : Ctx} {M : Mem} {st : St} {a : Act} {w : World} (h : Sim K M st a w) : ∀ {rs : List ResultVar} {xs : List V1}, retAll K.P st rs = some xs →
    ∃ vs : List Value, (rs.mapM fun | .tmp t => pure (a.tmps.getD t undef) | .cell b t => do loadVar t (← asAddr (a.tmps.getD b undef)) : Sem (List Value)).run K.P w = .ok vs w ∧ vs.length = xs.length ∧ ∀ j, j < xs.length → V1Rep w M (xs.getD j (.one .unk)) (vs.getD j undef)
  | [], _, hr => by cases hr; exact ⟨[], rfl, rfl, fun j hj => by simp at hj⟩
  | r :: rs, xs, hr => by
    simp only [retAll] at hr
    split at hr
    · rename_i x ys hx hys
      cases hr
      obtain ⟨v, h1, h2⟩ := retOne_run h hx
      obtain ⟨vs, h3, h4, h5⟩ := retAll_run h hys
      refine ⟨v :: vs, ?_, by simp [h4], fun j hj => ?_⟩
      · rw [List.mapM_cons]
        simp only [Sem.run_bind]
        rw [h1]
        simp only [Result.andThen_ok]
        rw [h3]
        rfl
      · cases j with
        | zero => exact h2
        | succ j => simpa using h5 j (by simpa using hj)
    · cases hr

theorem retV_run {K : Ctx} {M : Mem} {st : St} {a : Act} {w : World} (h : Sim K M st a w) {fn : Func} {x : V} (hr : retV K.P st fn.results.toList = some x) : ∃ v, (results fn a.tmps).run K.P w = .ok v w ∧ VRep w M x v := by
  unfold retV at hr
  have base : ∀ xs, retAll K.P st fn.results.toList = some xs → ∃ vs : List Value, (results fn a.tmps).run K.P w = .ok (if h : vs.toArray.size = 1 then vs.toArray[0] else .tuple vs.toArray) w ∧ vs.length = xs.length ∧ ∀ j, j < xs.length → V1Rep w M (xs.getD j (.one .unk)) (vs.getD j undef) := by
    intro xs hxs
    obtain ⟨vs, h1, h2, h3⟩ := retAll_run h hxs
    refine ⟨vs, ?_, h2, h3⟩
    unfold results
    simp only [Sem.run_bind]
    rw [Array.mapM_eq_mapM_toList, Sem.run_map]
    exact congrArg (fun r : Result (List Value) => (r.andThen fun a w' => Result.ok a.toArray w').andThen fun a w' => Sem.run K.P (pure (if h : a.size = 1 then a[0] else Value.tuple a)) w') h1
  split at hr
  · rename_i y hy
    cases hr
    obtain ⟨vs, h1, h2, h3⟩ := base _ hy
    match vs, h2 with
    | [v], _ => exact ⟨v, by simpa using h1, show V1Rep w M y v by simpa using h3 0 (by simp)⟩
  · rename_i hy
    cases hr
    obtain ⟨vs, h1, h2, h3⟩ := base _ hy
    match vs, h2 with
    | [], _ => exact ⟨.tuple #[], by simpa using h1, rfl⟩
  · rename_i xs hx1 hx2 hy
    cases hr
    obtain ⟨vs, h1, h2, h3⟩ := base _ hy
    have hne : vs.toArray.size ≠ 1 := by
      simp only [List.size_toArray, h2]
      match xs, hx1 with
      | [], _ => simp
      | [x], hx => exact absurd rfl (hx x)
      | _ :: _ :: _, _ => simp
    refine ⟨.tuple vs.toArray, by rw [dif_neg hne] at h1; exact h1, vs.toArray, rfl, by simpa using h2, fun j hj => ?_⟩
    have := h3 j hj
    simpa [Array.getD_eq_getD_getElem?, List.getD_eq_getElem?_getD] using this
  · cases hr

/-- A function's end. -/
def RetQ (P : Program) (fn : Func) (x : V) (ob : List (Nat × (Nat × O))) : Exit → St → Prop
  | .ret, st | .normal, st => retV P st.rev fn.results.toList = some x ∧ ob.map (fun p => look p.1 st.rev.objs) = ob.map fun p => some p.2
  | _, _ => False

def slots0 : Nat → List V1 → List (Nat × V)
  | _, [] => []
  | k, x :: xs => (k, .v x) :: slots0 (k + 1) xs

theorem look_slots0 : ∀ (xs : List V1) (k s : Nat) (x : V), look s (slots0 k xs) = some x → ∃ j, s = k + j ∧ j < xs.length ∧ x = .v (xs.getD j (.one .unk))
  | [], _, _, _, h => by cases h
  | y :: xs, k, s, x, h => by
    simp only [slots0, look_cons] at h
    split at h
    · rename_i hk; cases h; exact ⟨0, by omega, by simp, rfl⟩
    · obtain ⟨j, h1, h2, h3⟩ := look_slots0 xs (k + 1) s x h
      exact ⟨j + 1, by omega, by simpa using h2, by simpa using h3⟩

theorem Ct_of_H {P : Program} {gl : List (Nat × C)} {f : FuncId} {fn : Func} {c : Code} {xs : List V1} {x : V} {ob : List (Nat × (Nat × O))} (hm : P.follows .mixedOrders = true) (hf : P.funcs[f]? = some fn) (hb : fn.body = some c) (hn : Nat.ble xs.length fn.ntmps = true)
    (h : ∀ (w : World) (A : Nat → Prop) (hg : Globs gl w A), H { P := P, w0 := w, nt := fn.ntmps, A := A, globs := gl, mixed := hm, glob := hg } { slots := slots0 0 xs, objs := [] } c (RetQ P fn x ob)) : Ct P gl f xs x ob := by
  intro w A vs hg ha
  have hle := Nat.le_of_ble_eq_true hn
  refine calls_of_wp hf hb (wp_mono (h w A hg (Mem.of A |> fun M => { M with A := fun b => A b ∨ w.heap.size ≤ b }) _ w ⟨⟨?_, ?_, Below.refl _ _, fun b => Iff.rfl, ?_, rfl, ?_, ?_⟩, ?_⟩) ?_)
  · intro i j k l b hi; cases hi
  · intro i k b hi; cases hi
  · have := ha.1; simp; omega
  · intro s y hy
    obtain ⟨j, rfl, hj, rfl⟩ := look_slots0 xs 0 s y hy
    have h1 := ha.2 j hj
    have hjs : j < vs.size := by rw [ha.1]; exact hj
    have hget : (vs ++ Array.replicate (fn.ntmps - vs.size) undef).getD (0 + j) undef = vs.getD j undef := by
      simp only [Nat.zero_add, Array.getD_eq_getD_getElem?, Array.getElem?_append_left hjs]
    rw [hget]
    -- nothing is owned: the areas alone differ
    have himm : ∀ {c : C} {v : Value}, IRep w (Mem.of A).imm c v → IRep w (Mem.imm { ver := fun _ => none, blk := fun _ => none, A := fun b => A b ∨ w.heap.size ≤ b }) c v := fun hr => hr.move (fun _ _ _ => rfl) fun b hb _ => ⟨.inl hb.1, fun ⟨i, k, hv, _⟩ => by cases hv⟩
    have hcr : ∀ {c : C} {v : Value}, CRep w (Mem.of A) c v → CRep w { ver := fun _ => none, blk := fun _ => none, A := fun b => A b ∨ w.heap.size ≤ b } c v := fun {c v} hr => by
      cases c with
      | own id k sz len =>
        rcases hr with h0 | ⟨b, cap, h1, h2, h3, _⟩
        · exact .inl h0
        · exact .inr ⟨b, cap, h1, h2, h3, fun hv => by cases hv⟩
      | bptr id k j => obtain ⟨b, h1, _⟩ := hr; exact ⟨b, h1, fun hv => by cases hv⟩
      | rptr id k sz i j => obtain ⟨b, h1, _⟩ := hr; exact ⟨b, h1, fun hv => by cases hv⟩
      | unk => exact hr
      | val v => exact himm hr
      | emp => exact himm hr
      | lst n f => exact himm hr
      | lptr cs => exact himm hr
      | aptr n sz f => exact himm hr
    show V1Rep _ _ _ _
    generalize xs.getD j (.one .unk) = y at h1
    cases y with
    | one c => exact hcr h1
    | agg cs => obtain ⟨us, hu, hc⟩ := h1; exact ⟨us, hu, hc.1, fun j hj => hcr (hc.2 j hj)⟩
  · intro i k o ho; cases ho
  · intro i hi; exact absurd rfl hi
  · rintro e a' w' ⟨M', st', hq, hsim⟩
    have fin : ∀ st', Sim1 { P := P, w0 := w, nt := fn.ntmps, A := A, globs := gl, mixed := hm, glob := hg } M' st' a' w' → retV P st'.rev fn.results.toList = some x ∧ ob.map (fun p => look p.1 st'.rev.objs) = (ob.map fun p => some p.2) → a'.defers = [] ∧ ∃ v, (results fn a'.tmps).run P w' = .ok v w' ∧ (∃ v', Ending.returned v = .returned v' ∧ Below w.heap.size w w' ∧ RetOk w w' A x ob v') := by
      intro st' hsim ⟨h1, h2⟩
      have hrev := hsim.rev
      obtain ⟨v, hv, hvr⟩ := retV_run hrev.1 h1
      refine ⟨hsim.1.defers, v, hv, v, rfl, hsim.1.below, ⟨(M'.rev st'.objs).keep ob, fun i hi => ?_, fun i j k l b hi hj hbi hbj => hrev.1.inj i j k l b (keep_ver hi) (keep_ver hj) hbi hbj, fun i k b hvi hbi => hrev.1.rng i k b (keep_ver hvi) hbi, fun b => hsim.1.area b, keep_vrep hvr, fun i k o ho => ?_⟩⟩
      · simp only [Mem.keep] at hi
        split at hi
        · assumption
        · exact absurd rfl hi
      · exact keep_orep (by rw [ho]; rfl) (hrev.1.objs i k o (of_map_eq (g := fun s => look s st'.rev.objs) h2 ho))
    cases e with
    | normal => exact fin st' hsim hq
    | ret => exact fin st' hsim hq
    | exit id => exact hq.elim
    | goto l => exact hq.elim
    | panic c => exact hq.elim
    | outgrown => exact hq.elim

end Go.SL
