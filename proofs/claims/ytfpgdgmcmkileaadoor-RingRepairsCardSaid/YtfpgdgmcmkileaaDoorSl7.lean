/- Operations that make or write memory. -/
import Derived.Test.YtfpgdgmcmkileaaDoorSl6
set_option linter.unusedVariables false
set_option linter.unusedSimpArgs false
namespace Go.SL
open Go.RowKit

def Mem.put (M : Mem) (id k : Nat) (b : Option Nat) : Mem := { ver := fun i => if i = id then some k else M.ver i, blk := fun i => if i = id then b else M.blk i, A := M.A }

theorem hits_one {id k : Nat} {o : O} {i : Nat} : hits [(id, (k, o))] i ↔ i = id := by
  simp only [hits, look_cons]
  by_cases h : id = i
  · simp [h]
  · simp [h, look, Ne.symm h]

theorem newIn_one {id k i l : Nat} : newIn [(id, k)] i l ↔ i = id ∧ l = k := by
  simp [newIn]

/-- An object id that gets a block 'b': a new one, or the one that it had; every other block is as it was, and every block keeps its size. -/
theorem Ext.put {K : Ctx} {M : Mem} {st : St} {a : Act} {w : World} (h : Sim K M st a w) {w' : World} {id k : Nat} {b : Option Nat} {o : O}
    (hb : ∀ b', b = some b' → b' < w'.heap.size ∧ (w.heap.size ≤ b' ∨ ∃ k', M.ver id = some k' ∧ M.blk id = some b'))
    (hheap : ∀ c, c < w.heap.size → (∀ k', M.ver id = some k' → M.blk id ≠ some c) → w'.heap[c]? = w.heap[c]?)
    (hshape : ∀ (c : Nat) (arr : Array Value) (e : TypeId), w.heap[c]? = some (.cells arr e (0, 0)) → ∃ arr' : Array Value, w'.heap[c]? = some (.cells arr' e (0, 0)) ∧ arr'.size = arr.size)
    (hs : w.heap.size ≤ w'.heap.size) (h1 : w'.os = w.os) (h2 : w'.tape = w.tape) (h3 : w'.output = w.output) :
    Ext M w (M.put id k b) w' (hits [(id, (k, o))]) (newIn [(id, k)]) where
  ver := fun i l hv => by
    simp only [Mem.put] at hv
    split at hv
    · rename_i hi; cases hv; exact .inl (newIn_one.2 ⟨hi, rfl⟩)
    · exact .inr hv
  keep := fun i l hv hw => by
    have : i ≠ id := fun e => hw (hits_one.2 e)
    simp [Mem.put, this, hv]
  blk := fun i l hv hn => by
    simp only [Mem.put] at hv ⊢
    split
    · rename_i hi; rw [if_pos hi] at hv; cases hv; exact absurd (newIn_one.2 ⟨hi, rfl⟩) hn
    · rfl
  fresh := fun i l c hn hv hc => by
    obtain ⟨rfl, rfl⟩ := newIn_one.1 hn
    simp only [Mem.put, if_true] at hc
    exact (hb c hc).2
  inj := fun i j l m c hi hj hbi hbj => by
    have key : ∀ x y, x ≠ id → (M.put id k b).ver x = some y → (M.put id k b).blk x = some c → b ≠ some c := by
      intro x y hx hv hbx hbc
      simp only [Mem.put, hx, if_false] at hv hbx
      rcases (hb c hbc).2 with h' | ⟨k', h1, h2⟩
      · have := (h.rng x y c hv hbx).2; omega
      · exact hx (h.inj x id y k' c hv h1 hbx h2)
    by_cases hii : i = id <;> by_cases hjj : j = id
    · rw [hii, hjj]
    · subst hii
      exact absurd (by simpa [Mem.put] using hbi) (key j m hjj hj hbj)
    · subst hjj
      exact absurd (by simpa [Mem.put] using hbj) (key i l hii hi hbi)
    · simp only [Mem.put, hii, hjj, if_false] at hi hj hbi hbj
      exact h.inj i j l m c hi hj hbi hbj
  rng := fun i l c hv hc => by
    by_cases hii : i = id
    · subst hii
      simp only [Mem.put, if_true] at hc
      exact (hb c hc).1
    · simp only [Mem.put, hii, if_false] at hv hc
      exact Nat.lt_of_lt_of_le (h.rng i l c hv hc).2 hs
  heap := fun c hc hw => hheap c hc fun k' hv => hw id k' (hits_one.2 rfl) hv
  shape := hshape
  size := hs
  area := rfl
  os := h1
  tape := h2
  output := h3

theorem look_one {id k : Nat} {o : O} {i l : Nat} {p : O} (h : look i [(id, (k, o))] = some (l, p)) : i = id ∧ l = k ∧ p = o := by
  simp only [look_cons] at h
  split at h
  · rename_i hi; cases h; exact ⟨hi.symm, rfl, rfl⟩
  · cases h

theorem put_ver {M : Mem} {id k : Nat} {b : Option Nat} {o : O} : ∀ i, (M.put id k b).ver i ≠ none → M.ver i ≠ none ∨ hits [(id, (k, o))] i := fun i hi => by
  by_cases h : i = id
  · exact .inr (hits_one.2 h)
  · exact .inl (by simpa [Mem.put, h] using hi)

theorem Ext.alloc {K : Ctx} {M : Mem} {st : St} {a : Act} {w : World} (h : Sim K M st a w) (id k : Nat) (o : O) (obj : Obj) : Ext M w (M.put id k (some w.heap.size)) (w.alloc obj) (hits [(id, (k, o))]) (newIn [(id, k)]) :=
  Ext.put h (fun b' hb => by cases hb; exact ⟨by simp, .inl (Nat.le_refl _)⟩) (fun c hc _ => heap_alloc_old w obj c hc)
    (fun c arr e hc => ⟨arr, by rw [heap_alloc_old w obj c (Array.getElem?_eq_some_iff.1 hc).1]; exact hc, rfl⟩) (by simp) rfl rfl rfl

/-- A variable's box. -/
theorem Step_box {K : Ctx} {st : St} {o : Oper} (e : TypeId) (x : Operand) (id k : Nat) (y : V1) (ho : o.op = .box e x) (hx : op1 K.globs st x = some y) (hf : y.freeB [(id, k)] = true) :
    Step K st o [(id, k)] [(id, (k, .box e y.cells))] (.v (.one (.bptr id k 0))) := by
  intro M a w h _
  have hv := op1_rep h hx
  have he := Ext.alloc h id k (.box e y.cells) (.cells (a.eval x).cells e)
  unfold Oper.wp
  have hrun : (execOp a.eval o).run K.P w = .ok (.value (.pointer (some ⟨w.heap.size, 0, none⟩))) (w.alloc (.cells (a.eval x).cells e)) := by
    unfold execOp
    rw [ho]
    simp [Instr.box, newVar, newRow]
  rw [hrun]
  refine ⟨_, _, rfl, he, ⟨w.heap.size, rfl, fun _ => by simp [Mem.put]⟩, fun i l p hl => ?_, put_ver⟩
  obtain ⟨rfl, rfl, rfl⟩ := look_one hl
  refine ⟨by simp [Mem.put], w.heap.size, (a.eval x).cells, by simp [Mem.put], heap_alloc_new w _, ?_⟩
  have hy := he.v1rep (V1.free_of hf) hv
  exact v1_cells hy

/-- A variable of its zero value. -/
theorem Step_alloc {K : Ctx} {st : St} {o : Oper} (e : TypeId) (id k : Nat) (cs : List C) (ho : o.op = .alloc e) (hz : zeroC K.P e = some cs) (hf : cs.all (C.freeB [(id, k)]) = true) :
    Step K st o [(id, k)] [(id, (k, .box e cs))] (.v (.one (.bptr id k 0))) := by
  intro M a w h _
  obtain ⟨z, hzr, hzc⟩ := zeroC_rep hz w M
  have he := Ext.alloc h id k (.box e cs) (.cells z.cells e)
  unfold Oper.wp
  have hrun : (execOp a.eval o).run K.P w = .ok (.value (.pointer (some ⟨w.heap.size, 0, none⟩))) (w.alloc (.cells z.cells e)) := by
    unfold execOp
    rw [ho]
    simp [Instr.alloc, newVar, newRow, hzr]
  rw [hrun]
  refine ⟨_, _, rfl, he, ⟨w.heap.size, rfl, fun _ => by simp [Mem.put]⟩, fun i l p hl => ?_, put_ver⟩
  obtain ⟨rfl, rfl, rfl⟩ := look_one hl
  exact ⟨by simp [Mem.put], w.heap.size, z.cells, by simp [Mem.put], heap_alloc_new w _, he.csrep (CsFree_of hf) hzc⟩

theorem oneCell_of_csrep {w : World} {M : Mem} {cs : List C} {vs : Array Value} (h : CsRep w M cs vs) : ∀ v ∈ vs.toList, v.oneCell' = true := by
  intro v hv
  obtain ⟨j, hj, rfl⟩ := List.mem_iff_getElem.1 hv
  have hj' : j < vs.size := by simpa using hj
  have := (h.2 j (by rw [← h.1]; exact hj')).cell
  simpa [Array.getD_eq_getD_getElem?, Array.getElem?_eq_getElem hj'] using this

/-- The cells of a block behind a store. -/
theorem csrep_store {w : World} {M : Mem} {cs xs : List C} {arr vs : Array Value} {j : Nat} (hc : CsRep w M cs arr) (hx : CsRep w M xs vs) (hb : j + xs.length ≤ cs.length) :
    CsRep w M (splice cs j xs) (arr.toList.take j ++ vs.toList ++ arr.toList.drop (j + vs.toList.length)).toArray := by
  have hcs := hc.1
  have hxs := hx.1
  have hvl : vs.toList.length = xs.length := by simpa using hxs
  refine ⟨by simp [splice]; omega, fun m hm => ?_⟩
  have hm' : m < cs.length := by simp [splice] at hm; omega
  unfold splice
  simp only [List.getD_eq_getElem?_getD, Array.getD_eq_getD_getElem?, List.getElem?_toArray, hvl]
  by_cases h1 : m < j
  · have := hc.2 m hm'
    simp only [List.getD_eq_getElem?_getD, Array.getD_eq_getD_getElem?] at this
    rw [List.append_assoc, List.getElem?_append_left (by simp; omega), List.getElem?_take, if_pos h1, List.append_assoc, List.getElem?_append_left (by simp; omega), List.getElem?_take, if_pos h1, Array.getElem?_toList (xs := arr)]
    exact this
  · by_cases h2 : m < j + xs.length
    · have := hx.2 (m - j) (by omega)
      simp only [List.getD_eq_getElem?_getD, Array.getD_eq_getD_getElem?] at this
      rw [List.append_assoc, List.getElem?_append_right (by simp; omega), List.getElem?_append_left (by simp; omega), List.append_assoc, List.getElem?_append_right (by simp; omega), List.getElem?_append_left (by simp; omega)]
      simp only [List.length_take, Nat.min_eq_left (show j ≤ cs.length by omega), Array.length_toList, Nat.min_eq_left (show j ≤ arr.size by omega), Array.getElem?_toList]
      exact this
    · have := hc.2 m hm'
      simp only [List.getD_eq_getElem?_getD, Array.getD_eq_getD_getElem?] at this
      rw [List.getElem?_append_right (by simp; omega), List.getElem?_append_right (by simp; omega), List.getElem?_drop, List.getElem?_drop]
      simp only [List.length_append, List.length_take, Nat.min_eq_left (show j ≤ cs.length by omega), Array.length_toList, Nat.min_eq_left (show j ≤ arr.size by omega), hvl, Array.getElem?_toList]
      rw [show j + xs.length + (m - (j + xs.length)) = m by omega]
      exact this

theorem Ext.write {K : Ctx} {M : Mem} {st : St} {a : Act} {w : World} (h : Sim K M st a w) {id k b : Nat} {arr arr' : Array Value} {e : TypeId} {o : O} (_hv : M.ver id = some k) (hb : M.blk id = some b) (hh : w.heap[b]? = some (.cells arr e (0, 0))) (hs : arr'.size = arr.size) :
    Ext M w M (w.setRow b arr') (hits [(id, (k, o))]) (newIn []) where
  ver := fun _ _ h => .inr h
  keep := fun _ _ h _ => h
  blk := fun _ _ _ _ => rfl
  fresh := fun _ _ _ hn => by cases hn
  inj := h.inj
  rng := fun i l c hv hc => by rw [size_setRow]; exact (h.rng i l c hv hc).2
  heap := fun c hc hw => setRow_other w b c arr' fun hcb => hw id k (hits_one.2 rfl) _hv (by rw [hb, hcb])
  shape := fun c arr0 e0 hc => by
    by_cases hcb : c = b
    · subst hcb
      rw [hh] at hc
      cases hc
      exact ⟨arr', setRow_heap w c arr arr' e (0, 0) hh, hs⟩
    · exact ⟨arr0, by rw [setRow_other w b c arr' hcb]; exact hc, rfl⟩
  size := by rw [size_setRow]; exact Nat.le_refl _
  area := rfl
  os := rfl
  tape := rfl
  output := rfl

theorem storeVar_run {P : Program} {w : World} {t : TypeId} {i : TypeInfo} {b j : Nat} {arr : Array Value} {e : TypeId} {v : Value} (hi : P.info? t = some i) (hsz : v.cells.size = i.size) (hh : w.heap[b]? = some (.cells arr e (0, 0)))
    (hl : j + v.cells.toList.length ≤ arr.size) (h1 : ∀ x ∈ v.cells.toList, x.oneCell' = true) :
    (storeVar t ⟨b, j, none⟩ v).run P w = .ok () (w.setRow b (arr.toList.take j ++ v.cells.toList ++ arr.toList.drop (j + v.cells.toList.length)).toArray) := by
  have := run_storeCells_at P b j e v.cells.toList 0 arr w hh (by simpa using hl) h1
  simp only [Nat.add_zero] at this
  simp only [storeVar, Sem.run_bind, run_sizeOf hi, Result.andThen_ok, hsz, ne_eq, not_true_eq_false, if_false]
  exact this

/-- A store into a box. -/
theorem Step_store_box {K : Ctx} {st : St} {o : Oper} (t : TypeId) (p x : Operand) (id k j : Nat) (e : TypeId) (cs : List C) (y : V1) (cs' : List C) (ho : o.op = .store t p x)
    (hp : op1 K.globs st p = some (.one (.bptr id k j))) (hx : op1 K.globs st x = some y) (hl : look id st.objs = some (k, .box e cs)) (hsz : szOf K.P t = y.cells.length) (hin : (K.P.info? t).isSome = true)
    (hb : Nat.ble (j + y.cells.length) cs.length = true) (hcs : splice cs j y.cells = cs') : Step K st o [] [(id, (k, .box e cs'))] .undef := by
  subst hcs
  intro M a w h _
  have hv := op1_rep h hx
  obtain ⟨b', hpv, hbb⟩ := op1_rep h hp
  obtain ⟨hver, b, arr, hbk, hh, hcr⟩ := h.objs id k _ hl
  have hb' : b' = b := Option.some.inj ((hbb hver).symm.trans hbk)
  rw [hb'] at hpv
  clear hbb hb'
  obtain ⟨i, hi⟩ := Option.isSome_iff_exists.1 hin
  have hyc := v1_cells hv
  have hle := Nat.le_of_ble_eq_true hb
  have hisz : i.size = y.cells.length := by rw [← hsz]; simp [szOf, hi]
  have hrun := storeVar_run (P := K.P) (w := w) (t := t) (b := b) (j := j) (v := a.eval x) hi (by rw [hyc.1, hisz]) hh (by have := hyc.1; have := hcr.1; simp; omega) (oneCell_of_csrep hyc)
  have hs' : (arr.toList.take j ++ (a.eval x).cells.toList ++ arr.toList.drop (j + (a.eval x).cells.toList.length)).toArray.size = arr.size := by
    have := hyc.1; have := hcr.1; simp; omega
  have he := Ext.write (o := .box e (splice cs j y.cells)) h hver hbk hh hs'
  unfold Oper.wp
  have hex : (execOp a.eval o).run K.P w = .ok .skip (w.setRow b (arr.toList.take j ++ (a.eval x).cells.toList ++ arr.toList.drop (j + (a.eval x).cells.toList.length)).toArray) := by
    unfold execOp
    rw [ho]
    simp only [Instr.storeAt, hpv, Instr.sureAddr, Sem.run_bind, Sem.run_pure, Result.andThen_ok, hrun]
  rw [hex]
  refine ⟨undef, M, rfl, he, rfl, fun i l q hl' => ?_, fun i hi => .inl hi⟩
  obtain ⟨rfl, rfl, rfl⟩ := look_one hl'
  refine ⟨hver, b, _, hbk, setRow_heap w b arr _ e (0, 0) hh, ?_⟩
  have hnil : ∀ cs, CsFree (newIn []) cs := fun cs c _ => by cases c <;> simp [C.free, newIn]
  exact csrep_store (he.csrep (hnil _) hcr) (he.csrep (hnil _) hyc) hle

theorem getD_take_drop {α : Type} (l vs : List α) (p j : Nat) (d : α) (h : p + vs.length ≤ l.length) : (l.take p ++ vs ++ l.drop (p + vs.length)).getD j d = if p ≤ j ∧ j < p + vs.length then vs.getD (j - p) d else l.getD j d := by
  simp only [List.getD_eq_getElem?_getD]
  by_cases h1 : j < p
  · rw [if_neg (by omega), List.append_assoc, List.getElem?_append_left (by simp; omega), List.getElem?_take, if_pos h1]
  · by_cases h2 : j < p + vs.length
    · rw [if_pos (by omega), List.append_assoc, List.getElem?_append_right (by simp; omega), List.getElem?_append_left (by simp; omega)]
      simp only [List.length_take, Nat.min_eq_left (show p ≤ l.length by omega)]
    · rw [if_neg (by omega), List.getElem?_append_right (by simp; omega), List.getElem?_drop]
      simp only [List.length_append, List.length_take, Nat.min_eq_left (show p ≤ l.length by omega)]
      rw [show p + vs.length + (j - (p + vs.length)) = j by omega]

theorem getD_arr {arr : Array Value} {j : Nat} : arr.getD j undef = arr.toList.getD j undef := by
  simp [Array.getD_eq_getD_getElem?, List.getD_eq_getElem?_getD]

/-- A store into an element of a row. -/
theorem Step_store_row {K : Ctx} {st : St} {o : Oper} (t : TypeId) (p x : Operand) (id k sz i j : Nat) (e : TypeId) (n : Nat) (f f' : Nat → List C) (y : V1) (ho : o.op = .store t p x)
    (hp : op1 K.globs st p = some (.one (.rptr id k sz i j))) (hx : op1 K.globs st x = some y) (hl : look id st.objs = some (k, .row e sz n f)) (hsz : szOf K.P t = y.cells.length) (hin : (K.P.info? t).isSome = true)
    (himm : y.cells.all C.isImm = true) (hb : Nat.ble (j + y.cells.length) sz = true) (hi : i < n) (hf' : ∀ m, m < n → f' m = if m = i then splice (f i) j y.cells else f m) :
    Step K st o [] [(id, (k, .row e sz n f'))] .undef := by
  intro M a w h _
  have hv := op1_rep h hx
  obtain ⟨b', hpv, hbb⟩ := op1_rep h hp
  obtain ⟨hver, hrow⟩ := h.objs id k _ hl
  rcases hrow with ⟨_, h0⟩ | ⟨b, arr, hbk, hh, hns, hcr⟩
  · omega
  have hb' : b' = b := Option.some.inj ((hbb hver).symm.trans hbk)
  rw [hb'] at hpv
  clear hbb hb'
  obtain ⟨ti, hti⟩ := Option.isSome_iff_exists.1 hin
  have hyc := v1_cells hv
  have hle := Nat.le_of_ble_eq_true hb
  have hisz : ti.size = y.cells.length := by rw [← hsz]; simp [szOf, hti]
  have hin' : i * sz + sz ≤ n * sz := by
    have : (i + 1) * sz ≤ n * sz := Nat.mul_le_mul_right _ hi
    rw [Nat.add_mul, Nat.one_mul] at this
    exact this
  have hvs : (a.eval x).cells.size = y.cells.length := hyc.1
  have hrun := storeVar_run (P := K.P) (w := w) (t := t) (b := b) (j := i * sz + j) (v := a.eval x) hti (by rw [hyc.1, hisz]) hh (by simp; omega) (oneCell_of_csrep hyc)
  have hs' : (arr.toList.take (i * sz + j) ++ (a.eval x).cells.toList ++ arr.toList.drop (i * sz + j + (a.eval x).cells.toList.length)).toArray.size = arr.size := by
    simp; omega
  have he := Ext.write (o := .row e sz n f') h hver hbk hh hs'
  unfold Oper.wp
  have hex : (execOp a.eval o).run K.P w = .ok .skip (w.setRow b (arr.toList.take (i * sz + j) ++ (a.eval x).cells.toList ++ arr.toList.drop (i * sz + j + (a.eval x).cells.toList.length)).toArray) := by
    unfold execOp
    rw [ho]
    simp only [Instr.storeAt, hpv, Instr.sureAddr, Sem.run_bind, Sem.run_pure, Result.andThen_ok, hrun]
  rw [hex]
  refine ⟨undef, M, rfl, he, rfl, fun i' l q hl' => ?_, fun i hi => .inl hi⟩
  obtain ⟨rfl, rfl, rfl⟩ := look_one hl'
  refine ⟨hver, .inr ⟨b, _, hbk, setRow_heap w b arr _ e (0, 0) hh, by omega, fun m hm => ?_⟩⟩
  have hfi := hcr i hi
  have hlen : (f' m).length = sz := by
    rw [hf' m hm]
    split
    · simp only [splice, List.length_append, List.length_take, List.length_drop, hfi.1]; omega
    · exact (hcr m hm).1
  refine ⟨hlen, fun q hq => ?_⟩
  rw [hf' m hm]
  have hmn : m * sz + sz ≤ n * sz := by
    have : (m + 1) * sz ≤ n * sz := Nat.mul_le_mul_right _ hm
    rw [Nat.add_mul, Nat.one_mul] at this
    exact this
  have hcell : ((arr.toList.take (i * sz + j) ++ (a.eval x).cells.toList ++ arr.toList.drop (i * sz + j + (a.eval x).cells.toList.length)).toArray).getD (m * sz + q) undef =
      if i * sz + j ≤ m * sz + q ∧ m * sz + q < i * sz + j + y.cells.length then (a.eval x).cells.getD (m * sz + q - (i * sz + j)) undef else arr.getD (m * sz + q) undef := by
    rw [getD_arr, getD_take_drop _ _ _ _ _ (by simp; omega)]
    simp only [Array.length_toList, hvs, ← getD_arr]
  rw [hcell]
  clear hcell hex hrun
  generalize (w.setRow b (arr.toList.take (i * sz + j) ++ (a.eval x).cells.toList ++ arr.toList.drop (i * sz + j + (a.eval x).cells.toList.length)).toArray) = w2 at he
  by_cases hmi : m = i
  · subst hmi
    rw [if_pos rfl]
    unfold splice
    rw [getD_take_drop _ _ _ _ _ (by rw [hfi.1]; exact hle)]
    by_cases hq1 : j ≤ q ∧ q < j + y.cells.length
    · rw [if_pos hq1, if_pos (by omega), show m * sz + q - (m * sz + j) = q - j by omega]
      have hy := hyc.2 (q - j) (by omega)
      have hyi : (y.cells.getD (q - j) .unk).isImm = true := List.all_eq_true.1 himm _ (getD_mem (by omega))
      have hy' : IRep w M.imm (y.cells.getD (q - j) .unk) ((a.eval x).cells.getD (q - j) undef) := by
        generalize y.cells.getD (q - j) .unk = c at hy hyi
        cases c <;> first | exact hy | cases hyi
      exact he.irep hy'
    · rw [if_neg hq1, if_neg (by omega)]
      exact he.irep (hfi.2 q hq)
  · rw [if_neg hmi]
    have hne : ¬ (i * sz + j ≤ m * sz + q ∧ m * sz + q < i * sz + j + y.cells.length) := by
      rcases Nat.lt_or_gt_of_ne hmi with hlt | hgt
      · have : (m + 1) * sz ≤ i * sz := Nat.mul_le_mul_right _ hlt
        rw [Nat.add_mul, Nat.one_mul] at this
        omega
      · have hg : (i + 1) * sz ≤ m * sz := Nat.mul_le_mul_right _ hgt
        rw [Nat.add_mul, Nat.one_mul] at hg
        omega
    rw [if_neg hne]
    exact he.irep ((hcr m hm).2 q hq)

end Go.SL
