/- Operations that leave memory as it is: what they come to, by computation on what is known. -/
import Derived.Test.YtfpgdgmcmkileaaDoorSl3
import Derived.Laws.StructEq
set_option linter.unusedVariables false
set_option linter.unusedSimpArgs false
namespace Go.SL
open Go.RowKit

def C.isImm : C → Bool
  | .own .. | .bptr .. | .rptr .. | .unk => false
  | _ => true

theorem crep_of_imm {w : World} {M : Mem} {c : C} {v : Value} (hc : c.isImm = true) (h : IRep w M.imm c v) : CRep w M c v := by
  cases c <;> first | exact h | cases hc

def constC : Value → C
  | .slice none 0 0 => .emp
  | v => .val v

theorem constC_rep {w : World} {M : Mem} {v : Value} (h : v.oneCell' = true) : CRep w M (constC v) v := by
  unfold constC
  split
  · exact .emp none
  · exact .val v h

def constV : Value → Option V
  | .agg cs => bif cs.toList.all Value.oneCell' then some (.v (.agg (cs.toList.map constC))) else none
  | v => bif v.oneCell' then some (.v (.one (constC v))) else none

theorem constV_rep {w : World} {M : Mem} {v : Value} {x : V} (h : constV v = some x) : VRep w M x v := by
  unfold constV at h
  split at h
  · rename_i cs
    cases hb : cs.toList.all Value.oneCell' with
    | false => rw [hb] at h; cases h
    | true =>
      rw [hb] at h
      cases h
      refine ⟨cs, rfl, by simp, fun j hj => ?_⟩
      have hj' : j < cs.toList.length := by simpa using hj
      have := constC_rep (w := w) (M := M) (List.all_eq_true.1 hb _ (List.getElem_mem hj'))
      simpa [List.getD_eq_getElem?_getD, List.getElem?_map, List.getElem?_eq_getElem hj', Array.getD_eq_getD_getElem?, Array.getElem?_eq_getElem (show j < cs.size by simpa using hj')] using this
  · cases hb : v.oneCell' with
    | false => rw [hb] at h; cases h
    | true => rw [hb] at h; cases h; exact constC_rep hb

/-- An operand. -/
def opV (gl : List (Nat × C)) (st : St) : Operand → Option V
  | .tmp t => look t st.slots
  | .const v => constV v
  | .global g => match look g gl with | some c => bif c.isImm then some (.v (.one c)) else none | none => none
  | .func _ => none

theorem opV_rep {K : Ctx} {M : Mem} {st : St} {a : Act} {w : World} (h : Sim K M st a w) {o : Operand} {x : V} (ho : opV K.globs st o = some x) : VRep w M x (a.eval o) := by
  cases o with
  | tmp t => exact h.slots t x ho
  | const v => exact constV_rep ho
  | func f => cases ho
  | global g =>
    simp only [opV] at ho
    cases hl : look g K.globs with
    | none => rw [hl] at ho; cases ho
    | some c =>
      rw [hl] at ho
      simp only at ho
      cases hc : c.isImm with
      | false => rw [hc] at ho; cases ho
      | true =>
        rw [hc] at ho
        cases ho
        refine crep_of_imm hc ((K.glob g c hl).move (fun b _ hb => h.below.block b hb) fun b ha hb => ⟨(h.area b).2 (.inl ha), ?_⟩)
        rintro ⟨i, k, hv, hbk⟩
        have := (h.rng i k b hv hbk).1
        omega

def op1 (gl : List (Nat × C)) (st : St) (o : Operand) : Option V1 := match opV gl st o with | some (.v x) => some x | _ => none

theorem op1_rep {K : Ctx} {M : Mem} {st : St} {a : Act} {w : World} (h : Sim K M st a w) {o : Operand} {x : V1} (ho : op1 K.globs st o = some x) : V1Rep w M x (a.eval o) := by
  unfold op1 at ho
  split at ho
  · rename_i y heq; cases ho; exact opV_rep h heq
  · cases ho

theorem v1_val {w : World} {M : Mem} {x v : Value} (h : V1Rep w M (.one (.val x)) v) : v = x := IRep.val_eq h

theorem v1_mk {w : World} {M : Mem} (v : Value) (h : v.oneCell' = true) : V1Rep w M (.one (.val v)) v := IRep.val v h

def isAggD : TypeDesc → Bool
  | .struct _ | .array _ _ => true
  | _ => false

theorem run_isAgg {P : Program} {t : TypeId} {d : TypeDesc} (h : P.underlying t = some d) (w : World) : (isAgg t).run P w = .ok (isAggD d) w := by
  simp only [isAgg, Sem.run_bind, run_underlying h, Result.andThen_ok]
  cases d <;> rfl

theorem run_sizeOf {P : Program} {t : TypeId} {i : TypeInfo} (h : P.info? t = some i) (w : World) : (sizeOf t).run P w = .ok i.size w := by
  simp [sizeOf, typeInfo, h]

/-- The value of type t that lies at the head of known cells. -/
def takeV (P : Program) (t : TypeId) (cs : List C) : Option V1 :=
  match P.underlying t, P.info? t with
  | some d, some i => bif isAggD d then (bif Nat.ble i.size cs.length then some (.agg (cs.take i.size)) else none) else (match cs with | c :: _ => some (.one c) | [] => none)
  | _, _ => none

theorem csrep_take {w : World} {M : Mem} {cs : List C} {n : Nat} {g : Nat → Value} (hn : n ≤ cs.length) (hr : ∀ j, j < cs.length → CRep w M (cs.getD j .unk) (g j)) :
    CsRep w M (cs.take n) ((List.range n).map g).toArray := by
  refine ⟨by simp [Nat.min_eq_left hn], fun j hj => ?_⟩
  have hj' : j < n := by simp at hj; omega
  have := hr j (by omega)
  simp only [List.getD_eq_getElem?_getD, List.getElem?_take, hj', if_true] at this ⊢
  simpa [hj'] using this

theorem run_loadVar {P : Program} {w : World} {M : Mem} {t : TypeId} {cs : List C} {x : V1} {b o : Nat} {g : Nat → Value} (ht : takeV P t cs = some x)
    (hc : ∀ j, j < cs.length → w.cell? ⟨b, o + j, none⟩ = some (g j)) (hr : ∀ j, j < cs.length → CRep w M (cs.getD j .unk) (g j)) :
    ∃ v, (loadVar t ⟨b, o, none⟩).run P w = .ok v w ∧ V1Rep w M x v := by
  unfold takeV at ht
  split at ht
  · rename_i d i hd hi
    cases ha : isAggD d with
    | true =>
      rw [ha] at ht
      simp only [cond_true] at ht
      cases hb : Nat.ble i.size cs.length with
      | false => rw [hb] at ht; cases ht
      | true =>
        rw [hb] at ht
        cases ht
        have hn := Nat.le_of_ble_eq_true hb
        refine ⟨.agg ((List.range i.size).map g).toArray, ?_, _, rfl, csrep_take hn hr⟩
        have hl := run_loadCells (P := P) w ⟨b, o, none⟩ i.size g fun j hj => by rw [Addr.add_lit]; exact hc j (by omega)
        simp [loadVar, run_isAgg hd, ha, run_sizeOf hi, hl]
    | false =>
      rw [ha] at ht
      simp only [cond_false] at ht
      split at ht
      · rename_i c cs'
        cases ht
        have h0 := hc 0 (by simp)
        refine ⟨g 0, ?_, show CRep w M c (g 0) by simpa using hr 0 (by simp)⟩
        simp only [Nat.add_zero] at h0
        simp [loadVar, run_isAgg hd, ha, h0]
      · cases ht
  · cases ht

/-- The cells that a pointer is known to lead to. -/
def ptrCells (st : St) : C → Option (List C × Prop)
  | .bptr id k j => match look id st.objs with | some (k', .box _ cs) => bif Nat.beq k k' then some (cs.drop j, True) else none | _ => none
  | .rptr id k sz i j => match look id st.objs with | some (k', .row _ sz' n f) => bif Nat.beq k k' && Nat.beq sz sz' then some ((f i).drop j, i < n) else none | _ => none
  | .lptr cs => some (cs, True)
  | .aptr n sz f => bif Nat.ble n 64 && (List.range n).all (fun i => Nat.beq (f i).length sz) then some (((List.range n).map f).flatten, True) else none
  | _ => none

/-- The cells of an array, one behind the other. -/
theorem flat_getD {f : Nat → List C} {sz : Nat} : ∀ (n : Nat), (∀ i, i < n → (f i).length = sz) → (((List.range n).map f).flatten).length = n * sz ∧ ∀ i j, i < n → j < sz → (((List.range n).map f).flatten).getD (i * sz + j) .unk = (f i).getD j .unk
  | 0, _ => ⟨by simp, fun i j hi => by omega⟩
  | n + 1, h => by
    obtain ⟨h1, h2⟩ := flat_getD n fun i hi => h i (by omega)
    rw [List.range_succ, List.map_append, List.flatten_append]
    simp only [List.map_cons, List.map_nil, List.flatten_cons, List.flatten_nil, List.append_nil]
    refine ⟨by rw [List.length_append, h1, h n (by omega), Nat.add_mul, Nat.one_mul], fun i j hi hj => ?_⟩
    simp only [List.getD_eq_getElem?_getD]
    by_cases hin : i < n
    · have : (i + 1) * sz ≤ n * sz := Nat.mul_le_mul_right _ hin
      rw [Nat.add_mul, Nat.one_mul] at this
      rw [List.getElem?_append_left (by omega)]
      have := h2 i j hin hj
      simpa only [List.getD_eq_getElem?_getD] using this
    · have hie : i = n := by omega
      subst hie
      rw [List.getElem?_append_right (by omega), h1, Nat.add_sub_cancel_left]

theorem cell_of_row' {w : World} {b j : Nat} {arr : Array Value} {e : TypeId} {fr : Nat × Nat} (h : w.heap[b]? = some (.cells arr e fr)) (hj : j < arr.size) : w.cell? ⟨b, j, none⟩ = some (arr.getD j undef) := by
  rw [cell_of_row w b j arr e fr h]
  simp [hj]

theorem getD_drop {cs : List C} {j m : Nat} : (cs.drop j).getD m .unk = cs.getD (j + m) .unk := by
  simp [List.getD_eq_getElem?_getD]

theorem getD_of_lt {c : C} {cs : List C} {j : Nat} (_h : j < cs.length) : cs.getD j .unk = cs.getD j c := by
  simp only [List.getD_eq_getElem?_getD, List.getElem?_eq_getElem _h, Option.getD_some]

theorem IRep.isImm {w : World} {ok : Nat → Prop} {c : C} {v : Value} (h : IRep w ok c v) : c.isImm = true := by cases h <;> rfl

theorem ptrCells_rep {K : Ctx} {M : Mem} {st : St} {a : Act} {w : World} (h : Sim K M st a w) {c : C} {v : Value} (hv : CRep w M c v) {cs : List C} {ob : Prop} (hp : ptrCells st c = some (cs, ob)) (hob : ob) :
    ∃ (b o : Nat) (g : Nat → Value), v = .pointer (some ⟨b, o, none⟩) ∧ (∀ j, j < cs.length → w.cell? ⟨b, o + j, none⟩ = some (g j)) ∧ ∀ j, j < cs.length → CRep w M (cs.getD j .unk) (g j) := by
  unfold ptrCells at hp
  split at hp
  · rename_i id k j
    split at hp
    · rename_i _ k' e cs' hl
      cases hk : Nat.beq k k' with
      | false => rw [hk] at hp; cases hp
      | true =>
        rw [hk] at hp
        cases hp
        have hkk := Nat.eq_of_beq_eq_true hk
        subst hkk
        obtain ⟨hver, b, arr, hb, hh, hsz, hc⟩ := h.objs id k _ hl
        obtain ⟨b', rfl, hb'⟩ := hv
        have hb' := hb' hver
        rw [hb] at hb'
        cases hb'
        refine ⟨b, j, fun m => arr.getD (j + m) undef, rfl, fun m hm => ?_, fun m hm => ?_⟩
        · simp only [List.length_drop] at hm; exact cell_of_row' hh (by omega)
        · simp only [List.length_drop] at hm; rw [getD_drop]; exact hc (j + m) (by omega)
    · cases hp
  · rename_i id k sz i j
    split at hp
    · rename_i k' e sz' n f hl
      cases hk : Nat.beq k k' && Nat.beq sz sz' with
      | false => rw [hk] at hp; cases hp
      | true =>
        rw [hk] at hp
        cases hp
        simp only [Bool.and_eq_true] at hk
        have hkk := Nat.eq_of_beq_eq_true hk.1
        have hss := Nat.eq_of_beq_eq_true hk.2
        subst hkk hss
        obtain ⟨hver, hrow⟩ := h.objs id k _ hl
        rcases hrow with ⟨_, h0⟩ | ⟨b, arr, hb, hh, hsz, hc⟩
        · omega
        · obtain ⟨b', rfl, hb'⟩ := hv
          have hb' := hb' hver
          rw [hb] at hb'
          cases hb'
          have hin : i * sz + sz ≤ n * sz := by
            have : (i + 1) * sz ≤ n * sz := Nat.mul_le_mul_right _ hob
            rw [Nat.add_mul, Nat.one_mul] at this
            exact this
          refine ⟨b, i * sz + j, fun m => arr.getD (i * sz + j + m) undef, rfl, fun m hm => ?_, fun m hm => ?_⟩
          · simp only [List.length_drop, (hc i hob).1] at hm; exact cell_of_row' hh (by omega)
          · simp only [List.length_drop, (hc i hob).1] at hm
            have := (hc i hob).2 (j + m) (by omega)
            rw [getD_drop]
            show CRep w M _ (arr.getD (i * sz + j + m) undef)
            rw [Nat.add_assoc]
            exact crep_of_imm this.isImm this
    · cases hp
  · rename_i cs'
    cases hp
    cases hv with
    | lptr b o cs g hb hc hr => exact ⟨b, o, g, rfl, hc, fun j hj => crep_of_imm (hr j hj).isImm (hr j hj)⟩
  · rename_i n sz f
    cases hk : Nat.ble n 64 && (List.range n).all (fun i => Nat.beq (f i).length sz) with
    | false => rw [hk] at hp; cases hp
    | true =>
      rw [hk] at hp
      cases hp
      cases hv with
      | aptr b o n sz f g hl hb hc hr =>
        obtain ⟨h1, h2⟩ := flat_getD n hl
        have hpos : ∀ q, q < n * sz → 0 < sz := fun q hq => by
          rcases Nat.eq_zero_or_pos sz with h0 | h0
          · subst h0; simp at hq
          · exact h0
        have hdm : ∀ q, q < n * sz → q / sz < n ∧ q % sz < sz ∧ q / sz * sz + q % sz = q := fun q hq =>
          ⟨Nat.div_lt_of_lt_mul (by rw [Nat.mul_comm]; exact hq), Nat.mod_lt _ (hpos q hq), by rw [Nat.mul_comm]; exact Nat.div_add_mod q sz⟩
        refine ⟨b, o, fun q => g (q / sz) (q % sz), rfl, fun q hq => ?_, fun q hq => ?_⟩ <;> rw [h1] at hq <;> obtain ⟨d1, d2, d3⟩ := hdm q hq
        · have := hc (q / sz) (q % sz) d1 d2
          rw [d3] at this
          exact this
        · have := hr (q / sz) (q % sz) d1 d2
          rw [← h2 (q / sz) (q % sz) d1 d2, d3] at this
          exact crep_of_imm this.isImm this
  · cases hp

def cellOf : V1 → Option C
  | .one c => some c
  | _ => none

def loadV (P : Program) (st : St) (t : TypeId) (x : V1) : Option (V × Prop) :=
  match x with
  | .one c => match ptrCells st c with | some (cs, ob) => (takeV P t cs).map fun y => (.v y, ob) | none => none
  | _ => none

theorem loadV_rep {K : Ctx} {M : Mem} {st : St} {a : Act} {w : World} (h : Sim K M st a w) {t : TypeId} {x : V1} {v : Value} (hv : V1Rep w M x v) {y : V} {ob : Prop} (hp : loadV K.P st t x = some (y, ob)) (hob : ob) :
    ∃ u, (Instr.loadAt t v).run K.P w = .ok u w ∧ VRep w M y u := by
  unfold loadV at hp
  split at hp
  · rename_i c
    split at hp
    · rename_i cs ob' hpc
      cases ht : takeV K.P t cs with
      | none => rw [ht] at hp; cases hp
      | some z =>
        rw [ht] at hp
        cases hp
        obtain ⟨b, o, g, rfl, hc, hr⟩ := ptrCells_rep h hv hpc hob
        obtain ⟨u, hu, hru⟩ := run_loadVar (P := K.P) ht hc hr
        exact ⟨u, by simp [Instr.loadAt, Instr.sureAddr, hu], hru⟩
    · cases hp
  · cases hp

/-- The address of a field. -/
def fieldC (off : Nat) : C → Option C
  | .bptr id k j => some (.bptr id k (j + off))
  | .rptr id k sz i j => some (.rptr id k sz i (j + off))
  | .lptr cs => some (.lptr (cs.drop off))
  | _ => none

def fieldV (P : Program) (s : TypeId) (x : V1) (f : Nat) : Option (V × Prop) :=
  match x, P.underlying s with
  | .one c, some (.struct fs) =>
    match fs[f]? with
    | some fd => match P.info? fd.type with
      | some i => bif Nat.beq i.size 0 then none else (fieldC fd.offset c).map fun c => (.v (.one c), True)
      | none => none
    | none => none
  | _, _ => none

theorem fieldC_rep {w : World} {M : Mem} {off : Nat} {c c' : C} {v : Value} (h : fieldC off c = some c') (hv : CRep w M c v) :
    ∃ b o, v = .pointer (some ⟨b, o, none⟩) ∧ CRep w M c' (.pointer (some ⟨b, o + off, none⟩)) := by
  unfold fieldC at h
  split at h
  · rename_i id k j
    cases h
    obtain ⟨b, rfl, hb⟩ := hv
    exact ⟨b, j, rfl, b, rfl, hb⟩
  · rename_i id k sz i j
    cases h
    obtain ⟨b, rfl, hb⟩ := hv
    exact ⟨b, i * sz + j, rfl, b, by rw [Nat.add_assoc], hb⟩
  · rename_i cs
    cases h
    cases hv with
    | lptr b o cs g hb hc hr =>
      refine ⟨b, o, rfl, .lptr b (o + off) _ (fun j => g (off + j)) (fun j hj => ?_) (fun j hj => ?_) (fun j hj => ?_)⟩ <;> simp only [List.length_drop] at hj
      · exact hb (off + j) (by omega)
      · rw [Nat.add_assoc]; exact hc (off + j) (by omega)
      · rw [getD_drop]; exact hr (off + j) (by omega)
  · cases h

theorem fieldV_rep {P : Program} {w : World} {M : Mem} {s : TypeId} {x : V1} {v : Value} (hv : V1Rep w M x v) {f : Nat} {y : V} {ob : Prop} (hp : fieldV P s x f = some (y, ob)) :
    ∃ u, (Instr.fieldAt s v f).run P w = .ok u w ∧ VRep w M y u := by
  unfold fieldV at hp
  split at hp
  · rename_i c fs hs
    split at hp
    · rename_i fd hfd
      split at hp
      · rename_i i hi
        cases hz : Nat.beq i.size 0 with
        | true => rw [hz] at hp; cases hp
        | false =>
          rw [hz] at hp
          simp only [cond_false] at hp
          cases hc : fieldC fd.offset c with
          | none => rw [hc] at hp; cases hp
          | some c' =>
            rw [hc] at hp
            cases hp
            obtain ⟨b, o, rfl, hr⟩ := fieldC_rep hc hv
            have hne : i.size ≠ 0 := fun h => by rw [h] at hz; cases hz
            refine ⟨_, ?_, hr⟩
            simp [Instr.fieldAt, run_underlying hs, hfd, Instr.sureAddr, fieldPlace, run_sizeOf hi, hne, Addr.add_lit]
      · cases hp
    · cases hp
  · cases hp

/-- The address of an element. -/
def indexV (P : Program) (t : TypeId) (x i : V1) : Option (V × Prop) :=
  match i with
  | .one (.val (.int _ z)) =>
    match P.underlying t with
    | some (.slice e) =>
      match P.info? e, x with
      | some ie, .one (.lst n f) => bif Nat.beq (f z.toNat).length ie.size then some (.v (.one (.lptr (f z.toNat))), 0 ≤ z ∧ z < (n : Int)) else none
      | some ie, .one (.own id k sz len) => bif Nat.beq sz ie.size then some (.v (.one (.rptr id k sz z.toNat 0)), 0 ≤ z ∧ z < (len : Int)) else none
      | _, _ => none
    | some (.array len e) =>
      match P.info? e, x with
      | some ie, .one (.aptr n sz f) => bif Nat.beq sz ie.size && Nat.beq n len then some (.v (.one (.lptr (f z.toNat))), 0 ≤ z ∧ z < (n : Int)) else none
      | some ie, .one (.bptr id k j) => some (.v (.one (.bptr id k (j + z.toNat * ie.size))), 0 ≤ z ∧ z < (len : Int))
      | some ie, .one (.lptr cs) => some (.v (.one (.lptr (cs.drop (z.toNat * ie.size)))), 0 ≤ z ∧ z < (len : Int))
      | some ie, .one (.rptr id k sz i j) => some (.v (.one (.rptr id k sz i (j + z.toNat * ie.size))), 0 ≤ z ∧ z < (len : Int))
      | _, _ => none
    | _ => none
  | _ => none

theorem lptr_of {w : World} {ok : Nat → Prop} {b o n sz : Nat} {f : Nat → List C} {g : Nat → Nat → Value} (hl : ∀ i, i < n → (f i).length = sz)
    (hb : ∀ i j, i < n → j < sz → ok b) (hc : ∀ i j, i < n → j < sz → w.cell? ⟨b, o + (i * sz + j), none⟩ = some (g i j)) (hr : ∀ i j, i < n → j < sz → IRep w ok ((f i).getD j .unk) (g i j)) {i : Nat} (hi : i < n) :
    IRep w ok (.lptr (f i)) (.pointer (some ⟨b, o + i * sz, none⟩)) := by
  refine .lptr b (o + i * sz) (f i) (g i) (fun j hj => ?_) (fun j hj => ?_) (fun j hj => ?_) <;> rw [hl i hi] at hj
  · exact hb i j hi hj
  · rw [Nat.add_assoc]; exact hc i j hi hj
  · exact hr i j hi hj

theorem indexV_rep {P : Program} {w : World} {M : Mem} {t : TypeId} {x i : V1} {v u : Value} (hv : V1Rep w M x v) (hu : V1Rep w M i u) {y : V} {ob : Prop} (hp : indexV P t x i = some (y, ob)) (hob : ob) :
    ∃ r, (Instr.indexAt t v u).run P w = .ok r w ∧ VRep w M y r := by
  unfold indexV at hp
  split at hp
  · rename_i kk z
    have hu' := v1_val hu
    subst hu'
    have hz : ∀ m : Nat, 0 ≤ z ∧ z < (m : Int) → z.toNat < m := fun m hm => by omega
    split at hp
    · rename_i e ht
      split at hp
      · rename_i ie n f hi
        cases hb : Nat.beq (f z.toNat).length ie.size with
        | false => rw [hb] at hp; cases hp
        | true =>
          rw [hb] at hp
          cases hp
          have hlen := Nat.eq_of_beq_eq_true hb
          have hzn := hz _ hob
          cases hv with
          | lst0 a => omega
          | lst b o n cap sz f g hn hm hl hbb hc hr =>
            have hs : sz = ie.size := by rw [← hlen, hl _ hzn]
            subst hs
            refine ⟨.pointer (some ⟨b, o + z.toNat * ie.size, none⟩), ?_, lptr_of hl hbb hc hr hzn⟩
            simp [Instr.indexAt, asIntOf, run_underlying ht, hob.1, hob.2, run_sizeOf hi, Addr.add_lit]
      · rename_i ie id k sz len hi
        cases hb : Nat.beq sz ie.size with
        | false => rw [hb] at hp; cases hp
        | true =>
          rw [hb] at hp
          cases hp
          have hlen := Nat.eq_of_beq_eq_true hb
          subst hlen
          have hzn := hz _ hob
          rcases hv with ⟨h0, _⟩ | ⟨b, cap, rfl, h1, h2, hx⟩
          · omega
          · refine ⟨.pointer (some ⟨b, z.toNat * ie.size, none⟩), ?_, b, rfl, fun hd => (hx hd).1⟩
            simp [Instr.indexAt, asIntOf, run_underlying ht, hob.1, hob.2, run_sizeOf hi, Addr.add_lit]
      · cases hp
    · rename_i len e ht
      split at hp
      · rename_i ie n sz f hi
        cases hb : Nat.beq sz ie.size && Nat.beq n len with
        | false => rw [hb] at hp; cases hp
        | true =>
          rw [hb] at hp
          cases hp
          simp only [Bool.and_eq_true] at hb
          have hlen := Nat.eq_of_beq_eq_true hb.1
          have hnn := Nat.eq_of_beq_eq_true hb.2
          subst hlen hnn
          have hzn := hz _ hob
          cases hv with
          | aptr b o n sz f g hl hbb hc hr =>
            refine ⟨.pointer (some ⟨b, o + z.toNat * ie.size, none⟩), ?_, lptr_of hl hbb hc hr hzn⟩
            simp [Instr.indexAt, asIntOf, run_underlying ht, Instr.sureAddr, hob.1, hob.2, run_sizeOf hi, Addr.add_lit]
      · rename_i ie id k j hi
        cases hp
        obtain ⟨b, rfl, hx⟩ := hv
        refine ⟨.pointer (some ⟨b, j + z.toNat * ie.size, none⟩), ?_, b, rfl, hx⟩
        simp [Instr.indexAt, asIntOf, run_underlying ht, Instr.sureAddr, hob.1, hob.2, run_sizeOf hi, Addr.add_lit]
      · rename_i ie cs hi
        cases hp
        obtain ⟨b, o, rfl, hr⟩ := fieldC_rep (w := w) (M := M) (off := z.toNat * ie.size) (c := .lptr cs) (c' := .lptr (cs.drop (z.toNat * ie.size))) rfl hv
        refine ⟨.pointer (some ⟨b, o + z.toNat * ie.size, none⟩), ?_, hr⟩
        simp [Instr.indexAt, asIntOf, run_underlying ht, Instr.sureAddr, hob.1, hob.2, run_sizeOf hi, Addr.add_lit]
      · rename_i ie id k sz i j hi
        cases hp
        obtain ⟨b, rfl, hx⟩ := hv
        refine ⟨.pointer (some ⟨b, i * sz + j + z.toNat * ie.size, none⟩), ?_, b, by rw [Nat.add_assoc], hx⟩
        simp [Instr.indexAt, asIntOf, run_underlying ht, Instr.sureAddr, hob.1, hob.2, run_sizeOf hi, Addr.add_lit]
      · cases hp
    · cases hp
  · cases hp

/-! ### Arithmetic and comparisons -/

/-- A part of a struct's or array's value. -/
def partV (P : Program) (t : TypeId) (cs : List C) (off : Nat) : Option V1 := takeV P t (cs.drop off)

theorem partV_rep {P : Program} {w : World} {M : Mem} {t : TypeId} {cs : List C} {vs : Array Value} {off : Nat} {x : V1} (h : partV P t cs off = some x) (hr : CsRep w M cs vs) : ∃ v, (part t vs off).run P w = .ok v w ∧ V1Rep w M x v := by
  unfold partV takeV at h
  split at h
  · rename_i d i hd hi
    cases ha : isAggD d with
    | true =>
      rw [ha] at h
      simp only [cond_true] at h
      cases hb : Nat.ble i.size (cs.drop off).length with
      | false => rw [hb] at h; cases h
      | true =>
        rw [hb] at h
        cases h
        have hn := Nat.le_of_ble_eq_true hb
        simp only [List.length_drop] at hn
        refine ⟨.agg (vs.extract off (off + i.size)), by simp [part, run_isAgg hd, ha, run_sizeOf hi], _, rfl, ?_, fun j hj => ?_⟩
        · have := hr.1; simp; omega
        · have hj' : j < i.size := by simp at hj; omega
          by_cases hof : off + j < cs.length
          · have := hr.2 (off + j) hof
            have hsz := hr.1
            simp only [List.getD_eq_getElem?_getD, List.getElem?_take, hj', if_true, List.getElem?_drop, Array.getD_eq_getD_getElem?, Array.getElem?_extract] at this ⊢
            rw [if_pos (by omega)]
            exact this
          · simp only [List.length_take, List.length_drop] at hj; omega
    | false =>
      rw [ha] at h
      simp only [cond_false] at h
      split at h
      · rename_i c cs' hcs
        cases h
        have hlt : off < cs.length := by
          have : (cs.drop off).length = cs'.length + 1 := by rw [hcs]; rfl
          rw [List.length_drop] at this; omega
        have h0 := hr.2 off hlt
        have hsz := hr.1
        have hc : cs.getD off .unk = c := by
          have : (cs.drop off).getD 0 .unk = c := by rw [hcs]; rfl
          rw [getD_drop] at this
          exact this
        rw [hc] at h0
        have hv : vs[off]? = some (vs.getD off undef) := by
          have hlt' : off < vs.size := by omega
          rw [Array.getD_eq_getD_getElem?, Array.getElem?_eq_getElem hlt', Option.getD_some]
        refine ⟨vs.getD off undef, ?_, h0⟩
        simp only [part, Sem.run_bind, run_isAgg hd, ha, Result.andThen_ok, Bool.false_eq_true, if_false, hv]
        rfl
      · cases h
  · cases h

/-- '==' on values without addresses. -/
def eqV (P : Program) : Nat → TypeId → V1 → V1 → Option Bool
  | 0, _, _, _ => none
  | d + 1, t, x, y =>
    match P.underlying t, x, y with
    | some .bool, .one (.val (.bool a)), .one (.val (.bool b)) => some (a == b)
    | some (.int _), .one (.val (.int k a)), .one (.val (.int k' b)) => if k = k' then some (a == b) else none
    | some .string, .one (.val (.string a)), .one (.val (.string b)) => some (a == b)
    | some (.struct fs), .agg xs, .agg ys => bif P.stoodInHeld t then none else
        fs.toList.foldr (fun f r => if f.name = "_" then r else match partV P f.type xs f.offset, partV P f.type ys f.offset with
          | some p, some q => match eqV P d f.type p q, r with | some b, some c => some (b && c) | _, _ => none
          | _, _ => none) (some true)
    | _, _, _ => none

theorem eqV_sound {P : Program} {w : World} {M : Mem} : ∀ (n d : Nat) (t : TypeId) (x y : V1) (v u : Value) (b : Bool), n ≤ d → V1Rep w M x v → V1Rep w M y u → eqV P n t x y = some b → (Op.equalIn d t v u).run P w = .ok b w
  | 0, _, _, _, _, _, _, _, _, _, _, h => by cases h
  | n + 1, 0, _, _, _, _, _, _, hn, _, _, _ => by omega
  | n + 1, d + 1, t, x, y, v, u, b, hn, hv, hu, h => by
    unfold eqV at h
    split at h
    · rename_i a b' ht
      cases h
      rw [v1_val hv, v1_val hu]
      simp [Op.equalIn, run_underlying ht]
    · rename_i k0 k a k' b' ht
      split at h
      · rename_i hk
        subst hk
        cases h
        rw [v1_val hv, v1_val hu]
        exact run_equalIn_int w d t k k0 a b' ht
      · cases h
    · rename_i a b' ht
      cases h
      rw [v1_val hv, v1_val hu]
      simp [Op.equalIn, run_underlying ht]
    · rename_i fs xs ys ht
      cases hp : P.stoodInHeld t with
      | true => rw [hp] at h; cases h
      | false =>
        rw [hp] at h
        simp only [cond_false] at h
        obtain ⟨vs, rfl, hvs⟩ := hv
        obtain ⟨us, rfl, hus⟩ := hu
        have hfo : P.fieldsOf t = fs := by simp [Program.fieldsOf, ht]
        rw [run_equalIn_struct w d t vs us (by rw [hfo]; exact ht) hp, hfo]
        clear hfo ht hp
        generalize fs.toList = l at h
        induction l generalizing b with
        | nil => cases h; simp [Op.eqFields]
        | cons f l ih =>
          simp only [List.foldr_cons] at h
          simp only [Op.eqFields]
          split at h
          · rename_i hnm
            rw [if_neg (by simpa using hnm)]
            exact ih b h
          · rename_i hnm
            rw [if_pos hnm]
            split at h
            · rename_i p q hp1 hq1
              split at h
              · rename_i b1 c1 hb1 hc1
                cases h
                obtain ⟨pv, hpr, hpv⟩ := partV_rep hp1 hvs
                obtain ⟨qv, hqr, hqv⟩ := partV_rep hq1 hus
                have he := eqV_sound n d f.type p q pv qv b1 (by omega) hpv hqv hb1
                have hrest := ih c1 hc1
                simp only [Sem.run_bind, hpr, hqr, he, Result.andThen_ok]
                cases b1
                · simp
                · simpa using hrest
              · cases h
            · cases h
    · cases h

def binV (P : Program) (op : BinOp) (t : TypeId) (x y : V1) : Option (V1 × Prop) :=
  match x, y with
  | .one (.val (.int k a)), .one (.val (.int k' b)) =>
    if k = k' then
      match op with
      | .add => some (.one (.val (.int k (k.wrap (a + b)))), True)
      | .sub => some (.one (.val (.int k (k.wrap (a - b)))), True)
      | .mul => some (.one (.val (.int k (k.wrap (a * b)))), True)
      | .quo => some (.one (.val (.int k (k.wrap (a.tdiv b)))), b ≠ 0)
      | .rem => some (.one (.val (.int k (a.tmod b))), b ≠ 0)
      | .eql => some (.one (.val (.bool (a == b))), True)
      | .neq => some (.one (.val (.bool (a != b))), True)
      | .lss => some (.one (.val (.bool (decide (a < b)))), True)
      | .leq => some (.one (.val (.bool (decide (a ≤ b)))), True)
      | .gtr => some (.one (.val (.bool (decide (a > b)))), True)
      | .geq => some (.one (.val (.bool (decide (a ≥ b)))), True)
      | _ => none
    else none
  | .one (.val (.bool a)), .one (.val (.bool b)) =>
    match op, P.underlying t with
    | .eql, some .bool => some (.one (.val (.bool (a == b))), True)
    | .neq, some .bool => some (.one (.val (.bool (!(a == b)))), True)
    | _, _ => none
  | .agg xs, .agg ys =>
    match op with
    | .eql => bif P.eqGuardType P.depth t then none else match eqV P 9 t (.agg xs) (.agg ys) with | some b => some (.one (.val (.bool b)), True) | none => none
    | .neq => bif P.eqGuardType P.depth t then none else match eqV P 9 t (.agg xs) (.agg ys) with | some b => some (.one (.val (.bool (!b))), True) | none => none
    | _ => none
  | _, _ => none

theorem eqGuard_int {P : Program} {w : World} {op : BinOp} {t : TypeId} {x y : Operand} {k k' : IntKind} {a b : Int} : (eqGuard op t x y (.int k a) (.int k' b)).run P w = .ok () w := by
  unfold eqGuard; cases op <;> rfl
theorem eqGuard_bool {P : Program} {w : World} {op : BinOp} {t : TypeId} {x y : Operand} {a b : Bool} : (eqGuard op t x y (.bool a) (.bool b)).run P w = .ok () w := by
  unfold eqGuard; cases op <;> rfl

theorem binV_rep {P : Program} {w : World} {M : Mem} {op : BinOp} {t : TypeId} {x y : V1} {v u : Value} (hv : V1Rep w M x v) (hu : V1Rep w M y u) {z : V1} {ob : Prop} (hp : binV P op t x y = some (z, ob)) (hob : ob) (ox oy : Operand) :
    ∃ r, (do eqGuard op t ox oy v u; binOp op t v u : Sem Value).run P w = .ok r w ∧ V1Rep w M z r := by
  unfold binV at hp
  split at hp
  · rename_i k a k' b
    rw [v1_val hv, v1_val hu]
    split at hp
    · rename_i hk
      subst hk
      simp only [Sem.run_bind, eqGuard_int, Result.andThen_ok]
      cases op <;> simp only at hp <;> first
        | (cases hp
           refine ⟨_, ?_, v1_mk _ rfl⟩
           simp [binOp, Op.intArith, Op.intDiv, Op.intCmp, hob]
           done)
        | (cases hp
           refine ⟨_, ?_, v1_mk _ rfl⟩
           simp [binOp, Op.intArith, Op.intDiv, Op.intCmp]
           done)
        | (cases hp; done)
    · cases hp
  · rename_i a b
    rw [v1_val hv, v1_val hu]
    simp only [Sem.run_bind, eqGuard_bool, Result.andThen_ok]
    split at hp
    · rename_i ht
      cases hp
      refine ⟨.bool (a == b), ?_, v1_mk _ rfl⟩
      have he : (Op.equal t (.bool a) (.bool b)).run P w = .ok (a == b) w := run_equalIn_bool w 9999 t a b ht
      show ((do pure (.bool (← Op.equal t (.bool a) (.bool b)))) : Sem Value).run P w = _
      simp only [Sem.run_bind, he, Result.andThen_ok, Sem.run_pure]
    · rename_i ht
      cases hp
      refine ⟨.bool (!(a == b)), ?_, v1_mk _ rfl⟩
      have he : (Op.equal t (.bool a) (.bool b)).run P w = .ok (a == b) w := run_equalIn_bool w 9999 t a b ht
      show ((do pure (.bool (!(← Op.equal t (.bool a) (.bool b))))) : Sem Value).run P w = _
      simp only [Sem.run_bind, he, Result.andThen_ok, Sem.run_pure]
    · cases hp
  · rename_i xs ys
    split at hp
    · cases hg : P.eqGuardType P.depth t with
      | true => rw [hg] at hp; cases hp
      | false =>
        rw [hg] at hp
        simp only [cond_false] at hp
        split at hp
        · rename_i b hb
          cases hp
          have he := eqV_sound (P := P) (w := w) (M := M) 9 10000 t _ _ v u b (by omega) hv hu hb
          obtain ⟨vs, rfl, _⟩ := hv
          obtain ⟨us, rfl, _⟩ := hu
          refine ⟨.bool b, ?_, v1_mk _ rfl⟩
          simp only [Sem.run_bind, run_eqGuard_agg w _ t ox oy vs us hg, Result.andThen_ok, run_eql_struct, he]
        · cases hp
    · cases hg : P.eqGuardType P.depth t with
      | true => rw [hg] at hp; cases hp
      | false =>
        rw [hg] at hp
        simp only [cond_false] at hp
        split at hp
        · rename_i b hb
          cases hp
          have he := eqV_sound (P := P) (w := w) (M := M) 9 10000 t _ _ v u b (by omega) hv hu hb
          obtain ⟨vs, rfl, _⟩ := hv
          obtain ⟨us, rfl, _⟩ := hu
          refine ⟨.bool (!b), ?_, v1_mk _ rfl⟩
          simp only [Sem.run_bind, run_eqGuard_agg w _ t ox oy vs us hg, Result.andThen_ok, run_neq_struct, he]
        · cases hp
    · cases hp
  · cases hp

end Go.SL
