/- Operations that leave memory as it is: what they come to, by computation on what is known. -/
import Derived.Test.YtidlfgiogdjkaaaGreatDoorYa1
import Derived.Laws.StructEq
import Derived.ChangeKeysEq
set_option linter.unusedVariables false
set_option linter.unusedSimpArgs false
namespace Go.SL
open Go.RowKit
def C.isImm : C → Bool
  | .own .. | .sub .. | .bptr .. | .rptr .. | .fn .. | .yl .. | .unk => false
  | _ => true
theorem EU {w : World} {M : Mem} {c : C} {v : Value} (hc : c.isImm = true) (h : IRep w M.imm c v) : CRep w M c v := by
  cases c <;> first | exact h | cases hc
def qEU : Value → C
  | .slice none 0 0 => .emp
  | v => .val v
theorem constC_rep {w : World} {M : Mem} {v : Value} (h : v.oneCell' = true) : CRep w M (qEU v) v := by
  unfold qEU
  split
  · exact .emp none
  · exact .val v h
def qMN : Value → Option V
  | .agg cs => bif cs.toList.all Value.oneCell' then some (.v (.agg (cs.toList.map qEU))) else none
  | v => bif v.oneCell' then some (.v (.one (qEU v))) else none
theorem qOK {w : World} {M : Mem} {v : Value} {x : V} (h : qMN v = some x) : VRep w M x v := by
  unfold qMN at h
  split at h
  · rename_i cs
    cases hb : cs.toList.all Value.oneCell' with
    | false => rw [hb] at h; cases h
    | true =>
      rw [hb] at h
      cases h
      refine ⟨cs, rfl, by simp, fun j hj => ?_⟩
      have hj' : j < cs.toList.length := by simpa using hj
      have := constC_rep (w := w) (M := M) (List.all_eq_true.1 hb _ (List.getElem_mem hj'))
      simpa [List.getD_eq_getElem?_getD, List.getElem?_map, List.getElem?_eq_getElem hj', Array.getD_eq_getD_getElem?, Array.getElem?_eq_getElem (show j < cs.size by simpa using hj')] using this
  · cases hb : v.oneCell' with
    | false => rw [hb] at h; cases h
    | true => rw [hb] at h; cases h; exact constC_rep hb
def opV (gl : List (Nat × C)) (st : St) : Operand → Option V
  | .tmp t => look t st.slots
  | .const v => qMN v
  | .global g => match look g gl with | some c => bif c.isImm then some (.v (.one c)) else none | none => none
  | .func f => some (.v (.one (.fn f [])))
theorem Sim.globR {K : Ctx} {M : Mem} {st : St} {a : Act} {w : World} (h : Sim K M st a w) {g : Nat} {c : C} (hl : look g K.globs = some c) : IRep w M.imm c (.pointer (some ⟨g, 0, none⟩)) :=
  (K.glob g c hl).move (fun b ha hb => h.below.block b hb fun ⟨i, hB⟩ => (K.hIn i b hB).2.2 ha) fun b ha hb => ⟨(h.area b).2 (.inl ha), fun ⟨i, k, hv, hbk⟩ => by
    rcases (h.rng i k b hv hbk).1 with h1 | h1
    · omega
    · exact (K.hIn i b h1).2.2 ha⟩
theorem opV_rep {K : Ctx} {M : Mem} {st : St} {a : Act} {w : World} (h : Sim K M st a w) {o : Operand} {x : V} (ho : opV K.globs st o = some x) : VRep w M x (a.eval o) := by
  cases o with
  | tmp t => exact h.slots t x ho
  | const v => exact qOK ho
  | func f => cases ho; exact ⟨#[], rfl, rfl, fun j hj => absurd hj (Nat.not_lt_zero j)⟩
  | global g =>
    simp only [opV] at ho
    cases hl : look g K.globs with
    | none => rw [hl] at ho; cases ho
    | some c =>
      rw [hl] at ho
      simp only at ho
      cases hc : c.isImm with
      | false => rw [hc] at ho; cases ho
      | true =>
        rw [hc] at ho
        cases ho
        exact EU hc (h.globR hl)
def op1 (gl : List (Nat × C)) (st : St) (o : Operand) : Option V1 := match opV gl st o with | some (.v x) => some x | _ => none
theorem op1_rep {K : Ctx} {M : Mem} {st : St} {a : Act} {w : World} (h : Sim K M st a w) {o : Operand} {x : V1} (ho : op1 K.globs st o = some x) : qP w M x (a.eval o) := by
  unfold op1 at ho
  split at ho
  · rename_i y heq; cases ho; exact opV_rep h heq
  · cases ho
theorem v1_val {w : World} {M : Mem} {x v : Value} (h : qP w M (.one (.val x)) v) : v = x := IRep.val_eq h
theorem QE {w : World} {M : Mem} (v : Value) (h : v.oneCell' = true) : qP w M (.one (.val v)) v := IRep.val v h
def qEF : TypeDesc → Bool
  | .struct _ | .array _ _ => true
  | _ => false
theorem zbQ {P : Program} {t : TypeId} {d : TypeDesc} (h : P.underlying t = some d) (w : World) : (isAgg t).run P w = .ok (qEF d) w := by
  simp only [isAgg, Sem.run_bind, run_underlying h, Result.andThen_ok]
  cases d <;> rfl
theorem zS {P : Program} {t : TypeId} {i : TypeInfo} (h : P.info? t = some i) (w : World) : (sizeOf t).run P w = .ok i.size w := by
  simp [sizeOf, typeInfo, h]
def qBy (P : Program) (t : TypeId) (cs : List C) : Option V1 :=
  match P.underlying t, P.info? t with
  | some d, some i => bif qEF d then (bif Nat.ble i.size cs.length then some (.agg (cs.take i.size)) else none) else (match cs with | c :: _ => some (.one c) | [] => none)
  | _, _ => none
theorem qOy {w : World} {M : Mem} {cs : List C} {n : Nat} {g : Nat → Value} (hn : n ≤ cs.length) (hr : ∀ j, j < cs.length → CRep w M (cs.getD j .unk) (g j)) :
    wX w M (cs.take n) ((List.range n).map g).toArray := by
  refine ⟨by simp [Nat.min_eq_left hn], fun j hj => ?_⟩
  have hj' : j < n := by simp at hj; omega
  have := hr j (by omega)
  simp only [List.getD_eq_getElem?_getD, List.getElem?_take, hj', if_true] at this ⊢
  simpa [hj'] using this
theorem qFT {P : Program} {w : World} {M : Mem} {t : TypeId} {cs : List C} {x : V1} {b o : Nat} {g : Nat → Value} (ht : qBy P t cs = some x)
    (hc : ∀ j, j < cs.length → w.cell? ⟨b, o + j, none⟩ = some (g j)) (hr : ∀ j, j < cs.length → CRep w M (cs.getD j .unk) (g j)) :
    ∃ v, (loadVar t ⟨b, o, none⟩).run P w = .ok v w ∧ qP w M x v := by
  unfold qBy at ht
  split at ht
  · rename_i d i hd hi
    cases ha : qEF d with
    | true =>
      rw [ha] at ht
      simp only [cond_true] at ht
      cases hb : Nat.ble i.size cs.length with
      | false => rw [hb] at ht; cases ht
      | true =>
        rw [hb] at ht
        cases ht
        have hn := Nat.le_of_ble_eq_true hb
        refine ⟨.agg ((List.range i.size).map g).toArray, ?_, _, rfl, qOy hn hr⟩
        have hl := run_loadCells (P := P) w ⟨b, o, none⟩ i.size g fun j hj => by rw [Addr.add_lit]; exact hc j (by omega)
        simp [loadVar, zbQ hd, ha, zS hi, hl]
    | false =>
      rw [ha] at ht
      simp only [cond_false] at ht
      split at ht
      · rename_i c cs'
        cases ht
        have h0 := hc 0 (by simp)
        refine ⟨g 0, ?_, show CRep w M c (g 0) by simpa using hr 0 (by simp)⟩
        simp only [Nat.add_zero] at h0
        simp [loadVar, zbQ hd, ha, h0]
      · cases ht
  · cases ht
def GL (st : St) : C → Option (List C × Prop)
  | .bptr id k j => match look id st.objs with | some (k', .box _ cs) => bif Nat.beq k k' then some (cs.drop j, True) else none | _ => none
  | .rptr id k sz i j => match look id st.objs with | some (k', .row _ sz' n f) => bif Nat.beq k k' && Nat.beq sz sz' then some ((f i).drop j, i < n) else none | _ => none
  | .lptr cs => some (cs, True)
  | .aptr n sz f => bif Nat.ble n 64 && (List.range n).all (fun i => Nat.beq (f i).length sz) then some (((List.range n).map f).flatten, True) else none
  | _ => none
theorem qJ7 {f : Nat → List C} {sz : Nat} : ∀ (n : Nat), (∀ i, i < n → (f i).length = sz) → (((List.range n).map f).flatten).length = n * sz ∧ ∀ i j, i < n → j < sz → (((List.range n).map f).flatten).getD (i * sz + j) .unk = (f i).getD j .unk
  | 0, _ => ⟨by simp, fun i j hi => by omega⟩
  | n + 1, h => by
    obtain ⟨h1, h2⟩ := qJ7 n fun i hi => h i (by omega)
    rw [List.range_succ, List.map_append, List.flatten_append]
    simp only [List.map_cons, List.map_nil, List.flatten_cons, List.flatten_nil, List.append_nil]
    refine ⟨by rw [List.length_append, h1, h n (by omega), Nat.add_mul, Nat.one_mul], fun i j hi hj => ?_⟩
    simp only [List.getD_eq_getElem?_getD]
    by_cases hin : i < n
    · have : (i + 1) * sz ≤ n * sz := Nat.mul_le_mul_right _ hin
      rw [Nat.add_mul, Nat.one_mul] at this
      rw [List.getElem?_append_left (by omega)]
      have := h2 i j hin hj
      simpa only [List.getD_eq_getElem?_getD] using this
    · have hie : i = n := by omega
      subst hie
      rw [List.getElem?_append_right (by omega), h1, Nat.add_sub_cancel_left]
theorem cell_of_row' {w : World} {b j : Nat} {arr : Array Value} {e : TypeId} {fr : Nat × Nat} (h : w.heap[b]? = some (.cells arr e fr)) (hj : j < arr.size) : w.cell? ⟨b, j, none⟩ = some (arr.getD j undef) := by
  rw [cell_of_row w b j arr e fr h]
  simp [hj]
theorem getD_drop {cs : List C} {j m : Nat} : (cs.drop j).getD m .unk = cs.getD (j + m) .unk := by
  simp [List.getD_eq_getElem?_getD]
theorem IRep.isImm {w : World} {ok : Nat → Prop} {c : C} {v : Value} (h : IRep w ok c v) : c.isImm = true := by cases h <;> rfl
theorem qEp {K : Ctx} {M : Mem} {st : St} {a : Act} {w : World} (h : Sim K M st a w) {c : C} {v : Value} (hv : CRep w M c v) {cs : List C} {ob : Prop} (hp : GL st c = some (cs, ob)) (hob : ob) :
    ∃ (b o : Nat) (g : Nat → Value), v = .pointer (some ⟨b, o, none⟩) ∧ (∀ j, j < cs.length → w.cell? ⟨b, o + j, none⟩ = some (g j)) ∧ ∀ j, j < cs.length → CRep w M (cs.getD j .unk) (g j) := by
  unfold GL at hp
  split at hp
  · rename_i id k j
    split at hp
    · rename_i _ k' e cs' hl
      cases hk : Nat.beq k k' with
      | false => rw [hk] at hp; cases hp
      | true =>
        rw [hk] at hp
        cases hp
        have hkk := Nat.eq_of_beq_eq_true hk
        subst hkk
        obtain ⟨hver, b, arr, hb, hh, hsz, hc⟩ := h.objs id k _ hl
        obtain ⟨b', rfl, hb'⟩ := hv
        have hb' := hb' hver
        rw [hb] at hb'
        cases hb'
        refine ⟨b, j, fun m => arr.getD (j + m) undef, rfl, fun m hm => ?_, fun m hm => ?_⟩
        · simp only [List.length_drop] at hm; exact cell_of_row' hh (by omega)
        · simp only [List.length_drop] at hm; rw [getD_drop]; exact hc (j + m) (by omega)
    · cases hp
  · rename_i id k sz i j
    split at hp
    · rename_i k' e sz' n f hl
      cases hk : Nat.beq k k' && Nat.beq sz sz' with
      | false => rw [hk] at hp; cases hp
      | true =>
        rw [hk] at hp
        cases hp
        simp only [Bool.and_eq_true] at hk
        have hkk := Nat.eq_of_beq_eq_true hk.1
        have hss := Nat.eq_of_beq_eq_true hk.2
        subst hkk hss
        obtain ⟨hver, hrow⟩ := h.objs id k _ hl
        rcases hrow with ⟨_, h0⟩ | ⟨b, arr, hb, hh, hsz, hc⟩
        · omega
        · obtain ⟨b', rfl, hb'⟩ := hv
          have hb' := hb' hver
          rw [hb] at hb'
          cases hb'
          have hin : i * sz + sz ≤ n * sz := by
            have : (i + 1) * sz ≤ n * sz := Nat.mul_le_mul_right _ hob
            rw [Nat.add_mul, Nat.one_mul] at this
            exact this
          refine ⟨b, i * sz + j, fun m => arr.getD (i * sz + j + m) undef, rfl, fun m hm => ?_, fun m hm => ?_⟩
          · simp only [List.length_drop, (hc i hob).1] at hm; exact cell_of_row' hh (by omega)
          · simp only [List.length_drop, (hc i hob).1] at hm
            have := (hc i hob).2 (j + m) (by omega)
            rw [getD_drop]
            show CRep w M _ (arr.getD (i * sz + j + m) undef)
            rw [Nat.add_assoc]
            exact EU this.isImm this
    · cases hp
  · rename_i cs'
    cases hp
    cases hv with
    | lptr b o cs g hb hc hr => exact ⟨b, o, g, rfl, hc, fun j hj => EU (hr j hj).isImm (hr j hj)⟩
  · rename_i n sz f
    cases hk : Nat.ble n 64 && (List.range n).all (fun i => Nat.beq (f i).length sz) with
    | false => rw [hk] at hp; cases hp
    | true =>
      rw [hk] at hp
      cases hp
      cases hv with
      | aptr b o n sz f g hl hb hc hr =>
        obtain ⟨h1, h2⟩ := qJ7 n hl
        have hpos : ∀ q, q < n * sz → 0 < sz := fun q hq => by
          rcases Nat.eq_zero_or_pos sz with h0 | h0
          · subst h0; simp at hq
          · exact h0
        have hdm : ∀ q, q < n * sz → q / sz < n ∧ q % sz < sz ∧ q / sz * sz + q % sz = q := fun q hq =>
          ⟨Nat.div_lt_of_lt_mul (by rw [Nat.mul_comm]; exact hq), Nat.mod_lt _ (hpos q hq), by rw [Nat.mul_comm]; exact Nat.div_add_mod q sz⟩
        refine ⟨b, o, fun q => g (q / sz) (q % sz), rfl, fun q hq => ?_, fun q hq => ?_⟩ <;> rw [h1] at hq <;> obtain ⟨d1, d2, d3⟩ := hdm q hq
        · have := hc (q / sz) (q % sz) d1 d2
          rw [d3] at this
          exact this
        · have := hr (q / sz) (q % sz) d1 d2
          rw [← h2 (q / sz) (q % sz) d1 d2, d3] at this
          exact EU this.isImm this
  · cases hp
def qKT (P : Program) (st : St) (t : TypeId) (x : V1) : Option (V × Prop) :=
  match x with
  | .one c => match GL st c with | some (cs, ob) => (qBy P t cs).map fun y => (.v y, ob) | none => none
  | _ => none
theorem qPo {K : Ctx} {M : Mem} {st : St} {a : Act} {w : World} (h : Sim K M st a w) {t : TypeId} {x : V1} {v : Value} (hv : qP w M x v) {y : V} {ob : Prop} (hp : qKT K.P st t x = some (y, ob)) (hob : ob) :
    ∃ u, (Instr.loadAt t v).run K.P w = .ok u w ∧ VRep w M y u := by
  unfold qKT at hp
  split at hp
  · rename_i c
    split at hp
    · rename_i cs ob' hpc
      cases ht : qBy K.P t cs with
      | none => rw [ht] at hp; cases hp
      | some z =>
        rw [ht] at hp
        cases hp
        obtain ⟨b, o, g, rfl, hc, hr⟩ := qEp h hv hpc hob
        obtain ⟨u, hu, hru⟩ := qFT (P := K.P) ht hc hr
        exact ⟨u, by simp [Instr.loadAt, Instr.sureAddr, hu], hru⟩
    · cases hp
  · cases hp
def qHV (off : Nat) : C → Option C
  | .bptr id k j => some (.bptr id k (j + off))
  | .rptr id k sz i j => some (.rptr id k sz i (j + off))
  | .lptr cs => some (.lptr (cs.drop off))
  | _ => none
def qHl (P : Program) (s : TypeId) (x : V1) (f : Nat) : Option (V × Prop) :=
  match x, P.underlying s with
  | .one c, some (.struct fs) =>
    match fs[f]? with
    | some fd => match P.info? fd.type with
      | some i => bif Nat.beq i.size 0 then none else (qHV fd.offset c).map fun c => (.v (.one c), True)
      | none => none
    | none => none
  | _, _ => none
theorem qHf {w : World} {M : Mem} {off : Nat} {c c' : C} {v : Value} (h : qHV off c = some c') (hv : CRep w M c v) :
    ∃ b o, v = .pointer (some ⟨b, o, none⟩) ∧ CRep w M c' (.pointer (some ⟨b, o + off, none⟩)) := by
  unfold qHV at h
  split at h
  · rename_i id k j
    cases h
    obtain ⟨b, rfl, hb⟩ := hv
    exact ⟨b, j, rfl, b, rfl, hb⟩
  · rename_i id k sz i j
    cases h
    obtain ⟨b, rfl, hb⟩ := hv
    exact ⟨b, i * sz + j, rfl, b, by rw [Nat.add_assoc], hb⟩
  · rename_i cs
    cases h
    cases hv with
    | lptr b o cs g hb hc hr =>
      refine ⟨b, o, rfl, .lptr b (o + off) _ (fun j => g (off + j)) (fun j hj => ?_) (fun j hj => ?_) (fun j hj => ?_)⟩ <;> simp only [List.length_drop] at hj
      · exact hb (off + j) (by omega)
      · rw [Nat.add_assoc]; exact hc (off + j) (by omega)
      · rw [getD_drop]; exact hr (off + j) (by omega)
  · cases h
theorem qOn {P : Program} {w : World} {M : Mem} {s : TypeId} {x : V1} {v : Value} (hv : qP w M x v) {f : Nat} {y : V} {ob : Prop} (hp : qHl P s x f = some (y, ob)) :
    ∃ u, (Instr.fieldAt s v f).run P w = .ok u w ∧ VRep w M y u := by
  unfold qHl at hp
  split at hp
  · rename_i c fs hs
    split at hp
    · rename_i fd hfd
      split at hp
      · rename_i i hi
        cases hz : Nat.beq i.size 0 with
        | true => rw [hz] at hp; cases hp
        | false =>
          rw [hz] at hp
          simp only [cond_false] at hp
          cases hc : qHV fd.offset c with
          | none => rw [hc] at hp; cases hp
          | some c' =>
            rw [hc] at hp
            cases hp
            obtain ⟨b, o, rfl, hr⟩ := qHf hc hv
            have hne : i.size ≠ 0 := fun h => by rw [h] at hz; cases hz
            refine ⟨_, ?_, hr⟩
            simp [Instr.fieldAt, run_underlying hs, hfd, Instr.sureAddr, fieldPlace, zS hi, hne, Addr.add_lit]
      · cases hp
    · cases hp
  · cases hp
def qK4 (P : Program) (t : TypeId) (x i : V1) : Option (V × Prop) :=
  match i with
  | .one (.val (.int _ z)) =>
    match P.underlying t with
    | some (.slice e) =>
      match P.info? e, x with
      | some ie, .one (.lst n f) => bif Nat.beq (f z.toNat).length ie.size then some (.v (.one (.lptr (f z.toNat))), 0 ≤ z ∧ z < (n : Int)) else none
      | some ie, .one (.own id k sz len) => bif Nat.beq sz ie.size then some (.v (.one (.rptr id k sz z.toNat 0)), 0 ≤ z ∧ z < (len : Int)) else none
      | _, _ => none
    | some (.array len e) =>
      match P.info? e, x with
      | some ie, .one (.aptr n sz f) => bif Nat.beq sz ie.size && Nat.beq n len then some (.v (.one (.lptr (f z.toNat))), 0 ≤ z ∧ z < (n : Int)) else none
      | some ie, .one (.bptr id k j) => some (.v (.one (.bptr id k (j + z.toNat * ie.size))), 0 ≤ z ∧ z < (len : Int))
      | some ie, .one (.lptr cs) => some (.v (.one (.lptr (cs.drop (z.toNat * ie.size)))), 0 ≤ z ∧ z < (len : Int))
      | some ie, .one (.rptr id k sz i j) => some (.v (.one (.rptr id k sz i (j + z.toNat * ie.size))), 0 ≤ z ∧ z < (len : Int))
      | _, _ => none
    | _ => none
  | _ => none
theorem qNL {w : World} {ok : Nat → Prop} {b o n sz : Nat} {f : Nat → List C} {g : Nat → Nat → Value} (hl : ∀ i, i < n → (f i).length = sz)
    (hb : ∀ i j, i < n → j < sz → ok b) (hc : ∀ i j, i < n → j < sz → w.cell? ⟨b, o + (i * sz + j), none⟩ = some (g i j)) (hr : ∀ i j, i < n → j < sz → IRep w ok ((f i).getD j .unk) (g i j)) {i : Nat} (hi : i < n) :
    IRep w ok (.lptr (f i)) (.pointer (some ⟨b, o + i * sz, none⟩)) := by
  refine .lptr b (o + i * sz) (f i) (g i) (fun j hj => ?_) (fun j hj => ?_) (fun j hj => ?_) <;> rw [hl i hi] at hj
  · exact hb i j hi hj
  · rw [Nat.add_assoc]; exact hc i j hi hj
  · exact hr i j hi hj
theorem qOI {P : Program} {w : World} {M : Mem} {t : TypeId} {x i : V1} {v u : Value} (hv : qP w M x v) (hu : qP w M i u) {y : V} {ob : Prop} (hp : qK4 P t x i = some (y, ob)) (hob : ob) :
    ∃ r, (Instr.indexAt t v u).run P w = .ok r w ∧ VRep w M y r := by
  unfold qK4 at hp
  split at hp
  · rename_i kk z
    have hu' := v1_val hu
    subst hu'
    have hz : ∀ m : Nat, 0 ≤ z ∧ z < (m : Int) → z.toNat < m := fun m hm => by omega
    split at hp
    · rename_i e ht
      split at hp
      · rename_i ie n f hi
        cases hb : Nat.beq (f z.toNat).length ie.size with
        | false => rw [hb] at hp; cases hp
        | true =>
          rw [hb] at hp
          cases hp
          have hlen := Nat.eq_of_beq_eq_true hb
          have hzn := hz _ hob
          cases hv with
          | lst0 a => omega
          | lst b o n cap sz f g hn hm hl hbb hc hr =>
            have hs : sz = ie.size := by rw [← hlen, hl _ hzn]
            subst hs
            refine ⟨.pointer (some ⟨b, o + z.toNat * ie.size, none⟩), ?_, qNL hl hbb hc hr hzn⟩
            simp [Instr.indexAt, asIntOf, run_underlying ht, hob.1, hob.2, zS hi, Addr.add_lit]
      · rename_i ie id k sz len hi
        cases hb : Nat.beq sz ie.size with
        | false => rw [hb] at hp; cases hp
        | true =>
          rw [hb] at hp
          cases hp
          have hlen := Nat.eq_of_beq_eq_true hb
          subst hlen
          have hzn := hz _ hob
          rcases hv with ⟨h0, _⟩ | ⟨b, cap, rfl, h1, h2, hx⟩
          · omega
          · refine ⟨.pointer (some ⟨b, z.toNat * ie.size, none⟩), ?_, b, rfl, fun hd => (hx hd).1⟩
            simp [Instr.indexAt, asIntOf, run_underlying ht, hob.1, hob.2, zS hi, Addr.add_lit]
      · cases hp
    · rename_i len e ht
      split at hp
      · rename_i ie n sz f hi
        cases hb : Nat.beq sz ie.size && Nat.beq n len with
        | false => rw [hb] at hp; cases hp
        | true =>
          rw [hb] at hp
          cases hp
          simp only [Bool.and_eq_true] at hb
          have hlen := Nat.eq_of_beq_eq_true hb.1
          have hnn := Nat.eq_of_beq_eq_true hb.2
          subst hlen hnn
          have hzn := hz _ hob
          cases hv with
          | aptr b o n sz f g hl hbb hc hr =>
            refine ⟨.pointer (some ⟨b, o + z.toNat * ie.size, none⟩), ?_, qNL hl hbb hc hr hzn⟩
            simp [Instr.indexAt, asIntOf, run_underlying ht, Instr.sureAddr, hob.1, hob.2, zS hi, Addr.add_lit]
      · rename_i ie id k j hi
        cases hp
        obtain ⟨b, rfl, hx⟩ := hv
        refine ⟨.pointer (some ⟨b, j + z.toNat * ie.size, none⟩), ?_, b, rfl, hx⟩
        simp [Instr.indexAt, asIntOf, run_underlying ht, Instr.sureAddr, hob.1, hob.2, zS hi, Addr.add_lit]
      · rename_i ie cs hi
        cases hp
        obtain ⟨b, o, rfl, hr⟩ := qHf (w := w) (M := M) (off := z.toNat * ie.size) (c := .lptr cs) (c' := .lptr (cs.drop (z.toNat * ie.size))) rfl hv
        refine ⟨.pointer (some ⟨b, o + z.toNat * ie.size, none⟩), ?_, hr⟩
        simp [Instr.indexAt, asIntOf, run_underlying ht, Instr.sureAddr, hob.1, hob.2, zS hi, Addr.add_lit]
      · rename_i ie id k sz i j hi
        cases hp
        obtain ⟨b, rfl, hx⟩ := hv
        refine ⟨.pointer (some ⟨b, i * sz + j + z.toNat * ie.size, none⟩), ?_, b, by rw [Nat.add_assoc], hx⟩
        simp [Instr.indexAt, asIntOf, run_underlying ht, Instr.sureAddr, hob.1, hob.2, zS hi, Addr.add_lit]
      · cases hp
    · cases hp
  · cases hp
def HS (P : Program) (t : TypeId) (cs : List C) (off : Nat) : Option V1 := qBy P t (cs.drop off)
theorem RO {P : Program} {w : World} {M : Mem} {t : TypeId} {cs : List C} {vs : Array Value} {off : Nat} {x : V1} (h : HS P t cs off = some x) (hr : wX w M cs vs) : ∃ v, (part t vs off).run P w = .ok v w ∧ qP w M x v := by
  unfold HS qBy at h
  split at h
  · rename_i d i hd hi
    cases ha : qEF d with
    | true =>
      rw [ha] at h
      simp only [cond_true] at h
      cases hb : Nat.ble i.size (cs.drop off).length with
      | false => rw [hb] at h; cases h
      | true =>
        rw [hb] at h
        cases h
        have hn := Nat.le_of_ble_eq_true hb
        simp only [List.length_drop] at hn
        refine ⟨.agg (vs.extract off (off + i.size)), by simp [part, zbQ hd, ha, zS hi], _, rfl, ?_, fun j hj => ?_⟩
        · have := hr.1; simp; omega
        · have hj' : j < i.size := by simp at hj; omega
          by_cases hof : off + j < cs.length
          · have := hr.2 (off + j) hof
            have hsz := hr.1
            simp only [List.getD_eq_getElem?_getD, List.getElem?_take, hj', if_true, List.getElem?_drop, Array.getD_eq_getD_getElem?, Array.getElem?_extract] at this ⊢
            rw [if_pos (by omega)]
            exact this
          · simp only [List.length_take, List.length_drop] at hj; omega
    | false =>
      rw [ha] at h
      simp only [cond_false] at h
      split at h
      · rename_i c cs' hcs
        cases h
        have hlt : off < cs.length := by
          have : (cs.drop off).length = cs'.length + 1 := by rw [hcs]; rfl
          rw [List.length_drop] at this; omega
        have h0 := hr.2 off hlt
        have hsz := hr.1
        have hc : cs.getD off .unk = c := by
          have : (cs.drop off).getD 0 .unk = c := by rw [hcs]; rfl
          rw [getD_drop] at this
          exact this
        rw [hc] at h0
        have hv : vs[off]? = some (vs.getD off undef) := by
          have hlt' : off < vs.size := by omega
          rw [Array.getD_eq_getD_getElem?, Array.getElem?_eq_getElem hlt', Option.getD_some]
        refine ⟨vs.getD off undef, ?_, h0⟩
        simp only [part, Sem.run_bind, zbQ hd, ha, Result.andThen_ok, Bool.false_eq_true, if_false, hv]
        rfl
      · cases h
  · cases h
def eqV (P : Program) : Nat → TypeId → V1 → V1 → Option Bool
  | 0, _, _, _ => none
  | d + 1, t, x, y =>
    match P.underlying t, x, y with
    | some .bool, .one (.val (.bool a)), .one (.val (.bool b)) => some (a == b)
    | some (.int _), .one (.val (.int k a)), .one (.val (.int k' b)) => if k = k' then some (a == b) else none
    | some .string, .one (.val (.string a)), .one (.val (.string b)) => some (a == b)
    | some (.struct fs), .agg xs, .agg ys => bif P.stoodInHeld t then none else
        fs.toList.foldr (fun f r => if f.name = "_" then r else match HS P f.type xs f.offset, HS P f.type ys f.offset with
          | some p, some q => match eqV P d f.type p q, r with | some b, some c => some (b && c) | _, _ => none
          | _, _ => none) (some true)
    | some (.array n e), .agg xs, .agg ys => (match P.info? e with
        | some i => (List.range n).foldr (fun j r => match HS P e xs (j * i.size), HS P e ys (j * i.size) with
          | some p, some q => match eqV P d e p q, r with | some b, some c => some (b && c) | _, _ => none
          | _, _ => none) (some true)
        | none => none)
    | _, _, _ => none
theorem qB3 {P : Program} {w : World} {M : Mem} : ∀ (n d : Nat) (t : TypeId) (x y : V1) (v u : Value) (b : Bool), n ≤ d → qP w M x v → qP w M y u → eqV P n t x y = some b → (Op.equalIn d t v u).run P w = .ok b w
  | 0, _, _, _, _, _, _, _, _, _, _, h => by cases h
  | n + 1, 0, _, _, _, _, _, _, hn, _, _, _ => by omega
  | n + 1, d + 1, t, x, y, v, u, b, hn, hv, hu, h => by
    unfold eqV at h
    split at h
    · rename_i a b' ht
      cases h
      rw [v1_val hv, v1_val hu]
      simp [Op.equalIn, run_underlying ht]
    · rename_i k0 k a k' b' ht
      split at h
      · rename_i hk
        subst hk
        cases h
        rw [v1_val hv, v1_val hu]
        exact run_equalIn_int w d t k k0 a b' ht
      · cases h
    · rename_i a b' ht
      cases h
      rw [v1_val hv, v1_val hu]
      simp [Op.equalIn, run_underlying ht]
    · rename_i fs xs ys ht
      cases hp : P.stoodInHeld t with
      | true => rw [hp] at h; cases h
      | false =>
        rw [hp] at h
        simp only [cond_false] at h
        obtain ⟨vs, rfl, hvs⟩ := hv
        obtain ⟨us, rfl, hus⟩ := hu
        have hfo : P.fieldsOf t = fs := by simp [Program.fieldsOf, ht]
        rw [run_equalIn_struct w d t vs us (by rw [hfo]; exact ht) hp, hfo]
        clear hfo ht hp
        generalize fs.toList = l at h
        induction l generalizing b with
        | nil => cases h; simp [Op.eqFields]
        | cons f l ih =>
          simp only [List.foldr_cons] at h
          simp only [Op.eqFields]
          split at h
          · rename_i hnm
            rw [if_neg (by simpa using hnm)]
            exact ih b h
          · rename_i hnm
            rw [if_pos hnm]
            split at h
            · rename_i p q hp1 hq1
              split at h
              · rename_i b1 c1 hb1 hc1
                cases h
                obtain ⟨pv, hpr, hpv⟩ := RO hp1 hvs
                obtain ⟨qv, hqr, hqv⟩ := RO hq1 hus
                have he := qB3 n d f.type p q pv qv b1 (by omega) hpv hqv hb1
                have hrest := ih c1 hc1
                simp only [Sem.run_bind, hpr, hqr, he, Result.andThen_ok]
                cases b1
                · simp
                · simpa using hrest
              · cases h
            · cases h
    · rename_i len e xs ys ht
      split at h
      · rename_i i hi
        obtain ⟨vs, rfl, hvs⟩ := hv
        obtain ⟨us, rfl, hus⟩ := hu
        have hsz : P.cellsOf e = i.size := by simp [Program.cellsOf, hi]
        rw [run_equalIn_array w d vs us ht hi, hsz]
        clear ht hi hsz
        generalize List.range len = l at h
        induction l generalizing b with
        | nil => cases h; simp [Op.eqItems]
        | cons j l ih =>
          simp only [List.foldr_cons] at h
          simp only [Op.eqItems]
          split at h
          · rename_i p q hp1 hq1
            split at h
            · rename_i b1 c1 hb1 hc1
              cases h
              obtain ⟨pv, hpr, hpv⟩ := RO hp1 hvs
              obtain ⟨qv, hqr, hqv⟩ := RO hq1 hus
              have he := qB3 n d e p q pv qv b1 (by omega) hpv hqv hb1
              have hrest := ih c1 hc1
              simp only [Sem.run_bind, hpr, hqr, he, Result.andThen_ok]
              cases b1
              · simp
              · simpa using hrest
            · cases h
          · cases h
      · cases h
    · cases h
def strEq (a b : ByteArray) : Bool := a.data.toList == b.data.toList
def strAt (s : ByteArray) (i : Nat) : Int := ((s.data.getD i 0).toNat : Int)
def shlI (k : IntKind) (a b : Int) : Int := k.wrap (a * 2 ^ (min b.toNat k.bits))
def shrI (k : IntKind) (a b : Int) : Int := a.fdiv (2 ^ (min b.toNat k.bits))
def andI (k : IntKind) (a b : Int) : Int := k.wrap ((BitVec.ofInt k.bits a &&& BitVec.ofInt k.bits b).toNat : Int)
def orI (k : IntKind) (a b : Int) : Int := k.wrap ((BitVec.ofInt k.bits a ||| BitVec.ofInt k.bits b).toNat : Int)
def xorI (k : IntKind) (a b : Int) : Int := k.wrap ((BitVec.ofInt k.bits a ^^^ BitVec.ofInt k.bits b).toNat : Int)
def anI (k : IntKind) (a b : Int) : Int := k.wrap ((BitVec.ofInt k.bits a &&& ~~~ BitVec.ofInt k.bits b).toNat : Int)
def binV (P : Program) (op : BinOp) (t : TypeId) (x y : V1) : Option (V1 × Prop) :=
  match x, y with
  | .one (.val (.int k a)), .one (.val (.int k' b)) =>
    if op = .shl then some (.one (.val (.int k (shlI k a b))), ¬ b < 0)
    else if op = .shr then some (.one (.val (.int k (shrI k a b))), ¬ b < 0)
    else if k = k' then
      match op with
      | .and => some (.one (.val (.int k (andI k a b))), True)
      | .or => some (.one (.val (.int k (orI k a b))), True)
      | .xor => some (.one (.val (.int k (xorI k a b))), True)
      | .andNot => some (.one (.val (.int k (anI k a b))), True)
      | .add => some (.one (.val (.int k (k.wrap (a + b)))), True)
      | .sub => some (.one (.val (.int k (k.wrap (a - b)))), True)
      | .mul => some (.one (.val (.int k (k.wrap (a * b)))), True)
      | .quo => some (.one (.val (.int k (k.wrap (a.tdiv b)))), b ≠ 0)
      | .rem => some (.one (.val (.int k (a.tmod b))), b ≠ 0)
      | .eql => some (.one (.val (.bool (a == b))), True)
      | .neq => some (.one (.val (.bool (a != b))), True)
      | .lss => some (.one (.val (.bool (decide (a < b)))), True)
      | .leq => some (.one (.val (.bool (decide (a ≤ b)))), True)
      | .gtr => some (.one (.val (.bool (decide (a > b)))), True)
      | .geq => some (.one (.val (.bool (decide (a ≥ b)))), True)
      | _ => none
    else none
  | .one (.val (.bool a)), .one (.val (.bool b)) =>
    match op, P.underlying t with
    | .eql, some .bool => some (.one (.val (.bool (a == b))), True)
    | .neq, some .bool => some (.one (.val (.bool (!(a == b)))), True)
    | _, _ => none
  | .one (.val (.string a)), .one (.val (.string b)) =>
    match op with
    | .eql => some (.one (.val (.bool (strEq a b))), True)
    | .neq => some (.one (.val (.bool (!strEq a b))), True)
    | _ => none
  | .agg xs, .agg ys =>
    match op with
    | .eql => bif P.eqGuardType P.depth t then none else match eqV P 9 t (.agg xs) (.agg ys) with | some b => some (.one (.val (.bool b)), True) | none => none
    | .neq => bif P.eqGuardType P.depth t then none else match eqV P 9 t (.agg xs) (.agg ys) with | some b => some (.one (.val (.bool (!b))), True) | none => none
    | _ => none
  | _, _ => none
theorem qMW {P : Program} {w : World} {op : BinOp} {t : TypeId} {x y : Operand} {k k' : IntKind} {a b : Int} : (eqGuard op t x y (.int k a) (.int k' b)).run P w = .ok () w := by
  unfold eqGuard; cases op <;> rfl
theorem qMJ {P : Program} {w : World} {op : BinOp} {t : TypeId} {x y : Operand} {a b : Bool} : (eqGuard op t x y (.bool a) (.bool b)).run P w = .ok () w := by
  unfold eqGuard; cases op <;> rfl
theorem qM2 {P : Program} {w : World} {op : BinOp} {t : TypeId} {x y : Operand} {a b : ByteArray} : (eqGuard op t x y (.string a) (.string b)).run P w = .ok () w := by
  unfold eqGuard; cases op <;> rfl
theorem qQR {P : Program} {w : World} {M : Mem} {op : BinOp} {t : TypeId} {x y : V1} {v u : Value} (hv : qP w M x v) (hu : qP w M y u) {z : V1} {ob : Prop} (hp : binV P op t x y = some (z, ob)) (hob : ob) (ox oy : Operand) :
    ∃ r, (do eqGuard op t ox oy v u; binOp op t v u : Sem Value).run P w = .ok r w ∧ qP w M z r := by
  unfold binV at hp
  split at hp
  · rename_i k a k' b
    rw [v1_val hv, v1_val hu]
    simp only [Sem.run_bind, qMW, Result.andThen_ok]
    split at hp
    · rename_i ho; subst ho
      cases hp
      refine ⟨_, ?_, QE _ rfl⟩
      simp [binOp, Op.shift, hob, shlI]
    · rename_i ho1
      split at hp
      · rename_i ho; subst ho
        cases hp
        refine ⟨_, ?_, QE _ rfl⟩
        simp [binOp, Op.shift, hob, shrI]
      · rename_i ho2
        split at hp
        · rename_i hk
          subst hk
          cases op <;> simp only at hp <;> first
            | (cases hp
               refine ⟨_, ?_, QE _ rfl⟩
               simp [binOp, Op.intArith, Op.intDiv, Op.intCmp, hob]
               done)
            | (cases hp
               refine ⟨_, ?_, QE _ rfl⟩
               simp [binOp, Op.intArith, Op.intDiv, Op.intCmp]
               done)
            | (cases hp
               refine ⟨_, ?_, QE _ rfl⟩
               simp only [binOp, ne_eq, not_true_eq_false, ite_false, Op.intBits]
               rfl)
            | (cases hp; done)
        · cases hp
  · rename_i a b
    rw [v1_val hv, v1_val hu]
    simp only [Sem.run_bind, qMJ, Result.andThen_ok]
    split at hp
    · rename_i ht
      cases hp
      refine ⟨.bool (a == b), ?_, QE _ rfl⟩
      have he : (Op.equal t (.bool a) (.bool b)).run P w = .ok (a == b) w := run_equalIn_bool w 9999 t a b ht
      show ((do pure (.bool (← Op.equal t (.bool a) (.bool b)))) : Sem Value).run P w = _
      simp only [Sem.run_bind, he, Result.andThen_ok, Sem.run_pure]
    · rename_i ht
      cases hp
      refine ⟨.bool (!(a == b)), ?_, QE _ rfl⟩
      have he : (Op.equal t (.bool a) (.bool b)).run P w = .ok (a == b) w := run_equalIn_bool w 9999 t a b ht
      show ((do pure (.bool (!(← Op.equal t (.bool a) (.bool b))))) : Sem Value).run P w = _
      simp only [Sem.run_bind, he, Result.andThen_ok, Sem.run_pure]
    · cases hp
  · rename_i a b
    rw [v1_val hv, v1_val hu]
    simp only [Sem.run_bind, qM2, Result.andThen_ok]
    split at hp
    · cases hp
      refine ⟨.bool (strEq a b), ?_, QE _ rfl⟩
      rw [binOp_string_eql, ByteArray.toList_eq, ByteArray.toList_eq]
      rfl
    · cases hp
      refine ⟨.bool (!strEq a b), ?_, QE _ rfl⟩
      rw [binOp_string_neq, ByteArray.toList_eq, ByteArray.toList_eq]
      rfl
    · cases hp
  · rename_i xs ys
    split at hp
    · cases hg : P.eqGuardType P.depth t with
      | true => rw [hg] at hp; cases hp
      | false =>
        rw [hg] at hp
        simp only [cond_false] at hp
        split at hp
        · rename_i b hb
          cases hp
          have he := qB3 (P := P) (w := w) (M := M) 9 10000 t _ _ v u b (by omega) hv hu hb
          obtain ⟨vs, rfl, _⟩ := hv
          obtain ⟨us, rfl, _⟩ := hu
          refine ⟨.bool b, ?_, QE _ rfl⟩
          simp only [Sem.run_bind, run_eqGuard_agg w _ t ox oy vs us hg, Result.andThen_ok, run_eql_struct, he]
        · cases hp
    · cases hg : P.eqGuardType P.depth t with
      | true => rw [hg] at hp; cases hp
      | false =>
        rw [hg] at hp
        simp only [cond_false] at hp
        split at hp
        · rename_i b hb
          cases hp
          have he := qB3 (P := P) (w := w) (M := M) 9 10000 t _ _ v u b (by omega) hv hu hb
          obtain ⟨vs, rfl, _⟩ := hv
          obtain ⟨us, rfl, _⟩ := hu
          refine ⟨.bool (!b), ?_, QE _ rfl⟩
          simp only [Sem.run_bind, run_eqGuard_agg w _ t ox oy vs us hg, Result.andThen_ok, run_neq_struct, he]
        · cases hp
    · cases hp
  · cases hp
end Go.SL

namespace Go.SL
open Go.RowKit
def V1.cells : V1 → List C
 | .one c => [c]
 | .agg cs => cs
theorem qPm {v : Value} (h : v.oneCell' = true) : v.cells = #[v] := by
 cases v <;> first | rfl | cases h
theorem qDp {w : World} {M : Mem} {x : V1} {v : Value} (h : qP w M x v) : wX w M x.cells v.cells := by
 cases x with
 | one c =>
  rw [qPm (CRep.cell h)]
  refine ⟨rfl, fun j hj => ?_⟩
  have : j = 0 := by simp [V1.cells] at hj; omega
  subst this
  exact h
 | agg cs => obtain ⟨vs, rfl, hr⟩ := h; exact hr
def QA (cs : List C) (off : Nat) (xs : List C) : List C := cs.take off ++ xs ++ cs.drop (off + xs.length)
theorem qPn (vs : List Value) : ∀ (off m : Nat) (arr : Array Value), (List.foldl (fun (cs : Array Value) (p : Value × Nat) => cs.setIfInBounds (off + p.2) p.1) arr (vs.zipIdx m)).size = arr.size ∧
  ∀ j, off + m + vs.length ≤ arr.size → (List.foldl (fun (cs : Array Value) (p : Value × Nat) => cs.setIfInBounds (off + p.2) p.1) arr (vs.zipIdx m)).getD j undef = if off + m ≤ j ∧ j < off + m + vs.length then vs.getD (j - (off + m)) undef else arr.getD j undef := by
 induction vs with
 | nil => intro off m arr; exact ⟨rfl, fun j _ => by rw [if_neg (by simp)]; rfl⟩
 | cons v vs ih =>
  intro off m arr
  simp only [List.zipIdx_cons, List.foldl_cons]
  obtain ⟨h1, h2⟩ := ih off (m + 1) (arr.setIfInBounds (off + m) v)
  refine ⟨by rw [h1]; simp, fun j hj => ?_⟩
  simp only [List.length_cons] at hj ⊢
  rw [h2 j (by simp; omega)]
  by_cases hc : off + (m + 1) ≤ j ∧ j < off + (m + 1) + vs.length
  ·rw [if_pos hc, if_pos (by omega)]
   have : j - (off + m) = (j - (off + (m + 1))) + 1 := by omega
   rw [this, List.getD_cons_succ]
  ·rw [if_neg hc]
   by_cases he : j = off + m
   ·subst he
    rw [if_pos (by omega)]
    have : off + m < arr.size := by omega
    simp [this]
   ·rw [if_neg (by omega)]
    simp only [Array.getD_eq_getD_getElem?]
    rw [Array.getElem?_setIfInBounds_ne (by omega)]
theorem qOw {w : World} {M : Mem} {cs xs : List C} {arr : Array Value} {vs : Array Value} {off : Nat} (hc : wX w M cs arr) (hx : wX w M xs vs) (hb : off + xs.length ≤ cs.length) :
  wX w M (QA cs off xs) (vs.zipIdx.foldl (fun cs p => cs.setIfInBounds (off + p.2) p.1) arr) := by
 have he : vs.zipIdx.foldl (fun (cs : Array Value) p => cs.setIfInBounds (off + p.2) p.1) arr = List.foldl (fun (cs : Array Value) (p : Value × Nat) => cs.setIfInBounds (off + p.2) p.1) arr (vs.toList.zipIdx 0) := by
  rw [← Array.foldl_toList, Array.toList_zipIdx]
 rw [he]
 obtain ⟨h1, h2⟩ := qPn vs.toList off 0 arr
 have hcs := hc.1
 have hxs := hx.1
 have hvl : vs.toList.length = xs.length := by simpa using hxs
 refine ⟨by rw [h1]; simp [QA]; omega, fun j hj => ?_⟩
 have hj' : j < cs.length := by simp [QA] at hj; omega
 rw [h2 j (by omega)]
 unfold QA
 simp only [Nat.add_zero, hvl]
 by_cases h : off ≤ j ∧ j < off + xs.length
 ·rw [if_pos h]
  have := hx.2 (j - off) (by omega)
  simp only [List.getD_eq_getElem?_getD, Array.getD_eq_getD_getElem?] at this ⊢
  rw [List.append_assoc, List.getElem?_append_right (by simp; omega), List.getElem?_append_left (by simp; omega)]
  simp only [List.length_take, Nat.min_eq_left (show off ≤ cs.length by omega), Array.getElem?_toList]
  exact this
 ·rw [if_neg h]
  have := hc.2 j hj'
  simp only [List.getD_eq_getElem?_getD, Array.getD_eq_getD_getElem?] at this ⊢
  by_cases hlt : j < off
  ·rw [List.append_assoc, List.getElem?_append_left (by simp; omega), List.getElem?_take, if_pos hlt]
   exact this
  ·rw [List.getElem?_append_right (by simp; omega), List.getElem?_drop]
   simp only [List.length_append, List.length_take, Nat.min_eq_left (show off ≤ cs.length by omega)]
   rw [show off + xs.length + (j - (off + xs.length)) = j by omega]
   exact this
def qAh (place : Nat → Option (Nat × Nat)) (cells : List C) : List (Nat × V1) → Option (List C)
 | [] => some cells
 | (i, x) :: rest =>
  match place i with
  | none => none
  | some (off, size) => bif Nat.beq x.cells.length size && Nat.ble (off + x.cells.length) cells.length then qAh place (QA cells off x.cells) rest else none
theorem qBZ {w : World} {M : Mem} {place : Nat → Option (Nat × Nat)} : ∀ (ps : List (Nat × V1)) (qs : List (Nat × Value)) (cs : List C) (arr : Array Value) (out : List C), wX w M cs arr →
  (ps.length = qs.length ∧ ∀ j, j < ps.length → (ps.getD j (0, .one .unk)).1 = (qs.getD j (0, undef)).1 ∧ qP w M (ps.getD j (0, .one .unk)).2 (qs.getD j (0, undef)).2) → qAh place cs ps = some out →
  ∃ arr', Instr.fill place arr qs = some arr' ∧ wX w M out arr'
 | [], [], cs, arr, out, hc, _, h => by cases h; exact ⟨arr, rfl, hc⟩
 | [], q :: qs, _, _, _, _, hp, _ => by simp at hp
 | p :: ps, [], _, _, _, _, hp, _ => by simp at hp
 | (i, x) :: ps, (i', v) :: qs, cs, arr, out, hc, hp, h => by
  have h0 := hp.2 0 (by simp)
  simp only [List.getD_cons_zero] at h0
  obtain ⟨hi, hx⟩ := h0
  subst hi
  simp only [qAh] at h
  simp only [Instr.fill]
  split at h
  ·cases h
  ·rename_i off size hpl
   rw [hpl]
   simp only
   cases hb : Nat.beq x.cells.length size && Nat.ble (off + x.cells.length) cs.length with
   | false => rw [hb] at h; cases h
   | true =>
    rw [hb] at h
    simp only [cond_true] at h
    simp only [Bool.and_eq_true] at hb
    have h1 := Nat.eq_of_beq_eq_true hb.1
    have h2 := Nat.le_of_ble_eq_true hb.2
    have hxc := qDp hx
    have hs1 := hxc.1
    have hs2 := hc.1
    rw [if_neg (by simp; omega)]
    exact qBZ ps qs _ _ out (qOw hc hxc h2) ⟨by simpa using hp.1, fun j hj => by simpa using hp.2 (j + 1) (by simp; omega)⟩ h
def szOf (P : Program) (t : TypeId) : Nat := match P.info? t with | some i => i.size | none => 0
def BI (P : Program) (t : TypeId) : Option (List C) :=
 match P.info? t with
 | some i => match i.zero with | some z => bif z.cells.toList.all Value.oneCell' then some (z.cells.toList.map qEU) else none | none => none
 | none => none
theorem LK {P : Program} {t : TypeId} {cs : List C} (h : BI P t = some cs) (w : World) (M : Mem) : ∃ z, (zeroValue t).run P w = .ok z w ∧ wX w M cs z.cells := by
 unfold BI at h
 split at h
 ·rename_i i hi
  split at h
  ·rename_i z hz
   cases hb : z.cells.toList.all Value.oneCell' with
   | false => rw [hb] at h; cases h
   | true =>
    rw [hb] at h
    cases h
    refine ⟨z, by simp [zeroValue, typeInfo, hi, hz], by simp, fun j hj => ?_⟩
    have hj' : j < z.cells.toList.length := by simpa using hj
    have := constC_rep (w := w) (M := M) (List.all_eq_true.1 hb _ (List.getElem_mem hj'))
    simpa [List.getD_eq_getElem?_getD, List.getElem?_map, List.getElem?_eq_getElem hj', Array.getD_eq_getD_getElem?, Array.getElem?_eq_getElem (show j < z.cells.size by simpa using hj')] using this
  ·cases h
 ·cases h
theorem qCN {P : Program} (w : World) : ∀ (l : List Field), l.all (fun f => (P.info? f.type).isSome) = true → (l.mapM fun f => do pure (f.offset, ← sizeOf f.type) : Sem (List (Nat × Nat))).run P w = .ok (l.map fun f => (f.offset, szOf P f.type)) w
 | [], _ => rfl
 | f :: l, h => by
  simp only [List.all_cons, Bool.and_eq_true, Option.isSome_iff_exists] at h
  obtain ⟨⟨i, hi⟩, h2⟩ := h
  rw [List.mapM_cons]
  simp only [Sem.run_bind, zS hi, Result.andThen_ok, Sem.run_pure, qCN w l h2, List.map_cons, szOf, hi]
def qHR (P : Program) (t : TypeId) (parts : List (Nat × V1)) : Option (V × Prop) :=
 match P.underlying t, BI P t with
 | some (.struct fs), some z => bif fs.toList.all (fun f => (P.info? f.type).isSome) then
   (qAh (fun i => (fs.toList.map fun f => (f.offset, szOf P f.type))[i]?) z parts).map fun cs => (.v (.agg cs), True) else none
 | some (.array _ e), some z => match P.info? e with | some i => (qAh (fun j => some (j * i.size, i.size)) z parts).map fun cs => (.v (.agg cs), True) | none => none
 | _, _ => none
def qLK (w : World) (M : Mem) (ps : List (Nat × V1)) (qs : List (Nat × Value)) : Prop :=
 ps.length = qs.length ∧ ∀ j, j < ps.length → (ps.getD j (0, .one .unk)).1 = (qs.getD j (0, undef)).1 ∧ qP w M (ps.getD j (0, .one .unk)).2 (qs.getD j (0, undef)).2
theorem qOt {P : Program} {w : World} {M : Mem} {t : TypeId} {ps : List (Nat × V1)} {qs : Array (Nat × Value)} (hps : qLK w M ps qs.toList) {y : V} {ob : Prop} (hp : qHR P t ps = some (y, ob)) :
  ∃ r, (Instr.build t qs).run P w = .ok r w ∧ VRep w M y r := by
 unfold qHR at hp
 split at hp
 ·rename_i fs z ht hz
  cases hb : fs.toList.all (fun f => (P.info? f.type).isSome) with
  | false => rw [hb] at hp; cases hp
  | true =>
   rw [hb] at hp
   simp only [cond_true] at hp
   cases hf : qAh (fun i => (fs.toList.map fun f => (f.offset, szOf P f.type))[i]?) z ps with
   | none => rw [hf] at hp; cases hp
   | some cs =>
    rw [hf] at hp
    cases hp
    obtain ⟨zv, hzr, hzc⟩ := LK hz w M
    obtain ⟨arr', hfill, hout⟩ := qBZ ps qs.toList z zv.cells cs hzc hps hf
    refine ⟨.agg arr', ?_, arr', rfl, hout⟩
    have hm : (fs.mapM fun f => do pure (f.offset, ← sizeOf f.type) : Sem (Array (Nat × Nat))).run P w = .ok (fs.toList.map fun f => (f.offset, szOf P f.type)).toArray w := by
     rw [Array.mapM_eq_mapM_toList, Sem.run_map, qCN w _ hb]
     rfl
    have hfun : (fun x : Nat => (fs.toList.map fun f => (f.offset, szOf P f.type)).toArray[x]?) = fun i => (fs.toList.map fun f => (f.offset, szOf P f.type))[i]? := by
     funext i; exact List.getElem?_toArray
    simp only [Instr.build, Sem.run_bind, hzr, Result.andThen_ok, run_underlying ht, hm, hfun, hfill, Sem.run_pure]
 ·rename_i n e z ht hz
  split at hp
  ·rename_i i hi
   cases hf : qAh (fun j => some (j * i.size, i.size)) z ps with
   | none => rw [hf] at hp; cases hp
   | some cs =>
    rw [hf] at hp
    cases hp
    obtain ⟨zv, hzr, hzc⟩ := LK hz w M
    obtain ⟨arr', hfill, hout⟩ := qBZ ps qs.toList z zv.cells cs hzc hps hf
    refine ⟨.agg arr', ?_, arr', rfl, hout⟩
    simp only [Instr.build, Sem.run_bind, hzr, Result.andThen_ok, run_underlying ht, zS hi, hfill, Sem.run_pure]
  ·cases hp
 ·cases hp
def lenV (P : Program) (t : TypeId) (x : V1) : Option (V × Prop) :=
 match P.underlying t, x with
 | some (.slice _), .one (.lst n _) => some (.v (.one (.val (.int .i64 n))), True)
 | some (.slice _), .one (.own _ _ _ n) => some (.v (.one (.val (.int .i64 n))), True)
 | some (.slice _), .one .emp => some (.v (.one (.val (.int .i64 0))), True)
 | some .string, .one (.val (.string b)) => some (.v (.one (.val (.int .i64 b.size))), True)
 | some (.array n _), _ => some (.v (.one (.val (.int .i64 n))), True)
 | _, _ => none
theorem qQI {P : Program} {w : World} {M : Mem} {t ty : TypeId} {x : V1} {v : Value} (hv : qP w M x v) {y : V} {ob : Prop} (hp : lenV P t x = some (y, ob)) :
  ∃ r, (Builtin.len_ #[t] ty #[v]).run P w = .ok r w ∧ VRep w M y r := by
 unfold lenV at hp
 split at hp
 ·rename_i e n f ht
  cases hp
  refine ⟨.int .i64 n, ?_, QE _ rfl⟩
  cases hv <;> simp [Builtin.len_, run_underlying ht, goInt]
 ·rename_i e id k sz n ht
  cases hp
  refine ⟨.int .i64 n, ?_, QE _ rfl⟩
  rcases hv with ⟨h0, a, rfl⟩ | ⟨b, cap, rfl, _⟩ <;> simp [Builtin.len_, run_underlying ht, goInt]
  omega
 ·rename_i e ht
  cases hp
  refine ⟨.int .i64 0, ?_, QE _ rfl⟩
  cases hv; simp [Builtin.len_, run_underlying ht, goInt]
 ·rename_i b ht
  cases hp
  refine ⟨.int .i64 b.size, ?_, QE _ rfl⟩
  rw [v1_val hv]; simp [Builtin.len_, run_underlying ht, goInt]
 ·rename_i n e ht
  cases hp
  refine ⟨.int .i64 n, ?_, QE _ rfl⟩
  simp [Builtin.len_, run_underlying ht, goInt]
 ·cases hp
def mm1 (mx : Bool) : Option V1 → V1 → Option V1
 | some (.one (.val (.int k a))), .one (.val (.int _ b)) => some (.one (.val (.int k (bif mx then (if b > a then b else a) else (if b < a then b else a)))))
 | _, _ => none
def mmV (mx : Bool) : List V1 → Option V1
 | .one (.val (.int k a)) :: rest => rest.foldl (mm1 mx) (some (.one (.val (.int k a))))
 | _ => none
theorem qNV (mx : Bool) : ∀ l : List V1, List.foldl (mm1 mx) none l = none
 | [] => rfl
 | _ :: l => qNV mx l
theorem qNB {P : Program} {w : World} {M : Mem} (mx : Bool) : ∀ (xs : List V1) (vs : List Value) (x : V1) (v : Value) (z : V1), xs.length = vs.length → (∀ j, j < xs.length → qP w M (xs.getD j (.one .unk)) (vs.getD j undef)) → qP w M x v →
  xs.foldl (mm1 mx) (some x) = some z → ∃ r, (vs.foldlM (bif mx then Builtin.max2 else Builtin.min2) v : Sem Value).run P w = .ok r w ∧ qP w M z r
 | [], [], x, v, z, _, _, hx, h => by cases h; exact ⟨v, rfl, hx⟩
 | [], v :: vs, _, _, _, hl, _, _, _ => by simp at hl
 | x :: xs, [], _, _, _, hl, _, _, _ => by simp at hl
 | y :: xs, u :: vs, x, v, z, hl, hr, hx, h => by
  have h0 := hr 0 (by simp)
  simp only [List.getD_cons_zero] at h0
  simp only [List.foldl_cons] at h
  unfold mm1 at h
  split at h
  ·rename_i k a kk b heq
   cases heq
   have e1 := v1_val hx
   have e2 := v1_val h0
   subst e1 e2
   obtain ⟨r, hr1, hr2⟩ := qNB (P := P) mx xs vs _ _ z (by simpa using hl) (fun j hj => by simpa using hr (j + 1) (by simp; omega)) (QE (.int k (bif mx then (if b > a then b else a) else (if b < a then b else a))) rfl) h
   refine ⟨r, ?_, hr2⟩
   simp only [List.foldlM_cons, Sem.run_bind]
   cases mx <;> simpa [Builtin.max2, Builtin.min2] using hr1
  ·have := qNV mx xs
   unfold mm1 at this
   rw [this] at h; cases h
theorem qOf {P : Program} {w : World} {M : Mem} {mx : Bool} {ats : Array TypeId} {ty : TypeId} {xs : List V1} {vs : Array Value} (hl : xs.length = vs.size) (hr : ∀ j, j < xs.length → qP w M (xs.getD j (.one .unk)) (vs.getD j undef)) {z : V1} (h : mmV mx xs = some z) :
  ∃ r, (bif mx then Builtin.max_ ats ty vs else Builtin.min_ ats ty vs).run P w = .ok r w ∧ qP w M z r := by
 obtain ⟨vs⟩ := vs
 unfold mmV at h
 split at h
 ·rename_i k a rest
  match vs, hl with
  | u :: vs, hl =>
   have h0 := hr 0 (by simp)
   simp only [List.getD_cons_zero] at h0
   have h0' : qP w M (.one (.val (.int k a))) u := by simpa using h0
   obtain ⟨r, h1, h2⟩ := qNB (P := P) mx rest vs _ u z (by simpa using hl) (fun j hj => by
    have := hr (j + 1) (by simp; omega)
    simpa [Array.getD_eq_getD_getElem?, List.getD_eq_getElem?_getD] using this) h0' h
   refine ⟨r, ?_, h2⟩
   cases mx <;> simpa [Builtin.max_, Builtin.min_] using h1
 ·cases h
def unV (op : UnOp) (x : V1) : Option (V × Prop) :=
 match op, x with
 | .not, .one (.val (.bool b)) => some (.v (.one (.val (.bool !b))), True)
 | .neg, .one (.val (.int k n)) => some (.v (.one (.val (.int k (k.wrap (0 - n))))), True)
 | _, _ => none
theorem unV_rep {P : Program} {w : World} {M : Mem} {op : UnOp} {x : V1} {v : Value} (hv : qP w M x v) {y : V} {ob : Prop} (hp : unV op x = some (y, ob)) : ∃ r, (Op.unary op v).run P w = .ok r w ∧ VRep w M y r := by
 unfold unV at hp
 split at hp
 ·cases hp; rw [v1_val hv]; exact ⟨_, rfl, QE _ rfl⟩
 ·cases hp; rw [v1_val hv]; exact ⟨_, rfl, QE _ rfl⟩
 ·cases hp
def qKN (P : Program) (src dst : TypeId) (x : V1) : Option (V × Prop) :=
 match P.underlying src, P.underlying dst, x with
 | some _, some (.int k), .one (.val (.int _ n)) => some (.v (.one (.val (.int k (k.wrap n)))), True)
 | _, _, _ => none
theorem qPu {P : Program} {w : World} {M : Mem} {src dst : TypeId} {x : V1} {v : Value} (hv : qP w M x v) {y : V} {ob : Prop} (hp : qKN P src dst x = some (y, ob)) : ∃ r, (convert src dst v).run P w = .ok r w ∧ VRep w M y r := by
 unfold qKN at hp
 split at hp
 ·rename_i d k kk n hs hd
  cases hp
  rw [v1_val hv]
  refine ⟨.int k (k.wrap n), ?_, QE _ rfl⟩
  simp only [convert, Sem.run_bind, run_underlying hs, run_underlying hd, Result.andThen_ok]
  cases d <;> rfl
 ·cases hp
def qMb (P : Program) (t : TypeId) (x : V1) (lo hi mx : Option V1) : Option (V × Prop) :=
 match P.underlying t with
 | some (.slice e) => bif (P.info? e).isSome then
  match x, lo, hi, mx with
  | .one (.own id k sz len), none, some (.one (.val (.int _ h))), none => some (.v (.one (.own id k sz h.toNat)), 0 ≤ h ∧ h ≤ (len : Int))
  | .one (.lst _ _), none, some (.one (.val (.int _ h))), some (.one (.val (.int _ m))) => bif decide (h = 0) && decide (m = 0) then some (.v (.one .emp), True) else none
  | .one .emp, none, some (.one (.val (.int _ h))), some (.one (.val (.int _ m))) => bif decide (h = 0) && decide (m = 0) then some (.v (.one .emp), True) else none
  | .one (.own _ _ _ _), none, some (.one (.val (.int _ h))), some (.one (.val (.int _ m))) => bif decide (h = 0) && decide (m = 0) then some (.v (.one .emp), True) else none
  | .one (.lst n f), none, some (.one (.val (.int _ h))), none => bif Nat.beq (f 0).length (szOf P e) then some (.v (.one (.lst (h.toNat - 0) fun i => f (0 + i))), 0 ≤ h ∧ h ≤ (n : Int)) else none
  | .one (.lst n f), some (.one (.val (.int _ l))), none, none => bif Nat.beq (f 0).length (szOf P e) then some (.v (.one (.lst (n - l.toNat) fun i => f (l.toNat + i))), 0 ≤ l ∧ l ≤ (n : Int)) else none
  | .one (.lst n f), some (.one (.val (.int _ l))), some (.one (.val (.int _ h))), none => bif Nat.beq (f 0).length (szOf P e) then some (.v (.one (.lst (h.toNat - l.toNat) fun i => f (l.toNat + i))), 0 ≤ l ∧ l ≤ h ∧ h ≤ (n : Int)) else none
  | _, _, _, _ => none
  else none
 | _ => none
theorem qDt {P : Program} {e : TypeId} (h : (P.info? e).isSome = true) (w : World) : (sizeOf e).run P w = .ok (szOf P e) w := by
 obtain ⟨i, hi⟩ := Option.isSome_iff_exists.1 h
 rw [zS hi]; simp [szOf, hi]
theorem qGo {w : World} {ok : Nat → Prop} {n : Nat} {f : Nat → List C} {v : Value} (h : IRep w ok (.lst n f) v) {sz l h' : Nat} (hsz : (f 0).length = sz) (hlh : l ≤ h') (hn : h' ≤ n) :
  ∃ a len cap, v = .slice a len cap ∧ len = n ∧ len ≤ cap ∧ IRep w ok (.lst (h' - l) fun i => f (l + i)) (.slice (if cap = l then a else a.map (·.add (l * sz))) (h' - l) (cap - l)) := by
 cases h with
 | lst0 a f =>
  refine ⟨a, 0, 0, rfl, rfl, Nat.le_refl _, ?_⟩
  have : h' - l = 0 := by omega
  rw [this, Nat.zero_sub]
  exact .lst0 _ _
 | lst b o n cap sz' f g hnc hm hl hb hc hr =>
  refine ⟨_, n, cap, rfl, rfl, hnc, ?_⟩
  by_cases hc0 : cap = l
  ·have : h' - l = 0 := by omega
   rw [this, hc0, Nat.sub_self]
   exact .lst0 _ _
  ·rw [if_neg hc0]
   simp only [Option.map_some, Addr.add_lit]
   by_cases hz : h' - l = 0
   ·rw [hz]
    exact .lst b _ 0 _ 0 _ (fun _ _ => undef) (Nat.zero_le _) (by omega) (fun i hi => by omega) (fun i j hi => by omega) (fun i j hi => by omega) (fun i j hi => by omega)
   ·have hss : sz' = sz := by rw [← hsz, hl 0 (by omega)]
    subst hss
    refine .lst b _ _ _ sz' _ (fun i j => g (l + i) j) (by omega) (by omega) (fun i hi => hl _ (by omega)) (fun i j hi hj => hb (l + i) j (by omega) hj) (fun i j hi hj => ?_) (fun i j hi hj => hr (l + i) j (by omega) hj)
    have := hc (l + i) j (by omega) hj
    rw [← this]
    congr 2
    rw [Nat.add_mul]
    omega
theorem zF {P : Program} {w : World} {k : IntKind} {z : Int} {y : Nat} {code : BoundsCode} (h0 : 0 ≤ z) (h1 : z ≤ y) : (Instr.sliceBound (.int k z) y code).run P w = .ok z.toNat w := by
 simp [Instr.sliceBound, asIntOf, h0, h1]
theorem qOX {P : Program} {w : World} {M : Mem} {t : TypeId} {x : V1} {v : Value} {lo hi mx : Option V1} {lo' hi' mx' : Option Value} (hv : qP w M x v)
  (hlo : ∀ y, lo = some y → ∃ u, lo' = some u ∧ qP w M y u) (hlo0 : lo = none → lo' = none) (hhi : ∀ y, hi = some y → ∃ u, hi' = some u ∧ qP w M y u) (hhi0 : hi = none → hi' = none)
  (hmx : ∀ y, mx = some y → ∃ u, mx' = some u ∧ qP w M y u) (hmx0 : mx = none → mx' = none) {y : V} {ob : Prop} (hp : qMb P t x lo hi mx = some (y, ob)) (hob : ob) :
  ∃ r, (Instr.sliceAt t v lo' hi' mx').run P w = .ok r w ∧ VRep w M y r := by
 unfold qMb at hp
 split at hp
 ·rename_i e ht
  cases hinf : (P.info? e).isSome with
  | false => rw [hinf] at hp; cases hp
  | true =>
   rw [hinf] at hp
   simp only [cond_true] at hp
   have hsz := qDt hinf w
   split at hp
   ·rename_i id k sz len kk h
    cases hp
    obtain ⟨u, rfl, hu⟩ := hhi _ rfl
    rw [hlo0 rfl, hmx0 rfl, v1_val hu]
    rcases hv with ⟨h0, a, rfl⟩ | ⟨b, cap, rfl, h1, h2, hx⟩
    ·have hh : h = 0 := by omega
     subst hh
     refine ⟨.slice a 0 0, ?_, .inl ⟨rfl, _, rfl⟩⟩
     simp [Instr.sliceAt, run_underlying ht, Instr.slice, Instr.sliceBounds, zF, hsz]
    ·refine ⟨.slice (some ⟨b, 0, none⟩) h.toNat cap, ?_, .inr ⟨b, cap, rfl, by omega, h2, hx⟩⟩
     have hb := zF (P := P) (w := w) (k := kk) (z := h) (y := cap) (code := .sliceAcap) hob.1 (by omega)
     simp [Instr.sliceAt, run_underlying ht, Instr.slice, Instr.sliceBounds, hb, hsz, Addr.add_lit]
   ·rename_i kh h km m
    cases hz : decide (h = 0) && decide (m = 0) with
    | false => rw [hz] at hp; cases hp
    | true =>
    rw [hz] at hp
    rw [Bool.and_eq_true, decide_eq_true_eq, decide_eq_true_eq] at hz
    obtain ⟨rfl, rfl⟩ := hz
    cases hp
    obtain ⟨u, rfl, hu⟩ := hhi _ rfl
    obtain ⟨u', rfl, hu'⟩ := hmx _ rfl
    rw [hlo0 rfl, v1_val hu, v1_val hu']
    cases hv with
    | lst0 a f =>
     refine ⟨.slice a 0 0, ?_, .emp _⟩
     simp [Instr.sliceAt, run_underlying ht, Instr.slice, Instr.sliceBounds, zF, hsz]
    | lst b o n cap sz' f g hnc hm hl hb hc hr =>
     refine ⟨.slice (some ⟨b, o, none⟩) 0 0, ?_, .emp _⟩
     simp [Instr.sliceAt, run_underlying ht, Instr.slice, Instr.sliceBounds, zF, hsz]
   ·rename_i kh h km m
    cases hz : decide (h = 0) && decide (m = 0) with
    | false => rw [hz] at hp; cases hp
    | true =>
    rw [hz] at hp
    rw [Bool.and_eq_true, decide_eq_true_eq, decide_eq_true_eq] at hz
    obtain ⟨rfl, rfl⟩ := hz
    cases hp
    obtain ⟨u, rfl, hu⟩ := hhi _ rfl
    obtain ⟨u', rfl, hu'⟩ := hmx _ rfl
    rw [hlo0 rfl, v1_val hu, v1_val hu']
    cases hv with
    | emp a =>
     refine ⟨.slice a 0 0, ?_, .emp _⟩
     simp [Instr.sliceAt, run_underlying ht, Instr.slice, Instr.sliceBounds, zF, hsz]
   ·rename_i kh h km m
    cases hz : decide (h = 0) && decide (m = 0) with
    | false => rw [hz] at hp; cases hp
    | true =>
    rw [hz] at hp
    rw [Bool.and_eq_true, decide_eq_true_eq, decide_eq_true_eq] at hz
    obtain ⟨rfl, rfl⟩ := hz
    cases hp
    obtain ⟨u, rfl, hu⟩ := hhi _ rfl
    obtain ⟨u', rfl, hu'⟩ := hmx _ rfl
    rw [hlo0 rfl, v1_val hu, v1_val hu']
    rcases hv with ⟨h0, a, rfl⟩ | ⟨b, cap, rfl, h1, h2, hx⟩
    ·refine ⟨.slice a 0 0, ?_, .emp _⟩
     simp [Instr.sliceAt, run_underlying ht, Instr.slice, Instr.sliceBounds, zF, hsz]
    ·refine ⟨.slice (some ⟨b, 0, none⟩) 0 0, ?_, .emp _⟩
     simp [Instr.sliceAt, run_underlying ht, Instr.slice, Instr.sliceBounds, zF, hsz]
   ·rename_i n f kk h
    cases hb : Nat.beq (f 0).length (szOf P e) with
    | false => rw [hb] at hp; cases hp
    | true =>
     rw [hb] at hp
     cases hp
     obtain ⟨u, rfl, hu⟩ := hhi _ rfl
     rw [hlo0 rfl, hmx0 rfl, v1_val hu]
     obtain ⟨a, len, cap, rfl, hln, hlc, hr⟩ := qGo hv (l := 0) (h' := h.toNat) (Nat.eq_of_beq_eq_true hb) (Nat.zero_le _) (by omega)
     subst hln
     refine ⟨_, ?_, hr⟩
     have hb1 := zF (P := P) (w := w) (k := kk) (z := h) (y := cap) (code := .sliceAcap) hob.1 (by omega)
     simp [Instr.sliceAt, run_underlying ht, Instr.slice, Instr.sliceBounds, hb1, hsz]
   ·rename_i n f kk l
    cases hb : Nat.beq (f 0).length (szOf P e) with
    | false => rw [hb] at hp; cases hp
    | true =>
     rw [hb] at hp
     cases hp
     obtain ⟨u, rfl, hu⟩ := hlo _ rfl
     rw [hhi0 rfl, hmx0 rfl, v1_val hu]
     obtain ⟨a, len, cap, rfl, hln, hlc, hr⟩ := qGo hv (l := l.toNat) (h' := n) (Nat.eq_of_beq_eq_true hb) (by omega) (Nat.le_refl _)
     subst hln
     refine ⟨_, ?_, hr⟩
     have hb1 := zF (P := P) (w := w) (k := kk) (z := l) (y := len) (code := .sliceB) hob.1 (by omega)
     simp [Instr.sliceAt, run_underlying ht, Instr.slice, Instr.sliceBounds, hb1, hsz]
   ·rename_i n f kk l kk' h
    cases hb : Nat.beq (f 0).length (szOf P e) with
    | false => rw [hb] at hp; cases hp
    | true =>
     rw [hb] at hp
     cases hp
     obtain ⟨u, rfl, hu⟩ := hlo _ rfl
     obtain ⟨u', rfl, hu'⟩ := hhi _ rfl
     rw [hmx0 rfl, v1_val hu, v1_val hu']
     obtain ⟨a, len, cap, rfl, hln, hlc, hr⟩ := qGo hv (l := l.toNat) (h' := h.toNat) (Nat.eq_of_beq_eq_true hb) (by omega) (by omega)
     subst hln
     refine ⟨_, ?_, hr⟩
     have hb1 := zF (P := P) (w := w) (k := kk') (z := h) (y := cap) (code := .sliceAcap) (by omega) (by omega)
     have hb2 := zF (P := P) (w := w) (k := kk) (z := l) (y := h.toNat) (code := .sliceB) hob.1 (by omega)
     simp [Instr.sliceAt, run_underlying ht, Instr.slice, Instr.sliceBounds, hb1, hb2, hsz]
   ·cases hp
 ·cases hp
end Go.SL

namespace Go.SL
open Go.RowKit
def qBz (gl : List (Nat × C)) (st : St) : Option Operand → Option (Option V1)
 | none => some none
 | some o => match op1 gl st o with | some x => some (some x) | none => none
def opsV (gl : List (Nat × C)) (st : St) : List Operand → Option (List V1)
 | [] => some []
 | o :: r => match op1 gl st o, opsV gl st r with | some x, some xs => some (x :: xs) | _, _ => none
def qCA (gl : List (Nat × C)) (st : St) : List (Nat × Operand) → Option (List (Nat × V1))
 | [] => some []
 | (i, o) :: r => match op1 gl st o, qCA gl st r with | some x, some xs => some ((i, x) :: xs) | _, _ => none
def qDc : List C → Option (IntKind × List Int)
 | [.val (.int k a)] => some (k, [a])
 | .val (.int k a) :: r => match qDc r with | some (k', l) => if k = k' then some (k, a :: l) else none | none => none
 | _ => none
theorem qDv {w : World} {M : Mem} : ∀ {cs : List C} {k : IntKind} {l : List Int}, qDc cs = some (k, l) → l.length = cs.length ∧ ∀ j v, j < cs.length → CRep w M (cs.getD j .unk) v → v = .int k (l.getD j 0)
 | [], _, _, h => by cases h
 | c :: [], k, l, h => by
  unfold qDc at h
  split at h
  ·rename_i k' a heq
   cases h
   cases heq
   refine ⟨rfl, fun j v hj hr => ?_⟩
   have hj0 : j = 0 := by simp at hj; omega
   subst hj0
   exact IRep.val_eq hr
  ·rename_i k' a r hne heq
   cases heq
   exact absurd rfl hne
  ·cases h
 | c :: d :: r, k, l, h => by
  unfold qDc at h
  split at h
  ·rename_i heq; cases heq
  ·rename_i k' a r' hne heq
   cases heq
   split at h
   ·rename_i k'' l'' h2
    split at h
    ·rename_i hk
     subst hk
     cases h
     obtain ⟨i1, i2⟩ := qDv (w := w) (M := M) h2
     refine ⟨by simpa using i1, fun j v hj hr => ?_⟩
     cases j with
     | zero => exact IRep.val_eq hr
     | succ j => simpa using i2 j v (by simpa using hj) (by simpa using hr)
    ·cases h
   ·cases h
  ·cases h
def pev (P : Program) (gl : List (Nat × C)) (st : St) : Op → Option (V × Prop)
 | .move x | .assign x => match opV gl st x with | some y => some (y, True) | none => none
 | .pick c a b => match opB st c with | some t => (match opV gl st (bif t then a else b) with | some y => some (y, True) | none => none) | none => none
 | .binOp op t x y _ => match op1 gl st x, op1 gl st y with | some a, some b => (match binV P op t a b with | some (z, ob) => some (.v z, ob) | none => none) | _, _ => none
 | .unOp op _ x => match op1 gl st x with | some a => unV op a | none => none
 | .convert s d x => match op1 gl st x with | some a => qKN P s d a | none => none
 | .load t x => match op1 gl st x with | some a => qKT P st t a | none => none
 | .fieldAddr s x f => match op1 gl st x with | some a => qHl P s a f | none => none
 | .indexAddr t x i => match op1 gl st x, op1 gl st i with | some a, some b => qK4 P t a b | _, _ => none
 | .field t x f => match op1 gl st x, P.underlying t with
  | some (.agg cs), some (.struct fs) => (match fs[f]? with | some fd => (match HS P fd.type cs fd.offset with | some y => some (.v y, True) | none => none) | none => none)
  | _, _ => none
 | .index t x i => match op1 gl st x, op1 gl st i, P.underlying t with
  | some (.agg cs), some (.one (.val (.int _ z))), some (.array len e) => (match P.info? e, P.underlying e with
   | some ie, some (.int _) => (match qDc cs with | some (k, l) => bif Nat.beq ie.size 1 && Nat.beq cs.length len then some (.v (.one (.val (.int k (l.getD z.toNat 0)))), 0 ≤ z ∧ z < (len : Int)) else none | none => none)
   | some ie, some (.struct _) => (match qDc cs with
    | some (k, l) => bif Nat.beq cs.length (len * ie.size) then some (.v (.agg ((List.range ie.size).map fun j => .val (.int k (l.getD (z.toNat * ie.size + j) 0)))), 0 ≤ z ∧ z < (len : Int)) else none
    | none => (match HS P e cs (z.toNat * ie.size) with | some y => some (.v y, 0 ≤ z ∧ z < (len : Int)) | none => none))
   | some ie, some _ => (match HS P e cs (z.toNat * ie.size) with | some y => some (.v y, 0 ≤ z ∧ z < (len : Int)) | none => none)
   | _, _ => none)
  | some (.one (.val (.string s))), some (.one (.val (.int _ z))), some .string => some (.v (.one (.val (.int .u8 (strAt s z.toNat)))), 0 ≤ z ∧ z < (s.size : Int))
  | _, _, _ => none
 | .build t parts => match qCA gl st parts.toList with | some ps => qHR P t ps | none => none
 | .slice t x lo hi mx => match op1 gl st x, qBz gl st lo, qBz gl st hi, qBz gl st mx with | some a, some l, some h, some m => qMb P t a l h m | _, _, _, _ => none
 | .extract x i => match opV gl st x with | some (.tup xs) => (match xs[i]? with | some y => some (.v y, True) | none => none) | _ => none
 | .nilCheck x => match op1 gl st x with
  | some (.one (.bptr id k j)) => some (.v (.one (.bptr id k j)), True)
  | some (.one (.rptr id k sz i j)) => some (.v (.one (.rptr id k sz i j)), True)
  | some (.one (.lptr cs)) => some (.v (.one (.lptr cs)), True)
  | some (.one (.aptr n sz f)) => some (.v (.one (.aptr n sz f)), True)
  | _ => none
 | .call { callee := .builtin b, args, argTypes } => match b, opsV gl st args.toList, argTypes.toList with
  | .len, some [x], [t] => lenV P t x
  | .max, some xs, _ => (match mmV true xs with | some z => some (.v z, True) | none => none)
  | .min, some xs, _ => (match mmV false xs with | some z => some (.v z, True) | none => none)
  | _, _, _ => none
 | _ => none
section
variable {K : Ctx} {M : Mem} {st : St} {a : Act} {w : World}
theorem FW (h : Sim K M st a w) : ∀ {os : List Operand} {xs : List V1}, opsV K.globs st os = some xs → xs.length = os.length ∧ ∀ j, j < xs.length → qP w M (xs.getD j (.one .unk)) ((os.map a.eval).getD j undef)
 | [], _, ho => by cases ho; exact ⟨rfl, fun j hj => by simp at hj⟩
 | o :: r, xs, ho => by
  simp only [opsV] at ho
  split at ho
  ·rename_i x ys hx hys
   cases ho
   obtain ⟨h1, h2⟩ := FW h hys
   refine ⟨by simp [h1], fun j hj => ?_⟩
   cases j with
   | zero => exact op1_rep h hx
   | succ j => simpa using h2 j (by simpa using hj)
  ·cases ho
theorem qDo (h : Sim K M st a w) : ∀ {os : List (Nat × Operand)} {xs : List (Nat × V1)}, qCA K.globs st os = some xs → qLK w M xs (os.map fun p => (p.1, a.eval p.2))
 | [], _, ho => by cases ho; exact ⟨rfl, fun j hj => by simp at hj⟩
 | (i, o) :: r, xs, ho => by
  simp only [qCA] at ho
  split at ho
  ·rename_i x ys hx hys
   cases ho
   obtain ⟨h1, h2⟩ := qDo h hys
   refine ⟨by simpa using h1, fun j hj => ?_⟩
   cases j with
   | zero => exact ⟨rfl, op1_rep h hx⟩
   | succ j => simpa using h2 j (by simpa using hj)
  ·cases ho
theorem ZG (h : Sim K M st a w) {o : Option Operand} {x : Option V1} (ho : qBz K.globs st o = some x) : (∀ y, x = some y → ∃ u, o.map a.eval = some u ∧ qP w M y u) ∧ (x = none → o.map a.eval = none) := by
 cases o with
 | none => cases ho; exact ⟨fun y hy => (by cases hy), fun _ => rfl⟩
 | some o =>
  simp only [qBz] at ho
  split at ho
  ·rename_i y hy
   cases ho
   exact ⟨fun z hz => by cases hz; exact ⟨_, rfl, op1_rep h hy⟩, fun hn => by cases hn⟩
  ·cases ho
theorem ZK {P : Program} {w : World} {s : Sem Value} {r : Value} (h : s.run P w = .ok r w) : (do pure (Next.value (← s)) : Sem Next).run P w = .ok (.value r) w := by
 simp only [Sem.run_bind, h, Result.andThen_ok, Sem.run_pure]
theorem qB9 (h : Sim K M st a w) {o : Oper} {y : V} {ob : Prop} (hp : pev K.P K.globs st o.op = some (y, ob)) (hob : ob) : ∃ v, (execOp a.eval o).run K.P w = .ok (.value v) w ∧ VRep w M y v := by
 obtain ⟨dst, op, type, pos, after, guard⟩ := o
 simp only at hp
 cases op with
 | move x =>
  simp only [pev] at hp
  split at hp
  ·rename_i z hz; cases hp; exact ⟨_, rfl, opV_rep h hz⟩
  ·cases hp
 | assign x =>
  simp only [pev] at hp
  split at hp
  ·rename_i z hz; cases hp; exact ⟨_, rfl, opV_rep h hz⟩
  ·cases hp
 | pick c x z =>
  simp only [pev] at hp
  split at hp
  ·rename_i t ht
   split at hp
   ·rename_i y' hy'
    cases hp
    have hc := qJT h ht
    refine ⟨_, ?_, opV_rep h hy'⟩
    cases t <;> simp [execOp, hc, asBool]
   ·cases hp
  ·cases hp
 | binOp op t x z tz =>
  simp only [pev] at hp
  split at hp
  ·rename_i x' z' hx hz
   split at hp
   ·rename_i r ob' hb
    cases hp
    obtain ⟨v, hv, hr⟩ := qQR (op1_rep h hx) (op1_rep h hz) hb hob x z
    exact ⟨v, ZK hv, hr⟩
   ·cases hp
  ·cases hp
 | unOp op t x =>
  simp only [pev] at hp
  split at hp
  ·rename_i x' hx
   obtain ⟨v, hv, hr⟩ := unV_rep (op1_rep h hx) hp
   exact ⟨v, ZK hv, hr⟩
  ·cases hp
 | convert s d x =>
  simp only [pev] at hp
  split at hp
  ·rename_i x' hx
   obtain ⟨v, hv, hr⟩ := qPu (op1_rep h hx) hp
   exact ⟨v, ZK hv, hr⟩
  ·cases hp
 | load t x =>
  simp only [pev] at hp
  split at hp
  ·rename_i x' hx
   obtain ⟨v, hv, hr⟩ := qPo h (op1_rep h hx) hp hob
   exact ⟨v, ZK hv, hr⟩
  ·cases hp
 | fieldAddr s x f =>
  simp only [pev] at hp
  split at hp
  ·rename_i x' hx
   obtain ⟨v, hv, hr⟩ := qOn (op1_rep h hx) hp
   exact ⟨v, ZK hv, hr⟩
  ·cases hp
 | indexAddr t x i =>
  simp only [pev] at hp
  split at hp
  ·rename_i x' i' hx hi
   obtain ⟨v, hv, hr⟩ := qOI (op1_rep h hx) (op1_rep h hi) hp hob
   exact ⟨v, ZK hv, hr⟩
  ·cases hp
 | field t x f =>
  simp only [pev] at hp
  split at hp
  ·rename_i cs fs hx ht
   split at hp
   ·rename_i fd hfd
    split at hp
    ·rename_i z hz
     cases hp
     obtain ⟨vs, hvs, hcs⟩ := op1_rep h hx
     obtain ⟨v, hv, hr⟩ := RO hz hcs
     refine ⟨v, ZK ?_, hr⟩
     simp only [Instr.field, Sem.run_bind, run_underlying ht, Result.andThen_ok, hfd, hvs, asAgg, Sem.run_pure, hv]
    ·cases hp
   ·cases hp
  ·cases hp
 | index t x i =>
  simp only [pev] at hp
  split at hp
  ·rename_i cs kk z len e hx hi ht
   split at hp
   ·rename_i ie k0 hie hue
    split at hp
    ·rename_i k l hints
     cases hb : Nat.beq ie.size 1 && Nat.beq cs.length len with
     | false => rw [hb] at hp; cases hp
     | true =>
      rw [hb] at hp
      cases hp
      simp only [Bool.and_eq_true] at hb
      have hs1 := Nat.eq_of_beq_eq_true hb.1
      have hln := Nat.eq_of_beq_eq_true hb.2
      obtain ⟨vs, hvs, hcs⟩ := op1_rep h hx
      have hi' := v1_val (op1_rep h hi)
      have hzlt : z.toNat < cs.length := by omega
      have hv := (qDv (w := w) (M := M) hints).2 z.toNat _ hzlt (hcs.2 z.toNat hzlt)
      have hvz : vs[z.toNat]? = some (.int k (l.getD z.toNat 0)) := by
       have : z.toNat < vs.size := by rw [hcs.1]; exact hzlt
       rw [Array.getElem?_eq_getElem this]
       rw [Array.getD_eq_getD_getElem?, Array.getElem?_eq_getElem this, Option.getD_some] at hv
       rw [hv]
      refine ⟨.int k (l.getD z.toNat 0), ZK ?_, QE _ rfl⟩
      have hna : (isAgg e).run K.P w = .ok false w := by rw [zbQ hue]; rfl
      simp only [Instr.index, hi', asIntOf, Sem.run_bind, Sem.run_pure, Result.andThen_ok, run_underlying ht, hvs, hob.1, hob.2, and_self, if_true, zS hie, hs1, Nat.mul_one, part, hna, Bool.false_eq_true, if_false, hvz]
    ·cases hp
   ·rename_i ie fs hie hue
    split at hp
    ·rename_i k l hints
     cases hb : Nat.beq cs.length (len * ie.size) with
     | false => rw [hb] at hp; cases hp
     | true =>
      rw [hb] at hp
      cases hp
      have hln := Nat.eq_of_beq_eq_true hb
      obtain ⟨vs, hvs, hcs⟩ := op1_rep h hx
      have hi' := v1_val (op1_rep h hi)
      have hoff : z.toNat * ie.size + ie.size ≤ cs.length := by
       rw [hln, ← Nat.succ_mul]
       exact Nat.mul_le_mul_right _ (by omega)
      have hpv : HS K.P e cs (z.toNat * ie.size) = some (.agg ((cs.drop (z.toNat * ie.size)).take ie.size)) := by
       unfold HS qBy
       rw [hue, hie]
       simp only [qEF, cond_true]
       have : Nat.ble ie.size (cs.drop (z.toNat * ie.size)).length = true := by rw [Nat.ble_eq, List.length_drop]; omega
       rw [this]
       rfl
      obtain ⟨v, hv, vs', rfl, hs', hr'⟩ := RO hpv hcs
      refine ⟨.agg vs', ZK ?_, vs', rfl, ?_, fun j hj => ?_⟩
      ·simp only [Instr.index, hi', asIntOf, Sem.run_bind, Sem.run_pure, Result.andThen_ok, run_underlying ht, hvs, hob.1, hob.2, and_self, if_true, zS hie, hv]
      ·rw [hs', List.length_take, List.length_drop, List.length_map, List.length_range]; omega
      ·have hj' : j < ie.size := by simpa using hj
       have hc := hr' j (by rw [List.length_take, List.length_drop]; omega)
       have hg : ((cs.drop (z.toNat * ie.size)).take ie.size).getD j .unk = cs.getD (z.toNat * ie.size + j) .unk := by
        rw [List.getD_eq_getElem?_getD, List.getElem?_take, if_pos hj', List.getElem?_drop, ← List.getD_eq_getElem?_getD]
       rw [hg] at hc
       have hv' := (qDv (w := w) (M := M) hints).2 _ _ (by omega) hc
       rw [hv', List.getD_eq_getElem?_getD, List.getElem?_map, List.getElem?_range hj']
       exact IRep.val _ rfl
    ·split at hp
     ·rename_i r hr
      cases hp
      obtain ⟨vs, hvs, hcs⟩ := op1_rep h hx
      have hi' := v1_val (op1_rep h hi)
      obtain ⟨v, hv, hrr⟩ := RO hr hcs
      refine ⟨v, ZK ?_, hrr⟩
      simp only [Instr.index, hi', asIntOf, Sem.run_bind, Sem.run_pure, Result.andThen_ok, run_underlying ht, hvs, hob.1, hob.2, and_self, if_true, zS hie, hv]
     ·cases hp
   ·rename_i ie d _ _ hie _
    split at hp
    ·rename_i r hr
     cases hp
     obtain ⟨vs, hvs, hcs⟩ := op1_rep h hx
     have hi' := v1_val (op1_rep h hi)
     obtain ⟨v, hv, hrr⟩ := RO hr hcs
     refine ⟨v, ZK ?_, hrr⟩
     simp only [Instr.index, hi', asIntOf, Sem.run_bind, Sem.run_pure, Result.andThen_ok, run_underlying ht, hvs, hob.1, hob.2, and_self, if_true, zS hie, hv]
    ·cases hp
   ·cases hp
  ·rename_i s kk z hx hi ht
   cases hp
   refine ⟨.int .u8 (strAt s z.toNat), ZK ?_, QE _ rfl⟩
   rw [v1_val (op1_rep h hx), v1_val (op1_rep h hi), run_index_string _ t s kk z ht, dif_pos hob]
   have hlt : z.toNat < s.data.size := by have := hob.2; have : s.size = s.data.size := rfl; omega
   have e : (s[z.toNat]'(by have := hob.2; omega)) = s.data.getD z.toNat 0 := by
    show s.data[z.toNat] = _
    unfold Array.getD
    rw [dif_pos hlt]
    rfl
   rw [e]
   rfl
  ·cases hp
 | build t parts =>
  simp only [pev] at hp
  split at hp
  ·rename_i ps hps
   have hpr := qDo h hps
   obtain ⟨v, hv, hr⟩ := qOt (qs := parts.map fun (i, x) => (i, a.eval x)) (by simpa using hpr) hp
   exact ⟨v, ZK hv, hr⟩
  ·cases hp
 | slice t x lo hi mx =>
  simp only [pev] at hp
  split at hp
  ·rename_i x' l' h' m' hx hl hh hm
   obtain ⟨l1, l2⟩ := ZG h hl
   obtain ⟨h1, h2⟩ := ZG h hh
   obtain ⟨m1, m2⟩ := ZG h hm
   obtain ⟨v, hv, hr⟩ := qOX (op1_rep h hx) l1 l2 h1 h2 m1 m2 hp hob
   exact ⟨v, ZK hv, hr⟩
  ·cases hp
 | extract x i =>
  simp only [pev] at hp
  split at hp
  ·rename_i xs hx
   split at hp
   ·rename_i z hz
    cases hp
    obtain ⟨vs, hvs, hl, hr⟩ := opV_rep h hx
    have hi : i < xs.length := (List.getElem?_eq_some_iff.1 hz).1
    have hri := hr i hi
    rw [List.getD_eq_getElem?_getD, hz, Option.getD_some] at hri
    have hiv : i < vs.size := by omega
    refine ⟨vs.getD i undef, ZK ?_, hri⟩
    simp only [Instr.extract, hvs, Array.getD_eq_getD_getElem?, Array.getElem?_eq_getElem hiv, Option.getD_some, Sem.run_pure]
   ·cases hp
  ·cases hp
 | nilCheck x =>
  simp only [pev] at hp
  split at hp
  ·rename_i id k j hx
   cases hp
   have hr := op1_rep h hx
   obtain ⟨b, hb, hx'⟩ := hr
   exact ⟨.pointer (some ⟨b, j, none⟩), by simp [execOp, hb], b, rfl, hx'⟩
  ·rename_i id k sz i j hx
   cases hp
   have hr := op1_rep h hx
   obtain ⟨b, hb, hx'⟩ := hr
   exact ⟨.pointer (some ⟨b, i * sz + j, none⟩), by simp [execOp, hb], b, rfl, hx'⟩
  ·rename_i cs hx
   cases hp
   have hr : IRep w M.imm (.lptr cs) (a.eval x) := op1_rep h hx
   refine ⟨a.eval x, ?_, hr⟩
   have hex : ∃ b o, a.eval x = .pointer (some ⟨b, o, none⟩) := by
    generalize a.eval x = u at hr
    cases hr; exact ⟨_, _, rfl⟩
   obtain ⟨b, o, hb⟩ := hex
   simp [execOp, hb]
  ·rename_i n sz f hx
   cases hp
   have hr : IRep w M.imm (.aptr n sz f) (a.eval x) := op1_rep h hx
   refine ⟨a.eval x, ?_, hr⟩
   have hex : ∃ b o, a.eval x = .pointer (some ⟨b, o, none⟩) := by
    generalize a.eval x = u at hr
    cases hr; exact ⟨_, _, rfl⟩
   obtain ⟨b, o, hb⟩ := hex
   simp [execOp, hb]
  ·cases hp
 | call c =>
  obtain ⟨callee, args, argTypes⟩ := c
  cases callee with
  | builtin b =>
   simp only [pev] at hp
   split at hp
   ·rename_i x t ho hat
    obtain ⟨hl, hr⟩ := FW h ho
    obtain ⟨args⟩ := args
    obtain ⟨ats⟩ := argTypes
    simp only at ho hat hl hr
    subst hat
    match args, hl with
    | [o], _ =>
     have h0 := hr 0 (by simp)
     simp only [List.getD_cons_zero, List.map_cons] at h0
     obtain ⟨v, hv, hrr⟩ := qQI (ty := type) h0 hp
     refine ⟨v, ZK ?_, hrr⟩
     rw [← hv]
     simp
   ·rename_i xs ho
    split at hp
    ·rename_i z hz
     cases hp
     obtain ⟨hl, hr⟩ := FW h ho
     obtain ⟨v, hv, hrr⟩ := qOf (P := K.P) (w := w) (M := M) (mx := true) (ats := argTypes) (ty := type) (vs := args.map a.eval) (by simpa using hl) (fun j hj => by simpa [Array.getD_eq_getD_getElem?, List.getD_eq_getElem?_getD] using hr j hj) hz
     exact ⟨v, ZK hv, hrr⟩
    ·cases hp
   ·rename_i xs ho
    split at hp
    ·rename_i z hz
     cases hp
     obtain ⟨hl, hr⟩ := FW h ho
     obtain ⟨v, hv, hrr⟩ := qOf (P := K.P) (w := w) (M := M) (mx := false) (ats := argTypes) (ty := type) (vs := args.map a.eval) (by simpa using hl) (fun j hj => by simpa [Array.getD_eq_getD_getElem?, List.getD_eq_getElem?_getD] using hr j hj) hz
     exact ⟨v, ZK hv, hrr⟩
    ·cases hp
   ·cases hp
  | _ => cases hp
 | _ => cases hp
end
end Go.SL

namespace Go.SL
open Go.RowKit
def Mem.put (M : Mem) (id k : Nat) (b : Option Nat) : Mem := { ver := fun i => if i = id then some k else M.ver i, blk := fun i => if i = id then b else M.blk i, A := M.A }
theorem qAK {id k : Nat} {o : O} {i : Nat} : hits [(id, (k, o))] i ↔ i = id := by
 simp only [hits, look_cons]
 by_cases h : id = i
 ·simp [h]
 ·simp [h, look, Ne.symm h]
theorem newIn_one {id k i l : Nat} : qY [(id, k)] i l ↔ i = id ∧ l = k := by
 simp [qY]
theorem Ext.put {K : Ctx} {M : Mem} {st : St} {a : Act} {w : World} (h : Sim K M st a w) {w' : World} {id k : Nat} {b : Option Nat} {o : O}
  (hb : ∀ b', b = some b' → b' < w'.heap.size ∧ (w.heap.size ≤ b' ∨ ∃ k', M.ver id = some k' ∧ M.blk id = some b'))
  (hheap : ∀ c, c < w.heap.size → (∀ k', M.ver id = some k' → M.blk id ≠ some c) → w'.heap[c]? = w.heap[c]?)
  (hshape : ∀ (c : Nat) (arr : Array Value) (e : TypeId), w.heap[c]? = some (.cells arr e (0, 0)) → ∃ arr' : Array Value, w'.heap[c]? = some (.cells arr' e (0, 0)) ∧ arr'.size = arr.size)
  (hs : w.heap.size ≤ w'.heap.size) (h1 : w'.os = w.os) (h2 : w'.tape = w.tape) (h3 : w'.output = w.output) (h4 : w.drawn ≤ w'.drawn := by exact Nat.le_refl _) :
  Ext M w (M.put id k b) w' (hits [(id, (k, o))]) (qY [(id, k)]) where
 ver := fun i l hv => by
  simp only [Mem.put] at hv
  split at hv
  ·rename_i hi; cases hv; exact .inl (newIn_one.2 ⟨hi, rfl⟩)
  ·exact .inr hv
 keep := fun i l hv hw => by
  have : i ≠ id := fun e => hw (qAK.2 e)
  simp [Mem.put, this, hv]
 blk := fun i l hv hn => by
  simp only [Mem.put] at hv ⊢
  split
  ·rename_i hi; rw [if_pos hi] at hv; cases hv; exact absurd (newIn_one.2 ⟨hi, rfl⟩) hn
  ·rfl
 fresh := fun i l c hn hv hc => by
  obtain ⟨rfl, rfl⟩ := newIn_one.1 hn
  simp only [Mem.put, if_true] at hc
  exact (hb c hc).2
 inj := fun i j l m c hi hj hbi hbj => by
  have key : ∀ x y, x ≠ id → (M.put id k b).ver x = some y → (M.put id k b).blk x = some c → b ≠ some c := by
   intro x y hx hv hbx hbc
   simp only [Mem.put, hx, if_false] at hv hbx
   rcases (hb c hbc).2 with h' | ⟨k', h1, h2⟩
   ·have := (h.rng x y c hv hbx).2; omega
   ·exact hx (h.inj x id y k' c hv h1 hbx h2)
  by_cases hii : i = id <;> by_cases hjj : j = id
  ·rw [hii, hjj]
  ·subst hii
   exact absurd (by simpa [Mem.put] using hbi) (key j m hjj hj hbj)
  ·subst hjj
   exact absurd (by simpa [Mem.put] using hbj) (key i l hii hi hbi)
  ·simp only [Mem.put, hii, hjj, if_false] at hi hj hbi hbj
   exact h.inj i j l m c hi hj hbi hbj
 rng := fun i l c hv hc => by
  by_cases hii : i = id
  ·subst hii
   simp only [Mem.put, if_true] at hc
   exact (hb c hc).1
  ·simp only [Mem.put, hii, if_false] at hv hc
   exact Nat.lt_of_lt_of_le (h.rng i l c hv hc).2 hs
 heap := fun c hc hw => hheap c hc fun k' hv => hw id k' (qAK.2 rfl) hv
 shape := hshape
 size := hs
 area := rfl
 os := h1
 tape := h2
 output := h3
 drawn := h4
theorem yS {id k : Nat} {o : O} {i l : Nat} {p : O} (h : look i [(id, (k, o))] = some (l, p)) : i = id ∧ l = k ∧ p = o := by
 simp only [look_cons] at h
 split at h
 ·rename_i hi; cases h; exact ⟨hi.symm, rfl, rfl⟩
 ·cases h
theorem UL {M : Mem} {id k : Nat} {b : Option Nat} {o : O} : ∀ i, (M.put id k b).ver i ≠ none → M.ver i ≠ none ∨ hits [(id, (k, o))] i := fun i hi => by
 by_cases h : i = id
 ·exact .inr (qAK.2 h)
 ·exact .inl (by simpa [Mem.put, h] using hi)
theorem Ext.alloc {K : Ctx} {M : Mem} {st : St} {a : Act} {w : World} (h : Sim K M st a w) (id k : Nat) (o : O) (obj : Obj) : Ext M w (M.put id k (some w.heap.size)) (w.alloc obj) (hits [(id, (k, o))]) (qY [(id, k)]) :=
 Ext.put h (fun b' hb => by cases hb; exact ⟨by simp, .inl (Nat.le_refl _)⟩) (fun c hc _ => heap_alloc_old w obj c hc)
  (fun c arr e hc => ⟨arr, by rw [heap_alloc_old w obj c (Array.getElem?_eq_some_iff.1 hc).1]; exact hc, rfl⟩) (by simp) rfl rfl rfl
theorem Step_box {K : Ctx} {st : St} {o : Oper} (e : TypeId) (x : Operand) (id k : Nat) (y : V1) (ho : o.op = .box e x) (hx : op1 K.globs st x = some y) (hf : y.freeB [(id, k)] = true) :
  Step K st o [(id, k)] [(id, (k, .box e y.cells))] (.v (.one (.bptr id k 0))) := by
 refine ZF (by rw [ho]; rfl) ?_
 intro M a w h _
 have hv := op1_rep h hx
 have he := Ext.alloc h id k (.box e y.cells) (.cells (a.eval x).cells e)
 unfold Oper.wp
 have hrun : (execOp a.eval o).run K.P w = .ok (.value (.pointer (some ⟨w.heap.size, 0, none⟩))) (w.alloc (.cells (a.eval x).cells e)) := by
  unfold execOp
  rw [ho]
  simp [Instr.box, newVar, newRow]
 rw [hrun]
 refine ⟨_, _, rfl, he, ⟨w.heap.size, rfl, fun _ => by simp [Mem.put]⟩, fun i l p hl => ?_, UL⟩
 obtain ⟨rfl, rfl, rfl⟩ := yS hl
 refine ⟨by simp [Mem.put], w.heap.size, (a.eval x).cells, by simp [Mem.put], heap_alloc_new w _, ?_⟩
 have hy := he.v1rep (V1.free_of hf) hv
 exact qDp hy
theorem Step_alloc {K : Ctx} {st : St} {o : Oper} (e : TypeId) (id k : Nat) (cs : List C) (ho : o.op = .alloc e) (hz : BI K.P e = some cs) (hf : cs.all (C.freeB [(id, k)]) = true) :
  Step K st o [(id, k)] [(id, (k, .box e cs))] (.v (.one (.bptr id k 0))) := by
 refine ZF (by rw [ho]; rfl) ?_
 intro M a w h _
 obtain ⟨z, hzr, hzc⟩ := LK hz w M
 have he := Ext.alloc h id k (.box e cs) (.cells z.cells e)
 unfold Oper.wp
 have hrun : (execOp a.eval o).run K.P w = .ok (.value (.pointer (some ⟨w.heap.size, 0, none⟩))) (w.alloc (.cells z.cells e)) := by
  unfold execOp
  rw [ho]
  simp [Instr.alloc, newVar, newRow, hzr]
 rw [hrun]
 refine ⟨_, _, rfl, he, ⟨w.heap.size, rfl, fun _ => by simp [Mem.put]⟩, fun i l p hl => ?_, UL⟩
 obtain ⟨rfl, rfl, rfl⟩ := yS hl
 exact ⟨by simp [Mem.put], w.heap.size, z.cells, by simp [Mem.put], heap_alloc_new w _, he.csrep (qEP hf) hzc⟩
theorem zaQ {w : World} {M : Mem} {cs : List C} {vs : Array Value} (h : wX w M cs vs) : ∀ v ∈ vs.toList, v.oneCell' = true := by
 intro v hv
 obtain ⟨j, hj, rfl⟩ := List.mem_iff_getElem.1 hv
 have hj' : j < vs.size := by simpa using hj
 have := (h.2 j (by rw [← h.1]; exact hj')).cell
 simpa [Array.getD_eq_getD_getElem?, Array.getElem?_eq_getElem hj'] using this
theorem qM9 {w : World} {M : Mem} {cs xs : List C} {arr vs : Array Value} {j : Nat} (hc : wX w M cs arr) (hx : wX w M xs vs) (hb : j + xs.length ≤ cs.length) :
  wX w M (QA cs j xs) (arr.toList.take j ++ vs.toList ++ arr.toList.drop (j + vs.toList.length)).toArray := by
 have hcs := hc.1
 have hxs := hx.1
 have hvl : vs.toList.length = xs.length := by simpa using hxs
 refine ⟨by simp [QA]; omega, fun m hm => ?_⟩
 have hm' : m < cs.length := by simp [QA] at hm; omega
 unfold QA
 simp only [List.getD_eq_getElem?_getD, Array.getD_eq_getD_getElem?, List.getElem?_toArray, hvl]
 by_cases h1 : m < j
 ·have := hc.2 m hm'
  simp only [List.getD_eq_getElem?_getD, Array.getD_eq_getD_getElem?] at this
  rw [List.append_assoc, List.getElem?_append_left (by simp; omega), List.getElem?_take, if_pos h1, List.append_assoc, List.getElem?_append_left (by simp; omega), List.getElem?_take, if_pos h1, Array.getElem?_toList (xs := arr)]
  exact this
 ·by_cases h2 : m < j + xs.length
  ·have := hx.2 (m - j) (by omega)
   simp only [List.getD_eq_getElem?_getD, Array.getD_eq_getD_getElem?] at this
   rw [List.append_assoc, List.getElem?_append_right (by simp; omega), List.getElem?_append_left (by simp; omega), List.append_assoc, List.getElem?_append_right (by simp; omega), List.getElem?_append_left (by simp; omega)]
   simp only [List.length_take, Nat.min_eq_left (show j ≤ cs.length by omega), Array.length_toList, Nat.min_eq_left (show j ≤ arr.size by omega), Array.getElem?_toList]
   exact this
  ·have := hc.2 m hm'
   simp only [List.getD_eq_getElem?_getD, Array.getD_eq_getD_getElem?] at this
   rw [List.getElem?_append_right (by simp; omega), List.getElem?_append_right (by simp; omega), List.getElem?_drop, List.getElem?_drop]
   simp only [List.length_append, List.length_take, Nat.min_eq_left (show j ≤ cs.length by omega), Array.length_toList, Nat.min_eq_left (show j ≤ arr.size by omega), hvl, Array.getElem?_toList]
   rw [show j + xs.length + (m - (j + xs.length)) = m by omega]
   exact this
theorem Ext.write {K : Ctx} {M : Mem} {st : St} {a : Act} {w : World} (h : Sim K M st a w) {id k b : Nat} {arr arr' : Array Value} {e : TypeId} {o : O} (_hv : M.ver id = some k) (hb : M.blk id = some b) (hh : w.heap[b]? = some (.cells arr e (0, 0))) (hs : arr'.size = arr.size) :
  Ext M w M (w.setRow b arr') (hits [(id, (k, o))]) (qY []) where
 ver := fun _ _ h => .inr h
 keep := fun _ _ h _ => h
 blk := fun _ _ _ _ => rfl
 fresh := fun _ _ _ hn => by cases hn
 inj := h.inj
 rng := fun i l c hv hc => by rw [size_setRow]; exact (h.rng i l c hv hc).2
 heap := fun c hc hw => setRow_other w b c arr' fun hcb => hw id k (qAK.2 rfl) _hv (by rw [hb, hcb])
 shape := fun c arr0 e0 hc => by
  by_cases hcb : c = b
  ·subst hcb
   rw [hh] at hc
   cases hc
   exact ⟨arr', setRow_heap w c arr arr' e (0, 0) hh, hs⟩
  ·exact ⟨arr0, by rw [setRow_other w b c arr' hcb]; exact hc, rfl⟩
 size := by rw [size_setRow]; exact Nat.le_refl _
 area := rfl
 os := rfl
 tape := rfl
 output := rfl
 drawn := Nat.le_refl _
theorem qEt {P : Program} {w : World} {t : TypeId} {i : TypeInfo} {b j : Nat} {arr : Array Value} {e : TypeId} {v : Value} (hi : P.info? t = some i) (hsz : v.cells.size = i.size) (hh : w.heap[b]? = some (.cells arr e (0, 0)))
  (hl : j + v.cells.toList.length ≤ arr.size) (h1 : ∀ x ∈ v.cells.toList, x.oneCell' = true) :
  (storeVar t ⟨b, j, none⟩ v).run P w = .ok () (w.setRow b (arr.toList.take j ++ v.cells.toList ++ arr.toList.drop (j + v.cells.toList.length)).toArray) := by
 have := run_storeCells_at P b j e v.cells.toList 0 arr w hh (by simpa using hl) h1
 simp only [Nat.add_zero] at this
 simp only [storeVar, Sem.run_bind, zS hi, Result.andThen_ok, hsz, ne_eq, not_true_eq_false, if_false]
 exact this
theorem qJk {K : Ctx} {st : St} {o : Oper} (t : TypeId) (p x : Operand) (id k j : Nat) (e : TypeId) (cs : List C) (y : V1) (cs' : List C) (ho : o.op = .store t p x)
  (hp : op1 K.globs st p = some (.one (.bptr id k j))) (hx : op1 K.globs st x = some y) (hl : look id st.objs = some (k, .box e cs)) (hsz : szOf K.P t = y.cells.length) (hin : (K.P.info? t).isSome = true)
  (hb : Nat.ble (j + y.cells.length) cs.length = true) (hcs : QA cs j y.cells = cs') : Step K st o [] [(id, (k, .box e cs'))] .undef := by
 subst hcs
 refine ZF (by rw [ho]; rfl) ?_
 intro M a w h _
 have hv := op1_rep h hx
 obtain ⟨b', hpv, hbb⟩ := op1_rep h hp
 obtain ⟨hver, b, arr, hbk, hh, hcr⟩ := h.objs id k _ hl
 have hb' : b' = b := Option.some.inj ((hbb hver).symm.trans hbk)
 rw [hb'] at hpv
 clear hbb hb'
 obtain ⟨i, hi⟩ := Option.isSome_iff_exists.1 hin
 have hyc := qDp hv
 have hle := Nat.le_of_ble_eq_true hb
 have hisz : i.size = y.cells.length := by rw [← hsz]; simp [szOf, hi]
 have hrun := qEt (P := K.P) (w := w) (t := t) (b := b) (j := j) (v := a.eval x) hi (by rw [hyc.1, hisz]) hh (by have := hyc.1; have := hcr.1; simp; omega) (zaQ hyc)
 have hs' : (arr.toList.take j ++ (a.eval x).cells.toList ++ arr.toList.drop (j + (a.eval x).cells.toList.length)).toArray.size = arr.size := by
  have := hyc.1; have := hcr.1; simp; omega
 have he := Ext.write (o := .box e (QA cs j y.cells)) h hver hbk hh hs'
 unfold Oper.wp
 have hex : (execOp a.eval o).run K.P w = .ok .skip (w.setRow b (arr.toList.take j ++ (a.eval x).cells.toList ++ arr.toList.drop (j + (a.eval x).cells.toList.length)).toArray) := by
  unfold execOp
  rw [ho]
  simp only [Instr.storeAt, hpv, Instr.sureAddr, Sem.run_bind, Sem.run_pure, Result.andThen_ok, hrun]
 rw [hex]
 refine ⟨undef, M, rfl, he, rfl, fun i l q hl' => ?_, fun i hi => .inl hi⟩
 obtain ⟨rfl, rfl, rfl⟩ := yS hl'
 refine ⟨hver, b, _, hbk, setRow_heap w b arr _ e (0, 0) hh, ?_⟩
 have hnil : ∀ cs, qCP (qY []) cs := fun cs c _ => qQE c
 exact qM9 (he.csrep (hnil _) hcr) (he.csrep (hnil _) hyc) hle
theorem BE {α : Type} (l vs : List α) (p j : Nat) (d : α) (h : p + vs.length ≤ l.length) : (l.take p ++ vs ++ l.drop (p + vs.length)).getD j d = if p ≤ j ∧ j < p + vs.length then vs.getD (j - p) d else l.getD j d := by
 simp only [List.getD_eq_getElem?_getD]
 by_cases h1 : j < p
 ·rw [if_neg (by omega), List.append_assoc, List.getElem?_append_left (by simp; omega), List.getElem?_take, if_pos h1]
 ·by_cases h2 : j < p + vs.length
  ·rw [if_pos (by omega), List.append_assoc, List.getElem?_append_right (by simp; omega), List.getElem?_append_left (by simp; omega)]
   simp only [List.length_take, Nat.min_eq_left (show p ≤ l.length by omega)]
  ·rw [if_neg (by omega), List.getElem?_append_right (by simp; omega), List.getElem?_drop]
   simp only [List.length_append, List.length_take, Nat.min_eq_left (show p ≤ l.length by omega)]
   rw [show p + vs.length + (j - (p + vs.length)) = j by omega]
theorem RU {arr : Array Value} {j : Nat} : arr.getD j undef = arr.toList.getD j undef := by
 simp [Array.getD_eq_getD_getElem?, List.getD_eq_getElem?_getD]
theorem qI6 {K : Ctx} {st : St} {o : Oper} (t : TypeId) (p x : Operand) (id k sz i j : Nat) (e : TypeId) (n : Nat) (f f' : Nat → List C) (y : V1) (ho : o.op = .store t p x)
  (hp : op1 K.globs st p = some (.one (.rptr id k sz i j))) (hx : op1 K.globs st x = some y) (hl : look id st.objs = some (k, .row e sz n f)) (hsz : szOf K.P t = y.cells.length) (hin : (K.P.info? t).isSome = true)
  (himm : y.cells.all C.isImm = true) (hb : Nat.ble (j + y.cells.length) sz = true) (hi : i < n) (hf' : ∀ m, m < n → f' m = if m = i then QA (f i) j y.cells else f m) :
  Step K st o [] [(id, (k, .row e sz n f'))] .undef := by
 refine ZF (by rw [ho]; rfl) ?_
 intro M a w h _
 have hv := op1_rep h hx
 obtain ⟨b', hpv, hbb⟩ := op1_rep h hp
 obtain ⟨hver, hrow⟩ := h.objs id k _ hl
 rcases hrow with ⟨_, h0⟩ | ⟨b, arr, hbk, hh, hns, hcr⟩
 ·omega
 have hb' : b' = b := Option.some.inj ((hbb hver).symm.trans hbk)
 rw [hb'] at hpv
 clear hbb hb'
 obtain ⟨ti, hti⟩ := Option.isSome_iff_exists.1 hin
 have hyc := qDp hv
 have hle := Nat.le_of_ble_eq_true hb
 have hisz : ti.size = y.cells.length := by rw [← hsz]; simp [szOf, hti]
 have hin' : i * sz + sz ≤ n * sz := by
  have : (i + 1) * sz ≤ n * sz := Nat.mul_le_mul_right _ hi
  rw [Nat.add_mul, Nat.one_mul] at this
  exact this
 have hvs : (a.eval x).cells.size = y.cells.length := hyc.1
 have hrun := qEt (P := K.P) (w := w) (t := t) (b := b) (j := i * sz + j) (v := a.eval x) hti (by rw [hyc.1, hisz]) hh (by simp; omega) (zaQ hyc)
 have hs' : (arr.toList.take (i * sz + j) ++ (a.eval x).cells.toList ++ arr.toList.drop (i * sz + j + (a.eval x).cells.toList.length)).toArray.size = arr.size := by
  simp; omega
 have he := Ext.write (o := .row e sz n f') h hver hbk hh hs'
 unfold Oper.wp
 have hex : (execOp a.eval o).run K.P w = .ok .skip (w.setRow b (arr.toList.take (i * sz + j) ++ (a.eval x).cells.toList ++ arr.toList.drop (i * sz + j + (a.eval x).cells.toList.length)).toArray) := by
  unfold execOp
  rw [ho]
  simp only [Instr.storeAt, hpv, Instr.sureAddr, Sem.run_bind, Sem.run_pure, Result.andThen_ok, hrun]
 rw [hex]
 refine ⟨undef, M, rfl, he, rfl, fun i' l q hl' => ?_, fun i hi => .inl hi⟩
 obtain ⟨rfl, rfl, rfl⟩ := yS hl'
 refine ⟨hver, .inr ⟨b, _, hbk, setRow_heap w b arr _ e (0, 0) hh, by omega, fun m hm => ?_⟩⟩
 have hfi := hcr i hi
 have hlen : (f' m).length = sz := by
  rw [hf' m hm]
  split
  ·simp only [QA, List.length_append, List.length_take, List.length_drop, hfi.1]; omega
  ·exact (hcr m hm).1
 refine ⟨hlen, fun q hq => ?_⟩
 rw [hf' m hm]
 have hmn : m * sz + sz ≤ n * sz := by
  have : (m + 1) * sz ≤ n * sz := Nat.mul_le_mul_right _ hm
  rw [Nat.add_mul, Nat.one_mul] at this
  exact this
 have hcell : ((arr.toList.take (i * sz + j) ++ (a.eval x).cells.toList ++ arr.toList.drop (i * sz + j + (a.eval x).cells.toList.length)).toArray).getD (m * sz + q) undef =
   if i * sz + j ≤ m * sz + q ∧ m * sz + q < i * sz + j + y.cells.length then (a.eval x).cells.getD (m * sz + q - (i * sz + j)) undef else arr.getD (m * sz + q) undef := by
  rw [RU, BE _ _ _ _ _ (by simp; omega)]
  simp only [Array.length_toList, hvs, ← RU]
 rw [hcell]
 clear hcell hex hrun
 generalize (w.setRow b (arr.toList.take (i * sz + j) ++ (a.eval x).cells.toList ++ arr.toList.drop (i * sz + j + (a.eval x).cells.toList.length)).toArray) = w2 at he
 by_cases hmi : m = i
 ·subst hmi
  rw [if_pos rfl]
  unfold QA
  rw [BE _ _ _ _ _ (by rw [hfi.1]; exact hle)]
  by_cases hq1 : j ≤ q ∧ q < j + y.cells.length
  ·rw [if_pos hq1, if_pos (by omega), show m * sz + q - (m * sz + j) = q - j by omega]
   have hy := hyc.2 (q - j) (by omega)
   have hyi : (y.cells.getD (q - j) .unk).isImm = true := List.all_eq_true.1 himm _ (jV (by omega))
   have hy' : IRep w M.imm (y.cells.getD (q - j) .unk) ((a.eval x).cells.getD (q - j) undef) := by
    generalize y.cells.getD (q - j) .unk = c at hy hyi
    cases c <;> first | exact hy | cases hyi
   exact he.irep hy'
  ·rw [if_neg hq1, if_neg (by omega)]
   exact he.irep (hfi.2 q hq)
 ·rw [if_neg hmi]
  have hne : ¬ (i * sz + j ≤ m * sz + q ∧ m * sz + q < i * sz + j + y.cells.length) := by
   rcases Nat.lt_or_gt_of_ne hmi with hlt | hgt
   ·have : (m + 1) * sz ≤ i * sz := Nat.mul_le_mul_right _ hlt
    rw [Nat.add_mul, Nat.one_mul] at this
    omega
   ·have hg : (i + 1) * sz ≤ m * sz := Nat.mul_le_mul_right _ hgt
    rw [Nat.add_mul, Nat.one_mul] at hg
    omega
  rw [if_neg hne]
  exact he.irep ((hcr m hm).2 q hq)
end Go.SL
