/- Slices that the call makes: make, literals, append. -/
import Derived.Test.YtfpgdgmcmkileaaDoorSl7
set_option linter.unusedVariables false
set_option linter.unusedSimpArgs false
namespace Go.SL
open Go.RowKit

theorem made_getD (z : Array Value) (n j : Nat) (hj : j < n) (hz : 0 < z.size) : (madeCells z n).getD j undef = z.getD (j % z.size) undef := by
  have h1 : j % z.size < z.size := Nat.mod_lt _ hz
  simp [madeCells, hj, h1]

theorem mul_add_mod' (m sz q : Nat) (hq : q < sz) : (m * sz + q) % sz = q := by
  rw [Nat.add_comm, Nat.add_mul_mod_self_right, Nat.mod_eq_of_lt hq]

theorem row_lt {m n sz q : Nat} (hm : m < n) (hq : q < sz) : m * sz + q < n * sz := by
  have : (m + 1) * sz ≤ n * sz := Nat.mul_le_mul_right _ hm
  rw [Nat.add_mul, Nat.one_mul] at this
  omega

theorem irep_of_all {w : World} {M : Mem} {cs : List C} {vs : Array Value} (h : CsRep w M cs vs) (hi : cs.all C.isImm = true) {j : Nat} (hj : j < cs.length) : IRep w M.imm (cs.getD j .unk) (vs.getD j undef) := by
  have h1 := h.2 j hj
  have h2 : (cs.getD j .unk).isImm = true := List.all_eq_true.1 hi _ (getD_mem hj)
  generalize cs.getD j .unk = c at h1 h2
  cases c <;> first | exact h1 | cases h2

theorem csfree_of_imm {nv : Nat → Nat → Prop} {cs : List C} (hi : cs.all C.isImm = true) : CsFree nv cs := fun c hc => by
  have := List.all_eq_true.1 hi c hc
  cases c <;> first | trivial | cases this

/-- 'make([]T, n)'. -/
theorem Step_make {K : Ctx} {st : St} {o : Oper} (t e : TypeId) (l c : Operand) (id k : Nat) (kl kc : IntKind) (z : Int) (i : TypeInfo) (cs : List C) (ho : o.op = .makeSlice t l c)
    (hl : op1 K.globs st l = some (.one (.val (.int kl z)))) (hc : op1 K.globs st c = some (.one (.val (.int kc z)))) (ht : K.P.underlying t = some (.slice e)) (hi : K.P.info? e = some i)
    (hz : zeroC K.P e = some cs) (hcs : Nat.beq cs.length i.size = true) (himm : cs.all C.isImm = true) (hpos : Nat.blt 0 i.size = true) (h0 : 0 ≤ z) (hb : (i.bytes : Int) * z ≤ 140737488355328) (h63 : z ≤ 9223372036854775807) (f' : Nat → List C) (hf' : ∀ m, m < z.toNat → f' m = cs) :
    Step K st o [(id, k)] [(id, (k, .row e i.size z.toNat f'))] (.v (.one (.own id k i.size z.toNat))) := by
  intro M a w h _
  obtain ⟨zz, hzz⟩ : ∃ zz, i.zero = some zz := by
    unfold zeroC at hz
    rw [hi] at hz
    simp only at hz
    split at hz
    · rename_i x hx; exact ⟨x, hx⟩
    · cases hz
  have hzc : CsRep w M cs zz.cells := by
    obtain ⟨z', hr, hcr⟩ := zeroC_rep hz w M
    have : (zeroValue e).run K.P w = .ok zz w := by simp [zeroValue, typeInfo, hi, hzz]
    rw [this] at hr
    cases hr
    exact hcr
  have hlen : zz.cells.size = i.size := by rw [hzc.1]; exact Nat.eq_of_beq_eq_true hcs
  have hpos' : 0 < i.size := by simpa [Nat.blt_eq] using hpos
  have hrun := run_make (P := K.P) w t e i zz ht hi hzz kl kc z z h0 (Int.le_refl _) (by omega) h63
  have he := Ext.alloc h id k (.row e i.size z.toNat f') (.cells (madeCells zz.cells (z.toNat * i.size)) e)
  unfold Oper.wp
  have hex : (execOp a.eval o).run K.P w = .ok (.value (.slice (some ⟨w.heap.size, 0, none⟩) z.toNat z.toNat)) (w.alloc (.cells (madeCells zz.cells (z.toNat * i.size)) e)) := by
    unfold execOp
    rw [ho]
    simp only [v1_val (op1_rep h hl), v1_val (op1_rep h hc), Sem.run_bind, hrun, Result.andThen_ok, Sem.run_pure]
  rw [hex]
  have hmx : z.toNat ≤ maxLen := by unfold maxLen; omega
  refine ⟨_, _, rfl, he, .inr ⟨w.heap.size, z.toNat, rfl, Nat.le_refl _, hmx, fun _ => ⟨by simp [Mem.put], _, e, heap_alloc_new w _, by simp [madeCells]⟩⟩, fun i' l' p hl' => ?_, put_ver⟩
  obtain ⟨rfl, rfl, rfl⟩ := look_one hl'
  refine ⟨by simp [Mem.put], .inr ⟨w.heap.size, _, by simp [Mem.put], heap_alloc_new w _, by simp [madeCells], fun m hm => ⟨by rw [hf' m hm]; exact Nat.eq_of_beq_eq_true hcs, fun q hq => ?_⟩⟩⟩
  rw [hf' m hm]
  rw [made_getD _ _ _ (row_lt hm hq) (by omega), hlen, mul_add_mod' _ _ _ hq]
  exact he.irep (irep_of_all hzc himm (by rw [← hzc.1, hlen]; exact hq))

def rowOf (out : List C) (sz : Nat) (i : Nat) : List C := (out.drop (i * sz)).take sz

theorem rowOf_getD {out : List C} {sz n : Nat} (hl : out.length = n * sz) {m q : Nat} (hm : m < n) (hq : q < sz) : (rowOf out sz m).length = sz ∧ (rowOf out sz m).getD q .unk = out.getD (m * sz + q) .unk := by
  have h1 : (m + 1) * sz ≤ n * sz := Nat.mul_le_mul_right _ hm
  rw [Nat.add_mul, Nat.one_mul] at h1
  unfold rowOf
  refine ⟨by simp; omega, ?_⟩
  simp only [List.getD_eq_getElem?_getD, List.getElem?_take, hq, if_true, List.getElem?_drop]

/-- A slice literal. -/
theorem Step_lit {K : Ctx} {st : St} {o : Oper} (t e : TypeId) (len : Nat) (parts : Array (Nat × Operand)) (id k : Nat) (i : TypeInfo) (cs : List C) (ps : List (Nat × V1)) (out : List C) (ho : o.op = .buildSlice t len parts)
    (hps : partsV K.globs st parts.toList = some ps) (ht : K.P.underlying t = some (.slice e)) (hi : K.P.info? e = some i)
    (hz : zeroC K.P e = some cs) (hcs : Nat.beq cs.length i.size = true) (hpos : Nat.blt 0 i.size = true) (hsmall : Nat.ble (len * i.size) 16777216 = true)
    (hfill : fillC (fun j => some (j * i.size, i.size)) ((List.range (len * i.size)).map fun j => cs.getD (j % i.size) .unk) ps = some out) (himm : out.all C.isImm = true) (holen : Nat.beq out.length (len * i.size) = true) (f' : Nat → List C) (hf' : ∀ m, m < len → f' m = rowOf out i.size m) :
    Step K st o [(id, k)] [(id, (k, .row e i.size len f'))] (.v (.one (.own id k i.size len))) := by
  intro M a w h _
  obtain ⟨zz, hzz⟩ : ∃ zz, i.zero = some zz := by
    unfold zeroC at hz
    rw [hi] at hz
    simp only at hz
    split at hz
    · rename_i x hx; exact ⟨x, hx⟩
    · cases hz
  have hzrun : (zeroValue e).run K.P w = .ok zz w := by simp [zeroValue, typeInfo, hi, hzz]
  have hzc : CsRep w M cs zz.cells := by
    obtain ⟨z', hr, hcr⟩ := zeroC_rep hz w M
    rw [hzrun] at hr
    cases hr
    exact hcr
  have hlen : zz.cells.size = i.size := by rw [hzc.1]; exact Nat.eq_of_beq_eq_true hcs
  have hpos' : 0 < i.size := by simpa [Nat.blt_eq] using hpos
  have hbase : CsRep w M ((List.range (len * i.size)).map fun j => cs.getD (j % i.size) .unk) (madeCells zz.cells (len * i.size)) := by
    refine ⟨by simp [madeCells], fun j hj => ?_⟩
    have hj' : j < len * i.size := by simpa using hj
    rw [made_getD _ _ _ hj' (by omega), hlen]
    have hm : j % i.size < cs.length := by rw [← hzc.1, hlen]; exact Nat.mod_lt _ hpos'
    have := hzc.2 (j % i.size) hm
    simpa [List.getD_eq_getElem?_getD, List.getElem?_map, hj'] using this
  obtain ⟨arr, hfr, hout⟩ := fillC_rep ps (parts.toList.map fun p : Nat × Operand => (p.1, a.eval p.2)) _ _ out hbase (partsV_rep h hps) hfill
  have hsm := Nat.le_of_ble_eq_true hsmall
  have hol := Nat.eq_of_beq_eq_true holen
  have he := Ext.alloc h id k (.row e i.size len f') (.cells arr e)
  unfold Oper.wp
  have hex : (execOp a.eval o).run K.P w = .ok (.value (.slice (some ⟨w.heap.size, 0, none⟩) len len)) (w.alloc (.cells arr e)) := by
    unfold execOp
    rw [ho]
    have hparts : (parts.map fun (i, x) => (i, a.eval x)).toList = parts.toList.map fun p : Nat × Operand => (p.1, a.eval p.2) := by simp
    by_cases hz0 : len * i.size = 0
    · have hm0 : madeCells zz.cells (len * i.size) = #[] := by rw [hz0]; simp [madeCells]
      rw [hm0] at hfr
      simp only [Instr.buildSlice, Sem.run_bind, run_underlying ht, Result.andThen_ok, run_sizeOf hi, hz0, Nat.not_lt_zero, if_false, if_true, Sem.run_pure, hparts, Array.range_zero', Array.map_empty, hfr, newRow, run_newObj, gt_iff_lt]
      rfl
    · have hng : ¬ (len * i.size > 2 ^ 24) := by omega
      simp only [Instr.buildSlice, Sem.run_bind, run_underlying ht, Result.andThen_ok, run_sizeOf hi, hng, hz0, if_false, Sem.run_pure, hzrun, hparts]
      have : (Array.map (fun x => zz.cells[x % zz.cells.size]!) (Array.range (len * i.size))) = madeCells zz.cells (len * i.size) := rfl
      rw [this, hfr]
      simp only [newRow, Sem.run_bind, run_newObj, Result.andThen_ok, Sem.run_pure]
      rfl
  rw [hex]
  have hmx : len ≤ maxLen := by
    have : len * 1 ≤ len * i.size := Nat.mul_le_mul_left _ hpos'
    unfold maxLen; omega
  have hasz : arr.size = len * i.size := by rw [hout.1, hol]
  refine ⟨_, _, rfl, he, .inr ⟨w.heap.size, len, rfl, Nat.le_refl _, hmx, fun _ => ⟨by simp [Mem.put], _, e, heap_alloc_new w _, hasz⟩⟩, fun i' l' p hl' => ?_, put_ver⟩
  obtain ⟨rfl, rfl, rfl⟩ := look_one hl'
  refine ⟨by simp [Mem.put], .inr ⟨w.heap.size, _, by simp [Mem.put], heap_alloc_new w _, by omega, fun m hm => ?_⟩⟩
  rw [hf' m hm]
  refine ⟨(rowOf_getD hol hm hpos').1, fun q hq => ?_⟩
  rw [(rowOf_getD hol hm hq).2]
  exact he.irep (irep_of_all hout himm (by rw [hol]; exact row_lt hm hq))

/-- What is appended. -/
def srcOf (st : St) : V1 → Option (Nat × (Nat → List C) × Prop)
  | .one (.lst n f) => some (n, f, True)
  | .one .emp => some (0, fun _ => [], True)
  | .one (.own id k sz len) => match look id st.objs with | some (k', .row _ sz' n f) => bif Nat.beq k k' && Nat.beq sz sz' then some (len, f, len ≤ n) else none | _ => none
  | _ => none

/-- The source of an append, in memory. -/
def SrcRep (w : World) (M : Mem) (sz m : Nat) (g : Nat → List C) (v : Value) : Prop :=
  (m = 0 ∧ ∃ a, v = .slice a 0 0) ∨ ∃ (b o c : Nat) (vs : List Value), v = .slice (some ⟨b, o, none⟩) m c ∧ vs.length = m * sz ∧ (∀ j u, vs[j]? = some u → w.cell? ⟨b, o + j, none⟩ = some u) ∧
    ∀ i j, i < m → j < sz → IRep w M.imm ((g i).getD j .unk) (vs.getD (i * sz + j) undef)

theorem div_mod_of {i j sz : Nat} (hj : j < sz) : (i * sz + j) / sz = i ∧ (i * sz + j) % sz = j := by
  refine ⟨?_, mul_add_mod' i sz j hj⟩
  rw [Nat.add_comm, Nat.add_mul_div_right _ _ (by omega), Nat.div_eq_of_lt hj, Nat.zero_add]

theorem srcOf_rep {K : Ctx} {M : Mem} {st : St} {a : Act} {w : World} (h : Sim K M st a w) {x : V1} {v : Value} (hv : V1Rep w M x v) {m sz : Nat} {g : Nat → List C} {ob : Prop} (hs : srcOf st x = some (m, g, ob)) (hob : ob)
    (hsz : ∀ i, i < m → (g i).length = sz) (hpos : 0 < sz) : SrcRep w M sz m g v := by
  have build : ∀ (b o c : Nat) (G : Nat → Nat → Value), (∀ i j, i < m → j < sz → w.cell? ⟨b, o + (i * sz + j), none⟩ = some (G i j)) → (∀ i j, i < m → j < sz → IRep w M.imm ((g i).getD j .unk) (G i j)) → SrcRep w M sz m g (.slice (some ⟨b, o, none⟩) m c) := by
    intro b o c G hc hr
    refine .inr ⟨b, o, c, (List.range (m * sz)).map fun q => G (q / sz) (q % sz), rfl, by simp, fun j u hu => ?_, fun i j hi hj => ?_⟩
    · rw [List.getElem?_map] at hu
      cases hq : (List.range (m * sz))[j]? with
      | none => rw [hq] at hu; cases hu
      | some q =>
        rw [hq] at hu
        cases hu
        have hjlt : j < m * sz := by simpa using (List.getElem?_eq_some_iff.1 hq).1
        have hqj : q = j := by rw [List.getElem?_range hjlt] at hq; cases hq; rfl
        subst hqj
        have h1 : q / sz < m := Nat.div_lt_of_lt_mul (by rw [Nat.mul_comm]; exact hjlt)
        have := hc (q / sz) (q % sz) h1 (Nat.mod_lt _ hpos)
        rw [show q / sz * sz + q % sz = q by rw [Nat.mul_comm]; exact Nat.div_add_mod q sz] at this
        exact this
    · have hlt := row_lt hi hj
      have := hr i j hi hj
      simp only [List.getD_eq_getElem?_getD, List.getElem?_map, List.getElem?_range hlt, Option.map_some, Option.getD_some, (div_mod_of (i := i) hj).1, (div_mod_of (i := i) hj).2] at this ⊢
      exact this
  unfold srcOf at hs
  split at hs
  · rename_i n f
    cases hs
    cases hv with
    | lst0 a f => exact .inl ⟨rfl, a, rfl⟩
    | lst b o n cap sz' f G hn hm hl hb hc hr =>
      by_cases hm0 : m = 0
      · subst hm0
        exact build b o cap G (fun i j hi => by omega) (fun i j hi => by omega)
      · have hss : sz' = sz := by rw [← hl 0 (by omega), hsz 0 (by omega)]
        subst hss
        exact build b o cap G hc hr
  · cases hs
    cases hv with
    | emp a => exact .inl ⟨rfl, a, rfl⟩
  · rename_i id k sz0 len
    split at hs
    · rename_i k' e sz' n f hl
      cases hk : Nat.beq k k' && Nat.beq sz0 sz' with
      | false => rw [hk] at hs; cases hs
      | true =>
        rw [hk] at hs
        cases hs
        simp only [Bool.and_eq_true] at hk
        have hkk := Nat.eq_of_beq_eq_true hk.1
        have hss := Nat.eq_of_beq_eq_true hk.2
        subst hkk hss
        obtain ⟨hver, hrow⟩ := h.objs id k _ hl
        rcases hv with ⟨h0, a, rfl⟩ | ⟨b, cap, rfl, h1, h2, hx⟩
        · subst h0; exact .inl ⟨rfl, a, rfl⟩
        · obtain ⟨hb, arr, e', hh, hsize⟩ := hx hver
          by_cases hm0 : m = 0
          · subst hm0
            exact build b 0 cap (fun _ _ => undef) (fun i j hi => by omega) (fun i j hi => by omega)
          · rcases hrow with ⟨hnone, _⟩ | ⟨b', arr', hb', hh', hns, hcr⟩
            · rw [hb] at hnone; cases hnone
            · have hbb : b' = b := Option.some.inj (hb'.symm.trans hb)
              subst hbb
              rw [hh] at hh'
              cases hh'
              have hss : sz0 = sz := by rw [← (hcr 0 (by omega)).1, hsz 0 (by omega)]
              subst hss
              exact build b' 0 cap (fun i j => arr.getD (i * sz0 + j) undef) (fun i j hi hj => by rw [Nat.zero_add]; exact cell_of_row' hh (by have := row_lt (n := n) (show i < n by omega) hj; omega)) fun i j hi hj => (hcr i (by omega)).2 j hj
    · cases hs
  · cases hs

def appOf : Op → Option (Operand × Operand × TypeId)
  | .call { callee := .builtin .append, args, argTypes } => match args.toList, argTypes.toList with | [s, x], [t, t'] => bif Nat.beq t t' then some (s, x, t) else none | _, _ => none
  | _ => none

theorem appOf_op {op : Op} {s x : Operand} {t : TypeId} (h : appOf op = some (s, x, t)) : op = .call { callee := .builtin .append, args := #[s, x], argTypes := #[t, t] } := by
  unfold appOf at h
  split at h
  · rename_i args ats
    split at h
    · rename_i s' x' t' t'' ha hat
      cases hb : Nat.beq t' t'' with
      | false => rw [hb] at h; cases h
      | true =>
        rw [hb] at h
        cases h
        have := Nat.eq_of_beq_eq_true hb
        subst this
        obtain ⟨args⟩ := args
        obtain ⟨ats⟩ := ats
        simp only at ha hat
        subst ha hat
        rfl
    · cases h
  · cases h

theorem run_append_none {P : Program} {w : World} {t ty e : TypeId} {i : TypeInfo} (ht : P.underlying t = some (.slice e)) (hi : P.info? e = some i) (base src : Option Addr) (n cap : Nat) (c : Nat) (hn : n ≤ cap) :
    (Builtin.append_ #[t, t] ty #[.slice base n cap, .slice src 0 c]).run P w = .ok (.slice base n cap) w := by
  cases base <;> cases src <;> simp [Builtin.append_, run_underlying ht, sizeOf, typeInfo, hi, Builtin.lenOf, Builtin.firstCells, loadCells, loadCellsFrom, hn, storeCells]

theorem getD_append_left {l r : List Value} {j : Nat} (h : j < l.length) : (l ++ r).getD j undef = l.getD j undef := by
  simp only [List.getD_eq_getElem?_getD, List.getElem?_append_left h]
theorem getD_append_right {l r : List Value} {j : Nat} (h : l.length ≤ j) : (l ++ r).getD j undef = r.getD (j - l.length) undef := by
  simp only [List.getD_eq_getElem?_getD, List.getElem?_append_right h]

/-- 'append': onto a slice of the call's own. -/
theorem Step_append {K : Ctx} {st : St} {o : Oper} (s x : Operand) (t e : TypeId) (id k k' len n m : Nat) (i : TypeInfo) (z : Value) (f g f' : Nat → List C) (xv : V1) (ob : Prop) (ho : appOf o.op = some (s, x, t))
    (hs : op1 K.globs st s = some (.one (.own id k i.size len))) (hl : look id st.objs = some (k, .row e i.size n f)) (ht : K.P.underlying t = some (.slice e)) (hi : K.P.info? e = some i) (hz : i.zero = some z) (hzs : Nat.beq z.cells.size i.size = true)
    (hpos : Nat.blt 0 i.size = true) (hby : Nat.blt 0 i.bytes = true) (hx : op1 K.globs st x = some xv) (hsrc : srcOf st xv = some (m, g, ob)) (hob : ob) (hgl : ∀ j, j < m → (g j).length = i.size) (hln : len ≤ n)
    (hroom : (len + m) * i.bytes ≤ 140737488355328) (hf' : ∀ j, j < len + m → f' j = if j < len then f j else g (j - len)) :
    Step K st o [(id, k')] [(id, (k', .row e i.size (len + m) f'))] (.v (.one (.own id k' i.size (len + m)))) := by
  intro M a w h _
  have hpos' : 0 < i.size := by simpa [Nat.blt_eq] using hpos
  have hby' : 0 < i.bytes := by simpa [Nat.blt_eq] using hby
  have hzs' := Nat.eq_of_beq_eq_true hzs
  have hsv := op1_rep h hs
  have hxv := srcOf_rep h (op1_rep h hx) hsrc hob hgl hpos'
  obtain ⟨hver, hrow⟩ := h.objs id k _ hl
  have hsmall : len + m ≤ 140737488355328 := by
    have : (len + m) * 1 ≤ (len + m) * i.bytes := Nat.mul_le_mul_left _ hby'
    omega
  have hml : len + m ≤ maxLen := by unfold maxLen; omega
  have hf'l : ∀ j, j < len → f' j = f j := fun j hj => by rw [hf' j (by omega), if_pos hj]
  have hf'r : ∀ j, j < m → f' (len + j) = g j := fun j hj => by rw [hf' (len + j) (by omega), if_neg (by omega)]; congr 1; omega
  have hexec : ∀ {v w'}, (Builtin.append_ #[t, t] o.type #[a.eval s, a.eval x]).run K.P w = .ok v w' → (execOp a.eval o).run K.P w = .ok (.value v) w' := fun {v w'} hr => by
    unfold execOp
    rw [appOf_op ho]
    simp only [resolve, invoke, builtin, Sem.run_bind, Sem.run_pure, Result.andThen_ok, List.map_toArray, List.map_cons, List.map_nil, hr]
  unfold Oper.wp
  -- nothing is appended: the slice stays
  have stays : m = 0 → (Builtin.append_ #[t, t] o.type #[a.eval s, a.eval x]).run K.P w = .ok (a.eval s) w → o.upon K.P a (fun a' w' => ∃ v M', a' = a.put o.dst v ∧ Ext M w M' w' (hits [(id, (k', .row e i.size (len + m) f'))]) (newIn [(id, k')]) ∧ VRep w' M' (.v (.one (.own id k' i.size (len + m)))) v ∧
      (∀ i_1 k_1 o_1, look i_1 [(id, (k', O.row e i.size (len + m) f'))] = some (k_1, o_1) → ORep w' M' i_1 k_1 o_1) ∧ (∀ i_1, M'.ver i_1 ≠ none → M.ver i_1 ≠ none ∨ hits [(id, (k', .row e i.size (len + m) f'))] i_1)) (fun _ _ _ => False) ((execOp a.eval o).run K.P w) := by
    intro hm0 hr
    subst hm0
    rw [hexec hr]
    have he : Ext M w (M.put id k' (M.blk id)) w (hits [(id, (k', .row e i.size (len + 0) f'))]) (newIn [(id, k')]) :=
      Ext.put h (fun b' hb => ⟨(h.rng id k b' hver hb).2, .inr ⟨k, hver, hb⟩⟩) (fun _ _ _ => rfl) (fun c arr e hc => ⟨arr, hc, rfl⟩) (Nat.le_refl _) rfl rfl rfl
    refine ⟨_, _, rfl, he, ?_, fun i' l' p hl' => ?_, put_ver⟩
    · rcases hsv with h0 | ⟨b, cap, hv, h1, h2, hx'⟩
      · exact .inl h0
      · obtain ⟨hb, arr, e', hh, hsize⟩ := hx' hver
        exact .inr ⟨b, cap, hv, h1, h2, fun _ => ⟨by simp [Mem.put, hb], arr, e', hh, hsize⟩⟩
    · obtain ⟨rfl, rfl, rfl⟩ := look_one hl'
      refine ⟨by simp [Mem.put], ?_⟩
      rcases hrow with ⟨hnone, h0⟩ | ⟨b, arr, hb, hh, hns, hcr⟩
      · exact .inl ⟨by simp [Mem.put, hnone], by omega⟩
      · refine .inr ⟨b, arr, by simp [Mem.put, hb], hh, Nat.le_trans (Nat.mul_le_mul_right _ (by omega)) hns, fun j hj => ?_⟩
        rw [hf'l j (by omega)]
        exact ⟨(hcr j (by omega)).1, fun q hq => he.irep ((hcr j (by omega)).2 q hq)⟩
  -- a new array
  have grows : ∀ (olds news : List Value) (cap : Nat) (w' : World), olds.length = len * i.size → news.length = m * i.size → (∀ p j, p < len → j < i.size → IRep w M.imm ((f p).getD j .unk) (olds.getD (p * i.size + j) undef)) → (∀ p, p < len → (f p).length = i.size) →
      (∀ p j, p < m → j < i.size → IRep w M.imm ((g p).getD j .unk) (news.getD (p * i.size + j) undef)) → len + m ≤ cap → cap ≤ maxLen →
      w' = w.drew.alloc (.cells (olds.toArray ++ news.toArray ++ Builtin.zeroCells z.cells (cap - (len + m))) e) →
      (Builtin.append_ #[t, t] o.type #[a.eval s, a.eval x]).run K.P w = .ok (.slice (some ⟨w.heap.size, 0, none⟩) (len + m) cap) w' → o.upon K.P a (fun a' w' => ∃ v M', a' = a.put o.dst v ∧ Ext M w M' w' (hits [(id, (k', .row e i.size (len + m) f'))]) (newIn [(id, k')]) ∧ VRep w' M' (.v (.one (.own id k' i.size (len + m)))) v ∧
      (∀ i_1 k_1 o_1, look i_1 [(id, (k', O.row e i.size (len + m) f'))] = some (k_1, o_1) → ORep w' M' i_1 k_1 o_1) ∧ (∀ i_1, M'.ver i_1 ≠ none → M.ver i_1 ≠ none ∨ hits [(id, (k', .row e i.size (len + m) f'))] i_1)) (fun _ _ _ => False) ((execOp a.eval o).run K.P w) := by
    intro olds news cap w' hol hnl ho1 ho2 hn1 hcap hcm hw' hr
    rw [hexec hr]
    have hsz : w'.heap.size = w.heap.size + 1 := by rw [hw']; simp
    have hold : ∀ c, c < w.heap.size → w'.heap[c]? = w.heap[c]? := fun c hc => by rw [hw', heap_alloc_old _ _ c (by simpa using hc)]; rfl
    have he : Ext M w (M.put id k' (some w.heap.size)) w' (hits [(id, (k', .row e i.size (len + m) f'))]) (newIn [(id, k')]) :=
      Ext.put h (fun b' hb => by cases hb; exact ⟨by omega, .inl (Nat.le_refl _)⟩) (fun c hc _ => hold c hc) (fun c arr e hc => ⟨arr, by rw [hold c (Array.getElem?_eq_some_iff.1 hc).1]; exact hc, rfl⟩) (by omega) (by rw [hw']; rfl) (by rw [hw']; rfl) (by rw [hw']; rfl)
    have hnew : w'.heap[w.heap.size]? = some (.cells (olds.toArray ++ news.toArray ++ Builtin.zeroCells z.cells (cap - (len + m))) e (0, 0)) := by rw [hw']; exact heap_alloc_new w.drew _
    have hasz : (olds.toArray ++ news.toArray ++ Builtin.zeroCells z.cells (cap - (len + m))).size = cap * i.size := by
      simp only [Array.size_append, List.size_toArray, size_zeroCells, hzs', hol, hnl, ← Nat.add_mul]
      congr 1
      omega
    refine ⟨_, _, rfl, he, .inr ⟨w.heap.size, cap, rfl, hcap, hcm, fun _ => ⟨by simp [Mem.put], _, e, hnew, hasz⟩⟩, fun i' l' p hl' => ?_, put_ver⟩
    obtain ⟨rfl, rfl, rfl⟩ := look_one hl'
    refine ⟨by simp [Mem.put], .inr ⟨w.heap.size, _, by simp [Mem.put], hnew, by rw [hasz]; exact Nat.mul_le_mul_right _ hcap, fun p hp => ?_⟩⟩
    have hget : ∀ q, q < i.size → (olds.toArray ++ news.toArray ++ Builtin.zeroCells z.cells (cap - (len + m))).getD (p * i.size + q) undef = (olds ++ news).getD (p * i.size + q) undef := fun q hq => by
      have := row_lt hp hq
      rw [Nat.add_mul] at this
      rw [getD_arr]
      simp only [Array.toList_append, List.append_assoc]
      rw [← List.append_assoc, getD_append_left (by simp; omega)]
    by_cases hpl : p < len
    · rw [hf'l p hpl]
      refine ⟨ho2 p hpl, fun q hq => ?_⟩
      have := row_lt hpl hq
      rw [hget q hq, getD_append_left (by omega)]
      exact he.irep (ho1 p q hpl hq)
    · obtain ⟨p', rfl⟩ : ∃ p', p = len + p' := ⟨p - len, by omega⟩
      rw [hf'r p' (by omega)]
      refine ⟨hgl p' (by omega), fun q hq => ?_⟩
      rw [hget q hq, Nat.add_mul, getD_append_right (by omega), hol, show len * i.size + p' * i.size + q - len * i.size = p' * i.size + q by omega]
      exact he.irep (hn1 p' q (by omega) hq)
  rcases hxv with ⟨hm0, ax, hax⟩ | ⟨b2, o2, c2, vs, hxe, hvl, hvc, hvr⟩
  · subst hm0
    refine stays rfl ?_
    rw [hax]
    rcases hsv with ⟨h0, as, has⟩ | ⟨b, cap, hv, h1, h2, hx'⟩
    · rw [has]; exact run_append_none ht hi _ _ _ _ _ (Nat.le_refl _)
    · rw [hv]; exact run_append_none ht hi _ _ _ _ _ h1
  · by_cases hm0 : m = 0
    · refine stays hm0 ?_
      subst hm0
      rw [hxe]
      rcases hsv with ⟨h0, as, has⟩ | ⟨b, cap, hv, h1, h2, hx'⟩
      · rw [has]; exact run_append_none ht hi _ _ _ _ _ (Nat.le_refl _)
      · rw [hv]; exact run_append_none ht hi _ _ _ _ _ h1
    · rcases hsv with ⟨h0, as, has⟩ | ⟨b, cap, hv, h1, h2, hx'⟩
      · subst h0
        have hr : (Builtin.append_ #[t, t] o.type #[a.eval s, a.eval x]).run K.P w = .ok (.slice (some ⟨w.heap.size, 0, none⟩) (0 + m) (grownCap w (0 + m) 0 e)) (w.drew.alloc (.cells (([] : List Value).toArray ++ vs.toArray ++ Builtin.zeroCells z.cells (grownCap w (0 + m) 0 e - (0 + m))) e)) := by
          rw [has, hxe]
          cases as with
          | none =>
            have := run_append_nil (P := K.P) w t o.type e i z ht hi hz ⟨b2, o2, none⟩ m c2 vs hvl (fun j u hu => by rw [Addr.add_lit]; exact hvc j u hu) (by omega) (by omega) (by simp only [Nat.zero_add] at hroom; omega)
            simpa using this
          | some ad =>
            have := run_append_grow (P := K.P) w t o.type e i z ht hi hz ad 0 0 [] (by simp) (fun j v hj => by cases hj) ⟨b2, o2, none⟩ m c2 vs hvl (fun j u hu => by rw [Addr.add_lit]; exact hvc j u hu) (by omega) (by omega) (growslice_fits (by omega) hroom)
            exact this
        exact grows [] vs _ _ (by simp) hvl (fun p j hp => by omega) (fun p hp => by omega) hvr (grownCap_ge w _ _ _) (grownCap_le_maxLen w _ _ _ hml) rfl hr
      · obtain ⟨hb, arr, e', hh, hsize⟩ := hx' hver
        have hee : e' = e := by
          rcases hrow with ⟨hnone, _⟩ | ⟨b', arr', hb', hh', _⟩
          · rw [hb] at hnone; cases hnone
          · have hbb : b' = b := Option.some.inj (hb'.symm.trans hb)
            subst hbb
            rw [hh] at hh'
            cases hh'
            rfl
        subst hee
        have hcr : ∀ p, p < len → (f p).length = i.size ∧ ∀ j, j < i.size → IRep w M.imm ((f p).getD j .unk) (arr.getD (p * i.size + j) undef) := by
          intro p hp
          rcases hrow with ⟨hnone, _⟩ | ⟨b', arr', hb', hh', _, hcr⟩
          · rw [hb] at hnone; cases hnone
          · have hbb : b' = b := Option.some.inj (hb'.symm.trans hb)
            subst hbb
            rw [hh] at hh'
            cases hh'
            exact hcr p (by omega)
        have hlc : len * i.size ≤ arr.size := by rw [hsize]; exact Nat.mul_le_mul_right _ h1
        by_cases hr1 : len + m ≤ cap
        · have hfit : len * i.size + vs.length ≤ arr.size := by rw [hvl, hsize, ← Nat.add_mul]; exact Nat.mul_le_mul_right _ hr1
          have h1c : ∀ u ∈ vs, u.oneCell' = true := by
            intro u hu
            obtain ⟨q, hq, rfl⟩ := List.mem_iff_getElem.1 hu
            have hq' : q < m * i.size := by omega
            have hd : q / i.size < m := Nat.div_lt_of_lt_mul (by rw [Nat.mul_comm]; exact hq')
            have := (hvr (q / i.size) (q % i.size) hd (Nat.mod_lt _ hpos')).cell
            rw [show q / i.size * i.size + q % i.size = q by rw [Nat.mul_comm]; exact Nat.div_add_mod q i.size] at this
            simpa [List.getD_eq_getElem?_getD, List.getElem?_eq_getElem hq] using this
          have hr := run_append_room (P := K.P) w t o.type e' i ht hi b len cap arr hh ⟨b2, o2, none⟩ m c2 vs hvl (fun j u hu => by rw [Addr.add_lit]; exact hvc j u hu) h1c hr1 hfit
          rw [← hv, ← hxe] at hr
          rw [hexec hr]
          have hs' : (arr.toList.take (len * i.size) ++ vs ++ arr.toList.drop (len * i.size + vs.length)).toArray.size = arr.size := by simp; omega
          have hblt : b < w.heap.size := (h.rng id k b hver hb).2
          have hnew : (w.setRow b (arr.toList.take (len * i.size) ++ vs ++ arr.toList.drop (len * i.size + vs.length)).toArray).heap[b]? = some (.cells (arr.toList.take (len * i.size) ++ vs ++ arr.toList.drop (len * i.size + vs.length)).toArray e' (0, 0)) := setRow_heap w b arr _ e' (0, 0) hh
          have hcell : ∀ q, (arr.toList.take (len * i.size) ++ vs ++ arr.toList.drop (len * i.size + vs.length)).toArray.getD q undef = if len * i.size ≤ q ∧ q < len * i.size + vs.length then vs.getD (q - len * i.size) undef else arr.getD q undef := fun q => by
            rw [getD_arr, getD_take_drop _ _ _ _ _ (by simpa using hfit), ← getD_arr (arr := arr)]
          have he : Ext M w (M.put id k' (some b)) (w.setRow b (arr.toList.take (len * i.size) ++ vs ++ arr.toList.drop (len * i.size + vs.length)).toArray) (hits [(id, (k', .row e' i.size (len + m) f'))]) (newIn [(id, k')]) :=
            Ext.put h (fun b' hb' => by cases hb'; exact ⟨by rw [size_setRow]; exact hblt, .inr ⟨k, hver, hb⟩⟩) (fun c hc hw => setRow_other w b c _ fun hcb => hw k hver (by rw [hb, hcb]))
              (fun c arr0 e0 hc => by
                by_cases hcb : c = b
                · subst hcb
                  rw [hh] at hc
                  cases hc
                  exact ⟨_, hnew, hs'⟩
                · exact ⟨arr0, by rw [setRow_other w b c _ hcb]; exact hc, rfl⟩) (by rw [size_setRow]; exact Nat.le_refl _) rfl rfl rfl
          generalize (arr.toList.take (len * i.size) ++ vs ++ arr.toList.drop (len * i.size + vs.length)).toArray = arr2 at he hnew hcell hs'
          refine ⟨_, _, rfl, he, .inr ⟨b, cap, rfl, hr1, h2, fun _ => ⟨by simp [Mem.put], arr2, e', hnew, by omega⟩⟩, fun i' l' p hl' => ?_, put_ver⟩
          obtain ⟨rfl, rfl, rfl⟩ := look_one hl'
          refine ⟨by simp [Mem.put], .inr ⟨b, arr2, by simp [Mem.put], hnew, by rw [hs', hsize]; exact Nat.mul_le_mul_right _ hr1, fun p hp => ?_⟩⟩
          by_cases hpl : p < len
          · rw [hf'l p hpl]
            refine ⟨(hcr p hpl).1, fun q hq => ?_⟩
            have := row_lt hpl hq
            rw [hcell, if_neg (by omega)]
            exact he.irep ((hcr p hpl).2 q hq)
          · obtain ⟨p', rfl⟩ : ∃ p', p = len + p' := ⟨p - len, by omega⟩
            rw [hf'r p' (by omega)]
            refine ⟨hgl p' (by omega), fun q hq => ?_⟩
            have := row_lt (show p' < m by omega) hq
            rw [hcell, Nat.add_mul, if_pos (by omega), show len * i.size + p' * i.size + q - len * i.size = p' * i.size + q by omega]
            exact he.irep (hvr p' q (by omega) hq)
        · have hr := run_append_grow (P := K.P) w t o.type e' i z ht hi hz ⟨b, 0, none⟩ len cap (arr.toList.take (len * i.size)) (by simp; omega) (fun j u hu => by
              rw [Addr.add_lit, Nat.zero_add, cell_of_row w b j arr e' (0, 0) hh]
              rw [List.getElem?_take] at hu
              split at hu
              · simpa using hu
              · cases hu) ⟨b2, o2, none⟩ m c2 vs hvl (fun j u hu => by rw [Addr.add_lit]; exact hvc j u hu) (by omega) (by omega) (growslice_fits (by omega) hroom)
          rw [← hv, ← hxe] at hr
          refine grows (arr.toList.take (len * i.size)) vs _ _ (by simp; omega) hvl (fun p j hp hj => ?_) (fun p hp => (hcr p hp).1) hvr (grownCap_ge w _ _ _) (grownCap_le_maxLen w _ _ _ hml) rfl hr
          have hlt := row_lt hp hj
          have := (hcr p hp).2 j hj
          rw [getD_arr] at this
          simp only [List.getD_eq_getElem?_getD, List.getElem?_take, hlt, if_true] at this ⊢
          exact this

/-- 'append' onto an empty slice without room. -/
theorem Step_append0 {K : Ctx} {st : St} {o : Oper} (s x : Operand) (t e : TypeId) (id k' m : Nat) (i : TypeInfo) (z : Value) (g : Nat → List C) (xv : V1) (ob : Prop) (ho : appOf o.op = some (s, x, t))
    (hs : op1 K.globs st s = some (.one .emp)) (ht : K.P.underlying t = some (.slice e)) (hi : K.P.info? e = some i) (hz : i.zero = some z) (hzs : Nat.beq z.cells.size i.size = true)
    (hpos : Nat.blt 0 i.size = true) (hby : Nat.blt 0 i.bytes = true) (hx : op1 K.globs st x = some xv) (hsrc : srcOf st xv = some (m, g, ob)) (hob : ob) (hgl : ∀ j, j < m → (g j).length = i.size)
    (hroom : m * i.bytes ≤ 140737488355328) :
    Step K st o [(id, k')] [(id, (k', .row e i.size m g))] (.v (.one (.own id k' i.size m))) := by
  intro M a w h _
  have hpos' : 0 < i.size := by simpa [Nat.blt_eq] using hpos
  have hby' : 0 < i.bytes := by simpa [Nat.blt_eq] using hby
  have hzs' := Nat.eq_of_beq_eq_true hzs
  have hsv : IRep w M.imm .emp (a.eval s) := op1_rep h hs
  obtain ⟨as, has⟩ : ∃ as, a.eval s = .slice as 0 0 := by
    generalize a.eval s = u at hsv
    cases hsv; exact ⟨_, rfl⟩
  have hxv := srcOf_rep h (op1_rep h hx) hsrc hob hgl hpos'
  have hsmall : m ≤ 140737488355328 := by
    have : m * 1 ≤ m * i.bytes := Nat.mul_le_mul_left _ hby'
    omega
  have hml : m ≤ maxLen := by unfold maxLen; omega
  have hexec : ∀ {v w'}, (Builtin.append_ #[t, t] o.type #[a.eval s, a.eval x]).run K.P w = .ok v w' → (execOp a.eval o).run K.P w = .ok (.value v) w' := fun {v w'} hr => by
    unfold execOp
    rw [appOf_op ho]
    simp only [resolve, invoke, builtin, Sem.run_bind, Sem.run_pure, Result.andThen_ok, List.map_toArray, List.map_cons, List.map_nil, hr]
  unfold Oper.wp
  have stays : m = 0 → (Builtin.append_ #[t, t] o.type #[a.eval s, a.eval x]).run K.P w = .ok (.slice as 0 0) w → o.upon K.P a (fun a' w' => ∃ v M', a' = a.put o.dst v ∧ Ext M w M' w' (hits [(id, (k', .row e i.size m g))]) (newIn [(id, k')]) ∧ VRep w' M' (.v (.one (.own id k' i.size m))) v ∧
      (∀ i_1 k_1 o_1, look i_1 [(id, (k', O.row e i.size m g))] = some (k_1, o_1) → ORep w' M' i_1 k_1 o_1) ∧ (∀ i_1, M'.ver i_1 ≠ none → M.ver i_1 ≠ none ∨ hits [(id, (k', .row e i.size m g))] i_1)) (fun _ _ _ => False) ((execOp a.eval o).run K.P w) := by
    intro hm0 hr
    subst hm0
    rw [hexec hr]
    have he : Ext M w (M.put id k' none) w (hits [(id, (k', .row e i.size 0 g))]) (newIn [(id, k')]) :=
      Ext.put h (fun b' hb => by cases hb) (fun _ _ _ => rfl) (fun c arr e hc => ⟨arr, hc, rfl⟩) (Nat.le_refl _) rfl rfl rfl
    refine ⟨_, _, rfl, he, .inl ⟨rfl, _, rfl⟩, fun i' l' p hl' => ?_, put_ver⟩
    obtain ⟨rfl, rfl, rfl⟩ := look_one hl'
    exact ⟨by simp [Mem.put], .inl ⟨by simp [Mem.put], rfl⟩⟩
  rcases hxv with ⟨hm0, ax, hax⟩ | ⟨b2, o2, c2, vs, hxe, hvl, hvc, hvr⟩
  · refine stays hm0 ?_
    rw [hax, has]; exact run_append_none ht hi _ _ _ _ _ (Nat.le_refl _)
  · by_cases hm0 : m = 0
    · refine stays hm0 ?_
      rw [hxe, has, hm0]; exact run_append_none ht hi _ _ _ _ _ (Nat.le_refl _)
    · have hr : (Builtin.append_ #[t, t] o.type #[a.eval s, a.eval x]).run K.P w = .ok (.slice (some ⟨w.heap.size, 0, none⟩) m (grownCap w m 0 e)) (w.drew.alloc (.cells (vs.toArray ++ Builtin.zeroCells z.cells (grownCap w m 0 e - m)) e)) := by
        rw [has, hxe]
        cases as with
        | none => exact run_append_nil (P := K.P) w t o.type e i z ht hi hz ⟨b2, o2, none⟩ m c2 vs hvl (fun j u hu => by rw [Addr.add_lit]; exact hvc j u hu) (by omega) (by omega) (by omega)
        | some ad =>
          have := run_append_grow (P := K.P) w t o.type e i z ht hi hz ad 0 0 [] (by simp) (fun j v hj => by cases hj) ⟨b2, o2, none⟩ m c2 vs hvl (fun j u hu => by rw [Addr.add_lit]; exact hvc j u hu) (by omega) (by omega) (growslice_fits (by omega) (by simpa using hroom))
          simpa using this
      rw [hexec hr]
      have hold : ∀ c, c < w.heap.size → (w.drew.alloc (.cells (vs.toArray ++ Builtin.zeroCells z.cells (grownCap w m 0 e - m)) e)).heap[c]? = w.heap[c]? := fun c hc => by rw [heap_alloc_old _ _ c (by simpa using hc)]; rfl
      have he : Ext M w (M.put id k' (some w.heap.size)) (w.drew.alloc (.cells (vs.toArray ++ Builtin.zeroCells z.cells (grownCap w m 0 e - m)) e)) (hits [(id, (k', .row e i.size m g))]) (newIn [(id, k')]) :=
        Ext.put h (fun b' hb => by cases hb; exact ⟨by simp, .inl (Nat.le_refl _)⟩) (fun c hc _ => hold c hc) (fun c arr e hc => ⟨arr, by rw [hold c (Array.getElem?_eq_some_iff.1 hc).1]; exact hc, rfl⟩) (by simp) rfl rfl rfl
      have hge := grownCap_ge w m 0 e
      have hasz : (vs.toArray ++ Builtin.zeroCells z.cells (grownCap w m 0 e - m)).size = grownCap w m 0 e * i.size := by
        simp only [Array.size_append, List.size_toArray, size_zeroCells, hzs', hvl, ← Nat.add_mul]
        congr 1
        omega
      have hnew : (w.drew.alloc (.cells (vs.toArray ++ Builtin.zeroCells z.cells (grownCap w m 0 e - m)) e)).heap[w.heap.size]? = some (.cells (vs.toArray ++ Builtin.zeroCells z.cells (grownCap w m 0 e - m)) e (0, 0)) := heap_alloc_new w.drew _
      refine ⟨_, _, rfl, he, .inr ⟨w.heap.size, _, rfl, hge, grownCap_le_maxLen w _ _ _ hml, fun _ => ⟨by simp [Mem.put], _, e, hnew, hasz⟩⟩, fun i' l' p hl' => ?_, put_ver⟩
      obtain ⟨rfl, rfl, rfl⟩ := look_one hl'
      refine ⟨by simp [Mem.put], .inr ⟨w.heap.size, _, by simp [Mem.put], hnew, by rw [hasz]; exact Nat.mul_le_mul_right _ hge, fun p hp => ⟨hgl p hp, fun q hq => ?_⟩⟩⟩
      have := row_lt hp hq
      rw [getD_arr]
      simp only [Array.toList_append]
      rw [getD_append_left (by omega)]
      exact he.irep (hvr p q hp hq)

end Go.SL
