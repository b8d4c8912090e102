/- Slices that the call makes: make, literals, append. -/
import Derived.Test.YtjobdnkaonbgnaaYa2
import Derived.Test.YtjobdnkaonbgnaaYa1
set_option linter.unusedVariables false
set_option linter.unusedSimpArgs false
namespace Go.SL
open Go.RowKit
theorem qBw (z : Array Value) (n j : Nat) (hj : j < n) (hz : 0 < z.size) : (madeCells z n).getD j undef = z.getD (j % z.size) undef := by
 have h1 : j % z.size < z.size := Nat.mod_lt _ hz
 simp [madeCells, hj, h1]
theorem AA (m sz q : Nat) (hq : q < sz) : (m * sz + q) % sz = q := by
 rw [Nat.add_comm, Nat.add_mul_mod_self_right, Nat.mod_eq_of_lt hq]
theorem yW {m n sz q : Nat} (hm : m < n) (hq : q < sz) : m * sz + q < n * sz := by
 have : (m + 1) * sz ≤ n * sz := Nat.mul_le_mul_right _ hm
 rw [Nat.add_mul, Nat.one_mul] at this
 omega
theorem IP {w : World} {M : Mem} {cs : List C} {vs : Array Value} (h : zF w M cs vs) (hi : cs.all C.isImm = true) {j : Nat} (hj : j < cs.length) : IRep w M.imm (cs.getD j .unk) (vs.getD j undef) := by
 have h1 := h.2 j hj
 have h2 : (cs.getD j .unk).isImm = true := List.all_eq_true.1 hi _ (zT hj)
 generalize cs.getD j .unk = c at h1 h2
 cases c <;> first | exact h1 | cases h2
/-- 'make([]T, n)'. -/
theorem qD1 {K : Ctx} {st : St} {o : Oper} (t e : TypeId) (l c : Operand) (id k : Nat) (kl kc : IntKind) (z : Int) (i : TypeInfo) (cs : List C) (ho : o.op = .makeSlice t l c)
  (hl : op1 K.globs st l = some (.one (.val (.int kl z)))) (hc : op1 K.globs st c = some (.one (.val (.int kc z)))) (ht : K.P.underlying t = some (.slice e)) (hi : K.P.info? e = some i)
  (hz : YY K.P e = some cs) (hcs : Nat.beq cs.length i.size = true) (himm : cs.all C.isImm = true) (hpos : Nat.blt 0 i.size = true) (h0 : 0 ≤ z) (hb : (i.bytes : Int) * z ≤ 140737488355328) (h63 : z ≤ 9223372036854775807) (f' : Nat → List C) (hf' : ∀ m, m < z.toNat → f' m = cs) :
  Step K st o [(id, k)] [(id, (k, .row e i.size z.toNat f'))] (.v (.one (.own id k i.size z.toNat))) := by
 refine wR (by rw [ho]; rfl) ?_
 intro M a w h _
 obtain ⟨zz, hzz⟩ : ∃ zz, i.zero = some zz := by
  unfold YY at hz
  rw [hi] at hz
  simp only at hz
  split at hz
  ·rename_i x hx; exact ⟨x, hx⟩
  ·cases hz
 have hzc : zF w M cs zz.cells := by
  obtain ⟨z', hr, hcr⟩ := RC hz w M
  have : (zeroValue e).run K.P w = .ok zz w := by simp [zeroValue, typeInfo, hi, hzz]
  rw [this] at hr
  cases hr
  exact hcr
 have hlen : zz.cells.size = i.size := by rw [hzc.1]; exact Nat.eq_of_beq_eq_true hcs
 have hpos' : 0 < i.size := by simpa [Nat.blt_eq] using hpos
 have hrun := run_make (P := K.P) w t e i zz ht hi hzz kl kc z z h0 (Int.le_refl _) (by omega) h63
 have he := Ext.alloc h id k (.row e i.size z.toNat f') (.cells (madeCells zz.cells (z.toNat * i.size)) e)
 unfold Oper.wp
 have hex : (execOp a.eval o).run K.P w = .ok (.value (.slice (some ⟨w.heap.size, 0, none⟩) z.toNat z.toNat)) (w.alloc (.cells (madeCells zz.cells (z.toNat * i.size)) e)) := by
  unfold execOp
  rw [ho]
  simp only [v1_val (op1_rep h hl), v1_val (op1_rep h hc), Sem.run_bind, hrun, Result.andThen_ok, Sem.run_pure]
 rw [hex]
 have hmx : z.toNat ≤ maxLen := by unfold maxLen; omega
 refine ⟨_, _, rfl, he, .inr ⟨w.heap.size, z.toNat, rfl, Nat.le_refl _, hmx, fun _ => ⟨by simp [Mem.put], _, e, heap_alloc_new w _, by simp [madeCells]⟩⟩, fun i' l' p hl' => ?_, WG⟩
 obtain ⟨rfl, rfl, rfl⟩ := zS hl'
 refine ⟨by simp [Mem.put], .inr ⟨w.heap.size, _, by simp [Mem.put], heap_alloc_new w _, by simp [madeCells], fun m hm => ⟨by rw [hf' m hm]; exact Nat.eq_of_beq_eq_true hcs, fun q hq => ?_⟩⟩⟩
 rw [hf' m hm]
 rw [qBw _ _ _ (yW hm hq) (by omega), hlen, AA _ _ _ hq]
 exact he.irep (IP hzc himm (by rw [← hzc.1, hlen]; exact hq))
def LC (out : List C) (sz : Nat) (i : Nat) : List C := (out.drop (i * sz)).take sz
theorem qAx {out : List C} {sz n : Nat} (hl : out.length = n * sz) {m q : Nat} (hm : m < n) (hq : q < sz) : (LC out sz m).length = sz ∧ (LC out sz m).getD q .unk = out.getD (m * sz + q) .unk := by
 have h1 : (m + 1) * sz ≤ n * sz := Nat.mul_le_mul_right _ hm
 rw [Nat.add_mul, Nat.one_mul] at h1
 unfold LC
 refine ⟨by simp; omega, ?_⟩
 simp only [List.getD_eq_getElem?_getD, List.getElem?_take, hq, if_true, List.getElem?_drop]
/-- A slice literal. -/
theorem qEq {K : Ctx} {st : St} {o : Oper} (t e : TypeId) (len : Nat) (parts : Array (Nat × Operand)) (id k : Nat) (i : TypeInfo) (cs : List C) (ps : List (Nat × V1)) (out : List C) (ho : o.op = .buildSlice t len parts)
  (hps : ME K.globs st parts.toList = some ps) (ht : K.P.underlying t = some (.slice e)) (hi : K.P.info? e = some i)
  (hz : YY K.P e = some cs) (hcs : Nat.beq cs.length i.size = true) (hpos : Nat.blt 0 i.size = true) (hsmall : Nat.ble (len * i.size) 16777216 = true)
  (hfill : BG (fun j => some (j * i.size, i.size)) ((List.range (len * i.size)).map fun j => cs.getD (j % i.size) .unk) ps = some out) (himm : out.all C.isImm = true) (holen : Nat.beq out.length (len * i.size) = true) (f' : Nat → List C) (hf' : ∀ m, m < len → f' m = LC out i.size m) :
  Step K st o [(id, k)] [(id, (k, .row e i.size len f'))] (.v (.one (.own id k i.size len))) := by
 refine wR (by rw [ho]; rfl) ?_
 intro M a w h _
 obtain ⟨zz, hzz⟩ : ∃ zz, i.zero = some zz := by
  unfold YY at hz
  rw [hi] at hz
  simp only at hz
  split at hz
  ·rename_i x hx; exact ⟨x, hx⟩
  ·cases hz
 have hzrun : (zeroValue e).run K.P w = .ok zz w := by simp [zeroValue, typeInfo, hi, hzz]
 have hzc : zF w M cs zz.cells := by
  obtain ⟨z', hr, hcr⟩ := RC hz w M
  rw [hzrun] at hr
  cases hr
  exact hcr
 have hlen : zz.cells.size = i.size := by rw [hzc.1]; exact Nat.eq_of_beq_eq_true hcs
 have hpos' : 0 < i.size := by simpa [Nat.blt_eq] using hpos
 have hbase : zF w M ((List.range (len * i.size)).map fun j => cs.getD (j % i.size) .unk) (madeCells zz.cells (len * i.size)) := by
  refine ⟨by simp [madeCells], fun j hj => ?_⟩
  have hj' : j < len * i.size := by simpa using hj
  rw [qBw _ _ _ hj' (by omega), hlen]
  have hm : j % i.size < cs.length := by rw [← hzc.1, hlen]; exact Nat.mod_lt _ hpos'
  have := hzc.2 (j % i.size) hm
  simpa [List.getD_eq_getElem?_getD, List.getElem?_map, hj'] using this
 obtain ⟨arr, hfr, hout⟩ := FL ps (parts.toList.map fun p : Nat × Operand => (p.1, a.eval p.2)) _ _ out hbase (MT h hps) hfill
 have hsm := Nat.le_of_ble_eq_true hsmall
 have hol := Nat.eq_of_beq_eq_true holen
 have he := Ext.alloc h id k (.row e i.size len f') (.cells arr e)
 unfold Oper.wp
 have hex : (execOp a.eval o).run K.P w = .ok (.value (.slice (some ⟨w.heap.size, 0, none⟩) len len)) (w.alloc (.cells arr e)) := by
  unfold execOp
  rw [ho]
  have hparts : (parts.map fun (i, x) => (i, a.eval x)).toList = parts.toList.map fun p : Nat × Operand => (p.1, a.eval p.2) := by simp
  by_cases hz0 : len * i.size = 0
  ·have hm0 : madeCells zz.cells (len * i.size) = #[] := by rw [hz0]; simp [madeCells]
   rw [hm0] at hfr
   simp only [Instr.buildSlice, Sem.run_bind, run_underlying ht, Result.andThen_ok, qZ hi, hz0, Nat.not_lt_zero, if_false, if_true, Sem.run_pure, hparts, Array.range_zero', Array.map_empty, hfr, newRow, run_newObj, gt_iff_lt]
   rfl
  ·have hng : ¬ (len * i.size > 2 ^ 24) := by omega
   simp only [Instr.buildSlice, Sem.run_bind, run_underlying ht, Result.andThen_ok, qZ hi, hng, hz0, if_false, Sem.run_pure, hzrun, hparts]
   have : (Array.map (fun x => zz.cells[x % zz.cells.size]!) (Array.range (len * i.size))) = madeCells zz.cells (len * i.size) := rfl
   rw [this, hfr]
   simp only [newRow, Sem.run_bind, run_newObj, Result.andThen_ok, Sem.run_pure]
   rfl
 rw [hex]
 have hmx : len ≤ maxLen := by
  have : len * 1 ≤ len * i.size := Nat.mul_le_mul_left _ hpos'
  unfold maxLen; omega
 have hasz : arr.size = len * i.size := by rw [hout.1, hol]
 refine ⟨_, _, rfl, he, .inr ⟨w.heap.size, len, rfl, Nat.le_refl _, hmx, fun _ => ⟨by simp [Mem.put], _, e, heap_alloc_new w _, hasz⟩⟩, fun i' l' p hl' => ?_, WG⟩
 obtain ⟨rfl, rfl, rfl⟩ := zS hl'
 refine ⟨by simp [Mem.put], .inr ⟨w.heap.size, _, by simp [Mem.put], heap_alloc_new w _, by omega, fun m hm => ?_⟩⟩
 rw [hf' m hm]
 refine ⟨(qAx hol hm hpos').1, fun q hq => ?_⟩
 rw [(qAx hol hm hq).2]
 exact he.irep (IP hout himm (by rw [hol]; exact yW hm hq))
/-- What is appended. -/
def AH (st : St) : V1 → Option (Nat × (Nat → List C) × Prop)
 | .one (.lst n f) => some (n, f, True)
 | .one .emp => some (0, fun _ => [], True)
 | .one (.own id k sz len) => match look id st.objs with | some (k', .row _ sz' n f) => bif Nat.beq k k' && Nat.beq sz sz' then some (len, f, len ≤ n) else none | _ => none
 | .one (.sub id k sz off len) => match look id st.objs with | some (k', .row _ sz' n f) => bif Nat.beq k k' && Nat.beq sz sz' then some (len, fun j => f (off + j), off + len ≤ n) else none | _ => none
 | _ => none
/-- The source of an append, in memory. -/
def qDX (w : World) (M : Mem) (sz m : Nat) (g : Nat → List C) (v : Value) : Prop :=
 (m = 0 ∧ ∃ a, v = .slice a 0 0) ∨ ∃ (b o c : Nat) (vs : List Value), v = .slice (some ⟨b, o, none⟩) m c ∧ vs.length = m * sz ∧ (∀ j u, vs[j]? = some u → w.cell? ⟨b, o + j, none⟩ = some u) ∧
  ∀ i j, i < m → j < sz → IRep w M.imm ((g i).getD j .unk) (vs.getD (i * sz + j) undef)
theorem qAy {i j sz : Nat} (hj : j < sz) : (i * sz + j) / sz = i ∧ (i * sz + j) % sz = j := by
 refine ⟨?_, AA i sz j hj⟩
 rw [Nat.add_comm, Nat.add_mul_div_right _ _ (by omega), Nat.div_eq_of_lt hj, Nat.zero_add]
theorem qBp {K : Ctx} {M : Mem} {st : St} {a : Act} {w : World} (h : Sim K M st a w) {x : V1} {v : Value} (hv : qP w M x v) {m sz : Nat} {g : Nat → List C} {ob : Prop} (hs : AH st x = some (m, g, ob)) (hob : ob)
  (hsz : ∀ i, i < m → (g i).length = sz) (hpos : 0 < sz) : qDX w M sz m g v := by
 have build : ∀ (b o c : Nat) (G : Nat → Nat → Value), (∀ i j, i < m → j < sz → w.cell? ⟨b, o + (i * sz + j), none⟩ = some (G i j)) → (∀ i j, i < m → j < sz → IRep w M.imm ((g i).getD j .unk) (G i j)) → qDX w M sz m g (.slice (some ⟨b, o, none⟩) m c) := by
  intro b o c G hc hr
  refine .inr ⟨b, o, c, (List.range (m * sz)).map fun q => G (q / sz) (q % sz), rfl, by simp, fun j u hu => ?_, fun i j hi hj => ?_⟩
  ·rw [List.getElem?_map] at hu
   cases hq : (List.range (m * sz))[j]? with
   | none => rw [hq] at hu; cases hu
   | some q =>
    rw [hq] at hu
    cases hu
    have hjlt : j < m * sz := by simpa using (List.getElem?_eq_some_iff.1 hq).1
    have hqj : q = j := by rw [List.getElem?_range hjlt] at hq; cases hq; rfl
    subst hqj
    have h1 : q / sz < m := Nat.div_lt_of_lt_mul (by rw [Nat.mul_comm]; exact hjlt)
    have := hc (q / sz) (q % sz) h1 (Nat.mod_lt _ hpos)
    rw [show q / sz * sz + q % sz = q by rw [Nat.mul_comm]; exact Nat.div_add_mod q sz] at this
    exact this
  ·have hlt := yW hi hj
   have := hr i j hi hj
   simp only [List.getD_eq_getElem?_getD, List.getElem?_map, List.getElem?_range hlt, Option.map_some, Option.getD_some, (qAy (i := i) hj).1, (qAy (i := i) hj).2] at this ⊢
   exact this
 unfold AH at hs
 split at hs
 ·rename_i n f
  cases hs
  cases hv with
  | lst0 a f => exact .inl ⟨rfl, a, rfl⟩
  | lst b o n cap sz' f G hn hm hl hb hc hr =>
   by_cases hm0 : m = 0
   ·subst hm0
    exact build b o cap G (fun i j hi => by omega) (fun i j hi => by omega)
   ·have hss : sz' = sz := by rw [← hl 0 (by omega), hsz 0 (by omega)]
    subst hss
    exact build b o cap G hc hr
 ·cases hs
  cases hv with
  | emp a => exact .inl ⟨rfl, a, rfl⟩
 ·rename_i id k sz0 len
  split at hs
  ·rename_i k' e sz' n f hl
   cases hk : Nat.beq k k' && Nat.beq sz0 sz' with
   | false => rw [hk] at hs; cases hs
   | true =>
    rw [hk] at hs
    cases hs
    simp only [Bool.and_eq_true] at hk
    have hkk := Nat.eq_of_beq_eq_true hk.1
    have hss := Nat.eq_of_beq_eq_true hk.2
    subst hkk hss
    obtain ⟨hver, hrow⟩ := h.objs id k _ hl
    rcases hv with ⟨h0, a, rfl⟩ | ⟨b, cap, rfl, h1, h2, hx⟩
    ·subst h0; exact .inl ⟨rfl, a, rfl⟩
    ·obtain ⟨hb, arr, e', hh, hsize⟩ := hx hver
     by_cases hm0 : m = 0
     ·subst hm0
      exact build b 0 cap (fun _ _ => undef) (fun i j hi => by omega) (fun i j hi => by omega)
     ·rcases hrow with ⟨hnone, _⟩ | ⟨b', arr', hb', hh', hns, hcr⟩
      ·rw [hb] at hnone; cases hnone
      ·have hbb : b' = b := Option.some.inj (hb'.symm.trans hb)
       subst hbb
       rw [hh] at hh'
       cases hh'
       have hss : sz0 = sz := by rw [← (hcr 0 (by omega)).1, hsz 0 (by omega)]
       subst hss
       exact build b' 0 cap (fun i j => arr.getD (i * sz0 + j) undef) (fun i j hi hj => by rw [Nat.zero_add]; exact cell_of_row' hh (by have := yW (n := n) (show i < n by omega) hj; omega)) fun i j hi hj => (hcr i (by omega)).2 j hj
  ·cases hs
 ·rename_i id k sz0 off len
  split at hs
  ·rename_i k' e sz' n f hl
   cases hk : Nat.beq k k' && Nat.beq sz0 sz' with
   | false => rw [hk] at hs; cases hs
   | true =>
    rw [hk] at hs
    cases hs
    simp only [Bool.and_eq_true] at hk
    have hkk := Nat.eq_of_beq_eq_true hk.1
    have hss := Nat.eq_of_beq_eq_true hk.2
    subst hkk hss
    obtain ⟨hver, hrow⟩ := h.objs id k _ hl
    rcases hv with ⟨h0, a, rfl⟩ | ⟨b, cap, rfl, h1, h2, hx⟩
    ·subst h0; exact .inl ⟨rfl, a, rfl⟩
    ·obtain ⟨hb, arr, e', hh, hsize⟩ := hx hver
     by_cases hm0 : m = 0
     ·subst hm0
      exact build b (off * sz0) cap (fun _ _ => undef) (fun i j hi => by omega) (fun i j hi => by omega)
     ·rcases hrow with ⟨hnone, _⟩ | ⟨b', arr', hb', hh', hns, hcr⟩
      ·rw [hb] at hnone; cases hnone
      ·have hbb : b' = b := Option.some.inj (hb'.symm.trans hb)
       subst hbb
       rw [hh] at hh'
       cases hh'
       have hss : sz0 = sz := by rw [← (hcr (off + 0) (by omega)).1, hsz 0 (by omega)]
       subst hss
       exact build b' (off * sz0) cap (fun i j => arr.getD ((off + i) * sz0 + j) undef) (fun i j hi hj => by rw [show off * sz0 + (i * sz0 + j) = (off + i) * sz0 + j by rw [Nat.add_mul]; omega]; exact cell_of_row' hh (by have := yW (n := n) (show off + i < n by omega) hj; omega)) fun i j hi hj => (hcr (off + i) (by omega)).2 j hj
  ·cases hs
 ·cases hs
def AI : Op → Option (Operand × Operand × TypeId)
 | .call { callee := .builtin .append, args, argTypes } => match args.toList, argTypes.toList with | [s, x], [t, t'] => bif Nat.beq t t' then some (s, x, t) else none | _, _ => none
 | _ => none
theorem qCO {op : Op} {r : Operand × Operand × TypeId} (h : AI op = some r) : UU op = true := by
 cases op <;> first | rfl | cases h
theorem qCj {op : Op} {s x : Operand} {t : TypeId} (h : AI op = some (s, x, t)) : op = .call { callee := .builtin .append, args := #[s, x], argTypes := #[t, t] } := by
 unfold AI at h
 split at h
 ·rename_i args ats
  split at h
  ·rename_i s' x' t' t'' ha hat
   cases hb : Nat.beq t' t'' with
   | false => rw [hb] at h; cases h
   | true =>
    rw [hb] at h
    cases h
    have := Nat.eq_of_beq_eq_true hb
    subst this
    obtain ⟨args⟩ := args
    obtain ⟨ats⟩ := ats
    simp only at ha hat
    subst ha hat
    rfl
  ·cases h
 ·cases h
theorem jH {P : Program} {w : World} {t ty e : TypeId} {i : TypeInfo} (ht : P.underlying t = some (.slice e)) (hi : P.info? e = some i) (base src : Option Addr) (n cap : Nat) (c : Nat) (hn : n ≤ cap) :
  (Builtin.append_ #[t, t] ty #[.slice base n cap, .slice src 0 c]).run P w = .ok (.slice base n cap) w := by
 cases base <;> cases src <;> simp [Builtin.append_, run_underlying ht, sizeOf, typeInfo, hi, Builtin.lenOf, Builtin.firstCells, loadCells, loadCellsFrom, hn, storeCells]
theorem KR {l r : List Value} {j : Nat} (h : j < l.length) : (l ++ r).getD j undef = l.getD j undef := by
 simp only [List.getD_eq_getElem?_getD, List.getElem?_append_left h]
theorem ID {l r : List Value} {j : Nat} (h : l.length ≤ j) : (l ++ r).getD j undef = r.getD (j - l.length) undef := by
 simp only [List.getD_eq_getElem?_getD, List.getElem?_append_right h]
/-- 'append': onto a slice of the call's own. -/
theorem qC0 {K : Ctx} {st : St} {o : Oper} (s x : Operand) (t e : TypeId) (id k k' len n m : Nat) (i : TypeInfo) (z : Value) (f g f' : Nat → List C) (xv : V1) (ob : Prop) (ho : AI o.op = some (s, x, t))
  (hs : op1 K.globs st s = some (.one (.own id k i.size len))) (hl : look id st.objs = some (k, .row e i.size n f)) (ht : K.P.underlying t = some (.slice e)) (hi : K.P.info? e = some i) (hz : i.zero = some z) (hzs : Nat.beq z.cells.size i.size = true)
  (hpos : Nat.blt 0 i.size = true) (hby : Nat.blt 0 i.bytes = true) (hx : op1 K.globs st x = some xv) (hsrc : AH st xv = some (m, g, ob)) (hob : ob) (hgl : ∀ j, j < m → (g j).length = i.size) (hln : len ≤ n)
  (hroom : (len + m) * i.bytes ≤ 140737488355328) (hf' : ∀ j, j < len + m → f' j = if j < len then f j else g (j - len)) :
  Step K st o [(id, k')] [(id, (k', .row e i.size (len + m) f'))] (.v (.one (.own id k' i.size (len + m)))) := by
 refine wR (qCO ho) ?_
 intro M a w h _
 have hpos' : 0 < i.size := by simpa [Nat.blt_eq] using hpos
 have hby' : 0 < i.bytes := by simpa [Nat.blt_eq] using hby
 have hzs' := Nat.eq_of_beq_eq_true hzs
 have hsv := op1_rep h hs
 have hxv := qBp h (op1_rep h hx) hsrc hob hgl hpos'
 obtain ⟨hver, hrow⟩ := h.objs id k _ hl
 have hsmall : len + m ≤ 140737488355328 := by
  have : (len + m) * 1 ≤ (len + m) * i.bytes := Nat.mul_le_mul_left _ hby'
  omega
 have hml : len + m ≤ maxLen := by unfold maxLen; omega
 have hf'l : ∀ j, j < len → f' j = f j := fun j hj => by rw [hf' j (by omega), if_pos hj]
 have hf'r : ∀ j, j < m → f' (len + j) = g j := fun j hj => by rw [hf' (len + j) (by omega), if_neg (by omega)]; congr 1; omega
 have hexec : ∀ {v w'}, (Builtin.append_ #[t, t] o.type #[a.eval s, a.eval x]).run K.P w = .ok v w' → (execOp a.eval o).run K.P w = .ok (.value v) w' := fun {v w'} hr => by
  unfold execOp
  rw [qCj ho]
  simp only [resolve, invoke, builtin, Sem.run_bind, Sem.run_pure, Result.andThen_ok, List.map_toArray, List.map_cons, List.map_nil, hr]
 unfold Oper.wp
 -- nothing is appended: the slice stays
 have stays : m = 0 → (Builtin.append_ #[t, t] o.type #[a.eval s, a.eval x]).run K.P w = .ok (a.eval s) w → o.upon K.P a (fun a' w' => ∃ v M', a' = a.put o.dst v ∧ Ext M w M' w' (hits [(id, (k', .row e i.size (len + m) f'))]) (qT [(id, k')]) ∧ VRep w' M' (.v (.one (.own id k' i.size (len + m)))) v ∧
   (∀ i_1 k_1 o_1, look i_1 [(id, (k', O.row e i.size (len + m) f'))] = some (k_1, o_1) → ORep w' M' i_1 k_1 o_1) ∧ (∀ i_1, M'.ver i_1 ≠ none → M.ver i_1 ≠ none ∨ hits [(id, (k', .row e i.size (len + m) f'))] i_1)) (fun _ _ _ => False) ((execOp a.eval o).run K.P w) := by
  intro hm0 hr
  subst hm0
  rw [hexec hr]
  have he : Ext M w (M.put id k' (M.blk id)) w (hits [(id, (k', .row e i.size (len + 0) f'))]) (qT [(id, k')]) :=
   Ext.put h (fun b' hb => ⟨(h.rng id k b' hver hb).2, .inr ⟨k, hver, hb⟩⟩) (fun _ _ _ => rfl) (fun c arr e hc => ⟨arr, hc, rfl⟩) (Nat.le_refl _) rfl rfl rfl
  refine ⟨_, _, rfl, he, ?_, fun i' l' p hl' => ?_, WG⟩
  ·rcases hsv with h0 | ⟨b, cap, hv, h1, h2, hx'⟩
   ·exact .inl h0
   ·obtain ⟨hb, arr, e', hh, hsize⟩ := hx' hver
    exact .inr ⟨b, cap, hv, h1, h2, fun _ => ⟨by simp [Mem.put, hb], arr, e', hh, hsize⟩⟩
  ·obtain ⟨rfl, rfl, rfl⟩ := zS hl'
   refine ⟨by simp [Mem.put], ?_⟩
   rcases hrow with ⟨hnone, h0⟩ | ⟨b, arr, hb, hh, hns, hcr⟩
   ·exact .inl ⟨by simp [Mem.put, hnone], by omega⟩
   ·refine .inr ⟨b, arr, by simp [Mem.put, hb], hh, Nat.le_trans (Nat.mul_le_mul_right _ (by omega)) hns, fun j hj => ?_⟩
    rw [hf'l j (by omega)]
    exact ⟨(hcr j (by omega)).1, fun q hq => he.irep ((hcr j (by omega)).2 q hq)⟩
 -- a new array
 have grows : ∀ (olds news : List Value) (cap : Nat) (w' : World), olds.length = len * i.size → news.length = m * i.size → (∀ p j, p < len → j < i.size → IRep w M.imm ((f p).getD j .unk) (olds.getD (p * i.size + j) undef)) → (∀ p, p < len → (f p).length = i.size) →
   (∀ p j, p < m → j < i.size → IRep w M.imm ((g p).getD j .unk) (news.getD (p * i.size + j) undef)) → len + m ≤ cap → cap ≤ maxLen →
   w' = w.drew.alloc (.cells (olds.toArray ++ news.toArray ++ Builtin.zeroCells z.cells (cap - (len + m))) e) →
   (Builtin.append_ #[t, t] o.type #[a.eval s, a.eval x]).run K.P w = .ok (.slice (some ⟨w.heap.size, 0, none⟩) (len + m) cap) w' → o.upon K.P a (fun a' w' => ∃ v M', a' = a.put o.dst v ∧ Ext M w M' w' (hits [(id, (k', .row e i.size (len + m) f'))]) (qT [(id, k')]) ∧ VRep w' M' (.v (.one (.own id k' i.size (len + m)))) v ∧
   (∀ i_1 k_1 o_1, look i_1 [(id, (k', O.row e i.size (len + m) f'))] = some (k_1, o_1) → ORep w' M' i_1 k_1 o_1) ∧ (∀ i_1, M'.ver i_1 ≠ none → M.ver i_1 ≠ none ∨ hits [(id, (k', .row e i.size (len + m) f'))] i_1)) (fun _ _ _ => False) ((execOp a.eval o).run K.P w) := by
  intro olds news cap w' hol hnl ho1 ho2 hn1 hcap hcm hw' hr
  rw [hexec hr]
  have hsz : w'.heap.size = w.heap.size + 1 := by rw [hw']; simp
  have hold : ∀ c, c < w.heap.size → w'.heap[c]? = w.heap[c]? := fun c hc => by rw [hw', heap_alloc_old _ _ c (by simpa using hc)]; rfl
  have he : Ext M w (M.put id k' (some w.heap.size)) w' (hits [(id, (k', .row e i.size (len + m) f'))]) (qT [(id, k')]) :=
   Ext.put h (fun b' hb => by cases hb; exact ⟨by omega, .inl (Nat.le_refl _)⟩) (fun c hc _ => hold c hc) (fun c arr e hc => ⟨arr, by rw [hold c (Array.getElem?_eq_some_iff.1 hc).1]; exact hc, rfl⟩) (by omega) (by rw [hw']; rfl) (by rw [hw']; rfl) (by rw [hw']; rfl) (by rw [hw']; exact Nat.le_succ _)
  have hnew : w'.heap[w.heap.size]? = some (.cells (olds.toArray ++ news.toArray ++ Builtin.zeroCells z.cells (cap - (len + m))) e (0, 0)) := by rw [hw']; exact heap_alloc_new w.drew _
  have hasz : (olds.toArray ++ news.toArray ++ Builtin.zeroCells z.cells (cap - (len + m))).size = cap * i.size := by
   simp only [Array.size_append, List.size_toArray, size_zeroCells, hzs', hol, hnl, ← Nat.add_mul]
   congr 1
   omega
  refine ⟨_, _, rfl, he, .inr ⟨w.heap.size, cap, rfl, hcap, hcm, fun _ => ⟨by simp [Mem.put], _, e, hnew, hasz⟩⟩, fun i' l' p hl' => ?_, WG⟩
  obtain ⟨rfl, rfl, rfl⟩ := zS hl'
  refine ⟨by simp [Mem.put], .inr ⟨w.heap.size, _, by simp [Mem.put], hnew, by rw [hasz]; exact Nat.mul_le_mul_right _ hcap, fun p hp => ?_⟩⟩
  have hget : ∀ q, q < i.size → (olds.toArray ++ news.toArray ++ Builtin.zeroCells z.cells (cap - (len + m))).getD (p * i.size + q) undef = (olds ++ news).getD (p * i.size + q) undef := fun q hq => by
   have := yW hp hq
   rw [Nat.add_mul] at this
   rw [ZM]
   simp only [Array.toList_append, List.append_assoc]
   rw [← List.append_assoc, KR (by simp; omega)]
  by_cases hpl : p < len
  ·rw [hf'l p hpl]
   refine ⟨ho2 p hpl, fun q hq => ?_⟩
   have := yW hpl hq
   rw [hget q hq, KR (by omega)]
   exact he.irep (ho1 p q hpl hq)
  ·obtain ⟨p', rfl⟩ : ∃ p', p = len + p' := ⟨p - len, by omega⟩
   rw [hf'r p' (by omega)]
   refine ⟨hgl p' (by omega), fun q hq => ?_⟩
   rw [hget q hq, Nat.add_mul, ID (by omega), hol, show len * i.size + p' * i.size + q - len * i.size = p' * i.size + q by omega]
   exact he.irep (hn1 p' q (by omega) hq)
 rcases hxv with ⟨hm0, ax, hax⟩ | ⟨b2, o2, c2, vs, hxe, hvl, hvc, hvr⟩
 ·subst hm0
  refine stays rfl ?_
  rw [hax]
  rcases hsv with ⟨h0, as, has⟩ | ⟨b, cap, hv, h1, h2, hx'⟩
  ·rw [has]; exact jH ht hi _ _ _ _ _ (Nat.le_refl _)
  ·rw [hv]; exact jH ht hi _ _ _ _ _ h1
 ·by_cases hm0 : m = 0
  ·refine stays hm0 ?_
   subst hm0
   rw [hxe]
   rcases hsv with ⟨h0, as, has⟩ | ⟨b, cap, hv, h1, h2, hx'⟩
   ·rw [has]; exact jH ht hi _ _ _ _ _ (Nat.le_refl _)
   ·rw [hv]; exact jH ht hi _ _ _ _ _ h1
  ·rcases hsv with ⟨h0, as, has⟩ | ⟨b, cap, hv, h1, h2, hx'⟩
   ·subst h0
    have hr : (Builtin.append_ #[t, t] o.type #[a.eval s, a.eval x]).run K.P w = .ok (.slice (some ⟨w.heap.size, 0, none⟩) (0 + m) (grownCap w (0 + m) 0 e)) (w.drew.alloc (.cells (([] : List Value).toArray ++ vs.toArray ++ Builtin.zeroCells z.cells (grownCap w (0 + m) 0 e - (0 + m))) e)) := by
     rw [has, hxe]
     cases as with
     | none =>
      have := run_append_nil (P := K.P) w t o.type e i z ht hi hz ⟨b2, o2, none⟩ m c2 vs hvl (fun j u hu => by rw [Addr.add_lit]; exact hvc j u hu) (by omega) (by omega) (by simp only [Nat.zero_add] at hroom; omega)
      simpa using this
     | some ad =>
      have := run_append_grow (P := K.P) w t o.type e i z ht hi hz ad 0 0 [] (by simp) (fun j v hj => by cases hj) ⟨b2, o2, none⟩ m c2 vs hvl (fun j u hu => by rw [Addr.add_lit]; exact hvc j u hu) (by omega) (by omega) (growslice_fits (by omega) hroom)
      exact this
    exact grows [] vs _ _ (by simp) hvl (fun p j hp => by omega) (fun p hp => by omega) hvr (grownCap_ge w _ _ _) (grownCap_le_maxLen w _ _ _ hml) rfl hr
   ·obtain ⟨hb, arr, e', hh, hsize⟩ := hx' hver
    have hee : e' = e := by
     rcases hrow with ⟨hnone, _⟩ | ⟨b', arr', hb', hh', _⟩
     ·rw [hb] at hnone; cases hnone
     ·have hbb : b' = b := Option.some.inj (hb'.symm.trans hb)
      subst hbb
      rw [hh] at hh'
      cases hh'
      rfl
    subst hee
    have hcr : ∀ p, p < len → (f p).length = i.size ∧ ∀ j, j < i.size → IRep w M.imm ((f p).getD j .unk) (arr.getD (p * i.size + j) undef) := by
     intro p hp
     rcases hrow with ⟨hnone, _⟩ | ⟨b', arr', hb', hh', _, hcr⟩
     ·rw [hb] at hnone; cases hnone
     ·have hbb : b' = b := Option.some.inj (hb'.symm.trans hb)
      subst hbb
      rw [hh] at hh'
      cases hh'
      exact hcr p (by omega)
    have hlc : len * i.size ≤ arr.size := by rw [hsize]; exact Nat.mul_le_mul_right _ h1
    by_cases hr1 : len + m ≤ cap
    ·have hfit : len * i.size + vs.length ≤ arr.size := by rw [hvl, hsize, ← Nat.add_mul]; exact Nat.mul_le_mul_right _ hr1
     have h1c : ∀ u ∈ vs, u.oneCell' = true := by
      intro u hu
      obtain ⟨q, hq, rfl⟩ := List.mem_iff_getElem.1 hu
      have hq' : q < m * i.size := by omega
      have hd : q / i.size < m := Nat.div_lt_of_lt_mul (by rw [Nat.mul_comm]; exact hq')
      have := (hvr (q / i.size) (q % i.size) hd (Nat.mod_lt _ hpos')).cell
      rw [show q / i.size * i.size + q % i.size = q by rw [Nat.mul_comm]; exact Nat.div_add_mod q i.size] at this
      simpa [List.getD_eq_getElem?_getD, List.getElem?_eq_getElem hq] using this
     have hr := run_append_room (P := K.P) w t o.type e' i ht hi b len cap arr hh ⟨b2, o2, none⟩ m c2 vs hvl (fun j u hu => by rw [Addr.add_lit]; exact hvc j u hu) h1c hr1 hfit
     rw [← hv, ← hxe] at hr
     rw [hexec hr]
     have hs' : (arr.toList.take (len * i.size) ++ vs ++ arr.toList.drop (len * i.size + vs.length)).toArray.size = arr.size := by simp; omega
     have hblt : b < w.heap.size := (h.rng id k b hver hb).2
     have hnew : (w.setRow b (arr.toList.take (len * i.size) ++ vs ++ arr.toList.drop (len * i.size + vs.length)).toArray).heap[b]? = some (.cells (arr.toList.take (len * i.size) ++ vs ++ arr.toList.drop (len * i.size + vs.length)).toArray e' (0, 0)) := setRow_heap w b arr _ e' (0, 0) hh
     have hcell : ∀ q, (arr.toList.take (len * i.size) ++ vs ++ arr.toList.drop (len * i.size + vs.length)).toArray.getD q undef = if len * i.size ≤ q ∧ q < len * i.size + vs.length then vs.getD (q - len * i.size) undef else arr.getD q undef := fun q => by
      rw [ZM, YZ _ _ _ _ _ (by simpa using hfit), ← ZM (arr := arr)]
     have he : Ext M w (M.put id k' (some b)) (w.setRow b (arr.toList.take (len * i.size) ++ vs ++ arr.toList.drop (len * i.size + vs.length)).toArray) (hits [(id, (k', .row e' i.size (len + m) f'))]) (qT [(id, k')]) :=
      Ext.put h (fun b' hb' => by cases hb'; exact ⟨by rw [size_setRow]; exact hblt, .inr ⟨k, hver, hb⟩⟩) (fun c hc hw => setRow_other w b c _ fun hcb => hw k hver (by rw [hb, hcb]))
       (fun c arr0 e0 hc => by
        by_cases hcb : c = b
        ·subst hcb
         rw [hh] at hc
         cases hc
         exact ⟨_, hnew, hs'⟩
        ·exact ⟨arr0, by rw [setRow_other w b c _ hcb]; exact hc, rfl⟩) (by rw [size_setRow]; exact Nat.le_refl _) rfl rfl rfl
     generalize (arr.toList.take (len * i.size) ++ vs ++ arr.toList.drop (len * i.size + vs.length)).toArray = arr2 at he hnew hcell hs'
     refine ⟨_, _, rfl, he, .inr ⟨b, cap, rfl, hr1, h2, fun _ => ⟨by simp [Mem.put], arr2, e', hnew, by omega⟩⟩, fun i' l' p hl' => ?_, WG⟩
     obtain ⟨rfl, rfl, rfl⟩ := zS hl'
     refine ⟨by simp [Mem.put], .inr ⟨b, arr2, by simp [Mem.put], hnew, by rw [hs', hsize]; exact Nat.mul_le_mul_right _ hr1, fun p hp => ?_⟩⟩
     by_cases hpl : p < len
     ·rw [hf'l p hpl]
      refine ⟨(hcr p hpl).1, fun q hq => ?_⟩
      have := yW hpl hq
      rw [hcell, if_neg (by omega)]
      exact he.irep ((hcr p hpl).2 q hq)
     ·obtain ⟨p', rfl⟩ : ∃ p', p = len + p' := ⟨p - len, by omega⟩
      rw [hf'r p' (by omega)]
      refine ⟨hgl p' (by omega), fun q hq => ?_⟩
      have := yW (show p' < m by omega) hq
      rw [hcell, Nat.add_mul, if_pos (by omega), show len * i.size + p' * i.size + q - len * i.size = p' * i.size + q by omega]
      exact he.irep (hvr p' q (by omega) hq)
    ·have hr := run_append_grow (P := K.P) w t o.type e' i z ht hi hz ⟨b, 0, none⟩ len cap (arr.toList.take (len * i.size)) (by simp; omega) (fun j u hu => by
       rw [Addr.add_lit, Nat.zero_add, cell_of_row w b j arr e' (0, 0) hh]
       rw [List.getElem?_take] at hu
       split at hu
       ·simpa using hu
       ·cases hu) ⟨b2, o2, none⟩ m c2 vs hvl (fun j u hu => by rw [Addr.add_lit]; exact hvc j u hu) (by omega) (by omega) (growslice_fits (by omega) hroom)
     rw [← hv, ← hxe] at hr
     refine grows (arr.toList.take (len * i.size)) vs _ _ (by simp; omega) hvl (fun p j hp hj => ?_) (fun p hp => (hcr p hp).1) hvr (grownCap_ge w _ _ _) (grownCap_le_maxLen w _ _ _ hml) rfl hr
     have hlt := yW hp hj
     have := (hcr p hp).2 j hj
     rw [ZM] at this
     simp only [List.getD_eq_getElem?_getD, List.getElem?_take, hlt, if_true] at this ⊢
     exact this
/-- 'append' onto an empty slice without room. -/
theorem qCJ {K : Ctx} {st : St} {o : Oper} (s x : Operand) (t e : TypeId) (id k' m : Nat) (i : TypeInfo) (z : Value) (g : Nat → List C) (xv : V1) (ob : Prop) (ho : AI o.op = some (s, x, t))
  (hs : op1 K.globs st s = some (.one .emp)) (ht : K.P.underlying t = some (.slice e)) (hi : K.P.info? e = some i) (hz : i.zero = some z) (hzs : Nat.beq z.cells.size i.size = true)
  (hpos : Nat.blt 0 i.size = true) (hby : Nat.blt 0 i.bytes = true) (hx : op1 K.globs st x = some xv) (hsrc : AH st xv = some (m, g, ob)) (hob : ob) (hgl : ∀ j, j < m → (g j).length = i.size)
  (hroom : m * i.bytes ≤ 140737488355328) :
  Step K st o [(id, k')] [(id, (k', .row e i.size m g))] (.v (.one (.own id k' i.size m))) := by
 refine wR (qCO ho) ?_
 intro M a w h _
 have hpos' : 0 < i.size := by simpa [Nat.blt_eq] using hpos
 have hby' : 0 < i.bytes := by simpa [Nat.blt_eq] using hby
 have hzs' := Nat.eq_of_beq_eq_true hzs
 have hsv : IRep w M.imm .emp (a.eval s) := op1_rep h hs
 obtain ⟨as, has⟩ : ∃ as, a.eval s = .slice as 0 0 := by
  generalize a.eval s = u at hsv
  cases hsv; exact ⟨_, rfl⟩
 have hxv := qBp h (op1_rep h hx) hsrc hob hgl hpos'
 have hsmall : m ≤ 140737488355328 := by
  have : m * 1 ≤ m * i.bytes := Nat.mul_le_mul_left _ hby'
  omega
 have hml : m ≤ maxLen := by unfold maxLen; omega
 have hexec : ∀ {v w'}, (Builtin.append_ #[t, t] o.type #[a.eval s, a.eval x]).run K.P w = .ok v w' → (execOp a.eval o).run K.P w = .ok (.value v) w' := fun {v w'} hr => by
  unfold execOp
  rw [qCj ho]
  simp only [resolve, invoke, builtin, Sem.run_bind, Sem.run_pure, Result.andThen_ok, List.map_toArray, List.map_cons, List.map_nil, hr]
 unfold Oper.wp
 have stays : m = 0 → (Builtin.append_ #[t, t] o.type #[a.eval s, a.eval x]).run K.P w = .ok (.slice as 0 0) w → o.upon K.P a (fun a' w' => ∃ v M', a' = a.put o.dst v ∧ Ext M w M' w' (hits [(id, (k', .row e i.size m g))]) (qT [(id, k')]) ∧ VRep w' M' (.v (.one (.own id k' i.size m))) v ∧
   (∀ i_1 k_1 o_1, look i_1 [(id, (k', O.row e i.size m g))] = some (k_1, o_1) → ORep w' M' i_1 k_1 o_1) ∧ (∀ i_1, M'.ver i_1 ≠ none → M.ver i_1 ≠ none ∨ hits [(id, (k', .row e i.size m g))] i_1)) (fun _ _ _ => False) ((execOp a.eval o).run K.P w) := by
  intro hm0 hr
  subst hm0
  rw [hexec hr]
  have he : Ext M w (M.put id k' none) w (hits [(id, (k', .row e i.size 0 g))]) (qT [(id, k')]) :=
   Ext.put h (fun b' hb => by cases hb) (fun _ _ _ => rfl) (fun c arr e hc => ⟨arr, hc, rfl⟩) (Nat.le_refl _) rfl rfl rfl
  refine ⟨_, _, rfl, he, .inl ⟨rfl, _, rfl⟩, fun i' l' p hl' => ?_, WG⟩
  obtain ⟨rfl, rfl, rfl⟩ := zS hl'
  exact ⟨by simp [Mem.put], .inl ⟨by simp [Mem.put], rfl⟩⟩
 rcases hxv with ⟨hm0, ax, hax⟩ | ⟨b2, o2, c2, vs, hxe, hvl, hvc, hvr⟩
 ·refine stays hm0 ?_
  rw [hax, has]; exact jH ht hi _ _ _ _ _ (Nat.le_refl _)
 ·by_cases hm0 : m = 0
  ·refine stays hm0 ?_
   rw [hxe, has, hm0]; exact jH ht hi _ _ _ _ _ (Nat.le_refl _)
  ·have hr : (Builtin.append_ #[t, t] o.type #[a.eval s, a.eval x]).run K.P w = .ok (.slice (some ⟨w.heap.size, 0, none⟩) m (grownCap w m 0 e)) (w.drew.alloc (.cells (vs.toArray ++ Builtin.zeroCells z.cells (grownCap w m 0 e - m)) e)) := by
    rw [has, hxe]
    cases as with
    | none => exact run_append_nil (P := K.P) w t o.type e i z ht hi hz ⟨b2, o2, none⟩ m c2 vs hvl (fun j u hu => by rw [Addr.add_lit]; exact hvc j u hu) (by omega) (by omega) (by omega)
    | some ad =>
     have := run_append_grow (P := K.P) w t o.type e i z ht hi hz ad 0 0 [] (by simp) (fun j v hj => by cases hj) ⟨b2, o2, none⟩ m c2 vs hvl (fun j u hu => by rw [Addr.add_lit]; exact hvc j u hu) (by omega) (by omega) (growslice_fits (by omega) (by simpa using hroom))
     simpa using this
   rw [hexec hr]
   have hold : ∀ c, c < w.heap.size → (w.drew.alloc (.cells (vs.toArray ++ Builtin.zeroCells z.cells (grownCap w m 0 e - m)) e)).heap[c]? = w.heap[c]? := fun c hc => by rw [heap_alloc_old _ _ c (by simpa using hc)]; rfl
   have he : Ext M w (M.put id k' (some w.heap.size)) (w.drew.alloc (.cells (vs.toArray ++ Builtin.zeroCells z.cells (grownCap w m 0 e - m)) e)) (hits [(id, (k', .row e i.size m g))]) (qT [(id, k')]) :=
    Ext.put h (fun b' hb => by cases hb; exact ⟨by simp, .inl (Nat.le_refl _)⟩) (fun c hc _ => hold c hc) (fun c arr e hc => ⟨arr, by rw [hold c (Array.getElem?_eq_some_iff.1 hc).1]; exact hc, rfl⟩) (by simp) rfl rfl rfl (Nat.le_succ _)
   have hge := grownCap_ge w m 0 e
   have hasz : (vs.toArray ++ Builtin.zeroCells z.cells (grownCap w m 0 e - m)).size = grownCap w m 0 e * i.size := by
    simp only [Array.size_append, List.size_toArray, size_zeroCells, hzs', hvl, ← Nat.add_mul]
    congr 1
    omega
   have hnew : (w.drew.alloc (.cells (vs.toArray ++ Builtin.zeroCells z.cells (grownCap w m 0 e - m)) e)).heap[w.heap.size]? = some (.cells (vs.toArray ++ Builtin.zeroCells z.cells (grownCap w m 0 e - m)) e (0, 0)) := heap_alloc_new w.drew _
   refine ⟨_, _, rfl, he, .inr ⟨w.heap.size, _, rfl, hge, grownCap_le_maxLen w _ _ _ hml, fun _ => ⟨by simp [Mem.put], _, e, hnew, hasz⟩⟩, fun i' l' p hl' => ?_, WG⟩
   obtain ⟨rfl, rfl, rfl⟩ := zS hl'
   refine ⟨by simp [Mem.put], .inr ⟨w.heap.size, _, by simp [Mem.put], hnew, by rw [hasz]; exact Nat.mul_le_mul_right _ hge, fun p hp => ⟨hgl p hp, fun q hq => ?_⟩⟩⟩
   have := yW hp hq
   rw [ZM]
   simp only [Array.toList_append]
   rw [KR (by omega)]
   exact he.irep (hvr p q hp hq)
end Go.SL

namespace Go.SL
open Go.RowKit
section
variable {w : World} {M : Mem} {D : Nat} {o' : Obj}
theorem ZK (hnc : ∀ arr e z, w.heap[D]? ≠ some (.cells arr e z)) {ok : Nat → Prop} {c : C} {v : Value} (h : IRep w ok c v) : IRep (w.putObj D o') ok c v :=
 h.move2 (fun b arr e z _ hb => World.putObj_heap_other (show b ≠ D from fun he => hnc arr e z (he ▸ hb))) (fun _ hb _ => hb)
theorem qBq (hnc : ∀ arr e z, w.heap[D]? ≠ some (.cells arr e z)) {c : C} {v : Value} (h : zJ w M c v) : zJ (w.putObj D o') M c v := by
 cases c with
 | bptr id k j => exact h
 | _ => exact ZK hnc h
theorem HA (hnc : ∀ arr e z, w.heap[D]? ≠ some (.cells arr e z)) {c : C} {v : Value} (h : CRep w M c v) : CRep (w.putObj D o') M c v := by
 have hc : ∀ (b : Nat) (arr : Array Value) (e : TypeId) z, w.heap[b]? = some (.cells arr e z) → (w.putObj D o').heap[b]? = some (.cells arr e z) := fun b arr e z hb => by
  rw [World.putObj_heap_other (show b ≠ D from fun he => hnc arr e z (he ▸ hb))]; exact hb
 cases c with
 | own id k sz len =>
  rcases h with h0 | ⟨b, cap, hv, h1, h2, hx⟩
  ·exact .inl h0
  ·exact .inr ⟨b, cap, hv, h1, h2, fun hd => let ⟨hb, arr, e, hh, h3⟩ := hx hd; ⟨hb, arr, e, hc b arr e _ hh, h3⟩⟩
 | sub id k sz off len =>
  rcases h with h0 | ⟨b, cap, hv, h1, h2, hx⟩
  ·exact .inl h0
  ·exact .inr ⟨b, cap, hv, h1, h2, fun hd => let ⟨hb, arr, e, hh, h3⟩ := hx hd; ⟨hb, arr, e, hc b arr e _ hh, h3⟩⟩
 | bptr id k j => exact h
 | rptr id k sz i j => exact h
 | fn g caps => obtain ⟨vs, h1, h2, h3⟩ := h; exact ⟨vs, h1, h2, fun j hj => qBq hnc (h3 j hj)⟩
 | yl R b ts caps => exact ⟨h.1, fun j hj => qBq hnc (h.2 j hj)⟩
 | unk => exact h
 | val v => exact ZK hnc h
 | emp => exact ZK hnc h
 | lst n f => exact ZK hnc h
 | lptr cs => exact ZK hnc h
 | aptr n sz f => exact ZK hnc h
theorem IK (hnc : ∀ arr e z, w.heap[D]? ≠ some (.cells arr e z)) {x : V1} {v : Value} (h : qP w M x v) : qP (w.putObj D o') M x v := by
 cases x with
 | one c => exact HA hnc h
 | agg cs => obtain ⟨vs, hv, h1, h2⟩ := h; exact ⟨vs, hv, h1, fun j hj => HA hnc (h2 j hj)⟩
theorem qAo (hnc : ∀ arr e z, w.heap[D]? ≠ some (.cells arr e z)) {x : V} {v : Value} (h : VRep w M x v) : VRep (w.putObj D o') M x v := by
 cases x with
 | any => trivial
 | undef => exact h
 | v x => exact IK hnc h
 | tup xs => obtain ⟨vs, hv, h1, h2⟩ := h; exact ⟨vs, hv, h1, fun j hj => IK hnc (h2 j hj)⟩
theorem CY (hnc : ∀ arr e z, w.heap[D]? ≠ some (.cells arr e z)) {id k : Nat} {o : O} (hne : M.blk id ≠ some D) (h : ORep w M id k o) : ORep (w.putObj D o') M id k o := by
 have hc : ∀ (b : Nat), M.blk id = some b → (w.putObj D o').heap[b]? = w.heap[b]? := fun b hb => World.putObj_heap_other (show b ≠ D from fun he => hne (he ▸ hb))
 cases o with
 | box e cs => obtain ⟨h1, b, arr, h2, h3, h4⟩ := h; exact ⟨h1, b, arr, h2, by rw [hc b h2]; exact h3, h4.1, fun j hj => HA hnc (h4.2 j hj)⟩
 | row e sz n f =>
  refine ⟨h.1, ?_⟩
  rcases h.2 with h0 | ⟨b, arr, h2, h3, h4, h5⟩
  ·exact .inl h0
  ·exact .inr ⟨b, arr, h2, by rw [hc b h2]; exact h3, h4, fun i hi => ⟨(h5 i hi).1, fun j hj => ZK hnc ((h5 i hi).2 j hj)⟩⟩
 | lp R b s j => exact ⟨h.1, h.2.1, by rw [hc b h.2.1]; exact h.2.2⟩
theorem CZ {n : Nat} {d : Deferred} (hd : d ≠ { target := .collected D, args := #[] }) (h : SV w M n d) : SV (w.putObj D o') M n d := by
 obtain ⟨E, rfl, h1, h2, h3⟩ := h
 refine ⟨E, rfl, h1, ?_, h3⟩
 rw [World.putObj_heap_other (show E ≠ D from fun he => hd (he ▸ rfl))]; exact h2
end
/-- A block that nobody owns, and in which no cells lie, changes. -/
theorem Sim1.other {K : Ctx} {M : Mem} {st : St} {a a' : Act} {w : World} {D : Nat} {o' : Obj} (h : Sim1 K M st a w) (hnc : ∀ arr e z, w.heap[D]? ≠ some (.cells arr e z)) (hno : ¬ M.owns D) (hK : K.w0.heap.size ≤ D)
  (ht : a'.tmps = a.tmps) (hd : VM (w.putObj D o') M K.w0.heap.size a'.defers) : Sim1 K M st a' (w.putObj D o') := by
 obtain ⟨h, h2⟩ := h
 refine ⟨⟨h.inj, fun i k b hv hb => ⟨(h.rng i k b hv hb).1, by rw [World.putObj_size]; exact (h.rng i k b hv hb).2⟩, h.fix, ⟨h.below.os, h.below.tape, h.below.output, by rw [World.putObj_size]; exact h.below.size, fun b hb hB => ?_, h.below.drawn⟩, fun b arr e hb => ?_, h.area, by rw [ht]; exact h.size, hd, fun s x hx => by rw [ht]; exact qAo hnc (h.slots s x hx), fun i k o ho => CY hnc (fun hb => hno ⟨i, k, (h.objs i k o ho).ver, hb⟩) (h.objs i k o ho)⟩, h2⟩
 ·rw [World.putObj_heap_other (by omega)]; exact h.below.block b hb hB
 ·obtain ⟨arr', ha, hs⟩ := h.shape b arr e hb
  exact ⟨arr', by rw [World.putObj_heap_other (fun he => hnc arr' e _ (he ▸ ha))]; exact ha, hs⟩
/-- A loop's record changes its state. -/
theorem Sim1.setLp {K : Ctx} {M : Mem} {st : St} {a : Act} {w : World} {id k b : Nat} {R : wT} {s : LoopState} {j : Option Code} (h : Sim1 K M st a w) (hl : look id st.objs = some (k, .lp R b s j)) (s' : LoopState) (j' : Option Code) :
  Sim1 K M { slots := st.slots, objs := (id, (k, .lp R b s' j')) :: st.objs } a (w.putObj b (.loop (R.at s' j'))) := by
 obtain ⟨h, h2⟩ := h
 obtain ⟨hv, hb, hh⟩ := h.objs id k _ hl
 have hnc : ∀ arr e z, w.heap[b]? ≠ some (.cells arr e z) := fun arr e z q => by rw [hh] at q; cases q
 have hlt : b < w.heap.size := (Array.getElem?_eq_some_iff.1 hh).1
 refine ⟨⟨h.inj, fun i k b' hv hb => ⟨(h.rng i k b' hv hb).1, by rw [World.putObj_size]; exact (h.rng i k b' hv hb).2⟩, h.fix, ⟨h.below.os, h.below.tape, h.below.output, by rw [World.putObj_size]; exact h.below.size, fun b' hb' hB => ?_, h.below.drawn⟩, fun b' arr e hb' => ?_, h.area, h.size, ⟨fun d hd => ?_, h.defers.2⟩, fun s x hx => qAo hnc (h.slots s x hx), fun i k' o ho => ?_⟩, fun i hi => ?_⟩
 ·by_cases e : b' = b
  ·subst e
   exfalso
   rcases (h.rng id k b' hv hb).1 with q | q
   ·omega
   ·exact hB ⟨id, q⟩
  ·rw [World.putObj_heap_other e]; exact h.below.block b' hb' hB
 ·obtain ⟨arr', ha, hs⟩ := h.shape b' arr e hb'
  exact ⟨arr', by rw [World.putObj_heap_other (fun he => hnc arr' e _ (he ▸ ha))]; exact ha, hs⟩
 ·have hm := h.defers.1 d hd
  refine CZ (fun he => ?_) hm
  obtain ⟨E, rfl, _, _, h5⟩ := hm
  cases he
  exact h5 ⟨id, k, hv, hb⟩
 ·simp only [look_cons] at ho
  split at ho
  ·rename_i he
   subst he
   cases ho
   exact ⟨hv, hb, World.putObj_heap_same hlt⟩
  ·rename_i he
   have hr := h.objs i k' o ho
   exact CY hnc (fun q => he (h.inj id i k k' b hv hr.ver hb q)) hr
 ·unfold hits
  simp only [look_cons]
  split
  ·rfl
  ·exact h2 i hi
/-- On the way out of a function: the marks are taken. -/
theorem LN {K : Ctx} {M : Mem} {st : St} {fn : Func} {tmps : Array Value} {R : Ending → World → Prop} (key : ∀ w, Sim1 K M st ⟨tmps, []⟩ w → ∃ v, (results fn tmps).run K.P w = .ok v w ∧ R (.returned v) w) :
  ∀ (ds : List Deferred) (w : World), Sim1 K M st ⟨tmps, ds⟩ w → LeavesInM Fence.wide 0 K.P fn tmps R ds .returning w
 | [], w, h => key w h
 | d :: ds, w, h => by
  obtain ⟨hm, hp⟩ := h.1.defers
  obtain ⟨D, rfl, h1, h2, h3⟩ := hm d List.mem_cons_self
  have hne := (List.pairwise_cons.1 hp).1
  refine ⟨by simp, .inl ⟨D, _, rfl, run_takeDeferred h2, LN key ds _ (h.other (a' := ⟨tmps, ds⟩) (fun arr e z q => by rw [h2] at q; cases q) h3 h1 rfl ⟨fun d' hd' => ?_, (List.pairwise_cons.1 hp).2⟩)⟩⟩
  exact CZ (fun e => hne d' hd' e.symm) (hm d' (List.mem_cons_of_mem _ hd'))
end Go.SL

namespace Go.SL
open Go.RowKit
/-! ### What must hold: nothing, or something -/
def oP : Option Prop → Prop
 | none => True
 | some p => p
def an : Option Prop → Option Prop → Option Prop
 | none, q => q
 | some p, none => some p
 | some p, some q => some (p ∧ q)
theorem wK {p q : Option Prop} (h : oP (an p q)) : oP p ∧ oP q := by
 cases p with
 | none => exact ⟨trivial, h⟩
 | some p =>
  cases q with
  | none => exact ⟨h, trivial⟩
  | some q => exact h
theorem o0 : oP none := trivial
theorem o1 {p : Prop} (h : p) : oP (some p) := h
theorem o2 {p q : Prop} (h : p) (k : oP (some q)) : oP (some (p ∧ q)) := ⟨h, k⟩
/-! ### Versions set back to 0; less is known -/
def qCc (objs : List (Nat × (Nat × O))) : C → Option C
 | .bptr id k j => match look id objs with | some (k', _) => bif Nat.beq k k' then some (.bptr id 0 j) else none | none => none
 | c => some c
def MN (objs : List (Nat × (Nat × O))) : List C → Option (List C)
 | [] => some []
 | p :: r => match qCc objs p, MN objs r with | some q, some r' => some (q :: r') | _, _ => none
def C.rev (objs : List (Nat × (Nat × O))) : C → C
 | .fn g caps => match MN objs caps with | some caps' => .fn g caps' | none => .unk
 | .yl R b ts caps => match MN objs caps with | some caps' => .yl R b ts caps' | none => .unk
 | .own id k sz len => match look id objs with | some (k', _) => bif Nat.beq k k' then .own id 0 sz len else .unk | none => .unk
 | .sub id k sz off len => match look id objs with | some (k', _) => bif Nat.beq k k' then .sub id 0 sz off len else .unk | none => .unk
 | .bptr id k j => match look id objs with | some (k', _) => bif Nat.beq k k' then .bptr id 0 j else .unk | none => .unk
 | .rptr id k sz i j => match look id objs with | some (k', _) => bif Nat.beq k k' then .rptr id 0 sz i j else .unk | none => .unk
 | c => c
def V1.rev (objs : List (Nat × (Nat × O))) : V1 → V1
 | .one c => .one (c.rev objs)
 | .agg cs => .agg (cs.map (C.rev objs))
def V.rev (objs : List (Nat × (Nat × O))) : V → V
 | .v x => .v (x.rev objs)
 | .tup xs => .tup (xs.map (V1.rev objs))
 | x => x
def O.rev (objs : List (Nat × (Nat × O))) : O → O
 | .box e cs => .box e (cs.map (C.rev objs))
 | o => o
def St.rev (st : St) : St := { slots := st.slots.map fun p => (p.1, p.2.rev st.objs), objs := st.objs.map fun p => (p.1, (0, p.2.2.rev st.objs)) }
theorem HD {β γ : Type} (f : β → γ) (s : Nat) (l : List (Nat × β)) : look s (l.map fun p => (p.1, f p.2)) = (look s l).map f := by
 induction l with
 | nil => rfl
 | cons p l ih =>
  obtain ⟨k, x⟩ := p
  simp only [List.map_cons, look_cons, ih]
  split <;> rfl
def Mem.rev (M : Mem) (objs : List (Nat × (Nat × O))) : Mem := { ver := fun i => (look i objs).map fun _ => 0, blk := M.blk, A := M.A }
section
variable {K : Ctx} {M : Mem} {st : St} {a : Act} {w : World}
theorem qCg (h : Sim K M st a w) {b : Nat} (hb : (M.rev st.objs).owns b) : M.owns b := by
 obtain ⟨i, k, hv, hbk⟩ := hb
 simp only [Mem.rev, Option.map_eq_some_iff] at hv
 obtain ⟨⟨k', o⟩, hl, _⟩ := hv
 exact ⟨i, k', (h.objs i k' o hl).ver, hbk⟩
theorem rev_irep (h : Sim K M st a w) {c : C} {v : Value} (hr : IRep w M.imm c v) : IRep w (M.rev st.objs).imm c v :=
 hr.move (fun _ _ _ => rfl) fun _ hb _ => ⟨hb.1, fun ho => hb.2 (qCg h ho)⟩
theorem qDM (h : Sim K M st a w) {c d : C} {v : Value} (hc : qCc st.objs c = some d) (hr : zJ w M c v) : zJ w (M.rev st.objs) d v := by
 cases c with
 | bptr id k j =>
  simp only [qCc] at hc
  split at hc
  ·rename_i k' o hl
   cases hk : Nat.beq k k' with
   | false => rw [hk] at hc; cases hc
   | true =>
    rw [hk] at hc
    cases hc
    have hkk := Nat.eq_of_beq_eq_true hk
    subst hkk
    obtain ⟨b, h1, hx⟩ := hr
    exact ⟨b, h1, fun _ => hx (h.objs id k o hl).ver⟩
  ·cases hc
 | _ => cases hc; exact rev_irep h hr
theorem LU (h : Sim K M st a w) : ∀ {caps caps' : List C}, MN st.objs caps = some caps' → caps'.length = caps.length ∧ ∀ j v, j < caps.length → zJ w M (caps.getD j .unk) v → zJ w (M.rev st.objs) (caps'.getD j .unk) v
 | [], _, hr => by cases hr; exact ⟨rfl, fun j v hj => absurd hj (Nat.not_lt_zero j)⟩
 | p :: r, caps', hr => by
  simp only [MN] at hr
  split at hr
  ·rename_i q r' h1 h2
   cases hr
   obtain ⟨i1, i2⟩ := LU h h2
   refine ⟨by simp [i1], fun j v hj hp => ?_⟩
   cases j with
   | zero => exact qDM h h1 hp
   | succ j => exact i2 j v (by simpa using hj) hp
  ·cases hr
theorem qCy (h : Sim K M st a w) {c : C} {v : Value} (hr : CRep w M c v) : CRep w (M.rev st.objs) (c.rev st.objs) v := by
 cases c with
 | own id k sz len =>
  simp only [C.rev]
  split
  ·rename_i k' o hl
   cases hk : Nat.beq k k' with
   | false => exact hr.cell
   | true =>
    have hkk := Nat.eq_of_beq_eq_true hk
    subst hkk
    have hv := (h.objs id k o hl).ver
    rcases hr with h0 | ⟨b, cap, h1, h2, h3, hx⟩
    ·exact .inl h0
    ·exact .inr ⟨b, cap, h1, h2, h3, fun _ => hx hv⟩
  ·exact hr.cell
 | sub id k sz off len =>
  simp only [C.rev]
  split
  ·rename_i k' o hl
   cases hk : Nat.beq k k' with
   | false => exact hr.cell
   | true =>
    have hkk := Nat.eq_of_beq_eq_true hk
    subst hkk
    have hv := (h.objs id k o hl).ver
    rcases hr with h0 | ⟨b, cap, h1, h2, h3, hx⟩
    ·exact .inl h0
    ·exact .inr ⟨b, cap, h1, h2, h3, fun _ => hx hv⟩
  ·exact hr.cell
 | bptr id k j =>
  simp only [C.rev]
  split
  ·rename_i k' o hl
   cases hk : Nat.beq k k' with
   | false => exact hr.cell
   | true =>
    have hkk := Nat.eq_of_beq_eq_true hk
    subst hkk
    have hv := (h.objs id k o hl).ver
    obtain ⟨b, h1, hx⟩ := hr
    exact ⟨b, h1, fun _ => hx hv⟩
  ·exact hr.cell
 | rptr id k sz i j =>
  simp only [C.rev]
  split
  ·rename_i k' o hl
   cases hk : Nat.beq k k' with
   | false => exact hr.cell
   | true =>
    have hkk := Nat.eq_of_beq_eq_true hk
    subst hkk
    have hv := (h.objs id k o hl).ver
    obtain ⟨b, h1, hx⟩ := hr
    exact ⟨b, h1, fun _ => hx hv⟩
  ·exact hr.cell
 | fn g caps =>
  simp only [C.rev]
  split
  ·rename_i caps' hc
   obtain ⟨vs, hv, hs, hx⟩ := hr
   obtain ⟨i1, i2⟩ := LU h hc
   exact ⟨vs, hv, by rw [i1]; exact hs, fun j hj => i2 j _ (by omega) (hx j (by omega))⟩
  ·exact hr.cell
 | yl R b ts caps =>
  simp only [C.rev]
  split
  ·rename_i caps' hc
   obtain ⟨i1, i2⟩ := LU h hc
   exact ⟨hr.1, fun j hj => i2 j _ (by omega) (hr.2 j (by omega))⟩
  ·exact hr.cell
 | unk => exact hr
 | val v => exact rev_irep h hr
 | emp => exact rev_irep h hr
 | lst n f => exact rev_irep h hr
 | lptr cs => exact rev_irep h hr
 | aptr n sz f => exact rev_irep h hr
theorem qBH (h : Sim K M st a w) {cs : List C} {vs : Array Value} (hr : zF w M cs vs) : zF w (M.rev st.objs) (cs.map (C.rev st.objs)) vs := by
 refine ⟨by simpa using hr.1, fun j hj => ?_⟩
 have hj' : j < cs.length := by simpa using hj
 have := qCy h (hr.2 j hj')
 simpa only [List.getD_eq_getElem?_getD, List.getElem?_map, List.getElem?_eq_getElem hj', Option.map_some, Option.getD_some] using this
theorem qBs (h : Sim K M st a w) {x : V1} {v : Value} (hr : qP w M x v) : qP w (M.rev st.objs) (x.rev st.objs) v := by
 cases x with
 | one c => exact qCy h hr
 | agg cs => obtain ⟨vs, hv, hc⟩ := hr; exact ⟨vs, hv, qBH h hc⟩
theorem qEI (h : Sim K M st a w) {x : V} {v : Value} (hr : VRep w M x v) : VRep w (M.rev st.objs) (x.rev st.objs) v := by
 cases x with
 | any => trivial
 | undef => exact hr
 | v x => exact qBs h hr
 | tup xs =>
  obtain ⟨vs, hv, hl, hc⟩ := hr
  refine ⟨vs, hv, by simpa using hl, fun j hj => ?_⟩
  have hj' : j < xs.length := by simpa using hj
  have := qBs h (hc j hj')
  simpa only [List.getD_eq_getElem?_getD, List.getElem?_map, List.getElem?_eq_getElem hj', Option.map_some, Option.getD_some] using this
theorem Sim1.rev (h : Sim1 K M st a w) : Sim1 K (M.rev st.objs) st.rev a w := by
 have hs := h.1
 have old : ∀ i k, (M.rev st.objs).ver i = some k → ∃ k', M.ver i = some k' := fun i k hv => by
  simp only [Mem.rev, Option.map_eq_some_iff] at hv
  obtain ⟨⟨k', o⟩, hl, _⟩ := hv
  exact ⟨k', (hs.objs i k' o hl).ver⟩
 refine ⟨⟨fun i j k l b hi hj hbi hbj => ?_, fun i k b hv hb => ?_, fun i k him hv => ?_, hs.below, hs.shape, hs.area, hs.size, hs.defers.less fun _ => qCg hs, fun s x hx => ?_, fun i k o ho => ?_⟩, fun i hi => ?_⟩
 ·obtain ⟨k', hk'⟩ := old i k hi
  obtain ⟨l', hl'⟩ := old j l hj
  exact hs.inj i j k' l' b hk' hl' hbi hbj
 ·obtain ⟨k', hk'⟩ := old i k hv
  exact hs.rng i k' b hk' hb
 ·obtain ⟨k', hk'⟩ := old i k hv
  exact hs.fix i k' him hk'
 ·have : look s (st.slots.map fun p => (p.1, p.2.rev st.objs)) = some x := hx
  rw [HD (V.rev st.objs), Option.map_eq_some_iff] at this
  obtain ⟨y, hy, rfl⟩ := this
  exact qEI hs (hs.slots s y hy)
 ·have : look i (st.objs.map fun p => (p.1, ((0 : Nat), p.2.2.rev st.objs))) = some (k, o) := ho
  rw [HD (fun q : Nat × O => ((0 : Nat), q.2.rev st.objs)), Option.map_eq_some_iff] at this
  obtain ⟨⟨k', o'⟩, hy, hko⟩ := this
  cases hko
  have hv : (M.rev st.objs).ver i = some 0 := by simp [Mem.rev, hy]
  have hor := hs.objs i k' o' hy
  cases o' with
  | box e cs =>
   obtain ⟨_, b, arr, hb, hh, hc⟩ := hor
   exact ⟨hv, b, arr, hb, hh, qBH hs hc⟩
  | row e sz n f =>
   refine ⟨hv, ?_⟩
   rcases hor.2 with h0 | ⟨b, arr, hb, hh, hn, hc⟩
   ·exact .inl h0
   ·exact .inr ⟨b, arr, hb, hh, hn, fun i hi => ⟨(hc i hi).1, fun j hj => rev_irep hs ((hc i hi).2 j hj)⟩⟩
  | lp R b s j => exact ⟨hv, hor.2.1, hor.2.2⟩
 ·simp only [Mem.rev, ne_eq, Option.map_eq_none_iff] at hi
  unfold hits
  show (look i (st.objs.map fun p => (p.1, ((0 : Nat), p.2.2.rev st.objs)))).isSome = true
  rw [HD (fun q : Nat × O => ((0 : Nat), q.2.rev st.objs)), Option.isSome_map]
  exact Option.isSome_iff_ne_none.2 hi
def Mem.keep (M : Mem) (objs : List (Nat × (Nat × O))) : Mem := { ver := fun i => if (look i objs).isSome then M.ver i else none, blk := M.blk, A := M.A }
theorem zG {M : Mem} {objs : List (Nat × (Nat × O))} {i k : Nat} (h : (M.keep objs).ver i = some k) : M.ver i = some k := by
 simp only [Mem.keep] at h
 split at h
 ·exact h
 ·cases h
theorem JT {objs : List (Nat × (Nat × O))} {c : C} {v : Value} (hr : IRep w M.imm c v) : IRep w (M.keep objs).imm c v :=
 hr.move (fun _ _ _ => rfl) fun _ hb _ => ⟨hb.1, fun ⟨i, k, hv, hbk⟩ => hb.2 ⟨i, k, zG hv, hbk⟩⟩
theorem qCF {objs : List (Nat × (Nat × O))} {c : C} {v : Value} (hr : zJ w M c v) : zJ w (M.keep objs) c v := by
 cases c with
 | bptr id k j => obtain ⟨b, h1, hx⟩ := hr; exact ⟨b, h1, fun hv => hx (zG hv)⟩
 | _ => exact JT hr
theorem qBI {objs : List (Nat × (Nat × O))} {c : C} {v : Value} (hr : CRep w M c v) : CRep w (M.keep objs) c v := by
 cases c with
 | own id k sz len =>
  rcases hr with h0 | ⟨b, cap, h1, h2, h3, hx⟩
  ·exact .inl h0
  ·exact .inr ⟨b, cap, h1, h2, h3, fun hv => hx (zG hv)⟩
 | sub id k sz off len =>
  rcases hr with h0 | ⟨b, cap, h1, h2, h3, hx⟩
  ·exact .inl h0
  ·exact .inr ⟨b, cap, h1, h2, h3, fun hv => hx (zG hv)⟩
 | bptr id k j => obtain ⟨b, h1, hx⟩ := hr; exact ⟨b, h1, fun hv => hx (zG hv)⟩
 | rptr id k sz i j => obtain ⟨b, h1, hx⟩ := hr; exact ⟨b, h1, fun hv => hx (zG hv)⟩
 | fn g caps =>
  obtain ⟨vs, hv, hs, hx⟩ := hr
  exact ⟨vs, hv, hs, fun j hj => qCF (hx j hj)⟩
 | yl R b ts caps => exact ⟨hr.1, fun j hj => qCF (hr.2 j hj)⟩
 | unk => exact hr
 | val v => exact JT hr
 | emp => exact JT hr
 | lst n f => exact JT hr
 | lptr cs => exact JT hr
 | aptr n sz f => exact JT hr
theorem qAk {objs : List (Nat × (Nat × O))} {cs : List C} {vs : Array Value} (hr : zF w M cs vs) : zF w (M.keep objs) cs vs := ⟨hr.1, fun j hj => qBI (hr.2 j hj)⟩
theorem CX {objs : List (Nat × (Nat × O))} {x : V1} {v : Value} (hr : qP w M x v) : qP w (M.keep objs) x v := by
 cases x with
 | one c => exact qBI hr
 | agg cs => obtain ⟨vs, hv, hc⟩ := hr; exact ⟨vs, hv, qAk hc⟩
theorem SP {objs : List (Nat × (Nat × O))} {x : V} {v : Value} (hr : VRep w M x v) : VRep w (M.keep objs) x v := by
 cases x with
 | any => trivial
 | undef => exact hr
 | v x => exact CX hr
 | tup xs => obtain ⟨vs, hv, hl, hc⟩ := hr; exact ⟨vs, hv, hl, fun j hj => CX (hc j hj)⟩
theorem SY {objs : List (Nat × (Nat × O))} {i k : Nat} {o : O} (hi : (look i objs).isSome = true) (hr : ORep w M i k o) : ORep w (M.keep objs) i k o := by
 have hv : (M.keep objs).ver i = some k := by simp only [Mem.keep, hi, if_true]; exact hr.ver
 cases o with
 | box e cs => obtain ⟨_, b, arr, hb, hh, hc⟩ := hr; exact ⟨hv, b, arr, hb, hh, qAk hc⟩
 | row e sz n f =>
  refine ⟨hv, ?_⟩
  rcases hr.2 with h0 | ⟨b, arr, hb, hh, hn, hc⟩
  ·exact .inl h0
  ·exact .inr ⟨b, arr, hb, hh, hn, fun i hi => ⟨(hc i hi).1, fun j hj => JT ((hc i hi).2 j hj)⟩⟩
 | lp R b s j => exact ⟨hv, hr.2.1, hr.2.2⟩
structure Sub (st' st : St) : Prop where
 slots : st'.slots.map (fun p => look p.1 st.slots) = st'.slots.map fun p => some p.2
 objs : st'.objs.map (fun p => look p.1 st.objs) = st'.objs.map fun p => some p.2
theorem FV {β : Type} {l : List (Nat × β)} {g : Nat → Option β} (h : l.map (fun p => g p.1) = l.map fun p => some p.2) {s : Nat} {x : β} (hx : look s l = some x) : g s = some x := by
 have hm := look_mem hx
 clear hx
 induction l with
 | nil => cases hm
 | cons p l ih =>
  simp only [List.map_cons, List.cons.injEq] at h
  rcases List.mem_cons.1 hm with h1 | h1
  ·rw [← h1] at h; exact h.1
  ·exact ih h.2 h1
theorem Sim1.sub (h : Sim1 K M st a w) {st' : St} (hs : Sub st' st) : Sim1 K (M.keep st'.objs) st' a w := by
 refine ⟨⟨fun i j k l b hi hj hbi hbj => h.1.inj i j k l b (zG hi) (zG hj) hbi hbj, fun i k b hv hb => h.1.rng i k b (zG hv) hb, fun i k him hv => h.1.fix i k him (zG hv), h.1.below, h.1.shape, h.1.area, h.1.size, h.1.defers.less fun _ ⟨i, k, hv, hb⟩ => ⟨i, k, zG hv, hb⟩, fun s x hx => ?_, fun i k o ho => ?_⟩, fun i hi => ?_⟩
 ·exact SP (h.1.slots s x (FV (g := fun s => look s st.slots) hs.slots hx))
 ·exact SY (by rw [ho]; rfl) (h.1.objs i k o (FV (g := fun s => look s st.objs) hs.objs ho))
 ·simp only [Mem.keep] at hi
  split at hi
  ·assumption
  ·exact absurd rfl hi
end
/-- Go on with less: what the rest wants to know, the versions set back. -/
theorem H_sub {K : Ctx} {st : St} {c : Code} {Q : Exit → St → Prop} (st' : St) (hs : Sub st' st.rev) (h : H K st' c Q) : H K st c Q := fun _ a w hsim => h _ a w (hsim.rev.sub hs)
theorem HL_sub {K : Ctx} {st : St} {c : Code} {Q : Exit → St → Prop} {n : Nat} (st' : St) (hs : Sub st' st.rev) (h : HL K c Q n st') : HL K c Q n st := fun _ a w hsim => h _ a w (hsim.rev.sub hs)
/-! ### Contracts -/
def Mem.of (A : Nat → Prop) : Mem := ⟨fun _ => none, fun _ => none, A⟩
/-- What is handed in: values, and objects of the caller's that the callee may turn. -/
structure InOk (w : World) (M : Mem) (n : Nat) (ob : List (Nat × (Nat × O))) : Prop where
 inj : ∀ i j k l b, M.ver i = some k → M.ver j = some l → M.blk i = some b → M.blk j = some b → i = j
 rng : ∀ i k b, M.ver i = some k → M.blk i = some b → i < n ∧ b < w.heap.size ∧ ¬ M.A b
 only : ∀ i, M.ver i ≠ none → hits ob i
 objs : ∀ i k o, look i ob = some (k, o) → ORep w M i k o
def ST (w : World) (M : Mem) (xs : List V1) (vs : Array Value) : Prop := vs.size = xs.length ∧ ∀ j, j < xs.length → qP w M (xs.getD j (.one .unk)) (vs.getD j undef)
/-- What comes back. -/
structure HO (w w' : World) (M M' : Mem) (m : Nat) (x : V) (ob : List (Nat × (Nat × O))) (v : Value) : Prop where
 only : ∀ i, M'.ver i ≠ none → hits ob i
 inj : ∀ i j k l b, M'.ver i = some k → M'.ver j = some l → M'.blk i = some b → M'.blk j = some b → i = j
 rng : ∀ i k b, M'.ver i = some k → M'.blk i = some b → (w.heap.size ≤ b ∨ (∃ k', M.ver i = some k') ∧ M.blk i = some b) ∧ b < w'.heap.size
 fix : ∀ i k k', i < m → M.ver i = some k → M'.ver i = some k' → M'.blk i = M.blk i
 area : ∀ b, M'.A b ↔ M.A b ∨ w.heap.size ≤ b
 val : VRep w' M' x v
 objs : ∀ i k o, look i ob = some (k, o) → ORep w' M' i k o
def BM (gl : List (Nat × C)) (w : World) (A : Nat → Prop) : Prop := ∀ g c, look g gl = some c → IRep w A c (.pointer (some ⟨g, 0, none⟩))
/-- What a function does: called with such arguments, and such objects of the caller's at hand (n of them; the first m stay in their blocks), it returns such a value; the objects are then such ones, beside new ones; nothing else has changed. -/
def CtX (P : Program) (gl : List (Nat × C)) (f : FuncId) (n m : Nat) (xs : List V1) (oi : List (Nat × (Nat × O))) (x : V) (ob : List (Nat × (Nat × O))) : Prop :=
 ∀ (w : World) (M : Mem) (vs : Array Value), BM gl w M.A → InOk w M n oi → ST w M xs vs → Calls P f vs w fun e w' => ∃ v M', e = .returned v ∧ ZY M.owns w w' ∧ JM w w' ∧ HO w w' M M' m x ob v
/-- What the result variables hold. -/
def qCH (P : Program) (st : St) : ResultVar → Option V1
 | .tmp t => match look t st.slots with | some (.v x) => some x | _ => none
 | .cell a t => match look a st.slots with | some (.v (.one (.bptr id k j))) => (match YU st (.bptr id k j) with | some (cs, _) => FC P t cs | none => none) | _ => none
def SW (P : Program) (st : St) : List ResultVar → Option (List V1)
 | [] => some []
 | r :: rs => match qCH P st r, SW P st rs with | some x, some xs => some (x :: xs) | _, _ => none
def retV (P : Program) (st : St) (rs : List ResultVar) : Option V :=
 match SW P st rs with
 | some [x] => some (.v x)
 | some [] => some .undef
 | some xs => some (.tup xs)
 | none => none
theorem qDB {K : Ctx} {M : Mem} {st : St} {a : Act} {w : World} (h : Sim K M st a w) {r : ResultVar} {x : V1} (hr : qCH K.P st r = some x) :
  ∃ v, (match r with | .tmp t => pure (a.tmps.getD t undef) | .cell b t => do loadVar t (← asAddr (a.tmps.getD b undef)) : Sem Value).run K.P w = .ok v w ∧ qP w M x v := by
 unfold qCH at hr
 split at hr
 ·rename_i t
  split at hr
  ·rename_i y hl; cases hr; exact ⟨_, rfl, h.slots t _ hl⟩
  ·cases hr
 ·rename_i b t
  split at hr
  ·rename_i id k j hl
   split at hr
   ·rename_i cs ob hp
    have hc := h.slots b _ hl
    have hob : ob := by
     unfold YU at hp
     simp only at hp
     split at hp
     ·rename_i k' e cs' hl'
      cases hk : Nat.beq k k' with
      | false => rw [hk] at hp; cases hp
      | true => rw [hk] at hp; cases hp; trivial
     ·cases hp
    obtain ⟨b', o', g, hv, hc1, hc2⟩ := ET h (c := .bptr id k j) hc hp hob
    obtain ⟨v, hv1, hv2⟩ := IM (P := K.P) hr hc1 hc2
    exact ⟨v, by simp only [hv, asAddr, Sem.run_bind, Sem.run_pure, Result.andThen_ok, hv1], hv2⟩
   ·cases hr
  ·cases hr
theorem CO {K : Ctx} {M : Mem} {st : St} {a : Act} {w : World} (h : Sim K M st a w) : ∀ {rs : List ResultVar} {xs : List V1}, SW K.P st rs = some xs →
  ∃ vs : List Value, (rs.mapM fun | .tmp t => pure (a.tmps.getD t undef) | .cell b t => do loadVar t (← asAddr (a.tmps.getD b undef)) : Sem (List Value)).run K.P w = .ok vs w ∧ vs.length = xs.length ∧ ∀ j, j < xs.length → qP w M (xs.getD j (.one .unk)) (vs.getD j undef)
 | [], _, hr => by cases hr; exact ⟨[], rfl, rfl, fun j hj => by simp at hj⟩
 | r :: rs, xs, hr => by
  simp only [SW] at hr
  split at hr
  ·rename_i x ys hx hys
   cases hr
   obtain ⟨v, h1, h2⟩ := qDB h hx
   obtain ⟨vs, h3, h4, h5⟩ := CO h hys
   refine ⟨v :: vs, ?_, by simp [h4], fun j hj => ?_⟩
   ·rw [List.mapM_cons]
    simp only [Sem.run_bind]
    rw [h1]
    simp only [Result.andThen_ok]
    rw [h3]
    rfl
   ·cases j with
    | zero => exact h2
    | succ j => simpa using h5 j (by simpa using hj)
  ·cases hr
theorem qEN {K : Ctx} {M : Mem} {st : St} {a : Act} {w : World} (h : Sim K M st a w) {fn : Func} {x : V} (hr : retV K.P st fn.results.toList = some x) : ∃ v, (results fn a.tmps).run K.P w = .ok v w ∧ VRep w M x v := by
 unfold retV at hr
 have base : ∀ xs, SW K.P st fn.results.toList = some xs → ∃ vs : List Value, (results fn a.tmps).run K.P w = .ok (if h : vs.toArray.size = 1 then vs.toArray[0] else .tuple vs.toArray) w ∧ vs.length = xs.length ∧ ∀ j, j < xs.length → qP w M (xs.getD j (.one .unk)) (vs.getD j undef) := by
  intro xs hxs
  obtain ⟨vs, h1, h2, h3⟩ := CO h hxs
  refine ⟨vs, ?_, h2, h3⟩
  unfold results
  simp only [Sem.run_bind]
  rw [Array.mapM_eq_mapM_toList, Sem.run_map]
  exact congrArg (fun r : Result (List Value) => (r.andThen fun a w' => Result.ok a.toArray w').andThen fun a w' => Sem.run K.P (pure (if h : a.size = 1 then a[0] else Value.tuple a)) w') h1
 split at hr
 ·rename_i y hy
  cases hr
  obtain ⟨vs, h1, h2, h3⟩ := base _ hy
  match vs, h2 with
  | [v], _ => exact ⟨v, by simpa using h1, show qP w M y v by simpa using h3 0 (by simp)⟩
 ·rename_i hy
  cases hr
  obtain ⟨vs, h1, h2, h3⟩ := base _ hy
  match vs, h2 with
  | [], _ => exact ⟨.tuple #[], by simpa using h1, rfl⟩
 ·rename_i xs hx1 hx2 hy
  cases hr
  obtain ⟨vs, h1, h2, h3⟩ := base _ hy
  have hne : vs.toArray.size ≠ 1 := by
   simp only [List.size_toArray, h2]
   match xs, hx1 with
   | [], _ => simp
   | [x], hx => exact absurd rfl (hx x)
   | _ :: _ :: _, _ => simp
  refine ⟨.tuple vs.toArray, by rw [dif_neg hne] at h1; exact h1, vs.toArray, rfl, by simpa using h2, fun j hj => ?_⟩
  have := h3 j hj
  simpa [Array.getD_eq_getD_getElem?, List.getD_eq_getElem?_getD] using this
 ·cases hr
/-- A function's end. -/
def RetQ (P : Program) (fn : Func) (x : V) (ob : List (Nat × (Nat × O))) : Exit → St → Prop
 | .ret, st | .normal, st => retV P st.rev fn.results.toList = some x ∧ ob.map (fun p => look p.1 st.rev.objs) = ob.map fun p => some p.2
 | _, _ => False
def MI : Nat → List V1 → List (Nat × V)
 | _, [] => []
 | k, x :: xs => (k, .v x) :: MI (k + 1) xs
theorem zbQ : ∀ (xs : List V1) (k s : Nat) (x : V), look s (MI k xs) = some x → ∃ j, s = k + j ∧ j < xs.length ∧ x = .v (xs.getD j (.one .unk))
 | [], _, _, _, h => by cases h
 | y :: xs, k, s, x, h => by
  simp only [MI, look_cons] at h
  split at h
  ·rename_i hk; cases h; exact ⟨0, by omega, by simp, rfl⟩
  ·obtain ⟨j, h1, h2, h3⟩ := zbQ xs (k + 1) s x h
   exact ⟨j + 1, by omega, by simpa using h2, by simpa using h3⟩
/-- Nothing of the objects that are handed in is stale. -/
theorem qEQ {P : Program} {gl : List (Nat × C)} {f : FuncId} {fn : Func} {c : Code} {n m : Nat} {xs : List V1} {oi : List (Nat × (Nat × O))} {x : V} {ob : List (Nat × (Nat × O))} (hm : P.follows .mixedOrders = true) (hf : P.funcs[f]? = some fn) (hb : fn.body = some c) (hn : Nat.ble xs.length fn.ntmps = true)
  (h : ∀ (w : World) (A : Nat → Prop) (In : Nat → Option Nat) (hI : ∀ i b, In i = some b → i < n ∧ b < w.heap.size ∧ ¬ A b) (hg : BM gl w A), H { P := P, w0 := w, nt := fn.ntmps, A := A, globs := gl, mixed := hm, glob := hg, n := n, m := m, In := In, hIn := hI } { slots := MI 0 xs, objs := oi } c (RetQ P fn x ob)) : CtX P gl f n m xs oi x ob := by
 intro w M vs hg hin ha
 have hle := Nat.le_of_ble_eq_true hn
 have hI : ∀ i b, (fun i => if M.ver i = none then none else M.blk i) i = some b → i < n ∧ b < w.heap.size ∧ ¬ M.A b := fun i b hi => by
  simp only at hi
  split at hi
  ·cases hi
  ·rename_i hv
   obtain ⟨k, hk⟩ := Option.ne_none_iff_exists'.1 hv
   exact hin.rng i k b hk hi
 -- the areas alone differ
 have himm : ∀ b, M.imm b → b < w.heap.size → Mem.imm { M with A := fun b => M.A b ∨ w.heap.size ≤ b } b := fun b hb _ => ⟨.inl hb.1, hb.2⟩
 have hir : ∀ {c : C} {v : Value}, IRep w M.imm c v → IRep w (Mem.imm { M with A := fun b => M.A b ∨ w.heap.size ≤ b }) c v := fun hr => hr.move (fun _ _ _ => rfl) himm
 have hcr : ∀ {c : C} {v : Value}, CRep w M c v → CRep w { M with A := fun b => M.A b ∨ w.heap.size ≤ b } c v := fun {c v} hr => by
  cases c with
  | own id k sz len => exact hr
  | sub id k sz off len => exact hr
  | bptr id k j => exact hr
  | rptr id k sz i j => exact hr
  | fn g caps =>
   obtain ⟨vs, h1, h2, h3⟩ := hr
   refine ⟨vs, h1, h2, fun j hj => ?_⟩
   have := h3 j hj
   generalize caps.getD j .unk = c at this
   cases c with
   | bptr id k j => exact this
   | _ => exact hir this
  | yl R b ts caps =>
   refine ⟨hr.1, fun j hj => ?_⟩
   have := hr.2 j hj
   generalize caps.getD j .unk = c at this
   cases c with
   | bptr id k j => exact this
   | _ => exact hir this
  | unk => exact hr
  | val v => exact hir hr
  | emp => exact hir hr
  | lst n f => exact hir hr
  | lptr cs => exact hir hr
  | aptr n sz f => exact hir hr
 refine callsIn_wide.1 (callsIn_of_wp_marks (n := 0) hf hb trivial (wpIn_mono (h w M.A _ hI hg { M with A := fun b => M.A b ∨ w.heap.size ≤ b } _ w ⟨⟨hin.inj, fun i k b hv hb => ?_, fun i k _ hv => ?_, ZY.refl _ _, JM.refl _, fun b => Iff.rfl, ?_, VM.nil, ?_, ?_⟩, ?_⟩) ?_))
 ·refine ⟨.inr ?_, (hin.rng i k b hv hb).2.1⟩
  have hv' : M.ver i = some k := hv
  simp only [hv', reduceCtorEq, if_false]
  exact hb
 ·have hv' : M.ver i = some k := hv
  simp only [hv', reduceCtorEq, if_false]
 ·have := ha.1; simp; omega
 ·intro s y hy
  obtain ⟨j, rfl, hj, rfl⟩ := zbQ xs 0 s y hy
  have h1 := ha.2 j hj
  have hjs : j < vs.size := by rw [ha.1]; exact hj
  have hget : (vs ++ Array.replicate (fn.ntmps - vs.size) undef).getD (0 + j) undef = vs.getD j undef := by
   simp only [Nat.zero_add, Array.getD_eq_getD_getElem?, Array.getElem?_append_left hjs]
  rw [hget]
  show qP _ _ _ _
  generalize xs.getD j (.one .unk) = y at h1
  cases y with
  | one c => exact hcr h1
  | agg cs => obtain ⟨us, hu, hc⟩ := h1; exact ⟨us, hu, hc.1, fun j hj => hcr (hc.2 j hj)⟩
 ·intro i k o ho
  have := hin.objs i k o ho
  cases o with
  | box e cs => obtain ⟨h1, b, arr, h2, h3, h4⟩ := this; exact ⟨h1, b, arr, h2, h3, h4.1, fun j hj => hcr (h4.2 j hj)⟩
  | row e sz n f =>
   refine ⟨this.1, ?_⟩
   rcases this.2 with h0 | ⟨b, arr, h2, h3, h4, h5⟩
   ·exact .inl h0
   ·exact .inr ⟨b, arr, h2, h3, h4, fun i hi => ⟨(h5 i hi).1, fun j hj => hir ((h5 i hi).2 j hj)⟩⟩
  | lp R b s j => exact this
 ·intro i hi; exact hin.only i hi
 ·rintro e a' w' ⟨M', st', hq, hsim⟩
  have fin : ∀ st' w' a', Sim1 { P := P, w0 := w, nt := fn.ntmps, A := M.A, globs := gl, mixed := hm, glob := hg, n := n, m := m, In := fun i => if M.ver i = none then none else M.blk i, hIn := hI } M' st' a' w' → retV P st'.rev fn.results.toList = some x ∧ ob.map (fun p => look p.1 st'.rev.objs) = (ob.map fun p => some p.2) →
    ∃ v, (results fn a'.tmps).run P w' = .ok v w' ∧ (∃ v' M', Ending.returned v = .returned v' ∧ ZY M.owns w w' ∧ JM w w' ∧ HO w w' M M' m x ob v') := by
   intro st' w' a' hsim ⟨h1, h2⟩
   have hrev := hsim.rev
   obtain ⟨v, hv, hvr⟩ := qEN hrev.1 h1
   have hIn : ∀ i b, (if M.ver i = none then none else M.blk i) = some b → (∃ k', M.ver i = some k') ∧ M.blk i = some b := fun i b hi => by
    split at hi
    ·cases hi
    ·rename_i hne; exact ⟨Option.ne_none_iff_exists'.1 hne, hi⟩
   refine ⟨v, hv, v, (M'.rev st'.objs).keep ob, rfl, ⟨hsim.1.below.os, hsim.1.below.tape, hsim.1.below.output, hsim.1.below.size, fun b hb hnb => hsim.1.below.block b hb fun ⟨i, hi⟩ => ?_, hsim.1.below.drawn⟩, hsim.1.shape,
    ⟨fun i hi => ?_, fun i j k l b hi hj hbi hbj => hrev.1.inj i j k l b (zG hi) (zG hj) hbi hbj, fun i k b hvi hbi => ?_, fun i k k' him hk hv' => ?_, fun b => hsim.1.area b, SP hvr, fun i k o ho => ?_⟩⟩
   ·obtain ⟨⟨k', hk'⟩, hbk⟩ := hIn i b hi
    exact hnb ⟨i, k', hk', hbk⟩
   ·simp only [Mem.keep] at hi
    split at hi
    ·assumption
    ·exact absurd rfl hi
   ·obtain ⟨h1, h2⟩ := hrev.1.rng i k b (zG hvi) hbi
    exact ⟨h1.imp id (hIn i b), h2⟩
   ·have := hrev.1.fix i k' him (zG hv')
    simp only [hk, reduceCtorEq, if_false] at this
    exact this
   ·exact SY (by rw [ho]; rfl) (hrev.1.objs i k o (FV (g := fun s => look s st'.rev.objs) h2 ho))
  cases e with
  | normal => exact LN (fun w2 h2 => fin st' w2 _ h2 hq) a'.defers w' hsim
  | ret => exact LN (fun w2 h2 => fin st' w2 _ h2 hq) a'.defers w' hsim
  | exit id => exact hq.elim
  | goto l => exact hq.elim
  | panic c => exact hq.elim
  | outgrown => exact hq.elim
end Go.SL

namespace Go.SL
open Go.RowKit
/-! ### Numbers: the callee's 0, 1, .. are the caller's objects 'ren' -/
def rid (y : Nat) : List (Nat × Nat) → Option Nat
 | [] => none
 | p :: r => bif Nat.beq p.1 y then some 0 else (match rid y r with | some i => some (i + 1) | none => none)
def ridx (ren : List (Nat × Nat)) (id k : Nat) : Option Nat :=
 match rid id ren with | some i => (match ren[i]? with | some p => bif Nat.beq p.2 k then some i else none | none => none) | none => none
theorem HP {y : Nat} : ∀ {ren : List (Nat × Nat)} {i : Nat}, rid y ren = some i → ∃ k, ren[i]? = some (y, k)
 | [], _, h => by cases h
 | p :: r, i, h => by
  simp only [rid] at h
  cases hb : Nat.beq p.1 y with
  | true =>
   rw [hb] at h
   cases h
   exact ⟨p.2, by rw [← Nat.eq_of_beq_eq_true hb]; rfl⟩
  | false =>
   rw [hb] at h
   simp only [cond_false] at h
   split at h
   ·rename_i j hj; cases h; obtain ⟨k, hk⟩ := HP hj; exact ⟨k, by simpa using hk⟩
   ·cases h
theorem qCE {y : Nat} : ∀ {ren : List (Nat × Nat)}, rid y ren = none → ∀ (i k : Nat), ren[i]? ≠ some (y, k)
 | [], _, i, k => by simp
 | p :: r, h, i, k => by
  simp only [rid] at h
  cases hb : Nat.beq p.1 y with
  | true => rw [hb] at h; cases h
  | false =>
   rw [hb] at h
   simp only [cond_false] at h
   split at h
   ·cases h
   ·rename_i hj
    cases i with
    | zero => intro he; cases he; rw [Nat.beq_refl] at hb; cases hb
    | succ i => simpa using qCE hj i k
theorem GN {ren : List (Nat × Nat)} {id k i : Nat} (h : ridx ren id k = some i) : ren[i]? = some (id, k) := by
 unfold ridx at h
 split at h
 ·rename_i j hj
  obtain ⟨k', hk'⟩ := HP hj
  rw [hk'] at h
  simp only at h
  cases hb : Nat.beq k' k with
  | false => rw [hb] at h; cases h
  | true => rw [hb] at h; cases h; rw [hk', Nat.eq_of_beq_eq_true hb]
 ·cases h
/-- No object twice; all numbers below 'top'. -/
def QG (top : Nat) : List (Nat × Nat) → Bool
 | [] => true
 | p :: r => Nat.blt p.1 top && ((rid p.1 r).isNone && QG top r)
theorem qCM {top : Nat} : ∀ {ren : List (Nat × Nat)}, QG top ren = true → ∀ (i : Nat) (p : Nat × Nat), ren[i]? = some p → p.1 < top
 | [], _, i, p, h => by simp at h
 | q :: r, hr, i, p, h => by
  simp only [QG, Bool.and_eq_true] at hr
  cases i with
  | zero => cases h; simpa [Nat.blt_eq] using hr.1
  | succ i => exact qCM hr.2.2 i p (by simpa using h)
theorem FN {top : Nat} : ∀ {ren : List (Nat × Nat)}, QG top ren = true → ∀ (i y k : Nat), ren[i]? = some (y, k) → rid y ren = some i
 | [], _, i, y, k, h => by simp at h
 | q :: r, hr, i, y, k, h => by
  simp only [QG, Bool.and_eq_true] at hr
  cases i with
  | zero => cases h; simp [rid]
  | succ i =>
   have h' : r[i]? = some (y, k) := by simpa using h
   have ih := FN hr.2.2 i y k h'
   have hne : Nat.beq q.1 y = false := by
    cases hb : Nat.beq q.1 y with
    | false => rfl
    | true =>
     rw [Nat.eq_of_beq_eq_true hb, ih] at hr
     cases hr.2.1
   simp only [rid, hne, cond_false, ih]
/-! ### What is handed on -/
/-- A cell as the callee sees it; the last component: no slice of the caller's own is shown as one that does not change. -/
def C.into (st : St) (ren : List (Nat × Nat)) : C → Option (C × Option Prop × Bool)
 | .own id k sz len => match ridx ren id k with
  | some i => some (.own i 0 sz len, none, true)
  | none => (match look id st.objs, rid id ren with | some (k', .row _ sz' n f), none => bif Nat.beq k k' && Nat.beq sz sz' && Nat.blt 0 sz then some (.lst len f, some (len ≤ n), false) else none | _, _ => none)
 | .sub id k sz off len => match ridx ren id k with
  | some i => some (.sub i 0 sz off len, none, true)
  | none => (match look id st.objs, rid id ren with | some (k', .row _ sz' n f), none => bif Nat.beq k k' && Nat.beq sz sz' && Nat.blt 0 sz then some (.lst len (fun i => f (off + i)), some (off + len ≤ n), false) else none | _, _ => none)
 | .bptr id k j => match ridx ren id k with | some i => some (.bptr i 0 j, none, true) | none => none
 | .rptr id k sz x j => match ridx ren id k with | some i => some (.rptr i 0 sz x j, none, true) | none => none
 | .fn g caps => match capsInto ren caps with | some cs => some (.fn g cs, none, true) | none => none
 | .yl R b ts caps => match capsInto ren caps with | some cs => some (.yl R b ts cs, none, true) | none => none
 | .unk => some (.unk, none, true)
 | c => some (c, none, true)
where
 capInto (ren : List (Nat × Nat)) : C → Option C
  | .bptr id k j => match ridx ren id k with | some i => some (.bptr i 0 j) | none => none
  | c => some c
 capsInto (ren : List (Nat × Nat)) : List C → Option (List C)
  | [] => some []
  | c :: r => match capInto ren c, capsInto ren r with | some d, some ds => some (d :: ds) | _, _ => none
def MS (st : St) (ren : List (Nat × Nat)) : List C → Option (List C × Option Prop × Bool)
 | [] => some ([], none, true)
 | c :: r => match c.into st ren, MS st ren r with | some (d, p, b), some (ds, q, b') => some (d :: ds, an p q, b && b') | _, _ => none
def V1.into (st : St) (ren : List (Nat × Nat)) : V1 → Option (V1 × Option Prop × Bool)
 | .one c => match c.into st ren with | some (d, p, b) => some (.one d, p, b) | none => none
 | .agg cs => match MS st ren cs with | some (ds, p, b) => some (.agg ds, p, b) | none => none
def WF (st : St) (ren : List (Nat × Nat)) : List V1 → Option (List V1 × Option Prop × Bool)
 | [] => some ([], none, true)
 | x :: r => match x.into st ren, WF st ren r with | some (y, p, b), some (ys, q, b') => some (y :: ys, an p q, b && b') | _, _ => none
/-- An object that is handed in: nothing in it may be shown otherwise than it is. -/
def O.into (st : St) (ren : List (Nat × Nat)) : O → Option O
 | .box e cs => match MS st ren cs with | some (ds, _, true) => some (.box e ds) | _ => none
 | .row e sz n f => some (.row e sz n f)
 | .lp R b s j => some (.lp R b s j)
def yL (st : St) (ren : List (Nat × Nat)) : Nat → List (Nat × Nat) → Option (List (Nat × (Nat × O)))
 | _, [] => some []
 | j, (id, k) :: r => match look id st.objs, yL st ren (j + 1) r with
  | some (k', o), some os => bif Nat.beq k k' then (match o.into st ren with | some o' => some ((j, (0, o')) :: os) | none => none) else none
  | _, _ => none
/-- The memory as the callee knows it. -/
def Mem.inn (M : Mem) (ren : List (Nat × Nat)) (A : Nat → Prop) : Mem := { ver := fun i => (ren[i]?).map fun _ => 0, blk := fun i => (ren[i]?).bind fun p => M.blk p.1, A := A }
section
variable {K : Ctx} {M : Mem} {st : St} {a : Act} {w : World} {ren : List (Nat × Nat)} {A : Nat → Prop}
theorem GJ {i id k : Nat} (h : ren[i]? = some (id, k)) : (M.inn ren A).ver i = some 0 ∧ (M.inn ren A).blk i = M.blk id := by
 simp [Mem.inn, h]
theorem PZ {i k : Nat} (h : (M.inn ren A).ver i = some k) : k = 0 ∧ ∃ p, ren[i]? = some p ∧ (M.inn ren A).blk i = M.blk p.1 := by
 simp only [Mem.inn, Option.map_eq_some_iff] at h
 obtain ⟨p, hp, rfl⟩ := h
 exact ⟨rfl, p, hp, by simp [Mem.inn, hp]⟩
/-- What is asked of the callee's area. -/
structure Area (M : Mem) (st : St) (ren : List (Nat × Nat)) (A : Nat → Prop) (views : Bool) : Prop where
 imm : ∀ b, M.imm b → A b
 out : ∀ (i : Nat) (p : Nat × Nat) (b : Nat), ren[i]? = some p → M.blk p.1 = some b → ¬ A b
 view : views = true → ∀ id k b, rid id ren = none → M.ver id = some k → M.blk id = some b → A b
theorem qDx {views : Bool} (hA : Area M st ren A views) {b : Nat} (hb : A b) : (M.inn ren A).imm b :=
 ⟨hb, fun ⟨i, k, hv, hbk⟩ => by
  obtain ⟨_, p, hp, he⟩ := PZ hv
  rw [he] at hbk
  exact hA.out i p b hp hbk hb⟩
theorem inn_irep {views : Bool} (hA : Area M st ren A views) {c : C} {v : Value} (h : IRep w M.imm c v) : IRep w (M.inn ren A).imm c v :=
 h.move (fun _ _ _ => rfl) fun b hb _ => qDx hA (hA.imm b hb)
theorem qC8 {views : Bool} (h : Sim K M st a w) (hA : Area M st ren A views) (hren : ∀ (i id k : Nat), ren[i]? = some (id, k) → M.ver id = some k) {c d : C} {v : Value} (hc : C.into.capInto ren c = some d) (hr : zJ w M c v) : zJ w (M.inn ren A) d v := by
 cases c with
 | bptr id k j =>
  simp only [C.into.capInto] at hc
  split at hc
  ·rename_i i hi
   cases hc
   obtain ⟨b, h1, hx⟩ := hr
   have := GN hi
   exact ⟨b, h1, fun _ => by rw [(GJ this).2]; exact hx (hren _ _ _ this)⟩
  ·cases hc
 | _ => cases hc; exact inn_irep hA hr
theorem NO {views : Bool} (h : Sim K M st a w) (hA : Area M st ren A views) (hren : ∀ (i id k : Nat), ren[i]? = some (id, k) → M.ver id = some k) : ∀ {cs ds : List C}, C.into.capsInto ren cs = some ds → ds.length = cs.length ∧ ∀ j v, j < cs.length → zJ w M (cs.getD j .unk) v → zJ w (M.inn ren A) (ds.getD j .unk) v
 | [], _, hr => by cases hr; exact ⟨rfl, fun j v hj => absurd hj (Nat.not_lt_zero j)⟩
 | p :: r, caps', hr => by
  simp only [C.into.capsInto] at hr
  split at hr
  ·rename_i q r' h1 h2
   cases hr
   obtain ⟨i1, i2⟩ := NO h hA hren h2
   refine ⟨by simp [i1], fun j v hj hp => ?_⟩
   cases j with
   | zero => exact qC8 h hA hren h1 hp
   | succ j => exact i2 j v (by simpa using hj) hp
  ·cases hr
/-- A part of a row, seen as one that does not change. -/
theorem qCk {views : Bool} (h : Sim K M st a w) (hA : Area M st ren A views) (hviews : views = true) {id k e sz n len off : Nat} {f : Nat → List C} {v : Value} (hl : look id st.objs = some (k, .row e sz n f)) (hid : rid id ren = none) (hpos : 0 < sz) (hle : off + len ≤ n)
  (hc : (len = 0 ∧ ∃ a, v = .slice a 0 0) ∨ ∃ b cap, v = .slice (some ⟨b, off * sz, none⟩) len cap ∧ len ≤ cap ∧ cap ≤ maxLen ∧ (M.ver id = some k → M.blk id = some b ∧ ∃ arr e, w.heap[b]? = some (.cells arr e (0, 0)) ∧ arr.size = (off + cap) * sz)) (g : Nat → List C) (hg : ∀ i, i < len → g i = f (off + i)) :
  IRep w (M.inn ren A).imm (.lst len g) v := by
 obtain ⟨hver, hrow⟩ := h.objs id k _ hl
 rcases hc with ⟨h0, b, rfl⟩ | ⟨b, cap, rfl, h1, h2, hx⟩
 ·subst h0; exact .lst0 _ _
 ·obtain ⟨hb, arr, e', hh, hsize⟩ := hx hver
  by_cases hz : len = 0
  ·subst hz
   exact .lst b (off * sz) 0 cap 0 _ (fun _ _ => undef) (Nat.zero_le _) h2 (fun i hi => by omega) (fun i j hi => by omega) (fun i j hi => by omega) (fun i j hi => by omega)
  ·rcases hrow with ⟨hnone, _⟩ | ⟨b', arr', hb', hh', hns, hcr⟩
   ·rw [hb] at hnone; cases hnone
   ·have hbb : b' = b := Option.some.inj (hb'.symm.trans hb)
    subst hbb
    rw [hh] at hh'
    cases hh'
    refine .lst b' (off * sz) len cap sz g (fun i j => arr.getD ((off + i) * sz + j) undef) h1 h2 (fun i hi => by rw [hg i hi]; exact (hcr (off + i) (by omega)).1) (fun i j hi hj => qDx hA (hA.view hviews id k b' hid hver hb)) (fun i j hi hj => ?_) (fun i j hi hj => by rw [hg i hi]; exact inn_irep hA ((hcr (off + i) (by omega)).2 j hj))
    have := yW (n := n) (show off + i < n by omega) hj
    rw [show off * sz + (i * sz + j) = (off + i) * sz + j by rw [Nat.add_mul]; omega]
    exact cell_of_row' hh (by omega)
theorem into_crep {views : Bool} (h : Sim K M st a w) (hA : Area M st ren A views) (hren : ∀ (i id k : Nat), ren[i]? = some (id, k) → M.ver id = some k) {c d : C} {p : Option Prop} {b : Bool} {v : Value} (hc : c.into st ren = some (d, p, b)) (hp : oP p) (hb : b = true ∨ views = true) (hr : CRep w M c v) : CRep w (M.inn ren A) d v := by
 cases c with
 | own id k sz len =>
  simp only [C.into] at hc
  split at hc
  ·rename_i i hi
   cases hc
   have hi' := GN hi
   rcases hr with h0 | ⟨b, cap, h1, h2, h3, hx⟩
   ·exact .inl h0
   ·exact .inr ⟨b, cap, h1, h2, h3, fun _ => by rw [(GJ hi').2]; exact hx (hren _ _ _ hi')⟩
  ·split at hc
   ·rename_i k' e sz' n f hl hid
    cases hk : Nat.beq k k' && Nat.beq sz sz' && Nat.blt 0 sz with
    | false => rw [hk] at hc; cases hc
    | true =>
     rw [hk] at hc
     cases hc
     simp only [Bool.and_eq_true, Nat.blt_eq] at hk
     have hkk := Nat.eq_of_beq_eq_true hk.1.1
     have hss := Nat.eq_of_beq_eq_true hk.1.2
     subst hkk hss
     have hp' : len ≤ n := hp
     refine qCk h hA (hb.resolve_left (by decide)) (off := 0) hl hid hk.2 (by omega) ?_ f (fun i _ => by rw [Nat.zero_add])
     simp only [Nat.zero_mul, Nat.zero_add]
     exact hr
   ·cases hc
 | sub id k sz off len =>
  simp only [C.into] at hc
  split at hc
  ·rename_i i hi
   cases hc
   have hi' := GN hi
   rcases hr with h0 | ⟨b, cap, h1, h2, h3, hx⟩
   ·exact .inl h0
   ·exact .inr ⟨b, cap, h1, h2, h3, fun _ => by rw [(GJ hi').2]; exact hx (hren _ _ _ hi')⟩
  ·split at hc
   ·rename_i k' e sz' n f hl hid
    cases hk : Nat.beq k k' && Nat.beq sz sz' && Nat.blt 0 sz with
    | false => rw [hk] at hc; cases hc
    | true =>
     rw [hk] at hc
     cases hc
     simp only [Bool.and_eq_true, Nat.blt_eq] at hk
     have hkk := Nat.eq_of_beq_eq_true hk.1.1
     have hss := Nat.eq_of_beq_eq_true hk.1.2
     subst hkk hss
     exact qCk h hA (hb.resolve_left (by decide)) hl hid hk.2 hp hr _ (fun i _ => rfl)
   ·cases hc
 | bptr id k j =>
  simp only [C.into] at hc
  split at hc
  ·rename_i i hi
   cases hc
   have hi' := GN hi
   obtain ⟨b, h1, hx⟩ := hr
   exact ⟨b, h1, fun _ => by rw [(GJ hi').2]; exact hx (hren _ _ _ hi')⟩
  ·cases hc
 | rptr id k sz x j =>
  simp only [C.into] at hc
  split at hc
  ·rename_i i hi
   cases hc
   have hi' := GN hi
   obtain ⟨b, h1, hx⟩ := hr
   exact ⟨b, h1, fun _ => by rw [(GJ hi').2]; exact hx (hren _ _ _ hi')⟩
  ·cases hc
 | fn g caps =>
  simp only [C.into] at hc
  split at hc
  ·rename_i cs hcs
   cases hc
   obtain ⟨i1, i2⟩ := NO h hA hren hcs
   obtain ⟨vs, hv, hs, hx⟩ := hr
   exact ⟨vs, hv, by rw [i1]; exact hs, fun j hj => i2 j _ (by omega) (hx j (by omega))⟩
  ·cases hc
 | yl R b ts caps =>
  simp only [C.into] at hc
  split at hc
  ·rename_i cs hcs
   cases hc
   obtain ⟨i1, i2⟩ := NO h hA hren hcs
   exact ⟨hr.1, fun j hj => i2 j _ (by omega) (hr.2 j (by omega))⟩
  ·cases hc
 | unk => cases hc; exact hr
 | val v => cases hc; exact inn_irep hA hr
 | emp => cases hc; exact inn_irep hA hr
 | lst n f => cases hc; exact inn_irep hA hr
 | lptr cs => cases hc; exact inn_irep hA hr
 | aptr n sz f => cases hc; exact inn_irep hA hr
theorem AC {views : Bool} (h : Sim K M st a w) (hA : Area M st ren A views) (hren : ∀ (i id k : Nat), ren[i]? = some (id, k) → M.ver id = some k) : ∀ {cs ds : List C} {p : Option Prop} {b : Bool}, MS st ren cs = some (ds, p, b) → oP p → (b = true ∨ views = true) → ds.length = cs.length ∧ ∀ j v, j < cs.length → CRep w M (cs.getD j .unk) v → CRep w (M.inn ren A) (ds.getD j .unk) v
 | [], _, _, _, hr, _, _ => by cases hr; exact ⟨rfl, fun j v hj => absurd hj (Nat.not_lt_zero j)⟩
 | c :: r, _, _, _, hr, hp, hb => by
  simp only [MS] at hr
  split at hr
  ·rename_i d p1 b1 ds p2 b2 h1 h2
   cases hr
   have hb1 : b1 = true ∨ views = true := hb.imp (fun h => by rw [Bool.and_eq_true] at h; exact h.1) id
   have hb2 : b2 = true ∨ views = true := hb.imp (fun h => by rw [Bool.and_eq_true] at h; exact h.2) id
   obtain ⟨hp1, hp2⟩ := wK hp
   obtain ⟨i1, i2⟩ := AC h hA hren h2 hp2 hb2
   refine ⟨by simp [i1], fun j v hj hq => ?_⟩
   cases j with
   | zero => exact into_crep h hA hren h1 hp1 hb1 hq
   | succ j => exact i2 j v (by simpa using hj) hq
  ·cases hr
theorem qDI {views : Bool} (h : Sim K M st a w) (hA : Area M st ren A views) (hren : ∀ (i id k : Nat), ren[i]? = some (id, k) → M.ver id = some k) {x y : V1} {p : Option Prop} {b : Bool} {v : Value} (hx : x.into st ren = some (y, p, b)) (hp : oP p) (hb : b = true ∨ views = true) (hr : qP w M x v) : qP w (M.inn ren A) y v := by
 cases x with
 | one c =>
  simp only [V1.into] at hx
  split at hx
  ·rename_i d p' b' hd; cases hx; exact into_crep h hA hren hd hp hb hr
  ·cases hx
 | agg cs =>
  simp only [V1.into] at hx
  split at hx
  ·rename_i ds p' b' hd
   cases hx
   obtain ⟨vs, hv, hs, hc⟩ := hr
   obtain ⟨i1, i2⟩ := AC h hA hren hd hp hb
   exact ⟨vs, hv, by rw [i1]; exact hs, fun j hj => i2 j _ (by omega) (hc j (by omega))⟩
  ·cases hx
theorem IQ {views : Bool} (h : Sim K M st a w) (hA : Area M st ren A views) (hren : ∀ (i id k : Nat), ren[i]? = some (id, k) → M.ver id = some k) : ∀ {xs ys : List V1} {p : Option Prop} {b : Bool}, WF st ren xs = some (ys, p, b) → oP p → (b = true ∨ views = true) → ys.length = xs.length ∧ ∀ j v, j < xs.length → qP w M (xs.getD j (.one .unk)) v → qP w (M.inn ren A) (ys.getD j (.one .unk)) v
 | [], _, _, _, hr, _, _ => by cases hr; exact ⟨rfl, fun j v hj => absurd hj (Nat.not_lt_zero j)⟩
 | c :: r, _, _, _, hr, hp, hb => by
  simp only [WF] at hr
  split at hr
  ·rename_i d p1 b1 ds p2 b2 h1 h2
   cases hr
   have hb1 : b1 = true ∨ views = true := hb.imp (fun h => by rw [Bool.and_eq_true] at h; exact h.1) id
   have hb2 : b2 = true ∨ views = true := hb.imp (fun h => by rw [Bool.and_eq_true] at h; exact h.2) id
   obtain ⟨hp1, hp2⟩ := wK hp
   obtain ⟨i1, i2⟩ := IQ h hA hren h2 hp2 hb2
   refine ⟨by simp [i1], fun j v hj hq => ?_⟩
   cases j with
   | zero => exact qDI h hA hren h1 hp1 hb1 hq
   | succ j => exact i2 j v (by simpa using hj) hq
  ·cases hr
theorem qD7 {c d : C} {p : Option Prop} (h : c.into st ren = some (d, p, true)) : p = none := by
 cases c with
 | own id k sz len =>
  simp only [C.into] at h
  split at h
  ·cases h; rfl
  ·split at h
   ·cases hk : Nat.beq k _ && Nat.beq sz _ && Nat.blt 0 sz with
    | false => rw [hk] at h; cases h
    | true => rw [hk] at h; cases h
   ·cases h
 | sub id k sz off len =>
  simp only [C.into] at h
  split at h
  ·cases h; rfl
  ·split at h
   ·cases hk : Nat.beq k _ && Nat.beq sz _ && Nat.blt 0 sz with
    | false => rw [hk] at h; cases h
    | true => rw [hk] at h; cases h
   ·cases h
 | bptr id k j => simp only [C.into] at h; split at h <;> cases h; rfl
 | rptr id k sz x j => simp only [C.into] at h; split at h <;> cases h; rfl
 | fn g caps => simp only [C.into] at h; split at h <;> cases h; rfl
 | yl R b ts caps => simp only [C.into] at h; split at h <;> cases h; rfl
 | unk => cases h; rfl
 | val v => cases h; rfl
 | emp => cases h; rfl
 | lst n f => cases h; rfl
 | lptr cs => cases h; rfl
 | aptr n sz f => cases h; rfl
theorem LX : ∀ {cs ds : List C} {p : Option Prop}, MS st ren cs = some (ds, p, true) → oP p
 | [], _, _, h => by cases h; trivial
 | c :: r, _, _, h => by
  simp only [MS] at h
  split at h
  ·rename_i d p1 b1 ds p2 b2 h1 h2
   simp only [Option.some.injEq, Prod.mk.injEq] at h
   obtain ⟨_, rfl, hb⟩ := h
   rw [Bool.and_eq_true] at hb
   obtain ⟨rfl, rfl⟩ := hb
   rw [qD7 h1]
   exact LX h2
  ·cases h
theorem qD9 {views : Bool} (h : Sim K M st a w) (hA : Area M st ren A views) (hren : ∀ (i id k : Nat), ren[i]? = some (id, k) → M.ver id = some k) {o o' : O} {i id k : Nat} (ho : o.into st ren = some o') (hi : ren[i]? = some (id, k)) (hr : ORep w M id k o) : ORep w (M.inn ren A) i 0 o' := by
 obtain ⟨hv, hb⟩ := GJ (M := M) (A := A) hi
 cases o with
 | box e cs =>
  simp only [O.into] at ho
  split at ho
  ·rename_i ds p hd
   cases ho
   obtain ⟨_, b, arr, h1, h2, h3, h4⟩ := hr
   obtain ⟨i1, i2⟩ := AC h hA hren hd (LX hd) (.inl rfl)
   exact ⟨hv, b, arr, by rw [hb]; exact h1, h2, by rw [i1]; exact h3, fun j hj => i2 j _ (by omega) (h4 j (by omega))⟩
  ·cases ho
 | row e sz n f =>
  cases ho
  refine ⟨hv, ?_⟩
  rcases hr.2 with ⟨h0, h1⟩ | ⟨b, arr, h1, h2, h3, h4⟩
  ·exact .inl ⟨by rw [hb]; exact h0, h1⟩
  ·exact .inr ⟨b, arr, by rw [hb]; exact h1, h2, h3, fun i hi => ⟨(h4 i hi).1, fun j hj => inn_irep hA ((h4 i hi).2 j hj)⟩⟩
 | lp R b s j => cases ho; exact ⟨hv, by rw [hb]; exact hr.2.1, hr.2.2⟩
theorem EA : ∀ {l : List (Nat × Nat)} {s : Nat} {oi : List (Nat × (Nat × O))}, yL st ren s l = some oi → ∀ i k o, look i oi = some (k, o) → ∃ id k' o', s ≤ i ∧ l[i - s]? = some (id, k') ∧ k = 0 ∧ look id st.objs = some (k', o') ∧ o'.into st ren = some o
 | [], _, _, h, i, k, o, hl => by cases h; cases hl
 | (id, kk) :: r, s, oi, h, i, k, o, hl => by
  simp only [yL] at h
  split at h
  ·rename_i k' o' os h1 h2
   cases hb : Nat.beq kk k' with
   | false => rw [hb] at h; cases h
   | true =>
    rw [hb] at h
    simp only [cond_true] at h
    split at h
    ·rename_i o2 h3
     cases h
     have hkk := Nat.eq_of_beq_eq_true hb
     subst hkk
     rw [look_cons] at hl
     split at hl
     ·rename_i hs
      cases hl
      exact ⟨id, kk, o', by omega, by rw [← hs, Nat.sub_self]; rfl, rfl, h1, h3⟩
     ·obtain ⟨id', k', o', e1, e2, e3⟩ := EA h2 i k o hl
      exact ⟨id', k', o', by omega, by rw [show i - s = (i - (s + 1)) + 1 by omega]; simpa using e2, e3⟩
    ·cases h
  ·cases h
theorem LO : ∀ {l : List (Nat × Nat)} {s : Nat} {oi : List (Nat × (Nat × O))}, yL st ren s l = some oi → ∀ (i id k : Nat), l[i]? = some (id, k) → (look (s + i) oi).isSome = true ∧ ∃ o, look id st.objs = some (k, o)
 | [], _, _, _, i, id, k, hl => by simp at hl
 | (id', kk) :: r, s, oi, h, i, id, k, hl => by
  simp only [yL] at h
  split at h
  ·rename_i k' o' os h1 h2
   cases hb : Nat.beq kk k' with
   | false => rw [hb] at h; cases h
   | true =>
    rw [hb] at h
    simp only [cond_true] at h
    split at h
    ·rename_i o2 h3
     cases h
     have hkk := Nat.eq_of_beq_eq_true hb
     subst hkk
     cases i with
     | zero => cases hl; exact ⟨by simp [look_cons], _, h1⟩
     | succ i =>
      have := LO h2 i id k (by simpa using hl)
      refine ⟨?_, this.2⟩
      rw [look_cons, if_neg (by omega), show s + (i + 1) = s + 1 + i by omega]
      exact this.1
    ·cases h
  ·cases h
end
end Go.SL
