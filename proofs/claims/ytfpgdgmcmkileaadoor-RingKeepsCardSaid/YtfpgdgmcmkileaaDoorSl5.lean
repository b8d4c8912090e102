/- More operations that leave memory as it is; all of them in one function. -/
import Derived.Test.YtfpgdgmcmkileaaDoorSl4
set_option linter.unusedVariables false
set_option linter.unusedSimpArgs false
namespace Go.SL
open Go.RowKit

def V1.cells : V1 → List C
  | .one c => [c]
  | .agg cs => cs

theorem cells_one {v : Value} (h : v.oneCell' = true) : v.cells = #[v] := by
  cases v <;> first | rfl | cases h

theorem v1_cells {w : World} {M : Mem} {x : V1} {v : Value} (h : V1Rep w M x v) : CsRep w M x.cells v.cells := by
  cases x with
  | one c =>
    rw [cells_one (CRep.cell h)]
    refine ⟨rfl, fun j hj => ?_⟩
    have : j = 0 := by simp [V1.cells] at hj; omega
    subst this
    exact h
  | agg cs => obtain ⟨vs, rfl, hr⟩ := h; exact hr

def splice (cs : List C) (off : Nat) (xs : List C) : List C := cs.take off ++ xs ++ cs.drop (off + xs.length)

theorem foldl_set (vs : List Value) : ∀ (off m : Nat) (arr : Array Value), (List.foldl (fun (cs : Array Value) (p : Value × Nat) => cs.setIfInBounds (off + p.2) p.1) arr (vs.zipIdx m)).size = arr.size ∧
    ∀ j, off + m + vs.length ≤ arr.size → (List.foldl (fun (cs : Array Value) (p : Value × Nat) => cs.setIfInBounds (off + p.2) p.1) arr (vs.zipIdx m)).getD j undef = if off + m ≤ j ∧ j < off + m + vs.length then vs.getD (j - (off + m)) undef else arr.getD j undef := by
  induction vs with
  | nil => intro off m arr; exact ⟨rfl, fun j _ => by rw [if_neg (by simp)]; rfl⟩
  | cons v vs ih =>
    intro off m arr
    simp only [List.zipIdx_cons, List.foldl_cons]
    obtain ⟨h1, h2⟩ := ih off (m + 1) (arr.setIfInBounds (off + m) v)
    refine ⟨by rw [h1]; simp, fun j hj => ?_⟩
    simp only [List.length_cons] at hj ⊢
    rw [h2 j (by simp; omega)]
    by_cases hc : off + (m + 1) ≤ j ∧ j < off + (m + 1) + vs.length
    · rw [if_pos hc, if_pos (by omega)]
      have : j - (off + m) = (j - (off + (m + 1))) + 1 := by omega
      rw [this, List.getD_cons_succ]
    · rw [if_neg hc]
      by_cases he : j = off + m
      · subst he
        rw [if_pos (by omega)]
        have : off + m < arr.size := by omega
        simp [this]
      · rw [if_neg (by omega)]
        simp only [Array.getD_eq_getD_getElem?]
        rw [Array.getElem?_setIfInBounds_ne (by omega)]

theorem splice_rep {w : World} {M : Mem} {cs xs : List C} {arr : Array Value} {vs : Array Value} {off : Nat} (hc : CsRep w M cs arr) (hx : CsRep w M xs vs) (hb : off + xs.length ≤ cs.length) :
    CsRep w M (splice cs off xs) (vs.zipIdx.foldl (fun cs p => cs.setIfInBounds (off + p.2) p.1) arr) := by
  have he : vs.zipIdx.foldl (fun (cs : Array Value) p => cs.setIfInBounds (off + p.2) p.1) arr = List.foldl (fun (cs : Array Value) (p : Value × Nat) => cs.setIfInBounds (off + p.2) p.1) arr (vs.toList.zipIdx 0) := by
    rw [← Array.foldl_toList, Array.toList_zipIdx]
  rw [he]
  obtain ⟨h1, h2⟩ := foldl_set vs.toList off 0 arr
  have hcs := hc.1
  have hxs := hx.1
  have hvl : vs.toList.length = xs.length := by simpa using hxs
  refine ⟨by rw [h1]; simp [splice]; omega, fun j hj => ?_⟩
  have hj' : j < cs.length := by simp [splice] at hj; omega
  rw [h2 j (by omega)]
  unfold splice
  simp only [Nat.add_zero, hvl]
  by_cases h : off ≤ j ∧ j < off + xs.length
  · rw [if_pos h]
    have := hx.2 (j - off) (by omega)
    simp only [List.getD_eq_getElem?_getD, Array.getD_eq_getD_getElem?] at this ⊢
    rw [List.append_assoc, List.getElem?_append_right (by simp; omega), List.getElem?_append_left (by simp; omega)]
    simp only [List.length_take, Nat.min_eq_left (show off ≤ cs.length by omega), Array.getElem?_toList]
    exact this
  · rw [if_neg h]
    have := hc.2 j hj'
    simp only [List.getD_eq_getElem?_getD, Array.getD_eq_getD_getElem?] at this ⊢
    by_cases hlt : j < off
    · rw [List.append_assoc, List.getElem?_append_left (by simp; omega), List.getElem?_take, if_pos hlt]
      exact this
    · rw [List.getElem?_append_right (by simp; omega), List.getElem?_drop]
      simp only [List.length_append, List.length_take, Nat.min_eq_left (show off ≤ cs.length by omega)]
      rw [show off + xs.length + (j - (off + xs.length)) = j by omega]
      exact this

/-- The parts of a composite value, laid into the zero value's cells. -/
def fillC (place : Nat → Option (Nat × Nat)) (cells : List C) : List (Nat × V1) → Option (List C)
  | [] => some cells
  | (i, x) :: rest =>
    match place i with
    | none => none
    | some (off, size) => bif Nat.beq x.cells.length size && Nat.ble (off + x.cells.length) cells.length then fillC place (splice cells off x.cells) rest else none

theorem fillC_rep {w : World} {M : Mem} {place : Nat → Option (Nat × Nat)} : ∀ (ps : List (Nat × V1)) (qs : List (Nat × Value)) (cs : List C) (arr : Array Value) (out : List C), CsRep w M cs arr →
    (ps.length = qs.length ∧ ∀ j, j < ps.length → (ps.getD j (0, .one .unk)).1 = (qs.getD j (0, undef)).1 ∧ V1Rep w M (ps.getD j (0, .one .unk)).2 (qs.getD j (0, undef)).2) → fillC place cs ps = some out →
    ∃ arr', Instr.fill place arr qs = some arr' ∧ CsRep w M out arr'
  | [], [], cs, arr, out, hc, _, h => by cases h; exact ⟨arr, rfl, hc⟩
  | [], q :: qs, _, _, _, _, hp, _ => by simp at hp
  | p :: ps, [], _, _, _, _, hp, _ => by simp at hp
  | (i, x) :: ps, (i', v) :: qs, cs, arr, out, hc, hp, h => by
    have h0 := hp.2 0 (by simp)
    simp only [List.getD_cons_zero] at h0
    obtain ⟨hi, hx⟩ := h0
    subst hi
    simp only [fillC] at h
    simp only [Instr.fill]
    split at h
    · cases h
    · rename_i off size hpl
      rw [hpl]
      simp only
      cases hb : Nat.beq x.cells.length size && Nat.ble (off + x.cells.length) cs.length with
      | false => rw [hb] at h; cases h
      | true =>
        rw [hb] at h
        simp only [cond_true] at h
        simp only [Bool.and_eq_true] at hb
        have h1 := Nat.eq_of_beq_eq_true hb.1
        have h2 := Nat.le_of_ble_eq_true hb.2
        have hxc := v1_cells hx
        have hs1 := hxc.1
        have hs2 := hc.1
        rw [if_neg (by simp; omega)]
        exact fillC_rep ps qs _ _ out (splice_rep hc hxc h2) ⟨by simpa using hp.1, fun j hj => by simpa using hp.2 (j + 1) (by simp; omega)⟩ h

def szOf (P : Program) (t : TypeId) : Nat := match P.info? t with | some i => i.size | none => 0

def zeroC (P : Program) (t : TypeId) : Option (List C) :=
  match P.info? t with
  | some i => match i.zero with | some z => bif z.cells.toList.all Value.oneCell' then some (z.cells.toList.map constC) else none | none => none
  | none => none

theorem zeroC_rep {P : Program} {t : TypeId} {cs : List C} (h : zeroC P t = some cs) (w : World) (M : Mem) : ∃ z, (zeroValue t).run P w = .ok z w ∧ CsRep w M cs z.cells := by
  unfold zeroC at h
  split at h
  · rename_i i hi
    split at h
    · rename_i z hz
      cases hb : z.cells.toList.all Value.oneCell' with
      | false => rw [hb] at h; cases h
      | true =>
        rw [hb] at h
        cases h
        refine ⟨z, by simp [zeroValue, typeInfo, hi, hz], by simp, fun j hj => ?_⟩
        have hj' : j < z.cells.toList.length := by simpa using hj
        have := constC_rep (w := w) (M := M) (List.all_eq_true.1 hb _ (List.getElem_mem hj'))
        simpa [List.getD_eq_getElem?_getD, List.getElem?_map, List.getElem?_eq_getElem hj', Array.getD_eq_getD_getElem?, Array.getElem?_eq_getElem (show j < z.cells.size by simpa using hj')] using this
    · cases h
  · cases h

theorem run_mapM_sizes {P : Program} (w : World) : ∀ (l : List Field), l.all (fun f => (P.info? f.type).isSome) = true → (l.mapM fun f => do pure (f.offset, ← sizeOf f.type) : Sem (List (Nat × Nat))).run P w = .ok (l.map fun f => (f.offset, szOf P f.type)) w
  | [], _ => rfl
  | f :: l, h => by
    simp only [List.all_cons, Bool.and_eq_true, Option.isSome_iff_exists] at h
    obtain ⟨⟨i, hi⟩, h2⟩ := h
    rw [List.mapM_cons]
    simp only [Sem.run_bind, run_sizeOf hi, Result.andThen_ok, Sem.run_pure, run_mapM_sizes w l h2, List.map_cons, szOf, hi]

def buildV (P : Program) (t : TypeId) (parts : List (Nat × V1)) : Option (V × Prop) :=
  match P.underlying t, zeroC P t with
  | some (.struct fs), some z => bif fs.toList.all (fun f => (P.info? f.type).isSome) then
      (fillC (fun i => (fs.toList.map fun f => (f.offset, szOf P f.type))[i]?) z parts).map fun cs => (.v (.agg cs), True) else none
  | some (.array _ e), some z => match P.info? e with | some i => (fillC (fun j => some (j * i.size, i.size)) z parts).map fun cs => (.v (.agg cs), True) | none => none
  | _, _ => none

def PartsRep (w : World) (M : Mem) (ps : List (Nat × V1)) (qs : List (Nat × Value)) : Prop :=
  ps.length = qs.length ∧ ∀ j, j < ps.length → (ps.getD j (0, .one .unk)).1 = (qs.getD j (0, undef)).1 ∧ V1Rep w M (ps.getD j (0, .one .unk)).2 (qs.getD j (0, undef)).2

theorem buildV_rep {P : Program} {w : World} {M : Mem} {t : TypeId} {ps : List (Nat × V1)} {qs : Array (Nat × Value)} (hps : PartsRep w M ps qs.toList) {y : V} {ob : Prop} (hp : buildV P t ps = some (y, ob)) :
    ∃ r, (Instr.build t qs).run P w = .ok r w ∧ VRep w M y r := by
  unfold buildV at hp
  split at hp
  · rename_i fs z ht hz
    cases hb : fs.toList.all (fun f => (P.info? f.type).isSome) with
    | false => rw [hb] at hp; cases hp
    | true =>
      rw [hb] at hp
      simp only [cond_true] at hp
      cases hf : fillC (fun i => (fs.toList.map fun f => (f.offset, szOf P f.type))[i]?) z ps with
      | none => rw [hf] at hp; cases hp
      | some cs =>
        rw [hf] at hp
        cases hp
        obtain ⟨zv, hzr, hzc⟩ := zeroC_rep hz w M
        obtain ⟨arr', hfill, hout⟩ := fillC_rep ps qs.toList z zv.cells cs hzc hps hf
        refine ⟨.agg arr', ?_, arr', rfl, hout⟩
        have hm : (fs.mapM fun f => do pure (f.offset, ← sizeOf f.type) : Sem (Array (Nat × Nat))).run P w = .ok (fs.toList.map fun f => (f.offset, szOf P f.type)).toArray w := by
          rw [Array.mapM_eq_mapM_toList, Sem.run_map, run_mapM_sizes w _ hb]
          rfl
        have hfun : (fun x : Nat => (fs.toList.map fun f => (f.offset, szOf P f.type)).toArray[x]?) = fun i => (fs.toList.map fun f => (f.offset, szOf P f.type))[i]? := by
          funext i; exact List.getElem?_toArray
        simp only [Instr.build, Sem.run_bind, hzr, Result.andThen_ok, run_underlying ht, hm, hfun, hfill, Sem.run_pure]
  · rename_i n e z ht hz
    split at hp
    · rename_i i hi
      cases hf : fillC (fun j => some (j * i.size, i.size)) z ps with
      | none => rw [hf] at hp; cases hp
      | some cs =>
        rw [hf] at hp
        cases hp
        obtain ⟨zv, hzr, hzc⟩ := zeroC_rep hz w M
        obtain ⟨arr', hfill, hout⟩ := fillC_rep ps qs.toList z zv.cells cs hzc hps hf
        refine ⟨.agg arr', ?_, arr', rfl, hout⟩
        simp only [Instr.build, Sem.run_bind, hzr, Result.andThen_ok, run_underlying ht, run_sizeOf hi, hfill, Sem.run_pure]
    · cases hp
  · cases hp

def lenV (P : Program) (t : TypeId) (x : V1) : Option (V × Prop) :=
  match P.underlying t, x with
  | some (.slice _), .one (.lst n _) => some (.v (.one (.val (.int .i64 n))), True)
  | some (.slice _), .one (.own _ _ _ n) => some (.v (.one (.val (.int .i64 n))), True)
  | some (.slice _), .one .emp => some (.v (.one (.val (.int .i64 0))), True)
  | some .string, .one (.val (.string b)) => some (.v (.one (.val (.int .i64 b.size))), True)
  | some (.array n _), _ => some (.v (.one (.val (.int .i64 n))), True)
  | _, _ => none

theorem lenV_rep {P : Program} {w : World} {M : Mem} {t ty : TypeId} {x : V1} {v : Value} (hv : V1Rep w M x v) {y : V} {ob : Prop} (hp : lenV P t x = some (y, ob)) :
    ∃ r, (Builtin.len_ #[t] ty #[v]).run P w = .ok r w ∧ VRep w M y r := by
  unfold lenV at hp
  split at hp
  · rename_i e n f ht
    cases hp
    refine ⟨.int .i64 n, ?_, v1_mk _ rfl⟩
    cases hv <;> simp [Builtin.len_, run_underlying ht, goInt]
  · rename_i e id k sz n ht
    cases hp
    refine ⟨.int .i64 n, ?_, v1_mk _ rfl⟩
    rcases hv with ⟨h0, a, rfl⟩ | ⟨b, cap, rfl, _⟩ <;> simp [Builtin.len_, run_underlying ht, goInt]
    omega
  · rename_i e ht
    cases hp
    refine ⟨.int .i64 0, ?_, v1_mk _ rfl⟩
    cases hv; simp [Builtin.len_, run_underlying ht, goInt]
  · rename_i b ht
    cases hp
    refine ⟨.int .i64 b.size, ?_, v1_mk _ rfl⟩
    rw [v1_val hv]; simp [Builtin.len_, run_underlying ht, goInt]
  · rename_i n e ht
    cases hp
    refine ⟨.int .i64 n, ?_, v1_mk _ rfl⟩
    simp [Builtin.len_, run_underlying ht, goInt]
  · cases hp

/-- min, max of integers. -/
def mm1 (mx : Bool) : Option V1 → V1 → Option V1
  | some (.one (.val (.int k a))), .one (.val (.int _ b)) => some (.one (.val (.int k (bif mx then (if b > a then b else a) else (if b < a then b else a)))))
  | _, _ => none
def mmV (mx : Bool) : List V1 → Option V1
  | .one (.val (.int k a)) :: rest => rest.foldl (mm1 mx) (some (.one (.val (.int k a))))
  | _ => none

theorem mm_none (mx : Bool) : ∀ l : List V1, List.foldl (mm1 mx) none l = none
  | [] => rfl
  | _ :: l => mm_none mx l

theorem mm_fold {P : Program} {w : World} {M : Mem} (mx : Bool) : ∀ (xs : List V1) (vs : List Value) (x : V1) (v : Value) (z : V1), xs.length = vs.length → (∀ j, j < xs.length → V1Rep w M (xs.getD j (.one .unk)) (vs.getD j undef)) → V1Rep w M x v →
    xs.foldl (mm1 mx) (some x) = some z → ∃ r, (vs.foldlM (bif mx then Builtin.max2 else Builtin.min2) v : Sem Value).run P w = .ok r w ∧ V1Rep w M z r
  | [], [], x, v, z, _, _, hx, h => by cases h; exact ⟨v, rfl, hx⟩
  | [], v :: vs, _, _, _, hl, _, _, _ => by simp at hl
  | x :: xs, [], _, _, _, hl, _, _, _ => by simp at hl
  | y :: xs, u :: vs, x, v, z, hl, hr, hx, h => by
    have h0 := hr 0 (by simp)
    simp only [List.getD_cons_zero] at h0
    simp only [List.foldl_cons] at h
    unfold mm1 at h
    split at h
    · rename_i k a kk b heq
      cases heq
      have e1 := v1_val hx
      have e2 := v1_val h0
      subst e1 e2
      obtain ⟨r, hr1, hr2⟩ := mm_fold (P := P) mx xs vs _ _ z (by simpa using hl) (fun j hj => by simpa using hr (j + 1) (by simp; omega)) (v1_mk (.int k (bif mx then (if b > a then b else a) else (if b < a then b else a))) rfl) h
      refine ⟨r, ?_, hr2⟩
      simp only [List.foldlM_cons, Sem.run_bind]
      cases mx <;> simpa [Builtin.max2, Builtin.min2] using hr1
    · have := mm_none mx xs
      unfold mm1 at this
      rw [this] at h; cases h

theorem mmV_rep {P : Program} {w : World} {M : Mem} {mx : Bool} {ats : Array TypeId} {ty : TypeId} {xs : List V1} {vs : Array Value} (hl : xs.length = vs.size) (hr : ∀ j, j < xs.length → V1Rep w M (xs.getD j (.one .unk)) (vs.getD j undef)) {z : V1} (h : mmV mx xs = some z) :
    ∃ r, (bif mx then Builtin.max_ ats ty vs else Builtin.min_ ats ty vs).run P w = .ok r w ∧ V1Rep w M z r := by
  obtain ⟨vs⟩ := vs
  unfold mmV at h
  split at h
  · rename_i k a rest
    match vs, hl with
    | u :: vs, hl =>
      have h0 := hr 0 (by simp)
      simp only [List.getD_cons_zero] at h0
      have h0' : V1Rep w M (.one (.val (.int k a))) u := by simpa using h0
      obtain ⟨r, h1, h2⟩ := mm_fold (P := P) mx rest vs _ u z (by simpa using hl) (fun j hj => by
        have := hr (j + 1) (by simp; omega)
        simpa [Array.getD_eq_getD_getElem?, List.getD_eq_getElem?_getD] using this) h0' h
      refine ⟨r, ?_, h2⟩
      cases mx <;> simpa [Builtin.max_, Builtin.min_] using h1
  · cases h

def unV (op : UnOp) (x : V1) : Option (V × Prop) :=
  match op, x with
  | .not, .one (.val (.bool b)) => some (.v (.one (.val (.bool !b))), True)
  | .neg, .one (.val (.int k n)) => some (.v (.one (.val (.int k (k.wrap (0 - n))))), True)
  | _, _ => none

theorem unV_rep {P : Program} {w : World} {M : Mem} {op : UnOp} {x : V1} {v : Value} (hv : V1Rep w M x v) {y : V} {ob : Prop} (hp : unV op x = some (y, ob)) : ∃ r, (Op.unary op v).run P w = .ok r w ∧ VRep w M y r := by
  unfold unV at hp
  split at hp
  · cases hp; rw [v1_val hv]; exact ⟨_, rfl, v1_mk _ rfl⟩
  · cases hp; rw [v1_val hv]; exact ⟨_, rfl, v1_mk _ rfl⟩
  · cases hp

def convV (P : Program) (src dst : TypeId) (x : V1) : Option (V × Prop) :=
  match P.underlying src, P.underlying dst, x with
  | some _, some (.int k), .one (.val (.int _ n)) => some (.v (.one (.val (.int k (k.wrap n)))), True)
  | _, _, _ => none

theorem convV_rep {P : Program} {w : World} {M : Mem} {src dst : TypeId} {x : V1} {v : Value} (hv : V1Rep w M x v) {y : V} {ob : Prop} (hp : convV P src dst x = some (y, ob)) : ∃ r, (convert src dst v).run P w = .ok r w ∧ VRep w M y r := by
  unfold convV at hp
  split at hp
  · rename_i d k kk n hs hd
    cases hp
    rw [v1_val hv]
    refine ⟨.int k (k.wrap n), ?_, v1_mk _ rfl⟩
    simp only [convert, Sem.run_bind, run_underlying hs, run_underlying hd, Result.andThen_ok]
    cases d <;> rfl
  · cases hp

/-- A slice expression. -/
def sliceV (P : Program) (t : TypeId) (x : V1) (lo hi mx : Option V1) : Option (V × Prop) :=
  match P.underlying t with
  | some (.slice e) => bif (P.info? e).isSome then
    match x, lo, hi, mx with
    | .one (.own id k sz len), none, some (.one (.val (.int _ h))), none => some (.v (.one (.own id k sz h.toNat)), 0 ≤ h ∧ h ≤ (len : Int))
    | .one (.lst _ _), none, some (.one (.val (.int _ 0))), some (.one (.val (.int _ 0))) => some (.v (.one .emp), True)
    | .one .emp, none, some (.one (.val (.int _ 0))), some (.one (.val (.int _ 0))) => some (.v (.one .emp), True)
    | .one (.own _ _ _ _), none, some (.one (.val (.int _ 0))), some (.one (.val (.int _ 0))) => some (.v (.one .emp), True)
    | .one (.lst n f), none, some (.one (.val (.int _ h))), none => bif Nat.beq (f 0).length (szOf P e) then some (.v (.one (.lst (h.toNat - 0) fun i => f (0 + i))), 0 ≤ h ∧ h ≤ (n : Int)) else none
    | .one (.lst n f), some (.one (.val (.int _ l))), none, none => bif Nat.beq (f 0).length (szOf P e) then some (.v (.one (.lst (n - l.toNat) fun i => f (l.toNat + i))), 0 ≤ l ∧ l ≤ (n : Int)) else none
    | .one (.lst n f), some (.one (.val (.int _ l))), some (.one (.val (.int _ h))), none => bif Nat.beq (f 0).length (szOf P e) then some (.v (.one (.lst (h.toNat - l.toNat) fun i => f (l.toNat + i))), 0 ≤ l ∧ l ≤ h ∧ h ≤ (n : Int)) else none
    | _, _, _, _ => none
    else none
  | _ => none

theorem szOf_run {P : Program} {e : TypeId} (h : (P.info? e).isSome = true) (w : World) : (sizeOf e).run P w = .ok (szOf P e) w := by
  obtain ⟨i, hi⟩ := Option.isSome_iff_exists.1 h
  rw [run_sizeOf hi]; simp [szOf, hi]

/-- A part of an immutable slice. -/
theorem lst_part {w : World} {ok : Nat → Prop} {n : Nat} {f : Nat → List C} {v : Value} (h : IRep w ok (.lst n f) v) {sz l h' : Nat} (hsz : (f 0).length = sz) (hlh : l ≤ h') (hn : h' ≤ n) :
    ∃ a len cap, v = .slice a len cap ∧ len = n ∧ len ≤ cap ∧ IRep w ok (.lst (h' - l) fun i => f (l + i)) (.slice (if cap = l then a else a.map (·.add (l * sz))) (h' - l) (cap - l)) := by
  cases h with
  | lst0 a f =>
    refine ⟨a, 0, 0, rfl, rfl, Nat.le_refl _, ?_⟩
    have : h' - l = 0 := by omega
    rw [this, Nat.zero_sub]
    exact .lst0 _ _
  | lst b o n cap sz' f g hnc hm hl hb hc hr =>
    refine ⟨_, n, cap, rfl, rfl, hnc, ?_⟩
    by_cases hc0 : cap = l
    · have : h' - l = 0 := by omega
      rw [this, hc0, Nat.sub_self]
      exact .lst0 _ _
    · rw [if_neg hc0]
      simp only [Option.map_some, Addr.add_lit]
      by_cases hz : h' - l = 0
      · rw [hz]
        exact .lst b _ 0 _ 0 _ (fun _ _ => undef) (Nat.zero_le _) (by omega) (fun i hi => by omega) (fun i j hi => by omega) (fun i j hi => by omega) (fun i j hi => by omega)
      · have hss : sz' = sz := by rw [← hsz, hl 0 (by omega)]
        subst hss
        refine .lst b _ _ _ sz' _ (fun i j => g (l + i) j) (by omega) (by omega) (fun i hi => hl _ (by omega)) (fun i j hi hj => hb (l + i) j (by omega) hj) (fun i j hi hj => ?_) (fun i j hi hj => hr (l + i) j (by omega) hj)
        have := hc (l + i) j (by omega) hj
        rw [← this]
        congr 2
        rw [Nat.add_mul]
        omega

theorem run_sliceBound {P : Program} {w : World} {k : IntKind} {z : Int} {y : Nat} {code : BoundsCode} (h0 : 0 ≤ z) (h1 : z ≤ y) : (Instr.sliceBound (.int k z) y code).run P w = .ok z.toNat w := by
  simp [Instr.sliceBound, asIntOf, h0, h1]

theorem sliceV_rep {P : Program} {w : World} {M : Mem} {t : TypeId} {x : V1} {v : Value} {lo hi mx : Option V1} {lo' hi' mx' : Option Value} (hv : V1Rep w M x v)
    (hlo : ∀ y, lo = some y → ∃ u, lo' = some u ∧ V1Rep w M y u) (hlo0 : lo = none → lo' = none) (hhi : ∀ y, hi = some y → ∃ u, hi' = some u ∧ V1Rep w M y u) (hhi0 : hi = none → hi' = none)
    (hmx : ∀ y, mx = some y → ∃ u, mx' = some u ∧ V1Rep w M y u) (hmx0 : mx = none → mx' = none) {y : V} {ob : Prop} (hp : sliceV P t x lo hi mx = some (y, ob)) (hob : ob) :
    ∃ r, (Instr.sliceAt t v lo' hi' mx').run P w = .ok r w ∧ VRep w M y r := by
  unfold sliceV at hp
  split at hp
  · rename_i e ht
    cases hinf : (P.info? e).isSome with
    | false => rw [hinf] at hp; cases hp
    | true =>
      rw [hinf] at hp
      simp only [cond_true] at hp
      have hsz := szOf_run hinf w
      split at hp
      · rename_i id k sz len kk h
        cases hp
        obtain ⟨u, rfl, hu⟩ := hhi _ rfl
        rw [hlo0 rfl, hmx0 rfl, v1_val hu]
        rcases hv with ⟨h0, a, rfl⟩ | ⟨b, cap, rfl, h1, h2, hx⟩
        · have hh : h = 0 := by omega
          subst hh
          refine ⟨.slice a 0 0, ?_, .inl ⟨rfl, _, rfl⟩⟩
          simp [Instr.sliceAt, run_underlying ht, Instr.slice, Instr.sliceBounds, run_sliceBound, hsz]
        · refine ⟨.slice (some ⟨b, 0, none⟩) h.toNat cap, ?_, .inr ⟨b, cap, rfl, by omega, h2, hx⟩⟩
          have hb := run_sliceBound (P := P) (w := w) (k := kk) (z := h) (y := cap) (code := .sliceAcap) hob.1 (by omega)
          simp [Instr.sliceAt, run_underlying ht, Instr.slice, Instr.sliceBounds, hb, hsz, Addr.add_lit]
      · cases hp
        obtain ⟨u, rfl, hu⟩ := hhi _ rfl
        obtain ⟨u', rfl, hu'⟩ := hmx _ rfl
        rw [hlo0 rfl, v1_val hu, v1_val hu']
        cases hv with
        | lst0 a f =>
          refine ⟨.slice a 0 0, ?_, .emp _⟩
          simp [Instr.sliceAt, run_underlying ht, Instr.slice, Instr.sliceBounds, run_sliceBound, hsz]
        | lst b o n cap sz' f g hnc hm hl hb hc hr =>
          refine ⟨.slice (some ⟨b, o, none⟩) 0 0, ?_, .emp _⟩
          simp [Instr.sliceAt, run_underlying ht, Instr.slice, Instr.sliceBounds, run_sliceBound, hsz]
      · cases hp
        obtain ⟨u, rfl, hu⟩ := hhi _ rfl
        obtain ⟨u', rfl, hu'⟩ := hmx _ rfl
        rw [hlo0 rfl, v1_val hu, v1_val hu']
        cases hv with
        | emp a =>
          refine ⟨.slice a 0 0, ?_, .emp _⟩
          simp [Instr.sliceAt, run_underlying ht, Instr.slice, Instr.sliceBounds, run_sliceBound, hsz]
      · cases hp
        obtain ⟨u, rfl, hu⟩ := hhi _ rfl
        obtain ⟨u', rfl, hu'⟩ := hmx _ rfl
        rw [hlo0 rfl, v1_val hu, v1_val hu']
        rcases hv with ⟨h0, a, rfl⟩ | ⟨b, cap, rfl, h1, h2, hx⟩
        · refine ⟨.slice a 0 0, ?_, .emp _⟩
          simp [Instr.sliceAt, run_underlying ht, Instr.slice, Instr.sliceBounds, run_sliceBound, hsz]
        · refine ⟨.slice (some ⟨b, 0, none⟩) 0 0, ?_, .emp _⟩
          simp [Instr.sliceAt, run_underlying ht, Instr.slice, Instr.sliceBounds, run_sliceBound, hsz]
      · rename_i n f kk h
        cases hb : Nat.beq (f 0).length (szOf P e) with
        | false => rw [hb] at hp; cases hp
        | true =>
          rw [hb] at hp
          cases hp
          obtain ⟨u, rfl, hu⟩ := hhi _ rfl
          rw [hlo0 rfl, hmx0 rfl, v1_val hu]
          obtain ⟨a, len, cap, rfl, hln, hlc, hr⟩ := lst_part hv (l := 0) (h' := h.toNat) (Nat.eq_of_beq_eq_true hb) (Nat.zero_le _) (by omega)
          subst hln
          refine ⟨_, ?_, hr⟩
          have hb1 := run_sliceBound (P := P) (w := w) (k := kk) (z := h) (y := cap) (code := .sliceAcap) hob.1 (by omega)
          simp [Instr.sliceAt, run_underlying ht, Instr.slice, Instr.sliceBounds, hb1, hsz]
      · rename_i n f kk l
        cases hb : Nat.beq (f 0).length (szOf P e) with
        | false => rw [hb] at hp; cases hp
        | true =>
          rw [hb] at hp
          cases hp
          obtain ⟨u, rfl, hu⟩ := hlo _ rfl
          rw [hhi0 rfl, hmx0 rfl, v1_val hu]
          obtain ⟨a, len, cap, rfl, hln, hlc, hr⟩ := lst_part hv (l := l.toNat) (h' := n) (Nat.eq_of_beq_eq_true hb) (by omega) (Nat.le_refl _)
          subst hln
          refine ⟨_, ?_, hr⟩
          have hb1 := run_sliceBound (P := P) (w := w) (k := kk) (z := l) (y := len) (code := .sliceB) hob.1 (by omega)
          simp [Instr.sliceAt, run_underlying ht, Instr.slice, Instr.sliceBounds, hb1, hsz]
      · rename_i n f kk l kk' h
        cases hb : Nat.beq (f 0).length (szOf P e) with
        | false => rw [hb] at hp; cases hp
        | true =>
          rw [hb] at hp
          cases hp
          obtain ⟨u, rfl, hu⟩ := hlo _ rfl
          obtain ⟨u', rfl, hu'⟩ := hhi _ rfl
          rw [hmx0 rfl, v1_val hu, v1_val hu']
          obtain ⟨a, len, cap, rfl, hln, hlc, hr⟩ := lst_part hv (l := l.toNat) (h' := h.toNat) (Nat.eq_of_beq_eq_true hb) (by omega) (by omega)
          subst hln
          refine ⟨_, ?_, hr⟩
          have hb1 := run_sliceBound (P := P) (w := w) (k := kk') (z := h) (y := cap) (code := .sliceAcap) (by omega) (by omega)
          have hb2 := run_sliceBound (P := P) (w := w) (k := kk) (z := l) (y := h.toNat) (code := .sliceB) hob.1 (by omega)
          simp [Instr.sliceAt, run_underlying ht, Instr.slice, Instr.sliceBounds, hb1, hb2, hsz]
      · cases hp
  · cases hp

end Go.SL
