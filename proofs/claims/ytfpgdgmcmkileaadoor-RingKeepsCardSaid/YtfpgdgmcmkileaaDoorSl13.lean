/- What a reading of the row gives: typed values that the cells represent. -/
import Derived.Test.YtfpgdgmcmkileaaDoorSl12
import Derived.Deep.Slices
import Derived.OpenShut
import Derived.WideShapes
set_option linter.unusedVariables false
set_option linter.unusedSimpArgs false
namespace Go.SL
open Go.RowKit Go.ChangeShapes Go.WideShapes

def Rc (w : World) (xs : List C) (cs : List Value) : Prop := cs.length = xs.length ∧ ∀ j, j < xs.length → IRep w (fun _ => True) (xs.getD j .unk) (cs.getD j undef)

theorem Rc.append {w : World} {xs ys : List C} {cs ds : List Value} (h : Rc w xs cs) (k : Rc w ys ds) : Rc w (xs ++ ys) (cs ++ ds) := by
  refine ⟨by simp [h.1, k.1], fun j hj => ?_⟩
  rw [List.length_append] at hj
  by_cases hx : j < xs.length
  · have := h.2 j hx
    simpa [List.getD_eq_getElem?_getD, List.getElem?_append_left hx, List.getElem?_append_left (show j < cs.length by rw [h.1]; exact hx)] using this
  · have := k.2 (j - xs.length) (by omega)
    simpa [List.getD_eq_getElem?_getD, List.getElem?_append_right (show xs.length ≤ j by omega), List.getElem?_append_right (show cs.length ≤ j by rw [h.1]; omega), h.1] using this

theorem Rc.one {w : World} {c : C} {v : Value} (h : IRep w (fun _ => True) c v) : Rc w [c] [v] := by
  refine ⟨rfl, fun j hj => ?_⟩
  obtain rfl : j = 0 := by simpa using hj
  exact h

/-- A type's readings: each gives a typed value; 'D': how the datum tells it. -/
structure Reads (P : Program) (t : TypeId) {T : Type} (e : T → List C) (wf : T → Prop) (D : ∀ H : Type, DataW H → T → Prop) : Prop where
  sz : ∀ r, (e r).length = P.cellsOf t
  rd : ∀ (H : Type) (enc : TypeId × Value → H) (w : World) (held : Bool) (fuel : Nat) (cs : List Value) (x : DataW H × List MemPlace), DataW.trod enc P w 0 (fun _ => true) held fuel t cs = some x → ∃ r, wf r ∧ Rc w (e r) cs ∧ D H x.1 r

def i64ok (n : Int) : Prop := -9223372036854775808 ≤ n ∧ n ≤ 9223372036854775807
def D_int (H : Type) (d : DataW H) (n : Int) : Prop := d = .lit (.int .i64 n)
def D_bool (H : Type) (d : DataW H) (b : Bool) : Prop := d = .lit (.bool b)
def D_pair {T0 T1 : Type} (D0 : ∀ H : Type, DataW H → T0 → Prop) (D1 : ∀ H : Type, DataW H → T1 → Prop) (H : Type) (d : DataW H) (r : T0 × T1) : Prop := ∃ d0 d1, d = .agg [d0, d1] ∧ D0 H d0 r.1 ∧ D1 H d1 r.2
def D_arr {T : Type} (D : ∀ H : Type, DataW H → T → Prop) (n : Nat) (H : Type) (d : DataW H) (r : List T) : Prop := ∃ ds, d = .agg ds ∧ ds.length = n ∧ r.length = n ∧ ∀ (i : Nat) (d : DataW H) (x : T), ds[i]? = some d → r[i]? = some x → D H d x
def D_sl {T : Type} (D : ∀ H : Type, DataW H → T → Prop) (H : Type) (d : DataW H) (r : List T) : Prop := (d = .nil ∧ r = []) ∨ ∃ ds sp, d = .slice ds sp ∧ ds.length = r.length ∧ ∀ (i : Nat) (d : DataW H) (x : T), ds[i]? = some d → r[i]? = some x → D H d x

theorem reads_int {P : Program} {t : TypeId} (ht : P.underlying t = some (.int .i64)) (hc : P.cellsOf t = 1) : Reads P t e_i64 i64ok D_int := by
  refine ⟨fun _ => hc.symm, fun H enc w held fuel cs x h => ?_⟩
  obtain ⟨n, rfl, rfl, hw⟩ := DataW.trod_int ht h
  refine ⟨n, ?_, Rc.one (.val _ rfl), rfl⟩
  simp only [Lit.wf, Bool.and_eq_true, decide_eq_true_eq] at hw
  exact hw

theorem reads_bool {P : Program} {t : TypeId} (ht : P.underlying t = some .bool) (hc : P.cellsOf t = 1) : Reads P t e_bool (fun _ => True) D_bool := by
  refine ⟨fun _ => hc.symm, fun H enc w held fuel cs x h => ?_⟩
  obtain ⟨n, rfl, rfl⟩ := DataW.trod_bool ht h
  exact ⟨n, trivial, Rc.one (.val _ rfl), rfl⟩

theorem reads_struct2 {P : Program} {t : TypeId} {f0 f1 : Field} {T0 T1 : Type} {e0 : T0 → List C} {e1 : T1 → List C} {wf0 : T0 → Prop} {wf1 : T1 → Prop} {D0 : ∀ H : Type, DataW H → T0 → Prop} {D1 : ∀ H : Type, DataW H → T1 → Prop}
    (ht : P.underlying t = some (.struct #[f0, f1])) (h0 : Reads P f0.type e0 wf0 D0) (h1 : Reads P f1.type e1 wf1 D1) (ho0 : f0.offset = 0) (ho1 : f1.offset = P.cellsOf f0.type) (hs : P.cellsOf t = P.cellsOf f0.type + P.cellsOf f1.type) :
    Reads P t (fun r : T0 × T1 => e0 r.1 ++ e1 r.2) (fun r => wf0 r.1 ∧ wf1 r.2) (D_pair D0 D1) := by
  refine ⟨fun r => by rw [List.length_append, h0.sz, h1.sz, hs], fun H enc w held fuel cs x h => ?_⟩
  obtain ⟨y0, y1, n, rfl, hl, k0, k1⟩ := trod_struct2 ht h
  obtain ⟨r0, w0, c0, d0⟩ := h0.rd _ _ _ _ _ _ _ k0
  obtain ⟨r1, w1, c1, d1⟩ := h1.rd _ _ _ _ _ _ _ k1
  refine ⟨(r0, r1), ⟨w0, w1⟩, ?_, ⟨_, _, rfl, d0, d1⟩⟩
  have := c0.append c1
  rw [ho0, ho1] at this
  have e : (cs.drop 0).take (P.cellsOf f0.type) ++ (cs.drop (P.cellsOf f0.type)).take (P.cellsOf f1.type) = cs := by
    rw [List.drop_zero, List.take_of_length_le (l := cs.drop (P.cellsOf f0.type)) (by rw [List.length_drop, hl, hs]; omega), List.take_append_drop]
  rwa [e] at this

theorem reads_map {P : Program} {t : TypeId} {T S : Type} {e : T → List C} {wf : T → Prop} {D : ∀ H : Type, DataW H → T → Prop} (h : Reads P t e wf D) (g : T → S) {e' : S → List C} {wf' : S → Prop} {D' : ∀ H : Type, DataW H → S → Prop}
    (he : ∀ r, e' (g r) = e r) (hsz : ∀ s, (e' s).length = P.cellsOf t) (hw : ∀ r, wf r → wf' (g r)) (hd : ∀ H d r, D H d r → D' H d (g r)) : Reads P t e' wf' D' := by
  refine ⟨hsz, fun H enc w held fuel cs x hx => ?_⟩
  obtain ⟨r, h1, h2, h3⟩ := h.rd _ _ _ _ _ _ _ hx
  exact ⟨g r, hw r h1, by rw [he]; exact h2, hd _ _ _ h3⟩

theorem cells_at {w : World} {a : Addr} {n : Nat} {cs : List Value} (h : w.cells? 0 a n = some cs) : cs.length = n ∧ ∀ j, j < n → w.cell? (a.add j) = cs[j]? := by
  obtain ⟨_, h1, h2⟩ := World.cells?_some h
  exact ⟨h1, h2⟩

theorem add_none (b o j : Nat) : (⟨b, o, none⟩ : Addr).add j = ⟨b, o + j, none⟩ := add_plain ..

theorem reads_slice {P : Program} {t e : TypeId} {T : Type} [Inhabited T] {eT : T → List C} {wf : T → Prop} {D : ∀ H : Type, DataW H → T → Prop} (ht : P.underlying t = some (.slice e)) (hc : P.cellsOf t = 1) (hpos : 0 < P.cellsOf e) (h : Reads P e eT wf D) :
    Reads P t (fun l : List T => [tl eT default l]) (fun l => l.length ≤ maxLen ∧ ∀ x ∈ l, wf x) (D_sl D) := by
  refine ⟨fun _ => hc.symm, fun H enc w held fuel cs x hx => ?_⟩
  rcases Deep.open_slice ht hx with ⟨rfl, rfl⟩ | ⟨a, len, cap, m, n, DD, Pl, rfl, _, hl, hm, hmm, rfl, hel⟩
  · exact ⟨[], ⟨Nat.zero_le _, fun _ hx => by cases hx⟩, Rc.one (.lst0 _ _), Or.inl ⟨rfl, rfl⟩⟩
  · have hmm' : m = cap := by simpa using hmm
    subst hmm'
    have hex : ∀ i, i < m → ∃ y : T × List Value, w.cells? 0 (a.add (i * P.cellsOf e)) (P.cellsOf e) = some y.2 ∧ wf y.1 ∧ Rc w (eT y.1) y.2 ∧ D H (DD i) y.1 := fun i hi => by
      obtain ⟨cs', h1, h2⟩ := hel i hi
      obtain ⟨r, h3, h4, h5⟩ := h.rd _ _ _ _ _ _ _ h2
      exact ⟨(r, cs'), h1, h3, h4, h5⟩
    obtain ⟨f, hf⟩ := Deep.choose_lt hex
    by_cases hm0 : m = 0
    · subst hm0
      obtain rfl : len = 0 := by omega
      exact ⟨[], ⟨Nat.zero_le _, fun _ hx => by cases hx⟩, Rc.one (.lst0 _ _), Or.inr ⟨[], _, rfl, rfl, fun i d x hi => by simp at hi⟩⟩
    · have hsp : a.spot = none := by
        have h0 := (cells_at (hf 0 (by omega)).1)
        have h1 := h0.2 0 hpos
        obtain ⟨v, hv⟩ : ∃ v, (f 0).2[0]? = some v := ⟨(f 0).2[0]'(by rw [h0.1]; exact hpos), List.getElem?_eq_getElem _⟩
        rw [hv] at h1
        simpa [Addr.add] using World.cell?_spot h1
      obtain ⟨b, o, sp⟩ := a
      simp only at hsp
      subst hsp
      refine ⟨(List.range len).map fun i => (f i).1, ⟨by simpa using Nat.le_trans hl hm, fun x hx => ?_⟩, Rc.one ?_, Or.inr ⟨_, _, rfl, by simp, fun i d x hi hx => ?_⟩⟩
      · obtain ⟨i, hi, rfl⟩ := List.mem_map.1 hx
        exact (hf i (by have := List.mem_range.1 hi; omega)).2.1
      · have key : ∀ i, i < len → rowf eT default ((List.range len).map fun i => (f i).1) i = eT (f i).1 := fun i hi => by
          simp [rowf, List.getD_eq_getElem?_getD, hi]
        have hlen : ((List.range len).map fun i => (f i).1).length = len := by simp
        unfold tl
        rw [hlen]
        refine .lst b o len m (P.cellsOf e) _ (fun i j => (f i).2.getD j undef) hl hm (fun i hi => ?_) (fun _ _ _ _ => trivial) (fun i j hi hj => ?_) (fun i j hi hj => ?_)
        · rw [key i hi]; exact h.sz _
        · have h1 := cells_at (hf i (by omega)).1
          have h2 := h1.2 j hj
          rw [add_none, add_none, Nat.add_assoc] at h2
          rw [h2, List.getD_eq_getElem?_getD, List.getElem?_eq_getElem (by rw [h1.1]; exact hj)]
          rfl
        · rw [key i hi]
          exact (hf i (by omega)).2.2.1.2 j (by rw [h.sz]; exact hj)
      · simp only [List.getElem?_map, Option.map_eq_some_iff] at hi hx
        obtain ⟨k, hk, rfl⟩ := hi
        obtain ⟨k', hk', rfl⟩ := hx
        obtain rfl : k = k' := Option.some.inj (hk.symm.trans hk')
        have := List.mem_range.1 (List.mem_of_getElem? hk)
        exact (hf k (by omega)).2.2.2

def catn {T : Type} (e : T → List C) (l : List T) : List C := l.flatMap e

theorem Rc.cat {w : World} {T : Type} (eT : T → List C) (sz : Nat) (hsz : ∀ r, (eT r).length = sz) : ∀ (n : Nat) (cs : List Value) (f : Nat → T), cs.length = n * sz → (∀ i, i < n → Rc w (eT (f i)) ((cs.drop (i * sz)).take sz)) → Rc w (catn eT ((List.range n).map f)) cs
  | 0, cs, f, hl, _ => by
    have : cs = [] := List.length_eq_zero_iff.1 (by simpa using hl)
    subst this
    exact ⟨rfl, fun j hj => by simp [catn] at hj⟩
  | n + 1, cs, f, hl, h => by
    have e : cs = cs.take sz ++ cs.drop sz := (List.take_append_drop _ _).symm
    have h0 := h 0 (by omega)
    have ih := Rc.cat eT sz hsz n (cs.drop sz) (fun i => f (i + 1)) (by rw [List.length_drop, hl, Nat.succ_mul]; omega) (fun i hi => by
      have := h (i + 1) (by omega)
      rw [List.drop_drop, Nat.add_comm sz, ← Nat.succ_mul]
      exact this)
    have := h0.append ih
    rw [Nat.zero_mul, List.drop_zero, ← e] at this
    rw [List.range_succ_eq_map, List.map_cons, List.map_map]
    exact this

theorem catn_len {T : Type} {e : T → List C} {sz : Nat} (h : ∀ r, (e r).length = sz) : ∀ l : List T, (catn e l).length = l.length * sz
  | [] => by simp [catn]
  | x :: l => by
    have := catn_len h l
    simp only [catn, List.flatMap_cons, List.length_append, List.length_cons, h, Nat.succ_mul] at *
    omega

/-- An array: only its readings (a list of its length). -/
theorem rd_array {P : Program} {t e : TypeId} {n : Nat} {T : Type} [Inhabited T] {eT : T → List C} {wf : T → Prop} {D : ∀ H : Type, DataW H → T → Prop} (ht : P.underlying t = some (.array n e)) (hc : P.cellsOf t = n * P.cellsOf e) (h : Reads P e eT wf D)
    {H : Type} {enc : TypeId × Value → H} {w : World} {held : Bool} {fuel : Nat} {cs : List Value} {x : DataW H × List MemPlace} (hx : DataW.trod enc P w 0 (fun _ => true) held fuel t cs = some x) :
    ∃ r : List T, r.length = n ∧ (∀ y ∈ r, wf y) ∧ Rc w (catn eT r) cs ∧ D_arr D n H x.1 r := by
  obtain ⟨xs, m, _, rfl, hl, hxl, hel⟩ := DataW.trod_array ht hx
  have hex : ∀ i, i < n → ∃ y : T, wf y ∧ Rc w (eT y) ((cs.drop (i * P.cellsOf e)).take (P.cellsOf e)) ∧ ∀ z, xs[i]? = some z → D H z.1 y := fun i hi => by
    have h1 := hel i hi
    rw [List.getElem?_eq_getElem (by omega)] at h1
    obtain ⟨r, h3, h4, h5⟩ := h.rd _ _ _ _ _ _ _ h1
    exact ⟨r, h3, h4, fun z hz => by rw [List.getElem?_eq_getElem (by omega)] at hz; cases hz; exact h5⟩
  obtain ⟨f, hf⟩ := Deep.choose_lt hex
  refine ⟨(List.range n).map f, by simp, fun y hy => ?_, Rc.cat eT _ h.sz n cs f (by rw [hl, hc]) (fun i hi => (hf i hi).2.1), ⟨_, rfl, by simpa using hxl, by simp, fun i d y hd hy => ?_⟩⟩
  · obtain ⟨i, hi, rfl⟩ := List.mem_map.1 hy
    exact (hf i (List.mem_range.1 hi)).1
  · simp only [List.getElem?_map, Option.map_eq_some_iff] at hd hy
    obtain ⟨z, hz, rfl⟩ := hd
    obtain ⟨k, hk, rfl⟩ := hy
    have hkn := List.mem_range.1 (List.mem_of_getElem? hk)
    have : k = i := by
      rw [List.getElem?_eq_some_iff] at hk
      obtain ⟨_, hk⟩ := hk
      simpa using hk.symm
    subst this
    exact (hf k hkn).2.2 z hz

/-- Arguments. -/
theorem v1_agg {w : World} {xs : List C} {vs : Array Value} (h : Rc w xs vs.toList) : V1Rep w (Mem.of fun _ => True) (.agg xs) (.agg vs) := by
  refine ⟨vs, rfl, by simpa using h.1, fun j hj => ?_⟩
  have h1 := h.2 j hj
  have e : vs.getD j undef = vs.toList.getD j undef := by simp [Array.getD_eq_getD_getElem?, List.getD_eq_getElem?_getD]
  rw [e]
  revert h1
  generalize xs.getD j .unk = c
  generalize vs.toList.getD j undef = v
  intro h1
  have h2 : IRep w (Mem.of fun _ => True).imm c v := h1.move (fun _ _ _ => rfl) fun b _ _ => ⟨trivial, fun ⟨_, _, hv, _⟩ => by cases hv⟩
  cases h1 <;> exact h2

theorem v1_one {w : World} {c : C} {v : Value} (h : IRep w (fun _ => True) c v) : V1Rep w (Mem.of fun _ => True) (.one c) v := by
  have h2 : IRep w (Mem.of fun _ => True).imm c v := h.move (fun _ _ _ => rfl) fun b _ _ => ⟨trivial, fun ⟨_, _, hv, _⟩ => by cases hv⟩
  cases h <;> exact h2

/-- A global's table. -/
theorem glob_arr {T : Type} {eT : T → List C} {d : T} {sz : Nat} {w : World} {g : Nat} {cs : Array Value} {e : TypeId} {fz : Nat × Nat} {l : List T} (hsz : ∀ r, (eT r).length = sz) (hh : w.heap[g]? = some (.cells cs e fz)) (h : Rc w (catn eT l) cs.toList) :
    IRep w (fun _ => True) (.aptr l.length sz (rowf eT d l)) (.pointer (some ⟨g, 0, none⟩)) := by
  have key : ∀ (l : List T) (i j : Nat), i < l.length → j < sz → (catn eT l).getD (i * sz + j) .unk = (eT (l.getD i d)).getD j .unk := by
    intro l
    induction l with
    | nil => intro i j hi; simp at hi
    | cons x l ih =>
      intro i j hi hj
      cases i with
      | zero =>
        simp only [catn, List.flatMap_cons, Nat.zero_mul, Nat.zero_add, List.getD_eq_getElem?_getD, List.getElem?_append_left (show j < (eT x).length by rw [hsz]; exact hj)]
        rfl
      | succ i =>
        have := ih i j (by simpa using hi) hj
        simp only [catn, List.flatMap_cons, List.getD_eq_getElem?_getD] at this ⊢
        rw [List.getElem?_append_right (by rw [hsz, Nat.succ_mul]; omega), hsz]
        rw [show (i + 1) * sz + j - sz = i * sz + j by rw [Nat.succ_mul]; omega, this]
        simp
  have hlt : ∀ i j, i < l.length → j < sz → i * sz + j < (catn eT l).length := fun i j hi hj => by
    rw [catn_len hsz]
    have : (i + 1) * sz ≤ l.length * sz := Nat.mul_le_mul_right _ hi
    rw [Nat.succ_mul] at this
    omega
  refine .aptr g 0 l.length sz _ (fun i j => cs.toList.getD (i * sz + j) undef) (fun i hi => hsz _) (fun _ _ _ _ => trivial) (fun i j hi hj => ?_) (fun i j hi hj => ?_)
  · have hl : i * sz + j < cs.size := by have := hlt i j hi hj; rw [← h.1] at this; simpa using this
    simp [World.cell?, hh, Nat.zero_add, List.getD_eq_getElem?_getD, hl]
  · have := h.2 _ (hlt i j hi hj)
    rw [key l i j hi hj] at this
    exact this

end Go.SL
