/- The end of a law's card: it returned true and nothing below has turned. -/
import Derived.Test.YtfpgdgmcmkileaaDoorSl13
import Derived.Carry
import Derived.WalkKit
import Derived.ProofKit
import Derived.Deep.DeepHandedRow
set_option linter.unusedVariables false
set_option linter.unusedSimpArgs false
namespace Go.SL
open Go.RowKit Go.ChangeShapes Go.WideShapes

theorem trodAll_stays {H : Type} {enc : TypeId × Value → H} {P : Program} (hl : laidOutB P = true) {W W' : World} {sp' : Nat → Bool} (hb : Below W.heap.size W W') :
    ∀ {ts : List TypeId} {vs : List Value} {ds : List (DataW H)} {ps : List MemPlace}, (ts.all fun t => P.readableRec t && decide (t < P.types.size)) = true → DataW.TrodAll enc P W 0 (fun _ => true) true ts vs ds ps →
      (∀ p ∈ ps, p.block < W.heap.size) → (∀ p ∈ ps, sp' p.block = true) → DataW.TrodAll enc P W' 0 sp' true ts vs ds ps
  | [], _, _, _, _, h, _, _ => by
    obtain ⟨rfl, rfl, rfl⟩ := trodAll_nil h
    exact trodAll_mk0
  | t :: ts, _, _, _, hr, h, hlt, hsp => by
    obtain ⟨v, vs1, d, ds1, a, b, rfl, rfl, rfl, h1, h2⟩ := trodAll_cons h
    simp only [List.all_cons, Bool.and_eq_true, decide_eq_true_eq] at hr
    refine ⟨a, b, WideElems.Trod_stays hl hr.1.1 hr.1.2 h1 (fun x hx => hb.same (hlt x (List.mem_append_left _ hx))) (fun x hx => hsp x (List.mem_append_left _ hx)), ?_, rfl⟩
    exact trodAll_stays hl hb hr.2 h2 (fun x hx => hlt x (List.mem_append_right _ hx)) (fun x hx => hsp x (List.mem_append_right _ hx))

theorem post_true {H : Type} {enc : TypeId × Value → H} {P : Program} {f : Func} {s : ChangeSpec} {tb : TypeId} {apart fresh handsOn again : Bool} {W W' : World} {args : Array Value} {ds gs : List (DataW H)} {before : List MemPlace}
    (hl : laidOutB P = true) (hpar : (f.params.toList.all fun t => P.readableRec t && decide (t < P.types.size)) = true) (hrt : f.resultTypes = #[tb]) (htb : P.underlying tb = some .bool) (hv : s.vars = [])
    (hfn : s.fn H ds = { results := [.lit (.bool true)], args := ds })
    (hW : DataW.Whole enc P f.params.toList s.vars apart W args.toList ds gs before) (hb : Below W.heap.size W W') : s.post enc P f apart fresh handsOn again W args (.bool true) W' := by
  have hW0 := hW
  have hold : ∀ p ∈ before, p.block < W.heap.size := fun p hp => hW.lt p hp
  obtain ⟨p, q, hA, hV, hpq, hz, hn⟩ := hW
  rw [hv] at hV
  obtain ⟨rfl, rfl⟩ := trodVars_none hV
  rw [List.append_nil] at hpq
  subst hpq
  have hargs : ∀ sp : Nat → Bool, (∀ p ∈ before, sp p.block = true) → DataW.TrodAll enc P W' 0 sp true f.params.toList args.toList (s.fn H (ds ++ [])).args before := fun sp hsp => by
    rw [List.append_nil, hfn]
    exact trodAll_stays hl hb hpar hA hold hsp
  have hres : ∀ (b : Nat) (sp : Nat → Bool) (hd : Bool), DataW.TrodAll enc P W' b sp hd f.resultTypes.toList ((Value.bool true).resultList f.resultTypes.size) (s.fn H (ds ++ [])).results [] := fun b sp hd => by
    rw [List.append_nil, hfn, hrt]
    exact trodAll_cons_mk (shut_bool htb _) trodAll_mk0
  have hvars : ∀ sp : Nat → Bool, DataW.TrodVars enc P W' sp s.vars (s.fn H (ds ++ [])).vars [] := fun sp => by
    rw [List.append_nil, hfn, hv]
    rfl
  refine ⟨ds, [], before, [], before, [], hW0, hres _ _ _, hargs _ (fun p hp => by simpa using hold p hp), hvars _, World.keptBut_mono (fun p hp => ⟨hp, Or.inr (.inl hp)⟩) (hb.frame (· ∈ before)), fun _ => ?_⟩
  refine ⟨?_, _, _, ([] ++ before) ++ [], ⟨[] ++ before, [], trodAll_append (hargs _ (fun _ _ => rfl)) (hres _ _ _), hvars _, rfl, ?_, ?_⟩, ?_⟩
  · intro j t r hj hr
    rw [hrt] at hj hr
    match j, hj, hr with
    | 0, hj, hr =>
      simp [Value.resultList] at hj hr
      subst hj; subst hr
      exact okWide_bool_mk htb _
  · intro b off hp
    have hp' : MemPlace.cell b off ∈ before := by simpa using hp
    rw [hb.frozen (p := ⟨b, off, none⟩) (hold _ hp')]
    exact hz b off hp'
  · intro ha
    simpa using hn ha
  · intro p hp _
    simpa using hp

theorem ret_true {w w' : World} {A : Nat → Prop} {v : Value} (h : RetOk w w' A (.v (.one (.val (.bool true)))) [] v) : v = .bool true := by
  obtain ⟨M, _, _, _, _, hv, _⟩ := h.ex
  exact IRep.val_eq hv

theorem argsRep_nil (w : World) (A : Nat → Prop) : ArgsRep w A [] #[] := ⟨rfl, fun j hj => by simp at hj⟩
theorem argsRep1 {w : World} {A : Nat → Prop} {x0 : V1} {v0 : Value} (h0 : V1Rep w (Mem.of A) x0 v0) : ArgsRep w A [x0] #[v0] := ⟨rfl, fun j hj => by
  match j, hj with
  | 0, _ => exact h0⟩
theorem argsRep2 {w : World} {A : Nat → Prop} {x0 x1 : V1} {v0 v1 : Value} (h0 : V1Rep w (Mem.of A) x0 v0) (h1 : V1Rep w (Mem.of A) x1 v1) : ArgsRep w A [x0, x1] #[v0, v1] := ⟨rfl, fun j hj => by
  match j, hj with
  | 0, _ => exact h0
  | 1, _ => exact h1⟩
theorem argsRep3 {w : World} {A : Nat → Prop} {x0 x1 x2 : V1} {v0 v1 v2 : Value} (h0 : V1Rep w (Mem.of A) x0 v0) (h1 : V1Rep w (Mem.of A) x1 v1) (h2 : V1Rep w (Mem.of A) x2 v2) : ArgsRep w A [x0, x1, x2] #[v0, v1, v2] := ⟨rfl, fun j hj => by
  match j, hj with
  | 0, _ => exact h0
  | 1, _ => exact h1
  | 2, _ => exact h2⟩

theorem open_struct_rd {P : Program} {t : TypeId} {fs : Array Field} {T : Type} {e : T → List C} {wf : T → Prop} {D : ∀ H : Type, DataW H → T → Prop} (hr : Reads P t e wf D) (ht : P.underlying t = some (.struct fs)) {H : Type} {enc : TypeId × Value → H} {w : World} {r : Reach} {b0 : Nat} {v : Value} {d : DataW H} {ps : List MemPlace}
    (hval : Value.okWide P w r b0 t v) (hd : DataW.Trod enc P w 0 (fun _ => true) true t v d ps) : ∃ x, wf x ∧ D H d x ∧ V1Rep w (Mem.of fun _ => True) (.agg (e x)) v := by
  obtain ⟨cs, rfl, _⟩ := okWide_struct ht hval
  obtain ⟨fuel, hf⟩ := hd
  obtain ⟨x, h1, h2, h3⟩ := hr.rd _ _ _ _ _ _ _ hf
  exact ⟨x, h1, h3, v1_agg h2⟩

theorem okWide_array {P : Program} {w : World} {r : Reach} {b0 : Nat} {t e : TypeId} {n : Nat} {v : Value} (ht : P.underlying t = some (.array n e)) (h : Value.okWide P w r b0 t v) : ∃ cs, v = .agg cs := by
  unfold Value.okWide at h
  rw [ht] at h
  obtain ⟨cs, h, _⟩ := h
  exact ⟨cs, h⟩

theorem open_array_rd {P : Program} {t e : TypeId} {n : Nat} {T : Type} [Inhabited T] {eT : T → List C} {wf : T → Prop} {D : ∀ H : Type, DataW H → T → Prop} (hr : Reads P e eT wf D) (ht : P.underlying t = some (.array n e)) (hc : P.cellsOf t = n * P.cellsOf e) {H : Type} {enc : TypeId × Value → H} {w : World} {r : Reach} {b0 : Nat} {v : Value} {d : DataW H} {ps : List MemPlace}
    (hval : Value.okWide P w r b0 t v) (hd : DataW.Trod enc P w 0 (fun _ => true) true t v d ps) : ∃ x : List T, x.length = n ∧ (∀ y ∈ x, wf y) ∧ D_arr D n H d x ∧ V1Rep w (Mem.of fun _ => True) (.agg (catn eT x)) v := by
  obtain ⟨cs, rfl⟩ := okWide_array ht hval
  obtain ⟨fuel, hf⟩ := hd
  obtain ⟨x, h0, h1, h2, h3⟩ := rd_array ht hc hr hf
  exact ⟨x, h0, h1, h3, v1_agg h2⟩

theorem open_int_rd {P : Program} {t : TypeId} (ht : P.underlying t = some (.int .i64)) {H : Type} {enc : TypeId × Value → H} {w : World} {r : Reach} {b0 : Nat} {v : Value} {d : DataW H} {ps : List MemPlace}
    (hval : Value.okWide P w r b0 t v) (hd : DataW.Trod enc P w 0 (fun _ => true) true t v d ps) : ∃ n, i64ok n ∧ d = .lit (.int .i64 n) ∧ V1Rep w (Mem.of fun _ => True) (.one (.val (.int .i64 n))) v := by
  obtain ⟨n, rfl, rfl, _, hw⟩ := open_int ht hval hd
  simp only [Lit.wf, Bool.and_eq_true, decide_eq_true_eq] at hw
  exact ⟨n, hw, rfl, v1_one (.val _ rfl)⟩

theorem open_slice_rd {P : Program} {t e : TypeId} {T : Type} [Inhabited T] {eT : T → List C} {wf : List T → Prop} {D : ∀ H : Type, DataW H → List T → Prop} (hr : Reads P t (fun l : List T => [tl eT default l]) wf D) (ht : P.underlying t = some (.slice e)) {H : Type} {enc : TypeId × Value → H} {w : World} {r : Reach} {b0 : Nat} {v : Value} {d : DataW H} {ps : List MemPlace}
    (hval : Value.okWide P w r b0 t v) (hd : DataW.Trod enc P w 0 (fun _ => true) true t v d ps) : ∃ x : List T, wf x ∧ D H d x ∧ V1Rep w (Mem.of fun _ => True) (.one (tl eT default x)) v := by
  obtain ⟨a, n, c, rfl⟩ := okWide_slice ht hval
  obtain ⟨fuel, hf⟩ := hd
  obtain ⟨x, h1, h2, h3⟩ := hr.rd _ _ _ _ _ _ _ hf
  exact ⟨x, h1, h3, v1_one (by simpa [Value.cells] using h2.2 0 (by simp))⟩

/-- What a listed variable gives: its block, and its reading. -/
theorem laid_glob {P : Program} {w : World} {n : String} {d : DataW Unit} {rest : List (String × DataW Unit)} {ps : List MemPlace} (h : DataW.LaidVars P w ((n, d) :: rest) ps) {g t : Nat} (hg : P.globalNamed n = some g) (ht : (P.globals[g]?).map (·.type) = some t) :
    ∃ (cs : Array Value) (e : TypeId) (fz : Nat × Nat) (fuel : Nat) (p : List MemPlace), w.heap[g]? = some (.cells cs e fz) ∧ DataW.trod (fun _ => ()) P w 0 (fun _ => true) false fuel t cs.toList = some (d, p) ∧ ∃ q, DataW.LaidVars P w rest q := by
  obtain ⟨g', t', cs, fuel, p, q, hg', ht', hvar, hd, hr, _⟩ := h
  obtain rfl := Option.some.inj (hg.symm.trans hg')
  obtain rfl := Option.some.inj (ht.symm.trans ht')
  unfold World.var? at hvar
  rw [hg] at hvar
  simp only [Option.bind_some] at hvar
  split at hvar
  · rename_i cs' e fz hh
    cases hvar
    exact ⟨cs, e, fz, fuel, p, hh, hd, q, hr⟩
  · cases hvar

end Go.SL
