/- The poly seat: what its readings and its listed variables give. -/
import Derived.Test.YtcppgjcniljkcaaDoorPBase
import Derived.Test.YtcppgjcniljkcaaDoorCards
import Derived.Test.YtcppgjcniljkcaaDoorTie
import Derived.Lib.LaidTab
set_option linter.unusedVariables false
set_option linter.unusedSimpArgs false
namespace Go.SL
namespace Saw
open Go.Proofs Go.RowKit Go.ChangeShapes Go.WideShapes

def wfPoint (p : Point) : Prop := i64ok p.X ∧ i64ok p.Y
def wfPoints (l : List Point) : Prop := l.length ≤ maxLen ∧ ∀ x ∈ l, wfPoint x
def D_Point (H : Type) (d : DataW H) (r : Point) : Prop := d = .agg [.lit (.int .i64 r.X), .lit (.int .i64 r.Y)]

theorem rd_int : Reads Tryd.prog 3 e_i64 i64ok D_int := reads_int (by kernel_rfl) (by kernel_rfl)
theorem rd_Point : Reads Tryd.prog 38 e_Point wfPoint D_Point :=
  reads_map (reads_struct2 (f0 := (Field.mk "X" 3 0 false "" "" 0)) (f1 := (Field.mk "Y" 3 1 false "" "" 8)) (by kernel_rfl) rd_int rd_int rfl (by kernel_rfl) (by kernel_rfl))
    (fun r => Point.mk r.1 r.2) (fun _ => rfl) (fun _ => show 2 = _ by kernel_rfl) (fun _ h => h) (fun H d r h => by
      obtain ⟨d0, d1, rfl, rfl, rfl⟩ := h
      rfl)
theorem rd_Points : Reads Tryd.prog 22 (fun l : List Point => [tl e_Point default l]) wfPoints (D_sl D_Point) :=
  reads_slice (e := 38) (by kernel_rfl) (by kernel_rfl) (show 0 < _ from Nat.lt_of_lt_of_eq (show 0 < 2 by decide) (by kernel_rfl)) rd_Point

theorem und38 : Tryd.prog.underlying 38 = some (.struct #[(Field.mk "X" 3 0 false "" "" 0), (Field.mk "Y" 3 1 false "" "" 8)]) := by kernel_rfl
theorem und22 : Tryd.prog.underlying 22 = some (.slice 38) := by kernel_rfl
theorem und3 : Tryd.prog.underlying 3 = some (.int .i64) := by kernel_rfl
theorem und46 : Tryd.prog.underlying 46 = some (.array 2 3) := by kernel_rfl
theorem und49 : Tryd.prog.underlying 49 = some (.array 4 3) := by kernel_rfl
theorem undTT : Tryd.prog.underlying 52 = some (.array 4 38) := by kernel_rfl

section
variable {H : Type} {enc : TypeId × Value → H} {w : World} {r : Reach} {b0 : Nat} {v : Value} {d : DataW H} {ps : List MemPlace}
theorem open_P (hval : Value.okWide Tryd.prog w r b0 38 v) (hd : DataW.Trod enc Tryd.prog w 0 (fun _ => true) true 38 v d ps) : ∃ x, wfPoint x ∧ V1Rep w (Mem.of fun _ => True) (.agg (e_Point x)) v := by
  obtain ⟨x, h1, _, h2⟩ := open_struct_rd rd_Point und38 hval hd
  exact ⟨x, h1, h2⟩
theorem open_L (hval : Value.okWide Tryd.prog w r b0 22 v) (hd : DataW.Trod enc Tryd.prog w 0 (fun _ => true) true 22 v d ps) : ∃ x : List Point, wfPoints x ∧ V1Rep w (Mem.of fun _ => True) (.one (tl e_Point default x)) v := by
  obtain ⟨x, h1, _, h2⟩ := open_slice_rd rd_Points und22 hval hd
  exact ⟨x, h1, h2⟩
theorem open_I (hval : Value.okWide Tryd.prog w r b0 3 v) (hd : DataW.Trod enc Tryd.prog w 0 (fun _ => true) true 3 v d ps) : ∃ n, i64ok n ∧ V1Rep w (Mem.of fun _ => True) (.one (.val (.int .i64 n))) v := by
  obtain ⟨x, h1, _, h2⟩ := open_int_rd und3 hval hd
  exact ⟨x, h1, h2⟩
theorem open_I2 (hval : Value.okWide Tryd.prog w r b0 46 v) (hd : DataW.Trod enc Tryd.prog w 0 (fun _ => true) true 46 v d ps) :
    ∃ x : List Int, x.length = 2 ∧ (∀ y ∈ x, i64ok y) ∧ V1Rep w (Mem.of fun _ => True) (.agg [.val (.int .i64 (x.getD 0 default)), .val (.int .i64 (x.getD 1 default))]) v := by
  obtain ⟨x, h0, h1, _, h2⟩ := open_array_rd rd_int und46 (by kernel_rfl) hval hd
  refine ⟨x, h0, h1, ?_⟩
  match x, h0, h2 with
  | [a, b], _, h2 => exact h2
theorem open_I4 (hval : Value.okWide Tryd.prog w r b0 49 v) (hd : DataW.Trod enc Tryd.prog w 0 (fun _ => true) true 49 v d ps) :
    ∃ x : List Int, x.length = 4 ∧ (∀ y ∈ x, i64ok y) ∧ V1Rep w (Mem.of fun _ => True) (.agg [.val (.int .i64 (x.getD 0 default)), .val (.int .i64 (x.getD 1 default)), .val (.int .i64 (x.getD 2 default)), .val (.int .i64 (x.getD 3 default))]) v := by
  obtain ⟨x, h0, h1, _, h2⟩ := open_array_rd rd_int und49 (by kernel_rfl) hval hd
  refine ⟨x, h0, h1, ?_⟩
  match x, h0, h2 with
  | [a, b, c, d], _, h2 => exact h2
end

theorem globs_ok {W : World} (h : laidMetH Tryd.prog YtcppgjcniljkcaaDoor.Rows.polyChecksRow.laid W) : Globs globs W (fun _ => True) := by
  have h' : laidMet Tryd.prog YtcppgjcniljkcaaDoor.Rows.polyChecksRow.laid W := h
  obtain ⟨ps, hl, _⟩ := h'
  obtain ⟨cs, e, fz, fuel, p, hh, hd, q, hl⟩ := laid_glob hl (g := 0) (t := 52) (by kernel_rfl) (by kernel_rfl)
  obtain ⟨x, hx1, _, hx2, hx3⟩ := rd_array undTT (by kernel_rfl) rd_Point hd
  have hx : x = tab_turns := by
    obtain ⟨ds, he, _, _, hall⟩ := hx3
    cases he
    match x, hx1 with
    | [a, b, c, d], _ =>
      have h0 := hall 0 _ a rfl rfl
      have h1 := hall 1 _ b rfl rfl
      have h2 := hall 2 _ c rfl rfl
      have h3 := hall 3 _ d rfl rfl
      simp only [D_Point, DataW.agg.injEq, List.cons.injEq, DataW.lit.injEq, Lit.int.injEq, true_and, and_true] at h0 h1 h2 h3
      obtain ⟨ax, ay⟩ := a
      obtain ⟨bx, bY⟩ := b
      obtain ⟨cx, cy⟩ := c
      obtain ⟨dx, dy⟩ := d
      simp only at h0 h1 h2 h3
      obtain ⟨rfl, rfl⟩ := h0
      obtain ⟨rfl, rfl⟩ := h1
      obtain ⟨rfl, rfl⟩ := h2
      obtain ⟨rfl, rfl⟩ := h3
      rfl
  subst hx
  intro g c hc
  unfold globs at hc
  rw [look_cons] at hc
  split at hc
  · rename_i hg
    subst hg
    cases hc
    exact glob_arr (eT := e_Point) (fun _ => rfl) hh hx2
  · cases hc

def setAll (cs : Array Value) : Obj → Obj
  | .cells _ t frozen => .cells cs t frozen
  | o => o
/-- A world for the witness: the listed table holds what its initialiser lays. -/
noncomputable def laidWorld (os : Os) : World :=
  { World.holding Tryd.prog os ⟨#[], #[], []⟩ with heap := (World.holding Tryd.prog os ⟨#[], #[], []⟩).heap.modify 0 (setAll #[.int .i64 1, .int .i64 0, .int .i64 0, .int .i64 1, .int .i64 (-1), .int .i64 0, .int .i64 0, .int .i64 (-1)]) }
theorem laidOut : laidOutB Tryd.prog = true := by kernel_rfl
theorem own : ownKnob Tryd.prog.godebug = none := by kernel_rfl
end Saw
end Go.SL
