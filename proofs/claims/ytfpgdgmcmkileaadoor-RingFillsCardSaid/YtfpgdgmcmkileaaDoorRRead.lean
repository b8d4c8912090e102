/- The ring seat: what its readings and its listed variables give. -/
import Derived.Test.YtfpgdgmcmkileaaDoorSl14
import Derived.Test.YtfpgdgmcmkileaaDoorRBase
import Derived.Test.YtfpgdgmcmkileaaDoorCards
import Derived.Test.YtfpgdgmcmkileaaDoorTie
import Derived.Lib.LaidTab
set_option linter.unusedVariables false
set_option linter.unusedSimpArgs false
namespace Go.SL
namespace Saw
open Go.Proofs Go.RowKit Go.ChangeShapes Go.WideShapes

def wfPoint (p : Point) : Prop := i64ok p.X ∧ i64ok p.Y
def wfReading (r : Reading) : Prop := wfPoint r.P
def wfRing (r : Ring) : Prop := i64ok r.Z ∧ r.Read.length ≤ maxLen ∧ ∀ x ∈ r.Read, wfReading x
def D_Point (H : Type) (d : DataW H) (r : Point) : Prop := d = .agg [.lit (.int .i64 r.X), .lit (.int .i64 r.Y)]

theorem rd_int : Reads Tryd.prog 3 e_i64 i64ok D_int := reads_int (by kernel_rfl) (by kernel_rfl)
theorem rd_bool : Reads Tryd.prog 4 e_bool (fun _ => True) D_bool := reads_bool (by kernel_rfl) (by kernel_rfl)
theorem rd_Point : Reads Tryd.prog 38 e_Point wfPoint D_Point :=
  reads_map (reads_struct2 (f0 := (Field.mk "X" 3 0 false "" "" 0)) (f1 := (Field.mk "Y" 3 1 false "" "" 8)) (by kernel_rfl) rd_int rd_int rfl (by kernel_rfl) (by kernel_rfl))
    (fun r => Point.mk r.1 r.2) (fun _ => rfl) (fun _ => show 2 = _ by kernel_rfl) (fun _ h => h) (fun H d r h => by
      obtain ⟨d0, d1, rfl, rfl, rfl⟩ := h
      rfl)
theorem rd_Reading : Reads Tryd.prog 44 e_Reading wfReading (fun _ _ _ => True) :=
  reads_map (reads_struct2 (f0 := (Field.mk "P" 38 0 false "" "" 0)) (f1 := (Field.mk "Ok" 4 2 false "" "" 16)) (by kernel_rfl) rd_Point rd_bool rfl (by kernel_rfl) (by kernel_rfl))
    (fun r => Reading.mk r.1 r.2) (fun _ => rfl) (fun _ => show 3 = _ by kernel_rfl) (fun _ h => h.1) (fun _ _ _ _ => trivial)
theorem rd_Readings : Reads Tryd.prog 22 (fun l : List Reading => [tl e_Reading default l]) (fun l => l.length ≤ maxLen ∧ ∀ x ∈ l, wfReading x) (D_sl fun _ _ _ => True) :=
  reads_slice (e := 44) (by kernel_rfl) (by kernel_rfl) (show 0 < _ from Nat.lt_of_lt_of_eq (show 0 < 3 by decide) (by kernel_rfl)) rd_Reading
theorem rd_Ring : Reads Tryd.prog 24 e_Ring wfRing (fun _ _ _ => True) :=
  reads_map (reads_struct2 (f0 := (Field.mk "Z" 3 0 false "" "" 0)) (f1 := (Field.mk "Read" 22 1 false "" "" 8)) (by kernel_rfl) rd_int rd_Readings rfl (by kernel_rfl) (by kernel_rfl))
    (fun r => Ring.mk r.1 r.2) (fun _ => rfl) (fun _ => show 2 = _ by kernel_rfl) (fun _ h => h) (fun _ _ _ _ => trivial)

theorem und24 : Tryd.prog.underlying 24 = some (.struct #[(Field.mk "Z" 3 0 false "" "" 0), (Field.mk "Read" 22 1 false "" "" 8)]) := by kernel_rfl
theorem und3 : Tryd.prog.underlying 3 = some (.int .i64) := by kernel_rfl
theorem und42 : Tryd.prog.underlying 42 = some (.array 2 3) := by kernel_rfl
theorem und61 : Tryd.prog.underlying 61 = some (.array 4 38) := by kernel_rfl

theorem open_Ring {H : Type} {enc : TypeId × Value → H} {w : World} {r : Reach} {b0 : Nat} {v : Value} {d : DataW H} {ps : List MemPlace} (hval : Value.okWide Tryd.prog w r b0 24 v) (hd : DataW.Trod enc Tryd.prog w 0 (fun _ => true) true 24 v d ps) :
    ∃ x, wfRing x ∧ V1Rep w (Mem.of fun _ => True) (.agg (e_Ring x)) v := by
  obtain ⟨x, h1, _, h2⟩ := open_struct_rd rd_Ring und24 hval hd
  exact ⟨x, h1, h2⟩
theorem open_I {H : Type} {enc : TypeId × Value → H} {w : World} {r : Reach} {b0 : Nat} {v : Value} {d : DataW H} {ps : List MemPlace} (hval : Value.okWide Tryd.prog w r b0 3 v) (hd : DataW.Trod enc Tryd.prog w 0 (fun _ => true) true 3 v d ps) :
    ∃ n, i64ok n ∧ V1Rep w (Mem.of fun _ => True) (.one (.val (.int .i64 n))) v := by
  obtain ⟨x, h1, _, h2⟩ := open_int_rd und3 hval hd
  exact ⟨x, h1, h2⟩
theorem open_I2 {H : Type} {enc : TypeId × Value → H} {w : World} {r : Reach} {b0 : Nat} {v : Value} {d : DataW H} {ps : List MemPlace} (hval : Value.okWide Tryd.prog w r b0 42 v) (hd : DataW.Trod enc Tryd.prog w 0 (fun _ => true) true 42 v d ps) :
    ∃ x : List Int, x.length = 2 ∧ (∀ y ∈ x, i64ok y) ∧ V1Rep w (Mem.of fun _ => True) (.agg [.val (.int .i64 (x.getD 0 default)), .val (.int .i64 (x.getD 1 default))]) v := by
  obtain ⟨x, h0, h1, _, h2⟩ := open_array_rd rd_int und42 (by kernel_rfl) hval hd
  refine ⟨x, h0, h1, ?_⟩
  match x, h0, h2 with
  | [a, b], _, h2 => exact h2

theorem globs_ok {W : World} (h : laidMetH Tryd.prog YtfpgdgmcmkileaaDoor.Rows.ringChecksRow.laid W) : Globs globs W (fun _ => True) := by
  have h' : laidMet Tryd.prog YtfpgdgmcmkileaaDoor.Rows.ringChecksRow.laid W := h
  obtain ⟨ps, hl, _⟩ := h'
  obtain ⟨cs, e, fz, fuel, p, hh, hd, q, hl⟩ := laid_glob hl (g := 1) (t := 61) (by kernel_rfl) (by kernel_rfl)
  obtain ⟨cs', e', fz', fuel', p', hh', hd', q', hl⟩ := laid_glob hl (g := 0) (t := 42) (by kernel_rfl) (by kernel_rfl)
  obtain ⟨x, hx1, _, hx2, hx3⟩ := rd_array und61 (by kernel_rfl) rd_Point hd
  obtain ⟨y, hy1, _, hy2, hy3⟩ := rd_array und42 (by kernel_rfl) rd_int hd'
  have hx : x = tab_turns := by
    obtain ⟨ds, he, _, _, hall⟩ := hx3
    cases he
    match x, hx1 with
    | [a, b, c, d], _ =>
      have h0 := hall 0 _ a rfl rfl
      have h1 := hall 1 _ b rfl rfl
      have h2 := hall 2 _ c rfl rfl
      have h3 := hall 3 _ d rfl rfl
      simp only [D_Point, DataW.agg.injEq, List.cons.injEq, DataW.lit.injEq, Lit.int.injEq, true_and, and_true] at h0 h1 h2 h3
      obtain ⟨ax, ay⟩ := a
      obtain ⟨bx, bY⟩ := b
      obtain ⟨cx, cy⟩ := c
      obtain ⟨dx, dy⟩ := d
      simp only at h0 h1 h2 h3
      obtain ⟨rfl, rfl⟩ := h0
      obtain ⟨rfl, rfl⟩ := h1
      obtain ⟨rfl, rfl⟩ := h2
      obtain ⟨rfl, rfl⟩ := h3
      rfl
  have hy : y = tab_directions := by
    obtain ⟨ds, he, _, _, hall⟩ := hy3
    cases he
    match y, hy1 with
    | [a, b], _ =>
      have h0 := hall 0 _ a rfl rfl
      have h1 := hall 1 _ b rfl rfl
      simp only [D_int, DataW.lit.injEq, Lit.int.injEq, true_and] at h0 h1
      subst h0; subst h1
      rfl
  subst hx; subst hy
  intro g c hc
  unfold globs at hc
  rw [look_cons] at hc
  split at hc
  · rename_i hg
    subst hg
    cases hc
    exact glob_arr (eT := e_i64) (fun _ => rfl) hh' hy2
  · rw [look_cons] at hc
    split at hc
    · rename_i hg
      subst hg
      cases hc
      exact glob_arr (eT := e_Point) (fun _ => rfl) hh hx2
    · cases hc

def setAll (cs : Array Value) : Obj → Obj
  | .cells _ t frozen => .cells cs t frozen
  | o => o
/-- A world for the witness: the listed tables hold what their initialisers lay. -/
noncomputable def laidWorld (os : Os) : World :=
  { World.holding Tryd.prog os ⟨#[], #[], []⟩ with heap := ((World.holding Tryd.prog os ⟨#[], #[], []⟩).heap.modify 0 (setAll #[.int .i64 (-1), .int .i64 1])).modify 1 (setAll #[.int .i64 1, .int .i64 0, .int .i64 0, .int .i64 1, .int .i64 (-1), .int .i64 0, .int .i64 0, .int .i64 (-1)]) }
theorem laidOut : laidOutB Tryd.prog = true := by kernel_rfl
theorem own : ownKnob Tryd.prog.godebug = none := by kernel_rfl
end Saw
end Go.SL
