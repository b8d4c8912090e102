/- The readings of the laws' parameters. -/
import Derived.Test.YtgpgnlllieekbaaDoorEBase
import Derived.Test.YtgpgnlllieekbaaDoorYa5
import Derived.Test.YtgpgnlllieekbaaDoorRows
import Derived.Lib.LaidTab
import Derived.Test.YtgpgnlllieekbaaDoorCards
import Derived.Test.YtgpgnlllieekbaaDoorTie
set_option linter.unusedVariables false
set_option linter.unusedSimpArgs false
namespace Go.SL
namespace Saw
open Go.Proofs Go.RowKit Go.ChangeShapes Go.WideShapes

theorem rd_9 : Reads Tryd.prog 9 e_str strok D_string := reads_string (by kernel_rfl) (by kernel_rfl)
theorem rd_3 : Reads Tryd.prog 3 e_i64 i64ok D_int := reads_int (by kernel_rfl) (by kernel_rfl)
theorem rd_25 : Reads Tryd.prog 25 (fun l : List Int => [tl e_i64 default l]) (fun l : List Int => l.length ≤ maxLen ∧ ∀ x ∈ l, i64ok x) (D_sl D_int) :=
  reads_slice (e := 3) (by kernel_rfl) (by kernel_rfl) (show 0 < _ from Nat.lt_of_lt_of_eq (show 0 < 1 by decide) (by kernel_rfl)) rd_3
theorem und25 : Tryd.prog.underlying 25 = some (.slice 3) := by kernel_rfl
def wfProduct (r : Product) : Prop := strok r.Name ∧ i64ok r.Thick ∧ i64ok r.Width ∧ i64ok r.Allow ∧ i64ok r.Wane ∧ (fun l : List Int => l.length ≤ maxLen ∧ ∀ x ∈ l, i64ok x) r.Lengths ∧ (fun l : List Int => l.length ≤ maxLen ∧ ∀ x ∈ l, i64ok x) r.Prices ∧ True
def g_Product : (ByteArray × (Int × (Int × (Int × (Int × ((List Int) × ((List Int) × Unit))))))) → Product := (fun r : ByteArray × (Int × (Int × (Int × (Int × ((List Int) × ((List Int) × Unit)))))) => Product.mk r.1 r.2.1 r.2.2.1 r.2.2.2.1 r.2.2.2.2.1 r.2.2.2.2.2.1 r.2.2.2.2.2.2.1)
def D_Product : ∀ H : Type, DataW H → Product → Prop := D_map g_Product (D_str (DF_cons D_string (DF_cons D_int (DF_cons D_int (DF_cons D_int (DF_cons D_int (DF_cons (D_sl D_int) (DF_cons (D_sl D_int) DF_nil))))))))
theorem und43 : Tryd.prog.underlying 43 = some (.struct #[(Field.mk "Name" 9 0 false "" "" 0), (Field.mk "Thick" 3 1 false "" "" 16), (Field.mk "Width" 3 2 false "" "" 24), (Field.mk "Allow" 3 3 false "" "" 32), (Field.mk "Wane" 3 4 false "" "" 40), (Field.mk "Lengths" 25 5 false "" "" 48), (Field.mk "Prices" 25 6 false "" "" 72)]) := by kernel_rfl
theorem rd_43 : Reads Tryd.prog 43 e_Product wfProduct D_Product :=
  reads_into (reads_struct (fs := #[(Field.mk "Name" 9 0 false "" "" 0), (Field.mk "Thick" 3 1 false "" "" 16), (Field.mk "Width" 3 2 false "" "" 24), (Field.mk "Allow" 3 3 false "" "" 32), (Field.mk "Wane" 3 4 false "" "" 40), (Field.mk "Lengths" 25 5 false "" "" 48), (Field.mk "Prices" 25 6 false "" "" 72)]) und43 (rf_cons (off := 0) rd_9 (rf_cons (off := 1) rd_3 (rf_cons (off := 2) rd_3 (rf_cons (off := 3) rd_3 (rf_cons (off := 4) rd_3 (rf_cons (off := 5) rd_25 (rf_cons (off := 6) rd_25 (rf_nil 7) rfl (by kernel_rfl)) rfl (by kernel_rfl)) rfl (by kernel_rfl)) rfl (by kernel_rfl)) rfl (by kernel_rfl)) rfl (by kernel_rfl)) rfl (by kernel_rfl)) (by kernel_rfl)) g_Product (fun _ => rfl) (fun _ => show 7 = _ by kernel_rfl) (fun _ h => h)
theorem rd_22 : Reads Tryd.prog 22 (fun l : List Product => [tl e_Product default l]) (fun l : List Product => l.length ≤ maxLen ∧ ∀ x ∈ l, wfProduct x) (D_sl D_Product) :=
  reads_slice (e := 43) (by kernel_rfl) (by kernel_rfl) (show 0 < _ from Nat.lt_of_lt_of_eq (show 0 < 7 by decide) (by kernel_rfl)) rd_43
theorem und22 : Tryd.prog.underlying 22 = some (.slice 43) := by kernel_rfl
def wfPiece (r : Piece) : Prop := i64ok r.Size ∧ i64ok r.At ∧ True
def g_Piece : (Int × (Int × Unit)) → Piece := (fun r : Int × (Int × Unit) => Piece.mk r.1 r.2.1)
def D_Piece : ∀ H : Type, DataW H → Piece → Prop := D_map g_Piece (D_str (DF_cons D_int (DF_cons D_int DF_nil)))
theorem und98 : Tryd.prog.underlying 98 = some (.struct #[(Field.mk "Size" 3 0 false "" "" 0), (Field.mk "At" 3 1 false "" "" 8)]) := by kernel_rfl
theorem rd_98 : Reads Tryd.prog 98 e_Piece wfPiece D_Piece :=
  reads_into (reads_struct (fs := #[(Field.mk "Size" 3 0 false "" "" 0), (Field.mk "At" 3 1 false "" "" 8)]) und98 (rf_cons (off := 0) rd_3 (rf_cons (off := 1) rd_3 (rf_nil 2) rfl (by kernel_rfl)) rfl (by kernel_rfl)) (by kernel_rfl)) g_Piece (fun _ => rfl) (fun _ => show 2 = _ by kernel_rfl) (fun _ h => h)
section
variable {H : Type} {enc : TypeId × Value → H} {w : World} {r : Reach} {b0 : Nat} {v : Value} {d : DataW H} {ps : List MemPlace}
set_option maxRecDepth 100000 in
theorem open_22 (hval : Value.okWide Tryd.prog w r b0 22 v) (hd : DataW.Trod enc Tryd.prog w 0 (fun _ => true) true 22 v d ps) : ∃ x : List Product, (x.length ≤ maxLen ∧ ∀ y ∈ x, wfProduct y) ∧ D_sl D_Product H d x ∧ V1Rep w (Mem.of fun _ => True) (.one (tl e_Product default x)) v := by
  obtain ⟨x, h1, h2, h3⟩ := open_slice_rd rd_22 und22 hval hd
  exact ⟨x, h1, h2, h3⟩
theorem und3 : Tryd.prog.underlying 3 = some (.int .i64) := by kernel_rfl
set_option maxRecDepth 100000 in
theorem open_3 (hval : Value.okWide Tryd.prog w r b0 3 v) (hd : DataW.Trod enc Tryd.prog w 0 (fun _ => true) true 3 v d ps) : ∃ n, i64ok n ∧ d = .lit (.int .i64 n) ∧ V1Rep w (Mem.of fun _ => True) (.one (.val (.int .i64 n))) v := by
  obtain ⟨x, h1, h2, h3⟩ := open_int_rd und3 hval hd
  exact ⟨x, h1, h2, h3⟩
end

theorem globs_ok {W : World} (h : laidMetH Tryd.prog YtgpgnlllieekbaaDoor.Rows.edgeSizesRow.laid W) : Globs globs W (fun _ => True) := by
  have h' : laidMet Tryd.prog YtgpgnlllieekbaaDoor.Rows.edgeSizesRow.laid W := h
  obtain ⟨ps, hl, _⟩ := h'
  obtain ⟨cs, e, fz, fuel, p, hh, hd, q, hl⟩ := laid_glob hl (g := 0) (t := 98) (by kernel_rfl) (by kernel_rfl)
  obtain ⟨x, _, hx2, hx3⟩ := rd_98.rd _ _ _ _ _ _ _ hd
  have hx : x = var_none := by
    obtain ⟨r, rfl, ds, he, d0, rest, h0, hd0, d1, rest', h1, hd1, h2⟩ := hx3
    obtain ⟨a, b, u⟩ := r
    subst h0; subst h1
    unfold D_int at hd0 hd1
    subst hd0; subst hd1
    injection he with he
    injection he with e0 he
    injection he with e1 he
    injection e0 with e0
    injection e1 with e1
    injection e0 with _ e0
    injection e1 with _ e1
    simp only at e0 e1
    unfold g_Piece var_none
    rw [← e0, ← e1]
  subst hx
  intro g c hc
  unfold globs at hc
  rw [look_cons] at hc
  split at hc
  · rename_i hg
    subst hg
    cases hc
    exact glob_rec hh hx2
  · cases hc

def setAll (cs : Array Value) : Obj → Obj
  | .cells _ t frozen => .cells cs t frozen
  | o => o
/-- A world for the witness: the listed variable holds what its initialiser lays. -/
noncomputable def laidWorld (os : Os) : World :=
  { World.holding Tryd.prog os ⟨#[], #[], []⟩ with heap := (World.holding Tryd.prog os ⟨#[], #[], []⟩).heap.modify 0 (setAll #[.int .i64 (-1), .int .i64 (-1)]) }

theorem laidOut : laidOutB Tryd.prog = true := by kernel_rfl
theorem own : ownKnob Tryd.prog.godebug = none := by kernel_rfl
end Saw
end Go.SL
