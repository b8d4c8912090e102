/- The readings of the laws' parameters. -/
import Derived.Test.YtjelipmghgcpeaaSBase
import Derived.Test.YtjelipmghgcpeaaYa5
import Derived.Test.YtjelipmghgcpeaaRows
import Derived.Lib.LaidTab
set_option linter.unusedVariables false
set_option linter.unusedSimpArgs false
namespace Go.SL
namespace Saw
open Go.Proofs Go.RowKit Go.ChangeShapes Go.WideShapes

theorem rd_3 : Reads Try.prog 3 e_i64 i64ok D_int := reads_int (by kernel_rfl) (by kernel_rfl)
def wfSpan (r : Span) : Prop := i64ok r.A ∧ i64ok r.B ∧ True
def g_Span : (Int × (Int × Unit)) → Span := (fun r : Int × (Int × Unit) => Span.mk r.1 r.2.1)
def D_Span : ∀ H : Type, DataW H → Span → Prop := D_map g_Span (D_str (DF_cons D_int (DF_cons D_int DF_nil)))
theorem und35 : Try.prog.underlying 35 = some (.struct #[(Field.mk "A" 3 0 false "" "" 0), (Field.mk "B" 3 1 false "" "" 8)]) := by kernel_rfl
theorem rd_35 : Reads Try.prog 35 e_Span wfSpan D_Span :=
  reads_into (reads_struct (fs := #[(Field.mk "A" 3 0 false "" "" 0), (Field.mk "B" 3 1 false "" "" 8)]) und35 (rf_cons (off := 0) rd_3 (rf_cons (off := 1) rd_3 (rf_nil 2) rfl (by kernel_rfl)) rfl (by kernel_rfl)) (by kernel_rfl)) g_Span (fun _ => rfl) (fun _ => show 2 = _ by kernel_rfl) (fun _ h => h)
theorem rd_22 : Reads Try.prog 22 (fun l : List Span => [tl e_Span default l]) (fun l : List Span => l.length ≤ maxLen ∧ ∀ x ∈ l, wfSpan x) (D_sl D_Span) :=
  reads_slice (e := 35) (by kernel_rfl) (by kernel_rfl) (show 0 < _ from Nat.lt_of_lt_of_eq (show 0 < 2 by decide) (by kernel_rfl)) rd_35
theorem und22 : Try.prog.underlying 22 = some (.slice 35) := by kernel_rfl
def wfSection (r : Section) : Prop := i64ok r.Low ∧ (fun l : List Span => l.length ≤ maxLen ∧ ∀ x ∈ l, wfSpan x) r.Rows ∧ True
def g_Section : (Int × ((List Span) × Unit)) → Section := (fun r : Int × ((List Span) × Unit) => Section.mk r.1 r.2.1)
def D_Section : ∀ H : Type, DataW H → Section → Prop := D_map g_Section (D_str (DF_cons D_int (DF_cons (D_sl D_Span) DF_nil)))
theorem und24 : Try.prog.underlying 24 = some (.struct #[(Field.mk "Low" 3 0 false "" "" 0), (Field.mk "Rows" 22 1 false "" "" 8)]) := by kernel_rfl
theorem rd_24 : Reads Try.prog 24 e_Section wfSection D_Section :=
  reads_into (reads_struct (fs := #[(Field.mk "Low" 3 0 false "" "" 0), (Field.mk "Rows" 22 1 false "" "" 8)]) und24 (rf_cons (off := 0) rd_3 (rf_cons (off := 1) rd_22 (rf_nil 2) rfl (by kernel_rfl)) rfl (by kernel_rfl)) (by kernel_rfl)) g_Section (fun _ => rfl) (fun _ => show 2 = _ by kernel_rfl) (fun _ h => h)
def wfPoint (r : Point) : Prop := i64ok r.X ∧ i64ok r.Y ∧ True
def g_Point : (Int × (Int × Unit)) → Point := (fun r : Int × (Int × Unit) => Point.mk r.1 r.2.1)
def D_Point : ∀ H : Type, DataW H → Point → Prop := D_map g_Point (D_str (DF_cons D_int (DF_cons D_int DF_nil)))
theorem und46 : Try.prog.underlying 46 = some (.struct #[(Field.mk "X" 3 0 false "" "" 0), (Field.mk "Y" 3 1 false "" "" 8)]) := by kernel_rfl
theorem rd_46 : Reads Try.prog 46 e_Point wfPoint D_Point :=
  reads_into (reads_struct (fs := #[(Field.mk "X" 3 0 false "" "" 0), (Field.mk "Y" 3 1 false "" "" 8)]) und46 (rf_cons (off := 0) rd_3 (rf_cons (off := 1) rd_3 (rf_nil 2) rfl (by kernel_rfl)) rfl (by kernel_rfl)) (by kernel_rfl)) g_Point (fun _ => rfl) (fun _ => show 2 = _ by kernel_rfl) (fun _ h => h)
theorem rd_29 : Reads Try.prog 29 (fun l : List Point => [tl e_Point default l]) (fun l : List Point => l.length ≤ maxLen ∧ ∀ x ∈ l, wfPoint x) (D_sl D_Point) :=
  reads_slice (e := 46) (by kernel_rfl) (by kernel_rfl) (show 0 < _ from Nat.lt_of_lt_of_eq (show 0 < 2 by decide) (by kernel_rfl)) rd_46
theorem und29 : Try.prog.underlying 29 = some (.slice 46) := by kernel_rfl
def wfRect (r : Rect) : Prop := wfSpan r.X ∧ wfSpan r.Y ∧ True
def g_Rect : (Span × (Span × Unit)) → Rect := (fun r : Span × (Span × Unit) => Rect.mk r.1 r.2.1)
def D_Rect : ∀ H : Type, DataW H → Rect → Prop := D_map g_Rect (D_str (DF_cons D_Span (DF_cons D_Span DF_nil)))
theorem und37 : Try.prog.underlying 37 = some (.struct #[(Field.mk "X" 35 0 false "" "" 0), (Field.mk "Y" 35 2 false "" "" 16)]) := by kernel_rfl
theorem rd_37 : Reads Try.prog 37 e_Rect wfRect D_Rect :=
  reads_into (reads_struct (fs := #[(Field.mk "X" 35 0 false "" "" 0), (Field.mk "Y" 35 2 false "" "" 16)]) und37 (rf_cons (off := 0) rd_35 (rf_cons (off := 2) rd_35 (rf_nil 4) rfl (by kernel_rfl)) rfl (by kernel_rfl)) (by kernel_rfl)) g_Rect (fun _ => rfl) (fun _ => show 4 = _ by kernel_rfl) (fun _ h => h)
section
variable {H : Type} {enc : TypeId × Value → H} {w : World} {r : Reach} {b0 : Nat} {v : Value} {d : DataW H} {ps : List MemPlace}
set_option maxRecDepth 100000 in
theorem open_24 (hval : Value.okWide Try.prog w r b0 24 v) (hd : DataW.Trod enc Try.prog w 0 (fun _ => true) true 24 v d ps) : ∃ x, wfSection x ∧ D_Section H d x ∧ V1Rep w (Mem.of fun _ => True) (.agg (e_Section x)) v := by
  obtain ⟨x, h1, h2, h3⟩ := open_struct_rd rd_24 und24 hval hd
  exact ⟨x, h1, h2, h3⟩
set_option maxRecDepth 100000 in
theorem open_29 (hval : Value.okWide Try.prog w r b0 29 v) (hd : DataW.Trod enc Try.prog w 0 (fun _ => true) true 29 v d ps) : ∃ x : List Point, (x.length ≤ maxLen ∧ ∀ y ∈ x, wfPoint y) ∧ D_sl D_Point H d x ∧ V1Rep w (Mem.of fun _ => True) (.one (tl e_Point default x)) v := by
  obtain ⟨x, h1, h2, h3⟩ := open_slice_rd rd_29 und29 hval hd
  exact ⟨x, h1, h2, h3⟩
set_option maxRecDepth 100000 in
theorem open_37 (hval : Value.okWide Try.prog w r b0 37 v) (hd : DataW.Trod enc Try.prog w 0 (fun _ => true) true 37 v d ps) : ∃ x, wfRect x ∧ D_Rect H d x ∧ V1Rep w (Mem.of fun _ => True) (.agg (e_Rect x)) v := by
  obtain ⟨x, h1, h2, h3⟩ := open_struct_rd rd_37 und37 hval hd
  exact ⟨x, h1, h2, h3⟩
theorem und3 : Try.prog.underlying 3 = some (.int .i64) := by kernel_rfl
set_option maxRecDepth 100000 in
theorem open_3 (hval : Value.okWide Try.prog w r b0 3 v) (hd : DataW.Trod enc Try.prog w 0 (fun _ => true) true 3 v d ps) : ∃ n, i64ok n ∧ d = .lit (.int .i64 n) ∧ V1Rep w (Mem.of fun _ => True) (.one (.val (.int .i64 n))) v := by
  obtain ⟨x, h1, h2, h3⟩ := open_int_rd und3 hval hd
  exact ⟨x, h1, h2, h3⟩
set_option maxRecDepth 100000 in
theorem open_46 (hval : Value.okWide Try.prog w r b0 46 v) (hd : DataW.Trod enc Try.prog w 0 (fun _ => true) true 46 v d ps) : ∃ x, wfPoint x ∧ D_Point H d x ∧ V1Rep w (Mem.of fun _ => True) (.agg (e_Point x)) v := by
  obtain ⟨x, h1, h2, h3⟩ := open_struct_rd rd_46 und46 hval hd
  exact ⟨x, h1, h2, h3⟩
end

theorem globs_ok {W : World} : Globs globs W (fun _ => True) := fun g c h => by cases h
noncomputable def laidWorld (os : Os) : World := World.holding Try.prog os ⟨#[], #[], []⟩
theorem laidOut : laidOutB Try.prog = true := by kernel_rfl
theorem own : ownKnob Try.prog.godebug = none := by kernel_rfl
end Saw
end Go.SL
