/- The readings of the laws' parameters. -/
import Derived.Test.YtgpgnlllieekbaaDoorEBase
import Derived.Test.YtgpgnlllieekbaaDoorYa5
import Derived.Test.YtgpgnlllieekbaaDoorRows
import Derived.Lib.LaidTab
import Derived.Test.YtgpgnlllieekbaaDoorCards
import Derived.Test.YtgpgnlllieekbaaDoorTie
set_option linter.unusedVariables false
set_option linter.unusedSimpArgs false
namespace Go.SL
namespace Saw
open Go.Proofs Go.RowKit Go.ChangeShapes Go.WideShapes

theorem rd_3 : Reads Tryd.prog 3 e_i64 i64ok D_int := reads_int (by kernel_rfl) (by kernel_rfl)
def wfSpan (r : Span) : Prop := i64ok r.A ∧ i64ok r.B ∧ True
def g_Span : (Int × (Int × Unit)) → Span := (fun r : Int × (Int × Unit) => Span.mk r.1 r.2.1)
def D_Span : ∀ H : Type, DataW H → Span → Prop := D_map g_Span (D_str (DF_cons D_int (DF_cons D_int DF_nil)))
theorem und33 : Tryd.prog.underlying 33 = some (.struct #[(Field.mk "A" 3 0 false "" "" 0), (Field.mk "B" 3 1 false "" "" 8)]) := by kernel_rfl
theorem rd_33 : Reads Tryd.prog 33 e_Span wfSpan D_Span :=
  reads_into (reads_struct (fs := #[(Field.mk "A" 3 0 false "" "" 0), (Field.mk "B" 3 1 false "" "" 8)]) und33 (rf_cons (off := 0) rd_3 (rf_cons (off := 1) rd_3 (rf_nil 2) rfl (by kernel_rfl)) rfl (by kernel_rfl)) (by kernel_rfl)) g_Span (fun _ => rfl) (fun _ => show 2 = _ by kernel_rfl) (fun _ h => h)
theorem rd_50 : Reads Tryd.prog 50 (fun l : List Span => [tl e_Span default l]) (fun l : List Span => l.length ≤ maxLen ∧ ∀ x ∈ l, wfSpan x) (D_sl D_Span) :=
  reads_slice (e := 33) (by kernel_rfl) (by kernel_rfl) (show 0 < _ from Nat.lt_of_lt_of_eq (show 0 < 2 by decide) (by kernel_rfl)) rd_33
theorem und50 : Tryd.prog.underlying 50 = some (.slice 33) := by kernel_rfl
def wfSection (r : Section) : Prop := i64ok r.Low ∧ (fun l : List Span => l.length ≤ maxLen ∧ ∀ x ∈ l, wfSpan x) r.Rows ∧ True
def g_Section : (Int × ((List Span) × Unit)) → Section := (fun r : Int × ((List Span) × Unit) => Section.mk r.1 r.2.1)
def D_Section : ∀ H : Type, DataW H → Section → Prop := D_map g_Section (D_str (DF_cons D_int (DF_cons (D_sl D_Span) DF_nil)))
theorem und52 : Tryd.prog.underlying 52 = some (.struct #[(Field.mk "Low" 3 0 false "" "" 0), (Field.mk "Rows" 50 1 false "" "" 8)]) := by kernel_rfl
theorem rd_52 : Reads Tryd.prog 52 e_Section wfSection D_Section :=
  reads_into (reads_struct (fs := #[(Field.mk "Low" 3 0 false "" "" 0), (Field.mk "Rows" 50 1 false "" "" 8)]) und52 (rf_cons (off := 0) rd_3 (rf_cons (off := 1) rd_50 (rf_nil 2) rfl (by kernel_rfl)) rfl (by kernel_rfl)) (by kernel_rfl)) g_Section (fun _ => rfl) (fun _ => show 2 = _ by kernel_rfl) (fun _ h => h)
def wfSlice (r : Slice) : Prop := i64ok r.Len ∧ wfSection r.Sec ∧ True
def g_Slice : (Int × (Section × Unit)) → Slice := (fun r : Int × (Section × Unit) => Slice.mk r.1 r.2.1)
def D_Slice : ∀ H : Type, DataW H → Slice → Prop := D_map g_Slice (D_str (DF_cons D_int (DF_cons D_Section DF_nil)))
theorem und54 : Tryd.prog.underlying 54 = some (.struct #[(Field.mk "Len" 3 0 false "" "" 0), (Field.mk "Sec" 52 1 false "" "" 8)]) := by kernel_rfl
theorem rd_54 : Reads Tryd.prog 54 e_Slice wfSlice D_Slice :=
  reads_into (reads_struct (fs := #[(Field.mk "Len" 3 0 false "" "" 0), (Field.mk "Sec" 52 1 false "" "" 8)]) und54 (rf_cons (off := 0) rd_3 (rf_cons (off := 1) rd_52 (rf_nil 3) rfl (by kernel_rfl)) rfl (by kernel_rfl)) (by kernel_rfl)) g_Slice (fun _ => rfl) (fun _ => show 3 = _ by kernel_rfl) (fun _ h => h)
theorem rd_30 : Reads Tryd.prog 30 (fun l : List Slice => [tl e_Slice default l]) (fun l : List Slice => l.length ≤ maxLen ∧ ∀ x ∈ l, wfSlice x) (D_sl D_Slice) :=
  reads_slice (e := 54) (by kernel_rfl) (by kernel_rfl) (show 0 < _ from Nat.lt_of_lt_of_eq (show 0 < 3 by decide) (by kernel_rfl)) rd_54
theorem und30 : Tryd.prog.underlying 30 = some (.slice 54) := by kernel_rfl
def wfBox (r : Box) : Prop := wfSpan r.X ∧ wfSpan r.Y ∧ wfSpan r.Z ∧ True
def g_Box : (Span × (Span × (Span × Unit))) → Box := (fun r : Span × (Span × (Span × Unit)) => Box.mk r.1 r.2.1 r.2.2.1)
def D_Box : ∀ H : Type, DataW H → Box → Prop := D_map g_Box (D_str (DF_cons D_Span (DF_cons D_Span (DF_cons D_Span DF_nil))))
theorem und57 : Tryd.prog.underlying 57 = some (.struct #[(Field.mk "X" 33 0 false "" "" 0), (Field.mk "Y" 33 2 false "" "" 16), (Field.mk "Z" 33 4 false "" "" 32)]) := by kernel_rfl
theorem rd_57 : Reads Tryd.prog 57 e_Box wfBox D_Box :=
  reads_into (reads_struct (fs := #[(Field.mk "X" 33 0 false "" "" 0), (Field.mk "Y" 33 2 false "" "" 16), (Field.mk "Z" 33 4 false "" "" 32)]) und57 (rf_cons (off := 0) rd_33 (rf_cons (off := 2) rd_33 (rf_cons (off := 4) rd_33 (rf_nil 6) rfl (by kernel_rfl)) rfl (by kernel_rfl)) rfl (by kernel_rfl)) (by kernel_rfl)) g_Box (fun _ => rfl) (fun _ => show 6 = _ by kernel_rfl) (fun _ h => h)
def wfDefect (r : Defect) : Prop := i64ok r.Kind ∧ wfBox r.Box ∧ True
def g_Defect : (Int × (Box × Unit)) → Defect := (fun r : Int × (Box × Unit) => Defect.mk r.1 r.2.1)
def D_Defect : ∀ H : Type, DataW H → Defect → Prop := D_map g_Defect (D_str (DF_cons D_int (DF_cons D_Box DF_nil)))
theorem und59 : Tryd.prog.underlying 59 = some (.struct #[(Field.mk "Kind" 3 0 false "" "" 0), (Field.mk "Box" 57 1 false "" "" 8)]) := by kernel_rfl
theorem rd_59 : Reads Tryd.prog 59 e_Defect wfDefect D_Defect :=
  reads_into (reads_struct (fs := #[(Field.mk "Kind" 3 0 false "" "" 0), (Field.mk "Box" 57 1 false "" "" 8)]) und59 (rf_cons (off := 0) rd_3 (rf_cons (off := 1) rd_57 (rf_nil 7) rfl (by kernel_rfl)) rfl (by kernel_rfl)) (by kernel_rfl)) g_Defect (fun _ => rfl) (fun _ => show 7 = _ by kernel_rfl) (fun _ h => h)
theorem rd_31 : Reads Tryd.prog 31 (fun l : List Defect => [tl e_Defect default l]) (fun l : List Defect => l.length ≤ maxLen ∧ ∀ x ∈ l, wfDefect x) (D_sl D_Defect) :=
  reads_slice (e := 59) (by kernel_rfl) (by kernel_rfl) (show 0 < _ from Nat.lt_of_lt_of_eq (show 0 < 7 by decide) (by kernel_rfl)) rd_59
theorem und31 : Tryd.prog.underlying 31 = some (.slice 59) := by kernel_rfl
theorem rd_9 : Reads Tryd.prog 9 e_str strok D_string := reads_string (by kernel_rfl) (by kernel_rfl)
theorem rd_25 : Reads Tryd.prog 25 (fun l : List Int => [tl e_i64 default l]) (fun l : List Int => l.length ≤ maxLen ∧ ∀ x ∈ l, i64ok x) (D_sl D_int) :=
  reads_slice (e := 3) (by kernel_rfl) (by kernel_rfl) (show 0 < _ from Nat.lt_of_lt_of_eq (show 0 < 1 by decide) (by kernel_rfl)) rd_3
theorem und25 : Tryd.prog.underlying 25 = some (.slice 3) := by kernel_rfl
def wfProduct (r : Product) : Prop := strok r.Name ∧ i64ok r.Thick ∧ i64ok r.Width ∧ i64ok r.Allow ∧ i64ok r.Wane ∧ (fun l : List Int => l.length ≤ maxLen ∧ ∀ x ∈ l, i64ok x) r.Lengths ∧ (fun l : List Int => l.length ≤ maxLen ∧ ∀ x ∈ l, i64ok x) r.Prices ∧ True
def g_Product : (ByteArray × (Int × (Int × (Int × (Int × ((List Int) × ((List Int) × Unit))))))) → Product := (fun r : ByteArray × (Int × (Int × (Int × (Int × ((List Int) × ((List Int) × Unit)))))) => Product.mk r.1 r.2.1 r.2.2.1 r.2.2.2.1 r.2.2.2.2.1 r.2.2.2.2.2.1 r.2.2.2.2.2.2.1)
def D_Product : ∀ H : Type, DataW H → Product → Prop := D_map g_Product (D_str (DF_cons D_string (DF_cons D_int (DF_cons D_int (DF_cons D_int (DF_cons D_int (DF_cons (D_sl D_int) (DF_cons (D_sl D_int) DF_nil))))))))
theorem und43 : Tryd.prog.underlying 43 = some (.struct #[(Field.mk "Name" 9 0 false "" "" 0), (Field.mk "Thick" 3 1 false "" "" 16), (Field.mk "Width" 3 2 false "" "" 24), (Field.mk "Allow" 3 3 false "" "" 32), (Field.mk "Wane" 3 4 false "" "" 40), (Field.mk "Lengths" 25 5 false "" "" 48), (Field.mk "Prices" 25 6 false "" "" 72)]) := by kernel_rfl
theorem rd_43 : Reads Tryd.prog 43 e_Product wfProduct D_Product :=
  reads_into (reads_struct (fs := #[(Field.mk "Name" 9 0 false "" "" 0), (Field.mk "Thick" 3 1 false "" "" 16), (Field.mk "Width" 3 2 false "" "" 24), (Field.mk "Allow" 3 3 false "" "" 32), (Field.mk "Wane" 3 4 false "" "" 40), (Field.mk "Lengths" 25 5 false "" "" 48), (Field.mk "Prices" 25 6 false "" "" 72)]) und43 (rf_cons (off := 0) rd_9 (rf_cons (off := 1) rd_3 (rf_cons (off := 2) rd_3 (rf_cons (off := 3) rd_3 (rf_cons (off := 4) rd_3 (rf_cons (off := 5) rd_25 (rf_cons (off := 6) rd_25 (rf_nil 7) rfl (by kernel_rfl)) rfl (by kernel_rfl)) rfl (by kernel_rfl)) rfl (by kernel_rfl)) rfl (by kernel_rfl)) rfl (by kernel_rfl)) rfl (by kernel_rfl)) (by kernel_rfl)) g_Product (fun _ => rfl) (fun _ => show 7 = _ by kernel_rfl) (fun _ h => h)
theorem rd_22 : Reads Tryd.prog 22 (fun l : List Product => [tl e_Product default l]) (fun l : List Product => l.length ≤ maxLen ∧ ∀ x ∈ l, wfProduct x) (D_sl D_Product) :=
  reads_slice (e := 43) (by kernel_rfl) (by kernel_rfl) (show 0 < _ from Nat.lt_of_lt_of_eq (show 0 < 7 by decide) (by kernel_rfl)) rd_43
theorem und22 : Tryd.prog.underlying 22 = some (.slice 43) := by kernel_rfl
def wfRect (r : Rect) : Prop := wfSpan r.X ∧ wfSpan r.Y ∧ True
def g_Rect : (Span × (Span × Unit)) → Rect := (fun r : Span × (Span × Unit) => Rect.mk r.1 r.2.1)
def D_Rect : ∀ H : Type, DataW H → Rect → Prop := D_map g_Rect (D_str (DF_cons D_Span (DF_cons D_Span DF_nil)))
theorem und35 : Tryd.prog.underlying 35 = some (.struct #[(Field.mk "X" 33 0 false "" "" 0), (Field.mk "Y" 33 2 false "" "" 16)]) := by kernel_rfl
theorem rd_35 : Reads Tryd.prog 35 e_Rect wfRect D_Rect :=
  reads_into (reads_struct (fs := #[(Field.mk "X" 33 0 false "" "" 0), (Field.mk "Y" 33 2 false "" "" 16)]) und35 (rf_cons (off := 0) rd_33 (rf_cons (off := 2) rd_33 (rf_nil 4) rfl (by kernel_rfl)) rfl (by kernel_rfl)) (by kernel_rfl)) g_Rect (fun _ => rfl) (fun _ => show 4 = _ by kernel_rfl) (fun _ h => h)
def wfSaw (r : Saw) : Prop := i64ok r.Kerf ∧ i64ok r.Trim ∧ i64ok r.Pitch ∧ i64ok r.Step ∧ True
def g_Saw : (Int × (Int × (Int × (Int × Unit)))) → Saw := (fun r : Int × (Int × (Int × (Int × Unit))) => Saw.mk r.1 r.2.1 r.2.2.1 r.2.2.2.1)
def D_Saw : ∀ H : Type, DataW H → Saw → Prop := D_map g_Saw (D_str (DF_cons D_int (DF_cons D_int (DF_cons D_int (DF_cons D_int DF_nil)))))
theorem und37 : Tryd.prog.underlying 37 = some (.struct #[(Field.mk "Kerf" 3 0 false "" "" 0), (Field.mk "Trim" 3 1 false "" "" 8), (Field.mk "Pitch" 3 2 false "" "" 16), (Field.mk "Step" 3 3 false "" "" 24)]) := by kernel_rfl
theorem rd_37 : Reads Tryd.prog 37 e_Saw wfSaw D_Saw :=
  reads_into (reads_struct (fs := #[(Field.mk "Kerf" 3 0 false "" "" 0), (Field.mk "Trim" 3 1 false "" "" 8), (Field.mk "Pitch" 3 2 false "" "" 16), (Field.mk "Step" 3 3 false "" "" 24)]) und37 (rf_cons (off := 0) rd_3 (rf_cons (off := 1) rd_3 (rf_cons (off := 2) rd_3 (rf_cons (off := 3) rd_3 (rf_nil 4) rfl (by kernel_rfl)) rfl (by kernel_rfl)) rfl (by kernel_rfl)) rfl (by kernel_rfl)) (by kernel_rfl)) g_Saw (fun _ => rfl) (fun _ => show 4 = _ by kernel_rfl) (fun _ h => h)
def wfRates (r : Rates) : Prop := i64ok r.Chip ∧ i64ok r.Dust ∧ i64ok r.Fine ∧ True
def g_Rates : (Int × (Int × (Int × Unit))) → Rates := (fun r : Int × (Int × (Int × Unit)) => Rates.mk r.1 r.2.1 r.2.2.1)
def D_Rates : ∀ H : Type, DataW H → Rates → Prop := D_map g_Rates (D_str (DF_cons D_int (DF_cons D_int (DF_cons D_int DF_nil))))
theorem und39 : Tryd.prog.underlying 39 = some (.struct #[(Field.mk "Chip" 3 0 false "" "" 0), (Field.mk "Dust" 3 1 false "" "" 8), (Field.mk "Fine" 3 2 false "" "" 16)]) := by kernel_rfl
theorem rd_39 : Reads Tryd.prog 39 e_Rates wfRates D_Rates :=
  reads_into (reads_struct (fs := #[(Field.mk "Chip" 3 0 false "" "" 0), (Field.mk "Dust" 3 1 false "" "" 8), (Field.mk "Fine" 3 2 false "" "" 16)]) und39 (rf_cons (off := 0) rd_3 (rf_cons (off := 1) rd_3 (rf_cons (off := 2) rd_3 (rf_nil 3) rfl (by kernel_rfl)) rfl (by kernel_rfl)) rfl (by kernel_rfl)) (by kernel_rfl)) g_Rates (fun _ => rfl) (fun _ => show 3 = _ by kernel_rfl) (fun _ h => h)
def wfLaw23_Given (r : Law23_Given) : Prop := (fun l : List Slice => l.length ≤ maxLen ∧ ∀ x ∈ l, wfSlice x) r.Solid ∧ (fun l : List Defect => l.length ≤ maxLen ∧ ∀ x ∈ l, wfDefect x) r.Defects ∧ (fun l : List Product => l.length ≤ maxLen ∧ ∀ x ∈ l, wfProduct x) r.Products ∧ wfRect r.Strip ∧ wfSaw r.Saw ∧ wfRates r.Rates ∧ True
def g_Law23_Given : ((List Slice) × ((List Defect) × ((List Product) × (Rect × (Saw × (Rates × Unit)))))) → Law23_Given := (fun r : (List Slice) × ((List Defect) × ((List Product) × (Rect × (Saw × (Rates × Unit))))) => Law23_Given.mk r.1 r.2.1 r.2.2.1 r.2.2.2.1 r.2.2.2.2.1 r.2.2.2.2.2.1)
def D_Law23_Given : ∀ H : Type, DataW H → Law23_Given → Prop := D_map g_Law23_Given (D_str (DF_cons (D_sl D_Slice) (DF_cons (D_sl D_Defect) (DF_cons (D_sl D_Product) (DF_cons D_Rect (DF_cons D_Saw (DF_cons D_Rates DF_nil)))))))
theorem und41 : Tryd.prog.underlying 41 = some (.struct #[(Field.mk "Solid" 30 0 false "" "" 0), (Field.mk "Defects" 31 1 false "" "" 24), (Field.mk "Products" 22 2 false "" "" 48), (Field.mk "Strip" 35 3 false "" "" 72), (Field.mk "Saw" 37 7 false "" "" 104), (Field.mk "Rates" 39 11 false "" "" 136)]) := by kernel_rfl
theorem rd_41 : Reads Tryd.prog 41 e_Law23_Given wfLaw23_Given D_Law23_Given :=
  reads_into (reads_struct (fs := #[(Field.mk "Solid" 30 0 false "" "" 0), (Field.mk "Defects" 31 1 false "" "" 24), (Field.mk "Products" 22 2 false "" "" 48), (Field.mk "Strip" 35 3 false "" "" 72), (Field.mk "Saw" 37 7 false "" "" 104), (Field.mk "Rates" 39 11 false "" "" 136)]) und41 (rf_cons (off := 0) rd_30 (rf_cons (off := 1) rd_31 (rf_cons (off := 2) rd_22 (rf_cons (off := 3) rd_35 (rf_cons (off := 7) rd_37 (rf_cons (off := 11) rd_39 (rf_nil 14) rfl (by kernel_rfl)) rfl (by kernel_rfl)) rfl (by kernel_rfl)) rfl (by kernel_rfl)) rfl (by kernel_rfl)) rfl (by kernel_rfl)) (by kernel_rfl)) g_Law23_Given (fun _ => rfl) (fun _ => show 14 = _ by kernel_rfl) (fun _ h => h)
def wfPiece (r : Piece) : Prop := i64ok r.Size ∧ i64ok r.At ∧ True
def g_Piece : (Int × (Int × Unit)) → Piece := (fun r : Int × (Int × Unit) => Piece.mk r.1 r.2.1)
def D_Piece : ∀ H : Type, DataW H → Piece → Prop := D_map g_Piece (D_str (DF_cons D_int (DF_cons D_int DF_nil)))
theorem und98 : Tryd.prog.underlying 98 = some (.struct #[(Field.mk "Size" 3 0 false "" "" 0), (Field.mk "At" 3 1 false "" "" 8)]) := by kernel_rfl
theorem rd_98 : Reads Tryd.prog 98 e_Piece wfPiece D_Piece :=
  reads_into (reads_struct (fs := #[(Field.mk "Size" 3 0 false "" "" 0), (Field.mk "At" 3 1 false "" "" 8)]) und98 (rf_cons (off := 0) rd_3 (rf_cons (off := 1) rd_3 (rf_nil 2) rfl (by kernel_rfl)) rfl (by kernel_rfl)) (by kernel_rfl)) g_Piece (fun _ => rfl) (fun _ => show 2 = _ by kernel_rfl) (fun _ h => h)
theorem rd_61 : Reads Tryd.prog 61 (fun l : List Piece => [tl e_Piece default l]) (fun l : List Piece => l.length ≤ maxLen ∧ ∀ x ∈ l, wfPiece x) (D_sl D_Piece) :=
  reads_slice (e := 98) (by kernel_rfl) (by kernel_rfl) (show 0 < _ from Nat.lt_of_lt_of_eq (show 0 < 2 by decide) (by kernel_rfl)) rd_98
theorem und61 : Tryd.prog.underlying 61 = some (.slice 98) := by kernel_rfl
section
variable {H : Type} {enc : TypeId × Value → H} {w : World} {r : Reach} {b0 : Nat} {v : Value} {d : DataW H} {ps : List MemPlace}
set_option maxRecDepth 100000 in
theorem open_41 (hval : Value.okWide Tryd.prog w r b0 41 v) (hd : DataW.Trod enc Tryd.prog w 0 (fun _ => true) true 41 v d ps) : ∃ x, wfLaw23_Given x ∧ D_Law23_Given H d x ∧ V1Rep w (Mem.of fun _ => True) (.agg (e_Law23_Given x)) v := by
  obtain ⟨x, h1, h2, h3⟩ := open_struct_rd rd_41 und41 hval hd
  exact ⟨x, h1, h2, h3⟩
set_option maxRecDepth 100000 in
theorem open_43 (hval : Value.okWide Tryd.prog w r b0 43 v) (hd : DataW.Trod enc Tryd.prog w 0 (fun _ => true) true 43 v d ps) : ∃ x, wfProduct x ∧ D_Product H d x ∧ V1Rep w (Mem.of fun _ => True) (.agg (e_Product x)) v := by
  obtain ⟨x, h1, h2, h3⟩ := open_struct_rd rd_43 und43 hval hd
  exact ⟨x, h1, h2, h3⟩
theorem und3 : Tryd.prog.underlying 3 = some (.int .i64) := by kernel_rfl
set_option maxRecDepth 100000 in
theorem open_3 (hval : Value.okWide Tryd.prog w r b0 3 v) (hd : DataW.Trod enc Tryd.prog w 0 (fun _ => true) true 3 v d ps) : ∃ n, i64ok n ∧ d = .lit (.int .i64 n) ∧ V1Rep w (Mem.of fun _ => True) (.one (.val (.int .i64 n))) v := by
  obtain ⟨x, h1, h2, h3⟩ := open_int_rd und3 hval hd
  exact ⟨x, h1, h2, h3⟩
set_option maxRecDepth 100000 in
theorem open_61 (hval : Value.okWide Tryd.prog w r b0 61 v) (hd : DataW.Trod enc Tryd.prog w 0 (fun _ => true) true 61 v d ps) : ∃ x : List Piece, (x.length ≤ maxLen ∧ ∀ y ∈ x, wfPiece y) ∧ D_sl D_Piece H d x ∧ V1Rep w (Mem.of fun _ => True) (.one (tl e_Piece default x)) v := by
  obtain ⟨x, h1, h2, h3⟩ := open_slice_rd rd_61 und61 hval hd
  exact ⟨x, h1, h2, h3⟩
end
section
open Go.Proofs.YtgpgnlllieekbaaDoor
theorem one_le {H : Type} (d : DataW H) : 1 ≤ Rows.uptoBulk d := by
  cases d with
  | lit l => cases l <;> simp [Rows.uptoBulk]
  | nil => simp [Rows.uptoBulk]
  | ptr d => simp [Rows.uptoBulk]
  | slice elems spare => simp [Rows.uptoBulk]
  | agg parts => simp [Rows.uptoBulk]
  | iface t d => simp [Rows.uptoBulk]
  | map entries => simp [Rows.uptoBulk]
  | held h => simp [Rows.uptoBulk]
theorem length_le {H : Type} (l : List (DataW H)) : l.length ≤ Rows.uptoBulkAll l := by
  induction l with
  | nil => simp [Rows.uptoBulkAll]
  | cons x r ih => have := one_le x; simp only [Rows.uptoBulkAll, List.length_cons]; omega
theorem sl_le {T : Type} {D : ∀ H : Type, DataW H → T → Prop} {H : Type} {d : DataW H} {r : List T} (h : D_sl D H d r) : r.length ≤ Rows.uptoBulk d := by
  rcases h with ⟨_, rfl⟩ | ⟨ds, sp, rfl, hl, _⟩
  · simp
  · have := length_le ds
    simp only [Rows.uptoBulk]
    omega
theorem str_le {H : Type} {d : DataW H} {r : ByteArray} (h : D_string H d r) : r.size ≤ Rows.uptoBulk d := by
  rw [D_string] at h
  subst h
  simp [Rows.uptoBulk]
  try (have := Array.length_toList (xs := r.data); simp [ByteArray.size] at *; omega)
end

theorem globs_ok {W : World} (h : laidMetH Tryd.prog YtgpgnlllieekbaaDoor.Rows.edgeSizesRow.laid W) : Globs globs W (fun _ => True) := by
  have h' : laidMet Tryd.prog YtgpgnlllieekbaaDoor.Rows.edgeSizesRow.laid W := h
  obtain ⟨ps, hl, _⟩ := h'
  obtain ⟨cs, e, fz, fuel, p, hh, hd, q, hl⟩ := laid_glob hl (g := 0) (t := 98) (by kernel_rfl) (by kernel_rfl)
  obtain ⟨x, _, hx2, hx3⟩ := rd_98.rd _ _ _ _ _ _ _ hd
  have hx : x = var_none := by
    obtain ⟨r, rfl, ds, he, d0, rest, h0, hd0, d1, rest', h1, hd1, h2⟩ := hx3
    obtain ⟨a, b, u⟩ := r
    subst h0; subst h1
    unfold D_int at hd0 hd1
    subst hd0; subst hd1
    injection he with he
    injection he with e0 he
    injection he with e1 he
    injection e0 with e0
    injection e1 with e1
    injection e0 with _ e0
    injection e1 with _ e1
    simp only at e0 e1
    unfold g_Piece var_none
    rw [← e0, ← e1]
  subst hx
  intro g c hc
  unfold globs at hc
  rw [look_cons] at hc
  split at hc
  · rename_i hg
    subst hg
    cases hc
    exact glob_rec hh hx2
  · cases hc

def setAll (cs : Array Value) : Obj → Obj
  | .cells _ t frozen => .cells cs t frozen
  | o => o
/-- A world for the witness: the listed variable holds what its initialiser lays. -/
noncomputable def laidWorld (os : Os) : World :=
  { World.holding Tryd.prog os ⟨#[], #[], []⟩ with heap := (World.holding Tryd.prog os ⟨#[], #[], []⟩).heap.modify 0 (setAll #[.int .i64 (-1), .int .i64 (-1)]) }

theorem laidOut : laidOutB Tryd.prog = true := by kernel_rfl
theorem own : ownKnob Tryd.prog.godebug = none := by kernel_rfl
end Saw
end Go.SL
