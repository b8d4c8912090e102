/- The readings of the laws' parameters. -/
import Derived.Test.YtjobdnkaonbgnaaGreatEBase
import Derived.Test.YtjobdnkaonbgnaaGreatYa6
import Derived.Test.YtjobdnkaonbgnaaGreatRows
import Derived.Lib.LaidTab
set_option linter.unusedVariables false
set_option linter.unusedSimpArgs false
namespace Go.SL
namespace Saw
open Go.Proofs Go.RowKit Go.ChangeShapes Go.WideShapes
set_option maxRecDepth 100000
theorem rd_3 : wT Tryz.prog 3 qN QV QJ := qPf (by kernel_rfl) (by kernel_rfl)
def OF (r : Span) : Prop := QV r.A ∧ QV r.B ∧ True
def qO5 : (Int × (Int × Unit)) → Span := (fun r : Int × (Int × Unit) => Span.mk r.1 r.2.1)
def IP : ∀ H : Type, DataW H → Span → Prop := BY qO5 (NE (zD QJ (zD QJ KJ)))
theorem und26 : Tryz.prog.underlying 26 = some (.struct #[(Field.mk "A" 3 0 false "" "" 0), (Field.mk "B" 3 1 false "" "" 8)]) := by kernel_rfl
theorem qFn : wT Tryz.prog 26 e_Span OF IP :=
 yT (jA (fs := #[(Field.mk "A" 3 0 false "" "" 0), (Field.mk "B" 3 1 false "" "" 8)]) und26 (zE (off := 0) rd_3 (zE (off := 1) rd_3 (UH 2) rfl (by kernel_rfl)) rfl (by kernel_rfl)) (by kernel_rfl)) qO5 (fun _ => rfl) (fun _ => show 2 = _ by kernel_rfl) (fun _ h => h)
theorem rd_55 : wT Tryz.prog 55 (fun l : List Span => [tl e_Span default l]) (fun l : List Span => l.length ≤ maxLen ∧ ∀ x ∈ l, OF x) (D_sl IP) :=
 UW (e := 26) (by kernel_rfl) (by kernel_rfl) (show 0 < _ from Nat.lt_of_lt_of_eq (show 0 < 2 by decide) (by kernel_rfl)) qFn
def qKm (r : qK) : Prop := QV r.Low ∧ (fun l : List Span => l.length ≤ maxLen ∧ ∀ x ∈ l, OF x) r.Rows ∧ True
def qJB : (Int × ((List Span) × Unit)) → qK := (fun r : Int × ((List Span) × Unit) => qK.mk r.1 r.2.1)
def qKk : ∀ H : Type, DataW H → qK → Prop := BY qJB (NE (zD QJ (zD (D_sl IP) KJ)))
theorem und57 : Tryz.prog.underlying 57 = some (.struct #[(Field.mk "Low" 3 0 false "" "" 0), (Field.mk "Rows" 55 1 false "" "" 8)]) := by kernel_rfl
theorem rd_57 : wT Tryz.prog 57 qZ qKm qKk :=
 yT (jA (fs := #[(Field.mk "Low" 3 0 false "" "" 0), (Field.mk "Rows" 55 1 false "" "" 8)]) und57 (zE (off := 0) rd_3 (zE (off := 1) rd_55 (UH 2) rfl (by kernel_rfl)) rfl (by kernel_rfl)) (by kernel_rfl)) qJB (fun _ => rfl) (fun _ => show 2 = _ by kernel_rfl) (fun _ h => h)
def qJr (r : Slice) : Prop := QV r.Len ∧ qKm r.Sec ∧ True
def qNx : (Int × (qK × Unit)) → Slice := (fun r : Int × (qK × Unit) => Slice.mk r.1 r.2.1)
def qIE : ∀ H : Type, DataW H → Slice → Prop := BY qNx (NE (zD QJ (zD qKk KJ)))
theorem und59 : Tryz.prog.underlying 59 = some (.struct #[(Field.mk "Len" 3 0 false "" "" 0), (Field.mk "Sec" 57 1 false "" "" 8)]) := by kernel_rfl
theorem rd_59 : wT Tryz.prog 59 qI qJr qIE :=
 yT (jA (fs := #[(Field.mk "Len" 3 0 false "" "" 0), (Field.mk "Sec" 57 1 false "" "" 8)]) und59 (zE (off := 0) rd_3 (zE (off := 1) rd_57 (UH 3) rfl (by kernel_rfl)) rfl (by kernel_rfl)) (by kernel_rfl)) qNx (fun _ => rfl) (fun _ => show 3 = _ by kernel_rfl) (fun _ h => h)
theorem rd_22 : wT Tryz.prog 22 (fun l : List Slice => [tl qI default l]) (fun l : List Slice => l.length ≤ maxLen ∧ ∀ x ∈ l, qJr x) (D_sl qIE) :=
 UW (e := 59) (by kernel_rfl) (by kernel_rfl) (show 0 < _ from Nat.lt_of_lt_of_eq (show 0 < 3 by decide) (by kernel_rfl)) rd_59
def wfBox (r : Box) : Prop := OF r.X ∧ OF r.Y ∧ OF r.Z ∧ True
def g_Box : (Span × (Span × (Span × Unit))) → Box := (fun r : Span × (Span × (Span × Unit)) => Box.mk r.1 r.2.1 r.2.2.1)
def D_Box : ∀ H : Type, DataW H → Box → Prop := BY g_Box (NE (zD IP (zD IP (zD IP KJ))))
theorem und67 : Tryz.prog.underlying 67 = some (.struct #[(Field.mk "X" 26 0 false "" "" 0), (Field.mk "Y" 26 2 false "" "" 16), (Field.mk "Z" 26 4 false "" "" 32)]) := by kernel_rfl
theorem rd_67 : wT Tryz.prog 67 zG wfBox D_Box :=
 yT (jA (fs := #[(Field.mk "X" 26 0 false "" "" 0), (Field.mk "Y" 26 2 false "" "" 16), (Field.mk "Z" 26 4 false "" "" 32)]) und67 (zE (off := 0) qFn (zE (off := 2) qFn (zE (off := 4) qFn (UH 6) rfl (by kernel_rfl)) rfl (by kernel_rfl)) rfl (by kernel_rfl)) (by kernel_rfl)) g_Box (fun _ => rfl) (fun _ => show 6 = _ by kernel_rfl) (fun _ h => h)
def qGS (r : Defect) : Prop := QV r.Kind ∧ wfBox r.Box ∧ True
def qLz : (Int × (Box × Unit)) → Defect := (fun r : Int × (Box × Unit) => Defect.mk r.1 r.2.1)
def qGX : ∀ H : Type, DataW H → Defect → Prop := BY qLz (NE (zD QJ (zD D_Box KJ)))
theorem und135 : Tryz.prog.underlying 135 = some (.struct #[(Field.mk "Kind" 3 0 false "" "" 0), (Field.mk "Box" 67 1 false "" "" 8)]) := by kernel_rfl
theorem rd_135 : wT Tryz.prog 135 qH qGS qGX :=
 yT (jA (fs := #[(Field.mk "Kind" 3 0 false "" "" 0), (Field.mk "Box" 67 1 false "" "" 8)]) und135 (zE (off := 0) rd_3 (zE (off := 1) rd_67 (UH 7) rfl (by kernel_rfl)) rfl (by kernel_rfl)) (by kernel_rfl)) qLz (fun _ => rfl) (fun _ => show 7 = _ by kernel_rfl) (fun _ h => h)
theorem rd_23 : wT Tryz.prog 23 (fun l : List Defect => [tl qH default l]) (fun l : List Defect => l.length ≤ maxLen ∧ ∀ x ∈ l, qGS x) (D_sl qGX) :=
 UW (e := 135) (by kernel_rfl) (by kernel_rfl) (show 0 < _ from Nat.lt_of_lt_of_eq (show 0 < 7 by decide) (by kernel_rfl)) rd_135
theorem rd_9 : wT Tryz.prog 9 e_str strok qGJ := qLE (by kernel_rfl) (by kernel_rfl)
theorem rd_60 : wT Tryz.prog 60 (fun l : List Int => [tl qN default l]) (fun l : List Int => l.length ≤ maxLen ∧ ∀ x ∈ l, QV x) (D_sl QJ) :=
 UW (e := 3) (by kernel_rfl) (by kernel_rfl) (show 0 < _ from Nat.lt_of_lt_of_eq (show 0 < 1 by decide) (by kernel_rfl)) rd_3
def qE7 (r : Product) : Prop := strok r.Name ∧ QV r.Thick ∧ QV r.Width ∧ QV r.Allow ∧ QV r.Wane ∧ (fun l : List Int => l.length ≤ maxLen ∧ ∀ x ∈ l, QV x) r.Lengths ∧ (fun l : List Int => l.length ≤ maxLen ∧ ∀ x ∈ l, QV x) r.Prices ∧ True
def qJO : (ByteArray × (Int × (Int × (Int × (Int × ((List Int) × ((List Int) × Unit))))))) → Product := (fun r : ByteArray × (Int × (Int × (Int × (Int × ((List Int) × ((List Int) × Unit)))))) => Product.mk r.1 r.2.1 r.2.2.1 r.2.2.2.1 r.2.2.2.2.1 r.2.2.2.2.2.1 r.2.2.2.2.2.2.1)
def qE1 : ∀ H : Type, DataW H → Product → Prop := BY qJO (NE (zD qGJ (zD QJ (zD QJ (zD QJ (zD QJ (zD (D_sl QJ) (zD (D_sl QJ) KJ))))))))
theorem und62 : Tryz.prog.underlying 62 = some (.struct #[(Field.mk "Name" 9 0 false "" "" 0), (Field.mk "Thick" 3 1 false "" "" 16), (Field.mk "Width" 3 2 false "" "" 24), (Field.mk "Allow" 3 3 false "" "" 32), (Field.mk "Wane" 3 4 false "" "" 40), (Field.mk "Lengths" 60 5 false "" "" 48), (Field.mk "Prices" 60 6 false "" "" 72)]) := by kernel_rfl
theorem rd_62 : wT Tryz.prog 62 qA qE7 qE1 :=
 yT (jA (fs := #[(Field.mk "Name" 9 0 false "" "" 0), (Field.mk "Thick" 3 1 false "" "" 16), (Field.mk "Width" 3 2 false "" "" 24), (Field.mk "Allow" 3 3 false "" "" 32), (Field.mk "Wane" 3 4 false "" "" 40), (Field.mk "Lengths" 60 5 false "" "" 48), (Field.mk "Prices" 60 6 false "" "" 72)]) und62 (zE (off := 0) rd_9 (zE (off := 1) rd_3 (zE (off := 2) rd_3 (zE (off := 3) rd_3 (zE (off := 4) rd_3 (zE (off := 5) rd_60 (zE (off := 6) rd_60 (UH 7) rfl (by kernel_rfl)) rfl (by kernel_rfl)) rfl (by kernel_rfl)) rfl (by kernel_rfl)) rfl (by kernel_rfl)) rfl (by kernel_rfl)) rfl (by kernel_rfl)) (by kernel_rfl)) qJO (fun _ => rfl) (fun _ => show 7 = _ by kernel_rfl) (fun _ h => h)
theorem rd_24 : wT Tryz.prog 24 (fun l : List Product => [tl qA default l]) (fun l : List Product => l.length ≤ maxLen ∧ ∀ x ∈ l, qE7 x) (D_sl qE1) :=
 UW (e := 62) (by kernel_rfl) (by kernel_rfl) (show 0 < _ from Nat.lt_of_lt_of_eq (show 0 < 7 by decide) (by kernel_rfl)) rd_62
def qOG (r : Rect) : Prop := OF r.X ∧ OF r.Y ∧ True
def qPc : (Span × (Span × Unit)) → Rect := (fun r : Span × (Span × Unit) => Rect.mk r.1 r.2.1)
def qPp : ∀ H : Type, DataW H → Rect → Prop := BY qPc (NE (zD IP (zD IP KJ)))
theorem und28 : Tryz.prog.underlying 28 = some (.struct #[(Field.mk "X" 26 0 false "" "" 0), (Field.mk "Y" 26 2 false "" "" 16)]) := by kernel_rfl
theorem rd_28 : wT Tryz.prog 28 qE qOG qPp :=
 yT (jA (fs := #[(Field.mk "X" 26 0 false "" "" 0), (Field.mk "Y" 26 2 false "" "" 16)]) und28 (zE (off := 0) qFn (zE (off := 2) qFn (UH 4) rfl (by kernel_rfl)) rfl (by kernel_rfl)) (by kernel_rfl)) qPc (fun _ => rfl) (fun _ => show 4 = _ by kernel_rfl) (fun _ h => h)
def qMC (r : Node) : Prop := QV r.Kind ∧ QV r.At ∧ True
def qO7 : (Int × (Int × Unit)) → Node := (fun r : Int × (Int × Unit) => Node.mk r.1 r.2.1)
def qLT : ∀ H : Type, DataW H → Node → Prop := BY qO7 (NE (zD QJ (zD QJ KJ)))
theorem und65 : Tryz.prog.underlying 65 = some (.struct #[(Field.mk "Kind" 3 0 false "" "" 0), (Field.mk "At" 3 1 false "" "" 8)]) := by kernel_rfl
theorem rd_65 : wT Tryz.prog 65 qJ qMC qLT :=
 yT (jA (fs := #[(Field.mk "Kind" 3 0 false "" "" 0), (Field.mk "At" 3 1 false "" "" 8)]) und65 (zE (off := 0) rd_3 (zE (off := 1) rd_3 (UH 2) rfl (by kernel_rfl)) rfl (by kernel_rfl)) (by kernel_rfl)) qO7 (fun _ => rfl) (fun _ => show 2 = _ by kernel_rfl) (fun _ h => h)
theorem rd_29 : wT Tryz.prog 29 (fun l : List Node => [tl qJ default l]) (fun l : List Node => l.length ≤ maxLen ∧ ∀ x ∈ l, qMC x) (D_sl qLT) :=
 UW (e := 65) (by kernel_rfl) (by kernel_rfl) (show 0 < _ from Nat.lt_of_lt_of_eq (show 0 < 2 by decide) (by kernel_rfl)) rd_65
def qKl (r : Pattern) : Prop := qOG r.Frame ∧ (fun l : List Node => l.length ≤ maxLen ∧ ∀ x ∈ l, qMC x) r.Nodes ∧ True
def qJY : (Rect × ((List Node) × Unit)) → Pattern := (fun r : Rect × ((List Node) × Unit) => Pattern.mk r.1 r.2.1)
def qKi : ∀ H : Type, DataW H → Pattern → Prop := BY qJY (NE (zD qPp (zD (D_sl qLT) KJ)))
theorem und31 : Tryz.prog.underlying 31 = some (.struct #[(Field.mk "Frame" 28 0 false "" "" 0), (Field.mk "Nodes" 29 4 false "" "" 32)]) := by kernel_rfl
theorem rd_31 : wT Tryz.prog 31 qG qKl qKi :=
 yT (jA (fs := #[(Field.mk "Frame" 28 0 false "" "" 0), (Field.mk "Nodes" 29 4 false "" "" 32)]) und31 (zE (off := 0) rd_28 (zE (off := 4) rd_29 (UH 5) rfl (by kernel_rfl)) rfl (by kernel_rfl)) (by kernel_rfl)) qJY (fun _ => rfl) (fun _ => show 5 = _ by kernel_rfl) (fun _ h => h)
def wfSaw (r : Saw) : Prop := QV r.Kerf ∧ QV r.Trim ∧ QV r.Pitch ∧ QV r.Step ∧ True
def g_Saw : (Int × (Int × (Int × (Int × Unit)))) → Saw := (fun r : Int × (Int × (Int × (Int × Unit))) => Saw.mk r.1 r.2.1 r.2.2.1 r.2.2.2.1)
def D_Saw : ∀ H : Type, DataW H → Saw → Prop := BY g_Saw (NE (zD QJ (zD QJ (zD QJ (zD QJ KJ)))))
theorem und33 : Tryz.prog.underlying 33 = some (.struct #[(Field.mk "Kerf" 3 0 false "" "" 0), (Field.mk "Trim" 3 1 false "" "" 8), (Field.mk "Pitch" 3 2 false "" "" 16), (Field.mk "Step" 3 3 false "" "" 24)]) := by kernel_rfl
theorem rd_33 : wT Tryz.prog 33 wC wfSaw D_Saw :=
 yT (jA (fs := #[(Field.mk "Kerf" 3 0 false "" "" 0), (Field.mk "Trim" 3 1 false "" "" 8), (Field.mk "Pitch" 3 2 false "" "" 16), (Field.mk "Step" 3 3 false "" "" 24)]) und33 (zE (off := 0) rd_3 (zE (off := 1) rd_3 (zE (off := 2) rd_3 (zE (off := 3) rd_3 (UH 4) rfl (by kernel_rfl)) rfl (by kernel_rfl)) rfl (by kernel_rfl)) rfl (by kernel_rfl)) (by kernel_rfl)) g_Saw (fun _ => rfl) (fun _ => show 4 = _ by kernel_rfl) (fun _ h => h)
def qNK (r : Rates) : Prop := QV r.Chip ∧ QV r.Dust ∧ QV r.Fine ∧ True
def qND : (Int × (Int × (Int × Unit))) → Rates := (fun r : Int × (Int × (Int × Unit)) => Rates.mk r.1 r.2.1 r.2.2.1)
def qNi : ∀ H : Type, DataW H → Rates → Prop := BY qND (NE (zD QJ (zD QJ (zD QJ KJ))))
theorem und35 : Tryz.prog.underlying 35 = some (.struct #[(Field.mk "Chip" 3 0 false "" "" 0), (Field.mk "Dust" 3 1 false "" "" 8), (Field.mk "Fine" 3 2 false "" "" 16)]) := by kernel_rfl
theorem rd_35 : wT Tryz.prog 35 yP qNK qNi :=
 yT (jA (fs := #[(Field.mk "Chip" 3 0 false "" "" 0), (Field.mk "Dust" 3 1 false "" "" 8), (Field.mk "Fine" 3 2 false "" "" 16)]) und35 (zE (off := 0) rd_3 (zE (off := 1) rd_3 (zE (off := 2) rd_3 (UH 3) rfl (by kernel_rfl)) rfl (by kernel_rfl)) rfl (by kernel_rfl)) (by kernel_rfl)) qND (fun _ => rfl) (fun _ => show 3 = _ by kernel_rfl) (fun _ h => h)
def qD1 (r : Law22_Given) : Prop := (fun l : List Slice => l.length ≤ maxLen ∧ ∀ x ∈ l, qJr x) r.Solid ∧ (fun l : List Defect => l.length ≤ maxLen ∧ ∀ x ∈ l, qGS x) r.Defects ∧ (fun l : List Product => l.length ≤ maxLen ∧ ∀ x ∈ l, qE7 x) r.Products ∧ qKl r.Pattern ∧ wfSaw r.Saw ∧ qNK r.Rates ∧ True
def qD7 : ((List Slice) × ((List Defect) × ((List Product) × (Pattern × (Saw × (Rates × Unit)))))) → Law22_Given := (fun r : (List Slice) × ((List Defect) × ((List Product) × (Pattern × (Saw × (Rates × Unit))))) => Law22_Given.mk r.1 r.2.1 r.2.2.1 r.2.2.2.1 r.2.2.2.2.1 r.2.2.2.2.2.1)
def qD8 : ∀ H : Type, DataW H → Law22_Given → Prop := BY qD7 (NE (zD (D_sl qIE) (zD (D_sl qGX) (zD (D_sl qE1) (zD qKi (zD D_Saw (zD qNi KJ)))))))
theorem und37 : Tryz.prog.underlying 37 = some (.struct #[(Field.mk "Solid" 22 0 false "" "" 0), (Field.mk "Defects" 23 1 false "" "" 24), (Field.mk "Products" 24 2 false "" "" 48), (Field.mk "Pattern" 31 3 false "" "" 72), (Field.mk "Saw" 33 8 false "" "" 128), (Field.mk "Rates" 35 12 false "" "" 160)]) := by kernel_rfl
theorem rd_37 : wT Tryz.prog 37 qW qD1 qD8 :=
 yT (jA (fs := #[(Field.mk "Solid" 22 0 false "" "" 0), (Field.mk "Defects" 23 1 false "" "" 24), (Field.mk "Products" 24 2 false "" "" 48), (Field.mk "Pattern" 31 3 false "" "" 72), (Field.mk "Saw" 33 8 false "" "" 128), (Field.mk "Rates" 35 12 false "" "" 160)]) und37 (zE (off := 0) rd_22 (zE (off := 1) rd_23 (zE (off := 2) rd_24 (zE (off := 3) rd_31 (zE (off := 8) rd_33 (zE (off := 12) rd_35 (UH 15) rfl (by kernel_rfl)) rfl (by kernel_rfl)) rfl (by kernel_rfl)) rfl (by kernel_rfl)) rfl (by kernel_rfl)) rfl (by kernel_rfl)) (by kernel_rfl)) qD7 (fun _ => rfl) (fun _ => show 15 = _ by kernel_rfl) (fun _ h => h)
section
variable {H : Type} {enc : TypeId × Value → H} {w : World} {r : Reach} {b0 : Nat} {v : Value} {d : DataW H} {ps : List MemPlace}
theorem open_37 (hval : Value.okWide Tryz.prog w r b0 37 v) (hd : DataW.Trod enc Tryz.prog w 0 (fun _ => true) true 37 v d ps) : ∃ x, qD1 x ∧ qD8 H d x ∧ qV w (Mem.of fun _ => True) (.agg (qW x)) v := by
 obtain ⟨x, h1, h2, h3⟩ := qJa rd_37 und37 hval hd
 exact ⟨x, h1, h2, h3⟩
end
theorem qPY {W : World} : qAB globs W (fun _ => True) := fun g c h => by cases h
noncomputable def qEQ (os : Os) : World := World.holding Tryz.prog os ⟨#[], #[], []⟩
theorem laidOut : laidOutB Tryz.prog = true := by kernel_rfl
theorem own : ownKnob Tryz.prog.godebug = none := by kernel_rfl
end Saw
end Go.SL
