/- The readings of the laws' parameters. -/
import Derived.Test.YtjobdnkaonbgnaaGreatEBase
import Derived.Test.YtjobdnkaonbgnaaGreatYa6
import Derived.Test.YtjobdnkaonbgnaaGreatRows
import Derived.Lib.LaidTab
set_option linter.unusedVariables false
set_option linter.unusedSimpArgs false
namespace Go.SL
namespace Saw
open Go.Proofs Go.RowKit Go.ChangeShapes Go.WideShapes
set_option maxRecDepth 100000
theorem rd_3 : jB Tryz.prog 3 qO QR QP := qP7 (by kernel_rfl) (by kernel_rfl)
def OH (r : Span) : Prop := QR r.A ∧ QR r.B ∧ True
def qP1 : (Int × (Int × Unit)) → Span := (fun r : Int × (Int × Unit) => Span.mk r.1 r.2.1)
def IY : ∀ H : Type, DataW H → Span → Prop := NS qP1 (NT (zF QP (zF QP KY)))
theorem und26 : Tryz.prog.underlying 26 = some (.struct #[(Field.mk "A" 3 0 false "" "" 0), (Field.mk "B" 3 1 false "" "" 8)]) := by kernel_rfl
theorem qFA : jB Tryz.prog 26 e_Span OH IY :=
 QA (jH (fs := #[(Field.mk "A" 3 0 false "" "" 0), (Field.mk "B" 3 1 false "" "" 8)]) und26 (zG (off := 0) rd_3 (zG (off := 1) rd_3 (VC 2) rfl (by kernel_rfl)) rfl (by kernel_rfl)) (by kernel_rfl)) qP1 (fun _ => rfl) (fun _ => show 2 = _ by kernel_rfl) (fun _ h => h)
theorem rd_55 : jB Tryz.prog 55 (fun l : List Span => [tl e_Span default l]) (fun l : List Span => l.length ≤ maxLen ∧ ∀ x ∈ l, OH x) (D_sl IY) :=
 VV (e := 26) (by kernel_rfl) (by kernel_rfl) (show 0 < _ from Nat.lt_of_lt_of_eq (show 0 < 2 by decide) (by kernel_rfl)) qFA
def qKI (r : qK) : Prop := QR r.Low ∧ (fun l : List Span => l.length ≤ maxLen ∧ ∀ x ∈ l, OH x) r.Rows ∧ True
def qKU : (Int × ((List Span) × Unit)) → qK := (fun r : Int × ((List Span) × Unit) => qK.mk r.1 r.2.1)
def qKS : ∀ H : Type, DataW H → qK → Prop := NS qKU (NT (zF QP (zF (D_sl IY) KY)))
theorem und57 : Tryz.prog.underlying 57 = some (.struct #[(Field.mk "Low" 3 0 false "" "" 0), (Field.mk "Rows" 55 1 false "" "" 8)]) := by kernel_rfl
theorem rd_57 : jB Tryz.prog 57 qW qKI qKS :=
 QA (jH (fs := #[(Field.mk "Low" 3 0 false "" "" 0), (Field.mk "Rows" 55 1 false "" "" 8)]) und57 (zG (off := 0) rd_3 (zG (off := 1) rd_55 (VC 2) rfl (by kernel_rfl)) rfl (by kernel_rfl)) (by kernel_rfl)) qKU (fun _ => rfl) (fun _ => show 2 = _ by kernel_rfl) (fun _ h => h)
def qJV (r : Slice) : Prop := QR r.Len ∧ qKI r.Sec ∧ True
def qOo : (Int × (qK × Unit)) → Slice := (fun r : Int × (qK × Unit) => Slice.mk r.1 r.2.1)
def qJT : ∀ H : Type, DataW H → Slice → Prop := NS qOo (NT (zF QP (zF qKS KY)))
theorem und59 : Tryz.prog.underlying 59 = some (.struct #[(Field.mk "Len" 3 0 false "" "" 0), (Field.mk "Sec" 57 1 false "" "" 8)]) := by kernel_rfl
theorem rd_59 : jB Tryz.prog 59 qH qJV qJT :=
 QA (jH (fs := #[(Field.mk "Len" 3 0 false "" "" 0), (Field.mk "Sec" 57 1 false "" "" 8)]) und59 (zG (off := 0) rd_3 (zG (off := 1) rd_57 (VC 3) rfl (by kernel_rfl)) rfl (by kernel_rfl)) (by kernel_rfl)) qOo (fun _ => rfl) (fun _ => show 3 = _ by kernel_rfl) (fun _ h => h)
theorem rd_22 : jB Tryz.prog 22 (fun l : List Slice => [tl qH default l]) (fun l : List Slice => l.length ≤ maxLen ∧ ∀ x ∈ l, qJV x) (D_sl qJT) :=
 VV (e := 59) (by kernel_rfl) (by kernel_rfl) (show 0 < _ from Nat.lt_of_lt_of_eq (show 0 < 3 by decide) (by kernel_rfl)) rd_59
def wfBox (r : Box) : Prop := OH r.X ∧ OH r.Y ∧ OH r.Z ∧ True
def g_Box : (Span × (Span × (Span × Unit))) → Box := (fun r : Span × (Span × (Span × Unit)) => Box.mk r.1 r.2.1 r.2.2.1)
def D_Box : ∀ H : Type, DataW H → Box → Prop := NS g_Box (NT (zF IY (zF IY (zF IY KY))))
theorem und67 : Tryz.prog.underlying 67 = some (.struct #[(Field.mk "X" 26 0 false "" "" 0), (Field.mk "Y" 26 2 false "" "" 16), (Field.mk "Z" 26 4 false "" "" 32)]) := by kernel_rfl
theorem rd_67 : jB Tryz.prog 67 zC wfBox D_Box :=
 QA (jH (fs := #[(Field.mk "X" 26 0 false "" "" 0), (Field.mk "Y" 26 2 false "" "" 16), (Field.mk "Z" 26 4 false "" "" 32)]) und67 (zG (off := 0) qFA (zG (off := 2) qFA (zG (off := 4) qFA (VC 6) rfl (by kernel_rfl)) rfl (by kernel_rfl)) rfl (by kernel_rfl)) (by kernel_rfl)) g_Box (fun _ => rfl) (fun _ => show 6 = _ by kernel_rfl) (fun _ h => h)
def qG0 (r : Defect) : Prop := QR r.Kind ∧ wfBox r.Box ∧ True
def qMB : (Int × (Box × Unit)) → Defect := (fun r : Int × (Box × Unit) => Defect.mk r.1 r.2.1)
def qHf : ∀ H : Type, DataW H → Defect → Prop := NS qMB (NT (zF QP (zF D_Box KY)))
theorem und135 : Tryz.prog.underlying 135 = some (.struct #[(Field.mk "Kind" 3 0 false "" "" 0), (Field.mk "Box" 67 1 false "" "" 8)]) := by kernel_rfl
theorem rd_135 : jB Tryz.prog 135 qI qG0 qHf :=
 QA (jH (fs := #[(Field.mk "Kind" 3 0 false "" "" 0), (Field.mk "Box" 67 1 false "" "" 8)]) und135 (zG (off := 0) rd_3 (zG (off := 1) rd_67 (VC 7) rfl (by kernel_rfl)) rfl (by kernel_rfl)) (by kernel_rfl)) qMB (fun _ => rfl) (fun _ => show 7 = _ by kernel_rfl) (fun _ h => h)
theorem rd_23 : jB Tryz.prog 23 (fun l : List Defect => [tl qI default l]) (fun l : List Defect => l.length ≤ maxLen ∧ ∀ x ∈ l, qG0 x) (D_sl qHf) :=
 VV (e := 135) (by kernel_rfl) (by kernel_rfl) (show 0 < _ from Nat.lt_of_lt_of_eq (show 0 < 7 by decide) (by kernel_rfl)) rd_135
theorem rd_9 : jB Tryz.prog 9 e_str strok qGV := qMR (by kernel_rfl) (by kernel_rfl)
theorem rd_60 : jB Tryz.prog 60 (fun l : List Int => [tl qO default l]) (fun l : List Int => l.length ≤ maxLen ∧ ∀ x ∈ l, QR x) (D_sl QP) :=
 VV (e := 3) (by kernel_rfl) (by kernel_rfl) (show 0 < _ from Nat.lt_of_lt_of_eq (show 0 < 1 by decide) (by kernel_rfl)) rd_3
def qEI (r : Product) : Prop := strok r.Name ∧ QR r.Thick ∧ QR r.Width ∧ QR r.Allow ∧ QR r.Wane ∧ (fun l : List Int => l.length ≤ maxLen ∧ ∀ x ∈ l, QR x) r.Lengths ∧ (fun l : List Int => l.length ≤ maxLen ∧ ∀ x ∈ l, QR x) r.Prices ∧ True
def qKY : (ByteArray × (Int × (Int × (Int × (Int × ((List Int) × ((List Int) × Unit))))))) → Product := (fun r : ByteArray × (Int × (Int × (Int × (Int × ((List Int) × ((List Int) × Unit)))))) => Product.mk r.1 r.2.1 r.2.2.1 r.2.2.2.1 r.2.2.2.2.1 r.2.2.2.2.2.1 r.2.2.2.2.2.2.1)
def qFr : ∀ H : Type, DataW H → Product → Prop := NS qKY (NT (zF qGV (zF QP (zF QP (zF QP (zF QP (zF (D_sl QP) (zF (D_sl QP) KY))))))))
theorem und62 : Tryz.prog.underlying 62 = some (.struct #[(Field.mk "Name" 9 0 false "" "" 0), (Field.mk "Thick" 3 1 false "" "" 16), (Field.mk "Width" 3 2 false "" "" 24), (Field.mk "Allow" 3 3 false "" "" 32), (Field.mk "Wane" 3 4 false "" "" 40), (Field.mk "Lengths" 60 5 false "" "" 48), (Field.mk "Prices" 60 6 false "" "" 72)]) := by kernel_rfl
theorem rd_62 : jB Tryz.prog 62 qA qEI qFr :=
 QA (jH (fs := #[(Field.mk "Name" 9 0 false "" "" 0), (Field.mk "Thick" 3 1 false "" "" 16), (Field.mk "Width" 3 2 false "" "" 24), (Field.mk "Allow" 3 3 false "" "" 32), (Field.mk "Wane" 3 4 false "" "" 40), (Field.mk "Lengths" 60 5 false "" "" 48), (Field.mk "Prices" 60 6 false "" "" 72)]) und62 (zG (off := 0) rd_9 (zG (off := 1) rd_3 (zG (off := 2) rd_3 (zG (off := 3) rd_3 (zG (off := 4) rd_3 (zG (off := 5) rd_60 (zG (off := 6) rd_60 (VC 7) rfl (by kernel_rfl)) rfl (by kernel_rfl)) rfl (by kernel_rfl)) rfl (by kernel_rfl)) rfl (by kernel_rfl)) rfl (by kernel_rfl)) rfl (by kernel_rfl)) (by kernel_rfl)) qKY (fun _ => rfl) (fun _ => show 7 = _ by kernel_rfl) (fun _ h => h)
theorem rd_24 : jB Tryz.prog 24 (fun l : List Product => [tl qA default l]) (fun l : List Product => l.length ≤ maxLen ∧ ∀ x ∈ l, qEI x) (D_sl qFr) :=
 VV (e := 62) (by kernel_rfl) (by kernel_rfl) (show 0 < _ from Nat.lt_of_lt_of_eq (show 0 < 7 by decide) (by kernel_rfl)) rd_62
def qPS (r : Rect) : Prop := OH r.X ∧ OH r.Y ∧ True
def qPL : (Span × (Span × Unit)) → Rect := (fun r : Span × (Span × Unit) => Rect.mk r.1 r.2.1)
def qPJ : ∀ H : Type, DataW H → Rect → Prop := NS qPL (NT (zF IY (zF IY KY)))
theorem und28 : Tryz.prog.underlying 28 = some (.struct #[(Field.mk "X" 26 0 false "" "" 0), (Field.mk "Y" 26 2 false "" "" 16)]) := by kernel_rfl
theorem rd_28 : jB Tryz.prog 28 qE qPS qPJ :=
 QA (jH (fs := #[(Field.mk "X" 26 0 false "" "" 0), (Field.mk "Y" 26 2 false "" "" 16)]) und28 (zG (off := 0) qFA (zG (off := 2) qFA (VC 4) rfl (by kernel_rfl)) rfl (by kernel_rfl)) (by kernel_rfl)) qPL (fun _ => rfl) (fun _ => show 4 = _ by kernel_rfl) (fun _ h => h)
def qL3 (r : Node) : Prop := QR r.Kind ∧ QR r.At ∧ True
def qQg : (Int × (Int × Unit)) → Node := (fun r : Int × (Int × Unit) => Node.mk r.1 r.2.1)
def qMp : ∀ H : Type, DataW H → Node → Prop := NS qQg (NT (zF QP (zF QP KY)))
theorem und65 : Tryz.prog.underlying 65 = some (.struct #[(Field.mk "Kind" 3 0 false "" "" 0), (Field.mk "At" 3 1 false "" "" 8)]) := by kernel_rfl
theorem rd_65 : jB Tryz.prog 65 qJ qL3 qMp :=
 QA (jH (fs := #[(Field.mk "Kind" 3 0 false "" "" 0), (Field.mk "At" 3 1 false "" "" 8)]) und65 (zG (off := 0) rd_3 (zG (off := 1) rd_3 (VC 2) rfl (by kernel_rfl)) rfl (by kernel_rfl)) (by kernel_rfl)) qQg (fun _ => rfl) (fun _ => show 2 = _ by kernel_rfl) (fun _ h => h)
theorem rd_29 : jB Tryz.prog 29 (fun l : List Node => [tl qJ default l]) (fun l : List Node => l.length ≤ maxLen ∧ ∀ x ∈ l, qL3 x) (D_sl qMp) :=
 VV (e := 65) (by kernel_rfl) (by kernel_rfl) (show 0 < _ from Nat.lt_of_lt_of_eq (show 0 < 2 by decide) (by kernel_rfl)) rd_65
def qKK (r : Pattern) : Prop := qPS r.Frame ∧ (fun l : List Node => l.length ≤ maxLen ∧ ∀ x ∈ l, qL3 x) r.Nodes ∧ True
def qKA : (Rect × ((List Node) × Unit)) → Pattern := (fun r : Rect × ((List Node) × Unit) => Pattern.mk r.1 r.2.1)
def qKs : ∀ H : Type, DataW H → Pattern → Prop := NS qKA (NT (zF qPJ (zF (D_sl qMp) KY)))
theorem und31 : Tryz.prog.underlying 31 = some (.struct #[(Field.mk "Frame" 28 0 false "" "" 0), (Field.mk "Nodes" 29 4 false "" "" 32)]) := by kernel_rfl
theorem rd_31 : jB Tryz.prog 31 qF qKK qKs :=
 QA (jH (fs := #[(Field.mk "Frame" 28 0 false "" "" 0), (Field.mk "Nodes" 29 4 false "" "" 32)]) und31 (zG (off := 0) rd_28 (zG (off := 4) rd_29 (VC 5) rfl (by kernel_rfl)) rfl (by kernel_rfl)) (by kernel_rfl)) qKA (fun _ => rfl) (fun _ => show 5 = _ by kernel_rfl) (fun _ h => h)
def wfSaw (r : Saw) : Prop := QR r.Kerf ∧ QR r.Trim ∧ QR r.Pitch ∧ QR r.Step ∧ True
def g_Saw : (Int × (Int × (Int × (Int × Unit)))) → Saw := (fun r : Int × (Int × (Int × (Int × Unit))) => Saw.mk r.1 r.2.1 r.2.2.1 r.2.2.2.1)
def D_Saw : ∀ H : Type, DataW H → Saw → Prop := NS g_Saw (NT (zF QP (zF QP (zF QP (zF QP KY)))))
theorem und33 : Tryz.prog.underlying 33 = some (.struct #[(Field.mk "Kerf" 3 0 false "" "" 0), (Field.mk "Trim" 3 1 false "" "" 8), (Field.mk "Pitch" 3 2 false "" "" 16), (Field.mk "Step" 3 3 false "" "" 24)]) := by kernel_rfl
theorem rd_33 : jB Tryz.prog 33 zZ wfSaw D_Saw :=
 QA (jH (fs := #[(Field.mk "Kerf" 3 0 false "" "" 0), (Field.mk "Trim" 3 1 false "" "" 8), (Field.mk "Pitch" 3 2 false "" "" 16), (Field.mk "Step" 3 3 false "" "" 24)]) und33 (zG (off := 0) rd_3 (zG (off := 1) rd_3 (zG (off := 2) rd_3 (zG (off := 3) rd_3 (VC 4) rfl (by kernel_rfl)) rfl (by kernel_rfl)) rfl (by kernel_rfl)) rfl (by kernel_rfl)) (by kernel_rfl)) g_Saw (fun _ => rfl) (fun _ => show 4 = _ by kernel_rfl) (fun _ h => h)
def qNZ (r : Rates) : Prop := QR r.Chip ∧ QR r.Dust ∧ QR r.Fine ∧ True
def qOn : (Int × (Int × (Int × Unit))) → Rates := (fun r : Int × (Int × (Int × Unit)) => Rates.mk r.1 r.2.1 r.2.2.1)
def qOj : ∀ H : Type, DataW H → Rates → Prop := NS qOn (NT (zF QP (zF QP (zF QP KY))))
theorem und35 : Tryz.prog.underlying 35 = some (.struct #[(Field.mk "Chip" 3 0 false "" "" 0), (Field.mk "Dust" 3 1 false "" "" 8), (Field.mk "Fine" 3 2 false "" "" 16)]) := by kernel_rfl
theorem rd_35 : jB Tryz.prog 35 wM qNZ qOj :=
 QA (jH (fs := #[(Field.mk "Chip" 3 0 false "" "" 0), (Field.mk "Dust" 3 1 false "" "" 8), (Field.mk "Fine" 3 2 false "" "" 16)]) und35 (zG (off := 0) rd_3 (zG (off := 1) rd_3 (zG (off := 2) rd_3 (VC 3) rfl (by kernel_rfl)) rfl (by kernel_rfl)) rfl (by kernel_rfl)) (by kernel_rfl)) qOn (fun _ => rfl) (fun _ => show 3 = _ by kernel_rfl) (fun _ h => h)
def qEj (r : Law22_Given) : Prop := (fun l : List Slice => l.length ≤ maxLen ∧ ∀ x ∈ l, qJV x) r.Solid ∧ (fun l : List Defect => l.length ≤ maxLen ∧ ∀ x ∈ l, qG0 x) r.Defects ∧ (fun l : List Product => l.length ≤ maxLen ∧ ∀ x ∈ l, qEI x) r.Products ∧ qKK r.Pattern ∧ wfSaw r.Saw ∧ qNZ r.Rates ∧ True
def qEm : ((List Slice) × ((List Defect) × ((List Product) × (Pattern × (Saw × (Rates × Unit)))))) → Law22_Given := (fun r : (List Slice) × ((List Defect) × ((List Product) × (Pattern × (Saw × (Rates × Unit))))) => Law22_Given.mk r.1 r.2.1 r.2.2.1 r.2.2.2.1 r.2.2.2.2.1 r.2.2.2.2.2.1)
def qEl : ∀ H : Type, DataW H → Law22_Given → Prop := NS qEm (NT (zF (D_sl qJT) (zF (D_sl qHf) (zF (D_sl qFr) (zF qKs (zF D_Saw (zF qOj KY)))))))
theorem und37 : Tryz.prog.underlying 37 = some (.struct #[(Field.mk "Solid" 22 0 false "" "" 0), (Field.mk "Defects" 23 1 false "" "" 24), (Field.mk "Products" 24 2 false "" "" 48), (Field.mk "Pattern" 31 3 false "" "" 72), (Field.mk "Saw" 33 8 false "" "" 128), (Field.mk "Rates" 35 12 false "" "" 160)]) := by kernel_rfl
theorem rd_37 : jB Tryz.prog 37 qX qEj qEl :=
 QA (jH (fs := #[(Field.mk "Solid" 22 0 false "" "" 0), (Field.mk "Defects" 23 1 false "" "" 24), (Field.mk "Products" 24 2 false "" "" 48), (Field.mk "Pattern" 31 3 false "" "" 72), (Field.mk "Saw" 33 8 false "" "" 128), (Field.mk "Rates" 35 12 false "" "" 160)]) und37 (zG (off := 0) rd_22 (zG (off := 1) rd_23 (zG (off := 2) rd_24 (zG (off := 3) rd_31 (zG (off := 8) rd_33 (zG (off := 12) rd_35 (VC 15) rfl (by kernel_rfl)) rfl (by kernel_rfl)) rfl (by kernel_rfl)) rfl (by kernel_rfl)) rfl (by kernel_rfl)) rfl (by kernel_rfl)) (by kernel_rfl)) qEm (fun _ => rfl) (fun _ => show 15 = _ by kernel_rfl) (fun _ h => h)
section
variable {H : Type} {enc : TypeId × Value → H} {w : World} {r : Reach} {b0 : Nat} {v : Value} {d : DataW H} {ps : List MemPlace}
theorem open_37 (hval : Value.okWide Tryz.prog w r b0 37 v) (hd : DataW.Trod enc Tryz.prog w 0 (fun _ => true) true 37 v d ps) : ∃ x, qEj x ∧ qEl H d x ∧ qU w (Mem.of fun _ => True) (.agg (qX x)) v := by
 obtain ⟨x, h1, h2, h3⟩ := qJY rd_37 und37 hval hd
 exact ⟨x, h1, h2, h3⟩
end
theorem qQJ {W : World} : qAS globs W (fun _ => True) := fun g c h => by cases h
noncomputable def qFg (os : Os) : World := World.holding Tryz.prog os ⟨#[], #[], []⟩
theorem laidOut : laidOutB Tryz.prog = true := by kernel_rfl
theorem own : ownKnob Tryz.prog.godebug = none := by kernel_rfl
end Saw
end Go.SL
