/- The readings of the laws' parameters. -/
import Derived.Test.YtjobdnkaonbgnaaEBase
import Derived.Test.YtjobdnkaonbgnaaYa6
import Derived.Test.YtjobdnkaonbgnaaRows
import Derived.Lib.LaidTab
set_option linter.unusedVariables false
set_option linter.unusedSimpArgs false
namespace Go.SL
namespace Saw
open Go.Proofs Go.RowKit Go.ChangeShapes Go.WideShapes
set_option maxRecDepth 100000
theorem rd_3 : wH Try.prog 3 qM yU yT := qI2 (by kernel_rfl) (by kernel_rfl)
def LJ (r : Span) : Prop := yU r.A ∧ yU r.B ∧ True
def qJE : (Int × (Int × Unit)) → Span := (fun r : Int × (Int × Unit) => Span.mk r.1 r.2.1)
def LW : ∀ H : Type, DataW H → Span → Prop := UQ qJE (UU (qV yT (qV yT YD)))
theorem und26 : Try.prog.underlying 26 = some (.struct #[(Field.mk "A" 3 0 false "" "" 0), (Field.mk "B" 3 1 false "" "" 8)]) := by kernel_rfl
theorem qBk : wH Try.prog 26 e_Span LJ LW :=
 jP (wJ (fs := #[(Field.mk "A" 3 0 false "" "" 0), (Field.mk "B" 3 1 false "" "" 8)]) und26 (qW (off := 0) rd_3 (qW (off := 1) rd_3 (PJ 2) rfl (by kernel_rfl)) rfl (by kernel_rfl)) (by kernel_rfl)) qJE (fun _ => rfl) (fun _ => show 2 = _ by kernel_rfl) (fun _ h => h)
theorem rd_64 : wH Try.prog 64 (fun l : List Span => [tl e_Span default l]) (fun l : List Span => l.length ≤ maxLen ∧ ∀ x ∈ l, LJ x) (D_sl LW) :=
 RC (e := 26) (by kernel_rfl) (by kernel_rfl) (show 0 < _ from Nat.lt_of_lt_of_eq (show 0 < 2 by decide) (by kernel_rfl)) qBk
def qE6 (r : qI) : Prop := yU r.Low ∧ (fun l : List Span => l.length ≤ maxLen ∧ ∀ x ∈ l, LJ x) r.Rows ∧ True
def qE2 : (Int × ((List Span) × Unit)) → qI := (fun r : Int × ((List Span) × Unit) => qI.mk r.1 r.2.1)
def qE4 : ∀ H : Type, DataW H → qI → Prop := UQ qE2 (UU (qV yT (qV (D_sl LW) YD)))
theorem und66 : Try.prog.underlying 66 = some (.struct #[(Field.mk "Low" 3 0 false "" "" 0), (Field.mk "Rows" 64 1 false "" "" 8)]) := by kernel_rfl
theorem rd_66 : wH Try.prog 66 zZ qE6 qE4 :=
 jP (wJ (fs := #[(Field.mk "Low" 3 0 false "" "" 0), (Field.mk "Rows" 64 1 false "" "" 8)]) und66 (qW (off := 0) rd_3 (qW (off := 1) rd_64 (PJ 2) rfl (by kernel_rfl)) rfl (by kernel_rfl)) (by kernel_rfl)) qE2 (fun _ => rfl) (fun _ => show 2 = _ by kernel_rfl) (fun _ h => h)
def qED (r : qF) : Prop := yU r.Len ∧ qE6 r.Sec ∧ True
def qIj : (Int × (qI × Unit)) → qF := (fun r : Int × (qI × Unit) => qF.mk r.1 r.2.1)
def qEx : ∀ H : Type, DataW H → qF → Prop := UQ qIj (UU (qV yT (qV qE4 YD)))
theorem und68 : Try.prog.underlying 68 = some (.struct #[(Field.mk "Len" 3 0 false "" "" 0), (Field.mk "Sec" 66 1 false "" "" 8)]) := by kernel_rfl
theorem rd_68 : wH Try.prog 68 qH qED qEx :=
 jP (wJ (fs := #[(Field.mk "Len" 3 0 false "" "" 0), (Field.mk "Sec" 66 1 false "" "" 8)]) und68 (qW (off := 0) rd_3 (qW (off := 1) rd_66 (PJ 3) rfl (by kernel_rfl)) rfl (by kernel_rfl)) (by kernel_rfl)) qIj (fun _ => rfl) (fun _ => show 3 = _ by kernel_rfl) (fun _ h => h)
theorem rd_22 : wH Try.prog 22 (fun l : List qF => [tl qH default l]) (fun l : List qF => l.length ≤ maxLen ∧ ∀ x ∈ l, qED x) (D_sl qEx) :=
 RC (e := 68) (by kernel_rfl) (by kernel_rfl) (show 0 < _ from Nat.lt_of_lt_of_eq (show 0 < 3 by decide) (by kernel_rfl)) rd_68
def wfBox (r : Box) : Prop := LJ r.X ∧ LJ r.Y ∧ LJ r.Z ∧ True
def g_Box : (Span × (Span × (Span × Unit))) → Box := (fun r : Span × (Span × (Span × Unit)) => Box.mk r.1 r.2.1 r.2.2.1)
def D_Box : ∀ H : Type, DataW H → Box → Prop := UQ g_Box (UU (qV LW (qV LW (qV LW YD))))
theorem und52 : Try.prog.underlying 52 = some (.struct #[(Field.mk "X" 26 0 false "" "" 0), (Field.mk "Y" 26 2 false "" "" 16), (Field.mk "Z" 26 4 false "" "" 32)]) := by kernel_rfl
theorem rd_52 : wH Try.prog 52 wT wfBox D_Box :=
 jP (wJ (fs := #[(Field.mk "X" 26 0 false "" "" 0), (Field.mk "Y" 26 2 false "" "" 16), (Field.mk "Z" 26 4 false "" "" 32)]) und52 (qW (off := 0) qBk (qW (off := 2) qBk (qW (off := 4) qBk (PJ 6) rfl (by kernel_rfl)) rfl (by kernel_rfl)) rfl (by kernel_rfl)) (by kernel_rfl)) g_Box (fun _ => rfl) (fun _ => show 6 = _ by kernel_rfl) (fun _ h => h)
def qCA (r : Defect) : Prop := yU r.Kind ∧ wfBox r.Box ∧ True
def qGw : (Int × (Box × Unit)) → Defect := (fun r : Int × (Box × Unit) => Defect.mk r.1 r.2.1)
def qCg : ∀ H : Type, DataW H → Defect → Prop := UQ qGw (UU (qV yT (qV D_Box YD)))
theorem und139 : Try.prog.underlying 139 = some (.struct #[(Field.mk "Kind" 3 0 false "" "" 0), (Field.mk "Box" 52 1 false "" "" 8)]) := by kernel_rfl
theorem rd_139 : wH Try.prog 139 qG qCA qCg :=
 jP (wJ (fs := #[(Field.mk "Kind" 3 0 false "" "" 0), (Field.mk "Box" 52 1 false "" "" 8)]) und139 (qW (off := 0) rd_3 (qW (off := 1) rd_52 (PJ 7) rfl (by kernel_rfl)) rfl (by kernel_rfl)) (by kernel_rfl)) qGw (fun _ => rfl) (fun _ => show 7 = _ by kernel_rfl) (fun _ h => h)
theorem rd_23 : wH Try.prog 23 (fun l : List Defect => [tl qG default l]) (fun l : List Defect => l.length ≤ maxLen ∧ ∀ x ∈ l, qCA x) (D_sl qCg) :=
 RC (e := 139) (by kernel_rfl) (by kernel_rfl) (show 0 < _ from Nat.lt_of_lt_of_eq (show 0 < 7 by decide) (by kernel_rfl)) rd_139
theorem rd_9 : wH Try.prog 9 e_str strok qB7 := qG2 (by kernel_rfl) (by kernel_rfl)
theorem rd_69 : wH Try.prog 69 (fun l : List Int => [tl qM default l]) (fun l : List Int => l.length ≤ maxLen ∧ ∀ x ∈ l, yU x) (D_sl yT) :=
 RC (e := 3) (by kernel_rfl) (by kernel_rfl) (show 0 < _ from Nat.lt_of_lt_of_eq (show 0 < 1 by decide) (by kernel_rfl)) rd_3
def qAw (r : Product) : Prop := strok r.Name ∧ yU r.Thick ∧ yU r.Width ∧ yU r.Allow ∧ yU r.Wane ∧ (fun l : List Int => l.length ≤ maxLen ∧ ∀ x ∈ l, yU x) r.Lengths ∧ (fun l : List Int => l.length ≤ maxLen ∧ ∀ x ∈ l, yU x) r.Prices ∧ True
def qFd : (ByteArray × (Int × (Int × (Int × (Int × ((List Int) × ((List Int) × Unit))))))) → Product := (fun r : ByteArray × (Int × (Int × (Int × (Int × ((List Int) × ((List Int) × Unit)))))) => Product.mk r.1 r.2.1 r.2.2.1 r.2.2.2.1 r.2.2.2.2.1 r.2.2.2.2.2.1 r.2.2.2.2.2.2.1)
def qBe : ∀ H : Type, DataW H → Product → Prop := UQ qFd (UU (qV qB7 (qV yT (qV yT (qV yT (qV yT (qV (D_sl yT) (qV (D_sl yT) YD))))))))
theorem und71 : Try.prog.underlying 71 = some (.struct #[(Field.mk "Name" 9 0 false "" "" 0), (Field.mk "Thick" 3 1 false "" "" 16), (Field.mk "Width" 3 2 false "" "" 24), (Field.mk "Allow" 3 3 false "" "" 32), (Field.mk "Wane" 3 4 false "" "" 40), (Field.mk "Lengths" 69 5 false "" "" 48), (Field.mk "Prices" 69 6 false "" "" 72)]) := by kernel_rfl
theorem rd_71 : wH Try.prog 71 qE qAw qBe :=
 jP (wJ (fs := #[(Field.mk "Name" 9 0 false "" "" 0), (Field.mk "Thick" 3 1 false "" "" 16), (Field.mk "Width" 3 2 false "" "" 24), (Field.mk "Allow" 3 3 false "" "" 32), (Field.mk "Wane" 3 4 false "" "" 40), (Field.mk "Lengths" 69 5 false "" "" 48), (Field.mk "Prices" 69 6 false "" "" 72)]) und71 (qW (off := 0) rd_9 (qW (off := 1) rd_3 (qW (off := 2) rd_3 (qW (off := 3) rd_3 (qW (off := 4) rd_3 (qW (off := 5) rd_69 (qW (off := 6) rd_69 (PJ 7) rfl (by kernel_rfl)) rfl (by kernel_rfl)) rfl (by kernel_rfl)) rfl (by kernel_rfl)) rfl (by kernel_rfl)) rfl (by kernel_rfl)) rfl (by kernel_rfl)) (by kernel_rfl)) qFd (fun _ => rfl) (fun _ => show 7 = _ by kernel_rfl) (fun _ h => h)
theorem rd_24 : wH Try.prog 24 (fun l : List Product => [tl qE default l]) (fun l : List Product => l.length ≤ maxLen ∧ ∀ x ∈ l, qAw x) (D_sl qBe) :=
 RC (e := 71) (by kernel_rfl) (by kernel_rfl) (show 0 < _ from Nat.lt_of_lt_of_eq (show 0 < 7 by decide) (by kernel_rfl)) rd_71
def qJO (r : Rect) : Prop := LJ r.X ∧ LJ r.Y ∧ True
def qJL : (Span × (Span × Unit)) → Rect := (fun r : Span × (Span × Unit) => Rect.mk r.1 r.2.1)
def qJf : ∀ H : Type, DataW H → Rect → Prop := UQ qJL (UU (qV LW (qV LW YD)))
theorem und28 : Try.prog.underlying 28 = some (.struct #[(Field.mk "X" 26 0 false "" "" 0), (Field.mk "Y" 26 2 false "" "" 16)]) := by kernel_rfl
theorem rd_28 : wH Try.prog 28 qK qJO qJf :=
 jP (wJ (fs := #[(Field.mk "X" 26 0 false "" "" 0), (Field.mk "Y" 26 2 false "" "" 16)]) und28 (qW (off := 0) qBk (qW (off := 2) qBk (PJ 4) rfl (by kernel_rfl)) rfl (by kernel_rfl)) (by kernel_rfl)) qJL (fun _ => rfl) (fun _ => show 4 = _ by kernel_rfl) (fun _ h => h)
def qHb (r : Node) : Prop := yU r.Kind ∧ yU r.At ∧ True
def qJp : (Int × (Int × Unit)) → Node := (fun r : Int × (Int × Unit) => Node.mk r.1 r.2.1)
def qGG : ∀ H : Type, DataW H → Node → Prop := UQ qJp (UU (qV yT (qV yT YD)))
theorem und59 : Try.prog.underlying 59 = some (.struct #[(Field.mk "Kind" 3 0 false "" "" 0), (Field.mk "At" 3 1 false "" "" 8)]) := by kernel_rfl
theorem rd_59 : wH Try.prog 59 wQ qHb qGG :=
 jP (wJ (fs := #[(Field.mk "Kind" 3 0 false "" "" 0), (Field.mk "At" 3 1 false "" "" 8)]) und59 (qW (off := 0) rd_3 (qW (off := 1) rd_3 (PJ 2) rfl (by kernel_rfl)) rfl (by kernel_rfl)) (by kernel_rfl)) qJp (fun _ => rfl) (fun _ => show 2 = _ by kernel_rfl) (fun _ h => h)
theorem rd_29 : wH Try.prog 29 (fun l : List Node => [tl wQ default l]) (fun l : List Node => l.length ≤ maxLen ∧ ∀ x ∈ l, qHb x) (D_sl qGG) :=
 RC (e := 59) (by kernel_rfl) (by kernel_rfl) (show 0 < _ from Nat.lt_of_lt_of_eq (show 0 < 2 by decide) (by kernel_rfl)) rd_59
def qFh (r : Pattern) : Prop := qJO r.Frame ∧ (fun l : List Node => l.length ≤ maxLen ∧ ∀ x ∈ l, qHb x) r.Nodes ∧ True
def qFb : (Rect × ((List Node) × Unit)) → Pattern := (fun r : Rect × ((List Node) × Unit) => Pattern.mk r.1 r.2.1)
def qFf : ∀ H : Type, DataW H → Pattern → Prop := UQ qFb (UU (qV qJf (qV (D_sl qGG) YD)))
theorem und31 : Try.prog.underlying 31 = some (.struct #[(Field.mk "Frame" 28 0 false "" "" 0), (Field.mk "Nodes" 29 4 false "" "" 32)]) := by kernel_rfl
theorem rd_31 : wH Try.prog 31 qD qFh qFf :=
 jP (wJ (fs := #[(Field.mk "Frame" 28 0 false "" "" 0), (Field.mk "Nodes" 29 4 false "" "" 32)]) und31 (qW (off := 0) rd_28 (qW (off := 4) rd_29 (PJ 5) rfl (by kernel_rfl)) rfl (by kernel_rfl)) (by kernel_rfl)) qFb (fun _ => rfl) (fun _ => show 5 = _ by kernel_rfl) (fun _ h => h)
def wfSaw (r : Saw) : Prop := yU r.Kerf ∧ yU r.Trim ∧ yU r.Pitch ∧ yU r.Step ∧ True
def g_Saw : (Int × (Int × (Int × (Int × Unit)))) → Saw := (fun r : Int × (Int × (Int × (Int × Unit))) => Saw.mk r.1 r.2.1 r.2.2.1 r.2.2.2.1)
def D_Saw : ∀ H : Type, DataW H → Saw → Prop := UQ g_Saw (UU (qV yT (qV yT (qV yT (qV yT YD)))))
theorem und33 : Try.prog.underlying 33 = some (.struct #[(Field.mk "Kerf" 3 0 false "" "" 0), (Field.mk "Trim" 3 1 false "" "" 8), (Field.mk "Pitch" 3 2 false "" "" 16), (Field.mk "Step" 3 3 false "" "" 24)]) := by kernel_rfl
theorem rd_33 : wH Try.prog 33 jD wfSaw D_Saw :=
 jP (wJ (fs := #[(Field.mk "Kerf" 3 0 false "" "" 0), (Field.mk "Trim" 3 1 false "" "" 8), (Field.mk "Pitch" 3 2 false "" "" 16), (Field.mk "Step" 3 3 false "" "" 24)]) und33 (qW (off := 0) rd_3 (qW (off := 1) rd_3 (qW (off := 2) rd_3 (qW (off := 3) rd_3 (PJ 4) rfl (by kernel_rfl)) rfl (by kernel_rfl)) rfl (by kernel_rfl)) rfl (by kernel_rfl)) (by kernel_rfl)) g_Saw (fun _ => rfl) (fun _ => show 4 = _ by kernel_rfl) (fun _ h => h)
def qH9 (r : Rates) : Prop := yU r.Chip ∧ yU r.Dust ∧ yU r.Fine ∧ True
def qHT : (Int × (Int × (Int × Unit))) → Rates := (fun r : Int × (Int × (Int × Unit)) => Rates.mk r.1 r.2.1 r.2.2.1)
def qIa : ∀ H : Type, DataW H → Rates → Prop := UQ qHT (UU (qV yT (qV yT (qV yT YD))))
theorem und35 : Try.prog.underlying 35 = some (.struct #[(Field.mk "Chip" 3 0 false "" "" 0), (Field.mk "Dust" 3 1 false "" "" 8), (Field.mk "Fine" 3 2 false "" "" 16)]) := by kernel_rfl
theorem rd_35 : wH Try.prog 35 WN qH9 qIa :=
 jP (wJ (fs := #[(Field.mk "Chip" 3 0 false "" "" 0), (Field.mk "Dust" 3 1 false "" "" 8), (Field.mk "Fine" 3 2 false "" "" 16)]) und35 (qW (off := 0) rd_3 (qW (off := 1) rd_3 (qW (off := 2) rd_3 (PJ 3) rfl (by kernel_rfl)) rfl (by kernel_rfl)) rfl (by kernel_rfl)) (by kernel_rfl)) qHT (fun _ => rfl) (fun _ => show 3 = _ by kernel_rfl) (fun _ h => h)
def qAb (r : Law22_Given) : Prop := (fun l : List qF => l.length ≤ maxLen ∧ ∀ x ∈ l, qED x) r.Solid ∧ (fun l : List Defect => l.length ≤ maxLen ∧ ∀ x ∈ l, qCA x) r.Defects ∧ (fun l : List Product => l.length ≤ maxLen ∧ ∀ x ∈ l, qAw x) r.Products ∧ qFh r.Pattern ∧ wfSaw r.Saw ∧ qH9 r.Rates ∧ True
def CY : ((List qF) × ((List Defect) × ((List Product) × (Pattern × (Saw × (Rates × Unit)))))) → Law22_Given := (fun r : (List qF) × ((List Defect) × ((List Product) × (Pattern × (Saw × (Rates × Unit))))) => Law22_Given.mk r.1 r.2.1 r.2.2.1 r.2.2.2.1 r.2.2.2.2.1 r.2.2.2.2.2.1)
def CU : ∀ H : Type, DataW H → Law22_Given → Prop := UQ CY (UU (qV (D_sl qEx) (qV (D_sl qCg) (qV (D_sl qBe) (qV qFf (qV D_Saw (qV qIa YD)))))))
theorem und37 : Try.prog.underlying 37 = some (.struct #[(Field.mk "Solid" 22 0 false "" "" 0), (Field.mk "Defects" 23 1 false "" "" 24), (Field.mk "Products" 24 2 false "" "" 48), (Field.mk "Pattern" 31 3 false "" "" 72), (Field.mk "Saw" 33 8 false "" "" 128), (Field.mk "Rates" 35 12 false "" "" 160)]) := by kernel_rfl
theorem rd_37 : wH Try.prog 37 qO qAb CU :=
 jP (wJ (fs := #[(Field.mk "Solid" 22 0 false "" "" 0), (Field.mk "Defects" 23 1 false "" "" 24), (Field.mk "Products" 24 2 false "" "" 48), (Field.mk "Pattern" 31 3 false "" "" 72), (Field.mk "Saw" 33 8 false "" "" 128), (Field.mk "Rates" 35 12 false "" "" 160)]) und37 (qW (off := 0) rd_22 (qW (off := 1) rd_23 (qW (off := 2) rd_24 (qW (off := 3) rd_31 (qW (off := 8) rd_33 (qW (off := 12) rd_35 (PJ 15) rfl (by kernel_rfl)) rfl (by kernel_rfl)) rfl (by kernel_rfl)) rfl (by kernel_rfl)) rfl (by kernel_rfl)) rfl (by kernel_rfl)) (by kernel_rfl)) CY (fun _ => rfl) (fun _ => show 15 = _ by kernel_rfl) (fun _ h => h)
section
variable {H : Type} {enc : TypeId × Value → H} {w : World} {r : Reach} {b0 : Nat} {v : Value} {d : DataW H} {ps : List MemPlace}
theorem open_37 (hval : Value.okWide Try.prog w r b0 37 v) (hd : DataW.Trod enc Try.prog w 0 (fun _ => true) true 37 v d ps) : ∃ x, qAb x ∧ CU H d x ∧ qR w (Mem.of fun _ => True) (.agg (qO x)) v := by
 obtain ⟨x, h1, h2, h3⟩ := qD3 rd_37 und37 hval hd
 exact ⟨x, h1, h2, h3⟩
end
theorem qKl {W : World} : HU globs W (fun _ => True) := fun g c h => by cases h
noncomputable def qAN (os : Os) : World := World.holding Try.prog os ⟨#[], #[], []⟩
theorem laidOut : laidOutB Try.prog = true := by kernel_rfl
theorem own : ownKnob Try.prog.godebug = none := by kernel_rfl
end Saw
end Go.SL
