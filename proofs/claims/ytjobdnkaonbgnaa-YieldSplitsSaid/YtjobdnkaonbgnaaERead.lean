/- The readings of the laws' parameters. -/
import Derived.Test.YtjobdnkaonbgnaaEBase
import Derived.Test.YtjobdnkaonbgnaaYa6
import Derived.Test.YtjobdnkaonbgnaaRows
import Derived.Lib.LaidTab
set_option linter.unusedVariables false
set_option linter.unusedSimpArgs false
namespace Go.SL
namespace Saw
open Go.Proofs Go.RowKit Go.ChangeShapes Go.WideShapes
set_option maxRecDepth 100000
theorem rd_3 : zU Try.prog 3 qL jN yI := qIB (by kernel_rfl) (by kernel_rfl)
def LJ (r : Span) : Prop := jN r.A ∧ jN r.B ∧ True
def qIQ : (Int × (Int × Unit)) → Span := (fun r : Int × (Int × Unit) => Span.mk r.1 r.2.1)
def FN : ∀ H : Type, DataW H → Span → Prop := UI qIQ (UH (qV yI (qV yI YE)))
theorem und26 : Try.prog.underlying 26 = some (.struct #[(Field.mk "A" 3 0 false "" "" 0), (Field.mk "B" 3 1 false "" "" 8)]) := by kernel_rfl
theorem qA4 : zU Try.prog 26 e_Span LJ FN :=
 jO (wJ (fs := #[(Field.mk "A" 3 0 false "" "" 0), (Field.mk "B" 3 1 false "" "" 8)]) und26 (qW (off := 0) rd_3 (qW (off := 1) rd_3 (KY 2) rfl (by kernel_rfl)) rfl (by kernel_rfl)) (by kernel_rfl)) qIQ (fun _ => rfl) (fun _ => show 2 = _ by kernel_rfl) (fun _ h => h)
theorem rd_64 : zU Try.prog 64 (fun l : List Span => [tl e_Span default l]) (fun l : List Span => l.length ≤ maxLen ∧ ∀ x ∈ l, LJ x) (D_sl FN) :=
 PJ (e := 26) (by kernel_rfl) (by kernel_rfl) (show 0 < _ from Nat.lt_of_lt_of_eq (show 0 < 2 by decide) (by kernel_rfl)) qA4
def qEs (r : qI) : Prop := jN r.Low ∧ (fun l : List Span => l.length ≤ maxLen ∧ ∀ x ∈ l, LJ x) r.Rows ∧ True
def qE9 : (Int × ((List Span) × Unit)) → qI := (fun r : Int × ((List Span) × Unit) => qI.mk r.1 r.2.1)
def qEK : ∀ H : Type, DataW H → qI → Prop := UI qE9 (UH (qV yI (qV (D_sl FN) YE)))
theorem und66 : Try.prog.underlying 66 = some (.struct #[(Field.mk "Low" 3 0 false "" "" 0), (Field.mk "Rows" 64 1 false "" "" 8)]) := by kernel_rfl
theorem rd_66 : zU Try.prog 66 zW qEs qEK :=
 jO (wJ (fs := #[(Field.mk "Low" 3 0 false "" "" 0), (Field.mk "Rows" 64 1 false "" "" 8)]) und66 (qW (off := 0) rd_3 (qW (off := 1) rd_64 (KY 2) rfl (by kernel_rfl)) rfl (by kernel_rfl)) (by kernel_rfl)) qE9 (fun _ => rfl) (fun _ => show 2 = _ by kernel_rfl) (fun _ h => h)
def qEr (r : qF) : Prop := jN r.Len ∧ qEs r.Sec ∧ True
def qHh : (Int × (qI × Unit)) → qF := (fun r : Int × (qI × Unit) => qF.mk r.1 r.2.1)
def qEo : ∀ H : Type, DataW H → qF → Prop := UI qHh (UH (qV yI (qV qEK YE)))
theorem und68 : Try.prog.underlying 68 = some (.struct #[(Field.mk "Len" 3 0 false "" "" 0), (Field.mk "Sec" 66 1 false "" "" 8)]) := by kernel_rfl
theorem rd_68 : zU Try.prog 68 qH qEr qEo :=
 jO (wJ (fs := #[(Field.mk "Len" 3 0 false "" "" 0), (Field.mk "Sec" 66 1 false "" "" 8)]) und68 (qW (off := 0) rd_3 (qW (off := 1) rd_66 (KY 3) rfl (by kernel_rfl)) rfl (by kernel_rfl)) (by kernel_rfl)) qHh (fun _ => rfl) (fun _ => show 3 = _ by kernel_rfl) (fun _ h => h)
theorem rd_22 : zU Try.prog 22 (fun l : List qF => [tl qH default l]) (fun l : List qF => l.length ≤ maxLen ∧ ∀ x ∈ l, qEr x) (D_sl qEo) :=
 PJ (e := 68) (by kernel_rfl) (by kernel_rfl) (show 0 < _ from Nat.lt_of_lt_of_eq (show 0 < 3 by decide) (by kernel_rfl)) rd_68
def wfBox (r : Box) : Prop := LJ r.X ∧ LJ r.Y ∧ LJ r.Z ∧ True
def g_Box : (Span × (Span × (Span × Unit))) → Box := (fun r : Span × (Span × (Span × Unit)) => Box.mk r.1 r.2.1 r.2.2.1)
def D_Box : ∀ H : Type, DataW H → Box → Prop := UI g_Box (UH (qV FN (qV FN (qV FN YE))))
theorem und52 : Try.prog.underlying 52 = some (.struct #[(Field.mk "X" 26 0 false "" "" 0), (Field.mk "Y" 26 2 false "" "" 16), (Field.mk "Z" 26 4 false "" "" 32)]) := by kernel_rfl
theorem rd_52 : zU Try.prog 52 jY wfBox D_Box :=
 jO (wJ (fs := #[(Field.mk "X" 26 0 false "" "" 0), (Field.mk "Y" 26 2 false "" "" 16), (Field.mk "Z" 26 4 false "" "" 32)]) und52 (qW (off := 0) qA4 (qW (off := 2) qA4 (qW (off := 4) qA4 (KY 6) rfl (by kernel_rfl)) rfl (by kernel_rfl)) rfl (by kernel_rfl)) (by kernel_rfl)) g_Box (fun _ => rfl) (fun _ => show 6 = _ by kernel_rfl) (fun _ h => h)
def qB5 (r : Defect) : Prop := jN r.Kind ∧ wfBox r.Box ∧ True
def qF7 : (Int × (Box × Unit)) → Defect := (fun r : Int × (Box × Unit) => Defect.mk r.1 r.2.1)
def qB6 : ∀ H : Type, DataW H → Defect → Prop := UI qF7 (UH (qV yI (qV D_Box YE)))
theorem und139 : Try.prog.underlying 139 = some (.struct #[(Field.mk "Kind" 3 0 false "" "" 0), (Field.mk "Box" 52 1 false "" "" 8)]) := by kernel_rfl
theorem rd_139 : zU Try.prog 139 qG qB5 qB6 :=
 jO (wJ (fs := #[(Field.mk "Kind" 3 0 false "" "" 0), (Field.mk "Box" 52 1 false "" "" 8)]) und139 (qW (off := 0) rd_3 (qW (off := 1) rd_52 (KY 7) rfl (by kernel_rfl)) rfl (by kernel_rfl)) (by kernel_rfl)) qF7 (fun _ => rfl) (fun _ => show 7 = _ by kernel_rfl) (fun _ h => h)
theorem rd_23 : zU Try.prog 23 (fun l : List Defect => [tl qG default l]) (fun l : List Defect => l.length ≤ maxLen ∧ ∀ x ∈ l, qB5 x) (D_sl qB6) :=
 PJ (e := 139) (by kernel_rfl) (by kernel_rfl) (show 0 < _ from Nat.lt_of_lt_of_eq (show 0 < 7 by decide) (by kernel_rfl)) rd_139
theorem rd_9 : zU Try.prog 9 e_str strok qCg := qGA (by kernel_rfl) (by kernel_rfl)
theorem rd_69 : zU Try.prog 69 (fun l : List Int => [tl qL default l]) (fun l : List Int => l.length ≤ maxLen ∧ ∀ x ∈ l, jN x) (D_sl yI) :=
 PJ (e := 3) (by kernel_rfl) (by kernel_rfl) (show 0 < _ from Nat.lt_of_lt_of_eq (show 0 < 1 by decide) (by kernel_rfl)) rd_3
def qAi (r : Product) : Prop := strok r.Name ∧ jN r.Thick ∧ jN r.Width ∧ jN r.Allow ∧ jN r.Wane ∧ (fun l : List Int => l.length ≤ maxLen ∧ ∀ x ∈ l, jN x) r.Lengths ∧ (fun l : List Int => l.length ≤ maxLen ∧ ∀ x ∈ l, jN x) r.Prices ∧ True
def qFb : (ByteArray × (Int × (Int × (Int × (Int × ((List Int) × ((List Int) × Unit))))))) → Product := (fun r : ByteArray × (Int × (Int × (Int × (Int × ((List Int) × ((List Int) × Unit)))))) => Product.mk r.1 r.2.1 r.2.2.1 r.2.2.2.1 r.2.2.2.2.1 r.2.2.2.2.2.1 r.2.2.2.2.2.2.1)
def CV : ∀ H : Type, DataW H → Product → Prop := UI qFb (UH (qV qCg (qV yI (qV yI (qV yI (qV yI (qV (D_sl yI) (qV (D_sl yI) YE))))))))
theorem und71 : Try.prog.underlying 71 = some (.struct #[(Field.mk "Name" 9 0 false "" "" 0), (Field.mk "Thick" 3 1 false "" "" 16), (Field.mk "Width" 3 2 false "" "" 24), (Field.mk "Allow" 3 3 false "" "" 32), (Field.mk "Wane" 3 4 false "" "" 40), (Field.mk "Lengths" 69 5 false "" "" 48), (Field.mk "Prices" 69 6 false "" "" 72)]) := by kernel_rfl
theorem rd_71 : zU Try.prog 71 qD qAi CV :=
 jO (wJ (fs := #[(Field.mk "Name" 9 0 false "" "" 0), (Field.mk "Thick" 3 1 false "" "" 16), (Field.mk "Width" 3 2 false "" "" 24), (Field.mk "Allow" 3 3 false "" "" 32), (Field.mk "Wane" 3 4 false "" "" 40), (Field.mk "Lengths" 69 5 false "" "" 48), (Field.mk "Prices" 69 6 false "" "" 72)]) und71 (qW (off := 0) rd_9 (qW (off := 1) rd_3 (qW (off := 2) rd_3 (qW (off := 3) rd_3 (qW (off := 4) rd_3 (qW (off := 5) rd_69 (qW (off := 6) rd_69 (KY 7) rfl (by kernel_rfl)) rfl (by kernel_rfl)) rfl (by kernel_rfl)) rfl (by kernel_rfl)) rfl (by kernel_rfl)) rfl (by kernel_rfl)) rfl (by kernel_rfl)) (by kernel_rfl)) qFb (fun _ => rfl) (fun _ => show 7 = _ by kernel_rfl) (fun _ h => h)
theorem rd_24 : zU Try.prog 24 (fun l : List Product => [tl qD default l]) (fun l : List Product => l.length ≤ maxLen ∧ ∀ x ∈ l, qAi x) (D_sl CV) :=
 PJ (e := 71) (by kernel_rfl) (by kernel_rfl) (show 0 < _ from Nat.lt_of_lt_of_eq (show 0 < 7 by decide) (by kernel_rfl)) rd_71
def qIq (r : Rect) : Prop := LJ r.X ∧ LJ r.Y ∧ True
def qJj : (Span × (Span × Unit)) → Rect := (fun r : Span × (Span × Unit) => Rect.mk r.1 r.2.1)
def qIk : ∀ H : Type, DataW H → Rect → Prop := UI qJj (UH (qV FN (qV FN YE)))
theorem und28 : Try.prog.underlying 28 = some (.struct #[(Field.mk "X" 26 0 false "" "" 0), (Field.mk "Y" 26 2 false "" "" 16)]) := by kernel_rfl
theorem rd_28 : zU Try.prog 28 qK qIq qIk :=
 jO (wJ (fs := #[(Field.mk "X" 26 0 false "" "" 0), (Field.mk "Y" 26 2 false "" "" 16)]) und28 (qW (off := 0) qA4 (qW (off := 2) qA4 (KY 4) rfl (by kernel_rfl)) rfl (by kernel_rfl)) (by kernel_rfl)) qJj (fun _ => rfl) (fun _ => show 4 = _ by kernel_rfl) (fun _ h => h)
def qDj (r : Node) : Prop := jN r.Kind ∧ jN r.At ∧ True
def qIN : (Int × (Int × Unit)) → Node := (fun r : Int × (Int × Unit) => Node.mk r.1 r.2.1)
def qCX : ∀ H : Type, DataW H → Node → Prop := UI qIN (UH (qV yI (qV yI YE)))
theorem und59 : Try.prog.underlying 59 = some (.struct #[(Field.mk "Kind" 3 0 false "" "" 0), (Field.mk "At" 3 1 false "" "" 8)]) := by kernel_rfl
theorem rd_59 : zU Try.prog 59 qX qDj qCX :=
 jO (wJ (fs := #[(Field.mk "Kind" 3 0 false "" "" 0), (Field.mk "At" 3 1 false "" "" 8)]) und59 (qW (off := 0) rd_3 (qW (off := 1) rd_3 (KY 2) rfl (by kernel_rfl)) rfl (by kernel_rfl)) (by kernel_rfl)) qIN (fun _ => rfl) (fun _ => show 2 = _ by kernel_rfl) (fun _ h => h)
theorem rd_29 : zU Try.prog 29 (fun l : List Node => [tl qX default l]) (fun l : List Node => l.length ≤ maxLen ∧ ∀ x ∈ l, qDj x) (D_sl qCX) :=
 PJ (e := 59) (by kernel_rfl) (by kernel_rfl) (show 0 < _ from Nat.lt_of_lt_of_eq (show 0 < 2 by decide) (by kernel_rfl)) rd_59
theorem und29 : Try.prog.underlying 29 = some (.slice 59) := by kernel_rfl
def qEw (r : Pattern) : Prop := qIq r.Frame ∧ (fun l : List Node => l.length ≤ maxLen ∧ ∀ x ∈ l, qDj x) r.Nodes ∧ True
def qEO : (Rect × ((List Node) × Unit)) → Pattern := (fun r : Rect × ((List Node) × Unit) => Pattern.mk r.1 r.2.1)
def qEP : ∀ H : Type, DataW H → Pattern → Prop := UI qEO (UH (qV qIk (qV (D_sl qCX) YE)))
theorem und31 : Try.prog.underlying 31 = some (.struct #[(Field.mk "Frame" 28 0 false "" "" 0), (Field.mk "Nodes" 29 4 false "" "" 32)]) := by kernel_rfl
theorem rd_31 : zU Try.prog 31 qE qEw qEP :=
 jO (wJ (fs := #[(Field.mk "Frame" 28 0 false "" "" 0), (Field.mk "Nodes" 29 4 false "" "" 32)]) und31 (qW (off := 0) rd_28 (qW (off := 4) rd_29 (KY 5) rfl (by kernel_rfl)) rfl (by kernel_rfl)) (by kernel_rfl)) qEO (fun _ => rfl) (fun _ => show 5 = _ by kernel_rfl) (fun _ h => h)
def wfSaw (r : Saw) : Prop := jN r.Kerf ∧ jN r.Trim ∧ jN r.Pitch ∧ jN r.Step ∧ True
def g_Saw : (Int × (Int × (Int × (Int × Unit)))) → Saw := (fun r : Int × (Int × (Int × (Int × Unit))) => Saw.mk r.1 r.2.1 r.2.2.1 r.2.2.2.1)
def D_Saw : ∀ H : Type, DataW H → Saw → Prop := UI g_Saw (UH (qV yI (qV yI (qV yI (qV yI YE)))))
theorem und33 : Try.prog.underlying 33 = some (.struct #[(Field.mk "Kerf" 3 0 false "" "" 0), (Field.mk "Trim" 3 1 false "" "" 8), (Field.mk "Pitch" 3 2 false "" "" 16), (Field.mk "Step" 3 3 false "" "" 24)]) := by kernel_rfl
theorem rd_33 : zU Try.prog 33 wY wfSaw D_Saw :=
 jO (wJ (fs := #[(Field.mk "Kerf" 3 0 false "" "" 0), (Field.mk "Trim" 3 1 false "" "" 8), (Field.mk "Pitch" 3 2 false "" "" 16), (Field.mk "Step" 3 3 false "" "" 24)]) und33 (qW (off := 0) rd_3 (qW (off := 1) rd_3 (qW (off := 2) rd_3 (qW (off := 3) rd_3 (KY 4) rfl (by kernel_rfl)) rfl (by kernel_rfl)) rfl (by kernel_rfl)) rfl (by kernel_rfl)) (by kernel_rfl)) g_Saw (fun _ => rfl) (fun _ => show 4 = _ by kernel_rfl) (fun _ h => h)
def qHK (r : Rates) : Prop := jN r.Chip ∧ jN r.Dust ∧ jN r.Fine ∧ True
def qHg : (Int × (Int × (Int × Unit))) → Rates := (fun r : Int × (Int × (Int × Unit)) => Rates.mk r.1 r.2.1 r.2.2.1)
def qHD : ∀ H : Type, DataW H → Rates → Prop := UI qHg (UH (qV yI (qV yI (qV yI YE))))
theorem und35 : Try.prog.underlying 35 = some (.struct #[(Field.mk "Chip" 3 0 false "" "" 0), (Field.mk "Dust" 3 1 false "" "" 8), (Field.mk "Fine" 3 2 false "" "" 16)]) := by kernel_rfl
theorem rd_35 : zU Try.prog 35 WF qHK qHD :=
 jO (wJ (fs := #[(Field.mk "Chip" 3 0 false "" "" 0), (Field.mk "Dust" 3 1 false "" "" 8), (Field.mk "Fine" 3 2 false "" "" 16)]) und35 (qW (off := 0) rd_3 (qW (off := 1) rd_3 (qW (off := 2) rd_3 (KY 3) rfl (by kernel_rfl)) rfl (by kernel_rfl)) rfl (by kernel_rfl)) (by kernel_rfl)) qHg (fun _ => rfl) (fun _ => show 3 = _ by kernel_rfl) (fun _ h => h)
def CD (r : Law22_Given) : Prop := (fun l : List qF => l.length ≤ maxLen ∧ ∀ x ∈ l, qEr x) r.Solid ∧ (fun l : List Defect => l.length ≤ maxLen ∧ ∀ x ∈ l, qB5 x) r.Defects ∧ (fun l : List Product => l.length ≤ maxLen ∧ ∀ x ∈ l, qAi x) r.Products ∧ qEw r.Pattern ∧ wfSaw r.Saw ∧ qHK r.Rates ∧ True
def CC : ((List qF) × ((List Defect) × ((List Product) × (Pattern × (Saw × (Rates × Unit)))))) → Law22_Given := (fun r : (List qF) × ((List Defect) × ((List Product) × (Pattern × (Saw × (Rates × Unit))))) => Law22_Given.mk r.1 r.2.1 r.2.2.1 r.2.2.2.1 r.2.2.2.2.1 r.2.2.2.2.2.1)
def CF : ∀ H : Type, DataW H → Law22_Given → Prop := UI CC (UH (qV (D_sl qEo) (qV (D_sl qB6) (qV (D_sl CV) (qV qEP (qV D_Saw (qV qHD YE)))))))
theorem und37 : Try.prog.underlying 37 = some (.struct #[(Field.mk "Solid" 22 0 false "" "" 0), (Field.mk "Defects" 23 1 false "" "" 24), (Field.mk "Products" 24 2 false "" "" 48), (Field.mk "Pattern" 31 3 false "" "" 72), (Field.mk "Saw" 33 8 false "" "" 128), (Field.mk "Rates" 35 12 false "" "" 160)]) := by kernel_rfl
theorem rd_37 : zU Try.prog 37 qM CD CF :=
 jO (wJ (fs := #[(Field.mk "Solid" 22 0 false "" "" 0), (Field.mk "Defects" 23 1 false "" "" 24), (Field.mk "Products" 24 2 false "" "" 48), (Field.mk "Pattern" 31 3 false "" "" 72), (Field.mk "Saw" 33 8 false "" "" 128), (Field.mk "Rates" 35 12 false "" "" 160)]) und37 (qW (off := 0) rd_22 (qW (off := 1) rd_23 (qW (off := 2) rd_24 (qW (off := 3) rd_31 (qW (off := 8) rd_33 (qW (off := 12) rd_35 (KY 15) rfl (by kernel_rfl)) rfl (by kernel_rfl)) rfl (by kernel_rfl)) rfl (by kernel_rfl)) rfl (by kernel_rfl)) rfl (by kernel_rfl)) (by kernel_rfl)) CC (fun _ => rfl) (fun _ => show 15 = _ by kernel_rfl) (fun _ h => h)
section
variable {H : Type} {enc : TypeId × Value → H} {w : World} {r : Reach} {b0 : Nat} {v : Value} {d : DataW H} {ps : List MemPlace}
theorem open_37 (hval : Value.okWide Try.prog w r b0 37 v) (hd : DataW.Trod enc Try.prog w 0 (fun _ => true) true 37 v d ps) : ∃ x, CD x ∧ CF H d x ∧ qP w (Mem.of fun _ => True) (.agg (qM x)) v := by
 obtain ⟨x, h1, h2, h3⟩ := qEb rd_37 und37 hval hd
 exact ⟨x, h1, h2, h3⟩
theorem open_29 (hval : Value.okWide Try.prog w r b0 29 v) (hd : DataW.Trod enc Try.prog w 0 (fun _ => true) true 29 v d ps) : ∃ x : List Node, (x.length ≤ maxLen ∧ ∀ y ∈ x, qDj y) ∧ D_sl qCX H d x ∧ qP w (Mem.of fun _ => True) (.one (tl qX default x)) v := by
 obtain ⟨x, h1, h2, h3⟩ := qFe rd_29 und29 hval hd
 exact ⟨x, h1, h2, h3⟩
theorem und3 : Try.prog.underlying 3 = some (.int .i64) := by kernel_rfl
theorem open_3 (hval : Value.okWide Try.prog w r b0 3 v) (hd : DataW.Trod enc Try.prog w 0 (fun _ => true) true 3 v d ps) : ∃ n, jN n ∧ d = .lit (.int .i64 n) ∧ qP w (Mem.of fun _ => True) (.one (.val (.int .i64 n))) v := by
 obtain ⟨x, h1, h2, h3⟩ := qGZ und3 hval hd
 exact ⟨x, h1, h2, h3⟩
end
theorem qJX {W : World} : HC globs W (fun _ => True) := fun g c h => by cases h
noncomputable def qAw (os : Os) : World := World.holding Try.prog os ⟨#[], #[], []⟩
theorem laidOut : laidOutB Try.prog = true := by kernel_rfl
theorem own : ownKnob Try.prog.godebug = none := by kernel_rfl
end Saw
end Go.SL
