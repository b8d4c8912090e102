/- The readings of the laws' parameters. -/
import Derived.Test.YtjobdnkaonbgnaaEBase
import Derived.Test.YtjobdnkaonbgnaaYa6
import Derived.Test.YtjobdnkaonbgnaaRows
import Derived.Lib.LaidTab
set_option linter.unusedVariables false
set_option linter.unusedSimpArgs false
namespace Go.SL
namespace Saw
open Go.Proofs Go.RowKit Go.ChangeShapes Go.WideShapes
set_option maxRecDepth 100000
theorem rd_3 : wE Try.prog 3 qL jN yH := qIo (by kernel_rfl) (by kernel_rfl)
def FL (r : Span) : Prop := jN r.A ∧ jN r.B ∧ True
def qIr : (Int × (Int × Unit)) → Span := (fun r : Int × (Int × Unit) => Span.mk r.1 r.2.1)
def FM : ∀ H : Type, DataW H → Span → Prop := UE qIr (TW (qV yH (qV yH JY)))
theorem und26 : Try.prog.underlying 26 = some (.struct #[(Field.mk "A" 3 0 false "" "" 0), (Field.mk "B" 3 1 false "" "" 8)]) := by kernel_rfl
theorem qAZ : wE Try.prog 26 e_Span FL FM :=
 jO (wI (fs := #[(Field.mk "A" 3 0 false "" "" 0), (Field.mk "B" 3 1 false "" "" 8)]) und26 (qW (off := 0) rd_3 (qW (off := 1) rd_3 (PA 2) rfl (by kernel_rfl)) rfl (by kernel_rfl)) (by kernel_rfl)) qIr (fun _ => rfl) (fun _ => show 2 = _ by kernel_rfl) (fun _ h => h)
theorem rd_64 : wE Try.prog 64 (fun l : List Span => [tl e_Span default l]) (fun l : List Span => l.length ≤ maxLen ∧ ∀ x ∈ l, FL x) (D_sl FM) :=
 PL (e := 26) (by kernel_rfl) (by kernel_rfl) (show 0 < _ from Nat.lt_of_lt_of_eq (show 0 < 2 by decide) (by kernel_rfl)) qAZ
def qEI (r : qI) : Prop := jN r.Low ∧ (fun l : List Span => l.length ≤ maxLen ∧ ∀ x ∈ l, FL x) r.Rows ∧ True
def qER : (Int × ((List Span) × Unit)) → qI := (fun r : Int × ((List Span) × Unit) => qI.mk r.1 r.2.1)
def qEW : ∀ H : Type, DataW H → qI → Prop := UE qER (TW (qV yH (qV (D_sl FM) JY)))
theorem und66 : Try.prog.underlying 66 = some (.struct #[(Field.mk "Low" 3 0 false "" "" 0), (Field.mk "Rows" 64 1 false "" "" 8)]) := by kernel_rfl
theorem rd_66 : wE Try.prog 66 zW qEI qEW :=
 jO (wI (fs := #[(Field.mk "Low" 3 0 false "" "" 0), (Field.mk "Rows" 64 1 false "" "" 8)]) und66 (qW (off := 0) rd_3 (qW (off := 1) rd_64 (PA 2) rfl (by kernel_rfl)) rfl (by kernel_rfl)) (by kernel_rfl)) qER (fun _ => rfl) (fun _ => show 2 = _ by kernel_rfl) (fun _ h => h)
def qDS (r : qF) : Prop := jN r.Len ∧ qEI r.Sec ∧ True
def qHH : (Int × (qI × Unit)) → qF := (fun r : Int × (qI × Unit) => qF.mk r.1 r.2.1)
def qD0 : ∀ H : Type, DataW H → qF → Prop := UE qHH (TW (qV yH (qV qEW JY)))
theorem und68 : Try.prog.underlying 68 = some (.struct #[(Field.mk "Len" 3 0 false "" "" 0), (Field.mk "Sec" 66 1 false "" "" 8)]) := by kernel_rfl
theorem rd_68 : wE Try.prog 68 qH qDS qD0 :=
 jO (wI (fs := #[(Field.mk "Len" 3 0 false "" "" 0), (Field.mk "Sec" 66 1 false "" "" 8)]) und68 (qW (off := 0) rd_3 (qW (off := 1) rd_66 (PA 3) rfl (by kernel_rfl)) rfl (by kernel_rfl)) (by kernel_rfl)) qHH (fun _ => rfl) (fun _ => show 3 = _ by kernel_rfl) (fun _ h => h)
theorem rd_22 : wE Try.prog 22 (fun l : List qF => [tl qH default l]) (fun l : List qF => l.length ≤ maxLen ∧ ∀ x ∈ l, qDS x) (D_sl qD0) :=
 PL (e := 68) (by kernel_rfl) (by kernel_rfl) (show 0 < _ from Nat.lt_of_lt_of_eq (show 0 < 3 by decide) (by kernel_rfl)) rd_68
def wfBox (r : Box) : Prop := FL r.X ∧ FL r.Y ∧ FL r.Z ∧ True
def g_Box : (Span × (Span × (Span × Unit))) → Box := (fun r : Span × (Span × (Span × Unit)) => Box.mk r.1 r.2.1 r.2.2.1)
def D_Box : ∀ H : Type, DataW H → Box → Prop := UE g_Box (TW (qV FM (qV FM (qV FM JY))))
theorem und52 : Try.prog.underlying 52 = some (.struct #[(Field.mk "X" 26 0 false "" "" 0), (Field.mk "Y" 26 2 false "" "" 16), (Field.mk "Z" 26 4 false "" "" 32)]) := by kernel_rfl
theorem rd_52 : wE Try.prog 52 yA wfBox D_Box :=
 jO (wI (fs := #[(Field.mk "X" 26 0 false "" "" 0), (Field.mk "Y" 26 2 false "" "" 16), (Field.mk "Z" 26 4 false "" "" 32)]) und52 (qW (off := 0) qAZ (qW (off := 2) qAZ (qW (off := 4) qAZ (PA 6) rfl (by kernel_rfl)) rfl (by kernel_rfl)) rfl (by kernel_rfl)) (by kernel_rfl)) g_Box (fun _ => rfl) (fun _ => show 6 = _ by kernel_rfl) (fun _ h => h)
def qBD (r : Defect) : Prop := jN r.Kind ∧ wfBox r.Box ∧ True
def qFJ : (Int × (Box × Unit)) → Defect := (fun r : Int × (Box × Unit) => Defect.mk r.1 r.2.1)
def qB0 : ∀ H : Type, DataW H → Defect → Prop := UE qFJ (TW (qV yH (qV D_Box JY)))
theorem und139 : Try.prog.underlying 139 = some (.struct #[(Field.mk "Kind" 3 0 false "" "" 0), (Field.mk "Box" 52 1 false "" "" 8)]) := by kernel_rfl
theorem rd_139 : wE Try.prog 139 qG qBD qB0 :=
 jO (wI (fs := #[(Field.mk "Kind" 3 0 false "" "" 0), (Field.mk "Box" 52 1 false "" "" 8)]) und139 (qW (off := 0) rd_3 (qW (off := 1) rd_52 (PA 7) rfl (by kernel_rfl)) rfl (by kernel_rfl)) (by kernel_rfl)) qFJ (fun _ => rfl) (fun _ => show 7 = _ by kernel_rfl) (fun _ h => h)
theorem rd_23 : wE Try.prog 23 (fun l : List Defect => [tl qG default l]) (fun l : List Defect => l.length ≤ maxLen ∧ ∀ x ∈ l, qBD x) (D_sl qB0) :=
 PL (e := 139) (by kernel_rfl) (by kernel_rfl) (show 0 < _ from Nat.lt_of_lt_of_eq (show 0 < 7 by decide) (by kernel_rfl)) rd_139
theorem rd_9 : wE Try.prog 9 e_str strok qCg := qGe (by kernel_rfl) (by kernel_rfl)
theorem rd_69 : wE Try.prog 69 (fun l : List Int => [tl qL default l]) (fun l : List Int => l.length ≤ maxLen ∧ ∀ x ∈ l, jN x) (D_sl yH) :=
 PL (e := 3) (by kernel_rfl) (by kernel_rfl) (show 0 < _ from Nat.lt_of_lt_of_eq (show 0 < 1 by decide) (by kernel_rfl)) rd_3
def qAh (r : Product) : Prop := strok r.Name ∧ jN r.Thick ∧ jN r.Width ∧ jN r.Allow ∧ jN r.Wane ∧ (fun l : List Int => l.length ≤ maxLen ∧ ∀ x ∈ l, jN x) r.Lengths ∧ (fun l : List Int => l.length ≤ maxLen ∧ ∀ x ∈ l, jN x) r.Prices ∧ True
def qEu : (ByteArray × (Int × (Int × (Int × (Int × ((List Int) × ((List Int) × Unit))))))) → Product := (fun r : ByteArray × (Int × (Int × (Int × (Int × ((List Int) × ((List Int) × Unit)))))) => Product.mk r.1 r.2.1 r.2.2.1 r.2.2.2.1 r.2.2.2.2.1 r.2.2.2.2.2.1 r.2.2.2.2.2.2.1)
def qAt : ∀ H : Type, DataW H → Product → Prop := UE qEu (TW (qV qCg (qV yH (qV yH (qV yH (qV yH (qV (D_sl yH) (qV (D_sl yH) JY))))))))
theorem und71 : Try.prog.underlying 71 = some (.struct #[(Field.mk "Name" 9 0 false "" "" 0), (Field.mk "Thick" 3 1 false "" "" 16), (Field.mk "Width" 3 2 false "" "" 24), (Field.mk "Allow" 3 3 false "" "" 32), (Field.mk "Wane" 3 4 false "" "" 40), (Field.mk "Lengths" 69 5 false "" "" 48), (Field.mk "Prices" 69 6 false "" "" 72)]) := by kernel_rfl
theorem rd_71 : wE Try.prog 71 qE qAh qAt :=
 jO (wI (fs := #[(Field.mk "Name" 9 0 false "" "" 0), (Field.mk "Thick" 3 1 false "" "" 16), (Field.mk "Width" 3 2 false "" "" 24), (Field.mk "Allow" 3 3 false "" "" 32), (Field.mk "Wane" 3 4 false "" "" 40), (Field.mk "Lengths" 69 5 false "" "" 48), (Field.mk "Prices" 69 6 false "" "" 72)]) und71 (qW (off := 0) rd_9 (qW (off := 1) rd_3 (qW (off := 2) rd_3 (qW (off := 3) rd_3 (qW (off := 4) rd_3 (qW (off := 5) rd_69 (qW (off := 6) rd_69 (PA 7) rfl (by kernel_rfl)) rfl (by kernel_rfl)) rfl (by kernel_rfl)) rfl (by kernel_rfl)) rfl (by kernel_rfl)) rfl (by kernel_rfl)) rfl (by kernel_rfl)) (by kernel_rfl)) qEu (fun _ => rfl) (fun _ => show 7 = _ by kernel_rfl) (fun _ h => h)
theorem rd_24 : wE Try.prog 24 (fun l : List Product => [tl qE default l]) (fun l : List Product => l.length ≤ maxLen ∧ ∀ x ∈ l, qAh x) (D_sl qAt) :=
 PL (e := 71) (by kernel_rfl) (by kernel_rfl) (show 0 < _ from Nat.lt_of_lt_of_eq (show 0 < 7 by decide) (by kernel_rfl)) rd_71
def qIl (r : Rect) : Prop := FL r.X ∧ FL r.Y ∧ True
def qI9 : (Span × (Span × Unit)) → Rect := (fun r : Span × (Span × Unit) => Rect.mk r.1 r.2.1)
def qIP : ∀ H : Type, DataW H → Rect → Prop := UE qI9 (TW (qV FM (qV FM JY)))
theorem und28 : Try.prog.underlying 28 = some (.struct #[(Field.mk "X" 26 0 false "" "" 0), (Field.mk "Y" 26 2 false "" "" 16)]) := by kernel_rfl
theorem rd_28 : wE Try.prog 28 qK qIl qIP :=
 jO (wI (fs := #[(Field.mk "X" 26 0 false "" "" 0), (Field.mk "Y" 26 2 false "" "" 16)]) und28 (qW (off := 0) qAZ (qW (off := 2) qAZ (PA 4) rfl (by kernel_rfl)) rfl (by kernel_rfl)) (by kernel_rfl)) qI9 (fun _ => rfl) (fun _ => show 4 = _ by kernel_rfl) (fun _ h => h)
def qGF (r : Node) : Prop := jN r.Kind ∧ jN r.At ∧ True
def qID : (Int × (Int × Unit)) → Node := (fun r : Int × (Int × Unit) => Node.mk r.1 r.2.1)
def qGN : ∀ H : Type, DataW H → Node → Prop := UE qID (TW (qV yH (qV yH JY)))
theorem und59 : Try.prog.underlying 59 = some (.struct #[(Field.mk "Kind" 3 0 false "" "" 0), (Field.mk "At" 3 1 false "" "" 8)]) := by kernel_rfl
theorem rd_59 : wE Try.prog 59 zU qGF qGN :=
 jO (wI (fs := #[(Field.mk "Kind" 3 0 false "" "" 0), (Field.mk "At" 3 1 false "" "" 8)]) und59 (qW (off := 0) rd_3 (qW (off := 1) rd_3 (PA 2) rfl (by kernel_rfl)) rfl (by kernel_rfl)) (by kernel_rfl)) qID (fun _ => rfl) (fun _ => show 2 = _ by kernel_rfl) (fun _ h => h)
theorem rd_29 : wE Try.prog 29 (fun l : List Node => [tl zU default l]) (fun l : List Node => l.length ≤ maxLen ∧ ∀ x ∈ l, qGF x) (D_sl qGN) :=
 PL (e := 59) (by kernel_rfl) (by kernel_rfl) (show 0 < _ from Nat.lt_of_lt_of_eq (show 0 < 2 by decide) (by kernel_rfl)) rd_59
def qES (r : Pattern) : Prop := qIl r.Frame ∧ (fun l : List Node => l.length ≤ maxLen ∧ ∀ x ∈ l, qGF x) r.Nodes ∧ True
def qEU : (Rect × ((List Node) × Unit)) → Pattern := (fun r : Rect × ((List Node) × Unit) => Pattern.mk r.1 r.2.1)
def qEy : ∀ H : Type, DataW H → Pattern → Prop := UE qEU (TW (qV qIP (qV (D_sl qGN) JY)))
theorem und31 : Try.prog.underlying 31 = some (.struct #[(Field.mk "Frame" 28 0 false "" "" 0), (Field.mk "Nodes" 29 4 false "" "" 32)]) := by kernel_rfl
theorem rd_31 : wE Try.prog 31 qD qES qEy :=
 jO (wI (fs := #[(Field.mk "Frame" 28 0 false "" "" 0), (Field.mk "Nodes" 29 4 false "" "" 32)]) und31 (qW (off := 0) rd_28 (qW (off := 4) rd_29 (PA 5) rfl (by kernel_rfl)) rfl (by kernel_rfl)) (by kernel_rfl)) qEU (fun _ => rfl) (fun _ => show 5 = _ by kernel_rfl) (fun _ h => h)
def wfSaw (r : Saw) : Prop := jN r.Kerf ∧ jN r.Trim ∧ jN r.Pitch ∧ jN r.Step ∧ True
def g_Saw : (Int × (Int × (Int × (Int × Unit)))) → Saw := (fun r : Int × (Int × (Int × (Int × Unit))) => Saw.mk r.1 r.2.1 r.2.2.1 r.2.2.2.1)
def D_Saw : ∀ H : Type, DataW H → Saw → Prop := UE g_Saw (TW (qV yH (qV yH (qV yH (qV yH JY)))))
theorem und33 : Try.prog.underlying 33 = some (.struct #[(Field.mk "Kerf" 3 0 false "" "" 0), (Field.mk "Trim" 3 1 false "" "" 8), (Field.mk "Pitch" 3 2 false "" "" 16), (Field.mk "Step" 3 3 false "" "" 24)]) := by kernel_rfl
theorem rd_33 : wE Try.prog 33 jA wfSaw D_Saw :=
 jO (wI (fs := #[(Field.mk "Kerf" 3 0 false "" "" 0), (Field.mk "Trim" 3 1 false "" "" 8), (Field.mk "Pitch" 3 2 false "" "" 16), (Field.mk "Step" 3 3 false "" "" 24)]) und33 (qW (off := 0) rd_3 (qW (off := 1) rd_3 (qW (off := 2) rd_3 (qW (off := 3) rd_3 (PA 4) rfl (by kernel_rfl)) rfl (by kernel_rfl)) rfl (by kernel_rfl)) rfl (by kernel_rfl)) (by kernel_rfl)) g_Saw (fun _ => rfl) (fun _ => show 4 = _ by kernel_rfl) (fun _ h => h)
def qHe (r : Rates) : Prop := jN r.Chip ∧ jN r.Dust ∧ jN r.Fine ∧ True
def qHh : (Int × (Int × (Int × Unit))) → Rates := (fun r : Int × (Int × (Int × Unit)) => Rates.mk r.1 r.2.1 r.2.2.1)
def qHn : ∀ H : Type, DataW H → Rates → Prop := UE qHh (TW (qV yH (qV yH (qV yH JY))))
theorem und35 : Try.prog.underlying 35 = some (.struct #[(Field.mk "Chip" 3 0 false "" "" 0), (Field.mk "Dust" 3 1 false "" "" 8), (Field.mk "Fine" 3 2 false "" "" 16)]) := by kernel_rfl
theorem rd_35 : wE Try.prog 35 ZZ qHe qHn :=
 jO (wI (fs := #[(Field.mk "Chip" 3 0 false "" "" 0), (Field.mk "Dust" 3 1 false "" "" 8), (Field.mk "Fine" 3 2 false "" "" 16)]) und35 (qW (off := 0) rd_3 (qW (off := 1) rd_3 (qW (off := 2) rd_3 (PA 3) rfl (by kernel_rfl)) rfl (by kernel_rfl)) rfl (by kernel_rfl)) (by kernel_rfl)) qHh (fun _ => rfl) (fun _ => show 3 = _ by kernel_rfl) (fun _ h => h)
def OY (r : Law22_Given) : Prop := (fun l : List qF => l.length ≤ maxLen ∧ ∀ x ∈ l, qDS x) r.Solid ∧ (fun l : List Defect => l.length ≤ maxLen ∧ ∀ x ∈ l, qBD x) r.Defects ∧ (fun l : List Product => l.length ≤ maxLen ∧ ∀ x ∈ l, qAh x) r.Products ∧ qES r.Pattern ∧ wfSaw r.Saw ∧ qHe r.Rates ∧ True
def OX : ((List qF) × ((List Defect) × ((List Product) × (Pattern × (Saw × (Rates × Unit)))))) → Law22_Given := (fun r : (List qF) × ((List Defect) × ((List Product) × (Pattern × (Saw × (Rates × Unit))))) => Law22_Given.mk r.1 r.2.1 r.2.2.1 r.2.2.2.1 r.2.2.2.2.1 r.2.2.2.2.2.1)
def OW : ∀ H : Type, DataW H → Law22_Given → Prop := UE OX (TW (qV (D_sl qD0) (qV (D_sl qB0) (qV (D_sl qAt) (qV qEy (qV D_Saw (qV qHn JY)))))))
theorem und37 : Try.prog.underlying 37 = some (.struct #[(Field.mk "Solid" 22 0 false "" "" 0), (Field.mk "Defects" 23 1 false "" "" 24), (Field.mk "Products" 24 2 false "" "" 48), (Field.mk "Pattern" 31 3 false "" "" 72), (Field.mk "Saw" 33 8 false "" "" 128), (Field.mk "Rates" 35 12 false "" "" 160)]) := by kernel_rfl
theorem rd_37 : wE Try.prog 37 qR OY OW :=
 jO (wI (fs := #[(Field.mk "Solid" 22 0 false "" "" 0), (Field.mk "Defects" 23 1 false "" "" 24), (Field.mk "Products" 24 2 false "" "" 48), (Field.mk "Pattern" 31 3 false "" "" 72), (Field.mk "Saw" 33 8 false "" "" 128), (Field.mk "Rates" 35 12 false "" "" 160)]) und37 (qW (off := 0) rd_22 (qW (off := 1) rd_23 (qW (off := 2) rd_24 (qW (off := 3) rd_31 (qW (off := 8) rd_33 (qW (off := 12) rd_35 (PA 15) rfl (by kernel_rfl)) rfl (by kernel_rfl)) rfl (by kernel_rfl)) rfl (by kernel_rfl)) rfl (by kernel_rfl)) rfl (by kernel_rfl)) (by kernel_rfl)) OX (fun _ => rfl) (fun _ => show 15 = _ by kernel_rfl) (fun _ h => h)
section
variable {H : Type} {enc : TypeId × Value → H} {w : World} {r : Reach} {b0 : Nat} {v : Value} {d : DataW H} {ps : List MemPlace}
theorem open_37 (hval : Value.okWide Try.prog w r b0 37 v) (hd : DataW.Trod enc Try.prog w 0 (fun _ => true) true 37 v d ps) : ∃ x, OY x ∧ OW H d x ∧ qO w (Mem.of fun _ => True) (.agg (qR x)) v := by
 obtain ⟨x, h1, h2, h3⟩ := qDU rd_37 und37 hval hd
 exact ⟨x, h1, h2, h3⟩
theorem und3 : Try.prog.underlying 3 = some (.int .i64) := by kernel_rfl
theorem qIW (hval : Value.okWide Try.prog w r b0 3 v) (hd : DataW.Trod enc Try.prog w 0 (fun _ => true) true 3 v d ps) : ∃ n, jN n ∧ d = .lit (.int .i64 n) ∧ qO w (Mem.of fun _ => True) (.one (.val (.int .i64 n))) v := by
 obtain ⟨x, h1, h2, h3⟩ := qG2 und3 hval hd
 exact ⟨x, h1, h2, h3⟩
end
theorem qJZ {W : World} : MV globs W (fun _ => True) := fun g c h => by cases h
noncomputable def qAQ (os : Os) : World := World.holding Try.prog os ⟨#[], #[], []⟩
theorem laidOut : laidOutB Try.prog = true := by kernel_rfl
theorem own : ownKnob Try.prog.godebug = none := by kernel_rfl
end Saw
end Go.SL
