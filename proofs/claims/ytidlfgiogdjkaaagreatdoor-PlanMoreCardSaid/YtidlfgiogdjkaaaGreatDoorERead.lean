/- The readings of the laws' parameters. -/
import Derived.Test.YtidlfgiogdjkaaaGreatDoorEBase
import Derived.Test.YtidlfgiogdjkaaaGreatDoorYa6
import Derived.Test.YtidlfgiogdjkaaaGreatDoorRows
import Derived.Lib.LaidTab
import Derived.Test.YtidlfgiogdjkaaaGreatDoorCards
import Derived.Test.YtidlfgiogdjkaaaGreatDoorTie
set_option linter.unusedVariables false
set_option linter.unusedSimpArgs false
namespace Go.SL
namespace Saw
open Go.Proofs Go.RowKit Go.ChangeShapes Go.WideShapes
set_option maxRecDepth 100000
theorem rd_3 : jE Tryz.prog 3 e_i64 QS QD := qPH (by kernel_rfl) (by kernel_rfl)
def IM (r : Span) : Prop := QS r.A ∧ QS r.B ∧ True
def qPE : (Int × (Int × Unit)) → Span := (fun r : Int × (Int × Unit) => Span.mk r.1 r.2.1)
def II : ∀ H : Type, DataW H → Span → Prop := NX qPE (NW (zC QD (zC QD PV)))
theorem und31 : Tryz.prog.underlying 31 = some (.struct #[(Field.mk "A" 3 0 false "" "" 0), (Field.mk "B" 3 1 false "" "" 8)]) := by kernel_rfl
theorem qFi : jE Tryz.prog 31 e_Span IM II :=
 QV (jK (fs := #[(Field.mk "A" 3 0 false "" "" 0), (Field.mk "B" 3 1 false "" "" 8)]) und31 (zG (off := 0) rd_3 (zG (off := 1) rd_3 (GJ 2) rfl (by kernel_rfl)) rfl (by kernel_rfl)) (by kernel_rfl)) qPE (fun _ => rfl) (fun _ => show 2 = _ by kernel_rfl) (fun _ h => h)
theorem rd_68 : jE Tryz.prog 68 (fun l : List Span => [tl e_Span default l]) (fun l : List Span => l.length ≤ maxLen ∧ ∀ x ∈ l, IM x) (D_sl II) :=
 NS (e := 31) (by kernel_rfl) (by kernel_rfl) (show 0 < _ from Nat.lt_of_lt_of_eq (show 0 < 2 by decide) (by kernel_rfl)) qFi
def qJN (r : qJ) : Prop := QS r.Low ∧ (fun l : List Span => l.length ≤ maxLen ∧ ∀ x ∈ l, IM x) r.Rows ∧ True
def qJR : (Int × ((List Span) × Unit)) → qJ := (fun r : Int × ((List Span) × Unit) => qJ.mk r.1 r.2.1)
def qJ5 : ∀ H : Type, DataW H → qJ → Prop := NX qJR (NW (zC QD (zC (D_sl II) PV)))
theorem und70 : Tryz.prog.underlying 70 = some (.struct #[(Field.mk "Low" 3 0 false "" "" 0), (Field.mk "Rows" 68 1 false "" "" 8)]) := by kernel_rfl
theorem rd_70 : jE Tryz.prog 70 zP qJN qJ5 :=
 QV (jK (fs := #[(Field.mk "Low" 3 0 false "" "" 0), (Field.mk "Rows" 68 1 false "" "" 8)]) und70 (zG (off := 0) rd_3 (zG (off := 1) rd_68 (GJ 2) rfl (by kernel_rfl)) rfl (by kernel_rfl)) (by kernel_rfl)) qJR (fun _ => rfl) (fun _ => show 2 = _ by kernel_rfl) (fun _ h => h)
def qJn (r : qA) : Prop := QS r.Len ∧ qJN r.Sec ∧ True
def qNR : (Int × (qJ × Unit)) → qA := (fun r : Int × (qJ × Unit) => qA.mk r.1 r.2.1)
def qIy : ∀ H : Type, DataW H → qA → Prop := NX qNR (NW (zC QD (zC qJ5 PV)))
theorem und72 : Tryz.prog.underlying 72 = some (.struct #[(Field.mk "Len" 3 0 false "" "" 0), (Field.mk "Sec" 70 1 false "" "" 8)]) := by kernel_rfl
theorem rd_72 : jE Tryz.prog 72 qG qJn qIy :=
 QV (jK (fs := #[(Field.mk "Len" 3 0 false "" "" 0), (Field.mk "Sec" 70 1 false "" "" 8)]) und72 (zG (off := 0) rd_3 (zG (off := 1) rd_70 (GJ 3) rfl (by kernel_rfl)) rfl (by kernel_rfl)) (by kernel_rfl)) qNR (fun _ => rfl) (fun _ => show 3 = _ by kernel_rfl) (fun _ h => h)
theorem rd_23 : jE Tryz.prog 23 (fun l : List qA => [tl qG default l]) (fun l : List qA => l.length ≤ maxLen ∧ ∀ x ∈ l, qJn x) (D_sl qIy) :=
 NS (e := 72) (by kernel_rfl) (by kernel_rfl) (show 0 < _ from Nat.lt_of_lt_of_eq (show 0 < 3 by decide) (by kernel_rfl)) rd_72
def wfBox (r : Box) : Prop := IM r.X ∧ IM r.Y ∧ IM r.Z ∧ True
def g_Box : (Span × (Span × (Span × Unit))) → Box := (fun r : Span × (Span × (Span × Unit)) => Box.mk r.1 r.2.1 r.2.2.1)
def D_Box : ∀ H : Type, DataW H → Box → Prop := NX g_Box (NW (zC II (zC II (zC II PV))))
theorem und128 : Tryz.prog.underlying 128 = some (.struct #[(Field.mk "X" 31 0 false "" "" 0), (Field.mk "Y" 31 2 false "" "" 16), (Field.mk "Z" 31 4 false "" "" 32)]) := by kernel_rfl
theorem rd_128 : jE Tryz.prog 128 QG wfBox D_Box :=
 QV (jK (fs := #[(Field.mk "X" 31 0 false "" "" 0), (Field.mk "Y" 31 2 false "" "" 16), (Field.mk "Z" 31 4 false "" "" 32)]) und128 (zG (off := 0) qFi (zG (off := 2) qFi (zG (off := 4) qFi (GJ 6) rfl (by kernel_rfl)) rfl (by kernel_rfl)) rfl (by kernel_rfl)) (by kernel_rfl)) g_Box (fun _ => rfl) (fun _ => show 6 = _ by kernel_rfl) (fun _ h => h)
def qGj (r : Defect) : Prop := QS r.Kind ∧ wfBox r.Box ∧ True
def qK2 : (Int × (Box × Unit)) → Defect := (fun r : Int × (Box × Unit) => Defect.mk r.1 r.2.1)
def qGa : ∀ H : Type, DataW H → Defect → Prop := NX qK2 (NW (zC QD (zC D_Box PV)))
theorem und212 : Tryz.prog.underlying 212 = some (.struct #[(Field.mk "Kind" 3 0 false "" "" 0), (Field.mk "Box" 128 1 false "" "" 8)]) := by kernel_rfl
theorem rd_212 : jE Tryz.prog 212 qF qGj qGa :=
 QV (jK (fs := #[(Field.mk "Kind" 3 0 false "" "" 0), (Field.mk "Box" 128 1 false "" "" 8)]) und212 (zG (off := 0) rd_3 (zG (off := 1) rd_128 (GJ 7) rfl (by kernel_rfl)) rfl (by kernel_rfl)) (by kernel_rfl)) qK2 (fun _ => rfl) (fun _ => show 7 = _ by kernel_rfl) (fun _ h => h)
theorem rd_36 : jE Tryz.prog 36 (fun l : List Defect => [tl qF default l]) (fun l : List Defect => l.length ≤ maxLen ∧ ∀ x ∈ l, qGj x) (D_sl qGa) :=
 NS (e := 212) (by kernel_rfl) (by kernel_rfl) (show 0 < _ from Nat.lt_of_lt_of_eq (show 0 < 7 by decide) (by kernel_rfl)) rd_212
theorem rd_9 : jE Tryz.prog 9 e_str strok qGx := qLM (by kernel_rfl) (by kernel_rfl)
theorem rd_28 : jE Tryz.prog 28 (fun l : List Int => [tl e_i64 default l]) (fun l : List Int => l.length ≤ maxLen ∧ ∀ x ∈ l, QS x) (D_sl QD) :=
 NS (e := 3) (by kernel_rfl) (by kernel_rfl) (show 0 < _ from Nat.lt_of_lt_of_eq (show 0 < 1 by decide) (by kernel_rfl)) rd_3
def qB5 (r : Product) : Prop := strok r.Name ∧ QS r.Thick ∧ QS r.Width ∧ QS r.Allow ∧ QS r.Wane ∧ (fun l : List Int => l.length ≤ maxLen ∧ ∀ x ∈ l, QS x) r.Lengths ∧ (fun l : List Int => l.length ≤ maxLen ∧ ∀ x ∈ l, QS x) r.Prices ∧ True
def qJM : (ByteArray × (Int × (Int × (Int × (Int × ((List Int) × ((List Int) × Unit))))))) → Product := (fun r : ByteArray × (Int × (Int × (Int × (Int × ((List Int) × ((List Int) × Unit)))))) => Product.mk r.1 r.2.1 r.2.2.1 r.2.2.2.1 r.2.2.2.2.1 r.2.2.2.2.2.1 r.2.2.2.2.2.2.1)
def qBG : ∀ H : Type, DataW H → Product → Prop := NX qJM (NW (zC qGx (zC QD (zC QD (zC QD (zC QD (zC (D_sl QD) (zC (D_sl QD) PV))))))))
theorem und54 : Tryz.prog.underlying 54 = some (.struct #[(Field.mk "Name" 9 0 false "" "" 0), (Field.mk "Thick" 3 1 false "" "" 16), (Field.mk "Width" 3 2 false "" "" 24), (Field.mk "Allow" 3 3 false "" "" 32), (Field.mk "Wane" 3 4 false "" "" 40), (Field.mk "Lengths" 28 5 false "" "" 48), (Field.mk "Prices" 28 6 false "" "" 72)]) := by kernel_rfl
theorem rd_54 : jE Tryz.prog 54 qC qB5 qBG :=
 QV (jK (fs := #[(Field.mk "Name" 9 0 false "" "" 0), (Field.mk "Thick" 3 1 false "" "" 16), (Field.mk "Width" 3 2 false "" "" 24), (Field.mk "Allow" 3 3 false "" "" 32), (Field.mk "Wane" 3 4 false "" "" 40), (Field.mk "Lengths" 28 5 false "" "" 48), (Field.mk "Prices" 28 6 false "" "" 72)]) und54 (zG (off := 0) rd_9 (zG (off := 1) rd_3 (zG (off := 2) rd_3 (zG (off := 3) rd_3 (zG (off := 4) rd_3 (zG (off := 5) rd_28 (zG (off := 6) rd_28 (GJ 7) rfl (by kernel_rfl)) rfl (by kernel_rfl)) rfl (by kernel_rfl)) rfl (by kernel_rfl)) rfl (by kernel_rfl)) rfl (by kernel_rfl)) rfl (by kernel_rfl)) (by kernel_rfl)) qJM (fun _ => rfl) (fun _ => show 7 = _ by kernel_rfl) (fun _ h => h)
theorem rd_22 : jE Tryz.prog 22 (fun l : List Product => [tl qC default l]) (fun l : List Product => l.length ≤ maxLen ∧ ∀ x ∈ l, qB5 x) (D_sl qBG) :=
 NS (e := 54) (by kernel_rfl) (by kernel_rfl) (show 0 < _ from Nat.lt_of_lt_of_eq (show 0 < 7 by decide) (by kernel_rfl)) rd_54
def qPJ (r : Rect) : Prop := IM r.X ∧ IM r.Y ∧ True
def qP1 : (Span × (Span × Unit)) → Rect := (fun r : Span × (Span × Unit) => Rect.mk r.1 r.2.1)
def qPp : ∀ H : Type, DataW H → Rect → Prop := NX qP1 (NW (zC II (zC II PV)))
theorem und33 : Tryz.prog.underlying 33 = some (.struct #[(Field.mk "X" 31 0 false "" "" 0), (Field.mk "Y" 31 2 false "" "" 16)]) := by kernel_rfl
theorem rd_33 : jE Tryz.prog 33 qH qPJ qPp :=
 QV (jK (fs := #[(Field.mk "X" 31 0 false "" "" 0), (Field.mk "Y" 31 2 false "" "" 16)]) und33 (zG (off := 0) qFi (zG (off := 2) qFi (GJ 4) rfl (by kernel_rfl)) rfl (by kernel_rfl)) (by kernel_rfl)) qP1 (fun _ => rfl) (fun _ => show 4 = _ by kernel_rfl) (fun _ h => h)
def wfSaw (r : Saw) : Prop := QS r.Kerf ∧ QS r.Trim ∧ QS r.Pitch ∧ QS r.Step ∧ True
def g_Saw : (Int × (Int × (Int × (Int × Unit)))) → Saw := (fun r : Int × (Int × (Int × (Int × Unit))) => Saw.mk r.1 r.2.1 r.2.2.1 r.2.2.2.1)
def D_Saw : ∀ H : Type, DataW H → Saw → Prop := NX g_Saw (NW (zC QD (zC QD (zC QD (zC QD PV)))))
theorem und38 : Tryz.prog.underlying 38 = some (.struct #[(Field.mk "Kerf" 3 0 false "" "" 0), (Field.mk "Trim" 3 1 false "" "" 8), (Field.mk "Pitch" 3 2 false "" "" 16), (Field.mk "Step" 3 3 false "" "" 24)]) := by kernel_rfl
theorem rd_38 : jE Tryz.prog 38 qT wfSaw D_Saw :=
 QV (jK (fs := #[(Field.mk "Kerf" 3 0 false "" "" 0), (Field.mk "Trim" 3 1 false "" "" 8), (Field.mk "Pitch" 3 2 false "" "" 16), (Field.mk "Step" 3 3 false "" "" 24)]) und38 (zG (off := 0) rd_3 (zG (off := 1) rd_3 (zG (off := 2) rd_3 (zG (off := 3) rd_3 (GJ 4) rfl (by kernel_rfl)) rfl (by kernel_rfl)) rfl (by kernel_rfl)) rfl (by kernel_rfl)) (by kernel_rfl)) g_Saw (fun _ => rfl) (fun _ => show 4 = _ by kernel_rfl) (fun _ h => h)
def qNE (r : Rates) : Prop := QS r.Chip ∧ QS r.Dust ∧ QS r.Fine ∧ True
def qNx : (Int × (Int × (Int × Unit))) → Rates := (fun r : Int × (Int × (Int × Unit)) => Rates.mk r.1 r.2.1 r.2.2.1)
def qN7 : ∀ H : Type, DataW H → Rates → Prop := NX qNx (NW (zC QD (zC QD (zC QD PV))))
theorem und40 : Tryz.prog.underlying 40 = some (.struct #[(Field.mk "Chip" 3 0 false "" "" 0), (Field.mk "Dust" 3 1 false "" "" 8), (Field.mk "Fine" 3 2 false "" "" 16)]) := by kernel_rfl
theorem rd_40 : jE Tryz.prog 40 qQ qNE qN7 :=
 QV (jK (fs := #[(Field.mk "Chip" 3 0 false "" "" 0), (Field.mk "Dust" 3 1 false "" "" 8), (Field.mk "Fine" 3 2 false "" "" 16)]) und40 (zG (off := 0) rd_3 (zG (off := 1) rd_3 (zG (off := 2) rd_3 (GJ 3) rfl (by kernel_rfl)) rfl (by kernel_rfl)) rfl (by kernel_rfl)) (by kernel_rfl)) qNx (fun _ => rfl) (fun _ => show 3 = _ by kernel_rfl) (fun _ h => h)
def qDZ (r : Law24_Given) : Prop := (fun l : List qA => l.length ≤ maxLen ∧ ∀ x ∈ l, qJn x) r.Solid ∧ (fun l : List Defect => l.length ≤ maxLen ∧ ∀ x ∈ l, qGj x) r.Defects ∧ (fun l : List Product => l.length ≤ maxLen ∧ ∀ x ∈ l, qB5 x) r.Products ∧ qPJ r.Frame ∧ wfSaw r.Saw ∧ qNE r.Rates ∧ True
def qDS : ((List qA) × ((List Defect) × ((List Product) × (Rect × (Saw × (Rates × Unit)))))) → Law24_Given := (fun r : (List qA) × ((List Defect) × ((List Product) × (Rect × (Saw × (Rates × Unit))))) => Law24_Given.mk r.1 r.2.1 r.2.2.1 r.2.2.2.1 r.2.2.2.2.1 r.2.2.2.2.2.1)
def qD2 : ∀ H : Type, DataW H → Law24_Given → Prop := NX qDS (NW (zC (D_sl qIy) (zC (D_sl qGa) (zC (D_sl qBG) (zC qPp (zC D_Saw (zC qN7 PV)))))))
theorem und42 : Tryz.prog.underlying 42 = some (.struct #[(Field.mk "Solid" 23 0 false "" "" 0), (Field.mk "Defects" 36 1 false "" "" 24), (Field.mk "Products" 22 2 false "" "" 48), (Field.mk "Frame" 33 3 false "" "" 72), (Field.mk "Saw" 38 7 false "" "" 104), (Field.mk "Rates" 40 11 false "" "" 136)]) := by kernel_rfl
theorem rd_42 : jE Tryz.prog 42 zH qDZ qD2 :=
 QV (jK (fs := #[(Field.mk "Solid" 23 0 false "" "" 0), (Field.mk "Defects" 36 1 false "" "" 24), (Field.mk "Products" 22 2 false "" "" 48), (Field.mk "Frame" 33 3 false "" "" 72), (Field.mk "Saw" 38 7 false "" "" 104), (Field.mk "Rates" 40 11 false "" "" 136)]) und42 (zG (off := 0) rd_23 (zG (off := 1) rd_36 (zG (off := 2) rd_22 (zG (off := 3) rd_33 (zG (off := 7) rd_38 (zG (off := 11) rd_40 (GJ 14) rfl (by kernel_rfl)) rfl (by kernel_rfl)) rfl (by kernel_rfl)) rfl (by kernel_rfl)) rfl (by kernel_rfl)) rfl (by kernel_rfl)) (by kernel_rfl)) qDS (fun _ => rfl) (fun _ => show 14 = _ by kernel_rfl) (fun _ h => h)
def wfPiece (r : Piece) : Prop := QS r.Size ∧ QS r.At ∧ True
def qIU : (Int × (Int × Unit)) → Piece := (fun r : Int × (Int × Unit) => Piece.mk r.1 r.2.1)
def D_Piece : ∀ H : Type, DataW H → Piece → Prop := NX qIU (NW (zC QD (zC QD PV)))
theorem und92 : Tryz.prog.underlying 92 = some (.struct #[(Field.mk "Size" 3 0 false "" "" 0), (Field.mk "At" 3 1 false "" "" 8)]) := by kernel_rfl
theorem rd_92 : jE Tryz.prog 92 wO wfPiece D_Piece :=
 QV (jK (fs := #[(Field.mk "Size" 3 0 false "" "" 0), (Field.mk "At" 3 1 false "" "" 8)]) und92 (zG (off := 0) rd_3 (zG (off := 1) rd_3 (GJ 2) rfl (by kernel_rfl)) rfl (by kernel_rfl)) (by kernel_rfl)) qIU (fun _ => rfl) (fun _ => show 2 = _ by kernel_rfl) (fun _ h => h)
section
variable {H : Type} {enc : TypeId × Value → H} {w : World} {r : Reach} {b0 : Nat} {v : Value} {d : DataW H} {ps : List MemPlace}
theorem open_42 (hval : Value.okWide Tryz.prog w r b0 42 v) (hd : DataW.Trod enc Tryz.prog w 0 (fun _ => true) true 42 v d ps) : ∃ x, qDZ x ∧ qD2 H d x ∧ qP w (Mem.of fun _ => True) (.agg (zH x)) v := by
 obtain ⟨x, h1, h2, h3⟩ := qCD rd_42 und42 hval hd
 exact ⟨x, h1, h2, h3⟩
theorem open_54 (hval : Value.okWide Tryz.prog w r b0 54 v) (hd : DataW.Trod enc Tryz.prog w 0 (fun _ => true) true 54 v d ps) : ∃ x, qB5 x ∧ qBG H d x ∧ qP w (Mem.of fun _ => True) (.agg (qC x)) v := by
 obtain ⟨x, h1, h2, h3⟩ := qCD rd_54 und54 hval hd
 exact ⟨x, h1, h2, h3⟩
end
theorem qQH {W : World} (h : laidMetH Tryz.prog YtidlfgiogdjkaaaGreatDoor.Rows.planMoreRow.laid W) : qDi globs W (fun _ => True) := by
 have h' : laidMet Tryz.prog YtidlfgiogdjkaaaGreatDoor.Rows.planMoreRow.laid W := h
 obtain ⟨ps, hl, _⟩ := h'
 obtain ⟨cs, e, fz, fuel, p, hh, hd, q, hl⟩ := qPw hl (g := 0) (t := 92) (by kernel_rfl) (by kernel_rfl)
 obtain ⟨x, _, hx2, hx3⟩ := rd_92.rd _ _ _ _ _ _ _ hd
 have hx : x = qF9 := by
  obtain ⟨r, rfl, ds, he, d0, rest, h0, hd0, d1, rest', h1, hd1, h2⟩ := hx3
  obtain ⟨a, b, u⟩ := r
  subst h0; subst h1
  unfold QD at hd0 hd1
  subst hd0; subst hd1
  injection he with he
  injection he with e0 he
  injection he with e1 he
  injection e0 with e0
  injection e1 with e1
  injection e0 with _ e0
  injection e1 with _ e1
  simp only at e0 e1
  unfold qIU qF9
  rw [← e0, ← e1]
 subst hx
 intro g c hc
 unfold globs at hc
 rw [look_cons] at hc
 split at hc
 ·rename_i hg
  subst hg
  cases hc
  exact qQw hh hx2
 ·cases hc
def setAll (cs : Array Value) : Obj → Obj
 | .cells _ t frozen => .cells cs t frozen
 | o => o
noncomputable def qFf (os : Os) : World :=
 { World.holding Tryz.prog os ⟨#[], #[], []⟩ with heap := (World.holding Tryz.prog os ⟨#[], #[], []⟩).heap.modify 0 (setAll #[.int .i64 (-1), .int .i64 (-1)]) }
theorem laidOut : laidOutB Tryz.prog = true := by kernel_rfl
theorem own : ownKnob Tryz.prog.godebug = none := by kernel_rfl
end Saw
end Go.SL
