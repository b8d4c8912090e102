/- The readings of the laws' parameters. -/
import Derived.Test.YtgpgnlllieekbaaGreatDoorEBase
import Derived.Test.YtgpgnlllieekbaaGreatDoorYa5
import Derived.Test.YtgpgnlllieekbaaGreatDoorRows
import Derived.Lib.LaidTab
import Derived.Test.YtgpgnlllieekbaaGreatDoorCards
import Derived.Test.YtgpgnlllieekbaaGreatDoorTie
set_option linter.unusedVariables false
set_option linter.unusedSimpArgs false
namespace Go.SL
namespace Saw
open Go.Proofs Go.RowKit Go.ChangeShapes Go.WideShapes
set_option maxRecDepth 100000
theorem rd_3 : jK Tryz.prog 3 e_i64 QI QC := qPp (by kernel_rfl) (by kernel_rfl)
def IK (r : Span) : Prop := QI r.A ∧ QI r.B ∧ True
def qOI : (Int × (Int × Unit)) → Span := (fun r : Int × (Int × Unit) => Span.mk r.1 r.2.1)
def IB : ∀ H : Type, DataW H → Span → Prop := FC qOI (NS (zJ QC (zJ QC PF)))
theorem und26 : Tryz.prog.underlying 26 = some (.struct #[(Field.mk "A" 3 0 false "" "" 0), (Field.mk "B" 3 1 false "" "" 8)]) := by kernel_rfl
theorem qFe : jK Tryz.prog 26 e_Span IK IB :=
 QX (jL (fs := #[(Field.mk "A" 3 0 false "" "" 0), (Field.mk "B" 3 1 false "" "" 8)]) und26 (zM (off := 0) rd_3 (zM (off := 1) rd_3 (VH 2) rfl (by kernel_rfl)) rfl (by kernel_rfl)) (by kernel_rfl)) qOI (fun _ => rfl) (fun _ => show 2 = _ by kernel_rfl) (fun _ h => h)
theorem rd_52 : jK Tryz.prog 52 (fun l : List Span => [tl e_Span default l]) (fun l : List Span => l.length ≤ maxLen ∧ ∀ x ∈ l, IK x) (D_sl IB) :=
 BX (e := 26) (by kernel_rfl) (by kernel_rfl) (show 0 < _ from Nat.lt_of_lt_of_eq (show 0 < 2 by decide) (by kernel_rfl)) qFe
def qJ8 (r : qJ) : Prop := QI r.Low ∧ (fun l : List Span => l.length ≤ maxLen ∧ ∀ x ∈ l, IK x) r.Rows ∧ True
def qJE : (Int × ((List Span) × Unit)) → qJ := (fun r : Int × ((List Span) × Unit) => qJ.mk r.1 r.2.1)
def qJ3 : ∀ H : Type, DataW H → qJ → Prop := FC qJE (NS (zJ QC (zJ (D_sl IB) PF)))
theorem und54 : Tryz.prog.underlying 54 = some (.struct #[(Field.mk "Low" 3 0 false "" "" 0), (Field.mk "Rows" 52 1 false "" "" 8)]) := by kernel_rfl
theorem rd_54 : jK Tryz.prog 54 qZ qJ8 qJ3 :=
 QX (jL (fs := #[(Field.mk "Low" 3 0 false "" "" 0), (Field.mk "Rows" 52 1 false "" "" 8)]) und54 (zM (off := 0) rd_3 (zM (off := 1) rd_52 (VH 2) rfl (by kernel_rfl)) rfl (by kernel_rfl)) (by kernel_rfl)) qJE (fun _ => rfl) (fun _ => show 2 = _ by kernel_rfl) (fun _ h => h)
def qJy (r : Slice) : Prop := QI r.Len ∧ qJ8 r.Sec ∧ True
def qNE : (Int × (qJ × Unit)) → Slice := (fun r : Int × (qJ × Unit) => Slice.mk r.1 r.2.1)
def qIh : ∀ H : Type, DataW H → Slice → Prop := FC qNE (NS (zJ QC (zJ qJ3 PF)))
theorem und56 : Tryz.prog.underlying 56 = some (.struct #[(Field.mk "Len" 3 0 false "" "" 0), (Field.mk "Sec" 54 1 false "" "" 8)]) := by kernel_rfl
theorem rd_56 : jK Tryz.prog 56 qG qJy qIh :=
 QX (jL (fs := #[(Field.mk "Len" 3 0 false "" "" 0), (Field.mk "Sec" 54 1 false "" "" 8)]) und56 (zM (off := 0) rd_3 (zM (off := 1) rd_54 (VH 3) rfl (by kernel_rfl)) rfl (by kernel_rfl)) (by kernel_rfl)) qNE (fun _ => rfl) (fun _ => show 3 = _ by kernel_rfl) (fun _ h => h)
theorem rd_22 : jK Tryz.prog 22 (fun l : List Slice => [tl qG default l]) (fun l : List Slice => l.length ≤ maxLen ∧ ∀ x ∈ l, qJy x) (D_sl qIh) :=
 BX (e := 56) (by kernel_rfl) (by kernel_rfl) (show 0 < _ from Nat.lt_of_lt_of_eq (show 0 < 3 by decide) (by kernel_rfl)) rd_56
def wfBox (r : Box) : Prop := IK r.X ∧ IK r.Y ∧ IK r.Z ∧ True
def g_Box : (Span × (Span × (Span × Unit))) → Box := (fun r : Span × (Span × (Span × Unit)) => Box.mk r.1 r.2.1 r.2.2.1)
def D_Box : ∀ H : Type, DataW H → Box → Prop := FC g_Box (NS (zJ IB (zJ IB (zJ IB PF))))
theorem und108 : Tryz.prog.underlying 108 = some (.struct #[(Field.mk "X" 26 0 false "" "" 0), (Field.mk "Y" 26 2 false "" "" 16), (Field.mk "Z" 26 4 false "" "" 32)]) := by kernel_rfl
theorem rd_108 : jK Tryz.prog 108 zC wfBox D_Box :=
 QX (jL (fs := #[(Field.mk "X" 26 0 false "" "" 0), (Field.mk "Y" 26 2 false "" "" 16), (Field.mk "Z" 26 4 false "" "" 32)]) und108 (zM (off := 0) qFe (zM (off := 2) qFe (zM (off := 4) qFe (VH 6) rfl (by kernel_rfl)) rfl (by kernel_rfl)) rfl (by kernel_rfl)) (by kernel_rfl)) g_Box (fun _ => rfl) (fun _ => show 6 = _ by kernel_rfl) (fun _ h => h)
def qGk (r : Defect) : Prop := QI r.Kind ∧ wfBox r.Box ∧ True
def qMm : (Int × (Box × Unit)) → Defect := (fun r : Int × (Box × Unit) => Defect.mk r.1 r.2.1)
def qGb : ∀ H : Type, DataW H → Defect → Prop := FC qMm (NS (zJ QC (zJ D_Box PF)))
theorem und110 : Tryz.prog.underlying 110 = some (.struct #[(Field.mk "Kind" 3 0 false "" "" 0), (Field.mk "Box" 108 1 false "" "" 8)]) := by kernel_rfl
theorem rd_110 : jK Tryz.prog 110 qH qGk qGb :=
 QX (jL (fs := #[(Field.mk "Kind" 3 0 false "" "" 0), (Field.mk "Box" 108 1 false "" "" 8)]) und110 (zM (off := 0) rd_3 (zM (off := 1) rd_108 (VH 7) rfl (by kernel_rfl)) rfl (by kernel_rfl)) (by kernel_rfl)) qMm (fun _ => rfl) (fun _ => show 7 = _ by kernel_rfl) (fun _ h => h)
theorem rd_23 : jK Tryz.prog 23 (fun l : List Defect => [tl qH default l]) (fun l : List Defect => l.length ≤ maxLen ∧ ∀ x ∈ l, qGk x) (D_sl qGb) :=
 BX (e := 110) (by kernel_rfl) (by kernel_rfl) (show 0 < _ from Nat.lt_of_lt_of_eq (show 0 < 7 by decide) (by kernel_rfl)) rd_110
theorem rd_9 : jK Tryz.prog 9 e_str strok qGv := qMo (by kernel_rfl) (by kernel_rfl)
theorem rd_37 : jK Tryz.prog 37 (fun l : List Int => [tl e_i64 default l]) (fun l : List Int => l.length ≤ maxLen ∧ ∀ x ∈ l, QI x) (D_sl QC) :=
 BX (e := 3) (by kernel_rfl) (by kernel_rfl) (show 0 < _ from Nat.lt_of_lt_of_eq (show 0 < 1 by decide) (by kernel_rfl)) rd_3
def qEL (r : qC) : Prop := strok r.Name ∧ QI r.Thick ∧ QI r.Width ∧ QI r.Allow ∧ QI r.Wane ∧ (fun l : List Int => l.length ≤ maxLen ∧ ∀ x ∈ l, QI x) r.Lengths ∧ (fun l : List Int => l.length ≤ maxLen ∧ ∀ x ∈ l, QI x) r.Prices ∧ True
def qJY : (ByteArray × (Int × (Int × (Int × (Int × ((List Int) × ((List Int) × Unit))))))) → qC := (fun r : ByteArray × (Int × (Int × (Int × (Int × ((List Int) × ((List Int) × Unit)))))) => qC.mk r.1 r.2.1 r.2.2.1 r.2.2.2.1 r.2.2.2.2.1 r.2.2.2.2.2.1 r.2.2.2.2.2.2.1)
def qEl : ∀ H : Type, DataW H → qC → Prop := FC qJY (NS (zJ qGv (zJ QC (zJ QC (zJ QC (zJ QC (zJ (D_sl QC) (zJ (D_sl QC) PF))))))))
theorem und58 : Tryz.prog.underlying 58 = some (.struct #[(Field.mk "Name" 9 0 false "" "" 0), (Field.mk "Thick" 3 1 false "" "" 16), (Field.mk "Width" 3 2 false "" "" 24), (Field.mk "Allow" 3 3 false "" "" 32), (Field.mk "Wane" 3 4 false "" "" 40), (Field.mk "Lengths" 37 5 false "" "" 48), (Field.mk "Prices" 37 6 false "" "" 72)]) := by kernel_rfl
theorem rd_58 : jK Tryz.prog 58 qE qEL qEl :=
 QX (jL (fs := #[(Field.mk "Name" 9 0 false "" "" 0), (Field.mk "Thick" 3 1 false "" "" 16), (Field.mk "Width" 3 2 false "" "" 24), (Field.mk "Allow" 3 3 false "" "" 32), (Field.mk "Wane" 3 4 false "" "" 40), (Field.mk "Lengths" 37 5 false "" "" 48), (Field.mk "Prices" 37 6 false "" "" 72)]) und58 (zM (off := 0) rd_9 (zM (off := 1) rd_3 (zM (off := 2) rd_3 (zM (off := 3) rd_3 (zM (off := 4) rd_3 (zM (off := 5) rd_37 (zM (off := 6) rd_37 (VH 7) rfl (by kernel_rfl)) rfl (by kernel_rfl)) rfl (by kernel_rfl)) rfl (by kernel_rfl)) rfl (by kernel_rfl)) rfl (by kernel_rfl)) rfl (by kernel_rfl)) (by kernel_rfl)) qJY (fun _ => rfl) (fun _ => show 7 = _ by kernel_rfl) (fun _ h => h)
theorem rd_24 : jK Tryz.prog 24 (fun l : List qC => [tl qE default l]) (fun l : List qC => l.length ≤ maxLen ∧ ∀ x ∈ l, qEL x) (D_sl qEl) :=
 BX (e := 58) (by kernel_rfl) (by kernel_rfl) (show 0 < _ from Nat.lt_of_lt_of_eq (show 0 < 7 by decide) (by kernel_rfl)) rd_58
def qPy (r : Rect) : Prop := IK r.X ∧ IK r.Y ∧ True
def qPt : (Span × (Span × Unit)) → Rect := (fun r : Span × (Span × Unit) => Rect.mk r.1 r.2.1)
def qPc : ∀ H : Type, DataW H → Rect → Prop := FC qPt (NS (zJ IB (zJ IB PF)))
theorem und28 : Tryz.prog.underlying 28 = some (.struct #[(Field.mk "X" 26 0 false "" "" 0), (Field.mk "Y" 26 2 false "" "" 16)]) := by kernel_rfl
theorem rd_28 : jK Tryz.prog 28 qK qPy qPc :=
 QX (jL (fs := #[(Field.mk "X" 26 0 false "" "" 0), (Field.mk "Y" 26 2 false "" "" 16)]) und28 (zM (off := 0) qFe (zM (off := 2) qFe (VH 4) rfl (by kernel_rfl)) rfl (by kernel_rfl)) (by kernel_rfl)) qPt (fun _ => rfl) (fun _ => show 4 = _ by kernel_rfl) (fun _ h => h)
def wfSaw (r : Saw) : Prop := QI r.Kerf ∧ QI r.Trim ∧ QI r.Pitch ∧ QI r.Step ∧ True
def g_Saw : (Int × (Int × (Int × (Int × Unit)))) → Saw := (fun r : Int × (Int × (Int × (Int × Unit))) => Saw.mk r.1 r.2.1 r.2.2.1 r.2.2.2.1)
def D_Saw : ∀ H : Type, DataW H → Saw → Prop := FC g_Saw (NS (zJ QC (zJ QC (zJ QC (zJ QC PF)))))
theorem und30 : Tryz.prog.underlying 30 = some (.struct #[(Field.mk "Kerf" 3 0 false "" "" 0), (Field.mk "Trim" 3 1 false "" "" 8), (Field.mk "Pitch" 3 2 false "" "" 16), (Field.mk "Step" 3 3 false "" "" 24)]) := by kernel_rfl
theorem rd_30 : jK Tryz.prog 30 zY wfSaw D_Saw :=
 QX (jL (fs := #[(Field.mk "Kerf" 3 0 false "" "" 0), (Field.mk "Trim" 3 1 false "" "" 8), (Field.mk "Pitch" 3 2 false "" "" 16), (Field.mk "Step" 3 3 false "" "" 24)]) und30 (zM (off := 0) rd_3 (zM (off := 1) rd_3 (zM (off := 2) rd_3 (zM (off := 3) rd_3 (VH 4) rfl (by kernel_rfl)) rfl (by kernel_rfl)) rfl (by kernel_rfl)) rfl (by kernel_rfl)) (by kernel_rfl)) g_Saw (fun _ => rfl) (fun _ => show 4 = _ by kernel_rfl) (fun _ h => h)
def qNF (r : Rates) : Prop := QI r.Chip ∧ QI r.Dust ∧ QI r.Fine ∧ True
def qNC : (Int × (Int × (Int × Unit))) → Rates := (fun r : Int × (Int × (Int × Unit)) => Rates.mk r.1 r.2.1 r.2.2.1)
def qNz : ∀ H : Type, DataW H → Rates → Prop := FC qNC (NS (zJ QC (zJ QC (zJ QC PF))))
theorem und32 : Tryz.prog.underlying 32 = some (.struct #[(Field.mk "Chip" 3 0 false "" "" 0), (Field.mk "Dust" 3 1 false "" "" 8), (Field.mk "Fine" 3 2 false "" "" 16)]) := by kernel_rfl
theorem rd_32 : jK Tryz.prog 32 qW qNF qNz :=
 QX (jL (fs := #[(Field.mk "Chip" 3 0 false "" "" 0), (Field.mk "Dust" 3 1 false "" "" 8), (Field.mk "Fine" 3 2 false "" "" 16)]) und32 (zM (off := 0) rd_3 (zM (off := 1) rd_3 (zM (off := 2) rd_3 (VH 3) rfl (by kernel_rfl)) rfl (by kernel_rfl)) rfl (by kernel_rfl)) (by kernel_rfl)) qNC (fun _ => rfl) (fun _ => show 3 = _ by kernel_rfl) (fun _ h => h)
def qD3 (r : qP) : Prop := (fun l : List Slice => l.length ≤ maxLen ∧ ∀ x ∈ l, qJy x) r.Solid ∧ (fun l : List Defect => l.length ≤ maxLen ∧ ∀ x ∈ l, qGk x) r.Defects ∧ (fun l : List qC => l.length ≤ maxLen ∧ ∀ x ∈ l, qEL x) r.Products ∧ qPy r.Strip ∧ wfSaw r.Saw ∧ qNF r.Rates ∧ True
def qD8 : ((List Slice) × ((List Defect) × ((List qC) × (Rect × (Saw × (Rates × Unit)))))) → qP := (fun r : (List Slice) × ((List Defect) × ((List qC) × (Rect × (Saw × (Rates × Unit))))) => qP.mk r.1 r.2.1 r.2.2.1 r.2.2.2.1 r.2.2.2.2.1 r.2.2.2.2.2.1)
def qD7 : ∀ H : Type, DataW H → qP → Prop := FC qD8 (NS (zJ (D_sl qIh) (zJ (D_sl qGb) (zJ (D_sl qEl) (zJ qPc (zJ D_Saw (zJ qNz PF)))))))
theorem und34 : Tryz.prog.underlying 34 = some (.struct #[(Field.mk "Solid" 22 0 false "" "" 0), (Field.mk "Defects" 23 1 false "" "" 24), (Field.mk "Products" 24 2 false "" "" 48), (Field.mk "Strip" 28 3 false "" "" 72), (Field.mk "Saw" 30 7 false "" "" 104), (Field.mk "Rates" 32 11 false "" "" 136)]) := by kernel_rfl
theorem rd_34 : jK Tryz.prog 34 zO qD3 qD7 :=
 QX (jL (fs := #[(Field.mk "Solid" 22 0 false "" "" 0), (Field.mk "Defects" 23 1 false "" "" 24), (Field.mk "Products" 24 2 false "" "" 48), (Field.mk "Strip" 28 3 false "" "" 72), (Field.mk "Saw" 30 7 false "" "" 104), (Field.mk "Rates" 32 11 false "" "" 136)]) und34 (zM (off := 0) rd_22 (zM (off := 1) rd_23 (zM (off := 2) rd_24 (zM (off := 3) rd_28 (zM (off := 7) rd_30 (zM (off := 11) rd_32 (VH 14) rfl (by kernel_rfl)) rfl (by kernel_rfl)) rfl (by kernel_rfl)) rfl (by kernel_rfl)) rfl (by kernel_rfl)) rfl (by kernel_rfl)) (by kernel_rfl)) qD8 (fun _ => rfl) (fun _ => show 14 = _ by kernel_rfl) (fun _ h => h)
def wfPiece (r : Piece) : Prop := QI r.Size ∧ QI r.At ∧ True
def qIX : (Int × (Int × Unit)) → Piece := (fun r : Int × (Int × Unit) => Piece.mk r.1 r.2.1)
def D_Piece : ∀ H : Type, DataW H → Piece → Prop := FC qIX (NS (zJ QC (zJ QC PF)))
theorem und75 : Tryz.prog.underlying 75 = some (.struct #[(Field.mk "Size" 3 0 false "" "" 0), (Field.mk "At" 3 1 false "" "" 8)]) := by kernel_rfl
theorem rd_75 : jK Tryz.prog 75 zD wfPiece D_Piece :=
 QX (jL (fs := #[(Field.mk "Size" 3 0 false "" "" 0), (Field.mk "At" 3 1 false "" "" 8)]) und75 (zM (off := 0) rd_3 (zM (off := 1) rd_3 (VH 2) rfl (by kernel_rfl)) rfl (by kernel_rfl)) (by kernel_rfl)) qIX (fun _ => rfl) (fun _ => show 2 = _ by kernel_rfl) (fun _ h => h)
section
variable {H : Type} {enc : TypeId × Value → H} {w : World} {r : Reach} {b0 : Nat} {v : Value} {d : DataW H} {ps : List MemPlace}
theorem open_34 (hval : Value.okWide Tryz.prog w r b0 34 v) (hd : DataW.Trod enc Tryz.prog w 0 (fun _ => true) true 34 v d ps) : ∃ x, qD3 x ∧ qD7 H d x ∧ qV w (Mem.of fun _ => True) (.agg (zO x)) v := by
 obtain ⟨x, h1, h2, h3⟩ := qI5 rd_34 und34 hval hd
 exact ⟨x, h1, h2, h3⟩
end
theorem qPO {W : World} (h : laidMetH Tryz.prog YtgpgnlllieekbaaGreatDoor.Rows.edgeLinesRow.laid W) : qFf globs W (fun _ => True) := by
 have h' : laidMet Tryz.prog YtgpgnlllieekbaaGreatDoor.Rows.edgeLinesRow.laid W := h
 obtain ⟨ps, hl, _⟩ := h'
 obtain ⟨cs, e, fz, fuel, p, hh, hd, q, hl⟩ := qOE hl (g := 0) (t := 75) (by kernel_rfl) (by kernel_rfl)
 obtain ⟨x, _, hx2, hx3⟩ := rd_75.rd _ _ _ _ _ _ _ hd
 have hx : x = qGp := by
  obtain ⟨r, rfl, ds, he, d0, rest, h0, hd0, d1, rest', h1, hd1, h2⟩ := hx3
  obtain ⟨a, b, u⟩ := r
  subst h0; subst h1
  unfold QC at hd0 hd1
  subst hd0; subst hd1
  injection he with he
  injection he with e0 he
  injection he with e1 he
  injection e0 with e0
  injection e1 with e1
  injection e0 with _ e0
  injection e1 with _ e1
  simp only at e0 e1
  unfold qIX qGp
  rw [← e0, ← e1]
 subst hx
 intro g c hc
 unfold globs at hc
 rw [look_cons] at hc
 split at hc
 ·rename_i hg
  subst hg
  cases hc
  exact qQn hh hx2
 ·cases hc
def setAll (cs : Array Value) : Obj → Obj
 | .cells _ t frozen => .cells cs t frozen
 | o => o
/-- A world for the witness: the listed variable holds what its initialiser lays. -/
noncomputable def qE5 (os : Os) : World :=
 { World.holding Tryz.prog os ⟨#[], #[], []⟩ with heap := (World.holding Tryz.prog os ⟨#[], #[], []⟩).heap.modify 0 (setAll #[.int .i64 (-1), .int .i64 (-1)]) }
theorem laidOut : laidOutB Tryz.prog = true := by kernel_rfl
theorem own : ownKnob Tryz.prog.godebug = none := by kernel_rfl
end Saw
end Go.SL
