/- The readings of the laws' parameters. -/
import Derived.Test.YtpphchcejhodkaaDoorEBase
import Derived.Test.YtpphchcejhodkaaDoorYa6
import Derived.Test.YtpphchcejhodkaaDoorRows
import Derived.Lib.LaidTab
import Derived.Test.YtpphchcejhodkaaDoorCards
import Derived.Test.YtpphchcejhodkaaDoorTie
set_option linter.unusedVariables false
set_option linter.unusedSimpArgs false
namespace Go.SL
namespace Saw
open Go.Proofs Go.RowKit Go.ChangeShapes Go.WideShapes
set_option maxRecDepth 100000
theorem rd_3 : jI Tryd.prog 3 e_i64 QP QC := qM8 (by kernel_rfl) (by kernel_rfl)
def AB (r : Span) : Prop := QP r.A ∧ QP r.B ∧ True
def qNH : (Int × (Int × Unit)) → Span := (fun r : Int × (Int × Unit) => Span.mk r.1 r.2.1)
def AC : ∀ H : Type, DataW H → Span → Prop := NX qNH (NY (zC QC (zC QC RL)))
theorem und26 : Tryd.prog.underlying 26 = some (.struct #[(Field.mk "A" 3 0 false "" "" 0), (Field.mk "B" 3 1 false "" "" 8)]) := by kernel_rfl
theorem qEb : jI Tryd.prog 26 e_Span AB AC :=
 QM (jO (fs := #[(Field.mk "A" 3 0 false "" "" 0), (Field.mk "B" 3 1 false "" "" 8)]) und26 (zF (off := 0) rd_3 (zF (off := 1) rd_3 (GJ 2) rfl (by kernel_rfl)) rfl (by kernel_rfl)) (by kernel_rfl)) qNH (fun _ => rfl) (fun _ => show 2 = _ by kernel_rfl) (fun _ h => h)
theorem rd_52 : jI Tryd.prog 52 (fun l : List Span => [tl e_Span default l]) (fun l : List Span => l.length ≤ maxLen ∧ ∀ x ∈ l, AB x) (D_sl AC) :=
 NA (e := 26) (by kernel_rfl) (by kernel_rfl) (show 0 < _ from Nat.lt_of_lt_of_eq (show 0 < 2 by decide) (by kernel_rfl)) qEb
def qIM (r : qL) : Prop := QP r.Low ∧ (fun l : List Span => l.length ≤ maxLen ∧ ∀ x ∈ l, AB x) r.Rows ∧ True
def qIn : (Int × ((List Span) × Unit)) → qL := (fun r : Int × ((List Span) × Unit) => qL.mk r.1 r.2.1)
def qIt : ∀ H : Type, DataW H → qL → Prop := NX qIn (NY (zC QC (zC (D_sl AC) RL)))
theorem und54 : Tryd.prog.underlying 54 = some (.struct #[(Field.mk "Low" 3 0 false "" "" 0), (Field.mk "Rows" 52 1 false "" "" 8)]) := by kernel_rfl
theorem rd_54 : jI Tryd.prog 54 zJ qIM qIt :=
 QM (jO (fs := #[(Field.mk "Low" 3 0 false "" "" 0), (Field.mk "Rows" 52 1 false "" "" 8)]) und54 (zF (off := 0) rd_3 (zF (off := 1) rd_52 (GJ 2) rfl (by kernel_rfl)) rfl (by kernel_rfl)) (by kernel_rfl)) qIn (fun _ => rfl) (fun _ => show 2 = _ by kernel_rfl) (fun _ h => h)
def qHj (r : qD) : Prop := QP r.Len ∧ qIM r.Sec ∧ True
def qMc : (Int × (qL × Unit)) → qD := (fun r : Int × (qL × Unit) => qD.mk r.1 r.2.1)
def qHi : ∀ H : Type, DataW H → qD → Prop := NX qMc (NY (zC QC (zC qIt RL)))
theorem und56 : Tryd.prog.underlying 56 = some (.struct #[(Field.mk "Len" 3 0 false "" "" 0), (Field.mk "Sec" 54 1 false "" "" 8)]) := by kernel_rfl
theorem rd_56 : jI Tryd.prog 56 qI qHj qHi :=
 QM (jO (fs := #[(Field.mk "Len" 3 0 false "" "" 0), (Field.mk "Sec" 54 1 false "" "" 8)]) und56 (zF (off := 0) rd_3 (zF (off := 1) rd_54 (GJ 3) rfl (by kernel_rfl)) rfl (by kernel_rfl)) (by kernel_rfl)) qMc (fun _ => rfl) (fun _ => show 3 = _ by kernel_rfl) (fun _ h => h)
theorem rd_22 : jI Tryd.prog 22 (fun l : List qD => [tl qI default l]) (fun l : List qD => l.length ≤ maxLen ∧ ∀ x ∈ l, qHj x) (D_sl qHi) :=
 NA (e := 56) (by kernel_rfl) (by kernel_rfl) (show 0 < _ from Nat.lt_of_lt_of_eq (show 0 < 3 by decide) (by kernel_rfl)) rd_56
def wfBox (r : Box) : Prop := AB r.X ∧ AB r.Y ∧ AB r.Z ∧ True
def g_Box : (Span × (Span × (Span × Unit))) → Box := (fun r : Span × (Span × (Span × Unit)) => Box.mk r.1 r.2.1 r.2.2.1)
def D_Box : ∀ H : Type, DataW H → Box → Prop := NX g_Box (NY (zC AC (zC AC (zC AC RL))))
theorem und50 : Tryd.prog.underlying 50 = some (.struct #[(Field.mk "X" 26 0 false "" "" 0), (Field.mk "Y" 26 2 false "" "" 16), (Field.mk "Z" 26 4 false "" "" 32)]) := by kernel_rfl
theorem rd_50 : jI Tryd.prog 50 QE wfBox D_Box :=
 QM (jO (fs := #[(Field.mk "X" 26 0 false "" "" 0), (Field.mk "Y" 26 2 false "" "" 16), (Field.mk "Z" 26 4 false "" "" 32)]) und50 (zF (off := 0) qEb (zF (off := 2) qEb (zF (off := 4) qEb (GJ 6) rfl (by kernel_rfl)) rfl (by kernel_rfl)) rfl (by kernel_rfl)) (by kernel_rfl)) g_Box (fun _ => rfl) (fun _ => show 6 = _ by kernel_rfl) (fun _ h => h)
def qEV (r : Defect) : Prop := QP r.Kind ∧ wfBox r.Box ∧ True
def qKH : (Int × (Box × Unit)) → Defect := (fun r : Int × (Box × Unit) => Defect.mk r.1 r.2.1)
def qE6 : ∀ H : Type, DataW H → Defect → Prop := NX qKH (NY (zC QC (zC D_Box RL)))
theorem und151 : Tryd.prog.underlying 151 = some (.struct #[(Field.mk "Kind" 3 0 false "" "" 0), (Field.mk "Box" 50 1 false "" "" 8)]) := by kernel_rfl
theorem rd_151 : jI Tryd.prog 151 qH qEV qE6 :=
 QM (jO (fs := #[(Field.mk "Kind" 3 0 false "" "" 0), (Field.mk "Box" 50 1 false "" "" 8)]) und151 (zF (off := 0) rd_3 (zF (off := 1) rd_50 (GJ 7) rfl (by kernel_rfl)) rfl (by kernel_rfl)) (by kernel_rfl)) qKH (fun _ => rfl) (fun _ => show 7 = _ by kernel_rfl) (fun _ h => h)
theorem rd_23 : jI Tryd.prog 23 (fun l : List Defect => [tl qH default l]) (fun l : List Defect => l.length ≤ maxLen ∧ ∀ x ∈ l, qEV x) (D_sl qE6) :=
 NA (e := 151) (by kernel_rfl) (by kernel_rfl) (show 0 < _ from Nat.lt_of_lt_of_eq (show 0 < 7 by decide) (by kernel_rfl)) rd_151
theorem rd_9 : jI Tryd.prog 9 e_str strok qEU := qJL (by kernel_rfl) (by kernel_rfl)
theorem rd_57 : jI Tryd.prog 57 (fun l : List Int => [tl e_i64 default l]) (fun l : List Int => l.length ≤ maxLen ∧ ∀ x ∈ l, QP x) (D_sl QC) :=
 NA (e := 3) (by kernel_rfl) (by kernel_rfl) (show 0 < _ from Nat.lt_of_lt_of_eq (show 0 < 1 by decide) (by kernel_rfl)) rd_3
def qDU (r : Product) : Prop := strok r.Name ∧ QP r.Thick ∧ QP r.Width ∧ QP r.Allow ∧ QP r.Wane ∧ (fun l : List Int => l.length ≤ maxLen ∧ ∀ x ∈ l, QP x) r.Lengths ∧ (fun l : List Int => l.length ≤ maxLen ∧ ∀ x ∈ l, QP x) r.Prices ∧ True
def qIk : (ByteArray × (Int × (Int × (Int × (Int × ((List Int) × ((List Int) × Unit))))))) → Product := (fun r : ByteArray × (Int × (Int × (Int × (Int × ((List Int) × ((List Int) × Unit)))))) => Product.mk r.1 r.2.1 r.2.2.1 r.2.2.2.1 r.2.2.2.2.1 r.2.2.2.2.2.1 r.2.2.2.2.2.2.1)
def qDR : ∀ H : Type, DataW H → Product → Prop := NX qIk (NY (zC qEU (zC QC (zC QC (zC QC (zC QC (zC (D_sl QC) (zC (D_sl QC) RL))))))))
theorem und59 : Tryd.prog.underlying 59 = some (.struct #[(Field.mk "Name" 9 0 false "" "" 0), (Field.mk "Thick" 3 1 false "" "" 16), (Field.mk "Width" 3 2 false "" "" 24), (Field.mk "Allow" 3 3 false "" "" 32), (Field.mk "Wane" 3 4 false "" "" 40), (Field.mk "Lengths" 57 5 false "" "" 48), (Field.mk "Prices" 57 6 false "" "" 72)]) := by kernel_rfl
theorem rd_59 : jI Tryd.prog 59 qE qDU qDR :=
 QM (jO (fs := #[(Field.mk "Name" 9 0 false "" "" 0), (Field.mk "Thick" 3 1 false "" "" 16), (Field.mk "Width" 3 2 false "" "" 24), (Field.mk "Allow" 3 3 false "" "" 32), (Field.mk "Wane" 3 4 false "" "" 40), (Field.mk "Lengths" 57 5 false "" "" 48), (Field.mk "Prices" 57 6 false "" "" 72)]) und59 (zF (off := 0) rd_9 (zF (off := 1) rd_3 (zF (off := 2) rd_3 (zF (off := 3) rd_3 (zF (off := 4) rd_3 (zF (off := 5) rd_57 (zF (off := 6) rd_57 (GJ 7) rfl (by kernel_rfl)) rfl (by kernel_rfl)) rfl (by kernel_rfl)) rfl (by kernel_rfl)) rfl (by kernel_rfl)) rfl (by kernel_rfl)) rfl (by kernel_rfl)) (by kernel_rfl)) qIk (fun _ => rfl) (fun _ => show 7 = _ by kernel_rfl) (fun _ h => h)
theorem rd_24 : jI Tryd.prog 24 (fun l : List Product => [tl qE default l]) (fun l : List Product => l.length ≤ maxLen ∧ ∀ x ∈ l, qDU x) (D_sl qDR) :=
 NA (e := 59) (by kernel_rfl) (by kernel_rfl) (show 0 < _ from Nat.lt_of_lt_of_eq (show 0 < 7 by decide) (by kernel_rfl)) rd_59
def qNZ (r : Rect) : Prop := AB r.X ∧ AB r.Y ∧ True
def qM9 : (Span × (Span × Unit)) → Rect := (fun r : Span × (Span × Unit) => Rect.mk r.1 r.2.1)
def qNx : ∀ H : Type, DataW H → Rect → Prop := NX qM9 (NY (zC AC (zC AC RL)))
theorem und28 : Tryd.prog.underlying 28 = some (.struct #[(Field.mk "X" 26 0 false "" "" 0), (Field.mk "Y" 26 2 false "" "" 16)]) := by kernel_rfl
theorem rd_28 : jI Tryd.prog 28 qK qNZ qNx :=
 QM (jO (fs := #[(Field.mk "X" 26 0 false "" "" 0), (Field.mk "Y" 26 2 false "" "" 16)]) und28 (zF (off := 0) qEb (zF (off := 2) qEb (GJ 4) rfl (by kernel_rfl)) rfl (by kernel_rfl)) (by kernel_rfl)) qM9 (fun _ => rfl) (fun _ => show 4 = _ by kernel_rfl) (fun _ h => h)
def wfSaw (r : Saw) : Prop := QP r.Kerf ∧ QP r.Trim ∧ QP r.Pitch ∧ QP r.Step ∧ True
def g_Saw : (Int × (Int × (Int × (Int × Unit)))) → Saw := (fun r : Int × (Int × (Int × (Int × Unit))) => Saw.mk r.1 r.2.1 r.2.2.1 r.2.2.2.1)
def D_Saw : ∀ H : Type, DataW H → Saw → Prop := NX g_Saw (NY (zC QC (zC QC (zC QC (zC QC RL)))))
theorem und30 : Tryd.prog.underlying 30 = some (.struct #[(Field.mk "Kerf" 3 0 false "" "" 0), (Field.mk "Trim" 3 1 false "" "" 8), (Field.mk "Pitch" 3 2 false "" "" 16), (Field.mk "Step" 3 3 false "" "" 24)]) := by kernel_rfl
theorem rd_30 : jI Tryd.prog 30 zL wfSaw D_Saw :=
 QM (jO (fs := #[(Field.mk "Kerf" 3 0 false "" "" 0), (Field.mk "Trim" 3 1 false "" "" 8), (Field.mk "Pitch" 3 2 false "" "" 16), (Field.mk "Step" 3 3 false "" "" 24)]) und30 (zF (off := 0) rd_3 (zF (off := 1) rd_3 (zF (off := 2) rd_3 (zF (off := 3) rd_3 (GJ 4) rfl (by kernel_rfl)) rfl (by kernel_rfl)) rfl (by kernel_rfl)) rfl (by kernel_rfl)) (by kernel_rfl)) g_Saw (fun _ => rfl) (fun _ => show 4 = _ by kernel_rfl) (fun _ h => h)
def qLJ (r : Rates) : Prop := QP r.Chip ∧ QP r.Dust ∧ QP r.Fine ∧ True
def qL0 : (Int × (Int × (Int × Unit))) → Rates := (fun r : Int × (Int × (Int × Unit)) => Rates.mk r.1 r.2.1 r.2.2.1)
def qLQ : ∀ H : Type, DataW H → Rates → Prop := NX qL0 (NY (zC QC (zC QC (zC QC RL))))
theorem und32 : Tryd.prog.underlying 32 = some (.struct #[(Field.mk "Chip" 3 0 false "" "" 0), (Field.mk "Dust" 3 1 false "" "" 8), (Field.mk "Fine" 3 2 false "" "" 16)]) := by kernel_rfl
theorem rd_32 : jI Tryd.prog 32 zM qLJ qLQ :=
 QM (jO (fs := #[(Field.mk "Chip" 3 0 false "" "" 0), (Field.mk "Dust" 3 1 false "" "" 8), (Field.mk "Fine" 3 2 false "" "" 16)]) und32 (zF (off := 0) rd_3 (zF (off := 1) rd_3 (zF (off := 2) rd_3 (GJ 3) rfl (by kernel_rfl)) rfl (by kernel_rfl)) rfl (by kernel_rfl)) (by kernel_rfl)) qL0 (fun _ => rfl) (fun _ => show 3 = _ by kernel_rfl) (fun _ h => h)
def qCE (r : qP) : Prop := (fun l : List qD => l.length ≤ maxLen ∧ ∀ x ∈ l, qHj x) r.Solid ∧ (fun l : List Defect => l.length ≤ maxLen ∧ ∀ x ∈ l, qEV x) r.Defects ∧ (fun l : List Product => l.length ≤ maxLen ∧ ∀ x ∈ l, qDU x) r.Products ∧ qNZ r.Strip ∧ wfSaw r.Saw ∧ qLJ r.Rates ∧ True
def qCx : ((List qD) × ((List Defect) × ((List Product) × (Rect × (Saw × (Rates × Unit)))))) → qP := (fun r : (List qD) × ((List Defect) × ((List Product) × (Rect × (Saw × (Rates × Unit))))) => qP.mk r.1 r.2.1 r.2.2.1 r.2.2.2.1 r.2.2.2.2.1 r.2.2.2.2.2.1)
def qCC : ∀ H : Type, DataW H → qP → Prop := NX qCx (NY (zC (D_sl qHi) (zC (D_sl qE6) (zC (D_sl qDR) (zC qNx (zC D_Saw (zC qLQ RL)))))))
theorem und34 : Tryd.prog.underlying 34 = some (.struct #[(Field.mk "Solid" 22 0 false "" "" 0), (Field.mk "Defects" 23 1 false "" "" 24), (Field.mk "Products" 24 2 false "" "" 48), (Field.mk "Strip" 28 3 false "" "" 72), (Field.mk "Saw" 30 7 false "" "" 104), (Field.mk "Rates" 32 11 false "" "" 136)]) := by kernel_rfl
theorem rd_34 : jI Tryd.prog 34 zI qCE qCC :=
 QM (jO (fs := #[(Field.mk "Solid" 22 0 false "" "" 0), (Field.mk "Defects" 23 1 false "" "" 24), (Field.mk "Products" 24 2 false "" "" 48), (Field.mk "Strip" 28 3 false "" "" 72), (Field.mk "Saw" 30 7 false "" "" 104), (Field.mk "Rates" 32 11 false "" "" 136)]) und34 (zF (off := 0) rd_22 (zF (off := 1) rd_23 (zF (off := 2) rd_24 (zF (off := 3) rd_28 (zF (off := 7) rd_30 (zF (off := 11) rd_32 (GJ 14) rfl (by kernel_rfl)) rfl (by kernel_rfl)) rfl (by kernel_rfl)) rfl (by kernel_rfl)) rfl (by kernel_rfl)) rfl (by kernel_rfl)) (by kernel_rfl)) qCx (fun _ => rfl) (fun _ => show 14 = _ by kernel_rfl) (fun _ h => h)
def wfPiece (r : Piece) : Prop := QP r.Size ∧ QP r.At ∧ True
def qHy : (Int × (Int × Unit)) → Piece := (fun r : Int × (Int × Unit) => Piece.mk r.1 r.2.1)
def D_Piece : ∀ H : Type, DataW H → Piece → Prop := NX qHy (NY (zC QC (zC QC RL)))
theorem und98 : Tryd.prog.underlying 98 = some (.struct #[(Field.mk "Size" 3 0 false "" "" 0), (Field.mk "At" 3 1 false "" "" 8)]) := by kernel_rfl
theorem rd_98 : jI Tryd.prog 98 yA wfPiece D_Piece :=
 QM (jO (fs := #[(Field.mk "Size" 3 0 false "" "" 0), (Field.mk "At" 3 1 false "" "" 8)]) und98 (zF (off := 0) rd_3 (zF (off := 1) rd_3 (GJ 2) rfl (by kernel_rfl)) rfl (by kernel_rfl)) (by kernel_rfl)) qHy (fun _ => rfl) (fun _ => show 2 = _ by kernel_rfl) (fun _ h => h)
section
variable {H : Type} {enc : TypeId × Value → H} {w : World} {r : Reach} {b0 : Nat} {v : Value} {d : DataW H} {ps : List MemPlace}
theorem open_34 (hval : Value.okWide Tryd.prog w r b0 34 v) (hd : DataW.Trod enc Tryd.prog w 0 (fun _ => true) true 34 v d ps) : ∃ x, qCE x ∧ qCC H d x ∧ qU w (Mem.of fun _ => True) (.agg (zI x)) v := by
 obtain ⟨x, h1, h2, h3⟩ := qHE rd_34 und34 hval hd
 exact ⟨x, h1, h2, h3⟩
end
theorem qOT {W : World} (h : laidMetH Tryd.prog YtpphchcejhodkaaDoor.Rows.edgeYieldsRow.laid W) : OM globs W (fun _ => True) := by
 have h' : laidMet Tryd.prog YtpphchcejhodkaaDoor.Rows.edgeYieldsRow.laid W := h
 obtain ⟨ps, hl, _⟩ := h'
 obtain ⟨cs, e, fz, fuel, p, hh, hd, q, hl⟩ := qN8 hl (g := 0) (t := 98) (by kernel_rfl) (by kernel_rfl)
 obtain ⟨x, _, hx2, hx3⟩ := rd_98.rd _ _ _ _ _ _ _ hd
 have hx : x = qFm := by
  obtain ⟨r, rfl, ds, he, d0, rest, h0, hd0, d1, rest', h1, hd1, h2⟩ := hx3
  obtain ⟨a, b, u⟩ := r
  subst h0; subst h1
  unfold QC at hd0 hd1
  subst hd0; subst hd1
  injection he with he
  injection he with e0 he
  injection he with e1 he
  injection e0 with e0
  injection e1 with e1
  injection e0 with _ e0
  injection e1 with _ e1
  simp only at e0 e1
  unfold qHy qFm
  rw [← e0, ← e1]
 subst hx
 intro g c hc
 unfold globs at hc
 rw [look_cons] at hc
 split at hc
 ·rename_i hg
  subst hg
  cases hc
  exact qOw hh hx2
 ·cases hc
def setAll (cs : Array Value) : Obj → Obj
 | .cells _ t frozen => .cells cs t frozen
 | o => o
/-- A world for the witness: the listed variable holds what its initialiser lays. -/
noncomputable def qDr (os : Os) : World :=
 { World.holding Tryd.prog os ⟨#[], #[], []⟩ with heap := (World.holding Tryd.prog os ⟨#[], #[], []⟩).heap.modify 0 (setAll #[.int .i64 (-1), .int .i64 (-1)]) }
theorem laidOut : laidOutB Tryd.prog = true := by kernel_rfl
theorem own : ownKnob Tryd.prog.godebug = none := by kernel_rfl
end Saw
end Go.SL
