/- The readings of the laws' parameters. -/
import Derived.Test.YtgpgnlllieekbaaGreatDoorEBase
import Derived.Test.YtgpgnlllieekbaaGreatDoorYa5
import Derived.Test.YtgpgnlllieekbaaGreatDoorRows
import Derived.Lib.LaidTab
import Derived.Test.YtgpgnlllieekbaaGreatDoorCards
import Derived.Test.YtgpgnlllieekbaaGreatDoorTie
set_option linter.unusedVariables false
set_option linter.unusedSimpArgs false
namespace Go.SL
namespace Saw
open Go.Proofs Go.RowKit Go.ChangeShapes Go.WideShapes
set_option maxRecDepth 100000
theorem rd_3 : wY Tryz.prog 3 e_i64 QC yN := qMp (by kernel_rfl) (by kernel_rfl)
def SR (r : Span) : Prop := QC r.A ∧ QC r.B ∧ True
def qMg : (Int × (Int × Unit)) → Span := (fun r : Int × (Int × Unit) => Span.mk r.1 r.2.1)
def HQ : ∀ H : Type, DataW H → Span → Prop := GW qMg (DK (zD yN (zD yN XT)))
theorem und26 : Tryz.prog.underlying 26 = some (.struct #[(Field.mk "A" 3 0 false "" "" 0), (Field.mk "B" 3 1 false "" "" 8)]) := by kernel_rfl
theorem qDu : wY Tryz.prog 26 e_Span SR HQ :=
 yT (jD (fs := #[(Field.mk "A" 3 0 false "" "" 0), (Field.mk "B" 3 1 false "" "" 8)]) und26 (zG (off := 0) rd_3 (zG (off := 1) rd_3 (TD 2) rfl (by kernel_rfl)) rfl (by kernel_rfl)) (by kernel_rfl)) qMg (fun _ => rfl) (fun _ => show 2 = _ by kernel_rfl) (fun _ h => h)
theorem rd_52 : wY Tryz.prog 52 (fun l : List Span => [tl e_Span default l]) (fun l : List Span => l.length ≤ maxLen ∧ ∀ x ∈ l, SR x) (D_sl HQ) :=
 GN (e := 26) (by kernel_rfl) (by kernel_rfl) (show 0 < _ from Nat.lt_of_lt_of_eq (show 0 < 2 by decide) (by kernel_rfl)) qDu
def qHC (r : qH) : Prop := QC r.Low ∧ (fun l : List Span => l.length ≤ maxLen ∧ ∀ x ∈ l, SR x) r.Rows ∧ True
def qHs : (Int × ((List Span) × Unit)) → qH := (fun r : Int × ((List Span) × Unit) => qH.mk r.1 r.2.1)
def qHv : ∀ H : Type, DataW H → qH → Prop := GW qHs (DK (zD yN (zD (D_sl HQ) XT)))
theorem und54 : Tryz.prog.underlying 54 = some (.struct #[(Field.mk "Low" 3 0 false "" "" 0), (Field.mk "Rows" 52 1 false "" "" 8)]) := by kernel_rfl
theorem rd_54 : wY Tryz.prog 54 qY qHC qHv :=
 yT (jD (fs := #[(Field.mk "Low" 3 0 false "" "" 0), (Field.mk "Rows" 52 1 false "" "" 8)]) und54 (zG (off := 0) rd_3 (zG (off := 1) rd_52 (TD 2) rfl (by kernel_rfl)) rfl (by kernel_rfl)) (by kernel_rfl)) qHs (fun _ => rfl) (fun _ => show 2 = _ by kernel_rfl) (fun _ h => h)
def qHa (r : Slice) : Prop := QC r.Len ∧ qHC r.Sec ∧ True
def qKW : (Int × (qH × Unit)) → Slice := (fun r : Int × (qH × Unit) => Slice.mk r.1 r.2.1)
def qGI : ∀ H : Type, DataW H → Slice → Prop := GW qKW (DK (zD yN (zD qHv XT)))
theorem und56 : Tryz.prog.underlying 56 = some (.struct #[(Field.mk "Len" 3 0 false "" "" 0), (Field.mk "Sec" 54 1 false "" "" 8)]) := by kernel_rfl
theorem rd_56 : wY Tryz.prog 56 qF qHa qGI :=
 yT (jD (fs := #[(Field.mk "Len" 3 0 false "" "" 0), (Field.mk "Sec" 54 1 false "" "" 8)]) und56 (zG (off := 0) rd_3 (zG (off := 1) rd_54 (TD 3) rfl (by kernel_rfl)) rfl (by kernel_rfl)) (by kernel_rfl)) qKW (fun _ => rfl) (fun _ => show 3 = _ by kernel_rfl) (fun _ h => h)
theorem rd_22 : wY Tryz.prog 22 (fun l : List Slice => [tl qF default l]) (fun l : List Slice => l.length ≤ maxLen ∧ ∀ x ∈ l, qHa x) (D_sl qGI) :=
 GN (e := 56) (by kernel_rfl) (by kernel_rfl) (show 0 < _ from Nat.lt_of_lt_of_eq (show 0 < 3 by decide) (by kernel_rfl)) rd_56
def wfBox (r : Box) : Prop := SR r.X ∧ SR r.Y ∧ SR r.Z ∧ True
def g_Box : (Span × (Span × (Span × Unit))) → Box := (fun r : Span × (Span × (Span × Unit)) => Box.mk r.1 r.2.1 r.2.2.1)
def D_Box : ∀ H : Type, DataW H → Box → Prop := GW g_Box (DK (zD HQ (zD HQ (zD HQ XT))))
theorem und108 : Tryz.prog.underlying 108 = some (.struct #[(Field.mk "X" 26 0 false "" "" 0), (Field.mk "Y" 26 2 false "" "" 16), (Field.mk "Z" 26 4 false "" "" 32)]) := by kernel_rfl
theorem rd_108 : wY Tryz.prog 108 zA wfBox D_Box :=
 yT (jD (fs := #[(Field.mk "X" 26 0 false "" "" 0), (Field.mk "Y" 26 2 false "" "" 16), (Field.mk "Z" 26 4 false "" "" 32)]) und108 (zG (off := 0) qDu (zG (off := 2) qDu (zG (off := 4) qDu (TD 6) rfl (by kernel_rfl)) rfl (by kernel_rfl)) rfl (by kernel_rfl)) (by kernel_rfl)) g_Box (fun _ => rfl) (fun _ => show 6 = _ by kernel_rfl) (fun _ h => h)
def qEH (r : Defect) : Prop := QC r.Kind ∧ wfBox r.Box ∧ True
def qJB : (Int × (Box × Unit)) → Defect := (fun r : Int × (Box × Unit) => Defect.mk r.1 r.2.1)
def qEA : ∀ H : Type, DataW H → Defect → Prop := GW qJB (DK (zD yN (zD D_Box XT)))
theorem und110 : Tryz.prog.underlying 110 = some (.struct #[(Field.mk "Kind" 3 0 false "" "" 0), (Field.mk "Box" 108 1 false "" "" 8)]) := by kernel_rfl
theorem rd_110 : wY Tryz.prog 110 qG qEH qEA :=
 yT (jD (fs := #[(Field.mk "Kind" 3 0 false "" "" 0), (Field.mk "Box" 108 1 false "" "" 8)]) und110 (zG (off := 0) rd_3 (zG (off := 1) rd_108 (TD 7) rfl (by kernel_rfl)) rfl (by kernel_rfl)) (by kernel_rfl)) qJB (fun _ => rfl) (fun _ => show 7 = _ by kernel_rfl) (fun _ h => h)
theorem rd_23 : wY Tryz.prog 23 (fun l : List Defect => [tl qG default l]) (fun l : List Defect => l.length ≤ maxLen ∧ ∀ x ∈ l, qEH x) (D_sl qEA) :=
 GN (e := 110) (by kernel_rfl) (by kernel_rfl) (show 0 < _ from Nat.lt_of_lt_of_eq (show 0 < 7 by decide) (by kernel_rfl)) rd_110
theorem rd_9 : wY Tryz.prog 9 e_str strok qEU := qJn (by kernel_rfl) (by kernel_rfl)
theorem rd_37 : wY Tryz.prog 37 (fun l : List Int => [tl e_i64 default l]) (fun l : List Int => l.length ≤ maxLen ∧ ∀ x ∈ l, QC x) (D_sl yN) :=
 GN (e := 3) (by kernel_rfl) (by kernel_rfl) (show 0 < _ from Nat.lt_of_lt_of_eq (show 0 < 1 by decide) (by kernel_rfl)) rd_3
def qC5 (r : qA) : Prop := strok r.Name ∧ QC r.Thick ∧ QC r.Width ∧ QC r.Allow ∧ QC r.Wane ∧ (fun l : List Int => l.length ≤ maxLen ∧ ∀ x ∈ l, QC x) r.Lengths ∧ (fun l : List Int => l.length ≤ maxLen ∧ ∀ x ∈ l, QC x) r.Prices ∧ True
def qHK : (ByteArray × (Int × (Int × (Int × (Int × ((List Int) × ((List Int) × Unit))))))) → qA := (fun r : ByteArray × (Int × (Int × (Int × (Int × ((List Int) × ((List Int) × Unit)))))) => qA.mk r.1 r.2.1 r.2.2.1 r.2.2.2.1 r.2.2.2.2.1 r.2.2.2.2.2.1 r.2.2.2.2.2.2.1)
def qDb : ∀ H : Type, DataW H → qA → Prop := GW qHK (DK (zD qEU (zD yN (zD yN (zD yN (zD yN (zD (D_sl yN) (zD (D_sl yN) XT))))))))
theorem und58 : Tryz.prog.underlying 58 = some (.struct #[(Field.mk "Name" 9 0 false "" "" 0), (Field.mk "Thick" 3 1 false "" "" 16), (Field.mk "Width" 3 2 false "" "" 24), (Field.mk "Allow" 3 3 false "" "" 32), (Field.mk "Wane" 3 4 false "" "" 40), (Field.mk "Lengths" 37 5 false "" "" 48), (Field.mk "Prices" 37 6 false "" "" 72)]) := by kernel_rfl
theorem rd_58 : wY Tryz.prog 58 qE qC5 qDb :=
 yT (jD (fs := #[(Field.mk "Name" 9 0 false "" "" 0), (Field.mk "Thick" 3 1 false "" "" 16), (Field.mk "Width" 3 2 false "" "" 24), (Field.mk "Allow" 3 3 false "" "" 32), (Field.mk "Wane" 3 4 false "" "" 40), (Field.mk "Lengths" 37 5 false "" "" 48), (Field.mk "Prices" 37 6 false "" "" 72)]) und58 (zG (off := 0) rd_9 (zG (off := 1) rd_3 (zG (off := 2) rd_3 (zG (off := 3) rd_3 (zG (off := 4) rd_3 (zG (off := 5) rd_37 (zG (off := 6) rd_37 (TD 7) rfl (by kernel_rfl)) rfl (by kernel_rfl)) rfl (by kernel_rfl)) rfl (by kernel_rfl)) rfl (by kernel_rfl)) rfl (by kernel_rfl)) rfl (by kernel_rfl)) (by kernel_rfl)) qHK (fun _ => rfl) (fun _ => show 7 = _ by kernel_rfl) (fun _ h => h)
theorem rd_24 : wY Tryz.prog 24 (fun l : List qA => [tl qE default l]) (fun l : List qA => l.length ≤ maxLen ∧ ∀ x ∈ l, qC5 x) (D_sl qDb) :=
 GN (e := 58) (by kernel_rfl) (by kernel_rfl) (show 0 < _ from Nat.lt_of_lt_of_eq (show 0 < 7 by decide) (by kernel_rfl)) rd_58
def qMO (r : Rect) : Prop := SR r.X ∧ SR r.Y ∧ True
def qMq : (Span × (Span × Unit)) → Rect := (fun r : Span × (Span × Unit) => Rect.mk r.1 r.2.1)
def qMA : ∀ H : Type, DataW H → Rect → Prop := GW qMq (DK (zD HQ (zD HQ XT)))
theorem und28 : Tryz.prog.underlying 28 = some (.struct #[(Field.mk "X" 26 0 false "" "" 0), (Field.mk "Y" 26 2 false "" "" 16)]) := by kernel_rfl
theorem rd_28 : wY Tryz.prog 28 qK qMO qMA :=
 yT (jD (fs := #[(Field.mk "X" 26 0 false "" "" 0), (Field.mk "Y" 26 2 false "" "" 16)]) und28 (zG (off := 0) qDu (zG (off := 2) qDu (TD 4) rfl (by kernel_rfl)) rfl (by kernel_rfl)) (by kernel_rfl)) qMq (fun _ => rfl) (fun _ => show 4 = _ by kernel_rfl) (fun _ h => h)
def wfSaw (r : Saw) : Prop := QC r.Kerf ∧ QC r.Trim ∧ QC r.Pitch ∧ QC r.Step ∧ True
def g_Saw : (Int × (Int × (Int × (Int × Unit)))) → Saw := (fun r : Int × (Int × (Int × (Int × Unit))) => Saw.mk r.1 r.2.1 r.2.2.1 r.2.2.2.1)
def D_Saw : ∀ H : Type, DataW H → Saw → Prop := GW g_Saw (DK (zD yN (zD yN (zD yN (zD yN XT)))))
theorem und30 : Tryz.prog.underlying 30 = some (.struct #[(Field.mk "Kerf" 3 0 false "" "" 0), (Field.mk "Trim" 3 1 false "" "" 8), (Field.mk "Pitch" 3 2 false "" "" 16), (Field.mk "Step" 3 3 false "" "" 24)]) := by kernel_rfl
theorem rd_30 : wY Tryz.prog 30 wA wfSaw D_Saw :=
 yT (jD (fs := #[(Field.mk "Kerf" 3 0 false "" "" 0), (Field.mk "Trim" 3 1 false "" "" 8), (Field.mk "Pitch" 3 2 false "" "" 16), (Field.mk "Step" 3 3 false "" "" 24)]) und30 (zG (off := 0) rd_3 (zG (off := 1) rd_3 (zG (off := 2) rd_3 (zG (off := 3) rd_3 (TD 4) rfl (by kernel_rfl)) rfl (by kernel_rfl)) rfl (by kernel_rfl)) rfl (by kernel_rfl)) (by kernel_rfl)) g_Saw (fun _ => rfl) (fun _ => show 4 = _ by kernel_rfl) (fun _ h => h)
def qLb (r : Rates) : Prop := QC r.Chip ∧ QC r.Dust ∧ QC r.Fine ∧ True
def qLg : (Int × (Int × (Int × Unit))) → Rates := (fun r : Int × (Int × (Int × Unit)) => Rates.mk r.1 r.2.1 r.2.2.1)
def qLc : ∀ H : Type, DataW H → Rates → Prop := GW qLg (DK (zD yN (zD yN (zD yN XT))))
theorem und32 : Tryz.prog.underlying 32 = some (.struct #[(Field.mk "Chip" 3 0 false "" "" 0), (Field.mk "Dust" 3 1 false "" "" 8), (Field.mk "Fine" 3 2 false "" "" 16)]) := by kernel_rfl
theorem rd_32 : wY Tryz.prog 32 qW qLb qLc :=
 yT (jD (fs := #[(Field.mk "Chip" 3 0 false "" "" 0), (Field.mk "Dust" 3 1 false "" "" 8), (Field.mk "Fine" 3 2 false "" "" 16)]) und32 (zG (off := 0) rd_3 (zG (off := 1) rd_3 (zG (off := 2) rd_3 (TD 3) rfl (by kernel_rfl)) rfl (by kernel_rfl)) rfl (by kernel_rfl)) (by kernel_rfl)) qLg (fun _ => rfl) (fun _ => show 3 = _ by kernel_rfl) (fun _ h => h)
def qCg (r : qO) : Prop := (fun l : List Slice => l.length ≤ maxLen ∧ ∀ x ∈ l, qHa x) r.Solid ∧ (fun l : List Defect => l.length ≤ maxLen ∧ ∀ x ∈ l, qEH x) r.Defects ∧ (fun l : List qA => l.length ≤ maxLen ∧ ∀ x ∈ l, qC5 x) r.Products ∧ qMO r.Strip ∧ wfSaw r.Saw ∧ qLb r.Rates ∧ True
def qCn : ((List Slice) × ((List Defect) × ((List qA) × (Rect × (Saw × (Rates × Unit)))))) → qO := (fun r : (List Slice) × ((List Defect) × ((List qA) × (Rect × (Saw × (Rates × Unit))))) => qO.mk r.1 r.2.1 r.2.2.1 r.2.2.2.1 r.2.2.2.2.1 r.2.2.2.2.2.1)
def qCd : ∀ H : Type, DataW H → qO → Prop := GW qCn (DK (zD (D_sl qGI) (zD (D_sl qEA) (zD (D_sl qDb) (zD qMA (zD D_Saw (zD qLc XT)))))))
theorem und34 : Tryz.prog.underlying 34 = some (.struct #[(Field.mk "Solid" 22 0 false "" "" 0), (Field.mk "Defects" 23 1 false "" "" 24), (Field.mk "Products" 24 2 false "" "" 48), (Field.mk "Strip" 28 3 false "" "" 72), (Field.mk "Saw" 30 7 false "" "" 104), (Field.mk "Rates" 32 11 false "" "" 136)]) := by kernel_rfl
theorem rd_34 : wY Tryz.prog 34 zK qCg qCd :=
 yT (jD (fs := #[(Field.mk "Solid" 22 0 false "" "" 0), (Field.mk "Defects" 23 1 false "" "" 24), (Field.mk "Products" 24 2 false "" "" 48), (Field.mk "Strip" 28 3 false "" "" 72), (Field.mk "Saw" 30 7 false "" "" 104), (Field.mk "Rates" 32 11 false "" "" 136)]) und34 (zG (off := 0) rd_22 (zG (off := 1) rd_23 (zG (off := 2) rd_24 (zG (off := 3) rd_28 (zG (off := 7) rd_30 (zG (off := 11) rd_32 (TD 14) rfl (by kernel_rfl)) rfl (by kernel_rfl)) rfl (by kernel_rfl)) rfl (by kernel_rfl)) rfl (by kernel_rfl)) rfl (by kernel_rfl)) (by kernel_rfl)) qCn (fun _ => rfl) (fun _ => show 14 = _ by kernel_rfl) (fun _ h => h)
def wfPiece (r : Piece) : Prop := QC r.Size ∧ QC r.At ∧ True
def qF6 : (Int × (Int × Unit)) → Piece := (fun r : Int × (Int × Unit) => Piece.mk r.1 r.2.1)
def D_Piece : ∀ H : Type, DataW H → Piece → Prop := GW qF6 (DK (zD yN (zD yN XT)))
theorem und75 : Tryz.prog.underlying 75 = some (.struct #[(Field.mk "Size" 3 0 false "" "" 0), (Field.mk "At" 3 1 false "" "" 8)]) := by kernel_rfl
theorem rd_75 : wY Tryz.prog 75 jN wfPiece D_Piece :=
 yT (jD (fs := #[(Field.mk "Size" 3 0 false "" "" 0), (Field.mk "At" 3 1 false "" "" 8)]) und75 (zG (off := 0) rd_3 (zG (off := 1) rd_3 (TD 2) rfl (by kernel_rfl)) rfl (by kernel_rfl)) (by kernel_rfl)) qF6 (fun _ => rfl) (fun _ => show 2 = _ by kernel_rfl) (fun _ h => h)
section
variable {H : Type} {enc : TypeId × Value → H} {w : World} {r : Reach} {b0 : Nat} {v : Value} {d : DataW H} {ps : List MemPlace}
theorem open_34 (hval : Value.okWide Tryz.prog w r b0 34 v) (hd : DataW.Trod enc Tryz.prog w 0 (fun _ => true) true 34 v d ps) : ∃ x, qCg x ∧ qCd H d x ∧ qQ w (Mem.of fun _ => True) (.agg (zK x)) v := by
 obtain ⟨x, h1, h2, h3⟩ := qGF rd_34 und34 hval hd
 exact ⟨x, h1, h2, h3⟩
end
theorem qM6 {W : World} (h : laidMetH Tryz.prog YtgpgnlllieekbaaGreatDoor.Rows.edgeLinesRow.laid W) : qDp globs W (fun _ => True) := by
 have h' : laidMet Tryz.prog YtgpgnlllieekbaaGreatDoor.Rows.edgeLinesRow.laid W := h
 obtain ⟨ps, hl, _⟩ := h'
 obtain ⟨cs, e, fz, fuel, p, hh, hd, q, hl⟩ := qMt hl (g := 0) (t := 75) (by kernel_rfl) (by kernel_rfl)
 obtain ⟨x, _, hx2, hx3⟩ := rd_75.rd _ _ _ _ _ _ _ hd
 have hx : x = qEW := by
  obtain ⟨r, rfl, ds, he, d0, rest, h0, hd0, d1, rest', h1, hd1, h2⟩ := hx3
  obtain ⟨a, b, u⟩ := r
  subst h0; subst h1
  unfold yN at hd0 hd1
  subst hd0; subst hd1
  injection he with he
  injection he with e0 he
  injection he with e1 he
  injection e0 with e0
  injection e1 with e1
  injection e0 with _ e0
  injection e1 with _ e1
  simp only at e0 e1
  unfold qF6 qEW
  rw [← e0, ← e1]
 subst hx
 intro g c hc
 unfold globs at hc
 rw [look_cons] at hc
 split at hc
 ·rename_i hg
  subst hg
  cases hc
  exact qMS hh hx2
 ·cases hc
def setAll (cs : Array Value) : Obj → Obj
 | .cells _ t frozen => .cells cs t frozen
 | o => o
/-- A world for the witness: the listed variable holds what its initialiser lays. -/
noncomputable def qDf (os : Os) : World :=
 { World.holding Tryz.prog os ⟨#[], #[], []⟩ with heap := (World.holding Tryz.prog os ⟨#[], #[], []⟩).heap.modify 0 (setAll #[.int .i64 (-1), .int .i64 (-1)]) }
theorem laidOut : laidOutB Tryz.prog = true := by kernel_rfl
theorem own : ownKnob Tryz.prog.godebug = none := by kernel_rfl
end Saw
end Go.SL
