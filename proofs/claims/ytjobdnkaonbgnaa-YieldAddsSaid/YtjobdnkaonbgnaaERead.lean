/- The readings of the laws' parameters. -/
import Derived.Test.YtjobdnkaonbgnaaEBase
import Derived.Test.YtjobdnkaonbgnaaYa6
import Derived.Test.YtjobdnkaonbgnaaRows
import Derived.Lib.LaidTab
set_option linter.unusedVariables false
set_option linter.unusedSimpArgs false
namespace Go.SL
namespace Saw
open Go.Proofs Go.RowKit Go.ChangeShapes Go.WideShapes
set_option maxRecDepth 100000
theorem rd_3 : GL Try.prog 3 qL HZ SZ := qEZ (by kernel_rfl) (by kernel_rfl)
def qEg (r : Yield) : Prop := HZ r.Log ∧ HZ r.Boards ∧ HZ r.Chips ∧ HZ r.Dust ∧ HZ r.Value ∧ True
def qEo : (Int × (Int × (Int × (Int × (Int × Unit))))) → Yield := (fun r : Int × (Int × (Int × (Int × (Int × Unit)))) => Yield.mk r.1 r.2.1 r.2.2.1 r.2.2.2.1 r.2.2.2.2.1)
def qEe : ∀ H : Type, DataW H → Yield → Prop := D_map qEo (D_str (NQ SZ (NQ SZ (NQ SZ (NQ SZ (NQ SZ qDv))))))
theorem und41 : Try.prog.underlying 41 = some (.struct #[(Field.mk "Log" 3 0 false "" "" 0), (Field.mk "Boards" 3 1 false "" "" 8), (Field.mk "Chips" 3 2 false "" "" 16), (Field.mk "Dust" 3 3 false "" "" 24), (Field.mk "Value" 3 4 false "" "" 32)]) := by kernel_rfl
theorem rd_41 : GL Try.prog 41 qH qEg qEe :=
 qEO (qDt (fs := #[(Field.mk "Log" 3 0 false "" "" 0), (Field.mk "Boards" 3 1 false "" "" 8), (Field.mk "Chips" 3 2 false "" "" 16), (Field.mk "Dust" 3 3 false "" "" 24), (Field.mk "Value" 3 4 false "" "" 32)]) und41 (HP (off := 0) rd_3 (HP (off := 1) rd_3 (HP (off := 2) rd_3 (HP (off := 3) rd_3 (HP (off := 4) rd_3 (rf_nil 5) rfl (by kernel_rfl)) rfl (by kernel_rfl)) rfl (by kernel_rfl)) rfl (by kernel_rfl)) rfl (by kernel_rfl)) (by kernel_rfl)) qEo (fun _ => rfl) (fun _ => show 5 = _ by kernel_rfl) (fun _ h => h)
section
variable {H : Type} {enc : TypeId × Value → H} {w : World} {r : Reach} {b0 : Nat} {v : Value} {d : DataW H} {ps : List MemPlace}
theorem qEb (hval : Value.okWide Try.prog w r b0 41 v) (hd : DataW.Trod enc Try.prog w 0 (fun _ => true) true 41 v d ps) : ∃ x, qEg x ∧ qEe H d x ∧ qQ w (Mem.of fun _ => True) (.agg (qH x)) v := by
 obtain ⟨x, h1, h2, h3⟩ := qBV rd_41 und41 hval hd
 exact ⟨x, h1, h2, h3⟩
end
theorem qFv {W : World} : NK globs W (fun _ => True) := fun g c h => by cases h
noncomputable def AJ (os : Os) : World := World.holding Try.prog os ⟨#[], #[], []⟩
theorem laidOut : laidOutB Try.prog = true := by kernel_rfl
theorem own : ownKnob Try.prog.godebug = none := by kernel_rfl
end Saw
end Go.SL
