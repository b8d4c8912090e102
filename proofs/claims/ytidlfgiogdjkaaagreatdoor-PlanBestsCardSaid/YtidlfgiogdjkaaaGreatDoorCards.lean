/-
  DERIVED. GIVEN WITH THE SEED: THE CARDS: each row of YtidlfgiogdjkaaaGreatDoorRows.lean that lists a variable, with what it lists TIED to the program's text (the seventh form; the later family's looks); each row that meets fmt, with fmt's text TOLD by the authors' own Lean function (tested against real Go, not proved from fmt's source: count such statements apart). THE CARD IS WHAT COUNTS. Prove the row's statement (the work); the ties are given (YtidlfgiogdjkaaaGreatDoorTie.lean); close each card by the builder's one call (the guide's Derived/Test/ToyasCard.lean, 'card_holds'). Laid BY PROGRAM, IN A SANDBOX (cutbox-door.mjs). By AI agents, Wed Nov 11 2026. No macro, syntax, notation, axiom, sorry.
-/
import Derived.Test.YtidlfgiogdjkaaaGreatDoorRows
import GoSem.ClaimSeven
namespace Go.Proofs.YtidlfgiogdjkaaaGreatDoor
namespace Rows

/-- THE TIED CARD OF 'sawmilllaw24.PlanHeights'. -/
def planHeightsCard : Claim7 := { stood := { row := planHeightsRow, standIns := [], harness := (true, "d7d69f0515eaadff2df560a486fa2cd11459c51821e096f0fb786df049c3d206"), looks := false }, kinds := [], alts := [], laidByText := true, laidKinds := [.data], laidTests := true, laidLooks := .later }
def PlanHeightsCardSaid : Prop := Claim7.holds Tryz.pinned (.plain (OpenSpec.ofChange planHeightsSpec)) planHeightsCard

/-- THE TIED CARD OF 'sawmilllaw24.PlanBests'. -/
def planBestsCard : Claim7 := { stood := { row := planBestsRow, standIns := [], harness := (true, "d7d69f0515eaadff2df560a486fa2cd11459c51821e096f0fb786df049c3d206"), looks := false }, kinds := [], alts := [], laidByText := true, laidKinds := [.data], laidTests := true, laidLooks := .later }
def PlanBestsCardSaid : Prop := Claim7.holds Tryz.pinned (.plain (OpenSpec.ofChange planBestsSpec)) planBestsCard

/-- THE TIED CARD OF 'sawmilllaw24.PlanMembers'. -/
def planMembersCard : Claim7 := { stood := { row := planMembersRow, standIns := [], harness := (true, "d7d69f0515eaadff2df560a486fa2cd11459c51821e096f0fb786df049c3d206"), looks := false }, kinds := [], alts := [], laidByText := true, laidKinds := [.data], laidTests := true, laidLooks := .later }
def PlanMembersCardSaid : Prop := Claim7.holds Tryz.pinned (.plain (OpenSpec.ofChange planMembersSpec)) planMembersCard

/-- THE TIED CARD OF 'sawmilllaw24.PlanMore'. -/
def planMoreCard : Claim7 := { stood := { row := planMoreRow, standIns := [], harness := (true, "d7d69f0515eaadff2df560a486fa2cd11459c51821e096f0fb786df049c3d206"), looks := false }, kinds := [], alts := [], laidByText := true, laidKinds := [.data], laidTests := true, laidLooks := .later }
def PlanMoreCardSaid : Prop := Claim7.holds Tryz.pinned (.plain (OpenSpec.ofChange planMoreSpec)) planMoreCard

/-- THE TIED CARD OF 'sawmilllaw24.PlanBelongs'. -/
def planBelongsCard : Claim7 := { stood := { row := planBelongsRow, standIns := [], harness := (true, "d7d69f0515eaadff2df560a486fa2cd11459c51821e096f0fb786df049c3d206"), looks := false }, kinds := [], alts := [], laidByText := true, laidKinds := [.data], laidTests := true, laidLooks := .later }
def PlanBelongsCardSaid : Prop := Claim7.holds Tryz.pinned (.plain (OpenSpec.ofChange planBelongsSpec)) planBelongsCard

/-- THE TIED CARD OF 'sawmilllaw24.PlanYields'. -/
def planYieldsCard : Claim7 := { stood := { row := planYieldsRow, standIns := [], harness := (true, "d7d69f0515eaadff2df560a486fa2cd11459c51821e096f0fb786df049c3d206"), looks := false }, kinds := [], alts := [], laidByText := true, laidKinds := [.data], laidTests := true, laidLooks := .later }
def PlanYieldsCardSaid : Prop := Claim7.holds Tryz.pinned (.plain (OpenSpec.ofChange planYieldsSpec)) planYieldsCard

/-- THE TIED CARD OF 'sawmilllaw24.PlanBest'. -/
def planBestCard : Claim7 := { stood := { row := planBestRow, standIns := [], harness := (true, "d7d69f0515eaadff2df560a486fa2cd11459c51821e096f0fb786df049c3d206"), looks := false }, kinds := [], alts := [], laidByText := true, laidKinds := [.data], laidTests := true, laidLooks := .later }
def PlanBestCardSaid : Prop := Claim7.holds Tryz.pinned (.plain (OpenSpec.ofChange planBestSpec)) planBestCard

/-- THE SECOND FORM's CARD OF 'sawmilllaw24.PlanHeights'. -/
def planHeightsUptoCard : Claim7 := { stood := { row := planHeightsUptoRow, standIns := [], harness := (true, "d7d69f0515eaadff2df560a486fa2cd11459c51821e096f0fb786df049c3d206"), looks := false }, kinds := [], alts := [], laidByText := true, laidKinds := [.data], laidTests := true, laidLooks := .later }
def PlanHeightsUptoCardSaid : Prop := Claim7.holds Tryz.pinned (.plain (OpenSpec.upto planHeightsSpec)) planHeightsUptoCard

/-- THE SECOND FORM's CARD OF 'sawmilllaw24.PlanBests'. -/
def planBestsUptoCard : Claim7 := { stood := { row := planBestsUptoRow, standIns := [], harness := (true, "d7d69f0515eaadff2df560a486fa2cd11459c51821e096f0fb786df049c3d206"), looks := false }, kinds := [], alts := [], laidByText := true, laidKinds := [.data], laidTests := true, laidLooks := .later }
def PlanBestsUptoCardSaid : Prop := Claim7.holds Tryz.pinned (.plain (OpenSpec.upto planBestsSpec)) planBestsUptoCard

/-- THE SECOND FORM's CARD OF 'sawmilllaw24.PlanMembers'. -/
def planMembersUptoCard : Claim7 := { stood := { row := planMembersUptoRow, standIns := [], harness := (true, "d7d69f0515eaadff2df560a486fa2cd11459c51821e096f0fb786df049c3d206"), looks := false }, kinds := [], alts := [], laidByText := true, laidKinds := [.data], laidTests := true, laidLooks := .later }
def PlanMembersUptoCardSaid : Prop := Claim7.holds Tryz.pinned (.plain (OpenSpec.upto planMembersSpec)) planMembersUptoCard

/-- THE SECOND FORM's CARD OF 'sawmilllaw24.PlanMore'. -/
def planMoreUptoCard : Claim7 := { stood := { row := planMoreUptoRow, standIns := [], harness := (true, "d7d69f0515eaadff2df560a486fa2cd11459c51821e096f0fb786df049c3d206"), looks := false }, kinds := [], alts := [], laidByText := true, laidKinds := [.data], laidTests := true, laidLooks := .later }
def PlanMoreUptoCardSaid : Prop := Claim7.holds Tryz.pinned (.plain (OpenSpec.upto planMoreSpec)) planMoreUptoCard

/-- THE SECOND FORM's CARD OF 'sawmilllaw24.PlanBelongs'. -/
def planBelongsUptoCard : Claim7 := { stood := { row := planBelongsUptoRow, standIns := [], harness := (true, "d7d69f0515eaadff2df560a486fa2cd11459c51821e096f0fb786df049c3d206"), looks := false }, kinds := [], alts := [], laidByText := true, laidKinds := [.data], laidTests := true, laidLooks := .later }
def PlanBelongsUptoCardSaid : Prop := Claim7.holds Tryz.pinned (.plain (OpenSpec.upto planBelongsSpec)) planBelongsUptoCard

/-- THE SECOND FORM's CARD OF 'sawmilllaw24.PlanYields'. -/
def planYieldsUptoCard : Claim7 := { stood := { row := planYieldsUptoRow, standIns := [], harness := (true, "d7d69f0515eaadff2df560a486fa2cd11459c51821e096f0fb786df049c3d206"), looks := false }, kinds := [], alts := [], laidByText := true, laidKinds := [.data], laidTests := true, laidLooks := .later }
def PlanYieldsUptoCardSaid : Prop := Claim7.holds Tryz.pinned (.plain (OpenSpec.upto planYieldsSpec)) planYieldsUptoCard

/-- THE SECOND FORM's CARD OF 'sawmilllaw24.PlanBest'. -/
def planBestUptoCard : Claim7 := { stood := { row := planBestUptoRow, standIns := [], harness := (true, "d7d69f0515eaadff2df560a486fa2cd11459c51821e096f0fb786df049c3d206"), looks := false }, kinds := [], alts := [], laidByText := true, laidKinds := [.data], laidTests := true, laidLooks := .later }
def PlanBestUptoCardSaid : Prop := Claim7.holds Tryz.pinned (.plain (OpenSpec.upto planBestSpec)) planBestUptoCard
end Rows
end Go.Proofs.YtidlfgiogdjkaaaGreatDoor
