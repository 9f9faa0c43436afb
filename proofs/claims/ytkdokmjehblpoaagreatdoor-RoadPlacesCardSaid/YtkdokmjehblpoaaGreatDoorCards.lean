/-
  DERIVED. GIVEN WITH THE SEED: THE CARDS: each row of YtkdokmjehblpoaaGreatDoorRows.lean that lists a variable, with what it lists TIED to the program's text (the seventh form; the later family's looks); each row that meets fmt, with fmt's text TOLD by the authors' own Lean function (tested against real Go, not proved from fmt's source: count such statements apart). THE CARD IS WHAT COUNTS. Prove the row's statement (the work); the ties are given (YtkdokmjehblpoaaGreatDoorTie.lean); close each card by the builder's one call (the guide's Derived/Test/ToyasCard.lean, 'card_holds'). Laid BY PROGRAM, IN A SANDBOX (cutbox-door.mjs). By AI agents, Wed Nov 11 2026. No macro, syntax, notation, axiom, sorry.
-/
import Derived.Test.YtkdokmjehblpoaaGreatDoorRows
import GoSem.ClaimSeven
namespace Go.Proofs.YtkdokmjehblpoaaGreatDoor
namespace Rows

/-- THE TIED CARD OF 'linkboylaw03.RoadShades'. -/
def roadShadesCard : Claim7 := { stood := { row := roadShadesRow, standIns := [], harness := (true, "1c733679ab70d8d316b7ea14a3f71f20299ea1b9e6272b22257803ce8b86b6e7"), looks := false }, kinds := [], alts := [], laidByText := true, laidKinds := [.data, .pinned], laidTests := true, laidLooks := .later }
def RoadShadesCardSaid : Prop := Claim7.holds Tryz.pinned (.plain (OpenSpec.ofChange roadShadesSpec)) roadShadesCard

/-- THE TIED CARD OF 'linkboylaw03.RoadHalves'. -/
def roadHalvesCard : Claim7 := { stood := { row := roadHalvesRow, standIns := [], harness := (true, "1c733679ab70d8d316b7ea14a3f71f20299ea1b9e6272b22257803ce8b86b6e7"), looks := false }, kinds := [], alts := [], laidByText := true, laidKinds := [.data, .pinned], laidTests := true, laidLooks := .later }
def RoadHalvesCardSaid : Prop := Claim7.holds Tryz.pinned (.plain (OpenSpec.ofChange roadHalvesSpec)) roadHalvesCard

/-- THE TIED CARD OF 'linkboylaw03.RoadChecks'. -/
def roadChecksCard : Claim7 := { stood := { row := roadChecksRow, standIns := [], harness := (true, "1c733679ab70d8d316b7ea14a3f71f20299ea1b9e6272b22257803ce8b86b6e7"), looks := false }, kinds := [], alts := [], laidByText := true, laidKinds := [.data, .pinned], laidTests := true, laidLooks := .later }
def RoadChecksCardSaid : Prop := Claim7.holds Tryz.pinned (.plain (OpenSpec.ofChange roadChecksSpec)) roadChecksCard

/-- THE TIED CARD OF 'linkboylaw03.RoadPoints'. -/
def roadPointsCard : Claim7 := { stood := { row := roadPointsRow, standIns := [], harness := (true, "1c733679ab70d8d316b7ea14a3f71f20299ea1b9e6272b22257803ce8b86b6e7"), looks := false }, kinds := [], alts := [], laidByText := true, laidKinds := [.data, .pinned], laidTests := true, laidLooks := .later }
def RoadPointsCardSaid : Prop := Claim7.holds Tryz.pinned (.plain (OpenSpec.ofChange roadPointsSpec)) roadPointsCard

/-- THE TIED CARD OF 'linkboylaw03.RoadGrows'. -/
def roadGrowsCard : Claim7 := { stood := { row := roadGrowsRow, standIns := [], harness := (true, "1c733679ab70d8d316b7ea14a3f71f20299ea1b9e6272b22257803ce8b86b6e7"), looks := false }, kinds := [], alts := [], laidByText := true, laidKinds := [.data, .pinned], laidTests := true, laidLooks := .later }
def RoadGrowsCardSaid : Prop := Claim7.holds Tryz.pinned (.plain (OpenSpec.ofChange roadGrowsSpec)) roadGrowsCard

/-- THE TIED CARD OF 'linkboylaw03.RoadMoves'. -/
def roadMovesCard : Claim7 := { stood := { row := roadMovesRow, standIns := [], harness := (true, "1c733679ab70d8d316b7ea14a3f71f20299ea1b9e6272b22257803ce8b86b6e7"), looks := false }, kinds := [], alts := [], laidByText := true, laidKinds := [.data, .pinned], laidTests := true, laidLooks := .later }
def RoadMovesCardSaid : Prop := Claim7.holds Tryz.pinned (.plain (OpenSpec.ofChange roadMovesSpec)) roadMovesCard

/-- THE TIED CARD OF 'linkboylaw03.RoadFronts'. -/
def roadFrontsCard : Claim7 := { stood := { row := roadFrontsRow, standIns := [], harness := (true, "1c733679ab70d8d316b7ea14a3f71f20299ea1b9e6272b22257803ce8b86b6e7"), looks := false }, kinds := [], alts := [], laidByText := true, laidKinds := [.data, .pinned], laidTests := true, laidLooks := .later }
def RoadFrontsCardSaid : Prop := Claim7.holds Tryz.pinned (.plain (OpenSpec.ofChange roadFrontsSpec)) roadFrontsCard

/-- THE TIED CARD OF 'linkboylaw03.RoadReversed'. -/
def roadReversedCard : Claim7 := { stood := { row := roadReversedRow, standIns := [], harness := (true, "1c733679ab70d8d316b7ea14a3f71f20299ea1b9e6272b22257803ce8b86b6e7"), looks := false }, kinds := [], alts := [], laidByText := true, laidKinds := [.data, .pinned], laidTests := true, laidLooks := .later }
def RoadReversedCardSaid : Prop := Claim7.holds Tryz.pinned (.plain (OpenSpec.ofChange roadReversedSpec)) roadReversedCard

/-- THE TIED CARD OF 'linkboylaw03.RoadPatches'. -/
def roadPatchesCard : Claim7 := { stood := { row := roadPatchesRow, standIns := [], harness := (true, "1c733679ab70d8d316b7ea14a3f71f20299ea1b9e6272b22257803ce8b86b6e7"), looks := false }, kinds := [], alts := [], laidByText := true, laidKinds := [.data, .pinned], laidTests := true, laidLooks := .later }
def RoadPatchesCardSaid : Prop := Claim7.holds Tryz.pinned (.plain (OpenSpec.ofChange roadPatchesSpec)) roadPatchesCard

/-- THE TIED CARD OF 'linkboylaw03.RoadCovered'. -/
def roadCoveredCard : Claim7 := { stood := { row := roadCoveredRow, standIns := [], harness := (true, "1c733679ab70d8d316b7ea14a3f71f20299ea1b9e6272b22257803ce8b86b6e7"), looks := false }, kinds := [], alts := [], laidByText := true, laidKinds := [.data, .pinned], laidTests := true, laidLooks := .later }
def RoadCoveredCardSaid : Prop := Claim7.holds Tryz.pinned (.plain (OpenSpec.ofChange roadCoveredSpec)) roadCoveredCard

/-- THE TIED CARD OF 'linkboylaw03.RoadPlaces'. -/
def roadPlacesCard : Claim7 := { stood := { row := roadPlacesRow, standIns := [], harness := (true, "1c733679ab70d8d316b7ea14a3f71f20299ea1b9e6272b22257803ce8b86b6e7"), looks := false }, kinds := [], alts := [], laidByText := true, laidKinds := [.data, .pinned], laidTests := true, laidLooks := .later }
def RoadPlacesCardSaid : Prop := Claim7.holds Tryz.pinned (.plain (OpenSpec.ofChange roadPlacesSpec)) roadPlacesCard

/-- THE TIED CARD OF 'linkboylaw03.RoadKnown'. -/
def roadKnownCard : Claim7 := { stood := { row := roadKnownRow, standIns := [], harness := (true, "1c733679ab70d8d316b7ea14a3f71f20299ea1b9e6272b22257803ce8b86b6e7"), looks := false }, kinds := [], alts := [], laidByText := true, laidKinds := [.data, .pinned], laidTests := true, laidLooks := .later }
def RoadKnownCardSaid : Prop := Claim7.holds Tryz.pinned (.plain (OpenSpec.ofChange roadKnownSpec)) roadKnownCard

/-- THE SECOND FORM's CARD OF 'linkboylaw03.RoadShades'. -/
def roadShadesUptoCard : Claim7 := { stood := { row := roadShadesUptoRow, standIns := [], harness := (true, "1c733679ab70d8d316b7ea14a3f71f20299ea1b9e6272b22257803ce8b86b6e7"), looks := false }, kinds := [], alts := [], laidByText := true, laidKinds := [.data, .pinned], laidTests := true, laidLooks := .later }
def RoadShadesUptoCardSaid : Prop := Claim7.holds Tryz.pinned (.plain (OpenSpec.upto roadShadesSpec)) roadShadesUptoCard

/-- THE SECOND FORM's CARD OF 'linkboylaw03.RoadHalves'. -/
def roadHalvesUptoCard : Claim7 := { stood := { row := roadHalvesUptoRow, standIns := [], harness := (true, "1c733679ab70d8d316b7ea14a3f71f20299ea1b9e6272b22257803ce8b86b6e7"), looks := false }, kinds := [], alts := [], laidByText := true, laidKinds := [.data, .pinned], laidTests := true, laidLooks := .later }
def RoadHalvesUptoCardSaid : Prop := Claim7.holds Tryz.pinned (.plain (OpenSpec.upto roadHalvesSpec)) roadHalvesUptoCard

/-- THE SECOND FORM's CARD OF 'linkboylaw03.RoadChecks'. -/
def roadChecksUptoCard : Claim7 := { stood := { row := roadChecksUptoRow, standIns := [], harness := (true, "1c733679ab70d8d316b7ea14a3f71f20299ea1b9e6272b22257803ce8b86b6e7"), looks := false }, kinds := [], alts := [], laidByText := true, laidKinds := [.data, .pinned], laidTests := true, laidLooks := .later }
def RoadChecksUptoCardSaid : Prop := Claim7.holds Tryz.pinned (.plain (OpenSpec.upto roadChecksSpec)) roadChecksUptoCard

/-- THE SECOND FORM's CARD OF 'linkboylaw03.RoadPoints'. -/
def roadPointsUptoCard : Claim7 := { stood := { row := roadPointsUptoRow, standIns := [], harness := (true, "1c733679ab70d8d316b7ea14a3f71f20299ea1b9e6272b22257803ce8b86b6e7"), looks := false }, kinds := [], alts := [], laidByText := true, laidKinds := [.data, .pinned], laidTests := true, laidLooks := .later }
def RoadPointsUptoCardSaid : Prop := Claim7.holds Tryz.pinned (.plain (OpenSpec.upto roadPointsSpec)) roadPointsUptoCard

/-- THE SECOND FORM's CARD OF 'linkboylaw03.RoadGrows'. -/
def roadGrowsUptoCard : Claim7 := { stood := { row := roadGrowsUptoRow, standIns := [], harness := (true, "1c733679ab70d8d316b7ea14a3f71f20299ea1b9e6272b22257803ce8b86b6e7"), looks := false }, kinds := [], alts := [], laidByText := true, laidKinds := [.data, .pinned], laidTests := true, laidLooks := .later }
def RoadGrowsUptoCardSaid : Prop := Claim7.holds Tryz.pinned (.plain (OpenSpec.upto roadGrowsSpec)) roadGrowsUptoCard

/-- THE SECOND FORM's CARD OF 'linkboylaw03.RoadMoves'. -/
def roadMovesUptoCard : Claim7 := { stood := { row := roadMovesUptoRow, standIns := [], harness := (true, "1c733679ab70d8d316b7ea14a3f71f20299ea1b9e6272b22257803ce8b86b6e7"), looks := false }, kinds := [], alts := [], laidByText := true, laidKinds := [.data, .pinned], laidTests := true, laidLooks := .later }
def RoadMovesUptoCardSaid : Prop := Claim7.holds Tryz.pinned (.plain (OpenSpec.upto roadMovesSpec)) roadMovesUptoCard

/-- THE SECOND FORM's CARD OF 'linkboylaw03.RoadFronts'. -/
def roadFrontsUptoCard : Claim7 := { stood := { row := roadFrontsUptoRow, standIns := [], harness := (true, "1c733679ab70d8d316b7ea14a3f71f20299ea1b9e6272b22257803ce8b86b6e7"), looks := false }, kinds := [], alts := [], laidByText := true, laidKinds := [.data, .pinned], laidTests := true, laidLooks := .later }
def RoadFrontsUptoCardSaid : Prop := Claim7.holds Tryz.pinned (.plain (OpenSpec.upto roadFrontsSpec)) roadFrontsUptoCard

/-- THE SECOND FORM's CARD OF 'linkboylaw03.RoadReversed'. -/
def roadReversedUptoCard : Claim7 := { stood := { row := roadReversedUptoRow, standIns := [], harness := (true, "1c733679ab70d8d316b7ea14a3f71f20299ea1b9e6272b22257803ce8b86b6e7"), looks := false }, kinds := [], alts := [], laidByText := true, laidKinds := [.data, .pinned], laidTests := true, laidLooks := .later }
def RoadReversedUptoCardSaid : Prop := Claim7.holds Tryz.pinned (.plain (OpenSpec.upto roadReversedSpec)) roadReversedUptoCard

/-- THE SECOND FORM's CARD OF 'linkboylaw03.RoadPatches'. -/
def roadPatchesUptoCard : Claim7 := { stood := { row := roadPatchesUptoRow, standIns := [], harness := (true, "1c733679ab70d8d316b7ea14a3f71f20299ea1b9e6272b22257803ce8b86b6e7"), looks := false }, kinds := [], alts := [], laidByText := true, laidKinds := [.data, .pinned], laidTests := true, laidLooks := .later }
def RoadPatchesUptoCardSaid : Prop := Claim7.holds Tryz.pinned (.plain (OpenSpec.upto roadPatchesSpec)) roadPatchesUptoCard

/-- THE SECOND FORM's CARD OF 'linkboylaw03.RoadCovered'. -/
def roadCoveredUptoCard : Claim7 := { stood := { row := roadCoveredUptoRow, standIns := [], harness := (true, "1c733679ab70d8d316b7ea14a3f71f20299ea1b9e6272b22257803ce8b86b6e7"), looks := false }, kinds := [], alts := [], laidByText := true, laidKinds := [.data, .pinned], laidTests := true, laidLooks := .later }
def RoadCoveredUptoCardSaid : Prop := Claim7.holds Tryz.pinned (.plain (OpenSpec.upto roadCoveredSpec)) roadCoveredUptoCard

/-- THE SECOND FORM's CARD OF 'linkboylaw03.RoadPlaces'. -/
def roadPlacesUptoCard : Claim7 := { stood := { row := roadPlacesUptoRow, standIns := [], harness := (true, "1c733679ab70d8d316b7ea14a3f71f20299ea1b9e6272b22257803ce8b86b6e7"), looks := false }, kinds := [], alts := [], laidByText := true, laidKinds := [.data, .pinned], laidTests := true, laidLooks := .later }
def RoadPlacesUptoCardSaid : Prop := Claim7.holds Tryz.pinned (.plain (OpenSpec.upto roadPlacesSpec)) roadPlacesUptoCard

/-- THE SECOND FORM's CARD OF 'linkboylaw03.RoadKnown'. -/
def roadKnownUptoCard : Claim7 := { stood := { row := roadKnownUptoRow, standIns := [], harness := (true, "1c733679ab70d8d316b7ea14a3f71f20299ea1b9e6272b22257803ce8b86b6e7"), looks := false }, kinds := [], alts := [], laidByText := true, laidKinds := [.data, .pinned], laidTests := true, laidLooks := .later }
def RoadKnownUptoCardSaid : Prop := Claim7.holds Tryz.pinned (.plain (OpenSpec.upto roadKnownSpec)) roadKnownUptoCard
end Rows
end Go.Proofs.YtkdokmjehblpoaaGreatDoor
