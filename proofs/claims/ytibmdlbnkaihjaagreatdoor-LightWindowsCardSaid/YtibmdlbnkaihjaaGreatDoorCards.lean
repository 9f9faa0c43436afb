/-
  DERIVED. GIVEN WITH THE SEED: THE CARDS: each row of YtibmdlbnkaihjaaGreatDoorRows.lean that lists a variable, with what it lists TIED to the program's text (the seventh form; the later family's looks); each row that meets fmt, with fmt's text TOLD by the authors' own Lean function (tested against real Go, not proved from fmt's source: count such statements apart). THE CARD IS WHAT COUNTS. Prove the row's statement (the work); the ties are given (YtibmdlbnkaihjaaGreatDoorTie.lean); close each card by the builder's one call (the guide's Derived/Test/ToyasCard.lean, 'card_holds'). Laid BY PROGRAM, IN A SANDBOX (cutbox-door.mjs). By AI agents, Wed Nov 11 2026. No macro, syntax, notation, axiom, sorry.
-/
import Derived.Test.YtibmdlbnkaihjaaGreatDoorRows
import GoSem.ClaimSeven
namespace Go.Proofs.YtibmdlbnkaihjaaGreatDoor
namespace Rows

/-- THE TIED CARD OF 'linkboylaw04.LightLuxes'. -/
def lightLuxesCard : Claim7 := { stood := { row := lightLuxesRow, standIns := [], harness := (true, "119d9330578a2776099d620f4ceb0b619e3fa123fd508f1988eb42237281061c"), looks := false }, kinds := [], alts := [], laidByText := true, laidKinds := [.data, .pinned], laidTests := true, laidLooks := .later }
def LightLuxesCardSaid : Prop := Claim7.holds Tryz.pinned (.plain (OpenSpec.ofChange lightLuxesSpec)) lightLuxesCard

/-- THE TIED CARD OF 'linkboylaw04.LightBrights'. -/
def lightBrightsCard : Claim7 := { stood := { row := lightBrightsRow, standIns := [], harness := (true, "119d9330578a2776099d620f4ceb0b619e3fa123fd508f1988eb42237281061c"), looks := false }, kinds := [], alts := [], laidByText := true, laidKinds := [.data, .pinned], laidTests := true, laidLooks := .later }
def LightBrightsCardSaid : Prop := Claim7.holds Tryz.pinned (.plain (OpenSpec.ofChange lightBrightsSpec)) lightBrightsCard

/-- THE TIED CARD OF 'linkboylaw04.LightHolds'. -/
def lightHoldsCard : Claim7 := { stood := { row := lightHoldsRow, standIns := [], harness := (true, "119d9330578a2776099d620f4ceb0b619e3fa123fd508f1988eb42237281061c"), looks := false }, kinds := [], alts := [], laidByText := true, laidKinds := [.data, .pinned], laidTests := true, laidLooks := .later }
def LightHoldsCardSaid : Prop := Claim7.holds Tryz.pinned (.plain (OpenSpec.ofChange lightHoldsSpec)) lightHoldsCard

/-- THE TIED CARD OF 'linkboylaw04.LightChecks'. -/
def lightChecksCard : Claim7 := { stood := { row := lightChecksRow, standIns := [], harness := (true, "119d9330578a2776099d620f4ceb0b619e3fa123fd508f1988eb42237281061c"), looks := false }, kinds := [], alts := [], laidByText := true, laidKinds := [.data, .pinned], laidTests := true, laidLooks := .later }
def LightChecksCardSaid : Prop := Claim7.holds Tryz.pinned (.plain (OpenSpec.ofChange lightChecksSpec)) lightChecksCard

/-- THE TIED CARD OF 'linkboylaw04.LightVeils'. -/
def lightVeilsCard : Claim7 := { stood := { row := lightVeilsRow, standIns := [], harness := (true, "119d9330578a2776099d620f4ceb0b619e3fa123fd508f1988eb42237281061c"), looks := false }, kinds := [], alts := [], laidByText := true, laidKinds := [.data, .pinned], laidTests := true, laidLooks := .later }
def LightVeilsCardSaid : Prop := Claim7.holds Tryz.pinned (.plain (OpenSpec.ofChange lightVeilsSpec)) lightVeilsCard

/-- THE TIED CARD OF 'linkboylaw04.LightMoves'. -/
def lightMovesCard : Claim7 := { stood := { row := lightMovesRow, standIns := [], harness := (true, "119d9330578a2776099d620f4ceb0b619e3fa123fd508f1988eb42237281061c"), looks := false }, kinds := [], alts := [], laidByText := true, laidKinds := [.data, .pinned], laidTests := true, laidLooks := .later }
def LightMovesCardSaid : Prop := Claim7.holds Tryz.pinned (.plain (OpenSpec.ofChange lightMovesSpec)) lightMovesCard

/-- THE TIED CARD OF 'linkboylaw04.LightShines'. -/
def lightShinesCard : Claim7 := { stood := { row := lightShinesRow, standIns := [], harness := (true, "119d9330578a2776099d620f4ceb0b619e3fa123fd508f1988eb42237281061c"), looks := false }, kinds := [], alts := [], laidByText := true, laidKinds := [.data, .pinned], laidTests := true, laidLooks := .later }
def LightShinesCardSaid : Prop := Claim7.holds Tryz.pinned (.plain (OpenSpec.ofChange lightShinesSpec)) lightShinesCard

/-- THE TIED CARD OF 'linkboylaw04.LightWindows'. -/
def lightWindowsCard : Claim7 := { stood := { row := lightWindowsRow, standIns := [], harness := (true, "119d9330578a2776099d620f4ceb0b619e3fa123fd508f1988eb42237281061c"), looks := false }, kinds := [], alts := [], laidByText := true, laidKinds := [.data, .pinned], laidTests := true, laidLooks := .later }
def LightWindowsCardSaid : Prop := Claim7.holds Tryz.pinned (.plain (OpenSpec.ofChange lightWindowsSpec)) lightWindowsCard

/-- THE TIED CARD OF 'linkboylaw04.LightSums'. -/
def lightSumsCard : Claim7 := { stood := { row := lightSumsRow, standIns := [], harness := (true, "119d9330578a2776099d620f4ceb0b619e3fa123fd508f1988eb42237281061c"), looks := false }, kinds := [], alts := [], laidByText := true, laidKinds := [.data, .pinned], laidTests := true, laidLooks := .later }
def LightSumsCardSaid : Prop := Claim7.holds Tryz.pinned (.plain (OpenSpec.ofChange lightSumsSpec)) lightSumsCard

/-- THE TIED CARD OF 'linkboylaw04.LightDims'. -/
def lightDimsCard : Claim7 := { stood := { row := lightDimsRow, standIns := [], harness := (true, "119d9330578a2776099d620f4ceb0b619e3fa123fd508f1988eb42237281061c"), looks := false }, kinds := [], alts := [], laidByText := true, laidKinds := [.data, .pinned], laidTests := true, laidLooks := .later }
def LightDimsCardSaid : Prop := Claim7.holds Tryz.pinned (.plain (OpenSpec.ofChange lightDimsSpec)) lightDimsCard

/-- THE TIED CARD OF 'linkboylaw04.LightJudges'. -/
def lightJudgesCard : Claim7 := { stood := { row := lightJudgesRow, standIns := [], harness := (true, "119d9330578a2776099d620f4ceb0b619e3fa123fd508f1988eb42237281061c"), looks := false }, kinds := [], alts := [], laidByText := true, laidKinds := [.data, .pinned], laidTests := true, laidLooks := .later }
def LightJudgesCardSaid : Prop := Claim7.holds Tryz.pinned (.plain (OpenSpec.ofChange lightJudgesSpec)) lightJudgesCard

/-- THE TIED CARD OF 'linkboylaw04.LightClasses'. -/
def lightClassesCard : Claim7 := { stood := { row := lightClassesRow, standIns := [], harness := (true, "119d9330578a2776099d620f4ceb0b619e3fa123fd508f1988eb42237281061c"), looks := false }, kinds := [], alts := [], laidByText := true, laidKinds := [.data, .pinned], laidTests := true, laidLooks := .later }
def LightClassesCardSaid : Prop := Claim7.holds Tryz.pinned (.plain (OpenSpec.ofChange lightClassesSpec)) lightClassesCard

/-- THE SECOND FORM's CARD OF 'linkboylaw04.LightLuxes'. -/
def lightLuxesUptoCard : Claim7 := { stood := { row := lightLuxesUptoRow, standIns := [], harness := (true, "119d9330578a2776099d620f4ceb0b619e3fa123fd508f1988eb42237281061c"), looks := false }, kinds := [], alts := [], laidByText := true, laidKinds := [.data, .pinned], laidTests := true, laidLooks := .later }
def LightLuxesUptoCardSaid : Prop := Claim7.holds Tryz.pinned (.plain (OpenSpec.upto lightLuxesSpec)) lightLuxesUptoCard

/-- THE SECOND FORM's CARD OF 'linkboylaw04.LightBrights'. -/
def lightBrightsUptoCard : Claim7 := { stood := { row := lightBrightsUptoRow, standIns := [], harness := (true, "119d9330578a2776099d620f4ceb0b619e3fa123fd508f1988eb42237281061c"), looks := false }, kinds := [], alts := [], laidByText := true, laidKinds := [.data, .pinned], laidTests := true, laidLooks := .later }
def LightBrightsUptoCardSaid : Prop := Claim7.holds Tryz.pinned (.plain (OpenSpec.upto lightBrightsSpec)) lightBrightsUptoCard

/-- THE SECOND FORM's CARD OF 'linkboylaw04.LightHolds'. -/
def lightHoldsUptoCard : Claim7 := { stood := { row := lightHoldsUptoRow, standIns := [], harness := (true, "119d9330578a2776099d620f4ceb0b619e3fa123fd508f1988eb42237281061c"), looks := false }, kinds := [], alts := [], laidByText := true, laidKinds := [.data, .pinned], laidTests := true, laidLooks := .later }
def LightHoldsUptoCardSaid : Prop := Claim7.holds Tryz.pinned (.plain (OpenSpec.upto lightHoldsSpec)) lightHoldsUptoCard

/-- THE SECOND FORM's CARD OF 'linkboylaw04.LightChecks'. -/
def lightChecksUptoCard : Claim7 := { stood := { row := lightChecksUptoRow, standIns := [], harness := (true, "119d9330578a2776099d620f4ceb0b619e3fa123fd508f1988eb42237281061c"), looks := false }, kinds := [], alts := [], laidByText := true, laidKinds := [.data, .pinned], laidTests := true, laidLooks := .later }
def LightChecksUptoCardSaid : Prop := Claim7.holds Tryz.pinned (.plain (OpenSpec.upto lightChecksSpec)) lightChecksUptoCard

/-- THE SECOND FORM's CARD OF 'linkboylaw04.LightVeils'. -/
def lightVeilsUptoCard : Claim7 := { stood := { row := lightVeilsUptoRow, standIns := [], harness := (true, "119d9330578a2776099d620f4ceb0b619e3fa123fd508f1988eb42237281061c"), looks := false }, kinds := [], alts := [], laidByText := true, laidKinds := [.data, .pinned], laidTests := true, laidLooks := .later }
def LightVeilsUptoCardSaid : Prop := Claim7.holds Tryz.pinned (.plain (OpenSpec.upto lightVeilsSpec)) lightVeilsUptoCard

/-- THE SECOND FORM's CARD OF 'linkboylaw04.LightMoves'. -/
def lightMovesUptoCard : Claim7 := { stood := { row := lightMovesUptoRow, standIns := [], harness := (true, "119d9330578a2776099d620f4ceb0b619e3fa123fd508f1988eb42237281061c"), looks := false }, kinds := [], alts := [], laidByText := true, laidKinds := [.data, .pinned], laidTests := true, laidLooks := .later }
def LightMovesUptoCardSaid : Prop := Claim7.holds Tryz.pinned (.plain (OpenSpec.upto lightMovesSpec)) lightMovesUptoCard

/-- THE SECOND FORM's CARD OF 'linkboylaw04.LightShines'. -/
def lightShinesUptoCard : Claim7 := { stood := { row := lightShinesUptoRow, standIns := [], harness := (true, "119d9330578a2776099d620f4ceb0b619e3fa123fd508f1988eb42237281061c"), looks := false }, kinds := [], alts := [], laidByText := true, laidKinds := [.data, .pinned], laidTests := true, laidLooks := .later }
def LightShinesUptoCardSaid : Prop := Claim7.holds Tryz.pinned (.plain (OpenSpec.upto lightShinesSpec)) lightShinesUptoCard

/-- THE SECOND FORM's CARD OF 'linkboylaw04.LightWindows'. -/
def lightWindowsUptoCard : Claim7 := { stood := { row := lightWindowsUptoRow, standIns := [], harness := (true, "119d9330578a2776099d620f4ceb0b619e3fa123fd508f1988eb42237281061c"), looks := false }, kinds := [], alts := [], laidByText := true, laidKinds := [.data, .pinned], laidTests := true, laidLooks := .later }
def LightWindowsUptoCardSaid : Prop := Claim7.holds Tryz.pinned (.plain (OpenSpec.upto lightWindowsSpec)) lightWindowsUptoCard

/-- THE SECOND FORM's CARD OF 'linkboylaw04.LightSums'. -/
def lightSumsUptoCard : Claim7 := { stood := { row := lightSumsUptoRow, standIns := [], harness := (true, "119d9330578a2776099d620f4ceb0b619e3fa123fd508f1988eb42237281061c"), looks := false }, kinds := [], alts := [], laidByText := true, laidKinds := [.data, .pinned], laidTests := true, laidLooks := .later }
def LightSumsUptoCardSaid : Prop := Claim7.holds Tryz.pinned (.plain (OpenSpec.upto lightSumsSpec)) lightSumsUptoCard

/-- THE SECOND FORM's CARD OF 'linkboylaw04.LightDims'. -/
def lightDimsUptoCard : Claim7 := { stood := { row := lightDimsUptoRow, standIns := [], harness := (true, "119d9330578a2776099d620f4ceb0b619e3fa123fd508f1988eb42237281061c"), looks := false }, kinds := [], alts := [], laidByText := true, laidKinds := [.data, .pinned], laidTests := true, laidLooks := .later }
def LightDimsUptoCardSaid : Prop := Claim7.holds Tryz.pinned (.plain (OpenSpec.upto lightDimsSpec)) lightDimsUptoCard

/-- THE SECOND FORM's CARD OF 'linkboylaw04.LightJudges'. -/
def lightJudgesUptoCard : Claim7 := { stood := { row := lightJudgesUptoRow, standIns := [], harness := (true, "119d9330578a2776099d620f4ceb0b619e3fa123fd508f1988eb42237281061c"), looks := false }, kinds := [], alts := [], laidByText := true, laidKinds := [.data, .pinned], laidTests := true, laidLooks := .later }
def LightJudgesUptoCardSaid : Prop := Claim7.holds Tryz.pinned (.plain (OpenSpec.upto lightJudgesSpec)) lightJudgesUptoCard

/-- THE SECOND FORM's CARD OF 'linkboylaw04.LightClasses'. -/
def lightClassesUptoCard : Claim7 := { stood := { row := lightClassesUptoRow, standIns := [], harness := (true, "119d9330578a2776099d620f4ceb0b619e3fa123fd508f1988eb42237281061c"), looks := false }, kinds := [], alts := [], laidByText := true, laidKinds := [.data, .pinned], laidTests := true, laidLooks := .later }
def LightClassesUptoCardSaid : Prop := Claim7.holds Tryz.pinned (.plain (OpenSpec.upto lightClassesSpec)) lightClassesUptoCard
end Rows
end Go.Proofs.YtibmdlbnkaihjaaGreatDoor
