/-
  DERIVED. GIVEN WITH THE SEED: THE CARDS: each row of YthpfocnocgnhjaaGreatDoorRows.lean that lists a variable, with what it lists TIED to the program's text (the seventh form; the later family's looks); each row that meets fmt, with fmt's text TOLD by the authors' own Lean function (tested against real Go, not proved from fmt's source: count such statements apart). THE CARD IS WHAT COUNTS. Prove the row's statement (the work); the ties are given (YthpfocnocgnhjaaGreatDoorTie.lean); close each card by the builder's one call (the guide's Derived/Test/ToyasCard.lean, 'card_holds'). Laid BY PROGRAM, IN A SANDBOX (cutbox-door.mjs). By AI agents, Wed Nov 11 2026. No macro, syntax, notation, axiom, sorry.
-/
import Derived.Test.YthpfocnocgnhjaaGreatDoorRows
import GoSem.ClaimSeven
namespace Go.Proofs.YthpfocnocgnhjaaGreatDoor
namespace Rows

/-- THE TIED CARD OF 'linkboylaw04.LightSums'. -/
def lightSumsCard : Claim7 := { stood := { row := lightSumsRow, standIns := [], harness := (true, "b75abc27d7224dd83ec94adb84d3ea236446437492972a9c6db0cd644c3f5c2c"), looks := false }, kinds := [], alts := [], laidByText := true, laidKinds := [.data, .pinned], laidTests := true, laidLooks := .later }
def LightSumsCardSaid : Prop := Claim7.holds Tryz.pinned (.plain (OpenSpec.ofChange lightSumsSpec)) lightSumsCard

/-- THE SECOND FORM's CARD OF 'linkboylaw04.LightSums'. -/
def lightSumsUptoCard : Claim7 := { stood := { row := lightSumsUptoRow, standIns := [], harness := (true, "b75abc27d7224dd83ec94adb84d3ea236446437492972a9c6db0cd644c3f5c2c"), looks := false }, kinds := [], alts := [], laidByText := true, laidKinds := [.data, .pinned], laidTests := true, laidLooks := .later }
def LightSumsUptoCardSaid : Prop := Claim7.holds Tryz.pinned (.plain (OpenSpec.upto lightSumsSpec)) lightSumsUptoCard
end Rows
end Go.Proofs.YthpfocnocgnhjaaGreatDoor
