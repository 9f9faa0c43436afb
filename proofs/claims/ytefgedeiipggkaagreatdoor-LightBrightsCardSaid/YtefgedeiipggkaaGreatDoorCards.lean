/-
  DERIVED. GIVEN WITH THE SEED: THE CARDS: each row of YtefgedeiipggkaaGreatDoorRows.lean that lists a variable, with what it lists TIED to the program's text (the seventh form; the later family's looks); each row that meets fmt, with fmt's text TOLD by the authors' own Lean function (tested against real Go, not proved from fmt's source: count such statements apart). THE CARD IS WHAT COUNTS. Prove the row's statement (the work); the ties are given (YtefgedeiipggkaaGreatDoorTie.lean); close each card by the builder's one call (the guide's Derived/Test/ToyasCard.lean, 'card_holds'). Laid BY PROGRAM, IN A SANDBOX (cutbox-door.mjs). By AI agents, Wed Nov 11 2026. No macro, syntax, notation, axiom, sorry.
-/
import Derived.Test.YtefgedeiipggkaaGreatDoorRows
import GoSem.ClaimSeven
namespace Go.Proofs.YtefgedeiipggkaaGreatDoor
namespace Rows

/-- THE TIED CARD OF 'linkboylaw04.LightLuxes'. -/
def lightLuxesCard : Claim7 := { stood := { row := lightLuxesRow, standIns := [], harness := (true, "02511621f7f3cff9786ed33d881f6a1a46a90cac463bb3397d9c62ee79e31115"), looks := false }, kinds := [], alts := [], laidByText := true, laidKinds := [.data, .pinned], laidTests := true, laidLooks := .later }
def LightLuxesCardSaid : Prop := Claim7.holds Tryz.pinned (.plain (OpenSpec.ofChange lightLuxesSpec)) lightLuxesCard

/-- THE TIED CARD OF 'linkboylaw04.LightBrights'. -/
def lightBrightsCard : Claim7 := { stood := { row := lightBrightsRow, standIns := [], harness := (true, "02511621f7f3cff9786ed33d881f6a1a46a90cac463bb3397d9c62ee79e31115"), looks := false }, kinds := [], alts := [], laidByText := true, laidKinds := [.data, .pinned], laidTests := true, laidLooks := .later }
def LightBrightsCardSaid : Prop := Claim7.holds Tryz.pinned (.plain (OpenSpec.ofChange lightBrightsSpec)) lightBrightsCard

/-- THE SECOND FORM's CARD OF 'linkboylaw04.LightLuxes'. -/
def lightLuxesUptoCard : Claim7 := { stood := { row := lightLuxesUptoRow, standIns := [], harness := (true, "02511621f7f3cff9786ed33d881f6a1a46a90cac463bb3397d9c62ee79e31115"), looks := false }, kinds := [], alts := [], laidByText := true, laidKinds := [.data, .pinned], laidTests := true, laidLooks := .later }
def LightLuxesUptoCardSaid : Prop := Claim7.holds Tryz.pinned (.plain (OpenSpec.upto lightLuxesSpec)) lightLuxesUptoCard

/-- THE SECOND FORM's CARD OF 'linkboylaw04.LightBrights'. -/
def lightBrightsUptoCard : Claim7 := { stood := { row := lightBrightsUptoRow, standIns := [], harness := (true, "02511621f7f3cff9786ed33d881f6a1a46a90cac463bb3397d9c62ee79e31115"), looks := false }, kinds := [], alts := [], laidByText := true, laidKinds := [.data, .pinned], laidTests := true, laidLooks := .later }
def LightBrightsUptoCardSaid : Prop := Claim7.holds Tryz.pinned (.plain (OpenSpec.upto lightBrightsSpec)) lightBrightsUptoCard
end Rows
end Go.Proofs.YtefgedeiipggkaaGreatDoor
