/-
  DERIVED. GIVEN WITH THE SEED: THE CARDS: each row of YtllggmkhjhjkpaaGreatDoorRows.lean that lists a variable, with what it lists TIED to the program's text (the seventh form; the later family's looks); each row that meets fmt, with fmt's text TOLD by the authors' own Lean function (tested against real Go, not proved from fmt's source: count such statements apart). THE CARD IS WHAT COUNTS. Prove the row's statement (the work); the ties are given (YtllggmkhjhjkpaaGreatDoorTie.lean); close each card by the builder's one call (the guide's Derived/Test/ToyasCard.lean, 'card_holds'). Laid BY PROGRAM, IN A SANDBOX (cutbox-door.mjs). By AI agents, Wed Nov 11 2026. No macro, syntax, notation, axiom, sorry.
-/
import Derived.Test.YtllggmkhjhjkpaaGreatDoorRows
import GoSem.ClaimSeven
namespace Go.Proofs.YtllggmkhjhjkpaaGreatDoor
namespace Rows

/-- THE TIED CARD OF 'linkboylaw04.LightHolds'. -/
def lightHoldsCard : Claim7 := { stood := { row := lightHoldsRow, standIns := [], harness := (true, "c4cc4bebecb6db6dad9906a9255ee6d90c0db6239cca12c0e759778b7d748cb5"), looks := false }, kinds := [], alts := [], laidByText := true, laidKinds := [.data, .pinned], laidTests := true, laidLooks := .later }
def LightHoldsCardSaid : Prop := Claim7.holds Tryz.pinned (.plain (OpenSpec.ofChange lightHoldsSpec)) lightHoldsCard

/-- THE TIED CARD OF 'linkboylaw04.LightMoves'. -/
def lightMovesCard : Claim7 := { stood := { row := lightMovesRow, standIns := [], harness := (true, "c4cc4bebecb6db6dad9906a9255ee6d90c0db6239cca12c0e759778b7d748cb5"), looks := false }, kinds := [], alts := [], laidByText := true, laidKinds := [.data, .pinned], laidTests := true, laidLooks := .later }
def LightMovesCardSaid : Prop := Claim7.holds Tryz.pinned (.plain (OpenSpec.ofChange lightMovesSpec)) lightMovesCard

/-- THE TIED CARD OF 'linkboylaw04.LightShines'. -/
def lightShinesCard : Claim7 := { stood := { row := lightShinesRow, standIns := [], harness := (true, "c4cc4bebecb6db6dad9906a9255ee6d90c0db6239cca12c0e759778b7d748cb5"), looks := false }, kinds := [], alts := [], laidByText := true, laidKinds := [.data, .pinned], laidTests := true, laidLooks := .later }
def LightShinesCardSaid : Prop := Claim7.holds Tryz.pinned (.plain (OpenSpec.ofChange lightShinesSpec)) lightShinesCard

/-- THE TIED CARD OF 'linkboylaw04.LightDims'. -/
def lightDimsCard : Claim7 := { stood := { row := lightDimsRow, standIns := [], harness := (true, "c4cc4bebecb6db6dad9906a9255ee6d90c0db6239cca12c0e759778b7d748cb5"), looks := false }, kinds := [], alts := [], laidByText := true, laidKinds := [.data, .pinned], laidTests := true, laidLooks := .later }
def LightDimsCardSaid : Prop := Claim7.holds Tryz.pinned (.plain (OpenSpec.ofChange lightDimsSpec)) lightDimsCard

/-- THE SECOND FORM's CARD OF 'linkboylaw04.LightHolds'. -/
def lightHoldsUptoCard : Claim7 := { stood := { row := lightHoldsUptoRow, standIns := [], harness := (true, "c4cc4bebecb6db6dad9906a9255ee6d90c0db6239cca12c0e759778b7d748cb5"), looks := false }, kinds := [], alts := [], laidByText := true, laidKinds := [.data, .pinned], laidTests := true, laidLooks := .later }
def LightHoldsUptoCardSaid : Prop := Claim7.holds Tryz.pinned (.plain (OpenSpec.upto lightHoldsSpec)) lightHoldsUptoCard

/-- THE SECOND FORM's CARD OF 'linkboylaw04.LightMoves'. -/
def lightMovesUptoCard : Claim7 := { stood := { row := lightMovesUptoRow, standIns := [], harness := (true, "c4cc4bebecb6db6dad9906a9255ee6d90c0db6239cca12c0e759778b7d748cb5"), looks := false }, kinds := [], alts := [], laidByText := true, laidKinds := [.data, .pinned], laidTests := true, laidLooks := .later }
def LightMovesUptoCardSaid : Prop := Claim7.holds Tryz.pinned (.plain (OpenSpec.upto lightMovesSpec)) lightMovesUptoCard

/-- THE SECOND FORM's CARD OF 'linkboylaw04.LightShines'. -/
def lightShinesUptoCard : Claim7 := { stood := { row := lightShinesUptoRow, standIns := [], harness := (true, "c4cc4bebecb6db6dad9906a9255ee6d90c0db6239cca12c0e759778b7d748cb5"), looks := false }, kinds := [], alts := [], laidByText := true, laidKinds := [.data, .pinned], laidTests := true, laidLooks := .later }
def LightShinesUptoCardSaid : Prop := Claim7.holds Tryz.pinned (.plain (OpenSpec.upto lightShinesSpec)) lightShinesUptoCard

/-- THE SECOND FORM's CARD OF 'linkboylaw04.LightDims'. -/
def lightDimsUptoCard : Claim7 := { stood := { row := lightDimsUptoRow, standIns := [], harness := (true, "c4cc4bebecb6db6dad9906a9255ee6d90c0db6239cca12c0e759778b7d748cb5"), looks := false }, kinds := [], alts := [], laidByText := true, laidKinds := [.data, .pinned], laidTests := true, laidLooks := .later }
def LightDimsUptoCardSaid : Prop := Claim7.holds Tryz.pinned (.plain (OpenSpec.upto lightDimsSpec)) lightDimsUptoCard
end Rows
end Go.Proofs.YtllggmkhjhjkpaaGreatDoor
