/-
  NARROWER THAN 'FOR EVERY INPUT', by the rows' own cells (each row's printed sentence says how): LightLuxes: laid · LightBrights: laid · LightHolds: laid · LightChecks: laid · LightVeils: laid · LightMoves: laid · LightShines: laid · LightWindows: laid · LightSums: laid · LightDims: laid · LightJudges: laid · LightClasses: laid.
  DERIVED. THE GIVEN ROWS OF THIS SEAT. 12 by the template 'for every input the law returns true; each argument reads behind the call as it read before'; 0 by the template 'total and deterministic' (their statements: YtibmdlbnkaihjaaGreatDoorTotals.lean).
  GIVEN WITH THE SEED: the statements are not yours to turn. If you find one false, say at which input.
  Laid BY PROGRAM, IN A SANDBOX (cutbox-rows.mjs): the forced cells as the released guide's own fill.sh prints them over the translation e52a4ffd77bec1dd… (all of the seat's roots in one cut). By AI agents, Wed Nov 11 2026. No macro, syntax, notation, axiom, sorry.
-/
import Derived.Test.YtibmdlbnkaihjaaGreatDoorChecked
import GoSem.PinnedTables
import GoSem.Claim
import GoSem.ClaimJoined
import GoSem.ClaimMapViews
import Derived.JoinedTies
import Derived.KernelRfl
namespace Go.Proofs.YtibmdlbnkaihjaaGreatDoor
/- THE CELL 'sum', in the pinned program and in every row, IS THE sha256 OF THE DUMP (.gsa) THAT YtibmdlbnkaihjaaGreatDoorProg.lean LOADS. Nothing in Lean hashes anything: it is a label: what it is worth is what the hold of that sum in a sandbox is worth. -/
noncomputable def Tryz.pinned : Pinned := { name := "ytibmdlbnkaihjaagreatdoor", sum := "e52a4ffd77bec1dd1aa9b7e102144f9e8c770a3dba220bd6a27dc76576106ed1", checked := Tryz.checked }
namespace Rows
def none {H : Type} : Left H := { results := [], args := [] }

/- WHAT THE LISTED PACKAGE-LEVEL VARIABLES READ AS WHEN THE CALL BEGINS. Each datum BY PROGRAM (the guide's laid-datum.mjs) off the statement by which the dump's own 'gosem.cut.vars' lays the variable. In a bare row this is a premise. The card (YtibmdlbnkaihjaaGreatDoorCards.lean) ties it to the program's text. -/
def laid_unicode_utf8_acceptRanges {H : Type} : DataW H := .agg [.agg [.lit (.int .u8 128), .lit (.int .u8 191)], .agg [.lit (.int .u8 160), .lit (.int .u8 191)], .agg [.lit (.int .u8 128), .lit (.int .u8 159)], .agg [.lit (.int .u8 144), .lit (.int .u8 191)], .agg [.lit (.int .u8 128), .lit (.int .u8 143)], .agg [.lit (.int .u8 0), .lit (.int .u8 0)], .agg [.lit (.int .u8 0), .lit (.int .u8 0)], .agg [.lit (.int .u8 0), .lit (.int .u8 0)], .agg [.lit (.int .u8 0), .lit (.int .u8 0)], .agg [.lit (.int .u8 0), .lit (.int .u8 0)], .agg [.lit (.int .u8 0), .lit (.int .u8 0)], .agg [.lit (.int .u8 0), .lit (.int .u8 0)], .agg [.lit (.int .u8 0), .lit (.int .u8 0)], .agg [.lit (.int .u8 0), .lit (.int .u8 0)], .agg [.lit (.int .u8 0), .lit (.int .u8 0)], .agg [.lit (.int .u8 0), .lit (.int .u8 0)]]
/-- One of Go's own tables, pinned by name: the form's constant. -/
def laid_unicode_utf8_first : DataW Unit := Go.Pinned.utf8First

/-- 'linkboylaw04.LightLuxes': WHATEVER THE INPUT: true; the input reads as it did. -/
def lightLuxesSpec : ChangeSpec := { name := "lightLuxes", fn := fun _ => fun
  | [d1, d2] => { results := [.lit (.bool true)], args := [d1, d2] }
  | _ => none }
def lightLuxesRow : OpenClaim := { program := "ytibmdlbnkaihjaagreatdoor", sum := "e52a4ffd77bec1dd1aa9b7e102144f9e8c770a3dba220bd6a27dc76576106ed1", func := "linkboy/linkboylaw04.LightLuxes", spec := "lightLuxes", inPlace := ["internal/bytealg.IndexByteString", "internal/bytealg.IndexString"], unfollowed := true, recurses := true, named := ["unicode/utf8.first", "unicode/utf8.acceptRanges", "internal/bytealg.MaxLen"], apart := false, laid := [("unicode/utf8.acceptRanges", laid_unicode_utf8_acceptRanges), ("unicode/utf8.first", laid_unicode_utf8_first)] }
def LightLuxesSaid : Prop := lightLuxesRow.holds Tryz.pinned (OpenSpec.ofChange lightLuxesSpec)

/-- ITS FALSE NEIGHBOUR: 'it returns false'. Refute it at one input. -/
def lightLuxesWrong : ChangeSpec := { name := "lightLuxes", fn := fun _ => fun
  | [d1, d2] => { results := [.lit (.bool false)], args := [d1, d2] }
  | _ => none }
def LightLuxesWrongFalsely : Prop := lightLuxesRow.holds Tryz.pinned (OpenSpec.ofChange lightLuxesWrong)

/-- 'linkboylaw04.LightBrights': WHATEVER THE INPUT: true; the input reads as it did. -/
def lightBrightsSpec : ChangeSpec := { name := "lightBrights", fn := fun _ => fun
  | [d1, d2, d3] => { results := [.lit (.bool true)], args := [d1, d2, d3] }
  | _ => none }
def lightBrightsRow : OpenClaim := { program := "ytibmdlbnkaihjaagreatdoor", sum := "e52a4ffd77bec1dd1aa9b7e102144f9e8c770a3dba220bd6a27dc76576106ed1", func := "linkboy/linkboylaw04.LightBrights", spec := "lightBrights", inPlace := ["internal/bytealg.IndexByteString", "internal/bytealg.IndexString"], unfollowed := true, recurses := true, named := ["unicode/utf8.first", "unicode/utf8.acceptRanges", "internal/bytealg.MaxLen"], apart := false, laid := [("unicode/utf8.acceptRanges", laid_unicode_utf8_acceptRanges), ("unicode/utf8.first", laid_unicode_utf8_first)] }
def LightBrightsSaid : Prop := lightBrightsRow.holds Tryz.pinned (OpenSpec.ofChange lightBrightsSpec)

/-- ITS FALSE NEIGHBOUR: 'it returns false'. Refute it at one input. -/
def lightBrightsWrong : ChangeSpec := { name := "lightBrights", fn := fun _ => fun
  | [d1, d2, d3] => { results := [.lit (.bool false)], args := [d1, d2, d3] }
  | _ => none }
def LightBrightsWrongFalsely : Prop := lightBrightsRow.holds Tryz.pinned (OpenSpec.ofChange lightBrightsWrong)

/-- 'linkboylaw04.LightHolds': WHATEVER THE INPUT: true; the input reads as it did. -/
def lightHoldsSpec : ChangeSpec := { name := "lightHolds", fn := fun _ => fun
  | [d1, d2, d3] => { results := [.lit (.bool true)], args := [d1, d2, d3] }
  | _ => none }
def lightHoldsRow : OpenClaim := { program := "ytibmdlbnkaihjaagreatdoor", sum := "e52a4ffd77bec1dd1aa9b7e102144f9e8c770a3dba220bd6a27dc76576106ed1", func := "linkboy/linkboylaw04.LightHolds", spec := "lightHolds", inPlace := ["internal/bytealg.IndexByteString", "internal/bytealg.IndexString"], unfollowed := true, recurses := true, named := ["unicode/utf8.first", "unicode/utf8.acceptRanges", "internal/bytealg.MaxLen"], apart := false, laid := [("unicode/utf8.acceptRanges", laid_unicode_utf8_acceptRanges), ("unicode/utf8.first", laid_unicode_utf8_first)] }
def LightHoldsSaid : Prop := lightHoldsRow.holds Tryz.pinned (OpenSpec.ofChange lightHoldsSpec)

/-- ITS FALSE NEIGHBOUR: 'it returns false'. Refute it at one input. -/
def lightHoldsWrong : ChangeSpec := { name := "lightHolds", fn := fun _ => fun
  | [d1, d2, d3] => { results := [.lit (.bool false)], args := [d1, d2, d3] }
  | _ => none }
def LightHoldsWrongFalsely : Prop := lightHoldsRow.holds Tryz.pinned (OpenSpec.ofChange lightHoldsWrong)

/-- 'linkboylaw04.LightChecks': WHATEVER THE INPUT: true; the input reads as it did. -/
def lightChecksSpec : ChangeSpec := { name := "lightChecks", fn := fun _ => fun
  | [d1, d2, d3] => { results := [.lit (.bool true)], args := [d1, d2, d3] }
  | _ => none }
def lightChecksRow : OpenClaim := { program := "ytibmdlbnkaihjaagreatdoor", sum := "e52a4ffd77bec1dd1aa9b7e102144f9e8c770a3dba220bd6a27dc76576106ed1", func := "linkboy/linkboylaw04.LightChecks", spec := "lightChecks", inPlace := ["internal/bytealg.IndexByteString", "internal/bytealg.IndexString"], unfollowed := true, recurses := true, named := ["unicode/utf8.first", "unicode/utf8.acceptRanges", "internal/bytealg.MaxLen"], apart := false, laid := [("unicode/utf8.acceptRanges", laid_unicode_utf8_acceptRanges), ("unicode/utf8.first", laid_unicode_utf8_first)] }
def LightChecksSaid : Prop := lightChecksRow.holds Tryz.pinned (OpenSpec.ofChange lightChecksSpec)

/-- ITS FALSE NEIGHBOUR: 'it returns false'. Refute it at one input. -/
def lightChecksWrong : ChangeSpec := { name := "lightChecks", fn := fun _ => fun
  | [d1, d2, d3] => { results := [.lit (.bool false)], args := [d1, d2, d3] }
  | _ => none }
def LightChecksWrongFalsely : Prop := lightChecksRow.holds Tryz.pinned (OpenSpec.ofChange lightChecksWrong)

/-- 'linkboylaw04.LightVeils': WHATEVER THE INPUT: true; the input reads as it did. -/
def lightVeilsSpec : ChangeSpec := { name := "lightVeils", fn := fun _ => fun
  | [d1, d2] => { results := [.lit (.bool true)], args := [d1, d2] }
  | _ => none }
def lightVeilsRow : OpenClaim := { program := "ytibmdlbnkaihjaagreatdoor", sum := "e52a4ffd77bec1dd1aa9b7e102144f9e8c770a3dba220bd6a27dc76576106ed1", func := "linkboy/linkboylaw04.LightVeils", spec := "lightVeils", inPlace := ["internal/bytealg.IndexByteString", "internal/bytealg.IndexString"], unfollowed := true, recurses := true, named := ["unicode/utf8.first", "unicode/utf8.acceptRanges", "internal/bytealg.MaxLen"], apart := false, laid := [("unicode/utf8.acceptRanges", laid_unicode_utf8_acceptRanges), ("unicode/utf8.first", laid_unicode_utf8_first)] }
def LightVeilsSaid : Prop := lightVeilsRow.holds Tryz.pinned (OpenSpec.ofChange lightVeilsSpec)

/-- ITS FALSE NEIGHBOUR: 'it returns false'. Refute it at one input. -/
def lightVeilsWrong : ChangeSpec := { name := "lightVeils", fn := fun _ => fun
  | [d1, d2] => { results := [.lit (.bool false)], args := [d1, d2] }
  | _ => none }
def LightVeilsWrongFalsely : Prop := lightVeilsRow.holds Tryz.pinned (OpenSpec.ofChange lightVeilsWrong)

/-- 'linkboylaw04.LightMoves': WHATEVER THE INPUT: true; the input reads as it did. -/
def lightMovesSpec : ChangeSpec := { name := "lightMoves", fn := fun _ => fun
  | [d1, d2, d3] => { results := [.lit (.bool true)], args := [d1, d2, d3] }
  | _ => none }
def lightMovesRow : OpenClaim := { program := "ytibmdlbnkaihjaagreatdoor", sum := "e52a4ffd77bec1dd1aa9b7e102144f9e8c770a3dba220bd6a27dc76576106ed1", func := "linkboy/linkboylaw04.LightMoves", spec := "lightMoves", inPlace := ["internal/bytealg.IndexByteString", "internal/bytealg.IndexString"], unfollowed := true, recurses := true, named := ["unicode/utf8.first", "unicode/utf8.acceptRanges", "internal/bytealg.MaxLen"], apart := false, laid := [("unicode/utf8.acceptRanges", laid_unicode_utf8_acceptRanges), ("unicode/utf8.first", laid_unicode_utf8_first)] }
def LightMovesSaid : Prop := lightMovesRow.holds Tryz.pinned (OpenSpec.ofChange lightMovesSpec)

/-- ITS FALSE NEIGHBOUR: 'it returns false'. Refute it at one input. -/
def lightMovesWrong : ChangeSpec := { name := "lightMoves", fn := fun _ => fun
  | [d1, d2, d3] => { results := [.lit (.bool false)], args := [d1, d2, d3] }
  | _ => none }
def LightMovesWrongFalsely : Prop := lightMovesRow.holds Tryz.pinned (OpenSpec.ofChange lightMovesWrong)

/-- 'linkboylaw04.LightShines': WHATEVER THE INPUT: true; the input reads as it did. -/
def lightShinesSpec : ChangeSpec := { name := "lightShines", fn := fun _ => fun
  | [d1, d2, d3] => { results := [.lit (.bool true)], args := [d1, d2, d3] }
  | _ => none }
def lightShinesRow : OpenClaim := { program := "ytibmdlbnkaihjaagreatdoor", sum := "e52a4ffd77bec1dd1aa9b7e102144f9e8c770a3dba220bd6a27dc76576106ed1", func := "linkboy/linkboylaw04.LightShines", spec := "lightShines", inPlace := ["internal/bytealg.IndexByteString", "internal/bytealg.IndexString"], unfollowed := true, recurses := true, named := ["unicode/utf8.first", "unicode/utf8.acceptRanges", "internal/bytealg.MaxLen"], apart := false, laid := [("unicode/utf8.acceptRanges", laid_unicode_utf8_acceptRanges), ("unicode/utf8.first", laid_unicode_utf8_first)] }
def LightShinesSaid : Prop := lightShinesRow.holds Tryz.pinned (OpenSpec.ofChange lightShinesSpec)

/-- ITS FALSE NEIGHBOUR: 'it returns false'. Refute it at one input. -/
def lightShinesWrong : ChangeSpec := { name := "lightShines", fn := fun _ => fun
  | [d1, d2, d3] => { results := [.lit (.bool false)], args := [d1, d2, d3] }
  | _ => none }
def LightShinesWrongFalsely : Prop := lightShinesRow.holds Tryz.pinned (OpenSpec.ofChange lightShinesWrong)

/-- 'linkboylaw04.LightWindows': WHATEVER THE INPUT: true; the input reads as it did. -/
def lightWindowsSpec : ChangeSpec := { name := "lightWindows", fn := fun _ => fun
  | [d1, d2, d3] => { results := [.lit (.bool true)], args := [d1, d2, d3] }
  | _ => none }
def lightWindowsRow : OpenClaim := { program := "ytibmdlbnkaihjaagreatdoor", sum := "e52a4ffd77bec1dd1aa9b7e102144f9e8c770a3dba220bd6a27dc76576106ed1", func := "linkboy/linkboylaw04.LightWindows", spec := "lightWindows", inPlace := ["internal/bytealg.IndexByteString", "internal/bytealg.IndexString"], unfollowed := true, recurses := true, named := ["unicode/utf8.first", "unicode/utf8.acceptRanges", "internal/bytealg.MaxLen"], apart := false, laid := [("unicode/utf8.acceptRanges", laid_unicode_utf8_acceptRanges), ("unicode/utf8.first", laid_unicode_utf8_first)] }
def LightWindowsSaid : Prop := lightWindowsRow.holds Tryz.pinned (OpenSpec.ofChange lightWindowsSpec)

/-- ITS FALSE NEIGHBOUR: 'it returns false'. Refute it at one input. -/
def lightWindowsWrong : ChangeSpec := { name := "lightWindows", fn := fun _ => fun
  | [d1, d2, d3] => { results := [.lit (.bool false)], args := [d1, d2, d3] }
  | _ => none }
def LightWindowsWrongFalsely : Prop := lightWindowsRow.holds Tryz.pinned (OpenSpec.ofChange lightWindowsWrong)

/-- 'linkboylaw04.LightSums': WHATEVER THE INPUT: true; the input reads as it did. -/
def lightSumsSpec : ChangeSpec := { name := "lightSums", fn := fun _ => fun
  | [d1, d2] => { results := [.lit (.bool true)], args := [d1, d2] }
  | _ => none }
def lightSumsRow : OpenClaim := { program := "ytibmdlbnkaihjaagreatdoor", sum := "e52a4ffd77bec1dd1aa9b7e102144f9e8c770a3dba220bd6a27dc76576106ed1", func := "linkboy/linkboylaw04.LightSums", spec := "lightSums", inPlace := ["internal/bytealg.IndexByteString", "internal/bytealg.IndexString"], unfollowed := true, recurses := true, named := ["unicode/utf8.first", "unicode/utf8.acceptRanges", "internal/bytealg.MaxLen"], apart := false, laid := [("unicode/utf8.acceptRanges", laid_unicode_utf8_acceptRanges), ("unicode/utf8.first", laid_unicode_utf8_first)] }
def LightSumsSaid : Prop := lightSumsRow.holds Tryz.pinned (OpenSpec.ofChange lightSumsSpec)

/-- ITS FALSE NEIGHBOUR: 'it returns false'. Refute it at one input. -/
def lightSumsWrong : ChangeSpec := { name := "lightSums", fn := fun _ => fun
  | [d1, d2] => { results := [.lit (.bool false)], args := [d1, d2] }
  | _ => none }
def LightSumsWrongFalsely : Prop := lightSumsRow.holds Tryz.pinned (OpenSpec.ofChange lightSumsWrong)

/-- 'linkboylaw04.LightDims': WHATEVER THE INPUT: true; the input reads as it did. -/
def lightDimsSpec : ChangeSpec := { name := "lightDims", fn := fun _ => fun
  | [d1, d2, d3] => { results := [.lit (.bool true)], args := [d1, d2, d3] }
  | _ => none }
def lightDimsRow : OpenClaim := { program := "ytibmdlbnkaihjaagreatdoor", sum := "e52a4ffd77bec1dd1aa9b7e102144f9e8c770a3dba220bd6a27dc76576106ed1", func := "linkboy/linkboylaw04.LightDims", spec := "lightDims", inPlace := ["internal/bytealg.IndexByteString", "internal/bytealg.IndexString"], unfollowed := true, recurses := true, named := ["unicode/utf8.first", "unicode/utf8.acceptRanges", "internal/bytealg.MaxLen"], apart := false, laid := [("unicode/utf8.acceptRanges", laid_unicode_utf8_acceptRanges), ("unicode/utf8.first", laid_unicode_utf8_first)] }
def LightDimsSaid : Prop := lightDimsRow.holds Tryz.pinned (OpenSpec.ofChange lightDimsSpec)

/-- ITS FALSE NEIGHBOUR: 'it returns false'. Refute it at one input. -/
def lightDimsWrong : ChangeSpec := { name := "lightDims", fn := fun _ => fun
  | [d1, d2, d3] => { results := [.lit (.bool false)], args := [d1, d2, d3] }
  | _ => none }
def LightDimsWrongFalsely : Prop := lightDimsRow.holds Tryz.pinned (OpenSpec.ofChange lightDimsWrong)

/-- 'linkboylaw04.LightJudges': WHATEVER THE INPUT: true; the input reads as it did. -/
def lightJudgesSpec : ChangeSpec := { name := "lightJudges", fn := fun _ => fun
  | [d1, d2, d3] => { results := [.lit (.bool true)], args := [d1, d2, d3] }
  | _ => none }
def lightJudgesRow : OpenClaim := { program := "ytibmdlbnkaihjaagreatdoor", sum := "e52a4ffd77bec1dd1aa9b7e102144f9e8c770a3dba220bd6a27dc76576106ed1", func := "linkboy/linkboylaw04.LightJudges", spec := "lightJudges", inPlace := ["internal/bytealg.IndexByteString", "internal/bytealg.IndexString"], unfollowed := true, recurses := true, named := ["unicode/utf8.first", "unicode/utf8.acceptRanges", "internal/bytealg.MaxLen"], apart := false, laid := [("unicode/utf8.acceptRanges", laid_unicode_utf8_acceptRanges), ("unicode/utf8.first", laid_unicode_utf8_first)] }
def LightJudgesSaid : Prop := lightJudgesRow.holds Tryz.pinned (OpenSpec.ofChange lightJudgesSpec)

/-- ITS FALSE NEIGHBOUR: 'it returns false'. Refute it at one input. -/
def lightJudgesWrong : ChangeSpec := { name := "lightJudges", fn := fun _ => fun
  | [d1, d2, d3] => { results := [.lit (.bool false)], args := [d1, d2, d3] }
  | _ => none }
def LightJudgesWrongFalsely : Prop := lightJudgesRow.holds Tryz.pinned (OpenSpec.ofChange lightJudgesWrong)

/-- 'linkboylaw04.LightClasses': WHATEVER THE INPUT: true; the input reads as it did. -/
def lightClassesSpec : ChangeSpec := { name := "lightClasses", fn := fun _ => fun
  | [d1, d2, d3] => { results := [.lit (.bool true)], args := [d1, d2, d3] }
  | _ => none }
def lightClassesRow : OpenClaim := { program := "ytibmdlbnkaihjaagreatdoor", sum := "e52a4ffd77bec1dd1aa9b7e102144f9e8c770a3dba220bd6a27dc76576106ed1", func := "linkboy/linkboylaw04.LightClasses", spec := "lightClasses", inPlace := ["internal/bytealg.IndexByteString", "internal/bytealg.IndexString"], unfollowed := true, recurses := true, named := ["unicode/utf8.first", "unicode/utf8.acceptRanges", "internal/bytealg.MaxLen"], apart := false, laid := [("unicode/utf8.acceptRanges", laid_unicode_utf8_acceptRanges), ("unicode/utf8.first", laid_unicode_utf8_first)] }
def LightClassesSaid : Prop := lightClassesRow.holds Tryz.pinned (OpenSpec.ofChange lightClassesSpec)

/-- ITS FALSE NEIGHBOUR: 'it returns false'. Refute it at one input. -/
def lightClassesWrong : ChangeSpec := { name := "lightClasses", fn := fun _ => fun
  | [d1, d2, d3] => { results := [.lit (.bool false)], args := [d1, d2, d3] }
  | _ => none }
def LightClassesWrongFalsely : Prop := lightClassesRow.holds Tryz.pinned (OpenSpec.ofChange lightClassesWrong)

/- THE SECOND FORM. 'bulk': how many values and letters a reading holds, each counted each time it is reached (what is shared counts as often as it is met; a slice's spare places count too). A statement '..UptoSaid' is the law's where the arguments, and the package variables that the reading takes, are together of bulk at most 1048576: NARROWER than '..Said'. Prove '..Said' where nothing that the law and all that it calls make is longer than what came in: it says more and counts as full. Else prove '..UptoSaid'. A law counts once. -/
mutual
def uptoBulk {H : Type} : DataW H → Nat
  | .lit (.string bytes) => bytes.length + 1
  | .lit _ => 1
  | .nil => 1
  | .ptr d => uptoBulk d + 1
  | .slice elems spare => uptoBulkAll elems + uptoBulkAll spare + 1
  | .agg parts => uptoBulkAll parts + 1
  | .iface _ d => uptoBulk d + 1
  | .map entries => uptoBulkEntries entries + 1
  | .held _ => 1
def uptoBulkAll {H : Type} : List (DataW H) → Nat
  | [] => 0
  | d :: r => uptoBulk d + uptoBulkAll r
def uptoBulkEntries {H : Type} : List (Lit × DataW H) → Nat
  | [] => 0
  | x :: r => uptoBulkEntry x + uptoBulkEntries r
def uptoBulkEntry {H : Type} : Lit × DataW H → Nat
  | (.string bytes, d) => bytes.length + uptoBulk d + 1
  | (_, d) => uptoBulk d + 1
 end
def uptoSmall : (H : Type) → List (DataW H) → Bool := fun _ ds => decide (uptoBulkAll ds ≤ 1048576)
def OpenSpec.upto (s : _root_.Go.ChangeSpec) : _root_.Go.OpenSpec := { _root_.Go.OpenSpec.ofChange s with cond := some uptoSmall }

/-- 'linkboylaw04.LightLuxes', WHERE WHAT IT READS IS OF BULK AT MOST 1048576: true; the input reads as it did. -/
def lightLuxesUptoRow : OpenClaim := { program := "ytibmdlbnkaihjaagreatdoor", sum := "e52a4ffd77bec1dd1aa9b7e102144f9e8c770a3dba220bd6a27dc76576106ed1", func := "linkboy/linkboylaw04.LightLuxes", spec := "lightLuxes", inPlace := ["internal/bytealg.IndexByteString", "internal/bytealg.IndexString"], unfollowed := true, recurses := true, named := ["unicode/utf8.first", "unicode/utf8.acceptRanges", "internal/bytealg.MaxLen"], apart := false, laid := [("unicode/utf8.acceptRanges", laid_unicode_utf8_acceptRanges), ("unicode/utf8.first", laid_unicode_utf8_first)], narrowed := true }
def LightLuxesUptoSaid : Prop := lightLuxesUptoRow.holds Tryz.pinned (OpenSpec.upto lightLuxesSpec)

/-- 'linkboylaw04.LightBrights', WHERE WHAT IT READS IS OF BULK AT MOST 1048576: true; the input reads as it did. -/
def lightBrightsUptoRow : OpenClaim := { program := "ytibmdlbnkaihjaagreatdoor", sum := "e52a4ffd77bec1dd1aa9b7e102144f9e8c770a3dba220bd6a27dc76576106ed1", func := "linkboy/linkboylaw04.LightBrights", spec := "lightBrights", inPlace := ["internal/bytealg.IndexByteString", "internal/bytealg.IndexString"], unfollowed := true, recurses := true, named := ["unicode/utf8.first", "unicode/utf8.acceptRanges", "internal/bytealg.MaxLen"], apart := false, laid := [("unicode/utf8.acceptRanges", laid_unicode_utf8_acceptRanges), ("unicode/utf8.first", laid_unicode_utf8_first)], narrowed := true }
def LightBrightsUptoSaid : Prop := lightBrightsUptoRow.holds Tryz.pinned (OpenSpec.upto lightBrightsSpec)

/-- 'linkboylaw04.LightHolds', WHERE WHAT IT READS IS OF BULK AT MOST 1048576: true; the input reads as it did. -/
def lightHoldsUptoRow : OpenClaim := { program := "ytibmdlbnkaihjaagreatdoor", sum := "e52a4ffd77bec1dd1aa9b7e102144f9e8c770a3dba220bd6a27dc76576106ed1", func := "linkboy/linkboylaw04.LightHolds", spec := "lightHolds", inPlace := ["internal/bytealg.IndexByteString", "internal/bytealg.IndexString"], unfollowed := true, recurses := true, named := ["unicode/utf8.first", "unicode/utf8.acceptRanges", "internal/bytealg.MaxLen"], apart := false, laid := [("unicode/utf8.acceptRanges", laid_unicode_utf8_acceptRanges), ("unicode/utf8.first", laid_unicode_utf8_first)], narrowed := true }
def LightHoldsUptoSaid : Prop := lightHoldsUptoRow.holds Tryz.pinned (OpenSpec.upto lightHoldsSpec)

/-- 'linkboylaw04.LightChecks', WHERE WHAT IT READS IS OF BULK AT MOST 1048576: true; the input reads as it did. -/
def lightChecksUptoRow : OpenClaim := { program := "ytibmdlbnkaihjaagreatdoor", sum := "e52a4ffd77bec1dd1aa9b7e102144f9e8c770a3dba220bd6a27dc76576106ed1", func := "linkboy/linkboylaw04.LightChecks", spec := "lightChecks", inPlace := ["internal/bytealg.IndexByteString", "internal/bytealg.IndexString"], unfollowed := true, recurses := true, named := ["unicode/utf8.first", "unicode/utf8.acceptRanges", "internal/bytealg.MaxLen"], apart := false, laid := [("unicode/utf8.acceptRanges", laid_unicode_utf8_acceptRanges), ("unicode/utf8.first", laid_unicode_utf8_first)], narrowed := true }
def LightChecksUptoSaid : Prop := lightChecksUptoRow.holds Tryz.pinned (OpenSpec.upto lightChecksSpec)

/-- 'linkboylaw04.LightVeils', WHERE WHAT IT READS IS OF BULK AT MOST 1048576: true; the input reads as it did. -/
def lightVeilsUptoRow : OpenClaim := { program := "ytibmdlbnkaihjaagreatdoor", sum := "e52a4ffd77bec1dd1aa9b7e102144f9e8c770a3dba220bd6a27dc76576106ed1", func := "linkboy/linkboylaw04.LightVeils", spec := "lightVeils", inPlace := ["internal/bytealg.IndexByteString", "internal/bytealg.IndexString"], unfollowed := true, recurses := true, named := ["unicode/utf8.first", "unicode/utf8.acceptRanges", "internal/bytealg.MaxLen"], apart := false, laid := [("unicode/utf8.acceptRanges", laid_unicode_utf8_acceptRanges), ("unicode/utf8.first", laid_unicode_utf8_first)], narrowed := true }
def LightVeilsUptoSaid : Prop := lightVeilsUptoRow.holds Tryz.pinned (OpenSpec.upto lightVeilsSpec)

/-- 'linkboylaw04.LightMoves', WHERE WHAT IT READS IS OF BULK AT MOST 1048576: true; the input reads as it did. -/
def lightMovesUptoRow : OpenClaim := { program := "ytibmdlbnkaihjaagreatdoor", sum := "e52a4ffd77bec1dd1aa9b7e102144f9e8c770a3dba220bd6a27dc76576106ed1", func := "linkboy/linkboylaw04.LightMoves", spec := "lightMoves", inPlace := ["internal/bytealg.IndexByteString", "internal/bytealg.IndexString"], unfollowed := true, recurses := true, named := ["unicode/utf8.first", "unicode/utf8.acceptRanges", "internal/bytealg.MaxLen"], apart := false, laid := [("unicode/utf8.acceptRanges", laid_unicode_utf8_acceptRanges), ("unicode/utf8.first", laid_unicode_utf8_first)], narrowed := true }
def LightMovesUptoSaid : Prop := lightMovesUptoRow.holds Tryz.pinned (OpenSpec.upto lightMovesSpec)

/-- 'linkboylaw04.LightShines', WHERE WHAT IT READS IS OF BULK AT MOST 1048576: true; the input reads as it did. -/
def lightShinesUptoRow : OpenClaim := { program := "ytibmdlbnkaihjaagreatdoor", sum := "e52a4ffd77bec1dd1aa9b7e102144f9e8c770a3dba220bd6a27dc76576106ed1", func := "linkboy/linkboylaw04.LightShines", spec := "lightShines", inPlace := ["internal/bytealg.IndexByteString", "internal/bytealg.IndexString"], unfollowed := true, recurses := true, named := ["unicode/utf8.first", "unicode/utf8.acceptRanges", "internal/bytealg.MaxLen"], apart := false, laid := [("unicode/utf8.acceptRanges", laid_unicode_utf8_acceptRanges), ("unicode/utf8.first", laid_unicode_utf8_first)], narrowed := true }
def LightShinesUptoSaid : Prop := lightShinesUptoRow.holds Tryz.pinned (OpenSpec.upto lightShinesSpec)

/-- 'linkboylaw04.LightWindows', WHERE WHAT IT READS IS OF BULK AT MOST 1048576: true; the input reads as it did. -/
def lightWindowsUptoRow : OpenClaim := { program := "ytibmdlbnkaihjaagreatdoor", sum := "e52a4ffd77bec1dd1aa9b7e102144f9e8c770a3dba220bd6a27dc76576106ed1", func := "linkboy/linkboylaw04.LightWindows", spec := "lightWindows", inPlace := ["internal/bytealg.IndexByteString", "internal/bytealg.IndexString"], unfollowed := true, recurses := true, named := ["unicode/utf8.first", "unicode/utf8.acceptRanges", "internal/bytealg.MaxLen"], apart := false, laid := [("unicode/utf8.acceptRanges", laid_unicode_utf8_acceptRanges), ("unicode/utf8.first", laid_unicode_utf8_first)], narrowed := true }
def LightWindowsUptoSaid : Prop := lightWindowsUptoRow.holds Tryz.pinned (OpenSpec.upto lightWindowsSpec)

/-- 'linkboylaw04.LightSums', WHERE WHAT IT READS IS OF BULK AT MOST 1048576: true; the input reads as it did. -/
def lightSumsUptoRow : OpenClaim := { program := "ytibmdlbnkaihjaagreatdoor", sum := "e52a4ffd77bec1dd1aa9b7e102144f9e8c770a3dba220bd6a27dc76576106ed1", func := "linkboy/linkboylaw04.LightSums", spec := "lightSums", inPlace := ["internal/bytealg.IndexByteString", "internal/bytealg.IndexString"], unfollowed := true, recurses := true, named := ["unicode/utf8.first", "unicode/utf8.acceptRanges", "internal/bytealg.MaxLen"], apart := false, laid := [("unicode/utf8.acceptRanges", laid_unicode_utf8_acceptRanges), ("unicode/utf8.first", laid_unicode_utf8_first)], narrowed := true }
def LightSumsUptoSaid : Prop := lightSumsUptoRow.holds Tryz.pinned (OpenSpec.upto lightSumsSpec)

/-- 'linkboylaw04.LightDims', WHERE WHAT IT READS IS OF BULK AT MOST 1048576: true; the input reads as it did. -/
def lightDimsUptoRow : OpenClaim := { program := "ytibmdlbnkaihjaagreatdoor", sum := "e52a4ffd77bec1dd1aa9b7e102144f9e8c770a3dba220bd6a27dc76576106ed1", func := "linkboy/linkboylaw04.LightDims", spec := "lightDims", inPlace := ["internal/bytealg.IndexByteString", "internal/bytealg.IndexString"], unfollowed := true, recurses := true, named := ["unicode/utf8.first", "unicode/utf8.acceptRanges", "internal/bytealg.MaxLen"], apart := false, laid := [("unicode/utf8.acceptRanges", laid_unicode_utf8_acceptRanges), ("unicode/utf8.first", laid_unicode_utf8_first)], narrowed := true }
def LightDimsUptoSaid : Prop := lightDimsUptoRow.holds Tryz.pinned (OpenSpec.upto lightDimsSpec)

/-- 'linkboylaw04.LightJudges', WHERE WHAT IT READS IS OF BULK AT MOST 1048576: true; the input reads as it did. -/
def lightJudgesUptoRow : OpenClaim := { program := "ytibmdlbnkaihjaagreatdoor", sum := "e52a4ffd77bec1dd1aa9b7e102144f9e8c770a3dba220bd6a27dc76576106ed1", func := "linkboy/linkboylaw04.LightJudges", spec := "lightJudges", inPlace := ["internal/bytealg.IndexByteString", "internal/bytealg.IndexString"], unfollowed := true, recurses := true, named := ["unicode/utf8.first", "unicode/utf8.acceptRanges", "internal/bytealg.MaxLen"], apart := false, laid := [("unicode/utf8.acceptRanges", laid_unicode_utf8_acceptRanges), ("unicode/utf8.first", laid_unicode_utf8_first)], narrowed := true }
def LightJudgesUptoSaid : Prop := lightJudgesUptoRow.holds Tryz.pinned (OpenSpec.upto lightJudgesSpec)

/-- 'linkboylaw04.LightClasses', WHERE WHAT IT READS IS OF BULK AT MOST 1048576: true; the input reads as it did. -/
def lightClassesUptoRow : OpenClaim := { program := "ytibmdlbnkaihjaagreatdoor", sum := "e52a4ffd77bec1dd1aa9b7e102144f9e8c770a3dba220bd6a27dc76576106ed1", func := "linkboy/linkboylaw04.LightClasses", spec := "lightClasses", inPlace := ["internal/bytealg.IndexByteString", "internal/bytealg.IndexString"], unfollowed := true, recurses := true, named := ["unicode/utf8.first", "unicode/utf8.acceptRanges", "internal/bytealg.MaxLen"], apart := false, laid := [("unicode/utf8.acceptRanges", laid_unicode_utf8_acceptRanges), ("unicode/utf8.first", laid_unicode_utf8_first)], narrowed := true }
def LightClassesUptoSaid : Prop := lightClassesUptoRow.holds Tryz.pinned (OpenSpec.upto lightClassesSpec)

end Rows
end Go.Proofs.YtibmdlbnkaihjaaGreatDoor
