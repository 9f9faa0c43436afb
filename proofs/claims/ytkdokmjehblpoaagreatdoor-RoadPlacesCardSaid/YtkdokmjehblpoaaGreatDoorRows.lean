/-
  NARROWER THAN 'FOR EVERY INPUT', by the rows' own cells (each row's printed sentence says how): RoadShades: laid · RoadHalves: laid · RoadChecks: laid · RoadPoints: laid · RoadGrows: laid · RoadMoves: laid · RoadFronts: laid · RoadReversed: laid · RoadPatches: laid · RoadCovered: laid · RoadPlaces: laid · RoadKnown: laid.
  DERIVED. THE GIVEN ROWS OF THIS SEAT. 12 by the template 'for every input the law returns true; each argument reads behind the call as it read before'; 0 by the template 'total and deterministic' (their statements: YtkdokmjehblpoaaGreatDoorTotals.lean).
  GIVEN WITH THE SEED: the statements are not yours to turn. If you find one false, say at which input.
  Laid BY PROGRAM, IN A SANDBOX (cutbox-rows.mjs): the forced cells as the released guide's own fill.sh prints them over the translation 5f6dbe28d93603dc… (all of the seat's roots in one cut). By AI agents, Wed Nov 11 2026. No macro, syntax, notation, axiom, sorry.
-/
import Derived.Test.YtkdokmjehblpoaaGreatDoorChecked
import GoSem.PinnedTables
import GoSem.Claim
import GoSem.ClaimJoined
import GoSem.ClaimMapViews
import Derived.JoinedTies
import Derived.KernelRfl
namespace Go.Proofs.YtkdokmjehblpoaaGreatDoor
/- THE CELL 'sum', in the pinned program and in every row, IS THE sha256 OF THE DUMP (.gsa) THAT YtkdokmjehblpoaaGreatDoorProg.lean LOADS. Nothing in Lean hashes anything: it is a label: what it is worth is what the hold of that sum in a sandbox is worth. -/
noncomputable def Tryz.pinned : Pinned := { name := "ytkdokmjehblpoaagreatdoor", sum := "5f6dbe28d93603dcb3f69eeaee27fa9f25bbc84e06933c5e06944abafffdb6cf", checked := Tryz.checked }
namespace Rows
def none {H : Type} : Left H := { results := [], args := [] }

/- WHAT THE LISTED PACKAGE-LEVEL VARIABLES READ AS WHEN THE CALL BEGINS. Each datum BY PROGRAM (the guide's laid-datum.mjs) off the statement by which the dump's own 'gosem.cut.vars' lays the variable. In a bare row this is a premise. The card (YtkdokmjehblpoaaGreatDoorCards.lean) ties it to the program's text. -/
def laid_unicode_utf8_acceptRanges {H : Type} : DataW H := .agg [.agg [.lit (.int .u8 128), .lit (.int .u8 191)], .agg [.lit (.int .u8 160), .lit (.int .u8 191)], .agg [.lit (.int .u8 128), .lit (.int .u8 159)], .agg [.lit (.int .u8 144), .lit (.int .u8 191)], .agg [.lit (.int .u8 128), .lit (.int .u8 143)], .agg [.lit (.int .u8 0), .lit (.int .u8 0)], .agg [.lit (.int .u8 0), .lit (.int .u8 0)], .agg [.lit (.int .u8 0), .lit (.int .u8 0)], .agg [.lit (.int .u8 0), .lit (.int .u8 0)], .agg [.lit (.int .u8 0), .lit (.int .u8 0)], .agg [.lit (.int .u8 0), .lit (.int .u8 0)], .agg [.lit (.int .u8 0), .lit (.int .u8 0)], .agg [.lit (.int .u8 0), .lit (.int .u8 0)], .agg [.lit (.int .u8 0), .lit (.int .u8 0)], .agg [.lit (.int .u8 0), .lit (.int .u8 0)], .agg [.lit (.int .u8 0), .lit (.int .u8 0)]]
/-- One of Go's own tables, pinned by name: the form's constant. -/
def laid_unicode_utf8_first : DataW Unit := Go.Pinned.utf8First

/-- 'linkboylaw03.RoadShades': WHATEVER THE INPUT: true; the input reads as it did. -/
def roadShadesSpec : ChangeSpec := { name := "roadShades", fn := fun _ => fun
  | [d1, d2] => { results := [.lit (.bool true)], args := [d1, d2] }
  | _ => none }
def roadShadesRow : OpenClaim := { program := "ytkdokmjehblpoaagreatdoor", sum := "5f6dbe28d93603dcb3f69eeaee27fa9f25bbc84e06933c5e06944abafffdb6cf", func := "linkboy/linkboylaw03.RoadShades", spec := "roadShades", inPlace := ["internal/bytealg.IndexByteString", "internal/bytealg.IndexString"], unfollowed := true, recurses := true, named := ["unicode/utf8.first", "unicode/utf8.acceptRanges", "internal/bytealg.MaxLen"], plainKeys := false, apart := false, laid := [("unicode/utf8.acceptRanges", laid_unicode_utf8_acceptRanges), ("unicode/utf8.first", laid_unicode_utf8_first)] }
def RoadShadesSaid : Prop := roadShadesRow.holds Tryz.pinned (OpenSpec.ofChange roadShadesSpec)

/-- ITS FALSE NEIGHBOUR: 'it returns false'. Refute it at one input. -/
def roadShadesWrong : ChangeSpec := { name := "roadShades", fn := fun _ => fun
  | [d1, d2] => { results := [.lit (.bool false)], args := [d1, d2] }
  | _ => none }
def RoadShadesWrongFalsely : Prop := roadShadesRow.holds Tryz.pinned (OpenSpec.ofChange roadShadesWrong)

/-- 'linkboylaw03.RoadHalves': WHATEVER THE INPUT: true; the input reads as it did. -/
def roadHalvesSpec : ChangeSpec := { name := "roadHalves", fn := fun _ => fun
  | [d1, d2, d3] => { results := [.lit (.bool true)], args := [d1, d2, d3] }
  | _ => none }
def roadHalvesRow : OpenClaim := { program := "ytkdokmjehblpoaagreatdoor", sum := "5f6dbe28d93603dcb3f69eeaee27fa9f25bbc84e06933c5e06944abafffdb6cf", func := "linkboy/linkboylaw03.RoadHalves", spec := "roadHalves", inPlace := ["internal/bytealg.IndexByteString", "internal/bytealg.IndexString"], unfollowed := true, recurses := true, named := ["unicode/utf8.first", "unicode/utf8.acceptRanges", "internal/bytealg.MaxLen"], plainKeys := false, apart := false, laid := [("unicode/utf8.acceptRanges", laid_unicode_utf8_acceptRanges), ("unicode/utf8.first", laid_unicode_utf8_first)] }
def RoadHalvesSaid : Prop := roadHalvesRow.holds Tryz.pinned (OpenSpec.ofChange roadHalvesSpec)

/-- ITS FALSE NEIGHBOUR: 'it returns false'. Refute it at one input. -/
def roadHalvesWrong : ChangeSpec := { name := "roadHalves", fn := fun _ => fun
  | [d1, d2, d3] => { results := [.lit (.bool false)], args := [d1, d2, d3] }
  | _ => none }
def RoadHalvesWrongFalsely : Prop := roadHalvesRow.holds Tryz.pinned (OpenSpec.ofChange roadHalvesWrong)

/-- 'linkboylaw03.RoadChecks': WHATEVER THE INPUT: true; the input reads as it did. -/
def roadChecksSpec : ChangeSpec := { name := "roadChecks", fn := fun _ => fun
  | [d1, d2] => { results := [.lit (.bool true)], args := [d1, d2] }
  | _ => none }
def roadChecksRow : OpenClaim := { program := "ytkdokmjehblpoaagreatdoor", sum := "5f6dbe28d93603dcb3f69eeaee27fa9f25bbc84e06933c5e06944abafffdb6cf", func := "linkboy/linkboylaw03.RoadChecks", spec := "roadChecks", inPlace := ["internal/bytealg.IndexByteString", "internal/bytealg.IndexString"], unfollowed := true, recurses := true, named := ["unicode/utf8.first", "unicode/utf8.acceptRanges", "internal/bytealg.MaxLen"], plainKeys := false, apart := false, laid := [("unicode/utf8.acceptRanges", laid_unicode_utf8_acceptRanges), ("unicode/utf8.first", laid_unicode_utf8_first)] }
def RoadChecksSaid : Prop := roadChecksRow.holds Tryz.pinned (OpenSpec.ofChange roadChecksSpec)

/-- ITS FALSE NEIGHBOUR: 'it returns false'. Refute it at one input. -/
def roadChecksWrong : ChangeSpec := { name := "roadChecks", fn := fun _ => fun
  | [d1, d2] => { results := [.lit (.bool false)], args := [d1, d2] }
  | _ => none }
def RoadChecksWrongFalsely : Prop := roadChecksRow.holds Tryz.pinned (OpenSpec.ofChange roadChecksWrong)

/-- 'linkboylaw03.RoadPoints': WHATEVER THE INPUT: true; the input reads as it did. -/
def roadPointsSpec : ChangeSpec := { name := "roadPoints", fn := fun _ => fun
  | [d1, d2] => { results := [.lit (.bool true)], args := [d1, d2] }
  | _ => none }
def roadPointsRow : OpenClaim := { program := "ytkdokmjehblpoaagreatdoor", sum := "5f6dbe28d93603dcb3f69eeaee27fa9f25bbc84e06933c5e06944abafffdb6cf", func := "linkboy/linkboylaw03.RoadPoints", spec := "roadPoints", inPlace := ["internal/bytealg.IndexByteString", "internal/bytealg.IndexString"], unfollowed := true, recurses := true, named := ["unicode/utf8.first", "unicode/utf8.acceptRanges", "internal/bytealg.MaxLen"], plainKeys := false, apart := false, laid := [("unicode/utf8.acceptRanges", laid_unicode_utf8_acceptRanges), ("unicode/utf8.first", laid_unicode_utf8_first)] }
def RoadPointsSaid : Prop := roadPointsRow.holds Tryz.pinned (OpenSpec.ofChange roadPointsSpec)

/-- ITS FALSE NEIGHBOUR: 'it returns false'. Refute it at one input. -/
def roadPointsWrong : ChangeSpec := { name := "roadPoints", fn := fun _ => fun
  | [d1, d2] => { results := [.lit (.bool false)], args := [d1, d2] }
  | _ => none }
def RoadPointsWrongFalsely : Prop := roadPointsRow.holds Tryz.pinned (OpenSpec.ofChange roadPointsWrong)

/-- 'linkboylaw03.RoadGrows': WHATEVER THE INPUT: true; the input reads as it did. -/
def roadGrowsSpec : ChangeSpec := { name := "roadGrows", fn := fun _ => fun
  | [d1, d2, d3] => { results := [.lit (.bool true)], args := [d1, d2, d3] }
  | _ => none }
def roadGrowsRow : OpenClaim := { program := "ytkdokmjehblpoaagreatdoor", sum := "5f6dbe28d93603dcb3f69eeaee27fa9f25bbc84e06933c5e06944abafffdb6cf", func := "linkboy/linkboylaw03.RoadGrows", spec := "roadGrows", inPlace := ["internal/bytealg.IndexByteString", "internal/bytealg.IndexString"], unfollowed := true, recurses := true, named := ["unicode/utf8.first", "unicode/utf8.acceptRanges", "internal/bytealg.MaxLen"], plainKeys := false, apart := false, laid := [("unicode/utf8.acceptRanges", laid_unicode_utf8_acceptRanges), ("unicode/utf8.first", laid_unicode_utf8_first)] }
def RoadGrowsSaid : Prop := roadGrowsRow.holds Tryz.pinned (OpenSpec.ofChange roadGrowsSpec)

/-- ITS FALSE NEIGHBOUR: 'it returns false'. Refute it at one input. -/
def roadGrowsWrong : ChangeSpec := { name := "roadGrows", fn := fun _ => fun
  | [d1, d2, d3] => { results := [.lit (.bool false)], args := [d1, d2, d3] }
  | _ => none }
def RoadGrowsWrongFalsely : Prop := roadGrowsRow.holds Tryz.pinned (OpenSpec.ofChange roadGrowsWrong)

/-- 'linkboylaw03.RoadMoves': WHATEVER THE INPUT: true; the input reads as it did. -/
def roadMovesSpec : ChangeSpec := { name := "roadMoves", fn := fun _ => fun
  | [d1, d2, d3] => { results := [.lit (.bool true)], args := [d1, d2, d3] }
  | _ => none }
def roadMovesRow : OpenClaim := { program := "ytkdokmjehblpoaagreatdoor", sum := "5f6dbe28d93603dcb3f69eeaee27fa9f25bbc84e06933c5e06944abafffdb6cf", func := "linkboy/linkboylaw03.RoadMoves", spec := "roadMoves", inPlace := ["internal/bytealg.IndexByteString", "internal/bytealg.IndexString"], unfollowed := true, recurses := true, named := ["unicode/utf8.first", "unicode/utf8.acceptRanges", "internal/bytealg.MaxLen"], plainKeys := false, apart := false, laid := [("unicode/utf8.acceptRanges", laid_unicode_utf8_acceptRanges), ("unicode/utf8.first", laid_unicode_utf8_first)] }
def RoadMovesSaid : Prop := roadMovesRow.holds Tryz.pinned (OpenSpec.ofChange roadMovesSpec)

/-- ITS FALSE NEIGHBOUR: 'it returns false'. Refute it at one input. -/
def roadMovesWrong : ChangeSpec := { name := "roadMoves", fn := fun _ => fun
  | [d1, d2, d3] => { results := [.lit (.bool false)], args := [d1, d2, d3] }
  | _ => none }
def RoadMovesWrongFalsely : Prop := roadMovesRow.holds Tryz.pinned (OpenSpec.ofChange roadMovesWrong)

/-- 'linkboylaw03.RoadFronts': WHATEVER THE INPUT: true; the input reads as it did. -/
def roadFrontsSpec : ChangeSpec := { name := "roadFronts", fn := fun _ => fun
  | [d1, d2] => { results := [.lit (.bool true)], args := [d1, d2] }
  | _ => none }
def roadFrontsRow : OpenClaim := { program := "ytkdokmjehblpoaagreatdoor", sum := "5f6dbe28d93603dcb3f69eeaee27fa9f25bbc84e06933c5e06944abafffdb6cf", func := "linkboy/linkboylaw03.RoadFronts", spec := "roadFronts", inPlace := ["internal/bytealg.IndexByteString", "internal/bytealg.IndexString"], unfollowed := true, recurses := true, named := ["unicode/utf8.first", "unicode/utf8.acceptRanges", "internal/bytealg.MaxLen"], plainKeys := false, apart := false, laid := [("unicode/utf8.acceptRanges", laid_unicode_utf8_acceptRanges), ("unicode/utf8.first", laid_unicode_utf8_first)] }
def RoadFrontsSaid : Prop := roadFrontsRow.holds Tryz.pinned (OpenSpec.ofChange roadFrontsSpec)

/-- ITS FALSE NEIGHBOUR: 'it returns false'. Refute it at one input. -/
def roadFrontsWrong : ChangeSpec := { name := "roadFronts", fn := fun _ => fun
  | [d1, d2] => { results := [.lit (.bool false)], args := [d1, d2] }
  | _ => none }
def RoadFrontsWrongFalsely : Prop := roadFrontsRow.holds Tryz.pinned (OpenSpec.ofChange roadFrontsWrong)

/-- 'linkboylaw03.RoadReversed': WHATEVER THE INPUT: true; the input reads as it did. -/
def roadReversedSpec : ChangeSpec := { name := "roadReversed", fn := fun _ => fun
  | [d1, d2] => { results := [.lit (.bool true)], args := [d1, d2] }
  | _ => none }
def roadReversedRow : OpenClaim := { program := "ytkdokmjehblpoaagreatdoor", sum := "5f6dbe28d93603dcb3f69eeaee27fa9f25bbc84e06933c5e06944abafffdb6cf", func := "linkboy/linkboylaw03.RoadReversed", spec := "roadReversed", inPlace := ["internal/bytealg.IndexByteString", "internal/bytealg.IndexString"], unfollowed := true, recurses := true, named := ["unicode/utf8.first", "unicode/utf8.acceptRanges", "internal/bytealg.MaxLen"], plainKeys := false, apart := false, laid := [("unicode/utf8.acceptRanges", laid_unicode_utf8_acceptRanges), ("unicode/utf8.first", laid_unicode_utf8_first)] }
def RoadReversedSaid : Prop := roadReversedRow.holds Tryz.pinned (OpenSpec.ofChange roadReversedSpec)

/-- ITS FALSE NEIGHBOUR: 'it returns false'. Refute it at one input. -/
def roadReversedWrong : ChangeSpec := { name := "roadReversed", fn := fun _ => fun
  | [d1, d2] => { results := [.lit (.bool false)], args := [d1, d2] }
  | _ => none }
def RoadReversedWrongFalsely : Prop := roadReversedRow.holds Tryz.pinned (OpenSpec.ofChange roadReversedWrong)

/-- 'linkboylaw03.RoadPatches': WHATEVER THE INPUT: true; the input reads as it did. -/
def roadPatchesSpec : ChangeSpec := { name := "roadPatches", fn := fun _ => fun
  | [d1, d2, d3] => { results := [.lit (.bool true)], args := [d1, d2, d3] }
  | _ => none }
def roadPatchesRow : OpenClaim := { program := "ytkdokmjehblpoaagreatdoor", sum := "5f6dbe28d93603dcb3f69eeaee27fa9f25bbc84e06933c5e06944abafffdb6cf", func := "linkboy/linkboylaw03.RoadPatches", spec := "roadPatches", inPlace := ["internal/bytealg.IndexByteString", "internal/bytealg.IndexString"], unfollowed := true, recurses := true, named := ["unicode/utf8.first", "unicode/utf8.acceptRanges", "internal/bytealg.MaxLen"], plainKeys := false, apart := false, laid := [("unicode/utf8.acceptRanges", laid_unicode_utf8_acceptRanges), ("unicode/utf8.first", laid_unicode_utf8_first)] }
def RoadPatchesSaid : Prop := roadPatchesRow.holds Tryz.pinned (OpenSpec.ofChange roadPatchesSpec)

/-- ITS FALSE NEIGHBOUR: 'it returns false'. Refute it at one input. -/
def roadPatchesWrong : ChangeSpec := { name := "roadPatches", fn := fun _ => fun
  | [d1, d2, d3] => { results := [.lit (.bool false)], args := [d1, d2, d3] }
  | _ => none }
def RoadPatchesWrongFalsely : Prop := roadPatchesRow.holds Tryz.pinned (OpenSpec.ofChange roadPatchesWrong)

/-- 'linkboylaw03.RoadCovered': WHATEVER THE INPUT: true; the input reads as it did. -/
def roadCoveredSpec : ChangeSpec := { name := "roadCovered", fn := fun _ => fun
  | [d1, d2, d3] => { results := [.lit (.bool true)], args := [d1, d2, d3] }
  | _ => none }
def roadCoveredRow : OpenClaim := { program := "ytkdokmjehblpoaagreatdoor", sum := "5f6dbe28d93603dcb3f69eeaee27fa9f25bbc84e06933c5e06944abafffdb6cf", func := "linkboy/linkboylaw03.RoadCovered", spec := "roadCovered", inPlace := ["internal/bytealg.IndexByteString", "internal/bytealg.IndexString"], unfollowed := true, recurses := true, named := ["unicode/utf8.first", "unicode/utf8.acceptRanges", "internal/bytealg.MaxLen"], plainKeys := false, apart := false, laid := [("unicode/utf8.acceptRanges", laid_unicode_utf8_acceptRanges), ("unicode/utf8.first", laid_unicode_utf8_first)] }
def RoadCoveredSaid : Prop := roadCoveredRow.holds Tryz.pinned (OpenSpec.ofChange roadCoveredSpec)

/-- ITS FALSE NEIGHBOUR: 'it returns false'. Refute it at one input. -/
def roadCoveredWrong : ChangeSpec := { name := "roadCovered", fn := fun _ => fun
  | [d1, d2, d3] => { results := [.lit (.bool false)], args := [d1, d2, d3] }
  | _ => none }
def RoadCoveredWrongFalsely : Prop := roadCoveredRow.holds Tryz.pinned (OpenSpec.ofChange roadCoveredWrong)

/-- 'linkboylaw03.RoadPlaces': WHATEVER THE INPUT: true; the input reads as it did. -/
def roadPlacesSpec : ChangeSpec := { name := "roadPlaces", fn := fun _ => fun
  | [d1, d2] => { results := [.lit (.bool true)], args := [d1, d2] }
  | _ => none }
def roadPlacesRow : OpenClaim := { program := "ytkdokmjehblpoaagreatdoor", sum := "5f6dbe28d93603dcb3f69eeaee27fa9f25bbc84e06933c5e06944abafffdb6cf", func := "linkboy/linkboylaw03.RoadPlaces", spec := "roadPlaces", inPlace := ["internal/bytealg.IndexByteString", "internal/bytealg.IndexString"], unfollowed := true, recurses := true, named := ["unicode/utf8.first", "unicode/utf8.acceptRanges", "internal/bytealg.MaxLen"], plainKeys := false, apart := false, laid := [("unicode/utf8.acceptRanges", laid_unicode_utf8_acceptRanges), ("unicode/utf8.first", laid_unicode_utf8_first)] }
def RoadPlacesSaid : Prop := roadPlacesRow.holds Tryz.pinned (OpenSpec.ofChange roadPlacesSpec)

/-- ITS FALSE NEIGHBOUR: 'it returns false'. Refute it at one input. -/
def roadPlacesWrong : ChangeSpec := { name := "roadPlaces", fn := fun _ => fun
  | [d1, d2] => { results := [.lit (.bool false)], args := [d1, d2] }
  | _ => none }
def RoadPlacesWrongFalsely : Prop := roadPlacesRow.holds Tryz.pinned (OpenSpec.ofChange roadPlacesWrong)

/-- 'linkboylaw03.RoadKnown': WHATEVER THE INPUT: true; the input reads as it did. -/
def roadKnownSpec : ChangeSpec := { name := "roadKnown", fn := fun _ => fun
  | [] => { results := [.lit (.bool true)], args := [] }
  | _ => none }
def roadKnownRow : OpenClaim := { program := "ytkdokmjehblpoaagreatdoor", sum := "5f6dbe28d93603dcb3f69eeaee27fa9f25bbc84e06933c5e06944abafffdb6cf", func := "linkboy/linkboylaw03.RoadKnown", spec := "roadKnown", inPlace := ["internal/bytealg.IndexByteString", "internal/bytealg.IndexString"], unfollowed := true, recurses := true, named := ["unicode/utf8.first", "unicode/utf8.acceptRanges", "internal/bytealg.MaxLen"], plainKeys := false, apart := false, laid := [("unicode/utf8.acceptRanges", laid_unicode_utf8_acceptRanges), ("unicode/utf8.first", laid_unicode_utf8_first)] }
def RoadKnownSaid : Prop := roadKnownRow.holds Tryz.pinned (OpenSpec.ofChange roadKnownSpec)

/-- ITS FALSE NEIGHBOUR: 'it returns false'. Refute it at one input. -/
def roadKnownWrong : ChangeSpec := { name := "roadKnown", fn := fun _ => fun
  | [] => { results := [.lit (.bool false)], args := [] }
  | _ => none }
def RoadKnownWrongFalsely : Prop := roadKnownRow.holds Tryz.pinned (OpenSpec.ofChange roadKnownWrong)

/- THE SECOND FORM. 'bulk': how many values and letters a reading holds, each counted each time it is reached (what is shared counts as often as it is met; a slice's spare places count too). A statement '..UptoSaid' is the law's where the arguments, and the package variables that the reading takes, are together of bulk at most 1048576: NARROWER than '..Said'. Prove '..Said' where nothing that the law and all that it calls make is longer than what came in: it says more and counts as full. Else prove '..UptoSaid'. A law counts once. -/
mutual
def uptoBulk {H : Type} : DataW H → Nat
  | .lit (.string bytes) => bytes.length + 1
  | .lit _ => 1
  | .nil => 1
  | .ptr d => uptoBulk d + 1
  | .slice elems spare => uptoBulkAll elems + uptoBulkAll spare + 1
  | .agg parts => uptoBulkAll parts + 1
  | .iface _ d => uptoBulk d + 1
  | .map entries => uptoBulkEntries entries + 1
  | .held _ => 1
def uptoBulkAll {H : Type} : List (DataW H) → Nat
  | [] => 0
  | d :: r => uptoBulk d + uptoBulkAll r
def uptoBulkEntries {H : Type} : List (Lit × DataW H) → Nat
  | [] => 0
  | x :: r => uptoBulkEntry x + uptoBulkEntries r
def uptoBulkEntry {H : Type} : Lit × DataW H → Nat
  | (.string bytes, d) => bytes.length + uptoBulk d + 1
  | (_, d) => uptoBulk d + 1
 end
def uptoSmall : (H : Type) → List (DataW H) → Bool := fun _ ds => decide (uptoBulkAll ds ≤ 1048576)
def OpenSpec.upto (s : _root_.Go.ChangeSpec) : _root_.Go.OpenSpec := { _root_.Go.OpenSpec.ofChange s with cond := some uptoSmall }

/-- 'linkboylaw03.RoadShades', WHERE WHAT IT READS IS OF BULK AT MOST 1048576: true; the input reads as it did. -/
def roadShadesUptoRow : OpenClaim := { program := "ytkdokmjehblpoaagreatdoor", sum := "5f6dbe28d93603dcb3f69eeaee27fa9f25bbc84e06933c5e06944abafffdb6cf", func := "linkboy/linkboylaw03.RoadShades", spec := "roadShades", inPlace := ["internal/bytealg.IndexByteString", "internal/bytealg.IndexString"], unfollowed := true, recurses := true, named := ["unicode/utf8.first", "unicode/utf8.acceptRanges", "internal/bytealg.MaxLen"], plainKeys := false, apart := false, laid := [("unicode/utf8.acceptRanges", laid_unicode_utf8_acceptRanges), ("unicode/utf8.first", laid_unicode_utf8_first)], narrowed := true }
def RoadShadesUptoSaid : Prop := roadShadesUptoRow.holds Tryz.pinned (OpenSpec.upto roadShadesSpec)

/-- 'linkboylaw03.RoadHalves', WHERE WHAT IT READS IS OF BULK AT MOST 1048576: true; the input reads as it did. -/
def roadHalvesUptoRow : OpenClaim := { program := "ytkdokmjehblpoaagreatdoor", sum := "5f6dbe28d93603dcb3f69eeaee27fa9f25bbc84e06933c5e06944abafffdb6cf", func := "linkboy/linkboylaw03.RoadHalves", spec := "roadHalves", inPlace := ["internal/bytealg.IndexByteString", "internal/bytealg.IndexString"], unfollowed := true, recurses := true, named := ["unicode/utf8.first", "unicode/utf8.acceptRanges", "internal/bytealg.MaxLen"], plainKeys := false, apart := false, laid := [("unicode/utf8.acceptRanges", laid_unicode_utf8_acceptRanges), ("unicode/utf8.first", laid_unicode_utf8_first)], narrowed := true }
def RoadHalvesUptoSaid : Prop := roadHalvesUptoRow.holds Tryz.pinned (OpenSpec.upto roadHalvesSpec)

/-- 'linkboylaw03.RoadChecks', WHERE WHAT IT READS IS OF BULK AT MOST 1048576: true; the input reads as it did. -/
def roadChecksUptoRow : OpenClaim := { program := "ytkdokmjehblpoaagreatdoor", sum := "5f6dbe28d93603dcb3f69eeaee27fa9f25bbc84e06933c5e06944abafffdb6cf", func := "linkboy/linkboylaw03.RoadChecks", spec := "roadChecks", inPlace := ["internal/bytealg.IndexByteString", "internal/bytealg.IndexString"], unfollowed := true, recurses := true, named := ["unicode/utf8.first", "unicode/utf8.acceptRanges", "internal/bytealg.MaxLen"], plainKeys := false, apart := false, laid := [("unicode/utf8.acceptRanges", laid_unicode_utf8_acceptRanges), ("unicode/utf8.first", laid_unicode_utf8_first)], narrowed := true }
def RoadChecksUptoSaid : Prop := roadChecksUptoRow.holds Tryz.pinned (OpenSpec.upto roadChecksSpec)

/-- 'linkboylaw03.RoadPoints', WHERE WHAT IT READS IS OF BULK AT MOST 1048576: true; the input reads as it did. -/
def roadPointsUptoRow : OpenClaim := { program := "ytkdokmjehblpoaagreatdoor", sum := "5f6dbe28d93603dcb3f69eeaee27fa9f25bbc84e06933c5e06944abafffdb6cf", func := "linkboy/linkboylaw03.RoadPoints", spec := "roadPoints", inPlace := ["internal/bytealg.IndexByteString", "internal/bytealg.IndexString"], unfollowed := true, recurses := true, named := ["unicode/utf8.first", "unicode/utf8.acceptRanges", "internal/bytealg.MaxLen"], plainKeys := false, apart := false, laid := [("unicode/utf8.acceptRanges", laid_unicode_utf8_acceptRanges), ("unicode/utf8.first", laid_unicode_utf8_first)], narrowed := true }
def RoadPointsUptoSaid : Prop := roadPointsUptoRow.holds Tryz.pinned (OpenSpec.upto roadPointsSpec)

/-- 'linkboylaw03.RoadGrows', WHERE WHAT IT READS IS OF BULK AT MOST 1048576: true; the input reads as it did. -/
def roadGrowsUptoRow : OpenClaim := { program := "ytkdokmjehblpoaagreatdoor", sum := "5f6dbe28d93603dcb3f69eeaee27fa9f25bbc84e06933c5e06944abafffdb6cf", func := "linkboy/linkboylaw03.RoadGrows", spec := "roadGrows", inPlace := ["internal/bytealg.IndexByteString", "internal/bytealg.IndexString"], unfollowed := true, recurses := true, named := ["unicode/utf8.first", "unicode/utf8.acceptRanges", "internal/bytealg.MaxLen"], plainKeys := false, apart := false, laid := [("unicode/utf8.acceptRanges", laid_unicode_utf8_acceptRanges), ("unicode/utf8.first", laid_unicode_utf8_first)], narrowed := true }
def RoadGrowsUptoSaid : Prop := roadGrowsUptoRow.holds Tryz.pinned (OpenSpec.upto roadGrowsSpec)

/-- 'linkboylaw03.RoadMoves', WHERE WHAT IT READS IS OF BULK AT MOST 1048576: true; the input reads as it did. -/
def roadMovesUptoRow : OpenClaim := { program := "ytkdokmjehblpoaagreatdoor", sum := "5f6dbe28d93603dcb3f69eeaee27fa9f25bbc84e06933c5e06944abafffdb6cf", func := "linkboy/linkboylaw03.RoadMoves", spec := "roadMoves", inPlace := ["internal/bytealg.IndexByteString", "internal/bytealg.IndexString"], unfollowed := true, recurses := true, named := ["unicode/utf8.first", "unicode/utf8.acceptRanges", "internal/bytealg.MaxLen"], plainKeys := false, apart := false, laid := [("unicode/utf8.acceptRanges", laid_unicode_utf8_acceptRanges), ("unicode/utf8.first", laid_unicode_utf8_first)], narrowed := true }
def RoadMovesUptoSaid : Prop := roadMovesUptoRow.holds Tryz.pinned (OpenSpec.upto roadMovesSpec)

/-- 'linkboylaw03.RoadFronts', WHERE WHAT IT READS IS OF BULK AT MOST 1048576: true; the input reads as it did. -/
def roadFrontsUptoRow : OpenClaim := { program := "ytkdokmjehblpoaagreatdoor", sum := "5f6dbe28d93603dcb3f69eeaee27fa9f25bbc84e06933c5e06944abafffdb6cf", func := "linkboy/linkboylaw03.RoadFronts", spec := "roadFronts", inPlace := ["internal/bytealg.IndexByteString", "internal/bytealg.IndexString"], unfollowed := true, recurses := true, named := ["unicode/utf8.first", "unicode/utf8.acceptRanges", "internal/bytealg.MaxLen"], plainKeys := false, apart := false, laid := [("unicode/utf8.acceptRanges", laid_unicode_utf8_acceptRanges), ("unicode/utf8.first", laid_unicode_utf8_first)], narrowed := true }
def RoadFrontsUptoSaid : Prop := roadFrontsUptoRow.holds Tryz.pinned (OpenSpec.upto roadFrontsSpec)

/-- 'linkboylaw03.RoadReversed', WHERE WHAT IT READS IS OF BULK AT MOST 1048576: true; the input reads as it did. -/
def roadReversedUptoRow : OpenClaim := { program := "ytkdokmjehblpoaagreatdoor", sum := "5f6dbe28d93603dcb3f69eeaee27fa9f25bbc84e06933c5e06944abafffdb6cf", func := "linkboy/linkboylaw03.RoadReversed", spec := "roadReversed", inPlace := ["internal/bytealg.IndexByteString", "internal/bytealg.IndexString"], unfollowed := true, recurses := true, named := ["unicode/utf8.first", "unicode/utf8.acceptRanges", "internal/bytealg.MaxLen"], plainKeys := false, apart := false, laid := [("unicode/utf8.acceptRanges", laid_unicode_utf8_acceptRanges), ("unicode/utf8.first", laid_unicode_utf8_first)], narrowed := true }
def RoadReversedUptoSaid : Prop := roadReversedUptoRow.holds Tryz.pinned (OpenSpec.upto roadReversedSpec)

/-- 'linkboylaw03.RoadPatches', WHERE WHAT IT READS IS OF BULK AT MOST 1048576: true; the input reads as it did. -/
def roadPatchesUptoRow : OpenClaim := { program := "ytkdokmjehblpoaagreatdoor", sum := "5f6dbe28d93603dcb3f69eeaee27fa9f25bbc84e06933c5e06944abafffdb6cf", func := "linkboy/linkboylaw03.RoadPatches", spec := "roadPatches", inPlace := ["internal/bytealg.IndexByteString", "internal/bytealg.IndexString"], unfollowed := true, recurses := true, named := ["unicode/utf8.first", "unicode/utf8.acceptRanges", "internal/bytealg.MaxLen"], plainKeys := false, apart := false, laid := [("unicode/utf8.acceptRanges", laid_unicode_utf8_acceptRanges), ("unicode/utf8.first", laid_unicode_utf8_first)], narrowed := true }
def RoadPatchesUptoSaid : Prop := roadPatchesUptoRow.holds Tryz.pinned (OpenSpec.upto roadPatchesSpec)

/-- 'linkboylaw03.RoadCovered', WHERE WHAT IT READS IS OF BULK AT MOST 1048576: true; the input reads as it did. -/
def roadCoveredUptoRow : OpenClaim := { program := "ytkdokmjehblpoaagreatdoor", sum := "5f6dbe28d93603dcb3f69eeaee27fa9f25bbc84e06933c5e06944abafffdb6cf", func := "linkboy/linkboylaw03.RoadCovered", spec := "roadCovered", inPlace := ["internal/bytealg.IndexByteString", "internal/bytealg.IndexString"], unfollowed := true, recurses := true, named := ["unicode/utf8.first", "unicode/utf8.acceptRanges", "internal/bytealg.MaxLen"], plainKeys := false, apart := false, laid := [("unicode/utf8.acceptRanges", laid_unicode_utf8_acceptRanges), ("unicode/utf8.first", laid_unicode_utf8_first)], narrowed := true }
def RoadCoveredUptoSaid : Prop := roadCoveredUptoRow.holds Tryz.pinned (OpenSpec.upto roadCoveredSpec)

/-- 'linkboylaw03.RoadPlaces', WHERE WHAT IT READS IS OF BULK AT MOST 1048576: true; the input reads as it did. -/
def roadPlacesUptoRow : OpenClaim := { program := "ytkdokmjehblpoaagreatdoor", sum := "5f6dbe28d93603dcb3f69eeaee27fa9f25bbc84e06933c5e06944abafffdb6cf", func := "linkboy/linkboylaw03.RoadPlaces", spec := "roadPlaces", inPlace := ["internal/bytealg.IndexByteString", "internal/bytealg.IndexString"], unfollowed := true, recurses := true, named := ["unicode/utf8.first", "unicode/utf8.acceptRanges", "internal/bytealg.MaxLen"], plainKeys := false, apart := false, laid := [("unicode/utf8.acceptRanges", laid_unicode_utf8_acceptRanges), ("unicode/utf8.first", laid_unicode_utf8_first)], narrowed := true }
def RoadPlacesUptoSaid : Prop := roadPlacesUptoRow.holds Tryz.pinned (OpenSpec.upto roadPlacesSpec)

/-- 'linkboylaw03.RoadKnown', WHERE WHAT IT READS IS OF BULK AT MOST 1048576: true; the input reads as it did. -/
def roadKnownUptoRow : OpenClaim := { program := "ytkdokmjehblpoaagreatdoor", sum := "5f6dbe28d93603dcb3f69eeaee27fa9f25bbc84e06933c5e06944abafffdb6cf", func := "linkboy/linkboylaw03.RoadKnown", spec := "roadKnown", inPlace := ["internal/bytealg.IndexByteString", "internal/bytealg.IndexString"], unfollowed := true, recurses := true, named := ["unicode/utf8.first", "unicode/utf8.acceptRanges", "internal/bytealg.MaxLen"], plainKeys := false, apart := false, laid := [("unicode/utf8.acceptRanges", laid_unicode_utf8_acceptRanges), ("unicode/utf8.first", laid_unicode_utf8_first)], narrowed := true }
def RoadKnownUptoSaid : Prop := roadKnownUptoRow.holds Tryz.pinned (OpenSpec.upto roadKnownSpec)

end Rows
end Go.Proofs.YtkdokmjehblpoaaGreatDoor
