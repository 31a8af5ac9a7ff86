/-
  DERIVED. GIVEN WITH THE SEED: THE CARDS: each row of YtcgfigjpbicogaaGreatDoorRows.lean that lists a variable, with what it lists TIED to the program's text (the seventh form; the later family's looks); each row that meets fmt, with fmt's text TOLD by the authors' own Lean function (tested against real Go, not proved from fmt's source: count such statements apart). THE CARD IS WHAT COUNTS. Prove the row's statement (the work); the ties are given (YtcgfigjpbicogaaGreatDoorTie.lean); close each card by the builder's one call (the guide's Derived/Test/ToyasCard.lean, 'card_holds'). Laid BY PROGRAM, IN A SANDBOX (cutbox-door.mjs). By AI agents, Wed Nov 11 2026. No macro, syntax, notation, axiom, sorry.
-/
import Derived.Test.YtcgfigjpbicogaaGreatDoorRows
import GoSem.ClaimSeven
namespace Go.Proofs.YtcgfigjpbicogaaGreatDoor
namespace Rows

/-- THE TIED CARD OF 'surveyorlaw33.SegmentWidens'. -/
def segmentWidensCard : Claim7 := { stood := { row := segmentWidensRow, standIns := [], harness := (true, "7274334ed95d3183cbd50d24ca45d4b7a7f1405c283218b9e3443853304d60fc"), looks := true }, kinds := [], alts := [], laidByText := true, laidKinds := [.data, .data, .data, .data, .sentinel, .sentinel, .pinned], laidTests := true, laidLooks := .later }
def SegmentWidensCardSaid : Prop := Claim7.holds Tryz.pinned (.plain (OpenSpec.ofChange segmentWidensSpec)) segmentWidensCard

/-- THE SECOND FORM's CARD OF 'surveyorlaw33.SegmentWidens'. -/
def segmentWidensUptoCard : Claim7 := { stood := { row := segmentWidensUptoRow, standIns := [], harness := (true, "7274334ed95d3183cbd50d24ca45d4b7a7f1405c283218b9e3443853304d60fc"), looks := true }, kinds := [], alts := [], laidByText := true, laidKinds := [.data, .data, .data, .data, .sentinel, .sentinel, .pinned], laidTests := true, laidLooks := .later }
def SegmentWidensUptoCardSaid : Prop := Claim7.holds Tryz.pinned (.plain (OpenSpec.upto segmentWidensSpec)) segmentWidensUptoCard
end Rows
end Go.Proofs.YtcgfigjpbicogaaGreatDoor
