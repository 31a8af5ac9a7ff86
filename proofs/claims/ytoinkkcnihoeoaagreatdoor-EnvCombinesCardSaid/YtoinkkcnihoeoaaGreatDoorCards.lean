/-
  DERIVED. GIVEN WITH THE SEED: THE CARDS: each row of YtoinkkcnihoeoaaGreatDoorRows.lean that lists a variable, with what it lists TIED to the program's text (the seventh form; the later family's looks); each row that meets fmt, with fmt's text TOLD by the authors' own Lean function (tested against real Go, not proved from fmt's source: count such statements apart). THE CARD IS WHAT COUNTS. Prove the row's statement (the work); the ties are given (YtoinkkcnihoeoaaGreatDoorTie.lean); close each card by the builder's one call (the guide's Derived/Test/ToyasCard.lean, 'card_holds'). Laid BY PROGRAM, IN A SANDBOX (cutbox-door.mjs). By AI agents, Wed Nov 11 2026. No macro, syntax, notation, axiom, sorry.
-/
import Derived.Test.YtoinkkcnihoeoaaGreatDoorRows
import GoSem.ClaimSeven
namespace Go.Proofs.YtoinkkcnihoeoaaGreatDoor
namespace Rows

/-- THE TIED CARD OF 'surveyorlaw24.EnvCombines'. -/
def envCombinesCard : Claim7 := { stood := { row := envCombinesRow, standIns := [], harness := (true, "b3d739f5aa86dfb7e0a4d895ccedec1ba4a8aea16ce3b0fcb6b47ef43342c4ab"), looks := true }, kinds := [], alts := [], laidByText := true, laidKinds := [.data, .data, .data, .data, .sentinel, .sentinel, .data, .pinned], laidTests := true, laidLooks := .later }
def EnvCombinesCardSaid : Prop := Claim7.holds Tryz.pinned (.plain (OpenSpec.ofChange envCombinesSpec)) envCombinesCard

/-- THE SECOND FORM's CARD OF 'surveyorlaw24.EnvCombines'. -/
def envCombinesUptoCard : Claim7 := { stood := { row := envCombinesUptoRow, standIns := [], harness := (true, "b3d739f5aa86dfb7e0a4d895ccedec1ba4a8aea16ce3b0fcb6b47ef43342c4ab"), looks := true }, kinds := [], alts := [], laidByText := true, laidKinds := [.data, .data, .data, .data, .sentinel, .sentinel, .data, .pinned], laidTests := true, laidLooks := .later }
def EnvCombinesUptoCardSaid : Prop := Claim7.holds Tryz.pinned (.plain (OpenSpec.upto envCombinesSpec)) envCombinesUptoCard
end Rows
end Go.Proofs.YtoinkkcnihoeoaaGreatDoor
