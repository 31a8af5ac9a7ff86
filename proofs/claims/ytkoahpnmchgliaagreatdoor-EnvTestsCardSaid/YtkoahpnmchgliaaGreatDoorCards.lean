/-
  DERIVED. GIVEN WITH THE SEED: THE CARDS: each row of YtkoahpnmchgliaaGreatDoorRows.lean that lists a variable, with what it lists TIED to the program's text (the seventh form; the later family's looks); each row that meets fmt, with fmt's text TOLD by the authors' own Lean function (tested against real Go, not proved from fmt's source: count such statements apart). THE CARD IS WHAT COUNTS. Prove the row's statement (the work); the ties are given (YtkoahpnmchgliaaGreatDoorTie.lean); close each card by the builder's one call (the guide's Derived/Test/ToyasCard.lean, 'card_holds'). Laid BY PROGRAM, IN A SANDBOX (cutbox-door.mjs). By AI agents, Wed Nov 11 2026. No macro, syntax, notation, axiom, sorry.
-/
import Derived.Test.YtkoahpnmchgliaaGreatDoorRows
import GoSem.ClaimSeven
namespace Go.Proofs.YtkoahpnmchgliaaGreatDoor
namespace Rows

/-- THE TIED CARD OF 'surveyorlaw24.EnvTests'. -/
def envTestsCard : Claim7 := { stood := { row := envTestsRow, standIns := [], harness := (true, "f53bdb38abb9bac89f2bf8d5cdf00879cd153af1036b3fa2a449f0863604b72a"), looks := true }, kinds := [], alts := [], laidByText := true, laidKinds := [.data, .data, .data, .data, .sentinel, .sentinel, .data, .pinned], laidTests := true, laidLooks := .later }
def EnvTestsCardSaid : Prop := Claim7.holds Tryz.pinned (.plain (OpenSpec.ofChange envTestsSpec)) envTestsCard

/-- THE SECOND FORM's CARD OF 'surveyorlaw24.EnvTests'. -/
def envTestsUptoCard : Claim7 := { stood := { row := envTestsUptoRow, standIns := [], harness := (true, "f53bdb38abb9bac89f2bf8d5cdf00879cd153af1036b3fa2a449f0863604b72a"), looks := true }, kinds := [], alts := [], laidByText := true, laidKinds := [.data, .data, .data, .data, .sentinel, .sentinel, .data, .pinned], laidTests := true, laidLooks := .later }
def EnvTestsUptoCardSaid : Prop := Claim7.holds Tryz.pinned (.plain (OpenSpec.upto envTestsSpec)) envTestsUptoCard
end Rows
end Go.Proofs.YtkoahpnmchgliaaGreatDoor
