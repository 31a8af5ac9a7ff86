/-
  DERIVED. GIVEN WITH THE SEED: THE CARDS: each row of YtnjnggbibpnkbaaGreatDoorRows.lean that lists a variable, with what it lists TIED to the program's text (the seventh form; the later family's looks); each row that meets fmt, with fmt's text TOLD by the authors' own Lean function (tested against real Go, not proved from fmt's source: count such statements apart). THE CARD IS WHAT COUNTS. Prove the row's statement (the work); the ties are given (YtnjnggbibpnkbaaGreatDoorTie.lean); close each card by the builder's one call (the guide's Derived/Test/ToyasCard.lean, 'card_holds'). Laid BY PROGRAM, IN A SANDBOX (cutbox-door.mjs). By AI agents, Wed Nov 11 2026. No macro, syntax, notation, axiom, sorry.
-/
import Derived.Test.YtnjnggbibpnkbaaGreatDoorRows
import GoSem.ClaimSeven
namespace Go.Proofs.YtnjnggbibpnkbaaGreatDoor
namespace Rows

/-- THE TIED CARD OF 'surveyorlaw24.EnvImposes'. -/
def envImposesCard : Claim7 := { stood := { row := envImposesRow, standIns := [], harness := (true, "bedaa8e4cfa70313dae8ce98329a65cde80bbf9e6462878574b2fc7d262bcb13"), looks := true }, kinds := [], alts := [], laidByText := true, laidKinds := [.data, .data, .data, .data, .sentinel, .sentinel, .data, .pinned], laidTests := true, laidLooks := .later }
def EnvImposesCardSaid : Prop := Claim7.holds Tryz.pinned (.plain (OpenSpec.ofChange envImposesSpec)) envImposesCard

/-- THE SECOND FORM's CARD OF 'surveyorlaw24.EnvImposes'. -/
def envImposesUptoCard : Claim7 := { stood := { row := envImposesUptoRow, standIns := [], harness := (true, "bedaa8e4cfa70313dae8ce98329a65cde80bbf9e6462878574b2fc7d262bcb13"), looks := true }, kinds := [], alts := [], laidByText := true, laidKinds := [.data, .data, .data, .data, .sentinel, .sentinel, .data, .pinned], laidTests := true, laidLooks := .later }
def EnvImposesUptoCardSaid : Prop := Claim7.holds Tryz.pinned (.plain (OpenSpec.upto envImposesSpec)) envImposesUptoCard
end Rows
end Go.Proofs.YtnjnggbibpnkbaaGreatDoor
