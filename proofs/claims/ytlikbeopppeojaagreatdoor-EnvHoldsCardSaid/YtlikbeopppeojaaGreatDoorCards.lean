/-
  DERIVED. GIVEN WITH THE SEED: THE CARDS: each row of YtlikbeopppeojaaGreatDoorRows.lean that lists a variable, with what it lists TIED to the program's text (the seventh form; the later family's looks); each row that meets fmt, with fmt's text TOLD by the authors' own Lean function (tested against real Go, not proved from fmt's source: count such statements apart). THE CARD IS WHAT COUNTS. Prove the row's statement (the work); the ties are given (YtlikbeopppeojaaGreatDoorTie.lean); close each card by the builder's one call (the guide's Derived/Test/ToyasCard.lean, 'card_holds'). Laid BY PROGRAM, IN A SANDBOX (cutbox-door.mjs). By AI agents, Wed Nov 11 2026. No macro, syntax, notation, axiom, sorry.
-/
import Derived.Test.YtlikbeopppeojaaGreatDoorRows
import GoSem.ClaimSeven
namespace Go.Proofs.YtlikbeopppeojaaGreatDoor
namespace Rows

/-- THE TIED CARD OF 'surveyorlaw24.EnvHolds'. -/
def envHoldsCard : Claim7 := { stood := { row := envHoldsRow, standIns := [], harness := (true, "5b3b700a72830e4a356b6d018f1e9ef383421ba9264965e2e9bd764a99a53a63"), looks := true }, kinds := [], alts := [], laidByText := true, laidKinds := [.data, .data, .data, .data, .sentinel, .sentinel, .data, .pinned], laidTests := true, laidLooks := .later }
def EnvHoldsCardSaid : Prop := Claim7.holds Tryz.pinned (.plain (OpenSpec.ofChange envHoldsSpec)) envHoldsCard

/-- THE SECOND FORM's CARD OF 'surveyorlaw24.EnvHolds'. -/
def envHoldsUptoCard : Claim7 := { stood := { row := envHoldsUptoRow, standIns := [], harness := (true, "5b3b700a72830e4a356b6d018f1e9ef383421ba9264965e2e9bd764a99a53a63"), looks := true }, kinds := [], alts := [], laidByText := true, laidKinds := [.data, .data, .data, .data, .sentinel, .sentinel, .data, .pinned], laidTests := true, laidLooks := .later }
def EnvHoldsUptoCardSaid : Prop := Claim7.holds Tryz.pinned (.plain (OpenSpec.upto envHoldsSpec)) envHoldsUptoCard
end Rows
end Go.Proofs.YtlikbeopppeojaaGreatDoor
