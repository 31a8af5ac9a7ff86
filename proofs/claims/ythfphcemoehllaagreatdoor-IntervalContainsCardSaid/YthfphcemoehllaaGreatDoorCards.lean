/-
  DERIVED. GIVEN WITH THE SEED: THE CARDS: each row of YthfphcemoehllaaGreatDoorRows.lean that lists a variable, with what it lists TIED to the program's text (the seventh form; the later family's looks); each row that meets fmt, with fmt's text TOLD by the authors' own Lean function (tested against real Go, not proved from fmt's source: count such statements apart). THE CARD IS WHAT COUNTS. Prove the row's statement (the work); the ties are given (YthfphcemoehllaaGreatDoorTie.lean); close each card by the builder's one call (the guide's Derived/Test/ToyasCard.lean, 'card_holds'). Laid BY PROGRAM, IN A SANDBOX (cutbox-door.mjs). By AI agents, Wed Nov 11 2026. No macro, syntax, notation, axiom, sorry.
-/
import Derived.Test.YthfphcemoehllaaGreatDoorRows
import GoSem.ClaimSeven
namespace Go.Proofs.YthfphcemoehllaaGreatDoor
namespace Rows

/-- THE TIED CARD OF 'surveyorlaw21.IntervalWidens'. -/
def intervalWidensCard : Claim7 := { stood := { row := intervalWidensRow, standIns := [], harness := (true, "200e0d0247193c78fa2dcac0056ddea2c2186019dbd2e8568f94680fda8a5131"), looks := true }, kinds := [], alts := [], laidByText := true, laidKinds := [.data, .data, .data, .data, .sentinel, .sentinel, .pinned], laidTests := true, laidLooks := .later }
def IntervalWidensCardSaid : Prop := Claim7.holds Tryz.pinned (.plain (OpenSpec.ofChange intervalWidensSpec)) intervalWidensCard

/-- THE TIED CARD OF 'surveyorlaw21.IntervalChains'. -/
def intervalChainsCard : Claim7 := { stood := { row := intervalChainsRow, standIns := [], harness := (true, "200e0d0247193c78fa2dcac0056ddea2c2186019dbd2e8568f94680fda8a5131"), looks := true }, kinds := [], alts := [], laidByText := true, laidKinds := [.data, .data, .data, .data, .sentinel, .sentinel, .pinned], laidTests := true, laidLooks := .later }
def IntervalChainsCardSaid : Prop := Claim7.holds Tryz.pinned (.plain (OpenSpec.ofChange intervalChainsSpec)) intervalChainsCard

/-- THE TIED CARD OF 'surveyorlaw21.IntervalBounds'. -/
def intervalBoundsCard : Claim7 := { stood := { row := intervalBoundsRow, standIns := [], harness := (true, "200e0d0247193c78fa2dcac0056ddea2c2186019dbd2e8568f94680fda8a5131"), looks := true }, kinds := [], alts := [], laidByText := true, laidKinds := [.data, .data, .data, .data, .sentinel, .sentinel, .pinned], laidTests := true, laidLooks := .later }
def IntervalBoundsCardSaid : Prop := Claim7.holds Tryz.pinned (.plain (OpenSpec.ofChange intervalBoundsSpec)) intervalBoundsCard

/-- THE TIED CARD OF 'surveyorlaw21.IntervalPairs'. -/
def intervalPairsCard : Claim7 := { stood := { row := intervalPairsRow, standIns := [], harness := (true, "200e0d0247193c78fa2dcac0056ddea2c2186019dbd2e8568f94680fda8a5131"), looks := true }, kinds := [], alts := [], laidByText := true, laidKinds := [.data, .data, .data, .data, .sentinel, .sentinel, .pinned], laidTests := true, laidLooks := .later }
def IntervalPairsCardSaid : Prop := Claim7.holds Tryz.pinned (.plain (OpenSpec.ofChange intervalPairsSpec)) intervalPairsCard

/-- THE TIED CARD OF 'surveyorlaw21.IntervalOrders'. -/
def intervalOrdersCard : Claim7 := { stood := { row := intervalOrdersRow, standIns := [], harness := (true, "200e0d0247193c78fa2dcac0056ddea2c2186019dbd2e8568f94680fda8a5131"), looks := true }, kinds := [], alts := [], laidByText := true, laidKinds := [.data, .data, .data, .data, .sentinel, .sentinel, .pinned], laidTests := true, laidLooks := .later }
def IntervalOrdersCardSaid : Prop := Claim7.holds Tryz.pinned (.plain (OpenSpec.ofChange intervalOrdersSpec)) intervalOrdersCard

/-- THE TIED CARD OF 'surveyorlaw21.IntervalComputes'. -/
def intervalComputesCard : Claim7 := { stood := { row := intervalComputesRow, standIns := [], harness := (true, "200e0d0247193c78fa2dcac0056ddea2c2186019dbd2e8568f94680fda8a5131"), looks := true }, kinds := [], alts := [], laidByText := true, laidKinds := [.data, .data, .data, .data, .sentinel, .sentinel, .pinned], laidTests := true, laidLooks := .later }
def IntervalComputesCardSaid : Prop := Claim7.holds Tryz.pinned (.plain (OpenSpec.ofChange intervalComputesSpec)) intervalComputesCard

/-- THE TIED CARD OF 'surveyorlaw21.IntervalMakes'. -/
def intervalMakesCard : Claim7 := { stood := { row := intervalMakesRow, standIns := [], harness := (true, "200e0d0247193c78fa2dcac0056ddea2c2186019dbd2e8568f94680fda8a5131"), looks := true }, kinds := [], alts := [], laidByText := true, laidKinds := [.data, .data, .data, .data, .sentinel, .sentinel, .pinned], laidTests := true, laidLooks := .later }
def IntervalMakesCardSaid : Prop := Claim7.holds Tryz.pinned (.plain (OpenSpec.ofChange intervalMakesSpec)) intervalMakesCard

/-- THE TIED CARD OF 'surveyorlaw21.IntervalContains'. -/
def intervalContainsCard : Claim7 := { stood := { row := intervalContainsRow, standIns := [], harness := (true, "200e0d0247193c78fa2dcac0056ddea2c2186019dbd2e8568f94680fda8a5131"), looks := true }, kinds := [], alts := [], laidByText := true, laidKinds := [.data, .data, .data, .data, .sentinel, .sentinel, .pinned], laidTests := true, laidLooks := .later }
def IntervalContainsCardSaid : Prop := Claim7.holds Tryz.pinned (.plain (OpenSpec.ofChange intervalContainsSpec)) intervalContainsCard

/-- THE SECOND FORM's CARD OF 'surveyorlaw21.IntervalWidens'. -/
def intervalWidensUptoCard : Claim7 := { stood := { row := intervalWidensUptoRow, standIns := [], harness := (true, "200e0d0247193c78fa2dcac0056ddea2c2186019dbd2e8568f94680fda8a5131"), looks := true }, kinds := [], alts := [], laidByText := true, laidKinds := [.data, .data, .data, .data, .sentinel, .sentinel, .pinned], laidTests := true, laidLooks := .later }
def IntervalWidensUptoCardSaid : Prop := Claim7.holds Tryz.pinned (.plain (OpenSpec.upto intervalWidensSpec)) intervalWidensUptoCard

/-- THE SECOND FORM's CARD OF 'surveyorlaw21.IntervalChains'. -/
def intervalChainsUptoCard : Claim7 := { stood := { row := intervalChainsUptoRow, standIns := [], harness := (true, "200e0d0247193c78fa2dcac0056ddea2c2186019dbd2e8568f94680fda8a5131"), looks := true }, kinds := [], alts := [], laidByText := true, laidKinds := [.data, .data, .data, .data, .sentinel, .sentinel, .pinned], laidTests := true, laidLooks := .later }
def IntervalChainsUptoCardSaid : Prop := Claim7.holds Tryz.pinned (.plain (OpenSpec.upto intervalChainsSpec)) intervalChainsUptoCard

/-- THE SECOND FORM's CARD OF 'surveyorlaw21.IntervalBounds'. -/
def intervalBoundsUptoCard : Claim7 := { stood := { row := intervalBoundsUptoRow, standIns := [], harness := (true, "200e0d0247193c78fa2dcac0056ddea2c2186019dbd2e8568f94680fda8a5131"), looks := true }, kinds := [], alts := [], laidByText := true, laidKinds := [.data, .data, .data, .data, .sentinel, .sentinel, .pinned], laidTests := true, laidLooks := .later }
def IntervalBoundsUptoCardSaid : Prop := Claim7.holds Tryz.pinned (.plain (OpenSpec.upto intervalBoundsSpec)) intervalBoundsUptoCard

/-- THE SECOND FORM's CARD OF 'surveyorlaw21.IntervalPairs'. -/
def intervalPairsUptoCard : Claim7 := { stood := { row := intervalPairsUptoRow, standIns := [], harness := (true, "200e0d0247193c78fa2dcac0056ddea2c2186019dbd2e8568f94680fda8a5131"), looks := true }, kinds := [], alts := [], laidByText := true, laidKinds := [.data, .data, .data, .data, .sentinel, .sentinel, .pinned], laidTests := true, laidLooks := .later }
def IntervalPairsUptoCardSaid : Prop := Claim7.holds Tryz.pinned (.plain (OpenSpec.upto intervalPairsSpec)) intervalPairsUptoCard

/-- THE SECOND FORM's CARD OF 'surveyorlaw21.IntervalOrders'. -/
def intervalOrdersUptoCard : Claim7 := { stood := { row := intervalOrdersUptoRow, standIns := [], harness := (true, "200e0d0247193c78fa2dcac0056ddea2c2186019dbd2e8568f94680fda8a5131"), looks := true }, kinds := [], alts := [], laidByText := true, laidKinds := [.data, .data, .data, .data, .sentinel, .sentinel, .pinned], laidTests := true, laidLooks := .later }
def IntervalOrdersUptoCardSaid : Prop := Claim7.holds Tryz.pinned (.plain (OpenSpec.upto intervalOrdersSpec)) intervalOrdersUptoCard

/-- THE SECOND FORM's CARD OF 'surveyorlaw21.IntervalComputes'. -/
def intervalComputesUptoCard : Claim7 := { stood := { row := intervalComputesUptoRow, standIns := [], harness := (true, "200e0d0247193c78fa2dcac0056ddea2c2186019dbd2e8568f94680fda8a5131"), looks := true }, kinds := [], alts := [], laidByText := true, laidKinds := [.data, .data, .data, .data, .sentinel, .sentinel, .pinned], laidTests := true, laidLooks := .later }
def IntervalComputesUptoCardSaid : Prop := Claim7.holds Tryz.pinned (.plain (OpenSpec.upto intervalComputesSpec)) intervalComputesUptoCard

/-- THE SECOND FORM's CARD OF 'surveyorlaw21.IntervalMakes'. -/
def intervalMakesUptoCard : Claim7 := { stood := { row := intervalMakesUptoRow, standIns := [], harness := (true, "200e0d0247193c78fa2dcac0056ddea2c2186019dbd2e8568f94680fda8a5131"), looks := true }, kinds := [], alts := [], laidByText := true, laidKinds := [.data, .data, .data, .data, .sentinel, .sentinel, .pinned], laidTests := true, laidLooks := .later }
def IntervalMakesUptoCardSaid : Prop := Claim7.holds Tryz.pinned (.plain (OpenSpec.upto intervalMakesSpec)) intervalMakesUptoCard

/-- THE SECOND FORM's CARD OF 'surveyorlaw21.IntervalContains'. -/
def intervalContainsUptoCard : Claim7 := { stood := { row := intervalContainsUptoRow, standIns := [], harness := (true, "200e0d0247193c78fa2dcac0056ddea2c2186019dbd2e8568f94680fda8a5131"), looks := true }, kinds := [], alts := [], laidByText := true, laidKinds := [.data, .data, .data, .data, .sentinel, .sentinel, .pinned], laidTests := true, laidLooks := .later }
def IntervalContainsUptoCardSaid : Prop := Claim7.holds Tryz.pinned (.plain (OpenSpec.upto intervalContainsSpec)) intervalContainsUptoCard
end Rows
end Go.Proofs.YthfphcemoehllaaGreatDoor
