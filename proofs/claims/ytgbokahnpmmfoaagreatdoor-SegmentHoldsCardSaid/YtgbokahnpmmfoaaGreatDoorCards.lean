/-
  DERIVED. GIVEN WITH THE SEED: THE CARDS: each row of YtgbokahnpmmfoaaGreatDoorRows.lean that lists a variable, with what it lists TIED to the program's text (the seventh form; the later family's looks); each row that meets fmt, with fmt's text TOLD by the authors' own Lean function (tested against real Go, not proved from fmt's source: count such statements apart). THE CARD IS WHAT COUNTS. Prove the row's statement (the work); the ties are given (YtgbokahnpmmfoaaGreatDoorTie.lean); close each card by the builder's one call (the guide's Derived/Test/ToyasCard.lean, 'card_holds'). Laid BY PROGRAM, IN A SANDBOX (cutbox-door.mjs). By AI agents, Wed Nov 11 2026. No macro, syntax, notation, axiom, sorry.
-/
import Derived.Test.YtgbokahnpmmfoaaGreatDoorRows
import GoSem.ClaimSeven
namespace Go.Proofs.YtgbokahnpmmfoaaGreatDoor
namespace Rows

/-- THE TIED CARD OF 'surveyorlaw33.SegmentLoads'. -/
def segmentLoadsCard : Claim7 := { stood := { row := segmentLoadsRow, standIns := [], harness := (true, "2677e34682206d1f420671415addc34a7917b925df4c4d1d00cc84f75b182fb6"), looks := true }, kinds := [], alts := [], laidByText := true, laidKinds := [.data, .data, .data, .data, .sentinel, .sentinel, .pinned], laidTests := true, laidLooks := .later }
def SegmentLoadsCardSaid : Prop := Claim7.holds Tryz.pinned (.plain (OpenSpec.ofChange segmentLoadsSpec)) segmentLoadsCard

/-- THE TIED CARD OF 'surveyorlaw33.SegmentChecks'. -/
def segmentChecksCard : Claim7 := { stood := { row := segmentChecksRow, standIns := [], harness := (true, "2677e34682206d1f420671415addc34a7917b925df4c4d1d00cc84f75b182fb6"), looks := true }, kinds := [], alts := [], laidByText := true, laidKinds := [.data, .data, .data, .data, .sentinel, .sentinel, .pinned], laidTests := true, laidLooks := .later }
def SegmentChecksCardSaid : Prop := Claim7.holds Tryz.pinned (.plain (OpenSpec.ofChange segmentChecksSpec)) segmentChecksCard

/-- THE TIED CARD OF 'surveyorlaw33.SegmentStrong'. -/
def segmentStrongCard : Claim7 := { stood := { row := segmentStrongRow, standIns := [], harness := (true, "2677e34682206d1f420671415addc34a7917b925df4c4d1d00cc84f75b182fb6"), looks := true }, kinds := [], alts := [], laidByText := true, laidKinds := [.data, .data, .data, .data, .sentinel, .sentinel, .pinned], laidTests := true, laidLooks := .later }
def SegmentStrongCardSaid : Prop := Claim7.holds Tryz.pinned (.plain (OpenSpec.ofChange segmentStrongSpec)) segmentStrongCard

/-- THE TIED CARD OF 'surveyorlaw33.SegmentHolds'. -/
def segmentHoldsCard : Claim7 := { stood := { row := segmentHoldsRow, standIns := [], harness := (true, "2677e34682206d1f420671415addc34a7917b925df4c4d1d00cc84f75b182fb6"), looks := true }, kinds := [], alts := [], laidByText := true, laidKinds := [.data, .data, .data, .data, .sentinel, .sentinel, .pinned], laidTests := true, laidLooks := .later }
def SegmentHoldsCardSaid : Prop := Claim7.holds Tryz.pinned (.plain (OpenSpec.ofChange segmentHoldsSpec)) segmentHoldsCard

/-- THE TIED CARD OF 'surveyorlaw33.SegmentSound'. -/
def segmentSoundCard : Claim7 := { stood := { row := segmentSoundRow, standIns := [], harness := (true, "2677e34682206d1f420671415addc34a7917b925df4c4d1d00cc84f75b182fb6"), looks := true }, kinds := [], alts := [], laidByText := true, laidKinds := [.data, .data, .data, .data, .sentinel, .sentinel, .pinned], laidTests := true, laidLooks := .later }
def SegmentSoundCardSaid : Prop := Claim7.holds Tryz.pinned (.plain (OpenSpec.ofChange segmentSoundSpec)) segmentSoundCard

/-- THE TIED CARD OF 'surveyorlaw33.SegmentJoins'. -/
def segmentJoinsCard : Claim7 := { stood := { row := segmentJoinsRow, standIns := [], harness := (true, "2677e34682206d1f420671415addc34a7917b925df4c4d1d00cc84f75b182fb6"), looks := true }, kinds := [], alts := [], laidByText := true, laidKinds := [.data, .data, .data, .data, .sentinel, .sentinel, .pinned], laidTests := true, laidLooks := .later }
def SegmentJoinsCardSaid : Prop := Claim7.holds Tryz.pinned (.plain (OpenSpec.ofChange segmentJoinsSpec)) segmentJoinsCard

/-- THE TIED CARD OF 'surveyorlaw33.SegmentWidens'. -/
def segmentWidensCard : Claim7 := { stood := { row := segmentWidensRow, standIns := [], harness := (true, "2677e34682206d1f420671415addc34a7917b925df4c4d1d00cc84f75b182fb6"), looks := true }, kinds := [], alts := [], laidByText := true, laidKinds := [.data, .data, .data, .data, .sentinel, .sentinel, .pinned], laidTests := true, laidLooks := .later }
def SegmentWidensCardSaid : Prop := Claim7.holds Tryz.pinned (.plain (OpenSpec.ofChange segmentWidensSpec)) segmentWidensCard

/-- THE SECOND FORM's CARD OF 'surveyorlaw33.SegmentLoads'. -/
def segmentLoadsUptoCard : Claim7 := { stood := { row := segmentLoadsUptoRow, standIns := [], harness := (true, "2677e34682206d1f420671415addc34a7917b925df4c4d1d00cc84f75b182fb6"), looks := true }, kinds := [], alts := [], laidByText := true, laidKinds := [.data, .data, .data, .data, .sentinel, .sentinel, .pinned], laidTests := true, laidLooks := .later }
def SegmentLoadsUptoCardSaid : Prop := Claim7.holds Tryz.pinned (.plain (OpenSpec.upto segmentLoadsSpec)) segmentLoadsUptoCard

/-- THE SECOND FORM's CARD OF 'surveyorlaw33.SegmentChecks'. -/
def segmentChecksUptoCard : Claim7 := { stood := { row := segmentChecksUptoRow, standIns := [], harness := (true, "2677e34682206d1f420671415addc34a7917b925df4c4d1d00cc84f75b182fb6"), looks := true }, kinds := [], alts := [], laidByText := true, laidKinds := [.data, .data, .data, .data, .sentinel, .sentinel, .pinned], laidTests := true, laidLooks := .later }
def SegmentChecksUptoCardSaid : Prop := Claim7.holds Tryz.pinned (.plain (OpenSpec.upto segmentChecksSpec)) segmentChecksUptoCard

/-- THE SECOND FORM's CARD OF 'surveyorlaw33.SegmentStrong'. -/
def segmentStrongUptoCard : Claim7 := { stood := { row := segmentStrongUptoRow, standIns := [], harness := (true, "2677e34682206d1f420671415addc34a7917b925df4c4d1d00cc84f75b182fb6"), looks := true }, kinds := [], alts := [], laidByText := true, laidKinds := [.data, .data, .data, .data, .sentinel, .sentinel, .pinned], laidTests := true, laidLooks := .later }
def SegmentStrongUptoCardSaid : Prop := Claim7.holds Tryz.pinned (.plain (OpenSpec.upto segmentStrongSpec)) segmentStrongUptoCard

/-- THE SECOND FORM's CARD OF 'surveyorlaw33.SegmentHolds'. -/
def segmentHoldsUptoCard : Claim7 := { stood := { row := segmentHoldsUptoRow, standIns := [], harness := (true, "2677e34682206d1f420671415addc34a7917b925df4c4d1d00cc84f75b182fb6"), looks := true }, kinds := [], alts := [], laidByText := true, laidKinds := [.data, .data, .data, .data, .sentinel, .sentinel, .pinned], laidTests := true, laidLooks := .later }
def SegmentHoldsUptoCardSaid : Prop := Claim7.holds Tryz.pinned (.plain (OpenSpec.upto segmentHoldsSpec)) segmentHoldsUptoCard

/-- THE SECOND FORM's CARD OF 'surveyorlaw33.SegmentSound'. -/
def segmentSoundUptoCard : Claim7 := { stood := { row := segmentSoundUptoRow, standIns := [], harness := (true, "2677e34682206d1f420671415addc34a7917b925df4c4d1d00cc84f75b182fb6"), looks := true }, kinds := [], alts := [], laidByText := true, laidKinds := [.data, .data, .data, .data, .sentinel, .sentinel, .pinned], laidTests := true, laidLooks := .later }
def SegmentSoundUptoCardSaid : Prop := Claim7.holds Tryz.pinned (.plain (OpenSpec.upto segmentSoundSpec)) segmentSoundUptoCard

/-- THE SECOND FORM's CARD OF 'surveyorlaw33.SegmentJoins'. -/
def segmentJoinsUptoCard : Claim7 := { stood := { row := segmentJoinsUptoRow, standIns := [], harness := (true, "2677e34682206d1f420671415addc34a7917b925df4c4d1d00cc84f75b182fb6"), looks := true }, kinds := [], alts := [], laidByText := true, laidKinds := [.data, .data, .data, .data, .sentinel, .sentinel, .pinned], laidTests := true, laidLooks := .later }
def SegmentJoinsUptoCardSaid : Prop := Claim7.holds Tryz.pinned (.plain (OpenSpec.upto segmentJoinsSpec)) segmentJoinsUptoCard

/-- THE SECOND FORM's CARD OF 'surveyorlaw33.SegmentWidens'. -/
def segmentWidensUptoCard : Claim7 := { stood := { row := segmentWidensUptoRow, standIns := [], harness := (true, "2677e34682206d1f420671415addc34a7917b925df4c4d1d00cc84f75b182fb6"), looks := true }, kinds := [], alts := [], laidByText := true, laidKinds := [.data, .data, .data, .data, .sentinel, .sentinel, .pinned], laidTests := true, laidLooks := .later }
def SegmentWidensUptoCardSaid : Prop := Claim7.holds Tryz.pinned (.plain (OpenSpec.upto segmentWidensSpec)) segmentWidensUptoCard
end Rows
end Go.Proofs.YtgbokahnpmmfoaaGreatDoor
