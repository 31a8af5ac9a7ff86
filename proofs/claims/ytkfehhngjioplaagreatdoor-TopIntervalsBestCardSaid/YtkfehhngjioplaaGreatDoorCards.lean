/-
  DERIVED. GIVEN WITH THE SEED: THE CARDS: each row of YtkfehhngjioplaaGreatDoorRows.lean that lists a variable, with what it lists TIED to the program's text (the seventh form; the later family's looks); each row that meets fmt, with fmt's text TOLD by the authors' own Lean function (tested against real Go, not proved from fmt's source: count such statements apart). THE CARD IS WHAT COUNTS. Prove the row's statement (the work); the ties are given (YtkfehhngjioplaaGreatDoorTie.lean); close each card by the builder's one call (the guide's Derived/Test/ToyasCard.lean, 'card_holds'). Laid BY PROGRAM, IN A SANDBOX (cutbox-door.mjs). By AI agents, Wed Nov 11 2026. No macro, syntax, notation, axiom, sorry.
-/
import Derived.Test.YtkfehhngjioplaaGreatDoorRows
import GoSem.ClaimSeven
namespace Go.Proofs.YtkfehhngjioplaaGreatDoor
namespace Rows

/-- THE TIED CARD OF 'surveyorlaw23.ValueSound'. -/
def valueSoundCard : Claim7 := { stood := { row := valueSoundRow, standIns := [], harness := (true, "58a7cf11827147927b9b56e512eb335125d47970018658b0d5910813480210b4"), looks := true }, kinds := [], alts := [], laidByText := true, laidKinds := [.data, .data, .data, .data, .sentinel, .sentinel, .pinned], laidTests := true, laidLooks := .later }
def ValueSoundCardSaid : Prop := Claim7.holds Tryz.pinned (.plain (OpenSpec.ofChange valueSoundSpec)) valueSoundCard

/-- THE TIED CARD OF 'surveyortop.TopIntervalsBest'. -/
def topIntervalsBestCard : Claim7 := { stood := { row := topIntervalsBestRow, standIns := [], harness := (true, "58a7cf11827147927b9b56e512eb335125d47970018658b0d5910813480210b4"), looks := true }, kinds := [], alts := [], laidByText := true, laidKinds := [.data, .data, .data, .data, .sentinel, .sentinel, .pinned], laidTests := true, laidLooks := .later }
def TopIntervalsBestCardSaid : Prop := Claim7.holds Tryz.pinned (.plain (OpenSpec.ofChange topIntervalsBestSpec)) topIntervalsBestCard

/-- THE SECOND FORM's CARD OF 'surveyorlaw23.ValueSound'. -/
def valueSoundUptoCard : Claim7 := { stood := { row := valueSoundUptoRow, standIns := [], harness := (true, "58a7cf11827147927b9b56e512eb335125d47970018658b0d5910813480210b4"), looks := true }, kinds := [], alts := [], laidByText := true, laidKinds := [.data, .data, .data, .data, .sentinel, .sentinel, .pinned], laidTests := true, laidLooks := .later }
def ValueSoundUptoCardSaid : Prop := Claim7.holds Tryz.pinned (.plain (OpenSpec.upto valueSoundSpec)) valueSoundUptoCard

/-- THE SECOND FORM's CARD OF 'surveyortop.TopIntervalsBest'. -/
def topIntervalsBestUptoCard : Claim7 := { stood := { row := topIntervalsBestUptoRow, standIns := [], harness := (true, "58a7cf11827147927b9b56e512eb335125d47970018658b0d5910813480210b4"), looks := true }, kinds := [], alts := [], laidByText := true, laidKinds := [.data, .data, .data, .data, .sentinel, .sentinel, .pinned], laidTests := true, laidLooks := .later }
def TopIntervalsBestUptoCardSaid : Prop := Claim7.holds Tryz.pinned (.plain (OpenSpec.upto topIntervalsBestSpec)) topIntervalsBestUptoCard
end Rows
end Go.Proofs.YtkfehhngjioplaaGreatDoor
