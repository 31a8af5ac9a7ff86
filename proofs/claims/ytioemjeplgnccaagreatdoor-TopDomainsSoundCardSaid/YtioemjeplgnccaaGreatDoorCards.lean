/-
  DERIVED. GIVEN WITH THE SEED: THE CARDS: each row of YtioemjeplgnccaaGreatDoorRows.lean that lists a variable, with what it lists TIED to the program's text (the seventh form; the later family's looks); each row that meets fmt, with fmt's text TOLD by the authors' own Lean function (tested against real Go, not proved from fmt's source: count such statements apart). THE CARD IS WHAT COUNTS. Prove the row's statement (the work); the ties are given (YtioemjeplgnccaaGreatDoorTie.lean); close each card by the builder's one call (the guide's Derived/Test/ToyasCard.lean, 'card_holds'). Laid BY PROGRAM, IN A SANDBOX (cutbox-door.mjs). By AI agents, Wed Nov 11 2026. No macro, syntax, notation, axiom, sorry.
-/
import Derived.Test.YtioemjeplgnccaaGreatDoorRows
import GoSem.ClaimSeven
namespace Go.Proofs.YtioemjeplgnccaaGreatDoor
namespace Rows

/-- THE TIED CARD OF 'surveyortop.TopDomainsSound'. -/
def topDomainsSoundCard : Claim7 := { stood := { row := topDomainsSoundRow, standIns := [], harness := (true, "77d8eeb4c675a8d1f0cd6a91c7d9f97995603e686bcf3597eb131e47651f6294"), looks := true }, kinds := [], alts := [], laidByText := true, laidKinds := [.data, .data, .data, .data, .sentinel, .sentinel, .pinned], laidTests := true, laidLooks := .later }
def TopDomainsSoundCardSaid : Prop := Claim7.holds Tryz.pinned (.plain (OpenSpec.ofChange topDomainsSoundSpec)) topDomainsSoundCard

/-- THE SECOND FORM's CARD OF 'surveyortop.TopDomainsSound'. -/
def topDomainsSoundUptoCard : Claim7 := { stood := { row := topDomainsSoundUptoRow, standIns := [], harness := (true, "77d8eeb4c675a8d1f0cd6a91c7d9f97995603e686bcf3597eb131e47651f6294"), looks := true }, kinds := [], alts := [], laidByText := true, laidKinds := [.data, .data, .data, .data, .sentinel, .sentinel, .pinned], laidTests := true, laidLooks := .later }
def TopDomainsSoundUptoCardSaid : Prop := Claim7.holds Tryz.pinned (.plain (OpenSpec.upto topDomainsSoundSpec)) topDomainsSoundUptoCard
end Rows
end Go.Proofs.YtioemjeplgnccaaGreatDoor
