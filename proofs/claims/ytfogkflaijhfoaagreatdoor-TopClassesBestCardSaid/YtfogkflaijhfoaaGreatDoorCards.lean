/-
  DERIVED. GIVEN WITH THE SEED: THE CARDS: each row of YtfogkflaijhfoaaGreatDoorRows.lean that lists a variable, with what it lists TIED to the program's text (the seventh form; the later family's looks); each row that meets fmt, with fmt's text TOLD by the authors' own Lean function (tested against real Go, not proved from fmt's source: count such statements apart). THE CARD IS WHAT COUNTS. Prove the row's statement (the work); the ties are given (YtfogkflaijhfoaaGreatDoorTie.lean); close each card by the builder's one call (the guide's Derived/Test/ToyasCard.lean, 'card_holds'). Laid BY PROGRAM, IN A SANDBOX (cutbox-door.mjs). By AI agents, Wed Nov 11 2026. No macro, syntax, notation, axiom, sorry.
-/
import Derived.Test.YtfogkflaijhfoaaGreatDoorRows
import GoSem.ClaimSeven
namespace Go.Proofs.YtfogkflaijhfoaaGreatDoor
namespace Rows

/-- THE TIED CARD OF 'surveyortop.TopChainsClasses'. -/
def topChainsClassesCard : Claim7 := { stood := { row := topChainsClassesRow, standIns := [], harness := (true, "824532304666fc77f17cf6706cd72109c1515c76be0302407f5ade744a495135"), looks := true }, kinds := [], alts := [], laidByText := true, laidKinds := [.data, .data, .data, .data, .sentinel, .sentinel, .pinned], laidTests := true, laidLooks := .later }
def TopChainsClassesCardSaid : Prop := Claim7.holds Tryz.pinned (.plain (OpenSpec.ofChange topChainsClassesSpec)) topChainsClassesCard

/-- THE TIED CARD OF 'surveyorlaw23.ValueApplies'. -/
def valueAppliesCard : Claim7 := { stood := { row := valueAppliesRow, standIns := [], harness := (true, "824532304666fc77f17cf6706cd72109c1515c76be0302407f5ade744a495135"), looks := true }, kinds := [], alts := [], laidByText := true, laidKinds := [.data, .data, .data, .data, .sentinel, .sentinel, .pinned], laidTests := true, laidLooks := .later }
def ValueAppliesCardSaid : Prop := Claim7.holds Tryz.pinned (.plain (OpenSpec.ofChange valueAppliesSpec)) valueAppliesCard

/-- THE TIED CARD OF 'surveyorlaw23.ValueSettles'. -/
def valueSettlesCard : Claim7 := { stood := { row := valueSettlesRow, standIns := [], harness := (true, "824532304666fc77f17cf6706cd72109c1515c76be0302407f5ade744a495135"), looks := true }, kinds := [], alts := [], laidByText := true, laidKinds := [.data, .data, .data, .data, .sentinel, .sentinel, .pinned], laidTests := true, laidLooks := .later }
def ValueSettlesCardSaid : Prop := Claim7.holds Tryz.pinned (.plain (OpenSpec.ofChange valueSettlesSpec)) valueSettlesCard

/-- THE TIED CARD OF 'surveyortop.TopClassesBest'. -/
def topClassesBestCard : Claim7 := { stood := { row := topClassesBestRow, standIns := [], harness := (true, "824532304666fc77f17cf6706cd72109c1515c76be0302407f5ade744a495135"), looks := true }, kinds := [], alts := [], laidByText := true, laidKinds := [.data, .data, .data, .data, .sentinel, .sentinel, .pinned], laidTests := true, laidLooks := .later }
def TopClassesBestCardSaid : Prop := Claim7.holds Tryz.pinned (.plain (OpenSpec.ofChange topClassesBestSpec)) topClassesBestCard

/-- THE TIED CARD OF 'surveyorlaw23.ValueChecks'. -/
def valueChecksCard : Claim7 := { stood := { row := valueChecksRow, standIns := [], harness := (true, "824532304666fc77f17cf6706cd72109c1515c76be0302407f5ade744a495135"), looks := true }, kinds := [], alts := [], laidByText := true, laidKinds := [.data, .data, .data, .data, .sentinel, .sentinel, .pinned], laidTests := true, laidLooks := .later }
def ValueChecksCardSaid : Prop := Claim7.holds Tryz.pinned (.plain (OpenSpec.ofChange valueChecksSpec)) valueChecksCard

/-- THE TIED CARD OF 'surveyorlaw23.ValueKeeps'. -/
def valueKeepsCard : Claim7 := { stood := { row := valueKeepsRow, standIns := [], harness := (true, "824532304666fc77f17cf6706cd72109c1515c76be0302407f5ade744a495135"), looks := true }, kinds := [], alts := [], laidByText := true, laidKinds := [.data, .data, .data, .data, .sentinel, .sentinel, .pinned], laidTests := true, laidLooks := .later }
def ValueKeepsCardSaid : Prop := Claim7.holds Tryz.pinned (.plain (OpenSpec.ofChange valueKeepsSpec)) valueKeepsCard

/-- THE TIED CARD OF 'surveyorlaw23.ValueWidens'. -/
def valueWidensCard : Claim7 := { stood := { row := valueWidensRow, standIns := [], harness := (true, "824532304666fc77f17cf6706cd72109c1515c76be0302407f5ade744a495135"), looks := true }, kinds := [], alts := [], laidByText := true, laidKinds := [.data, .data, .data, .data, .sentinel, .sentinel, .pinned], laidTests := true, laidLooks := .later }
def ValueWidensCardSaid : Prop := Claim7.holds Tryz.pinned (.plain (OpenSpec.ofChange valueWidensSpec)) valueWidensCard

/-- THE TIED CARD OF 'surveyorlaw23.ValueJoins'. -/
def valueJoinsCard : Claim7 := { stood := { row := valueJoinsRow, standIns := [], harness := (true, "824532304666fc77f17cf6706cd72109c1515c76be0302407f5ade744a495135"), looks := true }, kinds := [], alts := [], laidByText := true, laidKinds := [.data, .data, .data, .data, .sentinel, .sentinel, .pinned], laidTests := true, laidLooks := .later }
def ValueJoinsCardSaid : Prop := Claim7.holds Tryz.pinned (.plain (OpenSpec.ofChange valueJoinsSpec)) valueJoinsCard

/-- THE TIED CARD OF 'surveyorlaw23.ValueSound'. -/
def valueSoundCard : Claim7 := { stood := { row := valueSoundRow, standIns := [], harness := (true, "824532304666fc77f17cf6706cd72109c1515c76be0302407f5ade744a495135"), looks := true }, kinds := [], alts := [], laidByText := true, laidKinds := [.data, .data, .data, .data, .sentinel, .sentinel, .pinned], laidTests := true, laidLooks := .later }
def ValueSoundCardSaid : Prop := Claim7.holds Tryz.pinned (.plain (OpenSpec.ofChange valueSoundSpec)) valueSoundCard

/-- THE TIED CARD OF 'surveyorlaw23.ValueMeets'. -/
def valueMeetsCard : Claim7 := { stood := { row := valueMeetsRow, standIns := [], harness := (true, "824532304666fc77f17cf6706cd72109c1515c76be0302407f5ade744a495135"), looks := true }, kinds := [], alts := [], laidByText := true, laidKinds := [.data, .data, .data, .data, .sentinel, .sentinel, .pinned], laidTests := true, laidLooks := .later }
def ValueMeetsCardSaid : Prop := Claim7.holds Tryz.pinned (.plain (OpenSpec.ofChange valueMeetsSpec)) valueMeetsCard

/-- THE TIED CARD OF 'surveyortop.TopIntervalsBest'. -/
def topIntervalsBestCard : Claim7 := { stood := { row := topIntervalsBestRow, standIns := [], harness := (true, "824532304666fc77f17cf6706cd72109c1515c76be0302407f5ade744a495135"), looks := true }, kinds := [], alts := [], laidByText := true, laidKinds := [.data, .data, .data, .data, .sentinel, .sentinel, .pinned], laidTests := true, laidLooks := .later }
def TopIntervalsBestCardSaid : Prop := Claim7.holds Tryz.pinned (.plain (OpenSpec.ofChange topIntervalsBestSpec)) topIntervalsBestCard

/-- THE TIED CARD OF 'surveyortop.TopDomainsSound'. -/
def topDomainsSoundCard : Claim7 := { stood := { row := topDomainsSoundRow, standIns := [], harness := (true, "824532304666fc77f17cf6706cd72109c1515c76be0302407f5ade744a495135"), looks := true }, kinds := [], alts := [], laidByText := true, laidKinds := [.data, .data, .data, .data, .sentinel, .sentinel, .pinned], laidTests := true, laidLooks := .later }
def TopDomainsSoundCardSaid : Prop := Claim7.holds Tryz.pinned (.plain (OpenSpec.ofChange topDomainsSoundSpec)) topDomainsSoundCard

/-- THE SECOND FORM's CARD OF 'surveyortop.TopChainsClasses'. -/
def topChainsClassesUptoCard : Claim7 := { stood := { row := topChainsClassesUptoRow, standIns := [], harness := (true, "824532304666fc77f17cf6706cd72109c1515c76be0302407f5ade744a495135"), looks := true }, kinds := [], alts := [], laidByText := true, laidKinds := [.data, .data, .data, .data, .sentinel, .sentinel, .pinned], laidTests := true, laidLooks := .later }
def TopChainsClassesUptoCardSaid : Prop := Claim7.holds Tryz.pinned (.plain (OpenSpec.upto topChainsClassesSpec)) topChainsClassesUptoCard

/-- THE SECOND FORM's CARD OF 'surveyorlaw23.ValueApplies'. -/
def valueAppliesUptoCard : Claim7 := { stood := { row := valueAppliesUptoRow, standIns := [], harness := (true, "824532304666fc77f17cf6706cd72109c1515c76be0302407f5ade744a495135"), looks := true }, kinds := [], alts := [], laidByText := true, laidKinds := [.data, .data, .data, .data, .sentinel, .sentinel, .pinned], laidTests := true, laidLooks := .later }
def ValueAppliesUptoCardSaid : Prop := Claim7.holds Tryz.pinned (.plain (OpenSpec.upto valueAppliesSpec)) valueAppliesUptoCard

/-- THE SECOND FORM's CARD OF 'surveyorlaw23.ValueSettles'. -/
def valueSettlesUptoCard : Claim7 := { stood := { row := valueSettlesUptoRow, standIns := [], harness := (true, "824532304666fc77f17cf6706cd72109c1515c76be0302407f5ade744a495135"), looks := true }, kinds := [], alts := [], laidByText := true, laidKinds := [.data, .data, .data, .data, .sentinel, .sentinel, .pinned], laidTests := true, laidLooks := .later }
def ValueSettlesUptoCardSaid : Prop := Claim7.holds Tryz.pinned (.plain (OpenSpec.upto valueSettlesSpec)) valueSettlesUptoCard

/-- THE SECOND FORM's CARD OF 'surveyortop.TopClassesBest'. -/
def topClassesBestUptoCard : Claim7 := { stood := { row := topClassesBestUptoRow, standIns := [], harness := (true, "824532304666fc77f17cf6706cd72109c1515c76be0302407f5ade744a495135"), looks := true }, kinds := [], alts := [], laidByText := true, laidKinds := [.data, .data, .data, .data, .sentinel, .sentinel, .pinned], laidTests := true, laidLooks := .later }
def TopClassesBestUptoCardSaid : Prop := Claim7.holds Tryz.pinned (.plain (OpenSpec.upto topClassesBestSpec)) topClassesBestUptoCard

/-- THE SECOND FORM's CARD OF 'surveyorlaw23.ValueChecks'. -/
def valueChecksUptoCard : Claim7 := { stood := { row := valueChecksUptoRow, standIns := [], harness := (true, "824532304666fc77f17cf6706cd72109c1515c76be0302407f5ade744a495135"), looks := true }, kinds := [], alts := [], laidByText := true, laidKinds := [.data, .data, .data, .data, .sentinel, .sentinel, .pinned], laidTests := true, laidLooks := .later }
def ValueChecksUptoCardSaid : Prop := Claim7.holds Tryz.pinned (.plain (OpenSpec.upto valueChecksSpec)) valueChecksUptoCard

/-- THE SECOND FORM's CARD OF 'surveyorlaw23.ValueKeeps'. -/
def valueKeepsUptoCard : Claim7 := { stood := { row := valueKeepsUptoRow, standIns := [], harness := (true, "824532304666fc77f17cf6706cd72109c1515c76be0302407f5ade744a495135"), looks := true }, kinds := [], alts := [], laidByText := true, laidKinds := [.data, .data, .data, .data, .sentinel, .sentinel, .pinned], laidTests := true, laidLooks := .later }
def ValueKeepsUptoCardSaid : Prop := Claim7.holds Tryz.pinned (.plain (OpenSpec.upto valueKeepsSpec)) valueKeepsUptoCard

/-- THE SECOND FORM's CARD OF 'surveyorlaw23.ValueWidens'. -/
def valueWidensUptoCard : Claim7 := { stood := { row := valueWidensUptoRow, standIns := [], harness := (true, "824532304666fc77f17cf6706cd72109c1515c76be0302407f5ade744a495135"), looks := true }, kinds := [], alts := [], laidByText := true, laidKinds := [.data, .data, .data, .data, .sentinel, .sentinel, .pinned], laidTests := true, laidLooks := .later }
def ValueWidensUptoCardSaid : Prop := Claim7.holds Tryz.pinned (.plain (OpenSpec.upto valueWidensSpec)) valueWidensUptoCard

/-- THE SECOND FORM's CARD OF 'surveyorlaw23.ValueJoins'. -/
def valueJoinsUptoCard : Claim7 := { stood := { row := valueJoinsUptoRow, standIns := [], harness := (true, "824532304666fc77f17cf6706cd72109c1515c76be0302407f5ade744a495135"), looks := true }, kinds := [], alts := [], laidByText := true, laidKinds := [.data, .data, .data, .data, .sentinel, .sentinel, .pinned], laidTests := true, laidLooks := .later }
def ValueJoinsUptoCardSaid : Prop := Claim7.holds Tryz.pinned (.plain (OpenSpec.upto valueJoinsSpec)) valueJoinsUptoCard

/-- THE SECOND FORM's CARD OF 'surveyorlaw23.ValueSound'. -/
def valueSoundUptoCard : Claim7 := { stood := { row := valueSoundUptoRow, standIns := [], harness := (true, "824532304666fc77f17cf6706cd72109c1515c76be0302407f5ade744a495135"), looks := true }, kinds := [], alts := [], laidByText := true, laidKinds := [.data, .data, .data, .data, .sentinel, .sentinel, .pinned], laidTests := true, laidLooks := .later }
def ValueSoundUptoCardSaid : Prop := Claim7.holds Tryz.pinned (.plain (OpenSpec.upto valueSoundSpec)) valueSoundUptoCard

/-- THE SECOND FORM's CARD OF 'surveyorlaw23.ValueMeets'. -/
def valueMeetsUptoCard : Claim7 := { stood := { row := valueMeetsUptoRow, standIns := [], harness := (true, "824532304666fc77f17cf6706cd72109c1515c76be0302407f5ade744a495135"), looks := true }, kinds := [], alts := [], laidByText := true, laidKinds := [.data, .data, .data, .data, .sentinel, .sentinel, .pinned], laidTests := true, laidLooks := .later }
def ValueMeetsUptoCardSaid : Prop := Claim7.holds Tryz.pinned (.plain (OpenSpec.upto valueMeetsSpec)) valueMeetsUptoCard

/-- THE SECOND FORM's CARD OF 'surveyortop.TopIntervalsBest'. -/
def topIntervalsBestUptoCard : Claim7 := { stood := { row := topIntervalsBestUptoRow, standIns := [], harness := (true, "824532304666fc77f17cf6706cd72109c1515c76be0302407f5ade744a495135"), looks := true }, kinds := [], alts := [], laidByText := true, laidKinds := [.data, .data, .data, .data, .sentinel, .sentinel, .pinned], laidTests := true, laidLooks := .later }
def TopIntervalsBestUptoCardSaid : Prop := Claim7.holds Tryz.pinned (.plain (OpenSpec.upto topIntervalsBestSpec)) topIntervalsBestUptoCard

/-- THE SECOND FORM's CARD OF 'surveyortop.TopDomainsSound'. -/
def topDomainsSoundUptoCard : Claim7 := { stood := { row := topDomainsSoundUptoRow, standIns := [], harness := (true, "824532304666fc77f17cf6706cd72109c1515c76be0302407f5ade744a495135"), looks := true }, kinds := [], alts := [], laidByText := true, laidKinds := [.data, .data, .data, .data, .sentinel, .sentinel, .pinned], laidTests := true, laidLooks := .later }
def TopDomainsSoundUptoCardSaid : Prop := Claim7.holds Tryz.pinned (.plain (OpenSpec.upto topDomainsSoundSpec)) topDomainsSoundUptoCard
end Rows
end Go.Proofs.YtfogkflaijhfoaaGreatDoor
