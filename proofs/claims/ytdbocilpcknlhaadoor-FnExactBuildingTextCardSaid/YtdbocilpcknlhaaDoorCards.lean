/-
  DERIVED. GIVEN WITH THE SEED: THE CARDS: each row of YtdbocilpcknlhaaDoorRows.lean that lists a variable, with what it lists TIED to the program's text (the seventh form; the later family's looks); each row that meets fmt, with fmt's text TOLD by the authors' own Lean function (tested against real Go, not proved from fmt's source: count such statements apart). THE CARD IS WHAT COUNTS. Prove the row's statement (the work); the ties are given (YtdbocilpcknlhaaDoorTie.lean); close each card by the builder's one call (the guide's Derived/Test/ToyasCard.lean, 'card_holds'). Laid BY PROGRAM, IN A SANDBOX (cutbox-door.mjs). By AI agents, Wed Nov 11 2026. No macro, syntax, notation, axiom, sorry.
-/
import Derived.Test.YtdbocilpcknlhaaDoorRows
import GoSem.ClaimSeven
namespace Go.Proofs.YtdbocilpcknlhaaDoor
namespace Rows

/-- THE TIED CARD OF 'laws.FnExactImageText'. -/
def fnExactImageTextCard : Claim7 := { stood := { row := fnExactImageTextRow, standIns := [], harness := (true, "3b46a002cec0e2b5a73f5f356d7502b6fd1fc41c6b272e25341572e307149476"), looks := true }, kinds := [], alts := [], laidByText := true, laidKinds := [.data, .data, .data], laidTests := true, laidLooks := .later }
def FnExactImageTextCardSaid : Prop := Claim7.holds Tryd.pinned (.plain (OpenSpec.ofChange fnExactImageTextSpec)) fnExactImageTextCard

/-- THE TIED CARD OF 'laws.FnExactBuildingText'. -/
def fnExactBuildingTextCard : Claim7 := { stood := { row := fnExactBuildingTextRow, standIns := [], harness := (true, "3b46a002cec0e2b5a73f5f356d7502b6fd1fc41c6b272e25341572e307149476"), looks := true }, kinds := [], alts := [], laidByText := true, laidKinds := [.data, .data, .data], laidTests := true, laidLooks := .later }
def FnExactBuildingTextCardSaid : Prop := Claim7.holds Tryd.pinned (.plain (OpenSpec.ofChange fnExactBuildingTextSpec)) fnExactBuildingTextCard

/-- THE TIED CARD OF 'laws.FnExactReadPosting'. -/
def fnExactReadPostingCard : Claim7 := { stood := { row := fnExactReadPostingRow, standIns := [], harness := (true, "3b46a002cec0e2b5a73f5f356d7502b6fd1fc41c6b272e25341572e307149476"), looks := true }, kinds := [], alts := [], laidByText := true, laidKinds := [.data, .data, .data, .sentinel, .sentinel], laidTests := true, laidLooks := .later }
def FnExactReadPostingCardSaid : Prop := Claim7.holds Tryd.pinned (.plain (OpenSpec.ofChange fnExactReadPostingSpec)) fnExactReadPostingCard

/-- THE TIED CARD OF 'laws.FnExactReadReadings'. -/
def fnExactReadReadingsCard : Claim7 := { stood := { row := fnExactReadReadingsRow, standIns := [], harness := (true, "3b46a002cec0e2b5a73f5f356d7502b6fd1fc41c6b272e25341572e307149476"), looks := true }, kinds := [], alts := [], laidByText := true, laidKinds := [.data, .data, .data, .data, .sentinel, .sentinel, .pinned], laidTests := true, laidLooks := .later }
def FnExactReadReadingsCardSaid : Prop := Claim7.holds Tryd.pinned (.plain (OpenSpec.ofChange fnExactReadReadingsSpec)) fnExactReadReadingsCard

/-- THE TIED CARD OF 'laws.FnExactReadMeter'. -/
def fnExactReadMeterCard : Claim7 := { stood := { row := fnExactReadMeterRow, standIns := [], harness := (true, "3b46a002cec0e2b5a73f5f356d7502b6fd1fc41c6b272e25341572e307149476"), looks := true }, kinds := [], alts := [], laidByText := true, laidKinds := [.data, .data, .data, .data, .sentinel, .sentinel, .pinned], laidTests := true, laidLooks := .later }
def FnExactReadMeterCardSaid : Prop := Claim7.holds Tryd.pinned (.plain (OpenSpec.ofChange fnExactReadMeterSpec)) fnExactReadMeterCard

/-- THE TIED CARD OF 'laws.FnExactReadDuty'. -/
def fnExactReadDutyCard : Claim7 := { stood := { row := fnExactReadDutyRow, standIns := [], harness := (true, "3b46a002cec0e2b5a73f5f356d7502b6fd1fc41c6b272e25341572e307149476"), looks := true }, kinds := [], alts := [], laidByText := true, laidKinds := [.data, .data, .data, .data, .sentinel, .sentinel, .pinned], laidTests := true, laidLooks := .later }
def FnExactReadDutyCardSaid : Prop := Claim7.holds Tryd.pinned (.plain (OpenSpec.ofChange fnExactReadDutySpec)) fnExactReadDutyCard

/-- THE TIED CARD OF 'laws.FnExactReadFuel'. -/
def fnExactReadFuelCard : Claim7 := { stood := { row := fnExactReadFuelRow, standIns := [], harness := (true, "3b46a002cec0e2b5a73f5f356d7502b6fd1fc41c6b272e25341572e307149476"), looks := true }, kinds := [], alts := [], laidByText := true, laidKinds := [.data, .data, .data, .data, .sentinel, .sentinel, .pinned], laidTests := true, laidLooks := .later }
def FnExactReadFuelCardSaid : Prop := Claim7.holds Tryd.pinned (.plain (OpenSpec.ofChange fnExactReadFuelSpec)) fnExactReadFuelCard

/-- THE TIED CARD OF 'laws.FnExactReadRepair'. -/
def fnExactReadRepairCard : Claim7 := { stood := { row := fnExactReadRepairRow, standIns := [], harness := (true, "3b46a002cec0e2b5a73f5f356d7502b6fd1fc41c6b272e25341572e307149476"), looks := true }, kinds := [], alts := [], laidByText := true, laidKinds := [.data, .data, .data, .data, .sentinel, .sentinel, .pinned], laidTests := true, laidLooks := .later }
def FnExactReadRepairCardSaid : Prop := Claim7.holds Tryd.pinned (.plain (OpenSpec.ofChange fnExactReadRepairSpec)) fnExactReadRepairCard

/-- THE TIED CARD OF 'laws.FnExactReadUnit'. -/
def fnExactReadUnitCard : Claim7 := { stood := { row := fnExactReadUnitRow, standIns := [], harness := (true, "3b46a002cec0e2b5a73f5f356d7502b6fd1fc41c6b272e25341572e307149476"), looks := true }, kinds := [], alts := [], laidByText := true, laidKinds := [.data, .data, .data, .data, .sentinel, .sentinel, .pinned], laidTests := true, laidLooks := .later }
def FnExactReadUnitCardSaid : Prop := Claim7.holds Tryd.pinned (.plain (OpenSpec.ofChange fnExactReadUnitSpec)) fnExactReadUnitCard

/-- THE TIED CARD OF 'laws.FnExactReadImage'. -/
def fnExactReadImageCard : Claim7 := { stood := { row := fnExactReadImageRow, standIns := [], harness := (true, "3b46a002cec0e2b5a73f5f356d7502b6fd1fc41c6b272e25341572e307149476"), looks := true }, kinds := [], alts := [], laidByText := true, laidKinds := [.data, .data, .data, .data, .sentinel, .sentinel, .pinned], laidTests := true, laidLooks := .later }
def FnExactReadImageCardSaid : Prop := Claim7.holds Tryd.pinned (.plain (OpenSpec.ofChange fnExactReadImageSpec)) fnExactReadImageCard

/-- THE TIED CARD OF 'laws.FnExactReadBuilding'. -/
def fnExactReadBuildingCard : Claim7 := { stood := { row := fnExactReadBuildingRow, standIns := [], harness := (true, "3b46a002cec0e2b5a73f5f356d7502b6fd1fc41c6b272e25341572e307149476"), looks := true }, kinds := [], alts := [], laidByText := true, laidKinds := [.data, .data, .data, .data, .sentinel, .sentinel, .pinned], laidTests := true, laidLooks := .later }
def FnExactReadBuildingCardSaid : Prop := Claim7.holds Tryd.pinned (.plain (OpenSpec.ofChange fnExactReadBuildingSpec)) fnExactReadBuildingCard

/-- THE SECOND FORM's CARD OF 'laws.FnExactImageText'. -/
def fnExactImageTextUptoCard : Claim7 := { stood := { row := fnExactImageTextUptoRow, standIns := [], harness := (true, "3b46a002cec0e2b5a73f5f356d7502b6fd1fc41c6b272e25341572e307149476"), looks := true }, kinds := [], alts := [], laidByText := true, laidKinds := [.data, .data, .data], laidTests := true, laidLooks := .later }
def FnExactImageTextUptoCardSaid : Prop := Claim7.holds Tryd.pinned (.plain (OpenSpec.upto fnExactImageTextSpec)) fnExactImageTextUptoCard

/-- THE SECOND FORM's CARD OF 'laws.FnExactBuildingText'. -/
def fnExactBuildingTextUptoCard : Claim7 := { stood := { row := fnExactBuildingTextUptoRow, standIns := [], harness := (true, "3b46a002cec0e2b5a73f5f356d7502b6fd1fc41c6b272e25341572e307149476"), looks := true }, kinds := [], alts := [], laidByText := true, laidKinds := [.data, .data, .data], laidTests := true, laidLooks := .later }
def FnExactBuildingTextUptoCardSaid : Prop := Claim7.holds Tryd.pinned (.plain (OpenSpec.upto fnExactBuildingTextSpec)) fnExactBuildingTextUptoCard

/-- THE SECOND FORM's CARD OF 'laws.FnExactReadPosting'. -/
def fnExactReadPostingUptoCard : Claim7 := { stood := { row := fnExactReadPostingUptoRow, standIns := [], harness := (true, "3b46a002cec0e2b5a73f5f356d7502b6fd1fc41c6b272e25341572e307149476"), looks := true }, kinds := [], alts := [], laidByText := true, laidKinds := [.data, .data, .data, .sentinel, .sentinel], laidTests := true, laidLooks := .later }
def FnExactReadPostingUptoCardSaid : Prop := Claim7.holds Tryd.pinned (.plain (OpenSpec.upto fnExactReadPostingSpec)) fnExactReadPostingUptoCard

/-- THE SECOND FORM's CARD OF 'laws.FnExactReadReadings'. -/
def fnExactReadReadingsUptoCard : Claim7 := { stood := { row := fnExactReadReadingsUptoRow, standIns := [], harness := (true, "3b46a002cec0e2b5a73f5f356d7502b6fd1fc41c6b272e25341572e307149476"), looks := true }, kinds := [], alts := [], laidByText := true, laidKinds := [.data, .data, .data, .data, .sentinel, .sentinel, .pinned], laidTests := true, laidLooks := .later }
def FnExactReadReadingsUptoCardSaid : Prop := Claim7.holds Tryd.pinned (.plain (OpenSpec.upto fnExactReadReadingsSpec)) fnExactReadReadingsUptoCard

/-- THE SECOND FORM's CARD OF 'laws.FnExactReadMeter'. -/
def fnExactReadMeterUptoCard : Claim7 := { stood := { row := fnExactReadMeterUptoRow, standIns := [], harness := (true, "3b46a002cec0e2b5a73f5f356d7502b6fd1fc41c6b272e25341572e307149476"), looks := true }, kinds := [], alts := [], laidByText := true, laidKinds := [.data, .data, .data, .data, .sentinel, .sentinel, .pinned], laidTests := true, laidLooks := .later }
def FnExactReadMeterUptoCardSaid : Prop := Claim7.holds Tryd.pinned (.plain (OpenSpec.upto fnExactReadMeterSpec)) fnExactReadMeterUptoCard

/-- THE SECOND FORM's CARD OF 'laws.FnExactReadDuty'. -/
def fnExactReadDutyUptoCard : Claim7 := { stood := { row := fnExactReadDutyUptoRow, standIns := [], harness := (true, "3b46a002cec0e2b5a73f5f356d7502b6fd1fc41c6b272e25341572e307149476"), looks := true }, kinds := [], alts := [], laidByText := true, laidKinds := [.data, .data, .data, .data, .sentinel, .sentinel, .pinned], laidTests := true, laidLooks := .later }
def FnExactReadDutyUptoCardSaid : Prop := Claim7.holds Tryd.pinned (.plain (OpenSpec.upto fnExactReadDutySpec)) fnExactReadDutyUptoCard

/-- THE SECOND FORM's CARD OF 'laws.FnExactReadFuel'. -/
def fnExactReadFuelUptoCard : Claim7 := { stood := { row := fnExactReadFuelUptoRow, standIns := [], harness := (true, "3b46a002cec0e2b5a73f5f356d7502b6fd1fc41c6b272e25341572e307149476"), looks := true }, kinds := [], alts := [], laidByText := true, laidKinds := [.data, .data, .data, .data, .sentinel, .sentinel, .pinned], laidTests := true, laidLooks := .later }
def FnExactReadFuelUptoCardSaid : Prop := Claim7.holds Tryd.pinned (.plain (OpenSpec.upto fnExactReadFuelSpec)) fnExactReadFuelUptoCard

/-- THE SECOND FORM's CARD OF 'laws.FnExactReadRepair'. -/
def fnExactReadRepairUptoCard : Claim7 := { stood := { row := fnExactReadRepairUptoRow, standIns := [], harness := (true, "3b46a002cec0e2b5a73f5f356d7502b6fd1fc41c6b272e25341572e307149476"), looks := true }, kinds := [], alts := [], laidByText := true, laidKinds := [.data, .data, .data, .data, .sentinel, .sentinel, .pinned], laidTests := true, laidLooks := .later }
def FnExactReadRepairUptoCardSaid : Prop := Claim7.holds Tryd.pinned (.plain (OpenSpec.upto fnExactReadRepairSpec)) fnExactReadRepairUptoCard

/-- THE SECOND FORM's CARD OF 'laws.FnExactReadUnit'. -/
def fnExactReadUnitUptoCard : Claim7 := { stood := { row := fnExactReadUnitUptoRow, standIns := [], harness := (true, "3b46a002cec0e2b5a73f5f356d7502b6fd1fc41c6b272e25341572e307149476"), looks := true }, kinds := [], alts := [], laidByText := true, laidKinds := [.data, .data, .data, .data, .sentinel, .sentinel, .pinned], laidTests := true, laidLooks := .later }
def FnExactReadUnitUptoCardSaid : Prop := Claim7.holds Tryd.pinned (.plain (OpenSpec.upto fnExactReadUnitSpec)) fnExactReadUnitUptoCard

/-- THE SECOND FORM's CARD OF 'laws.FnExactReadImage'. -/
def fnExactReadImageUptoCard : Claim7 := { stood := { row := fnExactReadImageUptoRow, standIns := [], harness := (true, "3b46a002cec0e2b5a73f5f356d7502b6fd1fc41c6b272e25341572e307149476"), looks := true }, kinds := [], alts := [], laidByText := true, laidKinds := [.data, .data, .data, .data, .sentinel, .sentinel, .pinned], laidTests := true, laidLooks := .later }
def FnExactReadImageUptoCardSaid : Prop := Claim7.holds Tryd.pinned (.plain (OpenSpec.upto fnExactReadImageSpec)) fnExactReadImageUptoCard

/-- THE SECOND FORM's CARD OF 'laws.FnExactReadBuilding'. -/
def fnExactReadBuildingUptoCard : Claim7 := { stood := { row := fnExactReadBuildingUptoRow, standIns := [], harness := (true, "3b46a002cec0e2b5a73f5f356d7502b6fd1fc41c6b272e25341572e307149476"), looks := true }, kinds := [], alts := [], laidByText := true, laidKinds := [.data, .data, .data, .data, .sentinel, .sentinel, .pinned], laidTests := true, laidLooks := .later }
def FnExactReadBuildingUptoCardSaid : Prop := Claim7.holds Tryd.pinned (.plain (OpenSpec.upto fnExactReadBuildingSpec)) fnExactReadBuildingUptoCard
end Rows
end Go.Proofs.YtdbocilpcknlhaaDoor
