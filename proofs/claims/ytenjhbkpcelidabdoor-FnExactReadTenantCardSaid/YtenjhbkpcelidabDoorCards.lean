/-
  DERIVED. GIVEN WITH THE SEED: THE CARDS: each row of YtenjhbkpcelidabDoorRows.lean that lists a variable, with what it lists TIED to the program's text (the seventh form; the later family's looks); each row that meets fmt, with fmt's text TOLD by the authors' own Lean function (tested against real Go, not proved from fmt's source: count such statements apart). THE CARD IS WHAT COUNTS. Prove the row's statement (the work); the ties are given (YtenjhbkpcelidabDoorTie.lean); close each card by the builder's one call (the guide's Derived/Test/ToyasCard.lean, 'card_holds'). Laid BY PROGRAM, IN A SANDBOX (cutbox-door.mjs). By AI agents, Wed Nov 11 2026. No macro, syntax, notation, axiom, sorry.
-/
import Derived.Test.YtenjhbkpcelidabDoorRows
import GoSem.ClaimSeven
namespace Go.Proofs.YtenjhbkpcelidabDoor
namespace Rows

/-- THE TIED CARD OF 'laws.FnVersions'. -/
def fnVersionsCard : Claim7 := { stood := { row := fnVersionsRow, standIns := [], harness := (true, "68eb9e6a7230383cd3f05339258a0e99587b50f45ff17fe445bbebd9e4e2542d"), looks := true }, kinds := [], alts := [], laidByText := true, laidKinds := [.data, .data, .data], laidTests := true, laidLooks := .later }
def FnVersionsCardSaid : Prop := Claim7.holds Tryd.pinned (.plain (OpenSpec.ofChange fnVersionsSpec)) fnVersionsCard

/-- THE TIED CARD OF 'laws.FnTurns'. -/
def fnTurnsCard : Claim7 := { stood := { row := fnTurnsRow, standIns := [], harness := (true, "68eb9e6a7230383cd3f05339258a0e99587b50f45ff17fe445bbebd9e4e2542d"), looks := true }, kinds := [], alts := [], laidByText := true, laidKinds := [.data, .data, .data], laidTests := true, laidLooks := .later }
def FnTurnsCardSaid : Prop := Claim7.holds Tryd.pinned (.plain (OpenSpec.ofChange fnTurnsSpec)) fnTurnsCard

/-- THE TIED CARD OF 'laws.FnExactReadDuty'. -/
def fnExactReadDutyCard : Claim7 := { stood := { row := fnExactReadDutyRow, standIns := [], harness := (true, "68eb9e6a7230383cd3f05339258a0e99587b50f45ff17fe445bbebd9e4e2542d"), looks := true }, kinds := [], alts := [], laidByText := true, laidKinds := [.data, .data, .data, .data, .sentinel, .sentinel, .pinned], laidTests := true, laidLooks := .later }
def FnExactReadDutyCardSaid : Prop := Claim7.holds Tryd.pinned (.plain (OpenSpec.ofChange fnExactReadDutySpec)) fnExactReadDutyCard

/-- THE TIED CARD OF 'laws.FnExactReadTenant'. -/
def fnExactReadTenantCard : Claim7 := { stood := { row := fnExactReadTenantRow, standIns := [], harness := (true, "68eb9e6a7230383cd3f05339258a0e99587b50f45ff17fe445bbebd9e4e2542d"), looks := true }, kinds := [], alts := [], laidByText := true, laidKinds := [.data, .data, .data, .data, .sentinel, .sentinel, .pinned], laidTests := true, laidLooks := .later }
def FnExactReadTenantCardSaid : Prop := Claim7.holds Tryd.pinned (.plain (OpenSpec.ofChange fnExactReadTenantSpec)) fnExactReadTenantCard

/-- THE SECOND FORM's CARD OF 'laws.FnVersions'. -/
def fnVersionsUptoCard : Claim7 := { stood := { row := fnVersionsUptoRow, standIns := [], harness := (true, "68eb9e6a7230383cd3f05339258a0e99587b50f45ff17fe445bbebd9e4e2542d"), looks := true }, kinds := [], alts := [], laidByText := true, laidKinds := [.data, .data, .data], laidTests := true, laidLooks := .later }
def FnVersionsUptoCardSaid : Prop := Claim7.holds Tryd.pinned (.plain (OpenSpec.upto fnVersionsSpec)) fnVersionsUptoCard

/-- THE SECOND FORM's CARD OF 'laws.FnTurns'. -/
def fnTurnsUptoCard : Claim7 := { stood := { row := fnTurnsUptoRow, standIns := [], harness := (true, "68eb9e6a7230383cd3f05339258a0e99587b50f45ff17fe445bbebd9e4e2542d"), looks := true }, kinds := [], alts := [], laidByText := true, laidKinds := [.data, .data, .data], laidTests := true, laidLooks := .later }
def FnTurnsUptoCardSaid : Prop := Claim7.holds Tryd.pinned (.plain (OpenSpec.upto fnTurnsSpec)) fnTurnsUptoCard

/-- THE SECOND FORM's CARD OF 'laws.FnExactReadDuty'. -/
def fnExactReadDutyUptoCard : Claim7 := { stood := { row := fnExactReadDutyUptoRow, standIns := [], harness := (true, "68eb9e6a7230383cd3f05339258a0e99587b50f45ff17fe445bbebd9e4e2542d"), looks := true }, kinds := [], alts := [], laidByText := true, laidKinds := [.data, .data, .data, .data, .sentinel, .sentinel, .pinned], laidTests := true, laidLooks := .later }
def FnExactReadDutyUptoCardSaid : Prop := Claim7.holds Tryd.pinned (.plain (OpenSpec.upto fnExactReadDutySpec)) fnExactReadDutyUptoCard

/-- THE SECOND FORM's CARD OF 'laws.FnExactReadTenant'. -/
def fnExactReadTenantUptoCard : Claim7 := { stood := { row := fnExactReadTenantUptoRow, standIns := [], harness := (true, "68eb9e6a7230383cd3f05339258a0e99587b50f45ff17fe445bbebd9e4e2542d"), looks := true }, kinds := [], alts := [], laidByText := true, laidKinds := [.data, .data, .data, .data, .sentinel, .sentinel, .pinned], laidTests := true, laidLooks := .later }
def FnExactReadTenantUptoCardSaid : Prop := Claim7.holds Tryd.pinned (.plain (OpenSpec.upto fnExactReadTenantSpec)) fnExactReadTenantUptoCard
end Rows
end Go.Proofs.YtenjhbkpcelidabDoor
