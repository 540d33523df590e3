/-
  DERIVED. GIVEN WITH THE SEED: THE CARDS: each row of YtmeimhakaieagaaDoorRows.lean that lists a variable, with what it lists TIED to the program's text (the seventh form; the later family's looks); each row that meets fmt, with fmt's text TOLD by the authors' own Lean function (tested against real Go, not proved from fmt's source: count such statements apart). THE CARD IS WHAT COUNTS. Prove the row's statement (the work); the ties are given (YtmeimhakaieagaaDoorTie.lean); close each card by the builder's one call (the guide's Derived/Test/ToyasCard.lean, 'card_holds'). Laid BY PROGRAM, IN A SANDBOX (cutbox-door.mjs). By AI agents, Wed Nov 11 2026. No macro, syntax, notation, axiom, sorry.
-/
import Derived.Test.YtmeimhakaieagaaDoorRows
import GoSem.ClaimSeven
namespace Go.Proofs.YtmeimhakaieagaaDoor
namespace Rows

/-- THE TIED CARD OF 'laws.FnLeaks'. -/
def fnLeaksCard : Claim7 := { stood := { row := fnLeaksRow, standIns := [], harness := (true, "0a5fe5542fe914ae3f9cefe220ea811e947e2a1e15d80cf4fdf8db2fc3afb7cc"), looks := true }, kinds := [], alts := [], laidByText := true, laidKinds := [.data, .data, .data, .data, .sentinel, .sentinel, .pinned], laidTests := true, laidLooks := .later }
def FnLeaksCardSaid : Prop := Claim7.holds Tryd.pinned (.plain (OpenSpec.ofChange fnLeaksSpec)) fnLeaksCard

/-- THE TIED CARD OF 'laws.FnTurns'. -/
def fnTurnsCard : Claim7 := { stood := { row := fnTurnsRow, standIns := [], harness := (true, "0a5fe5542fe914ae3f9cefe220ea811e947e2a1e15d80cf4fdf8db2fc3afb7cc"), looks := true }, kinds := [], alts := [], laidByText := true, laidKinds := [.data, .data, .data], laidTests := true, laidLooks := .later }
def FnTurnsCardSaid : Prop := Claim7.holds Tryd.pinned (.plain (OpenSpec.ofChange fnTurnsSpec)) fnTurnsCard

/-- THE SECOND FORM's CARD OF 'laws.FnLeaks'. -/
def fnLeaksUptoCard : Claim7 := { stood := { row := fnLeaksUptoRow, standIns := [], harness := (true, "0a5fe5542fe914ae3f9cefe220ea811e947e2a1e15d80cf4fdf8db2fc3afb7cc"), looks := true }, kinds := [], alts := [], laidByText := true, laidKinds := [.data, .data, .data, .data, .sentinel, .sentinel, .pinned], laidTests := true, laidLooks := .later }
def FnLeaksUptoCardSaid : Prop := Claim7.holds Tryd.pinned (.plain (OpenSpec.upto fnLeaksSpec)) fnLeaksUptoCard

/-- THE SECOND FORM's CARD OF 'laws.FnTurns'. -/
def fnTurnsUptoCard : Claim7 := { stood := { row := fnTurnsUptoRow, standIns := [], harness := (true, "0a5fe5542fe914ae3f9cefe220ea811e947e2a1e15d80cf4fdf8db2fc3afb7cc"), looks := true }, kinds := [], alts := [], laidByText := true, laidKinds := [.data, .data, .data], laidTests := true, laidLooks := .later }
def FnTurnsUptoCardSaid : Prop := Claim7.holds Tryd.pinned (.plain (OpenSpec.upto fnTurnsSpec)) fnTurnsUptoCard
end Rows
end Go.Proofs.YtmeimhakaieagaaDoor
