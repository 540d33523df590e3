/-
  No cell of these rows narrows 'for every input' (looked for: loops, veiled, ifaces, maps, wideKeys, modest, calm, conditions, laid).
  DERIVED. THE GIVEN ROWS OF THIS SEAT. 10 by the template 'for every input the law returns true; each argument reads behind the call as it read before'; 0 by the template 'total and deterministic' (their statements: YtffmkjnjopflnaaTotals.lean).
  GIVEN WITH THE SEED: the statements are not yours to turn. If you find one false, say at which input.
  Laid BY PROGRAM, IN A SANDBOX (cutbox-rows.mjs): the forced cells as the released guide's own fill.sh prints them over the translation bf352f4f26940a0d… (all of the seat's roots in one cut). By AI agents, Wed Nov 11 2026. No macro, syntax, notation, axiom, sorry.
-/
import Derived.Test.YtffmkjnjopflnaaChecked
import GoSem.Claim
import GoSem.ClaimJoined
import GoSem.ClaimMapViews
import Derived.JoinedTies
import Derived.KernelRfl
namespace Go.Proofs.Ytffmkjnjopflnaa
/- THE CELL 'sum', in the pinned program and in every row, IS THE sha256 OF THE DUMP (.gsa) THAT YtffmkjnjopflnaaProg.lean LOADS. Nothing in Lean hashes anything: it is a label: what it is worth is what the hold of that sum in a sandbox is worth. -/
noncomputable def Try.pinned : Pinned := { name := "ytffmkjnjopflnaa", sum := "bf352f4f26940a0dd376c06e8ff064104652c49603e5a33b55ffd959e563aa44", checked := Try.checked }
namespace Rows
def none {H : Type} : Left H := { results := [], args := [] }

/-- 'laws.FnExactHotSpots': WHATEVER THE INPUT: true; the input reads as it did. -/
def fnExactHotSpotsSpec : ChangeSpec := { name := "fnExactHotSpots", fn := fun _ => fun
  | [d1, d2] => { results := [.lit (.bool true)], args := [d1, d2] }
  | _ => none }
def fnExactHotSpotsRow : OpenClaim := { program := "ytffmkjnjopflnaa", sum := "bf352f4f26940a0dd376c06e8ff064104652c49603e5a33b55ffd959e563aa44", func := "loop.example/g01011/laws.FnExactHotSpots", spec := "fnExactHotSpots", unfollowed := true, recurses := true, plainKeys := false, apart := false }
def FnExactHotSpotsSaid : Prop := fnExactHotSpotsRow.holds Try.pinned (OpenSpec.ofChange fnExactHotSpotsSpec)

/-- ITS FALSE NEIGHBOUR: 'it returns false'. Refute it at one input. -/
def fnExactHotSpotsWrong : ChangeSpec := { name := "fnExactHotSpots", fn := fun _ => fun
  | [d1, d2] => { results := [.lit (.bool false)], args := [d1, d2] }
  | _ => none }
def FnExactHotSpotsWrongFalsely : Prop := fnExactHotSpotsRow.holds Try.pinned (OpenSpec.ofChange fnExactHotSpotsWrong)

/-- 'laws.FnRepairs': WHATEVER THE INPUT: true; the input reads as it did. -/
def fnRepairsSpec : ChangeSpec := { name := "fnRepairs", fn := fun _ => fun
  | [d1, d2] => { results := [.lit (.bool true)], args := [d1, d2] }
  | _ => none }
def fnRepairsRow : OpenClaim := { program := "ytffmkjnjopflnaa", sum := "bf352f4f26940a0dd376c06e8ff064104652c49603e5a33b55ffd959e563aa44", func := "loop.example/g01011/laws.FnRepairs", spec := "fnRepairs", recurses := true, plainKeys := false, apart := false }
def FnRepairsSaid : Prop := fnRepairsRow.holds Try.pinned (OpenSpec.ofChange fnRepairsSpec)

/-- ITS FALSE NEIGHBOUR: 'it returns false'. Refute it at one input. -/
def fnRepairsWrong : ChangeSpec := { name := "fnRepairs", fn := fun _ => fun
  | [d1, d2] => { results := [.lit (.bool false)], args := [d1, d2] }
  | _ => none }
def FnRepairsWrongFalsely : Prop := fnRepairsRow.holds Try.pinned (OpenSpec.ofChange fnRepairsWrong)

/-- 'laws.FnExactBestOrder': WHATEVER THE INPUT: true; the input reads as it did. -/
def fnExactBestOrderSpec : ChangeSpec := { name := "fnExactBestOrder", fn := fun _ => fun
  | [d] => { results := [.lit (.bool true)], args := [d] }
  | _ => none }
def fnExactBestOrderRow : OpenClaim := { program := "ytffmkjnjopflnaa", sum := "bf352f4f26940a0dd376c06e8ff064104652c49603e5a33b55ffd959e563aa44", func := "loop.example/g01011/laws.FnExactBestOrder", spec := "fnExactBestOrder", recurses := true, plainKeys := false, apart := false }
def FnExactBestOrderSaid : Prop := fnExactBestOrderRow.holds Try.pinned (OpenSpec.ofChange fnExactBestOrderSpec)

/-- ITS FALSE NEIGHBOUR: 'it returns false'. Refute it at one input. -/
def fnExactBestOrderWrong : ChangeSpec := { name := "fnExactBestOrder", fn := fun _ => fun
  | [d] => { results := [.lit (.bool false)], args := [d] }
  | _ => none }
def FnExactBestOrderWrongFalsely : Prop := fnExactBestOrderRow.holds Try.pinned (OpenSpec.ofChange fnExactBestOrderWrong)

/-- 'laws.FnExactWalkBetween': WHATEVER THE INPUT: true; the input reads as it did. -/
def fnExactWalkBetweenSpec : ChangeSpec := { name := "fnExactWalkBetween", fn := fun _ => fun
  | [d1, d2, d3] => { results := [.lit (.bool true)], args := [d1, d2, d3] }
  | _ => none }
def fnExactWalkBetweenRow : OpenClaim := { program := "ytffmkjnjopflnaa", sum := "bf352f4f26940a0dd376c06e8ff064104652c49603e5a33b55ffd959e563aa44", func := "loop.example/g01011/laws.FnExactWalkBetween", spec := "fnExactWalkBetween", unfollowed := true, recurses := true, plainKeys := false, apart := false }
def FnExactWalkBetweenSaid : Prop := fnExactWalkBetweenRow.holds Try.pinned (OpenSpec.ofChange fnExactWalkBetweenSpec)

/-- ITS FALSE NEIGHBOUR: 'it returns false'. Refute it at one input. -/
def fnExactWalkBetweenWrong : ChangeSpec := { name := "fnExactWalkBetween", fn := fun _ => fun
  | [d1, d2, d3] => { results := [.lit (.bool false)], args := [d1, d2, d3] }
  | _ => none }
def FnExactWalkBetweenWrongFalsely : Prop := fnExactWalkBetweenRow.holds Try.pinned (OpenSpec.ofChange fnExactWalkBetweenWrong)

/-- 'laws.FnExactBestGangs': WHATEVER THE INPUT: true; the input reads as it did. -/
def fnExactBestGangsSpec : ChangeSpec := { name := "fnExactBestGangs", fn := fun _ => fun
  | [d1, d2, d3] => { results := [.lit (.bool true)], args := [d1, d2, d3] }
  | _ => none }
def fnExactBestGangsRow : OpenClaim := { program := "ytffmkjnjopflnaa", sum := "bf352f4f26940a0dd376c06e8ff064104652c49603e5a33b55ffd959e563aa44", func := "loop.example/g01011/laws.FnExactBestGangs", spec := "fnExactBestGangs", recurses := true, plainKeys := false, apart := false }
def FnExactBestGangsSaid : Prop := fnExactBestGangsRow.holds Try.pinned (OpenSpec.ofChange fnExactBestGangsSpec)

/-- ITS FALSE NEIGHBOUR: 'it returns false'. Refute it at one input. -/
def fnExactBestGangsWrong : ChangeSpec := { name := "fnExactBestGangs", fn := fun _ => fun
  | [d1, d2, d3] => { results := [.lit (.bool false)], args := [d1, d2, d3] }
  | _ => none }
def FnExactBestGangsWrongFalsely : Prop := fnExactBestGangsRow.holds Try.pinned (OpenSpec.ofChange fnExactBestGangsWrong)

/-- 'laws.FnExactRoundLength': WHATEVER THE INPUT: true; the input reads as it did. -/
def fnExactRoundLengthSpec : ChangeSpec := { name := "fnExactRoundLength", fn := fun _ => fun
  | [d1, d2] => { results := [.lit (.bool true)], args := [d1, d2] }
  | _ => none }
def fnExactRoundLengthRow : OpenClaim := { program := "ytffmkjnjopflnaa", sum := "bf352f4f26940a0dd376c06e8ff064104652c49603e5a33b55ffd959e563aa44", func := "loop.example/g01011/laws.FnExactRoundLength", spec := "fnExactRoundLength", unfollowed := true, recurses := true, plainKeys := false, apart := false }
def FnExactRoundLengthSaid : Prop := fnExactRoundLengthRow.holds Try.pinned (OpenSpec.ofChange fnExactRoundLengthSpec)

/-- ITS FALSE NEIGHBOUR: 'it returns false'. Refute it at one input. -/
def fnExactRoundLengthWrong : ChangeSpec := { name := "fnExactRoundLength", fn := fun _ => fun
  | [d1, d2] => { results := [.lit (.bool false)], args := [d1, d2] }
  | _ => none }
def FnExactRoundLengthWrongFalsely : Prop := fnExactRoundLengthRow.holds Try.pinned (OpenSpec.ofChange fnExactRoundLengthWrong)

/-- 'laws.FnExactApplyChanges': WHATEVER THE INPUT: true; the input reads as it did. -/
def fnExactApplyChangesSpec : ChangeSpec := { name := "fnExactApplyChanges", fn := fun _ => fun
  | [d1, d2] => { results := [.lit (.bool true)], args := [d1, d2] }
  | _ => none }
def fnExactApplyChangesRow : OpenClaim := { program := "ytffmkjnjopflnaa", sum := "bf352f4f26940a0dd376c06e8ff064104652c49603e5a33b55ffd959e563aa44", func := "loop.example/g01011/laws.FnExactApplyChanges", spec := "fnExactApplyChanges", inPlace := ["slices.overlaps[loop.example/g01011/impl.Setting]"], unfollowed := true, recurses := true, plainKeys := false, apart := false }
def FnExactApplyChangesSaid : Prop := fnExactApplyChangesRow.holds Try.pinned (OpenSpec.ofChange fnExactApplyChangesSpec)

/-- ITS FALSE NEIGHBOUR: 'it returns false'. Refute it at one input. -/
def fnExactApplyChangesWrong : ChangeSpec := { name := "fnExactApplyChanges", fn := fun _ => fun
  | [d1, d2] => { results := [.lit (.bool false)], args := [d1, d2] }
  | _ => none }
def FnExactApplyChangesWrongFalsely : Prop := fnExactApplyChangesRow.holds Try.pinned (OpenSpec.ofChange fnExactApplyChangesWrong)

/-- 'laws.FnExactPeakHours': WHATEVER THE INPUT: true; the input reads as it did. -/
def fnExactPeakHoursSpec : ChangeSpec := { name := "fnExactPeakHours", fn := fun _ => fun
  | [d1, d2] => { results := [.lit (.bool true)], args := [d1, d2] }
  | _ => none }
def fnExactPeakHoursRow : OpenClaim := { program := "ytffmkjnjopflnaa", sum := "bf352f4f26940a0dd376c06e8ff064104652c49603e5a33b55ffd959e563aa44", func := "loop.example/g01011/laws.FnExactPeakHours", spec := "fnExactPeakHours", unfollowed := true, recurses := true, plainKeys := false, apart := false }
def FnExactPeakHoursSaid : Prop := fnExactPeakHoursRow.holds Try.pinned (OpenSpec.ofChange fnExactPeakHoursSpec)

/-- ITS FALSE NEIGHBOUR: 'it returns false'. Refute it at one input. -/
def fnExactPeakHoursWrong : ChangeSpec := { name := "fnExactPeakHours", fn := fun _ => fun
  | [d1, d2] => { results := [.lit (.bool false)], args := [d1, d2] }
  | _ => none }
def FnExactPeakHoursWrongFalsely : Prop := fnExactPeakHoursRow.holds Try.pinned (OpenSpec.ofChange fnExactPeakHoursWrong)

/-- 'laws.FnRounds': WHATEVER THE INPUT: true; the input reads as it did. -/
def fnRoundsSpec : ChangeSpec := { name := "fnRounds", fn := fun _ => fun
  | [d1, d2] => { results := [.lit (.bool true)], args := [d1, d2] }
  | _ => none }
def fnRoundsRow : OpenClaim := { program := "ytffmkjnjopflnaa", sum := "bf352f4f26940a0dd376c06e8ff064104652c49603e5a33b55ffd959e563aa44", func := "loop.example/g01011/laws.FnRounds", spec := "fnRounds", unfollowed := true, recurses := true, plainKeys := false, apart := false }
def FnRoundsSaid : Prop := fnRoundsRow.holds Try.pinned (OpenSpec.ofChange fnRoundsSpec)

/-- ITS FALSE NEIGHBOUR: 'it returns false'. Refute it at one input. -/
def fnRoundsWrong : ChangeSpec := { name := "fnRounds", fn := fun _ => fun
  | [d1, d2] => { results := [.lit (.bool false)], args := [d1, d2] }
  | _ => none }
def FnRoundsWrongFalsely : Prop := fnRoundsRow.holds Try.pinned (OpenSpec.ofChange fnRoundsWrong)

/-- 'laws.FnExactBestRound': WHATEVER THE INPUT: true; the input reads as it did. -/
def fnExactBestRoundSpec : ChangeSpec := { name := "fnExactBestRound", fn := fun _ => fun
  | [d1, d2] => { results := [.lit (.bool true)], args := [d1, d2] }
  | _ => none }
def fnExactBestRoundRow : OpenClaim := { program := "ytffmkjnjopflnaa", sum := "bf352f4f26940a0dd376c06e8ff064104652c49603e5a33b55ffd959e563aa44", func := "loop.example/g01011/laws.FnExactBestRound", spec := "fnExactBestRound", unfollowed := true, recurses := true, plainKeys := false, apart := false }
def FnExactBestRoundSaid : Prop := fnExactBestRoundRow.holds Try.pinned (OpenSpec.ofChange fnExactBestRoundSpec)

/-- ITS FALSE NEIGHBOUR: 'it returns false'. Refute it at one input. -/
def fnExactBestRoundWrong : ChangeSpec := { name := "fnExactBestRound", fn := fun _ => fun
  | [d1, d2] => { results := [.lit (.bool false)], args := [d1, d2] }
  | _ => none }
def FnExactBestRoundWrongFalsely : Prop := fnExactBestRoundRow.holds Try.pinned (OpenSpec.ofChange fnExactBestRoundWrong)

/- THE SECOND FORM. 'bulk': how many values and letters a reading holds, each counted each time it is reached (what is shared counts as often as it is met; a slice's spare places count too). A statement '..UptoSaid' is the law's where the arguments, and the package variables that the reading takes, are together of bulk at most 1048576: NARROWER than '..Said'. Prove '..Said' where nothing that the law and all that it calls make is longer than what came in: it says more and counts as full. Else prove '..UptoSaid'. A law counts once. -/
mutual
def uptoBulk {H : Type} : DataW H → Nat
  | .lit (.string bytes) => bytes.length + 1
  | .lit _ => 1
  | .nil => 1
  | .ptr d => uptoBulk d + 1
  | .slice elems spare => uptoBulkAll elems + uptoBulkAll spare + 1
  | .agg parts => uptoBulkAll parts + 1
  | .iface _ d => uptoBulk d + 1
  | .map entries => uptoBulkEntries entries + 1
  | .held _ => 1
def uptoBulkAll {H : Type} : List (DataW H) → Nat
  | [] => 0
  | d :: r => uptoBulk d + uptoBulkAll r
def uptoBulkEntries {H : Type} : List (Lit × DataW H) → Nat
  | [] => 0
  | x :: r => uptoBulkEntry x + uptoBulkEntries r
def uptoBulkEntry {H : Type} : Lit × DataW H → Nat
  | (.string bytes, d) => bytes.length + uptoBulk d + 1
  | (_, d) => uptoBulk d + 1
 end
def uptoSmall : (H : Type) → List (DataW H) → Bool := fun _ ds => decide (uptoBulkAll ds ≤ 1048576)
def OpenSpec.upto (s : _root_.Go.ChangeSpec) : _root_.Go.OpenSpec := { _root_.Go.OpenSpec.ofChange s with cond := some uptoSmall }

/-- 'laws.FnExactHotSpots', WHERE WHAT IT READS IS OF BULK AT MOST 1048576: true; the input reads as it did. -/
def fnExactHotSpotsUptoRow : OpenClaim := { program := "ytffmkjnjopflnaa", sum := "bf352f4f26940a0dd376c06e8ff064104652c49603e5a33b55ffd959e563aa44", func := "loop.example/g01011/laws.FnExactHotSpots", spec := "fnExactHotSpots", unfollowed := true, recurses := true, plainKeys := false, apart := false, narrowed := true }
def FnExactHotSpotsUptoSaid : Prop := fnExactHotSpotsUptoRow.holds Try.pinned (OpenSpec.upto fnExactHotSpotsSpec)

/-- 'laws.FnRepairs', WHERE WHAT IT READS IS OF BULK AT MOST 1048576: true; the input reads as it did. -/
def fnRepairsUptoRow : OpenClaim := { program := "ytffmkjnjopflnaa", sum := "bf352f4f26940a0dd376c06e8ff064104652c49603e5a33b55ffd959e563aa44", func := "loop.example/g01011/laws.FnRepairs", spec := "fnRepairs", recurses := true, plainKeys := false, apart := false, narrowed := true }
def FnRepairsUptoSaid : Prop := fnRepairsUptoRow.holds Try.pinned (OpenSpec.upto fnRepairsSpec)

/-- 'laws.FnExactBestOrder', WHERE WHAT IT READS IS OF BULK AT MOST 1048576: true; the input reads as it did. -/
def fnExactBestOrderUptoRow : OpenClaim := { program := "ytffmkjnjopflnaa", sum := "bf352f4f26940a0dd376c06e8ff064104652c49603e5a33b55ffd959e563aa44", func := "loop.example/g01011/laws.FnExactBestOrder", spec := "fnExactBestOrder", recurses := true, plainKeys := false, apart := false, narrowed := true }
def FnExactBestOrderUptoSaid : Prop := fnExactBestOrderUptoRow.holds Try.pinned (OpenSpec.upto fnExactBestOrderSpec)

/-- 'laws.FnExactWalkBetween', WHERE WHAT IT READS IS OF BULK AT MOST 1048576: true; the input reads as it did. -/
def fnExactWalkBetweenUptoRow : OpenClaim := { program := "ytffmkjnjopflnaa", sum := "bf352f4f26940a0dd376c06e8ff064104652c49603e5a33b55ffd959e563aa44", func := "loop.example/g01011/laws.FnExactWalkBetween", spec := "fnExactWalkBetween", unfollowed := true, recurses := true, plainKeys := false, apart := false, narrowed := true }
def FnExactWalkBetweenUptoSaid : Prop := fnExactWalkBetweenUptoRow.holds Try.pinned (OpenSpec.upto fnExactWalkBetweenSpec)

/-- 'laws.FnExactBestGangs', WHERE WHAT IT READS IS OF BULK AT MOST 1048576: true; the input reads as it did. -/
def fnExactBestGangsUptoRow : OpenClaim := { program := "ytffmkjnjopflnaa", sum := "bf352f4f26940a0dd376c06e8ff064104652c49603e5a33b55ffd959e563aa44", func := "loop.example/g01011/laws.FnExactBestGangs", spec := "fnExactBestGangs", recurses := true, plainKeys := false, apart := false, narrowed := true }
def FnExactBestGangsUptoSaid : Prop := fnExactBestGangsUptoRow.holds Try.pinned (OpenSpec.upto fnExactBestGangsSpec)

/-- 'laws.FnExactRoundLength', WHERE WHAT IT READS IS OF BULK AT MOST 1048576: true; the input reads as it did. -/
def fnExactRoundLengthUptoRow : OpenClaim := { program := "ytffmkjnjopflnaa", sum := "bf352f4f26940a0dd376c06e8ff064104652c49603e5a33b55ffd959e563aa44", func := "loop.example/g01011/laws.FnExactRoundLength", spec := "fnExactRoundLength", unfollowed := true, recurses := true, plainKeys := false, apart := false, narrowed := true }
def FnExactRoundLengthUptoSaid : Prop := fnExactRoundLengthUptoRow.holds Try.pinned (OpenSpec.upto fnExactRoundLengthSpec)

/-- 'laws.FnExactApplyChanges', WHERE WHAT IT READS IS OF BULK AT MOST 1048576: true; the input reads as it did. -/
def fnExactApplyChangesUptoRow : OpenClaim := { program := "ytffmkjnjopflnaa", sum := "bf352f4f26940a0dd376c06e8ff064104652c49603e5a33b55ffd959e563aa44", func := "loop.example/g01011/laws.FnExactApplyChanges", spec := "fnExactApplyChanges", inPlace := ["slices.overlaps[loop.example/g01011/impl.Setting]"], unfollowed := true, recurses := true, plainKeys := false, apart := false, narrowed := true }
def FnExactApplyChangesUptoSaid : Prop := fnExactApplyChangesUptoRow.holds Try.pinned (OpenSpec.upto fnExactApplyChangesSpec)

/-- 'laws.FnExactPeakHours', WHERE WHAT IT READS IS OF BULK AT MOST 1048576: true; the input reads as it did. -/
def fnExactPeakHoursUptoRow : OpenClaim := { program := "ytffmkjnjopflnaa", sum := "bf352f4f26940a0dd376c06e8ff064104652c49603e5a33b55ffd959e563aa44", func := "loop.example/g01011/laws.FnExactPeakHours", spec := "fnExactPeakHours", unfollowed := true, recurses := true, plainKeys := false, apart := false, narrowed := true }
def FnExactPeakHoursUptoSaid : Prop := fnExactPeakHoursUptoRow.holds Try.pinned (OpenSpec.upto fnExactPeakHoursSpec)

/-- 'laws.FnRounds', WHERE WHAT IT READS IS OF BULK AT MOST 1048576: true; the input reads as it did. -/
def fnRoundsUptoRow : OpenClaim := { program := "ytffmkjnjopflnaa", sum := "bf352f4f26940a0dd376c06e8ff064104652c49603e5a33b55ffd959e563aa44", func := "loop.example/g01011/laws.FnRounds", spec := "fnRounds", unfollowed := true, recurses := true, plainKeys := false, apart := false, narrowed := true }
def FnRoundsUptoSaid : Prop := fnRoundsUptoRow.holds Try.pinned (OpenSpec.upto fnRoundsSpec)

/-- 'laws.FnExactBestRound', WHERE WHAT IT READS IS OF BULK AT MOST 1048576: true; the input reads as it did. -/
def fnExactBestRoundUptoRow : OpenClaim := { program := "ytffmkjnjopflnaa", sum := "bf352f4f26940a0dd376c06e8ff064104652c49603e5a33b55ffd959e563aa44", func := "loop.example/g01011/laws.FnExactBestRound", spec := "fnExactBestRound", unfollowed := true, recurses := true, plainKeys := false, apart := false, narrowed := true }
def FnExactBestRoundUptoSaid : Prop := fnExactBestRoundUptoRow.holds Try.pinned (OpenSpec.upto fnExactBestRoundSpec)

end Rows
end Go.Proofs.Ytffmkjnjopflnaa
