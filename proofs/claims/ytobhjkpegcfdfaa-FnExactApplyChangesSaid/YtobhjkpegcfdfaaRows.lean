/-
  No cell of these rows narrows 'for every input' (looked for: loops, veiled, ifaces, maps, wideKeys, modest, calm, conditions, laid).
  DERIVED. THE GIVEN ROWS OF THIS SEAT. 11 by the template 'for every input the law returns true; each argument reads behind the call as it read before'; 0 by the template 'total and deterministic' (their statements: YtobhjkpegcfdfaaTotals.lean).
  GIVEN WITH THE SEED: the statements are not yours to turn. If you find one false, say at which input.
  Laid BY PROGRAM, IN A SANDBOX (cutbox-rows.mjs): the forced cells as the released guide's own fill.sh prints them over the translation f0d05c7255bd928c… (all of the seat's roots in one cut). By AI agents, Wed Nov 11 2026. No macro, syntax, notation, axiom, sorry.
-/
import Derived.Test.YtobhjkpegcfdfaaChecked
import GoSem.Claim
import GoSem.ClaimJoined
import GoSem.ClaimMapViews
import Derived.JoinedTies
import Derived.KernelRfl
namespace Go.Proofs.Ytobhjkpegcfdfaa
/- THE CELL 'sum', in the pinned program and in every row, IS THE sha256 OF THE DUMP (.gsa) THAT YtobhjkpegcfdfaaProg.lean LOADS. Nothing in Lean hashes anything: it is a label: what it is worth is what the hold of that sum in a sandbox is worth. -/
noncomputable def Try.pinned : Pinned := { name := "ytobhjkpegcfdfaa", sum := "f0d05c7255bd928cd981d1ff21b4fc394e0d92870b95687fe32f0324dd091d73", checked := Try.checked }
namespace Rows
def none {H : Type} : Left H := { results := [], args := [] }

/-- 'laws.FnExactHotSpots': WHATEVER THE INPUT: true; the input reads as it did. -/
def fnExactHotSpotsSpec : ChangeSpec := { name := "fnExactHotSpots", fn := fun _ => fun
  | [d1, d2] => { results := [.lit (.bool true)], args := [d1, d2] }
  | _ => none }
def fnExactHotSpotsRow : OpenClaim := { program := "ytobhjkpegcfdfaa", sum := "f0d05c7255bd928cd981d1ff21b4fc394e0d92870b95687fe32f0324dd091d73", func := "loop.example/g01011/laws.FnExactHotSpots", spec := "fnExactHotSpots", unfollowed := true, recurses := true, plainKeys := false, apart := false }
def FnExactHotSpotsSaid : Prop := fnExactHotSpotsRow.holds Try.pinned (OpenSpec.ofChange fnExactHotSpotsSpec)

/-- ITS FALSE NEIGHBOUR: 'it returns false'. Refute it at one input. -/
def fnExactHotSpotsWrong : ChangeSpec := { name := "fnExactHotSpots", fn := fun _ => fun
  | [d1, d2] => { results := [.lit (.bool false)], args := [d1, d2] }
  | _ => none }
def FnExactHotSpotsWrongFalsely : Prop := fnExactHotSpotsRow.holds Try.pinned (OpenSpec.ofChange fnExactHotSpotsWrong)

/-- 'laws.FnExactWalkBetween': WHATEVER THE INPUT: true; the input reads as it did. -/
def fnExactWalkBetweenSpec : ChangeSpec := { name := "fnExactWalkBetween", fn := fun _ => fun
  | [d1, d2, d3] => { results := [.lit (.bool true)], args := [d1, d2, d3] }
  | _ => none }
def fnExactWalkBetweenRow : OpenClaim := { program := "ytobhjkpegcfdfaa", sum := "f0d05c7255bd928cd981d1ff21b4fc394e0d92870b95687fe32f0324dd091d73", func := "loop.example/g01011/laws.FnExactWalkBetween", spec := "fnExactWalkBetween", unfollowed := true, recurses := true, plainKeys := false, apart := false }
def FnExactWalkBetweenSaid : Prop := fnExactWalkBetweenRow.holds Try.pinned (OpenSpec.ofChange fnExactWalkBetweenSpec)

/-- ITS FALSE NEIGHBOUR: 'it returns false'. Refute it at one input. -/
def fnExactWalkBetweenWrong : ChangeSpec := { name := "fnExactWalkBetween", fn := fun _ => fun
  | [d1, d2, d3] => { results := [.lit (.bool false)], args := [d1, d2, d3] }
  | _ => none }
def FnExactWalkBetweenWrongFalsely : Prop := fnExactWalkBetweenRow.holds Try.pinned (OpenSpec.ofChange fnExactWalkBetweenWrong)

/-- 'laws.FnExactRoundLength': WHATEVER THE INPUT: true; the input reads as it did. -/
def fnExactRoundLengthSpec : ChangeSpec := { name := "fnExactRoundLength", fn := fun _ => fun
  | [d1, d2] => { results := [.lit (.bool true)], args := [d1, d2] }
  | _ => none }
def fnExactRoundLengthRow : OpenClaim := { program := "ytobhjkpegcfdfaa", sum := "f0d05c7255bd928cd981d1ff21b4fc394e0d92870b95687fe32f0324dd091d73", func := "loop.example/g01011/laws.FnExactRoundLength", spec := "fnExactRoundLength", unfollowed := true, recurses := true, plainKeys := false, apart := false }
def FnExactRoundLengthSaid : Prop := fnExactRoundLengthRow.holds Try.pinned (OpenSpec.ofChange fnExactRoundLengthSpec)

/-- ITS FALSE NEIGHBOUR: 'it returns false'. Refute it at one input. -/
def fnExactRoundLengthWrong : ChangeSpec := { name := "fnExactRoundLength", fn := fun _ => fun
  | [d1, d2] => { results := [.lit (.bool false)], args := [d1, d2] }
  | _ => none }
def FnExactRoundLengthWrongFalsely : Prop := fnExactRoundLengthRow.holds Try.pinned (OpenSpec.ofChange fnExactRoundLengthWrong)

/-- 'laws.FnExactApplyChanges': WHATEVER THE INPUT: true; the input reads as it did. -/
def fnExactApplyChangesSpec : ChangeSpec := { name := "fnExactApplyChanges", fn := fun _ => fun
  | [d1, d2] => { results := [.lit (.bool true)], args := [d1, d2] }
  | _ => none }
def fnExactApplyChangesRow : OpenClaim := { program := "ytobhjkpegcfdfaa", sum := "f0d05c7255bd928cd981d1ff21b4fc394e0d92870b95687fe32f0324dd091d73", func := "loop.example/g01011/laws.FnExactApplyChanges", spec := "fnExactApplyChanges", inPlace := ["slices.overlaps[loop.example/g01011/impl.Setting]"], unfollowed := true, recurses := true, plainKeys := false, apart := false }
def FnExactApplyChangesSaid : Prop := fnExactApplyChangesRow.holds Try.pinned (OpenSpec.ofChange fnExactApplyChangesSpec)

/-- ITS FALSE NEIGHBOUR: 'it returns false'. Refute it at one input. -/
def fnExactApplyChangesWrong : ChangeSpec := { name := "fnExactApplyChanges", fn := fun _ => fun
  | [d1, d2] => { results := [.lit (.bool false)], args := [d1, d2] }
  | _ => none }
def FnExactApplyChangesWrongFalsely : Prop := fnExactApplyChangesRow.holds Try.pinned (OpenSpec.ofChange fnExactApplyChangesWrong)

/-- 'laws.FnExactGreatestDemand': WHATEVER THE INPUT: true; the input reads as it did. -/
def fnExactGreatestDemandSpec : ChangeSpec := { name := "fnExactGreatestDemand", fn := fun _ => fun
  | [d1, d2] => { results := [.lit (.bool true)], args := [d1, d2] }
  | _ => none }
def fnExactGreatestDemandRow : OpenClaim := { program := "ytobhjkpegcfdfaa", sum := "f0d05c7255bd928cd981d1ff21b4fc394e0d92870b95687fe32f0324dd091d73", func := "loop.example/g01011/laws.FnExactGreatestDemand", spec := "fnExactGreatestDemand", unfollowed := true, recurses := true, plainKeys := false, apart := false }
def FnExactGreatestDemandSaid : Prop := fnExactGreatestDemandRow.holds Try.pinned (OpenSpec.ofChange fnExactGreatestDemandSpec)

/-- ITS FALSE NEIGHBOUR: 'it returns false'. Refute it at one input. -/
def fnExactGreatestDemandWrong : ChangeSpec := { name := "fnExactGreatestDemand", fn := fun _ => fun
  | [d1, d2] => { results := [.lit (.bool false)], args := [d1, d2] }
  | _ => none }
def FnExactGreatestDemandWrongFalsely : Prop := fnExactGreatestDemandRow.holds Try.pinned (OpenSpec.ofChange fnExactGreatestDemandWrong)

/-- 'laws.FnCommitment': WHATEVER THE INPUT: true; the input reads as it did. -/
def fnCommitmentSpec : ChangeSpec := { name := "fnCommitment", fn := fun _ => fun
  | [d1, d2] => { results := [.lit (.bool true)], args := [d1, d2] }
  | _ => none }
def fnCommitmentRow : OpenClaim := { program := "ytobhjkpegcfdfaa", sum := "f0d05c7255bd928cd981d1ff21b4fc394e0d92870b95687fe32f0324dd091d73", func := "loop.example/g01011/laws.FnCommitment", spec := "fnCommitment", unfollowed := true, recurses := true, plainKeys := false, apart := false }
def FnCommitmentSaid : Prop := fnCommitmentRow.holds Try.pinned (OpenSpec.ofChange fnCommitmentSpec)

/-- ITS FALSE NEIGHBOUR: 'it returns false'. Refute it at one input. -/
def fnCommitmentWrong : ChangeSpec := { name := "fnCommitment", fn := fun _ => fun
  | [d1, d2] => { results := [.lit (.bool false)], args := [d1, d2] }
  | _ => none }
def FnCommitmentWrongFalsely : Prop := fnCommitmentRow.holds Try.pinned (OpenSpec.ofChange fnCommitmentWrong)

/-- 'laws.FnExactWorthOf': WHATEVER THE INPUT: true; the input reads as it did. -/
def fnExactWorthOfSpec : ChangeSpec := { name := "fnExactWorthOf", fn := fun _ => fun
  | [d1, d2, d3] => { results := [.lit (.bool true)], args := [d1, d2, d3] }
  | _ => none }
def fnExactWorthOfRow : OpenClaim := { program := "ytobhjkpegcfdfaa", sum := "f0d05c7255bd928cd981d1ff21b4fc394e0d92870b95687fe32f0324dd091d73", func := "loop.example/g01011/laws.FnExactWorthOf", spec := "fnExactWorthOf", unfollowed := true, recurses := true, plainKeys := false, apart := false }
def FnExactWorthOfSaid : Prop := fnExactWorthOfRow.holds Try.pinned (OpenSpec.ofChange fnExactWorthOfSpec)

/-- ITS FALSE NEIGHBOUR: 'it returns false'. Refute it at one input. -/
def fnExactWorthOfWrong : ChangeSpec := { name := "fnExactWorthOf", fn := fun _ => fun
  | [d1, d2, d3] => { results := [.lit (.bool false)], args := [d1, d2, d3] }
  | _ => none }
def FnExactWorthOfWrongFalsely : Prop := fnExactWorthOfRow.holds Try.pinned (OpenSpec.ofChange fnExactWorthOfWrong)

/-- 'laws.FnExactPeakHours': WHATEVER THE INPUT: true; the input reads as it did. -/
def fnExactPeakHoursSpec : ChangeSpec := { name := "fnExactPeakHours", fn := fun _ => fun
  | [d1, d2] => { results := [.lit (.bool true)], args := [d1, d2] }
  | _ => none }
def fnExactPeakHoursRow : OpenClaim := { program := "ytobhjkpegcfdfaa", sum := "f0d05c7255bd928cd981d1ff21b4fc394e0d92870b95687fe32f0324dd091d73", func := "loop.example/g01011/laws.FnExactPeakHours", spec := "fnExactPeakHours", unfollowed := true, recurses := true, plainKeys := false, apart := false }
def FnExactPeakHoursSaid : Prop := fnExactPeakHoursRow.holds Try.pinned (OpenSpec.ofChange fnExactPeakHoursSpec)

/-- ITS FALSE NEIGHBOUR: 'it returns false'. Refute it at one input. -/
def fnExactPeakHoursWrong : ChangeSpec := { name := "fnExactPeakHours", fn := fun _ => fun
  | [d1, d2] => { results := [.lit (.bool false)], args := [d1, d2] }
  | _ => none }
def FnExactPeakHoursWrongFalsely : Prop := fnExactPeakHoursRow.holds Try.pinned (OpenSpec.ofChange fnExactPeakHoursWrong)

/-- 'laws.FnExactCheapestPlan': WHATEVER THE INPUT: true; the input reads as it did. -/
def fnExactCheapestPlanSpec : ChangeSpec := { name := "fnExactCheapestPlan", fn := fun _ => fun
  | [d1, d2] => { results := [.lit (.bool true)], args := [d1, d2] }
  | _ => none }
def fnExactCheapestPlanRow : OpenClaim := { program := "ytobhjkpegcfdfaa", sum := "f0d05c7255bd928cd981d1ff21b4fc394e0d92870b95687fe32f0324dd091d73", func := "loop.example/g01011/laws.FnExactCheapestPlan", spec := "fnExactCheapestPlan", unfollowed := true, recurses := true, plainKeys := false, apart := false }
def FnExactCheapestPlanSaid : Prop := fnExactCheapestPlanRow.holds Try.pinned (OpenSpec.ofChange fnExactCheapestPlanSpec)

/-- ITS FALSE NEIGHBOUR: 'it returns false'. Refute it at one input. -/
def fnExactCheapestPlanWrong : ChangeSpec := { name := "fnExactCheapestPlan", fn := fun _ => fun
  | [d1, d2] => { results := [.lit (.bool false)], args := [d1, d2] }
  | _ => none }
def FnExactCheapestPlanWrongFalsely : Prop := fnExactCheapestPlanRow.holds Try.pinned (OpenSpec.ofChange fnExactCheapestPlanWrong)

/-- 'laws.FnRounds': WHATEVER THE INPUT: true; the input reads as it did. -/
def fnRoundsSpec : ChangeSpec := { name := "fnRounds", fn := fun _ => fun
  | [d1, d2] => { results := [.lit (.bool true)], args := [d1, d2] }
  | _ => none }
def fnRoundsRow : OpenClaim := { program := "ytobhjkpegcfdfaa", sum := "f0d05c7255bd928cd981d1ff21b4fc394e0d92870b95687fe32f0324dd091d73", func := "loop.example/g01011/laws.FnRounds", spec := "fnRounds", unfollowed := true, recurses := true, plainKeys := false, apart := false }
def FnRoundsSaid : Prop := fnRoundsRow.holds Try.pinned (OpenSpec.ofChange fnRoundsSpec)

/-- ITS FALSE NEIGHBOUR: 'it returns false'. Refute it at one input. -/
def fnRoundsWrong : ChangeSpec := { name := "fnRounds", fn := fun _ => fun
  | [d1, d2] => { results := [.lit (.bool false)], args := [d1, d2] }
  | _ => none }
def FnRoundsWrongFalsely : Prop := fnRoundsRow.holds Try.pinned (OpenSpec.ofChange fnRoundsWrong)

/-- 'laws.FnExactBestRound': WHATEVER THE INPUT: true; the input reads as it did. -/
def fnExactBestRoundSpec : ChangeSpec := { name := "fnExactBestRound", fn := fun _ => fun
  | [d1, d2] => { results := [.lit (.bool true)], args := [d1, d2] }
  | _ => none }
def fnExactBestRoundRow : OpenClaim := { program := "ytobhjkpegcfdfaa", sum := "f0d05c7255bd928cd981d1ff21b4fc394e0d92870b95687fe32f0324dd091d73", func := "loop.example/g01011/laws.FnExactBestRound", spec := "fnExactBestRound", unfollowed := true, recurses := true, plainKeys := false, apart := false }
def FnExactBestRoundSaid : Prop := fnExactBestRoundRow.holds Try.pinned (OpenSpec.ofChange fnExactBestRoundSpec)

/-- ITS FALSE NEIGHBOUR: 'it returns false'. Refute it at one input. -/
def fnExactBestRoundWrong : ChangeSpec := { name := "fnExactBestRound", fn := fun _ => fun
  | [d1, d2] => { results := [.lit (.bool false)], args := [d1, d2] }
  | _ => none }
def FnExactBestRoundWrongFalsely : Prop := fnExactBestRoundRow.holds Try.pinned (OpenSpec.ofChange fnExactBestRoundWrong)

/- THE SECOND FORM. 'bulk': how many values and letters a reading holds, each counted each time it is reached (what is shared counts as often as it is met; a slice's spare places count too). A statement '..UptoSaid' is the law's where the arguments, and the package variables that the reading takes, are together of bulk at most 1048576: NARROWER than '..Said'. Prove '..Said' where nothing that the law and all that it calls make is longer than what came in: it says more and counts as full. Else prove '..UptoSaid'. A law counts once. -/
mutual
def uptoBulk {H : Type} : DataW H → Nat
  | .lit (.string bytes) => bytes.length + 1
  | .lit _ => 1
  | .nil => 1
  | .ptr d => uptoBulk d + 1
  | .slice elems spare => uptoBulkAll elems + uptoBulkAll spare + 1
  | .agg parts => uptoBulkAll parts + 1
  | .iface _ d => uptoBulk d + 1
  | .map entries => uptoBulkEntries entries + 1
  | .held _ => 1
def uptoBulkAll {H : Type} : List (DataW H) → Nat
  | [] => 0
  | d :: r => uptoBulk d + uptoBulkAll r
def uptoBulkEntries {H : Type} : List (Lit × DataW H) → Nat
  | [] => 0
  | x :: r => uptoBulkEntry x + uptoBulkEntries r
def uptoBulkEntry {H : Type} : Lit × DataW H → Nat
  | (.string bytes, d) => bytes.length + uptoBulk d + 1
  | (_, d) => uptoBulk d + 1
 end
def uptoSmall : (H : Type) → List (DataW H) → Bool := fun _ ds => decide (uptoBulkAll ds ≤ 1048576)
def OpenSpec.upto (s : _root_.Go.ChangeSpec) : _root_.Go.OpenSpec := { _root_.Go.OpenSpec.ofChange s with cond := some uptoSmall }

/-- 'laws.FnExactHotSpots', WHERE WHAT IT READS IS OF BULK AT MOST 1048576: true; the input reads as it did. -/
def fnExactHotSpotsUptoRow : OpenClaim := { program := "ytobhjkpegcfdfaa", sum := "f0d05c7255bd928cd981d1ff21b4fc394e0d92870b95687fe32f0324dd091d73", func := "loop.example/g01011/laws.FnExactHotSpots", spec := "fnExactHotSpots", unfollowed := true, recurses := true, plainKeys := false, apart := false, narrowed := true }
def FnExactHotSpotsUptoSaid : Prop := fnExactHotSpotsUptoRow.holds Try.pinned (OpenSpec.upto fnExactHotSpotsSpec)

/-- 'laws.FnExactWalkBetween', WHERE WHAT IT READS IS OF BULK AT MOST 1048576: true; the input reads as it did. -/
def fnExactWalkBetweenUptoRow : OpenClaim := { program := "ytobhjkpegcfdfaa", sum := "f0d05c7255bd928cd981d1ff21b4fc394e0d92870b95687fe32f0324dd091d73", func := "loop.example/g01011/laws.FnExactWalkBetween", spec := "fnExactWalkBetween", unfollowed := true, recurses := true, plainKeys := false, apart := false, narrowed := true }
def FnExactWalkBetweenUptoSaid : Prop := fnExactWalkBetweenUptoRow.holds Try.pinned (OpenSpec.upto fnExactWalkBetweenSpec)

/-- 'laws.FnExactRoundLength', WHERE WHAT IT READS IS OF BULK AT MOST 1048576: true; the input reads as it did. -/
def fnExactRoundLengthUptoRow : OpenClaim := { program := "ytobhjkpegcfdfaa", sum := "f0d05c7255bd928cd981d1ff21b4fc394e0d92870b95687fe32f0324dd091d73", func := "loop.example/g01011/laws.FnExactRoundLength", spec := "fnExactRoundLength", unfollowed := true, recurses := true, plainKeys := false, apart := false, narrowed := true }
def FnExactRoundLengthUptoSaid : Prop := fnExactRoundLengthUptoRow.holds Try.pinned (OpenSpec.upto fnExactRoundLengthSpec)

/-- 'laws.FnExactApplyChanges', WHERE WHAT IT READS IS OF BULK AT MOST 1048576: true; the input reads as it did. -/
def fnExactApplyChangesUptoRow : OpenClaim := { program := "ytobhjkpegcfdfaa", sum := "f0d05c7255bd928cd981d1ff21b4fc394e0d92870b95687fe32f0324dd091d73", func := "loop.example/g01011/laws.FnExactApplyChanges", spec := "fnExactApplyChanges", inPlace := ["slices.overlaps[loop.example/g01011/impl.Setting]"], unfollowed := true, recurses := true, plainKeys := false, apart := false, narrowed := true }
def FnExactApplyChangesUptoSaid : Prop := fnExactApplyChangesUptoRow.holds Try.pinned (OpenSpec.upto fnExactApplyChangesSpec)

/-- 'laws.FnExactGreatestDemand', WHERE WHAT IT READS IS OF BULK AT MOST 1048576: true; the input reads as it did. -/
def fnExactGreatestDemandUptoRow : OpenClaim := { program := "ytobhjkpegcfdfaa", sum := "f0d05c7255bd928cd981d1ff21b4fc394e0d92870b95687fe32f0324dd091d73", func := "loop.example/g01011/laws.FnExactGreatestDemand", spec := "fnExactGreatestDemand", unfollowed := true, recurses := true, plainKeys := false, apart := false, narrowed := true }
def FnExactGreatestDemandUptoSaid : Prop := fnExactGreatestDemandUptoRow.holds Try.pinned (OpenSpec.upto fnExactGreatestDemandSpec)

/-- 'laws.FnCommitment', WHERE WHAT IT READS IS OF BULK AT MOST 1048576: true; the input reads as it did. -/
def fnCommitmentUptoRow : OpenClaim := { program := "ytobhjkpegcfdfaa", sum := "f0d05c7255bd928cd981d1ff21b4fc394e0d92870b95687fe32f0324dd091d73", func := "loop.example/g01011/laws.FnCommitment", spec := "fnCommitment", unfollowed := true, recurses := true, plainKeys := false, apart := false, narrowed := true }
def FnCommitmentUptoSaid : Prop := fnCommitmentUptoRow.holds Try.pinned (OpenSpec.upto fnCommitmentSpec)

/-- 'laws.FnExactWorthOf', WHERE WHAT IT READS IS OF BULK AT MOST 1048576: true; the input reads as it did. -/
def fnExactWorthOfUptoRow : OpenClaim := { program := "ytobhjkpegcfdfaa", sum := "f0d05c7255bd928cd981d1ff21b4fc394e0d92870b95687fe32f0324dd091d73", func := "loop.example/g01011/laws.FnExactWorthOf", spec := "fnExactWorthOf", unfollowed := true, recurses := true, plainKeys := false, apart := false, narrowed := true }
def FnExactWorthOfUptoSaid : Prop := fnExactWorthOfUptoRow.holds Try.pinned (OpenSpec.upto fnExactWorthOfSpec)

/-- 'laws.FnExactPeakHours', WHERE WHAT IT READS IS OF BULK AT MOST 1048576: true; the input reads as it did. -/
def fnExactPeakHoursUptoRow : OpenClaim := { program := "ytobhjkpegcfdfaa", sum := "f0d05c7255bd928cd981d1ff21b4fc394e0d92870b95687fe32f0324dd091d73", func := "loop.example/g01011/laws.FnExactPeakHours", spec := "fnExactPeakHours", unfollowed := true, recurses := true, plainKeys := false, apart := false, narrowed := true }
def FnExactPeakHoursUptoSaid : Prop := fnExactPeakHoursUptoRow.holds Try.pinned (OpenSpec.upto fnExactPeakHoursSpec)

/-- 'laws.FnExactCheapestPlan', WHERE WHAT IT READS IS OF BULK AT MOST 1048576: true; the input reads as it did. -/
def fnExactCheapestPlanUptoRow : OpenClaim := { program := "ytobhjkpegcfdfaa", sum := "f0d05c7255bd928cd981d1ff21b4fc394e0d92870b95687fe32f0324dd091d73", func := "loop.example/g01011/laws.FnExactCheapestPlan", spec := "fnExactCheapestPlan", unfollowed := true, recurses := true, plainKeys := false, apart := false, narrowed := true }
def FnExactCheapestPlanUptoSaid : Prop := fnExactCheapestPlanUptoRow.holds Try.pinned (OpenSpec.upto fnExactCheapestPlanSpec)

/-- 'laws.FnRounds', WHERE WHAT IT READS IS OF BULK AT MOST 1048576: true; the input reads as it did. -/
def fnRoundsUptoRow : OpenClaim := { program := "ytobhjkpegcfdfaa", sum := "f0d05c7255bd928cd981d1ff21b4fc394e0d92870b95687fe32f0324dd091d73", func := "loop.example/g01011/laws.FnRounds", spec := "fnRounds", unfollowed := true, recurses := true, plainKeys := false, apart := false, narrowed := true }
def FnRoundsUptoSaid : Prop := fnRoundsUptoRow.holds Try.pinned (OpenSpec.upto fnRoundsSpec)

/-- 'laws.FnExactBestRound', WHERE WHAT IT READS IS OF BULK AT MOST 1048576: true; the input reads as it did. -/
def fnExactBestRoundUptoRow : OpenClaim := { program := "ytobhjkpegcfdfaa", sum := "f0d05c7255bd928cd981d1ff21b4fc394e0d92870b95687fe32f0324dd091d73", func := "loop.example/g01011/laws.FnExactBestRound", spec := "fnExactBestRound", unfollowed := true, recurses := true, plainKeys := false, apart := false, narrowed := true }
def FnExactBestRoundUptoSaid : Prop := fnExactBestRoundUptoRow.holds Try.pinned (OpenSpec.upto fnExactBestRoundSpec)

end Rows
end Go.Proofs.Ytobhjkpegcfdfaa
