/-
  No cell of these rows narrows 'for every input' (looked for: loops, veiled, ifaces, maps, wideKeys, modest, calm, conditions, laid).
  DERIVED. THE GIVEN ROWS OF THIS SEAT. 10 by the template 'for every input the law returns true; each argument reads behind the call as it read before'; 0 by the template 'total and deterministic' (their statements: YtebkgebibammiaaTotals.lean).
  GIVEN WITH THE SEED: the statements are not yours to turn. If you find one false, say at which input.
  Laid BY PROGRAM, IN A SANDBOX (cutbox-rows.mjs): the forced cells as the released guide's own fill.sh prints them over the translation ce62e26848e61b97… (all of the seat's roots in one cut). By AI agents, Wed Nov 11 2026. No macro, syntax, notation, axiom, sorry.
-/
import Derived.Test.YtebkgebibammiaaChecked
import GoSem.Claim
import GoSem.ClaimJoined
import GoSem.ClaimMapViews
import Derived.JoinedTies
import Derived.KernelRfl
namespace Go.Proofs.Ytebkgebibammiaa
/- THE CELL 'sum', in the pinned program and in every row, IS THE sha256 OF THE DUMP (.gsa) THAT YtebkgebibammiaaProg.lean LOADS. Nothing in Lean hashes anything: it is a label: what it is worth is what the hold of that sum in a sandbox is worth. -/
noncomputable def Try.pinned : Pinned := { name := "ytebkgebibammiaa", sum := "ce62e26848e61b978f981bf4608c6a67bee64bb14e6e72102dfeff3785d5ef92", checked := Try.checked }
namespace Rows
def none {H : Type} : Left H := { results := [], args := [] }

/-- 'laws.FnExactDayBound': WHATEVER THE INPUT: true; the input reads as it did. -/
def fnExactDayBoundSpec : ChangeSpec := { name := "fnExactDayBound", fn := fun _ => fun
  | [d1, d2] => { results := [.lit (.bool true)], args := [d1, d2] }
  | _ => none }
def fnExactDayBoundRow : OpenClaim := { program := "ytebkgebibammiaa", sum := "ce62e26848e61b978f981bf4608c6a67bee64bb14e6e72102dfeff3785d5ef92", func := "loop.example/g01011/laws.FnExactDayBound", spec := "fnExactDayBound", unfollowed := true, recurses := true, plainKeys := false, apart := false }
def FnExactDayBoundSaid : Prop := fnExactDayBoundRow.holds Try.pinned (OpenSpec.ofChange fnExactDayBoundSpec)

/-- ITS FALSE NEIGHBOUR: 'it returns false'. Refute it at one input. -/
def fnExactDayBoundWrong : ChangeSpec := { name := "fnExactDayBound", fn := fun _ => fun
  | [d1, d2] => { results := [.lit (.bool false)], args := [d1, d2] }
  | _ => none }
def FnExactDayBoundWrongFalsely : Prop := fnExactDayBoundRow.holds Try.pinned (OpenSpec.ofChange fnExactDayBoundWrong)

/-- 'laws.FnExactShareDemand': WHATEVER THE INPUT: true; the input reads as it did. -/
def fnExactShareDemandSpec : ChangeSpec := { name := "fnExactShareDemand", fn := fun _ => fun
  | [d1, d2, d3] => { results := [.lit (.bool true)], args := [d1, d2, d3] }
  | _ => none }
def fnExactShareDemandRow : OpenClaim := { program := "ytebkgebibammiaa", sum := "ce62e26848e61b978f981bf4608c6a67bee64bb14e6e72102dfeff3785d5ef92", func := "loop.example/g01011/laws.FnExactShareDemand", spec := "fnExactShareDemand", unfollowed := true, recurses := true, plainKeys := false, apart := false }
def FnExactShareDemandSaid : Prop := fnExactShareDemandRow.holds Try.pinned (OpenSpec.ofChange fnExactShareDemandSpec)

/-- ITS FALSE NEIGHBOUR: 'it returns false'. Refute it at one input. -/
def fnExactShareDemandWrong : ChangeSpec := { name := "fnExactShareDemand", fn := fun _ => fun
  | [d1, d2, d3] => { results := [.lit (.bool false)], args := [d1, d2, d3] }
  | _ => none }
def FnExactShareDemandWrongFalsely : Prop := fnExactShareDemandRow.holds Try.pinned (OpenSpec.ofChange fnExactShareDemandWrong)

/-- 'laws.FnExactNeededUnits': WHATEVER THE INPUT: true; the input reads as it did. -/
def fnExactNeededUnitsSpec : ChangeSpec := { name := "fnExactNeededUnits", fn := fun _ => fun
  | [d1, d2] => { results := [.lit (.bool true)], args := [d1, d2] }
  | _ => none }
def fnExactNeededUnitsRow : OpenClaim := { program := "ytebkgebibammiaa", sum := "ce62e26848e61b978f981bf4608c6a67bee64bb14e6e72102dfeff3785d5ef92", func := "loop.example/g01011/laws.FnExactNeededUnits", spec := "fnExactNeededUnits", unfollowed := true, recurses := true, plainKeys := false, apart := false }
def FnExactNeededUnitsSaid : Prop := fnExactNeededUnitsRow.holds Try.pinned (OpenSpec.ofChange fnExactNeededUnitsSpec)

/-- ITS FALSE NEIGHBOUR: 'it returns false'. Refute it at one input. -/
def fnExactNeededUnitsWrong : ChangeSpec := { name := "fnExactNeededUnits", fn := fun _ => fun
  | [d1, d2] => { results := [.lit (.bool false)], args := [d1, d2] }
  | _ => none }
def FnExactNeededUnitsWrongFalsely : Prop := fnExactNeededUnitsRow.holds Try.pinned (OpenSpec.ofChange fnExactNeededUnitsWrong)

/-- 'laws.FnExactGreatestDemand': WHATEVER THE INPUT: true; the input reads as it did. -/
def fnExactGreatestDemandSpec : ChangeSpec := { name := "fnExactGreatestDemand", fn := fun _ => fun
  | [d1, d2] => { results := [.lit (.bool true)], args := [d1, d2] }
  | _ => none }
def fnExactGreatestDemandRow : OpenClaim := { program := "ytebkgebibammiaa", sum := "ce62e26848e61b978f981bf4608c6a67bee64bb14e6e72102dfeff3785d5ef92", func := "loop.example/g01011/laws.FnExactGreatestDemand", spec := "fnExactGreatestDemand", unfollowed := true, recurses := true, plainKeys := false, apart := false }
def FnExactGreatestDemandSaid : Prop := fnExactGreatestDemandRow.holds Try.pinned (OpenSpec.ofChange fnExactGreatestDemandSpec)

/-- ITS FALSE NEIGHBOUR: 'it returns false'. Refute it at one input. -/
def fnExactGreatestDemandWrong : ChangeSpec := { name := "fnExactGreatestDemand", fn := fun _ => fun
  | [d1, d2] => { results := [.lit (.bool false)], args := [d1, d2] }
  | _ => none }
def FnExactGreatestDemandWrongFalsely : Prop := fnExactGreatestDemandRow.holds Try.pinned (OpenSpec.ofChange fnExactGreatestDemandWrong)

/-- 'laws.FnExactIsPlan': WHATEVER THE INPUT: true; the input reads as it did. -/
def fnExactIsPlanSpec : ChangeSpec := { name := "fnExactIsPlan", fn := fun _ => fun
  | [d1, d2, d3] => { results := [.lit (.bool true)], args := [d1, d2, d3] }
  | _ => none }
def fnExactIsPlanRow : OpenClaim := { program := "ytebkgebibammiaa", sum := "ce62e26848e61b978f981bf4608c6a67bee64bb14e6e72102dfeff3785d5ef92", func := "loop.example/g01011/laws.FnExactIsPlan", spec := "fnExactIsPlan", unfollowed := true, recurses := true, plainKeys := false, apart := false }
def FnExactIsPlanSaid : Prop := fnExactIsPlanRow.holds Try.pinned (OpenSpec.ofChange fnExactIsPlanSpec)

/-- ITS FALSE NEIGHBOUR: 'it returns false'. Refute it at one input. -/
def fnExactIsPlanWrong : ChangeSpec := { name := "fnExactIsPlan", fn := fun _ => fun
  | [d1, d2, d3] => { results := [.lit (.bool false)], args := [d1, d2, d3] }
  | _ => none }
def FnExactIsPlanWrongFalsely : Prop := fnExactIsPlanRow.holds Try.pinned (OpenSpec.ofChange fnExactIsPlanWrong)

/-- 'laws.FnExactPlanCost': WHATEVER THE INPUT: true; the input reads as it did. -/
def fnExactPlanCostSpec : ChangeSpec := { name := "fnExactPlanCost", fn := fun _ => fun
  | [d1, d2, d3] => { results := [.lit (.bool true)], args := [d1, d2, d3] }
  | _ => none }
def fnExactPlanCostRow : OpenClaim := { program := "ytebkgebibammiaa", sum := "ce62e26848e61b978f981bf4608c6a67bee64bb14e6e72102dfeff3785d5ef92", func := "loop.example/g01011/laws.FnExactPlanCost", spec := "fnExactPlanCost", unfollowed := true, recurses := true, plainKeys := false, apart := false }
def FnExactPlanCostSaid : Prop := fnExactPlanCostRow.holds Try.pinned (OpenSpec.ofChange fnExactPlanCostSpec)

/-- ITS FALSE NEIGHBOUR: 'it returns false'. Refute it at one input. -/
def fnExactPlanCostWrong : ChangeSpec := { name := "fnExactPlanCost", fn := fun _ => fun
  | [d1, d2, d3] => { results := [.lit (.bool false)], args := [d1, d2, d3] }
  | _ => none }
def FnExactPlanCostWrongFalsely : Prop := fnExactPlanCostRow.holds Try.pinned (OpenSpec.ofChange fnExactPlanCostWrong)

/-- 'laws.FnCommitment': WHATEVER THE INPUT: true; the input reads as it did. -/
def fnCommitmentSpec : ChangeSpec := { name := "fnCommitment", fn := fun _ => fun
  | [d1, d2] => { results := [.lit (.bool true)], args := [d1, d2] }
  | _ => none }
def fnCommitmentRow : OpenClaim := { program := "ytebkgebibammiaa", sum := "ce62e26848e61b978f981bf4608c6a67bee64bb14e6e72102dfeff3785d5ef92", func := "loop.example/g01011/laws.FnCommitment", spec := "fnCommitment", unfollowed := true, recurses := true, plainKeys := false, apart := false }
def FnCommitmentSaid : Prop := fnCommitmentRow.holds Try.pinned (OpenSpec.ofChange fnCommitmentSpec)

/-- ITS FALSE NEIGHBOUR: 'it returns false'. Refute it at one input. -/
def fnCommitmentWrong : ChangeSpec := { name := "fnCommitment", fn := fun _ => fun
  | [d1, d2] => { results := [.lit (.bool false)], args := [d1, d2] }
  | _ => none }
def FnCommitmentWrongFalsely : Prop := fnCommitmentRow.holds Try.pinned (OpenSpec.ofChange fnCommitmentWrong)

/-- 'laws.FnExactWorthOf': WHATEVER THE INPUT: true; the input reads as it did. -/
def fnExactWorthOfSpec : ChangeSpec := { name := "fnExactWorthOf", fn := fun _ => fun
  | [d1, d2, d3] => { results := [.lit (.bool true)], args := [d1, d2, d3] }
  | _ => none }
def fnExactWorthOfRow : OpenClaim := { program := "ytebkgebibammiaa", sum := "ce62e26848e61b978f981bf4608c6a67bee64bb14e6e72102dfeff3785d5ef92", func := "loop.example/g01011/laws.FnExactWorthOf", spec := "fnExactWorthOf", unfollowed := true, recurses := true, plainKeys := false, apart := false }
def FnExactWorthOfSaid : Prop := fnExactWorthOfRow.holds Try.pinned (OpenSpec.ofChange fnExactWorthOfSpec)

/-- ITS FALSE NEIGHBOUR: 'it returns false'. Refute it at one input. -/
def fnExactWorthOfWrong : ChangeSpec := { name := "fnExactWorthOf", fn := fun _ => fun
  | [d1, d2, d3] => { results := [.lit (.bool false)], args := [d1, d2, d3] }
  | _ => none }
def FnExactWorthOfWrongFalsely : Prop := fnExactWorthOfRow.holds Try.pinned (OpenSpec.ofChange fnExactWorthOfWrong)

/-- 'laws.FnExactIsWithin': WHATEVER THE INPUT: true; the input reads as it did. -/
def fnExactIsWithinSpec : ChangeSpec := { name := "fnExactIsWithin", fn := fun _ => fun
  | [d1, d2, d3, d4] => { results := [.lit (.bool true)], args := [d1, d2, d3, d4] }
  | _ => none }
def fnExactIsWithinRow : OpenClaim := { program := "ytebkgebibammiaa", sum := "ce62e26848e61b978f981bf4608c6a67bee64bb14e6e72102dfeff3785d5ef92", func := "loop.example/g01011/laws.FnExactIsWithin", spec := "fnExactIsWithin", unfollowed := true, recurses := true, plainKeys := false, apart := false }
def FnExactIsWithinSaid : Prop := fnExactIsWithinRow.holds Try.pinned (OpenSpec.ofChange fnExactIsWithinSpec)

/-- ITS FALSE NEIGHBOUR: 'it returns false'. Refute it at one input. -/
def fnExactIsWithinWrong : ChangeSpec := { name := "fnExactIsWithin", fn := fun _ => fun
  | [d1, d2, d3, d4] => { results := [.lit (.bool false)], args := [d1, d2, d3, d4] }
  | _ => none }
def FnExactIsWithinWrongFalsely : Prop := fnExactIsWithinRow.holds Try.pinned (OpenSpec.ofChange fnExactIsWithinWrong)

/-- 'laws.FnExactCheapestPlan': WHATEVER THE INPUT: true; the input reads as it did. -/
def fnExactCheapestPlanSpec : ChangeSpec := { name := "fnExactCheapestPlan", fn := fun _ => fun
  | [d1, d2] => { results := [.lit (.bool true)], args := [d1, d2] }
  | _ => none }
def fnExactCheapestPlanRow : OpenClaim := { program := "ytebkgebibammiaa", sum := "ce62e26848e61b978f981bf4608c6a67bee64bb14e6e72102dfeff3785d5ef92", func := "loop.example/g01011/laws.FnExactCheapestPlan", spec := "fnExactCheapestPlan", unfollowed := true, recurses := true, plainKeys := false, apart := false }
def FnExactCheapestPlanSaid : Prop := fnExactCheapestPlanRow.holds Try.pinned (OpenSpec.ofChange fnExactCheapestPlanSpec)

/-- ITS FALSE NEIGHBOUR: 'it returns false'. Refute it at one input. -/
def fnExactCheapestPlanWrong : ChangeSpec := { name := "fnExactCheapestPlan", fn := fun _ => fun
  | [d1, d2] => { results := [.lit (.bool false)], args := [d1, d2] }
  | _ => none }
def FnExactCheapestPlanWrongFalsely : Prop := fnExactCheapestPlanRow.holds Try.pinned (OpenSpec.ofChange fnExactCheapestPlanWrong)

/- THE SECOND FORM. 'bulk': how many values and letters a reading holds, each counted each time it is reached (what is shared counts as often as it is met; a slice's spare places count too). A statement '..UptoSaid' is the law's where the arguments, and the package variables that the reading takes, are together of bulk at most 1048576: NARROWER than '..Said'. Prove '..Said' where nothing that the law and all that it calls make is longer than what came in: it says more and counts as full. Else prove '..UptoSaid'. A law counts once. -/
mutual
def uptoBulk {H : Type} : DataW H → Nat
  | .lit (.string bytes) => bytes.length + 1
  | .lit _ => 1
  | .nil => 1
  | .ptr d => uptoBulk d + 1
  | .slice elems spare => uptoBulkAll elems + uptoBulkAll spare + 1
  | .agg parts => uptoBulkAll parts + 1
  | .iface _ d => uptoBulk d + 1
  | .map entries => uptoBulkEntries entries + 1
  | .held _ => 1
def uptoBulkAll {H : Type} : List (DataW H) → Nat
  | [] => 0
  | d :: r => uptoBulk d + uptoBulkAll r
def uptoBulkEntries {H : Type} : List (Lit × DataW H) → Nat
  | [] => 0
  | x :: r => uptoBulkEntry x + uptoBulkEntries r
def uptoBulkEntry {H : Type} : Lit × DataW H → Nat
  | (.string bytes, d) => bytes.length + uptoBulk d + 1
  | (_, d) => uptoBulk d + 1
 end
def uptoSmall : (H : Type) → List (DataW H) → Bool := fun _ ds => decide (uptoBulkAll ds ≤ 1048576)
def OpenSpec.upto (s : _root_.Go.ChangeSpec) : _root_.Go.OpenSpec := { _root_.Go.OpenSpec.ofChange s with cond := some uptoSmall }

/-- 'laws.FnExactDayBound', WHERE WHAT IT READS IS OF BULK AT MOST 1048576: true; the input reads as it did. -/
def fnExactDayBoundUptoRow : OpenClaim := { program := "ytebkgebibammiaa", sum := "ce62e26848e61b978f981bf4608c6a67bee64bb14e6e72102dfeff3785d5ef92", func := "loop.example/g01011/laws.FnExactDayBound", spec := "fnExactDayBound", unfollowed := true, recurses := true, plainKeys := false, apart := false, narrowed := true }
def FnExactDayBoundUptoSaid : Prop := fnExactDayBoundUptoRow.holds Try.pinned (OpenSpec.upto fnExactDayBoundSpec)

/-- 'laws.FnExactShareDemand', WHERE WHAT IT READS IS OF BULK AT MOST 1048576: true; the input reads as it did. -/
def fnExactShareDemandUptoRow : OpenClaim := { program := "ytebkgebibammiaa", sum := "ce62e26848e61b978f981bf4608c6a67bee64bb14e6e72102dfeff3785d5ef92", func := "loop.example/g01011/laws.FnExactShareDemand", spec := "fnExactShareDemand", unfollowed := true, recurses := true, plainKeys := false, apart := false, narrowed := true }
def FnExactShareDemandUptoSaid : Prop := fnExactShareDemandUptoRow.holds Try.pinned (OpenSpec.upto fnExactShareDemandSpec)

/-- 'laws.FnExactNeededUnits', WHERE WHAT IT READS IS OF BULK AT MOST 1048576: true; the input reads as it did. -/
def fnExactNeededUnitsUptoRow : OpenClaim := { program := "ytebkgebibammiaa", sum := "ce62e26848e61b978f981bf4608c6a67bee64bb14e6e72102dfeff3785d5ef92", func := "loop.example/g01011/laws.FnExactNeededUnits", spec := "fnExactNeededUnits", unfollowed := true, recurses := true, plainKeys := false, apart := false, narrowed := true }
def FnExactNeededUnitsUptoSaid : Prop := fnExactNeededUnitsUptoRow.holds Try.pinned (OpenSpec.upto fnExactNeededUnitsSpec)

/-- 'laws.FnExactGreatestDemand', WHERE WHAT IT READS IS OF BULK AT MOST 1048576: true; the input reads as it did. -/
def fnExactGreatestDemandUptoRow : OpenClaim := { program := "ytebkgebibammiaa", sum := "ce62e26848e61b978f981bf4608c6a67bee64bb14e6e72102dfeff3785d5ef92", func := "loop.example/g01011/laws.FnExactGreatestDemand", spec := "fnExactGreatestDemand", unfollowed := true, recurses := true, plainKeys := false, apart := false, narrowed := true }
def FnExactGreatestDemandUptoSaid : Prop := fnExactGreatestDemandUptoRow.holds Try.pinned (OpenSpec.upto fnExactGreatestDemandSpec)

/-- 'laws.FnExactIsPlan', WHERE WHAT IT READS IS OF BULK AT MOST 1048576: true; the input reads as it did. -/
def fnExactIsPlanUptoRow : OpenClaim := { program := "ytebkgebibammiaa", sum := "ce62e26848e61b978f981bf4608c6a67bee64bb14e6e72102dfeff3785d5ef92", func := "loop.example/g01011/laws.FnExactIsPlan", spec := "fnExactIsPlan", unfollowed := true, recurses := true, plainKeys := false, apart := false, narrowed := true }
def FnExactIsPlanUptoSaid : Prop := fnExactIsPlanUptoRow.holds Try.pinned (OpenSpec.upto fnExactIsPlanSpec)

/-- 'laws.FnExactPlanCost', WHERE WHAT IT READS IS OF BULK AT MOST 1048576: true; the input reads as it did. -/
def fnExactPlanCostUptoRow : OpenClaim := { program := "ytebkgebibammiaa", sum := "ce62e26848e61b978f981bf4608c6a67bee64bb14e6e72102dfeff3785d5ef92", func := "loop.example/g01011/laws.FnExactPlanCost", spec := "fnExactPlanCost", unfollowed := true, recurses := true, plainKeys := false, apart := false, narrowed := true }
def FnExactPlanCostUptoSaid : Prop := fnExactPlanCostUptoRow.holds Try.pinned (OpenSpec.upto fnExactPlanCostSpec)

/-- 'laws.FnCommitment', WHERE WHAT IT READS IS OF BULK AT MOST 1048576: true; the input reads as it did. -/
def fnCommitmentUptoRow : OpenClaim := { program := "ytebkgebibammiaa", sum := "ce62e26848e61b978f981bf4608c6a67bee64bb14e6e72102dfeff3785d5ef92", func := "loop.example/g01011/laws.FnCommitment", spec := "fnCommitment", unfollowed := true, recurses := true, plainKeys := false, apart := false, narrowed := true }
def FnCommitmentUptoSaid : Prop := fnCommitmentUptoRow.holds Try.pinned (OpenSpec.upto fnCommitmentSpec)

/-- 'laws.FnExactWorthOf', WHERE WHAT IT READS IS OF BULK AT MOST 1048576: true; the input reads as it did. -/
def fnExactWorthOfUptoRow : OpenClaim := { program := "ytebkgebibammiaa", sum := "ce62e26848e61b978f981bf4608c6a67bee64bb14e6e72102dfeff3785d5ef92", func := "loop.example/g01011/laws.FnExactWorthOf", spec := "fnExactWorthOf", unfollowed := true, recurses := true, plainKeys := false, apart := false, narrowed := true }
def FnExactWorthOfUptoSaid : Prop := fnExactWorthOfUptoRow.holds Try.pinned (OpenSpec.upto fnExactWorthOfSpec)

/-- 'laws.FnExactIsWithin', WHERE WHAT IT READS IS OF BULK AT MOST 1048576: true; the input reads as it did. -/
def fnExactIsWithinUptoRow : OpenClaim := { program := "ytebkgebibammiaa", sum := "ce62e26848e61b978f981bf4608c6a67bee64bb14e6e72102dfeff3785d5ef92", func := "loop.example/g01011/laws.FnExactIsWithin", spec := "fnExactIsWithin", unfollowed := true, recurses := true, plainKeys := false, apart := false, narrowed := true }
def FnExactIsWithinUptoSaid : Prop := fnExactIsWithinUptoRow.holds Try.pinned (OpenSpec.upto fnExactIsWithinSpec)

/-- 'laws.FnExactCheapestPlan', WHERE WHAT IT READS IS OF BULK AT MOST 1048576: true; the input reads as it did. -/
def fnExactCheapestPlanUptoRow : OpenClaim := { program := "ytebkgebibammiaa", sum := "ce62e26848e61b978f981bf4608c6a67bee64bb14e6e72102dfeff3785d5ef92", func := "loop.example/g01011/laws.FnExactCheapestPlan", spec := "fnExactCheapestPlan", unfollowed := true, recurses := true, plainKeys := false, apart := false, narrowed := true }
def FnExactCheapestPlanUptoSaid : Prop := fnExactCheapestPlanUptoRow.holds Try.pinned (OpenSpec.upto fnExactCheapestPlanSpec)

end Rows
end Go.Proofs.Ytebkgebibammiaa
