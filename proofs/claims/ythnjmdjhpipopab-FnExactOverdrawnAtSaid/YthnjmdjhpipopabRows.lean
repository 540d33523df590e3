/-
  No cell of these rows narrows 'for every input' (looked for: loops, veiled, ifaces, maps, wideKeys, modest, calm, conditions, laid).
  DERIVED. THE GIVEN ROWS OF THIS SEAT. 3 by the template 'for every input the law returns true; each argument reads behind the call as it read before'; 0 by the template 'total and deterministic' (their statements: YthnjmdjhpipopabTotals.lean).
  GIVEN WITH THE SEED: the statements are not yours to turn. If you find one false, say at which input.
  Laid BY PROGRAM, IN A SANDBOX (cutbox-rows.mjs): the forced cells as the released guide's own fill.sh prints them over the translation 25eaf26aedc20f90… (all of the seat's roots in one cut). By AI agents, Wed Nov 11 2026. No macro, syntax, notation, axiom, sorry.
-/
import Derived.Test.YthnjmdjhpipopabChecked
import GoSem.Claim
import GoSem.ClaimJoined
import GoSem.ClaimMapViews
import Derived.JoinedTies
import Derived.KernelRfl
namespace Go.Proofs.Ythnjmdjhpipopab
/- THE CELL 'sum', in the pinned program and in every row, IS THE sha256 OF THE DUMP (.gsa) THAT YthnjmdjhpipopabProg.lean LOADS. Nothing in Lean hashes anything: it is a label: what it is worth is what the hold of that sum in a sandbox is worth. -/
noncomputable def Try.pinned : Pinned := { name := "ythnjmdjhpipopab", sum := "25eaf26aedc20f90aa0172b6087a9b6797dd538364a7783c0777d0363a9d2c07", checked := Try.checked }
namespace Rows
def none {H : Type} : Left H := { results := [], args := [] }

/-- 'laws.FnExactAccountsOf': WHATEVER THE INPUT: true; the input reads as it did. -/
def fnExactAccountsOfSpec : ChangeSpec := { name := "fnExactAccountsOf", fn := fun _ => fun
  | [d] => { results := [.lit (.bool true)], args := [d] }
  | _ => none }
def fnExactAccountsOfRow : OpenClaim := { program := "ythnjmdjhpipopab", sum := "25eaf26aedc20f90aa0172b6087a9b6797dd538364a7783c0777d0363a9d2c07", func := "loop.example/g01011/laws.FnExactAccountsOf", spec := "fnExactAccountsOf", recurses := true, plainKeys := false, apart := false }
def FnExactAccountsOfSaid : Prop := fnExactAccountsOfRow.holds Try.pinned (OpenSpec.ofChange fnExactAccountsOfSpec)

/-- ITS FALSE NEIGHBOUR: 'it returns false'. Refute it at one input. -/
def fnExactAccountsOfWrong : ChangeSpec := { name := "fnExactAccountsOf", fn := fun _ => fun
  | [d] => { results := [.lit (.bool false)], args := [d] }
  | _ => none }
def FnExactAccountsOfWrongFalsely : Prop := fnExactAccountsOfRow.holds Try.pinned (OpenSpec.ofChange fnExactAccountsOfWrong)

/-- 'laws.FnExactOverdrawnAt': WHATEVER THE INPUT: true; the input reads as it did. -/
def fnExactOverdrawnAtSpec : ChangeSpec := { name := "fnExactOverdrawnAt", fn := fun _ => fun
  | [d1, d2] => { results := [.lit (.bool true)], args := [d1, d2] }
  | _ => none }
def fnExactOverdrawnAtRow : OpenClaim := { program := "ythnjmdjhpipopab", sum := "25eaf26aedc20f90aa0172b6087a9b6797dd538364a7783c0777d0363a9d2c07", func := "loop.example/g01011/laws.FnExactOverdrawnAt", spec := "fnExactOverdrawnAt", unfollowed := true, recurses := true, plainKeys := false, apart := false }
def FnExactOverdrawnAtSaid : Prop := fnExactOverdrawnAtRow.holds Try.pinned (OpenSpec.ofChange fnExactOverdrawnAtSpec)

/-- ITS FALSE NEIGHBOUR: 'it returns false'. Refute it at one input. -/
def fnExactOverdrawnAtWrong : ChangeSpec := { name := "fnExactOverdrawnAt", fn := fun _ => fun
  | [d1, d2] => { results := [.lit (.bool false)], args := [d1, d2] }
  | _ => none }
def FnExactOverdrawnAtWrongFalsely : Prop := fnExactOverdrawnAtRow.holds Try.pinned (OpenSpec.ofChange fnExactOverdrawnAtWrong)

/-- 'laws.FnExactWorthOf': WHATEVER THE INPUT: true; the input reads as it did. -/
def fnExactWorthOfSpec : ChangeSpec := { name := "fnExactWorthOf", fn := fun _ => fun
  | [d1, d2, d3] => { results := [.lit (.bool true)], args := [d1, d2, d3] }
  | _ => none }
def fnExactWorthOfRow : OpenClaim := { program := "ythnjmdjhpipopab", sum := "25eaf26aedc20f90aa0172b6087a9b6797dd538364a7783c0777d0363a9d2c07", func := "loop.example/g01011/laws.FnExactWorthOf", spec := "fnExactWorthOf", unfollowed := true, recurses := true, plainKeys := false, apart := false }
def FnExactWorthOfSaid : Prop := fnExactWorthOfRow.holds Try.pinned (OpenSpec.ofChange fnExactWorthOfSpec)

/-- ITS FALSE NEIGHBOUR: 'it returns false'. Refute it at one input. -/
def fnExactWorthOfWrong : ChangeSpec := { name := "fnExactWorthOf", fn := fun _ => fun
  | [d1, d2, d3] => { results := [.lit (.bool false)], args := [d1, d2, d3] }
  | _ => none }
def FnExactWorthOfWrongFalsely : Prop := fnExactWorthOfRow.holds Try.pinned (OpenSpec.ofChange fnExactWorthOfWrong)

/- THE SECOND FORM. 'bulk': how many values and letters a reading holds, each counted each time it is reached (what is shared counts as often as it is met; a slice's spare places count too). A statement '..UptoSaid' is the law's where the arguments, and the package variables that the reading takes, are together of bulk at most 1048576: NARROWER than '..Said'. Prove '..Said' where nothing that the law and all that it calls make is longer than what came in: it says more and counts as full. Else prove '..UptoSaid'. A law counts once. -/
mutual
def uptoBulk {H : Type} : DataW H → Nat
  | .lit (.string bytes) => bytes.length + 1
  | .lit _ => 1
  | .nil => 1
  | .ptr d => uptoBulk d + 1
  | .slice elems spare => uptoBulkAll elems + uptoBulkAll spare + 1
  | .agg parts => uptoBulkAll parts + 1
  | .iface _ d => uptoBulk d + 1
  | .map entries => uptoBulkEntries entries + 1
  | .held _ => 1
def uptoBulkAll {H : Type} : List (DataW H) → Nat
  | [] => 0
  | d :: r => uptoBulk d + uptoBulkAll r
def uptoBulkEntries {H : Type} : List (Lit × DataW H) → Nat
  | [] => 0
  | x :: r => uptoBulkEntry x + uptoBulkEntries r
def uptoBulkEntry {H : Type} : Lit × DataW H → Nat
  | (.string bytes, d) => bytes.length + uptoBulk d + 1
  | (_, d) => uptoBulk d + 1
 end
def uptoSmall : (H : Type) → List (DataW H) → Bool := fun _ ds => decide (uptoBulkAll ds ≤ 1048576)
def OpenSpec.upto (s : _root_.Go.ChangeSpec) : _root_.Go.OpenSpec := { _root_.Go.OpenSpec.ofChange s with cond := some uptoSmall }

/-- 'laws.FnExactAccountsOf', WHERE WHAT IT READS IS OF BULK AT MOST 1048576: true; the input reads as it did. -/
def fnExactAccountsOfUptoRow : OpenClaim := { program := "ythnjmdjhpipopab", sum := "25eaf26aedc20f90aa0172b6087a9b6797dd538364a7783c0777d0363a9d2c07", func := "loop.example/g01011/laws.FnExactAccountsOf", spec := "fnExactAccountsOf", recurses := true, plainKeys := false, apart := false, narrowed := true }
def FnExactAccountsOfUptoSaid : Prop := fnExactAccountsOfUptoRow.holds Try.pinned (OpenSpec.upto fnExactAccountsOfSpec)

/-- 'laws.FnExactOverdrawnAt', WHERE WHAT IT READS IS OF BULK AT MOST 1048576: true; the input reads as it did. -/
def fnExactOverdrawnAtUptoRow : OpenClaim := { program := "ythnjmdjhpipopab", sum := "25eaf26aedc20f90aa0172b6087a9b6797dd538364a7783c0777d0363a9d2c07", func := "loop.example/g01011/laws.FnExactOverdrawnAt", spec := "fnExactOverdrawnAt", unfollowed := true, recurses := true, plainKeys := false, apart := false, narrowed := true }
def FnExactOverdrawnAtUptoSaid : Prop := fnExactOverdrawnAtUptoRow.holds Try.pinned (OpenSpec.upto fnExactOverdrawnAtSpec)

/-- 'laws.FnExactWorthOf', WHERE WHAT IT READS IS OF BULK AT MOST 1048576: true; the input reads as it did. -/
def fnExactWorthOfUptoRow : OpenClaim := { program := "ythnjmdjhpipopab", sum := "25eaf26aedc20f90aa0172b6087a9b6797dd538364a7783c0777d0363a9d2c07", func := "loop.example/g01011/laws.FnExactWorthOf", spec := "fnExactWorthOf", unfollowed := true, recurses := true, plainKeys := false, apart := false, narrowed := true }
def FnExactWorthOfUptoSaid : Prop := fnExactWorthOfUptoRow.holds Try.pinned (OpenSpec.upto fnExactWorthOfSpec)

end Rows
end Go.Proofs.Ythnjmdjhpipopab
