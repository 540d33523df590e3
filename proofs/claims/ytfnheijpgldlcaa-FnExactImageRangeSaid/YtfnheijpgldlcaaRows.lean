/-
  No cell of these rows narrows 'for every input' (looked for: loops, veiled, ifaces, maps, wideKeys, modest, calm, conditions, laid).
  DERIVED. THE GIVEN ROWS OF THIS SEAT. 6 by the template 'for every input the law returns true; each argument reads behind the call as it read before'; 0 by the template 'total and deterministic' (their statements: YtfnheijpgldlcaaTotals.lean).
  GIVEN WITH THE SEED: the statements are not yours to turn. If you find one false, say at which input.
  Laid BY PROGRAM, IN A SANDBOX (cutbox-rows.mjs): the forced cells as the released guide's own fill.sh prints them over the translation 29b38c58ed998328… (all of the seat's roots in one cut). By AI agents, Wed Nov 11 2026. No macro, syntax, notation, axiom, sorry.
-/
import Derived.Test.YtfnheijpgldlcaaChecked
import GoSem.Claim
import GoSem.ClaimJoined
import GoSem.ClaimMapViews
import Derived.JoinedTies
import Derived.KernelRfl
namespace Go.Proofs.Ytfnheijpgldlcaa
/- THE CELL 'sum', in the pinned program and in every row, IS THE sha256 OF THE DUMP (.gsa) THAT YtfnheijpgldlcaaProg.lean LOADS. Nothing in Lean hashes anything: it is a label: what it is worth is what the hold of that sum in a sandbox is worth. -/
noncomputable def Try.pinned : Pinned := { name := "ytfnheijpgldlcaa", sum := "29b38c58ed9983280ca41823bcc6a6e7d5d57b2615817cf50b858f9433275990", checked := Try.checked }
namespace Rows
def none {H : Type} : Left H := { results := [], args := [] }

/-- 'laws.FnExactSeverityOf': WHATEVER THE INPUT: true; the input reads as it did. -/
def fnExactSeverityOfSpec : ChangeSpec := { name := "fnExactSeverityOf", fn := fun _ => fun
  | [d] => { results := [.lit (.bool true)], args := [d] }
  | _ => none }
def fnExactSeverityOfRow : OpenClaim := { program := "ytfnheijpgldlcaa", sum := "29b38c58ed9983280ca41823bcc6a6e7d5d57b2615817cf50b858f9433275990", func := "loop.example/g01011/laws.FnExactSeverityOf", spec := "fnExactSeverityOf", apart := false }
def FnExactSeverityOfSaid : Prop := fnExactSeverityOfRow.holds Try.pinned (OpenSpec.ofChange fnExactSeverityOfSpec)

/-- ITS FALSE NEIGHBOUR: 'it returns false'. Refute it at one input. -/
def fnExactSeverityOfWrong : ChangeSpec := { name := "fnExactSeverityOf", fn := fun _ => fun
  | [d] => { results := [.lit (.bool false)], args := [d] }
  | _ => none }
def FnExactSeverityOfWrongFalsely : Prop := fnExactSeverityOfRow.holds Try.pinned (OpenSpec.ofChange fnExactSeverityOfWrong)

/-- 'laws.FnExactTrendOf': WHATEVER THE INPUT: true; the input reads as it did. -/
def fnExactTrendOfSpec : ChangeSpec := { name := "fnExactTrendOf", fn := fun _ => fun
  | [d] => { results := [.lit (.bool true)], args := [d] }
  | _ => none }
def fnExactTrendOfRow : OpenClaim := { program := "ytfnheijpgldlcaa", sum := "29b38c58ed9983280ca41823bcc6a6e7d5d57b2615817cf50b858f9433275990", func := "loop.example/g01011/laws.FnExactTrendOf", spec := "fnExactTrendOf", unfollowed := true, recurses := true, apart := false }
def FnExactTrendOfSaid : Prop := fnExactTrendOfRow.holds Try.pinned (OpenSpec.ofChange fnExactTrendOfSpec)

/-- ITS FALSE NEIGHBOUR: 'it returns false'. Refute it at one input. -/
def fnExactTrendOfWrong : ChangeSpec := { name := "fnExactTrendOf", fn := fun _ => fun
  | [d] => { results := [.lit (.bool false)], args := [d] }
  | _ => none }
def FnExactTrendOfWrongFalsely : Prop := fnExactTrendOfRow.holds Try.pinned (OpenSpec.ofChange fnExactTrendOfWrong)

/-- 'laws.FnExactValidImage': WHATEVER THE INPUT: true; the input reads as it did. -/
def fnExactValidImageSpec : ChangeSpec := { name := "fnExactValidImage", fn := fun _ => fun
  | [d] => { results := [.lit (.bool true)], args := [d] }
  | _ => none }
def fnExactValidImageRow : OpenClaim := { program := "ytfnheijpgldlcaa", sum := "29b38c58ed9983280ca41823bcc6a6e7d5d57b2615817cf50b858f9433275990", func := "loop.example/g01011/laws.FnExactValidImage", spec := "fnExactValidImage", unfollowed := true, recurses := true, apart := false }
def FnExactValidImageSaid : Prop := fnExactValidImageRow.holds Try.pinned (OpenSpec.ofChange fnExactValidImageSpec)

/-- ITS FALSE NEIGHBOUR: 'it returns false'. Refute it at one input. -/
def fnExactValidImageWrong : ChangeSpec := { name := "fnExactValidImage", fn := fun _ => fun
  | [d] => { results := [.lit (.bool false)], args := [d] }
  | _ => none }
def FnExactValidImageWrongFalsely : Prop := fnExactValidImageRow.holds Try.pinned (OpenSpec.ofChange fnExactValidImageWrong)

/-- 'laws.FnExactImageChange': WHATEVER THE INPUT: true; the input reads as it did. -/
def fnExactImageChangeSpec : ChangeSpec := { name := "fnExactImageChange", fn := fun _ => fun
  | [d1, d2] => { results := [.lit (.bool true)], args := [d1, d2] }
  | _ => none }
def fnExactImageChangeRow : OpenClaim := { program := "ytfnheijpgldlcaa", sum := "29b38c58ed9983280ca41823bcc6a6e7d5d57b2615817cf50b858f9433275990", func := "loop.example/g01011/laws.FnExactImageChange", spec := "fnExactImageChange", unfollowed := true, recurses := true, apart := false }
def FnExactImageChangeSaid : Prop := fnExactImageChangeRow.holds Try.pinned (OpenSpec.ofChange fnExactImageChangeSpec)

/-- ITS FALSE NEIGHBOUR: 'it returns false'. Refute it at one input. -/
def fnExactImageChangeWrong : ChangeSpec := { name := "fnExactImageChange", fn := fun _ => fun
  | [d1, d2] => { results := [.lit (.bool false)], args := [d1, d2] }
  | _ => none }
def FnExactImageChangeWrongFalsely : Prop := fnExactImageChangeRow.holds Try.pinned (OpenSpec.ofChange fnExactImageChangeWrong)

/-- 'laws.FnExactMeanImage': WHATEVER THE INPUT: true; the input reads as it did. -/
def fnExactMeanImageSpec : ChangeSpec := { name := "fnExactMeanImage", fn := fun _ => fun
  | [d] => { results := [.lit (.bool true)], args := [d] }
  | _ => none }
def fnExactMeanImageRow : OpenClaim := { program := "ytfnheijpgldlcaa", sum := "29b38c58ed9983280ca41823bcc6a6e7d5d57b2615817cf50b858f9433275990", func := "loop.example/g01011/laws.FnExactMeanImage", spec := "fnExactMeanImage", unfollowed := true, recurses := true, apart := false }
def FnExactMeanImageSaid : Prop := fnExactMeanImageRow.holds Try.pinned (OpenSpec.ofChange fnExactMeanImageSpec)

/-- ITS FALSE NEIGHBOUR: 'it returns false'. Refute it at one input. -/
def fnExactMeanImageWrong : ChangeSpec := { name := "fnExactMeanImage", fn := fun _ => fun
  | [d] => { results := [.lit (.bool false)], args := [d] }
  | _ => none }
def FnExactMeanImageWrongFalsely : Prop := fnExactMeanImageRow.holds Try.pinned (OpenSpec.ofChange fnExactMeanImageWrong)

/-- 'laws.FnExactImageRange': WHATEVER THE INPUT: true; the input reads as it did. -/
def fnExactImageRangeSpec : ChangeSpec := { name := "fnExactImageRange", fn := fun _ => fun
  | [d] => { results := [.lit (.bool true)], args := [d] }
  | _ => none }
def fnExactImageRangeRow : OpenClaim := { program := "ytfnheijpgldlcaa", sum := "29b38c58ed9983280ca41823bcc6a6e7d5d57b2615817cf50b858f9433275990", func := "loop.example/g01011/laws.FnExactImageRange", spec := "fnExactImageRange", unfollowed := true, recurses := true, apart := false }
def FnExactImageRangeSaid : Prop := fnExactImageRangeRow.holds Try.pinned (OpenSpec.ofChange fnExactImageRangeSpec)

/-- ITS FALSE NEIGHBOUR: 'it returns false'. Refute it at one input. -/
def fnExactImageRangeWrong : ChangeSpec := { name := "fnExactImageRange", fn := fun _ => fun
  | [d] => { results := [.lit (.bool false)], args := [d] }
  | _ => none }
def FnExactImageRangeWrongFalsely : Prop := fnExactImageRangeRow.holds Try.pinned (OpenSpec.ofChange fnExactImageRangeWrong)

/- THE SECOND FORM. 'bulk': how many values and letters a reading holds, each counted each time it is reached (what is shared counts as often as it is met; a slice's spare places count too). A statement '..UptoSaid' is the law's where the arguments, and the package variables that the reading takes, are together of bulk at most 1048576: NARROWER than '..Said'. Prove '..Said' where nothing that the law and all that it calls make is longer than what came in: it says more and counts as full. Else prove '..UptoSaid'. A law counts once. -/
mutual
def uptoBulk {H : Type} : DataW H → Nat
  | .lit (.string bytes) => bytes.length + 1
  | .lit _ => 1
  | .nil => 1
  | .ptr d => uptoBulk d + 1
  | .slice elems spare => uptoBulkAll elems + uptoBulkAll spare + 1
  | .agg parts => uptoBulkAll parts + 1
  | .iface _ d => uptoBulk d + 1
  | .map entries => uptoBulkEntries entries + 1
  | .held _ => 1
def uptoBulkAll {H : Type} : List (DataW H) → Nat
  | [] => 0
  | d :: r => uptoBulk d + uptoBulkAll r
def uptoBulkEntries {H : Type} : List (Lit × DataW H) → Nat
  | [] => 0
  | x :: r => uptoBulkEntry x + uptoBulkEntries r
def uptoBulkEntry {H : Type} : Lit × DataW H → Nat
  | (.string bytes, d) => bytes.length + uptoBulk d + 1
  | (_, d) => uptoBulk d + 1
 end
def uptoSmall : (H : Type) → List (DataW H) → Bool := fun _ ds => decide (uptoBulkAll ds ≤ 1048576)
def OpenSpec.upto (s : _root_.Go.ChangeSpec) : _root_.Go.OpenSpec := { _root_.Go.OpenSpec.ofChange s with cond := some uptoSmall }

/-- 'laws.FnExactSeverityOf', WHERE WHAT IT READS IS OF BULK AT MOST 1048576: true; the input reads as it did. -/
def fnExactSeverityOfUptoRow : OpenClaim := { program := "ytfnheijpgldlcaa", sum := "29b38c58ed9983280ca41823bcc6a6e7d5d57b2615817cf50b858f9433275990", func := "loop.example/g01011/laws.FnExactSeverityOf", spec := "fnExactSeverityOf", apart := false, narrowed := true }
def FnExactSeverityOfUptoSaid : Prop := fnExactSeverityOfUptoRow.holds Try.pinned (OpenSpec.upto fnExactSeverityOfSpec)

/-- 'laws.FnExactTrendOf', WHERE WHAT IT READS IS OF BULK AT MOST 1048576: true; the input reads as it did. -/
def fnExactTrendOfUptoRow : OpenClaim := { program := "ytfnheijpgldlcaa", sum := "29b38c58ed9983280ca41823bcc6a6e7d5d57b2615817cf50b858f9433275990", func := "loop.example/g01011/laws.FnExactTrendOf", spec := "fnExactTrendOf", unfollowed := true, recurses := true, apart := false, narrowed := true }
def FnExactTrendOfUptoSaid : Prop := fnExactTrendOfUptoRow.holds Try.pinned (OpenSpec.upto fnExactTrendOfSpec)

/-- 'laws.FnExactValidImage', WHERE WHAT IT READS IS OF BULK AT MOST 1048576: true; the input reads as it did. -/
def fnExactValidImageUptoRow : OpenClaim := { program := "ytfnheijpgldlcaa", sum := "29b38c58ed9983280ca41823bcc6a6e7d5d57b2615817cf50b858f9433275990", func := "loop.example/g01011/laws.FnExactValidImage", spec := "fnExactValidImage", unfollowed := true, recurses := true, apart := false, narrowed := true }
def FnExactValidImageUptoSaid : Prop := fnExactValidImageUptoRow.holds Try.pinned (OpenSpec.upto fnExactValidImageSpec)

/-- 'laws.FnExactImageChange', WHERE WHAT IT READS IS OF BULK AT MOST 1048576: true; the input reads as it did. -/
def fnExactImageChangeUptoRow : OpenClaim := { program := "ytfnheijpgldlcaa", sum := "29b38c58ed9983280ca41823bcc6a6e7d5d57b2615817cf50b858f9433275990", func := "loop.example/g01011/laws.FnExactImageChange", spec := "fnExactImageChange", unfollowed := true, recurses := true, apart := false, narrowed := true }
def FnExactImageChangeUptoSaid : Prop := fnExactImageChangeUptoRow.holds Try.pinned (OpenSpec.upto fnExactImageChangeSpec)

/-- 'laws.FnExactMeanImage', WHERE WHAT IT READS IS OF BULK AT MOST 1048576: true; the input reads as it did. -/
def fnExactMeanImageUptoRow : OpenClaim := { program := "ytfnheijpgldlcaa", sum := "29b38c58ed9983280ca41823bcc6a6e7d5d57b2615817cf50b858f9433275990", func := "loop.example/g01011/laws.FnExactMeanImage", spec := "fnExactMeanImage", unfollowed := true, recurses := true, apart := false, narrowed := true }
def FnExactMeanImageUptoSaid : Prop := fnExactMeanImageUptoRow.holds Try.pinned (OpenSpec.upto fnExactMeanImageSpec)

/-- 'laws.FnExactImageRange', WHERE WHAT IT READS IS OF BULK AT MOST 1048576: true; the input reads as it did. -/
def fnExactImageRangeUptoRow : OpenClaim := { program := "ytfnheijpgldlcaa", sum := "29b38c58ed9983280ca41823bcc6a6e7d5d57b2615817cf50b858f9433275990", func := "loop.example/g01011/laws.FnExactImageRange", spec := "fnExactImageRange", unfollowed := true, recurses := true, apart := false, narrowed := true }
def FnExactImageRangeUptoSaid : Prop := fnExactImageRangeUptoRow.holds Try.pinned (OpenSpec.upto fnExactImageRangeSpec)

end Rows
end Go.Proofs.Ytfnheijpgldlcaa
