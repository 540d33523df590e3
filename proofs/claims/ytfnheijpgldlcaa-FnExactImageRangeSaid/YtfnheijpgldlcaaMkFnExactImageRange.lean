/- What the law's marks do in memory. -/
import Derived.Test.YtfnheijpgldlcaaPureFnExactImageRange
namespace Go.Proofs.Ytfnheijpgldlcaa.Pure
open Go.RowKit Go.Proofs.Ytfnheijpgldlcaa.PFnExactImageRange Go.Proofs.YtfnheijpgldlcaaW.PrintWords Go.Proofs.YtfnheijpgldlcaaW.PrintLast Go.Proofs.YtfnheijpgldlcaaW.PrintMore
set_option linter.unusedVariables false
set_option linter.unusedSimpArgs false

def Rng (lo hi k : Nat) : Prop := lo ≤ k ∧ k < hi

end Go.Proofs.Ytfnheijpgldlcaa.Pure
