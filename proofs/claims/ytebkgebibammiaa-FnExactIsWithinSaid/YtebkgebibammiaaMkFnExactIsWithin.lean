/- What the law's marks do in memory. -/
import Derived.Test.YtebkgebibammiaaPureFnExactIsWithin
namespace Go.Proofs.Ytebkgebibammiaa.Pure
open Go.RowKit Go.Proofs.Ytebkgebibammiaa.PFnExactIsWithin Go.Proofs.YtebkgebibammiaaW.PrintWords Go.Proofs.YtebkgebibammiaaW.PrintLast Go.Proofs.YtebkgebibammiaaW.PrintMore
set_option linter.unusedVariables false
set_option linter.unusedSimpArgs false
def Rng (lo hi k : Nat) : Prop := lo ≤ k ∧ k < hi
end Go.Proofs.Ytebkgebibammiaa.Pure
