/- The program's SeverityOf returns what the reference's returns, for all arguments: five classes of a whole number. No condition. -/
import Derived.Test.YtfnheijpgldlcaaPFnExactSeverityOfx1
namespace Go.Proofs.Ytfnheijpgldlcaa.Pure
open Go.RowKit Go.Proofs.Ytfnheijpgldlcaa.PFnExactSeverityOf Go.Proofs.YtfnheijpgldlcaaW.PrintWords Go.Proofs.YtfnheijpgldlcaaW.PrintLast

/-- YOURS: ∀ (a0 : Int), (Lit.int .i64 a0).wf = true → laws_FnExactSeverityOf.f a0 = some true
What it reaches (each with k first where it has rounds; `.mono`: more rounds tell the same; `.l0`, ..: its loops, with `.mono_l`): spec_SeverityOf.f, impl_SeverityOf.f, laws_FnExactSeverityOf.f -/
theorem FnExactSeverityOf : laws_FnExactSeverityOf.Pure := by
  intro a0 _
  unfold laws_FnExactSeverityOf.f
  have h : impl_SeverityOf.f a0 = spec_SeverityOf.f a0 := rfl
  rw [h]
  unfold spec_SeverityOf.f
  repeat' split
  all_goals simp

end Go.Proofs.Ytfnheijpgldlcaa.Pure
