/- The program's CopyType returns what the reference's returns, for every int. No condition beside what the statement itself asks. -/
import Derived.Test.YtnjnknmdipjmdaaPFnExactCopyTypex1
set_option linter.unusedVariables false
set_option linter.unusedSimpArgs false
namespace Go.Proofs.Ytnjnknmdipjmdaa.Pure
open Go.RowKit Go.Proofs.Ytnjnknmdipjmdaa.PFnExactCopyType Go.Proofs.YtnjnknmdipjmdaaW.PrintWords Go.Proofs.YtnjnknmdipjmdaaW.PrintLast


theorem FnExactCopyType : laws_FnExactCopyType.Pure := by
  intro a0 h0
  simp only [laws_FnExactCopyType.f, spec_CopyType.f, impl_CopyType.f]
  split <;> simp
end Go.Proofs.Ytnjnknmdipjmdaa.Pure
