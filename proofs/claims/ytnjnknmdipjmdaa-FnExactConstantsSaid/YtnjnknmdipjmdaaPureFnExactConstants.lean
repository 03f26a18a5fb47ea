/- The program's constants are the reference's: the law holds at once (no arguments). No condition beside what the statement itself asks. -/
import Derived.Test.YtnjnknmdipjmdaaPFnExactConstantsx1
set_option linter.unusedVariables false
set_option linter.unusedSimpArgs false
namespace Go.Proofs.Ytnjnknmdipjmdaa.Pure
open Go.RowKit Go.Proofs.Ytnjnknmdipjmdaa.PFnExactConstants Go.Proofs.YtnjnknmdipjmdaaW.PrintWords Go.Proofs.YtnjnknmdipjmdaaW.PrintLast


theorem FnExactConstants : laws_FnExactConstants.Pure := rfl
end Go.Proofs.Ytnjnknmdipjmdaa.Pure
