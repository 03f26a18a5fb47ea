/- What is known of each part of what the law FnExactSameEnding is handed, and that the reading tells it. No condition. -/
import Derived.Test.YtaoelobgpilmjaaMRead
import Derived.Test.YtaoelobgpilmjaaPFnExactSameEndingx0
set_option linter.unusedVariables false
namespace Go.Proofs.Ytaoelobgpilmjaa.RdFnExactSameEnding
open Go.RowKit Go.ChangeShapes Go.WideShapes Go.Deep Go.Proofs.YtaoelobgpilmjaaW.PrintWords Go.Proofs.Ytaoelobgpilmjaa.MRead Go.Proofs.Ytaoelobgpilmjaa.PFnExactSameEnding
end Go.Proofs.Ytaoelobgpilmjaa.RdFnExactSameEnding
