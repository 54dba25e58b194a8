/- What the arguments of FnExactTakeEvent read as: the ranges of their whole numbers, kind by kind. No condition. -/
import Derived.Test.YtkkfhanoladpeaaPFnExactTakeEventx0
import Derived.Test.YtkkfhanoladpeaaOpn
namespace Go.Proofs.Ytkkfhanoladpeaa.PFnExactTakeEvent
open Go.RowKit Go.ChangeShapes Go.WideShapes Go.Proofs.YtkkfhanoladpeaaW.PrintWords Go.Proofs.Ytkkfhanoladpeaa.Opn
set_option linter.unusedVariables false
end Go.Proofs.Ytkkfhanoladpeaa.PFnExactTakeEvent
