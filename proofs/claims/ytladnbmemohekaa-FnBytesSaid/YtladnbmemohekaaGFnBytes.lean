/- What the arguments of FnBytes read as: the ranges of their whole numbers, kind by kind. No condition. -/
import Derived.Test.YtladnbmemohekaaPFnBytesx0
import Derived.Test.YtladnbmemohekaaOpn
namespace Go.Proofs.Ytladnbmemohekaa.PFnBytes
open Go.RowKit Go.ChangeShapes Go.WideShapes Go.Proofs.YtladnbmemohekaaW.PrintWords Go.Proofs.Ytladnbmemohekaa.Opn
set_option linter.unusedVariables false
end Go.Proofs.Ytladnbmemohekaa.PFnBytes
