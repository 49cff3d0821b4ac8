/- Openers of the struct types that the law FnSimplified takes; no condition. -/
import Derived.Test.YtbackoeakepngaaZFnSimplifiedOpen
import Derived.Test.YtbackoeakepngaaZFnSimplifiedMx0
namespace Go.Proofs.Ytbackoeakepngaa.MFnSimplified
open Go Go.RowKit Go.Proofs.YtbackoeakepngaaW.PrintWords Go.Proofs.Ytbackoeakepngaa.Open
end Go.Proofs.Ytbackoeakepngaa.MFnSimplified
