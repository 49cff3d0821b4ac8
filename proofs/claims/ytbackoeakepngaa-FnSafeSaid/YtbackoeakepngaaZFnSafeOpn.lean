/- Openers of the struct types that the law FnSafe takes; no condition. -/
import Derived.Test.YtbackoeakepngaaZFnSafeOpen
import Derived.Test.YtbackoeakepngaaZFnSafeMx0
namespace Go.Proofs.Ytbackoeakepngaa.MFnSafe
open Go Go.RowKit Go.Proofs.YtbackoeakepngaaW.PrintWords Go.Proofs.Ytbackoeakepngaa.Open
end Go.Proofs.Ytbackoeakepngaa.MFnSafe
