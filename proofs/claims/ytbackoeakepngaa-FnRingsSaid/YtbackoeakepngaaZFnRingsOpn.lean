/- Openers of the struct types that the law FnRings takes; no condition. -/
import Derived.Test.YtbackoeakepngaaZFnRingsOpen
import Derived.Test.YtbackoeakepngaaZFnRingsMx0
namespace Go.Proofs.Ytbackoeakepngaa.MFnRings
open Go Go.RowKit Go.Proofs.YtbackoeakepngaaW.PrintWords Go.Proofs.Ytbackoeakepngaa.Open
end Go.Proofs.Ytbackoeakepngaa.MFnRings
