/- Openers of the struct types that the law FnBoxes takes; no condition. -/
import Derived.Test.YtbackoeakepngaaZFnBoxesOpen
import Derived.Test.YtbackoeakepngaaZFnBoxesMx0
namespace Go.Proofs.Ytbackoeakepngaa.MFnBoxes
open Go Go.RowKit Go.Proofs.YtbackoeakepngaaW.PrintWords Go.Proofs.Ytbackoeakepngaa.Open
end Go.Proofs.Ytbackoeakepngaa.MFnBoxes
