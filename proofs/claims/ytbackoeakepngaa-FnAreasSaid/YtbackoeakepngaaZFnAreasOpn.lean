/- Openers of the struct types that the law FnAreas takes; no condition. -/
import Derived.Test.YtbackoeakepngaaZFnAreasOpen
import Derived.Test.YtbackoeakepngaaZFnAreasMx0
namespace Go.Proofs.Ytbackoeakepngaa.MFnAreas
open Go Go.RowKit Go.Proofs.YtbackoeakepngaaW.PrintWords Go.Proofs.Ytbackoeakepngaa.Open
end Go.Proofs.Ytbackoeakepngaa.MFnAreas
