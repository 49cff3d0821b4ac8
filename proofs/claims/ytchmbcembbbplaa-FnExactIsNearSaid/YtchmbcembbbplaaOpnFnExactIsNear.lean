/- Openers of the struct types that the law FnExactIsNear takes; no condition. -/
import Derived.Test.YtchmbcembbbplaaOpen
import Derived.Test.YtchmbcembbbplaaPFnExactIsNearx0
namespace Go.Proofs.Ytchmbcembbbplaa.PFnExactIsNear
open Go Go.RowKit Go.Proofs.YtchmbcembbbplaaW.PrintWords Go.Proofs.Ytchmbcembbbplaa.Open



end Go.Proofs.Ytchmbcembbbplaa.PFnExactIsNear
