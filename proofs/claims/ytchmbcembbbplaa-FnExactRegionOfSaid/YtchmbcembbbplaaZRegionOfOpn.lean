/- Openers of the struct types that the law FnExactRegionOf takes; no condition. -/
import Derived.Test.YtchmbcembbbplaaZRegionOfOpen
import Derived.Test.YtchmbcembbbplaaZRegionOfMx0
namespace Go.Proofs.Ytchmbcembbbplaa.MFnExactRegionOf
open Go Go.RowKit Go.Proofs.YtchmbcembbbplaaW.PrintWords Go.Proofs.Ytchmbcembbbplaa.Open
end Go.Proofs.Ytchmbcembbbplaa.MFnExactRegionOf
