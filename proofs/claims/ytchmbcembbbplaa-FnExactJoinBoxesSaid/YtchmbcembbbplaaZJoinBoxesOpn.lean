/- Openers of the struct types that the law FnExactJoinBoxes takes; no condition. -/
import Derived.Test.YtchmbcembbbplaaZJoinBoxesOpen
import Derived.Test.YtchmbcembbbplaaZJoinBoxesMx0
namespace Go.Proofs.Ytchmbcembbbplaa.MFnExactJoinBoxes
open Go Go.RowKit Go.Proofs.YtchmbcembbbplaaW.PrintWords Go.Proofs.Ytchmbcembbbplaa.Open
end Go.Proofs.Ytchmbcembbbplaa.MFnExactJoinBoxes
