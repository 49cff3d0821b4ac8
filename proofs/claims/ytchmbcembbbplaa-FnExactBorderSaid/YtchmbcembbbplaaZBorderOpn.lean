/- Openers of the struct types that the law FnExactBorder takes; no condition. -/
import Derived.Test.YtchmbcembbbplaaZBorderOpen
import Derived.Test.YtchmbcembbbplaaZBorderMx0
namespace Go.Proofs.Ytchmbcembbbplaa.MFnExactBorder
open Go Go.RowKit Go.Proofs.YtchmbcembbbplaaW.PrintWords Go.Proofs.Ytchmbcembbbplaa.Open
end Go.Proofs.Ytchmbcembbbplaa.MFnExactBorder
