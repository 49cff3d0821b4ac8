/- Openers of the struct types that the law FnThinned takes; no condition. -/
import Derived.Test.YtbackoeakepngabZFnThinnedOpen
import Derived.Test.YtbackoeakepngabZFnThinnedMx0
namespace Go.Proofs.Ytbackoeakepngab.MFnThinned
open Go Go.RowKit Go.Proofs.YtbackoeakepngabW.PrintWords Go.Proofs.Ytbackoeakepngab.Open
end Go.Proofs.Ytbackoeakepngab.MFnThinned
