/- Openers of the struct types that the law FnExactBoxesOverlap takes; no condition. -/
import Derived.Test.YtdiamhgdoglnaaaOpen
import Derived.Test.YtdiamhgdoglnaaaPFnExactBoxesOverlapx0
namespace Go.Proofs.Ytdiamhgdoglnaaa.PFnExactBoxesOverlap
open Go Go.RowKit Go.Proofs.YtdiamhgdoglnaaaW.PrintWords Go.Proofs.Ytdiamhgdoglnaaa.Open



end Go.Proofs.Ytdiamhgdoglnaaa.PFnExactBoxesOverlap
