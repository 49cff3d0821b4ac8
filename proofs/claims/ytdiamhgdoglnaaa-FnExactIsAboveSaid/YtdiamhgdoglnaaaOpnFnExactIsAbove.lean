/- Openers of the struct types that the law FnExactIsAbove takes; no condition. -/
import Derived.Test.YtdiamhgdoglnaaaOpen
import Derived.Test.YtdiamhgdoglnaaaPFnExactIsAbovex0
namespace Go.Proofs.Ytdiamhgdoglnaaa.PFnExactIsAbove
open Go Go.RowKit Go.Proofs.YtdiamhgdoglnaaaW.PrintWords Go.Proofs.Ytdiamhgdoglnaaa.Open



end Go.Proofs.Ytdiamhgdoglnaaa.PFnExactIsAbove
