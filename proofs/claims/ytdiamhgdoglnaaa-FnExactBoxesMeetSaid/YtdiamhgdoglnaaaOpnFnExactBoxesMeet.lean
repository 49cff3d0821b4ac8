/- Openers of the struct types that the law FnExactBoxesMeet takes; no condition. -/
import Derived.Test.YtdiamhgdoglnaaaOpen
import Derived.Test.YtdiamhgdoglnaaaPFnExactBoxesMeetx0
namespace Go.Proofs.Ytdiamhgdoglnaaa.PFnExactBoxesMeet
open Go Go.RowKit Go.Proofs.YtdiamhgdoglnaaaW.PrintWords Go.Proofs.Ytdiamhgdoglnaaa.Open



end Go.Proofs.Ytdiamhgdoglnaaa.PFnExactBoxesMeet
