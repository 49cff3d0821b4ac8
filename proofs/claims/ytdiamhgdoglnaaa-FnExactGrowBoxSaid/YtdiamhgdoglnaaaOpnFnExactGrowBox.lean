/- Openers of the struct types that the law FnExactGrowBox takes; no condition. -/
import Derived.Test.YtdiamhgdoglnaaaOpen
import Derived.Test.YtdiamhgdoglnaaaPFnExactGrowBoxx0
namespace Go.Proofs.Ytdiamhgdoglnaaa.PFnExactGrowBox
open Go Go.RowKit Go.Proofs.YtdiamhgdoglnaaaW.PrintWords Go.Proofs.Ytdiamhgdoglnaaa.Open



end Go.Proofs.Ytdiamhgdoglnaaa.PFnExactGrowBox
