/- Openers of the struct types that the law FnExactIsBox takes; no condition. -/
import Derived.Test.YtdiamhgdoglnaaaOpen
import Derived.Test.YtdiamhgdoglnaaaPFnExactIsBoxx0
namespace Go.Proofs.Ytdiamhgdoglnaaa.PFnExactIsBox
open Go Go.RowKit Go.Proofs.YtdiamhgdoglnaaaW.PrintWords Go.Proofs.Ytdiamhgdoglnaaa.Open



end Go.Proofs.Ytdiamhgdoglnaaa.PFnExactIsBox
