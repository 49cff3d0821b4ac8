/- Openers of the struct types that the law FnExactIsCover takes; no condition. -/
import Derived.Test.YtdiamhgdoglnaaaOpen
import Derived.Test.YtdiamhgdoglnaaaPFnExactIsCoverx0
namespace Go.Proofs.Ytdiamhgdoglnaaa.PFnExactIsCover
open Go Go.RowKit Go.Proofs.YtdiamhgdoglnaaaW.PrintWords Go.Proofs.Ytdiamhgdoglnaaa.Open



end Go.Proofs.Ytdiamhgdoglnaaa.PFnExactIsCover
