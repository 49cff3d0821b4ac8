-- Cut by this session's program pack.py out of the print's words as laid for this seat: what this claim needs of them. Not trusted: Lean checks it.
import Derived.Test.YtbbdhlggnglfgaaZFnFeaturesWInv
import Derived.Test.YtbbdhlggnglfgaaZFnFeaturesWFootNe
namespace Go.Proofs.YtbbdhlggnglfgaaW.PrintWords
open Go.RowKit
end Go.Proofs.YtbbdhlggnglfgaaW.PrintWords
namespace Go.Proofs.YtbbdhlggnglfgaaW.PrintLast
section
variable {ops:Array Oper} {a:Act} {o og:Oper} {g:Nat} {t:Tmp} {u:Bool}
end
end Go.Proofs.YtbbdhlggnglfgaaW.PrintLast
