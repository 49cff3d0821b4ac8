/- Openers of the struct types that the law FnMeets takes; no condition. -/
import Derived.Test.YtbbdhlggnglfgaaZFnMeetsOpen
import Derived.Test.YtbbdhlggnglfgaaZFnMeetsMx0
namespace Go.Proofs.Ytbbdhlggnglfgaa.MFnMeets
open Go Go.RowKit Go.Proofs.YtbbdhlggnglfgaaW.PrintWords Go.Proofs.Ytbbdhlggnglfgaa.Open
end Go.Proofs.Ytbbdhlggnglfgaa.MFnMeets
