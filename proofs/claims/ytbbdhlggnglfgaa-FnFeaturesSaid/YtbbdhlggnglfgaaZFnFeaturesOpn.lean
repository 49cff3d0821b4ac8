/- Openers of the struct types that the law FnFeatures takes; no condition. -/
import Derived.Test.YtbbdhlggnglfgaaZFnFeaturesOpen
import Derived.Test.YtbbdhlggnglfgaaZFnFeaturesMx0
namespace Go.Proofs.Ytbbdhlggnglfgaa.MFnFeatures
open Go Go.RowKit Go.Proofs.YtbbdhlggnglfgaaW.PrintWords Go.Proofs.Ytbbdhlggnglfgaa.Open
end Go.Proofs.Ytbbdhlggnglfgaa.MFnFeatures
