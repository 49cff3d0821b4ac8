-- Cut by this session's program pack.py out of the print's words as laid for this seat: what this claim needs of them. Not trusted: Lean checks it.
import Derived.SizedLaws
import Derived.ChangeSlices
namespace Go.Proofs.YtbbdhlggnglfgaaW.PrintWords
open Go.ChangeShapes Go.WideShapes
end Go.Proofs.YtbbdhlggnglfgaaW.PrintWords
