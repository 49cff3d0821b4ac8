-- Cut by this session's program trim.py out of the print's words as laid for this seat: what these claims need of them. Not trusted: Lean checks it.
-- PRINTED WORDS (module Derived/Print/Sized.lean): go-gate-2's, for the rows of laws over slices: an AI agent of Go's test side, Tue Nov 17 2026; no person has read it. Lean checks it.
import Derived.SizedLaws
import Derived.ChangeSlices
namespace Go.Proofs.YtchmbcembbbplaaW.PrintWords
open Go.ChangeShapes Go.WideShapes
end Go.Proofs.YtchmbcembbbplaaW.PrintWords
