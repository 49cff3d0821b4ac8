-- Cut by this session's program pack.py out of the print's words as laid for this seat: what this claim needs of them. Not trusted: Lean checks it.
import Derived.Test.YtbackoeakepngaaZFnAreasWInv
import Derived.Test.YtbackoeakepngaaZFnAreasWFootNe
namespace Go.Proofs.YtbackoeakepngaaW.PrintWords
open Go.RowKit
end Go.Proofs.YtbackoeakepngaaW.PrintWords
namespace Go.Proofs.YtbackoeakepngaaW.PrintLast
section
variable {ops : Array Oper} {a : Act} {o og : Oper} {g : Nat} {t : Tmp} {u : Bool}
end
end Go.Proofs.YtbackoeakepngaaW.PrintLast
