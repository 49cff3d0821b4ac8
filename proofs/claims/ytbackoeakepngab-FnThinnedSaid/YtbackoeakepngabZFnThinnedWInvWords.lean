-- Cut by this session's program pack.py out of the print's words as laid for this seat: what this claim needs of them. Not trusted: Lean checks it.
import Derived.Test.YtbackoeakepngabZFnThinnedWInv
import Derived.Test.YtbackoeakepngabZFnThinnedWFootNe
namespace Go.Proofs.YtbackoeakepngabW.PrintWords
open Go.RowKit
end Go.Proofs.YtbackoeakepngabW.PrintWords
namespace Go.Proofs.YtbackoeakepngabW.PrintLast
section
variable {ops : Array Oper} {a : Act} {o og : Oper} {g : Nat} {t : Tmp} {u : Bool}
end
end Go.Proofs.YtbackoeakepngabW.PrintLast
