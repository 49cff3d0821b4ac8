-- Cut by this session's program pack.py out of the print's words as laid for this seat: what this claim needs of them. Not trusted: Lean checks it.
import Derived.Test.YtchmbcembbbplaaZBorderWInv
import Derived.Test.YtchmbcembbbplaaZBorderWFootNe
namespace Go.Proofs.YtchmbcembbbplaaW.PrintWords
open Go.RowKit
end Go.Proofs.YtchmbcembbbplaaW.PrintWords
namespace Go.Proofs.YtchmbcembbbplaaW.PrintLast
section
variable {ops : Array Oper} {a : Act} {o og : Oper} {g : Nat} {t : Tmp} {u : Bool}
end
end Go.Proofs.YtchmbcembbbplaaW.PrintLast
