-- Cut by this session's program trim.py out of the print's words as laid for this seat: what these claims need of them. Not trusted: Lean checks it.
import Derived.Test.YtchmbcembbbplaaVInv
import Derived.Test.YtchmbcembbbplaaVFootNe
namespace Go.Proofs.YtchmbcembbbplaaW.PrintWords
open Go.RowKit
end Go.Proofs.YtchmbcembbbplaaW.PrintWords
namespace Go.Proofs.YtchmbcembbbplaaW.PrintLast
section
variable {ops : Array Oper} {a : Act} {o og : Oper} {g : Nat} {t : Tmp} {u : Bool}
end
end Go.Proofs.YtchmbcembbbplaaW.PrintLast
