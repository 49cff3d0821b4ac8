-- Cut by this session's program pack.py out of the print's words as laid for this seat: what this claim needs of them. Not trusted: Lean checks it.
import Derived.Test.YtchmbcembbbplabZEqualSourcesWInv
import Derived.Test.YtchmbcembbbplabZEqualSourcesWFootNe
namespace Go.Proofs.YtchmbcembbbplabW.PrintWords
open Go.RowKit
end Go.Proofs.YtchmbcembbbplabW.PrintWords
namespace Go.Proofs.YtchmbcembbbplabW.PrintLast
section
variable {ops : Array Oper} {a : Act} {o og : Oper} {g : Nat} {t : Tmp} {u : Bool}
end
end Go.Proofs.YtchmbcembbbplabW.PrintLast
