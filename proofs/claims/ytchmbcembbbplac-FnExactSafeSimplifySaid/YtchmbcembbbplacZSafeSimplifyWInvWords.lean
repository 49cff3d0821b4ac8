-- Cut by this session's program pack.py out of the print's words as laid for this seat: what this claim needs of them. Not trusted: Lean checks it.
import Derived.Test.YtchmbcembbbplacZSafeSimplifyWInv
import Derived.Test.YtchmbcembbbplacZSafeSimplifyWFootNe
namespace Go.Proofs.YtchmbcembbbplacW.PrintWords
open Go.RowKit
end Go.Proofs.YtchmbcembbbplacW.PrintWords
namespace Go.Proofs.YtchmbcembbbplacW.PrintLast
section
variable {ops : Array Oper} {a : Act} {o og : Oper} {g : Nat} {t : Tmp} {u : Bool}
end
end Go.Proofs.YtchmbcembbbplacW.PrintLast
