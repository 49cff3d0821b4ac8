-- Cut by this session's program pack.py out of the print's words as laid for this seat: what this claim needs of them. Not trusted: Lean checks it.
import Derived.Test.YtchmbcembbbpladZMeetsOfWInv
import Derived.Test.YtchmbcembbbpladZMeetsOfWFootNe
namespace Go.Proofs.YtchmbcembbbpladW.PrintWords
open Go.RowKit
end Go.Proofs.YtchmbcembbbpladW.PrintWords
namespace Go.Proofs.YtchmbcembbbpladW.PrintLast
section
variable {ops : Array Oper} {a : Act} {o og : Oper} {g : Nat} {t : Tmp} {u : Bool}
end
end Go.Proofs.YtchmbcembbbpladW.PrintLast
