-- Cut by this session's program trim.py out of the print's words as laid for this seat: what these claims need of them. Not trusted: Lean checks it.
import Derived.Test.YtchmbcembbbplaaVTab
namespace Go.Proofs.YtchmbcembbbplaaW.PrintLast
section
variable {P : Program} {ops : Array Oper} {Q : Exit → Act → World → Prop} {md : Region.Mode} {S : World → Prop} {ds : List Nat} {T : Bool × List (List Nat × List Nat)}
end
end Go.Proofs.YtchmbcembbbplaaW.PrintLast
