-- Cut by this session's program pack.py out of the print's words as laid for this seat: what this claim needs of them. Not trusted: Lean checks it.
import Derived.Test.YtbackoeakepngabZThinPlacesWWords
import Derived.Laws.StructEq
namespace Go.Proofs.YtbackoeakepngabW.PrintWords
open Go.RowKit
section
variable {P : Program} {d : Nat} {xs ys : Array Value} {f : Field} {fs : List Field} {a b : Value} {r s : Bool} {w : World}
end
end Go.Proofs.YtbackoeakepngabW.PrintWords
