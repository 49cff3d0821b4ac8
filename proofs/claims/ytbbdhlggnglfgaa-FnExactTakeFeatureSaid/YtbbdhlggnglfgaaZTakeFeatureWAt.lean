-- Cut by this session's program pack.py out of the print's words as laid for this seat: what this claim needs of them. Not trusted: Lean checks it.
import Derived.Test.YtbbdhlggnglfgaaZTakeFeatureWFootNe
namespace Go.Proofs.YtbbdhlggnglfgaaW.PrintWords
open Go.RowKit
section
variable {w w' u : World} {m B g : Nat} {o : Obj} {row : Option Nat} {S : Nat → Prop} {a : Addr} {v : Value}
end
namespace Kd
section
variable {α : Type} {d : Kd α} {e base n m : Nat} {ok : Nat → Prop} {w w' : World} {v : Value} {A : Option Addr} {xs : List α}
end
end Kd
end Go.Proofs.YtbbdhlggnglfgaaW.PrintWords
