-- Cut by this session's program pack.py out of the print's words as laid for this seat: what this claim needs of them. Not trusted: Lean checks it.
import Derived.Test.YtbbdhlggnglfgaaZFnFeaturesWWords
import Derived.Test.YtbbdhlggnglfgaaZFnFeaturesWLast
namespace Go.Proofs.YtbbdhlggnglfgaaW.PrintWords
open Go.RowKit
namespace Kd
section
variable {α:Type} {d:Kd α} {e base g o n cap:Nat} {ok okp:Nat→Prop} {w W:World} {v:Value} {xs:List α}
end
section
variable {α:Type} {enc:α→Value} {h1:∀ x,(enc x).oneCell'=true} {e base g o n cap:Nat} {ok:Nat→Prop} {W:World} {xs:List α}
end
end Kd
end Go.Proofs.YtbbdhlggnglfgaaW.PrintWords
