/- Plain lemmas on loops that the printed functions share: filling a list, comparing two lists, counting on; no program in sight. No condition beyond each lemma's own. -/
import Derived.Test.YtchmbcembbbplaaZJoinBoxesWWords
import Derived.Test.YtchmbcembbbplaaZJoinBoxesWMore
namespace Go.Proofs.Ytchmbcembbbplaa.Gen
open Go Go.RowKit Go.Proofs.YtchmbcembbbplaaW.PrintWords Go.Proofs.YtchmbcembbbplaaW.PrintMore
theorem w64s {i : Nat} (h : i < 9223372036854775807) : wrap64 ((i : Int) + 1) = ((i + 1 : Nat) : Int) := by unfold wrap64; omega
end Go.Proofs.Ytchmbcembbbplaa.Gen
