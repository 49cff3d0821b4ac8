-- Laid by this session's program pp.py, after the kit's print and texts of the session's own. Not trusted: Lean checks it.
import Derived.Test.YtchmbcembbbplaaProg
import Derived.Below
import Derived.Deep.Draws
import Derived.Deep.AppendLies
import Derived.Maps.AppendAt
import Derived.OwnWalk
import Derived.Laws.BytesArg
import Derived.Laws.MakeOwn
import Derived.Laws.OwnMore
import Derived.Deep.OwnRows
import Derived.Tactics
import Derived.Lib.ConvBytes
import Derived.Laws.Slices
import Derived.WalkKit
import Derived.KernelRfl
import Derived.RowKit3
import Derived.Deep.LoopGhost
import Derived.Deep.QuietTactic
import Derived.BigQuiet
import Derived.WideLaws
import Derived.Deep.DeepCutAuto
import Derived.Deep.CutBlock
import Derived.Deep.RegionHeld3
import Derived.Laws.Rows
import Derived.Lib.AppendStr
import Derived.ArgAppend
import Derived.Laws.IdiomCopy
import Derived.OrdersHeld
import Derived.Laws.BitsLemmas
import Derived.RowKit
import Derived.Lib.AppendZeros
import Derived.Test.YtchmbcembbbplaaZRegionOfSh
import Derived.Test.YtchmbcembbbplaaZRegionOfWWords
import Derived.Test.YtchmbcembbbplaaZRegionOfWLast
import Derived.Test.YtchmbcembbbplaaZRegionOfWTab
import Derived.Test.YtchmbcembbbplaaZRegionOfWFour
import Derived.Test.YtchmbcembbbplaaZRegionOfWQPut
import Derived.Test.YtchmbcembbbplaaZRegionOfWApart
import Derived.Test.YtchmbcembbbplaaZRegionOfWArr
import Derived.Test.YtchmbcembbbplaaZRegionOfWZeros
import Derived.Test.YtchmbcembbbplaaZRegionOfWFoot
import Derived.Test.YtchmbcembbbplaaZRegionOfWKept
import Derived.Test.YtchmbcembbbplaaZRegionOfWShare
import Derived.Test.YtchmbcembbbplaaZRegionOfWN
import Derived.Test.YtchmbcembbbplaaZRegionOfWFootNe
import Derived.Test.YtchmbcembbbplaaZRegionOfWAt
import Derived.Test.YtchmbcembbbplaaZRegionOfWEqStruct
import Derived.Test.YtchmbcembbbplaaZRegionOfWRepsOne
import Derived.Test.YtchmbcembbbplaaZRegionOfWInv
import Derived.Test.YtchmbcembbbplaaZRegionOfWInvWords
import Derived.Test.YtchmbcembbbplaaZRegionOfWGuard
import Derived.Test.YtchmbcembbbplaaZRegionOfWNEv
import Derived.Test.YtchmbcembbbplaaZRegionOfWMore
namespace Go.Proofs.Ytchmbcembbbplaa.MFnExactRegionOf
open Go.RowKit Go.Proofs.YtchmbcembbbplaaW.PrintWords Go.Proofs.YtchmbcembbbplaaW.PrintLast Go.Proofs.YtchmbcembbbplaaW.PrintMore
attribute [local go_sem] max2_int min2_int max_two min_two max_three min_three max_four min_four   -- for this text's walks alone
set_option linter.unusedVariables false
set_option linter.unusedSimpArgs false
def errW : Option Int → Value
  | none => .nilIface
  | some c => .iface 0 (.int .i64 c)
theorem errW_none : errW none = .nilIface := rfl
theorem errW_some (c : Int) : errW (some c) = .iface 0 (.int .i64 c) := rfl
theorem info3 : (Try.prog.info? 3).map (fun i => (i.zero, i.size, i.bytes)) = some (some (.int .i64 0), 1, 8) := by kernel_rfl
end Go.Proofs.Ytchmbcembbbplaa.MFnExactRegionOf
