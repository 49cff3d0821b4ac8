-- Laid by this session's program pp.py, after the kit's print and texts of the session's own. Not trusted: Lean checks it.
import Derived.Test.YtchmbcembbbplaaProg
import Derived.Below
import Derived.Deep.Draws
import Derived.Deep.AppendLies
import Derived.Maps.AppendAt
import Derived.OwnWalk
import Derived.Laws.BytesArg
import Derived.Laws.MakeOwn
import Derived.Laws.OwnMore
import Derived.Deep.OwnRows
import Derived.Tactics
import Derived.Lib.ConvBytes
import Derived.Laws.Slices
import Derived.WalkKit
import Derived.KernelRfl
import Derived.RowKit3
import Derived.Deep.LoopGhost
import Derived.Deep.QuietTactic
import Derived.BigQuiet
import Derived.WideLaws
import Derived.Deep.DeepCutAuto
import Derived.Deep.CutBlock
import Derived.Deep.RegionHeld3
import Derived.Laws.Rows
import Derived.Lib.AppendStr
import Derived.ArgAppend
import Derived.Laws.IdiomCopy
import Derived.OrdersHeld
import Derived.Laws.BitsLemmas
import Derived.RowKit
import Derived.Lib.AppendZeros
import Derived.Test.YtchmbcembbbplaaZBorderSh
import Derived.Test.YtchmbcembbbplaaZBorderWWords
import Derived.Test.YtchmbcembbbplaaZBorderWLast
import Derived.Test.YtchmbcembbbplaaZBorderWTab
import Derived.Test.YtchmbcembbbplaaZBorderWFour
import Derived.Test.YtchmbcembbbplaaZBorderWQPut
import Derived.Test.YtchmbcembbbplaaZBorderWApart
import Derived.Test.YtchmbcembbbplaaZBorderWArr
import Derived.Test.YtchmbcembbbplaaZBorderWZeros
import Derived.Test.YtchmbcembbbplaaZBorderWFoot
import Derived.Test.YtchmbcembbbplaaZBorderWKept
import Derived.Test.YtchmbcembbbplaaZBorderWShare
import Derived.Test.YtchmbcembbbplaaZBorderWN
import Derived.Test.YtchmbcembbbplaaZBorderWFootNe
import Derived.Test.YtchmbcembbbplaaZBorderWAt
import Derived.Test.YtchmbcembbbplaaZBorderWEqStruct
import Derived.Test.YtchmbcembbbplaaZBorderWRepsOne
import Derived.Test.YtchmbcembbbplaaZBorderWInv
import Derived.Test.YtchmbcembbbplaaZBorderWInvWords
import Derived.Test.YtchmbcembbbplaaZBorderWGuard
import Derived.Test.YtchmbcembbbplaaZBorderWNEv
import Derived.Test.YtchmbcembbbplaaZBorderWMore
namespace Go.Proofs.Ytchmbcembbbplaa.MFnExactBorder
open Go.RowKit Go.Proofs.YtchmbcembbbplaaW.PrintWords Go.Proofs.YtchmbcembbbplaaW.PrintLast Go.Proofs.YtchmbcembbbplaaW.PrintMore
attribute [local go_sem] max2_int min2_int max_two min_two max_three min_three max_four min_four   -- for this text's walks alone
set_option linter.unusedVariables false
set_option linter.unusedSimpArgs false
def errW : Option Int → Value
  | none => .nilIface
  | some c => .iface 0 (.int .i64 c)
theorem errW_none : errW none = .nilIface := rfl
theorem errW_some (c : Int) : errW (some c) = .iface 0 (.int .i64 c) := rfl
theorem info3 : (Try.prog.info? 3).map (fun i => (i.zero, i.size, i.bytes)) = some (some (.int .i64 0), 1, 8) := by kernel_rfl
end Go.Proofs.Ytchmbcembbbplaa.MFnExactBorder
