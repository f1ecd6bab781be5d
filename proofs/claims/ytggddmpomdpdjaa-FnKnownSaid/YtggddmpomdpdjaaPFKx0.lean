-- Made by myprint.py (this session's program, over the kit's print) for this claim. Lean checks it.
import Derived.Test.YtggddmpomdpdjaaProg
import Derived.Below
import Derived.Deep.Draws
import Derived.Deep.AppendLies
import Derived.Maps.AppendAt
import Derived.OwnWalk
import Derived.Laws.BytesArg
import Derived.Laws.MakeOwn
import Derived.Laws.OwnMore
import Derived.Deep.OwnRows
import Derived.Tactics
import Derived.Lib.ConvBytes
import Derived.Laws.Slices
import Derived.WalkKit
import Derived.KernelRfl
import Derived.RowKit3
import Derived.Deep.LoopGhost
import Derived.Deep.QuietTactic
import Derived.BigQuiet
import Derived.WideLaws
import Derived.Deep.DeepCutAuto
import Derived.Deep.CutBlock
import Derived.Deep.RegionHeld3
import Derived.Laws.Rows
import Derived.Lib.AppendStr
import Derived.ArgAppend
import Derived.Laws.IdiomCopy
import Derived.OrdersHeld
import Derived.Laws.BitsLemmas
import Derived.RowKit
import Derived.Test.YtggddmpomdpdjaaWWords
import Derived.Test.YtggddmpomdpdjaaWLast
import Derived.Test.YtggddmpomdpdjaaWTab
import Derived.Test.YtggddmpomdpdjaaWFour
import Derived.Test.YtggddmpomdpdjaaWQPut
import Derived.Test.YtggddmpomdpdjaaWApart
import Derived.Test.YtggddmpomdpdjaaWArr
import Derived.Test.YtggddmpomdpdjaaWZeros
import Derived.Test.YtggddmpomdpdjaaWFoot
import Derived.Test.YtggddmpomdpdjaaWKept
import Derived.Test.YtggddmpomdpdjaaWShare
import Derived.Test.YtggddmpomdpdjaaWN
import Derived.Test.YtggddmpomdpdjaaWFootNe
import Derived.Test.YtggddmpomdpdjaaWAt
import Derived.Test.YtggddmpomdpdjaaWEqStruct
import Derived.Test.YtggddmpomdpdjaaWRepsOne
import Derived.Test.YtggddmpomdpdjaaWInv
import Derived.Test.YtggddmpomdpdjaaWInvWords
import Derived.Test.YtggddmpomdpdjaaWGuard
import Derived.Test.YtggddmpomdpdjaaWNEv
import Derived.Test.YtggddmpomdpdjaaWMore
import Derived.Test.YtggddmpomdpdjaaShort
namespace Go.Proofs.Ytggddmpomdpdjaa.PFK
open Go.RowKit Go.Proofs.YtggddmpomdpdjaaW.PrintWords Go.Proofs.YtggddmpomdpdjaaW.PrintLast Go.Proofs.YtggddmpomdpdjaaW.PrintMore
attribute [local go_sem] max2_int min2_int max_two min_two max_three min_three max_four min_four   -- for this text's walks alone
set_option linter.unusedVariables false
set_option linter.unusedSimpArgs false



def errW : Option Int → Value
  | none => .nilIface
  | some c => .iface 0 (.int .i64 c)
theorem errW_none : errW none = .nilIface := rfl
theorem errW_some (c : Int) : errW (some c) = .iface 0 (.int .i64 c) := rfl

theorem info3 : (Try.prog.info? 3).map (fun i => (i.zero, i.size, i.bytes)) = some (some (.int .i64 0), 1, 8) := by kernel_rfl
-- the values' own types

end Go.Proofs.Ytggddmpomdpdjaa.PFK
