-- Made by myprint.py (this session's program, over the kit's print) for this claim. Lean checks it.
import Derived.Test.YtpjbemdbbjjblaaProg
import Derived.Below
import Derived.Deep.Draws
import Derived.Deep.AppendLies
import Derived.Maps.AppendAt
import Derived.OwnWalk
import Derived.Laws.BytesArg
import Derived.Laws.MakeOwn
import Derived.Laws.OwnMore
import Derived.Deep.OwnRows
import Derived.Tactics
import Derived.Lib.ConvBytes
import Derived.Laws.Slices
import Derived.WalkKit
import Derived.KernelRfl
import Derived.RowKit3
import Derived.Deep.LoopGhost
import Derived.Deep.QuietTactic
import Derived.BigQuiet
import Derived.WideLaws
import Derived.Deep.DeepCutAuto
import Derived.Deep.CutBlock
import Derived.Deep.RegionHeld3
import Derived.Laws.Rows
import Derived.Lib.AppendStr
import Derived.ArgAppend
import Derived.Laws.IdiomCopy
import Derived.OrdersHeld
import Derived.Laws.BitsLemmas
import Derived.RowKit
import Derived.Test.YtpjbemdbbjjblaaWWords
import Derived.Test.YtpjbemdbbjjblaaWLast
import Derived.Test.YtpjbemdbbjjblaaWTab
import Derived.Test.YtpjbemdbbjjblaaWFour
import Derived.Test.YtpjbemdbbjjblaaWQPut
import Derived.Test.YtpjbemdbbjjblaaWApart
import Derived.Test.YtpjbemdbbjjblaaWArr
import Derived.Test.YtpjbemdbbjjblaaWZeros
import Derived.Test.YtpjbemdbbjjblaaWFoot
import Derived.Test.YtpjbemdbbjjblaaWKept
import Derived.Test.YtpjbemdbbjjblaaWShare
import Derived.Test.YtpjbemdbbjjblaaWN
import Derived.Test.YtpjbemdbbjjblaaWFootNe
import Derived.Test.YtpjbemdbbjjblaaWAt
import Derived.Test.YtpjbemdbbjjblaaWEqStruct
import Derived.Test.YtpjbemdbbjjblaaWRepsOne
import Derived.Test.YtpjbemdbbjjblaaWInv
import Derived.Test.YtpjbemdbbjjblaaWInvWords
import Derived.Test.YtpjbemdbbjjblaaWGuard
import Derived.Test.YtpjbemdbbjjblaaWNEv
import Derived.Test.YtpjbemdbbjjblaaWMore
import Derived.Test.YtpjbemdbbjjblaaShort
namespace Go.Proofs.Ytpjbemdbbjjblaa.PMM
open Go.RowKit Go.Proofs.YtpjbemdbbjjblaaW.PrintWords Go.Proofs.YtpjbemdbbjjblaaW.PrintLast Go.Proofs.YtpjbemdbbjjblaaW.PrintMore
attribute [local go_sem] max2_int min2_int max_two min_two max_three min_three max_four min_four   -- for this text's walks alone
set_option linter.unusedVariables false
set_option linter.unusedSimpArgs false



def errW : Option Int → Value
  | none => .nilIface
  | some c => .iface 0 (.int .i64 c)
theorem errW_none : errW none = .nilIface := rfl
theorem errW_some (c : Int) : errW (some c) = .iface 0 (.int .i64 c) := rfl

theorem info3 : (Try.prog.info? 3).map (fun i => (i.zero, i.size, i.bytes)) = some (some (.int .i64 0), 1, 8) := by kernel_rfl
-- the values' own types

end Go.Proofs.Ytpjbemdbbjjblaa.PMM
