-- What each Go function that this law reaches comes to: written by a program out of the translation.
import Derived.Test.YtgmfpfmpnlgidaaProg
import Derived.Below
import Derived.Deep.Draws
import Derived.Deep.AppendLies
import Derived.Maps.AppendAt
import Derived.OwnWalk
import Derived.Laws.BytesArg
import Derived.Laws.MakeOwn
import Derived.Laws.OwnMore
import Derived.Deep.OwnRows
import Derived.Tactics
import Derived.Lib.ConvBytes
import Derived.Laws.Slices
import Derived.WalkKit
import Derived.KernelRfl
import Derived.RowKit3
import Derived.Deep.LoopGhost
import Derived.Deep.QuietTactic
import Derived.BigQuiet
import Derived.WideLaws
import Derived.Deep.DeepCutAuto
import Derived.Deep.CutBlock
import Derived.Deep.RegionHeld3
import Derived.Laws.Rows
import Derived.Lib.AppendStr
import Derived.ArgAppend
import Derived.Laws.IdiomCopy
import Derived.OrdersHeld
import Derived.Laws.BitsLemmas
import Derived.RowKit
import Derived.Test.YtgmfpfmpnlgidaaWWords
import Derived.Test.YtgmfpfmpnlgidaaWLast
import Derived.Test.YtgmfpfmpnlgidaaWTab
import Derived.Test.YtgmfpfmpnlgidaaWFour
import Derived.Test.YtgmfpfmpnlgidaaWQPut
import Derived.Test.YtgmfpfmpnlgidaaWApart
import Derived.Test.YtgmfpfmpnlgidaaWArr
import Derived.Test.YtgmfpfmpnlgidaaWZeros
import Derived.Test.YtgmfpfmpnlgidaaWFoot
import Derived.Test.YtgmfpfmpnlgidaaWKept
import Derived.Test.YtgmfpfmpnlgidaaWShare
import Derived.Test.YtgmfpfmpnlgidaaWN
import Derived.Test.YtgmfpfmpnlgidaaWFootNe
import Derived.Test.YtgmfpfmpnlgidaaWAt
import Derived.Test.YtgmfpfmpnlgidaaWEqStruct
import Derived.Test.YtgmfpfmpnlgidaaWRepsOne
import Derived.Test.YtgmfpfmpnlgidaaWInv
import Derived.Test.YtgmfpfmpnlgidaaWInvWords
import Derived.Test.YtgmfpfmpnlgidaaWGuard
import Derived.Test.YtgmfpfmpnlgidaaWNEv
import Derived.Test.YtgmfpfmpnlgidaaWMore
namespace Go.Proofs.Ytgmfpfmpnlgidaa.PFnExactEntryRead
open Go.RowKit Go.Proofs.YtgmfpfmpnlgidaaW.PrintWords Go.Proofs.YtgmfpfmpnlgidaaW.PrintLast Go.Proofs.YtgmfpfmpnlgidaaW.PrintMore
attribute [local go_sem] max2_int min2_int max_two min_two max_three min_three max_four min_four   -- for this text's walks alone
set_option linter.unusedVariables false
set_option linter.unusedSimpArgs false



def errW : Option Int → Value
  | none => .nilIface
  | some c => .iface 0 (.int .i64 c)
theorem errW_none : errW none = .nilIface := rfl
theorem errW_some (c : Int) : errW (some c) = .iface 0 (.int .i64 c) := rfl

theorem info5 : (Try.prog.info? 5).map (fun i => (i.zero, i.size, i.bytes)) = some (some (.int .u8 0), 1, 1) := by kernel_rfl
-- the values' own types

end Go.Proofs.Ytgmfpfmpnlgidaa.PFnExactEntryRead
