-- What each Go function that this law reaches comes to: written by a program out of the translation.
import Derived.Test.YtckjofnldacpaaaProg
import Derived.Below
import Derived.Deep.Draws
import Derived.Deep.AppendLies
import Derived.Maps.AppendAt
import Derived.OwnWalk
import Derived.Laws.BytesArg
import Derived.Laws.MakeOwn
import Derived.Laws.OwnMore
import Derived.Deep.OwnRows
import Derived.Tactics
import Derived.Lib.ConvBytes
import Derived.Laws.Slices
import Derived.WalkKit
import Derived.KernelRfl
import Derived.RowKit3
import Derived.Deep.LoopGhost
import Derived.Deep.QuietTactic
import Derived.BigQuiet
import Derived.WideLaws
import Derived.Deep.DeepCutAuto
import Derived.Deep.CutBlock
import Derived.Deep.RegionHeld3
import Derived.Laws.Rows
import Derived.Lib.AppendStr
import Derived.ArgAppend
import Derived.Laws.IdiomCopy
import Derived.OrdersHeld
import Derived.Laws.BitsLemmas
import Derived.RowKit
import Derived.Test.YtckjofnldacpaaaWWords
import Derived.Test.YtckjofnldacpaaaWLast
import Derived.Test.YtckjofnldacpaaaWTab
import Derived.Test.YtckjofnldacpaaaWFour
import Derived.Test.YtckjofnldacpaaaWQPut
import Derived.Test.YtckjofnldacpaaaWApart
import Derived.Test.YtckjofnldacpaaaWArr
import Derived.Test.YtckjofnldacpaaaWZeros
import Derived.Test.YtckjofnldacpaaaWFoot
import Derived.Test.YtckjofnldacpaaaWKept
import Derived.Test.YtckjofnldacpaaaWShare
import Derived.Test.YtckjofnldacpaaaWN
import Derived.Test.YtckjofnldacpaaaWFootNe
import Derived.Test.YtckjofnldacpaaaWAt
import Derived.Test.YtckjofnldacpaaaWEqStruct
import Derived.Test.YtckjofnldacpaaaWRepsOne
import Derived.Test.YtckjofnldacpaaaWInv
import Derived.Test.YtckjofnldacpaaaWInvWords
import Derived.Test.YtckjofnldacpaaaWGuard
import Derived.Test.YtckjofnldacpaaaWNEv
import Derived.Test.YtckjofnldacpaaaWMore
namespace Go.Proofs.Ytckjofnldacpaaa.PFnExactPutText
open Go.RowKit Go.Proofs.YtckjofnldacpaaaW.PrintWords Go.Proofs.YtckjofnldacpaaaW.PrintLast Go.Proofs.YtckjofnldacpaaaW.PrintMore
attribute [local go_sem] max2_int min2_int max_two min_two max_three min_three max_four min_four   -- for this text's walks alone
set_option linter.unusedVariables false
set_option linter.unusedSimpArgs false



def errW : Option Int → Value
  | none => .nilIface
  | some c => .iface 0 (.int .i64 c)
theorem errW_none : errW none = .nilIface := rfl
theorem errW_some (c : Int) : errW (some c) = .iface 0 (.int .i64 c) := rfl

theorem info5 : (Try.prog.info? 5).map (fun i => (i.zero, i.size, i.bytes)) = some (some (.int .u8 0), 1, 1) := by kernel_rfl
-- the values' own types

end Go.Proofs.Ytckjofnldacpaaa.PFnExactPutText
