-- Written by a changed copy of the kit's printer (wip/mp.py of this repo), for this claim; Lean checks it.
import Derived.Test.YtgmhjinlpikpjaeDoorProg
import Derived.Below
import Derived.Deep.Draws
import Derived.Deep.AppendLies
import Derived.Maps.AppendAt
import Derived.OwnWalk
import Derived.Laws.BytesArg
import Derived.Laws.MakeOwn
import Derived.Laws.OwnMore
import Derived.Deep.OwnRows
import Derived.Tactics
import Derived.Lib.ConvBytes
import Derived.Laws.Slices
import Derived.WalkKit
import Derived.KernelRfl
import Derived.RowKit3
import Derived.Deep.LoopGhost
import Derived.Deep.QuietTactic
import Derived.BigQuiet
import Derived.WideLaws
import Derived.Deep.DeepCutAuto
import Derived.Deep.CutBlock
import Derived.Deep.RegionHeld3
import Derived.Laws.Rows
import Derived.Lib.AppendStr
import Derived.ArgAppend
import Derived.Laws.IdiomCopy
import Derived.OrdersHeld
import Derived.Laws.BitsLemmas
import Derived.RowKit
import Derived.Test.YtgmhjinlpikpjaeDoorWWords
import Derived.Test.YtgmhjinlpikpjaeDoorWLast
import Derived.Test.YtgmhjinlpikpjaeDoorWTab
import Derived.Test.YtgmhjinlpikpjaeDoorWFour
import Derived.Test.YtgmhjinlpikpjaeDoorWQPut
import Derived.Test.YtgmhjinlpikpjaeDoorWApart
import Derived.Test.YtgmhjinlpikpjaeDoorWArr
import Derived.Test.YtgmhjinlpikpjaeDoorWZeros
import Derived.Test.YtgmhjinlpikpjaeDoorWFoot
import Derived.Test.YtgmhjinlpikpjaeDoorWKept
import Derived.Test.YtgmhjinlpikpjaeDoorWShare
import Derived.Test.YtgmhjinlpikpjaeDoorWN
import Derived.Test.YtgmhjinlpikpjaeDoorWFootNe
import Derived.Test.YtgmhjinlpikpjaeDoorWAt
import Derived.Test.YtgmhjinlpikpjaeDoorWEqStruct
import Derived.Test.YtgmhjinlpikpjaeDoorWRepsOne
import Derived.Test.YtgmhjinlpikpjaeDoorWInv
import Derived.Test.YtgmhjinlpikpjaeDoorWInvWords
import Derived.Test.YtgmhjinlpikpjaeDoorWGuard
import Derived.Test.YtgmhjinlpikpjaeDoorWNEv
import Derived.Test.YtgmhjinlpikpjaeDoorWMore
namespace Go.Proofs.YtgmhjinlpikpjaeDoor.QFnExactSlotName
open Go.RowKit Go.Proofs.YtgmhjinlpikpjaeDoorW.PrintWords Go.Proofs.YtgmhjinlpikpjaeDoorW.PrintLast Go.Proofs.YtgmhjinlpikpjaeDoorW.PrintMore
attribute [local go_sem] max2_int min2_int max_two min_two max_three min_three max_four min_four   -- for this text's walks alone
set_option linter.unusedVariables false
set_option linter.unusedSimpArgs false



def errW : Option Int → Value
  | none => .nilIface
  | some c => .iface 0 (.int .i64 c)
theorem errW_none : errW none = .nilIface := rfl
theorem errW_some (c : Int) : errW (some c) = .iface 0 (.int .i64 c) := rfl

theorem info5 : (Tryd.prog.info? 5).map (fun i => (i.zero, i.size, i.bytes)) = some (some (.int .u8 0), 1, 1) := by kernel_rfl
-- the values' own types

end Go.Proofs.YtgmhjinlpikpjaeDoor.QFnExactSlotName
