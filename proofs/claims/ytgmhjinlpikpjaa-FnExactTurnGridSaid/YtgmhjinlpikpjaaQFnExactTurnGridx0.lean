-- Written by a changed copy of the kit's printer (wip/mp.py of this repo), for this claim; Lean checks it.
import Derived.Test.YtgmhjinlpikpjaaProg
import Derived.Below
import Derived.Deep.Draws
import Derived.Deep.AppendLies
import Derived.Maps.AppendAt
import Derived.OwnWalk
import Derived.Laws.BytesArg
import Derived.Laws.MakeOwn
import Derived.Laws.OwnMore
import Derived.Deep.OwnRows
import Derived.Tactics
import Derived.Lib.ConvBytes
import Derived.Laws.Slices
import Derived.WalkKit
import Derived.KernelRfl
import Derived.RowKit3
import Derived.Deep.LoopGhost
import Derived.Deep.QuietTactic
import Derived.BigQuiet
import Derived.WideLaws
import Derived.Deep.DeepCutAuto
import Derived.Deep.CutBlock
import Derived.Deep.RegionHeld3
import Derived.Laws.Rows
import Derived.Lib.AppendStr
import Derived.ArgAppend
import Derived.Laws.IdiomCopy
import Derived.OrdersHeld
import Derived.Laws.BitsLemmas
import Derived.RowKit
import Derived.Sort.WalkB12
import Derived.Lib.SlicesMore
import Derived.Shelf.RegionOpenPlain
import Derived.Test.YtgmhjinlpikpjaaWWords
import Derived.Test.YtgmhjinlpikpjaaWLast
import Derived.Test.YtgmhjinlpikpjaaWTab
import Derived.Test.YtgmhjinlpikpjaaWFour
import Derived.Test.YtgmhjinlpikpjaaWQPut
import Derived.Test.YtgmhjinlpikpjaaWApart
import Derived.Test.YtgmhjinlpikpjaaWArr
import Derived.Test.YtgmhjinlpikpjaaWZeros
import Derived.Test.YtgmhjinlpikpjaaWFoot
import Derived.Test.YtgmhjinlpikpjaaWKept
import Derived.Test.YtgmhjinlpikpjaaWShare
import Derived.Test.YtgmhjinlpikpjaaWN
import Derived.Test.YtgmhjinlpikpjaaWFootNe
import Derived.Test.YtgmhjinlpikpjaaWAt
import Derived.Test.YtgmhjinlpikpjaaWEqStruct
import Derived.Test.YtgmhjinlpikpjaaWRepsOne
import Derived.Test.YtgmhjinlpikpjaaWInv
import Derived.Test.YtgmhjinlpikpjaaWInvWords
import Derived.Test.YtgmhjinlpikpjaaWGuard
import Derived.Test.YtgmhjinlpikpjaaWNEv
import Derived.Test.YtgmhjinlpikpjaaWMore
namespace Go.Proofs.Ytgmhjinlpikpjaa.QFnExactTurnGrid
open Go.RowKit Go.Proofs.YtgmhjinlpikpjaaW.PrintWords Go.Proofs.YtgmhjinlpikpjaaW.PrintLast Go.Proofs.YtgmhjinlpikpjaaW.PrintMore
attribute [local go_sem] max2_int min2_int max_two min_two max_three min_three max_four min_four   -- for this text's walks alone
set_option linter.unusedVariables false
set_option linter.unusedSimpArgs false



def errW : Option Int → Value
  | none => .nilIface
  | some c => .iface 0 (.int .i64 c)
theorem errW_none : errW none = .nilIface := rfl
theorem errW_some (c : Int) : errW (some c) = .iface 0 (.int .i64 c) := rfl

-- the values' own types

end Go.Proofs.Ytgmhjinlpikpjaa.QFnExactTurnGrid
