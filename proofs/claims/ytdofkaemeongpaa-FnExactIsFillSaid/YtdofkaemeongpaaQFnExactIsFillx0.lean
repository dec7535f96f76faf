-- Written by a changed copy of the kit's printer (wip/mp.py of this repo), for this claim; Lean checks it.
import Derived.Test.YtdofkaemeongpaaProg
import Derived.Below
import Derived.Deep.Draws
import Derived.Deep.AppendLies
import Derived.Maps.AppendAt
import Derived.OwnWalk
import Derived.Laws.BytesArg
import Derived.Laws.MakeOwn
import Derived.Laws.OwnMore
import Derived.Deep.OwnRows
import Derived.Tactics
import Derived.Lib.ConvBytes
import Derived.Laws.Slices
import Derived.WalkKit
import Derived.KernelRfl
import Derived.RowKit3
import Derived.Deep.LoopGhost
import Derived.Deep.QuietTactic
import Derived.BigQuiet
import Derived.WideLaws
import Derived.Deep.DeepCutAuto
import Derived.Deep.CutBlock
import Derived.Deep.RegionHeld3
import Derived.Laws.Rows
import Derived.Lib.AppendStr
import Derived.ArgAppend
import Derived.Laws.IdiomCopy
import Derived.OrdersHeld
import Derived.Laws.BitsLemmas
import Derived.RowKit
import Derived.Test.YtdofkaemeongpaaWWords
import Derived.Test.YtdofkaemeongpaaWLast
import Derived.Test.YtdofkaemeongpaaWTab
import Derived.Test.YtdofkaemeongpaaWFour
import Derived.Test.YtdofkaemeongpaaWQPut
import Derived.Test.YtdofkaemeongpaaWApart
import Derived.Test.YtdofkaemeongpaaWArr
import Derived.Test.YtdofkaemeongpaaWZeros
import Derived.Test.YtdofkaemeongpaaWFoot
import Derived.Test.YtdofkaemeongpaaWKept
import Derived.Test.YtdofkaemeongpaaWShare
import Derived.Test.YtdofkaemeongpaaWN
import Derived.Test.YtdofkaemeongpaaWFootNe
import Derived.Test.YtdofkaemeongpaaWAt
import Derived.Test.YtdofkaemeongpaaWEqStruct
import Derived.Test.YtdofkaemeongpaaWRepsOne
import Derived.Test.YtdofkaemeongpaaWInv
import Derived.Test.YtdofkaemeongpaaWInvWords
import Derived.Test.YtdofkaemeongpaaWGuard
import Derived.Test.YtdofkaemeongpaaWNEv
import Derived.Test.YtdofkaemeongpaaWMore
namespace Go.Proofs.Ytdofkaemeongpaa.QFnExactIsFill
open Go.RowKit Go.Proofs.YtdofkaemeongpaaW.PrintWords Go.Proofs.YtdofkaemeongpaaW.PrintLast Go.Proofs.YtdofkaemeongpaaW.PrintMore
attribute [local go_sem] max2_int min2_int max_two min_two max_three min_three max_four min_four   -- for this text's walks alone
set_option linter.unusedVariables false
set_option linter.unusedSimpArgs false



def errW : Option Int → Value
  | none => .nilIface
  | some c => .iface 0 (.int .i64 c)
theorem errW_none : errW none = .nilIface := rfl
theorem errW_some (c : Int) : errW (some c) = .iface 0 (.int .i64 c) := rfl

-- the values' own types

end Go.Proofs.Ytdofkaemeongpaa.QFnExactIsFill
