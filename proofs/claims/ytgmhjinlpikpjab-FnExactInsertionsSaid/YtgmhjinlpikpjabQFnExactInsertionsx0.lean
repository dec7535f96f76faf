-- Written by a changed copy of the kit's printer (wip/mp.py of this repo), for this claim; Lean checks it.
import Derived.Test.YtgmhjinlpikpjabProg
import Derived.Below
import Derived.Deep.Draws
import Derived.Deep.AppendLies
import Derived.Maps.AppendAt
import Derived.OwnWalk
import Derived.Laws.BytesArg
import Derived.Laws.MakeOwn
import Derived.Laws.OwnMore
import Derived.Deep.OwnRows
import Derived.Tactics
import Derived.Lib.ConvBytes
import Derived.Laws.Slices
import Derived.WalkKit
import Derived.KernelRfl
import Derived.RowKit3
import Derived.Deep.LoopGhost
import Derived.Deep.QuietTactic
import Derived.BigQuiet
import Derived.WideLaws
import Derived.Deep.DeepCutAuto
import Derived.Deep.CutBlock
import Derived.Deep.RegionHeld3
import Derived.Laws.Rows
import Derived.Lib.AppendStr
import Derived.ArgAppend
import Derived.Laws.IdiomCopy
import Derived.OrdersHeld
import Derived.Laws.BitsLemmas
import Derived.RowKit
import Derived.Test.YtgmhjinlpikpjabWWords
import Derived.Test.YtgmhjinlpikpjabWLast
import Derived.Test.YtgmhjinlpikpjabWTab
import Derived.Test.YtgmhjinlpikpjabWFour
import Derived.Test.YtgmhjinlpikpjabWQPut
import Derived.Test.YtgmhjinlpikpjabWApart
import Derived.Test.YtgmhjinlpikpjabWArr
import Derived.Test.YtgmhjinlpikpjabWZeros
import Derived.Test.YtgmhjinlpikpjabWFoot
import Derived.Test.YtgmhjinlpikpjabWKept
import Derived.Test.YtgmhjinlpikpjabWShare
import Derived.Test.YtgmhjinlpikpjabWN
import Derived.Test.YtgmhjinlpikpjabWFootNe
import Derived.Test.YtgmhjinlpikpjabWAt
import Derived.Test.YtgmhjinlpikpjabWEqStruct
import Derived.Test.YtgmhjinlpikpjabWRepsOne
import Derived.Test.YtgmhjinlpikpjabWInv
import Derived.Test.YtgmhjinlpikpjabWInvWords
import Derived.Test.YtgmhjinlpikpjabWGuard
import Derived.Test.YtgmhjinlpikpjabWNEv
import Derived.Test.YtgmhjinlpikpjabWMore
namespace Go.Proofs.Ytgmhjinlpikpjab.QFnExactInsertions
open Go.RowKit Go.Proofs.YtgmhjinlpikpjabW.PrintWords Go.Proofs.YtgmhjinlpikpjabW.PrintLast Go.Proofs.YtgmhjinlpikpjabW.PrintMore
attribute [local go_sem] max2_int min2_int max_two min_two max_three min_three max_four min_four   -- for this text's walks alone
set_option linter.unusedVariables false
set_option linter.unusedSimpArgs false



def errW : Option Int → Value
  | none => .nilIface
  | some c => .iface 0 (.int .i64 c)
theorem errW_none : errW none = .nilIface := rfl
theorem errW_some (c : Int) : errW (some c) = .iface 0 (.int .i64 c) := rfl

theorem info5 : (Try.prog.info? 5).map (fun i => (i.zero, i.size, i.bytes)) = some (some (.int .u8 0), 1, 1) := by kernel_rfl
theorem info9 : (Try.prog.info? 9).map (fun i => (i.zero, i.size, i.bytes)) = some (some (.string ⟨#[]⟩), 1, 16) := by kernel_rfl
-- the values' own types

end Go.Proofs.Ytgmhjinlpikpjab.QFnExactInsertions
