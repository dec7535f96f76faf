-- A copy of the printed words, cut to what this claim names (wip/shrink.py).
import Derived.Test.YtodcckiphdnjeabDoorVInv
import Derived.Test.YtodcckiphdnjeabDoorVFootNe
namespace Go.Proofs.YtodcckiphdnjeabDoorW.PrintWords
open Go.RowKit
end Go.Proofs.YtodcckiphdnjeabDoorW.PrintWords
namespace Go.Proofs.YtodcckiphdnjeabDoorW.PrintLast
section
variable {ops : Array Oper} {a : Act} {o og : Oper} {g : Nat} {t : Tmp} {u : Bool}
end
end Go.Proofs.YtodcckiphdnjeabDoorW.PrintLast
