-- A copy of the printed words, cut to what this claim names (wip/shrink.py).
import Derived.Test.YtodcckiphdnjeabVInv
import Derived.Test.YtodcckiphdnjeabVFootNe
namespace Go.Proofs.YtodcckiphdnjeabW.PrintWords
open Go.RowKit
end Go.Proofs.YtodcckiphdnjeabW.PrintWords
namespace Go.Proofs.YtodcckiphdnjeabW.PrintLast
section
variable {ops : Array Oper} {a : Act} {o og : Oper} {g : Nat} {t : Tmp} {u : Bool}
end
end Go.Proofs.YtodcckiphdnjeabW.PrintLast
