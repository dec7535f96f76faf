-- A copy of the printed words, cut to what this claim names (wip/shrink.py).
import Derived.Test.YtodcckiphdnjeaaVInv
import Derived.Test.YtodcckiphdnjeaaVFootNe
namespace Go.Proofs.YtodcckiphdnjeaaW.PrintWords
open Go.RowKit
end Go.Proofs.YtodcckiphdnjeaaW.PrintWords
namespace Go.Proofs.YtodcckiphdnjeaaW.PrintLast
section
variable {ops : Array Oper} {a : Act} {o og : Oper} {g : Nat} {t : Tmp} {u : Bool}
end
end Go.Proofs.YtodcckiphdnjeaaW.PrintLast
