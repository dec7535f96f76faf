-- A copy of the printed words, cut to what this claim names (wip/shrink.py).
import Derived.Test.YtachbhggeibciaaVInv
import Derived.Test.YtachbhggeibciaaVFootNe
namespace Go.Proofs.YtachbhggeibciaaW.PrintWords
open Go.RowKit
end Go.Proofs.YtachbhggeibciaaW.PrintWords
namespace Go.Proofs.YtachbhggeibciaaW.PrintLast
section
variable {ops : Array Oper} {a : Act} {o og : Oper} {g : Nat} {t : Tmp} {u : Bool}
end
end Go.Proofs.YtachbhggeibciaaW.PrintLast
