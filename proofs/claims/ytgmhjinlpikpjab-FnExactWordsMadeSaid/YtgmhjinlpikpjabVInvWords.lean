-- A copy of the printed words, cut to what this claim names (wip/shrink.py).
import Derived.Test.YtgmhjinlpikpjabVInv
import Derived.Test.YtgmhjinlpikpjabVFootNe
namespace Go.Proofs.YtgmhjinlpikpjabW.PrintWords
open Go.RowKit
end Go.Proofs.YtgmhjinlpikpjabW.PrintWords
namespace Go.Proofs.YtgmhjinlpikpjabW.PrintLast
section
variable {ops : Array Oper} {a : Act} {o og : Oper} {g : Nat} {t : Tmp} {u : Bool}
end
end Go.Proofs.YtgmhjinlpikpjabW.PrintLast
