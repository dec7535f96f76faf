-- A copy of the printed words, cut to what this claim names (wip/shrink.py).
import Derived.Test.YtodcckiphdnjeabVWords
namespace Go.Proofs.YtodcckiphdnjeabW.PrintWords
open Go.RowKit
section
variable {P : Program} {ops : Array Oper} {rest : List Oper} {o : Oper} {a : Act} {Q : Exit → Act → World → Prop} {W : World}
end
end Go.Proofs.YtodcckiphdnjeabW.PrintWords
