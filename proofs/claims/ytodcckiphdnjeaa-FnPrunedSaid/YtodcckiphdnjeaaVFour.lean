-- A copy of the printed words, cut to what this claim names (wip/shrink.py).
import Derived.Test.YtodcckiphdnjeaaVTab
namespace Go.Proofs.YtodcckiphdnjeaaW.PrintLast
section
variable {P : Program} {ops : Array Oper} {Q : Exit → Act → World → Prop} {md : Region.Mode} {S : World → Prop} {ds : List Nat} {T : Bool × List (List Nat × List Nat)}
end
end Go.Proofs.YtodcckiphdnjeaaW.PrintLast
