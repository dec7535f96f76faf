-- A copy of the printed words, cut to what this claim names (wip/shrink.py).
import Derived.Test.YtodcckiphdnjeaaVApart
import Derived.Test.YtodcckiphdnjeaaVArr
namespace Go.Proofs.YtodcckiphdnjeaaW.PrintWords
open Go.RowKit
namespace Kd
section
variable {α : Type} {d : Kd α} {e base g n c : Nat} {ok : Nat → Prop} {w w0 W : World} {A : Option Addr} {xs : List α}
end
end Kd
end Go.Proofs.YtodcckiphdnjeaaW.PrintWords
