-- Written by a changed copy of the kit's printer (wip/mp.py of this repo), for this claim; Lean checks it.
import Derived.Test.YtodcckiphdnjeabQFnPlaysx0
import Derived.Test.YtodcckiphdnjeabQFnPlaysx1
import Derived.Test.YtodcckiphdnjeabQFnPlaysx2
import Derived.Test.YtodcckiphdnjeabQFnPlaysx3
import Derived.Test.YtodcckiphdnjeabQFnPlaysx4
import Derived.Test.YtodcckiphdnjeabQFnPlaysx5
import Derived.Test.YtodcckiphdnjeabQFnPlaysx6
import Derived.Test.YtodcckiphdnjeabQFnPlaysx7
import Derived.Test.YtodcckiphdnjeabQFnPlaysx8
import Derived.Test.YtodcckiphdnjeabQFnPlaysx9
import Derived.Test.YtodcckiphdnjeabQFnPlaysx10
import Derived.Test.YtodcckiphdnjeabQFnPlaysx11
import Derived.Test.YtodcckiphdnjeabQFnPlaysx12
import Derived.Test.YtodcckiphdnjeabQFnPlaysx13
import Derived.Test.YtodcckiphdnjeabQFnPlaysx14
namespace Go.Proofs.Ytodcckiphdnjeab.QFnPlays
open Go.RowKit Go.Proofs.YtodcckiphdnjeabW.PrintWords Go.Proofs.YtodcckiphdnjeabW.PrintLast Go.Proofs.YtodcckiphdnjeabW.PrintMore
attribute [local go_sem] max2_int min2_int max_two min_two max_three min_three max_four min_four   -- for this text's walks alone
set_option linter.unusedVariables false
set_option linter.unusedSimpArgs false

end Go.Proofs.Ytodcckiphdnjeab.QFnPlays
