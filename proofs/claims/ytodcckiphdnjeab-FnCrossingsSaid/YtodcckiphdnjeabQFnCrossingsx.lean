-- Written by a changed copy of the kit's printer (wip/mp.py of this repo), for this claim; Lean checks it.
import Derived.Test.YtodcckiphdnjeabQFnCrossingsx0
import Derived.Test.YtodcckiphdnjeabQFnCrossingsx1
import Derived.Test.YtodcckiphdnjeabQFnCrossingsx2
import Derived.Test.YtodcckiphdnjeabQFnCrossingsx3
import Derived.Test.YtodcckiphdnjeabQFnCrossingsx4
import Derived.Test.YtodcckiphdnjeabQFnCrossingsx5
import Derived.Test.YtodcckiphdnjeabQFnCrossingsx6
import Derived.Test.YtodcckiphdnjeabQFnCrossingsx7
import Derived.Test.YtodcckiphdnjeabQFnCrossingsx8
import Derived.Test.YtodcckiphdnjeabQFnCrossingsx9
namespace Go.Proofs.Ytodcckiphdnjeab.QFnCrossings
open Go.RowKit Go.Proofs.YtodcckiphdnjeabW.PrintWords Go.Proofs.YtodcckiphdnjeabW.PrintLast Go.Proofs.YtodcckiphdnjeabW.PrintMore
attribute [local go_sem] max2_int min2_int max_two min_two max_three min_three max_four min_four   -- for this text's walks alone
set_option linter.unusedVariables false
set_option linter.unusedSimpArgs false

end Go.Proofs.Ytodcckiphdnjeab.QFnCrossings
