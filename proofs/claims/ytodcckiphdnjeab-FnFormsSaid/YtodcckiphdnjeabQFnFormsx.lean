-- Written by a changed copy of the kit's printer (wip/mp.py of this repo), for this claim; Lean checks it.
import Derived.Test.YtodcckiphdnjeabQFnFormsx0
import Derived.Test.YtodcckiphdnjeabQFnFormsx1
import Derived.Test.YtodcckiphdnjeabQFnFormsx2
import Derived.Test.YtodcckiphdnjeabQFnFormsx3
import Derived.Test.YtodcckiphdnjeabQFnFormsx4
import Derived.Test.YtodcckiphdnjeabQFnFormsx5
import Derived.Test.YtodcckiphdnjeabQFnFormsx6
import Derived.Test.YtodcckiphdnjeabQFnFormsx7
import Derived.Test.YtodcckiphdnjeabQFnFormsx8
import Derived.Test.YtodcckiphdnjeabQFnFormsx9
import Derived.Test.YtodcckiphdnjeabQFnFormsx10
import Derived.Test.YtodcckiphdnjeabQFnFormsx11
import Derived.Test.YtodcckiphdnjeabQFnFormsx12
import Derived.Test.YtodcckiphdnjeabQFnFormsx13
namespace Go.Proofs.Ytodcckiphdnjeab.QFnForms
open Go.RowKit Go.Proofs.YtodcckiphdnjeabW.PrintWords Go.Proofs.YtodcckiphdnjeabW.PrintLast Go.Proofs.YtodcckiphdnjeabW.PrintMore
attribute [local go_sem] max2_int min2_int max_two min_two max_three min_three max_four min_four   -- for this text's walks alone
set_option linter.unusedVariables false
set_option linter.unusedSimpArgs false

end Go.Proofs.Ytodcckiphdnjeab.QFnForms
