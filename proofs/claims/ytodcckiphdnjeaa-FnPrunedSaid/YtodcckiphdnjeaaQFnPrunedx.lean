-- Written by a changed copy of the kit's printer (wip/mp.py of this repo), for this claim; Lean checks it.
import Derived.Test.YtodcckiphdnjeaaQFnPrunedx0
import Derived.Test.YtodcckiphdnjeaaQFnPrunedx1
import Derived.Test.YtodcckiphdnjeaaQFnPrunedx2
import Derived.Test.YtodcckiphdnjeaaQFnPrunedx3
import Derived.Test.YtodcckiphdnjeaaQFnPrunedx4
import Derived.Test.YtodcckiphdnjeaaQFnPrunedx5
import Derived.Test.YtodcckiphdnjeaaQFnPrunedx6
import Derived.Test.YtodcckiphdnjeaaQFnPrunedx7
import Derived.Test.YtodcckiphdnjeaaQFnPrunedx8
import Derived.Test.YtodcckiphdnjeaaQFnPrunedx9
import Derived.Test.YtodcckiphdnjeaaQFnPrunedx10
import Derived.Test.YtodcckiphdnjeaaQFnPrunedx11
import Derived.Test.YtodcckiphdnjeaaQFnPrunedx12
import Derived.Test.YtodcckiphdnjeaaQFnPrunedx13
import Derived.Test.YtodcckiphdnjeaaQFnPrunedx14
import Derived.Test.YtodcckiphdnjeaaQFnPrunedx15
import Derived.Test.YtodcckiphdnjeaaQFnPrunedx16
import Derived.Test.YtodcckiphdnjeaaQFnPrunedx17
import Derived.Test.YtodcckiphdnjeaaQFnPrunedx18
import Derived.Test.YtodcckiphdnjeaaQFnPrunedx19
import Derived.Test.YtodcckiphdnjeaaQFnPrunedx20
import Derived.Test.YtodcckiphdnjeaaQFnPrunedx21
import Derived.Test.YtodcckiphdnjeaaQFnPrunedx22
import Derived.Test.YtodcckiphdnjeaaQFnPrunedx23
import Derived.Test.YtodcckiphdnjeaaQFnPrunedx24
import Derived.Test.YtodcckiphdnjeaaQFnPrunedx25
import Derived.Test.YtodcckiphdnjeaaQFnPrunedx26
namespace Go.Proofs.Ytodcckiphdnjeaa.QFnPruned
open Go.RowKit Go.Proofs.YtodcckiphdnjeaaW.PrintWords Go.Proofs.YtodcckiphdnjeaaW.PrintLast Go.Proofs.YtodcckiphdnjeaaW.PrintMore
attribute [local go_sem] max2_int min2_int max_two min_two max_three min_three max_four min_four   -- for this text's walks alone
set_option linter.unusedVariables false
set_option linter.unusedSimpArgs false

end Go.Proofs.Ytodcckiphdnjeaa.QFnPruned
