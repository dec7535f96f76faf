-- Written by a changed copy of the kit's printer (wip/mp.py of this repo), for this claim; Lean checks it.
import Derived.Test.YtodcckiphdnjeaaQFnFilledx0
import Derived.Test.YtodcckiphdnjeaaQFnFilledx1
import Derived.Test.YtodcckiphdnjeaaQFnFilledx2
import Derived.Test.YtodcckiphdnjeaaQFnFilledx3
import Derived.Test.YtodcckiphdnjeaaQFnFilledx4
import Derived.Test.YtodcckiphdnjeaaQFnFilledx5
import Derived.Test.YtodcckiphdnjeaaQFnFilledx6
import Derived.Test.YtodcckiphdnjeaaQFnFilledx7
import Derived.Test.YtodcckiphdnjeaaQFnFilledx8
import Derived.Test.YtodcckiphdnjeaaQFnFilledx9
import Derived.Test.YtodcckiphdnjeaaQFnFilledx10
import Derived.Test.YtodcckiphdnjeaaQFnFilledx11
import Derived.Test.YtodcckiphdnjeaaQFnFilledx12
import Derived.Test.YtodcckiphdnjeaaQFnFilledx13
import Derived.Test.YtodcckiphdnjeaaQFnFilledx14
import Derived.Test.YtodcckiphdnjeaaQFnFilledx15
import Derived.Test.YtodcckiphdnjeaaQFnFilledx16
import Derived.Test.YtodcckiphdnjeaaQFnFilledx17
import Derived.Test.YtodcckiphdnjeaaQFnFilledx18
import Derived.Test.YtodcckiphdnjeaaQFnFilledx19
import Derived.Test.YtodcckiphdnjeaaQFnFilledx20
import Derived.Test.YtodcckiphdnjeaaQFnFilledx21
namespace Go.Proofs.Ytodcckiphdnjeaa.QFnFilled
open Go.RowKit Go.Proofs.YtodcckiphdnjeaaW.PrintWords Go.Proofs.YtodcckiphdnjeaaW.PrintLast Go.Proofs.YtodcckiphdnjeaaW.PrintMore
attribute [local go_sem] max2_int min2_int max_two min_two max_three min_three max_four min_four   -- for this text's walks alone
set_option linter.unusedVariables false
set_option linter.unusedSimpArgs false

end Go.Proofs.Ytodcckiphdnjeaa.QFnFilled
