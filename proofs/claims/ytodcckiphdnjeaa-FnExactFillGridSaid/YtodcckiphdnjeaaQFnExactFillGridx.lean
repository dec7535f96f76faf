-- Written by a changed copy of the kit's printer (wip/mp.py of this repo), for this claim; Lean checks it.
import Derived.Test.YtodcckiphdnjeaaQFnExactFillGridx0
import Derived.Test.YtodcckiphdnjeaaQFnExactFillGridx1
import Derived.Test.YtodcckiphdnjeaaQFnExactFillGridx2
import Derived.Test.YtodcckiphdnjeaaQFnExactFillGridx3
import Derived.Test.YtodcckiphdnjeaaQFnExactFillGridx4
import Derived.Test.YtodcckiphdnjeaaQFnExactFillGridx5
import Derived.Test.YtodcckiphdnjeaaQFnExactFillGridx6
import Derived.Test.YtodcckiphdnjeaaQFnExactFillGridx7
import Derived.Test.YtodcckiphdnjeaaQFnExactFillGridx8
import Derived.Test.YtodcckiphdnjeaaQFnExactFillGridx9
import Derived.Test.YtodcckiphdnjeaaQFnExactFillGridx10
import Derived.Test.YtodcckiphdnjeaaQFnExactFillGridx11
import Derived.Test.YtodcckiphdnjeaaQFnExactFillGridx12
import Derived.Test.YtodcckiphdnjeaaQFnExactFillGridx13
import Derived.Test.YtodcckiphdnjeaaQFnExactFillGridx14
import Derived.Test.YtodcckiphdnjeaaQFnExactFillGridx15
import Derived.Test.YtodcckiphdnjeaaQFnExactFillGridx16
import Derived.Test.YtodcckiphdnjeaaQFnExactFillGridx17
namespace Go.Proofs.Ytodcckiphdnjeaa.QFnExactFillGrid
open Go.RowKit Go.Proofs.YtodcckiphdnjeaaW.PrintWords Go.Proofs.YtodcckiphdnjeaaW.PrintLast Go.Proofs.YtodcckiphdnjeaaW.PrintMore
attribute [local go_sem] max2_int min2_int max_two min_two max_three min_three max_four min_four   -- for this text's walks alone
set_option linter.unusedVariables false
set_option linter.unusedSimpArgs false

end Go.Proofs.Ytodcckiphdnjeaa.QFnExactFillGrid
