-- Written by a changed copy of the kit's printer (wip/mp.py of this repo), for this claim; Lean checks it.
import Derived.Test.YtodcckiphdnjeaaQFnExactFillsOfx0
import Derived.Test.YtodcckiphdnjeaaQFnExactFillsOfx1
import Derived.Test.YtodcckiphdnjeaaQFnExactFillsOfx2
import Derived.Test.YtodcckiphdnjeaaQFnExactFillsOfx3
import Derived.Test.YtodcckiphdnjeaaQFnExactFillsOfx4
import Derived.Test.YtodcckiphdnjeaaQFnExactFillsOfx5
import Derived.Test.YtodcckiphdnjeaaQFnExactFillsOfx6
import Derived.Test.YtodcckiphdnjeaaQFnExactFillsOfx7
import Derived.Test.YtodcckiphdnjeaaQFnExactFillsOfx8
import Derived.Test.YtodcckiphdnjeaaQFnExactFillsOfx9
import Derived.Test.YtodcckiphdnjeaaQFnExactFillsOfx10
import Derived.Test.YtodcckiphdnjeaaQFnExactFillsOfx11
import Derived.Test.YtodcckiphdnjeaaQFnExactFillsOfx12
import Derived.Test.YtodcckiphdnjeaaQFnExactFillsOfx13
import Derived.Test.YtodcckiphdnjeaaQFnExactFillsOfx14
import Derived.Test.YtodcckiphdnjeaaQFnExactFillsOfx15
import Derived.Test.YtodcckiphdnjeaaQFnExactFillsOfx16
import Derived.Test.YtodcckiphdnjeaaQFnExactFillsOfx17
namespace Go.Proofs.Ytodcckiphdnjeaa.QFnExactFillsOf
open Go.RowKit Go.Proofs.YtodcckiphdnjeaaW.PrintWords Go.Proofs.YtodcckiphdnjeaaW.PrintLast Go.Proofs.YtodcckiphdnjeaaW.PrintMore
attribute [local go_sem] max2_int min2_int max_two min_two max_three min_three max_four min_four   -- for this text's walks alone
set_option linter.unusedVariables false
set_option linter.unusedSimpArgs false

end Go.Proofs.Ytodcckiphdnjeaa.QFnExactFillsOf
