-- Written by a changed copy of the kit's printer (wip/mp.py of this repo), for this claim; Lean checks it.
import Derived.Test.YtgmhjinlpikpjaeDoorQFnExactEmptyFillx0
import Derived.Test.YtgmhjinlpikpjaeDoorQFnExactEmptyFillx1
import Derived.Test.YtgmhjinlpikpjaeDoorQFnExactEmptyFillx2
import Derived.Test.YtgmhjinlpikpjaeDoorQFnExactEmptyFillx3
namespace Go.Proofs.YtgmhjinlpikpjaeDoor.QFnExactEmptyFill
open Go.RowKit Go.Proofs.YtgmhjinlpikpjaeDoorW.PrintWords Go.Proofs.YtgmhjinlpikpjaeDoorW.PrintLast Go.Proofs.YtgmhjinlpikpjaeDoorW.PrintMore
attribute [local go_sem] max2_int min2_int max_two min_two max_three min_three max_four min_four   -- for this text's walks alone
set_option linter.unusedVariables false
set_option linter.unusedSimpArgs false

end Go.Proofs.YtgmhjinlpikpjaeDoor.QFnExactEmptyFill
