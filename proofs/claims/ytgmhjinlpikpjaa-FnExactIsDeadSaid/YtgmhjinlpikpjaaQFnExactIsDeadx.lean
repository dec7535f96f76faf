-- Written by a changed copy of the kit's printer (wip/mp.py of this repo), for this claim; Lean checks it.
import Derived.Test.YtgmhjinlpikpjaaQFnExactIsDeadx0
import Derived.Test.YtgmhjinlpikpjaaQFnExactIsDeadx1
import Derived.Test.YtgmhjinlpikpjaaQFnExactIsDeadx2
namespace Go.Proofs.Ytgmhjinlpikpjaa.QFnExactIsDead
open Go.RowKit Go.Proofs.YtgmhjinlpikpjaaW.PrintWords Go.Proofs.YtgmhjinlpikpjaaW.PrintLast Go.Proofs.YtgmhjinlpikpjaaW.PrintMore
attribute [local go_sem] max2_int min2_int max_two min_two max_three min_three max_four min_four   -- for this text's walks alone
set_option linter.unusedVariables false
set_option linter.unusedSimpArgs false

end Go.Proofs.Ytgmhjinlpikpjaa.QFnExactIsDead
