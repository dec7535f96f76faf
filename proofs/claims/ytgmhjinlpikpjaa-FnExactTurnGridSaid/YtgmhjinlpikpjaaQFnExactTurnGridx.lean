-- Written by a changed copy of the kit's printer (wip/mp.py of this repo), for this claim; Lean checks it.
import Derived.Test.YtgmhjinlpikpjaaQFnExactTurnGridx0
import Derived.Test.YtgmhjinlpikpjaaQFnExactTurnGridx1
import Derived.Test.YtgmhjinlpikpjaaQFnExactTurnGridx2
import Derived.Test.YtgmhjinlpikpjaaQFnExactTurnGridx3
namespace Go.Proofs.Ytgmhjinlpikpjaa.QFnExactTurnGrid
open Go.RowKit Go.Proofs.YtgmhjinlpikpjaaW.PrintWords Go.Proofs.YtgmhjinlpikpjaaW.PrintLast Go.Proofs.YtgmhjinlpikpjaaW.PrintMore
attribute [local go_sem] max2_int min2_int max_two min_two max_three min_three max_four min_four   -- for this text's walks alone
set_option linter.unusedVariables false
set_option linter.unusedSimpArgs false

end Go.Proofs.Ytgmhjinlpikpjaa.QFnExactTurnGrid
