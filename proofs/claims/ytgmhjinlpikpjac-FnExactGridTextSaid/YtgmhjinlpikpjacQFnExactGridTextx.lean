-- Written by a changed copy of the kit's printer (wip/mp.py of this repo), for this claim; Lean checks it.
import Derived.Test.YtgmhjinlpikpjacQFnExactGridTextx0
import Derived.Test.YtgmhjinlpikpjacQFnExactGridTextx1
import Derived.Test.YtgmhjinlpikpjacQFnExactGridTextx2
namespace Go.Proofs.Ytgmhjinlpikpjac.QFnExactGridText
open Go.RowKit Go.Proofs.YtgmhjinlpikpjacW.PrintWords Go.Proofs.YtgmhjinlpikpjacW.PrintLast Go.Proofs.YtgmhjinlpikpjacW.PrintMore
attribute [local go_sem] max2_int min2_int max_two min_two max_three min_three max_four min_four   -- for this text's walks alone
set_option linter.unusedVariables false
set_option linter.unusedSimpArgs false

end Go.Proofs.Ytgmhjinlpikpjac.QFnExactGridText
