-- Written by a changed copy of the kit's printer (wip/mp.py of this repo), for this claim; Lean checks it.
import Derived.Test.YtgmhjinlpikpjaaQFnExactPartsOfx0
import Derived.Test.YtgmhjinlpikpjaaQFnExactPartsOfx1
import Derived.Test.YtgmhjinlpikpjaaQFnExactPartsOfx2
import Derived.Test.YtgmhjinlpikpjaaQFnExactPartsOfx3
import Derived.Test.YtgmhjinlpikpjaaQFnExactPartsOfx4
namespace Go.Proofs.Ytgmhjinlpikpjaa.QFnExactPartsOf
open Go.RowKit Go.Proofs.YtgmhjinlpikpjaaW.PrintWords Go.Proofs.YtgmhjinlpikpjaaW.PrintLast Go.Proofs.YtgmhjinlpikpjaaW.PrintMore
attribute [local go_sem] max2_int min2_int max_two min_two max_three min_three max_four min_four   -- for this text's walks alone
set_option linter.unusedVariables false
set_option linter.unusedSimpArgs false

end Go.Proofs.Ytgmhjinlpikpjaa.QFnExactPartsOf
