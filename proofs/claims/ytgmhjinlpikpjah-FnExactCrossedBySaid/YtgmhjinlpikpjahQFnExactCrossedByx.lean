-- Written by a changed copy of the kit's printer (wip/mp.py of this repo), for this claim; Lean checks it.
import Derived.Test.YtgmhjinlpikpjahQFnExactCrossedByx0
import Derived.Test.YtgmhjinlpikpjahQFnExactCrossedByx1
import Derived.Test.YtgmhjinlpikpjahQFnExactCrossedByx2
import Derived.Test.YtgmhjinlpikpjahQFnExactCrossedByx3
import Derived.Test.YtgmhjinlpikpjahQFnExactCrossedByx4
import Derived.Test.YtgmhjinlpikpjahQFnExactCrossedByx5
import Derived.Test.YtgmhjinlpikpjahQFnExactCrossedByx6
import Derived.Test.YtgmhjinlpikpjahQFnExactCrossedByx7
import Derived.Test.YtgmhjinlpikpjahQFnExactCrossedByx8
import Derived.Test.YtgmhjinlpikpjahQFnExactCrossedByx9
import Derived.Test.YtgmhjinlpikpjahQFnExactCrossedByx10
import Derived.Test.YtgmhjinlpikpjahQFnExactCrossedByx11
namespace Go.Proofs.Ytgmhjinlpikpjah.QFnExactCrossedBy
open Go.RowKit Go.Proofs.YtgmhjinlpikpjahW.PrintWords Go.Proofs.YtgmhjinlpikpjahW.PrintLast Go.Proofs.YtgmhjinlpikpjahW.PrintMore
attribute [local go_sem] max2_int min2_int max_two min_two max_three min_three max_four min_four   -- for this text's walks alone
set_option linter.unusedVariables false
set_option linter.unusedSimpArgs false

end Go.Proofs.Ytgmhjinlpikpjah.QFnExactCrossedBy
