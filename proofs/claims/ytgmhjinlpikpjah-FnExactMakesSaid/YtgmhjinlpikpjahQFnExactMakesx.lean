-- Written by a changed copy of the kit's printer (wip/mp.py of this repo), for this claim; Lean checks it.
import Derived.Test.YtgmhjinlpikpjahQFnExactMakesx0
import Derived.Test.YtgmhjinlpikpjahQFnExactMakesx1
import Derived.Test.YtgmhjinlpikpjahQFnExactMakesx2
import Derived.Test.YtgmhjinlpikpjahQFnExactMakesx3
import Derived.Test.YtgmhjinlpikpjahQFnExactMakesx4
import Derived.Test.YtgmhjinlpikpjahQFnExactMakesx5
import Derived.Test.YtgmhjinlpikpjahQFnExactMakesx6
import Derived.Test.YtgmhjinlpikpjahQFnExactMakesx7
import Derived.Test.YtgmhjinlpikpjahQFnExactMakesx8
import Derived.Test.YtgmhjinlpikpjahQFnExactMakesx9
import Derived.Test.YtgmhjinlpikpjahQFnExactMakesx10
namespace Go.Proofs.Ytgmhjinlpikpjah.QFnExactMakes
open Go.RowKit Go.Proofs.YtgmhjinlpikpjahW.PrintWords Go.Proofs.YtgmhjinlpikpjahW.PrintLast Go.Proofs.YtgmhjinlpikpjahW.PrintMore
attribute [local go_sem] max2_int min2_int max_two min_two max_three min_three max_four min_four   -- for this text's walks alone
set_option linter.unusedVariables false
set_option linter.unusedSimpArgs false

end Go.Proofs.Ytgmhjinlpikpjah.QFnExactMakes
