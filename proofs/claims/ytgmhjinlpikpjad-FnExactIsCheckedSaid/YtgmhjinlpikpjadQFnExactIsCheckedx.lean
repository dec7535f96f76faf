-- Written by a changed copy of the kit's printer (wip/mp.py of this repo), for this claim; Lean checks it.
import Derived.Test.YtgmhjinlpikpjadQFnExactIsCheckedx0
import Derived.Test.YtgmhjinlpikpjadQFnExactIsCheckedx1
import Derived.Test.YtgmhjinlpikpjadQFnExactIsCheckedx2
import Derived.Test.YtgmhjinlpikpjadQFnExactIsCheckedx3
import Derived.Test.YtgmhjinlpikpjadQFnExactIsCheckedx4
import Derived.Test.YtgmhjinlpikpjadQFnExactIsCheckedx5
import Derived.Test.YtgmhjinlpikpjadQFnExactIsCheckedx6
import Derived.Test.YtgmhjinlpikpjadQFnExactIsCheckedx7
namespace Go.Proofs.Ytgmhjinlpikpjad.QFnExactIsChecked
open Go.RowKit Go.Proofs.YtgmhjinlpikpjadW.PrintWords Go.Proofs.YtgmhjinlpikpjadW.PrintLast Go.Proofs.YtgmhjinlpikpjadW.PrintMore
attribute [local go_sem] max2_int min2_int max_two min_two max_three min_three max_four min_four   -- for this text's walks alone
set_option linter.unusedVariables false
set_option linter.unusedSimpArgs false

end Go.Proofs.Ytgmhjinlpikpjad.QFnExactIsChecked
