-- Written by a changed copy of the kit's printer (wip/mp.py of this repo), for this claim; Lean checks it.
import Derived.Test.YtgmhjinlpikpjadQFnExactUncheckedInx0
import Derived.Test.YtgmhjinlpikpjadQFnExactUncheckedInx1
import Derived.Test.YtgmhjinlpikpjadQFnExactUncheckedInx2
import Derived.Test.YtgmhjinlpikpjadQFnExactUncheckedInx3
import Derived.Test.YtgmhjinlpikpjadQFnExactUncheckedInx4
import Derived.Test.YtgmhjinlpikpjadQFnExactUncheckedInx5
import Derived.Test.YtgmhjinlpikpjadQFnExactUncheckedInx6
import Derived.Test.YtgmhjinlpikpjadQFnExactUncheckedInx7
import Derived.Test.YtgmhjinlpikpjadQFnExactUncheckedInx8
import Derived.Test.YtgmhjinlpikpjadQFnExactUncheckedInx9
namespace Go.Proofs.Ytgmhjinlpikpjad.QFnExactUncheckedIn
open Go.RowKit Go.Proofs.YtgmhjinlpikpjadW.PrintWords Go.Proofs.YtgmhjinlpikpjadW.PrintLast Go.Proofs.YtgmhjinlpikpjadW.PrintMore
attribute [local go_sem] max2_int min2_int max_two min_two max_three min_three max_four min_four   -- for this text's walks alone
set_option linter.unusedVariables false
set_option linter.unusedSimpArgs false

end Go.Proofs.Ytgmhjinlpikpjad.QFnExactUncheckedIn
