-- Written by a changed copy of the kit's printer (wip/mp.py of this repo), for this claim; Lean checks it.
import Derived.Test.YtgmhjinlpikpjadQFnExactCellsOfx0
import Derived.Test.YtgmhjinlpikpjadQFnExactCellsOfx1
import Derived.Test.YtgmhjinlpikpjadQFnExactCellsOfx2
import Derived.Test.YtgmhjinlpikpjadQFnExactCellsOfx3
import Derived.Test.YtgmhjinlpikpjadQFnExactCellsOfx4
import Derived.Test.YtgmhjinlpikpjadQFnExactCellsOfx5
import Derived.Test.YtgmhjinlpikpjadQFnExactCellsOfx6
import Derived.Test.YtgmhjinlpikpjadQFnExactCellsOfx7
import Derived.Test.YtgmhjinlpikpjadQFnExactCellsOfx8
import Derived.Test.YtgmhjinlpikpjadQFnExactCellsOfx9
namespace Go.Proofs.Ytgmhjinlpikpjad.QFnExactCellsOf
open Go.RowKit Go.Proofs.YtgmhjinlpikpjadW.PrintWords Go.Proofs.YtgmhjinlpikpjadW.PrintLast Go.Proofs.YtgmhjinlpikpjadW.PrintMore
attribute [local go_sem] max2_int min2_int max_two min_two max_three min_three max_four min_four   -- for this text's walks alone
set_option linter.unusedVariables false
set_option linter.unusedSimpArgs false

end Go.Proofs.Ytgmhjinlpikpjad.QFnExactCellsOf
