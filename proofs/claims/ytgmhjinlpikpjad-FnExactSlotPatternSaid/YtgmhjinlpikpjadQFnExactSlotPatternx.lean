-- Written by a changed copy of the kit's printer (wip/mp.py of this repo), for this claim; Lean checks it.
import Derived.Test.YtgmhjinlpikpjadQFnExactSlotPatternx0
import Derived.Test.YtgmhjinlpikpjadQFnExactSlotPatternx1
import Derived.Test.YtgmhjinlpikpjadQFnExactSlotPatternx2
import Derived.Test.YtgmhjinlpikpjadQFnExactSlotPatternx3
import Derived.Test.YtgmhjinlpikpjadQFnExactSlotPatternx4
import Derived.Test.YtgmhjinlpikpjadQFnExactSlotPatternx5
import Derived.Test.YtgmhjinlpikpjadQFnExactSlotPatternx6
import Derived.Test.YtgmhjinlpikpjadQFnExactSlotPatternx7
import Derived.Test.YtgmhjinlpikpjadQFnExactSlotPatternx8
import Derived.Test.YtgmhjinlpikpjadQFnExactSlotPatternx9
import Derived.Test.YtgmhjinlpikpjadQFnExactSlotPatternx10
namespace Go.Proofs.Ytgmhjinlpikpjad.QFnExactSlotPattern
open Go.RowKit Go.Proofs.YtgmhjinlpikpjadW.PrintWords Go.Proofs.YtgmhjinlpikpjadW.PrintLast Go.Proofs.YtgmhjinlpikpjadW.PrintMore
attribute [local go_sem] max2_int min2_int max_two min_two max_three min_three max_four min_four   -- for this text's walks alone
set_option linter.unusedVariables false
set_option linter.unusedSimpArgs false

end Go.Proofs.Ytgmhjinlpikpjad.QFnExactSlotPattern
