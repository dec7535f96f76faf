-- Written by a changed copy of the kit's printer (wip/mp.py of this repo), for this claim; Lean checks it.
import Derived.Test.YtgmhjinlpikpjaeQFnExactCrossingsOfx0
import Derived.Test.YtgmhjinlpikpjaeQFnExactCrossingsOfx1
import Derived.Test.YtgmhjinlpikpjaeQFnExactCrossingsOfx2
import Derived.Test.YtgmhjinlpikpjaeQFnExactCrossingsOfx3
import Derived.Test.YtgmhjinlpikpjaeQFnExactCrossingsOfx4
import Derived.Test.YtgmhjinlpikpjaeQFnExactCrossingsOfx5
import Derived.Test.YtgmhjinlpikpjaeQFnExactCrossingsOfx6
import Derived.Test.YtgmhjinlpikpjaeQFnExactCrossingsOfx7
import Derived.Test.YtgmhjinlpikpjaeQFnExactCrossingsOfx8
import Derived.Test.YtgmhjinlpikpjaeQFnExactCrossingsOfx9
import Derived.Test.YtgmhjinlpikpjaeQFnExactCrossingsOfx10
namespace Go.Proofs.Ytgmhjinlpikpjae.QFnExactCrossingsOf
open Go.RowKit Go.Proofs.YtgmhjinlpikpjaeW.PrintWords Go.Proofs.YtgmhjinlpikpjaeW.PrintLast Go.Proofs.YtgmhjinlpikpjaeW.PrintMore
attribute [local go_sem] max2_int min2_int max_two min_two max_three min_three max_four min_four   -- for this text's walks alone
set_option linter.unusedVariables false
set_option linter.unusedSimpArgs false

end Go.Proofs.Ytgmhjinlpikpjae.QFnExactCrossingsOf
