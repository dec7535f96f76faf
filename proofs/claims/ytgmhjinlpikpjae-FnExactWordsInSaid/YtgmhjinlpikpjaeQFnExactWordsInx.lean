-- Written by a changed copy of the kit's printer (wip/mp.py of this repo), for this claim; Lean checks it.
import Derived.Test.YtgmhjinlpikpjaeQFnExactWordsInx0
import Derived.Test.YtgmhjinlpikpjaeQFnExactWordsInx1
import Derived.Test.YtgmhjinlpikpjaeQFnExactWordsInx2
import Derived.Test.YtgmhjinlpikpjaeQFnExactWordsInx3
import Derived.Test.YtgmhjinlpikpjaeQFnExactWordsInx4
import Derived.Test.YtgmhjinlpikpjaeQFnExactWordsInx5
import Derived.Test.YtgmhjinlpikpjaeQFnExactWordsInx6
import Derived.Test.YtgmhjinlpikpjaeQFnExactWordsInx7
import Derived.Test.YtgmhjinlpikpjaeQFnExactWordsInx8
import Derived.Test.YtgmhjinlpikpjaeQFnExactWordsInx9
import Derived.Test.YtgmhjinlpikpjaeQFnExactWordsInx10
import Derived.Test.YtgmhjinlpikpjaeQFnExactWordsInx11
import Derived.Test.YtgmhjinlpikpjaeQFnExactWordsInx12
namespace Go.Proofs.Ytgmhjinlpikpjae.QFnExactWordsIn
open Go.RowKit Go.Proofs.YtgmhjinlpikpjaeW.PrintWords Go.Proofs.YtgmhjinlpikpjaeW.PrintLast Go.Proofs.YtgmhjinlpikpjaeW.PrintMore
attribute [local go_sem] max2_int min2_int max_two min_two max_three min_three max_four min_four   -- for this text's walks alone
set_option linter.unusedVariables false
set_option linter.unusedSimpArgs false

end Go.Proofs.Ytgmhjinlpikpjae.QFnExactWordsIn
