-- Written by a changed copy of the kit's printer (wip/mp.py of this repo), for this claim; Lean checks it.
import Derived.Test.YtgmhjinlpikpjaeQFnExactPutWordx0
import Derived.Test.YtgmhjinlpikpjaeQFnExactPutWordx1
import Derived.Test.YtgmhjinlpikpjaeQFnExactPutWordx2
import Derived.Test.YtgmhjinlpikpjaeQFnExactPutWordx3
import Derived.Test.YtgmhjinlpikpjaeQFnExactPutWordx4
import Derived.Test.YtgmhjinlpikpjaeQFnExactPutWordx5
import Derived.Test.YtgmhjinlpikpjaeQFnExactPutWordx6
import Derived.Test.YtgmhjinlpikpjaeQFnExactPutWordx7
import Derived.Test.YtgmhjinlpikpjaeQFnExactPutWordx8
import Derived.Test.YtgmhjinlpikpjaeQFnExactPutWordx9
import Derived.Test.YtgmhjinlpikpjaeQFnExactPutWordx10
import Derived.Test.YtgmhjinlpikpjaeQFnExactPutWordx11
import Derived.Test.YtgmhjinlpikpjaeQFnExactPutWordx12
import Derived.Test.YtgmhjinlpikpjaeQFnExactPutWordx13
import Derived.Test.YtgmhjinlpikpjaeQFnExactPutWordx14
namespace Go.Proofs.Ytgmhjinlpikpjae.QFnExactPutWord
open Go.RowKit Go.Proofs.YtgmhjinlpikpjaeW.PrintWords Go.Proofs.YtgmhjinlpikpjaeW.PrintLast Go.Proofs.YtgmhjinlpikpjaeW.PrintMore
attribute [local go_sem] max2_int min2_int max_two min_two max_three min_three max_four min_four   -- for this text's walks alone
set_option linter.unusedVariables false
set_option linter.unusedSimpArgs false

end Go.Proofs.Ytgmhjinlpikpjae.QFnExactPutWord
