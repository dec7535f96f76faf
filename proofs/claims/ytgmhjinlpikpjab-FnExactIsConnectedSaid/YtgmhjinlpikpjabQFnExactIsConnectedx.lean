-- Written by a changed copy of the kit's printer (wip/mp.py of this repo), for this claim; Lean checks it.
import Derived.Test.YtgmhjinlpikpjabQFnExactIsConnectedx0
import Derived.Test.YtgmhjinlpikpjabQFnExactIsConnectedx1
import Derived.Test.YtgmhjinlpikpjabQFnExactIsConnectedx2
import Derived.Test.YtgmhjinlpikpjabQFnExactIsConnectedx3
import Derived.Test.YtgmhjinlpikpjabQFnExactIsConnectedx4
import Derived.Test.YtgmhjinlpikpjabQFnExactIsConnectedx5
namespace Go.Proofs.Ytgmhjinlpikpjab.QFnExactIsConnected
open Go.RowKit Go.Proofs.YtgmhjinlpikpjabW.PrintWords Go.Proofs.YtgmhjinlpikpjabW.PrintLast Go.Proofs.YtgmhjinlpikpjabW.PrintMore
attribute [local go_sem] max2_int min2_int max_two min_two max_three min_three max_four min_four   -- for this text's walks alone
set_option linter.unusedVariables false
set_option linter.unusedSimpArgs false

end Go.Proofs.Ytgmhjinlpikpjab.QFnExactIsConnected
