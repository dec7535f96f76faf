-- Written by a changed copy of the kit's printer (wip/mp.py of this repo), for this claim; Lean checks it.
import Derived.Test.YtgmhjinlpikpjabQFnExactWordsMadex0
import Derived.Test.YtgmhjinlpikpjabQFnExactWordsMadex1
import Derived.Test.YtgmhjinlpikpjabQFnExactWordsMadex2
import Derived.Test.YtgmhjinlpikpjabQFnExactWordsMadex3
import Derived.Test.YtgmhjinlpikpjabQFnExactWordsMadex4
import Derived.Test.YtgmhjinlpikpjabQFnExactWordsMadex5
import Derived.Test.YtgmhjinlpikpjabQFnExactWordsMadex6
import Derived.Test.YtgmhjinlpikpjabQFnExactWordsMadex7
import Derived.Test.YtgmhjinlpikpjabQFnExactWordsMadex8
import Derived.Test.YtgmhjinlpikpjabQFnExactWordsMadex9
import Derived.Test.YtgmhjinlpikpjabQFnExactWordsMadex10
import Derived.Test.YtgmhjinlpikpjabQFnExactWordsMadex11
import Derived.Test.YtgmhjinlpikpjabQFnExactWordsMadex12
namespace Go.Proofs.Ytgmhjinlpikpjab.QFnExactWordsMade
open Go.RowKit Go.Proofs.YtgmhjinlpikpjabW.PrintWords Go.Proofs.YtgmhjinlpikpjabW.PrintLast Go.Proofs.YtgmhjinlpikpjabW.PrintMore
attribute [local go_sem] max2_int min2_int max_two min_two max_three min_three max_four min_four   -- for this text's walks alone
set_option linter.unusedVariables false
set_option linter.unusedSimpArgs false

end Go.Proofs.Ytgmhjinlpikpjab.QFnExactWordsMade
