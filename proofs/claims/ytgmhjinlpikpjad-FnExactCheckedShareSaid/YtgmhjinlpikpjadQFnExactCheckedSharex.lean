-- Written by a changed copy of the kit's printer (wip/mp.py of this repo), for this claim; Lean checks it.
import Derived.Test.YtgmhjinlpikpjadQFnExactCheckedSharex0
import Derived.Test.YtgmhjinlpikpjadQFnExactCheckedSharex1
import Derived.Test.YtgmhjinlpikpjadQFnExactCheckedSharex2
import Derived.Test.YtgmhjinlpikpjadQFnExactCheckedSharex3
import Derived.Test.YtgmhjinlpikpjadQFnExactCheckedSharex4
import Derived.Test.YtgmhjinlpikpjadQFnExactCheckedSharex5
import Derived.Test.YtgmhjinlpikpjadQFnExactCheckedSharex6
import Derived.Test.YtgmhjinlpikpjadQFnExactCheckedSharex7
import Derived.Test.YtgmhjinlpikpjadQFnExactCheckedSharex8
namespace Go.Proofs.Ytgmhjinlpikpjad.QFnExactCheckedShare
open Go.RowKit Go.Proofs.YtgmhjinlpikpjadW.PrintWords Go.Proofs.YtgmhjinlpikpjadW.PrintLast Go.Proofs.YtgmhjinlpikpjadW.PrintMore
attribute [local go_sem] max2_int min2_int max_two min_two max_three min_three max_four min_four   -- for this text's walks alone
set_option linter.unusedVariables false
set_option linter.unusedSimpArgs false

end Go.Proofs.Ytgmhjinlpikpjad.QFnExactCheckedShare
