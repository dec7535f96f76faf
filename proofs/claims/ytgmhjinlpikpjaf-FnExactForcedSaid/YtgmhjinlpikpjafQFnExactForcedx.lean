-- Written by a changed copy of the kit's printer (wip/mp.py of this repo), for this claim; Lean checks it.
import Derived.Test.YtgmhjinlpikpjafQFnExactForcedx0
import Derived.Test.YtgmhjinlpikpjafQFnExactForcedx1
import Derived.Test.YtgmhjinlpikpjafQFnExactForcedx2
import Derived.Test.YtgmhjinlpikpjafQFnExactForcedx3
import Derived.Test.YtgmhjinlpikpjafQFnExactForcedx4
import Derived.Test.YtgmhjinlpikpjafQFnExactForcedx5
import Derived.Test.YtgmhjinlpikpjafQFnExactForcedx6
import Derived.Test.YtgmhjinlpikpjafQFnExactForcedx7
import Derived.Test.YtgmhjinlpikpjafQFnExactForcedx8
import Derived.Test.YtgmhjinlpikpjafQFnExactForcedx9
import Derived.Test.YtgmhjinlpikpjafQFnExactForcedx10
import Derived.Test.YtgmhjinlpikpjafQFnExactForcedx11
import Derived.Test.YtgmhjinlpikpjafQFnExactForcedx12
import Derived.Test.YtgmhjinlpikpjafQFnExactForcedx13
import Derived.Test.YtgmhjinlpikpjafQFnExactForcedx14
import Derived.Test.YtgmhjinlpikpjafQFnExactForcedx15
import Derived.Test.YtgmhjinlpikpjafQFnExactForcedx16
import Derived.Test.YtgmhjinlpikpjafQFnExactForcedx17
namespace Go.Proofs.Ytgmhjinlpikpjaf.QFnExactForced
open Go.RowKit Go.Proofs.YtgmhjinlpikpjafW.PrintWords Go.Proofs.YtgmhjinlpikpjafW.PrintLast Go.Proofs.YtgmhjinlpikpjafW.PrintMore
attribute [local go_sem] max2_int min2_int max_two min_two max_three min_three max_four min_four   -- for this text's walks alone
set_option linter.unusedVariables false
set_option linter.unusedSimpArgs false

end Go.Proofs.Ytgmhjinlpikpjaf.QFnExactForced
