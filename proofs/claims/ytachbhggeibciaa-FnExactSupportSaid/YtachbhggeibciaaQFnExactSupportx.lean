-- Written by a changed copy of the kit's printer (wip/mp.py of this repo), for this claim; Lean checks it.
import Derived.Test.YtachbhggeibciaaQFnExactSupportx0
import Derived.Test.YtachbhggeibciaaQFnExactSupportx1
import Derived.Test.YtachbhggeibciaaQFnExactSupportx2
import Derived.Test.YtachbhggeibciaaQFnExactSupportx3
import Derived.Test.YtachbhggeibciaaQFnExactSupportx4
import Derived.Test.YtachbhggeibciaaQFnExactSupportx5
import Derived.Test.YtachbhggeibciaaQFnExactSupportx6
import Derived.Test.YtachbhggeibciaaQFnExactSupportx7
import Derived.Test.YtachbhggeibciaaQFnExactSupportx8
import Derived.Test.YtachbhggeibciaaQFnExactSupportx9
import Derived.Test.YtachbhggeibciaaQFnExactSupportx10
import Derived.Test.YtachbhggeibciaaQFnExactSupportx11
import Derived.Test.YtachbhggeibciaaQFnExactSupportx12
import Derived.Test.YtachbhggeibciaaQFnExactSupportx13
namespace Go.Proofs.Ytachbhggeibciaa.QFnExactSupport
open Go.RowKit Go.Proofs.YtachbhggeibciaaW.PrintWords Go.Proofs.YtachbhggeibciaaW.PrintLast Go.Proofs.YtachbhggeibciaaW.PrintMore
attribute [local go_sem] max2_int min2_int max_two min_two max_three min_three max_four min_four   -- for this text's walks alone
set_option linter.unusedVariables false
set_option linter.unusedSimpArgs false

end Go.Proofs.Ytachbhggeibciaa.QFnExactSupport
