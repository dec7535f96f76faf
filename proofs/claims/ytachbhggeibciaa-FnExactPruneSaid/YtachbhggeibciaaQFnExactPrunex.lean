-- Written by a changed copy of the kit's printer (wip/mp.py of this repo), for this claim; Lean checks it.
import Derived.Test.YtachbhggeibciaaQFnExactPrunex0
import Derived.Test.YtachbhggeibciaaQFnExactPrunex1
import Derived.Test.YtachbhggeibciaaQFnExactPrunex2
import Derived.Test.YtachbhggeibciaaQFnExactPrunex3
import Derived.Test.YtachbhggeibciaaQFnExactPrunex4
import Derived.Test.YtachbhggeibciaaQFnExactPrunex5
import Derived.Test.YtachbhggeibciaaQFnExactPrunex6
import Derived.Test.YtachbhggeibciaaQFnExactPrunex7
import Derived.Test.YtachbhggeibciaaQFnExactPrunex8
import Derived.Test.YtachbhggeibciaaQFnExactPrunex9
import Derived.Test.YtachbhggeibciaaQFnExactPrunex10
import Derived.Test.YtachbhggeibciaaQFnExactPrunex11
import Derived.Test.YtachbhggeibciaaQFnExactPrunex12
import Derived.Test.YtachbhggeibciaaQFnExactPrunex13
import Derived.Test.YtachbhggeibciaaQFnExactPrunex14
import Derived.Test.YtachbhggeibciaaQFnExactPrunex15
namespace Go.Proofs.Ytachbhggeibciaa.QFnExactPrune
open Go.RowKit Go.Proofs.YtachbhggeibciaaW.PrintWords Go.Proofs.YtachbhggeibciaaW.PrintLast Go.Proofs.YtachbhggeibciaaW.PrintMore
attribute [local go_sem] max2_int min2_int max_two min_two max_three min_three max_four min_four   -- for this text's walks alone
set_option linter.unusedVariables false
set_option linter.unusedSimpArgs false

end Go.Proofs.Ytachbhggeibciaa.QFnExactPrune
