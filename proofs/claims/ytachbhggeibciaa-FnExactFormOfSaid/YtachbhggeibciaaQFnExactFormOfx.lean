-- Written by a changed copy of the kit's printer (wip/mp.py of this repo), for this claim; Lean checks it.
import Derived.Test.YtachbhggeibciaaQFnExactFormOfx0
import Derived.Test.YtachbhggeibciaaQFnExactFormOfx1
import Derived.Test.YtachbhggeibciaaQFnExactFormOfx2
import Derived.Test.YtachbhggeibciaaQFnExactFormOfx3
import Derived.Test.YtachbhggeibciaaQFnExactFormOfx4
import Derived.Test.YtachbhggeibciaaQFnExactFormOfx5
import Derived.Test.YtachbhggeibciaaQFnExactFormOfx6
import Derived.Test.YtachbhggeibciaaQFnExactFormOfx7
import Derived.Test.YtachbhggeibciaaQFnExactFormOfx8
import Derived.Test.YtachbhggeibciaaQFnExactFormOfx9
import Derived.Test.YtachbhggeibciaaQFnExactFormOfx10
import Derived.Test.YtachbhggeibciaaQFnExactFormOfx11
import Derived.Test.YtachbhggeibciaaQFnExactFormOfx12
import Derived.Test.YtachbhggeibciaaQFnExactFormOfx13
import Derived.Test.YtachbhggeibciaaQFnExactFormOfx14
import Derived.Test.YtachbhggeibciaaQFnExactFormOfx15
import Derived.Test.YtachbhggeibciaaQFnExactFormOfx16
namespace Go.Proofs.Ytachbhggeibciaa.QFnExactFormOf
open Go.RowKit Go.Proofs.YtachbhggeibciaaW.PrintWords Go.Proofs.YtachbhggeibciaaW.PrintLast Go.Proofs.YtachbhggeibciaaW.PrintMore
attribute [local go_sem] max2_int min2_int max_two min_two max_three min_three max_four min_four   -- for this text's walks alone
set_option linter.unusedVariables false
set_option linter.unusedSimpArgs false

end Go.Proofs.Ytachbhggeibciaa.QFnExactFormOf
