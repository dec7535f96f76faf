-- Written by a changed copy of the kit's printer (wip/mp.py of this repo), for this claim; Lean checks it.
import Derived.Test.YtdofkaemeongpaaQFnExactIsFillx0
import Derived.Test.YtdofkaemeongpaaQFnExactIsFillx1
import Derived.Test.YtdofkaemeongpaaQFnExactIsFillx2
import Derived.Test.YtdofkaemeongpaaQFnExactIsFillx3
import Derived.Test.YtdofkaemeongpaaQFnExactIsFillx4
namespace Go.Proofs.Ytdofkaemeongpaa.QFnExactIsFill
open Go.RowKit Go.Proofs.YtdofkaemeongpaaW.PrintWords Go.Proofs.YtdofkaemeongpaaW.PrintLast Go.Proofs.YtdofkaemeongpaaW.PrintMore
attribute [local go_sem] max2_int min2_int max_two min_two max_three min_three max_four min_four   -- for this text's walks alone
set_option linter.unusedVariables false
set_option linter.unusedSimpArgs false

end Go.Proofs.Ytdofkaemeongpaa.QFnExactIsFill
