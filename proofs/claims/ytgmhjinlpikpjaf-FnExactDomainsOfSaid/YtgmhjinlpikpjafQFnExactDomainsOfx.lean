-- Written by a changed copy of the kit's printer (wip/mp.py of this repo), for this claim; Lean checks it.
import Derived.Test.YtgmhjinlpikpjafQFnExactDomainsOfx0
import Derived.Test.YtgmhjinlpikpjafQFnExactDomainsOfx1
import Derived.Test.YtgmhjinlpikpjafQFnExactDomainsOfx2
import Derived.Test.YtgmhjinlpikpjafQFnExactDomainsOfx3
import Derived.Test.YtgmhjinlpikpjafQFnExactDomainsOfx4
import Derived.Test.YtgmhjinlpikpjafQFnExactDomainsOfx5
import Derived.Test.YtgmhjinlpikpjafQFnExactDomainsOfx6
import Derived.Test.YtgmhjinlpikpjafQFnExactDomainsOfx7
import Derived.Test.YtgmhjinlpikpjafQFnExactDomainsOfx8
import Derived.Test.YtgmhjinlpikpjafQFnExactDomainsOfx9
import Derived.Test.YtgmhjinlpikpjafQFnExactDomainsOfx10
import Derived.Test.YtgmhjinlpikpjafQFnExactDomainsOfx11
import Derived.Test.YtgmhjinlpikpjafQFnExactDomainsOfx12
import Derived.Test.YtgmhjinlpikpjafQFnExactDomainsOfx13
import Derived.Test.YtgmhjinlpikpjafQFnExactDomainsOfx14
import Derived.Test.YtgmhjinlpikpjafQFnExactDomainsOfx15
namespace Go.Proofs.Ytgmhjinlpikpjaf.QFnExactDomainsOf
open Go.RowKit Go.Proofs.YtgmhjinlpikpjafW.PrintWords Go.Proofs.YtgmhjinlpikpjafW.PrintLast Go.Proofs.YtgmhjinlpikpjafW.PrintMore
attribute [local go_sem] max2_int min2_int max_two min_two max_three min_three max_four min_four   -- for this text's walks alone
set_option linter.unusedVariables false
set_option linter.unusedSimpArgs false

end Go.Proofs.Ytgmhjinlpikpjaf.QFnExactDomainsOf
