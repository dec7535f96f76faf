-- Written by a changed copy of the kit's printer (wip/mp.py of this repo), for this claim; Lean checks it.
import Derived.Test.YtodcckiphdnjeabDoorQFnFillsx0
import Derived.Test.YtodcckiphdnjeabDoorQFnFillsx1
import Derived.Test.YtodcckiphdnjeabDoorQFnFillsx2
import Derived.Test.YtodcckiphdnjeabDoorQFnFillsx3
import Derived.Test.YtodcckiphdnjeabDoorQFnFillsx4
import Derived.Test.YtodcckiphdnjeabDoorQFnFillsx5
import Derived.Test.YtodcckiphdnjeabDoorQFnFillsx6
import Derived.Test.YtodcckiphdnjeabDoorQFnFillsx7
import Derived.Test.YtodcckiphdnjeabDoorQFnFillsx8
import Derived.Test.YtodcckiphdnjeabDoorQFnFillsx9
import Derived.Test.YtodcckiphdnjeabDoorQFnFillsx10
import Derived.Test.YtodcckiphdnjeabDoorQFnFillsx11
import Derived.Test.YtodcckiphdnjeabDoorQFnFillsx12
import Derived.Test.YtodcckiphdnjeabDoorQFnFillsx13
import Derived.Test.YtodcckiphdnjeabDoorQFnFillsx14
import Derived.Test.YtodcckiphdnjeabDoorQFnFillsx15
import Derived.Test.YtodcckiphdnjeabDoorQFnFillsx16
import Derived.Test.YtodcckiphdnjeabDoorQFnFillsx17
import Derived.Test.YtodcckiphdnjeabDoorQFnFillsx18
import Derived.Test.YtodcckiphdnjeabDoorQFnFillsx19
namespace Go.Proofs.YtodcckiphdnjeabDoor.QFnFills
open Go.RowKit Go.Proofs.YtodcckiphdnjeabDoorW.PrintWords Go.Proofs.YtodcckiphdnjeabDoorW.PrintLast Go.Proofs.YtodcckiphdnjeabDoorW.PrintMore
attribute [local go_sem] max2_int min2_int max_two min_two max_three min_three max_four min_four   -- for this text's walks alone
set_option linter.unusedVariables false
set_option linter.unusedSimpArgs false

end Go.Proofs.YtodcckiphdnjeabDoor.QFnFills
