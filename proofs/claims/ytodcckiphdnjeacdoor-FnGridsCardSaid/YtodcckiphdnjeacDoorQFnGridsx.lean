-- Written by a changed copy of the kit's printer (wip/mp.py of this repo), for this claim; Lean checks it.
import Derived.Test.YtodcckiphdnjeacDoorQFnGridsx0
import Derived.Test.YtodcckiphdnjeacDoorQFnGridsx1
import Derived.Test.YtodcckiphdnjeacDoorQFnGridsx2
import Derived.Test.YtodcckiphdnjeacDoorQFnGridsx3
import Derived.Test.YtodcckiphdnjeacDoorQFnGridsx4
import Derived.Test.YtodcckiphdnjeacDoorQFnGridsx5
import Derived.Test.YtodcckiphdnjeacDoorQFnGridsx6
import Derived.Test.YtodcckiphdnjeacDoorQFnGridsx7
import Derived.Test.YtodcckiphdnjeacDoorQFnGridsx8
namespace Go.Proofs.YtodcckiphdnjeacDoor.QFnGrids
open Go.RowKit Go.Proofs.YtodcckiphdnjeacDoorW.PrintWords Go.Proofs.YtodcckiphdnjeacDoorW.PrintLast Go.Proofs.YtodcckiphdnjeacDoorW.PrintMore
attribute [local go_sem] max2_int min2_int max_two min_two max_three min_three max_four min_four   -- for this text's walks alone
set_option linter.unusedVariables false
set_option linter.unusedSimpArgs false

end Go.Proofs.YtodcckiphdnjeacDoor.QFnGrids
