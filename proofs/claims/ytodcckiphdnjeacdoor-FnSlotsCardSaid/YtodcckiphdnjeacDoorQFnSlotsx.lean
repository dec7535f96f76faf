-- Written by a changed copy of the kit's printer (wip/mp.py of this repo), for this claim; Lean checks it.
import Derived.Test.YtodcckiphdnjeacDoorQFnSlotsx0
import Derived.Test.YtodcckiphdnjeacDoorQFnSlotsx1
import Derived.Test.YtodcckiphdnjeacDoorQFnSlotsx2
import Derived.Test.YtodcckiphdnjeacDoorQFnSlotsx3
import Derived.Test.YtodcckiphdnjeacDoorQFnSlotsx4
import Derived.Test.YtodcckiphdnjeacDoorQFnSlotsx5
import Derived.Test.YtodcckiphdnjeacDoorQFnSlotsx6
import Derived.Test.YtodcckiphdnjeacDoorQFnSlotsx7
import Derived.Test.YtodcckiphdnjeacDoorQFnSlotsx8
import Derived.Test.YtodcckiphdnjeacDoorQFnSlotsx9
namespace Go.Proofs.YtodcckiphdnjeacDoor.QFnSlots
open Go.RowKit Go.Proofs.YtodcckiphdnjeacDoorW.PrintWords Go.Proofs.YtodcckiphdnjeacDoorW.PrintLast Go.Proofs.YtodcckiphdnjeacDoorW.PrintMore
attribute [local go_sem] max2_int min2_int max_two min_two max_three min_three max_four min_four   -- for this text's walks alone
set_option linter.unusedVariables false
set_option linter.unusedSimpArgs false

end Go.Proofs.YtodcckiphdnjeacDoor.QFnSlots
