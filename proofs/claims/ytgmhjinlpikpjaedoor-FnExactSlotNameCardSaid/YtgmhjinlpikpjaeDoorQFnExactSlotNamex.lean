-- Written by this session: the texts of this law together.
import Derived.Test.YtgmhjinlpikpjaeDoorQFnExactSlotNamex0
import Derived.Test.YtgmhjinlpikpjaeDoorQFnExactSlotNamex1
import Derived.Test.YtgmhjinlpikpjaeDoorQFnExactSlotNamex2
namespace Go.Proofs.YtgmhjinlpikpjaeDoor.QFnExactSlotName
end Go.Proofs.YtgmhjinlpikpjaeDoor.QFnExactSlotName
