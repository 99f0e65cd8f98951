/- ModuleStarted holds for all inputs -/
import Derived.Test.YtkalaoahbicflaaGreatDoorSZ30
import Derived.Test.YtkalaoahbicflaaGreatDoorSZ31
import Derived.Test.YtkalaoahbicflaaGreatDoorSZ32
set_option linter.all false
namespace Go.Proofs.Tryz.S
open Go Go.Sw Go.Proofs.TT
set_option maxRecDepth 100000
set_option maxHeartbeats 2000000
end Go.Proofs.Tryz.S
