/- ModuleStarted holds for all inputs -/
import Derived.Test.YtkalaoahbicflaaGreatDoorSZ27
import Derived.Test.YtkalaoahbicflaaGreatDoorSZ28
import Derived.Test.YtkalaoahbicflaaGreatDoorSZ29
set_option linter.all false
namespace Go.Proofs.Tryz.S
open Go Go.Sw Go.Proofs.TT
set_option maxRecDepth 100000
set_option maxHeartbeats 2000000
end Go.Proofs.Tryz.S
