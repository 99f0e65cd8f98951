/- ModuleCounters holds for all inputs -/
import Derived.Test.YtkalaoahbicflaaGreatDoorCZ41
import Derived.Test.YtkalaoahbicflaaGreatDoorCZ33
import Derived.Test.YtkalaoahbicflaaGreatDoorCZ37
set_option linter.all false
set_option maxRecDepth 100000
namespace Go.Proofs.YtkalaoahbicflaaGreatDoor
open Go Go.Sw Go.Proofs Go.Proofs.TT
theorem moduleCounters_card:Rows.ModuleCountersCardSaid:=TQ.card λx0 x1=>Go.Proofs.Tryz.S.law23_ModuleCountersC_ok (zI0 x0 x1)
#print axioms moduleCounters_card
end Go.Proofs.YtkalaoahbicflaaGreatDoor
