/- ModuleStarted holds for all inputs -/
import Derived.Test.YtkalaoahbicflaaGreatDoorSZ42
import Derived.Test.YtkalaoahbicflaaGreatDoorSZ34
import Derived.Test.YtkalaoahbicflaaGreatDoorSZ38
set_option linter.all false
set_option maxRecDepth 100000
namespace Go.Proofs.YtkalaoahbicflaaGreatDoor
open Go Go.Sw Go.Proofs Go.Proofs.TT
theorem moduleStarted_card:Rows.ModuleStartedCardSaid:=TQ.cardB λx0 x1 x2 x3 x4 x5 x6=>Go.Proofs.Tryz.S.law23_ModuleStartedS_ok (zJj x0 x1 x2 x3 x4 x5 x6)
#print axioms moduleStarted_card
end Go.Proofs.YtkalaoahbicflaaGreatDoor
