/- AppraiseAccepted (law 37: what an accepted verdict means) is proved for every input, under no condition of ours; this text is a part of that proof. -/
import Derived.Test.YteadpnddgpfbdaaGreatDoorZ15
import Derived.Test.YteadpnddgpfbdaaGreatDoorZ11
import Derived.Test.YteadpnddgpfbdaaGreatDoorZ14
set_option linter.all false
set_option maxRecDepth 100000
namespace Go.Proofs.YteadpnddgpfbdaaGreatDoor
open Go Go.Sw Go.Proofs Go.Proofs.TT
theorem appraiseAccepted_card:Rows.AppraiseAcceptedCardSaid:=TQ.card λx0 x1 x2 x3 x4 x5=>Go.Proofs.Tryz.S.law37_AppraiseAccepted_ok (gA x0 x1 x2 x3 x4 x5)
#print axioms appraiseAccepted_card
end Go.Proofs.YteadpnddgpfbdaaGreatDoor
