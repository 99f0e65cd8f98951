/- AppraiseStart (law 37: evidence whose quote was made in another start than its log, or after a start that kept registers, is refused, and right evidence is accepted) is proved for every input, under no condition of ours; this text is a part of that proof. -/
import Derived.Test.YteadpnddgpfbdaaGreatDoorZ14
import Derived.Test.YteadpnddgpfbdaaGreatDoorZ10
import Derived.Test.YteadpnddgpfbdaaGreatDoorZ13
set_option linter.all false
set_option maxRecDepth 100000
namespace Go.Proofs.YteadpnddgpfbdaaGreatDoor
open Go Go.Sw Go.Proofs Go.Proofs.TT
theorem appraiseStart_card:Rows.AppraiseStartCardSaid:=TQ.card λx0 x1 x2 x3 x4=>Go.Proofs.Tryz.S.law37_AppraiseStart_ok (eS x0 x1 x2 x3 x4)
#print axioms appraiseStart_card
end Go.Proofs.YteadpnddgpfbdaaGreatDoor
