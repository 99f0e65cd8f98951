/- AppraiseVerdict (law 37: the verdict about evidence that is right but for up to two changes) is proved for every input, under no condition of ours; this text is a part of that proof. -/
import Derived.Test.YteadpnddgpfbdaaGreatDoorZ16
import Derived.Test.YteadpnddgpfbdaaGreatDoorZ11
import Derived.Test.YteadpnddgpfbdaaGreatDoorZ15
set_option linter.all false
set_option maxRecDepth 100000
namespace Go.Proofs.YteadpnddgpfbdaaGreatDoor
open Go Go.Sw Go.Proofs Go.Proofs.TT
theorem appraiseVerdict_card:Rows.AppraiseVerdictCardSaid:=TQ.card λx0 x1 x2 x3 x4 x5 x6=>Go.Proofs.Tryz.S.law37_AppraiseVerdict_ok (cW x0 x1 x2 x3 x4 x5 x6)
#print axioms appraiseVerdict_card
end Go.Proofs.YteadpnddgpfbdaaGreatDoor
