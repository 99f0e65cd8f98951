/- UpdatePolicy holds for all inputs -/
import Derived.Test.YtlipjldhnmcbiaaGreatDoorCZ42
import Derived.Test.YtlipjldhnmcbiaaGreatDoorCZ31
import Derived.Test.YtlipjldhnmcbiaaGreatDoorCZ41
set_option linter.all false
set_option maxRecDepth 100000
namespace Go.Proofs.YtlipjldhnmcbiaaGreatDoor
open Go Go.Sw Go.Proofs Go.Proofs.TT
theorem updatePolicy_card:Rows.UpdatePolicyCardSaid:=TQ.card λx0 x1 x2 x3 x4 x5 x6 x7 x8=>Go.Proofs.Tryz.S.law43_UpdatePolicy_ok (zE4 x0 x1 x2 x3 x4 x5 x6 x7 x8)
#print axioms updatePolicy_card
end Go.Proofs.YtlipjldhnmcbiaaGreatDoor
