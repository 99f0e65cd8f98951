/- UpdateDecode holds for all inputs -/
import Derived.Test.YtegimnpiojonmaaGreatDoorBZ29
import Derived.Test.YtegimnpiojonmaaGreatDoorBZ17
import Derived.Test.YtegimnpiojonmaaGreatDoorBZ28
set_option linter.all false
set_option maxRecDepth 100000
namespace Go.Proofs.YtegimnpiojonmaaGreatDoor
open Go Go.Sw Go.Proofs Go.Proofs.TT
theorem updateDecode_card:Rows.UpdateDecodeCardSaid:=TQ.card λx0 x1 x2 x3 x4 x5 x6 x7 x8=>Go.Proofs.Tryz.S.law43_UpdateDecode_ok (zIq x0 x1 x2 x3 x4 x5 x6 x7 x8)
#print axioms updateDecode_card
end Go.Proofs.YtegimnpiojonmaaGreatDoor
