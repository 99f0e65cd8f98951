/- UpdateDecode holds for all inputs -/
import Derived.Test.YtegimnpiojonmaaGreatDoorBZ21
set_option linter.all false
namespace Go.Proofs.TT
open Go Go.Sw
set_option maxRecDepth 1000000
theorem aw_2:jR (clM M1)=some (M2,0):=by decide +kernel
set_option maxRecDepth 1000000
theorem aw_3:dS (nbM M2) [115]=some (M3,0):=by decide +kernel
end Go.Proofs.TT
