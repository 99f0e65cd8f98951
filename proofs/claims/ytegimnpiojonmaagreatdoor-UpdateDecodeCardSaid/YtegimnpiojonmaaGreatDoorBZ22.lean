/- UpdateDecode holds for all inputs -/
import Derived.Test.YtegimnpiojonmaaGreatDoorBZ21
set_option linter.all false
namespace Go.Proofs.TT
open Go Go.Sw
set_option maxRecDepth 1000000
theorem aw_0:jJ 1=some C1/\jJ 2=some C2:=by decide +kernel
end Go.Proofs.TT
