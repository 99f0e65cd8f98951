/- UpdateDecode holds for all inputs -/
import Derived.Test.YtegimnpiojonmaaGreatDoorBZ6
set_option linter.all false
namespace Go.Proofs.TT
open Go Go.Sw
set_option maxRecDepth 1000000
theorem yF4:yY LS2 0=idx PS2 0:=by decide +kernel
theorem yDb:yY LS2 1=idx PS2 1:=by decide +kernel
theorem yE5:yY LS2 2=idx PS2 2:=by decide +kernel
theorem yFd:yY LS2 3=idx PS2 3:=by decide +kernel
end Go.Proofs.TT
