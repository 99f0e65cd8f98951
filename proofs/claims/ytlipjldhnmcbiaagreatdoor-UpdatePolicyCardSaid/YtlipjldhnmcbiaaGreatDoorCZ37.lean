/- UpdatePolicy holds for all inputs -/
import Derived.Test.YtlipjldhnmcbiaaGreatDoorCZ34
set_option linter.all false
namespace Go.Proofs.TT
open Go Go.Sw
set_option maxRecDepth 1000000
theorem aw_2:jX (clM M1)=some (M2,0):=by decide +kernel
set_option maxRecDepth 1000000
theorem aw_3:dV (nbM M2) [115]=some (M3,0):=by decide +kernel
end Go.Proofs.TT
