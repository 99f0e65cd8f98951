/- UpdatePolicy holds for all inputs -/
import Derived.Test.YtlipjldhnmcbiaaGreatDoorCZ34
set_option linter.all false
namespace Go.Proofs.TT
open Go Go.Sw
set_option maxRecDepth 1000000
theorem aw_6:mX (nbM M5)=some (M6,true,0):=by decide +kernel
end Go.Proofs.TT
