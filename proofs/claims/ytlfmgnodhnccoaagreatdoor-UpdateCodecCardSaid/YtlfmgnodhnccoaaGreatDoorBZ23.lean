/- UpdateCodec holds for all inputs: part -/
import Derived.Test.YtlfmgnodhnccoaaGreatDoorBZ20
set_option linter.all false
namespace Go.Proofs.TT
open Go Go.Sw
set_option maxRecDepth 1000000
theorem aw_2:kU (clM M1)=some (M2,0):=by decide +kernel
set_option maxRecDepth 1000000
theorem aw_3:eV (nbM M2) [115]=some (M3,0):=by decide +kernel
end Go.Proofs.TT
