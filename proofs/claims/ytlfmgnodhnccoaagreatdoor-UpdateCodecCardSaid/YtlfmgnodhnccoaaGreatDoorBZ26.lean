/- UpdateCodec holds for all inputs: part -/
import Derived.Test.YtlfmgnodhnccoaaGreatDoorBZ20
set_option linter.all false
namespace Go.Proofs.TT
open Go Go.Sw
set_option maxRecDepth 1000000
theorem aw_6:mP (nbM M5)=some (M6,true,0):=by decide +kernel
end Go.Proofs.TT
