/- UpdateCodec holds for all inputs: part -/
import Derived.Test.YtlfmgnodhnccoaaGreatDoorBZ6
set_option linter.all false
namespace Go.Proofs.TT
open Go Go.Sw
set_option maxRecDepth 1000000
theorem yB7:yX LS1 0=idx PS1 0:=by decide +kernel
theorem yC9:yX LS1 1=idx PS1 1:=by decide +kernel
theorem yBl:yX LS1 2=idx PS1 2:=by decide +kernel
theorem yDq:yX LS1 3=idx PS1 3:=by decide +kernel
end Go.Proofs.TT
