/- UpdateCodec holds for all inputs: part -/
import Derived.Test.YtlfmgnodhnccoaaGreatDoorBZ6
set_option linter.all false
namespace Go.Proofs.TT
open Go Go.Sw
set_option maxRecDepth 1000000
theorem yCv:yX LS2 0=idx PS2 0:=by decide +kernel
theorem yD5:yX LS2 1=idx PS2 1:=by decide +kernel
theorem yBr:yX LS2 2=idx PS2 2:=by decide +kernel
theorem yD2:yX LS2 3=idx PS2 3:=by decide +kernel
end Go.Proofs.TT
