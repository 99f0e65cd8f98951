/- UpdateCodec holds for all inputs: part -/
import Derived.Test.YtlfmgnodhnccoaaGreatDoorBZ6
set_option linter.all false
namespace Go.Proofs.TT
open Go Go.Sw
set_option maxRecDepth 1000000
theorem yCq:yX LS3 0=idx PS3 0:=by decide +kernel
theorem yEn:yX LS3 1=idx PS3 1:=by decide +kernel
theorem yCr:yX LS3 2=idx PS3 2:=by decide +kernel
theorem yCo:yX LS3 3=idx PS3 3:=by decide +kernel
end Go.Proofs.TT
