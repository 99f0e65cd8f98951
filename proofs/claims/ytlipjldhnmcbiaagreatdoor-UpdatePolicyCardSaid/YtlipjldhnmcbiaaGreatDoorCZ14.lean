/- UpdatePolicy holds for all inputs -/
import Derived.Test.YtlipjldhnmcbiaaGreatDoorCZ6
set_option linter.all false
namespace Go.Proofs.TT
open Go Go.Sw
set_option maxRecDepth 1000000
theorem yHs:yY LS3 0=idx PS3 0:=by decide +kernel
theorem yFt:yY LS3 1=idx PS3 1:=by decide +kernel
theorem yGa:yY LS3 2=idx PS3 2:=by decide +kernel
theorem yGx:yY LS3 3=idx PS3 3:=by decide +kernel
end Go.Proofs.TT
