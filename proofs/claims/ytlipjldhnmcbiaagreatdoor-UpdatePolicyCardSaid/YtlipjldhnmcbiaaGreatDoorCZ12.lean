/- UpdatePolicy holds for all inputs -/
import Derived.Test.YtlipjldhnmcbiaaGreatDoorCZ6
set_option linter.all false
namespace Go.Proofs.TT
open Go Go.Sw
set_option maxRecDepth 1000000
theorem yGg:yY LS1 0=idx PS1 0:=by decide +kernel
theorem yFs:yY LS1 1=idx PS1 1:=by decide +kernel
theorem yHt:yY LS1 2=idx PS1 2:=by decide +kernel
theorem yHc:yY LS1 3=idx PS1 3:=by decide +kernel
end Go.Proofs.TT
