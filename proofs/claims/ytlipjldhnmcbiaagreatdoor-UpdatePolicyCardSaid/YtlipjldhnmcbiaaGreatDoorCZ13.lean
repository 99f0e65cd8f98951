/- UpdatePolicy holds for all inputs -/
import Derived.Test.YtlipjldhnmcbiaaGreatDoorCZ6
set_option linter.all false
namespace Go.Proofs.TT
open Go Go.Sw
set_option maxRecDepth 1000000
theorem yGf:yY LS2 0=idx PS2 0:=by decide +kernel
theorem yHb:yY LS2 1=idx PS2 1:=by decide +kernel
theorem yG6:yY LS2 2=idx PS2 2:=by decide +kernel
theorem yHk:yY LS2 3=idx PS2 3:=by decide +kernel
end Go.Proofs.TT
