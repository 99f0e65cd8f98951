/- UpdatePolicy holds for all inputs -/
import Derived.Test.YtlipjldhnmcbiaaGreatDoorCZ34
set_option linter.all false
namespace Go.Proofs.TT
open Go Go.Sw
set_option maxRecDepth 1000000
theorem aw_1:zD1 1 (List.replicate 32 0) 2 C1=some (M1,E1,0):=by decide +kernel
end Go.Proofs.TT
