/- what a machine does whose chosen slot has no chain -/
import Derived.Test.YtmfjfpfolbnogaaGreatDoorDZ15
import Derived.Test.YtmfjfpfolbnogaaGreatDoorDZ11
import Derived.Test.YtmfjfpfolbnogaaGreatDoorDZ14
set_option linter.all false
set_option maxRecDepth 100000
namespace Go.Proofs.YtmfjfpfolbnogaaGreatDoor
open Go Go.Sw Go.Proofs Go.Proofs.TT
theorem bootBad_card:Rows.BootBadCardSaid:=TQ.card λx0 x1 x2 x3 x4 x5=>Go.Proofs.Tryz.S.law30_BootBad_ok (zJr x0 x1 x2 x3 x4 x5)
#print axioms bootBad_card
end Go.Proofs.YtmfjfpfolbnogaaGreatDoor
