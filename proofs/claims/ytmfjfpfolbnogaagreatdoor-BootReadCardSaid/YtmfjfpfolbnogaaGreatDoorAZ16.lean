/- what Read reports of a started chain -/
import Derived.Test.YtmfjfpfolbnogaaGreatDoorAZ15
import Derived.Test.YtmfjfpfolbnogaaGreatDoorAZ11
import Derived.Test.YtmfjfpfolbnogaaGreatDoorAZ14
set_option linter.all false
set_option maxRecDepth 100000
namespace Go.Proofs.YtmfjfpfolbnogaaGreatDoor
open Go Go.Sw Go.Proofs Go.Proofs.TT
theorem bootRead_card:Rows.BootReadCardSaid:=TQ.card λx0 x1 x2 x3=>Go.Proofs.Tryz.S.law30_BootRead_ok (zG3 x0 x1 x2 x3)
#print axioms bootRead_card
end Go.Proofs.YtmfjfpfolbnogaaGreatDoor
