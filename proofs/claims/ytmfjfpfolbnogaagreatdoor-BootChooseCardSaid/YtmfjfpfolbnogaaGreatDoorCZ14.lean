/- A part of the proof that a slot is chosen as the statement says. -/
import Derived.Test.YtmfjfpfolbnogaaGreatDoorCZ13
import Derived.Test.YtmfjfpfolbnogaaGreatDoorCZ10
import Derived.Test.YtmfjfpfolbnogaaGreatDoorCZ12
set_option linter.all false
set_option maxRecDepth 100000
namespace Go.Proofs.YtmfjfpfolbnogaaGreatDoor
open Go Go.Sw Go.Proofs Go.Proofs.TT
theorem bootChoose_card:Rows.BootChooseCardSaid:=TQ.card λx0 x1 x2 x3=>Go.Proofs.Tryz.S.law30_BootChoose_ok (bT x0 x1 x2 x3)
#print axioms bootChoose_card
end Go.Proofs.YtmfjfpfolbnogaaGreatDoor
