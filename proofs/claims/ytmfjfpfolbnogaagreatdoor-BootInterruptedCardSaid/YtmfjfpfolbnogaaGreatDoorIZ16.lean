/- A part of the proof of what an interrupted installation leaves. -/
import Derived.Test.YtmfjfpfolbnogaaGreatDoorIZ15
import Derived.Test.YtmfjfpfolbnogaaGreatDoorIZ11
import Derived.Test.YtmfjfpfolbnogaaGreatDoorIZ14
set_option linter.all false
set_option maxRecDepth 100000
namespace Go.Proofs.YtmfjfpfolbnogaaGreatDoor
open Go Go.Sw Go.Proofs Go.Proofs.TT
theorem bootInterrupted_card:Rows.BootInterruptedCardSaid:=TQ.card λx0 x1 x2 x3=>Go.Proofs.Tryz.S.law30_BootInterrupted_ok (cU x0 x1 x2 x3)
#print axioms bootInterrupted_card
end Go.Proofs.YtmfjfpfolbnogaaGreatDoor
