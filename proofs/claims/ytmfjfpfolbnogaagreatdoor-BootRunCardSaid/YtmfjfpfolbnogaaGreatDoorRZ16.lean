/- A part of the proof of what a start measures. -/
import Derived.Test.YtmfjfpfolbnogaaGreatDoorRZ15
import Derived.Test.YtmfjfpfolbnogaaGreatDoorRZ11
import Derived.Test.YtmfjfpfolbnogaaGreatDoorRZ14
set_option linter.all false
set_option maxRecDepth 100000
namespace Go.Proofs.YtmfjfpfolbnogaaGreatDoor
open Go Go.Sw Go.Proofs Go.Proofs.TT
theorem bootRun_card:Rows.BootRunCardSaid:=TQ.card λx0 x1 x2 x3=>Go.Proofs.Tryz.S.law30_BootRun_ok (zJ0 x0 x1 x2 x3)
#print axioms bootRun_card
end Go.Proofs.YtmfjfpfolbnogaaGreatDoor
