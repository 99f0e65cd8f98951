/- the slots after installing -/
import Derived.Test.YtmfjfpfolbnogaaGreatDoorEZ14
import Derived.Test.YtmfjfpfolbnogaaGreatDoorEZ10
import Derived.Test.YtmfjfpfolbnogaaGreatDoorEZ13
set_option linter.all false
set_option maxRecDepth 100000
namespace Go.Proofs.YtmfjfpfolbnogaaGreatDoor
open Go Go.Sw Go.Proofs Go.Proofs.TT
theorem bootInstall_card:Rows.BootInstallCardSaid:=TQ.card λx0 x1 x2 x3 x4=>Go.Proofs.Tryz.S.law30_BootInstall_ok (zBh x0 x1 x2 x3 x4)
#print axioms bootInstall_card
end Go.Proofs.YtmfjfpfolbnogaaGreatDoor
