/- what a loss of power at a start leaves -/
import Derived.Test.YtpbnmpopifipbaaGreatDoorCZ16
import Derived.Test.YtpbnmpopifipbaaGreatDoorCZ12
import Derived.Test.YtpbnmpopifipbaaGreatDoorCZ15
set_option linter.all false
set_option maxRecDepth 100000
namespace Go.Proofs.YtpbnmpopifipbaaGreatDoor
open Go Go.Sw Go.Proofs Go.Proofs.TT
theorem bootCut_card:Rows.BootCutCardSaid:=TQ.card λx0 x1 x2 x3 x4=>Go.Proofs.Tryz.S.law30_BootCut_ok (zLc x0 x1 x2 x3 x4)
#print axioms bootCut_card
end Go.Proofs.YtpbnmpopifipbaaGreatDoor
