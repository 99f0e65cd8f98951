/- AppraiseTamper (law 37: evidence that was accepted is refused if its log is changed or cut, and for another challenge, but for a collision of the frames of the nonce) is proved for every input, under no condition of ours; this text is a part of that proof. -/
import Derived.Test.YteadpnddgpfbdaaGreatDoorZ14
import Derived.Test.YteadpnddgpfbdaaGreatDoorZ10
import Derived.Test.YteadpnddgpfbdaaGreatDoorZ13
set_option linter.all false
set_option maxRecDepth 100000
namespace Go.Proofs.YteadpnddgpfbdaaGreatDoor
open Go Go.Sw Go.Proofs Go.Proofs.TT
theorem appraiseTamper_card:Rows.AppraiseTamperCardSaid:=TQ.card λx0 x1 x2 x3 x4 x5 x6 x7=>Go.Proofs.Tryz.S.law37_AppraiseTamper_ok (eG x0 x1 x2 x3 x4 x5 x6 x7)
#print axioms appraiseTamper_card
end Go.Proofs.YteadpnddgpfbdaaGreatDoor
