/- UpdateCodec holds for all inputs: part -/
import Derived.Test.YtlfmgnodhnccoaaGreatDoorBZ28
import Derived.Test.YtlfmgnodhnccoaaGreatDoorBZ17
import Derived.Test.YtlfmgnodhnccoaaGreatDoorBZ27
set_option linter.all false
set_option maxRecDepth 100000
namespace Go.Proofs.YtlfmgnodhnccoaaGreatDoor
open Go Go.Sw Go.Proofs Go.Proofs.TT
theorem updateCodec_card:Rows.UpdateCodecCardSaid:=TQ.card λx0 x1 x2 x3 x4 x5 x6=>Go.Proofs.Tryz.S.law43_UpdateCodec_ok (zJf x0 x1 x2 x3 x4 x5 x6)
#print axioms updateCodec_card
end Go.Proofs.YtlfmgnodhnccoaaGreatDoor
