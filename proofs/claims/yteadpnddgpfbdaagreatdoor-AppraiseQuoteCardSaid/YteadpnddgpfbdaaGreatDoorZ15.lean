/- AppraiseQuote (law 37: the program and the reference say the same of a quote, or give the same error) is proved for every input, under no condition of ours; this text is a part of that proof. -/
import Derived.Test.YteadpnddgpfbdaaGreatDoorZ14
import Derived.Test.YteadpnddgpfbdaaGreatDoorZ10
import Derived.Test.YteadpnddgpfbdaaGreatDoorZ13
set_option linter.all false
set_option maxRecDepth 100000
namespace Go.Proofs.YteadpnddgpfbdaaGreatDoor
open Go Go.Sw Go.Proofs Go.Proofs.TT
theorem appraiseQuote_card:Rows.AppraiseQuoteCardSaid:=TQ.card λn a b c codes changes active machine other keys=>Go.Proofs.Tryz.S.law37_AppraiseQuote_ok (appraiseQuote_true ⟨n,a,b,c⟩ codes changes active machine other keys)
#print axioms appraiseQuote_card
end Go.Proofs.YteadpnddgpfbdaaGreatDoor
