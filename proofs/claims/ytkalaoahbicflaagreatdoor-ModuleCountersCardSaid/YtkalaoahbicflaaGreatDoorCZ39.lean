/- A part. -/
import Derived.Test.YtkalaoahbicflaaGreatDoorRows
import Derived.JoinedOf
import Derived.RowKit
set_option linter.all false
set_option maxRecDepth 100000
set_option maxHeartbeats 4000000
namespace Go.Proofs.TQ
open Go Go.Proofs
open Go.Proofs.YtkalaoahbicflaaGreatDoor
def andI {a b:Bool} (ha:a=true) (hb:b=true):(a&&b)=true:=by rw [ha,hb];rfl
def yG9:joinedFacts Tryz.prog 3 Tryz.f3 Rows.moduleCountersSpec Rows.moduleCountersRow=true:=by
 unfold joinedFacts;repeat with_reducible refine andI ?_ ?_
 all_goals as_aux_lemma=>kernel_rfl
end Go.Proofs.TQ
