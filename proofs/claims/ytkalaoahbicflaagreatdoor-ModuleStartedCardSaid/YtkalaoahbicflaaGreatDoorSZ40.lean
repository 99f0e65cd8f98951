/- ModuleStarted holds for all inputs -/
import Derived.Test.YtkalaoahbicflaaGreatDoorRows
import Derived.JoinedOf
import Derived.RowKit
set_option linter.all false
set_option maxRecDepth 100000
set_option maxHeartbeats 4000000
namespace Go.Proofs.TQ
open Go Go.Proofs
open Go.Proofs.YtkalaoahbicflaaGreatDoor
theorem andJ {a b:Bool} (ha:a=true) (hb:b=true):(a&&b)=true:=by rw [ha,hb];rfl
theorem yE6:joinedFacts Tryz.prog 4 Tryz.f4 Rows.moduleStartedSpec Rows.moduleStartedRow=true:=by
 unfold joinedFacts;repeat with_reducible refine andJ ?_ ?_
 all_goals as_aux_lemma=>kernel_rfl
end Go.Proofs.TQ
