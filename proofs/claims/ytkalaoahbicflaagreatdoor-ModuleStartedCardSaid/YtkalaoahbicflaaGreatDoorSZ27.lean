/- ModuleStarted holds for all inputs -/
import Derived.Test.YtkalaoahbicflaaGreatDoorSZ10
set_option linter.all false
namespace Go.Proofs.Tryz.S
open Go Go.Sw Go.Proofs.TT
set_option maxRecDepth 100000
set_option maxHeartbeats 2000000
instance zOi{b c}:Ci (oR b c) 61 [.int .i64 b,.int .i64 c] (λa=>((qB a),[])):=hJ func61 R λ_ cx h n p=>by
 repeat' first|intro _ _ h|intro h|exact sF|refine jb 1 h [] [] R 4 ?_ ?_|refine sG ?_|refine sH ?_ ?_|fail
instance zYq{c f}:Ci (dM c f) 311 [.bytes c,.int .i64 f] (λb=>((qV0 b),[])):=hJ func311 R λ_ cx h n p=>by
 repeat' first|intro _ _ h|intro h|exact sF|(refine Ru ?_;refine RK.oE ‹_› R ?_)|refine sG ?_|refine sH ?_ ?_|fail
end Go.Proofs.Tryz.S
