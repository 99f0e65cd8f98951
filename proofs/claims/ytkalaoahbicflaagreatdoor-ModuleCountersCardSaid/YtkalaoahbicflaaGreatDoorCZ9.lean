/- A part. -/
import Derived.Test.YtkalaoahbicflaaGreatDoorCZ8
set_option linter.all false
namespace Go.Proofs.Tryz.S
open Go Go.Sw Go.Proofs.TT
set_option maxRecDepth 100000
set_option maxHeartbeats 2000000
instance zJw{c d}:Ci (zR c d) 312 [.int .u32 c,.int .i64 d] (λb=>((qV0 b),[])):=hJ func312 R λ_ cx h n p=>by
 repeat' first|intro _ _ h|intro h|exact sF|(refine Ru ?_;first|refine RK.sbtE ‹_› R ?_|refine RK.oE ‹_› R ?_|refine O h λ_ a h=>RK.shl (of_decide_eq_true (yW a)) R ?_|refine O h λ_ a h=>RK.shr (of_decide_eq_true (yW a)) R ?_)|refine sG ?_|refine sH ?_ ?_|fail
instance zKp{c d}:Ci (qR c d) 270 [.sl 1 (List.map (PV.int .i64) c),.int .i64 d] (λb=>((qI b),[])):=hJ func270 R λ_ cx h n p=>by
 repeat' first|intro _ _ h|intro h|exact sF|(refine Lo ?_;refine uj 1002 R h [0,1,7] [] R [] [] R (λg=>([(8,qI g)],[])) (λe=>(SE (λb=>(.ret,mkS [(4,qI b)] [])) (λ_=>(.exit 0,mkE ([],[]) e)))) ?_ (fun|.inl _,h=>?_|.inr (),h=>?_))|refine sG ?_|refine sH ?_ ?_|fail
instance zI7{c d}:Ci (vG c d) 188 [.sl 1 (List.map (PV.int .i64) c),.int .i64 d] (λb=>((qB b),[])):=hJ func188 R
end Go.Proofs.Tryz.S
