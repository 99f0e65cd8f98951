/- UpdatePolicy holds for all inputs -/
import Derived.Test.YtlipjldhnmcbiaaGreatDoorCZ6
import Derived.Test.YtlipjldhnmcbiaaGreatDoorCZ8
import Derived.Test.YtlipjldhnmcbiaaGreatDoorCZ11
import Derived.Test.YtlipjldhnmcbiaaGreatDoorCZ15
import Derived.Test.YtlipjldhnmcbiaaGreatDoorCZ10
set_option linter.all false
namespace Go.Proofs.Tryz.S
open Go Go.Sw Go.Proofs.TT
set_option maxRecDepth 100000
set_option maxHeartbeats 2000000
instance zKp{c d}:Ci (zU c d) 228 [.int .u32 c,.int .i64 d] (λb=>((qV0 b),[])):=hJ func228 R λ_ cx h n p=>by
 repeat' first|intro _ _ h|intro h|exact sF|(refine Ru ?_;first|refine RK.sbtE ‹_› R ?_|refine RK.oE ‹_› R ?_|refine O h λ_ a h=>RK.shl (of_decide_eq_true (yS a)) R ?_|refine O h λ_ a h=>RK.shr (of_decide_eq_true (yS a)) R ?_)|refine sG ?_|refine sH ?_ ?_|fail
instance zPr{b c}:Ci (tV b c) 184 [.bytes b,.int .u8 c.toNat] (λa=>((qI a),[])):=hJ func184 R λ_ cx h n p=>by
 repeat' first|intro _ _ h|intro h|exact sF|(refine Ru ?_;refine RK.ibx ⟨_,func216,by kernel_rfl,by kernel_rfl,by kernel_rfl,by kernel_rfl⟩ R ?_)|refine sG ?_|refine sH ?_ ?_|fail
instance zLu{b c}:Ci (jS b c) 383 [.sl 1 (List.map (PV.int .i64) b),.int .i64 c] (λa=>((qI a),[])):=hJ func383 R λ_ cx h n p=>by
 repeat' first|intro _ _ h|intro h|exact sF|(refine Lo ?_;refine qj 1002 R h [0,1,7,8] [] R [] [] R 0 (λ_=>([],[])) (λ_=>([],[])) ?_ ?_)|refine sG ?_|refine sH ?_ ?_|fail
instance zJe{c d}:Ci (rD c d) 345 [.sl 1 (List.map (PV.int .i64) c),.int .i64 d] (λb=>((qB b),[])):=hJ func345 R
instance zM5{c d}:Ci (eM c d) 430 [.bytes c,.int .u8 d.toNat] (λb=>((qY b),[])):=hJ func430 R λ_ cx h n p=>by
 repeat' first|intro _ _ h|intro h|exact sF|(refine Lo ?_;refine qj 2001 R h [1] [] R [] [] R 0 (λf=>([(0,qY f)],[])) (λg=>([(0,qY g)],[])) ?_ ?_)|refine sG ?_|refine sH ?_ ?_|fail
instance zRo{c d}:Ci (eR c d) 425 [.bytes c,.str d] (λb=>((qY b),[])):=hJ func425 R λ_ cx h n p=>by
 repeat' first|intro _ _ h|intro h|exact sF|(refine Ru ?_;refine O h λ_ a h=>RK.ixS (by exact a) R ?_)|refine sG ?_|refine sH ?_ ?_|fail
instance zU9{b c}:Ci (zD0 b c) 426 [.bytes b,.bytes c] (λa=>((qI a),[])):=hJ func426 R λ_ cx h n p=>by
 repeat' first|intro _ _ h|intro h|exact sF|(refine Ru ?_;refine RK.cpx ⟨_,func434,by kernel_rfl,by kernel_rfl,by kernel_rfl,by kernel_rfl⟩ R ?_)|refine sG ?_|refine sH ?_ ?_|fail
instance zXi{b c}:Ci (dM b c) 93 [.bytes b,.bytes c] (λa=>((qB a),[])):=hJ func93 R
end Go.Proofs.Tryz.S
