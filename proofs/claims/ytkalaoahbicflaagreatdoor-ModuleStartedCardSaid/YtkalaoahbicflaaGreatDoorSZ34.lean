/- ModuleStarted holds for all inputs -/
import Derived.Test.YtkalaoahbicflaaGreatDoorSZ6
import Derived.Test.YtkalaoahbicflaaGreatDoorSZ26
import Derived.Test.YtkalaoahbicflaaGreatDoorSZ33
set_option linter.all false
namespace Go.Proofs.Tryz.S
open Go Go.Sw Go.Proofs.TT
set_option maxRecDepth 100000
set_option maxHeartbeats 2000000
instance zOs{b c}:Ci (oJ b c) 21 [zB.pv b,zC.pv c] (λa=>((qB a),[])):=hJ func21 R λ_ cx h n p=>by
 repeat' first|intro _ _ h|intro h|exact sF|(refine Lo ?_;refine qj 1002 R h [2,3,15,16,17] [2,3] R [2,3] [2,3] R 0 (λ_=>([],[])) (λ_=>([],[])) ?_ ?_)|refine sG ?_|refine sH ?_ ?_|fail
instance zOu{d f g}:Ci (vP d f g) 7 [zB.pv d,.int .i64 f,zC.pv g] (λr=>((.tu [.p (zB.pv r.1),.ag [qI r.2.Err,qL 1 (PV.int .i64) r.2.Ints,nS0 1,nS0 1]]),[])):=hI (λr=>mkS [qP 6,qP 7] [(6,.var (zB.av r.1 [])),(7,.var [qI r.2.Err,qL 1 (PV.int .i64) r.2.Ints,nS0 1,nS0 1])]) func7 R λ_ cx h n p=>by
 repeat' first|intro _ _ h|intro h|exact sF|(refine Lu ?_;exact W h R (tI (pC 7 1 R)<|lP p R))|refine jb 4 h [1,3,5,6,7] [3,5,6,7] R 22 ?_ ?_|refine jb 6 h [1,3,5,6,7] [3,5,6,7] R 33 ?_ ?_|refine sG ?_|refine sH ?_ ?_|fail
instance zZp{f g i}:Ci (dK f g i) 14 [zB.pv f,.int .i64 g,.bytes i] (λr=>((.tu [.p (zB.pv r.1),.buf 500 r.2.length]),[bB0 500 r.2])):=hI (λr=>mkS [qP 6,(7,.buf 500 r.2.length)] [(6,.var (zB.av r.1 [])),bB0 500 r.2]) func14 R λ_ cx h n p=>by
 repeat' first|intro _ _ h|intro h|exact sF|refine iQ 999999 R [6,7] [6,33500] R ?_|refine sG ?_|refine sH ?_ ?_|fail
theorem zGq {b}(h:gP=some b):Z 5 0 [] (qB b) []:=by
 refine hW (λb=>mkS [(0,qB b)] []) b func5 R (r1 R) λcx n p=>?_;repeat' first|intro _ _ h|intro h|(refine Ru ?_;first|refine RK.e R ?_|refine RK.lnM R R ?_|refine RK.lnS R (rdB R) R ?_|refine RK.gl R ?_|refine RK.z R ?_|refine RK.pk R ?_|refine RK.bl R (pc 3 R pn) R ?_|refine RK.liB ([83,87,0,6,4,0]:By) R (qc R R (qc R R (qc R R (qc R R (qc R R (qc R R qn)))))) R ?_|refine RK.cc h R (ac R R (ac R R (ac R (rdB (l:=([83,87,0,6,4,0]:By)) R) an))) ?_|refine O h λ_ a h=>RK.ixBU (by exact a) R R R (rdB R) R R ?_|refine RK.cc h R (a3 R) ?_|refine RK.cc h R (a3 R) ?_|refine O h λ_ a h=>RK.ixM (f:=(PV.int .i64)) (by exact a) R R R ?_|refine RK.gp h R ?_ ?_)|exact Ez h p|refine Jr 4 n h ([],[]) R (λc=>([(0,qB c)],[])) (λ_ h=>?_) λ_ h=>?_|refine ZB R ?_
theorem law23_ModuleStartedS_ok {c d g i j k m b}(h:uW c d g i j k m=some b):Z 4 7 [.int .i64 c,.bytes d,.bytes g,.int .i64 i,.int .i64 j,.int .i64 k,.bool m] (qB b) []:=by
 refine hW (λb=>mkS [(14,qB b)] []) b func4 R (r1 R) λcx n p=>?_;repeat' first|intro _ _ h|intro h|(refine Ru ?_;first|refine RK.e R ?_|refine RK.z R ?_|refine RK.gl R ?_|refine RK.pk R ?_|refine RK.lnS R R R ?_|refine RK.ldN R ?_|refine RK.li (PV.int .i64) ([0]:List Int) R (qc R R qn) (λ_=>R) R ?_|refine RK.bl R (pc 3 R (pc 36 R pn)) R ?_|refine RK.beq R R R ?_|refine RK.cc h R (ac R R (ac R R (ac R (zBc (zV R (zV R (zV R (zV (rdM (f:=(PV.int .i64)) (l:=([0]:List Int)) R) (zV R rT)))))) an))) ?_|refine O h λ_ a h=>RK.cl (zGq (by exact a)) R an R ?_|refine RK.cc h R (a3 R) ?_|refine RK.cc h R (ac R R (ac R R (ac R R (ac R R (ac R R an))))) ?_|refine RK.cc h R (a1 R) ?_|refine RK.cc h R (a1 R) ?_|refine RK.cc h R (a2 R) ?_|refine RK.cc h R (a3 R) ?_|refine RK.cc h R (a2 R) ?_|refine RK.gp h R ?_ ?_)|exact Ez h p|refine Jr 7 n h ([(6,_),(15,_),(16,_)],[(15,_),(16,_)]) R (λo=>([(44,qB o)],[])) (λ_ h=>?_) λ_ h=>?_|refine Js 1010 R R h ([(6,_),(16,_),(17,_)],[(16,_)]) R (λ(q,r,s,t,u,v,w,x,y)=>([],[(17,.var (zU.av q [qB r,qB s,nS0 1,qI t,qI u,qB v,qI w,qL 8 zH.pv x,qL 9 zR.pv y,nS0 1,nS0 1]))])) (λ_ h=>?_) λ⟨_,_,_,_,_,_,_,_,_⟩ h=>?_|refine Jr 14 n h ([],[]) R (λz=>([(14,qB z)],[])) (λ_ h=>?_) λ_ h=>?_|refine ZB R ?_|refine Cs h R ?_ ?_
end Go.Proofs.Tryz.S
