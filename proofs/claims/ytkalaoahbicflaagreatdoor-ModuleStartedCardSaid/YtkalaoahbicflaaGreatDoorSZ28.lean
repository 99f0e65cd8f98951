/- ModuleStarted holds for all inputs -/
import Derived.Test.YtkalaoahbicflaaGreatDoorSZ10
set_option linter.all false
open List renaming map -> Q0
namespace Go.Proofs.Tryz.S
open Go Go.Sw Go.Proofs.TT
set_option maxRecDepth 100000
set_option maxHeartbeats 2000000
instance zXu{c d}:Ci (xT c d) 20 [zB.pv c,.int .i64 d] (λr=>((.tu [.p (zB.pv r.1),.ag [qI r.2.Err,nS0 1,nS0 1,nS0 1]]),[])):=hI (λr=>mkS [qP 4,qP 5] [(4,.var (zB.av r.1 [])),(5,.var [qI r.2.Err,nS0 1,nS0 1,nS0 1])]) func20 R
instance zVp{d g}:Ci (zEm d g) 66 [zB.pv d,.int .i64 g] (λr=>((.tu [qI r.1,qI r.2]),[])):=hJ func66 R λ_ cx h n p=>by
 repeat' first|intro _ _ h|intro h|exact sF|(refine Lo ?_;refine uj 1002 R h [1,10,11] [] R [] [] R (λi=>([(12,qI i)],[])) (λe=>(SE (λ(b,c)=>(.ret,mkS [(4,qI b),(5,qI c)] [])) (λ_=>(.exit 0,mkE ([],[]) e)))) ?_ (fun|.inl ⟨_,_⟩,h=>?_|.inr (),h=>?_))|refine sG ?_|refine sH ?_ ?_|fail
instance zZa{b}:Ci (zGe b) 228 [.int .i64 b] (λa=>((qI a),[])):=hJ func228 R
instance zRn{d c}:Ci (zCg d c) 227 [.int .i64 d,.int .u8 c.toNat] (λb=>((qY b),[])):=hJ func227 R λ_ cx h n p=>by
 repeat' first|intro _ _ h|intro h|exact sF|(refine Ru ?_;first|refine RK.liB [c] R (qc R R qn) R ?_|refine O h λ_ a h=>RK.cA zGp R (ac R (rdB (l:=[c]) R) (ac R R an)) R ?_)|refine sG ?_|refine sH ?_ ?_|fail
instance zUa{c}:Ci (cG c) 129 [.int .i64 c] (λb=>((.p (zE.pv b)),[])):=hI (λb=>mkS [qP 2] [(2,.var (zE.av b []))]) func129 R λ_ cx h n p=>by
 repeat' first|intro _ _ h|intro h|exact sF|(refine Ru ?_;first|refine RK.li (eSl 1 PV.bytes) [_] R (qc R (rdM R) qn) (λ_=>R) R ?_|refine RK.shr (uT _) R ?_|refine RK.li PV.bytes [_] R (qc R R qn) (λ_=>R) R ?_|refine O h λ_ a h=>RK.apM PV.bytes (by exact a) R (rdM (f:=PV.bytes) (l:=[_]) R) (λ_=>R) R ?_|refine O h λ_ a h=>RK.apM (eSl 1 PV.bytes) (by exact a) R (rdM (f:=(eSl 1 PV.bytes)) (l:=[_]) R) (λ_=>R) R ?_)|(refine Lu ?_;first|exact W h R (tI (pC 2 0 R)<|lP p R)|exact W h R (tI (pD 2 0 R (rdM R))<|lP p R))|(refine Lo ?_;first|refine qj 1005 R h [0,2,3] [2] R [2,3] [2] R 0 (λ(m,d)=>([(12,qI m)],[(3,.var [.buf 1000008 d.length,qI 0]),bM0 1000008 1 (eSl 1 PV.bytes) d])) (λg=>([],[(3,.var [.buf 1000008 g.length,qI 0]),bM0 1000008 1 (eSl 1 PV.bytes) g])) (λ⟨_,_⟩ _ h=>?_) ?_ (tI (Imp.promC (k:=3) 0 1000008 R R R R)<|lP p R)|refine qj 2009 R h [0,2,3,4,12] [2,3,1000008] R [0,2,3,12] [2,3,1000008] R 2 (λ(i,o)=>([sB0 5 1000014 i,(6,qI o)],[bM0 1000014 1 PV.bytes i])) (λj=>([sB0 5 1000014 j],[bM0 1000014 1 PV.bytes j])) (λ⟨_,_⟩ _ h=>?_) ?_ (tI (pM 5 1000014 R)<|lP p R))|refine jb 9 h [0,2,3,4,5,6,12] [2,3,1000008,1000014] R 24 ?_ ?_|refine jq 1012 R h [0,2,3,4,5,6,12] [2,3,1000008,1000014] R (λr=>([(7,qU r)],[])) ?_ ?_|refine sG ?_|refine sH ?_ ?_|fail
instance zXg{d f g}:Ci (dC d f g) 68 [zB.pv d,zB.pv f,.int .i64 g] (λr=>((.tu [.p (zB.pv r.1),.ag [qI r.2.Err,nS0 1,nS0 1,nS0 1]]),[])):=hI (λr=>mkS [qP 6,qP 7] [(6,.var (zB.av r.1 [])),(7,.var [qI r.2.Err,nS0 1,nS0 1,nS0 1])]) func68 R
instance zOc{b c}:Ci (bQ b c) 178 [zF.pv b,.cptr (zF.pv c)] (λa=>((qB a),[])):=hJ func178 R
instance zM9{b c}:Ci (nV b c) 268 [.int .i64 b,.cptr (.int .i64 c)] (λa=>((qB a),[])):=hJ func268 R
instance yHf{c}:Ci (zHk c) 115 [.bytes c] (λb=>((.ptr 500 0),[(500,.var [qY b.b_,qI b.at_,qI b.e_])])):=hJ func115 R λ_ cx h n p=>by
 repeat' first|intro _ _ h|intro h|exact sF|(refine Lu ?_;exact W h R (tI (pD 6 0 R (rdB R))<|lR p [(500,6)] R))|refine sG ?_|refine sH ?_ ?_|fail
theorem iO {b c a}(h:vF b c=some a):Ok Tryz.prog 215 2 (mkS (qP 0 :: argE 1 [.int .i64 c]) [(0,.var (Q0 .p b.cs))]) (mkS [(0,.tu [])] [(0,.var (Q0 .p a.cs))]):=by
 refine hR (λa=>mkS [] [(0,.var [qY a.b_,qI a.at_,qI a.e_])]) a func215 R (λcx p=>zYp R Imp.refl) λcx n p=>?_;repeat' first|intro _ _ h|intro h|exact sF|(refine Lv ?_;exact Wr h (.inr R) (lP p R))|refine G1 n ?_|refine sG ?_|refine sH ?_ ?_|fail
theorem iP {f g i c d b}(h:sB f g i=some (c,d,b)):Ok Tryz.prog 216 3 (mkS (qP 0 :: argE 1 [.int .i64 g,.int .i64 i]) [(0,.var (Q0 .p f.cs))]) (mkS [(0,.tu [qY c,qI d])] [(0,.var (Q0 .p b.cs))]):=by
 refine hX (λ(c,d,b)=>mkS [(6,qY c),(7,qI d)] [(0,.var [qY b.b_,qI b.at_,qI b.e_])]) (c,d,b) func216 R (λcx p=>fD iG R (tM R) (tM R) .refl) λcx n p=>?_;delta sB at h;repeat' first|intro _ _ h|intro h|exact sF|(refine Ru ?_;refine O h λ_ a h=>RK.slB (by exact a) R R R (.some _ _ _ R) (.some _ _ _ R) .none (.inl R) R ?_)|(refine Lu ?_;exact W h R (tI (pU 6 R)<|lP p R))|refine sG ?_|refine sH ?_ ?_|fail
theorem vV {d f c b}(h:uD d f=some (c,b)):Ok Tryz.prog 116 2 (mkS (qP 0 :: argE 1 [.int .i64 f]) [(0,.var (Q0 .p d.cs))]) (mkS [(0,qI c)] [(0,.var (Q0 .p b.cs))]):=by
 refine hX (λ(c,b)=>mkS [(4,qI c)] [(0,.var [qY b.b_,qI b.at_,qI b.e_])]) (c,b) func116 R (r1 R) λcx n p=>?_;repeat' first|intro _ _ h|intro h|exact sF|(refine Ru ?_;first|refine RK.oE ‹_› R ?_|refine O h λ_ a h=>RK.cp (iO (by exact a)) R (a1 R) R ?_|refine O h λ_ a h=>RK.cp (iP (by exact a)) R (a2 R) R ?_)|(refine Lo ?_;refine qj 1012 R h [0,1,38,39] [0] R [0,1] [0] R 0 (λ(g,i)=>([(7,.p (.int .u64 g)),(40,qI i)],[])) (λj=>([(7,.p (.int .u64 j))],[])) (λ⟨_,_⟩ _ h=>?_) ?_)|refine jb 3 h [0,1] [0] R 20 ?_ ?_|refine sG ?_|refine sH ?_ ?_|fail
instance zS6{b c}:Ci (zDd b c) 272 [zF.pv b,.bytes c] (λa=>((.p (zF.pv a)),[])):=hI (λa=>mkS [qP 4] [(4,.var (zF.av a []))]) func272 R
instance zUm{f}:Ci (zDe f) 114 [.bytes f] (λr=>((.tu [qI r.1,qI r.2]),[])):=hJ func114 R λ_ cx h n p=>by
 repeat' first|intro _ _ h|intro h|exact sF|(refine Ru ?_;first|refine RK.oE ‹_› R ?_|refine O h λ_ a h=>RK.ixC (by exact a) R (λ_=>R) R ?_)|refine jy 5 h [0] [] R (λg=>([(24,qB g)],[])) ?_ ?_|refine sG ?_|refine sH ?_ ?_|fail
theorem pK {f g b c}(h:pA f g=some (b,c)):Ok Tryz.prog 117 2 (mkS (qP 0 :: argE 1 [.int .i64 g]) [(0,.var (Q0 .p f.cs))]) (mkS [sB0 0 500 b] [(0,.var (Q0 .p c.cs)),bB0 500 b]):=by
 refine hX (λ(b,c)=>mkS [sB0 4 500 b] [(0,.var [qY c.b_,qI c.at_,qI c.e_]),bB0 500 b]) (b,c) func117 R (r1 R) λcx n p=>?_;repeat' first|intro _ _ h|intro h|exact sF|(refine Ru ?_;first|refine RK.oE ‹_› R ?_|refine RK.adE ‹_› R ?_|refine RK.mfA R ?_|refine O h λ_ a h=>RK.cp (iO (by exact a)) R (a1 R) R ?_|refine O h λ_ a h=>RK.cpf (tx:=0) (iP (by exact a)) R (a2 R) R ?_)|(refine Lu ?_;exact W h R (tI (pM 4 500 R)<|lP p R))|refine iQ 43 R [0,5,8,43] [0] R ?_|refine sG ?_|refine sH ?_ ?_|fail
theorem zC8 {c b a}(h:bH c=some (b,a)):Ok Tryz.prog 217 1 (mkS (qP 0 :: argE 1 []) [(0,.var (Q0 .p c.cs))]) (mkS [(0,qI b)] [(0,.var (Q0 .p a.cs))]):=by
 refine hX (λ(b,a)=>mkS [(2,qI b)] [(0,.var [qY a.b_,qI a.at_,qI a.e_])]) (b,a) func217 R (r1 R) λcx n p=>sD
theorem zDm {d c b}(h:zBg d=some (c,b)):Ok Tryz.prog 119 1 (mkS (qP 0 :: argE 1 []) [(0,.var (Q0 .p d.cs))]) (mkS [(0,qI c)] [(0,.var (Q0 .p b.cs))]):=by
 refine hX (λ(c,b)=>mkS [(2,qI c)] [(0,.var [qY b.b_,qI b.at_,qI b.e_])]) (c,b) func119 R (r1 R) λcx n p=>?_;repeat' first|intro _ _ h|intro h|exact sF|(refine Ru ?_;refine O h λ_ a h=>RK.cp (zC8 (by exact a)) R an R ?_)|refine jr 1 h [0] [] R (λ(f,g,i,j)=>([(12,qB f)],[(0,.var [qY g,qI i,qI j])])) ?_ λ⟨_,_,_,_⟩ h=>?_|refine sG ?_|refine sH ?_ ?_|fail
end Go.Proofs.Tryz.S
