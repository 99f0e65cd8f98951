/- A part. -/
import Derived.Test.YtkalaoahbicflaaGreatDoorCZ9
set_option linter.all false
open List renaming map -> Q0
namespace Go.Proofs.Tryz.S
open Go Go.Sw Go.Proofs.TT
set_option maxRecDepth 100000
set_option maxHeartbeats 2000000
instance zYn{c d}:Ci (wK c d) 20 [zB.pv c,.int .i64 d] (λr=>((.tu [.p (zB.pv r.1),.ag [qI r.2.Err,nS0 1,nS0 1,nS0 1]]),[])):=hI (λr=>mkS [qP 4,qP 5] [(4,.var (zB.av r.1 [])),(5,.var [qI r.2.Err,nS0 1,nS0 1,nS0 1])]) func20 R
instance zWo{d g}:Ci (sJ d g) 66 [zB.pv d,.int .i64 g] (λr=>((.tu [qI r.1,qI r.2]),[])):=hJ func66 R λ_ cx h n p=>by
 repeat' first|intro _ _ h|intro h|exact sF|(refine Lo ?_;refine uj 1002 R h [1,10,11] [] R [] [] R (λi=>([(12,qI i)],[])) (λe=>(SE (λ(b,c)=>(.ret,mkS [(4,qI b),(5,qI c)] [])) (λ_=>(.exit 0,mkE ([],[]) e)))) ?_ (fun|.inl ⟨_,_⟩,h=>?_|.inr (),h=>?_))|refine sG ?_|refine sH ?_ ?_|fail
instance yEl{d}:Ci (dE d) 233 [.bytes d] (λb=>((.buf 500 b.length),[bB0 500 b])):=hJ func233 R λ_ cx h n p=>by
 repeat' first|intro _ _ h|intro h|with_reducible refine V h λ_ _ h=>?_|(refine Ru ?_;first|refine RK.e R ?_|refine RK.muE ‹_› R ?_|refine RK.lnS R (rdB R) R ?_|refine RK.z R ?_|refine RK.lnS R R R ?_|refine RK.liB ([128]:By) R (qc R R qn) R ?_|refine RK.rem R R R ?_|refine RK.liB ([0]:By) R (qc R R qn) R ?_|refine RK.shr (tX _) R ?_|refine RK.liB [_] R (qc R R qn) R ?_|refine O h λ_ a h=>RK.apB jp R (rdB (l:=([128]:By)) R) R ?_|refine O h λ_ a h=>RK.apB jp R (rdB (l:=([0]:By)) R) R ?_|refine O h λ_ a h=>RK.apB jp R (rdB (l:=[_]) R) R ?_|refine O h λ_ a h=>RK.apB jp R R R ?_|refine O h λ_ a h=>RK.mk0 (c:=.bytes []) jp R ?_)|(refine Lu ?_;first|exact Ez h p|exact W h R (lR p [(500,9)] R))|(refine Lo ?_;first|refine Qi 2002 R h ([(0,_)],[]) R 0 (λf=>([sB0 3 9 f],[bB0 9 f])) (λg=>([sB0 3 9 g],[bB0 9 g])) (lP p R) (λ_ _ h=>?_) λ_ h=>?_|refine Qj 2006 R h ([(4,_)],[]) R ([],[]) R 2 (λ(i,k)=>([sB0 3 9 i,(5,qI k)],[bB0 9 i])) (λj=>([sB0 3 9 j],[bB0 9 j])) (lP p R) (λ⟨_,_⟩ _ h=>?_) λ_ h=>?_)|refine ZB R ?_|refine Cs h R ?_ ?_
instance zUs{d}:Ci (oU d) 235 [.sl 1 (Q0 (PV.int .u32) d)] (λb=>((.buf 500 b.length),[bB0 500 b])):=hJ func235 R λ_ cx h n p=>by
 repeat' first|intro _ _ h|intro h|exact sF|(refine Ru ?_;first|refine RK.liB [_,_,_,_] R (qc R R (qc R R (qc R R (qc R R qn)))) R ?_|refine O h λ_ a h=>RK.apB jp R (rdB (l:=[_,_,_,_]) R) R ?_|refine O h λ_ a h=>RK.mk0 (c:=.bytes []) jp R ?_)|(refine Lo ?_;refine qj 1003 R h [10,11] [] R [] [] R 0 (λ(g,j)=>([sB0 3 9 g,(12,qI j)],[bB0 9 g])) (λi=>([sB0 3 9 i],[bB0 9 i])) (λ⟨_,_⟩ _ h=>?_) ?_)|refine sG ?_|refine sH ?_ ?_|fail
instance zJy{d g}:Ci (vR d g) 157 [yH.pv d,.int .i64 g] (λr=>((.tu [qI r.1,qB r.2]),[])):=hJ func157 R
instance zPf{b c}:Ci (aB b c) 178 [zF.pv b,.cptr (zF.pv c)] (λa=>((qB a),[])):=hJ func178 R
instance aX{c d}:Ci (wL c d) 265 [.sl 8 (Q0 zF.pv c),.fn 178 [] [.cptr (zF.pv d)]] (λb=>((qI b),[])):=hJ func265 R λ_ cx h n p=>by
 repeat' first|intro _ _ h|intro h|exact sF|(refine Ru ?_;refine O h λ_ a h=>RK.cf (tx:=0) (uC jp) R (a1 R) R ?_)|(refine Lo ?_;refine uj 1002 R h [0,1,7] [] R [] [] R (λg=>([(8,qI g)],[])) (λe=>(SE (λb=>(.ret,mkS [(4,qI b)] [])) (λ_=>(.exit 0,mkE ([],[]) e)))) ?_ (fun|.inl _,h=>?_|.inr (),h=>?_))|refine sG ?_|refine sH ?_ ?_|fail
instance zCn{b c}:Ci (kC b c) 268 [.int .i64 b,.cptr (.int .i64 c)] (λa=>((qB a),[])):=hJ func268 R
def kG {c d b}(h:wX c d=some b):Z 341 2 [.sl 1 (Q0 (PV.int .i64) c),.fn 268 [] [.cptr (.int .i64 d)]] (qI b) []:=by
 refine hW (λb=>mkS [(4,qI b)] []) b func341 R (r1 R) λcx n p=>?_;repeat' first|intro _ _ h|intro h|exact sF|(refine Ru ?_;refine O h λ_ a h=>RK.cf (tx:=0) (uC jp) R (a1 R) R ?_)|(refine Lo ?_;refine uj 1002 R h [0,1,7] [] R [] [] R (λg=>([(8,qI g)],[])) (λe=>(SE (λb=>(.ret,mkS [(4,qI b)] [])) (λ_=>(.exit 0,mkE ([],[]) e)))) ?_ (fun|.inl _,h=>?_|.inr (),h=>?_))|refine sG ?_|refine sH ?_ ?_|fail
instance yJ3{c}:Ci (zCe c) 115 [.bytes c] (λb=>((.ptr 500 0),[(500,.var [qY b.b_,qI b.at_,qI b.e_])])):=hJ func115 R λ_ cx h n p=>by
 repeat' first|intro _ _ h|intro h|exact sF|(refine Lu ?_;exact W h R (tI (pD 6 0 R (rdB R))<|lR p [(500,6)] R))|refine sG ?_|refine sH ?_ ?_|fail
def zDq {b c a}(h:pJ b c=some a):Ok Tryz.prog 215 2 (mkS (qP 0 :: argE 1 [.int .i64 c]) [(0,.var (Q0 .p b.cs))]) (mkS [(0,.tu [])] [(0,.var (Q0 .p a.cs))]):=by
 refine hR (λa=>mkS [] [(0,.var [qY a.b_,qI a.at_,qI a.e_])]) a func215 R (λcx p=>zJs R Imp.refl) λcx n p=>?_;repeat' first|intro _ _ h|intro h|exact sF|(refine Lv ?_;exact Wr h (.inr R) (lP p R))|refine G1 n ?_|refine sG ?_|refine sH ?_ ?_|fail
def zDw {f g i c d b}(h:uE f g i=some (c,d,b)):Ok Tryz.prog 216 3 (mkS (qP 0 :: argE 1 [.int .i64 g,.int .i64 i]) [(0,.var (Q0 .p f.cs))]) (mkS [(0,.tu [qY c,qI d])] [(0,.var (Q0 .p b.cs))]):=by
 refine hX (λ(c,d,b)=>mkS [(6,qY c),(7,qI d)] [(0,.var [qY b.b_,qI b.at_,qI b.e_])]) (c,d,b) func216 R (λcx p=>mZ nB R (tM R) (tM R) .refl) λcx n p=>?_;delta uE at h;repeat' first|intro _ _ h|intro h|exact sF|(refine Ru ?_;refine O h λ_ a h=>RK.slB jp R R R (.some _ _ _ R) (.some _ _ _ R) .none (.inl R) R ?_)|(refine Lu ?_;exact W h R (tI (pU 6 R)<|lP p R))|refine sG ?_|refine sH ?_ ?_|fail
def fF {d f c b}(h:sY d f=some (c,b)):Ok Tryz.prog 116 2 (mkS (qP 0 :: argE 1 [.int .i64 f]) [(0,.var (Q0 .p d.cs))]) (mkS [(0,qI c)] [(0,.var (Q0 .p b.cs))]):=by
 refine hX (λ(c,b)=>mkS [(4,qI c)] [(0,.var [qY b.b_,qI b.at_,qI b.e_])]) (c,b) func116 R (r1 R) λcx n p=>?_;repeat' first|intro _ _ h|intro h|exact sF|(refine Ru ?_;first|refine RK.oE ‹_› R ?_|refine O h λ_ a h=>RK.cp (zDq jp) R (a1 R) R ?_|refine O h λ_ a h=>RK.cp (zDw jp) R (a2 R) R ?_)|(refine Lo ?_;refine qj 1012 R h [0,1,38,39] [0] R [0,1] [0] R 0 (λ(g,i)=>([(7,.p (.int .u64 g)),(40,qI i)],[])) (λj=>([(7,.p (.int .u64 j))],[])) (λ⟨_,_⟩ _ h=>?_) ?_)|refine jb 3 h [0,1] [0] R 20 ?_ ?_|refine sG ?_|refine sH ?_ ?_|fail
instance zUx{b c}:Ci (zD5 b c) 272 [zF.pv b,.bytes c] (λa=>((.p (zF.pv a)),[])):=hI (λa=>mkS [qP 4] [(4,.var (zF.av a []))]) func272 R
instance zUh{f}:Ci (zD0 f) 114 [.bytes f] (λr=>((.tu [qI r.1,qI r.2]),[])):=hJ func114 R λ_ cx h n p=>by
 repeat' first|intro _ _ h|intro h|exact sF|(refine Ru ?_;first|refine RK.oE ‹_› R ?_|refine O h λ_ a h=>RK.ixC jp R (λ_=>R) R ?_)|refine jy 5 h [0] [] R (λg=>([(24,qB g)],[])) ?_ ?_|refine sG ?_|refine sH ?_ ?_|fail
def zDt {c b a}(h:aG c=some (b,a)):Ok Tryz.prog 217 1 (mkS (qP 0 :: argE 1 []) [(0,.var (Q0 .p c.cs))]) (mkS [(0,qI b)] [(0,.var (Q0 .p a.cs))]):=by
 refine hX (λ(b,a)=>mkS [(2,qI b)] [(0,.var [qY a.b_,qI a.at_,qI a.e_])]) (b,a) func217 R (r1 R) λcx n p=>sD
def zEa {d c b}(h:zBs d=some (c,b)):Ok Tryz.prog 119 1 (mkS (qP 0 :: argE 1 []) [(0,.var (Q0 .p d.cs))]) (mkS [(0,qI c)] [(0,.var (Q0 .p b.cs))]):=by
 refine hX (λ(c,b)=>mkS [(2,qI c)] [(0,.var [qY b.b_,qI b.at_,qI b.e_])]) (c,b) func119 R (r1 R) λcx n p=>?_;repeat' first|intro _ _ h|intro h|exact sF|(refine Ru ?_;refine O h λ_ a h=>RK.cp (zDt jp) R an R ?_)|refine jr 1 h [0] [] R (λ(f,g,i,j)=>([(12,qB f)],[(0,.var [qY g,qI i,qI j])])) ?_ λ⟨_,_,_,_⟩ h=>?_|refine sG ?_|refine sH ?_ ?_|fail
end Go.Proofs.Tryz.S
