/- AppraiseAccepted (law 37: what an accepted verdict means) is proved for every input, under no condition of ours; this text is a part of that proof. -/
import Derived.Test.YteadpnddgpfbdaaGreatDoorZ5
import Derived.Test.YteadpnddgpfbdaaGreatDoorZ7
import Derived.Test.YteadpnddgpfbdaaGreatDoorZ10
set_option linter.all false
namespace Go.Proofs.Tryz.S
open Go Go.Sw Go.Proofs.TT
set_option maxRecDepth 100000
set_option maxHeartbeats 2000000
theorem zD6 {ta c g ua i}(h:iG ta c g ua=some i):Z 39 4 [.bytes ta,api_Log.pv c,.int .i64 g,.bytes ua] (.p (api_Evidence.pv i)) []:=by
 refine hA (λi=>mkS [qP 8] [(8,.var [qI i.Machine,qY i.Attest,qY i.Signature,qY i.Log])]) i func39 R (λcx p=>xG wM R (.cellN _ _ _ _ _ _ R R R R (zJ R)) (tI (pU 0 R)<|lP p R)) λcx n p=>S<|G n<|.bx R<|.al R<|.e R<|S<|G n<|.mv R<|O h λge kc h=>.cl (oT kc) R (a2 R) R<|.as R<|.e R<|S<|G n<|.mv R<|.mu R<|.mv R ?_
 obtain ⟨⟨ie,je⟩,lc,h⟩:=bS h
 refine .cp (zB lc) R (a1 R) R<|V h λke mc h=>.adE mc R<|.as R<|.e R<|S<|G n<|.ldW R<|.mv R<|.mv R<|.mv R<|O h λa oc h=>.cl (dC oc) R (a4 R) R<|.al R<|.stW R<|.e R<|S<|G n<|.ldW R<|.al R<|.stW R<|.e R<|S<|S<|G n<|.mv R ?_
 obtain ⟨⟨le,me⟩,rc,h⟩:=bS h
 refine .cp (zB rc) R (a1 R) R<|.as R<|.e R<|B<|Q h 0 (λ(m,j,o,q,r,s,t,va,u,v,wa,xa)=>mkS [(2,qI g),qP 8,(9,.ptr 19500 0),(10,qI m),qP 11,qP 12,(13,qI j)] [(8,.var [qI 0,.nl (.bytes []),.nl (.bytes []),.nl (.bytes [])]),(11,.var [qY a.Key,qY o,qI q,qI r,qI a.Clock,qB a.Safe,qI a.Updates,qI s,qI t,qY va]),(12,.var [qI u,qI c.Resets,qL 4 api_Event.pv v]),(19500,.var [qY wa,qI xa])]) (λ(ya,za,ab,bb,cb,db,eb,fb,gb,ib,jb)=>mkS [(2,qI g),qP 8,(9,.ptr 19500 0),(10,qI ya),qP 11,qP 12] [(8,.var [qI 0,.nl (.bytes []),.nl (.bytes []),.nl (.bytes [])]),(11,.var [qY a.Key,qY za,qI ab,qI bb,qI a.Clock,qB a.Safe,qI a.Updates,qI cb,qI db,qY eb]),(12,.var [qI fb,qI c.Resets,qL 4 api_Event.pv gb]),(19500,.var [qY ib,qI jb])]) (lP p R) ?_ λsc h=>?_
 rintro ⟨m,j,o,q,r,s,t,va,u,v,wa,xa⟩ oe h
 refine S<|S<|G n<|.mv R<|.gt R<|.e R<|C h (λz h=>?_) λz h=>F z R<|X<|E h p R
 refine A z R<|K<|S<|B<|S<|G n<|.mv R ?_
 obtain ⟨⟨qe,re⟩,tc,h⟩:=bS h
 refine .cp (zB tc) R (a1 R) R<|.e R<|J h (λ(kb,lb,mb,ob,qb,rb,sb,tb,ub,vb,wb)=>mkS [(2,qI g),qP 8,(9,.ptr 19500 0),(10,qI kb),qP 11,qP 12,(13,qI j)] [(8,.var [qI 0,.nl (.bytes []),.nl (.bytes []),.nl (.bytes [])]),(11,.var [qY a.Key,qY lb,qI mb,qI ob,qI a.Clock,qB a.Safe,qI a.Updates,qI qb,qI rb,qY sb]),(12,.var [qI tb,qI c.Resets,qL 4 api_Event.pv ub]),(19500,.var [qY vb,qI wb])]) (λxb h=>?_) λxb h=>?_
 refine B<|S<|G n<|.eq R<|.as R<|.e R<|C h (λaa h=>?_) λaa h=>?_
 refine A aa R<|G n<|.mv R ?_
 obtain ⟨⟨yb,se⟩,uc,h⟩:=bS h
 exact .cp (zB uc) R (a1 R) R<|.cv8 R<|.liB [u8 yb] R (qc R R qn) R<|O h λte vc h=>.cl (zFs vc) R (ac R (rdB (l:=[u8 yb]) R) an) R<|.fa R<|.st1 R<|.e R<|E h p R
 refine F aa R<|S<|G n<|.eq R<|.as R<|.e R<|C h (λba h=>?_) λba h=>?_
 refine A ba R<|Y n<|.fa R<|.ld R<|.mv R ?_
 obtain ⟨⟨ue,ve⟩,wc,h⟩:=bS h
 exact .cp (zB wc) R (a1 R) R<|.ad R<|.ad R<|.fa R<|.st1 R<|.d R (by kernel_rfl)<|E h p R
 refine F ba R<|S<|G n<|.eq R<|.as R<|.e R<|C h (λca h=>?_) λca h=>?_
 refine A ca R<|G n<|.mv R ?_
 obtain ⟨⟨we,xe⟩,xc,h⟩:=bS h
 exact .cp (zB xc) R (a1 R) R<|.fa R<|.st1 R<|.e R<|E h p R
 refine F ca R<|S<|G n<|.eq R<|.as R<|.e R<|C h (λda h=>?_) λda h=>?_
 refine A da R<|Y n<|.mv R ?_
 obtain ⟨⟨ye,ze⟩,yc,h⟩:=bS h
 refine .cp (zB yc) R (a1 R) R<|.fa R<|C h (λea h=>?_) λea h=>?_
 refine .iaE 0 ea R<|.ld R<|.mv R ?_
 obtain ⟨⟨af,bf⟩,zc,h⟩:=bS h
 exact .cp (zB zc) R (a1 R) R<|.cv R<|.shl (xP _) R<|.xo R<|.fa R<|.iaE 0 ea R<|.st1 R<|.d R (by kernel_rfl)<|E h p R
 refine C h (λga h=>?_) λga h=>N h
 refine .iaE 1 ga R<|.ld R<|.mv R ?_
 obtain ⟨⟨cf,df⟩,bd,h⟩:=bS h
 exact .cp (zB bd) R (a1 R) R<|.cv R<|.shl (xP _) R<|.xo R<|.fa R<|.iaE 1 ga R<|.st1 R<|.d R (by kernel_rfl)<|E h p R
 refine F da R<|S<|G n<|.eq R<|.as R<|.e R<|C h (λia h=>?_) λia h=>?_
 refine A ia R<|S<|G n<|.lo R R R R R R R pn R R R<|.fa R<|.ld R<|O h λzb cd h=>.aoB R cd R R R R R R R R R R R<|.as R<|.e R<|S<|G n<|.mv R<|.mv R ?_
 obtain ⟨⟨ef,k⟩,dd,h⟩:=bS h
 exact .cp (zB dd) R (a1 R) R<|O h λff ed h=>.xoB R ed R R R R R R<|O h λgf fd h=>.ldoB R fd R R R R<|.xo8 R<|O h λjf gd h=>.xoB R gd R R R R R R<|O h λw bc h=>.stoB R bc R R R R R<|.e R<|G n<|.mv R<|.fa R<|.st1 R<|.e R<|W h R<|tI (lpX (env:=[(2,qI g),qP 8,(9,.ptr 19500 0),(10,qI m),qP 11,qP 12,(13,qI j)]) (blk:=[(8,.var [qI 0,.nl (.bytes []),.nl (.bytes []),.nl (.bytes [])]),(11,.var [qY a.Key,qY o,qI q,qI r,qI a.Clock,qB a.Safe,qI a.Updates,qI s,qI t,.own 80 zb.length]),(12,.var [qI u,qI c.Resets,qL 4 api_Event.pv v]),(80,qO (.bytes w)),(19500,.var [qY k.B,qI k.At])]) p R (cbv R (cbv R (cbv R (cbo oE R)))))<|tI (fxB (env:=[(2,qI g),qP 8,(9,.ptr 19500 0),(10,qI m),qP 11,qP 12,(13,qI j)]) (blk:=[(8,.var [qI 0,.nl (.bytes []),.nl (.bytes []),.nl (.bytes [])]),(11,.var [qY a.Key,qY o,qI q,qI r,qI a.Clock,qB a.Safe,qI a.Updates,qI s,qI t,.own 80 zb.length]),(12,.var [qI u,qI c.Resets,qL 4 api_Event.pv v]),(80,qO (.bytes w)),(19500,.var [qY k.B,qI k.At])]) (env':=[(2,qI g),qP 8,(9,.ptr 19500 0),(10,qI m),qP 11,qP 12,(13,qI j)]) (blk':=[(8,.var [qI 0,.nl (.bytes []),.nl (.bytes []),.nl (.bytes [])]),(11,.var [qY a.Key,qY o,qI q,qI r,qI a.Clock,qB a.Safe,qI a.Updates,qI s,qI t,.buf 80 w.length]),(12,.var [qI u,qI c.Resets,qL 4 api_Event.pv v]),(80,.buf (.bytes w)),(19500,.var [qY k.B,qI k.At])]) 80 w (l5 bc R) R (by simp [j6,pO,tV,hU]) (by simp [nB,pO,tV,m6,mC,jL,hU]) R R)<|tI (pD 11 9 R (rdB R))<|lP p R
 refine F ia R<|S<|G n<|.eq R<|.as R<|.e R<|C h (λja h=>?_) λja h=>?_
 refine A ja R<|G n<|.mv R ?_
 obtain ⟨⟨kf,lf⟩,id,h⟩:=bS h
 exact .cp (zB id) R (a1 R) R<|.as R<|.e R<|E h p R
 refine F ja R<|S<|G n<|.eq R<|.as R<|.e R<|C h (λka h=>?_) λka h=>?_
 refine A ka R<|Y n<|.fa R<|.ld R<|.mv R<|.fa R<|.ld R<|.lnM R R<|.ad R ?_
 obtain ⟨⟨mf,qf⟩,jd,h⟩:=bS h
 exact .cp (zB jd) R (a1 R) R<|O h λrf kd h=>.slM (f:=api_Event.pv) kd R R R .none (.some _ _ _ R) .none (.inl R) R<|.fa R<|.st1 R<|.d R (by kernel_rfl)<|E h p R
 refine F ka R<|S<|G n<|.eq R<|.as R<|.e R<|C h (λla h=>?_) λla h=>?_
 refine A la R<|Y n<|.li api_Event.pv ([]:List api_Event) R qn (λ_=>R) R<|.fa R<|.ld R<|O h λsf md h=>.apM api_Event.pv md R R (λ_=>R) R<|.mv R<|.fa R<|.ld R ?_
 obtain ⟨⟨cc,tf⟩,od,h⟩:=bS h
 exact .cp (sX od) R (a1 R) R<|.li api_Event.pv [cc] R (qc R R qn) (λ_=>R) R<|O h λuf qd h=>.apM api_Event.pv qd R (rdM (f:=api_Event.pv) (l:=[cc]) R) (λ_=>R) R<|.fa R<|.st1 R<|.d R (by kernel_rfl)<|W h R<|tI (pD 12 2 R (rdM R))<|lP p R
 refine F la R<|G n<|.mv R ?_
 obtain ⟨⟨vf,wf⟩,rd,h⟩:=bS h
 exact .cp (zB rd) R (a1 R) R<|.ad R<|.fa R<|.st1 R<|.e R<|E h p R
 obtain ⟨kb,lb,mb,ob,qb,rb,sb,tb,ub,vb,wb⟩:=xb
 exact G n<|.mv R<|.sbt R<|.as R<|.e R<|E h p R
 obtain ⟨ya,za,ab,bb,cb,db,eb,fb,gb,ib,jb⟩:=sc
 refine S<|Y n<|.ldW R<|.mv R<|.mv R<|.mv R ?_
 obtain ⟨⟨xf,yf⟩,sd,h⟩:=bS h
 refine .cp (zB sd) R (a1 R) R<|.ldW R<|O h λb td h=>.cl (kV td) R (ac R R (ac R R (ac R R (ac R R (ac R R an))))) R<|.al R<|.stW R<|.d R (by kernel_rfl)<|S<|S<|G n<|.mv R ?_
 obtain ⟨⟨zf,dc⟩,ud,h⟩:=bS h
 refine .cp (zB ud) R (a1 R) R<|.e R<|J h (λ(ec,fc,gc)=>mkS [qP 8,qP 15] [(8,.var [qI 0,.nl (.bytes []),.nl (.bytes []),.nl (.bytes [])]),(15,.var [qI ec,qY b.Attest,qY fc,qY gc])]) (λic h=>?_) λic h=>?_
 refine B<|S<|G n<|.eq R<|.as R<|.e R<|C h (λma h=>?_) λma h=>?_
 refine A ma R<|G n<|.mv R ?_
 obtain ⟨⟨ag,bg⟩,vd,h⟩:=bS h
 exact .cp (zB vd) R (a1 R) R<|.ad R<|.fa R<|.st1 R<|.e R<|E h p R
 refine F ma R<|S<|G n<|.eq R<|.as R<|.e R<|C h (λoa h=>?_) λoa h=>?_
 refine A oa R<|Y n<|.fa R<|.ld R<|.mv R ?_
 obtain ⟨⟨cg,dg⟩,wd,h⟩:=bS h
 exact .cp (zB wd) R (a1 R) R<|O h λeg xd h=>.cl (zHa xd) R (a2 R) R<|.fa R<|.st1 R<|.d R (by kernel_rfl)<|E h p R
 refine F oa R<|S<|G n<|.eq R<|.as R<|.e R<|C h (λqa h=>?_) λqa h=>F qa R<|K<|E h p R
 refine A qa R<|S<|G n<|.fa R<|.ld R<|.lnS R R R<|.gt R<|.e R<|C h (λra h=>?_) λra h=>F ra R<|K<|E h p R
 refine A ra R<|S<|G n<|.lo R R R R R R R pn R R R<|.fa R<|.ld R<|O h λy yd h=>.aoB R yd R R R R R R R R R R R<|.as R<|.e R<|im (lpX (env:=[qP 8,(9,.ptr 19500 0),qP 15,(16,.own 151 y.length)]) (blk:=[(8,.var [qI 0,.nl (.bytes []),.nl (.bytes []),.nl (.bytes [])]),(15,.var [qI b.Machine,qY b.Attest,qY b.Signature,qY b.Log]),(151,qO (.bytes y)),(19500,.var [qY dc.B,qI dc.At])]) p R (cbv R (cbv R (cbo oE R))))<|S<|Y n<|.mv R<|.mv R ?_
 obtain ⟨⟨fg,gg⟩,zd,h⟩:=bS h
 refine .cp (zB zd) R (a1 R) R<|.mu R<|.mv R ?_
 obtain ⟨⟨ig,jg⟩,ae,h⟩:=bS h
 refine .cp (zB ae) R (a1 R) R<|V h λkg be h=>.adE be R<|.mv R<|.lnO (oW _) R<|O h λ_ sa h=>?_
 replace sa:=yM sa
 refine .rem (nz sa) R R<|O h λlg ce h=>.xoB R ce R R R R R R<|O h λmg de h=>.ldoB R de R R R R<|.mv R ?_
 obtain ⟨⟨og,qg⟩,ee,h⟩:=bS h
 exact .cp (zB ee) R (a1 R) R<|.cv R<|.shl8 (xP _) R<|.xo8 R<|O h λrg fe h=>.xoB R fe R R R R R R<|O h λx jc h=>.stoB R jc R R R R R<|.d R (by kernel_rfl)<|G n<|.mv R<|.fa R<|.st1 R<|.e R<|W h R<|tI (lpX (env:=[qP 8,qP 15]) (blk:=[(8,.var [qI 0,.nl (.bytes []),.nl (.bytes []),.nl (.bytes [])]),(15,.var [qI b.Machine,qY b.Attest,qY b.Signature,.own 151 y.length]),(151,qO (.bytes x))]) p R (cbv R (cbv R (cbo oE R))))<|tI (fxB (env:=[qP 8,qP 15]) (blk:=[(8,.var [qI 0,.nl (.bytes []),.nl (.bytes []),.nl (.bytes [])]),(15,.var [qI b.Machine,qY b.Attest,qY b.Signature,.own 151 y.length]),(151,qO (.bytes x))]) (env':=[qP 8,qP 15]) (blk':=[(8,.var [qI 0,.nl (.bytes []),.nl (.bytes []),.nl (.bytes [])]),(15,.var [qI b.Machine,qY b.Attest,qY b.Signature,.buf 151 x.length]),(151,.buf (.bytes x))]) 151 x (l5 jc R) R (by simp [j6,pO,tV,hU]) (by simp [nB,pO,tV,m6,mC,jL,hU]) R R)<|tI (pD 15 3 R (rdB R))<|lP p R
 obtain ⟨ec,fc,gc⟩:=ic
 exact S<|G n<|.ldW R<|.stW R<|.e R<|T<|E h p R
theorem zEa {k m f g o i b c a}(h:jK k m f g o i=some (b,c,a)):Z 10 6 [.bytes k,.bytes m,.bytes f,.bytes g,.int .i64 o,.int .i64 i] (.tu [.p (api_Log.pv b),.buf 500 c.length,.p (api_Evidence.pv a)]) [(500,.buf (.sl 7 (List.map api_Manifest.pv c)))]:=by
 refine hA (λ(b,c,a)=>mkS [qP 12,(13,.buf 500 c.length),qP 14] [(12,.var [qI b.Active,qI b.Resets,qL 4 api_Event.pv b.Events]),(14,.var [qI a.Machine,qY a.Attest,qY a.Signature,qY a.Log]),(500,.buf (.sl 7 (List.map api_Manifest.pv c)))]) (b,c,a) func10 R (λcx p=>eO wM R (.cellN _ _ _ _ _ _ R R R R (zJ R)) (.tmp _ _ R) (.cellN _ _ _ _ _ _ R R R R (zJ R)) (tI (Imp.pureT (t:=0) 0 R R R)<|tI (Imp.pureT (t:=0) 2 R R R)<|lP p R)) λcx n p=>S<|G n<|.al R<|.as R<|.al R<|.e R<|S<|G n<|.mv R<|O h λq w h=>.cl (dE w) R (a1 R) R<|.as R<|.e R<|S<|G n<|.mv R<|O h λea x h=>.cl (fJ x) R (a1 R) R<|.as R<|.e R<|S<|G n<|.mv R<|.mv R<|O h λfa y h=>.cl (zHn y) R (a3 R) R<|.al R<|.stW R<|.e R<|S<|G n<|.mv R<|O h λga z h=>.cl (oT z) R (a2 R) R<|.as R<|.e R<|S<|J h (λ(r,s,u)=>mkS [(2,qY f),(3,qY g),(5,qI i),qP 12,qP 14,(15,.buf 20500 q.length),qP 16] [(12,.var [qI 0,qI 0,.nl (.sl 4 [])]),(14,.var [qI 0,.nl (.bytes []),.nl (.bytes []),.nl (.bytes [])]),(16,.var [qI r,qI s,qL 4 api_Event.pv u]),(20500,.buf (.sl 4 (List.map api_Image.pv q)))]) (λv h=>?_) λv h=>?_
 refine S<|G n<|.mv R ?_
 obtain ⟨⟨ia,ja⟩,aa,h⟩:=bS h
 exact .cp (zB aa) R (a1 R) R<|.gt R<|.e R<|C h (λj h=>A j R<|G n<|.mv R<|.mv R<|.mv R<|O h λka ba h=>.cl (nH ba) R (ac R (rdM R) (ac R R an)) R<|.bl R (pc 3 R (pc 3 R (pc 27 R pn))) R<|.stW R<|.e R<|W h R<|tI (pD 16 2 R (rdM R))<|lP p R) λj h=>F j R<|K<|E h p R
 obtain ⟨r,s,u⟩:=v
 exact S<|Y n<|.ldW R<|.mv R<|.mv R<|O h λla ca h=>.cl (aL ca) R (ac R R (ac R (rdM R) an)) R<|.mv R<|.ldW R<|.mv R<|.liB ([99,104,97,108,108,101,110,103,101]:List UInt8) R (qc R R (qc R R (qc R R (qc R R (qc R R (qc R R (qc R R (qc R R (qc R R qn))))))))) R<|.bb R (by simp)<|O h λma da h=>.cl (zD6 da) R (ac R R (ac R R (ac R R (ac R (rdB (l:=([99,104,97,108,108,101,110,103,101]:List UInt8)) R) an)))) R<|.stW R<|.as R<|.stW R<|.d R (by kernel_rfl)<|T<|W h R<|lR p [(500,39500)] R
theorem aD {b c a}(h:kJ b c=some a):Z 25 2 [.bytes b,.bytes c] (qB a) []:=by
 refine hA (λa=>mkS [(4,qB a)] []) a func25 R (r1 R) λcx n p=>S<|G n<|.as R<|.e R<|S<|S<|G n<|.mv R<|.lnS R R R<|.mv R<|.lnS R R R<|.ne R<|.e R<|C h (λf h=>A f R<|S<|G n<|.as R<|.e R<|T<|E h p R) λf h=>F f R<|K<|S<|S<|G n<|.as R<|.e R<|B<|U h (λj=>mkS [(0,qY b),(1,qY c),(5,qI j)] []) (SE (λa=>(.ret,mkS [(4,qB a)] [])) (λ(_:Unit)=>(.exit 0,mkS [] []))) (lP p R) (by rintro (y | y) h<;>cases h) (λj o h=>S<|S<|G n<|.mv R<|.mv R<|.lnS R R R<|.ls R<|.e R<|C h (λg h=>A g R<|K<|S<|B<|S<|Y n<|.mv R<|.mv R<|O h λq k h=>.ixB k R<|.ldC R<|.mv R<|.mv R<|O h λr l h=>.ixB l R<|.ldC R<|.ne R<|.d R (by kernel_rfl)<|C h (λi h=>A i R<|S<|G n<|.as R<|.e R<|T<|E h p R) λi h=>F i R<|K<|G n<|.mv R<|.ad R<|.as R<|.e R<|E h p R) λg h=>F g R<|X<|E h p R) λm h=>?_
 rcases m with s | _
 exact W h R .refl
 exact S<|G n<|.as R<|.e R<|T<|E h p R
theorem zDi {b o q j}(h:rR b o q=some j):Z 34 3 [api_Log.pv b,.sl 7 (List.map api_Manifest.pv o),.sl 2 (List.map api_Reason.pv q)] (qB j) []:=by
 refine hA (λj=>mkS [(6,qB j)] []) j func34 R (r1 R) λcx n p=>S<|G n<|.bx R<|.as R<|.e R<|S<|S<|G n<|.ldW R<|.mv R ?_
 obtain ⟨⟨oa,qa,ra⟩,ga,h⟩:=bS h
 refine .cl (jG ga) R (a2 R) R<|.mv R<|.ex R<|.ex R<|.ex R<|.as R<|.as R<|.as R<|.e R<|S<|J h (λt=>mkS [(1,qL 7 api_Manifest.pv o),(2,qL 2 api_Reason.pv q),qP 3,(29,qB t)] [(3,.var [qI b.Active,qI b.Resets,qL 4 api_Event.pv b.Events])]) (λt h=>G n<|.mv R<|.ne R<|.mv R<|C h (λc h=>.sk c R<|.sk c R<|.sk c R<|.sk c R<|.sk c R<|.sk c R<|.pT c R<|.e R<|E h p R) λc h=>.g c R<|.mv R<|.g c R<|.lnM R R<|.g c R<|.fa R<|.g c R<|.ld R<|.g c R<|.lnM R R<|.g c R<|.ne R<|.pF c R<|.e R<|E h p R) λt h=>C h (λu h=>A u R<|S<|G n<|.as R<|.e R<|T<|E h p R) λu h=>F u R<|K<|S<|S<|G n<|.fa R<|.ld R<|.lnM R R<|.mv R<|.e R<|B<|U h (λr=>mkS [(1,qL 7 api_Manifest.pv o),(2,qL 2 api_Reason.pv q),(31,qL 4 api_Event.pv b.Events),(32,qI (b.Events.length:Int)),(33,qI r)] []) (SE (λj=>(.ret,mkS [(6,qB j)] [])) (λ(_:Unit)=>(.exit 0,mkS [] []))) (lP p R) (by rintro (y | y) h<;>cases h) ?_ λia h=>?_
 rintro r sa h
 refine S<|G n<|.ls R<|.e R<|S<|C h (λv h=>?_) λv h=>F v R<|X<|E h p R
 refine A v R<|K<|S<|D h (SE (λj=>(.ret,mkS [(6,qB j)] [])) (λ(_:Unit)=>(.normal,mkS [(1,qL 7 api_Manifest.pv o),(2,qL 2 api_Reason.pv q),(31,qL 4 api_Event.pv b.Events),(32,qI (b.Events.length:Int)),(33,qI r)] []))) (λda h=>?_) λda h=>?_
 refine B<|S<|G n<|.mv R<|O h λs ja h=>.ixM (f:=api_Event.pv) ja R R R<|.ldD R<|.al R<|.as R<|.stW R<|.e R<|S<|G n<|.mv R<|.mv R<|O h λea ka h=>.ixM (f:=api_Reason.pv) ka R R R<|.ldD R<|.al R<|.stW R<|.e R<|S<|S<|J h (λw=>mkS [(1,qL 7 api_Manifest.pv o),(2,qL 2 api_Reason.pv q),qP 11,qP 12,(31,qL 4 api_Event.pv b.Events),(32,qI (b.Events.length:Int)),(33,qI r),(49,qB w)] [(11,.var [qI s.Register,qI s.Kind,qL 1 PV.bytes s.Digests,qY s.Data]),(12,.var [qI ea.Manifest,qI ea.Item])]) (λw h=>G n<|.fa R<|.ld R<|.eq R<|.mv R<|C h (λk h=>.sk k R<|.sk k R<|.sk k R<|.pT k R<|.e R<|E h p R) λk h=>.g k R<|.fa R<|.g k R<|.ld R<|.g k R<|.eq R<|.pF k R<|.e R<|E h p R) λw h=>C h (λx h=>A x R<|S<|S<|J h (λz=>mkS [(1,qL 7 api_Manifest.pv o),(2,qL 2 api_Reason.pv q),(31,qL 4 api_Event.pv b.Events),(32,qI (b.Events.length:Int)),(33,qI r),(57,qB z)] []) (λz h=>G n<|.fa R<|.ld R<|.ne R<|.mv R<|C h (λl h=>.sk l R<|.sk l R<|.sk l R<|.pT l R<|.e R<|E h p R) λl h=>.g l R<|.fa R<|.g l R<|.ld R<|.g l R<|.ne R<|.pF l R<|.e R<|E h p R) λz h=>C h (λaa h=>A aa R<|S<|G n<|.as R<|.e R<|T<|E h p R) λaa h=>F aa R<|K<|X<|E h p R) λx h=>?_
 refine F x R<|K<|S<|J h (λba=>mkS [(1,qL 7 api_Manifest.pv o),(2,qL 2 api_Reason.pv q),(31,qL 4 api_Event.pv b.Events),(32,qI (b.Events.length:Int)),(33,qI r),(84,qB ba)] []) (λba h=>?_) λba h=>?_
 exact Y n<|.fa R<|.ld R<|.ls R<|.mv R<|C h (λi h=>.sk i R<|.sk i R<|.sk i R<|.sk i R<|.sk i R<|.pT i R<|.mv R<|.sk R R<|.sk R R<|.sk R R<|.pT R R<|.mv R<|.sk R R<|.sk R R<|.sk R R<|.sk R R<|.sk R R<|.sk R R<|.sk R R<|.sk R R<|.sk R R<|.sk R R<|.pT R R<|.d R (by kernel_rfl)<|E h p R) λi h=>.g i R<|.fa R<|.g i R<|.ld R<|.g i R<|.mv R<|.g i R<|.lnM R R<|.g i R<|.ge R<|.pF i R<|.mv R<|C h (λm h=>.sk m R<|.sk m R<|.sk m R<|.pT m R<|.mv R<|.sk R R<|.sk R R<|.sk R R<|.sk R R<|.sk R R<|.sk R R<|.sk R R<|.sk R R<|.sk R R<|.sk R R<|.pT R R<|.d R (by kernel_rfl)<|E h p R) λm h=>.g m R<|.fa R<|.g m R<|.ld R<|.g m R<|.ls R<|.pF m R<|.mv R<|C h (λa h=>.sk a R<|.sk a R<|.sk a R<|.sk a R<|.sk a R<|.sk a R<|.sk a R<|.sk a R<|.sk a R<|.sk a R<|.pT a R<|.d R (by kernel_rfl)<|E h p R) λa h=>.g a R<|.mv R<|.g a R<|.fa R<|.g a R<|.ld R<|O h λta la h=>.g a R<|.ixM (f:=api_Manifest.pv) la R R R<|.g a R<|.ldD R<|.g a R<|.ldW R<|O h λua ma h=>.g a R<|.cl (kU ma) R (a2 R) R<|.g a R<|.fa R<|.g a R<|.ld R<|.g a R<|.ne R<|.pF a R<|.d R (by kernel_rfl)<|E h p R
 exact C h (λca h=>A ca R<|S<|G n<|.as R<|.e R<|T<|E h p R) λca h=>F ca R<|K<|E h p R
 rcases da with va | _
 exact W h R .refl
 exact G n<|.ad R<|.mv R<|.e R<|E h p R
 rcases ia with wa | _
 exact W h R .refl
 exact S<|G n<|.as R<|.e R<|T<|E h p R
theorem law37_AppraiseAccepted_ok {ya za ab cb ba db y}(h:xM ya za ab cb ba db=some y):Z 7 6 [.bytes ya,.bytes za,.bytes ab,.bytes cb,.int .i64 ba,.int .i64 db] (qB y) []:=by
 refine hA (λy=>mkS [(12,qB y)] []) y func7 R (r1 R) λcx n p=>S<|G n<|.as R<|.e R<|S<|S<|G n<|O h λcd fc h=>.cl (zCm fc) R an R<|.no R<|.e R<|C h (λca h=>A ca R<|S<|G n<|.as R<|.e R<|T<|E h p R) λca h=>F ca R<|K<|S<|G n<|.mv R<|O h λz gc h=>.cl (oZ gc) R (a2 R) R<|.ad R<|.as R<|.e R<|S<|G n<|.mv R<|.mv R<|.mv R<|.mv R<|.mv R<|O h λdd ic h=>.cl (oZ ic) R (a2 R) R<|.ad R<|.mv R ?_
 obtain ⟨⟨ed,r,c⟩,jc,h⟩:=bS h
 refine .cl (zEa jc) R (ac R R (ac R R (ac R R (ac R R (ac R R (ac R R an)))))) R<|.mv R<|.ex R<|.ex R<|.ex R<|.al R<|.al R<|.stW R<|.as R<|.stW R<|.e R<|iX [(4,qI ba),(5,qI (IntKind.i64.wrap (1+z))),(14,.buf 43500 r.length),qP 15] [(15,.var [qI c.Machine,qY c.Attest,qY c.Signature,qY c.Log]),(43500,.buf (.sl 7 (List.map api_Manifest.pv r)))] p R<|S<|G n<|.mv R<|.mv R<|O h λfd kc h=>.cl (oZ kc) R (a2 R) R<|.ad R<|O h λgd lc h=>.cl (fJ lc) R (a1 R) R<|O h λa mc h=>.cl (kQ mc) R (a2 R) R<|.al R<|.stW R<|.e R<|S<|G n<|.ldW R<|.ldW R<|.liB ([99,104,97,108,108,101,110,103,101]:List UInt8) R (qc R R (qc R R (qc R R (qc R R (qc R R (qc R R (qc R R (qc R R (qc R R qn))))))))) R<|.bb R (by simp)<|.mv R<|O h λi oc h=>.cl (vD oc) R (ac R R (ac R R (ac R (rdB (l:=([99,104,97,108,108,101,110,103,101]:List UInt8)) R) (ac R (rdM R) an)))) R<|.al R<|.stW R<|.e R<|S<|S<|G n<|.fa R<|.ld R<|.ne R<|.e R<|C h (λda h=>A da R<|S<|J h (λea=>mkS [(12,qB ea)] []) (λea h=>G n<|.fa R<|.ld R<|.lnM R R<|.eq R<|.mv R<|C h (λt h=>.g t R<|.fa R<|.g t R<|.ld R<|.g t R<|.eq R<|.pT t R<|.as R<|.e R<|E h p R) λt h=>.sk t R<|.sk t R<|.sk t R<|.pF t R<|.as R<|.e R<|E h p R) λea h=>T<|E h p R) λda h=>?_
 refine F da R<|K<|S<|G n<|.as R<|.e R<|S<|G n<|.al R<|.e R<|S<|S<|G n<|.as R<|.e R<|B<|Q h 0 (λ(ga,aa,ia,ja,ka,la,ma,oa,qa,ra,sa,ta)=>mkS [(5,qI (IntKind.i64.wrap (1+z))),(14,.buf 43500 r.length),qP 15,qP 16,qP 17,(18,qB ga),qP 19,(20,qI aa)] [(15,.var [qI c.Machine,qY c.Attest,qY c.Signature,qY c.Log]),(16,.var [qI a.Machine,qI a.Active,qL 5 api_Public.pv a.Quoting,.nl (.bytes []),qY a.Parent.Seed,.nl (.bytes []),qI a.Parents.Kind,qI a.Parents.Attr,qI a.Parents.Height,.nl (.bytes []),qY a.Parents.Unique]),(17,.var [qI i.Err,qI i.Event,qL 2 api_Reason.pv i.Reasons,qI i.Clock]),(19,.var [qY ia,qY ja,qI ka,qI la,qI ma,qB oa,qI qa,qI ra,qI sa,qY ta]),(43500,.buf (.sl 7 (List.map api_Manifest.pv r)))]) (λ(eb,fb,gb,ib,jb,kb,lb,mb,ob,qb,rb)=>mkS [(5,qI (IntKind.i64.wrap (1+z))),(14,.buf 43500 r.length),qP 15,qP 16,qP 17,(18,qB eb),qP 19] [(15,.var [qI c.Machine,qY c.Attest,qY c.Signature,qY c.Log]),(16,.var [qI a.Machine,qI a.Active,qL 5 api_Public.pv a.Quoting,.nl (.bytes []),qY a.Parent.Seed,.nl (.bytes []),qI a.Parents.Kind,qI a.Parents.Attr,qI a.Parents.Height,.nl (.bytes []),qY a.Parents.Unique]),(17,.var [qI i.Err,qI i.Event,qL 2 api_Reason.pv i.Reasons,qI i.Clock]),(19,.var [qY fb,qY gb,qI ib,qI jb,qI kb,qB lb,qI mb,qI ob,qI qb,qY rb]),(43500,.buf (.sl 7 (List.map api_Manifest.pv r)))]) (tI (pC 19 0 R)<|tI (pC 19 1 R)<|tI (pC 19 9 R)<|lP p R) ?_ λrc h=>?_
 rintro ⟨ga,aa,ia,ja,ka,la,ma,oa,qa,ra,sa,ta⟩ id h
 refine S<|S<|G n<|.mv R<|.fa R<|.ld R<|.lnM R R<|.ls R<|.e R<|C h (λua h=>?_) λua h=>F ua R<|X<|E h p R
 refine A ua R<|K<|S<|J h (λ(sb,tb,ub,vb,wb,xb,yb,zb,bc,cc,dc)=>mkS [(5,qI (IntKind.i64.wrap (1+z))),(14,.buf 43500 r.length),qP 15,qP 16,qP 17,(18,qB sb),qP 19,(20,qI aa)] [(15,.var [qI c.Machine,qY c.Attest,qY c.Signature,qY c.Log]),(16,.var [qI a.Machine,qI a.Active,qL 5 api_Public.pv a.Quoting,.nl (.bytes []),qY a.Parent.Seed,.nl (.bytes []),qI a.Parents.Kind,qI a.Parents.Attr,qI a.Parents.Height,.nl (.bytes []),qY a.Parents.Unique]),(17,.var [qI i.Err,qI i.Event,qL 2 api_Reason.pv i.Reasons,qI i.Clock]),(19,.var [qY tb,qY ub,qI vb,qI wb,qI xb,qB yb,qI zb,qI bc,qI cc,qY dc]),(43500,.buf (.sl 7 (List.map api_Manifest.pv r)))]) (λec h=>?_) λec h=>?_
 refine B<|S<|Y n<|.fa R<|.ld R<|.mv R<|O h λjd sc h=>.ixM (f:=api_Public.pv) sc R R R<|.ldD R<|.fa R<|.ld R<|.fa R<|.ld R ?_
 obtain ⟨⟨s,kd,md⟩,tc,h⟩:=bS h
 exact .cl (kW tc) R (a3 R) R<|.mv R<|.ex R<|.ex R<|.ex R<|.al R<|.stW R<|.as R<|.as R<|.d R (by kernel_rfl)<|S<|J h (λva=>mkS [(5,qI (IntKind.i64.wrap (1+z))),(14,.buf 43500 r.length),qP 15,qP 16,qP 17,(18,qB ga),qP 19,(20,qI aa),qP 21,(96,qB va)] [(15,.var [qI c.Machine,qY c.Attest,qY c.Signature,qY c.Log]),(16,.var [qI a.Machine,qI a.Active,qL 5 api_Public.pv a.Quoting,.nl (.bytes []),qY a.Parent.Seed,.nl (.bytes []),qI a.Parents.Kind,qI a.Parents.Attr,qI a.Parents.Height,.nl (.bytes []),qY a.Parents.Unique]),(17,.var [qI i.Err,qI i.Event,qL 2 api_Reason.pv i.Reasons,qI i.Clock]),(19,.var [qY ia,qY ja,qI ka,qI la,qI ma,qB oa,qI qa,qI ra,qI sa,qY ta]),(21,.var [qY s.Key,qY s.Nonce,qI s.Resets,qI s.Restarts,qI s.Clock,qB s.Safe,qI s.Updates,qI s.Selection.a0,qI s.Selection.a1,qY s.Digest]),(43500,.buf (.sl 7 (List.map api_Manifest.pv r)))]) (λva h=>G n<|.mv R<|.eq R<|.mv R<|C h (λv h=>.g v R<|.mv R<|.g v R<|.no R<|.pT v R<|.e R<|E h p R) λv h=>.sk v R<|.sk v R<|.pF v R<|.e R<|E h p R) λva h=>C h (λwa h=>A wa R<|G n<|.ldW R<|.stW R<|.as R<|.e R<|E h p R) λwa h=>F wa R<|K<|E h p R
 obtain ⟨sb,tb,ub,vb,wb,xb,yb,zb,bc,cc,dc⟩:=ec
 exact G n<|.mv R<|.ad R<|.as R<|.e R<|E h p R
 obtain ⟨eb,fb,gb,ib,jb,kb,lb,mb,ob,qb,rb⟩:=rc
 refine S<|G n<|.fa R<|.ld R ?_
 obtain ⟨⟨od,qd⟩,uc,h⟩:=bS h
 refine .cl (lV uc) R (a1 R) R<|.mv R<|.ex R<|.ex R<|.al R<|.stW R<|.as R<|.e R<|S<|Y n<|.ldW R<|.fa R<|.ld R<|O h λrd vc h=>.cl (pR vc) R (a1 R) R ?_
 obtain ⟨⟨sd,td⟩,wc,h⟩:=bS h
 refine .cl (jD wc) R (a2 R) R<|.mv R<|.ex R<|.ex R<|.as R<|.as R<|.d R (by kernel_rfl)<|S<|J h (λxa=>mkS [(12,qB xa)] []) (λxa h=>?_) λxa h=>?_
 refine Y n<|.mv R<|.mv R<|C h (λo h=>?_) λo h=>?_
 refine .g o R<|.fa R<|.g o R<|.ld R<|.g o R<|.mv R<|.g o R<|.eq R<|.pT o R<|.mv R<|C h (λw h=>?_) λw h=>.sk w R<|.sk w R<|.pF w R<|.mv R<|.sk R R<|.sk R R<|.pF R R<|.mv R<|.sk R R<|.sk R R<|.sk R R<|.sk R R<|.pF R R<|.mv R<|.sk R R<|.sk R R<|.sk R R<|.sk R R<|.sk R R<|.sk R R<|.sk R R<|.sk R R<|.sk R R<|.pF R R<|.mv R<|.sk R R<|.sk R R<|.sk R R<|.sk R R<|.sk R R<|.pF R R<|.mv R<|.sk R R<|.sk R R<|.sk R R<|.pF R R<|.mv R<|.sk R R<|.sk R R<|.sk R R<|.sk R R<|.sk R R<|.pF R R<|.mv R<|.sk R R<|.sk R R<|.sk R R<|.sk R R<|.sk R R<|.pF R R<|.as R<|.d R (by kernel_rfl)<|E h p R
 refine .g w R<|.mv R<|.g w R<|.eq R<|.pT w R<|.mv R<|C h (λx h=>?_) λx h=>.sk x R<|.sk x R<|.pF x R<|.mv R<|.sk R R<|.sk R R<|.sk R R<|.sk R R<|.pF R R<|.mv R<|.sk R R<|.sk R R<|.sk R R<|.sk R R<|.sk R R<|.sk R R<|.sk R R<|.sk R R<|.sk R R<|.pF R R<|.mv R<|.sk R R<|.sk R R<|.sk R R<|.sk R R<|.sk R R<|.pF R R<|.mv R<|.sk R R<|.sk R R<|.sk R R<|.pF R R<|.mv R<|.sk R R<|.sk R R<|.sk R R<|.sk R R<|.sk R R<|.pF R R<|.mv R<|.sk R R<|.sk R R<|.sk R R<|.sk R R<|.sk R R<|.pF R R<|.as R<|.d R (by kernel_rfl)<|E h p R
 refine .g x R<|.mv R<|.g x R<|.eq R<|.pT x R<|.mv R<|C h (λq h=>?_) λq h=>.sk q R<|.sk q R<|.sk q R<|.sk q R<|.pF q R<|.mv R<|.sk R R<|.sk R R<|.sk R R<|.sk R R<|.sk R R<|.sk R R<|.sk R R<|.sk R R<|.sk R R<|.pF R R<|.mv R<|.sk R R<|.sk R R<|.sk R R<|.sk R R<|.sk R R<|.pF R R<|.mv R<|.sk R R<|.sk R R<|.sk R R<|.pF R R<|.mv R<|.sk R R<|.sk R R<|.sk R R<|.sk R R<|.sk R R<|.pF R R<|.mv R<|.sk R R<|.sk R R<|.sk R R<|.sk R R<|.sk R R<|.pF R R<|.as R<|.d R (by kernel_rfl)<|E h p R
 refine .g q R<|.mv R<|.g q R<|.fa R<|.g q R<|.ld R<|O h λud xc h=>.g q R<|.cl (aD xc) R (ac R (rdB R) (ac R R an)) R<|.pT q R<|.mv R<|C h (λb h=>?_) λb h=>.sk b R<|.sk b R<|.sk b R<|.sk b R<|.sk b R<|.sk b R<|.sk b R<|.sk b R<|.sk b R<|.pF b R<|.mv R<|.sk R R<|.sk R R<|.sk R R<|.sk R R<|.sk R R<|.pF R R<|.mv R<|.sk R R<|.sk R R<|.sk R R<|.pF R R<|.mv R<|.sk R R<|.sk R R<|.sk R R<|.sk R R<|.sk R R<|.pF R R<|.mv R<|.sk R R<|.sk R R<|.sk R R<|.sk R R<|.sk R R<|.pF R R<|.as R<|.d R (by kernel_rfl)<|E h p R
 refine .g b R<|.fa R<|.g b R<|.ld R<|.g b R<|.liB ([99,104,97,108,108,101,110,103,101]:List UInt8) R (qc R R (qc R R (qc R R (qc R R (qc R R (qc R R (qc R R (qc R R (qc R R qn))))))))) R<|.g b R<|.bb R (by simp)<|.g b R<|.mv R<|.g b R<|.fa R<|.g b R<|.ld R<|O h λvd yc h=>.g b R<|.cl (lI yc) R (ac R (rdB (l:=([99,104,97,108,108,101,110,103,101]:List UInt8)) R) (ac R R (ac R R an))) R<|O h λwd zc h=>.g b R<|.cl (aD zc) R (ac R R (ac R (rdB R) an)) R<|.pT b R<|.mv R<|C h (λj h=>?_) λj h=>.sk j R<|.sk j R<|.sk j R<|.sk j R<|.sk j R<|.pF j R<|.mv R<|.sk R R<|.sk R R<|.sk R R<|.pF R R<|.mv R<|.sk R R<|.sk R R<|.sk R R<|.sk R R<|.sk R R<|.pF R R<|.mv R<|.sk R R<|.sk R R<|.sk R R<|.sk R R<|.sk R R<|.pF R R<|.as R<|.d R (by kernel_rfl)<|E h p R
 refine .g j R<|.fa R<|.g j R<|.ld R<|.g j R<|.fa R<|.g j R<|.ld R<|.g j R<|.eq R<|.pT j R<|.mv R<|C h (λu h=>?_) λu h=>.sk u R<|.sk u R<|.sk u R<|.pF u R<|.mv R<|.sk R R<|.sk R R<|.sk R R<|.sk R R<|.sk R R<|.pF R R<|.mv R<|.sk R R<|.sk R R<|.sk R R<|.sk R R<|.sk R R<|.pF R R<|.as R<|.d R (by kernel_rfl)<|E h p R
 exact .g u R<|.fa R<|.g u R<|.ld R<|.g u R<|.eq R<|.pT u R<|.mv R<|C h (λk h=>.g k R<|.fa R<|.g k R<|.ld R<|.g k R<|.fa R<|.g k R<|.ld R<|.g k R<|.eq R<|.pT k R<|.mv R<|C h (λm h=>.g m R<|.ldW R<|.g m R<|.mv R<|.g m R<|.fa R<|.g m R<|.ld R<|O h λxd bd h=>.g m R<|.cl (zDi bd) R (ac R R (ac R (rdM R) (ac R R an))) R<|.pT m R<|.as R<|.d R (by kernel_rfl)<|E h p R) λm h=>.sk m R<|.sk m R<|.sk m R<|.sk m R<|.sk m R<|.pF m R<|.as R<|.d R (by kernel_rfl)<|E h p R) λk h=>.sk k R<|.sk k R<|.sk k R<|.sk k R<|.sk k R<|.pF k R<|.mv R<|.sk R R<|.sk R R<|.sk R R<|.sk R R<|.sk R R<|.pF R R<|.as R<|.d R (by kernel_rfl)<|E h p R
 exact .sk o R<|.sk o R<|.sk o R<|.sk o R<|.pF o R<|.mv R<|.sk R R<|.sk R R<|.pF R R<|.mv R<|.sk R R<|.sk R R<|.pF R R<|.mv R<|.sk R R<|.sk R R<|.sk R R<|.sk R R<|.pF R R<|.mv R<|.sk R R<|.sk R R<|.sk R R<|.sk R R<|.sk R R<|.sk R R<|.sk R R<|.sk R R<|.sk R R<|.pF R R<|.mv R<|.sk R R<|.sk R R<|.sk R R<|.sk R R<|.sk R R<|.pF R R<|.mv R<|.sk R R<|.sk R R<|.sk R R<|.pF R R<|.mv R<|.sk R R<|.sk R R<|.sk R R<|.sk R R<|.sk R R<|.pF R R<|.mv R<|.sk R R<|.sk R R<|.sk R R<|.sk R R<|.sk R R<|.pF R R<|.as R<|.d R (by kernel_rfl)<|E h p R
 exact T<|E h p R
end Go.Proofs.Tryz.S
