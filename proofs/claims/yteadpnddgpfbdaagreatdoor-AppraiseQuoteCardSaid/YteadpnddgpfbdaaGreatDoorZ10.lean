/- AppraiseQuote (law 37: the program and the reference say the same of a quote, or give the same error) is proved for every input, under no condition of ours; this text is a part of that proof. -/
import Derived.Test.YteadpnddgpfbdaaGreatDoorZ5
import Derived.Test.YteadpnddgpfbdaaGreatDoorZ6
import Derived.Test.YteadpnddgpfbdaaGreatDoorZ9
set_option linter.all false
namespace Go.Proofs.Tryz.S
open Go Go.Sw Go.Proofs.TT
set_option maxRecDepth 100000
set_option maxHeartbeats 2000000
theorem draw_Wrong_ok {ta c g ua i}(h:draw_Wrong ta c g ua=some i):Z 39 4 [.bytes ta,api_Log.pv c,.int .i64 g,.bytes ua] (.p (api_Evidence.pv i)) []:=by
 refine hA (λi=>mkS [qP 8] [(8,.var [qI i.Machine,qY i.Attest,qY i.Signature,qY i.Log])]) i func39 R (λcx p=>res_one teok R (.cellN _ _ _ _ _ _ R R R R (le_of_ble R)) (tI (pU 0 R)<|lP p R)) λcx n p=>S<|G n<|.bx R<|.al R<|.e R<|S<|G n<|.mv R<|O h λge kc h=>.cl (draw_New_ok kc) R (a2 R) R<|.as R<|.e R<|S<|G n<|.mv R<|.mu R<|.mv R ?_
 obtain ⟨⟨ie,je⟩,lc,h⟩:=bS h
 refine .cp (draw_Codes_Next_ok lc) R (a1 R) R<|V h λke mc h=>.adE mc R<|.as R<|.e R<|S<|G n<|.ldW R<|.mv R<|.mv R<|.mv R<|O h λa oc h=>.cl (draw_Quote_ok oc) R (a4 R) R<|.al R<|.stW R<|.e R<|S<|G n<|.ldW R<|.al R<|.stW R<|.e R<|S<|S<|G n<|.mv R ?_
 obtain ⟨⟨le,me⟩,rc,h⟩:=bS h
 refine .cp (draw_Codes_Next_ok rc) R (a1 R) R<|.as R<|.e R<|B<|Q h 0 (λ(m,j,o,q,r,s,t,va,u,v,wa,xa)=>mkS [(2,qI g),qP 8,(9,.ptr 19500 0),(10,qI m),qP 11,qP 12,(13,qI j)] [(8,.var [qI 0,.nl (.bytes []),.nl (.bytes []),.nl (.bytes [])]),(11,.var [qY a.Key,qY o,qI q,qI r,qI a.Clock,qB a.Safe,qI a.Updates,qI s,qI t,qY va]),(12,.var [qI u,qI c.Resets,qL 4 api_Event.pv v]),(19500,.var [qY wa,qI xa])]) (λ(ya,za,ab,bb,cb,db,eb,fb,gb,ib,jb)=>mkS [(2,qI g),qP 8,(9,.ptr 19500 0),(10,qI ya),qP 11,qP 12] [(8,.var [qI 0,.nl (.bytes []),.nl (.bytes []),.nl (.bytes [])]),(11,.var [qY a.Key,qY za,qI ab,qI bb,qI a.Clock,qB a.Safe,qI a.Updates,qI cb,qI db,qY eb]),(12,.var [qI fb,qI c.Resets,qL 4 api_Event.pv gb]),(19500,.var [qY ib,qI jb])]) (lP p R) ?_ λsc h=>?_
 rintro ⟨m,j,o,q,r,s,t,va,u,v,wa,xa⟩ oe h
 refine S<|S<|G n<|.mv R<|.gt R<|.e R<|C h (λz h=>?_) λz h=>F z R<|X<|E h p R
 refine A z R<|K<|S<|B<|S<|G n<|.mv R ?_
 obtain ⟨⟨qe,re⟩,tc,h⟩:=bS h
 refine .cp (draw_Codes_Next_ok tc) R (a1 R) R<|.e R<|J h (λ(kb,lb,mb,ob,qb,rb,sb,tb,ub,vb,wb)=>mkS [(2,qI g),qP 8,(9,.ptr 19500 0),(10,qI kb),qP 11,qP 12,(13,qI j)] [(8,.var [qI 0,.nl (.bytes []),.nl (.bytes []),.nl (.bytes [])]),(11,.var [qY a.Key,qY lb,qI mb,qI ob,qI a.Clock,qB a.Safe,qI a.Updates,qI qb,qI rb,qY sb]),(12,.var [qI tb,qI c.Resets,qL 4 api_Event.pv ub]),(19500,.var [qY vb,qI wb])]) (λxb h=>?_) λxb h=>?_
 refine B<|S<|G n<|.eq R<|.as R<|.e R<|C h (λaa h=>?_) λaa h=>?_
 refine A aa R<|G n<|.mv R ?_
 obtain ⟨⟨yb,se⟩,uc,h⟩:=bS h
 exact .cp (draw_Codes_Next_ok uc) R (a1 R) R<|.cv8 R<|.liB [u8 yb] R (qc R R qn) R<|O h λte vc h=>.cl (draw_Seed_ok vc) R (ac R (rdB (l:=[u8 yb]) R) an) R<|.fa R<|.st1 R<|.e R<|E h p R
 refine F aa R<|S<|G n<|.eq R<|.as R<|.e R<|C h (λba h=>?_) λba h=>?_
 refine A ba R<|Y n<|.fa R<|.ld R<|.mv R ?_
 obtain ⟨⟨ue,ve⟩,wc,h⟩:=bS h
 exact .cp (draw_Codes_Next_ok wc) R (a1 R) R<|.ad R<|.ad R<|.fa R<|.st1 R<|.d R (by kernel_rfl)<|E h p R
 refine F ba R<|S<|G n<|.eq R<|.as R<|.e R<|C h (λca h=>?_) λca h=>?_
 refine A ca R<|G n<|.mv R ?_
 obtain ⟨⟨we,xe⟩,xc,h⟩:=bS h
 exact .cp (draw_Codes_Next_ok xc) R (a1 R) R<|.fa R<|.st1 R<|.e R<|E h p R
 refine F ca R<|S<|G n<|.eq R<|.as R<|.e R<|C h (λda h=>?_) λda h=>?_
 refine A da R<|Y n<|.mv R ?_
 obtain ⟨⟨ye,ze⟩,yc,h⟩:=bS h
 refine .cp (draw_Codes_Next_ok yc) R (a1 R) R<|.fa R<|C h (λea h=>?_) λea h=>?_
 refine .iaE 0 ea R<|.ld R<|.mv R ?_
 obtain ⟨⟨af,bf⟩,zc,h⟩:=bS h
 exact .cp (draw_Codes_Next_ok zc) R (a1 R) R<|.cv R<|.shl (wrapu64 _) R<|.xo R<|.fa R<|.iaE 0 ea R<|.st1 R<|.d R (by kernel_rfl)<|E h p R
 refine C h (λga h=>?_) λga h=>N h
 refine .iaE 1 ga R<|.ld R<|.mv R ?_
 obtain ⟨⟨cf,df⟩,bd,h⟩:=bS h
 exact .cp (draw_Codes_Next_ok bd) R (a1 R) R<|.cv R<|.shl (wrapu64 _) R<|.xo R<|.fa R<|.iaE 1 ga R<|.st1 R<|.d R (by kernel_rfl)<|E h p R
 refine F da R<|S<|G n<|.eq R<|.as R<|.e R<|C h (λia h=>?_) λia h=>?_
 refine A ia R<|S<|G n<|.lo R R R R R R R pn R R R<|.fa R<|.ld R<|O h λzb cd h=>.aoB R cd R R R R R R R R R R R<|.as R<|.e R<|S<|G n<|.mv R<|.mv R ?_
 obtain ⟨⟨ef,k⟩,dd,h⟩:=bS h
 exact .cp (draw_Codes_Next_ok dd) R (a1 R) R<|O h λff ed h=>.xoB R ed R R R R R R<|O h λgf fd h=>.ldoB R fd R R R R<|.xo8 R<|O h λjf gd h=>.xoB R gd R R R R R R<|O h λw bc h=>.stoB R bc R R R R R<|.e R<|G n<|.mv R<|.fa R<|.st1 R<|.e R<|W h R<|tI (lpX (env:=[(2,qI g),qP 8,(9,.ptr 19500 0),(10,qI m),qP 11,qP 12,(13,qI j)]) (blk:=[(8,.var [qI 0,.nl (.bytes []),.nl (.bytes []),.nl (.bytes [])]),(11,.var [qY a.Key,qY o,qI q,qI r,qI a.Clock,qB a.Safe,qI a.Updates,qI s,qI t,.own 80 zb.length]),(12,.var [qI u,qI c.Resets,qL 4 api_Event.pv v]),(80,qO (.bytes w)),(19500,.var [qY k.B,qI k.At])]) p R (cbv R (cbv R (cbv R (cbo oE R)))))<|tI (fxB (env:=[(2,qI g),qP 8,(9,.ptr 19500 0),(10,qI m),qP 11,qP 12,(13,qI j)]) (blk:=[(8,.var [qI 0,.nl (.bytes []),.nl (.bytes []),.nl (.bytes [])]),(11,.var [qY a.Key,qY o,qI q,qI r,qI a.Clock,qB a.Safe,qI a.Updates,qI s,qI t,.own 80 zb.length]),(12,.var [qI u,qI c.Resets,qL 4 api_Event.pv v]),(80,qO (.bytes w)),(19500,.var [qY k.B,qI k.At])]) (env':=[(2,qI g),qP 8,(9,.ptr 19500 0),(10,qI m),qP 11,qP 12,(13,qI j)]) (blk':=[(8,.var [qI 0,.nl (.bytes []),.nl (.bytes []),.nl (.bytes [])]),(11,.var [qY a.Key,qY o,qI q,qI r,qI a.Clock,qB a.Safe,qI a.Updates,qI s,qI t,.buf 80 w.length]),(12,.var [qI u,qI c.Resets,qL 4 api_Event.pv v]),(80,.buf (.bytes w)),(19500,.var [qY k.B,qI k.At])]) 80 w (updLen bc R) R (by simp [fokE,fokV,fokL,beqN]) (by simp [fokB,fokV,fokL,fokL_p,fokL_q,fokL_e,beqN]) R R)<|tI (pD 11 9 R (rdB R))<|lP p R
 refine F ia R<|S<|G n<|.eq R<|.as R<|.e R<|C h (λja h=>?_) λja h=>?_
 refine A ja R<|G n<|.mv R ?_
 obtain ⟨⟨kf,lf⟩,id,h⟩:=bS h
 exact .cp (draw_Codes_Next_ok id) R (a1 R) R<|.as R<|.e R<|E h p R
 refine F ja R<|S<|G n<|.eq R<|.as R<|.e R<|C h (λka h=>?_) λka h=>?_
 refine A ka R<|Y n<|.fa R<|.ld R<|.mv R<|.fa R<|.ld R<|.lnM R R<|.ad R ?_
 obtain ⟨⟨mf,qf⟩,jd,h⟩:=bS h
 exact .cp (draw_Codes_Next_ok jd) R (a1 R) R<|O h λrf kd h=>.slM (f:=api_Event.pv) kd R R R .none (.some _ _ _ R) .none (.inl R) R<|.fa R<|.st1 R<|.d R (by kernel_rfl)<|E h p R
 refine F ka R<|S<|G n<|.eq R<|.as R<|.e R<|C h (λla h=>?_) λla h=>?_
 refine A la R<|Y n<|.li api_Event.pv ([]:List api_Event) R qn (λ_=>R) R<|.fa R<|.ld R<|O h λsf md h=>.apM api_Event.pv md R R (λ_=>R) R<|.mv R<|.fa R<|.ld R ?_
 obtain ⟨⟨cc,tf⟩,od,h⟩:=bS h
 exact .cp (draw_Codes_Event_ok od) R (a1 R) R<|.li api_Event.pv [cc] R (qc R R qn) (λ_=>R) R<|O h λuf qd h=>.apM api_Event.pv qd R (rdM (f:=api_Event.pv) (l:=[cc]) R) (λ_=>R) R<|.fa R<|.st1 R<|.d R (by kernel_rfl)<|W h R<|tI (pD 12 2 R (rdM R))<|lP p R
 refine F la R<|G n<|.mv R ?_
 obtain ⟨⟨vf,wf⟩,rd,h⟩:=bS h
 exact .cp (draw_Codes_Next_ok rd) R (a1 R) R<|.ad R<|.fa R<|.st1 R<|.e R<|E h p R
 obtain ⟨kb,lb,mb,ob,qb,rb,sb,tb,ub,vb,wb⟩:=xb
 exact G n<|.mv R<|.sbt R<|.as R<|.e R<|E h p R
 obtain ⟨ya,za,ab,bb,cb,db,eb,fb,gb,ib,jb⟩:=sc
 refine S<|Y n<|.ldW R<|.mv R<|.mv R<|.mv R ?_
 obtain ⟨⟨xf,yf⟩,sd,h⟩:=bS h
 refine .cp (draw_Codes_Next_ok sd) R (a1 R) R<|.ldW R<|O h λb td h=>.cl (draw_Evidence_ok td) R (ac R R (ac R R (ac R R (ac R R (ac R R an))))) R<|.al R<|.stW R<|.d R (by kernel_rfl)<|S<|S<|G n<|.mv R ?_
 obtain ⟨⟨zf,dc⟩,ud,h⟩:=bS h
 refine .cp (draw_Codes_Next_ok ud) R (a1 R) R<|.e R<|J h (λ(ec,fc,gc)=>mkS [qP 8,qP 15] [(8,.var [qI 0,.nl (.bytes []),.nl (.bytes []),.nl (.bytes [])]),(15,.var [qI ec,qY b.Attest,qY fc,qY gc])]) (λic h=>?_) λic h=>?_
 refine B<|S<|G n<|.eq R<|.as R<|.e R<|C h (λma h=>?_) λma h=>?_
 refine A ma R<|G n<|.mv R ?_
 obtain ⟨⟨ag,bg⟩,vd,h⟩:=bS h
 exact .cp (draw_Codes_Next_ok vd) R (a1 R) R<|.ad R<|.fa R<|.st1 R<|.e R<|E h p R
 refine F ma R<|S<|G n<|.eq R<|.as R<|.e R<|C h (λoa h=>?_) λoa h=>?_
 refine A oa R<|Y n<|.fa R<|.ld R<|.mv R ?_
 obtain ⟨⟨cg,dg⟩,wd,h⟩:=bS h
 exact .cp (draw_Codes_Next_ok wd) R (a1 R) R<|O h λeg xd h=>.cl (draw_Cut_ok xd) R (a2 R) R<|.fa R<|.st1 R<|.d R (by kernel_rfl)<|E h p R
 refine F oa R<|S<|G n<|.eq R<|.as R<|.e R<|C h (λqa h=>?_) λqa h=>F qa R<|K<|E h p R
 refine A qa R<|S<|G n<|.fa R<|.ld R<|.lnS R R R<|.gt R<|.e R<|C h (λra h=>?_) λra h=>F ra R<|K<|E h p R
 refine A ra R<|S<|G n<|.lo R R R R R R R pn R R R<|.fa R<|.ld R<|O h λy yd h=>.aoB R yd R R R R R R R R R R R<|.as R<|.e R<|im (lpX (env:=[qP 8,(9,.ptr 19500 0),qP 15,(16,.own 151 y.length)]) (blk:=[(8,.var [qI 0,.nl (.bytes []),.nl (.bytes []),.nl (.bytes [])]),(15,.var [qI b.Machine,qY b.Attest,qY b.Signature,qY b.Log]),(151,qO (.bytes y)),(19500,.var [qY dc.B,qI dc.At])]) p R (cbv R (cbv R (cbo oE R))))<|S<|Y n<|.mv R<|.mv R ?_
 obtain ⟨⟨fg,gg⟩,zd,h⟩:=bS h
 refine .cp (draw_Codes_Next_ok zd) R (a1 R) R<|.mu R<|.mv R ?_
 obtain ⟨⟨ig,jg⟩,ae,h⟩:=bS h
 refine .cp (draw_Codes_Next_ok ae) R (a1 R) R<|V h λkg be h=>.adE be R<|.mv R<|.lnO (ecsB_len _) R<|O h λ_ sa h=>?_
 replace sa:=ck_some sa
 refine .rem (nz sa) R R<|O h λlg ce h=>.xoB R ce R R R R R R<|O h λmg de h=>.ldoB R de R R R R<|.mv R ?_
 obtain ⟨⟨og,qg⟩,ee,h⟩:=bS h
 exact .cp (draw_Codes_Next_ok ee) R (a1 R) R<|.cv R<|.shl8 (wrapu64 _) R<|.xo8 R<|O h λrg fe h=>.xoB R fe R R R R R R<|O h λx jc h=>.stoB R jc R R R R R<|.d R (by kernel_rfl)<|G n<|.mv R<|.fa R<|.st1 R<|.e R<|W h R<|tI (lpX (env:=[qP 8,qP 15]) (blk:=[(8,.var [qI 0,.nl (.bytes []),.nl (.bytes []),.nl (.bytes [])]),(15,.var [qI b.Machine,qY b.Attest,qY b.Signature,.own 151 y.length]),(151,qO (.bytes x))]) p R (cbv R (cbv R (cbo oE R))))<|tI (fxB (env:=[qP 8,qP 15]) (blk:=[(8,.var [qI 0,.nl (.bytes []),.nl (.bytes []),.nl (.bytes [])]),(15,.var [qI b.Machine,qY b.Attest,qY b.Signature,.own 151 y.length]),(151,qO (.bytes x))]) (env':=[qP 8,qP 15]) (blk':=[(8,.var [qI 0,.nl (.bytes []),.nl (.bytes []),.nl (.bytes [])]),(15,.var [qI b.Machine,qY b.Attest,qY b.Signature,.buf 151 x.length]),(151,.buf (.bytes x))]) 151 x (updLen jc R) R (by simp [fokE,fokV,fokL,beqN]) (by simp [fokB,fokV,fokL,fokL_p,fokL_q,fokL_e,beqN]) R R)<|tI (pD 15 3 R (rdB R))<|lP p R
 obtain ⟨ec,fc,gc⟩:=ic
 exact S<|G n<|.ldW R<|.stW R<|.e R<|T<|E h p R
theorem law37_made_ok {k m f g o i b c a}(h:law37_made k m f g o i=some (b,c,a)):Z 10 6 [.bytes k,.bytes m,.bytes f,.bytes g,.int .i64 o,.int .i64 i] (.tu [.p (api_Log.pv b),.buf 500 c.length,.p (api_Evidence.pv a)]) [(500,.buf (.sl 7 (List.map api_Manifest.pv c)))]:=by
 refine hA (λ(b,c,a)=>mkS [qP 12,(13,.buf 500 c.length),qP 14] [(12,.var [qI b.Active,qI b.Resets,qL 4 api_Event.pv b.Events]),(14,.var [qI a.Machine,qY a.Attest,qY a.Signature,qY a.Log]),(500,.buf (.sl 7 (List.map api_Manifest.pv c)))]) (b,c,a) func10 R (λcx p=>res_three teok R (.cellN _ _ _ _ _ _ R R R R (le_of_ble R)) (.tmp _ _ R) (.cellN _ _ _ _ _ _ R R R R (le_of_ble R)) (tI (Imp.pureT (t:=0) 0 R R R)<|tI (Imp.pureT (t:=0) 2 R R R)<|lP p R)) λcx n p=>S<|G n<|.al R<|.as R<|.al R<|.e R<|S<|G n<|.mv R<|O h λq w h=>.cl (draw_Chain_ok w) R (a1 R) R<|.as R<|.e R<|S<|G n<|.mv R<|O h λea x h=>.cl (draw_Active_ok x) R (a1 R) R<|.as R<|.e R<|S<|G n<|.mv R<|.mv R<|O h λfa y h=>.cl (draw_Log_ok y) R (a3 R) R<|.al R<|.stW R<|.e R<|S<|G n<|.mv R<|O h λga z h=>.cl (draw_New_ok z) R (a2 R) R<|.as R<|.e R<|S<|J h (λ(r,s,u)=>mkS [(2,qY f),(3,qY g),(5,qI i),qP 12,qP 14,(15,.buf 20500 q.length),qP 16] [(12,.var [qI 0,qI 0,.nl (.sl 4 [])]),(14,.var [qI 0,.nl (.bytes []),.nl (.bytes []),.nl (.bytes [])]),(16,.var [qI r,qI s,qL 4 api_Event.pv u]),(20500,.buf (.sl 4 (List.map api_Image.pv q)))]) (λv h=>?_) λv h=>?_
 refine S<|G n<|.mv R ?_
 obtain ⟨⟨ia,ja⟩,aa,h⟩:=bS h
 exact .cp (draw_Codes_Next_ok aa) R (a1 R) R<|.gt R<|.e R<|C h (λj h=>A j R<|G n<|.mv R<|.mv R<|.mv R<|O h λka ba h=>.cl (ref25_Events_ok ba) R (ac R (rdM R) (ac R R an)) R<|.bl R (pc 3 R (pc 3 R (pc 27 R pn))) R<|.stW R<|.e R<|W h R<|tI (pD 16 2 R (rdM R))<|lP p R) λj h=>F j R<|K<|E h p R
 obtain ⟨r,s,u⟩:=v
 exact S<|Y n<|.ldW R<|.mv R<|.mv R<|O h λla ca h=>.cl (draw_Manifests_ok ca) R (ac R R (ac R (rdM R) an)) R<|.mv R<|.ldW R<|.mv R<|.liB ([99,104,97,108,108,101,110,103,101]:List UInt8) R (qc R R (qc R R (qc R R (qc R R (qc R R (qc R R (qc R R (qc R R (qc R R qn))))))))) R<|.bb R (by simp)<|O h λma da h=>.cl (draw_Wrong_ok da) R (ac R R (ac R R (ac R R (ac R (rdB (l:=([99,104,97,108,108,101,110,103,101]:List UInt8)) R) an)))) R<|.stW R<|.as R<|.stW R<|.d R (by kernel_rfl)<|T<|W h R<|lR p [(500,39500)] R
theorem ref10_UniqueSize_ok {c a}(h:ref10_UniqueSize c=some a):Z 153 1 [.int .i64 c] (qI a) []:=by
 exact hA (λa=>mkS [(2,qI a)] []) a func153 R (r1 R) λcx n p=>S<|G n<|.as R<|.e R<|S<|S<|G n<|.mv R<|.eq R<|.e R<|C h (λb h=>A b R<|S<|G n<|.as R<|.e R<|T<|E h p R) λb h=>F b R<|K<|S<|G n<|.as R<|.e R<|T<|E h p R
theorem ref10_Check_ok {k w}(h:ref10_Check k=some w):Z 86 1 [api_Public.pv k] (qI w) []:=by
 refine hA (λw=>mkS [(2,qI w)] []) w func86 R (r1 R) λcx n p=>S<|G n<|.bx R<|.as R<|.e R<|S<|S<|J h (λx=>mkS [qP 1,(10,qB x)] [(1,.var [qI k.Kind,qI k.Attr,qI k.Height,qY k.Policy,qY k.Unique])]) (λx h=>G n<|.fa R<|.ld R<|.ls R<|.mv R<|C h (λr h=>.sk r R<|.sk r R<|.sk r R<|.pT r R<|.e R<|E h p R) λr h=>.g r R<|.fa R<|.g r R<|.ld R<|.g r R<|.gt R<|.pF r R<|.e R<|E h p R) λx h=>C h (λy h=>A y R<|S<|G n<|.as R<|.e R<|T<|E h p R) λy h=>F y R<|K<|S<|S<|J h (λz=>mkS [qP 1,(41,qB z)] [(1,.var [qI k.Kind,qI k.Attr,qI k.Height,qY k.Policy,qY k.Unique])]) (λz h=>?_) λz h=>?_
 refine G n<|.fa R<|.ld R<|.ls R<|.mv R<|C h (λs h=>.sk s R<|.sk s R<|.sk s R<|.pT s R<|.mv R<|.sk R R<|.sk R R<|.sk R R<|.sk R R<|.sk R R<|.su R<|.su R<|.su R<|.sk R R<|.pT R R<|.mv R<|.sk R R<|.sk R R<|.sk R R<|.sk R R<|.sk R R<|.su R<|.su R<|.su R<|.su R<|.sk R R<|.pT R R<|.e R<|E h p R) λs h=>.g s R<|.fa R<|.g s R<|.ld R<|.g s R<|.gt R<|.pF s R<|.mv R<|C h (λa h=>.sk a R<|.sk a R<|.sk a R<|.sk a R<|.sk a R<|.su R<|.su R<|.su R<|.sk a R<|.pT a R<|.mv R<|.sk R R<|.sk R R<|.sk R R<|.sk R R<|.sk R R<|.su R<|.su R<|.su R<|.su R<|.sk R R<|.pT R R<|.e R<|E h p R) λa h=>.g a R<|.fa R<|.g a R<|.ld R<|.g a R<|.an R<|.g a R<|.ne R<|.g a R<|.mv R<|C h (λt h=>?_) λt h=>.sk t R<|.sk t R<|.sk t R<|.g a R<|.pF t R<|.pF a R<|.mv R<|.g R R<|.fa R<|.g R R<|.ld R<|.g R R<|.an R<|.g R R<|.eq R<|.g R R<|.mv R<|C h (λl h=>.g l R<|.fa R<|.g l R<|.ld R<|.g l R<|.lnS R R R<|.g l R<|.eq R<|.g R R<|.pT l R<|.pF R R<|.e R<|E h p R) λl h=>.sk l R<|.sk l R<|.sk l R<|.sk l R<|.g R R<|.pF l R<|.pF R R<|.e R<|E h p R
 exact .g t R<|.fa R<|.g t R<|.ld R<|.g t R<|.ne R<|.g a R<|.pT t R<|.pF a R<|.mv R<|C h (λb h=>.sk b R<|.sk b R<|.sk b R<|.sk b R<|.sk b R<|.su R<|.su R<|.su R<|.su R<|.sk b R<|.pT b R<|.e R<|E h p R) λb h=>.g b R<|.fa R<|.g b R<|.ld R<|.g b R<|.an R<|.g b R<|.eq R<|.g b R<|.mv R<|C h (λm h=>.g m R<|.fa R<|.g m R<|.ld R<|.g m R<|.lnS R R R<|.g m R<|.eq R<|.g b R<|.pT m R<|.pF b R<|.e R<|E h p R) λm h=>.sk m R<|.sk m R<|.sk m R<|.sk m R<|.g b R<|.pF m R<|.pF b R<|.e R<|E h p R
 refine C h (λaa h=>A aa R<|S<|G n<|.as R<|.e R<|T<|E h p R) λaa h=>F aa R<|K<|S<|S<|J h (λba=>mkS [(80,qB ba)] []) (λba h=>?_) λba h=>?_
 refine Y n<|.fa R<|.ld R<|.ls R<|.mv R<|C h (λu h=>.sk u R<|.sk u R<|.sk u R<|.pT u R<|.mv R<|.sk R R<|.sk R R<|.sk R R<|.sk R R<|.su R<|.su R<|.su R<|.sk R R<|.pT R R<|.mv R<|.sk R R<|.sk R R<|.sk R R<|.sk R R<|.sk R R<|.su R<|.su R<|.su R<|.su R<|.sk R R<|.pT R R<|.mv R<|.sk R R<|.sk R R<|.sk R R<|.sk R R<|.sk R R<|.sk R R<|.sk R R<|.pT R R<|.d R (by kernel_rfl)<|E h p R) λu h=>.g u R<|.fa R<|.g u R<|.ld R<|.g u R<|.gt R<|.pF u R<|.mv R<|C h (λj h=>.sk j R<|.sk j R<|.sk j R<|.sk j R<|.su R<|.su R<|.su R<|.sk j R<|.pT j R<|.mv R<|.sk R R<|.sk R R<|.sk R R<|.sk R R<|.sk R R<|.su R<|.su R<|.su R<|.su R<|.sk R R<|.pT R R<|.mv R<|.sk R R<|.sk R R<|.sk R R<|.sk R R<|.sk R R<|.sk R R<|.sk R R<|.pT R R<|.d R (by kernel_rfl)<|E h p R) λj h=>.g j R<|.fa R<|.g j R<|.ld R<|.g j R<|.ne R<|.g j R<|.mv R<|C h (λv h=>?_) λv h=>?_
 refine .g v R<|.fa R<|.g v R<|.ld R<|.g v R<|.ne R<|.g j R<|.pT v R<|.pF j R<|.mv R<|C h (λc h=>.sk c R<|.sk c R<|.sk c R<|.sk c R<|.sk c R<|.su R<|.su R<|.su R<|.su R<|.sk c R<|.pT c R<|.mv R<|.sk R R<|.sk R R<|.sk R R<|.sk R R<|.sk R R<|.sk R R<|.sk R R<|.pT R R<|.d R (by kernel_rfl)<|E h p R) λc h=>.g c R<|.fa R<|.g c R<|.ld R<|.g c R<|.lnS R R R<|.g c R<|.ne R<|.g c R<|.mv R<|C h (λo h=>.g o R<|.fa R<|.g o R<|.ld R<|.g o R<|.lnS R R R<|.g o R<|.ne R<|.g c R<|.pT o R<|.pF c R<|.mv R<|C h (λf h=>.sk f R<|.sk f R<|.sk f R<|.sk f R<|.sk f R<|.sk f R<|.sk f R<|.pT f R<|.d R (by kernel_rfl)<|E h p R) λf h=>.g f R<|.fa R<|.g f R<|.ld R<|.g f R<|.lnS R R R<|.g f R<|.fa R<|.g f R<|.ld R<|O h λja da h=>.g f R<|.cl (ref10_UniqueSize_ok da) R (a1 R) R<|.g f R<|.ne R<|.pF f R<|.d R (by kernel_rfl)<|E h p R) λo h=>.sk o R<|.sk o R<|.sk o R<|.sk o R<|.g c R<|.pF o R<|.pF c R<|.mv R<|.g R R<|.fa R<|.g R R<|.ld R<|.g R R<|.lnS R R R<|.g R R<|.fa R<|.g R R<|.ld R<|O h λka ea h=>.g R R<|.cl (ref10_UniqueSize_ok ea) R (a1 R) R<|.g R R ?_
 exact .ne R<|.pF R R<|.d R (by kernel_rfl)<|E h p R
 exact .sk v R<|.sk v R<|.sk v R<|.g j R<|.pF v R<|.pF j R<|.mv R<|.g R R<|.fa R<|.g R R<|.ld R<|.g R R<|.lnS R R R<|.g R R<|.ne R<|.g R R<|.mv R<|C h (λq h=>.g q R<|.fa R<|.g q R<|.ld R<|.g q R<|.lnS R R R<|.g q R<|.ne R<|.g R R<|.pT q R<|.pF R R<|.mv R<|C h (λi h=>.sk i R<|.sk i R<|.sk i R<|.sk i R<|.sk i R<|.sk i R<|.sk i R<|.pT i R<|.d R (by kernel_rfl)<|E h p R) λi h=>.g i R<|.fa R<|.g i R<|.ld R<|.g i R<|.lnS R R R<|.g i R<|.fa R<|.g i R<|.ld R<|O h λla ga h=>.g i R<|.cl (ref10_UniqueSize_ok ga) R (a1 R) R<|.g i R<|.ne R<|.pF i R<|.d R (by kernel_rfl)<|E h p R) λq h=>.sk q R<|.sk q R<|.sk q R<|.sk q R<|.g R R<|.pF q R<|.pF R R<|.mv R<|.g R R<|.fa R<|.g R R<|.ld R<|.g R R<|.lnS R R R<|.g R R<|.fa R<|.g R R<|.ld R<|O h λma ia h=>.g R R<|.cl (ref10_UniqueSize_ok ia) R (a1 R) R<|.g R R<|.ne R<|.pF R R<|.d R (by kernel_rfl)<|E h p R
 exact C h (λca h=>A ca R<|S<|G n<|.as R<|.e R<|T<|E h p R) λca h=>F ca R<|K<|S<|G n<|.as R<|.e R<|T<|E h p R
theorem ref5_Recover_ok {c l k i j}(h:ref5_Recover c l k=some (i,j)):Z 154 3 [.int .i64 c,.bytes l,.bytes k] (.tu [qY i,qB j]) []:=by
 refine hA (λ(i,j)=>mkS [(6,qY i),(7,qB j)] []) (i,j) func154 R (λcx p=>res_two teok R (.tmp _ _ R) (.tmp _ _ R) .refl) λcx n p=>S<|G n<|.as R<|.as R<|.e R<|S<|S<|J h (λm=>mkS [(0,qI c),(1,qY l),(2,qY k),(21,qB m)] []) (λm h=>G n<|.mv R<|.ls R<|.mv R<|C h (λb h=>.sk b R<|.sk b R<|.pT b R<|.mv R<|.sk R R<|.sk R R<|.sk R R<|.pT R R<|.e R<|E h p R) λb h=>.g b R<|.mv R<|.g b R<|.gt R<|.pF b R<|.mv R<|C h (λa h=>.sk a R<|.sk a R<|.sk a R<|.pT a R<|.e R<|E h p R) λa h=>.g a R<|.mv R<|.g a R<|.lnS R R R<|.g a R<|.ne R<|.pF a R<|.e R<|E h p R) λm h=>C h (λo h=>A o R<|S<|G n<|.as R<|.as R<|.e R<|T<|W h R<|tI (pU 6 R)<|lP p R) λo h=>F o R<|K<|S<|G n<|.mv R<|O h λt v h=>.cl (ref5_Digits_ok v) R (a1 R) R<|.as R<|.e R<|S<|G n<|.as R<|.e R<|S<|S<|G n<|.as R<|.e R<|B<|Q h 0 (λ(q,u)=>mkS [(0,qI c),(2,qY k),(8,.buf 24500 t.length),(9,.buf 1000003 q.length),(10,qI u)] [(24500,.buf (.sl 1 (List.map (PV.int .i64) t))),(1000003,.buf (.bytes q))]) (λr=>mkS [(0,qI c),(9,.buf 1000003 r.length)] [(1000003,.buf (.bytes r))]) (tI (pM 9 1000003 R)<|lP p R) ?_ λr h=>?_
 rintro ⟨q,u⟩ ba h
 exact S<|S<|G n<|.mv R<|.ls R<|.e R<|C h (λs h=>A s R<|K<|S<|B<|Y n<|.mv R<|.mv R<|.mv R<|.mv R<|.mv R<|O h λca w h=>.ixM (f:=(PV.int .i64)) w R (rdM R) R<|.ldC R<|.mv R<|.mv R<|.mu R<|.mv R<|.mu R<|.ad R<|O h λda x h=>.slB x R R R (.some _ _ _ R) (.some _ _ _ R) .none (.inl R) R<|O h λea y h=>.cl (ref5_steps_ok y) R (ac R R (ac R R (ac R R (ac R R (ac R R an))))) R<|O h λfa z h=>.apB z R R R<|.as R<|.d R (by kernel_rfl)<|G n<|.mv R<|.ad R<|.as R<|.e R<|E h p R) λs h=>F s R<|X<|E h p R
 exact S<|G n<|.mv R<|.mv R<|O h λga aa h=>.cl (ref5_value_ok aa) R (ac R R (ac R (rdB R) an)) R<|.as R<|.as R<|.e R<|T<|E h p R
theorem ref6_Climb_ok {i j c d}(h:ref6_Climb i j c=some d):Z 155 3 [.bytes i,.int .i64 j,.sl 1 (List.map PV.bytes c)] (qY d) []:=by
 refine hA (λd=>mkS [(6,qY d)] []) d func155 R (r1 R) λcx n p=>S<|G n<|.as R<|.e R<|S<|S<|J h (λk=>mkS [(0,qY i),(1,qI j),(2,qL 1 PV.bytes c),(23,qB k)] []) (λk h=>G n<|.mv R<|.lnM R R<|.gt R<|.mv R<|C h (λb h=>.sk b R<|.sk b R<|.pT b R<|.mv R<|.sk R R<|.sk R R<|.sk R R<|.sk R R<|.sk R R<|.sk R R<|.pT R R<|.e R<|E h p R) λb h=>.g b R<|.mv R<|.g b R<|.ls R<|.pF b R<|.mv R<|C h (λa h=>.sk a R<|.sk a R<|.sk a R<|.sk a R<|.sk a R<|.sk a R<|.pT a R<|.e R<|E h p R) λa h=>.g a R<|.mv R<|.g a R<|.mv R<|.g a R<|.lnM R R<|.g a R<|.cv R<|.g a R<|.shl (wrapu64 _) R<|.g a R<|.ge R<|.pF a R<|.e R<|E h p R) λk h=>C h (λl h=>A l R<|S<|G n<|.as R<|.e R<|T<|W h R<|tI (pU 6 R)<|lP p R) λl h=>F l R<|K<|S<|G n<|.mv R<|O h λaa v h=>.cl (ref1_Copy_ok v) R (a1 R) R<|.as R<|.e R<|S<|S<|G n<|.as R<|.e R<|B<|Q h 0 (λ(m,t,o)=>mkS [(1,qI m),(2,qL 1 PV.bytes c),(7,qY t),(8,qI o)] []) (λu=>mkS [(7,qY u)] []) (tI (pV 7 R (rdB R))<|lP p R) ?_ λu h=>?_
 rintro ⟨m,t,o⟩ ba h
 refine S<|S<|G n<|.mv R<|.mv R<|.lnM R R<|.ls R<|.e R<|C h (λq h=>?_) λq h=>F q R<|X<|E h p R
 exact A q R<|K<|S<|B<|S<|J h (λr=>mkS [(1,qI m),(2,qL 1 PV.bytes c),(7,qY r),(8,qI o)] []) (λr h=>S<|G n<|.mv R<|.rem R R R<|.eq R<|.e R<|C h (λs h=>A s R<|G n<|.mv R<|.mv R<|.quo R R R<|.mv R<|.mv R<|.mv R<|O h λca w h=>.ixM (f:=PV.bytes) w R R R<|.ldC R<|O h λda x h=>.cl (ref6_join_ok x) R (a4 R) R<|.as R<|.e R<|E h p R) λs h=>F s R<|G n<|.mv R<|.mv R<|.quo R R R<|.mv R<|.mv R<|O h λea y h=>.ixM (f:=PV.bytes) y R R R<|.ldC R<|.mv R<|O h λfa z h=>.cl (ref6_join_ok z) R (a4 R) R<|.as R<|.e R<|E h p R) λr h=>G n<|.mv R<|.quo R R R<|.as R<|.e R<|G n<|.mv R<|.ad R<|.as R<|.e R<|E h p R
 exact S<|G n<|.mv R<|.as R<|.e R<|T<|E h p R
theorem ref1_Same_ok {b c a}(h:ref1_Same b c=some a):Z 25 2 [.bytes b,.bytes c] (qB a) []:=by
 refine hA (λa=>mkS [(4,qB a)] []) a func25 R (r1 R) λcx n p=>S<|G n<|.as R<|.e R<|S<|S<|G n<|.mv R<|.lnS R R R<|.mv R<|.lnS R R R<|.ne R<|.e R<|C h (λf h=>A f R<|S<|G n<|.as R<|.e R<|T<|E h p R) λf h=>F f R<|K<|S<|S<|G n<|.as R<|.e R<|B<|U h (λj=>mkS [(0,qY b),(1,qY c),(5,qI j)] []) (SE (λa=>(.ret,mkS [(4,qB a)] [])) (λ(_:Unit)=>(.exit 0,mkS [] []))) (lP p R) (by rintro (y | y) h<;>cases h) (λj o h=>S<|S<|G n<|.mv R<|.mv R<|.lnS R R R<|.ls R<|.e R<|C h (λg h=>A g R<|K<|S<|B<|S<|Y n<|.mv R<|.mv R<|O h λq k h=>.ixB k R<|.ldC R<|.mv R<|.mv R<|O h λr l h=>.ixB l R<|.ldC R<|.ne R<|.d R (by kernel_rfl)<|C h (λi h=>A i R<|S<|G n<|.as R<|.e R<|T<|E h p R) λi h=>F i R<|K<|G n<|.mv R<|.ad R<|.as R<|.e R<|E h p R) λg h=>F g R<|X<|E h p R) λm h=>?_
 rcases m with s | _
 exact W h R .refl
 exact S<|G n<|.as R<|.e R<|T<|E h p R
theorem ref7_Verify_ok {c m i j k}(h:ref7_Verify c m i=some (j,k)):Z 87 3 [.bytes c,.bytes m,.bytes i] (.tu [qI j,qB k]) []:=by
 refine hA (λ(j,k)=>mkS [(6,qI j),(7,qB k)] []) (j,k) func87 R (λcx p=>res_two teok R (.tmp _ _ R) (.tmp _ _ R) .refl) λcx n p=>S<|G n<|.as R<|.as R<|.e R<|S<|S<|J h (λo=>mkS [(0,qY c),(1,qY m),(2,qY i),(24,qB o)] []) (λo h=>G n<|.mv R<|.lnS R R R<|.ne R<|.mv R<|C h (λb h=>.sk b R<|.sk b R<|.sk b R<|.sk b R<|.sk b R<|.pT b R<|.e R<|E h p R) λb h=>.g b R<|.mv R<|O h λta da h=>.g b R<|.ixB da R<|.g b R<|.ldC R<|.g b R<|.cv R<|.g b R<|.gt R<|.pF b R<|.e R<|E h p R) λo h=>C h (λq h=>A q R<|S<|G n<|.as R<|.as R<|.e R<|T<|E h p R) λq h=>F q R<|K<|S<|G n<|.mv R<|O h λx ea h=>.ixB ea R<|.ldC R<|.cv R<|.as R<|.e R<|S<|S<|J h (λr=>mkS [(0,qY c),(1,qY m),(2,qY i),(8,qI (IntKind.i64.wrap (x.toNat:Int))),(44,qB r)] []) (λr h=>G n<|.mv R<|.lnS R R R<|.mv R<|V h λua fa h=>.muE fa R<|.ad R<|.ne R<|.mv R<|C h (λa h=>.sk a R<|.sk a R<|.sk a R<|.sk a R<|.sk a R<|.sk a R<|.sk a R<|.sk a R<|.pT a R<|.e R<|E h p R) λa h=>.g a R<|.mv R<|O h λva ga h=>.g a R<|.ixB ga R<|.g a R<|.ldC R<|.g a R<|.cv R<|.g a R<|.mv R<|.g a R<|.cv R<|V h λwa ia h=>.g a R<|.shlE ia (wrapu64 _) R<|.g a R<|.ge R<|.pF a R<|.e R<|E h p R) λr h=>C h (λs h=>A s R<|S<|G n<|.as R<|.as R<|.e R<|T<|E h p R) λs h=>?_
 refine F s R<|K<|S<|G n<|.mv R<|O h λy ja h=>.ixB ja R<|.ldC R<|.cv R<|.as R<|.e R<|S<|G n<|.as R<|.e R<|S<|G n<|.mv R<|.mv R<|.mv R<|.mv R<|O h λxa ka h=>.slB ka R R R (.some _ _ _ R) (.some _ _ _ R) .none (.inl R) R ?_
 obtain ⟨⟨z,ya⟩,la,h⟩:=bS h
 refine .cl (ref5_Recover_ok la) R (a3 R) R<|.mv R<|.ex R<|.ex R<|.as R<|.as R<|.e R<|S<|G n<|.as R<|.e R<|S<|S<|G n<|.as R<|.e R<|B<|Q h 0 (λ(aa,t,ba)=>mkS [(0,qY c),(2,qY i),(8,qI (IntKind.i64.wrap (x.toNat:Int))),(9,qI (IntKind.i64.wrap (y.toNat:Int))),(10,qI aa),(11,qY z),(13,.buf 1000003 t.length),(14,qI ba)] [(1000003,.buf (.sl 1 (List.map PV.bytes t)))]) (λu=>mkS [(0,qY c),(9,qI (IntKind.i64.wrap (y.toNat:Int))),(11,qY z),(13,.buf 1000003 u.length)] [(1000003,.buf (.sl 1 (List.map PV.bytes u)))]) (tI (pM 13 1000003 R)<|lP p R) ?_ λu h=>?_
 rintro ⟨aa,t,ba⟩ za h
 exact S<|S<|G n<|.mv R<|.mv R<|.ls R<|.e R<|C h (λv h=>A v R<|K<|S<|B<|S<|G n<|.mv R<|.mv R<|.mv R<|.mv R<|.ad R<|O h λca ma h=>.slB ma R R R (.some _ _ _ R) (.some _ _ _ R) .none (.inl R) R<|.li PV.bytes [ca] R (qc R R qn) (λ_=>R) R<|O h λab oa h=>.apM PV.bytes oa R (rdM (f:=PV.bytes) (l:=[ca]) R) (λ_=>R) R<|.as R<|.e R<|G n<|.mv R<|.ad R<|.as R<|.e R<|G n<|.mv R<|.ad R<|.as R<|.e R<|E h p R) λv h=>F v R<|X<|E h p R
 exact S<|S<|Y n<|.mv R<|.mv R<|.mv R<|O h λbb qa h=>.cl (ref6_Climb_ok qa) R (ac R R (ac R R (ac R (rdM R) an))) R<|.mv R<|O h λcb ra h=>.slB ra R R R (.some _ _ _ R) .none .none (.inl R) R<|O h λdb sa h=>.cl (ref1_Same_ok sa) R (a2 R) R<|.no R<|.d R (by kernel_rfl)<|C h (λw h=>A w R<|S<|G n<|.as R<|.as R<|.e R<|T<|E h p R) λw h=>F w R<|K<|S<|G n<|.mv R<|.as R<|.as R<|.e R<|T<|E h p R
theorem ref3_New_ok {b a}(h:ref3_New b=some a):Z 156 1 [.bytes b] (.ptr 500 0) [(500,.var [qY a.B,qI a.At,qI a.Error])]:=by
 exact hA (λa=>mkS [(2,.ptr 500 0)] [(500,.var [qY a.B,qI a.At,qI a.Error])]) a func156 R (r1 R) λcx n p=>S<|G n<|.as R<|.e R<|S<|G n<|.mv R<|.bl R (pc 22 R pn) R<|.bx R<|.as R<|.e R<|T<|W h R<|lR p [(500,5)] R
theorem ref3_Reader_need_ok {b l f c}(h:ref3_Reader_need b l=some (f,c)):Ok Tryz.prog 212 2 (mkS (qP 0 :: argE 1 [.int .i64 l]) [(0,.var (List.map .p b.cs))]) (mkS [(0,qB f)] [(0,.var (List.map .p c.cs))]):=by
 refine hB (λ(f,c)=>mkS [(4,qB f)] [(0,.var [qY c.B,qI c.At,qI c.Error])]) (f,c) func212 R (r1 R) λcx n p=>?_
 delta ref3_Reader_need at h
 refine S ?_
 refine G n ?_
 refine .as R ?_
 refine .e R ?_
 refine S<|J h (λi=>mkS [qP 0] [(0,.var [qY b.B,qI b.At,qI i])]) (λi h=>?_) λi h=>?_
 refine S<|J h (λj=>mkS [qP 0,(23,qB j)] [(0,.var [qY b.B,qI b.At,qI b.Error])]) (λj h=>?_) λj h=>?_
 refine Y n ?_
 refine .mv R ?_
 refine .ncp R ?_
 refine .fa R ?_
 refine .ld R ?_
 refine .eq R ?_
 refine .mv R<|C h (λa h=>?_) λa h=>?_
 refine .g a R ?_
 refine .mv R ?_
 refine .g a R ?_
 refine .ncp R ?_
 refine .g a R ?_
 refine .fa R ?_
 refine .g a R ?_
 refine .ld R ?_
 refine .g a R ?_
 refine .lnS R R R ?_
 refine .g a R ?_
 refine .mv R ?_
 refine .g a R ?_
 refine .ncp R ?_
 refine .g a R ?_
 refine .fa R ?_
 refine .g a R ?_
 refine .ld R ?_
 refine .g a R ?_
 refine .sbt R ?_
 refine .g a R ?_
 refine .mv R ?_
 refine .g a R ?_
 refine .ls R ?_
 refine .pT a R ?_
 exact .d R (by kernel_rfl)<|E h p R
 refine .sk a R ?_
 refine .sk a R ?_
 refine .sk a R ?_
 refine .sk a R ?_
 refine .sk a R ?_
 refine .sk a R ?_
 refine .sk a R ?_
 refine .sk a R ?_
 refine .sk a R ?_
 refine .sk a R ?_
 refine .sk a R ?_
 refine .sk a R ?_
 refine .pF a R ?_
 exact .d R (by kernel_rfl)<|E h p R
 refine C h (λk h=>?_) λk h=>?_
 refine A k R ?_
 refine G n ?_
 refine .mv R ?_
 refine .ncp R ?_
 refine .fa R ?_
 refine .st1 R ?_
 exact .e R<|E h p R
 refine F k R ?_
 exact K<|E h p R
 refine S ?_
 refine G n ?_
 refine .mv R ?_
 refine .ncp R ?_
 refine .fa R ?_
 refine .ld R ?_
 refine .eq R ?_
 refine .as R ?_
 refine .e R ?_
 exact T<|E h p R
theorem ref3_Reader_Raw_ok {b j c f}(h:ref3_Reader_Raw b j=some (c,f)):Ok Tryz.prog 157 2 (mkS (qP 0 :: argE 1 [.int .i64 j]) [(0,.var (List.map .p b.cs))]) (mkS [(0,.buf 500 c.length)] [(0,.var (List.map .p f.cs)),(500,.buf (.bytes c))]):=by
 refine hB (λ(c,f)=>mkS [(4,.buf 500 c.length)] [(0,.var [qY f.B,qI f.At,qI f.Error]),(500,.buf (.bytes c))]) (c,f) func157 R (r1 R) λcx n p=>S<|G n<|.as R<|.e R<|S<|J h (λk=>mkS [qP 0,(1,qI j)] [(0,.var [qY b.B,qI b.At,qI k])]) (λk h=>S<|J h (λl=>mkS [qP 0,(1,qI j),(13,qB l)] [(0,.var [qY b.B,qI b.At,qI b.Error])]) (λl h=>G n<|.mv R<|.ncp R<|.fa R<|.ld R<|.eq R<|.mv R<|C h (λi h=>.g i R<|.mv R<|.g i R<|.ls R<|.pT i R<|.e R<|E h p R) λi h=>.sk i R<|.sk i R<|.pF i R<|.e R<|E h p R) λl h=>C h (λm h=>A m R<|G n<|.mv R<|.ncp R<|.fa R<|.st1 R<|.e R<|E h p R) λm h=>F m R<|K<|E h p R) λk h=>S<|S<|J h (λ(q,r,s,t)=>mkS [qP 0,(1,qI j),(27,qB q)] [(0,.var [qY r,qI s,qI t])]) (λu h=>?_) λu h=>?_
 refine G n<|.mv R<|.ncp R<|.fa R<|.ld R<|.ne R<|.mv R<|C h (λa h=>.sk a R<|.sk a R<|.sk a R<|.sk a R<|.pT a R<|.e R<|E h p R) λa h=>.g a R<|.mv R<|.g a R<|.mv R ?_
 obtain ⟨⟨z,aa⟩,v,h⟩:=bS h
 exact .g a R<|.cp (ref3_Reader_need_ok v) R (a1 R) R<|.g a R<|.no R<|.pF a R<|.e R<|E h p R
 obtain ⟨q,r,s,t⟩:=u
 exact C h (λo h=>A o R<|S<|G n<|.as R<|.e R<|T<|W h R<|tI (pM 4 500 R)<|lP p R) λo h=>F o R<|K<|S<|G n<|.mv R<|.ncp R<|.fa R<|.ld R<|.mv R<|.ad R<|.ncp R<|.fa R<|.st1 R<|.e R<|S<|Y n<|.liB [] R qn R<|.mv R<|.ncp R<|.fa R<|.ld R<|.mv R<|.ncp R<|.fa R<|.ld R<|.mv R<|V h λba w h=>.sbtE w R<|.mv R<|.ncp R<|.fa R<|.ld R<|O h λca x h=>.slB x R R R (.some _ _ _ R) (.some _ _ _ R) .none (.inl R) R<|O h λda y h=>.apB y R R R<|.as R<|.d R (by kernel_rfl)<|T<|W h R<|lR p [(500,36)] R
theorem ref3_Reader_Blob_ok {m f b c}(h:ref3_Reader_Blob m f=some (b,c)):Ok Tryz.prog 158 2 (mkS (qP 0 :: argE 1 [.int .i64 f]) [(0,.var (List.map .p m.cs))]) (mkS [(0,.buf 500 b.length)] [(0,.var (List.map .p c.cs)),(500,.buf (.bytes b))]):=by
 refine hB (λ(b,c)=>mkS [(4,.buf 500 b.length)] [(0,.var [qY c.B,qI c.At,qI c.Error]),(500,.buf (.bytes b))]) (b,c) func158 R (r1 R) λcx n p=>S<|G n<|.as R<|.e R<|S<|S<|J h (λ(o,q,r,s)=>mkS [qP 0,(1,qI f),(15,qB o)] [(0,.var [qY q,qI r,qI s])]) (λt h=>?_) λt h=>?_
 refine G n<|.mv R<|.ncp R<|.fa R<|.ld R<|.ne R<|.mv R<|C h (λa h=>.sk a R<|.sk a R<|.sk a R<|.pT a R<|.e R<|E h p R) λa h=>.g a R<|.mv R ?_
 obtain ⟨⟨ea,ga⟩,u,h⟩:=bS h
 exact .g a R<|.cp (ref3_Reader_need_ok u) R (a1 R) R<|.g a R<|.no R<|.pF a R<|.e R<|E h p R
 obtain ⟨o,q,r,s⟩:=t
 refine C h (λi h=>A i R<|S<|G n<|.as R<|.e R<|T<|W h R<|tI (pM 4 500 R)<|lP p R) λi h=>F i R<|K<|S<|Y n<|.mv R<|.ncp R<|.fa R<|.ld R<|.mv R<|.ncp R<|.fa R<|.ld R<|O h λia v h=>.ixB v R<|.ldC R<|.cv R<|.shl (by decide) R<|.mv R<|.ncp R<|.fa R<|.ld R<|.mv R<|.ncp R<|.fa R<|.ld R<|.ad R<|O h λja w h=>.ixB w R<|.ldC R<|.cv R<|V h λx y h=>.oE y R<|.as R<|.d R (by kernel_rfl)<|S<|S<|G n<|.mv R<|.mv R<|.gt R<|.e R<|C h (λj h=>A j R<|S<|G n<|.mv R<|.ncp R<|.fa R<|.st1 R<|.e R<|S<|G n<|.as R<|.e R<|T<|W h R<|tI (pM 4 500 R)<|lP p R) λj h=>F j R<|K<|S<|S<|G n<|.mv R<|.mv R<|.ad R ?_
 obtain ⟨⟨z,k⟩,aa,h⟩:=bS h
 exact .cp (ref3_Reader_need_ok aa) R (a1 R) R<|.no R<|.e R<|iX [qP 0,(5,qI x),(51,qB (!z))] [(0,.var [qY k.B,qI k.At,qI k.Error])] p R<|C h (λl h=>A l R<|S<|G n<|.as R<|.e R<|T<|W h R<|tI (pM 4 500 R)<|lP p R) λl h=>F l R<|K<|S<|G n<|.mv R<|.ncp R<|.fa R<|.ld R<|.mv R<|.ad R<|V h λka ba h=>.adE ba R<|.ncp R<|.fa R<|.st1 R<|.e R<|S<|Y n<|.liB [] R qn R<|.mv R<|.ncp R<|.fa R<|.ld R<|.mv R<|.ncp R<|.fa R<|.ld R<|.mv R<|.sbt R<|.mv R<|.ncp R<|.fa R<|.ld R<|O h λla ca h=>.slB ca R R R (.some _ _ _ R) (.some _ _ _ R) .none (.inl R) R<|O h λma da h=>.apB da R R R<|.as R<|.d R (by kernel_rfl)<|T<|W h R<|lR p [(500,61)] R
theorem ref3_Reader_Uint_ok {c f k i}(h:ref3_Reader_Uint c f=some (k,i)):Ok Tryz.prog 159 2 (mkS (qP 0 :: argE 1 [.int .i64 f]) [(0,.var (List.map .p c.cs))]) (mkS [(0,qI k)] [(0,.var (List.map .p i.cs))]):=by
 refine hB (λ(k,i)=>mkS [(4,qI k)] [(0,.var [qY i.B,qI i.At,qI i.Error])]) (k,i) func159 R (r1 R) λcx n p=>S<|G n<|.as R<|.e R<|S<|J h (λq=>mkS [qP 0,(1,qI f)] [(0,.var [qY c.B,qI c.At,qI q])]) (λq h=>?_) λq h=>?_
 exact S<|J h (λr=>mkS [qP 0,(1,qI f),(19,qB r)] [(0,.var [qY c.B,qI c.At,qI c.Error])]) (λr h=>G n<|.mv R<|.ncp R<|.fa R<|.ld R<|.eq R<|.mv R<|C h (λa h=>.g a R<|.mv R<|.g a R<|.ls R<|.g a R<|.mv R<|C h (λj h=>.sk j R<|.sk j R<|.g a R<|.pT j R<|.pT a R<|.e R<|E h p R) λj h=>.g j R<|.mv R<|.g j R<|.gt R<|.g a R<|.pF j R<|.pT a R<|.e R<|E h p R) λa h=>.sk a R<|.sk a R<|.sk a R<|.su R<|.su R<|.sk a R<|.pF a R<|.e R<|E h p R) λr h=>C h (λs h=>A s R<|G n<|.mv R<|.ncp R<|.fa R<|.st1 R<|.e R<|E h p R) λs h=>F s R<|K<|E h p R
 refine S<|S<|J h (λ(w,l,m,o)=>mkS [qP 0,(1,qI f),(33,qB w)] [(0,.var [qY l,qI m,qI o])]) (λx h=>?_) λx h=>?_
 refine G n<|.mv R<|.ncp R<|.fa R<|.ld R<|.ne R<|.mv R<|C h (λb h=>.sk b R<|.sk b R<|.sk b R<|.sk b R<|.pT b R<|.e R<|E h p R) λb h=>.g b R<|.mv R<|.g b R<|.mv R ?_
 obtain ⟨⟨ea,ga⟩,ba,h⟩:=bS h
 exact .g b R<|.cp (ref3_Reader_need_ok ba) R (a1 R) R<|.g b R<|.no R<|.pF b R<|.e R<|E h p R
 obtain ⟨w,l,m,o⟩:=x
 refine C h (λt h=>A t R<|S<|G n<|.as R<|.e R<|T<|E h p R) λt h=>F t R<|K<|S<|G n<|.as R<|.e R<|S<|S<|G n<|.as R<|.e R<|B<|Q h 0 (λ(y,z)=>mkS [qP 0,(1,qI f),(5,.p (.int .u64 y)),(6,qI z)] [(0,.var [qY l,qI m,qI o])]) (λaa=>mkS [qP 0,(1,qI f),(5,.p (.int .u64 aa))] [(0,.var [qY l,qI m,qI o])]) (lP p R) ?_ λaa h=>?_
 rintro ⟨y,z⟩ ia h
 exact S<|S<|G n<|.mv R<|.mv R<|.ls R<|.e R<|C h (λu h=>A u R<|K<|S<|B<|Y n<|.mv R<|.shl (by decide) R<|.mv R<|.ncp R<|.fa R<|.ld R<|.mv R<|.ncp R<|.fa R<|.ld R<|.mv R<|.ad R<|O h λja ca h=>.ixB ca R<|.ldC R<|.cv R<|V h λka da h=>.oE da R<|.as R<|.d R (by kernel_rfl)<|G n<|.mv R<|.ad R<|.as R<|.e R<|E h p R) λu h=>F u R<|X<|E h p R
 exact S<|S<|G n<|.mv R<|.ge R<|.e R<|C h (λv h=>A v R<|S<|G n<|.mv R<|.ncp R<|.fa R<|.st1 R<|.e R<|S<|G n<|.as R<|.e R<|T<|E h p R) λv h=>F v R<|K<|S<|G n<|.mv R<|.ncp R<|.fa R<|.ld R<|.mv R<|.ad R<|.ncp R<|.fa R<|.st1 R<|.e R<|S<|G n<|.mv R<|.cv R<|.as R<|.e R<|T<|E h p R
theorem ref3_Reader_Left_ok {c b a}(h:ref3_Reader_Left c=some (b,a)):Ok Tryz.prog 213 1 (mkS (qP 0 :: argE 1 []) [(0,.var (List.map .p c.cs))]) (mkS [(0,qI b)] [(0,.var (List.map .p a.cs))]):=by
 exact hB (λ(b,a)=>mkS [(2,qI b)] [(0,.var [qY a.B,qI a.At,qI a.Error])]) (b,a) func213 R (r1 R) λcx n p=>S<|G n<|.as R<|.e R<|S<|Y n<|.mv R<|.ncp R<|.fa R<|.ld R<|.lnS R R R<|.mv R<|.ncp R<|.fa R<|.ld R<|.sbt R<|.as R<|.d R (by kernel_rfl)<|T<|E h p R
theorem ref3_Reader_End_ok {f c b}(h:ref3_Reader_End f=some (c,b)):Ok Tryz.prog 160 1 (mkS (qP 0 :: argE 1 []) [(0,.var (List.map .p f.cs))]) (mkS [(0,qI c)] [(0,.var (List.map .p b.cs))]):=by
 refine hB (λ(c,b)=>mkS [(2,qI c)] [(0,.var [qY b.B,qI b.At,qI b.Error])]) (c,b) func160 R (r1 R) λcx n p=>S<|G n<|.as R<|.e R<|S<|S<|J h (λ(i,j,k,l)=>mkS [qP 0,(12,qB i)] [(0,.var [qY j,qI k,qI l])]) (λm h=>?_) λm h=>?_
 refine G n<|.mv R<|.ncp R<|.fa R<|.ld R<|.eq R<|.mv R<|C h (λa h=>?_) λa h=>.sk a R<|.sk a R<|.sk a R<|.pF a R<|.e R<|E h p R
 refine .g a R<|.mv R ?_
 obtain ⟨⟨q,r⟩,o,h⟩:=bS h
 exact .g a R<|.cp (ref3_Reader_Left_ok o) R an R<|.g a R<|.gt R<|.pT a R<|.e R<|E h p R
 obtain ⟨i,j,k,l⟩:=m
 exact C h (λd h=>A d R<|S<|G n<|.as R<|.e R<|T<|E h p R) λd h=>F d R<|K<|S<|G n<|.mv R<|.ncp R<|.fa R<|.ld R<|.as R<|.e R<|T<|E h p R
theorem ref16_Decode_ok {u a f}(h:ref16_Decode u=some (a,f)):Z 88 1 [.bytes u] (.tu [.p (api_Attest.pv a),qI f]) []:=by
 refine hA (λ(a,f)=>mkS [qP 2,(3,qI f)] [(2,.var [qY a.Key,qY a.Nonce,qI a.Resets,qI a.Restarts,qI a.Clock,qB a.Safe,qI a.Updates,qI a.Selection.a0,qI a.Selection.a1,qY a.Digest])]) (a,f) func88 R (λcx p=>res_two teok R (.cellN _ _ _ _ _ _ R R R R (le_of_ble R)) (.tmp _ _ R) (tI (Imp.pureT (t:=0) 0 R R R)<|lP p R)) λcx n p=>S<|G n<|.al R<|.as R<|.e R<|S<|G n<|.mv R<|O h λwa ba h=>.cl (ref3_New_ok ba) R (a1 R) R<|.as R<|.e R<|S<|G n<|.mv R ?_
 obtain ⟨⟨xa,ya⟩,ca,h⟩:=bS h
 refine .cp (ref3_Reader_Raw_ok ca) R (a1 R) R<|.as R<|.e R<|S<|S<|G n<|.mv R<|.ncp R<|.fa R<|.ld R<|.ne R<|.e R<|C h (λk h=>A k R<|S<|Y n<|.bl R pn R<|.mv R<|.ncp R<|.fa R<|.ld R<|.stW R<|.as R<|.d R (by kernel_rfl)<|T<|W h R<|tI (pC 2 0 R)<|tI (pC 2 1 R)<|tI (pC 2 9 R)<|lP p R) λk h=>F k R<|K<|S<|S<|G n<|.mv R<|O h λza da h=>.cl (ref16_magic_ok da) R an R<|O h λab ea h=>.cl (ref1_Same_ok ea) R (ac R (rdB R) (ac R (rdB R) an)) R<|.no R<|.e R<|C h (λl h=>A l R<|S<|G n<|.bl R pn R<|.stW R<|.as R<|.e R<|T<|W h R<|tI (pC 2 0 R)<|tI (pC 2 1 R)<|tI (pC 2 9 R)<|lP p R) λl h=>F l R<|K<|S<|G n<|.bl R pn R<|.al R<|.stW R<|.e R<|S<|G n<|.mv R ?_
 obtain ⟨⟨c,m⟩,ga,h⟩:=bS h
 refine .cp (ref3_Reader_Blob_ok ga) R (a1 R) R<|.fa R<|.st1 R<|.e R<|iX [qP 2,(4,.ptr 11500 0),qP 6] [(2,.var [.nl (.bytes []),.nl (.bytes []),qI 0,qI 0,qI 0,qB false,qI 0,qI 0,qI 0,.nl (.bytes [])]),(6,.var [.buf 31500 c.length,.nl (.bytes []),qI 0,qI 0,qI 0,qB false,qI 0,qI 0,qI 0,.nl (.bytes [])]),(11500,.var [qY m.B,qI m.At,qI m.Error]),(31500,.buf (.bytes c))] p R<|S<|G n<|.mv R ?_
 obtain ⟨⟨j,bb⟩,ia,h⟩:=bS h
 refine .cp (ref3_Reader_Blob_ok ia) R (a1 R) R<|.fa R<|.st1 R<|.e R<|S<|G n<|.mv R ?_
 obtain ⟨⟨v,cb⟩,ja,h⟩:=bS h
 refine .cp (ref3_Reader_Uint_ok ja) R (a1 R) R<|.fa R<|.st1 R<|.e R<|S<|G n<|.mv R ?_
 obtain ⟨⟨w,db⟩,ka,h⟩:=bS h
 refine .cp (ref3_Reader_Uint_ok ka) R (a1 R) R<|.fa R<|.st1 R<|.e R<|S<|G n<|.mv R ?_
 obtain ⟨⟨x,eb⟩,la,h⟩:=bS h
 refine .cp (ref3_Reader_Uint_ok la) R (a1 R) R<|.fa R<|.st1 R<|.e R<|S<|G n<|.mv R ?_
 obtain ⟨⟨y,fb⟩,ma,h⟩:=bS h
 refine .cp (ref3_Reader_Uint_ok ma) R (a1 R) R<|.as R<|.e R<|S<|G n<|.mv R ?_
 obtain ⟨⟨z,o⟩,oa,h⟩:=bS h
 refine .cp (ref3_Reader_Uint_ok oa) R (a1 R) R<|.fa R<|.st1 R<|.e R<|iX [qP 2,(4,.ptr 11500 0),qP 6,(7,qI y)] [(2,.var [.nl (.bytes []),.nl (.bytes []),qI 0,qI 0,qI 0,qB false,qI 0,qI 0,qI 0,.nl (.bytes [])]),(6,.var [.buf 31500 c.length,.buf 34500 j.length,qI v,qI w,qI x,qB false,qI z,qI 0,qI 0,.nl (.bytes [])]),(11500,.var [qY o.B,qI o.At,qI o.Error]),(31500,.buf (.bytes c)),(34500,.buf (.bytes j))] p R<|S<|G n<|.mv R ?_
 obtain ⟨⟨qa,gb⟩,ra,h⟩:=bS h
 refine .cp (ref3_Reader_Uint_ok ra) R (a1 R) R<|.fa R<|.iaK (i:=0) R<|.st1 R<|.e R<|S<|G n<|.mv R ?_
 obtain ⟨⟨sa,ib⟩,ta,h⟩:=bS h
 refine .cp (ref3_Reader_Uint_ok ta) R (a1 R) R<|.fa R<|.iaK (i:=1) R<|.st1 R<|.e R<|S<|G n<|.mv R ?_
 obtain ⟨⟨aa,jb⟩,ua,h⟩:=bS h
 refine .cp (ref3_Reader_Raw_ok ua) R (a1 R) R<|.fa R<|.st1 R<|.e R<|S<|S<|G n<|.mv R ?_
 obtain ⟨⟨kb,lb⟩,va,h⟩:=bS h
 exact .cp (ref3_Reader_End_ok va) R an R<|.as R<|.e R<|S<|G n<|.mv R<|.ne R<|.e R<|C h (λq h=>A q R<|S<|G n<|.bl R pn R<|.mv R<|.stW R<|.as R<|.e R<|T<|W h R<|tI (pC 2 0 R)<|tI (pC 2 1 R)<|tI (pC 2 9 R)<|lP p R) λq h=>F q R<|K<|S<|S<|J h (λr=>mkS [qP 2,qP 6,(7,qI y),(73,qB r)] [(2,.var [.nl (.bytes []),.nl (.bytes []),qI 0,qI 0,qI 0,qB false,qI 0,qI 0,qI 0,.nl (.bytes [])]),(6,.var [.buf 31500 c.length,.buf 34500 j.length,qI v,qI w,qI x,qB false,qI z,qI qa,qI sa,.buf 59500 aa.length]),(31500,.buf (.bytes c)),(34500,.buf (.bytes j)),(59500,.buf (.bytes aa))]) (λr h=>G n<|.fa R<|.ld R<|.lnS R (rdB R) R<|.ne R<|.mv R<|C h (λb h=>.sk b R<|.sk b R<|.pT b R<|.e R<|E h p R) λb h=>.g b R<|.mv R<|.g b R<|.gt R<|.pF b R<|.e R<|E h p R) λr h=>C h (λs h=>A s R<|S<|G n<|.bl R pn R<|.stW R<|.as R<|.e R<|T<|W h R<|tI (pC 2 0 R)<|tI (pC 2 1 R)<|tI (pC 2 9 R)<|lP p R) λs h=>F s R<|K<|S<|G n<|.mv R<|.eq R<|.fa R<|.st1 R<|.e R<|S<|G n<|.ldW R<|.stW R<|.as R<|.e R<|T<|W h R<|tI (pD 2 0 R (rdB R))<|tI (pD 2 1 R (rdB R))<|tI (pD 2 9 R (rdB R))<|lP p R
theorem ref16_Verify_ok {c q r a f g}(h:ref16_Verify c q r=some (a,f,g)):Z 43 3 [api_Public.pv c,.bytes q,.bytes r] (.tu [.p (api_Attest.pv a),qI f,qI g]) []:=by
 refine hA (λ(a,f,g)=>mkS [qP 6,(7,qI f),(8,qI g)] [(6,.var [qY a.Key,qY a.Nonce,qI a.Resets,qI a.Restarts,qI a.Clock,qB a.Safe,qI a.Updates,qI a.Selection.a0,qI a.Selection.a1,qY a.Digest])]) (a,f,g) func43 R (λcx p=>res_three teok R (.cellN _ _ _ _ _ _ R R R R (le_of_ble R)) (.tmp _ _ R) (.tmp _ _ R) (tI (Imp.pureT (t:=0) 0 R R R)<|lP p R)) λcx n p=>S<|G n<|.bx R<|.al R<|.as R<|.as R<|.e R<|S<|S<|G n<|.ldW R<|O h λaa s h=>.cl (ref10_Check_ok s) R (a1 R) R<|.as R<|.e R<|S<|G n<|.mv R<|.ne R<|.e R<|C h (λi h=>A i R<|S<|G n<|.bl R pn R<|.mv R<|.stW R<|.as R<|.as R<|.e R<|T<|W h R<|tI (pC 6 0 R)<|tI (pC 6 1 R)<|tI (pC 6 9 R)<|lP p R) λi h=>F i R<|K<|S<|S<|G n<|.fa R<|.ld R<|.ne R<|.e R<|C h (λj h=>A j R<|S<|G n<|.bl R pn R<|.stW R<|.as R<|.as R<|.e R<|T<|W h R<|tI (pC 6 0 R)<|tI (pC 6 1 R)<|tI (pC 6 9 R)<|lP p R) λj h=>F j R<|K<|S<|S<|G n<|.fa R<|.ld R<|.an R<|.eq R<|.e R<|C h (λk h=>A k R<|S<|G n<|.bl R pn R<|.stW R<|.as R<|.as R<|.e R<|T<|W h R<|tI (pC 6 0 R)<|tI (pC 6 1 R)<|tI (pC 6 9 R)<|lP p R) λk h=>F k R<|K<|S<|G n<|.fa R<|.ld R<|.mv R<|.mv R ?_
 obtain ⟨⟨u,ba⟩,v,h⟩:=bS h
 refine .cl (ref7_Verify_ok v) R (a3 R) R<|.mv R<|.ex R<|.ex R<|.as R<|.as R<|.e R<|S<|S<|G n<|.mv R<|.no R<|.e R<|C h (λl h=>A l R<|S<|G n<|.bl R pn R<|.stW R<|.as R<|.as R<|.e R<|iX [qP 6,(7,qI 0),(8,qI 17)] [(6,.var [.nl (.bytes []),.nl (.bytes []),qI 0,qI 0,qI 0,qB false,qI 0,qI 0,qI 0,.nl (.bytes [])])] p R<|T<|W h R<|tI (pC 6 0 R)<|tI (pC 6 1 R)<|tI (pC 6 9 R)<|lP p R) λl h=>F l R<|K<|S<|G n<|.mv R ?_
 obtain ⟨⟨b,w⟩,x,h⟩:=bS h
 exact .cl (ref16_Decode_ok x) R (a1 R) R<|.mv R<|.ex R<|.ex R<|.al R<|.stW R<|.as R<|.e R<|iX [qP 3,qP 6,(10,qI u),qP 12,(13,qI w)] [(3,.var [qI c.Kind,qI c.Attr,qI c.Height,qY c.Policy,qY c.Unique]),(6,.var [.nl (.bytes []),.nl (.bytes []),qI 0,qI 0,qI 0,qB false,qI 0,qI 0,qI 0,.nl (.bytes [])]),(12,.var [qY b.Key,qY b.Nonce,qI b.Resets,qI b.Restarts,qI b.Clock,qB b.Safe,qI b.Updates,qI b.Selection.a0,qI b.Selection.a1,qY b.Digest])] p R<|S<|S<|G n<|.mv R<|.ne R<|.e R<|C h (λm h=>A m R<|S<|G n<|.bl R pn R<|.mv R<|.stW R<|.as R<|.as R<|.e R<|T<|W h R<|tI (pC 6 0 R)<|tI (pC 6 1 R)<|tI (pC 6 9 R)<|lP p R) λm h=>F m R<|K<|S<|S<|Y n<|.fa R<|.ld R<|.ldW R<|O h λca y h=>.cl (ref10_Name_ok y) R (a1 R) R<|O h λda z h=>.cl (ref1_Same_ok z) R (ac R R (ac R (rdB R) an)) R<|.no R<|.d R (by kernel_rfl)<|C h (λo h=>A o R<|S<|G n<|.bl R pn R<|.stW R<|.as R<|.as R<|.e R<|T<|W h R<|tI (pC 6 0 R)<|tI (pC 6 1 R)<|tI (pC 6 9 R)<|lP p R) λo h=>F o R<|K<|S<|G n<|.ldW R<|.mv R<|.stW R<|.as R<|.as R<|.e R<|T<|E h p R
theorem ref36_Quote_ok {g i j a c}(h:ref36_Quote g i j=some (a,c)):Z 14 3 [api_Evidence.pv g,.sl 5 (List.map api_Public.pv i),.bytes j] (.tu [.p (api_Attest.pv a),qI c]) []:=by
 refine hA (λ(a,c)=>mkS [qP 6,(7,qI c)] [(6,.var [qY a.Key,qY a.Nonce,qI a.Resets,qI a.Restarts,qI a.Clock,qB a.Safe,qI a.Updates,qI a.Selection.a0,qI a.Selection.a1,qY a.Digest])]) (a,c) func14 R (λcx p=>res_two teok R (.cellN _ _ _ _ _ _ R R R R (le_of_ble R)) (.tmp _ _ R) (tI (Imp.pureT (t:=0) 0 R R R)<|lP p R)) λcx n p=>S<|G n<|.bx R<|.al R<|.as R<|.e R<|S<|G n<|.as R<|.e R<|S<|S<|G n<|.as R<|.e R<|B<|U h (λ(o,q)=>mkS [(1,qL 5 api_Public.pv i),(2,qY j),qP 3,qP 6,(8,qI o),(9,qI q)] [(3,.var [qI g.Machine,qY g.Attest,qY g.Signature,qY g.Log]),(6,.var [.nl (.bytes []),.nl (.bytes []),qI 0,qI 0,qI 0,qB false,qI 0,qI 0,qI 0,.nl (.bytes [])])]) (SE (λ(a,c)=>(.ret,mkS [qP 6,(7,qI c)] [(6,.var [qY a.Key,qY a.Nonce,qI a.Resets,qI a.Restarts,qI a.Clock,qB a.Safe,qI a.Updates,qI a.Selection.a0,qI a.Selection.a1,qY a.Digest])])) (λr=>(.exit 0,mkS [qP 6,(8,qI r)] [(6,.var [.nl (.bytes []),.nl (.bytes []),qI 0,qI 0,qI 0,qB false,qI 0,qI 0,qI 0,.nl (.bytes [])])]))) (lP p R) (by rintro (y | y) h<;>cases h) ?_ λs h=>?_
 rintro ⟨o,q⟩ aa h
 refine S<|S<|G n<|.mv R<|.mv R<|.lnM R R<|.ls R<|.e R<|C h (λk h=>?_) λk h=>F k R<|X<|E h p R
 refine A k R<|K<|S<|B<|S<|Y n<|.mv R<|.mv R<|O h λba u h=>.ixM (f:=api_Public.pv) u R R R<|.ldD R<|.fa R<|.ld R<|.fa R<|.ld R ?_
 obtain ⟨⟨b,ca,da⟩,v,h⟩:=bS h
 refine .cl (ref16_Verify_ok v) R (a3 R) R<|.mv R<|.ex R<|.ex R<|.ex R<|.al R<|.stW R<|.as R<|.as R<|.d R (by kernel_rfl)<|S<|S<|G n<|.mv R<|.eq R<|.e R<|C h (λl h=>?_) λl h=>F l R<|K<|G n<|.mv R<|.as R<|.e R<|G n<|.mv R<|.ad R<|.as R<|.e R<|E h p R
 exact A l R<|S<|S<|Y n<|.fa R<|.ld R<|.mv R<|.fa R<|.ld R<|.fa R<|.ld R<|O h λea w h=>.cl (ref36_Nonce_ok w) R (a3 R) R<|O h λx z h=>.cl (ref1_Same_ok z) R (ac R R (ac R (rdB R) an)) R<|.no R<|.d R (by kernel_rfl)<|iX [qP 6,qP 10,(43,qB (!x))] [(6,.var [.nl (.bytes []),.nl (.bytes []),qI 0,qI 0,qI 0,qB false,qI 0,qI 0,qI 0,.nl (.bytes [])]),(10,.var [qY b.Key,qY b.Nonce,qI b.Resets,qI b.Restarts,qI b.Clock,qB b.Safe,qI b.Updates,qI b.Selection.a0,qI b.Selection.a1,qY b.Digest])] p R<|C h (λm h=>A m R<|S<|G n<|.bl R pn R<|.stW R<|.as R<|.e R<|T<|W h R<|tI (pC 6 0 R)<|tI (pC 6 1 R)<|tI (pC 6 9 R)<|lP p R) λm h=>F m R<|K<|S<|G n<|.ldW R<|.stW R<|.as R<|.e R<|T<|E h p R
 rcases s with ga | r
 exact W h R .refl
 exact S<|G n<|.bl R pn R<|.mv R<|.stW R<|.as R<|.e R<|T<|W h R<|tI (pC 6 0 R)<|tI (pC 6 1 R)<|tI (pC 6 9 R)<|lP p R
theorem ref16_Same_ok {o q l}(h:ref16_Same o q=some l):Z 15 2 [api_Attest.pv o,api_Attest.pv q] (qB l) []:=by
 refine hA (λl=>mkS [(4,qB l)] []) l func15 R (r1 R) λcx n p=>S<|G n<|.bx R<|.bx R<|.as R<|.e R<|S<|J h (λm=>mkS [(4,qB m)] []) (λm h=>?_) λm h=>?_
 refine G n<|.fa R<|.ld R<|.fa R<|.ld R<|O h λu r h=>.cl (ref1_Same_ok r) R (a2 R) R<|.mv R<|C h (λa h=>?_) λa h=>?_
 refine .g a R<|.fa R<|.g a R<|.ld R<|.g a R<|.fa R<|.g a R<|.ld R<|O h λv s h=>.g a R<|.cl (ref1_Same_ok s) R (a2 R) R<|.pT a R<|.mv R<|C h (λb h=>?_) λb h=>.sk b R<|.sk b R<|.sk b R<|.sk b R<|.sk b R<|.pF b R<|.mv R<|.sk R R<|.sk R R<|.sk R R<|.sk R R<|.sk R R<|.pF R R<|.mv R<|.sk R R<|.sk R R<|.sk R R<|.sk R R<|.sk R R<|.pF R R<|.mv R<|.sk R R<|.sk R R<|.sk R R<|.sk R R<|.sk R R<|.pF R R<|.mv R<|.sk R R<|.sk R R<|.sk R R<|.sk R R<|.sk R R<|.pF R R<|.mv R<|.sk R R<|.sk R R<|.sk R R<|.sk R R<|.sk R R<|.pF R R<|.mv R<|.sk R R<|.sk R R<|.sk R R<|.sk R R<|.sk R R<|.pF R R<|.as R<|.e R<|E h p R
 refine .g b R<|.fa R<|.g b R<|.ld R<|.g b R<|.fa R<|.g b R<|.ld R<|.g b R<|.eq R<|.pT b R<|.mv R<|C h (λc h=>?_) λc h=>.sk c R<|.sk c R<|.sk c R<|.sk c R<|.sk c R<|.pF c R<|.mv R<|.sk R R<|.sk R R<|.sk R R<|.sk R R<|.sk R R<|.pF R R<|.mv R<|.sk R R<|.sk R R<|.sk R R<|.sk R R<|.sk R R<|.pF R R<|.mv R<|.sk R R<|.sk R R<|.sk R R<|.sk R R<|.sk R R<|.pF R R<|.mv R<|.sk R R<|.sk R R<|.sk R R<|.sk R R<|.sk R R<|.pF R R<|.mv R<|.sk R R<|.sk R R<|.sk R R<|.sk R R<|.sk R R<|.pF R R<|.as R<|.e R<|E h p R
 refine .g c R<|.fa R<|.g c R<|.ld R<|.g c R<|.fa R<|.g c R<|.ld R<|.g c R<|.eq R<|.pT c R<|.mv R<|C h (λd h=>?_) λd h=>.sk d R<|.sk d R<|.sk d R<|.sk d R<|.sk d R<|.pF d R<|.mv R<|.sk R R<|.sk R R<|.sk R R<|.sk R R<|.sk R R<|.pF R R<|.mv R<|.sk R R<|.sk R R<|.sk R R<|.sk R R<|.sk R R<|.pF R R<|.mv R<|.sk R R<|.sk R R<|.sk R R<|.sk R R<|.sk R R<|.pF R R<|.mv R<|.sk R R<|.sk R R<|.sk R R<|.sk R R<|.sk R R<|.pF R R<|.as R<|.e R<|E h p R
 refine .g d R<|.fa R<|.g d R<|.ld R<|.g d R<|.fa R<|.g d R<|.ld R<|.g d R<|.eq R<|.pT d R<|.mv R<|C h (λf h=>?_) λf h=>.sk f R<|.sk f R<|.sk f R<|.sk f R<|.sk f R<|.pF f R<|.mv R<|.sk R R<|.sk R R<|.sk R R<|.sk R R<|.sk R R<|.pF R R<|.mv R<|.sk R R<|.sk R R<|.sk R R<|.sk R R<|.sk R R<|.pF R R<|.mv R<|.sk R R<|.sk R R<|.sk R R<|.sk R R<|.sk R R<|.pF R R<|.as R<|.e R<|E h p R
 refine .g f R<|.fa R<|.g f R<|.ld R<|.g f R<|.fa R<|.g f R<|.ld R<|.g f R<|.beq R<|.pT f R<|.mv R<|C h (λi h=>?_) λi h=>.sk i R<|.sk i R<|.sk i R<|.sk i R<|.sk i R<|.pF i R<|.mv R<|.sk R R<|.sk R R<|.sk R R<|.sk R R<|.sk R R<|.pF R R<|.mv R<|.sk R R<|.sk R R<|.sk R R<|.sk R R<|.sk R R<|.pF R R<|.as R<|.e R<|E h p R
 exact .g i R<|.fa R<|.g i R<|.ld R<|.g i R<|.fa R<|.g i R<|.ld R<|.g i R<|.eq R<|.pT i R<|.mv R<|C h (λj h=>.g j R<|.fa R<|.g j R<|.ldN R<|.g j R<|.fa R<|.g j R<|.ldN R<|.g j R<|.eAq Tryz.eqGuardType44 R<|.pT j R<|.mv R<|C h (λk h=>.g k R<|.fa R<|.g k R<|.ld R<|.g k R<|.fa R<|.g k R<|.ld R<|O h λw t h=>.g k R<|.cl (ref1_Same_ok t) R (a2 R) R<|.pT k R<|.as R<|.e R<|E h p R) λk h=>.sk k R<|.sk k R<|.sk k R<|.sk k R<|.sk k R<|.pF k R<|.as R<|.e R<|E h p R) λj h=>.sk j R<|.sk j R<|.sk j R<|.sk j R<|.sk j R<|.pF j R<|.mv R<|.sk R R<|.sk R R<|.sk R R<|.sk R R<|.sk R R<|.pF R R<|.as R<|.e R<|E h p R
 exact .sk a R<|.sk a R<|.sk a R<|.sk a R<|.sk a R<|.pF a R<|.mv R<|.sk R R<|.sk R R<|.sk R R<|.sk R R<|.sk R R<|.pF R R<|.mv R<|.sk R R<|.sk R R<|.sk R R<|.sk R R<|.sk R R<|.pF R R<|.mv R<|.sk R R<|.sk R R<|.sk R R<|.sk R R<|.sk R R<|.pF R R<|.mv R<|.sk R R<|.sk R R<|.sk R R<|.sk R R<|.sk R R<|.pF R R<|.mv R<|.sk R R<|.sk R R<|.sk R R<|.sk R R<|.sk R R<|.pF R R<|.mv R<|.sk R R<|.sk R R<|.sk R R<|.sk R R<|.sk R R<|.pF R R<|.mv R<|.sk R R<|.sk R R<|.sk R R<|.sk R R<|.sk R R<|.pF R R<|.as R<|.e R<|E h p R
 exact T<|E h p R
theorem law37_AppraiseQuote_ok {b ca da ea ga s t r}(h:law37_AppraiseQuote b ca da ea ga s t=some r):Z 3 7 [api_Evidence.pv b,.bytes ca,.bytes da,.int .i64 ea,.int .i64 ga,.bool s,.int .i64 t] (qB r) []:=by
 refine hA (λr=>mkS [(14,qB r)] []) r func3 R (r1 R) λcx n p=>S<|G n<|.bx R<|.as R<|.e R<|S<|S<|G n<|O h λya ia h=>.cl (law37_awake_ok ia) R an R<|.no R<|.e R<|C h (λu h=>A u R<|S<|G n<|.as R<|.e R<|T<|E h p R) λu h=>F u R<|K<|S<|G n<|.mv R<|O h λza ja h=>.cl (draw_Mod_ok ja) R (a2 R) R<|.ad R<|.as R<|.e R<|S<|G n<|.mv R<|.mv R<|.mv R<|.mv R ?_
 obtain ⟨⟨ab,cb,c⟩,ka,h⟩:=bS h
 refine .cl (law37_made_ok ka) R (ac R R (ac R R (ac R R (ac R R (ac R R (ac R R an)))))) R<|.mv R<|.ex R<|.ex R<|.ex R<|.al R<|.al R<|.stW R<|.as R<|.stW R<|.e R<|S<|G n<|.mv R<|O h λa la h=>.cl (draw_Enrolled_ok la) R (a2 R) R<|.al R<|.stW R<|.e R<|iX [(5,qB s),(6,qI t),qP 7,qP 17,qP 18] [(7,.var [qI b.Machine,qY b.Attest,qY b.Signature,qY b.Log]),(17,.var [qI c.Machine,qY c.Attest,qY c.Signature,qY c.Log]),(18,.var [qI a.Machine,qI a.Active,qL 5 api_Public.pv a.Quoting,.nl (.bytes []),qY a.Parent.Seed,.nl (.bytes []),qI a.Parents.Kind,qI a.Parents.Attr,qI a.Parents.Height,.nl (.bytes []),qY a.Parents.Unique])] p R<|S<|Y n<|.fa R<|.ld R<|.mv R<|O h λdb ma h=>.cl (draw_Mod_ok ma) R (a2 R) R<|.rem R R R<|O h λv oa h=>.slM (f:=api_Public.pv) oa R R R .none (.some _ _ _ R) .none (.inl R) R<|.fa R<|.st1 R<|.d R (by kernel_rfl)<|S<|G n<|.liB ([99,104,97,108,108,101,110,103,101]:List UInt8) R (qc R R (qc R R (qc R R (qc R R (qc R R (qc R R (qc R R (qc R R (qc R R qn))))))))) R<|.bb R (by simp)<|.as R<|.e R<|S<|J h (λq=>mkS [qP 7,qP 17,qP 18,(19,.buf 1000001 q.length)] [(7,.var [qI b.Machine,qY b.Attest,qY b.Signature,qY b.Log]),(17,.var [qI c.Machine,qY c.Attest,qY c.Signature,qY c.Log]),(18,.var [qI a.Machine,qI a.Active,qL 5 api_Public.pv v,.nl (.bytes []),qY a.Parent.Seed,.nl (.bytes []),qI a.Parents.Kind,qI a.Parents.Attr,qI a.Parents.Height,.nl (.bytes []),qY a.Parents.Unique]),(1000001,.buf (.bytes q))]) (λq h=>S<|G n<|.mv R<|.e R<|C h (λw h=>A w R<|G n<|.liB ([111,116,104,101,114]:List UInt8) R (qc R R (qc R R (qc R R (qc R R (qc R R qn))))) R<|.bb R (by simp)<|.as R<|.e R<|W h R<|lR p [(1000001,52)] R) λw h=>F w R<|K<|W h R<|lR p [(1000001,49)] R) λq h=>?_
 refine S<|Y n<|.fa R<|.ld R<|O h λk qa h=>.cl (draw_Cut_ok qa) R (a2 R) R<|.fa R<|.ld R<|O h λm ra h=>.cl (draw_Cut_ok ra) R (a2 R) R<|.fa R<|.ld R<|O h λo sa h=>.cl (draw_Cut_ok sa) R (a2 R) R<|.fa R<|.st1 R<|.fa R<|.st1 R<|.fa R<|.st1 R<|.d R (by kernel_rfl)<|S<|S<|G n<|.ldW R<|.ldW R<|.li api_Evidence.pv [c,api_Evidence.mk b.Machine k m o] R (qc R R (qc R R qn)) (λ_=>R) R<|.lnM R (rdM (f:=api_Evidence.pv) (l:=[c,api_Evidence.mk b.Machine k m o]) R)<|.mv R<|.e R<|B<|U h (λx=>mkS [qP 18,(19,.buf 1000001 q.length),(68,.buf 68 [c,api_Evidence.mk b.Machine k m o].length),(69,qI ([c,api_Evidence.mk b.Machine k m o].length:Int)),(70,qI x)] [(18,.var [qI a.Machine,qI a.Active,qL 5 api_Public.pv v,.nl (.bytes []),qY a.Parent.Seed,.nl (.bytes []),qI a.Parents.Kind,qI a.Parents.Attr,qI a.Parents.Height,.nl (.bytes []),qY a.Parents.Unique]),(68,.buf (.sl 4 (List.map api_Evidence.pv [c,api_Evidence.mk b.Machine k m o]))),(1000001,.buf (.bytes q))]) (SE (λr=>(.ret,mkS [(14,qB r)] [])) (λ(_:Unit)=>(.exit 0,mkS [] []))) (lP p R) (by rintro (y | y) h<;>cases h) ?_ λta h=>?_
 rintro x eb h
 refine S<|G n<|.ls R<|.e R<|S<|C h (λz h=>?_) λz h=>F z R<|X<|E h p R
 refine A z R<|K<|S<|B<|S<|G n<|O h λfb ua h=>.ixM (f:=api_Evidence.pv) ua R (rdM (f:=api_Evidence.pv) (l:=[c,api_Evidence.mk b.Machine k m o]) R) R<|.ldD R<|.al R<|.stW R<|.e R<|S<|G n<|.ldW R<|.fa R<|.ld R<|.mv R ?_
 obtain ⟨⟨gb,ib⟩,va,h⟩:=bS h
 refine .cl (appraise_Quote_ok va) R (ac R R (ac R R (ac R (rdB R) an))) R<|.mv R<|.ex R<|.ex R<|.al R<|.stW R<|.as R<|.e R<|S<|G n<|.ldW R<|.fa R<|.ld R<|.mv R ?_
 obtain ⟨⟨jb,kb⟩,wa,h⟩:=bS h
 refine .cl (ref36_Quote_ok wa) R (ac R R (ac R R (ac R (rdB R) an))) R<|.mv R<|.ex R<|.ex R<|.al R<|.stW R<|.as R<|.e R<|S<|J h (λaa=>mkS [qP 18,(19,.buf 1000001 q.length),(68,.buf 68 [c,api_Evidence.mk b.Machine k m o].length),(69,qI ([c,api_Evidence.mk b.Machine k m o].length:Int)),(70,qI x),(102,qB aa)] [(18,.var [qI a.Machine,qI a.Active,qL 5 api_Public.pv v,.nl (.bytes []),qY a.Parent.Seed,.nl (.bytes []),qI a.Parents.Kind,qI a.Parents.Attr,qI a.Parents.Height,.nl (.bytes []),qY a.Parents.Unique]),(68,.buf (.sl 4 (List.map api_Evidence.pv [c,api_Evidence.mk b.Machine k m o]))),(1000001,.buf (.bytes q))]) (λaa h=>G n<|.mv R<|.mv R<|.ne R<|.mv R<|C h (λi h=>.sk i R<|.sk i R<|.sk i R<|.su R<|.su R<|.su R<|.su R<|.sk i R<|.pT i R<|.e R<|E h p R) λi h=>.g i R<|.mv R<|.g i R<|.eq R<|.g i R<|.mv R<|C h (λj h=>.g j R<|.ldW R<|.g j R<|.ldW R<|O h λlb xa h=>.g j R<|.cl (ref16_Same_ok xa) R (a2 R) R<|.g j R<|.no R<|.g i R<|.pT j R<|.pF i R<|.e R<|E h p R) λj h=>.sk j R<|.sk j R<|.sk j R<|.sk j R<|.g i R<|.pF j R<|.pF i R<|.e R<|E h p R) λaa h=>C h (λba h=>A ba R<|S<|G n<|.as R<|.e R<|T<|E h p R) λba h=>?_
 exact F ba R<|K<|G n<|.ad R<|.mv R<|.e R<|E h p R
 rcases ta with mb | _
 exact W h R .refl
 exact S<|G n<|.as R<|.e R<|T<|E h p R
end Go.Proofs.Tryz.S
