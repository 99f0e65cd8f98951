/- UpdateDecode holds for all inputs -/
import Derived.Test.YtegimnpiojonmaaGreatDoorBZ4
import Derived.Defers
set_option linter.all false
set_option linter.all false
open List renaming map -> Q0, replicate -> Q5, mem_map -> Q8, flatMap_cons -> Qb, all_eq_true -> Qe, range -> Qh, length_cons -> Ql, mem_append -> Qm, map_map -> Qo
open Nat renaming shiftRight -> Q1, mod -> Q3, le_of_ble_eq_true -> Q4, add -> Q6, xor -> Q7, blt -> Q9, shiftLeft -> Qa, ble -> Qc, le_trans -> Qd, add_mul -> Qf, eq_of_beq_eq_true -> Qg, land -> Qi, lt_of_lt_of_le -> Qj, le_refl -> Qk, lor -> Qn
open UInt8 renaming ofNat -> Q2
namespace Go.Sw
open Go
variable {B B2:List (Nat×List AV)}{K:AS->List Mic->Prop}{M:Mem}{P:Program}{Q:Exit->AS->Prop}{X:Exit->Act->World->Prop}{a:Act}{af:Array Edge}{args:Array Value}{as:AS}{av:AV}{b:Int}{bB bc:LB}{body:Code}{bs:LB}{cs:List AV}{cx:Ctx}{d:Nat}{e:TypeId}{ei:TI}{f:FuncId}{fn:Func}{i:Int}{kc kl:IntKind}{ks:List Nat}{n na nt:Nat}{o:Oper}{ops:Array Oper}{pk pk2:PKs}{pos:String}{r:List Oper}{rs s s':AS}{t:TypeId}{te:TE}{tip:Nat->Value}{ty:TypeId}{us:List AV}{v:AV}{w:World}{x y:Operand}{α:Type}{κ:Nat->Option Nat}{c:α->List PV}{l:List α}{u:α}
def OkW (P:Program) (f:FuncId) (na:Nat) (as rs:AS):Prop:=∃ fn body ks,P.funcs[f]? = some fn/\fn.body=some body/\(fn.name == "runtime.NumGoroutine")=false/\na<=fn.ntmps/\(∀ k,k<BIG->(as.blk k).isSome=true->k∈ks)/\∀ cx:Ctx,cx.nt=fn.ntmps->PK cx ks->awp P cx body (yBe P fn cx rs) as
theorem zKd (E:AS) (hf:P.funcs[f]? = some fn) (hb:fn.body=some body) (hnm:(fn.name == "runtime.NumGoroutine")=false) (hnt:na<=fn.ntmps) (hks:∀ k,k<BIG->(as.blk k).isSome=true->k∈ks)
  (hr:∀ cx:Ctx,PK cx ks->tB P fn cx E rs) (h:∀ cx:Ctx,cx.nt=fn.ntmps->PK cx ks->awp P cx body (OR cx E) as):OkW P f na as rs:=
 ⟨fn,body,ks,hf,hb,hnm,hnt,hks,λcx h1 h2 a w hs=>wp_mono (h cx h1 h2 a w hs) λe a' w' ⟨s',g1,g2,g3⟩ =>⟨E,g3 cx a' w' rfl g1,g2,hr cx h2⟩⟩
section
theorem zPu (hi:Inv ⟨w,M,pk,na,[]⟩ M κ tip as ⟨args,[]⟩ w) (hnt:na<=nt):Inv ⟨w,M,pk,nt,[]⟩ M κ tip as { tmps:=args++Array.replicate (nt - args.size) undef,defers:=[] } w:=by
 have hsz:args.size=na:=hi.size;exact {
  defers:=rfl
  size:=by simp;omega
  fr:=⟨hi.fr.os,hi.fr.tape,hi.fr.output,hi.fr.size,hi.fr.block⟩
  mem:=hi.mem
  env:=λt u e=>by
   obtain ⟨x,h1,h2⟩:=hi.env t u e;refine ⟨x,?_,h2⟩;simp only at h1;have hlt:t<args.size:=(Array.getElem?_eq_some_iff.1 h1).1;rw [Array.getElem?_append_left hlt];exact h1
  vars:=hi.vars
  bufs:=hi.bufs
  inj:=hi.inj
  dom:=hi.dom
  glob:=hi.glob
  old:=hi.old
  owns:=hi.owns }
theorem OkW.callsD {f:FuncId} {na:Nat} {as rs:AS} (h:OkW P f na as rs) {w:World} {M:Mem} {pk:PKs} {args:Array Value} {κ:Nat->Option Nat} {tip:Nat->Value} (hi:Inv ⟨w,M,pk,na,[]⟩ M κ tip as ⟨args,[]⟩ w) (hpk:∀ k∈pk,κ k.1=some k.2/\k.2<w.heap.size) (u:FrameMode) :
  CallsD P f args u w λe u' w'=>u'=u/\∃ v,e=.returned v/\SRel ⟨w,M,pk,1,[]⟩ rs ⟨#[v],[]⟩ w':=by
 obtain ⟨fn,body,ks,hf,hb,hnm,hnt,hks,h⟩:=h;refine callsD_of_wp (R:=λe w'=>∃ v,e=.returned v/\SRel ⟨w,M,pk,1,[]⟩ rs ⟨#[v],[]⟩ w') hf hb ?_;have hPK:PK ⟨w,M,pk,fn.ntmps,[]⟩ ks:=λk hk=>hks k.1 (pk.nk k hk) (by
  cases hb:as.blk k.1 with
  | none=>have:=(hpk k hk).1;rw [hi.dom _ hb] at this;cases this
  | some b=>rfl)
 refine wp_mono (h ⟨w,M,pk,fn.ntmps,[]⟩ rfl hPK _ _ ⟨M,κ,tip,Mem.le_refl _,hpk,zPu hi hnt⟩) ?_;rintro e a' w' ⟨s',hs',he,hres⟩;obtain ⟨v,hv,hr⟩:=hres a' w' hs';have hd:a'.defers=[]:=by obtain ⟨_,_,_,_,_,hi'⟩:=hs';exact hi'.defers
 rcases he with rfl | rfl
 ·exact ⟨hd,v,hv,v,rfl,hr⟩
 ·exact ⟨hd,v,hv,v,rfl,hr⟩
theorem zTl {Q:Exit->Act->World->Prop} {is:List Nat} (hQ:∀ a w,SRel cx s' a w->wpOps P ops Q is a w) {l:List Oper} {ms:List Mic}
  (h:Run P ops l s s' ms):(∀ m∈ms,∀ d∈m.ws,d<cx.nt)->∀ (n:Nat),(∀ i,i<l.length->l[i]? = ops[n+i]?)->∀ (a:Act) (w:World),SRel cx s a w->wpOps P ops Q ((Qh l.length).map (n+·)++is) a w:=by
 induction h with
 | nil s=>intro _ n _ a w hs;exact hQ a w hs
 | cons o r m s s' ms h1 h2 _ ih=>
  intro hws n hl a w hs;have e:(Qh (o :: r).length).map (n+·)=n :: (Qh r.length).map (n+1+·):=by
   rw [Ql,List.range_succ_eq_map];simp only [List.map_cons,Qo,Nat.add_zero];congr 1;refine List.map_congr_left (λx _=>?_);simp only [Function.comp];omega
  rw [e,List.cons_append,wpOps_cons];have ho:ops[n]? = some o:=by
   have:=hl 0 (by simp);simpa using this.symm
  unfold wpOp;rw [ho];refine h1 cx s a w _ Q h2 hs (hws m (by simp)) ?_;intro a' w' hs';exact ih hQ (λx hx=>hws x (by simp [hx])) (n+1) (λi hi=>by have:=hl (i+1) (by simp;omega);rw [show n+1+i=n+(i+1) by omega];simpa using this) a' w' hs'
def zS5 (P:Program) (cx:Ctx) (c:Code) (Q:Exit->AS->Prop) (X:Exit->Act->World->Prop) (s:AS):Prop:=
 ∀ a w,SRel cx s a w->c.wp P (λe a' w'=>(∃ s',SRel cx s' a' w'/\Q e s')∨X e a' w') a w
theorem xsq {x y:Code} (h:awp P cx x (zNo (λs=>zS5 P cx y Q X s) Q) s):zS5 P cx (.seq x y) Q X s:=λa w hs=>
 wp_seq (wp_mono (h a w hs) λe a' w' ⟨s',h1,h2⟩ =>by
  cases e with
  | normal=>exact h2 a' w' h1
  | _=>exact .inl ⟨s',h1,h2⟩)
def XQ (P:Program) (fn:Func) (cx:Ctx) (rs:AS):Exit->Act->World->Prop:=λe a w=>(e=.ret∨e=.normal)/\Leaves P fn a.tmps (λe w'=>∃ v,e=.returned v/\SRel { cx with nt:=1,df:=[] } rs ⟨#[v],[]⟩ w') a.defers .returning w
theorem zZh (hf:P.funcs[f]? = some fn) (hb:fn.body=some body) (hnm:(fn.name == "runtime.NumGoroutine")=false) (hnt:na<=fn.ntmps) (hks:∀ k,k<BIG->(as.blk k).isSome=true->k∈ks)
  (h:∀ cx:Ctx,cx.nt=fn.ntmps->PK cx ks->cx.df=[]->zS5 P cx body (yBe P fn cx rs) (XQ P fn cx rs) as):Ok P f na as rs:=by
 refine ⟨⟨fn,hf,by simp [hb],hnm⟩,?_⟩;intro w M pk args κ tip hi hpk;refine calls_of_wp_defers hf hb ?_;have hPK:PK ⟨w,M,pk,fn.ntmps,[]⟩ ks:=λk hk=>hks k.1 (pk.nk k hk) (by
  cases hb:as.blk k.1 with
  | none=>have:=(hpk k hk).1;rw [hi.dom _ hb] at this;cases this
  | some b=>rfl)
 refine wp_mono (h ⟨w,M,pk,fn.ntmps,[]⟩ rfl hPK rfl _ _ ⟨M,κ,tip,Mem.le_refl _,hpk,zPu hi hnt⟩) ?_;rintro e a' w' (⟨s',hs',he,hres⟩ | ⟨he,hl⟩)
 ·obtain ⟨v,hv,hr⟩:=hres a' w' hs';have hd:a'.defers=[]:=by obtain ⟨_,_,_,_,_,hi'⟩:=hs';exact hi'.defers
  have hl:Leaves P fn a'.tmps (λe w'=>∃ v,e=.returned v/\SRel ⟨w,M,pk,1,[]⟩ rs ⟨#[v],[]⟩ w') a'.defers .returning w':=by
   rw [hd];exact ⟨v,hv,v,rfl,hr⟩
  rcases he with rfl | rfl
  ·exact hl
  ·exact hl
 ·rcases he with rfl | rfl
  ·exact hl
  ·exact hl
theorem Inv.root (hi:Inv cx M κ tip s a w) (hp:∀ k∈cx.pk,κ k.1=some k.2/\k.2<cx.w0.heap.size) 
  (hv:∀ k b,s.blk k=some b->(∃ l,b=.var l)/\∃ b',(k,b')∈pk2) (hpk2:∀ e∈pk2,κ e.1=some e.2) (hob:pk2.ob=[]) (df:List Deferred):Inv ⟨w,M,pk2,cx.nt,df⟩ M κ tip s { a with defers:=df } w where
 defers:=rfl
 size:=hi.size
 fr:=⟨rfl,rfl,rfl,Qk _,λ_ _ _ _=>rfl⟩
 mem:=hi.mem
 env:=hi.env
 vars:=λk l h=>by
  obtain ⟨b,arr,e,fz,q1,q2,q3,q4,q5,q6,q7⟩:=hi.vars k l h;refine ⟨b,arr,e,fz,q1,q2,q3,q4,q5,q6,.inr ?_⟩;obtain ⟨_,b',hb'⟩:=hv k _ h;have:=hpk2 _ hb';rw [q1] at this;cases this;exact Q8.2 ⟨_,hb',rfl⟩
 bufs:=λk c h=>by obtain ⟨⟨l,h2⟩,_⟩:=hv k _ h;cases h2
 inj:=hi.inj
 dom:=hi.dom
 old:=⟨λ_ _ _=>rfl,λb hb=>by rw [show (Ctx.mk w M pk2 cx.nt df).ob=pk2.ob from rfl,hob] at hb;cases hb⟩
 glob:=hi.globw hp
 owns:=λk wd l h=>by obtain ⟨⟨l,h2⟩,_⟩:=hv k _ h;cases h2
theorem SRel.unroot {a':Act} {w':World} {df:List Deferred} (hi:Inv cx M κ tip s a w) (h0:cx.M0.le M) (hpk:cx.pk.l=[]) 
  (hv:∀ e∈pk2,κ e.1=some e.2/\∃ l,s.blk e.1=some (.var l)) (hob:pk2.ob=[]) (h:SRel ⟨w,M,pk2,nt,df⟩ rs a' w'):SRel ⟨cx.w0,cx.M0,cx.pk,nt,df⟩ rs a' w':=by
 obtain ⟨M',κ',tip',h0',hp',hr⟩:=h;have hnew:∀ b∈pk2.l.map (·.2),cx.w0.heap.size<=b:=λb hb=>by
  obtain ⟨e,he,rfl⟩:=Q8.1 hb;obtain ⟨h1,l,h2⟩:=hv e he;obtain ⟨b,_,_,_,q1,_,_,_,_,_,q7⟩:=hi.vars _ l h2;rw [h1] at q1;cases q1;rcases q7 with q7 | q7
  ·exact q7
  ·simp [Ctx.pb,hpk] at q7
 have hsz:=hi.fr.size;refine ⟨M',κ',tip',h0.trans' h0',by simp [hpk],{
  defers:=hr.defers
  size:=hr.size
  fr:=⟨hr.fr.os.trans hi.fr.os,hr.fr.tape.trans hi.fr.tape,hr.fr.output.trans hi.fr.output,Qd hsz hr.fr.size,λb hb hb2 hb3=>?_⟩
  mem:=hr.mem
  env:=hr.env
  vars:=λk l h=>?_
  bufs:=λk c h=>?_
  inj:=hr.inj
  dom:=hr.dom
  old:=⟨λb o hb=>(hr.old.1 b o (Qj hb hsz)).trans (hi.old.1 b o hb),hi.old.2⟩
  glob:=⟨hr.glob.1,hi.glob.2⟩
  owns:=λk wd l h=>?_ }⟩
 ·rw [hr.fr.block b (Qj hb hsz) (λhm=>by have:=hnew b hm;simp only at hb;omega) (λhm=>by rw [show (Ctx.mk w M pk2 nt df).ob=pk2.ob from rfl,hob] at hm;cases hm)];exact hi.fr.block b hb hb2 hb3
 ·obtain ⟨b,arr,e,fz,q1,q2,q3,q4,q5,q6,q7⟩:=hr.vars k l h;exact ⟨b,arr,e,fz,q1,q2,q3,q4,q5,q6,.inl (q7.elim (λh=>Qd hsz h) (hnew b))⟩
 ·obtain ⟨h1,h2,h3,h4⟩:=hr.bufs k c h;refine ⟨h1,h2,h3,h4.imp id ?_⟩;rintro ⟨b,n,cap,arr,e,fz,q1,q2,q3,q4⟩;exact ⟨b,n,cap,arr,e,fz,q1,q2,Qd hsz q3,q4⟩
 ·rcases hr.owns k wd l h with h0 | ⟨h1,h2⟩
  ·exact .inl h0
  refine .inr ⟨h1,h2.imp id ?_⟩;rintro ⟨b,n,cap,arr,e,fz,q1,q2,q3,q4⟩;exact ⟨b,n,cap,arr,e,fz,q1,q2,.inl (q3.elim (Qd hsz) λhm=>by rw [show (Ctx.mk w M pk2 nt df).ob=pk2.ob from rfl,hob] at hm;cases hm.1),q4⟩
def DfQ (P:Program) (fn:Func) (fc:FuncId) (cs:List AV) (rs:AS) (cx:Ctx):Exit->AS->Prop:=λe s=>(e=.ret∨e=.normal)/\∃ (E:AS) (av:AV) (us:List AV) (B:List (Nat×List AV)) (bout:LB) (ρ:Nat->Nat) (bc bB:LB) (O:GO) (fr:List Nat),
 Imp cx.pk s E/\OkW P fc us.length (mkS (argA 0 us) (bV B++oV O)) (mkS [(0,av)] bout)/\GVs O E ρ (B.map (·.1)) cs us bc/\GB O E ρ (B.map (·.1)) B bB/\((∀ e∈oI O,E.blk e.1=some e.2)/\(∀ k∈fr,E.blk k=none)/\(∀ j∈B.map (·.1),j<BIG)/\(O.isSome=true->∀ j∈bout.map (·.1),BIG<=j->BIG<=ρ j))/\(∀ j∈bout.map (·.1),∀ j'∈bout.map (·.1),ρ j=ρ j'->j=j') /\
  (∀ j∈B.map (·.1),∃ l',lk bout j=some (.var l'))/\(∀ j∈bout.map (·.1),j∈B.map (·.1)∨ρ j∈fr)/\∀ cx3:Ctx,PK cx3 []->tB P fn cx3 (inS (kill E O) ρ bout) rs
def DfK (P:Program) (te:TE) (fn:Func) (n:Nat) (rest:Code) (rs:AS) (x:Operand) (s1:AS):Prop:=∃ (env2:LV) (B0:List (Nat×List AV)) (fc:FuncId) (cs:List AV),
 s1.get te 0 x=some (.fnv (fc+1000000) cs)/\Le (mkS env2 (bV B0)) s1/\((∀ v∈cs,∃ k∈B0.map (·.1),v=.ptr k 0)/\∀ j∈B0.map (·.1),j<BIG) /\
  ∀ cx2:Ctx,cx2.nt=n->PK cx2 (B0.map (·.1))->awp P cx2 rest (DfQ P fn fc cs rs cx2) (mkS env2 (bV B0))
theorem zPf {id:Nat} {rest:Code} (hdf:cx.df=[]) (hpk:cx.pk.l=[]) (hnt:cx.nt=n)
  (hops:ops.toList=ops.toList.dropLast++[⟨none,.defer ⟨.value x,#[],#[]⟩,ty,pos,af,none⟩]) (h:RK P ops ops.toList.dropLast s λs' ms=>bW n ms=true/\DfK P te fn n rest rs x s') :
  zS5 P cx (.seq (.region id ops false) rest) Q (XQ P fn cx rs) s:=by
 intro a w hs;generalize ops.toList.dropLast=l at hops h;obtain ⟨s1,ms,h1,h2,env2,B0,fc,cs,hx,hle,⟨hcs,hB0⟩,hrest⟩:=h;refine wp_seq (wp_region ?_);have hsz:ops.size=l.length+1:=by rw [<- Array.length_toList,hops];simp
 rw [hsz,List.range_succ];have hfin:=zTl (ops:=ops) (cx:=cx) (is:=[l.length]) (Q:=Exit.then (rest.wp P λe a' w'=>(∃ s',SRel cx s' a' w'/\Q e s')∨XQ P fn cx rs e a' w') λe a' w'=>(∃ s',SRel cx s' a' w'/\Q e s')∨XQ P fn cx rs e a' w') (λa1 w1 hs1=>?_) h1 (by rw [hnt];exact zKa h2) 0 (λi hi=>by
  rw [Nat.zero_add,<- Array.getElem?_toList,hops,List.getElem?_append_left hi]) a w hs
 ·simpa using hfin
 have ho:ops[l.length]? = some ⟨none,.defer ⟨.value x,#[],#[]⟩,ty,pos,af,none⟩:=by
  rw [<- Array.getElem?_toList,hops];simp
 rw [wpOps_cons];unfold wpOp;rw [ho];show if Region.wanted _ _ then _ else _
 rw [if_pos (by simp [Region.wanted])];refine .inl ?_;obtain ⟨M,κ,tip,h0,hp,hi⟩:=hs1;have hx':=yF hi (yN hx s1 (zM hx));obtain ⟨vs,hev,g1,g2⟩:∃ vs:Array Value,a1.eval x=.func (.func fc) #[] vs/\vs.size=cs.length/\∀ (j:Nat) (q:AV),cs[j]? = some q->RepA M κ tip s1.blk q (vs.getD j undef):=by
  generalize a1.eval x=z at hx';cases hx' with
  | fnv _ _ vs g1 g2=>
   refine ⟨vs,?_,g1,g2⟩;have:Q9 (fc+1000000) 1000000=false:=by rw [Bool.eq_false_iff];intro e;have:=Q4 e;omega
   simp [mkF,this]
 have hrun:(execOp a1.eval ⟨none,.defer ⟨.value x,#[],#[]⟩,ty,pos,af,none⟩).run P w1=.ok (.defer ⟨.fn (.func fc) vs,#[]⟩) w1:=by
  simp [execOp,resolve,hev,Deferred.ofValue]
 unfold Oper.wp;rw [hrun];have hd0:a1.defers=[]:=by rw [hi.defers,hdf]
 rw [Oper.upon_defer,hd0];show rest.wp P _ _ _;have hi2:=hi.less hle;generalize hκ2:(λk=>if ((mkS env2 (bV B0)).blk k).isSome then κ k else none)=κ2 at hi2;have hkey:∀ j∈B0.map (·.1),∃ b us,κ j=some b/\κ2 j=some b/\b<w1.heap.size/\(mkS env2 (bV B0)).blk j=some (.var us):=λj hj=>by
  obtain ⟨us,hus⟩:=zAs hj;obtain ⟨b,_,_,_,q1,_⟩:=hi2.vars j us hus;refine ⟨b,us,?_,q1,hi2.lt q1,hus⟩;rw [<- hκ2] at q1;simp only at q1;split at q1
  ·exact q1
  ·cases q1
 let pk2:PKs:=⟨(B0.map (·.1)).map λj=>(j,(κ2 j).getD 0),[],λe he=>by
  obtain ⟨j,hj,rfl⟩:=Q8.1 he;exact hB0 j hj⟩
 have hpk2:∀ e∈pk2,κ2 e.1=some e.2/\e.2<w1.heap.size/\e.1∈B0.map (·.1):=λe he=>by
  obtain ⟨j,hj,rfl⟩:=Q8.1 he;obtain ⟨b,_,_,h3,h4,_⟩:=hkey j hj;simp only [h3,Option.getD_some];exact ⟨trivial,h4,hj⟩
 have hroot:=hi2.root (by simp [hpk]) (pk2:=pk2) (λk b hb=>by
  obtain ⟨g3,us,g4⟩:=zFu hb;exact ⟨⟨us,g4⟩,_,Q8.2 ⟨k,g3,rfl⟩⟩) (λe he=>(hpk2 e he).1) rfl [⟨.fn (.func fc) vs,#[]⟩]
 refine wp_mono (hrest ⟨w1,M,pk2,cx.nt,[⟨.fn (.func fc) vs,#[]⟩]⟩ hnt (λe he=>(hpk2 e he).2.2) _ w1 ⟨M,κ2,tip,Mem.le_refl _,λe he=>⟨(hpk2 e he).1,(hpk2 e he).2.1⟩,hroot⟩) ?_;rintro e a' w' ⟨sE,hsE,he,E,av,us,B,bout,ρ,bc,bB,O,fr,himp,hokw,hgl,hgb,⟨hoi,hfr,hDb,hbg⟩,hinj,hout,hnew,hres⟩;obtain ⟨M',κ',tip',h0',hp',hi'⟩:=himp _ a' w' rfl hsE;refine .inr ⟨he,?_⟩;rw [show a'.defers=[⟨.fn (.func fc) vs,#[]⟩] from hi'.defers];have hokw':=hokw;obtain ⟨fn',body',_,k1,k2,k3,_⟩:=hokw';have k2':fn'.body≠none:=by intro e;simp [e] at k2
 have k3':fn'.name ≠ "runtime.NumGoroutine":=by intro e;simp [e] at k3
 refine leaves_cons (f:=fc) (args:=vs) (by simp) (by simp [invoke,callFunc,k1,k2',k3']) ?_;obtain ⟨c1,c2⟩:=hgl.get;have hg:GR O E ρ (B.map (·.1)) (bc++(bB++oI O)) M' κ' tip' E.blk us vs:=by
  refine ⟨by rw [g1,c1],λj u hu=>?_⟩;obtain ⟨v,b,g3,g4,g5⟩:=c2 j u hu;refine ⟨v,b,.f g4,λe he=>Qm.2 (.inl (g5 e he)),?_⟩;obtain ⟨k,hk,rfl⟩:=hcs v (List.mem_of_getElem? g3);obtain ⟨b0,us0,q1,q2,_⟩:=hkey k hk;have h5:=g2 j _ g3;generalize vs.getD j undef=y at h5;cases h5 with
  | ptr _ _ b1 l1 q3 q4=>
  rw [q1] at q3;cases q3;have hκ':κ' k=some b0:=by
   have:=(hp' (k,(κ2 k).getD 0) (Q8.2 ⟨k,hk,rfl⟩)).1;simpa [q2] using this
  cases g4 with
  | p h=>simp [AS.rd] at h
  | ptr hρ hD=>
   obtain ⟨us',hus⟩:=zAs hD;obtain ⟨as,b'',r1,_⟩:=hgb.get hus;have:=hgb.blks _ r1;simp only [hρ] at this;exact .ptr k 0 b0 as hκ' this
 obtain ⟨pk,κ3,tip3,hinv,hpk3,hafter⟩:=zZv (fr:=fr) (av:=av) hp' hi' (λe he=>by
  simp only [Qm] at he;rcases he with he | he | he
  ·exact hgl.blks e he
  ·exact hgb.blks e he
  ·exact hoi e he) hfr hg hgb (λe he=>by simp [he]) (λe he=>by simp [he]) hinj hout hnew hDb hbg
 refine (hokw.callsD hinv hpk3 _).mono ?_;rintro e2 u' w'' ⟨rfl,v,rfl,hr⟩;obtain ⟨M2,κ4,tip4,q1,q2,q3,q4⟩:=hafter v w'' hr;have hfin:SRel ⟨w1,M,pk2,cx.nt,[⟨.fn (.func fc) vs,#[]⟩]⟩ (inS (kill E O) ρ bout) a' w'':=⟨M2,κ4,tip4,h0'.trans' q1,q2,q3⟩;have hfin2:=hfin.unroot hi2 h0 hpk (λe he=>⟨(hpk2 e he).1,let ⟨_,us,_,_,_,h⟩:=hkey e.1 (hpk2 e he).2.2;⟨us,h⟩⟩) rfl;obtain ⟨v2,hv2,hr2⟩:=hres _ (by intro k hk;simp [hpk] at hk) a' w'' hfin2;exact ⟨v2,hv2,v2,rfl,hr2⟩
theorem zDu (h:PK cx []):cx.pk.l=[]:=List.eq_nil_iff_forall_not_mem.2 λk hk=>by have:=h k hk;simp at this
theorem tB.imp (h:Imp cx.pk s s') (k:tB P fn cx s' rs):tB P fn cx s rs:=λa w hs=>k a w (h cx a w rfl hs)
theorem xoq {J:Type} {c:Code} (f:J->Exit×AS) (j:J) (h:zS5 P cx c (OQ cx f j) X s) (k:Q (f j).1 (f j).2):zS5 P cx c Q X s:=λa w hs=>
 wp_mono (h a w hs) λe a' w' h=>h.imp (λ⟨s',h1,h2⟩ =>⟨(f j).2,h2.snd cx a' w' rfl h1,by rw [h2.fst];exact k⟩) id
theorem zJz (E:AS) (hf:P.funcs[f]? = some fn) (hb:fn.body=some body) (hnm:(fn.name == "runtime.NumGoroutine")=false) (hnt:na<=fn.ntmps) (hks:∀ k,k<BIG->(as.blk k).isSome=true->k∈ks)
  (hr:∀ cx:Ctx,PK cx ks->tB P fn cx E rs) (h:∀ cx:Ctx,cx.nt=fn.ntmps->PK cx ks->cx.df=[]->zS5 P cx body (OQ cx (λ_:Unit=>(.ret,E)) ()) (XQ P fn cx rs) as):Ok P f na as rs:=
 zZh hf hb hnm hnt hks λcx h1 h2 h3=>xoq _ _ (h cx h1 h2 h3) ⟨.inl rfl,hr cx h2⟩
theorem zPv {env:LV} {blk:LB} (he:gE s env=vE id env) (hb:gB s id blk=vB id blk) (h1:jT (lk blk) env=true) (h2:sC (lk blk) blk=true):Le (mkS env blk) s:=by
 rw [zRn,zQ0] at he;rw [zQ3,zSb] at hb;exact Le.mk' (zQg env he) (zQq blk hb) h1 h2
def zKp (ks:List Nat):List AV->Bool
 | []=>ks.all (λk=>Q9 k BIG)
 | .ptr k o :: r=>Nat.beq o 0&&(ks.any (Nat.beq k)&&zKp ks r)
 | _ :: _=>false
theorem zHa:∀ {cs:List AV},zKp ks cs=true->∀ v∈cs,∃ k∈ks,v=.ptr k 0
 | [],_,v,h=>by simp at h
 | c :: r,h,v,hv=>by
  cases c<;>simp only [zKp,Bool.and_eq_true,reduceCtorEq] at h;obtain ⟨h1,h2,h3⟩:=h;rcases List.mem_cons.1 hv with rfl | hv
  ·exact ⟨_,yA5 h2,by rw [Qg h1]⟩
  ·exact zHa h3 v hv
theorem zHw:∀ {cs:List AV},zKp ks cs=true->∀ k∈ks,k<BIG
 | [],h,k,hk=>Q4 ((Qe.1 h) k hk)
 | c :: r,h,k,hk=>by
  cases c<;>simp only [zKp,Bool.and_eq_true,reduceCtorEq] at h;exact zHw h.2.2 k hk
theorem mK (h:zKp ks cs=true):(∀ v∈cs,∃ k∈ks,v=.ptr k 0)/\∀ k∈ks,k<BIG:=⟨zHa h,zHw h⟩
theorem dfq {fc:FuncId} {e:Exit} (E:AS) (μ:List (Nat×Nat)) (he:e=.ret∨e=.normal) (hi:Imp cx.pk s E)
  (hw:OkW P fc na (mkS (argA 0 us) (bV B)) (mkS [(0,av)] (bV B2++[]))) (hna:na=us.length) (hl:GVs none E (shm 0 μ) (B.map (·.1)) cs us bc) (hB:GB none E (shm 0 μ) (B.map (·.1)) B bB) (hc:(zV4 (B.map (·.1)) (B2.map (·.1))&&(B.all (λe=>Q9 e.1 BIG)&&zXu (kR (shm 0 μ) (bV B2))))=true) (hr:∀ cx3:Ctx,PK cx3 []->tB P fn cx3 (inS E (shm 0 μ) (bV B2)) rs):DfQ P fn fc cs rs cx e s:=by
 subst hna;rw [List.append_nil] at hw;simp only [Bool.and_eq_true] at hc;obtain ⟨h3,h0,h4⟩:=hc;rw [kD] at h4;have h3:=zP3 h3;refine ⟨he,E,av,us,B,bV B2,shm 0 μ,bc,bB,none,[],hi,by simpa [oV] using hw,hl,hB,⟨by simp [oI],by simp,λj hj=>?_,by simp⟩,?_,λj hj=>?_,λj hj=>?_,hr⟩
 ·obtain ⟨e,he,rfl⟩:=Q8.1 hj;exact Q4 ((Qe.1 h0) e he)
 ·have:(bV B2).map (λe=>shm 0 μ e.1)=((bV B2).map (·.1)).map (shm 0 μ):=by rw [Qo];rfl
  rw [this] at h4;exact zM2 h4
 ·rw [h3] at hj;exact zAs hj
 ·rw [zMl] at hj;rw [h3];exact .inl hj
theorem zWw {fc:FuncId} {e:Exit} (E:AS) (μ:List (Nat×Nat)) {k0 wd:Nat} {ps:List PV} {c:PV} {bn:LB} (he:e=.ret∨e=.normal) (hi:Imp cx.pk s E)
  (hw:OkW P fc na (mkS (argA 0 us) (bV B++[(BIG,qO c)])) (mkS [(0,av)] (bV B2++bn))) (ho:E.blk k0=some (qO c)) (hq:qO c=.own wd (ps.map .p)) (hna:na=us.length) (hl:GVs (some (k0,wd,ps)) E (shm 0 μ) (B.map (·.1)) cs us bc) (hB:GB (some (k0,wd,ps)) E (shm 0 μ) (B.map (·.1)) B bB) (hc:zTi E 0 na us.length μ B B2 bn=true) (hg:(kR id (bV B2++bn)).all (λj=>(lk μ j).isNone||Q9 j BIG)=true) (hr:∀ cx3:Ctx,PK cx3 []->tB P fn cx3 (inS (E.setb k0 zOr) (shm 0 μ) (bV B2++bn)) rs):DfQ P fn fc cs rs cx e s:=by
 obtain ⟨c1,c2,c3,c4,c5,c6⟩:=zDr hc;subst hna;rw [kD] at hg;rw [hq] at hw ho;exact ⟨he,E,av,us,B,bV B2++bn,shm 0 μ,bc,bB,some (k0,wd,ps),bn.map λe=>shm 0 μ e.1,hi,hw,hl,hB,⟨by simpa [oI] using ho,c2,c6,λ_=>zUa (by simpa using hg)⟩,c3,c4,c5,hr⟩
end
section
theorem zSn {Q:Exit->Act->World->Prop} {c:Code} (b:Frame) (k:List Item) (cs:List Frame):∀ n a w,Code.rounds P c Q n a w ->
   ∃ e a' w',Q e a' w'/\Arrives P (lone (b.at a (.code c :: .inLoop c :: k)) cs w) b k cs e a' w':=by
 intro n;induction n with
 | zero=>intro a w h;exact h.elim
 | succ n ih=>
  intro a w h;obtain ⟨e,a₁,w₁,hq,harr⟩:=h b (.inLoop c :: k) cs;cases e with
  | normal=>
   obtain ⟨e₂,a₂,w₂,hq₂,harr₂⟩:=ih a₁ w₁ hq;exact ⟨e₂,a₂,w₂,hq₂,.of_steps (Steps.trans harr (.one step_inLoop)) harr₂⟩
  | exit id=>exact ⟨_,a₁,w₁,hq,.pass (x:=.inLoop c) rfl (λ_ _=>.inl (by simp)) harr⟩
  | goto l=>exact ⟨_,a₁,w₁,hq,.pass (x:=.inLoop c) rfl (λ_ _=>.inl (by simp)) harr⟩
  | ret=>exact ⟨_,a₁,w₁,hq,.pass (x:=.inLoop c) rfl (λ_ _=>.inl (by simp)) harr⟩
  | panic ch=>exact ⟨_,a₁,w₁,hq,.pass (x:=.inLoop c) rfl (λ_ _=>.inl (by simp)) harr⟩
  | outgrown=>exact ⟨_,a₁,w₁,hq,.pass (x:=.inLoop c) rfl (λ_ _=>.inl (by simp)) harr⟩
theorem zYe {Q:Exit->Act->World->Prop} {c:Code} (h:c.wp P (Exit.then (λa' w'=>∃ n,Code.rounds P c Q n a' w') Q) a w):(Code.loop c).wp P Q a w:=by
 intro b k cs;obtain ⟨e,a₁,w₁,hq,harr⟩:=h b (.inLoop c :: k) cs;cases e with
 | normal=>
  obtain ⟨n,hn⟩:=hq;obtain ⟨e₂,a₂,w₂,hq₂,harr₂⟩:=zSn b k cs n a₁ w₁ hn;exact ⟨e₂,a₂,w₂,hq₂,.of_steps (.head step_loop (Steps.trans harr (.one step_inLoop))) harr₂⟩
 | exit id=>exact ⟨_,a₁,w₁,hq,.of_steps (.one step_loop) (.pass (x:=.inLoop c) rfl (λ_ _=>.inl (by simp)) harr)⟩
 | goto l=>exact ⟨_,a₁,w₁,hq,.of_steps (.one step_loop) (.pass (x:=.inLoop c) rfl (λ_ _=>.inl (by simp)) harr)⟩
 | ret=>exact ⟨_,a₁,w₁,hq,.of_steps (.one step_loop) (.pass (x:=.inLoop c) rfl (λ_ _=>.inl (by simp)) harr)⟩
 | panic ch=>exact ⟨_,a₁,w₁,hq,.of_steps (.one step_loop) (.pass (x:=.inLoop c) rfl (λ_ _=>.inl (by simp)) harr)⟩
 | outgrown=>exact ⟨_,a₁,w₁,hq,.of_steps (.one step_loop) (.pass (x:=.inLoop c) rfl (λ_ _=>.inl (by simp)) harr)⟩
def awl (P:Program) (cx:Ctx) (c:Code) (Q:Exit->AS->Prop) (s:AS):Prop:=∀ a w,SRel cx s a w->∃ n,Code.rounds P c (λe a' w'=>∃ s',SRel cx s' a' w'/\Q e s') n a w
theorem zXt {c:Code} (h:awp P cx c (zNo (awl P cx c Q) Q) s):awp P cx (.loop c) Q s:=λa w hs=>
 zYe (wp_mono (h a w hs) λe a' w' ⟨s',h1,h2⟩ =>by
  cases e with
  | normal=>exact h2 a' w' h1
  | _=>exact ⟨s',h1,h2⟩)
theorem zXb {X Y:Type} {step:X->Option (X ⊕ Y)} {x0:X} {y:Y} (E:X->AS) (f:Y->Exit×AS) (hl:zT step n x0=some y) (hi:Imp cx.pk s (E x0)) (hne:∀ y,(f y).1≠.normal)
  (hb:∀ x r,step x=some r->awp P cx body (OQ cx (LF E f) r) (E x)) (k:Q (f y).1 (f y).2):awl P cx body Q s:=by
 have key:∀ (n:Nat) (x0:X),zT step n x0=some y->∀ a w,SRel cx (E x0) a w->Code.rounds P body (λe a' w'=>∃ s',SRel cx s' a' w'/\Q e s') n a w:=by
  intro n;induction n with
  | zero=>intro x0 hl;simp [zT] at hl
  | succ n ih=>
   intro x0 hl a w hs;rw [rounds_succ];simp only [zT] at hl;cases hst:step x0 with
   | none=>simp [hst] at hl
   | some r=>
    refine wp_mono (hb x0 r hst a w hs) ?_;rintro e a' w' ⟨s',h1,h2⟩;cases r with
    | inl x'=>
     rw [hst] at hl;have he:e=.normal:=h2.fst;subst he;exact ih x' hl a' w' (h2.snd cx a' w' rfl h1)
    | inr y2=>
     rw [hst] at hl;cases hl;have he:e=(f y).1:=h2.fst;have hq:∃ s',SRel cx s' a' w'/\Q e s':=⟨(f y).2,h2.snd cx a' w' rfl h1,he▸k⟩;have hn:=hne y;rw [<- he] at hn;cases e with
     | normal=>exact absurd rfl hn
     | _=>exact hq
 exact λa w hs=>⟨n,key n x0 hl a w (hi cx a w rfl hs)⟩
end
section
theorem yC0 {t':TypeId} {k:IntKind} {a:Int} (ho:o.op=.call { callee:=.builtin .max,args:=#[x,y],argTypes:=#[t,t'] }) (hx:s.get te t x=some (.p (.int k a))) (hy:s.get te t' y=some (.p (.int k b))) :
  VA P o s (opS x (.p (.int k a))++opS y (.p (.int k b))) [] (.p (.int k (if a<b then b else a))):=by
 refine ⟨?_,yM (zM hx) (zM hy),by simp⟩;intro cx M κ tip s' ac w hi hr _;have h1:=rep_int (repA_pv (yF hi (yN hx s' (yI hr))));have h2:=rep_int (repA_pv (yF hi (yN hy s' (zZ hr))));refine ⟨.int k (if a<b then b else a),?_,.p _ _ (.int _ _)⟩;simp [execOp,ho,h1,h2,resolve,invoke,builtin,Builtin.max_,Builtin.max2]
end
section
variable [T:aY P] 
theorem RK.mx {t2:TypeId} {kk:IntKind} {a:Int} (hx0:(s.get T.te t x,s.get T.te t2 y)=(some (.p (.int kk a)),some (.p (.int kk b)))) (k:VK P ops r s K d (opS x (.p (.int kk a))++opS y (.p (.int kk b))) ([]) (.p (.int kk (if a<b then b else a)))):RK P ops (⟨some d,.call ⟨.builtin .max,#[x,y],#[t,t2]⟩,ty,pos,af,none⟩:: r) s K:=have ⟨hx,hy⟩:=pq hx0;RK.va rfl rfl (yC0 rfl hx hy) k
end
section
theorem yAx {B:NB} {c:PV} {arr:Array Value} (hc:c.nilOf=true) (h:CR M κ tip B (sD [c] n) arr):CR M κ tip B (Q5 n (.p c)) arr:=by
 have hr:Rep M c (.slice none 0 0):=by
  unfold PV.nilOf at hc;split at hc
  ·exact .bytes0
  ·exact .sl0 _
  ·cases hc
 have hz:sD [c] n=Q5 n (.nl c):=by
  have:zA c=.nl c:=by unfold zA;rw [hc];rfl
  simp [sD,this]
 rw [hz] at h;refine ⟨by simpa using h.1,λj q hq=>?_⟩;rw [List.getElem?_replicate] at hq;split at hq
 ·cases hq;have:=h.2 j (.nl c) (by rw [List.getElem?_replicate,if_pos ‹_›]);generalize arr.getD j undef=v at this ⊢;cases this;exact .p _ _ hr
 ·cases hq
theorem zY5 {tl tc:TypeId} {n:Int} {c:PV} (hok:yX P te) (hd:o.dst=some d) (ho:o.op=.makeSlice t x y) (ht:(te t).map (·.ty)=some (.slice e)) (he:te e=some ei) (hz:ei.z.length=ei.w) (hx:s.get te tl x=some (.p (.int kl n))) (hy:s.get te tc y=some (.p (.int kc n)))
  (h0:0<=n) (hb:n.toNat*ei.b<=140737488355328) (hb1:0<ei.b) (hk:s.blk d=none) (hzz:ei.z=[c]) (hc:c.nilOf=true):SA P o s ⟨opS x (.p (.int kl n))++opS y (.p (.int kc n)),[],[d],some (d,some (.ref d 0 n.toNat)),[(d,.var (Q5 n.toNat (.p c)))]⟩:=by
 refine ⟨zGd hd ?_,yM (zM hx) (zM hy),by intro e he;simp at he,by intro k hk';simp at hk';subst hk';exact hk⟩;intro cx M κ tip s' a w hi hr _;have h1:=rep_int (repA_pv (yF hi (yN hx s' (yI hr))));have h2:=rep_int (repA_pv (yF hi (yN hy s' (zZ hr))));obtain ⟨info,z,i1,i2,i3,i4,i5⟩:=(hok e ei he).info;have hu:=xA hok ht;have hcr:=zDs hok he hz i1 i4 (M:=M) (κ:=κ) (tip:=tip) (B:=s'.blk) n.toNat;rw [hzz] at hcr;have hlen:n.toNat<=n.toNat*ei.b:=Nat.le_mul_of_pos_right _ hb1;have hbi:(info.bytes:Int)*n<=281474976710656:=by
  rw [i3];have:((n.toNat*ei.b:Nat):Int)<=140737488355328:=by omega
  rw [Int.natCast_mul,Int.toNat_of_nonneg h0,Int.mul_comm] at this;omega
 have hrun:=run_make (P:=P) w t e info z hu i1 i4 kl kc n n h0 (Int.le_refl _) hbi (by omega);exact ⟨_,e,by rw [i2] at hrun;simp [execOp,ho,h1,h2,hrun],yAx hc hcr⟩
end
section
variable [T:aY P] 
theorem RK.mrN (f:α->PV) (u:α) {b m:Nat} {n:Int} (h:mkN b n=some m) (ht0:((T.te t).map (·.ty),T.te e,ei.b,Q9 0 b,ei.z.length,s.get T.te 0 x,s.get T.te 0 y,s.blk d,ei.z,(f u).nilOf)=(some (.slice e),some ei,b,true,ei.w,some (.p (.int kl n)),some (.p (.int kc n)),none,[f u],true)) (k:BK P ops r s K d (opS x (.p (.int kl n))++opS y (.p (.int kc n))) [] [d] d (.var ((Q5 m u).map λy=>AV.p (f y))) (.ref d 0 m)):RK P ops (⟨some d,.makeSlice t x y,ty,pos,af,none⟩:: r) s K:=have ⟨ht,ht0⟩:=pq ht0;have ⟨he,ht0⟩:=pq ht0;have ⟨hb,ht0⟩:=pq ht0;have ⟨hb1,ht0⟩:=pq ht0;have ⟨hz,ht0⟩:=pq ht0;have ⟨hx,ht0⟩:=pq ht0;have ⟨hy,ht0⟩:=pq ht0;have ⟨hk,ht0⟩:=pq ht0;have ⟨hzz,hnil⟩:=pq ht0;by
 obtain ⟨h0,h1,rfl⟩:=zIi h;subst hb;have hb2:=Q4 hb1;have:=zY5 (P:=P) (o:=⟨some d,.makeSlice t x y,ty,pos,af,none⟩) T.ok rfl rfl ht he hz hx hy h0 h1 (by omega) hk hzz hnil;rw [show Q5 n.toNat (AV.p (f u))=(Q5 n.toNat u).map λy=>AV.p (f y) by simp] at this;exact RK.sb rfl this k
end
section
theorem zMx {w:Nat} (hc:∀ a,(c a).length=w):∀ (l:List α) (i:Nat) (u:α),l[i]? = some u->((l.flatMap c).drop (i*w)).take w=c u
 | [],i,u,h=>by simp at h
 | a :: r,0,u,h=>by
  simp at h;subst h;simp only [Qb,Nat.zero_mul,List.drop_zero];rw [List.take_append_of_le_length (by rw [hc];exact Qk _),List.take_of_length_le (by rw [hc];exact Qk _)]
 | a :: r,i+1,u,h=>by
  simp only [Qb];rw [List.drop_append,hc,List.drop_eq_nil_of_le (by rw [hc,Qf];omega),List.nil_append,show (i+1)*w - w=i*w by rw [Qf];omega];exact zMx hc r i u (by simpa using h)
theorem zPp {w:Nat} (hc:∀ a,(c a).length=w):∀ (l:List α),(l.flatMap c).length=l.length*w
 | []=>by simp
 | a :: r=>by simp only [Qb,List.length_append,hc,zPp hc r,Ql,Qf];omega
theorem ixF (hok:yX P te) (h:idx l i=some u) (ho:o.op=.index t x y) (ht:(te t).map (·.ty)=some (.arr n e)) (he:te e=some ei) (hne:ei.known=true) (hx:s.get te t x=some v) (hp:s.rd v=some (.agg (l.flatMap c),bs)) (hy:s.get te 0 y=some (.p (.int .i64 i))) (hn:Qc l.length n=true) (hag:ei.isAgg=true) (hc:∀ a,(c a).length=ei.w) :
  VA P o s (opS x v++opS y (.p (.int .i64 i))) bs (.p (.agg (c u))):=by
 obtain ⟨h0,h1⟩:=eZ h;have hlt:i.toNat<l.length:=(List.getElem?_eq_some_iff.1 h1).1;have hn':=xE hn;refine zQz hok ho ht he (zRf hne) hx hp hy h0 (by omega) ?_;rw [hag];have hb:Qc (i.toNat*ei.w+ei.w) (l.flatMap c).length=true:=by
  refine Nat.ble_eq_true_of_le ?_;rw [zPp hc];have:i.toNat*ei.w+ei.w=(i.toNat+1)*ei.w:=by rw [Qf];omega
  rw [this];exact Nat.mul_le_mul_right _ hlt
 simp only [kV,cond_true,zMx hc l _ u h1,hb];try rfl
end
section
variable [T:aY P] 
theorem RK.ixF (h:idx l i=some u) (ht0:((T.te t).map (·.ty),T.te e,ei.known,s.get T.te t x,s.rd v,Qc l.length n,ei.isAgg)=(some (.arr n e),some ei,true,some v,some (.agg (l.flatMap c),bs),true,true)) (hc:∀ a,(c a).length=ei.w) (hy:s.get T.te 0 y=some (.p (.int .i64 i)))
  (k:VK P ops r s K d (opS x v++opS y (.p (.int .i64 i))) bs (.p (.agg (c u)))):RK P ops (⟨some d,.index t x y,ty,pos,af,none⟩:: r) s K:=have ⟨ht,ht0⟩:=pq ht0;have ⟨he,ht0⟩:=pq ht0;have ⟨hne,ht0⟩:=pq ht0;have ⟨hx,ht0⟩:=pq ht0;have ⟨hp,ht0⟩:=pq ht0;have ⟨hn,hag⟩:=pq ht0;RK.va rfl rfl (Go.Sw.ixF T.ok h rfl ht he hne hx hp hy hn hag hc) k
theorem RK.mbS (f:α->PV) (l:List α) {b:Nat} (hlen:l.length=n) (hn:Qc (n*b) 140737488355328=true) (ht:(T.te t).map (·.ty)=some (.slice e)) (he:T.te e=some ei) (hbb:ei.b=b) (hb1:Q9 0 b=true) (hz:ei.z.length=ei.w) (hw0:Q9 0 ei.w=true) (hx:s.get T.te 0 x=some (.p (.int kl (n:Nat)))) (hy:s.get T.te 0 y=some (.p (.int kc (n:Nat)))) (hk:s.blk d=none)
  (hzs:∀ s:AS,s.rdL (sD ei.z n)=some (flatCells (l.map f),[])) (hl:(l.map f).all (λp=>Nat.beq p.cells.length ei.w)=true) (k:BK P ops r s K d (opS x (.p (.int kl (n:Nat)))++opS y (.p (.int kc (n:Nat)))) [] [d] d (.buf (.sl ei.w (l.map f))) (.buf d l.length)):RK P ops (⟨some d,.makeSlice t x y,ty,pos,af,none⟩:: r) s K:=by
 have hb2:=Q4 hb1;have hw2:=Q4 hw0;have hl':cV ei.w (.sl ei.w (l.map f)) (flatCells (l.map f)):=.sl _ λp hp=>Qg ((Qe.1 hl) p hp);rw [hlen] at k;have:=Go.Sw.sa_mkb (P:=P) (o:=⟨some d,.makeSlice t x y,ty,pos,af,none⟩) (n:=(n:Nat)) (c:=.sl ei.w (l.map f)) T.ok rfl rfl ht he hz hw2 hx hy (by omega) (by subst hbb;simpa using Q4 hn) (by omega) (λs=>by simpa using hzs s) hl' (by simp [PV.len,hlen]) hk;simp only [Int.toNat_natCast] at this;exact RK.sb rfl this k
end
section
theorem zV7 (hok:yX P te) {rv1 rv2 rv3 rv4 rv5:ResultVar} {a1 a2 a3 a4 a5:AV} (hres:fn.results=#[rv1,rv2,rv3,rv4,rv5]) (h1:RV te s rv1 a1) (h2:RV te s rv2 a2) (h3:RV te s rv3 a3) (h4:RV te s rv4 a4) (h5:RV te s rv5 a5) (h:Imp cx.pk { env:=lk [(0,.tu [a1,a2,a3,a4,a5])],blk:=s.blk } rs):tB P fn cx s rs:=by
 intro a w hs;have hs':=hs;obtain ⟨M,κ,tip,h0,hp,hi⟩:=hs';obtain ⟨x1,hx1,_⟩:=h1.run hok hi;obtain ⟨x2,hx2,_⟩:=h2.run hok hi;obtain ⟨x3,hx3,_⟩:=h3.run hok hi;obtain ⟨x4,hx4,_⟩:=h4.run hok hi;obtain ⟨x5,hx5,_⟩:=h5.run hok hi;refine ⟨.tuple #[x1,x2,x3,x4,x5],?_,h { cx with nt:=1,df:=[] } _ _ rfl (hs.result λM κ tip hi=>?_)⟩
 ·simp [zAu,hres,hx1,hx2,hx3,hx4,hx5]
 ·obtain ⟨y1,hy1,r1⟩:=h1.run hok hi;obtain ⟨y2,hy2,r2⟩:=h2.run hok hi;obtain ⟨y3,hy3,r3⟩:=h3.run hok hi;obtain ⟨y4,hy4,r4⟩:=h4.run hok hi;obtain ⟨y5,hy5,r5⟩:=h5.run hok hi;rw [hx1] at hy1;cases hy1;rw [hx2] at hy2;cases hy2;rw [hx3] at hy3;cases hy3;rw [hx4] at hy4;cases hy4;rw [hx5] at hy5;cases hy5;refine .tu _ _ rfl (λj q hq=>?_)
  match j,hq with
  | 0,hq=>cases hq;exact r1
  | 1,hq=>cases hq;exact r2
  | 2,hq=>cases hq;exact r3
  | 3,hq=>cases hq;exact r4
  | 4,hq=>cases hq;exact r5
  | j+5,hq=>simp at hq
end
end Go.Sw
namespace Go.Proofs.TT
open Go Go.Sw
variable {R α:Type}
structure zI where
 Kind:Int
 Attr:Int
 Height:Int
 Policy:By
 Unique:By
 deriving DecidableEq,Inhabited
def zI.cs (x:zI):List PV:=[.int .i64 x.Kind,.int .i64 x.Attr,.int .i64 x.Height,.bytes x.Policy,.bytes x.Unique]
def zI.pv (x:zI):PV:=.agg x.cs
structure zC where
 Role:Int
 Name:By
 Version:Int
 Payload:By
 deriving DecidableEq,Inhabited
def zC.cs (x:zC):List PV:=[.int .i64 x.Role,.str x.Name,.int .i64 x.Version,.bytes x.Payload]
def zC.pv (x:zC):PV:=.agg x.cs
structure zS where
 Epoch:Int
 Chains:List (List zC)
 Public:zI
 Private:By
 deriving DecidableEq,Inhabited
def zS.cs (x:zS):List PV:=[.int .i64 x.Epoch,.sl 1 (Q0 (eSl 4 zC.pv) x.Chains),.int .i64 x.Public.Kind,.int .i64 x.Public.Attr,.int .i64 x.Public.Height,.bytes x.Public.Policy,.bytes x.Public.Unique,.bytes x.Private]
def zS.pv (x:zS):PV:=.agg x.cs
structure yA where
 Areas:List By
 Writes:Int
 CutAt:Int
 Torn:Int
 Off:Bool
 deriving DecidableEq,Inhabited
def yA.cs (x:yA):List PV:=[.sl 1 (Q0 PV.bytes x.Areas),.int .i64 x.Writes,.int .i64 x.CutAt,.int .i64 x.Torn,.bool x.Off]
def yA.pv (x:yA):PV:=.agg x.cs
structure zF where
 Banks:List (List By)
 Updates:Int
 deriving DecidableEq,Inhabited
def zF.cs (x:zF):List PV:=[.sl 1 (Q0 (eSl 1 PV.bytes) x.Banks),.int .i64 x.Updates]
def zF.pv (x:zF):PV:=.agg x.cs
structure yJ where
 Failed:Int
 Max:Int
 Recovery:Int
 Since:Int
 Closed:Int
 Penalty:Int
 deriving DecidableEq,Inhabited
def yJ.cs (x:yJ):List PV:=[.int .i64 x.Failed,.int .i64 x.Max,.int .i64 x.Recovery,.int .i64 x.Since,.int .i64 x.Closed,.int .i64 x.Penalty]
def yJ.pv (x:yJ):PV:=.agg x.cs
structure zJ where
 N:Int
 Kind:Int
 Attr:Int
 Size:Int
 Policy:By
 Auth:By
 Written:Bool
 Data:By
 deriving DecidableEq,Inhabited
def zJ.cs (x:zJ):List PV:=[.int .i64 x.N,.int .i64 x.Kind,.int .i64 x.Attr,.int .i64 x.Size,.bytes x.Policy,.bytes x.Auth,.bool x.Written,.bytes x.Data]
def zJ.pv (x:zJ):PV:=.agg x.cs
structure xR where
 Unique:By
 Used:Int
 deriving DecidableEq,Inhabited
def xR.cs (x:xR):List PV:=[.bytes x.Unique,.int .i64 x.Used]
def xR.pv (x:xR):PV:=.agg x.cs
structure zV where
 Seeds:List By
 Auths:List By
 Entropy:By
 Active:Int
 Resets:Int
 Restarts:Int
 Clock:Int
 Orderly:Bool
 Saved:zF
 MaxCounter:Int
 Indices:List zJ
 Lockout:yJ
 Keys:List xR
 deriving DecidableEq,Inhabited
def zV.cs (x:zV):List PV:=[.sl 1 (Q0 PV.bytes x.Seeds),.sl 1 (Q0 PV.bytes x.Auths),.bytes x.Entropy,.int .i64 x.Active,.int .i64 x.Resets,.int .i64 x.Restarts,.int .i64 x.Clock,.bool x.Orderly,.sl 1 (Q0 (eSl 1 PV.bytes) x.Saved.Banks),.int .i64 x.Saved.Updates,.int .i64 x.MaxCounter,.sl 8 (Q0 zJ.pv x.Indices),.int .i64 x.Lockout.Failed,.int .i64 x.Lockout.Max,.int .i64 x.Lockout.Recovery,.int .i64 x.Lockout.Since,.int .i64 x.Lockout.Closed,.int .i64 x.Lockout.Penalty,.sl 2 (Q0 xR.pv x.Keys)]
def zV.pv (x:zV):PV:=.agg x.cs
abbrev zV.av (x:zV) (r:List AV):List AV:=qL 1 PV.bytes x.Seeds :: qL 1 PV.bytes x.Auths :: qY x.Entropy :: qI x.Active :: qI x.Resets :: qI x.Restarts :: qI x.Clock :: qB x.Orderly :: qL 1 (eSl 1 PV.bytes) x.Saved.Banks :: qI x.Saved.Updates :: qI x.MaxCounter :: qL 8 zJ.pv x.Indices :: qI x.Lockout.Failed :: qI x.Lockout.Max :: qI x.Lockout.Recovery :: qI x.Lockout.Since :: qI x.Lockout.Closed :: qI x.Lockout.Penalty :: qL 2 xR.pv x.Keys :: r
structure zK where
 Kind:Int
 Nonce:By
 Digest:By
 Updates:Int
 Localities:Int
 Command:Int
 Deadline:Int
 AuthValue:Bool
 deriving DecidableEq,Inhabited
def zK.cs (x:zK):List PV:=[.int .i64 x.Kind,.bytes x.Nonce,.bytes x.Digest,.int .i64 x.Updates,.int .i64 x.Localities,.int .i64 x.Command,.int .i64 x.Deadline,.bool x.AuthValue]
def zK.pv (x:zK):PV:=.agg x.cs
structure yE where
 Auth:By
 Seed:By
 Data:By
 deriving DecidableEq,Inhabited
def yE.cs (x:yE):List PV:=[.bytes x.Auth,.bytes x.Seed,.bytes x.Data]
def yE.pv (x:yE):PV:=.agg x.cs
structure zX where
 Public:zI
 Sensitive:yE
 Hierarchy:Int
 deriving DecidableEq,Inhabited
def zX.cs (x:zX):List PV:=[.int .i64 x.Public.Kind,.int .i64 x.Public.Attr,.int .i64 x.Public.Height,.bytes x.Public.Policy,.bytes x.Public.Unique,.bytes x.Sensitive.Auth,.bytes x.Sensitive.Seed,.bytes x.Sensitive.Data,.int .i64 x.Hierarchy]
def zX.pv (x:zX):PV:=.agg x.cs
structure yP where
 Started:Bool
 Stopped:Bool
 Registers:zF
 Clock:Int
 Safe:Bool
 Draws:Int
 Sessions:List zK
 Objects:List zX
 ReadLocks:List Int
 WriteLocks:List Int
 deriving DecidableEq,Inhabited
structure zE where
 Stable:zV
 Volatile:yP
 deriving DecidableEq,Inhabited
def zE.cs (x:zE):List PV:=[.sl 1 (Q0 PV.bytes x.Stable.Seeds),.sl 1 (Q0 PV.bytes x.Stable.Auths),.bytes x.Stable.Entropy,.int .i64 x.Stable.Active,.int .i64 x.Stable.Resets,.int .i64 x.Stable.Restarts,.int .i64 x.Stable.Clock,.bool x.Stable.Orderly,.sl 1 (Q0 (eSl 1 PV.bytes) x.Stable.Saved.Banks),.int .i64 x.Stable.Saved.Updates,.int .i64 x.Stable.MaxCounter,.sl 8 (Q0 zJ.pv x.Stable.Indices),.int .i64 x.Stable.Lockout.Failed,.int .i64 x.Stable.Lockout.Max,.int .i64 x.Stable.Lockout.Recovery,.int .i64 x.Stable.Lockout.Since,.int .i64 x.Stable.Lockout.Closed,.int .i64 x.Stable.Lockout.Penalty,.sl 2 (Q0 xR.pv x.Stable.Keys),.bool x.Volatile.Started,.bool x.Volatile.Stopped,.sl 1 (Q0 (eSl 1 PV.bytes) x.Volatile.Registers.Banks),.int .i64 x.Volatile.Registers.Updates,.int .i64 x.Volatile.Clock,.bool x.Volatile.Safe,.int .i64 x.Volatile.Draws,.sl 8 (Q0 zK.pv x.Volatile.Sessions),.sl 9 (Q0 zX.pv x.Volatile.Objects),.sl 1 (Q0 (PV.int .i64) x.Volatile.ReadLocks),.sl 1 (Q0 (PV.int .i64) x.Volatile.WriteLocks)]
def zE.pv (x:zE):PV:=.agg x.cs
abbrev zE.av (x:zE) (r:List AV):List AV:=qL 1 PV.bytes x.Stable.Seeds :: qL 1 PV.bytes x.Stable.Auths :: qY x.Stable.Entropy :: qI x.Stable.Active :: qI x.Stable.Resets :: qI x.Stable.Restarts :: qI x.Stable.Clock :: qB x.Stable.Orderly :: qL 1 (eSl 1 PV.bytes) x.Stable.Saved.Banks :: qI x.Stable.Saved.Updates :: qI x.Stable.MaxCounter :: qL 8 zJ.pv x.Stable.Indices :: qI x.Stable.Lockout.Failed :: qI x.Stable.Lockout.Max :: qI x.Stable.Lockout.Recovery :: qI x.Stable.Lockout.Since :: qI x.Stable.Lockout.Closed :: qI x.Stable.Lockout.Penalty :: qL 2 xR.pv x.Stable.Keys :: qB x.Volatile.Started :: qB x.Volatile.Stopped :: qL 1 (eSl 1 PV.bytes) x.Volatile.Registers.Banks :: qI x.Volatile.Registers.Updates :: qI x.Volatile.Clock :: qB x.Volatile.Safe :: qI x.Volatile.Draws :: qL 8 zK.pv x.Volatile.Sessions :: qL 9 zX.pv x.Volatile.Objects :: qL 1 (PV.int .i64) x.Volatile.ReadLocks :: qL 1 (PV.int .i64) x.Volatile.WriteLocks :: r
structure zB where
 Disk:yA
 State:zE
 On:Bool
 Next:Int
 deriving DecidableEq,Inhabited
def zB.cs (x:zB):List PV:=[.sl 1 (Q0 PV.bytes x.Disk.Areas),.int .i64 x.Disk.Writes,.int .i64 x.Disk.CutAt,.int .i64 x.Disk.Torn,.bool x.Disk.Off,.sl 1 (Q0 PV.bytes x.State.Stable.Seeds),.sl 1 (Q0 PV.bytes x.State.Stable.Auths),.bytes x.State.Stable.Entropy,.int .i64 x.State.Stable.Active,.int .i64 x.State.Stable.Resets,.int .i64 x.State.Stable.Restarts,.int .i64 x.State.Stable.Clock,.bool x.State.Stable.Orderly,.sl 1 (Q0 (eSl 1 PV.bytes) x.State.Stable.Saved.Banks),.int .i64 x.State.Stable.Saved.Updates,.int .i64 x.State.Stable.MaxCounter,.sl 8 (Q0 zJ.pv x.State.Stable.Indices),.int .i64 x.State.Stable.Lockout.Failed,.int .i64 x.State.Stable.Lockout.Max,.int .i64 x.State.Stable.Lockout.Recovery,.int .i64 x.State.Stable.Lockout.Since,.int .i64 x.State.Stable.Lockout.Closed,.int .i64 x.State.Stable.Lockout.Penalty,.sl 2 (Q0 xR.pv x.State.Stable.Keys),.bool x.State.Volatile.Started,.bool x.State.Volatile.Stopped,.sl 1 (Q0 (eSl 1 PV.bytes) x.State.Volatile.Registers.Banks),.int .i64 x.State.Volatile.Registers.Updates,.int .i64 x.State.Volatile.Clock,.bool x.State.Volatile.Safe,.int .i64 x.State.Volatile.Draws,.sl 8 (Q0 zK.pv x.State.Volatile.Sessions),.sl 9 (Q0 zX.pv x.State.Volatile.Objects),.sl 1 (Q0 (PV.int .i64) x.State.Volatile.ReadLocks),.sl 1 (Q0 (PV.int .i64) x.State.Volatile.WriteLocks),.bool x.On,.int .i64 x.Next]
def zB.pv (x:zB):PV:=.agg x.cs
abbrev zB.av (x:zB) (r:List AV):List AV:=qL 1 PV.bytes x.Disk.Areas :: qI x.Disk.Writes :: qI x.Disk.CutAt :: qI x.Disk.Torn :: qB x.Disk.Off :: qL 1 PV.bytes x.State.Stable.Seeds :: qL 1 PV.bytes x.State.Stable.Auths :: qY x.State.Stable.Entropy :: qI x.State.Stable.Active :: qI x.State.Stable.Resets :: qI x.State.Stable.Restarts :: qI x.State.Stable.Clock :: qB x.State.Stable.Orderly :: qL 1 (eSl 1 PV.bytes) x.State.Stable.Saved.Banks :: qI x.State.Stable.Saved.Updates :: qI x.State.Stable.MaxCounter :: qL 8 zJ.pv x.State.Stable.Indices :: qI x.State.Stable.Lockout.Failed :: qI x.State.Stable.Lockout.Max :: qI x.State.Stable.Lockout.Recovery :: qI x.State.Stable.Lockout.Since :: qI x.State.Stable.Lockout.Closed :: qI x.State.Stable.Lockout.Penalty :: qL 2 xR.pv x.State.Stable.Keys :: qB x.State.Volatile.Started :: qB x.State.Volatile.Stopped :: qL 1 (eSl 1 PV.bytes) x.State.Volatile.Registers.Banks :: qI x.State.Volatile.Registers.Updates :: qI x.State.Volatile.Clock :: qB x.State.Volatile.Safe :: qI x.State.Volatile.Draws :: qL 8 zK.pv x.State.Volatile.Sessions :: qL 9 zX.pv x.State.Volatile.Objects :: qL 1 (PV.int .i64) x.State.Volatile.ReadLocks :: qL 1 (PV.int .i64) x.State.Volatile.WriteLocks :: qB x.On :: qI x.Next :: r
theorem zB.gl {x:zB} {O:GO} {s:AS} {ρ:Nat->Nat} {D:List Nat} {vs us:List AV} {bs:LB} (k:GVs O s ρ D vs us bs):GVs O s ρ D (zB.av x vs) (zB.av x us) bs:=by
 unfold zB.av;repeat (first | exact k | refine glp (b:=[]) rfl ?_)
structure kS where
 Number:Int
 Public:zI
 Private:By
 Branches:List By
 deriving DecidableEq,Inhabited
def kS.cs (x:kS):List PV:=[.int .i64 x.Number,.int .i64 x.Public.Kind,.int .i64 x.Public.Attr,.int .i64 x.Public.Height,.bytes x.Public.Policy,.bytes x.Public.Unique,.bytes x.Private,.sl 1 (Q0 PV.bytes x.Branches)]
def kS.pv (x:kS):PV:=.agg x.cs
structure zD where
 ID:Int
 Device:zB
 Up:Bool
 Bound:List kS
 deriving DecidableEq,Inhabited
def zD.cs (x:zD):List PV:=[.int .i64 x.ID,.sl 1 (Q0 PV.bytes x.Device.Disk.Areas),.int .i64 x.Device.Disk.Writes,.int .i64 x.Device.Disk.CutAt,.int .i64 x.Device.Disk.Torn,.bool x.Device.Disk.Off,.sl 1 (Q0 PV.bytes x.Device.State.Stable.Seeds),.sl 1 (Q0 PV.bytes x.Device.State.Stable.Auths),.bytes x.Device.State.Stable.Entropy,.int .i64 x.Device.State.Stable.Active,.int .i64 x.Device.State.Stable.Resets,.int .i64 x.Device.State.Stable.Restarts,.int .i64 x.Device.State.Stable.Clock,.bool x.Device.State.Stable.Orderly,.sl 1 (Q0 (eSl 1 PV.bytes) x.Device.State.Stable.Saved.Banks),.int .i64 x.Device.State.Stable.Saved.Updates,.int .i64 x.Device.State.Stable.MaxCounter,.sl 8 (Q0 zJ.pv x.Device.State.Stable.Indices),.int .i64 x.Device.State.Stable.Lockout.Failed,.int .i64 x.Device.State.Stable.Lockout.Max,.int .i64 x.Device.State.Stable.Lockout.Recovery,.int .i64 x.Device.State.Stable.Lockout.Since,.int .i64 x.Device.State.Stable.Lockout.Closed,.int .i64 x.Device.State.Stable.Lockout.Penalty,.sl 2 (Q0 xR.pv x.Device.State.Stable.Keys),.bool x.Device.State.Volatile.Started,.bool x.Device.State.Volatile.Stopped,.sl 1 (Q0 (eSl 1 PV.bytes) x.Device.State.Volatile.Registers.Banks),.int .i64 x.Device.State.Volatile.Registers.Updates,.int .i64 x.Device.State.Volatile.Clock,.bool x.Device.State.Volatile.Safe,.int .i64 x.Device.State.Volatile.Draws,.sl 8 (Q0 zK.pv x.Device.State.Volatile.Sessions),.sl 9 (Q0 zX.pv x.Device.State.Volatile.Objects),.sl 1 (Q0 (PV.int .i64) x.Device.State.Volatile.ReadLocks),.sl 1 (Q0 (PV.int .i64) x.Device.State.Volatile.WriteLocks),.bool x.Device.On,.int .i64 x.Device.Next,.bool x.Up,.sl 8 (Q0 kS.pv x.Bound)]
def zD.pv (x:zD):PV:=.agg x.cs
abbrev zD.av (x:zD) (r:List AV):List AV:=qI x.ID :: qL 1 PV.bytes x.Device.Disk.Areas :: qI x.Device.Disk.Writes :: qI x.Device.Disk.CutAt :: qI x.Device.Disk.Torn :: qB x.Device.Disk.Off :: qL 1 PV.bytes x.Device.State.Stable.Seeds :: qL 1 PV.bytes x.Device.State.Stable.Auths :: qY x.Device.State.Stable.Entropy :: qI x.Device.State.Stable.Active :: qI x.Device.State.Stable.Resets :: qI x.Device.State.Stable.Restarts :: qI x.Device.State.Stable.Clock :: qB x.Device.State.Stable.Orderly :: qL 1 (eSl 1 PV.bytes) x.Device.State.Stable.Saved.Banks :: qI x.Device.State.Stable.Saved.Updates :: qI x.Device.State.Stable.MaxCounter :: qL 8 zJ.pv x.Device.State.Stable.Indices :: qI x.Device.State.Stable.Lockout.Failed :: qI x.Device.State.Stable.Lockout.Max :: qI x.Device.State.Stable.Lockout.Recovery :: qI x.Device.State.Stable.Lockout.Since :: qI x.Device.State.Stable.Lockout.Closed :: qI x.Device.State.Stable.Lockout.Penalty :: qL 2 xR.pv x.Device.State.Stable.Keys :: qB x.Device.State.Volatile.Started :: qB x.Device.State.Volatile.Stopped :: qL 1 (eSl 1 PV.bytes) x.Device.State.Volatile.Registers.Banks :: qI x.Device.State.Volatile.Registers.Updates :: qI x.Device.State.Volatile.Clock :: qB x.Device.State.Volatile.Safe :: qI x.Device.State.Volatile.Draws :: qL 8 zK.pv x.Device.State.Volatile.Sessions :: qL 9 zX.pv x.Device.State.Volatile.Objects :: qL 1 (PV.int .i64) x.Device.State.Volatile.ReadLocks :: qL 1 (PV.int .i64) x.Device.State.Volatile.WriteLocks :: qB x.Device.On :: qI x.Device.Next :: qB x.Up :: qL 8 kS.pv x.Bound :: r
theorem zD.gl {x:zD} {O:GO} {s:AS} {ρ:Nat->Nat} {D:List Nat} {vs us:List AV} {bs:LB} (k:GVs O s ρ D vs us bs):GVs O s ρ D (zD.av x vs) (zD.av x us) bs:=by
 unfold zD.av;repeat (first | exact k | refine glp (b:=[]) rfl ?_)
structure yV where
 Machine:Int
 Active:Int
 Quoting:List zI
 Parent:yE
 Parents:zI
 deriving DecidableEq,Inhabited
def yV.cs (x:yV):List PV:=[.int .i64 x.Machine,.int .i64 x.Active,.sl 5 (Q0 zI.pv x.Quoting),.bytes x.Parent.Auth,.bytes x.Parent.Seed,.bytes x.Parent.Data,.int .i64 x.Parents.Kind,.int .i64 x.Parents.Attr,.int .i64 x.Parents.Height,.bytes x.Parents.Policy,.bytes x.Parents.Unique]
def yV.pv (x:yV):PV:=.agg x.cs
structure zPm where
 Device:zB
 opened_:List Int
 deriving DecidableEq,Inhabited
structure zO where
 b_:By
 at_:Int
 e_:Int
 deriving DecidableEq,Inhabited
def zO.cs (x:zO):List PV:=[.bytes x.b_,.int .i64 x.at_,.int .i64 x.e_]
structure zR where
 B:By
 At:Int
 Error:Int
 deriving DecidableEq,Inhabited
def zR.cs (x:zR):List PV:=[.bytes x.B,.int .i64 x.At,.int .i64 x.Error]
structure zG where
 Err:Int
 Ints:List Int
 Blobs:List By
 Nonces:List By
 deriving DecidableEq,Inhabited
def zG.cs (x:zG):List PV:=[.int .i64 x.Err,.sl 1 (Q0 (PV.int .i64) x.Ints),.sl 1 (Q0 PV.bytes x.Blobs),.sl 1 (Q0 PV.bytes x.Nonces)]
def zG.pv (x:zG):PV:=.agg x.cs
structure zL where
 Session:Int
 Nonce:By
 Value:By
 deriving DecidableEq,Inhabited
def zL.cs (x:zL):List PV:=[.int .i64 x.Session,.bytes x.Nonce,.bytes x.Value]
def zL.pv (x:zL):PV:=.agg x.cs
structure zH where
 Code:Int
 Handles:List Int
 Auths:List zL
 Ints:List Int
 Blobs:List By
 deriving DecidableEq,Inhabited
def zH.cs (x:zH):List PV:=[.int .i64 x.Code,.sl 1 (Q0 (PV.int .i64) x.Handles),.sl 3 (Q0 zL.pv x.Auths),.sl 1 (Q0 (PV.int .i64) x.Ints),.sl 1 (Q0 PV.bytes x.Blobs)]
def zH.pv (x:zH):PV:=.agg x.cs
structure yD where
 Register:Int
 Kind:Int
 Digests:List By
 Data:By
 deriving DecidableEq,Inhabited
def yD.cs (x:yD):List PV:=[.int .i64 x.Register,.int .i64 x.Kind,.sl 1 (Q0 PV.bytes x.Digests),.bytes x.Data]
def yD.pv (x:yD):PV:=.agg x.cs
structure zY where
 B:By
 At:Int
 deriving DecidableEq,Inhabited
def zY.cs (x:zY):List PV:=[.bytes x.B,.int .i64 x.At]
structure zP where
 Kind:Int
 Selection:A2 Int
 Digest:By
 N:Int
 Op:Int
 Operand:By
 Name:By
 Ref:By
 Branches:List By
 deriving DecidableEq,Inhabited
def zP.cs (x:zP):List PV:=[.int .i64 x.Kind,.int .i64 x.Selection.a0,.int .i64 x.Selection.a1,.bytes x.Digest,.int .i64 x.N,.int .i64 x.Op,.bytes x.Operand,.bytes x.Name,.bytes x.Ref,.sl 1 (Q0 PV.bytes x.Branches)]
def zP.pv (x:zP):PV:=.agg x.cs
structure cB where
 Active:Int
 Resets:Int
 Events:List yD
 deriving DecidableEq,Inhabited
def cB.cs (x:cB):List PV:=[.int .i64 x.Active,.int .i64 x.Resets,.sl 4 (Q0 yD.pv x.Events)]
def cB.pv (x:cB):PV:=.agg x.cs
structure lW where
 code_:Int
 handles_:Int
 auths_:Int
 ints_:Int
 blobs_:Int
 deriving DecidableEq,Inhabited
def lW.cs (x:lW):List PV:=[.int .i64 x.code_,.int .i64 x.handles_,.int .i64 x.auths_,.int .i64 x.ints_,.int .i64 x.blobs_]
structure yR where
 s_:zE
 q_:zH
 a_:zL
 handle_:Int
 deriving DecidableEq,Inhabited
def yR.cs (x:yR):List PV:=[.sl 1 (Q0 PV.bytes x.s_.Stable.Seeds),.sl 1 (Q0 PV.bytes x.s_.Stable.Auths),.bytes x.s_.Stable.Entropy,.int .i64 x.s_.Stable.Active,.int .i64 x.s_.Stable.Resets,.int .i64 x.s_.Stable.Restarts,.int .i64 x.s_.Stable.Clock,.bool x.s_.Stable.Orderly,.sl 1 (Q0 (eSl 1 PV.bytes) x.s_.Stable.Saved.Banks),.int .i64 x.s_.Stable.Saved.Updates,.int .i64 x.s_.Stable.MaxCounter,.sl 8 (Q0 zJ.pv x.s_.Stable.Indices),.int .i64 x.s_.Stable.Lockout.Failed,.int .i64 x.s_.Stable.Lockout.Max,.int .i64 x.s_.Stable.Lockout.Recovery,.int .i64 x.s_.Stable.Lockout.Since,.int .i64 x.s_.Stable.Lockout.Closed,.int .i64 x.s_.Stable.Lockout.Penalty,.sl 2 (Q0 xR.pv x.s_.Stable.Keys),.bool x.s_.Volatile.Started,.bool x.s_.Volatile.Stopped,.sl 1 (Q0 (eSl 1 PV.bytes) x.s_.Volatile.Registers.Banks),.int .i64 x.s_.Volatile.Registers.Updates,.int .i64 x.s_.Volatile.Clock,.bool x.s_.Volatile.Safe,.int .i64 x.s_.Volatile.Draws,.sl 8 (Q0 zK.pv x.s_.Volatile.Sessions),.sl 9 (Q0 zX.pv x.s_.Volatile.Objects),.sl 1 (Q0 (PV.int .i64) x.s_.Volatile.ReadLocks),.sl 1 (Q0 (PV.int .i64) x.s_.Volatile.WriteLocks),.int .i64 x.q_.Code,.sl 1 (Q0 (PV.int .i64) x.q_.Handles),.sl 3 (Q0 zL.pv x.q_.Auths),.sl 1 (Q0 (PV.int .i64) x.q_.Ints),.sl 1 (Q0 PV.bytes x.q_.Blobs),.int .i64 x.a_.Session,.bytes x.a_.Nonce,.bytes x.a_.Value,.int .i64 x.handle_]
def yR.pv (x:yR):PV:=.agg x.cs
structure vO where
 name_:By
 value_:By
 policy_:By
 protected_:Bool
 deriving DecidableEq,Inhabited
def vO.cs (x:vO):List PV:=[.bytes x.name_,.bytes x.value_,.bytes x.policy_,.bool x.protected_]
def vO.pv (x:vO):PV:=.agg x.cs
def nameByte (c:UInt8):Bool:=(decide (97<=c.toNat)&&decide (c.toNat<=122))||(decide (48<=c.toNat)&&decide (c.toNat<=57))||decide (c.toNat=45)
def zDg (s:By):Option Bool:=some (decide (1<=s.length)&&decide (s.length<=12)&&s.all nameByte)
def zA3 (b:By) (n:Int):Option By:=
 match b with
 | [x]=>bif (n==20||n==32) then some (Q5 n.toNat x) else none
 | _=>none
def bytes_Clone (b:By):Option By:=bif Qc b.length 140737488355328 then some b else none
def decF:Nat->Nat->By
 | 0,_=>[]
 | f+1,u=>bif Q9 u 10 then [Q2 (48+u)] else decF f (u / 10)++[Q2 (48+u % 10)]
def strconv_Itoa (n:Int):Option By:=bif decide (0<=n)&&decide (n<=9223372036854775807) then some (decF 20 n.toNat) else none
def slices_Clone (b:Nat) (l:List α):Option (List α):=bif Qc (l.length*b) 140737488355328 then some l else none
def slices_DeleteFuncI (l:List Int) (h:Int):Option (List Int):=bif Qc l.length 140737488355328 then some (l.filter λx=>!(x==h)) else none
def fN (n:Nat) (k:Nat->α):α:=Nat.rec (motive:=λ_=>α) (k 0) (λm _=>k (Nat.succ m)) n
theorem zK2 (n:Nat) (k:Nat->α):fN n k=k n:=by cases n<;>rfl
def fL:By->(By->α)->α
 | [],k=>k []
 | a :: l,k=>fN a.toNat λn=>fL l λl=>k (Q2 n :: l)
theorem zZo (l:By):∀ k:By->α,fL l k=k l:=by
 induction l with
 | nil=>exact λ_=>rfl
 | cons a l ih=>
  intro k;show fN a.toNat (λn=>fL l λl=>k (Q2 n :: l))=_;rw [zK2,ih,UInt8.ofNat_toNat]
def beK (n:Nat):Nat->By
 | 0=>[]
 | k+1=>fN (Q3 (Q1 n (Nat.mul 8 k)) 256) λz=>Q2 z :: beK n k
def rn (x r s:Nat):Nat:=Qn (Q1 x r) (Q3 (Qa x s) 4294967296)
def S1n (e:Nat):Nat:=Q7 (Q7 (rn e 6 26) (rn e 11 21)) (rn e 25 7)
def S0n (e:Nat):Nat:=Q7 (Q7 (rn e 2 30) (rn e 13 19)) (rn e 22 10)
def s0n (e:Nat):Nat:=Q7 (Q7 (rn e 7 25) (rn e 18 14)) (Q1 e 3)
def s1n (e:Nat):Nat:=Q7 (Q7 (rn e 17 15) (rn e 19 13)) (Q1 e 10)
def goK (fin:Nat->Nat->Nat->Nat->Nat->Nat->Nat->Nat->R):List Nat->Nat->Nat->Nat->Nat->Nat->Nat->Nat->Nat->Nat->Nat->Nat->Nat->Nat->Nat->Nat->Nat->Nat->Nat->Nat->Nat->Nat->Nat->Nat->Nat->R
 | []=>λ_ _ _ _ _ _ _ _ _ _ _ _ _ _ _ _ a b c d e f g h=>fin a b c d e f g h
 | k :: ks=>λw0 w1 w2 w3 w4 w5 w6 w7 w8 w9 w10 w11 w12 w13 w14 w15 a b c d e f g h=>
  fN (Q6 (Q6 (Q6 (Q6 h (S1n e)) (Q7 (Qi e f) (Qi (Q7 4294967295 e) g))) k) w0) λt1=>
  fN (Q3 (Q6 t1 (Q6 (S0n a) (Q7 (Q7 (Qi a b) (Qi a c)) (Qi b c)))) 4294967296) λa'=>
  fN (Q3 (Q6 d t1) 4294967296) λe'=>
  fN (Q3 (Q6 (Q6 (Q6 (s1n w14) w9) (s0n w1)) w0) 4294967296) λw16=>
  goK fin ks w1 w2 w3 w4 w5 w6 w7 w8 w9 w10 w11 w12 w13 w14 w15 w16 a' a b c e' e f g
def ksN:List Nat:=wJ.map Int.toNat
def rd4 (l:By) (k:Nat->By->R) (d:R):R:=match l with
 | a :: b :: c :: e :: r=>fN (Qn (Qn (Qn (Qa a.toNat 24) (Qa b.toNat 16)) (Qa c.toNat 8)) e.toNat) λn=>k n r
 | _=>d
def zU3 (l:By) (k:Nat->Nat->Nat->Nat->Nat->Nat->Nat->Nat->Nat->Nat->Nat->Nat->Nat->Nat->Nat->Nat ->  By->R) (d:R):R:=
 rd4 l (λw0 l=>rd4 l (λw1 l=>rd4 l (λw2 l=>rd4 l (λw3 l=>rd4 l (λw4 l=>rd4 l (λw5 l=>rd4 l (λw6 l=>rd4 l (λw7 l=>rd4 l (λw8 l=>rd4 l (λw9 l=>rd4 l (λw10 l=>rd4 l (λw11 l=>rd4 l (λw12 l=>rd4 l (λw13 l=>rd4 l (λw14 l=>rd4 l (λw15 l=>k w0 w1 w2 w3 w4 w5 w6 w7 w8 w9 w10 w11 w12 w13 w14 w15 l) d) d) d) d) d) d) d) d) d) d) d) d) d) d) d) d
def zZ6 (a b c d e f g h:Nat):By:=
 fN (Q3 (Q1 a 24) 256) λza24=>Q2 za24 :: fN (Q3 (Q1 a 16) 256) λza16=>Q2 za16 :: fN (Q3 (Q1 a 8) 256) λza8=>Q2 za8 :: fN (Q3 (Q1 a 0) 256) λza0=>Q2 za0 :: fN (Q3 (Q1 b 24) 256) λzb24=>Q2 zb24 :: fN (Q3 (Q1 b 16) 256) λzb16=>Q2 zb16 :: fN (Q3 (Q1 b 8) 256) λzb8=>Q2 zb8 :: fN (Q3 (Q1 b 0) 256) λzb0=>Q2 zb0 :: fN (Q3 (Q1 c 24) 256) λzc24=>Q2 zc24 :: fN (Q3 (Q1 c 16) 256) λzc16=>Q2 zc16 :: fN (Q3 (Q1 c 8) 256) λzc8=>Q2 zc8 :: fN (Q3 (Q1 c 0) 256) λzc0=>Q2 zc0 :: fN (Q3 (Q1 d 24) 256) λzd24=>Q2 zd24 :: fN (Q3 (Q1 d 16) 256) λzd16=>Q2 zd16 :: fN (Q3 (Q1 d 8) 256) λzd8=>Q2 zd8 :: fN (Q3 (Q1 d 0) 256) λzd0=>Q2 zd0 :: fN (Q3 (Q1 e 24) 256) λze24=>Q2 ze24 :: fN (Q3 (Q1 e 16) 256) λze16=>Q2 ze16 :: fN (Q3 (Q1 e 8) 256) λze8=>Q2 ze8 :: fN (Q3 (Q1 e 0) 256) λze0=>Q2 ze0 :: fN (Q3 (Q1 f 24) 256) λzf24=>Q2 zf24 :: fN (Q3 (Q1 f 16) 256) λzf16=>Q2 zf16 :: fN (Q3 (Q1 f 8) 256) λzf8=>Q2 zf8 :: fN (Q3 (Q1 f 0) 256) λzf0=>Q2 zf0 :: fN (Q3 (Q1 g 24) 256) λzg24=>Q2 zg24 :: fN (Q3 (Q1 g 16) 256) λzg16=>Q2 zg16 :: fN (Q3 (Q1 g 8) 256) λzg8=>Q2 zg8 :: fN (Q3 (Q1 g 0) 256) λzg0=>Q2 zg0 :: fN (Q3 (Q1 h 24) 256) λzh24=>Q2 zh24 :: fN (Q3 (Q1 h 16) 256) λzh16=>Q2 zh16 :: fN (Q3 (Q1 h 8) 256) λzh8=>Q2 zh8 :: fN (Q3 (Q1 h 0) 256) λzh0=>Q2 zh0 :: []
def zP1:Nat->By->Nat->Nat->Nat->Nat->Nat->Nat->Nat->Nat->By
 | 0,_,a,b,c,d,e,f,g,h=>zZ6 a b c d e f g h
 | n+1,l,a,b,c,d,e,f,g,h=>zU3 l (λw0 w1 w2 w3 w4 w5 w6 w7 w8 w9 w10 w11 w12 w13 w14 w15 r=>goK (λa' b' c' d' e' f' g' h'=>fN (Q3 (Q6 a a') 4294967296) λa=>fN (Q3 (Q6 b b') 4294967296) λb=>fN (Q3 (Q6 c c') 4294967296) λc=>fN (Q3 (Q6 d d') 4294967296) λd=>fN (Q3 (Q6 e e') 4294967296) λe=>fN (Q3 (Q6 f f') 4294967296) λf=>fN (Q3 (Q6 g g') 4294967296) λg=>fN (Q3 (Q6 h h') 4294967296) λh=>zP1 n r a b c d e f g h) ksN w0 w1 w2 w3 w4 w5 w6 w7 w8 w9 w10 w11 w12 w13 w14 w15 a b c d e f g h) []
def padK (b:By):By:=(b++[128]++Q5 ((119 - b.length % 64) % 64) 0)++(Qh 8).map λ(j:Nat)=>u8 (wK .u64 (IntKind.u64.wrap (IntKind.u64.wrap (b.length:Int)*8)) (56 - 8*(j:Int)))
def zS0 (b:By):By:=zP1 ((padK b).length / 64) (padK b) 1779033703 3144134277 1013904242 2773480762 1359893119 2600822924 528734635 1541459225
def frmK (tag:Int) (fs:List By):By:=u8 tag :: fs.flatMap λf=>[u8 (wK .i64 (f.length:Int) 24),u8 (wK .i64 (f.length:Int) 16),u8 (wK .i64 (f.length:Int) 8),u8 (f.length:Int)]++f
def mkK (w:Nat) (c:By):By:=(c++Q5 (64 - c.length) 0).map λ(x:UInt8)=>Q2 (Q7 x.toNat w)
def LS1:By:=[92,227,226,216,161,64,43,41,253,145,77,45,171,44,46,118,233,154,170,45,56,63,199,182,146,254,95,40,133,107,57,163]
def PS1:List By:=[[128,29,215,100,247,121,121,59,138,26,167,57,93,164,133,76],[115,206,125,243,254,162,229,39,38,202,143,7,52,55,145,0],[68,247,239,96,76,132,240,233,32,65,114,1,184,34,143,10],[40,87,16,192,119,64,152,7,138,34,17,190,98,73,144,74]]
def LS2:By:=[37,166,53,14,71,82,30,201,222,179,75,125,93,168,246,136,105,37,117,209,70,103,50,91,1,122,99,186,246,27,29,72]
def PS2:List By:=[[180,145,145,4,253,100,223,236,20,45,143,45,67,126,242,136],[202,226,100,91,20,211,130,46,222,74,88,201,95,98,58,26],[227,45,21,83,190,234,20,124,185,213,126,6,149,127,155,70],[71,246,35,64,148,149,210,208,51,153,77,103,85,33,61,68]]
def LS3:By:=[88,143,249,34,85,105,6,31,56,185,4,147,226,53,140,130,149,166,10,92,248,217,164,33,87,182,215,73,62,247,3,59]
def PS3:List By:=[[83,199,42,46,138,134,253,80,140,49,113,224,21,152,72,218],[127,182,182,53,27,146,4,13,226,54,51,118,223,5,75,246],[189,14,50,8,58,157,128,71,135,61,21,171,109,99,38,165],[52,21,49,131,77,210,38,162,246,178,144,29,233,240,241,181]]
def zZ2 (seed:By) (leaf:Int):Option By:=bif seed==LS1 then idx PS1 leaf else bif seed==LS2 then idx PS2 leaf else bif seed==LS3 then idx PS3 leaf else none
end Go.Proofs.TT
