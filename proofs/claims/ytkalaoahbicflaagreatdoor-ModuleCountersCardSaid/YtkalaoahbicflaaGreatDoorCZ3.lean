/- A part. -/
import Derived.Test.YtkalaoahbicflaaGreatDoorCZ2
import Derived.Defers
set_option linter.all false
open Nat renaming le_of_ble_eq_true -> Q0, eq_of_beq_eq_true -> Q2, beq -> Q4, mul_le_mul_right -> Q7, blt -> Qa, add_mul -> Qb, eq_of_mul_eq_mul_right -> Qi, ble -> Qj, eq_zero_or_pos -> Qm, le_mul_of_pos_right -> Qo, le_refl -> Qq, mul_comm -> Qy, mul_pos -> W0, div_lt_of_lt_mul -> W2, le_trans -> W4, zero_add -> W5, div_add_mod -> Wc
open Array renaming getD_eq_getD_getElem? -> Q1, length_toList -> Qk, size_append -> Qp
open List renaming map -> Q3, mem_cons -> Q6, mem_map -> Q8, mem_append -> Q9, all_eq_true -> Qc, size_toArray -> Qe, map_cons -> Qf, eq_nil_of_length_eq_zero -> Qg, length_append -> Ql, mem_cons_of_mem -> Qu, getElem_of_mem -> Qv, length_map -> Qz, ext_getElem? -> W7, flatMap_cons -> W8, getElem_mem -> W9, length_cons -> Wa, cons_append -> Wb, map_append -> Wf
open Option renaming map_eq_some_iff -> Q5, getD_some -> Qs, map_some -> Wg
open Bool renaming and_eq_true -> Qd, eq_false_iff -> W6
open Go.Sw.PV renaming len -> Qh, src -> Qn, width -> W1, isSlice -> Wd, one -> We
open Go.World renaming cell? -> Qr
open Go.Sw.RK renaming va -> Qt, sb -> W3
open Go.Sw.Mic renaming ws -> Qw, upd -> Wh
open Go.Builtin renaming zeroCells -> Qx
namespace Go.Sw
open Go
variable {A:Nat}{B:List (Nat×List AV)}{D:List Nat}{E F:Nat}{G:TI}{I:List AV}{J:TypeId}{K:AS->List Mic->Prop}{L:AV}{M:Mem}{N:Nat}{P:Program}{Q:Exit->AS->Prop}{S:Operand}{U:TypeId}{V:TI}{W Y:TypeId}{a:Act}{af:Array Edge}{args:Array Value}{as:List AV}{av:AV}{ax:Operand}{bB bb bl blk blk' bs:LB}{c:PV}{cs:List PV}{cx:Ctx}{d:Nat}{dd:TypeDesc}{e e2:TypeId}{ei:TI}{env env':LV}{f:FuncId}{fr:List Nat}{h:Type}{i:TI}{j k k0:Nat}{kl:IntKind}{ks:List Nat}{l:List AV}{m na off:Nat}{ops:Array Oper}{p:PV}{pl:List (Nat×Operand)}{pos:String}{q:PV}{s s':AS}{t t':TypeId}{te:TE}{tip tip':Nat->Value}{tl ts:List TypeId}{ty:TypeId}{u:AV}{us vs:List AV}{vy:AV}{w wd:Nat}{x:Operand}{xs:List Operand}{y:Operand}{α:Type}{κ κ':Nat->Option Nat}{ρ:Nat->Nat}
section
variable {o:Oper} {v:AV} 
def yGj (P:Program) (y:Operand) (rs:LV) (bs:LB) (size m:Nat) (cs:List AV):Prop:=
 ∀ (cx:Ctx) (M:Mem) (κ:Nat->Option Nat) (tip:Nat->Value) (s:AS) (a:Act) (w:World),Inv cx M κ tip s a w->wH s rs->(∀ e∈bs,s.blk e.1=some e.2) ->
  ∃ news,Src P w size m (a.eval y) news/\∀ (j:Nat) (q:AV),cs[j]? = some q->yT M κ tip s.blk q ((news[j]?).getD undef)
def zL1 {n:Nat} {cs:List AV} (hok:yN P te) (hd:o.dst=some d) (ho:o.op=.call { callee:=.builtin .append,args:=#[x,y],argTypes:=#[t,t'] })
  (ht:(te t).map (·.ty)=some (.slice e)) (he:te e=some ei) (ht':P.underlying t'=some dd) (hdd:zBd dd) (hx:s.get te t x=some (.own k n)) (hk:s.blk k=some (.own wd l)) (hn:n*wd=l.length) (E:wd=ei.w) (hz:ei.z.length=ei.w) (hy:s.get te t' y=some vy) (hbs:∀ e∈bs,s.blk e.1=some e.2)
  (hsrc:yGj P y (opS y vy) bs ei.w m cs) (hm:cs.length=m*ei.w) (hone:cs.all AV.one=true) (hb:(n+m)*ei.b<=140737488355328) (hb1:0<ei.b) :
  SA P o s ⟨opS x (.own k n)++opS y vy,(k,.own wd l) :: bs,[],some (d,some (.own k (n+m))),[(k,.own wd (l++cs))]⟩:=by
 refine ⟨?_,yK (zO hx) (zO hy),?_,by intro k hk';simp at hk'⟩
 ·intro cx s' a w K Q hmm hs hws hk';obtain ⟨M,κ,tip,h0,hpk,hi⟩:=hs;have G:=hmm.2.1 (k,.own wd l) jk;simp only at G;have hevx:=zEs (cx:=cx) G hn (yB hi (yJ hx s' (yE hmm.1)));obtain ⟨D,n1,n2⟩:=hsrc cx M κ tip s' a w hi (zY hmm.1) (λe he=>hmm.2.1 e (by simp [he]));obtain ⟨g1,g2⟩:=hi.owns.live G hn;obtain ⟨info,z,i1,i2,i3,i4,i5⟩:=(hok e ei he).info;have hu:=yV hok ht;have hlen:n+m<=140737488355328:=W4 (Qo _ hb1) hb;have hnl:D.length=m*ei.w:=n1.nl;have hnc:D.length=cs.length:=jh
  rw [<- i2] at n1;have hzs:z.cells.size=ei.w:=by rw [<- Qk,i5];simpa using hz
  have hlc:(l++cs).length=(n+m)*wd:=by rw [Ql,hm,<- hn,E,Qb]
  have honev:∀ u∈D,u.oneCell'=true:=by
   intro u hu;obtain ⟨j,hj,hju⟩:=Qv hu;have hq:=n2 j cs[j] jk;rw [List.getElem?_eq_getElem hj,hju] at hq;exact zE5 hq ((Qc.1 hone) _ (W9 _))
  unfold Oper.wp;rcases g2 with ⟨hnil,hκ,rfl⟩ | ⟨b,n',cap,arr,e1,fz,q1,q2,q3,q4,q5,q6,q7,q8,q9,q10,q11⟩
  ·have hn0:n=0:=by
    rcases Qm n with h | h
    ·exact h
    ·have:=W0 h g1;simp only [List.length_nil] at hn;omega
   subst hn0;simp only [List.nil_append,W5] at *;by_cases hm0:m=0
   ·subst hm0;have hcs:cs=[]:=Qg jh;subst hcs;have F:=mL (P:=P) (ty:=o.type) hu ht' hdd i1 n1;rw [xH ho (hevx.trans hnil) F];show K (a.put o.dst _) _;rw [hd];refine hk' _ _ ?_;rw [uL,zUe G];exact ⟨M,κ,tip,h0,hpk,hi.put (hws d (by simp [Qw])) (.own k 0 wd [] _ G jk (λ_=>hnil.symm) ⟨_,_,_,rfl⟩)⟩
   ·have F:=iP (P:=P) (ty:=o.type) hu ht' hdd i1 i4 n1 jh (by rw [i3];exact hb) jh;rw [xH ho (hevx.trans hnil) F];show K (a.put o.dst _) _;rw [hd];refine hk' _ _ ?_;rw [uL];have hge:=grownCap_ge w m 0 e;have hsize:(D.toArray++Qx z.cells (grownCap w m 0 e - m)).size=grownCap w m 0 e*ei.w:=by
     simp only [Qp,Qe,size_zeroCells,hzs,hnl,<- Qb];congr 1;omega
    have hml:grownCap w m 0 e<=maxLen:=grownCap_le_maxLen w m 0 e (by simp only [maxLen];omega);have hpos:=W0 (show 0<m by omega) g1;refine ⟨M,_,_,h0,zMh hi hpk G _,(hi.ownNew (k:=k) (wd:=wd) (n:=m) (cap:=grownCap w m 0 e) (l:=cs) (sC w _ e) (.inr ⟨[],G,jl⟩) g1 jh (by rw [hsize,E];exact Qq _) hge hml ?_).put (hws d (by simp [Qw])) (.own k m wd cs _ (zU _ _ _) jh (λ_=>(yR _ _ _).symm) ⟨_,_,_,rfl⟩)⟩;intro j q hq;have hlt:j<cs.length:=(List.getElem?_eq_some_iff.1 hq).1;rw [Q1,Array.getElem?_append_left jl];have:=n2 j q hq;simpa using this
  ·have hnn:n'=n:=Qi g1 jh;subst hnn;have hfit0:n'*wd<=cap*wd:=Q7 _ q8;by_cases hroom:n'+m<=cap
   ·have hfits:(n'+m)*wd<=arr.size:=W4 (Q7 _ hroom) q7;have hadd:(n'+m)*wd=n'*wd+m*wd:=Qb _ _ _;have hnw:D.length=m*wd:=by rw [hnl,E]
    have F:=zAb (P:=P) (ty:=o.type) hu ht' hdd i1 n1 (b:=b) (n:=n') (cap:=cap) honev hroom
     (by
       intro j hj;rw [i2,<- E];have:n'*wd+j<arr.size:=jh
       simp [Qr,q4,this])
     (by intro j hj;rw [i2,<- E];exact tZ q4 q5 jh)
    rw [xH ho (hevx.trans q1) F];show K (a.put o.dst _) _;rw [hd];refine hk' _ _ ?_;rw [uL,i2,<- E];obtain ⟨arr',z1,z2,z3⟩:=sO b D (n'*wd) w arr e1 fz q4 jh;refine ⟨M,κ,_,h0,hpk,(hi.ownSet (n':=n'+m) (l':=l++cs) G q1 q2 q3 (by rw [z2];exact q5) z1 (by rw [z2];exact q7) hroom q9 g1 q11 jh jk q6 ?_).put (hws d (by simp [Qw])) (.own k (n'+m) wd (l++cs) _ (zU _ _ _) jh (λ_=>(yR _ _ _).symm) ⟨_,_,_,rfl⟩)⟩;intro j q hq;rw [Q1,z3 j];by_cases hj:j<l.length
    ·rw [List.getElem?_append_left hj] at hq;rw [if_neg jh];have:=q10 j q hq;rw [Q1] at this;exact this
    ·rw [List.getElem?_append_right jh] at hq;have hlt:j - l.length<cs.length:=(List.getElem?_eq_some_iff.1 hq).1;rw [if_pos jh];have:=n2 _ q hq;rw [show j - n'*wd=j - l.length by omega];exact this
   ·have hol:(arr.toList.take (n'*wd)).length=n'*info.size:=by simp [i2,<- E];omega
    have F:=zBa (P:=P) (ty:=o.type) hu ht' hdd i1 i4 n1 (b:=b) (n:=n') (cap:=cap) (olds:=arr.toList.take (n'*wd)) hol
     (by
      intro j u hu;rw [List.getElem?_take] at hu;split at hu
      ·simp only [Qr,q4];simpa using hu
      ·cases hu)
     jh (by rw [i3];exact hb) jh
    rw [xH ho (hevx.trans q1) F];show K (a.put o.dst _) _;rw [hd];refine hk' _ _ ?_;rw [uL];have hge:=grownCap_ge w (n'+m) cap e;have hml:grownCap w (n'+m) cap e<=maxLen:=grownCap_le_maxLen w _ cap e (by simp only [maxLen];omega);have hmp:0<m:=jh
    have hmw:=W0 hmp g1;have hadd:(n'+m)*wd=n'*wd+m*wd:=Qb _ _ _;have htl:(arr.toList.take (n'*wd)).length=n'*wd:=by simp;omega
    generalize hA:((arr.toList.take (n'*wd)).toArray++D.toArray++Qx z.cells (grownCap w (n'+m) cap e - (n'+m)))=A;have hsize:A.size=grownCap w (n'+m) cap e*ei.w:=by
     rw [<- hA];have hsub:(grownCap w (n'+m) cap e - (n'+m))*ei.w=grownCap w (n'+m) cap e*ei.w - (n'+m)*ei.w:=Nat.sub_mul _ _ _;have hge2:(n'+m)*ei.w<=grownCap w (n'+m) cap e*ei.w:=Q7 _ hge;simp only [Qp,Qe,htl,size_zeroCells,hzs,hnl];rw [hsub,E];rw [E] at hadd;omega
    refine ⟨M,_,_,h0,zMh hi hpk G _,(hi.ownNew (k:=k) (wd:=wd) (n:=n'+m) (cap:=grownCap w (n'+m) cap e) (l:=l++cs) (sC w A e) (.inr ⟨l,G,jh⟩) g1 jh (by rw [hsize,E];exact Qq _) hge hml ?_).put (hws d (by simp [Qw])) (.own k (n'+m) wd (l++cs) _ (zU _ _ _) jh (λ_=>(yR _ _ _).symm) ⟨_,_,_,rfl⟩)⟩;intro j q hq;have hnw:D.length=m*wd:=by rw [hnl,E]
    have hjt:j<(l++cs).length:=(List.getElem?_eq_some_iff.1 hq).1;rw [Q1,<- hA,Array.getElem?_append_left (by simp only [Qp,Qe,htl];omega)];by_cases hj:j<l.length
    ·rw [List.getElem?_append_left hj] at hq;rw [Array.getElem?_append_left (by simp only [Qe,htl];omega)];have:=q10 j q hq;rw [Q1] at this;simp only [List.getElem?_toArray,List.getElem?_take];rw [if_pos jh];simpa using this
    ·rw [List.getElem?_append_right jh] at hq;rw [Array.getElem?_append_right (by simp only [Qe,htl];omega)];have:=n2 _ q hq;simp only [Qe,htl,List.getElem?_toArray];rw [show j - n'*wd=j - l.length by omega];exact this
 ·intro e he;rcases Q6.1 he with he | he
  ·subst he;exact hk
  ·exact hbs e he
def PV.ecs:PV->List AV
 | .bytes l=>l.map λx=>.p (.int .u8 x.toNat)
 | .str l=>l.map λx=>.p (.int .u8 x.toNat)
 | .sl _ l=>(flatCells l).map .p
 | _=>[]
def zF7 {B:NB} {g:Nat->Value} {v:List Value} (G:qM M p.src g) (U:p.src.isSlice=true) (W:p.src.width=wd) (F:∀ j,j<p.src.len*wd->v[j]? = some (g j)) :
  p.ecs.length=p.src.len*wd/\∀ (j:Nat) (q:AV),p.ecs[j]? = some q->yT M κ tip B q ((v[j]?).getD undef):=by
 have I:∀ (l:By),qM M (.bytes l) g->(∀ j,j<l.length*1->v[j]? = some (g j))->∀ (j:Nat) (q:AV),(l.map λx=>AV.p (.int .u8 x.toNat))[j]? = some q->yT M κ tip B q ((v[j]?).getD undef):=by
  intro l G F j q A;rw [List.getElem?_map] at A;obtain ⟨u,J,h2⟩:=Q5.1 A;have Y:j<l.length:=(List.getElem?_eq_some_iff.1 J).1;rw [F j jh,<- h2,Qs,G j u J];exact .p _ _ (.int _ _)
 cases p with
 | bytes l=>simp only [Qn,W1] at *;subst W;exact ⟨by simp [PV.ecs,Qh],I l G F⟩
 | str l=>simp only [Qn,W1] at *;subst W;exact ⟨by simp [PV.ecs,Qh],I l G F⟩
 | sl w' l=>
  simp only [Qn,W1] at *;subst W;obtain ⟨c1,c2⟩:=G;have N:∀ p∈l,p.cells.length=w':=λp D=>by obtain ⟨i,hi,h⟩:=Qv D;exact c1 i p (by simp [hi,h])
  obtain ⟨f1,f2⟩:=flat_get l N;refine ⟨by simp [PV.ecs,Qh,f1],λj q A=>?_⟩;simp only [PV.ecs] at A;rw [List.getElem?_map] at A;obtain ⟨u,J,h2⟩:=Q5.1 A;have Y:j<(flatCells l).length:=(List.getElem?_eq_some_iff.1 J).1;have Z:0<w':=by
   rcases Qm w' with h | h
   ·subst h;omega
   ·exact h
  have S:w'*(j / w')+j % w'=j:=Wc j w';have hi:j / w'<l.length:=W2 (by rw [Qy];omega);have D:l[j / w']? = some l[j / w']:=by simp
  have V:=c1 _ _ D;have hr:j % w'<l[j / w'].cells.length:=by rw [V];exact Nat.mod_lt _ Z
  have K:l[j / w'].cells[j % w']? = some l[j / w'].cells[j % w']:=by simp
  have e:j / w'*w'+j % w'=j:=by rw [Qy];exact S
  have h3:=f2 _ _ _ _ D K;rw [e,J] at h3;cases h3;have h4:=c2 _ _ _ _ D K;rw [e] at h4;rw [F j (by simp only [Qh];omega),<- h2,Qs];exact .p _ _ h4
 | _=>simp [Qn,Wd] at U
def zF3 (Z:s.get te U y=some L) (Y:s.rd L=some (p,bs)) (K:p.src.isSlice=true) (J:p.src.width=wd) (V:0<wd):yGj P y (opS y L) bs wd p.src.len p.ecs:=by
 intro cx M κ tip s' a w G T W;have h:=dS G Z Y T W;cases p with
 | str l=>
  rw [zLy h];obtain ⟨d,g,F,D,A⟩:=zT5 (P:=P) (M:=M) (w:=w) l;have v:wd=1:=by rw [<- J];rfl
  subst v;exact ⟨d,F,(zF7 (p:=.str l) D rfl rfl A).2⟩
 | bytes l=>
  obtain ⟨d,g,F,D,A⟩:=zC4 (P:=P) G.mem rfl h (by simp [W1]);have v:wd=1:=by rw [<- J];rfl
  subst v;exact ⟨d,F,(zF7 (p:=.bytes l) D rfl rfl A).2⟩
 | sl w' l=>
  have v:wd=w':=by rw [<- J];rfl
  subst v;obtain ⟨d,g,F,D,A⟩:=zC4 (P:=P) G.mem rfl h (by simp [W1];omega);exact ⟨d,F,(zF7 (p:=.sl wd l) D rfl rfl A).2⟩
 | _=>simp [Qn,Wd] at K
def zOb {v:List AV} (N:s.get te W y=some (.ref A 0 m)) (hl:v.length=m*wd):yGj P y (opS y (.ref A 0 m)) [(A,.var v)] wd m v:=by
 intro cx M κ tip s' a w J U hb;have D:=hb (A,.var v) jk;have h:=yB J (yJ N s' U);obtain ⟨b,F,e,fz,Y,q2,q3,q4,Z,q6,q7⟩:=J.vars A v D;generalize S:a.eval y=z at h;cases h with
 | ref _ _ _ b' l' L g2=>
 rw [Y] at L;cases L;refine ⟨F.toList,⟨λw'=>by rfl,λw' G=>?_,jl⟩,λj q T=>?_⟩
 ·refine run_firstCells_some (P:=P) w' wd m ⟨b,0,none⟩ m m _ jl ?_;intro j u V;rw [vL];refine G _ _ ?_;simp only [Qr,q2,W5];simpa using V
 simp_all
def zS9 {n:Nat} {ps:Array (Nat×Operand)} {vs rs:LV} (hok:yN P te) (hd:o.dst=some d) (ho:o.op=.buildSlice t n ps) (hpl:ps.toList=pl) (ht:(te t).map (·.ty)=some (.slice e)) (he:te e=some ei) (hz:ei.z.length=ei.w) (hw0:0<ei.w) (hn:n*ei.w<=16777216)
  (hp:nD s te pl vs rs) (hf:nE (λj=>some (j*ei.w,ei.w)) (qJ ei.z n) vs=some l) (hln:n*ei.w=l.length) (hk:s.blk d=none):SA P o s ⟨rs,[],[d],some (d,some (.own d n)),[(d,.own ei.w l)]⟩:=by
 refine ⟨?_,hp.reads,by intro e he;simp at he,by intro k hk';simp at hk';subst hk';exact hk⟩;intro cx s' a w K Q hm hs hw hk';obtain ⟨M,κ,tip,h0,hpk,hi⟩:=hs;have hpr:=hp.rep hi hm.1;have hxs:(ps.map λ(i,x)=>(i,a.eval x)).toList=pl.map λp=>(p.1,a.eval p.2):=by simp [<- hpl]
 obtain ⟨arr,hrun,hcr⟩:=zLt hok ht he hz hn (xs:=ps.map λ(i,x)=>(i,a.eval x)) (by rw [hxs];exact hpr) hf w;have hb:=hm.2.2 d jk;unfold Oper.wp;have:(execOp a.eval o).run P w=.ok (.value (.slice (some ⟨w.heap.size,0,none⟩) n n)) (w.alloc (.cells arr e)):=by simp [execOp,ho,hrun]
 rw [this];show K (a.put o.dst _) _;rw [hd];refine hk' _ _ ?_;rw [eY];have hnn:n<=n*ei.w:=Qo _ hw0;exact ⟨M,_,_,h0,zBj hi hpk hb _,(hi.ownNew (k:=d) (wd:=ei.w) (n:=n) (cap:=n) (l:=l) (iD w arr e) (.inl hb) hw0 hln (by rw [hcr.1];omega) (Qq _) (by simp only [maxLen];omega) hcr.2).put (hw d (by simp [Qw])) (.own d n ei.w l _ (zU _ _ _) jh (λ_=>(yR _ _ _).symm) ⟨_,_,_,rfl⟩)⟩
def zN2 {v:TI} {cs:List AV} (hok:yN P te) (hd:o.dst=some d) (ho:o.op=.call { callee:=.builtin .append,args:=#[x,y],argTypes:=#[t,t'] })
  (ht:(te t).map (·.ty)=some (.slice e)) (he:te e=some v) (ht':P.underlying t'=some dd) (hdd:zBd dd) (hx:s.get te t x=some (.nl c)) (hw0:0<v.w) (hz:v.z.length=v.w) (hy:s.get te t' y=some vy) (hbs:∀ e∈bs,s.blk e.1=some e.2)
  (T:yGj P y (opS y vy) bs v.w m cs) (hm:cs.length=m*v.w) (hb:m*v.b<=140737488355328) (hb1:0<v.b) (hk:s.blk d=none) :
  SA P o s ⟨opS x (.nl c)++opS y vy,bs,[d],some (d,some (.own d m)),[(d,.own v.w cs)]⟩:=by
 refine ⟨?_,yK (zO hx) (zO hy),hbs,by intro k D;simp at D;subst D;exact hk⟩;intro cx s' a w K Q E hs hws D;obtain ⟨M,κ,tip,h0,hpk,hi⟩:=hs;have L:=E.2.2 d jk;have F:a.eval x=.slice none 0 0:=by
  have hx':=yB hi (yJ hx s' (yE E.1));generalize a.eval x=z at hx';cases hx' with
  | nl _ _=>rfl
 obtain ⟨G,n1,n2⟩:=T cx M κ tip s' a w hi (zY E.1) E.2.1;obtain ⟨info,z,i1,i2,i3,i4,i5⟩:=(hok e v he).info;have hu:=yV hok ht;have hlen:m<=140737488355328:=W4 (Qo _ hb1) hb;have hnl:G.length=m*v.w:=n1.nl;rw [<- i2] at n1;have hzs:z.cells.size=v.w:=by rw [<- Qk,i5];simpa using hz
 unfold Oper.wp;by_cases hm0:m=0
 ·subst hm0;have hcs:cs=[]:=Qg jh;subst hcs;have A:=mL (P:=P) (ty:=o.type) hu ht' hdd i1 n1;rw [xH ho F A];show K (a.put o.dst _) _;rw [hd];refine D _ _ ?_;rw [eY];exact ⟨M,κ,_,h0,hpk,(hi.ownNil L hw0).put (hws d (by simp [Qw])) (.own d 0 v.w [] _ (zU _ _ _) jk (λ_=>(yR _ _ _).symm) ⟨_,_,_,rfl⟩)⟩
 ·have A:=iP (P:=P) (ty:=o.type) hu ht' hdd i1 i4 n1 jh (by rw [i3];exact hb) jh;rw [xH ho F A];show K (a.put o.dst _) _;rw [hd];refine D _ _ ?_;rw [eY];have hge:=grownCap_ge w m 0 e;have N:(G.toArray++Qx z.cells (grownCap w m 0 e - m)).size=grownCap w m 0 e*v.w:=by
   simp only [Qp,Qe,size_zeroCells,hzs,hnl,<- Qb];congr 1;omega
  have hml:grownCap w m 0 e<=maxLen:=grownCap_le_maxLen w m 0 e (by simp only [maxLen];omega);refine ⟨M,_,_,h0,zBj hi hpk L _,(hi.ownNew (k:=d) (wd:=v.w) (n:=m) (cap:=grownCap w m 0 e) (l:=cs) (sC w _ e) (.inl L) hw0 jh (by rw [N];exact Qq _) hge hml ?_).put (hws d (by simp [Qw])) (.own d m v.w cs _ (zU _ _ _) jh (λ_=>(yR _ _ _).symm) ⟨_,_,_,rfl⟩)⟩;intro j q hq;have hlt:j<cs.length:=(List.getElem?_eq_some_iff.1 hq).1;rw [Q1,Array.getElem?_append_left jl];have:=n2 j q hq;simpa using this
end
mutual
def fzV (k m:Nat):AV->AV
 | .own j n=>bif Q4 j k then .buf j m else .own j n
 | .ag l=>.ag (fzL k m l)
 | .tu l=>.tu (fzL k m l)
 | .fnv f l=>.fnv f (fzL k m l)
 | v=>v
def fzL (k m:Nat):List AV->List AV
 | []=>[]
 | v :: r=>fzV k m v :: fzL k m r
end
mutual
def wV (k n:Nat):AV->Bool
 | .own j m=>!Nat.beq j k||Q4 m n
 | .optr j _ _=>!Nat.beq j k
 | .osl j _ _ _=>!Nat.beq j k
 | .ag l=>wC k n l
 | .tu l=>wC k n l
 | .fnv _ l=>wC k n l
 | _=>true
def wC (k n:Nat):List AV->Bool
 | []=>true
 | v :: r=>wV k n v&&wC k n r
end
def fzB (k m:Nat):ABlk->ABlk
 | .var l=>.var (fzL k m l)
 | .own w l=>.own w (fzL k m l)
 | .buf c=>.buf c
def fyE (k m:Nat):LV->LV
 | []=>[]
 | (t,v) :: r=>(t,fzV k m v) :: fyE k m r
def zEx (k m:Nat) (c:PV):LB->LB
 | []=>[]
 | (i,b) :: r=>(bif Q4 i k then (i,.buf c) else (i,fzB k m b)) :: zEx k m c r
def qE (k n:Nat):LV->Bool
 | []=>true
 | (_,v) :: r=>wV k n v&&qE k n r
def sE (k n:Nat):LB->Bool
 | []=>true
 | (_,.var l) :: r=>wC k n l&&sE k n r
 | (_,.own _ l) :: r=>wC k n l&&sE k n r
 | (_,.buf _) :: r=>sE k n r
def iJ (k m:Nat):∀ (l:List AV),(fzL k m l).length=l.length/\∀ (j:Nat),(fzL k m l)[j]? = (l[j]?).map (fzV k m)
 | []=>⟨rfl,by simp [fzL]⟩
 | v :: r=>by
  obtain ⟨F,E⟩:=iJ k m r;refine ⟨by simp [fzL,F],λj=>?_⟩;cases j with
  | zero=>rfl
  | succ j=>simp [fzL,E j]
def zB9 {n:Nat}:∀ (l:List AV),wC k n l=true->∀ (j:Nat) (q:AV),l[j]? = some q->wV k n q=true
 | [],_,_,_,h=>by simp_all
 | v :: r,h,0,q,A=>by
  simp only [wC] at h;simp_all
 | v :: r,h,j+1,q,A=>by
  simp only [wC,Qd] at h;exact zB9 r h.2 j q jm
def zSn (f:h->PV):∀ (l:List h),fzL k m (l.map λx=>AV.p (f x))=l.map λx=>AV.p (f x)
 | []=>rfl
 | _ :: r=>by simp only [Qf,fzL,fzV];rw [zSn f r]
def yDe:∀ (l:List PV),fzL k m (l.map AV.p)=l.map AV.p
 | []=>rfl
 | _ :: r=>by simp only [Qf,fzL,fzV];rw [yDe r]
def vO {n:Nat} (f:h->PV):∀ (l:List h),wC k n (l.map λx=>AV.p (f x))=true
 | []=>rfl
 | _ :: r=>by exact vO f r
def vQ {n:Nat}:∀ (l:List PV),wC k n (l.map AV.p)=true
 | []=>rfl
 | _ :: r=>by simp only [Qf,wC,wV,Bool.true_and];exact vQ r
def qE.mem {n:Nat}:∀ {l:LV},qE k n l=true->∀ {t v},(t,v)∈l->wV k n v=true
 | (_,_) :: _,h,_,_,y=>by
  simp only [qE,Qd] at h;rcases Q6.1 y with e | y
  ·simp_all
  ·exact qE.mem h.2 y
def sE.mem {n:Nat}:∀ {l:LB},sE k n l=true->∀ {t b},(t,b)∈l->(∀ v,b=.var v->wC k n v=true)/\∀ w v,b=.own w v->wC k n v=true
 | (_,.var u) :: _,h,_,_,d=>by
  simp only [sE,Qd] at h;rcases Q6.1 d with e | d
  ·simp_all
  ·exact sE.mem h.2 d
 | (_,.own w u) :: _,h,_,_,d=>by
  simp only [sE,Qd] at h;rcases Q6.1 d with e | d
  ·simp_all
  ·exact sE.mem h.2 d
 | (_,.buf u) :: _,h,_,_,d=>by
  simp only [sE] at h;rcases Q6.1 d with e | d
  ·simp_all
  ·exact sE.mem h d
def yDs:∀ {l:LV} {t:Nat} {v:AV},lk (fyE k m l) t=some v->∃ u,lk l t=some u/\v=fzV k m u
 | [],_,_,h=>by simp [fyE,lk] at h
 | (i,x) :: r,t,v,h=>by
  simp only [fyE,lk] at h ⊢;cases D:Q4 t i with
  | true=>simp_all
  | false=>simp [D] at h;simpa using yDs h
def zE9:∀ {l:LB} {t:Nat},lk (zEx k m c l) t=(lk l t).map (λb=>bif Q4 t k then .buf c else fzB k m b)
 | [],t=>by rfl
 | (i,x) :: r,t=>by
  simp only [zEx,lk];cases y:Q4 t i with
  | true=>
   have:=Q2 y;subst this;cases D:Q4 t k<;>simp [lk]
  | false=>
   cases D:Q4 i k<;>simp [y,zE9]
def yT.fz {M':Mem} {B B':NB} {n:Nat} (hM:M.le M') (hk:B k=some (.own wd l)) (hn:n*wd=l.length) (V:∀ i b,i≠k->B i=some b->B' i=some (fzB k n b)) (bh:B' k=some (.buf c)) (hc:c.isSlice=true) (bd:c.len=n) (bf:Rep M' c (tip k))
  {v:AV} {x:Value} (hr:yT M κ tip B v x):wV k n v=true->yT M' κ tip B' (fzV k n v) x:=by
 have N:∀ {i:Nat} {b:ABlk},B i=some b->(∀ w l,b≠.own w l)->i≠k:=by
  rintro i b d D rfl;rw [hk] at d;cases d;exact D _ _ rfl
 induction hr with
 | p v x d=>intro _;exact .p v x (d.mono hM)
 | nl c d=>intro _;exact .nl c d
 | ptr i o b l d D=>intro _;exact .ptr i o b _ d (V i _ (N D (by intros;simp)) D)
 | ref i o n b l d D=>intro _;exact .ref i o n b _ d (V i _ (N D (by intros;simp)) D)
 | buf i n c x d L D y S=>intro _;exact .buf i n c x (V i _ (N d (by intros;simp)) d) L D (y.mono hM) S
 | ag l Y d _ ih=>
  intro h;obtain ⟨r1,G⟩:=iJ k n l;refine .ag _ Y jh (λj q F=>?_);rw [G] at F;obtain ⟨I,y,S⟩:=Q5.1 F;subst S;exact ih j I y (zB9 l h j I y)
 | tu l Y d _ ih=>
  intro h;obtain ⟨r1,G⟩:=iJ k n l;refine .tu _ Y jh (λj q F=>?_);rw [G] at F;obtain ⟨I,y,S⟩:=Q5.1 F;subst S;exact ih j I y (zB9 l h j I y)
 | fnv f l Y d _ ih=>
  intro h;obtain ⟨r1,G⟩:=iJ k n l;refine .fnv f _ Y jh (λj q F=>?_);rw [G] at F;obtain ⟨I,y,S⟩:=Q5.1 F;subst S;exact ih j I y (zB9 l h j I y)
 | own i m w J x d D y L=>
  intro h;simp only [wV] at h;cases Z:Q4 i k with
  | true=>
   have:=Q2 Z;subst this;simp [Z] at h;subst h;rw [hk] at d;cases d;simp only [fzV,Z,cond_true];have hx:=y hn;refine .buf i m c x bh hc jh ?_ (λ_=>hx);rw [<- bd,sL hc,hx];exact bf
  | false=>
   have E:i≠k:=by rintro rfl;simp at Z
   simp only [fzV,Z,cond_false];obtain ⟨r1,G⟩:=iJ k n J;exact .own i m w (fzL k n J) x (V i _ E d) jh (λe=>y jh) L
 | optr i m o w J x d D y L=>
  intro h;simp only [wV] at h;have E:i≠k:=by rintro rfl;simp at h
  obtain ⟨r1,G⟩:=iJ k n J;exact .optr i m o w (fzL k n J) x (V i _ E d) jh (λe=>y jh) L
 | osl i m o q w J x d D y L=>
  intro h;simp only [wV] at h;have E:i≠k:=by rintro rfl;simp at h
  obtain ⟨r1,G⟩:=iJ k n J;exact .osl i m o q w (fzL k n J) x (V i _ E d) jh (λe=>y jh) L
def Imp.freezeO {pk:PKs} (k:Nat) {n:Nat} (hb:lk blk k=some (.own wd l)) (hn:n*wd=l.length) (hrd:(mkS env blk).rdL l=some (cs,bs)) (hc:fO wd c cs) (hcn:c.len=n) (hm:m=n)
  (h1:qE k n env=true) (h2:sE k n blk=true) (he:fyE k m env=env') (hbb:zEx k m c blk=blk') (bg:Qa k BIG=true:=by rfl):Imp pk (mkS env blk) (mkS env' blk'):=by
 subst he hbb hm;intro cx a w hcx hs;obtain ⟨M,κ,tip,h0,hp,J⟩:=hs;have bg:=Q0 bg;obtain ⟨g1,g2⟩:=J.owns.live hb hn;have key:∃ M',M.le M'/\Rep M' c (tip k)/\c.isSlice=true/\c.width=wd/\(∀ b o x,M' b o=some x->w.cell? ⟨b,o,none⟩=some x)/\(∀ b o,κ k≠some b->M' b o=M b o) /\
   ((tip k=.slice none 0 0/\κ k=none)∨∃ b n cap A e fz,tip k=.slice (some ⟨b,0,none⟩) n cap/\κ k=some b/\cx.w0.heap.size<=b /\
    w.heap[b]? = some (.cells A e fz)/\zDu fz A.size/\cap*c.width<=A.size/\cap<=maxLen/\∀ j,n*c.width<=j->M' b j=none):=by
  rcases g2 with ⟨y1,W,rfl⟩ | ⟨b,n',cap,A,e,fz,q1,q2,q3,q4,q5,q6,q7,q8,q9,q10,q11⟩
  ·simp [AS.rdL] at hrd;obtain ⟨rfl,rfl⟩:=hrd;obtain ⟨c1,c2,c3,c4⟩:=hc.cells (M:=M) (f:=λ_=>undef) jk;have bc:c.len=0:=by
    rcases Qm c.len with h | h
    ·exact h
    ·have:=W0 h g1;simp at c4;omega
   refine ⟨M,Mem.le_refl M,?_,c2,c3,J.mem,λ_ _ _=>rfl,.inl ⟨y1,W⟩⟩;rw [y1];cases c with
   | bytes l=>simp [Qh] at bc;subst bc;exact .bytes0
   | sl w l=>simp [Qh] at bc;subst bc;exact .sl0 w
   | _=>simp [Wd] at c2
  ·have hnn:n'=m:=Qi g1 jh;subst hnn;have hfit:n'*wd<=cap*wd:=Q7 _ q8;obtain ⟨r1,r2⟩:=zAh hrd q10;obtain ⟨c1,c2,c3,c4⟩:=hc.cells r2;have L:M.le (xI M b 0 (n'*wd) (A[·]?)):=uK λo _ _=>q11 o;refine ⟨xI M b 0 (n'*wd) (A[·]?),L,?_,c2,c3,λb' o x h=>?_,λb' o I=>?_,.inr ⟨b,n',cap,A,e,fz,q1,q2,q3.resolve_right (λh=>by omega),q4,q5,by rw [c3];exact q7,q9,λj hj=>?_⟩⟩
   ·rw [q1];have:=wB (M':=xI M b 0 (n'*wd) (A[·]?)) (b:=b) (o:=0) (cap:=cap) c1 c2 L ?_ jh
    ·rwa [hcn] at this
    intro j hj;rw [hcn,c3] at hj;simp only [xI,W5];rw [if_pos ⟨trivial,Nat.zero_le _,hj⟩];have:j<A.size:=jh
    simp [this]
   ·unfold xI at h;split at h
    ·rename_i hc';obtain ⟨rfl,_,hlt⟩:=hc';simp only [Qr,q4];simpa using h
    ·exact J.mem b' o x h
   ·unfold xI;rw [if_neg (by intro h;exact I (by rw [h.1];exact q2))]
   ·unfold xI;rw [c3] at hj;rw [if_neg jh];exact q11 j
 obtain ⟨M',L,bi,hcs,hcw,hmem,S,hrow⟩:=key;have hB:∀ i b,i≠k->lk blk i=some b->lk (zEx k m c blk) i=some (fzB k m b):=λi b I h=>by
  have:Q4 i k=false:=by rw [W6];intro e;exact I (Q2 e)
  rw [zE9,h,this];rfl
 have hBk:lk (zEx k m c blk) k=some (.buf c):=by rw [zE9,hb];simp
 have hBi:∀ i b',lk (zEx k m c blk) i=some b'->(i=k/\b'=.buf c)∨(i≠k/\∃ b,lk blk i=some b/\b'=fzB k m b):=by
  intro i b' h;rw [zE9] at h;obtain ⟨b,E,D⟩:=Q5.1 h;cases hq:Q4 i k with
  | true=>simp [hq] at D;exact .inl ⟨Q2 hq,D.symm⟩
  | false=>simp [hq] at D;exact .inr ⟨by rintro rfl;simp at hq,b,E,D.symm⟩
 have bh:∀ {v:AV} {x:Value},yT M κ tip (lk blk) v x->wV k m v=true->yT M' κ tip (lk (zEx k m c blk)) (fzV k m v) x:=λh ho=>h.fz L hb hn hB hBk hcs hcn bi ho;have N:∀ (li:List AV),wC k m li=true->∀ {A:Array Value},(∀ (j:Nat) (q:AV),li[j]? = some q->yT M κ tip (lk blk) q (A.getD j undef))->∀ (j:Nat) (q:AV),(fzL k m li)[j]? = some q->yT M' κ tip (lk (zEx k m c blk)) q (A.getD j undef):=by
  intro li ho A hr j q hq;rw [(iJ k m li).2] at hq;obtain ⟨q',E,D⟩:=Q5.1 hq;subst D;exact bh (hr j q' E) (zB9 li ho j q' E)
 refine ⟨M',κ,tip,h0.trans' L,hp,{
  defers:=J.defers
  size:=J.size
  fr:=J.fr
  mem:=hmem
  env:=λu v h=>by
   obtain ⟨v',E,rfl⟩:=yDs (show lk (fyE k m env) u=some v from h);obtain ⟨y,D,h5⟩:=J.env u v' E;exact ⟨y,D,bh h5 (qE.mem h1 (tG env u v' E))⟩
  vars:=λi li h=>by
   rcases hBi i _ h with ⟨_,E⟩ | ⟨I,b,E,D⟩
   ·cases E
   ·cases b with
    | buf _=>simp [fzB] at D
    | own _ _=>simp [fzB] at D
    | var Z=>
     simp only [fzB,ABlk.var.injEq] at D;subst D;obtain ⟨U,K,e2,T,z1,z2,z3,z4,z5,z6,z7⟩:=J.vars i Z E;exact ⟨U,K,e2,T,z1,z2,z3,by rw [(iJ k m Z).1];exact z4,N Z ((sE.mem h2 (tG blk i _ E)).1 Z rfl) z5,λo=>by rw [S U o (λe=>I (J.inj i k U z1 e))];exact z6 o,z7⟩
  bufs:=λi ci h=>by
   rcases hBi i _ h with ⟨rfl,E⟩ | ⟨I,b,E,D⟩
   ·cases E;exact ⟨bi,hcs,jh,hrow⟩
   ·cases b with
    | own _ _=>simp [fzB] at D
    | var _=>simp [fzB] at D
    | buf c0=>
     simp only [fzB,ABlk.buf.injEq] at D;subst D;obtain ⟨z1,z2,z3,z4⟩:=J.bufs i ci E;refine ⟨z1.mono L,z2,z3,?_⟩;rcases z4 with z4 | ⟨U,n2,V,K,e2,T,y1,W,y3,y4,y5,y6,y7,y8⟩
     ·exact .inl z4
     ·exact .inr ⟨U,n2,V,K,e2,T,y1,W,y3,y4,y5,y6,y7,λj hj=>by rw [S U j (λe=>I (J.inj i k U W e))];exact y8 j hj⟩
  inj:=J.inj
  dom:=λi h=>by
   have h':lk (zEx k m c blk) i=none:=h;rw [zE9] at h';exact J.dom i (show lk blk i=none by simpa using h')
  glob:=J.glob.mono L
  old:=⟨λb' o hb'=>by
   rw [S b' o (λe=>?_)]
   ·exact J.old.1 b' o hb'
   ·rcases hrow with ⟨_,W⟩ | ⟨b,_,_,_,_,_,_,W,y3,_⟩
    ·rw [W] at e;cases e
    ·rw [W] at e;cases e;omega,J.old.2⟩
  owns:=λi wi li h=>by
   rcases hBi i _ h with ⟨_,E⟩ | ⟨I,b,E,D⟩
   ·cases E
   ·cases b with
    | buf _=>simp [fzB] at D
    | var _=>simp [fzB] at D
    | own w0 Z=>
     simp only [fzB,ABlk.own.injEq] at D;obtain ⟨rfl,rfl⟩:=D;rcases J.owns i wi Z E with ⟨z0,z1,rfl⟩ | ⟨z0,z⟩
     ·exact .inl ⟨z0,z1,rfl⟩
     refine .inr ⟨z0,?_⟩;rcases z with ⟨z1,z2,rfl⟩ | ⟨U,n2,V,K,e2,T,y1,W,y3,y4,y5,y6,y7,y8,y9,y10,y11⟩
     ·exact .inl ⟨z1,z2,rfl⟩
     ·exact .inr ⟨U,n2,V,K,e2,T,y1,W,y3,y4,y5,by rw [(iJ k m Z).1];exact y6,y7,y8,y9,N Z ((sE.mem h2 (tG blk i _ E)).2 wi Z rfl) y10,λo=>by rw [S U o (λe=>I (J.inj i k U W e))];exact y11 o⟩}⟩
def Imp.promO {S:PKs} {t:Nat} (wd:Nat) (Y:s.env t=some (.nl c)) (U:s.blk k=none) (hw:Qa 0 wd=true):Imp S s ((s.setb k (.own wd [])).put t (.own k 0)):=by
 intro cx a w _ Z;obtain ⟨M,κ,tip,W,N,J⟩:=Z;have ba:=Q0 hw;have d:=J.ownNil (wd:=wd) U jh;obtain ⟨x,E,F⟩:=J.env t _ Y;cases F with
 | nl _ hc=>
 refine ⟨M,κ,_,W,N,{ d with env:=λu v h=>?_ }⟩;simp only [AS.put] at h;cases L:Q4 u t with
 | true=>
  have:=Q2 L;subst this;simp at h;subst h;exact ⟨_,E,.own k 0 wd [] _ (zU _ _ _) jk (λ_=>(yR _ _ _).symm) ⟨_,_,_,rfl⟩⟩
 | false=>
  simp [L] at h;exact d.env u v h
abbrev qO (c:PV):ABlk:=.own c.width c.ecs
def hH:∀ (a b:List PV),flatCells (a++b)=flatCells a++flatCells b
 | [],_=>rfl
 | x :: r,b=>by simp [flatCells,hH r b]
def sM (l:By):l.length*1=(PV.ecs (.bytes l)).length:=by simp [PV.ecs]
def flat_len {y:Type} {f:y->PV} (A:∀ a,(f a).cells.length=w):∀ (l:List y),(flatCells (l.map f)).length=l.length*w
 | []=>by simp [flatCells]
 | x :: r=>by simp only [Qf,flatCells,Ql,A,flat_len A r,Wa];rw [Qb];omega
def xQ {v:Type} {f:v->PV} (y:∀ a,(f a).cells.length=w) (l:List v):l.length*w=(PV.ecs (.sl w (l.map f))).length:=by simp [PV.ecs,flat_len y]
def yJe:∀ (l:List PV),s.rdL (l.map AV.p)=some (l,[])
 | []=>rfl
 | x :: r=>by simp [AS.rdL,AS.rd,yJe r]
def yFh (l:By):s.rdL (PV.ecs (.bytes l))=some (l.map λx=>PV.int .u8 x.toNat,[]):=by
 exact sU
def yIo (l:List PV):s.rdL (PV.ecs (.sl w l))=some (flatCells l,[]):=by exact yJe _
def zAw {y:Type} {f:y->PV} (A:∀ a,(f a).cells.length=w) {l:List y} {u:y} (h:l[j]? = some u) {o:Nat} (D:(f u).cells[o]? = some q):(PV.ecs (.sl w (l.map f)))[j*w+o]? = some (.p q):=by
 obtain ⟨_,E⟩:=flat_get (l.map f) (w:=w) jm;simp only [PV.ecs];simp_all
def zVd {f:α->PV} (hf:∀ a,(f a).cells.length=w) {l:List α} {u:α} (h:l[j]? = some u):((PV.ecs (.sl w (l.map f))).drop (j*w)).take w=(f u).cells.map AV.p:=by
 apply W7;intro o;rw [List.getElem?_take,List.getElem?_drop,List.getElem?_map];by_cases ho:o<w
 ·rw [if_pos ho];have hlt:o<(f u).cells.length:=by rw [hf];exact ho
  rw [zAw hf h (o:=o) (q:=(f u).cells[o]) jk];simp [hlt]
 ·rw [if_neg ho];have:(f u).cells[o]? = none:=List.getElem?_eq_none (by rw [hf];omega);simp [this]
def zNw {S:Type} {f:S->PV} (v:∀ a,(f a).cells.length=w) {l:List S} (u:S) (h:j<l.length):uS (PV.ecs (.sl w (l.map f))) (j*w) ((f u).cells.map AV.p)=PV.ecs (.sl w ((l.set j u).map f)):=by
 have ba:=xQ v l;have V:(j+1)*w<=l.length*w:=Q7 _ h;rw [Qb] at V;have F:((f u).cells.map AV.p).length=w:=by simp [v]
 have hw:∀ p∈(l.set j u).map f,p.cells.length=w:=by intro p Y;obtain ⟨a,_,rfl⟩:=Q8.1 Y;exact v a
 have be:∀ p∈l.map f,p.cells.length=w:=by intro p Y;obtain ⟨a,_,rfl⟩:=Q8.1 Y;exact v a
 apply W7;intro o;rw [nY (by rw [F];omega),F];rcases Qm w with hz | y
 ·subst hz;have L:(PV.ecs (.sl 0 (l.map f)))=[]:=Qg jh;have K:(PV.ecs (.sl 0 ((l.set j u).map f)))=[]:=Qg (by have:=xQ v (l.set j u);omega);rw [if_neg jh,L,K]
 ·by_cases ho:o<l.length*w
  ·have W:w*(o / w)+o % w=o:=Wc o w;have G:o / w*w+o % w=o:=by rw [Qy];exact W
   have hi:o / w<l.length:=W2 (by rw [Qy];exact ho);have Z:o % w<w:=Nat.mod_lt _ y;by_cases T:j*w<=o/\o<j*w+w
   ·rw [if_pos T];have A:o / w=j:=Nat.div_eq_of_lt_le jh (by rw [Qb];omega);have I:o - j*w=o % w:=by rw [A] at G;omega
    have E:o % w<(f u).cells.length:=by rw [v];exact Z
    have:=zAw v (l:=l.set j u) (j:=j) (u:=u) (by simp [h]) (o:=o % w) (q:=(f u).cells[o % w]) jk;rw [A] at G;rw [G] at this;rw [this,I,List.getElem?_map];simp [E]
   ·rw [if_neg T];have U:o / w≠j:=by
     intro e;rw [e] at G;exact T ⟨jh,jh⟩
    have E:o % w<(f l[o / w]).cells.length:=by rw [v];exact Z
    have L:=zAw v (l:=l) (j:=o / w) (u:=l[o / w]) jk (o:=o % w) (q:=(f l[o / w]).cells[o % w]) jk;have K:=zAw v (l:=l.set j u) (j:=o / w) (u:=l[o / w]) (by rw [List.getElem?_set_ne (Ne.symm U)];simp) (o:=o % w) (q:=(f l[o / w]).cells[o % w]) jk;rw [G] at L K;rw [L,K]
  ·rw [if_neg jh,List.getElem?_eq_none jh,List.getElem?_eq_none (by have:=xQ v (l.set j u);rw [List.length_set] at this;omega)]
section
variable {v:AV} 
def ag_p {B:NB} {l:List PV} {z:Value} (h:yT M κ tip B (.ag (l.map AV.p)) z):yT M κ tip B (.p (.agg l)) z:=by
 cases h with
 | ag _ vs h1 h2=>exact .p _ _ (.agg l vs (by simpa using h1) (λj q hq=>by have:=h2 j (.p q) (by simp [hq]);exact repA_pv this))
def VA.agp {o:Oper} {rs:LV} {l:List PV} (h:VA P o s rs bs (.ag (l.map AV.p))):VA P o s rs bs (.p (.agg l)):=
 ⟨λcx M κ tip s' a w hi hr hb=>by obtain ⟨z,h1,h2⟩:=h.1 cx M κ tip s' a w hi hr hb;exact ⟨z,h1,ag_p h2⟩,h.2⟩
def zEg {o:Oper} {ta:TypeId} {n:Nat} (bf:yN P te) (hd:o.dst=none) (ho:o.op=.store t ax x) (ht:te t=some i) (ha:s.get te ta ax=some (.optr k n off)) (hx:s.get te t x=some v) (hp:s.rd v=some (p,bs)) (hb:s.blk k=some (.own wd l)) (hn:n*wd=l.length)
  (hw:p.cells.length=i.w) (hl:off+i.w<=l.length) (V:p.cells.all We=true):SA P o s ⟨opS ax (.optr k n off)++opS x v,(k,.own wd l) :: bs,[],none,[(k,.own wd (uS l off (p.cells.map AV.p)))]⟩:=by
 have hpc:(AV.p p).cells=p.cells.map AV.p:=by cases p<;>rfl
 refine ⟨?_,yK (zO ha) (zO hx),?_,by intro e D;simp at D⟩
 ·intro cx s' a w K Q hm hs hws hk;obtain ⟨M,κ,tip,h0,hpk,hi⟩:=hs;have A:=hm.2.1 (k,.own wd l) jk;simp only at A;have hr:=dS hi hx hp (zY hm.1) (λe D=>hm.2.1 e (by simp [D]));have Y:=yB hi (yJ ha s' (yE hm.1));have hx':yT M κ tip s'.blk (.p p) (a.eval x):=.p _ _ hr;obtain ⟨J,L⟩:=aD hx';rw [hpc] at J L;obtain ⟨g1,g2⟩:=hi.owns.live A hn;generalize hev:a.eval ax=z at Y;cases Y with
  | optr _ _ _ w' l' _ h1 h2 h3 hs=>
   rw [A] at h1;cases h1;obtain ⟨b,S,rfl⟩:=h3 hn;rcases g2 with ⟨_,y2,_⟩ | ⟨b',n1,cap,Z,e1,fz,q1,q2,q3,q4,q5,q6,q7,q8,q9,q10,be⟩
   ·rw [S] at y2;cases y2
   ·rw [S] at q2;cases q2;have hnn:n1=n:=Qi g1 jh;subst hnn;have hfit:n1*wd<=cap*wd:=Q7 _ q8;have hpl:(p.cells.map AV.p).length=i.w:=by simp [hw]
    have T:(a.eval x).cells.toList.length=(p.cells.map AV.p).length:=by simp only [Qk,J]
    have F:=run_storeCells_cells (P:=P) b off (a.eval x).cells.toList 0 w
     (by
       intro j G;rw [T] at G;have:off+j<Z.size:=jh
       simp [Qr,q4,this])
     (by intro j G;rw [T] at G;simp only [Nat.add_zero];exact tZ q4 q5 jh)
     (by
      intro u hu;obtain ⟨j,G,hju⟩:=Qv hu;have bg:j<p.cells.length:=by simp only [Qz] at T;omega
      have I:=L j (.p p.cells[j]) (by simp [bg]);have hjs:j<(a.eval x).cells.size:=by simpa using G
      have:(a.eval x).cells.getD j undef=u:=by simp [hjs];simpa using hju
      rw [this] at I;exact zE5 I ((Qc.1 V) _ (W9 _)))
    unfold Oper.wp;have:(execOp a.eval o).run P w=.ok .skip (w.setCells b off (a.eval x).cells.toList):=by
     simp only [Nat.add_zero] at F;have hcs:¬ ((a.eval x).cells.size≠i.w):=by rw [J,hpl];simp
     simp [execOp,ho,hev,Instr.storeAt,Instr.sureAddr,storeVar,vV bf ht,hcs,F]
    rw [this];show K (a.put o.dst undef) _;rw [hd];refine hk _ _ ?_;rw [aT];obtain ⟨arr',z1,z2,z3⟩:=sO b (a.eval x).cells.toList off w Z e1 fz q4 jh;have hlen:=aV (l:=l) (cs:=p.cells.map AV.p) (off:=off) jh;refine ⟨M,κ,_,h0,hpk,hi.ownSet (n':=n1) A q1 S q3 (by rw [z2];exact q5) z1 (by rw [z2];exact q7) q8 q9 g1 be jh jh q6 ?_⟩;intro j q I;rw [nY jh] at I;rw [Q1,z3 j];by_cases G:off<=j/\j<off+(p.cells.map AV.p).length
    ·rw [if_pos G] at I;rw [if_pos jh];have:=L (j - off) q I;rw [Q1] at this;simpa using this
    ·rw [if_neg G] at I;rw [if_neg jh];have:=q10 j q I;rw [Q1] at this;exact this
 ·intro e D;rcases Q6.1 D with D | D
  ·subst D;exact hb
  ·exact uV v p bs hp e D
end
section
variable [T:pK P] {r:List Oper} {v:AV} 
def RK.xoB {l:By} {i:Int} {n:Nat} (hn:l.length=n) (h:ixN n i=some j) (ht:(T.te t).map (·.ty)=some (.slice e)) (he:T.te e=some ei) (hw:1=ei.w) (hx:s.get T.te t x=some (.own k0 n)) (hb:s.blk k0=some (qO (.bytes l))) (hy:s.get T.te 0 y=some (.p (.int .i64 i)))
  (k:VK P ops r s K d (opS x (.own k0 n)++opS y (.p (.int .i64 i))) [(k0,qO (.bytes l))] (.optr k0 n j)):RK P ops (⟨some d,.indexAddr t x y,ty,pos,af,none⟩:: r) s K:=by
 subst hn;obtain ⟨h0,h1,h2⟩:=zFk h;have:=zMg (P:=P) (o:=⟨some d,.indexAddr t x y,ty,pos,af,none⟩) T.ok rfl ht he hx hb (sM l) hw hy h0 h1;rw [<- h2,<- hw,Nat.mul_one] at this;exact Qt rfl rfl this k
def RK.xoM {S:Type} (f:S->PV) {D:Nat} {l:List S} {i:Int} {n:Nat} (hn:l.length=n) (h:ixN n i=some j) (hf:∀ a,(f a).cells.length=w) (ht:(T.te t).map (·.ty)=some (.slice e)) (he:T.te e=some V) (W:w=V.w) (Z:s.get T.te t x=some (.own D n)) (Y:s.blk D=some (qO (.sl w (l.map f)))) (hy:s.get T.te 0 y=some (.p (.int .i64 i)))
  (k:VK P ops r s K d (opS x (.own D n)++opS y (.p (.int .i64 i))) [(D,qO (.sl w (l.map f)))] (.optr D n (j*w))):RK P ops (⟨some d,.indexAddr t x y,ty,pos,af,none⟩:: r) s K:=by
 subst hn;obtain ⟨h0,h1,h2⟩:=zFk h;have:=zMg (o:=⟨some d,.indexAddr t x y,ty,pos,af,none⟩) T.ok rfl ht he Z Y (xQ hf l) W hy h0 h1;rw [<- h2,<- W] at this;exact Qt rfl rfl this k
def RK.xoK {n:Nat} (i:Nat) (h:Qa i n=true) (ht:(T.te t).map (·.ty)=some (.slice e)) (he:T.te e=some V) (S:w=V.w) (hx:s.get T.te t x=some (.own E n)) (W:s.blk E=some (.own w l)) (hn:Q4 (n*w) l.length=true) (Y:s.get T.te 0 y=some (.p (.int .i64 (i:Nat))))
  (k:VK P ops r s K d (opS x (.own E n)++opS y (.p (.int .i64 (i:Nat)))) [(E,.own w l)] (.optr E n (i*w))):RK P ops (⟨some d,.indexAddr t x y,ty,pos,af,none⟩:: r) s K:=by
 have hi:=Q0 h;have:=zMg (o:=⟨some d,.indexAddr t x y,ty,pos,af,none⟩) T.ok rfl ht he hx W (Q2 hn) S Y jh jh;rw [<- S] at this;exact Qt rfl rfl this k
def RK.lnO {n:Nat} (W:n*w=l.length) (v:((T.te t).map (·.ty),s.get T.te t x,s.blk A)=(some (.slice e),some (.own A n),some (.own w l))) (k:VK P ops r s K d (opS x (.own A n)) [(A,.own w l)] (.p (.int .i64 n))):RK P ops (⟨some d,.call ⟨.builtin .len,#[x],#[t]⟩,ty,pos,af,none⟩:: r) s K:=have ⟨G,v⟩:=pq v;have ⟨L,J⟩:=pq v;Qt rfl rfl (yHe T.ok rfl G L J W) k
def RK.ldoB {l:By} {u:UInt8} {n:Nat} (hn:l.length=n) (h:l[j]? = some u) (ht:T.te t=some i) (hp:i.plain=true) (hx:s.get T.te 0 x=some (.optr k0 n j)) (hb:s.blk k0=some (qO (.bytes l)))
  (k:VK P ops r s K d (opS x (.optr k0 n j)) [(k0,qO (.bytes l))] (.p (.int .u8 u.toNat))):RK P ops (⟨some d,.load t x,ty,pos,af,none⟩:: r) s K:=by
 subst hn;exact Qt rfl rfl (zF2 T.ok rfl ht hp hx hb (sM l) (by simp [PV.ecs,h])) k
def RK.ldoK {D n:Nat} (S:T.te t=some i) (I:i.plain=true) (L:s.get T.te 0 x=some (.optr D n off)) (U:s.blk D=some (.own w l)) (N:Q4 (n*w) l.length=true) (J:l[off]? = some v)
  (k:VK P ops r s K d (opS x (.optr D n off)) [(D,.own w l)] v):RK P ops (⟨some d,.load t x,ty,pos,af,none⟩:: r) s K:=
 Qt rfl rfl (zF2 T.ok rfl S I L U (Q2 N) J) k
def RK.ldo1 {D:Type} (f:D->PV) {l:List D} {u:D} {n:Nat} (S:l.length=n) (h:l[j]? = some u) (E:∀ a,(f a).cells=[f a]) (U:T.te t=some i) (W:i.plain=true) (N:s.get T.te 0 x=some (.optr A n (j*1))) (V:s.blk A=some (qO (.sl 1 (l.map f))))
  (k:VK P ops r s K d (opS x (.optr A n (j*1))) [(A,qO (.sl 1 (l.map f)))] (.p (f u))):RK P ops (⟨some d,.load t x,ty,pos,af,none⟩:: r) s K:=by
 subst S;exact Qt rfl rfl (zF2 T.ok rfl U W N V (xQ (λa=>by rw [E a];rfl) l) (by have:=zAw (λa=>by rw [E a];rfl) h (o:=0) (by rw [E u];rfl);omega)) k
def RK.ldoM (f:α->PV) {l:List α} {u:α} {n:Nat} (hn:l.length=n) (h:l[j]? = some u) (hf:∀ a,(f a).cells.length=w) (hff:∀ a,f a=.agg (f a).cells) (ht:T.te t=some i) (hp:i.isAgg=true) (hw:w=i.w) (hx:s.get T.te 0 x=some (.optr k0 n (j*w))) (hb:s.blk k0=some (qO (.sl w (l.map f))))
  (k:VK P ops r s K d (opS x (.optr k0 n (j*w))) [(k0,qO (.sl w (l.map f)))] (.p (f u))):RK P ops (⟨some d,.load t x,ty,pos,af,none⟩:: r) s K:=by
 subst hn;have hlt:j<l.length:=(List.getElem?_eq_some_iff.1 h).1;have hjw:(j+1)*w<=l.length*w:=Q7 _ hlt;rw [Qb] at hjw;have hlen:=xQ hf l;have:=zU2 (P:=P) (o:=⟨some d,.load t x,ty,pos,af,none⟩) T.ok rfl ht hp hx hb (xQ hf l) jh;rw [<- hw,zVd hf h] at this;have h2:=VA.agp this;rw [<- hff u] at h2;exact Qt rfl rfl h2 k
def zQk {l:By} (u:UInt8) (h:j<l.length):uS (PV.ecs (.bytes l)) j ([PV.int .u8 u.toNat].map AV.p)=PV.ecs (.bytes (l.set j u)):=by
 simp only [PV.ecs,Qf,List.map_nil];rw [zC2 (by simpa using h),List.map_set]
def RK.stoB {l l':By} {u:UInt8} {n:Nat} (hn:l.length=n) (h:wY l j u=some l') (ht:T.te t=some i) (hw:i.w=1) (ha:s.get T.te 0 ax=some (.optr k0 n j)) (hx:s.get T.te t x=some (.p (.int .u8 u.toNat))) (hb:s.blk k0=some (qO (.bytes l)))
  (k:RK P ops r (s.setb k0 (qO (.bytes l'))) λs' ms=>K s' (⟨opS ax (.optr k0 n j)++opS x (.p (.int .u8 u.toNat)),[(k0,qO (.bytes l))],[],none,[(k0,qO (.bytes l'))]⟩:: ms)):RK P ops (⟨none,.store t ax x,ty,pos,af,none⟩:: r) s K:=by
 subst hn;obtain ⟨h1,h2⟩:=eR h;have hlen:=sM l;have:=zEg (P:=P) (o:=⟨none,.store t ax x,ty,pos,af,none⟩) T.ok rfl rfl ht ha hx rfl hb (sM l) (by simp [PV.cells,hw]) jh rfl;have e:uS (PV.ecs (.bytes l)) j ((PV.int .u8 (u.toNat:Int)).cells.map AV.p)=PV.ecs (.bytes l'):=by rw [h2];exact zQk u h1
 rw [e] at this;exact RK.so rfl this k
def RK.stoM {J:Type} (f:J->PV) {G:Operand} {D:Nat} {l l':List J} {u:J} {n:Nat} (hn:l.length=n) (h:wY l j u=some l') (I:∀ a,(f a).cells.length=w) (E:∀ a,(f a).cells.all We=true) (ht:T.te t=some i) (hw:w=i.w) (ha:s.get T.te 0 G=some (.optr D n (j*w))) (hx:s.get T.te t x=some v) (hp:s.rd v=some (f u,bs)) (Z:s.blk D=some (qO (.sl w (l.map f))))
  (k:RK P ops r (s.setb D (qO (.sl w (l'.map f)))) λs' ms=>K s' (⟨opS G (.optr D n (j*w))++opS x v,(D,qO (.sl w (l.map f))) :: bs,[],none,[(D,qO (.sl w (l'.map f)))]⟩:: ms)):RK P ops (⟨none,.store t G x,ty,pos,af,none⟩:: r) s K:=by
 subst hn;obtain ⟨V,h2⟩:=eR h;have U:(j+1)*w<=l.length*w:=Q7 _ V;rw [Qb] at U;have W:=xQ I l;have:=zEg (o:=⟨none,.store t G x,ty,pos,af,none⟩) T.ok rfl rfl ht ha hx hp Z (xQ I l) jm jh (E u);rw [zNw I u V,<- h2] at this;exact RK.so rfl this k
def zYf (l:By):(PV.ecs (.bytes l)).all AV.one=true:=by simp [PV.ecs,AV.one,We]
def zNe {A:Type} {f:A->PV} {w:Nat} (d:∀ a,(f a).cells.all We=true):∀ (l:List A),(PV.ecs (.sl w (l.map f))).all AV.one=true
 | []=>rfl
 | a :: r=>by
  have:=zNe d r (w:=w);simp only [PV.ecs,Qf,flatCells,Wf,List.all_append,Qd] at this ⊢;refine ⟨?_,this⟩;have D:=d a;simp only [Qc,Q8] at D ⊢;rintro q ⟨p,F,rfl⟩;exact D p F
def RK.aoB {N:TypeId} {S:AV} {b:Nat} {l m u:By} {n:Nat} (hn:l.length=n) (h:yM b l m=some u) (ht:(T.te t).map (·.ty)=some (.slice e)) (he:T.te e=some G) (Z:(T.te N).map (·.ty)=some (.slice W)) (hx:s.get T.te t x=some (.own F n)) (hk:s.blk F=some (qO (.bytes l))) (E:1=G.w) (hz:G.z.length=G.w) (hy:s.get T.te N y=some S) (hp:s.rd S=some (.bytes m,bs)) (hb:G.b=b) (V:Qa 0 b=true)
  (k:BK P ops r s K d (opS x (.own F n)++opS y S) ((F,qO (.bytes l)) :: bs) [] F (qO (.bytes u)) (.own F u.length)):RK P ops (⟨some d,.call ⟨.builtin .append,#[x,y],#[t,N]⟩,ty,pos,af,none⟩:: r) s K:=by
 subst hn;obtain ⟨hu,U⟩:=kN h;subst hb;have br:=Q0 V;have:=zL1 (o:=⟨some d,.call _,ty,pos,af,none⟩) T.ok rfl rfl ht he (yV T.ok Z) (.inr ⟨_,rfl⟩) hx hk (sM l) E hz hy (uV S _ bs hp) (zF3 hy hp rfl E jh) (by rw [<- E];exact (sM m).symm) (zYf m) (by assumption) jh;have e1:PV.ecs (.bytes l)++PV.ecs (.bytes m)=PV.ecs (.bytes u):=by rw [hu];simp [PV.ecs]
 have W:l.length+(Qn (.bytes m)).len=u.length:=by rw [hu];simp [Qn,Qh]
 rw [e1,W] at this;exact W3 rfl this k
def RK.aoM (f:α->PV) {L:TI} {W:AV} {b:Nat} {J:Nat} {l m u:List α} {n:Nat} (hn:l.length=n) (h:yM b l m=some u) (hf:∀ a,(f a).cells.length=w) (V:∀ a,(f a).cells.all We=true) (ht:(T.te t).map (·.ty)=some (.slice e)) (he:T.te e=some L) (bf:(T.te Y).map (·.ty)=some (.slice e2)) (hx:s.get T.te t x=some (.own J n)) (hk:s.blk J=some (qO (.sl w (l.map f)))) (G:w=L.w) (bg:Qa 0 w=true) (hz:L.z.length=L.w) (hy:s.get T.te Y y=some W) (hp:s.rd W=some (.sl w (m.map f),bs)) (hb:L.b=b) (Z:Qa 0 b=true)
  (k:BK P ops r s K d (opS x (.own J n)++opS y W) ((J,qO (.sl w (l.map f))) :: bs) [] J (qO (.sl w (u.map f))) (.own J u.length)):RK P ops (⟨some d,.call ⟨.builtin .append,#[x,y],#[t,Y]⟩,ty,pos,af,none⟩:: r) s K:=by
 subst hn;obtain ⟨hu,bd⟩:=kN h;subst hb;have bn:=Q0 Z;have cb:=Q0 bg;have:=zL1 (o:=⟨some d,.call _,ty,pos,af,none⟩) T.ok rfl rfl ht he (yV T.ok bf) (.inr ⟨_,rfl⟩) hx hk (xQ hf l) G hz hy (uV W _ bs hp) (zF3 hy hp rfl G jh) (by rw [<- G];simp only [Qn,Qh,Qz];exact (xQ hf m).symm) (zNe V m) (by simpa [Qn,Qh] using bd) jh;have e1:PV.ecs (.sl w (l.map f))++PV.ecs (.sl w (m.map f))=PV.ecs (.sl w (u.map f)):=by rw [hu];simp [PV.ecs,hH]
 have e2:l.length+(Qn (.sl w (m.map f))).len=u.length:=by rw [hu];simp [Qn,Qh]
 rw [e1,e2] at this;exact W3 rfl this k
def RK.aoR {N:TI} {b G W n:Nat} (ht:(T.te t).map (·.ty)=some (.slice e)) (V:T.te e=some N) (bf:(T.te Y).map (·.ty)=some (.slice e2)) (hx:s.get T.te t x=some (.own G n)) (hk:s.blk G=some (.own w l)) (hn:Q4 (n*w) l.length=true) (F:w=N.w) (hz:N.z.length=N.w) (hy:s.get T.te Y y=some (.ref W 0 m)) (bh:s.blk W=some (.var I)) (hm:Q4 I.length (m*w)=true) (L:I.all AV.one=true) (hb:N.b=b) (ba:Qa 0 b=true) (Z:Qj ((n+m)*b) 140737488355328=true)
  (k:BK P ops r s K d (opS x (.own G n)++opS y (.ref W 0 m)) [(G,.own w l),(W,.var I)] [] G (.own w (l++I)) (.own G (n+m))):RK P ops (⟨some d,.call ⟨.builtin .append,#[x,y],#[t,Y]⟩,ty,pos,af,none⟩:: r) s K:=by
 subst hb;have bk:=Q0 ba;have U:=Q2 hm;exact W3 rfl (zL1 T.ok rfl rfl ht V (yV T.ok bf) (.inr ⟨_,rfl⟩) hx hk (Q2 hn) F hz hy jm (by rw [<- F];exact zOb hy U) jm L (yZ Z) jh) k
def RK.anB {I:TI} {b:Nat} {m u:By} (h:yM b [] m=some u) (ht:(T.te t).map (·.ty)=some (.slice e)) (he:T.te e=some I) (W:(T.te J).map (·.ty)=some (.slice e2)) (hx:s.get T.te t x=some (.nl c)) (F:1=I.w) (hz:I.z.length=I.w) (hy:s.get T.te J y=some L) (Z:s.rd L=some (.bytes m,bs)) (hb:I.b=b) (U:Qa 0 b=true) (hk:s.blk d=none)
  (k:BK P ops r s K d (opS x (.nl c)++opS y L) bs [d] d (qO (.bytes u)) (.own d u.length)):RK P ops (⟨some d,.call ⟨.builtin .append,#[x,y],#[t,J]⟩,ty,pos,af,none⟩:: r) s K:=by
 obtain ⟨hu,N⟩:=kN h;subst hu;subst hb;have bk:=Q0 U;have:=zN2 (o:=⟨some d,.call _,ty,pos,af,none⟩) T.ok rfl rfl ht he (yV T.ok W) (.inr ⟨_,rfl⟩) hx jh hz hy (uV L _ bs Z) (zF3 hy Z rfl F jh) (by rw [<- F];exact (sM u).symm) (by simpa [Qn,Qh] using N) jh hk;rw [<- F] at this;exact W3 rfl this k
def RK.anR {b L:Nat} {S:List AV} (ht:(T.te t).map (·.ty)=some (.slice e)) (V:T.te e=some G) (ba:(T.te U).map (·.ty)=some (.slice e2)) (hx:s.get T.te t x=some (.nl c)) (F:w=G.w) (be:Qa 0 w=true) (hz:G.z.length=G.w) (hy:s.get T.te U y=some (.ref L 0 m)) (bf:s.blk L=some (.var S)) (hm:Q4 S.length (m*w)=true) (hb:G.b=b) (bd:Qa 0 b=true) (W:Qj (m*b) 140737488355328=true) (hk:s.blk d=none)
  (k:BK P ops r s K d (opS x (.nl c)++opS y (.ref L 0 m)) [(L,.var S)] [d] d (.own w S) (.own d m)):RK P ops (⟨some d,.call ⟨.builtin .append,#[x,y],#[t,U]⟩,ty,pos,af,none⟩:: r) s K:=by
 subst hb;have bv:=Q0 bd;have bt:=Q0 be;have J:=Q2 hm;have:=zN2 (bs:=[(L,.var S)]) (o:=⟨some d,.call _,ty,pos,af,none⟩) T.ok rfl rfl ht V (yV T.ok ba) (.inr ⟨_,rfl⟩) hx jh hz hy jm (by rw [<- F];exact zOb hy J) jm (yZ W) jh hk;rw [<- F] at this;exact W3 rfl this k
def RK.clO {xs:Array Operand} {ts:Array TypeId} {xl:List Operand} {ps:List PV} {rs:LV} {blks blks':LB} (h:Ok P f na (mkS (argE 0 ps) []) (mkS [(0,av)] blks)) (hB:bR (sh d) blks=blks') (hxl0:(xs.toList,ts.toList)=(xl,tl)) (ha:lH s T.te xl tl ps rs bb) (hn0:(Q4 na ps.length,(kR (sh d) blks).all (λk=>(s.blk k).isNone))=(true,true))
  (k:RK P ops r (Wh ⟨rs,bb,kR (sh d) blks,some (d,some (av.ren (sh d))),blks'⟩ s) λs' ms=>K s' (⟨rs,bb,kR (sh d) blks,some (d,some (av.ren (sh d))),blks'⟩:: ms)):RK P ops (⟨some d,.call ⟨.value (.func f),xs,ts⟩,ty,pos,af,none⟩:: r) s K:=have ⟨hxl,htl⟩:=pq hxl0;have ⟨hn,hf⟩:=pq hn0;by
 subst hB;subst hxl htl;exact RK.cl h rfl ha (by rw [hn,hf]) k
def RK.lo {n:Nat} {pa:Array (Nat×Operand)} {vs rs:LV} (hpl:pa.toList=pl) (ht:(T.te t).map (·.ty)=some (.slice e)) (he:T.te e=some ei) (hw:ei.w=w) (hw0:Qa 0 w=true) (hz:ei.z.length=ei.w) (hn:Qj (n*ei.w) 16777216=true) (hp:nD s T.te pl vs rs) (hf:nE (λj=>some (j*ei.w,ei.w)) (qJ ei.z n) vs=some l) (hln:Q4 (n*ei.w) l.length=true) (hk:s.blk d=none)
  (k:BK P ops r s K d rs [] [d] d (.own w l) (.own d n)):RK P ops (⟨some d,.buildSlice t n pa,ty,pos,af,none⟩:: r) s K:=by
 subst hw;have hw2:=Q0 hw0;exact W3 rfl (zS9 T.ok rfl rfl hpl ht he hz jh (yZ hn) hp hf (Q2 hln) hk) k
end
def fxB (k:Nat) (u:By) {n:Nat} (hn:u.length=n) (hb:lk blk k=some (qO (.bytes u))) (h1:qE k n env=true) (h2:sE k n blk=true) (he:fyE k u.length env=env') (hbb:zEx k u.length (.bytes u) blk=blk') (hbig:Qa k BIG=true:=by rfl):Imp cx.pk (mkS env blk) (mkS env' blk'):=
 Imp.freezeO k hb (by rw [<- hn];exact sM u) (yFh u) (zBw u) hn hn h1 h2 he hbb hbig
def fxM (k:Nat) (f:α->PV) (w:Nat) (u:List α) (hf:∀ a,(f a).cells.length=w) {n:Nat} (hn:u.length=n) (hb:lk blk k=some (qO (.sl w (u.map f)))) (h1:qE k n env=true) (h2:sE k n blk=true) (he:fyE k u.length env=env') (hbb:zEx k u.length (.sl w (u.map f)) blk=blk') (hbig:Qa k BIG=true:=by rfl):Imp cx.pk (mkS env blk) (mkS env' blk'):=
 Imp.freezeO k hb (by rw [<- hn];exact xQ hf u) (yIo (u.map f)) (yFi u hf) (by simp [Qh,hn]) hn h1 h2 he hbb hbig
def fxK (k:Nat) (f:α->PV) (u:List α) (hf:∀ a,(f a).cells=[f a]) (hb:lk blk k=some (.own 1 l)) {n:Nat} (hn:u.length=n) (hl:l.length=n) (hrd:(mkS env blk).rdL l=some (u.map f,bs)) (h1:qE k n env=true) (h2:sE k n blk=true) (he:fyE k u.length env=env') (hbb:zEx k u.length (.sl 1 (u.map f)) blk=blk') (hbig:Qa k BIG=true:=by rfl):Imp cx.pk (mkS env blk) (mkS env' blk'):=
 Imp.freezeO k hb jh hrd (zHz hf u) (by simp [Qh,hn]) hn h1 h2 he hbb hbig
def uG (a b:Nat):Q4 a b=decide (a=b):=by
 cases h:Q4 a b with
 | true=>simp_all
 | false=>symm;simp only [decide_eq_false_iff_not];rintro rfl;simp_all
def Imp.ofEq {d:PKs} (h:s=s'):Imp d s s':=by subst h;exact λ_ _ _ _ h=>h
def qF {v:Type} {l l':List v} {n:Nat} {u:v} (h:wY l j u=some l') (y:l.length=n):l'.length=n:=by
 obtain ⟨_,A⟩:=eR h;simp_all
def oE {B:NB} :oJ B c.ecs=true:=by
 cases c<;>first | rfl | (exact zEn _ _)
def uA {n:Nat} :wC k n c.ecs=true:=by
 cases c<;>first | rfl | (exact vO _ _)
def yJu:fzL k m c.ecs=c.ecs:=by
 cases c<;>first | rfl | (exact zSn _ _)
def jL {y:Nat->Nat} :qN y c.ecs=c.ecs:=by
 have h:∀ {d:Type} (f:d->PV) (l:List d),qN y (l.map λx=>AV.p (f x))=l.map λx=>AV.p (f x):=by
  intro d f l;induction l with
  | nil=>rfl
  | cons x r D=>simp only [Qf,qN,AV.ren,D]
 cases c<;>first | rfl | (exact h _ _)
def zHu (P:Program) (cx:Ctx) (body:Code) (Q:Exit->AS->Prop):Nat->AS->Prop
 | 0,_=>False
 | n+1,s=>awp P cx body (zSw (zHu P cx body Q n) Q) s
def ar {d:Code} {n:Nat} (h:awp P cx d (zSw (zHu P cx d Q n) Q) s):zHu P cx d Q (n+1) s:=h
def zEf {d:Code} (n:Nat) (h:zHu P cx d Q n s):awp P cx (.loop d) Q s:=by
 intro a w J;refine wp_loop_rounds n ?_;induction n generalizing s a w with
 | zero=>assumption
 | succ n G=>
  refine wp_mono (h a w J) ?_;rintro e I w' ⟨s',E,y⟩;cases e with
  | normal=>exact G y I w' E
  | _=>exact ⟨s',E,y⟩
section
variable {o:Oper} {v:AV} 
end
section
variable [T:pK P] {r:List Oper} {v:AV} 
end
abbrev GO:=Option (Nat×Nat×List PV)
variable {O:GO}
def oV:GO->LB
 | none=>[]
 | some (_,wd,cs)=>[(BIG,.own wd (cs.map .p))]
def oI:GO->LB
 | none=>[]
 | some (k,wd,cs)=>[(k,.own wd (cs.map .p))]
def zIr:ABlk:=.own 0 [.p (.tup [])]
def oD:GO->LB
 | none=>[]
 | some (k,_,_)=>[(k,zIr)]
def kill (s:AS):GO->AS
 | none=>s
 | some (k,_,_)=>s.setb k zIr
inductive GV0 (O:GO) (s:AS) (ρ:Nat->Nat) (D:List Nat):AV->AV->LB->Prop where
 | p {v:AV} {q:PV} {bs:LB}:s.rd v=some (q,bs)->GV0 O s ρ D v (.p q) bs
 | ptr {k j o:Nat}:ρ j=k->j∈D->GV0 O s ρ D (.ptr k o) (.ptr j o) []
 | ref {k j o n:Nat}:ρ j=k->j∈D->GV0 O s ρ D (.ref k o n) (.ref j o n) []
 | own {k n wd:Nat} {cs:List PV}:O=some (k,wd,cs)->GV0 O s ρ D (.own k n) (.own BIG n) []
inductive GVs (O:GO) (s:AS) (ρ:Nat->Nat) (D:List Nat):List AV->List AV->LB->Prop where
 | nil:GVs O s ρ D [] [] []
 | cons {v u:AV} {vs us:List AV} {b bs:LB}:GV0 O s ρ D v u b->GVs O s ρ D vs us bs->GVs O s ρ D (v :: vs) (u :: us) (b++bs)
inductive GV (O:GO) (s:AS) (ρ:Nat->Nat) (D:List Nat):AV->AV->LB->Prop where
 | f {v u:AV} {b:LB}:GV0 O s ρ D v u b->GV O s ρ D v u b
 | ag {l us:List AV} {b:LB}:GVs O s ρ D l us b->GV O s ρ D (.ag l) (.ag us) b
inductive GA (O:GO) (s:AS) (te:TE) (ρ:Nat->Nat) (D:List Nat):List Operand->List TypeId->List AV->LV->LB->Prop where
 | nil:GA O s te ρ D [] [] [] [] []
 | cons {x:Operand} {t:TypeId} {v u:AV} {xs:List Operand} {ts:List TypeId} {us:List AV} {rs:LV} {b bs:LB}:s.get te t x=some v->GV O s ρ D v u b->GA O s te ρ D xs ts us rs bs->GA O s te ρ D (x :: xs) (t :: ts) (u :: us) (opS x v++rs) (b++bs)
inductive GB (O:GO) (s:AS) (ρ:Nat->Nat) (D:List Nat):List (Nat×List AV)->LB->Prop where
 | nil:GB O s ρ D [] []
 | cons {j:Nat} {us as:List AV} {b bs:LB} {r:List (Nat×List AV)}:s.blk (ρ j)=some (.var as)->GVs O s ρ D as us b->GB O s ρ D r bs->GB O s ρ D ((j,us) :: r) ((ρ j,.var as) :: (b++bs))
def bV:List (Nat×List AV)->LB
 | []=>[]
 | (j,us) :: r=>(j,.var us) :: bV r
def zKe (i:Nat):List AV->LV
 | []=>[]
 | v :: r=>(i,v) :: zKe (i+1) r
def zM7:∀ (l:List AV) (i t:Nat) (v:AV),lk (zKe i l) t=some v->i<=t/\l[t - i]? = some v
 | [],i,t,v,h=>by simp [zKe,lk] at h
 | p :: r,i,t,v,h=>by
  simp only [zKe,lk] at h;cases D:Q4 t i with
  | true=>
   simp_all
  | false=>
   simp [D] at h;obtain ⟨G,F⟩:=zM7 r _ t v h;refine ⟨jh,?_⟩;have:t - i=(t - (i+1))+1:=jh
   simp_all
def zLw:∀ (B:List (Nat×List AV)),(bV B).map (·.1)=B.map (·.1)
 | []=>rfl
 | (j,v) :: r=>by simp [bV,zLw r]
def zHt:∀ {B:List (Nat×List AV)} {j:Nat},j∈B.map (·.1)->∃ y,lk (bV B) j=some (.var y)
 | [],j,h=>by simp_all
 | (i,y) :: r,j,h=>by
  simp only [bV,lk];cases F:Q4 j i with
  | true=>simp
  | false=>
   simp only [Qf,Q6] at h;rcases h with h | h
   ·simp_all
   ·exact zHt h
def zGr:∀ {B:List (Nat×List AV)} {j:Nat} {b:ABlk},lk (bV B) j=some b->j∈B.map (·.1)/\∃ A,b=.var A
 | [],j,b,h=>by simp [bV,lk] at h
 | (i,A) :: r,j,b,h=>by
  simp only [bV,lk] at h;cases v:Q4 j i with
  | true=>simp [v] at h;exact ⟨jm,A,h.symm⟩
  | false=>
   simp [v] at h;obtain ⟨I,G⟩:=zGr h;simp_all
section
def GV0.blks {v:AV} {b:LB} (h:GV0 O s ρ D v u b):∀ e∈b,s.blk e.1=some e.2:=by
 cases h with
 | p h=>exact uV _ _ _ h
 | ptr _ _=>simp
 | ref _ _=>simp
 | own _=>simp
def GVs.blks {A G:List AV} {b:LB} (h:GVs O s ρ D A G b):∀ e∈b,s.blk e.1=some e.2:=by
 induction h with
 | nil=>simp
 | cons h _ F=>exact λe I=>(Q9.1 I).elim (h.blks e) (F e)
def GVs.get {A F:List AV} {b:LB} (h:GVs O s ρ D A F b):A.length=F.length/\∀ (j:Nat) (u:AV),F[j]? = some u->∃ v b',A[j]? = some v/\GV0 O s ρ D v u b'/\∀ e∈b',e∈b:=by
 induction h with
 | nil=>simp
 | cons h _ I=>
  refine ⟨by simp [I.1],λj u E=>?_⟩;cases j with
  | zero=>simp at E;subst E;exact ⟨_,_,rfl,h,λe y=>Q9.2 (.inl y)⟩
  | succ j=>
   obtain ⟨v,b',W,V,T⟩:=I.2 j u jm;exact ⟨v,b',jm,V,λe y=>Q9.2 (.inr (T e y))⟩
def GV.blks {v:AV} {b:LB} (h:GV O s ρ D v u b):∀ e∈b,s.blk e.1=some e.2:=by
 cases h with
 | f h=>exact h.blks
 | ag h=>exact h.blks
def GB.blks {b:LB} (h:GB O s ρ D B b):∀ e∈b,s.blk e.1=some e.2:=by
 induction h with
 | nil=>simp
 | cons h g _ E=>
  intro e d;simp only [Q6,Q9] at d;rcases d with rfl | d | d
  ·exact h
  ·exact g.blks e d
  ·exact E e d
def GB.get {b:LB} (h:GB O s ρ D B b):∀ {j:Nat} {v:List AV},lk (bV B) j=some (.var v)->∃ as b',(ρ j,ABlk.var as)∈b/\GVs O s ρ D as v b'/\∀ e∈b',e∈b:=by
 induction h with
 | nil=>intro j v h;simp [bV,lk] at h
 | @cons i v as b bs r h g _ W=>
  intro j T d;simp only [bV,lk] at d;cases K:Q4 j i with
  | true=>
   have:=Q2 K;subst this;simp at d;subst d;exact ⟨as,b,jk,g,λe E=>by simp [E]⟩
  | false=>
   simp [K] at d;obtain ⟨A,b',L,U,N⟩:=W d;exact ⟨A,b',by simp [L],U,λe E=>jm⟩
def GA.reads {G:List TypeId} {F:LV} {b:LB} (h:GA O s te ρ D xs G I F b):wH s F/\∀ e∈b,s.blk e.1=some e.2:=by
 induction h with
 | nil=>exact ⟨by intro e d;simp_all,jk⟩
 | cons h g _ A=>exact ⟨yK (zO h) A.1,λe d=>(Q9.1 d).elim (g.blks e) (A.2 e)⟩
def GV0.rep {v:AV} {b:LB} (h:GV0 O s ρ D v u b) (hb:∀ e∈b,s'.blk e.1=some e.2) (hκ:∀ j∈D,κ' j=κ (ρ j)) (hD:∀ j∈D,∃ us,lk bl j=some (.var us))
  (hO:∀ k wd cs,O=some (k,wd,cs)->s'.blk k=some (.own wd (cs.map .p))/\lk bl BIG=some (.own wd (cs.map .p))/\tip' BIG=tip k) {x:Value} (hr:yT M κ tip s'.blk v x):yT M κ' tip' (lk bl) u x:=by
 cases h with
 | p h=>exact .p _ _ (zGg hr (zLm _ _ _ h hb))
 | @ptr k j o h1 h2=>
  cases hr with
  | ptr _ _ b' l g1 g2=>
   obtain ⟨us,hus⟩:=hD j h2;exact .ptr j o b' us (by rw [hκ j h2,h1];exact g1) hus
 | @ref k j o n h1 h2=>
  cases hr with
  | ref _ _ _ b' l g1 g2=>
   obtain ⟨us,hus⟩:=hD j h2;exact .ref j o n b' us (by rw [hκ j h2,h1];exact g1) hus
 | @own k n wd cs h1=>
  obtain ⟨o1,o2,o3⟩:=hO k wd cs h1;cases hr with
  | own _ _ w' l' _ g1 g2 g3 g4=>
   rw [o1] at g1;cases g1;exact .own BIG n _ _ x o2 g2 (λe=>by rw [o3];exact g3 e) g4
def GV.rep {v:AV} {b:LB} (h:GV O s ρ D v u b) (hb:∀ e∈b,s'.blk e.1=some e.2) (hκ:∀ j∈D,κ' j=κ (ρ j)) (hD:∀ j∈D,∃ us,lk bl j=some (.var us))
  (hO:∀ k wd cs,O=some (k,wd,cs)->s'.blk k=some (.own wd (cs.map .p))/\lk bl BIG=some (.own wd (cs.map .p))/\tip' BIG=tip k) {x:Value} (hr:yT M κ tip s'.blk v x):yT M κ' tip' (lk bl) u x:=by
 cases h with
 | f h=>exact h.rep hb hκ hD hO hr
 | ag h=>
  cases hr with
  | ag _ vs h1 h2=>
   obtain ⟨g1,g2⟩:=h.get;refine .ag _ vs jh (λj q hq=>?_);obtain ⟨v',b',r1,r2,r3⟩:=g2 j q hq;exact r2.rep (λe he=>hb e (r3 e he)) hκ hD hO (h2 j v' r1)
def GR (O:GO) (s:AS) (ρ:Nat->Nat) (D:List Nat) (bb:LB) (M:Mem) (κ:Nat->Option Nat) (tip:Nat->Value) (B:NB) (us:List AV) (args:Array Value):Prop:=
 args.size=us.length/\∀ (j:Nat) (u:AV),us[j]? = some u->∃ v b,GV O s ρ D v u b/\(∀ e∈b,e∈bb)/\yT M κ tip B v (args.getD j undef)
def GA.rep {rs:LV} {b:LB} (h:GA O s te ρ D xs ts us rs b) {w:World} (hi:Inv cx M κ tip s' a w):wH s' rs ->
  xs.length=us.length/\∀ (j:Nat) (u:AV),us[j]? = some u->∃ v b',GV O s ρ D v u b'/\(∀ e∈b',e∈b)/\yT M κ tip s'.blk v (((xs.map a.eval)[j]?).getD undef):=by
 induction h with
 | nil=>intro _;exact ⟨rfl,jk⟩
 | cons h g _ ih=>
  intro hr;obtain ⟨e1,e2⟩:=ih (zY hr);refine ⟨by simp [e1],λj u hu=>?_⟩;cases j with
  | zero=>simp at hu;subst hu;exact ⟨_,_,g,λe he=>Q9.2 (.inl he),by simpa using yB hi (yJ h s' (yE hr))⟩
  | succ j=>
   obtain ⟨v,b',h1,h2,h3⟩:=e2 j u (by simpa using hu);exact ⟨v,b',h1,λe he=>Q9.2 (.inr (h2 e he)),by simpa using h3⟩
end
section
def Inv.kill {G:Nat->Option Nat} {w:World} (y:Inv cx M G tip s a w) (hb:s.blk k=some (.own wd l)):Inv cx M (kF G k none) tip (s.setb k zIr) a w:=by
 have Y:GLe G (kF G k none) tip tip s.blk (s.setb k zIr).blk:={
  var:=λi b l h h'=>by
   have e:i≠k:=by rintro rfl;rw [hb] at h';cases h'
   rw [zW e,zN e];exact ⟨h,l,h'⟩
  buf:=λi c1 h=>by
   have e:i≠k:=by rintro rfl;rw [hb] at h;cases h
   exact GLe.same (by rw [zN e];exact h) rfl
  own:=λi w1 l1 h=>by
   by_cases e:i=k
   ·subst e;exact ⟨0,_,zU _ _ _,.inr ⟨rfl,jk⟩⟩
   ·exact GLe.sameO (by rw [zN e];exact h) (zW e) rfl }
 have A:∀ {v:AV} {x:Value},yT M G tip s.blk v x->yT M (kF G k none) tip (s.setb k zIr).blk v x:=λh=>h.ghost Y;exact {
  defers:=y.defers
  size:=y.size
  fr:=y.fr
  mem:=y.mem
  env:=λt v h=>let ⟨x,D,F⟩:=y.env t v h;⟨x,D,A F⟩
  vars:=λi l h=>by
   have d:i≠k:=by rintro rfl;rw [zU] at h;cases h
   rw [zN d] at h;obtain ⟨b,K,L,Z,D,F,h3,h4,h5,h6,h7⟩:=y.vars i l h;exact ⟨b,K,L,Z,by rw [zW d];exact D,F,h3,h4,λj q W=>A (h5 j q W),h6,h7⟩
  bufs:=λi c1 h=>by
   have d:i≠k:=by rintro rfl;rw [zU] at h;cases h
   rw [zN d] at h;rw [zW d];exact y.bufs i c1 h
  inj:=λi i' b D F=>by
   have L:i≠k:=by rintro rfl;rw [xO] at D;cases D
   have e2:i'≠k:=by rintro rfl;rw [xO] at F;cases F
   rw [zW L] at D;rw [zW e2] at F;exact y.inj i i' b D F
  dom:=λi h=>by
   by_cases d:i=k
   ·subst d;exact xO ..
   ·rw [zN d] at h;rw [zW d];exact y.dom i h
  glob:=y.glob
  old:=y.old
  owns:=λi w1 l1 h=>by
   by_cases d:i=k
   ·subst d;rw [zU] at h;cases h;exact .inl ⟨rfl,xO ..,rfl⟩
   ·rw [zN d] at h;rw [zW d];rcases y.owns i w1 l1 h with g0 | ⟨g1,g2⟩
    ·exact .inl g0
    refine .inr ⟨g1,?_⟩;rcases g2 with g2 | ⟨b,n1,I,N,L,be,q1,q2,q3,q4,q5,q6,q7,q8,q9,ba,V⟩
    ·exact .inl g2
    ·exact .inr ⟨b,n1,I,N,L,be,q1,q2,q3,q4,q5,q6,q7,q8,q9,λj q W=>A (ba j q W),V⟩}
def zI3 (a b:LB) (k:Nat):lk (a++b) k=(lk a k).or (lk b k):=by
 induction a with
 | nil=>rfl
 | cons e a y=>
  obtain ⟨i,x⟩:=e;simp only [Wb,lk];cases Q4 k i with
  | true=>rfl
  | false=>simp_all
def yAx (s:AS) (A:Nat->Nat) (h:LB) (O:GO) (d:Nat) (v:AV) (G:LV) (bb:LB) (fr:List Nat):Wh ⟨G,bb,fr,some (d,some v),(h.map λe=>(A e.1,e.2.ren A))++oD O⟩ s=(inS (kill s O) A h).put d v:=by
 have:Wh ⟨G,bb,fr,some (d,some v),(h.map λe=>(A e.1,e.2.ren A))++oD O⟩ s=({ s with blk:=λk=>(lk _ k).or _ }).put d v:=rfl;rw [this];congr 1;unfold inS;cases O with
 | none=>simp [oD,kill]
 | some o=>
  obtain ⟨k,wd,cs⟩:=o;simp only [oD,kill,AS.setb];congr 1;funext i;rw [zI3];simp only [lk];cases Q4 i k<;>simp [Option.or_assoc]
theorem yO2 {N:Nat->Option Nat} {w:World} {G:Nat->Nat} {A:LB} 
  (hp:∀ k∈cx.pk,N k.1=some k.2/\k.2<cx.w0.heap.size) (V:Inv cx M N tip s' a w) (hb':∀ e∈bb,s'.blk e.1=some e.2) (hfr:∀ k∈fr,s'.blk k=none) (hg:GR O s G (B.map (·.1)) bb M N tip s'.blk us args) (hB:GB O s G (B.map (·.1)) B bB) (hsub:∀ e∈bB,e∈bb) (hsubO:∀ e∈oI O,e∈bb)
  (hinj:∀ j∈A.map (·.1),∀ j'∈A.map (·.1),G j=G j'->j=j') (hout:∀ j∈B.map (·.1),∃ l',lk A j=some (.var l')) (hnew:∀ j∈A.map (·.1),j∈B.map (·.1)∨G j∈fr) (hDb:∀ j∈B.map (·.1),j<BIG) (hbg:∀ o,O=some o->o.1<BIG∨∀ j∈A.map (·.1),BIG<=j->BIG<=G j) :
  ∃ pk F S,Inv ⟨w,M,pk,us.length,[]⟩ M F S (mkS (zKe 0 us) (bV B++oV O)) ⟨args,[]⟩ w/\(∀ k∈pk,F k.1=some k.2/\k.2<w.heap.size) /\
   ∀ v w',SRel ⟨w,M,pk,1,[]⟩ (mkS [(0,av)] A) ⟨#[v],[]⟩ w'->∃ M' κ2 tip2,M.le M'/\(∀ k∈cx.pk,κ2 k.1=some k.2/\k.2<cx.w0.heap.size)/\Inv cx M' κ2 tip2 (inS (kill s' O) G A) a w'/\yT M' κ2 tip2 (inS (kill s' O) G A).blk (av.ren G) v:=by
 obtain ⟨hsz,hargs⟩:=hg;generalize hD:B.map (·.1)=D at *;have lkmem:∀ j b,lk A j=some b->j∈A.map (·.1):=λj b h=>Q8.2 ⟨(j,b),tG A j b h,rfl⟩;have hDout:∀ j∈D,j∈A.map (·.1):=λj I=>let ⟨l',h⟩:=hout j I;lkmem j _ h;have hbig:∀ us,lk (bV B) BIG≠some us:=λus h=>by
  obtain ⟨E,_⟩:=zGr h;rw [hD] at E;exact Nat.lt_irrefl _ (hDb _ E)
 have hbv:∀ j b,lk (bV B) j=some b->lk (bV B++oV O) j=some b:=λj b h=>by rw [zI3,h];rfl
 have hBs:∀ j∈D,∃ us,lk (bV B++oV O) j=some (.var us):=λj I=>let ⟨us,h⟩:=zHt (by rw [hD];exact I);⟨us,hbv _ _ h⟩;have hvo:∀ j b,lk (bV B++oV O) j=some b->lk (bV B) j=some b∨∃ k wd cs,O=some (k,wd,cs)/\j=BIG/\b=.own wd (cs.map .p):=λj b h=>by
  rw [zI3] at h;cases E:lk (bV B) j with
  | some x=>rw [E] at h;exact .inl h
  | none=>
   rw [E] at h;cases O with
   | none=>simp [oV,lk] at h
   | some o=>
    obtain ⟨k,wd,cs⟩:=o;simp only [oV,lk,Option.none_or] at h;cases hq:Q4 j BIG with
    | true=>rw [hq] at h;simp at h;exact .inr ⟨k,wd,cs,rfl,Q2 hq,h.symm⟩
    | false=>rw [hq] at h;simp at h
 have U:∀ k wd cs,O=some (k,wd,cs)->s'.blk k=some (.own wd (cs.map .p))/\lk (bV B++oV O) BIG=some (.own wd (cs.map .p)):=λk wd cs h=>by
  subst h;refine ⟨hb' (k,.own wd (cs.map .p)) (hsubO _ (by simp [oI])),?_⟩;rw [zI3];cases E:lk (bV B) BIG with
  | some x=>exact (hbig _ E).elim
  | none=>simp [oV,lk]
 have hkey:∀ j∈D,∃ b as,N (G j)=some b/\b<w.heap.size/\s'.blk (G j)=some (.var as):=λj I=>by
  obtain ⟨us,hus⟩:=zHt (B:=B) (j:=j) (by rw [hD];exact I);obtain ⟨as,b',g1,_,_⟩:=hB.get hus;have E:s'.blk (G j)=some (.var as):=hb' _ (hsub _ g1);obtain ⟨b,_,_,_,q1,_⟩:=V.vars _ as E;exact ⟨b,as,q1,V.lt q1,E⟩
 let ko:Option Nat:=O.map (·.1);let J:Option Nat:=ko.bind N;let F:Nat->Option Nat:=λj=>if j∈D then N (G j) else if j=BIG then J else none
 let S:Nat->Value:=λ_=>match ko with | some k=>tip k | none=>undef
 let pk:PKs:=⟨D.map λj=>(j,(N (G j)).getD 0),J.toList,λe T=>by
  obtain ⟨j,I,rfl⟩:=Q8.1 T;exact hDb j I⟩
 have K:∀ j∈D,F j=N (G j):=λj I=>by simp [F,I]
 have hBD:BIG∉D:=λh=>Nat.lt_irrefl _ (hDb _ h);have hκB:F BIG=J:=by simp [F,hBD]
 have hκn:∀ j,j∉D->j≠BIG->F j=none:=λj E L=>by simp [F,E,L]
 have hpk:∀ e∈pk,e.1∈D/\N (G e.1)=some e.2:=λe T=>by
  obtain ⟨j,I,rfl⟩:=Q8.1 T;obtain ⟨b,_,E,_⟩:=hkey j I;exact ⟨I,by simp [E]⟩
 have hOk:∀ k wd cs,O=some (k,wd,cs)->J=N k/\S BIG=tip k:=λk wd cs h=>by subst h;exact ⟨rfl,rfl⟩
 have hrepv:∀ {v u:AV} {b:LB} {x:Value},GV O s G D v u b->(∀ e∈b,e∈bb)->yT M N tip s'.blk v x->yT M F S (lk (bV B++oV O)) u x:=λh hb hr=>h.rep (λe T=>hb' e (hb e T)) K hBs (λk wd cs e=>⟨(U k wd cs e).1,(U k wd cs e).2,(hOk k wd cs e).2⟩) hr;have hob:∀ b∈pk.ob,∃ k wd cs,O=some (k,wd,cs)/\N k=some b/\(∀ o,M b o=none)/\(cx.w0.heap.size<=b∨b∈cx.ob/\BIG<=k):=λb hb=>by
  cases hO:O with
  | none=>simp [pk,J,ko,hO] at hb
  | some o=>
   obtain ⟨k,wd,cs⟩:=o;have E:N k=some b:=by simpa [pk,J,ko,hO] using hb
   rcases V.owns k wd _ (U k wd cs hO).1 with ⟨_,h,_⟩ | ⟨_,⟨_,h,_⟩ | ⟨b',_,_,_,_,_,_,h,h3,_,_,_,_,_,_,_,h4⟩⟩
   ·rw [h] at E;cases E
   ·rw [h] at E;cases E
   ·rw [h] at E;cases E;exact ⟨k,wd,cs,rfl,h,h4,h3⟩
 refine ⟨pk,F,S,{
  defers:=rfl
  size:=by simp only;omega
  fr:=⟨rfl,rfl,rfl,Qq _,λ_ _ _ _=>rfl⟩
  mem:=V.mem
  env:=λt u h=>by
   obtain ⟨_,h3⟩:=zM7 us 0 t u h;simp only [Nat.sub_zero] at h3;have hlt:t<us.length:=(List.getElem?_eq_some_iff.1 h3).1;have hlt':t<args.size:=jh
   obtain ⟨v,b,g1,g2,g3⟩:=hargs t u h3;refine ⟨args[t],by simp [hlt'],?_⟩;have:=hrepv g1 g2 g3;rw [Q1,Array.getElem?_eq_getElem hlt'] at this;exact this
  vars:=λj us' h=>by
   rcases hvo j _ h with h | ⟨_,_,_,_,_,h⟩
   ·have I:j∈D:=by rw [<- hD];exact (zGr h).1
    obtain ⟨as,b',g1,g2,g3⟩:=hB.get h;obtain ⟨b,arr,e,fz,q1,q2,q3,q4,q5,q6,q7⟩:=V.vars (G j) as (hb' _ (hsub _ g1));refine ⟨b,arr,e,fz,by rw [K j I];exact q1,q2,q3,by rw [q4,g2.get.1],λi u hu=>?_,q6,.inr ?_⟩
    ·obtain ⟨v,b2,r1,r2,r3⟩:=g2.get.2 i u hu;exact hrepv (.f r2) (λe T=>hsub e (g3 e (r3 e T))) (q5 i v r1)
    ·simp only [Ctx.pb,Q8];exact ⟨(j,b),Q8.2 ⟨j,I,by simp [q1]⟩,rfl⟩
   ·cases h
  bufs:=λj c h=>by
   rcases hvo j _ h with h | ⟨_,_,_,_,_,h⟩
   ·obtain ⟨_,us',h'⟩:=zGr h;cases h'
   ·cases h
  inj:=λj j' b E L=>by
   have ho:∀ j∈D,J=some b->N (G j)=some b->False:=λj I g1 g2=>by
    obtain ⟨k,wd,cs,e1,e2,_⟩:=hob b (by simp [pk,g1]);have e3:=V.inj _ _ b g2 e2;obtain ⟨_,as,_,_,e4⟩:=hkey j I;rw [e3,(U k wd cs e1).1] at e4;cases e4
   by_cases a1:j∈D
   ·rw [K j a1] at E;by_cases a2:j'∈D
    ·rw [K j' a2] at L;exact hinj j (hDout j a1) j' (hDout j' a2) (V.inj _ _ b E L)
    ·by_cases a3:j'=BIG
     ·subst a3;rw [hκB] at L;exact (ho j a1 L E).elim
     ·rw [hκn j' a2 a3] at L;cases L
   ·by_cases a3:j=BIG
    ·subst a3;rw [hκB] at E;by_cases a2:j'∈D
     ·rw [K j' a2] at L;exact (ho j' a2 E L).elim
     ·by_cases a4:j'=BIG
      ·exact a4.symm
      ·rw [hκn j' a2 a4] at L;cases L
    ·rw [hκn j a1 a3] at E;cases E
  dom:=λj h=>by
   by_cases a1:j∈D
   ·obtain ⟨us',h'⟩:=hBs j a1;have:lk (bV B++oV O) j=none:=h;rw [h'] at this;cases this
   ·by_cases a3:j=BIG
    ·subst a3;rw [hκB];cases hO:O with
     | none=>simp [J,ko,hO]
     | some o=>
      obtain ⟨k,wd,cs⟩:=o;have:lk (bV B++oV O) BIG=none:=h;rw [(U k wd cs hO).2] at this;cases this
    ·exact hκn j a1 a3
  old:=⟨λ_ _ _=>rfl,λb hb=>by
   obtain ⟨k,wd,cs,e1,e2,e3,_⟩:=hob b hb;exact ⟨V.lt e2,e3⟩⟩
  glob:=V.globw hp
  owns:=λj wd l h=>by
   rcases hvo j _ h with h9 | ⟨k,wd',cs,e1,rfl,h9⟩
   ·obtain ⟨_,us',h'⟩:=zGr h9;cases h'
   cases h9;obtain ⟨o1,o2⟩:=hOk k wd cs e1;rw [hκB,o1,o2];rcases V.owns k wd _ (U k wd cs e1).1 with g | ⟨g1,g | ⟨b,n,cap,arr,e,fz,q1,q2,q3,q4,q5,q6,q7,q8,q9,q10,q11⟩⟩
   ·exact .inl g
   ·exact .inr ⟨g1,.inl g⟩
   ·refine .inr ⟨g1,.inr ⟨b,n,cap,arr,e,fz,q1,q2,.inr ⟨by show b∈J.toList;rw [o1,q2];simp,Qq _⟩,q4,q5,q6,q7,q8,q9,λi q hq=>?_,q11⟩⟩;have hr:=q10 i q hq;rw [List.getElem?_map] at hq;obtain ⟨q',_,rfl⟩:=Q5.1 hq;cases hr with
    | p _ _ E=>exact .p _ _ E },λe T=>?_,?_⟩
 ·obtain ⟨E,L⟩:=hpk e T;obtain ⟨b,_,h3,h4,_⟩:=hkey e.1 E;rw [L] at h3;cases h3;exact ⟨by rw [K _ E];exact L,h4⟩
 rintro v w' ⟨M',κ2,tip2,h0',hp',hr⟩;obtain ⟨κk,hik,hpk2,hkk,hkn,hks⟩:∃ κk,Inv cx M κk tip (kill s' O) a w/\(∀ k∈cx.pk,κk k.1=some k.2/\k.2<cx.w0.heap.size)/\(∀ i b,κk i=some b->N i=some b/\b∉pk.ob)/\(∀ i as,s'.blk i=some (.var as)->κk i=N i/\(kill s' O).blk i=some (.var as))/\∀ i,s'.blk i=none->(kill s' O).blk i=none:=by
  cases hO:O with
  | none=>exact ⟨N,V,hp,λi b h=>⟨h,by simp [pk,J,ko,hO]⟩,λi as h=>⟨rfl,h⟩,λi h=>h⟩
  | some o=>
   obtain ⟨k,wd,cs⟩:=o;have hbk:=(U k wd cs hO).1;refine ⟨kF N k none,V.kill hbk,zMh V hp hbk none,λi b h=>?_,λi as h=>?_,λi h=>?_⟩
   ·have e:i≠k:=by rintro rfl;rw [xO] at h;cases h
    rw [zW e] at h;refine ⟨h,λhm=>?_⟩;obtain ⟨k',_,_,e1,e2,_⟩:=hob b hm;rw [hO] at e1;cases e1;exact e (V.inj _ _ b h e2)
   ·have e:i≠k:=by rintro rfl;rw [hbk] at h;cases h
    exact ⟨zW e,by simp only [kill];rw [zN e];exact h⟩
   ·have e:i≠k:=by rintro rfl;rw [hbk] at h;cases h
    simp only [kill];rw [zN e];exact h
 obtain ⟨i1,i2⟩:=hik.import h0' hr G hinj
  (λe T=>by
   obtain ⟨E,L⟩:=hpk e T;obtain ⟨b,as,h3,h4,h5⟩:=hkey e.1 E;exact ⟨(hp' e T).1,by rw [(hkn _ as h5).1];exact L,⟨as,(hkn _ as h5).2⟩,hout e.1 E⟩)
  (λj I=>(hnew j I).elim (λh=>.inl ⟨_,Q8.2 ⟨j,h,rfl⟩⟩) λh=>.inr (hks _ (hfr _ h)))
  (λb hb=>by
   obtain ⟨k,wd,cs,e1,e2,e3,e4⟩:=hob b hb;exact ⟨λi h=>(hkk i b h).2 hb,e4.imp id λh=>⟨h.1,(hbg _ e1).resolve_left (Nat.not_lt.2 h.2)⟩⟩)
 obtain ⟨x,hx,hrx⟩:=hr.env 0 av (by simp [mkS,lk]);simp at hx;subst hx;refine ⟨M',_,_,h0',?_,i1,i2 av v hrx⟩;intro k' hk';obtain ⟨E,L⟩:=hpk2 k' hk';refine ⟨?_,L⟩;cases hfk:fk G (A.map (·.1)) k'.1 with
 | none=>exact E
 | some j=>
  obtain ⟨I,T⟩:=qT hfk;simp only;rcases hnew j I with h | h
  ·have h3:(j,(N (G j)).getD 0)∈pk:=Q8.2 ⟨j,h,rfl⟩;have h4:=(hp' _ h3).1;have h1':=(hkk _ _ E).1;rw [T] at h1';simp only [h1',Qs] at h4;exact h4
  ·have:=V.dom _ (hfr _ h);rw [<- T] at this;rw [(hkk _ _ E).1] at this;cases this
def zXt {o:Oper} {Y:LV} {E:Nat->Nat} {h:LB} (hd:o.dst=some d)
  (bc:Ok P f na (mkS (zKe 0 us) (bV B++oV O)) (mkS [(0,av)] h)) (bh:wH s Y) (W:∀ e∈bb,s.blk e.1=some e.2) (be:∀ k∈fr,s.blk k=none)
  (A:∀ (cx:Ctx) (M:Mem) (T:Nat->Option Nat) (tip:Nat->Value) (s':AS) (a:Act) (w:World),Inv cx M T tip s' a w->wH s' Y->∃ args,(execOp a.eval o).run P w=.ok (.enter f args) w/\GR O s E (B.map (·.1)) bb M T tip s'.blk us args)
  (hn:na=us.length) (hB:GB O s E (B.map (·.1)) B bB) (S:∀ e∈bB,e∈bb) (F:∀ e∈oI O,e∈bb) (I:∀ j∈h.map (·.1),∀ j'∈h.map (·.1),E j=E j'->j=j') (N:∀ j∈B.map (·.1),∃ l',lk h j=some (.var l')) (G:∀ j∈h.map (·.1),j∈B.map (·.1)∨E j∈fr) (V:∀ j∈B.map (·.1),j<BIG) (Z:∀ o,O=some o->o.1<BIG∨∀ j∈h.map (·.1),BIG<=j->BIG<=E j) :
  SA P o s ⟨Y,bb,fr,some (d,some (av.ren E)),(h.map λe=>(E e.1,e.2.ren E))++oD O⟩:=by
 refine ⟨?_,bh,W,be⟩;intro cx s' a w K Q U hs bf hk;obtain ⟨M,T,tip,h0,hp,hi⟩:=hs;obtain ⟨args,A,hg⟩:=A cx M T tip s' a w hi U.1;subst hn;obtain ⟨pk,cg,bl,J,bd,D⟩:=yO2 hp hi U.2.1 U.2.2 hg hB S F I N G V Z (av:=av);unfold Oper.wp;rw [A];show Calls P f _ w _;refine (bc.2 w M pk _ _ _ J bd).mono ?_;rintro e' w' ⟨v,rfl,hr⟩;show K (a.put o.dst v) w';rw [hd];refine hk _ _ ?_;rw [yAx];obtain ⟨M',bg,L,h1,h2,h3,h4⟩:=D v w' hr;exact ⟨M',bg,L,h0.trans' h1,h2,h3.put (bf d (by simp [Qw])) h4⟩
def GR.of {B:NB} (h:xs.length=us.length/\∀ (j:Nat) (u:AV),us[j]? = some u->∃ v b',GV O s ρ D v u b'/\(∀ e∈b',e∈bb)/\yT M κ tip B v (((xs.map a.eval)[j]?).getD undef)) (ha:args.toList=xs.map a.eval):GR O s ρ D bb M κ tip B us args:=by
 refine ⟨by rw [<- Qk,ha,Qz,h.1],λj u hu=>?_⟩;obtain ⟨v,b,h1,h2,h3⟩:=h.2 j u hu;refine ⟨v,b,h1,h2,?_⟩;rw [Q1,<- Array.getElem?_toList,ha];exact h3
def zYo {o:Oper} {xs:Array Operand} {ts:Array TypeId} {U:List Operand} {N:List AV} {rs:LV} {Y:LB} {D:Nat->Nat} {h:LB} (hd:o.dst=some d) (ho:o.op=.call { callee:=.value (.func f),args:=xs,argTypes:=ts })
  (F:Ok P f na (mkS (zKe 0 N) (bV B++oV O)) (mkS [(0,av)] h)) (V:xs.toList=U) (ca:ts.toList=tl) (S:GA O s te D (B.map (·.1)) U tl N rs bb) (hB:GB O s D (B.map (·.1)) B Y) (hO:∀ e∈oI O,s.blk e.1=some e.2) (Z:∀ k∈fr,s.blk k=none) (hn:na=N.length)
  (I:∀ j∈h.map (·.1),∀ j'∈h.map (·.1),D j=D j'->j=j') (J:∀ j∈B.map (·.1),∃ l',lk h j=some (.var l')) (G:∀ j∈h.map (·.1),j∈B.map (·.1)∨D j∈fr) (W:∀ j∈B.map (·.1),j<BIG) (L:∀ o,O=some o->o.1<BIG∨∀ j∈h.map (·.1),BIG<=j->BIG<=D j) :
  SA P o s ⟨rs,bb++(Y++oI O),fr,some (d,some (av.ren D)),(h.map λe=>(D e.1,e.2.ren D))++oD O⟩:=by
 refine zXt (bb:=bb++(Y++oI O)) hd F S.reads.1 (λe y=>by
  simp only [Q9] at y;rcases y with y | y | y
  ·exact S.reads.2 e y
  ·exact hB.blks e y
  ·exact hO e y) Z (λcx M κ tip s' a w hi hr=>?_) hn hB (λe y=>by simp [y]) (λe y=>by simp [y]) I J G W L
 refine ⟨_,zE6 ho F.1,?_⟩;obtain ⟨h1,h2⟩:=S.rep hi hr;refine GR.of (xs:=U) (a:=a) ⟨h1,λj u hu=>?_⟩ (by simp [V]);obtain ⟨v,b,g1,g2,g3⟩:=h2 j u hu;exact ⟨v,b,g1,λe y=>Q9.2 (.inl (g2 e y)),g3⟩
end
def shm (d:Nat) (μ:List (Nat×Nat)) (j:Nat):Nat:=match lk μ j with | some k=>k | none=>sh d j
def yHd:List Nat->Bool
 | []=>true
 | a :: l=>l.all (λb=>!Nat.beq a b)&&yHd l
def zN7 {v:Nat->Nat}:∀ {l:List Nat},yHd (l.map v)=true->∀ j∈l,∀ A∈l,v j=v A->j=A
 | [],_,j,h,_,_,_=>by simp at h
 | a :: l,E,j,h,A,d,e=>by
  simp only [Qf,yHd,Qd] at E;have F:∀ i∈l,v a≠v i:=λi I J=>by
   have:=(Qc.1 E.1) (v i) (Q8.2 ⟨i,I,rfl⟩);simp_all
  simp only [Q6] at h d;rcases h with rfl | h
  ·rcases d with rfl | d
   ·rfl
   simp_all
  ·rcases d with rfl | d
   ·exact (F j h e.symm).elim
   ·exact zN7 E.2 j h A d e
def yFy:List Nat->List Nat->Bool
 | [],[]=>true
 | a :: l,b :: m=>Q4 a b&&yFy l m
 | _,_=>false
def zS1:∀ {l m:List Nat},yFy l m=true->l=m
 | [],[],_=>rfl
 | a :: l,b :: m,h=>by
  simp only [yFy,Qd] at h;rw [Q2 h.1,zS1 h.2]
 | [],_ :: _,h=>by cases h
 | _ :: _,[],h=>by cases h
class zCg (l:LB):Prop where
 h:∀ k w c,(k,ABlk.own w c)∈l->∃ e:PV,c=e.ecs
instance zCg.n:zCg []:=⟨λ_ _ _ h=>by cases h⟩
instance zCg.o {k w:Nat} {e:PV} {r:LB} [h:zCg r]:zCg ((k,.own w e.ecs) :: r):=⟨λk w c m=>by
 rcases Q6.1 m with m | m
 ·cases m;exact ⟨_,rfl⟩
 ·exact h.h k w c m⟩
instance zCg.b {k:Nat} {e:PV} {r:LB} [h:zCg r]:zCg ((k,.buf e) :: r):=⟨λk w c m=>by
 rcases Q6.1 m with m | m
 ·cases m
 ·exact h.h k w c m⟩
instance zCg.v {k:Nat} {e:List AV} {r:LB} [h:zCg r]:zCg ((k,.var e) :: r):=⟨λk w c m=>by
 rcases Q6.1 m with m | m
 ·cases m
 ·exact h.h k w c m⟩
theorem zCg.bv {r:LB} [h:zCg r] (B:List (Nat×List AV)):zCg (bV B++r):=⟨λk w c m=>by
 have y:∀ B,(k,ABlk.own w c)∈bV B->False:=λB=>by
  induction B with
  | nil=>intro m;cases m
  | cons x B A=>
   intro m;rcases Q6.1 m with m | m
   ·cases m
   simp_all
 rcases Q9.1 m with m | m
 ·simp_all
 ·exact h.h k w c m⟩
def bRq (ρ:Nat->Nat):LB->LB
 | []=>[]
 | (k,.own w c) :: r=>(ρ k,.own w c) :: bRq ρ r
 | (k,.var l) :: r=>(ρ k,(ABlk.var l).ren ρ) :: bRq ρ r
 | (k,.buf l) :: r=>(ρ k,(ABlk.buf l).ren ρ) :: bRq ρ r
def zL3 (v:Nat->Nat):∀ (l:LB),zCg l->bRq v l=bR v l
 | [],_=>rfl
 | (k,.own w c) :: r,h=>by
  have A:=zL3 v r ⟨λk w c m=>h.h k w c (Qu _ m)⟩;obtain ⟨e,rfl⟩:=h.h k w c List.mem_cons_self;simp only [bRq,bR,A,ABlk.ren,jL]
 | (k,.var l) :: r,h=>by simp only [bRq,bR,zL3 v r ⟨λk w c m=>h.h k w c (Qu _ m)⟩]
 | (k,.buf l) :: r,h=>by simp only [bRq,bR,zL3 v r ⟨λk w c m=>h.h k w c (Qu _ m)⟩]
section
variable {v:AV} {rs:LV} {b:LB} {o:Nat} {r:List (Nat×List AV)}
def ga0:GA O s te ρ D [] [] [] [] []:=.nil
def gap (h:s.get te t x=some v) (E:s.rd v=some (q,b)) (k:GA O s te ρ D xs ts us rs bs):GA O s te ρ D (x :: xs) (t :: ts) (.p q :: us) (opS x v++rs) (b++bs):=.cons h (.f (.p E)) k
def gao {n:Nat} (h:s.get te t x=some (.own k n)) (e:O=some (k,wd,cs)) (A:GA O s te ρ D xs ts us rs bs):GA O s te ρ D (x :: xs) (t :: ts) (.own BIG n :: us) (opS x (.own k n)++rs) ([]++bs):=.cons h (.f (.own e)) A
def glp (A:s.rd v=some (q,b)) (k:GVs O s ρ D vs us bs):GVs O s ρ D (v :: vs) (.p q :: us) (b++bs):=.cons (.p A) k
def gb0:GB O s ρ D [] []:=.nil
def gb (h:s.blk (ρ j)=some (.var as)) (g:GVs O s ρ D as us b) (k:GB O s ρ D r bs):GB O s ρ D ((j,us) :: r) ((ρ j,.var as) :: (b++bs)):=.cons h g k
end
section
end
section
variable [T:pK P] {r:List Oper} 
def yLf (s:AS) (d na:Nat) (n:Nat) (μ:List (Nat×Nat)) (B B2:List (Nat×List AV)) (bn:LB):Bool:=
 Q4 na n&&(B.all (λe=>Qa e.1 BIG)&&((kR (shm d μ) bn).all (λk=>(s.blk k).isNone)&&(yFy (B.map (·.1)) (B2.map (·.1))&&yHd (kR (shm d μ) (bV B2++bn)))))
theorem zWb {Z n:Nat} {F:List (Nat×Nat)} {E:List (Nat×List AV)} {D:LB} (h:yLf s d Z n F B E D=true):Z=n/\(∀ k∈D.map (λe=>shm d F e.1),s.blk k=none) /\
  (∀ j∈(bV E++D).map (·.1),∀ V∈(bV E++D).map (·.1),shm d F j=shm d F V->j=V)/\(∀ j∈B.map (·.1),∃ l',lk (bV E++D) j=some (.var l'))/\(∀ j∈(bV E++D).map (·.1),j∈B.map (·.1)∨shm d F j∈D.map (λe=>shm d F e.1))/\∀ j∈B.map (·.1),j<BIG:=by
 simp only [yLf,Qd] at h;obtain ⟨S,h0,L,I,J⟩:=h;rw [zBv] at L J;have I:=zS1 I;refine ⟨Q2 S,λk hk=>by simpa using (Qc.1 L) k hk,?_,λj y=>?_,λj y=>?_,λj y=>?_⟩
 ·have:(bV E++D).map (λe=>shm d F e.1)=((bV E++D).map (·.1)).map (shm d F):=by rw [List.map_map];rfl
  rw [this] at J;exact zN7 J
 ·rw [I] at y;obtain ⟨us,v⟩:=zHt y;refine ⟨us,?_⟩;clear S L I J;revert v;generalize bV E=l;intro v;induction l with
  | nil=>simp [lk] at v
  | cons e l ih=>
   obtain ⟨i,b⟩:=e;simp only [Wb,lk] at v ⊢;cases W:Q4 j i with
   | true=>simpa [W] using v
   | false=>simp_all
 ·rw [Wf,Q9] at y;rcases y with y | y
  ·rw [zLw] at y;rw [I];exact .inl y
  ·obtain ⟨e,N,rfl⟩:=Q8.1 y;exact .inr (Q8.2 ⟨e,N,rfl⟩)
 ·obtain ⟨e,N,rfl⟩:=Q8.1 y;exact Q0 ((Qc.1 h0) e N)
def yHr {A:List (Nat×Nat)} {l:List Nat} (h:l.all (λj=>(lk A j).isNone||Qa j BIG)=true):∀ j∈l,BIG<=j->BIG<=shm d A j:=λj G I=>by
 have:=(Qc.1 h) j G;unfold shm;cases F:lk A j with
 | none=>simp only [sh];omega
 | some k=>have:=Q0 (show Qa j BIG=true by simp_all);omega
theorem RK.cgo (μ:List (Nat×Nat)) {xs:Array Operand} {ts:Array TypeId} {rs:LV} {B2:List (Nat×List AV)} {bn:LB} [ow:zCg bn] (h:Ok P f na (mkS (zKe 0 us) (bV B++[(BIG,qO c)])) (mkS [(0,av)] (bV B2++bn))) (ho0:(s.blk k0,qO c)=(some (qO c),.own wd (cs.map .p))) (ha:GA (some (k0,wd,cs)) s T.te (shm d μ) (B.map (·.1)) xs.toList ts.toList us rs bb) (hB:GB (some (k0,wd,cs)) s (shm d μ) (B.map (·.1)) B bB) (hc0:(yLf s d na us.length μ B B2 bn,Qa k0 BIG||(kR id (bV B2++bn)).all (λj=>(lk μ j).isNone||Qa j BIG))=(true,true))
  (k:RK P ops r (Wh ⟨rs,bb++(bB++[(k0,qO c)]),kR (shm d μ) bn,some (d,some (av.ren (shm d μ))),bRq (shm d μ) (bV B2++bn)++[(k0,zIr)]⟩ s) λs' ms=>K s' (⟨rs,bb++(bB++[(k0,qO c)]),kR (shm d μ) bn,some (d,some (av.ren (shm d μ))),bRq (shm d μ) (bV B2++bn)++[(k0,zIr)]⟩:: ms)):RK P ops (⟨some d,.call ⟨.value (.func f),xs,ts⟩,ty,pos,af,none⟩:: r) s K:=have ⟨ho,hq⟩:=pq ho0;have ⟨hc,hg⟩:=pq hc0;by
 obtain ⟨c1,c2,c3,c4,c5,c6⟩:=zWb hc;rw [zBv,zL3 _ _ (zCg.bv B2),zG5] at k;rw [zBv] at hg;have hgg:k0<BIG∨∀ j∈(bV B2++bn).map (·.1),BIG<=j->BIG<=shm d μ j:=by
  cases e:Qa k0 BIG with
  | true=>exact .inl (Q0 e)
  | false=>rw [e,Bool.false_or] at hg;exact .inr (yHr (by simpa using hg))
 rw [hq] at h ho k;exact RK.st rfl (zYo (O:=some (k0,wd,cs)) rfl rfl h rfl rfl ha hB (by simpa [oI] using ho) c2 c1 c3 c4 c5 c6 (λo e=>by cases e;exact hgg)) k
end
theorem yPe {as:AS} (h:as.blk=lk (bV B)) (d:kR id (bV B)=ks):∀ k,k<BIG->(as.blk k).isSome=true->k∈ks:=λk _ y=>by
 rw [h] at y;obtain ⟨b,D⟩:=Option.isSome_iff_exists.1 y;have:=(zGr D).1;rw [zBv] at d;rw [<- zLw] at this;simp_all
theorem zY5 {as:AS} {b:ABlk} (h:as.blk=lk (bV B++[(BIG,b)])) (A:kR id (bV B)=ks):∀ k,k<BIG->(as.blk k).isSome=true->k∈ks:=λk F y=>by
 rw [h,zI3] at y;have e:lk [(BIG,b)] k=none:=by
  have:Q4 k BIG=false:=by rw [W6];intro e;simp_all
  simp [lk,this]
 rw [e,Option.or_none] at y;exact yPe (as:=mkS [] _) rfl A k F y
section
def zUr {o:Oper} {N:Operand} {a b:Nat} {kh:IntKind} {n:Nat} (J:yN P te) (ho:o.op=.slice t x (some N) (some S) none)
  (ht:(te t).map (·.ty)=some (.slice e)) (he:te e=some ei) (hw:ei.w=1) (hx:s.get te t x=some (.own k n)) (hb:s.blk k=some (.own 1 l)) (hn:n=l.length)
  (Z:s.get te 0 N=some (.p (.int kl (a:Nat)))) (U:s.get te 0 S=some (.p (.int kh (b:Nat)))) (h1:a<b) (h2:b<=n) :
  VA P o s (opS x (.own k n)++(opS N (.p (.int kl (a:Nat)))++opS S (.p (.int kh (b:Nat))))) [(k,.own 1 l)] (.osl k n a (b - a)):=by
 have bl:Bd s te (some N) (some (a:Int)) _:=.some _ _ _ Z;have bh:Bd s te (some S) (some (b:Int)) _:=.some _ _ _ U;refine ⟨?_,yK (zO hx) (yK bl.reads bh.reads),by simpa using hb⟩;intro cx M κ tip s' ac w y Y V;have v:=V (k,.own 1 l) jk;simp only at v;obtain ⟨fl,K⟩:=bl.eval y (yE (zY Y));obtain ⟨fh,G⟩:=bh.eval y (zY (zY Y));have hu:=yV J ht;have ba:=vV J he w;have I:=zEs (cx:=cx) v jh (yB y (yJ hx s' (yE Y)));obtain ⟨g1,g2⟩:=y.owns.live v (n:=n) jh;rcases g2 with ⟨_,_,rfl⟩ | ⟨b0,n1,cap,arr,e1,fz,q1,q2,q3,q4,q5,q6,q7,q8,q9,q10,q11⟩
 ·simp at hn;omega
 ·have W:n1=n:=jh
  subst W;rw [q1] at I;have L:=kM P w true n1 cap (some (a:Int)) (some (b:Int)) none fl fh fl jk jk jl jl jk;have T:¬ cap=a:=jh
  refine ⟨.slice (some ⟨b0,0+a,none⟩) (b - a) (cap - a),?_,.osl k n1 a (b - a) 1 l _ v jh (λ_=>⟨b0,cap - a,q2,jk,jh⟩) ⟨_,_,_,rfl⟩⟩;simp only [Wg,Option.map_none,Qs,Int.toNat_natCast,Option.getD_none] at L K G;simp [execOp,ho,I,Instr.sliceAt,Instr.slice,run_underlying hu,K,G,L,ba,hw,T,vL]
def zZr {o:Oper} {n:Nat} {m:By} (hok:yN P te) (hd:o.dst=some d) (ho:o.op=.call { callee:=.builtin .copy,args:=#[x,y],argTypes:=#[t,t'] }) (ht:(te t).map (·.ty)=some (.slice e)) (he:te e=some ei) (hw:ei.w=1)
  (hx:s.get te t x=some (.osl k N off n)) (hk:s.blk k=some (.own 1 l)) (hN:N=l.length) (hl:off+n<=l.length) (hy:s.get te t' y=some vy) (hp:s.rd vy=some (.bytes m,bs)) :
  SA P o s ⟨opS x (.osl k N off n)++opS y vy,(k,.own 1 l) :: bs,[],some (d,some (.p (.int .i64 (min m.length n:Nat)))),[(k,.own 1 (uS l off ((m.take n).map λu=>.p (.int .u8 u.toNat))))]⟩:=by
 refine ⟨?_,yK (zO hx) (zO hy),λe he=>(Q6.1 he).elim (λh=>by subst h;exact hk) (uV vy _ bs hp e),by intro k hk';simp at hk'⟩;intro cx s' a w K Q hm hs' hws hk';obtain ⟨M,κ,tip,h0,hpk,hi⟩:=hs';have hbk:s'.blk k=some (.own 1 l):=hm.2.1 (k,.own 1 l) jk;have hx':=yB hi (yJ hx s' (yE hm.1));have hy':=dS hi hy hp (zY hm.1) (λe he=>hm.2.1 e (by simp [he]));obtain ⟨info,z,i1,i2,i3,i4,i5⟩:=(hok e ei he).info;have hu:=yV hok ht;have F:(P.info? e).map (·.size)=some 1:=by rw [i1,Wg,i2,hw]
 generalize hev:a.eval x=zx at hx';cases hx' with
 | osl _ _ _ _ w' l' _ g1 g2 g3 g4=>
 rw [hbk] at g1;cases g1;obtain ⟨b,c,hκ,rfl,hnc⟩:=g3 jh;obtain ⟨_,g5⟩:=hi.owns.live hbk (n:=N) jh;rcases g5 with ⟨_,y2,_⟩ | ⟨b',n1,cap,arr,e1,fz,q1,q2,q3,q4,q5,q6,q7,q8,q9,q10,q11⟩
 ·rw [hκ] at y2;cases y2
 rw [hκ] at q2;cases q2;have hnn:n1=N:=jh
 subst hnn;have J:∀ (w':World) (U:List Value),(execOp a.eval o).run P w=.ok (.value (.int .i64 (min m.length n:Nat))) w'->w'=w.setCells b off U->U=(m.take n).map (λu=>.int .u8 u.toNat)->o.wp P a w K Q:=by
  intro w' U h1 h2 h3;subst h2;unfold Oper.wp;rw [h1];show K (a.put o.dst _) _;rw [hd];refine hk' _ _ ?_;rw [uL];have hvl:U.length=((m.take n).map λu=>(AV.p (.int .u8 u.toNat))).length:=by simp [h3]
  have hvn:U.length<=n:=by rw [h3];simp;omega
  obtain ⟨arr',z1,z2,z3⟩:=sO b U off w arr e1 fz q4 jh;have hlen:=aV (l:=l) (cs:=(m.take n).map λu=>(AV.p (.int .u8 u.toNat))) (off:=off) jh;refine ⟨M,κ,_,h0,hpk,(hi.ownSet (n':=n1) hbk q1 hκ q3 (by rw [z2];exact q5) z1 (by rw [z2];exact q7) q8 q9 jh q11 jh jh q6 ?_).put (hws d (by simp [Qw])) (.p _ _ (.int _ _))⟩;intro j q hq;rw [nY jh] at hq;rw [Q1,z3 j];by_cases hj:off<=j/\j<off+U.length
  ·rw [if_pos jh] at hq;rw [if_pos hj];rw [List.getElem?_map] at hq;obtain ⟨u,h4,h5⟩:=Q5.1 hq;subst h5;rw [h3,List.getElem?_map,h4];exact .p _ _ (.int _ _)
  ·rw [if_neg jh] at hq;rw [if_neg hj];have:=q10 j q hq;rw [Q1] at this;exact this
 generalize I:a.eval y=zy at hy';cases hy' with
 | bytes0=>
  refine J w [] ?_ rfl jk;have:=run_copy_none (P:=P) w t t' o.type e (some ⟨b,off,none⟩) none n c 0 0 hu F (by simp [Nat.min_def]);simp [execOp,ho,hev,I,resolve,invoke,builtin,this,goInt]
 | bytesE aa=>
  refine J w [] ?_ rfl jk;have:=run_copy_none (P:=P) w t t' o.type e (some ⟨b,off,none⟩) (some aa) n c 0 0 hu F (by simp [Nat.min_def]);simp [execOp,ho,hev,I,resolve,invoke,builtin,this,goInt]
 | bytes _ b2 o2 n2 c2 e1' e2' e3'=>
  have hcs:((m.take n).map λu=>Value.int .u8 u.toNat).length=Nat.min n2 n:=by simp [e1',Nat.min_comm]
  have T:=run_copy_cells (P:=P) w t t' o.type e b off n c ⟨b2,o2,none⟩ n2 c2 ((m.take n).map λu=>Value.int .u8 u.toNat) hu F hcs
   (by
    intro j u S;rw [List.getElem?_map] at S;obtain ⟨u',h4,h5⟩:=Q5.1 S;rw [List.getElem?_take] at h4;split at h4
    ·rw [vL,<- h5];exact hi.mem _ _ _ (e3' j u' h4)
    ·cases h4)
   (by
     intro j hj;simp at hj;have:off+j<arr.size:=jh
     simp [Qr,q4,this])
   (by intro j hj;simp at hj;exact tZ q4 q5 jh)
   (by intro u S;obtain ⟨u',_,rfl⟩:=Q8.1 S;rfl)
  refine J _ _ ?_ rfl rfl;have hmin:((m.take n).map λu=>Value.int .u8 u.toNat).length=min m.length n:=by simp [Nat.min_comm]
  rw [hmin] at T;simp [execOp,ho,hev,I,resolve,invoke,builtin,T,goInt]
end
def cpA (l:By) (o n:Nat) (m:By):By:=l.take o++(m.take n++l.drop (o+(m.take n).length))
def zTd {l m:By} {o n:Nat} (h:Qj (o+n) l.length=true) (y:l.length=k):(cpA l o n m).length=k:=by
 have:=Q0 h;simp only [cpA,Ql,List.length_take,List.length_drop];omega
section
variable [T:pK P] {r:List Oper} 
def RK.slO {L:Operand} {W V:IntKind} {n:Nat} {l:By} {U:TI} (a b:Nat) (hn:l.length=n) (h:Qj b l.length=true) (v:((T.te t).map (·.ty),T.te e,U.w,s.get T.te t x,s.blk E,s.get T.te 0 L,s.get T.te 0 S,Qa a b)=(some (.slice e),some U,1,some (.own E n),some (qO (.bytes l)),some (.p (.int W (a:Nat))),some (.p (.int V (b:Nat))),true))
  (k:VK P ops r s K d (opS x (.own E n)++(opS L (.p (.int W (a:Nat)))++opS S (.p (.int V (b:Nat))))) [(E,qO (.bytes l))] (.osl E n a (b - a))):RK P ops (⟨some d,.slice t x (some L) (some S) none,ty,pos,af,none⟩:: r) s K:=have ⟨ht,v⟩:=pq v;have ⟨he,v⟩:=pq v;have ⟨Y,v⟩:=pq v;have ⟨hx,v⟩:=pq v;have ⟨hb,v⟩:=pq v;have ⟨J,v⟩:=pq v;have ⟨N,h1⟩:=pq v;
 Qt rfl rfl (zUr T.ok rfl ht he Y hx hb (by simp [PV.ecs,hn]) J N (Q0 h1) jm) k
def RK.cpO {Y:TI} {n:Nat} {l m:By} {V:AV} (hN:l.length=N) (h:Qj (off+n) l.length=true) (A:((T.te t).map (·.ty),T.te e,Y.w,s.get T.te t x,s.blk F,s.get T.te J y)=(some (.slice e),some Y,1,some (.osl F N off n),some (qO (.bytes l)),some V)) (hp:s.rd V=some (.bytes m,bs))
  (k:BK P ops r s K d (opS x (.osl F N off n)++opS y V) ((F,qO (.bytes l)) :: bs) [] F (qO (.bytes (cpA l off n m))) (.p (.int .i64 (min m.length n:Nat)))):RK P ops (⟨some d,.call ⟨.builtin .copy,#[x,y],#[t,J]⟩,ty,pos,af,none⟩:: r) s K:=have ⟨ht,A⟩:=pq A;have ⟨he,A⟩:=pq A;have ⟨hw,A⟩:=pq A;have ⟨hx,A⟩:=pq A;have ⟨hk,hy⟩:=pq A;by
 have bd:=Q0 h;have h2:=zZr (o:=⟨some d,.call _,ty,pos,af,none⟩) T.ok rfl rfl ht he hw hx hk (by simp [PV.ecs,hN]) (by simp [PV.ecs];omega) hy hp;have e1:uS (PV.ecs (.bytes l)) off ((m.take n).map λu=>AV.p (.int .u8 u.toNat))=PV.ecs (.bytes (cpA l off n m)):=by
  rw [lX (by simp [PV.ecs];omega)];simp [PV.ecs,cpA]
 rw [e1] at h2;exact W3 rfl h2 k
end
section
end
section
end
section
def yK8 {o:Oper} {k:IntKind} {a b:Int} (S:o.op=.call { callee:=.builtin .max,args:=#[x,y],argTypes:=#[t,J] }) (E:s.get te t x=some (.p (.int k a))) (F:s.get te J y=some (.p (.int k b))) :
  VA P o s (opS x (.p (.int k a))++opS y (.p (.int k b))) [] (.p (.int k (if a<b then b else a))):=by
 refine ⟨?_,yK (zO E) (zO F),jk⟩;intro cx M T tip s' ac w I G _;have K:=xU (repA_pv (yB I (yJ E s' (yE G))));have L:=xU (repA_pv (yB I (yJ F s' (zY G))));refine ⟨.int k _,?_,.p _ _ (.int _ _)⟩;simp [execOp,S,K,L,resolve,invoke,builtin,Builtin.max_,Builtin.max2]
end
section
variable [T:pK P] {r:List Oper} 
def RK.mx {G:TypeId} {A:IntKind} {a b:Int} (D:(s.get T.te t x,s.get T.te G y)=(some (.p (.int A a)),some (.p (.int A b)))) (k:VK P ops r s K d (opS x (.p (.int A a))++opS y (.p (.int A b))) ([]) (.p (.int A (if a<b then b else a)))):RK P ops (⟨some d,.call ⟨.builtin .max,#[x,y],#[t,G]⟩,ty,pos,af,none⟩:: r) s K:=have ⟨N,L⟩:=pq D;Qt rfl rfl (yK8 rfl N L) k
end
section
end
section
variable [T:pK P] {r:List Oper} 
end
section
variable {v:AV} 
def zI9 {c:α->List PV} (y:∀ a,(c a).length=w):∀ (l:List α) (i:Nat) (u:α),l[i]? = some u->((l.flatMap c).drop (i*w)).take w=c u
 | [],i,u,h=>by simp_all
 | a :: r,0,u,h=>by
  simp_all
 | a :: r,i+1,u,h=>by
  simp only [W8];rw [List.drop_append,y,List.drop_eq_nil_of_le (by rw [y,Qb];omega),show (i+1)*w - w=i*w by rw [Qb];omega];exact zI9 y r i u jm
def zK0 {c:α->List PV} (A:∀ a,(c a).length=w):∀ (l:List α),(l.flatMap c).length=l.length*w
 | []=>by simp
 | a :: r=>by simp only [W8,Ql,A,zK0 A r,Wa,Qb];omega
def ixF (F:yN P te) {o:Oper} {c:α->List PV} {l:List α} {u:α} {n:Nat} {i:Int} (h:idx l i=some u) (ho:o.op=.index t x y) (ht:(te t).map (·.ty)=some (.arr n e)) (he:te e=some ei) (I:ei.known=true) (W:s.get te t x=some v) (V:s.rd v=some (.agg (l.flatMap c),bs)) (hy:s.get te 0 y=some (.p (.int .i64 i))) (hn:Qj l.length n=true) (K:ei.isAgg=true) (U:∀ a,(c a).length=ei.w) :
  VA P o s (opS x v++opS y (.p (.int .i64 i))) bs (.p (.agg (c u))):=by
 obtain ⟨Y,T⟩:=zFz h;have G:=(List.getElem?_eq_some_iff.1 T).1;have be:=yZ hn;refine yA7 F ho ht he (zNr I) W V hy Y jh ?_;rw [K];have hb:Qj (i.toNat*ei.w+ei.w) (l.flatMap c).length=true:=by
  refine Nat.ble_eq_true_of_le ?_;rw [zK0 U];have:i.toNat*ei.w+ei.w=(i.toNat+1)*ei.w:=by rw [Qb];omega
  rw [this];exact Q7 _ G
 simp only [nV,zI9 U l _ u T,hb];try rfl
end
section
variable [T:pK P] {r:List Oper} {v:AV} 
def RK.ixF {c:α->List PV} {n:Nat} {l:List α} {u:α} {i:Int} (h:idx l i=some u) (A:((T.te t).map (·.ty),T.te e,ei.known,s.get T.te t x,s.rd v,Qj l.length n,ei.isAgg)=(some (.arr n e),some ei,true,some v,some (.agg (l.flatMap c),bs),true,true)) (hc:∀ a,(c a).length=ei.w) (V:s.get T.te 0 y=some (.p (.int .i64 i)))
  (k:VK P ops r s K d (opS x v++opS y (.p (.int .i64 i))) bs (.p (.agg (c u)))):RK P ops (⟨some d,.index t x y,ty,pos,af,none⟩:: r) s K:=have ⟨ht,A⟩:=pq A;have ⟨Y,A⟩:=pq A;have ⟨J,A⟩:=pq A;have ⟨hx,A⟩:=pq A;have ⟨hp,A⟩:=pq A;have ⟨hn,L⟩:=pq A;Qt rfl rfl (Go.Sw.ixF T.ok h rfl ht Y J hx hp V hn L hc) k
def RK.ldG {l l':List PV} (he0:(T.te t,i.isAgg,s.get T.te 0 x)=(some i,true,some (.p (.cptr (.agg l))))) (hl:l=l') (hw:Q4 l'.length i.w=true) (k:VK P ops r s K d (opS x (.p (.cptr (.agg l)))) [] (.p (.agg l'))):RK P ops (⟨some d,.load t x,ty,pos,af,none⟩:: r) s K:=have ⟨he,he0⟩:=pq he0;have ⟨hag,hx⟩:=pq he0;by
 subst hl;exact Qt rfl rfl (Go.Sw.ldCN T.ok rfl he hag hx hw) k
def RK.mbS (f:α->PV) (l:List α) {b n:Nat} {kc:IntKind} (E:l.length=n) (hn:Qj (n*b) 140737488355328=true) (ht:(T.te t).map (·.ty)=some (.slice e)) (he:T.te e=some ei) (Y:ei.b=b) (N:Qa 0 b=true) (hz:ei.z.length=ei.w) (V:Qa 0 ei.w=true) (hx:s.get T.te 0 x=some (.p (.int kl (n:Nat)))) (hy:s.get T.te 0 y=some (.p (.int kc (n:Nat)))) (hk:s.blk d=none)
  (W:∀ s:AS,s.rdL (qJ ei.z n)=some (flatCells (l.map f),[])) (hl:(l.map f).all (λp=>Q4 p.cells.length ei.w)=true) (k:BK P ops r s K d (opS x (.p (.int kl (n:Nat)))++opS y (.p (.int kc (n:Nat)))) [] [d] d (.buf (.sl ei.w (l.map f))) (.buf d l.length)):RK P ops (⟨some d,.makeSlice t x y,ty,pos,af,none⟩:: r) s K:=by
 have bl:=Q0 N;have Z:=Q0 V;have J:fO _ _ _:=.sl _ λp hp=>Q2 ((Qc.1 hl) p hp);rw [E] at k;have:=Go.Sw.sa_mkb (o:=⟨some d,.makeSlice t x y,ty,pos,af,none⟩) T.ok rfl rfl ht he hz Z hx hy jh jm jh (λs=>by simp_all) J (by simp [Qh,E]) hk;exact W3 rfl this k
end
section
variable {fn:Func} {rs:AS}
def yBb (v:yN P te) {rv1 rv2 rv3 rv4 rv5:ResultVar} {a1 a2 a3 a4 a5:AV} (I:fn.results=#[rv1,rv2,rv3,rv4,rv5]) (Z:RV te s rv1 a1) (h2:RV te s rv2 a2) (h3:RV te s rv3 a3) (h4:RV te s rv4 a4) (Y:RV te s rv5 a5) (h:Imp cx.pk { env:=lk [(0,.tu [a1,a2,a3,a4,a5])],blk:=s.blk } rs):kL P fn cx s rs:=by
 intro a w W;have U:=W;obtain ⟨M,κ,tip,h0,hp,A⟩:=U;obtain ⟨x1,N,_⟩:=Z.run v A;obtain ⟨x2,F,_⟩:=h2.run v A;obtain ⟨x3,L,_⟩:=h3.run v A;obtain ⟨x4,J,_⟩:=h4.run v A;obtain ⟨x5,S,_⟩:=Y.run v A;refine ⟨.tuple #[x1,x2,x3,x4,x5],?_,h _ _ _ rfl (W.result λM κ tip A=>?_)⟩
 ·simp [zAi,I,N,F,L,J,S]
 ·obtain ⟨y1,G,r1⟩:=Z.run v A;obtain ⟨y2,D,r2⟩:=h2.run v A;obtain ⟨y3,E,r3⟩:=h3.run v A;obtain ⟨y4,T,r4⟩:=h4.run v A;obtain ⟨y5,K,r5⟩:=Y.run v A;rw [N] at G;cases G;rw [F] at D;cases D;rw [L] at E;cases E;rw [J] at T;cases T;rw [S] at K;cases K;refine .tu _ _ rfl (λj q y=>?_)
  match j,y with
  | 0,y=>cases y;exact r1
  | 1,y=>cases y;exact r2
  | 2,y=>cases y;exact r3
  | 3,y=>cases y;exact r4
  | 4,y=>cases y;exact r5
  | j+5,y=>simp at y
end
end Go.Sw
namespace Go.Proofs.TT
open Go Go.Sw
structure zE where
 Banks:List (List By)
 Updates:Int
 deriving DecidableEq,Inhabited
def zE.cs (x:zE):List PV:=[.sl 1 (Q3 (eSl 1 PV.bytes) x.Banks),.int .i64 x.Updates]
def zE.pv (x:zE):PV:=.agg x.cs
structure zG where
 Failed:Int
 Max:Int
 Recovery:Int
 Since:Int
 Closed:Int
 Penalty:Int
 deriving DecidableEq,Inhabited
def zG.cs (x:zG):List PV:=[.int .i64 x.Failed,.int .i64 x.Max,.int .i64 x.Recovery,.int .i64 x.Since,.int .i64 x.Closed,.int .i64 x.Penalty]
def zG.pv (x:zG):PV:=.agg x.cs
structure zF where
 N:Int
 Kind:Int
 Attr:Int
 Size:Int
 Policy:By
 Auth:By
 Written:Bool
 Data:By
 deriving DecidableEq,Inhabited
def zF.cs (x:zF):List PV:=[.int .i64 x.N,.int .i64 x.Kind,.int .i64 x.Attr,.int .i64 x.Size,.bytes x.Policy,.bytes x.Auth,.bool x.Written,.bytes x.Data]
def zF.pv (x:zF):PV:=.agg x.cs
structure zZ where
 Unique:By
 Used:Int
 deriving DecidableEq,Inhabited
def zZ.cs (x:zZ):List PV:=[.bytes x.Unique,.int .i64 x.Used]
def zZ.pv (x:zZ):PV:=.agg x.cs
structure yA where
 Seeds:List By
 Auths:List By
 Entropy:By
 Active:Int
 Resets:Int
 Restarts:Int
 Clock:Int
 Orderly:Bool
 Saved:zE
 MaxCounter:Int
 Indices:List zF
 Lockout:zG
 Keys:List zZ
 deriving DecidableEq,Inhabited
def yA.cs (x:yA):List PV:=[.sl 1 (Q3 PV.bytes x.Seeds),.sl 1 (Q3 PV.bytes x.Auths),.bytes x.Entropy,.int .i64 x.Active,.int .i64 x.Resets,.int .i64 x.Restarts,.int .i64 x.Clock,.bool x.Orderly,.sl 1 (Q3 (eSl 1 PV.bytes) x.Saved.Banks),.int .i64 x.Saved.Updates,.int .i64 x.MaxCounter,.sl 8 (Q3 zF.pv x.Indices),.int .i64 x.Lockout.Failed,.int .i64 x.Lockout.Max,.int .i64 x.Lockout.Recovery,.int .i64 x.Lockout.Since,.int .i64 x.Lockout.Closed,.int .i64 x.Lockout.Penalty,.sl 2 (Q3 zZ.pv x.Keys)]
def yA.pv (x:yA):PV:=.agg x.cs
abbrev yA.av (x:yA) (r:List AV):List AV:=qL 1 PV.bytes x.Seeds :: qL 1 PV.bytes x.Auths :: qY x.Entropy :: qI x.Active :: qI x.Resets :: qI x.Restarts :: qI x.Clock :: qB x.Orderly :: qL 1 (eSl 1 PV.bytes) x.Saved.Banks :: qI x.Saved.Updates :: qI x.MaxCounter :: qL 8 zF.pv x.Indices :: qI x.Lockout.Failed :: qI x.Lockout.Max :: qI x.Lockout.Recovery :: qI x.Lockout.Since :: qI x.Lockout.Closed :: qI x.Lockout.Penalty :: qL 2 zZ.pv x.Keys :: r
structure zI where
 Kind:Int
 Nonce:By
 Digest:By
 Updates:Int
 Localities:Int
 Command:Int
 Deadline:Int
 AuthValue:Bool
 deriving DecidableEq,Inhabited
def zI.cs (x:zI):List PV:=[.int .i64 x.Kind,.bytes x.Nonce,.bytes x.Digest,.int .i64 x.Updates,.int .i64 x.Localities,.int .i64 x.Command,.int .i64 x.Deadline,.bool x.AuthValue]
def zI.pv (x:zI):PV:=.agg x.cs
structure zM where
 Kind:Int
 Attr:Int
 Height:Int
 Policy:By
 Unique:By
 deriving DecidableEq,Inhabited
def zM.cs (x:zM):List PV:=[.int .i64 x.Kind,.int .i64 x.Attr,.int .i64 x.Height,.bytes x.Policy,.bytes x.Unique]
def zM.pv (x:zM):PV:=.agg x.cs
structure zK where
 Auth:By
 Seed:By
 Data:By
 deriving DecidableEq,Inhabited
def zK.cs (x:zK):List PV:=[.bytes x.Auth,.bytes x.Seed,.bytes x.Data]
def zK.pv (x:zK):PV:=.agg x.cs
structure zS where
 Public:zM
 Sensitive:zK
 Hierarchy:Int
 deriving DecidableEq,Inhabited
def zS.cs (x:zS):List PV:=[.int .i64 x.Public.Kind,.int .i64 x.Public.Attr,.int .i64 x.Public.Height,.bytes x.Public.Policy,.bytes x.Public.Unique,.bytes x.Sensitive.Auth,.bytes x.Sensitive.Seed,.bytes x.Sensitive.Data,.int .i64 x.Hierarchy]
def zS.pv (x:zS):PV:=.agg x.cs
structure yG where
 Started:Bool
 Stopped:Bool
 Registers:zE
 Clock:Int
 Safe:Bool
 Draws:Int
 Sessions:List zI
 Objects:List zS
 ReadLocks:List Int
 WriteLocks:List Int
 deriving DecidableEq,Inhabited
structure zB where
 Stable:yA
 Volatile:yG
 deriving DecidableEq,Inhabited
def zB.cs (x:zB):List PV:=[.sl 1 (Q3 PV.bytes x.Stable.Seeds),.sl 1 (Q3 PV.bytes x.Stable.Auths),.bytes x.Stable.Entropy,.int .i64 x.Stable.Active,.int .i64 x.Stable.Resets,.int .i64 x.Stable.Restarts,.int .i64 x.Stable.Clock,.bool x.Stable.Orderly,.sl 1 (Q3 (eSl 1 PV.bytes) x.Stable.Saved.Banks),.int .i64 x.Stable.Saved.Updates,.int .i64 x.Stable.MaxCounter,.sl 8 (Q3 zF.pv x.Stable.Indices),.int .i64 x.Stable.Lockout.Failed,.int .i64 x.Stable.Lockout.Max,.int .i64 x.Stable.Lockout.Recovery,.int .i64 x.Stable.Lockout.Since,.int .i64 x.Stable.Lockout.Closed,.int .i64 x.Stable.Lockout.Penalty,.sl 2 (Q3 zZ.pv x.Stable.Keys),.bool x.Volatile.Started,.bool x.Volatile.Stopped,.sl 1 (Q3 (eSl 1 PV.bytes) x.Volatile.Registers.Banks),.int .i64 x.Volatile.Registers.Updates,.int .i64 x.Volatile.Clock,.bool x.Volatile.Safe,.int .i64 x.Volatile.Draws,.sl 8 (Q3 zI.pv x.Volatile.Sessions),.sl 9 (Q3 zS.pv x.Volatile.Objects),.sl 1 (Q3 (PV.int .i64) x.Volatile.ReadLocks),.sl 1 (Q3 (PV.int .i64) x.Volatile.WriteLocks)]
def zB.pv (x:zB):PV:=.agg x.cs
abbrev zB.av (x:zB) (r:List AV):List AV:=qL 1 PV.bytes x.Stable.Seeds :: qL 1 PV.bytes x.Stable.Auths :: qY x.Stable.Entropy :: qI x.Stable.Active :: qI x.Stable.Resets :: qI x.Stable.Restarts :: qI x.Stable.Clock :: qB x.Stable.Orderly :: qL 1 (eSl 1 PV.bytes) x.Stable.Saved.Banks :: qI x.Stable.Saved.Updates :: qI x.Stable.MaxCounter :: qL 8 zF.pv x.Stable.Indices :: qI x.Stable.Lockout.Failed :: qI x.Stable.Lockout.Max :: qI x.Stable.Lockout.Recovery :: qI x.Stable.Lockout.Since :: qI x.Stable.Lockout.Closed :: qI x.Stable.Lockout.Penalty :: qL 2 zZ.pv x.Stable.Keys :: qB x.Volatile.Started :: qB x.Volatile.Stopped :: qL 1 (eSl 1 PV.bytes) x.Volatile.Registers.Banks :: qI x.Volatile.Registers.Updates :: qI x.Volatile.Clock :: qB x.Volatile.Safe :: qI x.Volatile.Draws :: qL 8 zI.pv x.Volatile.Sessions :: qL 9 zS.pv x.Volatile.Objects :: qL 1 (PV.int .i64) x.Volatile.ReadLocks :: qL 1 (PV.int .i64) x.Volatile.WriteLocks :: r
structure zJ where
 Session:Int
 Nonce:By
 Value:By
 deriving DecidableEq,Inhabited
def zJ.cs (x:zJ):List PV:=[.int .i64 x.Session,.bytes x.Nonce,.bytes x.Value]
def zJ.pv (x:zJ):PV:=.agg x.cs
structure zC where
 Code:Int
 Handles:List Int
 Auths:List zJ
 Ints:List Int
 Blobs:List By
 deriving DecidableEq,Inhabited
def zC.cs (x:zC):List PV:=[.int .i64 x.Code,.sl 1 (Q3 (PV.int .i64) x.Handles),.sl 3 (Q3 zJ.pv x.Auths),.sl 1 (Q3 (PV.int .i64) x.Ints),.sl 1 (Q3 PV.bytes x.Blobs)]
def zC.pv (x:zC):PV:=.agg x.cs
structure zD where
 Err:Int
 Ints:List Int
 Blobs:List By
 Nonces:List By
 deriving DecidableEq,Inhabited
def zD.cs (x:zD):List PV:=[.int .i64 x.Err,.sl 1 (Q3 (PV.int .i64) x.Ints),.sl 1 (Q3 PV.bytes x.Blobs),.sl 1 (Q3 PV.bytes x.Nonces)]
def zD.pv (x:zD):PV:=.agg x.cs
structure yH where
 s_:zB
 q_:zC
 a_:zJ
 handle_:Int
 deriving DecidableEq,Inhabited
def yH.cs (x:yH):List PV:=[.sl 1 (Q3 PV.bytes x.s_.Stable.Seeds),.sl 1 (Q3 PV.bytes x.s_.Stable.Auths),.bytes x.s_.Stable.Entropy,.int .i64 x.s_.Stable.Active,.int .i64 x.s_.Stable.Resets,.int .i64 x.s_.Stable.Restarts,.int .i64 x.s_.Stable.Clock,.bool x.s_.Stable.Orderly,.sl 1 (Q3 (eSl 1 PV.bytes) x.s_.Stable.Saved.Banks),.int .i64 x.s_.Stable.Saved.Updates,.int .i64 x.s_.Stable.MaxCounter,.sl 8 (Q3 zF.pv x.s_.Stable.Indices),.int .i64 x.s_.Stable.Lockout.Failed,.int .i64 x.s_.Stable.Lockout.Max,.int .i64 x.s_.Stable.Lockout.Recovery,.int .i64 x.s_.Stable.Lockout.Since,.int .i64 x.s_.Stable.Lockout.Closed,.int .i64 x.s_.Stable.Lockout.Penalty,.sl 2 (Q3 zZ.pv x.s_.Stable.Keys),.bool x.s_.Volatile.Started,.bool x.s_.Volatile.Stopped,.sl 1 (Q3 (eSl 1 PV.bytes) x.s_.Volatile.Registers.Banks),.int .i64 x.s_.Volatile.Registers.Updates,.int .i64 x.s_.Volatile.Clock,.bool x.s_.Volatile.Safe,.int .i64 x.s_.Volatile.Draws,.sl 8 (Q3 zI.pv x.s_.Volatile.Sessions),.sl 9 (Q3 zS.pv x.s_.Volatile.Objects),.sl 1 (Q3 (PV.int .i64) x.s_.Volatile.ReadLocks),.sl 1 (Q3 (PV.int .i64) x.s_.Volatile.WriteLocks),.int .i64 x.q_.Code,.sl 1 (Q3 (PV.int .i64) x.q_.Handles),.sl 3 (Q3 zJ.pv x.q_.Auths),.sl 1 (Q3 (PV.int .i64) x.q_.Ints),.sl 1 (Q3 PV.bytes x.q_.Blobs),.int .i64 x.a_.Session,.bytes x.a_.Nonce,.bytes x.a_.Value,.int .i64 x.handle_]
def yH.pv (x:yH):PV:=.agg x.cs
abbrev yH.av (x:yH) (r:List AV):List AV:=qL 1 PV.bytes x.s_.Stable.Seeds :: qL 1 PV.bytes x.s_.Stable.Auths :: qY x.s_.Stable.Entropy :: qI x.s_.Stable.Active :: qI x.s_.Stable.Resets :: qI x.s_.Stable.Restarts :: qI x.s_.Stable.Clock :: qB x.s_.Stable.Orderly :: qL 1 (eSl 1 PV.bytes) x.s_.Stable.Saved.Banks :: qI x.s_.Stable.Saved.Updates :: qI x.s_.Stable.MaxCounter :: qL 8 zF.pv x.s_.Stable.Indices :: qI x.s_.Stable.Lockout.Failed :: qI x.s_.Stable.Lockout.Max :: qI x.s_.Stable.Lockout.Recovery :: qI x.s_.Stable.Lockout.Since :: qI x.s_.Stable.Lockout.Closed :: qI x.s_.Stable.Lockout.Penalty :: qL 2 zZ.pv x.s_.Stable.Keys :: qB x.s_.Volatile.Started :: qB x.s_.Volatile.Stopped :: qL 1 (eSl 1 PV.bytes) x.s_.Volatile.Registers.Banks :: qI x.s_.Volatile.Registers.Updates :: qI x.s_.Volatile.Clock :: qB x.s_.Volatile.Safe :: qI x.s_.Volatile.Draws :: qL 8 zI.pv x.s_.Volatile.Sessions :: qL 9 zS.pv x.s_.Volatile.Objects :: qL 1 (PV.int .i64) x.s_.Volatile.ReadLocks :: qL 1 (PV.int .i64) x.s_.Volatile.WriteLocks :: qI x.q_.Code :: qL 1 (PV.int .i64) x.q_.Handles :: qL 3 zJ.pv x.q_.Auths :: qL 1 (PV.int .i64) x.q_.Ints :: qL 1 PV.bytes x.q_.Blobs :: qI x.a_.Session :: qY x.a_.Nonce :: qY x.a_.Value :: qI x.handle_ :: r
structure mH where
 code_:Int
 handles_:Int
 auths_:Int
 ints_:Int
 blobs_:Int
 deriving DecidableEq,Inhabited
def mH.cs (x:mH):List PV:=[.int .i64 x.code_,.int .i64 x.handles_,.int .i64 x.auths_,.int .i64 x.ints_,.int .i64 x.blobs_]
structure wO where
 name_:By
 value_:By
 policy_:By
 protected_:Bool
 deriving DecidableEq,Inhabited
def wO.cs (x:wO):List PV:=[.bytes x.name_,.bytes x.value_,.bytes x.policy_,.bool x.protected_]
def wO.pv (x:wO):PV:=.agg x.cs
structure zH where
 Kind:Int
 Selection:A2 Int
 Digest:By
 N:Int
 Op:Int
 Operand:By
 Name:By
 Ref:By
 Branches:List By
 deriving DecidableEq,Inhabited
def zH.cs (x:zH):List PV:=[.int .i64 x.Kind,.int .i64 x.Selection.a0,.int .i64 x.Selection.a1,.bytes x.Digest,.int .i64 x.N,.int .i64 x.Op,.bytes x.Operand,.bytes x.Name,.bytes x.Ref,.sl 1 (Q3 PV.bytes x.Branches)]
def zH.pv (x:zH):PV:=.agg x.cs
structure wT where
 Key:By
 Nonce:By
 Resets:Int
 Restarts:Int
 Clock:Int
 Safe:Bool
 Updates:Int
 Selection:A2 Int
 Digest:By
 deriving DecidableEq,Inhabited
def wT.cs (x:wT):List PV:=[.bytes x.Key,.bytes x.Nonce,.int .i64 x.Resets,.int .i64 x.Restarts,.int .i64 x.Clock,.bool x.Safe,.int .i64 x.Updates,.int .i64 x.Selection.a0,.int .i64 x.Selection.a1,.bytes x.Digest]
def wT.pv (x:wT):PV:=.agg x.cs
structure zQ where
 B:By
 At:Int
 Error:Int
 deriving DecidableEq,Inhabited
def zQ.cs (x:zQ):List PV:=[.bytes x.B,.int .i64 x.At,.int .i64 x.Error]
structure yY where
 b_:By
 at_:Int
 e_:Int
 deriving DecidableEq,Inhabited
def yY.cs (x:yY):List PV:=[.bytes x.b_,.int .i64 x.at_,.int .i64 x.e_]
def zL8 (b:By) (n:Int):Option By:=
 match b with
 | [x]=>bif (n==20||n==32) then some (List.replicate n.toNat x) else none
 | _=>none
def slices_Clone {α:Type} (b:Nat) (l:List α):Option (List α):=bif Qj (l.length*b) 140737488355328 then some l else none
end Go.Proofs.TT
