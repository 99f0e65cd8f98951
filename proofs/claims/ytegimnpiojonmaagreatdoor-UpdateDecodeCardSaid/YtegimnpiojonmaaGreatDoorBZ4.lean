/- UpdateDecode holds for all inputs -/
import Derived.Test.YtegimnpiojonmaaGreatDoorBZ3
set_option linter.all false
open Array renaming getD_eq_getD_getElem? -> Q0, length_toList -> Qn, size_append -> Qp
open Nat renaming eq_of_beq_eq_true -> Q1, le_of_ble_eq_true -> Q2, beq -> Q3, mul_le_mul_right -> Q8, blt -> Qa, eq_of_mul_eq_mul_right -> Qc, add_mul -> Qg, eq_zero_or_pos -> Qh, le_refl -> Qm, le_mul_of_pos_right -> Qo, mul_pos -> Qq, mul_comm -> Qx, ble -> Qz, div_lt_of_lt_mul -> W2, le_trans -> W4, zero_add -> W5, div_add_mod -> Wa
open Option renaming map_eq_some_iff -> Q4, getD_some -> Qr, map_some -> Wg
open List renaming mem_cons -> Q5, mem_append -> Q6, mem_map -> Q7, map_cons -> Q9, size_toArray -> Qd, eq_nil_of_length_eq_zero -> Qe, all_eq_true -> Qf, mem_cons_of_mem -> Qs, getElem_of_mem -> Qt, length_append -> Qu, length_map -> Qy, getElem_mem -> W6, cons_append -> W7, length_nil -> W8, nil_append -> W9, length_set -> Wc, map_append -> We, append_nil -> Wf
open Bool renaming and_eq_true -> Qb, eq_false_iff -> Qi, true_and -> W3
open Go.Sw.PV renaming len -> Qj, src -> Qk, width -> W1, isSlice -> Wb, one -> Wd
open Go.World renaming cell? -> Ql
open Go.Sw.Mic renaming ws -> Qv, upd -> W0
open Go.Builtin renaming zeroCells -> Qw, len_ -> Wh
namespace Go.Sw
open Go
variable {B B2:List (Nat×List AV)}{D:List Nat}{K:AS->List Mic->Prop}{M:Mem}{N:Nat}{P:Program}{Q:Exit->AS->Prop}{a:Act}{af:Array Edge}{args:Array Value}{as:AS}{av:AV}{ax:Operand}{bB bb bc bl blk blk' bn:LB}{body:Code}{bout bs:LB}{c:PV}{cs:List AV}{cx:Ctx}{d:Nat}{dd:TypeDesc}{e e2:TypeId}{ei:TI}{env env':LV}{f:FuncId}{fr:List Nat}{hi:Operand}{i:TI}{j k k0 k2:Nat}{kh kl:IntKind}{ks:List Nat}{l l2:List AV}{m na off:Nat}{ops:Array Oper}{p:PV}{pk:PKs}{pl:List (Nat×Operand)}{pos:String}{q:PV}{qs:List AV}{r:List Oper}{rs:LV}{s s':AS}{t t' t2:TypeId}{te:TE}{tip tip':Nat->Value}{tl:List TypeId}{ts:Array TypeId}{ty:TypeId}{u:AV}{us vs:List AV}{vy:AV}{w wd:Nat}{x:Operand}{xl:List Operand}{xs:Array Operand}{y:Operand}{ys:Array Operand}{α:Type}{κ κ':Nat->Option Nat}{μ:List (Nat×Nat)}{ρ:Nat->Nat}{l':List α}
section
variable {o:Oper} {v:AV} 
theorem zQn {cx:Ctx} {B:NB} {n:Nat} {z:Value} (hb:B k=some (.own wd l)) (hn:n*wd=l.length) (h:RepA M κ tip B (.own k n) z):z=tip k:=by
 cases h with
 | own _ _ w' l' _ h1 h2 h3 hs=>rw [hb] at h1;cases h1;exact h3 hn
theorem zQx {ity:TypeId} {n:Nat} {i:Int} (hok:yX P te) (ho:o.op=.indexAddr t x y) (ht:(te t).map (·.ty)=some (.slice e)) (he:te e=some ei)
  (hx:s.get te t x=some (.own k n)) (hb:s.blk k=some (.own wd l)) (hn:n*wd=l.length) (hw:wd=ei.w) (hy:s.get te ity y=some (.p (.int .i64 i))) (h0:0<=i) (h1:i<n) :
  VA P o s (opS x (.own k n)++opS y (.p (.int .i64 i))) [(k,.own wd l)] (.optr k n (i.toNat*ei.w)):=by
 refine ⟨?_,yM (zM hx) (zM hy),by simpa using hb⟩;intro cx M κ tip s' a w hi hr hb';have hbk:=hb' (k,.own wd l) (by simp);simp only at hbk;have hx':=yF hi (yN hx s' (yI hr));have h2:=rep_int (repA_pv (yF hi (yN hy s' (zZ hr))));have hu:=xA hok ht;have hsz:=tC hok he w;have hev:=zQn (cx:=cx) hbk hn hx';obtain ⟨g1,g2⟩:=hi.owns.live hbk hn;rcases g2 with ⟨_,_,rfl⟩ | ⟨b,n1,cap,arr,e1,fz,q1,q2,q3,q4,q5,q6,q7,q8,q9,q10,q11⟩
 ·have hp:=Qq (show 0<n by omega) g1;simp only [W8] at hn;omega
 ·have hnn:n1=n:=Qc g1 (by omega);subst hnn;rw [q1] at hev;exact ⟨.pointer (some ⟨b,0+i.toNat*ei.w,none⟩),by simp [execOp,ho,hev,h2,Instr.indexAt,asIntOf,run_underlying hu,h0,h1,hsz,add_off],.optr k n1 _ wd l _ hbk (by omega) (λ_=>⟨b,q2,by simp⟩) ⟨_,rfl⟩⟩
theorem zYr {n:Nat} (hok:yX P te) (ho:o.op=.call { callee:=.builtin .len,args:=#[x],argTypes:=#[t] }) (ht:(te t).map (·.ty)=some (.slice e)) (hx:s.get te t x=some (.own k n)) (hb:s.blk k=some (.own wd l)) (hn:n*wd=l.length):VA P o s (opS x (.own k n)) [(k,.own wd l)] (.p (.int .i64 n)):=by
 refine ⟨?_,zM hx,by simpa using hb⟩;intro cx M κ tip s' a w hi hr hb';have hbk:=hb' (k,.own wd l) (by simp);simp only at hbk;have hev:=zQn (cx:=cx) hbk hn (yF hi (yN hx s' hr));have hu:=xA hok ht;obtain ⟨g1,g2⟩:=hi.owns.live hbk hn;rcases g2 with ⟨y1,_,rfl⟩ | ⟨b,n1,cap,arr,e1,fz,q1,q2,q3,q4,q5,q6,q7,q8,q9,q10,q11⟩
 ·have:n=0:=by
            rcases Qh n with h | h
            ·exact h
            ·have:=Qq h g1;simp at hn;omega
  subst this;rw [y1] at hev;exact ⟨.int .i64 0,by simp [execOp,ho,hev,resolve,invoke,builtin,Wh,run_underlying hu,goInt],.p _ _ (.int _ _)⟩
 ·have hnn:n1=n:=Qc g1 (by omega);subst hnn;rw [q1] at hev;exact ⟨.int .i64 n1,by simp [execOp,ho,hev,resolve,invoke,builtin,Wh,run_underlying hu,goInt],.p _ _ (.int _ _)⟩
theorem zRu {n:Nat} (hok:yX P te) (ho:o.op=.load t x) (ht:te t=some i) (hp:i.plain=true) (hx:s.get te ty x=some (.optr k n off)) (hb:s.blk k=some (.own wd l)) (hn:n*wd=l.length) (hv:l[off]? = some v) :
  VA P o s (opS x (.optr k n off)) [(k,.own wd l)] v:=by
 refine ⟨?_,zM hx,by simpa using hb⟩;intro cx M κ tip s' a w hi hr hb';have hx':=yF hi (yN hx s' hr);have hbk:=hb' (k,.own wd l) (by simp);simp only at hbk;obtain ⟨g1,g2⟩:=hi.owns.live hbk hn;generalize hev:a.eval x=z at hx';cases hx' with
 | optr _ _ _ w' l' _ h1 h2 h3 hs=>
  rw [hbk] at h1;cases h1;obtain ⟨b,hκ,rfl⟩:=h3 hn;rcases g2 with ⟨_,y2,_⟩ | ⟨b',n1,cap,arr,e1,fz,q1,q2,q3,q4,q5,q6,q7,q8,q9,q10,q11⟩
  ·rw [hκ] at y2;cases y2
  ·rw [hκ] at q2;cases q2;have hlt:off<l.length:=(List.getElem?_eq_some_iff.1 hv).1;have hfit:n1*wd<=cap*wd:=Q8 _ q8;have hlt':off<arr.size:=by omega
   have hcell:w.cell? ⟨b,off,none⟩=some arr[off]:=by simp [Ql,q4,hlt']
   refine ⟨arr[off],?_,?_⟩
   ·simp [execOp,ho,hev,Instr.loadAt,Instr.sureAddr,gG hok ht hp hcell]
   ·have:=q10 off v hv;simpa [hlt'] using this
theorem zUq {b:ABlk} (h:s.blk k=some b):s.setb k b=s:=by
 cases s with
 | mk env blk=>
  simp only [AS.setb];congr 1;funext t;by_cases ht:t=k
  ·subst ht;simp;exact h.symm
  ·have:Q3 t k=false:=by rw [Qi];intro e;exact ht (Q1 e)
   simp [this]
end
section
variable {o:Oper} {v:AV} 
def zY0 (P:Program) (y:Operand) (rs:LV) (bs:LB) (size m:Nat) (cs:List AV):Prop:=
 ∀ (cx:Ctx) (M:Mem) (κ:Nat->Option Nat) (tip:Nat->Value) (s:AS) (a:Act) (w:World),Inv cx M κ tip s a w->wN s rs->(∀ e∈bs,s.blk e.1=some e.2) ->
  ∃ news,Src P w size m (a.eval y) news/\∀ (j:Nat) (q:AV),cs[j]? = some q->RepA M κ tip s.blk q ((news[j]?).getD undef)
theorem zQi {n:Nat} (hok:yX P te) (hd:o.dst=some d) (ho:o.op=.call { callee:=.builtin .append,args:=#[x,y],argTypes:=#[t,t'] })
  (ht:(te t).map (·.ty)=some (.slice e)) (he:te e=some ei) (ht':P.underlying t'=some dd) (hdd:zCo dd) (hx:s.get te t x=some (.own k n)) (hk:s.blk k=some (.own wd l)) (hn:n*wd=l.length) (hcw:wd=ei.w) (hz:ei.z.length=ei.w) (hy:s.get te t' y=some vy) (hbs:∀ e∈bs,s.blk e.1=some e.2)
  (hsrc:zY0 P y (opS y vy) bs ei.w m cs) (hm:cs.length=m*ei.w) (hone:cs.all AV.one=true) (hb:(n+m)*ei.b<=140737488355328) (hb1:0<ei.b) :
  SA P o s ⟨opS x (.own k n)++opS y vy,(k,.own wd l) :: bs,[],some (d,some (.own k (n+m))),[(k,.own wd (l++cs))]⟩:=by
 refine ⟨?_,yM (zM hx) (zM hy),?_,by intro k hk';simp at hk'⟩
 ·intro cx s' a w K Q hmm hs hws hk';obtain ⟨M,κ,tip,h0,hpk,hi⟩:=hs;have hbk:=hmm.2.1 (k,.own wd l) (by simp);simp only at hbk;have hevx:=zQn (cx:=cx) hbk hn (yF hi (yN hx s' (yI hmm.1)));obtain ⟨news,n1,n2⟩:=hsrc cx M κ tip s' a w hi (zZ hmm.1) (λe he=>hmm.2.1 e (by simp [he]));obtain ⟨g1,g2⟩:=hi.owns.live hbk hn;obtain ⟨info,z,i1,i2,i3,i4,i5⟩:=(hok e ei he).info;have hu:=xA hok ht;have hlen:n+m<=140737488355328:=W4 (Qo _ hb1) hb;have hnl:news.length=m*ei.w:=n1.nl;have hnc:news.length=cs.length:=by omega
  rw [<- i2] at n1;have hzs:z.cells.size=ei.w:=by rw [<- Qn,i5];simpa using hz
  have hlc:(l++cs).length=(n+m)*wd:=by rw [Qu,hm,<- hn,hcw,Qg]
  have honev:∀ u∈news,u.oneCell'=true:=by
   intro u hu;obtain ⟨j,hj,hju⟩:=Qt hu;have hq:=n2 j cs[j] (by simp);rw [List.getElem?_eq_getElem hj,hju] at hq;exact zHh hq ((Qf.1 hone) _ (W6 _))
  unfold Oper.wp;rcases g2 with ⟨hnil,hκ,rfl⟩ | ⟨b,n',cap,arr,e1,fz,q1,q2,q3,q4,q5,q6,q7,q8,q9,q10,q11⟩
  ·have hn0:n=0:=by
    rcases Qh n with h | h
    ·exact h
    ·have:=Qq h g1;simp only [W8] at hn;omega
   subst hn0;simp only [W9,W5] at *;by_cases hm0:m=0
   ·subst hm0;have hcs:cs=[]:=Qe (by omega);subst hcs;have hrun:=gU (P:=P) (ty:=o.type) hu ht' hdd i1 n1;rw [vC ho (hevx.trans hnil) hrun];show K (a.put o.dst _) _;rw [hd];refine hk' _ _ ?_;rw [sN,zUq hbk];exact ⟨M,κ,tip,h0,hpk,hi.put (hws d (by simp [Qv])) (.own k 0 wd [] _ hbk (by simp) (λ_=>hnil.symm) ⟨_,_,_,rfl⟩)⟩
   ·have hrun:=dR (P:=P) (ty:=o.type) hu ht' hdd i1 i4 n1 (by omega) (by rw [i3];exact hb) (by omega);rw [vC ho (hevx.trans hnil) hrun];show K (a.put o.dst _) _;rw [hd];refine hk' _ _ ?_;rw [sN];have hge:=grownCap_ge w m 0 e;have hsize:(news.toArray++Qw z.cells (grownCap w m 0 e - m)).size=grownCap w m 0 e*ei.w:=by
     simp only [Qp,Qd,size_zeroCells,hzs,hnl,<- Qg];congr 1;omega
    have hml:grownCap w m 0 e<=maxLen:=grownCap_le_maxLen w m 0 e (by simp only [maxLen];omega);have hpos:=Qq (show 0<m by omega) g1;refine ⟨M,_,_,h0,zS2 hi hpk hbk _,(hi.ownNew (k:=k) (wd:=wd) (n:=m) (cap:=grownCap w m 0 e) (l:=cs) (nC w _ e) (.inr ⟨[],hbk,by simp;omega⟩) g1 (by omega) (by rw [hsize,hcw];exact Qm _) hge hml ?_).put (hws d (by simp [Qv])) (.own k m wd cs _ (zW _ _ _) (by omega) (λ_=>(xF _ _ _).symm) ⟨_,_,_,rfl⟩)⟩;intro j q hq;have hlt:j<cs.length:=(List.getElem?_eq_some_iff.1 hq).1;rw [Q0,Array.getElem?_append_left (by simp;omega)];have:=n2 j q hq;simpa using this
  ·have hnn:n'=n:=Qc g1 (by omega);subst hnn;have hfit0:n'*wd<=cap*wd:=Q8 _ q8;by_cases hroom:n'+m<=cap
   ·have hfits:(n'+m)*wd<=arr.size:=W4 (Q8 _ hroom) q7;have hadd:(n'+m)*wd=n'*wd+m*wd:=Qg _ _ _;have hnw:news.length=m*wd:=by rw [hnl,hcw]
    have hrun:=zIe (P:=P) (ty:=o.type) hu ht' hdd i1 n1 (b:=b) (n:=n') (cap:=cap) honev hroom
     (by
       intro j hj;rw [i2,<- hcw];have:n'*wd+j<arr.size:=by omega
       simp [Ql,q4,this])
     (by intro j hj;rw [i2,<- hcw];exact oC q4 q5 (by omega))
    rw [vC ho (hevx.trans q1) hrun];show K (a.put o.dst _) _;rw [hd];refine hk' _ _ ?_;rw [sN,i2,<- hcw];obtain ⟨arr',z1,z2,z3⟩:=qH b news (n'*wd) w arr e1 fz q4 (by omega);refine ⟨M,κ,_,h0,hpk,(hi.ownSet (n':=n'+m) (l':=l++cs) hbk q1 q2 q3 (by rw [z2];exact q5) z1 (by rw [z2];exact q7) hroom q9 g1 q11 (by omega) (by simp) q6 ?_).put (hws d (by simp [Qv])) (.own k (n'+m) wd (l++cs) _ (zW _ _ _) (by omega) (λ_=>(xF _ _ _).symm) ⟨_,_,_,rfl⟩)⟩;intro j q hq;rw [Q0,z3 j];by_cases hj:j<l.length
    ·rw [List.getElem?_append_left hj] at hq;rw [if_neg (by omega)];have:=q10 j q hq;rw [Q0] at this;exact this
    ·rw [List.getElem?_append_right (by omega)] at hq;have hlt:j - l.length<cs.length:=(List.getElem?_eq_some_iff.1 hq).1;rw [if_pos (by omega)];have:=n2 _ q hq;rw [show j - n'*wd=j - l.length by omega];exact this
   ·have hol:(arr.toList.take (n'*wd)).length=n'*info.size:=by simp [i2,<- hcw];omega
    have hrun:=zIb (P:=P) (ty:=o.type) hu ht' hdd i1 i4 n1 (b:=b) (n:=n') (cap:=cap) (olds:=arr.toList.take (n'*wd)) hol
     (by
      intro j u hu;rw [List.getElem?_take] at hu;split at hu
      ·simp only [Ql,q4];simpa using hu
      ·cases hu)
     (by omega) (by rw [i3];exact hb) (by omega)
    rw [vC ho (hevx.trans q1) hrun];show K (a.put o.dst _) _;rw [hd];refine hk' _ _ ?_;rw [sN];have hge:=grownCap_ge w (n'+m) cap e;have hml:grownCap w (n'+m) cap e<=maxLen:=grownCap_le_maxLen w _ cap e (by simp only [maxLen];omega);have hmp:0<m:=by omega
    have hmw:=Qq hmp g1;have hadd:(n'+m)*wd=n'*wd+m*wd:=Qg _ _ _;have htl:(arr.toList.take (n'*wd)).length=n'*wd:=by simp;omega
    generalize hA:((arr.toList.take (n'*wd)).toArray++news.toArray++Qw z.cells (grownCap w (n'+m) cap e - (n'+m)))=A;have hsize:A.size=grownCap w (n'+m) cap e*ei.w:=by
     rw [<- hA];have hsub:(grownCap w (n'+m) cap e - (n'+m))*ei.w=grownCap w (n'+m) cap e*ei.w - (n'+m)*ei.w:=Nat.sub_mul _ _ _;have hge2:(n'+m)*ei.w<=grownCap w (n'+m) cap e*ei.w:=Q8 _ hge;simp only [Qp,Qd,htl,size_zeroCells,hzs,hnl];rw [hsub,hcw];rw [hcw] at hadd;omega
    refine ⟨M,_,_,h0,zS2 hi hpk hbk _,(hi.ownNew (k:=k) (wd:=wd) (n:=n'+m) (cap:=grownCap w (n'+m) cap e) (l:=l++cs) (nC w A e) (.inr ⟨l,hbk,by omega⟩) g1 (by omega) (by rw [hsize,hcw];exact Qm _) hge hml ?_).put (hws d (by simp [Qv])) (.own k (n'+m) wd (l++cs) _ (zW _ _ _) (by omega) (λ_=>(xF _ _ _).symm) ⟨_,_,_,rfl⟩)⟩;intro j q hq;have hnw:news.length=m*wd:=by rw [hnl,hcw]
    have hjt:j<(l++cs).length:=(List.getElem?_eq_some_iff.1 hq).1;rw [Q0,<- hA,Array.getElem?_append_left (by simp only [Qp,Qd,htl];omega)];by_cases hj:j<l.length
    ·rw [List.getElem?_append_left hj] at hq;rw [Array.getElem?_append_left (by simp only [Qd,htl];omega)];have:=q10 j q hq;rw [Q0] at this;simp only [List.getElem?_toArray,List.getElem?_take];rw [if_pos (by omega)];simpa using this
    ·rw [List.getElem?_append_right (by omega)] at hq;rw [Array.getElem?_append_right (by simp only [Qd,htl];omega)];have:=n2 _ q hq;simp only [Qd,htl,List.getElem?_toArray];rw [show j - n'*wd=j - l.length by omega];exact this
 ·intro e he;rcases Q5.1 he with he | he
  ·subst he;exact hk
  ·exact hbs e he
def PV.ecs:PV->List AV
 | .bytes l=>l.map λx=>.p (.int .u8 x.toNat)
 | .str l=>l.map λx=>.p (.int .u8 x.toNat)
 | .sl _ l=>(flatCells l).map .p
 | _=>[]
theorem zI8 {B:NB} {g:Nat->Value} {news:List Value} (hc:oN M p.src g) (hsl:p.src.isSlice=true) (hw:p.src.width=wd) (hn:∀ j,j<p.src.len*wd->news[j]? = some (g j)) :
  p.ecs.length=p.src.len*wd/\∀ (j:Nat) (q:AV),p.ecs[j]? = some q->RepA M κ tip B q ((news[j]?).getD undef):=by
 have hby:∀ (l:By),oN M (.bytes l) g->(∀ j,j<l.length*1->news[j]? = some (g j))->∀ (j:Nat) (q:AV),(l.map λx=>AV.p (.int .u8 x.toNat))[j]? = some q->RepA M κ tip B q ((news[j]?).getD undef):=by
  intro l hc hn j q hq;rw [List.getElem?_map] at hq;obtain ⟨u,h1,h2⟩:=Q4.1 hq;have hlt:j<l.length:=(List.getElem?_eq_some_iff.1 h1).1;rw [hn j (by omega),<- h2,Qr,hc j u h1];exact .p _ _ (.int _ _)
 cases p with
 | bytes l=>simp only [Qk,W1] at *;subst hw;exact ⟨by simp [PV.ecs,Qj],hby l hc hn⟩
 | str l=>simp only [Qk,W1] at *;subst hw;exact ⟨by simp [PV.ecs,Qj],hby l hc hn⟩
 | sl w' l=>
  simp only [Qk,W1] at *;subst hw;obtain ⟨c1,c2⟩:=hc;have hwf:∀ p∈l,p.cells.length=w':=λp hp=>by obtain ⟨i,hi,h⟩:=Qt hp;exact c1 i p (by simp [hi,h])
  obtain ⟨f1,f2⟩:=flat_get l hwf;refine ⟨by simp [PV.ecs,Qj,f1],λj q hq=>?_⟩;simp only [PV.ecs] at hq;rw [List.getElem?_map] at hq;obtain ⟨u,h1,h2⟩:=Q4.1 hq;have hlt:j<(flatCells l).length:=(List.getElem?_eq_some_iff.1 h1).1;have hw0:0<w':=by
   rcases Qh w' with h | h
   ·subst h;omega
   ·exact h
  have hdm:w'*(j / w')+j % w'=j:=Wa j w';have hi:j / w'<l.length:=W2 (by rw [Qx];omega);have hp:l[j / w']? = some l[j / w']:=by simp
  have hcl:=c1 _ _ hp;have hr:j % w'<l[j / w'].cells.length:=by rw [hcl];exact Nat.mod_lt _ hw0
  have hqq:l[j / w'].cells[j % w']? = some l[j / w'].cells[j % w']:=by simp
  have e:j / w'*w'+j % w'=j:=by rw [Qx];exact hdm
  have h3:=f2 _ _ _ _ hp hqq;rw [e,h1] at h3;cases h3;have h4:=c2 _ _ _ _ hp hqq;rw [e] at h4;rw [hn j (by simp only [Qj];omega),<- h2,Qr];exact .p _ _ h4
 | _=>simp [Qk,Wb] at hsl
theorem zJg (hy:s.get te t' y=some vy) (hp:s.rd vy=some (p,bs)) (hsl:p.src.isSlice=true) (hw:p.src.width=wd) (hw0:0<wd):zY0 P y (opS y vy) bs wd p.src.len p.ecs:=by
 intro cx M κ tip s' a w hi hr hb;have h:=kE hi hy hp hr hb;cases p with
 | str l=>
  rw [gQ h];obtain ⟨news,g,q1,q2,q3⟩:=zTy (P:=P) (M:=M) (w:=w) l;have hw1:wd=1:=by rw [<- hw];rfl
  subst hw1;exact ⟨news,q1,(zI8 (p:=.str l) q2 rfl rfl q3).2⟩
 | bytes l=>
  obtain ⟨news,g,q1,q2,q3⟩:=zD2 (P:=P) hi.mem (p:=.bytes l) rfl h (by simp [W1]);have hw1:wd=1:=by rw [<- hw];rfl
  subst hw1;exact ⟨news,q1,(zI8 (p:=.bytes l) q2 rfl rfl q3).2⟩
 | sl w' l=>
  have hw1:wd=w':=by rw [<- hw];rfl
  subst hw1;obtain ⟨news,g,q1,q2,q3⟩:=zD2 (P:=P) hi.mem (p:=.sl wd l) rfl h (by simp [W1];omega);exact ⟨news,q1,(zI8 (p:=.sl wd l) q2 rfl rfl q3).2⟩
 | _=>simp [Qk,Wb] at hsl
theorem zQ5 (hy:s.get te t' y=some (.ref k2 0 m)) (hl:l2.length=m*wd):zY0 P y (opS y (.ref k2 0 m)) [(k2,.var l2)] wd m l2:=by
 intro cx M κ tip s' a w hi hr hb;have hbk:=hb (k2,.var l2) (by simp);simp only at hbk;have h:=yF hi (yN hy s' hr);obtain ⟨b,arr,e,fz,q1,q2,q3,q4,q5,q6,q7⟩:=hi.vars k2 l2 hbk;generalize hev:a.eval y=z at h;cases h with
 | ref _ _ _ b' l' g1 g2=>
 rw [q1] at g1;cases g1;refine ⟨arr.toList,⟨λw'=>by simp [Builtin.lenOf],λw' hw'=>?_,by simp;omega⟩,λj q hq=>?_⟩
 ·refine run_firstCells_some (P:=P) w' wd m ⟨b,0,none⟩ m m _ (by simp;omega) ?_;intro j u hu;rw [add_off];refine hw' _ _ ?_;simp only [Ql,q2,W5];simpa using hu
 ·have:=q5 j q hq;rw [Q0] at this;simpa using this
theorem zY3 {n:Nat} {ps:Array (Nat×Operand)} {vs:LV} (hok:yX P te) (hd:o.dst=some d) (ho:o.op=.buildSlice t n ps) (hpl:ps.toList=pl) (ht:(te t).map (·.ty)=some (.slice e)) (he:te e=some ei) (hz:ei.z.length=ei.w) (hw0:0<ei.w) (hn:n*ei.w<=16777216)
  (hp:mN s te pl vs rs) (hf:mJ (λj=>some (j*ei.w,ei.w)) (sD ei.z n) vs=some l) (hln:n*ei.w=l.length) (hk:s.blk d=none):SA P o s ⟨rs,[],[d],some (d,some (.own d n)),[(d,.own ei.w l)]⟩:=by
 refine ⟨?_,hp.reads,by intro e he;simp at he,by intro k hk';simp at hk';subst hk';exact hk⟩;intro cx s' a w K Q hm hs hw hk';obtain ⟨M,κ,tip,h0,hpk,hi⟩:=hs;have hpr:=hp.rep hi hm.1;have hxs:(ps.map λ(i,x)=>(i,a.eval x)).toList=pl.map λp=>(p.1,a.eval p.2):=by simp [<- hpl]
 obtain ⟨arr,hrun,hcr⟩:=zQf hok ht he hz hn (xs:=ps.map λ(i,x)=>(i,a.eval x)) (by rw [hxs];exact hpr) hf w;have hb:=hm.2.2 d (by simp);unfold Oper.wp;have:(execOp a.eval o).run P w=.ok (.value (.slice (some ⟨w.heap.size,0,none⟩) n n)) (w.alloc (.cells arr e)):=by simp [execOp,ho,hrun]
 rw [this];show K (a.put o.dst _) _;rw [hd];refine hk' _ _ ?_;rw [fP];have hnn:n<=n*ei.w:=Qo _ hw0;exact ⟨M,_,_,h0,zAx hi hpk hb _,(hi.ownNew (k:=d) (wd:=ei.w) (n:=n) (cap:=n) (l:=l) (jA w arr e) (.inl hb) hw0 hln (by rw [hcr.1];omega) (Qm _) (by simp only [maxLen];omega) hcr.2).put (hw d (by simp [Qv])) (.own d n ei.w l _ (zW _ _ _) (by omega) (λ_=>(xF _ _ _).symm) ⟨_,_,_,rfl⟩)⟩
theorem zR1 (hok:yX P te) (hd:o.dst=some d) (ho:o.op=.call { callee:=.builtin .append,args:=#[x,y],argTypes:=#[t,t'] })
  (ht:(te t).map (·.ty)=some (.slice e)) (he:te e=some ei) (ht':P.underlying t'=some dd) (hdd:zCo dd) (hx:s.get te t x=some (.nl c)) (hw0:0<ei.w) (hz:ei.z.length=ei.w) (hy:s.get te t' y=some vy) (hbs:∀ e∈bs,s.blk e.1=some e.2)
  (hsrc:zY0 P y (opS y vy) bs ei.w m cs) (hm:cs.length=m*ei.w) (hb:m*ei.b<=140737488355328) (hb1:0<ei.b) (hk:s.blk d=none) :
  SA P o s ⟨opS x (.nl c)++opS y vy,bs,[d],some (d,some (.own d m)),[(d,.own ei.w cs)]⟩:=by
 refine ⟨?_,yM (zM hx) (zM hy),hbs,by intro k hk';simp at hk';subst hk';exact hk⟩;intro cx s' a w K Q hmm hs hws hk';obtain ⟨M,κ,tip,h0,hpk,hi⟩:=hs;have hbk:=hmm.2.2 d (by simp);have hevx:a.eval x=.slice none 0 0:=by
  have hx':=yF hi (yN hx s' (yI hmm.1));generalize a.eval x=z at hx';cases hx' with
  | nl _ _=>rfl
 obtain ⟨news,n1,n2⟩:=hsrc cx M κ tip s' a w hi (zZ hmm.1) hmm.2.1;obtain ⟨info,z,i1,i2,i3,i4,i5⟩:=(hok e ei he).info;have hu:=xA hok ht;have hlen:m<=140737488355328:=W4 (Qo _ hb1) hb;have hnl:news.length=m*ei.w:=n1.nl;rw [<- i2] at n1;have hzs:z.cells.size=ei.w:=by rw [<- Qn,i5];simpa using hz
 unfold Oper.wp;by_cases hm0:m=0
 ·subst hm0;have hcs:cs=[]:=Qe (by omega);subst hcs;have hrun:=gU (P:=P) (ty:=o.type) hu ht' hdd i1 n1;rw [vC ho hevx hrun];show K (a.put o.dst _) _;rw [hd];refine hk' _ _ ?_;rw [fP];exact ⟨M,κ,_,h0,hpk,(hi.ownNil hbk hw0).put (hws d (by simp [Qv])) (.own d 0 ei.w [] _ (zW _ _ _) (by simp) (λ_=>(xF _ _ _).symm) ⟨_,_,_,rfl⟩)⟩
 ·have hrun:=dR (P:=P) (ty:=o.type) hu ht' hdd i1 i4 n1 (by omega) (by rw [i3];exact hb) (by omega);rw [vC ho hevx hrun];show K (a.put o.dst _) _;rw [hd];refine hk' _ _ ?_;rw [fP];have hge:=grownCap_ge w m 0 e;have hsize:(news.toArray++Qw z.cells (grownCap w m 0 e - m)).size=grownCap w m 0 e*ei.w:=by
   simp only [Qp,Qd,size_zeroCells,hzs,hnl,<- Qg];congr 1;omega
  have hml:grownCap w m 0 e<=maxLen:=grownCap_le_maxLen w m 0 e (by simp only [maxLen];omega);refine ⟨M,_,_,h0,zAx hi hpk hbk _,(hi.ownNew (k:=d) (wd:=ei.w) (n:=m) (cap:=grownCap w m 0 e) (l:=cs) (nC w _ e) (.inl hbk) hw0 (by omega) (by rw [hsize];exact Qm _) hge hml ?_).put (hws d (by simp [Qv])) (.own d m ei.w cs _ (zW _ _ _) (by omega) (λ_=>(xF _ _ _).symm) ⟨_,_,_,rfl⟩)⟩;intro j q hq;have hlt:j<cs.length:=(List.getElem?_eq_some_iff.1 hq).1;rw [Q0,Array.getElem?_append_left (by simp;omega)];have:=n2 j q hq;simpa using this
end
mutual
def fzV (k m:Nat):AV->AV
 | .own j n=>bif Q3 j k then .buf j m else .own j n
 | .ag l=>.ag (fzL k m l)
 | .tu l=>.tu (fzL k m l)
 | .fnv f l=>.fnv f (fzL k m l)
 | v=>v
def fzL (k m:Nat):List AV->List AV
 | []=>[]
 | v :: r=>fzV k m v :: fzL k m r
end
mutual
def rC (k n:Nat):AV->Bool
 | .own j m=>!Nat.beq j k||Q3 m n
 | .optr j _ _=>!Nat.beq j k
 | .osl j _ _ _=>!Nat.beq j k
 | .ag l=>tP k n l
 | .tu l=>tP k n l
 | .fnv _ l=>tP k n l
 | _=>true
def tP (k n:Nat):List AV->Bool
 | []=>true
 | v :: r=>rC k n v&&tP k n r
end
def fzB (k m:Nat):ABlk->ABlk
 | .var l=>.var (fzL k m l)
 | .own w l=>.own w (fzL k m l)
 | .buf c=>.buf c
def fyE (k m:Nat):LV->LV
 | []=>[]
 | (t,v) :: r=>(t,fzV k m v) :: fyE k m r
def zFy (k m:Nat) (c:PV):LB->LB
 | []=>[]
 | (i,b) :: r=>(bif Q3 i k then (i,.buf c) else (i,fzB k m b)) :: zFy k m c r
def iI (k n:Nat):LV->Bool
 | []=>true
 | (_,v) :: r=>rC k n v&&iI k n r
def nM (k n:Nat):LB->Bool
 | []=>true
 | (_,.var l) :: r=>tP k n l&&nM k n r
 | (_,.own _ l) :: r=>tP k n l&&nM k n r
 | (_,.buf _) :: r=>nM k n r
theorem jB (k m:Nat):∀ (l:List AV),(fzL k m l).length=l.length/\∀ (j:Nat),(fzL k m l)[j]? = (l[j]?).map (fzV k m)
 | []=>⟨rfl,by simp [fzL]⟩
 | v :: r=>by
  obtain ⟨h1,h2⟩:=jB k m r;refine ⟨by simp [fzL,h1],λj=>?_⟩;cases j with
  | zero=>simp [fzL]
  | succ j=>simp [fzL,h2 j]
theorem zCh {n:Nat}:∀ (l:List AV),tP k n l=true->∀ (j:Nat) (q:AV),l[j]? = some q->rC k n q=true
 | [],_,_,_,h=>by simp at h
 | v :: r,h,0,q,hq=>by
  simp only [tP,Qb] at h;simp at hq;rw [<- hq];exact h.1
 | v :: r,h,j+1,q,hq=>by
  simp only [tP,Qb] at h;exact zCh r h.2 j q (by simpa using hq)
theorem zW0 (f:α->PV):∀ (l:List α),fzL k m (l.map λx=>AV.p (f x))=l.map λx=>AV.p (f x)
 | []=>rfl
 | _ :: r=>by simp only [Q9,fzL,fzV];rw [zW0 f r]
theorem zWq:∀ (l:List PV),fzL k m (l.map AV.p)=l.map AV.p
 | []=>rfl
 | _ :: r=>by simp only [Q9,fzL,fzV];rw [zWq r]
theorem pJ {n:Nat} (f:α->PV):∀ (l:List α),tP k n (l.map λx=>AV.p (f x))=true
 | []=>rfl
 | _ :: r=>by simp only [Q9,tP,rC,W3];exact pJ f r
theorem pP {n:Nat}:∀ (l:List PV),tP k n (l.map AV.p)=true
 | []=>rfl
 | _ :: r=>by simp only [Q9,tP,rC,W3];exact pP r
theorem iI.mem {n:Nat}:∀ {l:LV},iI k n l=true->∀ {t v},(t,v)∈l->rC k n v=true
 | (_,_) :: _,h,_,_,hm=>by
  simp only [iI,Qb] at h;rcases Q5.1 hm with e | hm
  ·cases e;exact h.1
  ·exact iI.mem h.2 hm
theorem nM.mem {n:Nat}:∀ {l:LB},nM k n l=true->∀ {t b},(t,b)∈l->(∀ v,b=.var v->tP k n v=true)/\∀ w v,b=.own w v->tP k n v=true
 | (_,.var u) :: _,h,_,_,hm=>by
  simp only [nM,Qb] at h;rcases Q5.1 hm with e | hm
  ·cases e;exact ⟨λv e=>(by cases e;exact h.1),λw v e=>(by cases e)⟩
  ·exact nM.mem h.2 hm
 | (_,.own w u) :: _,h,_,_,hm=>by
  simp only [nM,Qb] at h;rcases Q5.1 hm with e | hm
  ·cases e;exact ⟨λv e=>(by cases e),λw v e=>(by cases e;exact h.1)⟩
  ·exact nM.mem h.2 hm
 | (_,.buf u) :: _,h,_,_,hm=>by
  simp only [nM] at h;rcases Q5.1 hm with e | hm
  ·cases e;exact ⟨λv e=>(by cases e),λw v e=>(by cases e)⟩
  ·exact nM.mem h hm
theorem zXv:∀ {l:LV} {t:Nat} {v:AV},lk (fyE k m l) t=some v->∃ u,lk l t=some u/\v=fzV k m u
 | [],_,_,h=>by simp [fyE,lk] at h
 | (i,x) :: r,t,v,h=>by
  simp only [fyE,lk] at h ⊢;cases hb:Q3 t i with
  | true=>simp [hb] at h;exact ⟨x,by simp,h.symm⟩
  | false=>simp [hb] at h;simpa using zXv h
theorem zHk:∀ {l:LB} {t:Nat},lk (zFy k m c l) t=(lk l t).map (λb=>bif Q3 t k then .buf c else fzB k m b)
 | [],t=>by simp [zFy,lk]
 | (i,x) :: r,t=>by
  simp only [zFy,lk];cases hb:Q3 t i with
  | true=>
   have:=Q1 hb;subst this;cases hk:Q3 t k<;>simp [lk]
  | false=>
   cases hk:Q3 i k<;>simp [lk,hb,zHk]
theorem RepA.fz {M':Mem} {B B':NB} {n:Nat} (hM:M.le M') (hk:B k=some (.own wd l)) (hn:n*wd=l.length) (hB:∀ i b,i≠k->B i=some b->B' i=some (fzB k n b)) (hk':B' k=some (.buf c)) (hc:c.isSlice=true) (hcl:c.len=n) (hr':Rep M' c (tip k))
  {v:AV} {x:Value} (hr:RepA M κ tip B v x):rC k n v=true->RepA M' κ tip B' (fzV k n v) x:=by
 have nek:∀ {i:Nat} {b:ABlk},B i=some b->(∀ w l,b≠.own w l)->i≠k:=by
  rintro i b h1 h2 rfl;rw [hk] at h1;cases h1;exact h2 _ _ rfl
 induction hr with
 | p v x h1=>intro _;exact .p v x (h1.mono hM)
 | nl c h1=>intro _;exact .nl c h1
 | ptr i o b l h1 h2=>intro _;exact .ptr i o b _ h1 (hB i _ (nek h2 (by intros;simp)) h2)
 | ref i o n b l h1 h2=>intro _;exact .ref i o n b _ h1 (hB i _ (nek h2 (by intros;simp)) h2)
 | buf i n c x h1 hs h2 h3 h4=>intro _;exact .buf i n c x (hB i _ (nek h1 (by intros;simp)) h1) hs h2 (h3.mono hM) h4
 | ag l vs h1 _ ih=>
  intro h;obtain ⟨r1,r2⟩:=jB k n l;refine .ag _ vs (by omega) (λj q hq=>?_);rw [r2] at hq;obtain ⟨q',h3,h4⟩:=Q4.1 hq;subst h4;exact ih j q' h3 (zCh l h j q' h3)
 | tu l vs h1 _ ih=>
  intro h;obtain ⟨r1,r2⟩:=jB k n l;refine .tu _ vs (by omega) (λj q hq=>?_);rw [r2] at hq;obtain ⟨q',h3,h4⟩:=Q4.1 hq;subst h4;exact ih j q' h3 (zCh l h j q' h3)
 | fnv f l vs h1 _ ih=>
  intro h;obtain ⟨r1,r2⟩:=jB k n l;refine .fnv f _ vs (by omega) (λj q hq=>?_);rw [r2] at hq;obtain ⟨q',h3,h4⟩:=Q4.1 hq;subst h4;exact ih j q' h3 (zCh l h j q' h3)
 | own i m w l0 x h1 h2 h3 hs=>
  intro h;simp only [rC] at h;cases hb:Q3 i k with
  | true=>
   have:=Q1 hb;subst this;simp [hb] at h;subst h;rw [hk] at h1;cases h1;simp only [fzV,hb,cond_true];have hx:=h3 hn;refine .buf i m c x hk' hc (by omega) ?_ (λ_=>hx);rw [<- hcl,nQ hc,hx];exact hr'
  | false=>
   have hne:i≠k:=by rintro rfl;simp at hb
   simp only [fzV,hb,cond_false];obtain ⟨r1,r2⟩:=jB k n l0;exact .own i m w (fzL k n l0) x (hB i _ hne h1) (by omega) (λe=>h3 (by omega)) hs
 | optr i m o w l0 x h1 h2 h3 hs=>
  intro h;simp only [rC] at h;have hne:i≠k:=by rintro rfl;simp at h
  obtain ⟨r1,r2⟩:=jB k n l0;exact .optr i m o w (fzL k n l0) x (hB i _ hne h1) (by omega) (λe=>h3 (by omega)) hs
 | osl i m o q w l0 x h1 h2 h3 hs=>
  intro h;simp only [rC] at h;have hne:i≠k:=by rintro rfl;simp at h
  obtain ⟨r1,r2⟩:=jB k n l0;exact .osl i m o q w (fzL k n l0) x (hB i _ hne h1) (by omega) (λe=>h3 (by omega)) hs
theorem Imp.freezeO (k:Nat) {n:Nat} {cs:List PV} (hb:lk blk k=some (.own wd l)) (hn:n*wd=l.length) (hrd:(mkS env blk).rdL l=some (cs,bs)) (hc:cV wd c cs) (hcn:c.len=n) (hm:m=n)
  (h1:iI k n env=true) (h2:nM k n blk=true) (he:fyE k m env=env') (hbb:zFy k m c blk=blk') (hbig:Qa k BIG=true:=by rfl):Imp pk (mkS env blk) (mkS env' blk'):=by
 subst he hbb hm;intro cx a w hcx hs;obtain ⟨M,κ,tip,h0,hp,hi⟩:=hs;have hbig:=Q2 hbig;obtain ⟨g1,g2⟩:=hi.owns.live hb hn;have key:∃ M',M.le M'/\Rep M' c (tip k)/\c.isSlice=true/\c.width=wd/\(∀ b o x,M' b o=some x->w.cell? ⟨b,o,none⟩=some x)/\(∀ b o,κ k≠some b->M' b o=M b o) /\
   ((tip k=.slice none 0 0/\κ k=none)∨∃ b n cap arr e fz,tip k=.slice (some ⟨b,0,none⟩) n cap/\κ k=some b/\cx.w0.heap.size<=b /\
    w.heap[b]? = some (.cells arr e fz)/\zGs fz arr.size/\cap*c.width<=arr.size/\cap<=maxLen/\∀ j,n*c.width<=j->M' b j=none):=by
  rcases g2 with ⟨y1,y2,rfl⟩ | ⟨b,n',cap,arr,e,fz,q1,q2,q3,q4,q5,q6,q7,q8,q9,q10,q11⟩
  ·simp [AS.rdL] at hrd;obtain ⟨rfl,rfl⟩:=hrd;obtain ⟨c1,c2,c3,c4⟩:=hc.cells (M:=M) (f:=λ_=>undef) (by simp);have hl0:c.len=0:=by
    rcases Qh c.len with h | h
    ·exact h
    ·have:=Qq h g1;simp at c4;omega
   refine ⟨M,Mem.le_refl M,?_,c2,c3,hi.mem,λ_ _ _=>rfl,.inl ⟨y1,y2⟩⟩;rw [y1];cases c with
   | bytes l=>simp [Qj] at hl0;subst hl0;exact .bytes0
   | sl w l=>simp [Qj] at hl0;subst hl0;exact .sl0 w
   | _=>simp [Wb] at c2
  ·have hnn:n'=m:=Qc g1 (by omega);subst hnn;have hfit:n'*wd<=cap*wd:=Q8 _ q8;obtain ⟨r1,r2⟩:=zAt hrd q10;obtain ⟨c1,c2,c3,c4⟩:=hc.cells r2;have hle:M.le (addM M b 0 (n'*wd) (arr[·]?)):=addM_le λo _ _=>q11 o;refine ⟨addM M b 0 (n'*wd) (arr[·]?),hle,?_,c2,c3,λb' o x h=>?_,λb' o hne=>?_,.inr ⟨b,n',cap,arr,e,fz,q1,q2,q3.resolve_right (λh=>by omega),q4,q5,by rw [c3];exact q7,q9,λj hj=>?_⟩⟩
   ·rw [q1];have:=uB (M':=addM M b 0 (n'*wd) (arr[·]?)) (b:=b) (o:=0) (cap:=cap) c1 c2 hle ?_ (by omega)
    ·rwa [hcn] at this
    intro j hj;rw [hcn,c3] at hj;simp only [addM,W5];rw [if_pos ⟨trivial,Nat.zero_le _,hj⟩];have:j<arr.size:=by omega
    simp [this]
   ·unfold addM at h;split at h
    ·rename_i hc';obtain ⟨rfl,_,hlt⟩:=hc';simp only [Ql,q4];simpa using h
    ·exact hi.mem b' o x h
   ·unfold addM;rw [if_neg (by intro h;exact hne (by rw [h.1];exact q2))]
   ·unfold addM;rw [c3] at hj;rw [if_neg (by omega)];exact q11 j
 obtain ⟨M',hle,hrep,hcs,hcw,hmem,hoth,hrow⟩:=key;have hB:∀ i b,i≠k->lk blk i=some b->lk (zFy k m c blk) i=some (fzB k m b):=λi b hne h=>by
  have:Q3 i k=false:=by rw [Qi];intro e;exact hne (Q1 e)
  rw [zHk,h,this];rfl
 have hBk:lk (zFy k m c blk) k=some (.buf c):=by rw [zHk,hb];simp
 have hBi:∀ i b',lk (zFy k m c blk) i=some b'->(i=k/\b'=.buf c)∨(i≠k/\∃ b,lk blk i=some b/\b'=fzB k m b):=by
  intro i b' h;rw [zHk] at h;obtain ⟨b,h3,h4⟩:=Q4.1 h;cases hq:Q3 i k with
  | true=>simp [hq] at h4;exact .inl ⟨Q1 hq,h4.symm⟩
  | false=>simp [hq] at h4;exact .inr ⟨by rintro rfl;simp at hq,b,h3,h4.symm⟩
 have hmap:∀ {v:AV} {x:Value},RepA M κ tip (lk blk) v x->rC k m v=true->RepA M' κ tip (lk (zFy k m c blk)) (fzV k m v) x:=λh ho=>h.fz hle hb hn hB hBk hcs hcn hrep ho;have hcells:∀ (li:List AV),tP k m li=true->∀ {arr:Array Value},(∀ (j:Nat) (q:AV),li[j]? = some q->RepA M κ tip (lk blk) q (arr.getD j undef))->∀ (j:Nat) (q:AV),(fzL k m li)[j]? = some q->RepA M' κ tip (lk (zFy k m c blk)) q (arr.getD j undef):=by
  intro li ho arr hr j q hq;rw [(jB k m li).2] at hq;obtain ⟨q',h3,h4⟩:=Q4.1 hq;subst h4;exact hmap (hr j q' h3) (zCh li ho j q' h3)
 refine ⟨M',κ,tip,h0.trans' hle,hp,{
  defers:=hi.defers
  size:=hi.size
  fr:=hi.fr
  mem:=hmem
  env:=λu v h=>by
   obtain ⟨v',h3,rfl⟩:=zXv (show lk (fyE k m env) u=some v from h);obtain ⟨y,h4,h5⟩:=hi.env u v' h3;exact ⟨y,h4,hmap h5 (iI.mem h1 (tR env u v' h3))⟩
  vars:=λi li h=>by
   rcases hBi i _ h with ⟨_,h3⟩ | ⟨hne,b,h3,h4⟩
   ·cases h3
   ·cases b with
    | buf _=>simp [fzB] at h4
    | own _ _=>simp [fzB] at h4
    | var l0=>
     simp only [fzB,ABlk.var.injEq] at h4;subst h4;obtain ⟨b2,arr2,e2,fz2,z1,z2,z3,z4,z5,z6,z7⟩:=hi.vars i l0 h3;exact ⟨b2,arr2,e2,fz2,z1,z2,z3,by rw [(jB k m l0).1];exact z4,hcells l0 ((nM.mem h2 (tR blk i _ h3)).1 l0 rfl) z5,λo=>by rw [hoth b2 o (λe=>hne (hi.inj i k b2 z1 e))];exact z6 o,z7⟩
  bufs:=λi ci h=>by
   rcases hBi i _ h with ⟨rfl,h3⟩ | ⟨hne,b,h3,h4⟩
   ·cases h3;exact ⟨hrep,hcs,by omega,hrow⟩
   ·cases b with
    | own _ _=>simp [fzB] at h4
    | var _=>simp [fzB] at h4
    | buf c0=>
     simp only [fzB,ABlk.buf.injEq] at h4;subst h4;obtain ⟨z1,z2,z3,z4⟩:=hi.bufs i ci h3;refine ⟨z1.mono hle,z2,z3,?_⟩;rcases z4 with z4 | ⟨b2,n2,cap2,arr2,e2,fz2,y1,y2,y3,y4,y5,y6,y7,y8⟩
     ·exact .inl z4
     ·exact .inr ⟨b2,n2,cap2,arr2,e2,fz2,y1,y2,y3,y4,y5,y6,y7,λj hj=>by rw [hoth b2 j (λe=>hne (hi.inj i k b2 y2 e))];exact y8 j hj⟩
  inj:=hi.inj
  dom:=λi h=>by
   have h':lk (zFy k m c blk) i=none:=h;rw [zHk] at h';exact hi.dom i (show lk blk i=none by simpa using h')
  glob:=hi.glob.mono hle
  old:=⟨λb' o hb'=>by
   rw [hoth b' o (λe=>?_)]
   ·exact hi.old.1 b' o hb'
   ·rcases hrow with ⟨_,y2⟩ | ⟨b,_,_,_,_,_,_,y2,y3,_⟩
    ·rw [y2] at e;cases e
    ·rw [y2] at e;cases e;omega,hi.old.2⟩
  owns:=λi wi li h=>by
   rcases hBi i _ h with ⟨_,h3⟩ | ⟨hne,b,h3,h4⟩
   ·cases h3
   ·cases b with
    | buf _=>simp [fzB] at h4
    | var _=>simp [fzB] at h4
    | own w0 l0=>
     simp only [fzB,ABlk.own.injEq] at h4;obtain ⟨rfl,rfl⟩:=h4;rcases hi.owns i wi l0 h3 with ⟨z0,z1,rfl⟩ | ⟨z0,z⟩
     ·exact .inl ⟨z0,z1,rfl⟩
     refine .inr ⟨z0,?_⟩;rcases z with ⟨z1,z2,rfl⟩ | ⟨b2,n2,cap2,arr2,e2,fz2,y1,y2,y3,y4,y5,y6,y7,y8,y9,y10,y11⟩
     ·exact .inl ⟨z1,z2,rfl⟩
     ·exact .inr ⟨b2,n2,cap2,arr2,e2,fz2,y1,y2,y3,y4,y5,by rw [(jB k m l0).1];exact y6,y7,y8,y9,hcells l0 ((nM.mem h2 (tR blk i _ h3)).2 wi l0 rfl) y10,λo=>by rw [hoth b2 o (λe=>hne (hi.inj i k b2 y2 e))];exact y11 o⟩}⟩
theorem Imp.promO {t:Nat} (wd:Nat) (he:s.env t=some (.nl c)) (hk:s.blk k=none) (hw:Qa 0 wd=true):Imp pk s ((s.setb k (.own wd [])).put t (.own k 0)):=by
 intro cx a w _ hs;obtain ⟨M,κ,tip,h0,hp,hi⟩:=hs;have hw':=Q2 hw;have hinv:=hi.ownNil (k:=k) (wd:=wd) hk (by omega);obtain ⟨x,hx1,hx2⟩:=hi.env t _ he;cases hx2 with
 | nl _ hc=>
 refine ⟨M,κ,_,h0,hp,{ hinv with env:=λu v h=>?_ }⟩;simp only [AS.put] at h;cases hb:Q3 u t with
 | true=>
  have:=Q1 hb;subst this;simp at h;subst h;exact ⟨_,hx1,.own k 0 wd [] _ (zW _ _ _) (by simp) (λ_=>(xF _ _ _).symm) ⟨_,_,_,rfl⟩⟩
 | false=>
  simp [hb] at h;exact hinv.env u v h
theorem Imp.promOC (j wd:Nat) (he:s.blk k2=some (.var l)) (hj:l[j]? = some (.nl c)) (hk:s.blk k=none) (hw:Qa 0 wd=true):Imp pk s ((s.setb k (.own wd [])).setb k2 (.var (l.set j (.own k 0)))):=by
 intro cx a w _ hs;obtain ⟨M,κ,tip,h0,hp,hi⟩:=hs;have hw':=Q2 hw;have hinv:=hi.ownNil (k:=k) (wd:=wd) hk (by omega);have hne:k2≠k:=by rintro rfl;rw [hk] at he;cases he
 refine ⟨M,κ,_,h0,hp,hinv.reVar (k:=k2) (l:=l) (by rw [zQ hne];exact he) (by simp) λi q x hq hx=>?_⟩;rw [List.getElem?_set] at hq;split at hq
 ·rename_i e;subst e;split at hq
  ·cases hq;have:=hx _ hj;cases this with
   | nl _ hc=>exact .own k 0 wd [] _ (zW _ _ _) (by simp) (λ_=>(xF _ _ _).symm) ⟨_,_,_,rfl⟩
  ·cases hq
 ·exact hx q hq
abbrev qO (c:PV):ABlk:=.own c.width c.ecs
theorem zKu:∀ (a b:List PV),flatCells (a++b)=flatCells a++flatCells b
 | [],_=>rfl
 | x :: r,b=>by simp [flatCells,zKu r b]
theorem nR (l:By):l.length*1=(PV.ecs (.bytes l)).length:=by simp [PV.ecs]
theorem flat_len {f:α->PV} (hf:∀ a,(f a).cells.length=w):∀ (l:List α),(flatCells (l.map f)).length=l.length*w
 | []=>by simp [flatCells]
 | x :: r=>by simp only [Q9,flatCells,Qu,hf,flat_len hf r,List.length_cons];rw [Qg];omega
theorem qC {f:α->PV} (hf:∀ a,(f a).cells.length=w) (l:List α):l.length*w=(PV.ecs (.sl w (l.map f))).length:=by simp [PV.ecs,flat_len hf]
theorem zZw:∀ (l:List PV),s.rdL (l.map AV.p)=some (l,[])
 | []=>rfl
 | x :: r=>by simp [AS.rdL,AS.rd,zZw r]
theorem zYx (l:By):s.rdL (PV.ecs (.bytes l))=some (l.map λx=>PV.int .u8 x.toNat,[]):=by
 simp only [PV.ecs];exact oY
theorem zYd (l:List PV):s.rdL (PV.ecs (.sl w l))=some (flatCells l,[]):=by simp only [PV.ecs];exact zZw _
theorem zMi {f:α->PV} (hf:∀ a,(f a).cells.length=w) {l:List α} {u:α} (h:l[j]? = some u) {o:Nat} (hq:(f u).cells[o]? = some q):(PV.ecs (.sl w (l.map f)))[j*w+o]? = some (.p q):=by
 obtain ⟨_,h2⟩:=flat_get (l.map f) (w:=w) (by intro p hp;obtain ⟨a,_,rfl⟩:=Q7.1 hp;exact hf a);simp only [PV.ecs,List.getElem?_map];rw [h2 j (f u) o q (by simp [h]) hq];rfl
theorem zX3 {f:α->PV} (hf:∀ a,(f a).cells.length=w) {l:List α} (u:α) (h:j<l.length):rN (PV.ecs (.sl w (l.map f))) (j*w) ((f u).cells.map AV.p)=PV.ecs (.sl w ((l.set j u).map f)):=by
 have hlen:=qC hf l;have hjw:(j+1)*w<=l.length*w:=Q8 _ h;rw [Qg] at hjw;have hcl:((f u).cells.map AV.p).length=w:=by simp [hf]
 have hw:∀ p∈(l.set j u).map f,p.cells.length=w:=by intro p hp;obtain ⟨a,_,rfl⟩:=Q7.1 hp;exact hf a
 have hw0:∀ p∈l.map f,p.cells.length=w:=by intro p hp;obtain ⟨a,_,rfl⟩:=Q7.1 hp;exact hf a
 apply List.ext_getElem?;intro o;rw [bQ (by rw [hcl];omega),hcl];rcases Qh w with hz | hpos
 ·subst hz;have h1:(PV.ecs (.sl 0 (l.map f)))=[]:=Qe (by omega);have h2:(PV.ecs (.sl 0 ((l.set j u).map f)))=[]:=Qe (by have:=qC hf (l.set j u);omega);rw [if_neg (by omega),h1,h2]
 ·by_cases ho:o<l.length*w
  ·have hdm:w*(o / w)+o % w=o:=Wa o w;have he:o / w*w+o % w=o:=by rw [Qx];exact hdm
   have hi:o / w<l.length:=W2 (by rw [Qx];exact ho);have hr:o % w<w:=Nat.mod_lt _ hpos;by_cases hj:j*w<=o/\o<j*w+w
   ·rw [if_pos hj];have hjj:o / w=j:=Nat.div_eq_of_lt_le (by omega) (by rw [Qg];omega);have hsub:o - j*w=o % w:=by rw [hjj] at he;omega
    have hlt:o % w<(f u).cells.length:=by rw [hf];exact hr
    have:=zMi hf (l:=l.set j u) (j:=j) (u:=u) (by simp [h]) (o:=o % w) (q:=(f u).cells[o % w]) (by simp);rw [hjj] at he;rw [he] at this;rw [this,hsub,List.getElem?_map];simp [hlt]
   ·rw [if_neg hj];have hne:o / w≠j:=by
     intro e;rw [e] at he;exact hj ⟨by omega,by omega⟩
    have hlt:o % w<(f l[o / w]).cells.length:=by rw [hf];exact hr
    have h1:=zMi hf (l:=l) (j:=o / w) (u:=l[o / w]) (by simp) (o:=o % w) (q:=(f l[o / w]).cells[o % w]) (by simp);have h2:=zMi hf (l:=l.set j u) (j:=o / w) (u:=l[o / w]) (by rw [List.getElem?_set_ne (Ne.symm hne)];simp) (o:=o % w) (q:=(f l[o / w]).cells[o % w]) (by simp);rw [he] at h1 h2;rw [h1,h2]
  ·rw [if_neg (by omega),List.getElem?_eq_none (by omega),List.getElem?_eq_none (by have:=qC hf (l.set j u);rw [Wc] at this;omega)]
section
variable {v:AV} 
theorem zN0 {o:Oper} {ta:TypeId} {n:Nat} (hok:yX P te) (hd:o.dst=none) (ho:o.op=.store t ax x) (ht:te t=some i) (ha:s.get te ta ax=some (.optr k n off)) (hx:s.get te t x=some v) (hp:s.rd v=some (p,bs)) (hb:s.blk k=some (.own wd l)) (hn:n*wd=l.length)
  (hw:p.cells.length=i.w) (hl:off+i.w<=l.length) (hone:p.cells.all Wd=true):SA P o s ⟨opS ax (.optr k n off)++opS x v,(k,.own wd l) :: bs,[],none,[(k,.own wd (rN l off (p.cells.map AV.p)))]⟩:=by
 have hpc:(AV.p p).cells=p.cells.map AV.p:=by cases p<;>rfl
 refine ⟨?_,yM (zM ha) (zM hx),?_,by intro e he;simp at he⟩
 ·intro cx s' a w K Q hm hs hws hk;obtain ⟨M,κ,tip,h0,hpk,hi⟩:=hs;have hbk:=hm.2.1 (k,.own wd l) (by simp);simp only at hbk;have hr:=kE hi hx hp (zZ hm.1) (λe he=>hm.2.1 e (by simp [he]));have ha':=yF hi (yN ha s' (yI hm.1));have hx':RepA M κ tip s'.blk (.p p) (a.eval x):=.p _ _ hr;obtain ⟨hc1,hc2⟩:=aN hx';rw [hpc] at hc1 hc2;obtain ⟨g1,g2⟩:=hi.owns.live hbk hn;generalize hev:a.eval ax=z at ha';cases ha' with
  | optr _ _ _ w' l' _ h1 h2 h3 hs=>
   rw [hbk] at h1;cases h1;obtain ⟨b,hκ,rfl⟩:=h3 hn;rcases g2 with ⟨_,y2,_⟩ | ⟨b',n1,cap,arr,e1,fz,q1,q2,q3,q4,q5,q6,q7,q8,q9,q10,q11⟩
   ·rw [hκ] at y2;cases y2
   ·rw [hκ] at q2;cases q2;have hnn:n1=n:=Qc g1 (by omega);subst hnn;have hfit:n1*wd<=cap*wd:=Q8 _ q8;have hpl:(p.cells.map AV.p).length=i.w:=by simp [hw]
    have hsz:(a.eval x).cells.toList.length=(p.cells.map AV.p).length:=by simp only [Qn,hc1]
    have hrun:=run_storeCells_cells (P:=P) b off (a.eval x).cells.toList 0 w
     (by
       intro j hj;rw [hsz] at hj;have:off+j<arr.size:=by omega
       simp [Ql,q4,this])
     (by intro j hj;rw [hsz] at hj;simp only [Nat.add_zero];exact oC q4 q5 (by omega))
     (by
      intro u hu;obtain ⟨j,hj,hju⟩:=Qt hu;have hjl:j<p.cells.length:=by simp only [Qy] at hsz;omega
      have hq:=hc2 j (.p p.cells[j]) (by simp [hjl]);have hjs:j<(a.eval x).cells.size:=by simpa using hj
      have:(a.eval x).cells.getD j undef=u:=by simp [hjs];simpa using hju
      rw [this] at hq;exact zHh hq ((Qf.1 hone) _ (W6 _)))
    unfold Oper.wp;have:(execOp a.eval o).run P w=.ok .skip (w.setCells b off (a.eval x).cells.toList):=by
     simp only [Nat.add_zero] at hrun;have hcs:¬ ((a.eval x).cells.size≠i.w):=by rw [hc1,hpl];simp
     simp [execOp,ho,hev,Instr.storeAt,Instr.sureAddr,storeVar,tC hok ht,hcs,hrun]
    rw [this];show K (a.put o.dst undef) _;rw [hd];refine hk _ _ ?_;rw [zD0];obtain ⟨arr',z1,z2,z3⟩:=qH b (a.eval x).cells.toList off w arr e1 fz q4 (by omega);have hlen:=zDx (l:=l) (cs:=p.cells.map AV.p) (off:=off) (by omega);refine ⟨M,κ,_,h0,hpk,hi.ownSet (n':=n1) hbk q1 hκ q3 (by rw [z2];exact q5) z1 (by rw [z2];exact q7) q8 q9 g1 q11 (by omega) (by omega) q6 ?_⟩;intro j q hq;rw [bQ (by omega)] at hq;rw [Q0,z3 j];by_cases hj:off<=j/\j<off+(p.cells.map AV.p).length
    ·rw [if_pos hj] at hq;rw [if_pos (by omega)];have:=hc2 (j - off) q hq;rw [Q0] at this;simpa using this
    ·rw [if_neg hj] at hq;rw [if_neg (by omega)];have:=q10 j q hq;rw [Q0] at this;exact this
 ·intro e he;rcases Q5.1 he with he | he
  ·subst he;exact hb
  ·exact uM v p bs hp e he
end
section
variable [T:aY P] {v:AV} 
theorem RK.xoB {l:By} {i:Int} {n:Nat} (hn:l.length=n) (h:ixN n i=some j) (ht:(T.te t).map (·.ty)=some (.slice e)) (he:T.te e=some ei) (hw:1=ei.w) (hx:s.get T.te t x=some (.own k0 n)) (hb:s.blk k0=some (qO (.bytes l))) (hy:s.get T.te 0 y=some (.p (.int .i64 i)))
  (k:VK P ops r s K d (opS x (.own k0 n)++opS y (.p (.int .i64 i))) [(k0,qO (.bytes l))] (.optr k0 n j)):RK P ops (⟨some d,.indexAddr t x y,ty,pos,af,none⟩:: r) s K:=by
 subst hn;obtain ⟨h0,h1,h2⟩:=zHo h;have:=zQx (P:=P) (o:=⟨some d,.indexAddr t x y,ty,pos,af,none⟩) T.ok rfl ht he hx hb (nR l) hw hy h0 h1;rw [<- h2,<- hw,Nat.mul_one] at this;exact RK.va rfl rfl this k
theorem RK.xoM (f:α->PV) {l:List α} {i:Int} {n:Nat} (hn:l.length=n) (h:ixN n i=some j) (hf:∀ a,(f a).cells.length=w) (ht:(T.te t).map (·.ty)=some (.slice e)) (he:T.te e=some ei) (hw:w=ei.w) (hx:s.get T.te t x=some (.own k0 n)) (hb:s.blk k0=some (qO (.sl w (l.map f)))) (hy:s.get T.te 0 y=some (.p (.int .i64 i)))
  (k:VK P ops r s K d (opS x (.own k0 n)++opS y (.p (.int .i64 i))) [(k0,qO (.sl w (l.map f)))] (.optr k0 n (j*w))):RK P ops (⟨some d,.indexAddr t x y,ty,pos,af,none⟩:: r) s K:=by
 subst hn;obtain ⟨h0,h1,h2⟩:=zHo h;have:=zQx (P:=P) (o:=⟨some d,.indexAddr t x y,ty,pos,af,none⟩) T.ok rfl ht he hx hb (qC hf l) hw hy h0 h1;rw [<- h2,<- hw] at this;exact RK.va rfl rfl this k
theorem RK.xoK {n:Nat} (i:Nat) (h:Qa i n=true) (ht:(T.te t).map (·.ty)=some (.slice e)) (he:T.te e=some ei) (hw:w=ei.w) (hx:s.get T.te t x=some (.own k0 n)) (hb:s.blk k0=some (.own w l)) (hn:Q3 (n*w) l.length=true) (hy:s.get T.te 0 y=some (.p (.int .i64 (i:Nat))))
  (k:VK P ops r s K d (opS x (.own k0 n)++opS y (.p (.int .i64 (i:Nat)))) [(k0,.own w l)] (.optr k0 n (i*w))):RK P ops (⟨some d,.indexAddr t x y,ty,pos,af,none⟩:: r) s K:=by
 have hi:=Q2 h;have:=zQx (P:=P) (o:=⟨some d,.indexAddr t x y,ty,pos,af,none⟩) T.ok rfl ht he hx hb (Q1 hn) hw hy (by omega) (by omega);rw [<- hw,Int.toNat_natCast] at this;exact RK.va rfl rfl this k
theorem RK.lnO {n:Nat} (hn:n*w=l.length) (ht0:((T.te t).map (·.ty),s.get T.te t x,s.blk k0)=(some (.slice e),some (.own k0 n),some (.own w l))) (k:VK P ops r s K d (opS x (.own k0 n)) [(k0,.own w l)] (.p (.int .i64 n))):RK P ops (⟨some d,.call ⟨.builtin .len,#[x],#[t]⟩,ty,pos,af,none⟩:: r) s K:=have ⟨ht,ht0⟩:=pq ht0;have ⟨hx,hb⟩:=pq ht0;RK.va rfl rfl (zYr T.ok rfl ht hx hb hn) k
theorem RK.ldoK {n:Nat} (ht:T.te t=some i) (hp:i.plain=true) (hx:s.get T.te 0 x=some (.optr k0 n off)) (hb:s.blk k0=some (.own w l)) (hn:Q3 (n*w) l.length=true) (hv:l[off]? = some v)
  (k:VK P ops r s K d (opS x (.optr k0 n off)) [(k0,.own w l)] v):RK P ops (⟨some d,.load t x,ty,pos,af,none⟩:: r) s K:=
 RK.va rfl rfl (zRu T.ok rfl ht hp hx hb (Q1 hn) hv) k
theorem RK.ldo1 (f:α->PV) {l:List α} {u:α} {n:Nat} (hn:l.length=n) (h:l[j]? = some u) (hf:∀ a,(f a).cells=[f a]) (ht:T.te t=some i) (hp:i.plain=true) (hx:s.get T.te 0 x=some (.optr k0 n (j*1))) (hb:s.blk k0=some (qO (.sl 1 (l.map f))))
  (k:VK P ops r s K d (opS x (.optr k0 n (j*1))) [(k0,qO (.sl 1 (l.map f)))] (.p (f u))):RK P ops (⟨some d,.load t x,ty,pos,af,none⟩:: r) s K:=by
 subst hn;exact RK.va rfl rfl (zRu T.ok rfl ht hp hx hb (qC (λa=>by rw [hf a];rfl) l) (by have:=zMi (w:=1) (f:=f) (λa=>by rw [hf a];rfl) h (o:=0) (q:=f u) (by rw [hf u];rfl);simpa using this)) k
theorem zTc {l:By} (u:UInt8) (h:j<l.length):rN (PV.ecs (.bytes l)) j ([PV.int .u8 u.toNat].map AV.p)=PV.ecs (.bytes (l.set j u)):=by
 simp only [PV.ecs,Q9,List.map_nil];rw [zDt (by simpa using h),List.map_set]
theorem RK.stoB {l l':By} {u:UInt8} {n:Nat} (hn:l.length=n) (h:qG l j u=some l') (ht:T.te t=some i) (hw:i.w=1) (ha:s.get T.te 0 ax=some (.optr k0 n j)) (hx:s.get T.te t x=some (.p (.int .u8 u.toNat))) (hb:s.blk k0=some (qO (.bytes l)))
  (k:RK P ops r (s.setb k0 (qO (.bytes l'))) λs' ms=>K s' (⟨opS ax (.optr k0 n j)++opS x (.p (.int .u8 u.toNat)),[(k0,qO (.bytes l))],[],none,[(k0,qO (.bytes l'))]⟩:: ms)):RK P ops (⟨none,.store t ax x,ty,pos,af,none⟩:: r) s K:=by
 subst hn;obtain ⟨h1,h2⟩:=zAd h;have hlen:=nR l;have:=zN0 (P:=P) (o:=⟨none,.store t ax x,ty,pos,af,none⟩) T.ok rfl rfl ht ha hx rfl hb (nR l) (by simp [PV.cells,hw]) (by omega) rfl;have e:rN (PV.ecs (.bytes l)) j ((PV.int .u8 (u.toNat:Int)).cells.map AV.p)=PV.ecs (.bytes l'):=by rw [h2];exact zTc u h1
 rw [e] at this;exact RK.so rfl this k
theorem RK.stoM (f:α->PV) {l:List α} {u:α} {n:Nat} (hn:l.length=n) (h:qG l j u=some l') (hf:∀ a,(f a).cells.length=w) (hone:∀ a,(f a).cells.all Wd=true) (ht:T.te t=some i) (hw:w=i.w) (ha:s.get T.te 0 ax=some (.optr k0 n (j*w))) (hx:s.get T.te t x=some v) (hp:s.rd v=some (f u,bs)) (hb:s.blk k0=some (qO (.sl w (l.map f))))
  (k:RK P ops r (s.setb k0 (qO (.sl w (l'.map f)))) λs' ms=>K s' (⟨opS ax (.optr k0 n (j*w))++opS x v,(k0,qO (.sl w (l.map f))) :: bs,[],none,[(k0,qO (.sl w (l'.map f)))]⟩:: ms)):RK P ops (⟨none,.store t ax x,ty,pos,af,none⟩:: r) s K:=by
 subst hn;obtain ⟨h1,h2⟩:=zAd h;have hjw:(j+1)*w<=l.length*w:=Q8 _ h1;rw [Qg] at hjw;have hlen:=qC hf l;have:=zN0 (P:=P) (o:=⟨none,.store t ax x,ty,pos,af,none⟩) T.ok rfl rfl ht ha hx hp hb (qC hf l) (by rw [hf,hw]) (by omega) (hone u);rw [show (PV.sl w (l.map f)).width=w from rfl,zX3 hf u h1,<- h2] at this;exact RK.so rfl this k
theorem zXz (l:By):(PV.ecs (.bytes l)).all AV.one=true:=by simp [PV.ecs,AV.one,Wd]
theorem zSh {α:Type} {f:α->PV} {w:Nat} (hone:∀ a,(f a).cells.all Wd=true):∀ (l:List α),(PV.ecs (.sl w (l.map f))).all AV.one=true
 | []=>rfl
 | a :: r=>by
  have:=zSh hone r (w:=w);simp only [PV.ecs,Q9,flatCells,We,List.all_append,Qb] at this ⊢;refine ⟨?_,this⟩;have h2:=hone a;simp only [Qf,Q7] at h2 ⊢;rintro q ⟨p,hp,rfl⟩;exact h2 p hp
theorem RK.aoB {b:Nat} {l m u:By} {n:Nat} (hn:l.length=n) (h:xB b l m=some u) (ht:(T.te t).map (·.ty)=some (.slice e)) (he:T.te e=some ei) (ht2:(T.te t2).map (·.ty)=some (.slice e2)) (hx:s.get T.te t x=some (.own k0 n)) (hk:s.blk k0=some (qO (.bytes l))) (hcw:1=ei.w) (hz:ei.z.length=ei.w) (hy:s.get T.te t2 y=some vy) (hp:s.rd vy=some (.bytes m,bs)) (hb:ei.b=b) (hb1:Qa 0 b=true)
  (k:BK P ops r s K d (opS x (.own k0 n)++opS y vy) ((k0,qO (.bytes l)) :: bs) [] k0 (qO (.bytes u)) (.own k0 u.length)):RK P ops (⟨some d,.call ⟨.builtin .append,#[x,y],#[t,t2]⟩,ty,pos,af,none⟩:: r) s K:=by
 subst hn;obtain ⟨hu,hle⟩:=fF h;subst hb;have hb2:=Q2 hb1;have:=zQi (P:=P) (o:=⟨some d,.call ⟨.builtin .append,#[x,y],#[t,t2]⟩,ty,pos,af,none⟩) T.ok rfl rfl ht he (xA T.ok ht2) (.inr ⟨_,rfl⟩) hx hk (nR l) hcw hz hy (uM vy _ bs hp) (zJg hy hp rfl hcw (by omega)) (by rw [<- hcw];exact (nR m).symm) (zXz m) (by simpa [Qk,Qj] using hle) (by omega);have e1:PV.ecs (.bytes l)++PV.ecs (.bytes m)=PV.ecs (.bytes u):=by rw [hu];simp [PV.ecs]
 have e2:l.length+(Qk (.bytes m)).len=u.length:=by rw [hu];simp [Qk,Qj]
 rw [e1,e2] at this;exact RK.sb rfl this k
theorem RK.aoM (f:α->PV) {b:Nat} {l m u:List α} {n:Nat} (hn:l.length=n) (h:xB b l m=some u) (hf:∀ a,(f a).cells.length=w) (hone:∀ a,(f a).cells.all Wd=true) (ht:(T.te t).map (·.ty)=some (.slice e)) (he:T.te e=some ei) (ht2:(T.te t2).map (·.ty)=some (.slice e2)) (hx:s.get T.te t x=some (.own k0 n)) (hk:s.blk k0=some (qO (.sl w (l.map f)))) (hcw:w=ei.w) (hw0:Qa 0 w=true) (hz:ei.z.length=ei.w) (hy:s.get T.te t2 y=some vy) (hp:s.rd vy=some (.sl w (m.map f),bs)) (hb:ei.b=b) (hb1:Qa 0 b=true)
  (k:BK P ops r s K d (opS x (.own k0 n)++opS y vy) ((k0,qO (.sl w (l.map f))) :: bs) [] k0 (qO (.sl w (u.map f))) (.own k0 u.length)):RK P ops (⟨some d,.call ⟨.builtin .append,#[x,y],#[t,t2]⟩,ty,pos,af,none⟩:: r) s K:=by
 subst hn;obtain ⟨hu,hle⟩:=fF h;subst hb;have hb2:=Q2 hb1;have hw2:=Q2 hw0;have:=zQi (P:=P) (o:=⟨some d,.call ⟨.builtin .append,#[x,y],#[t,t2]⟩,ty,pos,af,none⟩) T.ok rfl rfl ht he (xA T.ok ht2) (.inr ⟨_,rfl⟩) hx hk (qC hf l) hcw hz hy (uM vy _ bs hp) (zJg hy hp rfl hcw (by omega)) (by rw [<- hcw];simp only [Qk,Qj,Qy];exact (qC hf m).symm) (zSh hone m) (by simpa [Qk,Qj] using hle) (by omega);have e1:PV.ecs (.sl w (l.map f))++PV.ecs (.sl w (m.map f))=PV.ecs (.sl w (u.map f)):=by rw [hu];simp [PV.ecs,zKu]
 have e2:l.length+(Qk (.sl w (m.map f))).len=u.length:=by rw [hu];simp [Qk,Qj]
 rw [e1,e2] at this;exact RK.sb rfl this k
theorem RK.aoR {b n:Nat} (ht:(T.te t).map (·.ty)=some (.slice e)) (he:T.te e=some ei) (ht2:(T.te t2).map (·.ty)=some (.slice e2)) (hx:s.get T.te t x=some (.own k0 n)) (hk:s.blk k0=some (.own w l)) (hn:Q3 (n*w) l.length=true) (hcw:w=ei.w) (hz:ei.z.length=ei.w) (hy:s.get T.te t2 y=some (.ref k2 0 m)) (hk2:s.blk k2=some (.var l2)) (hm:Q3 l2.length (m*w)=true) (hone:l2.all AV.one=true) (hb:ei.b=b) (hb1:Qa 0 b=true) (hle:Qz ((n+m)*b) 140737488355328=true)
  (k:BK P ops r s K d (opS x (.own k0 n)++opS y (.ref k2 0 m)) [(k0,.own w l),(k2,.var l2)] [] k0 (.own w (l++l2)) (.own k0 (n+m))):RK P ops (⟨some d,.call ⟨.builtin .append,#[x,y],#[t,t2]⟩,ty,pos,af,none⟩:: r) s K:=by
 subst hb;have hb2:=Q2 hb1;have hm2:=Q1 hm;exact RK.sb rfl (zQi (P:=P) (o:=⟨some d,.call ⟨.builtin .append,#[x,y],#[t,t2]⟩,ty,pos,af,none⟩) T.ok rfl rfl ht he (xA T.ok ht2) (.inr ⟨_,rfl⟩) hx hk (Q1 hn) hcw hz hy (by intro e he;simp at he;subst he;exact hk2) (by rw [<- hcw];exact zQ5 hy hm2) (by rw [<- hcw];exact hm2) hone (xE hle) (by omega)) k
theorem RK.anB {b:Nat} {m u:By} (h:xB b [] m=some u) (ht:(T.te t).map (·.ty)=some (.slice e)) (he:T.te e=some ei) (ht2:(T.te t2).map (·.ty)=some (.slice e2)) (hx:s.get T.te t x=some (.nl c)) (hcw:1=ei.w) (hz:ei.z.length=ei.w) (hy:s.get T.te t2 y=some vy) (hp:s.rd vy=some (.bytes m,bs)) (hb:ei.b=b) (hb1:Qa 0 b=true) (hk:s.blk d=none)
  (k:BK P ops r s K d (opS x (.nl c)++opS y vy) bs [d] d (qO (.bytes u)) (.own d u.length)):RK P ops (⟨some d,.call ⟨.builtin .append,#[x,y],#[t,t2]⟩,ty,pos,af,none⟩:: r) s K:=by
 obtain ⟨hu,hle⟩:=fF h;simp only [W9] at hu;subst hu;subst hb;have hb2:=Q2 hb1;have:=zR1 (P:=P) (o:=⟨some d,.call ⟨.builtin .append,#[x,y],#[t,t2]⟩,ty,pos,af,none⟩) T.ok rfl rfl ht he (xA T.ok ht2) (.inr ⟨_,rfl⟩) hx (by omega) hz hy (uM vy _ bs hp) (zJg hy hp rfl hcw (by omega)) (by rw [<- hcw];exact (nR u).symm) (by simpa [Qk,Qj] using hle) (by omega) hk;rw [<- hcw] at this;exact RK.sb rfl this k
theorem RK.anR {b:Nat} (ht:(T.te t).map (·.ty)=some (.slice e)) (he:T.te e=some ei) (ht2:(T.te t2).map (·.ty)=some (.slice e2)) (hx:s.get T.te t x=some (.nl c)) (hcw:w=ei.w) (hw0:Qa 0 w=true) (hz:ei.z.length=ei.w) (hy:s.get T.te t2 y=some (.ref k2 0 m)) (hk2:s.blk k2=some (.var l2)) (hm:Q3 l2.length (m*w)=true) (hb:ei.b=b) (hb1:Qa 0 b=true) (hle:Qz (m*b) 140737488355328=true) (hk:s.blk d=none)
  (k:BK P ops r s K d (opS x (.nl c)++opS y (.ref k2 0 m)) [(k2,.var l2)] [d] d (.own w l2) (.own d m)):RK P ops (⟨some d,.call ⟨.builtin .append,#[x,y],#[t,t2]⟩,ty,pos,af,none⟩:: r) s K:=by
 subst hb;have hb2:=Q2 hb1;have hw2:=Q2 hw0;have hm2:=Q1 hm;have:=zR1 (P:=P) (bs:=[(k2,.var l2)]) (o:=⟨some d,.call ⟨.builtin .append,#[x,y],#[t,t2]⟩,ty,pos,af,none⟩) T.ok rfl rfl ht he (xA T.ok ht2) (.inr ⟨_,rfl⟩) hx (by omega) hz hy (by intro e he;simp at he;subst he;exact hk2) (by rw [<- hcw];exact zQ5 hy hm2) (by rw [<- hcw];exact hm2) (xE hle) (by omega) hk;rw [<- hcw] at this;exact RK.sb rfl this k
theorem RK.clO {ps:List PV} {blks blks':LB} (h:Ok P f na (mkS (argE 0 ps) []) (mkS [(0,av)] blks)) (hB:bR (sh d) blks=blks') (hxl0:(xs.toList,ts.toList)=(xl,tl)) (ha:mP s T.te xl tl ps rs bb) (hn0:(Q3 na ps.length,(kR (sh d) blks).all (λk=>(s.blk k).isNone))=(true,true))
  (k:RK P ops r (W0 ⟨rs,bb,kR (sh d) blks,some (d,some (av.ren (sh d))),blks'⟩ s) λs' ms=>K s' (⟨rs,bb,kR (sh d) blks,some (d,some (av.ren (sh d))),blks'⟩:: ms)):RK P ops (⟨some d,.call ⟨.value (.func f),xs,ts⟩,ty,pos,af,none⟩:: r) s K:=have ⟨hxl,htl⟩:=pq hxl0;have ⟨hn,hf⟩:=pq hn0;by
 subst hB;subst hxl htl;exact RK.cl h rfl ha (by rw [hn,hf]) k
theorem RK.lo {n:Nat} {pa:Array (Nat×Operand)} {vs:LV} (hpl:pa.toList=pl) (ht:(T.te t).map (·.ty)=some (.slice e)) (he:T.te e=some ei) (hw:ei.w=w) (hw0:Qa 0 w=true) (hz:ei.z.length=ei.w) (hn:Qz (n*ei.w) 16777216=true) (hp:mN s T.te pl vs rs) (hf:mJ (λj=>some (j*ei.w,ei.w)) (sD ei.z n) vs=some l) (hln:Q3 (n*ei.w) l.length=true) (hk:s.blk d=none)
  (k:BK P ops r s K d rs [] [d] d (.own w l) (.own d n)):RK P ops (⟨some d,.buildSlice t n pa,ty,pos,af,none⟩:: r) s K:=by
 subst hw;have hw2:=Q2 hw0;exact RK.sb rfl (zY3 T.ok rfl rfl hpl ht he hz (by omega) (xE hn) hp hf (Q1 hln) hk) k
end
theorem fxB (k:Nat) (u:By) {n:Nat} (hn:u.length=n) (hb:lk blk k=some (qO (.bytes u))) (h1:iI k n env=true) (h2:nM k n blk=true) (he:fyE k u.length env=env') (hbb:zFy k u.length (.bytes u) blk=blk') (hbig:Qa k BIG=true:=by rfl):Imp cx.pk (mkS env blk) (mkS env' blk'):=
 Imp.freezeO k hb (by rw [<- hn];exact nR u) (zYx u) (zI3 u) hn hn h1 h2 he hbb hbig
theorem fxM (k:Nat) (f:α->PV) (w:Nat) (u:List α) (hf:∀ a,(f a).cells.length=w) {n:Nat} (hn:u.length=n) (hb:lk blk k=some (qO (.sl w (u.map f)))) (h1:iI k n env=true) (h2:nM k n blk=true) (he:fyE k u.length env=env') (hbb:zFy k u.length (.sl w (u.map f)) blk=blk') (hbig:Qa k BIG=true:=by rfl):Imp cx.pk (mkS env blk) (mkS env' blk'):=
 Imp.freezeO k hb (by rw [<- hn];exact qC hf u) (zYd (u.map f)) (yA7 u hf) (by simp [Qj,hn]) hn h1 h2 he hbb hbig
theorem fxK (k:Nat) (f:α->PV) (u:List α) (hf:∀ a,(f a).cells=[f a]) (hb:lk blk k=some (.own 1 l)) {n:Nat} (hn:u.length=n) (hl:l.length=n) (hrd:(mkS env blk).rdL l=some (u.map f,bs)) (h1:iI k n env=true) (h2:nM k n blk=true) (he:fyE k u.length env=env') (hbb:zFy k u.length (.sl 1 (u.map f)) blk=blk') (hbig:Qa k BIG=true:=by rfl):Imp cx.pk (mkS env blk) (mkS env' blk'):=
 Imp.freezeO k hb (by omega) hrd (zK5 hf u) (by simp [Qj,hn]) hn h1 h2 he hbb hbig
theorem mR (a b:Nat):Q3 a b=decide (a=b):=by
 cases h:Q3 a b with
 | true=>have:=Q1 h;simp [this]
 | false=>symm;simp only [decide_eq_false_iff_not];rintro rfl;simp at h
theorem Imp.ofEq (h:s=s'):Imp pk s s':=by subst h;exact λ_ _ _ _ h=>h
theorem zGv {l:List α} {n:Nat} {u:α} (h:qG l j u=some l') (hn:l.length=n):l'.length=n:=by
 obtain ⟨_,h2⟩:=zAd h;rw [h2,Wc,hn]
theorem oE {B:NB} :qN B c.ecs=true:=by
 have:∀ (l:List PV),qN B (l.map AV.p)=true:=by
  intro l;induction l with
  | nil=>rfl
  | cons x r ih=>simp only [Q9,qN,AV.oks,W3];exact ih
 cases c<;>first | rfl | (exact zFt _ _) | (exact this _)
theorem mF {n:Nat} :tP k n c.ecs=true:=by
 cases c<;>first | rfl | (exact pJ _ _) | (exact pP _)
theorem yE4:fzL k m c.ecs=c.ecs:=by
 cases c<;>first | rfl | (exact zW0 _ _) | (exact zWq _)
theorem zEx:lX ρ c.ecs=c.ecs:=by
 have h:∀ {α:Type} (f:α->PV) (l:List α),lX ρ (l.map λx=>AV.p (f x))=l.map λx=>AV.p (f x):=by
  intro α f l;induction l with
  | nil=>rfl
  | cons x r ih=>simp only [Q9,lX,AV.ren,ih]
 cases c<;>first | rfl | (exact h _ _) | (exact h (λx=>x) _)
def zIx (P:Program) (cx:Ctx) (body:Code) (Q:Exit->AS->Prop):Nat->AS->Prop
 | 0,_=>False
 | n+1,s=>awp P cx body (zNo (zIx P cx body Q n) Q) s
theorem ar {n:Nat} (h:awp P cx body (zNo (zIx P cx body Q n) Q) s):zIx P cx body Q (n+1) s:=h
theorem rY (n:Nat) (h:zIx P cx body Q n s):awp P cx (.loop body) Q s:=by
 intro a w hs;refine wp_loop_rounds n ?_;induction n generalizing s a w with
 | zero=>exact h.elim
 | succ n ih=>
  rw [rounds_succ];refine wp_mono (h a w hs) ?_;rintro e a' w' ⟨s',h1,h2⟩;cases e with
  | normal=>exact ih h2 a' w' h1
  | _=>exact ⟨s',h1,h2⟩
section
variable {o:Oper} {v:AV} 
end
section
variable [T:aY P] {v:AV} 
end
abbrev GO:=Option (Nat×Nat×List PV)
variable {O:GO}
def oV:GO->LB
 | none=>[]
 | some (_,wd,cs)=>[(BIG,.own wd (cs.map .p))]
def oI:GO->LB
 | none=>[]
 | some (k,wd,cs)=>[(k,.own wd (cs.map .p))]
def zOr:ABlk:=.own 0 [.p (.tup [])]
def oD:GO->LB
 | none=>[]
 | some (k,_,_)=>[(k,zOr)]
def kill (s:AS):GO->AS
 | none=>s
 | some (k,_,_)=>s.setb k zOr
inductive GV0 (O:GO) (s:AS) (ρ:Nat->Nat) (D:List Nat):AV->AV->LB->Prop where
 | p {v:AV} {q:PV} {bs:LB}:s.rd v=some (q,bs)->GV0 O s ρ D v (.p q) bs
 | ptr {k j o:Nat}:ρ j=k->j∈D->GV0 O s ρ D (.ptr k o) (.ptr j o) []
 | ref {k j o n:Nat}:ρ j=k->j∈D->GV0 O s ρ D (.ref k o n) (.ref j o n) []
 | own {k n wd:Nat} {cs:List PV}:O=some (k,wd,cs)->GV0 O s ρ D (.own k n) (.own BIG n) []
inductive GVs (O:GO) (s:AS) (ρ:Nat->Nat) (D:List Nat):List AV->List AV->LB->Prop where
 | nil:GVs O s ρ D [] [] []
 | cons {v u:AV} {vs us:List AV} {b bs:LB}:GV0 O s ρ D v u b->GVs O s ρ D vs us bs->GVs O s ρ D (v :: vs) (u :: us) (b++bs)
inductive GV (O:GO) (s:AS) (ρ:Nat->Nat) (D:List Nat):AV->AV->LB->Prop where
 | f {v u:AV} {b:LB}:GV0 O s ρ D v u b->GV O s ρ D v u b
 | ag {l us:List AV} {b:LB}:GVs O s ρ D l us b->GV O s ρ D (.ag l) (.ag us) b
inductive GA (O:GO) (s:AS) (te:TE) (ρ:Nat->Nat) (D:List Nat):List Operand->List TypeId->List AV->LV->LB->Prop where
 | nil:GA O s te ρ D [] [] [] [] []
 | cons {x:Operand} {t:TypeId} {v u:AV} {xs:List Operand} {ts:List TypeId} {us:List AV} {rs:LV} {b bs:LB}:s.get te t x=some v->GV O s ρ D v u b->GA O s te ρ D xs ts us rs bs->GA O s te ρ D (x :: xs) (t :: ts) (u :: us) (opS x v++rs) (b++bs)
inductive GB (O:GO) (s:AS) (ρ:Nat->Nat) (D:List Nat):List (Nat×List AV)->LB->Prop where
 | nil:GB O s ρ D [] []
 | cons {j:Nat} {us as:List AV} {b bs:LB} {r:List (Nat×List AV)}:s.blk (ρ j)=some (.var as)->GVs O s ρ D as us b->GB O s ρ D r bs->GB O s ρ D ((j,us) :: r) ((ρ j,.var as) :: (b++bs))
def bV:List (Nat×List AV)->LB
 | []=>[]
 | (j,us) :: r=>(j,.var us) :: bV r
def argA (i:Nat):List AV->LV
 | []=>[]
 | v :: r=>(i,v) :: argA (i+1) r
theorem zRt:∀ (l:List AV) (i t:Nat) (v:AV),lk (argA i l) t=some v->i<=t/\l[t - i]? = some v
 | [],i,t,v,h=>by simp [argA,lk] at h
 | p :: r,i,t,v,h=>by
  simp only [argA,lk] at h;cases hb:Q3 t i with
  | true=>
   have:=Q1 hb;subst this;simp at h;exact ⟨Qm _,by simp [h]⟩
  | false=>
   simp [hb] at h;obtain ⟨h2,h3⟩:=zRt r (i+1) t v h;refine ⟨by omega,?_⟩;have:t - i=(t - (i+1))+1:=by omega
   rw [this];simpa using h3
theorem zMl:∀ (B:List (Nat×List AV)),(bV B).map (·.1)=B.map (·.1)
 | []=>rfl
 | (j,us) :: r=>by simp [bV,zMl r]
theorem zAs:∀ {B:List (Nat×List AV)} {j:Nat},j∈B.map (·.1)->∃ us,lk (bV B) j=some (.var us)
 | [],j,h=>by simp at h
 | (i,us) :: r,j,h=>by
  simp only [bV,lk];cases hb:Q3 j i with
  | true=>exact ⟨us,rfl⟩
  | false=>
   simp only [Q9,Q5] at h;rcases h with h | h
   ·subst h;simp at hb
   ·exact zAs h
theorem zFu:∀ {B:List (Nat×List AV)} {j:Nat} {b:ABlk},lk (bV B) j=some b->j∈B.map (·.1)/\∃ us,b=.var us
 | [],j,b,h=>by simp [bV,lk] at h
 | (i,us) :: r,j,b,h=>by
  simp only [bV,lk] at h;cases hb:Q3 j i with
  | true=>simp [hb] at h;exact ⟨by simp [Q1 hb],us,h.symm⟩
  | false=>
   simp [hb] at h;obtain ⟨h1,h2⟩:=zFu h;exact ⟨by simp only [Q9,Q5];exact .inr h1,h2⟩
section
theorem GV0.blks {v:AV} {b:LB} (h:GV0 O s ρ D v u b):∀ e∈b,s.blk e.1=some e.2:=by
 cases h with
 | p h=>exact uM _ _ _ h
 | ptr _ _=>simp
 | ref _ _=>simp
 | own _=>simp
theorem GVs.blks {b:LB} (h:GVs O s ρ D vs us b):∀ e∈b,s.blk e.1=some e.2:=by
 induction h with
 | nil=>simp
 | cons h _ ih=>exact λe he=>(Q6.1 he).elim (h.blks e) (ih e)
theorem GVs.get {b:LB} (h:GVs O s ρ D vs us b):vs.length=us.length/\∀ (j:Nat) (u:AV),us[j]? = some u->∃ v b',vs[j]? = some v/\GV0 O s ρ D v u b'/\∀ e∈b',e∈b:=by
 induction h with
 | nil=>exact ⟨rfl,by simp⟩
 | cons h _ ih=>
  refine ⟨by simp [ih.1],λj u hu=>?_⟩;cases j with
  | zero=>simp at hu;subst hu;exact ⟨_,_,rfl,h,λe he=>Q6.2 (.inl he)⟩
  | succ j=>
   obtain ⟨v,b',h1,h2,h3⟩:=ih.2 j u (by simpa using hu);exact ⟨v,b',by simpa using h1,h2,λe he=>Q6.2 (.inr (h3 e he))⟩
theorem GV.blks {v:AV} {b:LB} (h:GV O s ρ D v u b):∀ e∈b,s.blk e.1=some e.2:=by
 cases h with
 | f h=>exact h.blks
 | ag h=>exact h.blks
theorem GB.blks {b:LB} (h:GB O s ρ D B b):∀ e∈b,s.blk e.1=some e.2:=by
 induction h with
 | nil=>simp
 | cons h g _ ih=>
  intro e he;simp only [Q5,Q6] at he;rcases he with rfl | he | he
  ·exact h
  ·exact g.blks e he
  ·exact ih e he
theorem GB.get {b:LB} (h:GB O s ρ D B b):∀ {j:Nat} {us:List AV},lk (bV B) j=some (.var us)->∃ as b',(ρ j,ABlk.var as)∈b/\GVs O s ρ D as us b'/\∀ e∈b',e∈b:=by
 induction h with
 | nil=>intro j us h;simp [bV,lk] at h
 | @cons i us as b bs r h g _ ih=>
  intro j us' hl;simp only [bV,lk] at hl;cases hb:Q3 j i with
  | true=>
   have:=Q1 hb;subst this;simp at hl;subst hl;exact ⟨as,b,by simp,g,λe he=>by simp [he]⟩
  | false=>
   simp [hb] at hl;obtain ⟨as',b',h1,h2,h3⟩:=ih hl;exact ⟨as',b',by simp [h1],h2,λe he=>by simp [h3 e he]⟩
theorem GA.reads {xs:List Operand} {ts:List TypeId} {b:LB} (h:GA O s te ρ D xs ts us rs b):wN s rs/\∀ e∈b,s.blk e.1=some e.2:=by
 induction h with
 | nil=>exact ⟨by intro e he;simp at he,by simp⟩
 | cons h g _ ih=>exact ⟨yM (zM h) ih.1,λe he=>(Q6.1 he).elim (g.blks e) (ih.2 e)⟩
theorem GV0.rep {v:AV} {b:LB} (h:GV0 O s ρ D v u b) (hb:∀ e∈b,s'.blk e.1=some e.2) (hκ:∀ j∈D,κ' j=κ (ρ j)) (hD:∀ j∈D,∃ us,lk bl j=some (.var us))
  (hO:∀ k wd cs,O=some (k,wd,cs)->s'.blk k=some (.own wd (cs.map .p))/\lk bl BIG=some (.own wd (cs.map .p))/\tip' BIG=tip k) {x:Value} (hr:RepA M κ tip s'.blk v x):RepA M κ' tip' (lk bl) u x:=by
 cases h with
 | p h=>exact .p _ _ (zKl hr (zQp _ _ _ h hb))
 | @ptr k j o h1 h2=>
  cases hr with
  | ptr _ _ b' l g1 g2=>
   obtain ⟨us,hus⟩:=hD j h2;exact .ptr j o b' us (by rw [hκ j h2,h1];exact g1) hus
 | @ref k j o n h1 h2=>
  cases hr with
  | ref _ _ _ b' l g1 g2=>
   obtain ⟨us,hus⟩:=hD j h2;exact .ref j o n b' us (by rw [hκ j h2,h1];exact g1) hus
 | @own k n wd cs h1=>
  obtain ⟨o1,o2,o3⟩:=hO k wd cs h1;cases hr with
  | own _ _ w' l' _ g1 g2 g3 g4=>
   rw [o1] at g1;cases g1;exact .own BIG n _ _ x o2 g2 (λe=>by rw [o3];exact g3 e) g4
theorem GV.rep {v:AV} {b:LB} (h:GV O s ρ D v u b) (hb:∀ e∈b,s'.blk e.1=some e.2) (hκ:∀ j∈D,κ' j=κ (ρ j)) (hD:∀ j∈D,∃ us,lk bl j=some (.var us))
  (hO:∀ k wd cs,O=some (k,wd,cs)->s'.blk k=some (.own wd (cs.map .p))/\lk bl BIG=some (.own wd (cs.map .p))/\tip' BIG=tip k) {x:Value} (hr:RepA M κ tip s'.blk v x):RepA M κ' tip' (lk bl) u x:=by
 cases h with
 | f h=>exact h.rep hb hκ hD hO hr
 | ag h=>
  cases hr with
  | ag _ vs h1 h2=>
   obtain ⟨g1,g2⟩:=h.get;refine .ag _ vs (by omega) (λj q hq=>?_);obtain ⟨v',b',r1,r2,r3⟩:=g2 j q hq;exact r2.rep (λe he=>hb e (r3 e he)) hκ hD hO (h2 j v' r1)
def GR (O:GO) (s:AS) (ρ:Nat->Nat) (D:List Nat) (bb:LB) (M:Mem) (κ:Nat->Option Nat) (tip:Nat->Value) (B:NB) (us:List AV) (args:Array Value):Prop:=
 args.size=us.length/\∀ (j:Nat) (u:AV),us[j]? = some u->∃ v b,GV O s ρ D v u b/\(∀ e∈b,e∈bb)/\RepA M κ tip B v (args.getD j undef)
theorem GA.rep {xs:List Operand} {ts:List TypeId} {b:LB} (h:GA O s te ρ D xs ts us rs b) {w:World} (hi:Inv cx M κ tip s' a w):wN s' rs ->
  xs.length=us.length/\∀ (j:Nat) (u:AV),us[j]? = some u->∃ v b',GV O s ρ D v u b'/\(∀ e∈b',e∈b)/\RepA M κ tip s'.blk v (((xs.map a.eval)[j]?).getD undef):=by
 induction h with
 | nil=>intro _;exact ⟨rfl,by simp⟩
 | cons h g _ ih=>
  intro hr;obtain ⟨e1,e2⟩:=ih (zZ hr);refine ⟨by simp [e1],λj u hu=>?_⟩;cases j with
  | zero=>simp at hu;subst hu;exact ⟨_,_,g,λe he=>Q6.2 (.inl he),by simpa using yF hi (yN h s' (yI hr))⟩
  | succ j=>
   obtain ⟨v,b',h1,h2,h3⟩:=e2 j u (by simpa using hu);exact ⟨v,b',h1,λe he=>Q6.2 (.inr (h2 e he)),by simpa using h3⟩
end
section
theorem Inv.kill {w:World} (hi:Inv cx M κ tip s a w) (hb:s.blk k=some (.own wd l)):Inv cx M (fA κ k none) tip (s.setb k zOr) a w:=by
 have gle:GLe κ (fA κ k none) tip tip s.blk (s.setb k zOr).blk:={
  var:=λi b l h h'=>by
   have e:i≠k:=by rintro rfl;rw [hb] at h';cases h'
   rw [yH e,zQ e];exact ⟨h,l,h'⟩
  buf:=λi c1 h=>by
   have e:i≠k:=by rintro rfl;rw [hb] at h;cases h
   exact GLe.same (by rw [zQ e];exact h) rfl
  own:=λi w1 l1 h=>by
   by_cases e:i=k
   ·subst e;exact ⟨0,_,zW _ _ _,.inr ⟨rfl,by simp⟩⟩
   ·exact GLe.sameO (by rw [zQ e];exact h) (yH e) rfl }
 have hmap:∀ {v:AV} {x:Value},RepA M κ tip s.blk v x->RepA M (fA κ k none) tip (s.setb k zOr).blk v x:=λh=>h.ghost gle;exact {
  defers:=hi.defers
  size:=hi.size
  fr:=hi.fr
  mem:=hi.mem
  env:=λt v h=>let ⟨x,h1,h2⟩:=hi.env t v h;⟨x,h1,hmap h2⟩
  vars:=λi l h=>by
   have e':i≠k:=by rintro rfl;rw [zW] at h;cases h
   rw [zQ e'] at h;obtain ⟨b,arr',e1,fz',h1,h2,h3,h4,h5,h6,h7⟩:=hi.vars i l h;exact ⟨b,arr',e1,fz',by rw [yH e'];exact h1,h2,h3,h4,λj q hq=>hmap (h5 j q hq),h6,h7⟩
  bufs:=λi c1 h=>by
   have e':i≠k:=by rintro rfl;rw [zW] at h;cases h
   rw [zQ e'] at h;rw [yH e'];exact hi.bufs i c1 h
  inj:=λi i' b h1 h2=>by
   have e1:i≠k:=by rintro rfl;rw [vH] at h1;cases h1
   have e2:i'≠k:=by rintro rfl;rw [vH] at h2;cases h2
   rw [yH e1] at h1;rw [yH e2] at h2;exact hi.inj i i' b h1 h2
  dom:=λi h=>by
   by_cases e':i=k
   ·subst e';exact vH ..
   ·rw [zQ e'] at h;rw [yH e'];exact hi.dom i h
  glob:=hi.glob
  old:=hi.old
  owns:=λi w1 l1 h=>by
   by_cases e':i=k
   ·subst e';rw [zW] at h;cases h;exact .inl ⟨rfl,vH ..,rfl⟩
   ·rw [zQ e'] at h;rw [yH e'];rcases hi.owns i w1 l1 h with g0 | ⟨g1,g2⟩
    ·exact .inl g0
    refine .inr ⟨g1,?_⟩;rcases g2 with g2 | ⟨b,n1,cap1,arr1,e1,fz1,q1,q2,q3,q4,q5,q6,q7,q8,q9,q10,q11⟩
    ·exact .inl g2
    ·exact .inr ⟨b,n1,cap1,arr1,e1,fz1,q1,q2,q3,q4,q5,q6,q7,q8,q9,λj q hq=>hmap (q10 j q hq),q11⟩}
theorem zNz (a b:LB) (k:Nat):lk (a++b) k=(lk a k).or (lk b k):=by
 induction a with
 | nil=>rfl
 | cons e a ih=>
  obtain ⟨i,x⟩:=e;simp only [W7,lk];cases Q3 k i with
  | true=>rfl
  | false=>simpa using ih
theorem zVz (s:AS) (ρ:Nat->Nat) (bout:LB) (O:GO) (d:Nat) (v:AV) (rs:LV) (bb:LB) (fr:List Nat):W0 ⟨rs,bb,fr,some (d,some v),(bout.map λe=>(ρ e.1,e.2.ren ρ))++oD O⟩ s=(inS (kill s O) ρ bout).put d v:=by
 have:W0 ⟨rs,bb,fr,some (d,some v),(bout.map λe=>(ρ e.1,e.2.ren ρ))++oD O⟩ s=({ s with blk:=λk=>(lk ((bout.map λe=>(ρ e.1,e.2.ren ρ))++oD O) k).or (s.blk k) }:AS).put d v:=rfl;rw [this];congr 1;unfold inS;cases O with
 | none=>simp [oD,kill]
 | some o=>
  obtain ⟨k,wd,cs⟩:=o;simp only [oD,kill,AS.setb];congr 1;funext i;rw [zNz];simp only [lk];cases Q3 i k<;>simp [Option.or_assoc]
theorem zZv {w:World} 
  (hp:∀ k∈cx.pk,κ k.1=some k.2/\k.2<cx.w0.heap.size) (hi:Inv cx M κ tip s' a w) (hb':∀ e∈bb,s'.blk e.1=some e.2) (hfr:∀ k∈fr,s'.blk k=none) (hg:GR O s ρ (B.map (·.1)) bb M κ tip s'.blk us args) (hB:GB O s ρ (B.map (·.1)) B bB) (hsub:∀ e∈bB,e∈bb) (hsubO:∀ e∈oI O,e∈bb)
  (hinj:∀ j∈bout.map (·.1),∀ j'∈bout.map (·.1),ρ j=ρ j'->j=j') (hout:∀ j∈B.map (·.1),∃ l',lk bout j=some (.var l')) (hnew:∀ j∈bout.map (·.1),j∈B.map (·.1)∨ρ j∈fr) (hDb:∀ j∈B.map (·.1),j<BIG) (hbg:O.isSome=true->∀ j∈bout.map (·.1),BIG<=j->BIG<=ρ j) :
  ∃ pk κ' tip',Inv ⟨w,M,pk,us.length,[]⟩ M κ' tip' (mkS (argA 0 us) (bV B++oV O)) ⟨args,[]⟩ w/\(∀ k∈pk,κ' k.1=some k.2/\k.2<w.heap.size) /\
   ∀ v w',SRel ⟨w,M,pk,1,[]⟩ (mkS [(0,av)] bout) ⟨#[v],[]⟩ w'->∃ M' κ2 tip2,M.le M'/\(∀ k∈cx.pk,κ2 k.1=some k.2/\k.2<cx.w0.heap.size)/\Inv cx M' κ2 tip2 (inS (kill s' O) ρ bout) a w'/\RepA M' κ2 tip2 (inS (kill s' O) ρ bout).blk (av.ren ρ) v:=by
 obtain ⟨hsz,hargs⟩:=hg;generalize hD:B.map (·.1)=D at *;have lkmem:∀ j b,lk bout j=some b->j∈bout.map (·.1):=λj b h=>Q7.2 ⟨(j,b),tR bout j b h,rfl⟩;have hDout:∀ j∈D,j∈bout.map (·.1):=λj hj=>let ⟨l',h⟩:=hout j hj;lkmem j _ h;have hbig:∀ us,lk (bV B) BIG≠some us:=λus h=>by
  obtain ⟨h1,_⟩:=zFu h;rw [hD] at h1;exact Nat.lt_irrefl _ (hDb _ h1)
 have hbv:∀ j b,lk (bV B) j=some b->lk (bV B++oV O) j=some b:=λj b h=>by rw [zNz,h];rfl
 have hBs:∀ j∈D,∃ us,lk (bV B++oV O) j=some (.var us):=λj hj=>let ⟨us,h⟩:=zAs (by rw [hD];exact hj);⟨us,hbv _ _ h⟩;have hvo:∀ j b,lk (bV B++oV O) j=some b->lk (bV B) j=some b∨∃ k wd cs,O=some (k,wd,cs)/\j=BIG/\b=.own wd (cs.map .p):=λj b h=>by
  rw [zNz] at h;cases h1:lk (bV B) j with
  | some x=>rw [h1] at h;exact .inl h
  | none=>
   rw [h1] at h;cases O with
   | none=>simp [oV,lk] at h
   | some o=>
    obtain ⟨k,wd,cs⟩:=o;simp only [oV,lk,Option.none_or] at h;cases hq:Q3 j BIG with
    | true=>rw [hq] at h;simp at h;exact .inr ⟨k,wd,cs,rfl,Q1 hq,h.symm⟩
    | false=>rw [hq] at h;simp at h
 have hOb:∀ k wd cs,O=some (k,wd,cs)->s'.blk k=some (.own wd (cs.map .p))/\lk (bV B++oV O) BIG=some (.own wd (cs.map .p)):=λk wd cs h=>by
  subst h;refine ⟨hb' (k,.own wd (cs.map .p)) (hsubO _ (by simp [oI])),?_⟩;rw [zNz];cases h1:lk (bV B) BIG with
  | some x=>exact (hbig _ h1).elim
  | none=>simp [oV,lk]
 have hkey:∀ j∈D,∃ b as,κ (ρ j)=some b/\b<w.heap.size/\s'.blk (ρ j)=some (.var as):=λj hj=>by
  obtain ⟨us,hus⟩:=zAs (B:=B) (j:=j) (by rw [hD];exact hj);obtain ⟨as,b',g1,_,_⟩:=hB.get hus;have h1:s'.blk (ρ j)=some (.var as):=hb' _ (hsub _ g1);obtain ⟨b,_,_,_,q1,_⟩:=hi.vars _ as h1;exact ⟨b,as,q1,hi.lt q1,h1⟩
 let ko:Option Nat:=O.map (·.1);let κo:Option Nat:=ko.bind κ;let κ':Nat->Option Nat:=λj=>if j∈D then κ (ρ j) else if j=BIG then κo else none
 let tip':Nat->Value:=λ_=>match ko with | some k=>tip k | none=>undef
 let pk:PKs:=⟨D.map λj=>(j,(κ (ρ j)).getD 0),κo.toList,λe he=>by
  obtain ⟨j,hj,rfl⟩:=Q7.1 he;exact hDb j hj⟩
 have hκ':∀ j∈D,κ' j=κ (ρ j):=λj hj=>by simp [κ',hj]
 have hBD:BIG∉D:=λh=>Nat.lt_irrefl _ (hDb _ h);have hκB:κ' BIG=κo:=by simp [κ',hBD]
 have hκn:∀ j,j∉D->j≠BIG->κ' j=none:=λj h1 h2=>by simp [κ',h1,h2]
 have hpk:∀ e∈pk,e.1∈D/\κ (ρ e.1)=some e.2:=λe he=>by
  obtain ⟨j,hj,rfl⟩:=Q7.1 he;obtain ⟨b,_,h1,_⟩:=hkey j hj;exact ⟨hj,by simp [h1]⟩
 have hOk:∀ k wd cs,O=some (k,wd,cs)->κo=κ k/\tip' BIG=tip k:=λk wd cs h=>by subst h;exact ⟨rfl,rfl⟩
 have hrepv:∀ {v u:AV} {b:LB} {x:Value},GV O s ρ D v u b->(∀ e∈b,e∈bb)->RepA M κ tip s'.blk v x->RepA M κ' tip' (lk (bV B++oV O)) u x:=λh hb hr=>h.rep (λe he=>hb' e (hb e he)) hκ' hBs (λk wd cs e=>⟨(hOb k wd cs e).1,(hOb k wd cs e).2,(hOk k wd cs e).2⟩) hr;have hob:∀ b∈pk.ob,∃ k wd cs,O=some (k,wd,cs)/\κ k=some b/\(∀ o,M b o=none)/\(cx.w0.heap.size<=b∨b∈cx.ob):=λb hb=>by
  cases hO:O with
  | none=>simp [pk,κo,ko,hO] at hb
  | some o=>
   obtain ⟨k,wd,cs⟩:=o;have h1:κ k=some b:=by simpa [pk,κo,ko,hO] using hb
   rcases hi.owns k wd _ (hOb k wd cs hO).1 with ⟨_,h,_⟩ | ⟨_,⟨_,h,_⟩ | ⟨b',_,_,_,_,_,_,h,h3,_,_,_,_,_,_,_,h4⟩⟩
   ·rw [h] at h1;cases h1
   ·rw [h] at h1;cases h1
   ·rw [h] at h1;cases h1;exact ⟨k,wd,cs,rfl,h,h4,h3.imp id (·.1)⟩
 refine ⟨pk,κ',tip',{
  defers:=rfl
  size:=by simp only;omega
  fr:=⟨rfl,rfl,rfl,Qm _,λ_ _ _ _=>rfl⟩
  mem:=hi.mem
  env:=λt u h=>by
   obtain ⟨_,h3⟩:=zRt us 0 t u h;simp only [Nat.sub_zero] at h3;have hlt:t<us.length:=(List.getElem?_eq_some_iff.1 h3).1;have hlt':t<args.size:=by omega
   obtain ⟨v,b,g1,g2,g3⟩:=hargs t u h3;refine ⟨args[t],by simp [hlt'],?_⟩;have:=hrepv g1 g2 g3;rw [Q0,Array.getElem?_eq_getElem hlt'] at this;exact this
  vars:=λj us' h=>by
   rcases hvo j _ h with h | ⟨_,_,_,_,_,h⟩
   ·have hj:j∈D:=by rw [<- hD];exact (zFu h).1
    obtain ⟨as,b',g1,g2,g3⟩:=hB.get h;obtain ⟨b,arr,e,fz,q1,q2,q3,q4,q5,q6,q7⟩:=hi.vars (ρ j) as (hb' _ (hsub _ g1));refine ⟨b,arr,e,fz,by rw [hκ' j hj];exact q1,q2,q3,by rw [q4,g2.get.1],λi u hu=>?_,q6,.inr ?_⟩
    ·obtain ⟨v,b2,r1,r2,r3⟩:=g2.get.2 i u hu;exact hrepv (.f r2) (λe he=>hsub e (g3 e (r3 e he))) (q5 i v r1)
    ·simp only [Ctx.pb,Q7];exact ⟨(j,b),Q7.2 ⟨j,hj,by simp [q1]⟩,rfl⟩
   ·cases h
  bufs:=λj c h=>by
   rcases hvo j _ h with h | ⟨_,_,_,_,_,h⟩
   ·obtain ⟨_,us',h'⟩:=zFu h;cases h'
   ·cases h
  inj:=λj j' b h1 h2=>by
   have ho:∀ j∈D,κo=some b->κ (ρ j)=some b->False:=λj hj g1 g2=>by
    obtain ⟨k,wd,cs,e1,e2,_⟩:=hob b (by simp [pk,g1]);have e3:=hi.inj _ _ b g2 e2;obtain ⟨_,as,_,_,e4⟩:=hkey j hj;rw [e3,(hOb k wd cs e1).1] at e4;cases e4
   by_cases a1:j∈D
   ·rw [hκ' j a1] at h1;by_cases a2:j'∈D
    ·rw [hκ' j' a2] at h2;exact hinj j (hDout j a1) j' (hDout j' a2) (hi.inj _ _ b h1 h2)
    ·by_cases a3:j'=BIG
     ·subst a3;rw [hκB] at h2;exact (ho j a1 h2 h1).elim
     ·rw [hκn j' a2 a3] at h2;cases h2
   ·by_cases a3:j=BIG
    ·subst a3;rw [hκB] at h1;by_cases a2:j'∈D
     ·rw [hκ' j' a2] at h2;exact (ho j' a2 h1 h2).elim
     ·by_cases a4:j'=BIG
      ·exact a4.symm
      ·rw [hκn j' a2 a4] at h2;cases h2
    ·rw [hκn j a1 a3] at h1;cases h1
  dom:=λj h=>by
   by_cases a1:j∈D
   ·obtain ⟨us',h'⟩:=hBs j a1;have:lk (bV B++oV O) j=none:=h;rw [h'] at this;cases this
   ·by_cases a3:j=BIG
    ·subst a3;rw [hκB];cases hO:O with
     | none=>simp [κo,ko,hO]
     | some o=>
      obtain ⟨k,wd,cs⟩:=o;have:lk (bV B++oV O) BIG=none:=h;rw [(hOb k wd cs hO).2] at this;cases this
    ·exact hκn j a1 a3
  old:=⟨λ_ _ _=>rfl,λb hb=>by
   obtain ⟨k,wd,cs,e1,e2,e3,_⟩:=hob b hb;exact ⟨hi.lt e2,e3⟩⟩
  glob:=hi.globw hp
  owns:=λj wd l h=>by
   rcases hvo j _ h with h9 | ⟨k,wd',cs,e1,rfl,h9⟩
   ·obtain ⟨_,us',h'⟩:=zFu h9;cases h'
   cases h9;obtain ⟨o1,o2⟩:=hOk k wd cs e1;rw [hκB,o1,o2];rcases hi.owns k wd _ (hOb k wd cs e1).1 with g | ⟨g1,g | ⟨b,n,cap,arr,e,fz,q1,q2,q3,q4,q5,q6,q7,q8,q9,q10,q11⟩⟩
   ·exact .inl g
   ·exact .inr ⟨g1,.inl g⟩
   ·refine .inr ⟨g1,.inr ⟨b,n,cap,arr,e,fz,q1,q2,.inr ⟨by show b∈κo.toList;rw [o1,q2];simp,Qm _⟩,q4,q5,q6,q7,q8,q9,λi q hq=>?_,q11⟩⟩;have hr:=q10 i q hq;rw [List.getElem?_map] at hq;obtain ⟨q',_,rfl⟩:=Q4.1 hq;cases hr with
    | p _ _ h1=>exact .p _ _ h1 },λe he=>?_,?_⟩
 ·obtain ⟨h1,h2⟩:=hpk e he;obtain ⟨b,_,h3,h4,_⟩:=hkey e.1 h1;rw [h2] at h3;cases h3;exact ⟨by rw [hκ' _ h1];exact h2,h4⟩
 rintro v w' ⟨M',κ2,tip2,h0',hp',hr⟩;obtain ⟨κk,hik,hpk2,hkk,hkn,hks⟩:∃ κk,Inv cx M κk tip (kill s' O) a w/\(∀ k∈cx.pk,κk k.1=some k.2/\k.2<cx.w0.heap.size)/\(∀ i b,κk i=some b->κ i=some b/\b∉pk.ob)/\(∀ i as,s'.blk i=some (.var as)->κk i=κ i/\(kill s' O).blk i=some (.var as))/\∀ i,s'.blk i=none->(kill s' O).blk i=none:=by
  cases hO:O with
  | none=>exact ⟨κ,hi,hp,λi b h=>⟨h,by simp [pk,κo,ko,hO]⟩,λi as h=>⟨rfl,h⟩,λi h=>h⟩
  | some o=>
   obtain ⟨k,wd,cs⟩:=o;have hbk:=(hOb k wd cs hO).1;refine ⟨fA κ k none,hi.kill hbk,zS2 hi hp hbk none,λi b h=>?_,λi as h=>?_,λi h=>?_⟩
   ·have e:i≠k:=by rintro rfl;rw [vH] at h;cases h
    rw [yH e] at h;refine ⟨h,λhm=>?_⟩;obtain ⟨k',_,_,e1,e2,_⟩:=hob b hm;rw [hO] at e1;cases e1;exact e (hi.inj _ _ b h e2)
   ·have e:i≠k:=by rintro rfl;rw [hbk] at h;cases h
    exact ⟨yH e,by simp only [kill];rw [zQ e];exact h⟩
   ·have e:i≠k:=by rintro rfl;rw [hbk] at h;cases h
    simp only [kill];rw [zQ e];exact h
 obtain ⟨i1,i2⟩:=hik.import h0' hr ρ hinj
  (λe he=>by
   obtain ⟨h1,h2⟩:=hpk e he;obtain ⟨b,as,h3,h4,h5⟩:=hkey e.1 h1;exact ⟨(hp' e he).1,by rw [(hkn _ as h5).1];exact h2,⟨as,(hkn _ as h5).2⟩,hout e.1 h1⟩)
  (λj hj=>(hnew j hj).elim (λh=>.inl ⟨_,Q7.2 ⟨j,h,rfl⟩⟩) λh=>.inr (hks _ (hfr _ h)))
  (λb hb=>by
   obtain ⟨k,wd,cs,e1,e2,e3,e4⟩:=hob b hb;exact ⟨⟨λi h=>(hkk i b h).2 hb,e4⟩,hbg (by rw [e1];rfl)⟩)
 obtain ⟨x,hx,hrx⟩:=hr.env 0 av (by simp [mkS,lk]);simp at hx;subst hx;refine ⟨M',_,_,h0',?_,i1,i2 av v hrx⟩;intro k' hk';obtain ⟨h1,h2⟩:=hpk2 k' hk';refine ⟨?_,h2⟩;cases hfk:fk ρ (bout.map (·.1)) k'.1 with
 | none=>exact h1
 | some j=>
  obtain ⟨hj,he⟩:=qR hfk;simp only;rcases hnew j hj with h | h
  ·have h3:(j,(κ (ρ j)).getD 0)∈pk:=Q7.2 ⟨j,h,rfl⟩;have h4:=(hp' _ h3).1;have h1':=(hkk _ _ h1).1;rw [he] at h1';simp only [h1',Qr] at h4;exact h4
  ·have:=hi.dom _ (hfr _ h);rw [<- he] at this;rw [(hkk _ _ h1).1] at this;cases this
theorem zRz {o:Oper} (hd:o.dst=some d)
  (hok:Ok P f na (mkS (argA 0 us) (bV B++oV O)) (mkS [(0,av)] bout)) (hrs:wN s rs) (hbb:∀ e∈bb,s.blk e.1=some e.2) (hfr:∀ k∈fr,s.blk k=none)
  (hrun:∀ (cx:Ctx) (M:Mem) (κ:Nat->Option Nat) (tip:Nat->Value) (s':AS) (a:Act) (w:World),Inv cx M κ tip s' a w->wN s' rs->∃ args,(execOp a.eval o).run P w=.ok (.enter f args) w/\GR O s ρ (B.map (·.1)) bb M κ tip s'.blk us args)
  (hn:na=us.length) (hB:GB O s ρ (B.map (·.1)) B bB) (hsub:∀ e∈bB,e∈bb) (hsubO:∀ e∈oI O,e∈bb) (hinj:∀ j∈bout.map (·.1),∀ j'∈bout.map (·.1),ρ j=ρ j'->j=j') (hout:∀ j∈B.map (·.1),∃ l',lk bout j=some (.var l')) (hnew:∀ j∈bout.map (·.1),j∈B.map (·.1)∨ρ j∈fr) (hDb:∀ j∈B.map (·.1),j<BIG) (hbg:O.isSome=true->∀ j∈bout.map (·.1),BIG<=j->BIG<=ρ j) :
  SA P o s ⟨rs,bb,fr,some (d,some (av.ren ρ)),(bout.map λe=>(ρ e.1,e.2.ren ρ))++oD O⟩:=by
 refine ⟨?_,hrs,hbb,hfr⟩;intro cx s' a w K Q hm hs hws hk;obtain ⟨M,κ,tip,h0,hp,hi⟩:=hs;obtain ⟨args,hrun,hg⟩:=hrun cx M κ tip s' a w hi hm.1;subst hn;obtain ⟨pk,κ',tip',hinv,hpk,hafter⟩:=zZv hp hi hm.2.1 hm.2.2 hg hB hsub hsubO hinj hout hnew hDb hbg (av:=av);unfold Oper.wp;rw [hrun];show Calls P f _ w _;refine (hok.2 w M pk _ _ _ hinv hpk).mono ?_;rintro e' w' ⟨v,rfl,hr⟩;show K (a.put o.dst v) w';rw [hd];refine hk _ _ ?_;rw [zVz];obtain ⟨M',κ2,tip2,h1,h2,h3,h4⟩:=hafter v w' hr;exact ⟨M',κ2,tip2,h0.trans' h1,h2,h3.put (hws d (by simp [Qv])) h4⟩
theorem GR.of {xs:List Operand} {B:NB} (h:xs.length=us.length/\∀ (j:Nat) (u:AV),us[j]? = some u->∃ v b',GV O s ρ D v u b'/\(∀ e∈b',e∈bb)/\RepA M κ tip B v (((xs.map a.eval)[j]?).getD undef)) (ha:args.toList=xs.map a.eval):GR O s ρ D bb M κ tip B us args:=by
 refine ⟨by rw [<- Qn,ha,Qy,h.1],λj u hu=>?_⟩;obtain ⟨v,b,h1,h2,h3⟩:=h.2 j u hu;refine ⟨v,b,h1,h2,?_⟩;rw [Q0,<- Array.getElem?_toList,ha];exact h3
theorem zSk {o:Oper} (hd:o.dst=some d) (ho:o.op=.call { callee:=.value (.func f),args:=xs,argTypes:=ts })
  (hok:Ok P f na (mkS (argA 0 us) (bV B++oV O)) (mkS [(0,av)] bout)) (hxl:xs.toList=xl) (htl:ts.toList=tl) (ha:GA O s te ρ (B.map (·.1)) xl tl us rs bb) (hB:GB O s ρ (B.map (·.1)) B bB) (hO:∀ e∈oI O,s.blk e.1=some e.2) (hfr:∀ k∈fr,s.blk k=none) (hn:na=us.length)
  (hinj:∀ j∈bout.map (·.1),∀ j'∈bout.map (·.1),ρ j=ρ j'->j=j') (hout:∀ j∈B.map (·.1),∃ l',lk bout j=some (.var l')) (hnew:∀ j∈bout.map (·.1),j∈B.map (·.1)∨ρ j∈fr) (hDb:∀ j∈B.map (·.1),j<BIG) (hbg:O.isSome=true->∀ j∈bout.map (·.1),BIG<=j->BIG<=ρ j) :
  SA P o s ⟨rs,bb++(bB++oI O),fr,some (d,some (av.ren ρ)),(bout.map λe=>(ρ e.1,e.2.ren ρ))++oD O⟩:=by
 refine zRz (bb:=bb++(bB++oI O)) hd hok ha.reads.1 (λe he=>by
  simp only [Q6] at he;rcases he with he | he | he
  ·exact ha.reads.2 e he
  ·exact hB.blks e he
  ·exact hO e he) hfr (λcx M κ tip s' a w hi hr=>?_) hn hB (λe he=>by simp [he]) (λe he=>by simp [he]) hinj hout hnew hDb hbg
 refine ⟨_,zN1 ho hok.1,?_⟩;obtain ⟨h1,h2⟩:=ha.rep hi hr;refine GR.of (xs:=xl) (a:=a) ⟨h1,λj u hu=>?_⟩ (by simp [hxl]);obtain ⟨v,b,g1,g2,g3⟩:=h2 j u hu;exact ⟨v,b,g1,λe he=>Q6.2 (.inl (g2 e he)),g3⟩
theorem zVi {o:Oper} {tx:TypeId} (hd:o.dst=some d) (ho:o.op=.call { callee:=.value x,args:=xs,argTypes:=ts })
  (hx:s.get te tx x=some (.fnv (f+1000000) cs)) (hok:Ok P f na (mkS (argA 0 (us++qs)) (bV B++oV O)) (mkS [(0,av)] bout)) (hxl:xs.toList=xl) (htl:ts.toList=tl) (ha:GA O s te ρ (B.map (·.1)) xl tl us rs bb) (hc:GVs O s ρ (B.map (·.1)) cs qs bc) (hB:GB O s ρ (B.map (·.1)) B bB) (hO:∀ e∈oI O,s.blk e.1=some e.2) (hfr:∀ k∈fr,s.blk k=none) (hn:na=(us++qs).length)
  (hinj:∀ j∈bout.map (·.1),∀ j'∈bout.map (·.1),ρ j=ρ j'->j=j') (hout:∀ j∈B.map (·.1),∃ l',lk bout j=some (.var l')) (hnew:∀ j∈bout.map (·.1),j∈B.map (·.1)∨ρ j∈fr) (hDb:∀ j∈B.map (·.1),j<BIG) (hbg:O.isSome=true->∀ j∈bout.map (·.1),BIG<=j->BIG<=ρ j) :
  SA P o s ⟨opS x (.fnv (f+1000000) cs)++rs,bb++(bc++(bB++oI O)),fr,some (d,some (av.ren ρ)),(bout.map λe=>(ρ e.1,e.2.ren ρ))++oD O⟩:=by
 refine zRz (bb:=bb++(bc++(bB++oI O))) hd hok (yM (zM hx) ha.reads.1) (λe he=>?_) hfr (λcx M κ tip s' a w hi hr=>?_) hn hB (λe he=>by simp [he]) (λe he=>by simp [he]) hinj hout hnew hDb hbg
 ·simp only [Q6] at he;rcases he with he | he | he | he
  ·exact ha.reads.2 e he
  ·exact hc.blks e he
  ·exact hB.blks e he
  ·exact hO e he
 ·have hx':=yF hi (yN hx s' (yI hr));obtain ⟨vs,hev,g1,g2⟩:∃ vs:Array Value,a.eval x=.func (.func f) #[] vs/\vs.size=cs.length/\∀ (j:Nat) (q:AV),cs[j]? = some q->RepA M κ tip s'.blk q (vs.getD j undef):=by
   generalize a.eval x=z at hx';cases hx' with
   | fnv _ _ vs g1 g2=>
    refine ⟨vs,?_,g1,g2⟩;have:Qa (f+1000000) 1000000=false:=by rw [Qi];intro e;have:=Q2 e;omega
    simp [mkF,this]
  obtain ⟨h1,h2⟩:=ha.rep hi (zZ hr);obtain ⟨c1,c2⟩:=hc.get;obtain ⟨fn,k1,k2,k3⟩:=hok.1;have k2':fn.body≠none:=by intro e;simp [e] at k2
  have k3':fn.name ≠ "runtime.NumGoroutine":=by intro e;simp [e] at k3
  refine ⟨#[]++xs.map a.eval++vs,by simp [execOp,ho,resolve,hev,Deferred.ofValue,invoke,callFunc,k1,k2',k3'],?_,λj u hu=>?_⟩
  ·have:xs.size=xl.length:=by rw [<- hxl];simp
   simp [g1,c1,this,h1]
  ·have hsz:(xs.map a.eval).size=us.length:=by rw [<- h1,<- hxl];simp
   rw [List.getElem?_append] at hu;rw [Q0,Array.empty_append,Array.getElem?_append,hsz];split at hu
   ·rename_i hlt;rw [if_pos hlt];obtain ⟨v,b,g3,g4,g5⟩:=h2 j u hu;refine ⟨v,b,g3,λe he=>Q6.2 (.inl (g4 e he)),?_⟩;rw [<- hxl] at g5;simpa using g5
   ·rename_i hlt;rw [if_neg hlt];obtain ⟨v,b,g3,g4,g5⟩:=c2 _ u hu;refine ⟨v,b,.f g4,λe he=>by simp [g5 e he],?_⟩;rw [<- Q0];exact g2 _ v g3
end
def shm (d:Nat) (μ:List (Nat×Nat)) (j:Nat):Nat:=match lk μ j with | some k=>k | none=>sh d j
def zXu:List Nat->Bool
 | []=>true
 | a :: l=>l.all (λb=>!Nat.beq a b)&&zXu l
theorem zM2:∀ {l:List Nat},zXu (l.map ρ)=true->∀ j∈l,∀ j'∈l,ρ j=ρ j'->j=j'
 | [],_,j,h,_,_,_=>by simp at h
 | a :: l,hn,j,h,j',h',e=>by
  simp only [Q9,zXu,Qb] at hn;have hx:∀ i∈l,ρ a≠ρ i:=λi hi he=>by
   have:=(Qf.1 hn.1) (ρ i) (Q7.2 ⟨i,hi,rfl⟩);simp [he] at this
  simp only [Q5] at h h';rcases h with rfl | h
  ·rcases h' with rfl | h'
   ·rfl
   ·exact (hx j' h' e).elim
  ·rcases h' with rfl | h'
   ·exact (hx j h e.symm).elim
   ·exact zM2 hn.2 j h j' h' e
def zV4:List Nat->List Nat->Bool
 | [],[]=>true
 | a :: l,b :: m=>Q3 a b&&zV4 l m
 | _,_=>false
theorem zP3:∀ {l m:List Nat},zV4 l m=true->l=m
 | [],[],_=>rfl
 | a :: l,b :: m,h=>by
  simp only [zV4,Qb] at h;rw [Q1 h.1,zP3 h.2]
 | [],_ :: _,h=>by cases h
 | _ :: _,[],h=>by cases h
class zB4 (l:LB):Prop where
 h:∀ k w c,(k,ABlk.own w c)∈l->∃ e:PV,c=e.ecs
instance zB4.n:zB4 []:=⟨λ_ _ _ h=>by cases h⟩
instance zB4.o {k w:Nat} {e:PV} {r:LB} [h:zB4 r]:zB4 ((k,.own w e.ecs) :: r):=⟨λk w c m=>by
 rcases Q5.1 m with m | m
 ·cases m;exact ⟨_,rfl⟩
 ·exact h.h k w c m⟩
instance zB4.b {k:Nat} {e:PV} {r:LB} [h:zB4 r]:zB4 ((k,.buf e) :: r):=⟨λk w c m=>by
 rcases Q5.1 m with m | m
 ·cases m
 ·exact h.h k w c m⟩
instance zB4.v {k:Nat} {e:List AV} {r:LB} [h:zB4 r]:zB4 ((k,.var e) :: r):=⟨λk w c m=>by
 rcases Q5.1 m with m | m
 ·cases m
 ·exact h.h k w c m⟩
theorem zB4.bv {r:LB} [h:zB4 r] (B:List (Nat×List AV)):zB4 (bV B++r):=⟨λk w c m=>by
 have hf:∀ B:List (Nat×List AV),(k,ABlk.own w c)∈bV B->False:=λB=>by
  induction B with
  | nil=>intro m;cases m
  | cons x B ih=>
   intro m;rcases Q5.1 m with m | m
   ·cases m
   ·exact ih m
 rcases Q6.1 m with m | m
 ·exact (hf B m).elim
 ·exact h.h k w c m⟩
def bRq (ρ:Nat->Nat):LB->LB
 | []=>[]
 | (k,.own w c) :: r=>(ρ k,.own w c) :: bRq ρ r
 | (k,.var l) :: r=>(ρ k,(ABlk.var l).ren ρ) :: bRq ρ r
 | (k,.buf l) :: r=>(ρ k,(ABlk.buf l).ren ρ) :: bRq ρ r
theorem zQa (ρ:Nat->Nat):∀ (l:LB),zB4 l->bRq ρ l=bR ρ l
 | [],_=>rfl
 | (k,.own w c) :: r,h=>by
  have ih:=zQa ρ r ⟨λk w c m=>h.h k w c (Qs _ m)⟩;obtain ⟨e,rfl⟩:=h.h k w c List.mem_cons_self;simp only [bRq,bR,ih,ABlk.ren,zEx]
 | (k,.var l) :: r,h=>by simp only [bRq,bR,zQa ρ r ⟨λk w c m=>h.h k w c (Qs _ m)⟩]
 | (k,.buf l) :: r,h=>by simp only [bRq,bR,zQa ρ r ⟨λk w c m=>h.h k w c (Qs _ m)⟩]
section
variable {v:AV} {xs:List Operand} {ts:List TypeId} {as:List AV} {b:LB} {o:Nat} {r:List (Nat×List AV)}
theorem yA5 (h:D.any (Q3 j)=true):j∈D:=by
 obtain ⟨i,h1,h2⟩:=List.any_eq_true.1 h;rw [Q1 h2];exact h1
theorem ga0:GA O s te ρ D [] [] [] [] []:=.nil
theorem gap (h:s.get te t x=some v) (hr:s.rd v=some (q,b)) (k:GA O s te ρ D xs ts us rs bs):GA O s te ρ D (x :: xs) (t :: ts) (.p q :: us) (opS x v++rs) (b++bs):=.cons h (.f (.p hr)) k
theorem gat (h:s.get te t x=some (.ptr k o)) (e:ρ j=k) (hm:D.any (Q3 j)=true) (kk:GA O s te ρ D xs ts us rs bs):GA O s te ρ D (x :: xs) (t :: ts) (.ptr j o :: us) (opS x (.ptr k o)++rs) ([]++bs):=.cons h (.f (.ptr e (yA5 hm))) kk
theorem gao {n:Nat} {cs:List PV} (h:s.get te t x=some (.own k n)) (e:O=some (k,wd,cs)) (kk:GA O s te ρ D xs ts us rs bs):GA O s te ρ D (x :: xs) (t :: ts) (.own BIG n :: us) (opS x (.own k n)++rs) ([]++bs):=.cons h (.f (.own e)) kk
theorem gaa {ul:List AV} (h:s.get te t x=some (.ag l)) (g:GVs O s ρ D l ul b) (kk:GA O s te ρ D xs ts us rs bs):GA O s te ρ D (x :: xs) (t :: ts) (.ag ul :: us) (opS x (.ag l)++rs) (b++bs):=.cons h (.ag g) kk
theorem gl0:GVs O s ρ D [] [] []:=.nil
theorem glp (hr:s.rd v=some (q,b)) (k:GVs O s ρ D vs us bs):GVs O s ρ D (v :: vs) (.p q :: us) (b++bs):=.cons (.p hr) k
theorem glt (e:ρ j=k) (hm:D.any (Q3 j)=true) (kk:GVs O s ρ D vs us bs):GVs O s ρ D (.ptr k o :: vs) (.ptr j o :: us) ([]++bs):=.cons (.ptr e (yA5 hm)) kk
theorem glo {n:Nat} {cs:List PV} (e:O=some (k,wd,cs)) (kk:GVs O s ρ D vs us bs):GVs O s ρ D (.own k n :: vs) (.own BIG n :: us) ([]++bs):=.cons (.own e) kk
theorem gb0:GB O s ρ D [] []:=.nil
theorem gb (h:s.blk (ρ j)=some (.var as)) (g:GVs O s ρ D as us b) (k:GB O s ρ D r bs):GB O s ρ D ((j,us) :: r) ((ρ j,.var as) :: (b++bs)):=.cons h g k
inductive GS (s:AS) (te:TE) (t:TypeId):List Operand->List AV->LV->Prop where
 | nil:GS s te t [] [] []
 | cons {x:Operand} {v:AV} {xs:List Operand} {vs:List AV} {rs:LV}:s.get te t x=some v->GS s te t xs vs rs->GS s te t (x :: xs) (v :: vs) (opS x v++rs)
theorem gs0:GS s te t [] [] []:=.nil
theorem gs1 (h:s.get te t x=some v) (k:GS s te t xs vs rs):GS s te t (x :: xs) (v :: vs) (opS x v++rs):=.cons h k
theorem GS.reads (h:GS s te t xs vs rs):wN s rs:=by
 induction h with
 | nil=>intro e he;simp at he
 | cons h _ ih=>exact yM (zM h) ih
theorem GS.rep (h:GS s te t xs vs rs) {w:World} (hi:Inv cx M κ tip s' a w):wN s' rs->xs.length=vs.length/\∀ (j:Nat) (v:AV),vs[j]? = some v->RepA M κ tip s'.blk v (((xs.map a.eval)[j]?).getD undef):=by
 induction h with
 | nil=>intro _;exact ⟨rfl,by simp⟩
 | cons h _ ih=>
  intro hr;obtain ⟨e1,e2⟩:=ih (zZ hr);refine ⟨by simp [e1],λj v hv=>?_⟩;cases j with
  | zero=>simp at hv;subst hv;simpa using yF hi (yN h s' (yI hr))
  | succ j=>simpa using e2 j v (by simpa using hv)
end
section
theorem zZf {o:Oper} {yl:List Operand} (ho:o.op=.makeFunc (.func f) #[] ys) (hyl:ys.toList=yl) (h:GS s te 0 yl vs rs):VA P o s rs [] (.fnv (f+1000000) vs):=by
 refine ⟨?_,h.reads,by simp⟩;intro cx M κ tip s' a w hi hr _;obtain ⟨h1,h2⟩:=h.rep hi hr;have hlt:Qa (f+1000000) 1000000=false:=by rw [Qi];intro e;have:=Q2 e;omega
 refine ⟨mkF (f+1000000) (ys.map a.eval),by simp [execOp,ho,Instr.makeFunc,mkF,hlt],.fnv _ _ _ (by rw [<- h1,<- hyl];simp) (λj v hv=>?_)⟩;have:=h2 j v hv;rw [<- hyl] at this;rw [Q0];simpa using this
end
section
variable [T:aY P] 
theorem RK.mfC (h:GS s T.te 0 ys.toList vs rs) (k:VK P ops r s K d rs [] (.fnv (f+1000000) vs)):RK P ops (⟨some d,.makeFunc (.func f) #[] ys,ty,pos,af,none⟩:: r) s K:=RK.va rfl rfl (zZf rfl rfl h) k
def zTi (s:AS) (d na:Nat) (n:Nat) (μ:List (Nat×Nat)) (B B2:List (Nat×List AV)) (bn:LB):Bool:=
 Q3 na n&&(B.all (λe=>Qa e.1 BIG)&&((kR (shm d μ) bn).all (λk=>(s.blk k).isNone)&&(zV4 (B.map (·.1)) (B2.map (·.1))&&zXu (kR (shm d μ) (bV B2++bn)))))
theorem zDr {n:Nat} (h:zTi s d na n μ B B2 bn=true):na=n/\(∀ k∈bn.map (λe=>shm d μ e.1),s.blk k=none) /\
  (∀ j∈(bV B2++bn).map (·.1),∀ j'∈(bV B2++bn).map (·.1),shm d μ j=shm d μ j'->j=j')/\(∀ j∈B.map (·.1),∃ l',lk (bV B2++bn) j=some (.var l'))/\(∀ j∈(bV B2++bn).map (·.1),j∈B.map (·.1)∨shm d μ j∈bn.map (λe=>shm d μ e.1))/\∀ j∈B.map (·.1),j<BIG:=by
 simp only [zTi,Qb] at h;obtain ⟨h1,h0,h2,h3,h4⟩:=h;rw [kD] at h2 h4;have h3:=zP3 h3;refine ⟨Q1 h1,λk hk=>by simpa using (Qf.1 h2) k hk,?_,λj hj=>?_,λj hj=>?_,λj hj=>?_⟩
 ·have:(bV B2++bn).map (λe=>shm d μ e.1)=((bV B2++bn).map (·.1)).map (shm d μ):=by rw [List.map_map];rfl
  rw [this] at h4;exact zM2 h4
 ·rw [h3] at hj;obtain ⟨us,hus⟩:=zAs hj;refine ⟨us,?_⟩;clear h1 h2 h3 h4;revert hus;generalize bV B2=l;intro hus;induction l with
  | nil=>simp [lk] at hus
  | cons e l ih=>
   obtain ⟨i,b⟩:=e;simp only [W7,lk] at hus ⊢;cases hb:Q3 j i with
   | true=>simpa [hb] using hus
   | false=>simp [hb] at hus ⊢;exact ih hus
 ·rw [We,Q6] at hj;rcases hj with hj | hj
  ·rw [zMl] at hj;rw [h3];exact .inl hj
  ·obtain ⟨e,he,rfl⟩:=Q7.1 hj;exact .inr (Q7.2 ⟨e,he,rfl⟩)
 ·obtain ⟨e,he,rfl⟩:=Q7.1 hj;exact Q2 ((Qf.1 h0) e he)
theorem zUa {l:List Nat} (h:l.all (λj=>(lk μ j).isNone||Qa j BIG)=true):∀ j∈l,BIG<=j->BIG<=shm d μ j:=λj hj hb=>by
 have:=(Qf.1 h) j hj;unfold shm;cases hq:lk μ j with
 | none=>simp only [sh];omega
 | some k=>rw [hq] at this;have:=Q2 (show Qa j BIG=true by simpa using this);omega
theorem RK.cg (μ:List (Nat×Nat)) (h:Ok P f na (mkS (argA 0 us) (bV B)) (mkS [(0,av)] (bV B2++bn))) (ha:GA none s T.te (shm d μ) (B.map (·.1)) xs.toList ts.toList us rs bb) (hB:GB none s (shm d μ) (B.map (·.1)) B bB) (hc:zTi s d na us.length μ B B2 bn=true)
  (k:RK P ops r (W0 ⟨rs,bb++bB,kR (shm d μ) bn,some (d,some (av.ren (shm d μ))),bR (shm d μ) (bV B2++bn)⟩ s) λs' ms=>K s' (⟨rs,bb++bB,kR (shm d μ) bn,some (d,some (av.ren (shm d μ))),bR (shm d μ) (bV B2++bn)⟩:: ms)):RK P ops (⟨some d,.call ⟨.value (.func f),xs,ts⟩,ty,pos,af,none⟩:: r) s K:=by
 obtain ⟨c1,c2,c3,c4,c5,c6⟩:=zDr hc;rw [kD,zDp] at k;have sa:=zSk (P:=P) (O:=none) (o:=⟨some d,.call ⟨.value (.func f),xs,ts⟩,ty,pos,af,none⟩) rfl rfl (by simpa [oV] using h) rfl rfl ha hB (by simp [oI]) c2 c1 c3 c4 c5 c6 (by simp);simp only [oI,oD,Wf] at sa;exact RK.st rfl sa k
theorem RK.cgo (μ:List (Nat×Nat)) {cs:List PV} [ow:zB4 bn] (h:Ok P f na (mkS (argA 0 us) (bV B++[(BIG,qO c)])) (mkS [(0,av)] (bV B2++bn))) (ho0:(s.blk k0,qO c)=(some (qO c),.own wd (cs.map .p))) (ha:GA (some (k0,wd,cs)) s T.te (shm d μ) (B.map (·.1)) xs.toList ts.toList us rs bb) (hB:GB (some (k0,wd,cs)) s (shm d μ) (B.map (·.1)) B bB) (hc0:(zTi s d na us.length μ B B2 bn,(kR id (bV B2++bn)).all (λj=>(lk μ j).isNone||Qa j BIG))=(true,true))
  (k:RK P ops r (W0 ⟨rs,bb++(bB++[(k0,qO c)]),kR (shm d μ) bn,some (d,some (av.ren (shm d μ))),bRq (shm d μ) (bV B2++bn)++[(k0,zOr)]⟩ s) λs' ms=>K s' (⟨rs,bb++(bB++[(k0,qO c)]),kR (shm d μ) bn,some (d,some (av.ren (shm d μ))),bRq (shm d μ) (bV B2++bn)++[(k0,zOr)]⟩:: ms)):RK P ops (⟨some d,.call ⟨.value (.func f),xs,ts⟩,ty,pos,af,none⟩:: r) s K:=have ⟨ho,hq⟩:=pq ho0;have ⟨hc,hg⟩:=pq hc0;by
 obtain ⟨c1,c2,c3,c4,c5,c6⟩:=zDr hc;rw [kD,zQa _ _ (zB4.bv B2),zDp] at k;rw [kD] at hg;rw [hq] at h ho k;exact RK.st rfl (zSk (O:=some (k0,wd,cs)) rfl rfl h rfl rfl ha hB (by simpa [oI] using ho) c2 c1 c3 c4 c5 c6 (λ_=>zUa (by simpa using hg))) k
theorem RK.cgc (μ:List (Nat×Nat)) (h:Ok P f na (mkS (argA 0 (us++qs)) (bV B)) (mkS [(0,av)] (bV B2++bn))) (hx:s.get T.te 0 x=some (.fnv (f+1000000) cs)) (ha:GA none s T.te (shm d μ) (B.map (·.1)) xs.toList ts.toList us rs bb) (hg:GVs none s (shm d μ) (B.map (·.1)) cs qs bc) (hB:GB none s (shm d μ) (B.map (·.1)) B bB) (hc:zTi s d na (us++qs).length μ B B2 bn=true)
  (k:RK P ops r (W0 ⟨opS x (.fnv (f+1000000) cs)++rs,bb++(bc++bB),kR (shm d μ) bn,some (d,some (av.ren (shm d μ))),bR (shm d μ) (bV B2++bn)⟩ s) λs' ms=>K s' (⟨opS x (.fnv (f+1000000) cs)++rs,bb++(bc++bB),kR (shm d μ) bn,some (d,some (av.ren (shm d μ))),bR (shm d μ) (bV B2++bn)⟩:: ms)):RK P ops (⟨some d,.call ⟨.value x,xs,ts⟩,ty,pos,af,none⟩:: r) s K:=by
 obtain ⟨c1,c2,c3,c4,c5,c6⟩:=zDr hc;rw [kD,zDp] at k;have sa:=zVi (P:=P) (O:=none) (o:=⟨some d,.call ⟨.value x,xs,ts⟩,ty,pos,af,none⟩) rfl rfl hx (by simpa [oV] using h) rfl rfl ha hg hB (by simp [oI]) c2 c1 c3 c4 c5 c6 (by simp);simp only [oI,oD,Wf] at sa;exact RK.st rfl sa k
end
theorem zSm (h:as.blk=lk (bV B)) (hks:kR id (bV B)=ks):∀ k,k<BIG->(as.blk k).isSome=true->k∈ks:=λk _ hk=>by
 rw [h] at hk;obtain ⟨b,hb⟩:=Option.isSome_iff_exists.1 hk;have:=(zFu hb).1;rw [kD] at hks;rw [<- hks];rw [<- zMl] at this;simpa using this
theorem uA {b:ABlk} (h:as.blk=lk (bV B++[(BIG,b)])) (hks:kR id (bV B)=ks):∀ k,k<BIG->(as.blk k).isSome=true->k∈ks:=λk hb hk=>by
 rw [h,zNz] at hk;have e:lk [(BIG,b)] k=none:=by
  have:Q3 k BIG=false:=by rw [Qi];intro e;have:=Q1 e;omega
  simp [lk,this]
 rw [e,Option.or_none] at hk;exact zSm (as:=mkS [] (bV B)) rfl hks k hb hk
section
theorem zU5 {o:Oper} {lo:Operand} {a b:Nat} {n:Nat} (hok:yX P te) (ho:o.op=.slice t x (some lo) (some hi) none)
  (ht:(te t).map (·.ty)=some (.slice e)) (he:te e=some ei) (hw:ei.w=1) (hx:s.get te t x=some (.own k n)) (hb:s.blk k=some (.own 1 l)) (hn:n=l.length)
  (hlo:s.get te 0 lo=some (.p (.int kl (a:Nat)))) (hhi:s.get te 0 hi=some (.p (.int kh (b:Nat)))) (h1:a<b) (h2:b<=n) :
  VA P o s (opS x (.own k n)++(opS lo (.p (.int kl (a:Nat)))++opS hi (.p (.int kh (b:Nat))))) [(k,.own 1 l)] (.osl k n a (b - a)):=by
 have bl:Bd s te (some lo) (some (a:Int)) _:=.some _ _ _ hlo;have bh:Bd s te (some hi) (some (b:Int)) _:=.some _ _ _ hhi;refine ⟨?_,yM (zM hx) (yM bl.reads bh.reads),by simpa using hb⟩;intro cx M κ tip s' ac w hin hr hb';have hbk:=hb' (k,.own 1 l) (by simp);simp only at hbk;obtain ⟨fl,hfl⟩:=bl.eval hin (yI (zZ hr));obtain ⟨fh,hfh⟩:=bh.eval hin (zZ (zZ hr));have hu:=xA hok ht;have hsz:=tC hok he w;have hev:=zQn (cx:=cx) hbk (by omega) (yF hin (yN hx s' (yI hr)));obtain ⟨g1,g2⟩:=hin.owns.live hbk (n:=n) (by omega);rcases g2 with ⟨_,_,rfl⟩ | ⟨b0,n1,cap,arr,e1,fz,q1,q2,q3,q4,q5,q6,q7,q8,q9,q10,q11⟩
 ·simp at hn;omega
 ·have hnn:n1=n:=by omega
  subst hnn;rw [q1] at hev;have hb0:=zAm P w true n1 cap (some (a:Int)) (some (b:Int)) none fl fh fl (by simp) (by simp) (by simp;omega) (by simp;omega) (by simp);have hml:¬ cap=a:=by omega
  refine ⟨.slice (some ⟨b0,0+a,none⟩) (b - a) (cap - a),?_,.osl k n1 a (b - a) 1 l _ hbk (by omega) (λ_=>⟨b0,cap - a,q2,by simp,by omega⟩) ⟨_,_,_,rfl⟩⟩;simp only [Wg,Option.map_none,Qr,Int.toNat_natCast,Option.getD_none] at hb0 hfl hfh;simp [execOp,ho,hev,Instr.sliceAt,Instr.slice,run_underlying hu,hfl,hfh,hb0,hsz,hw,hml,add_off]
theorem zW3 {o:Oper} {n:Nat} {m:By} (hok:yX P te) (hd:o.dst=some d) (ho:o.op=.call { callee:=.builtin .copy,args:=#[x,y],argTypes:=#[t,t'] }) (ht:(te t).map (·.ty)=some (.slice e)) (he:te e=some ei) (hw:ei.w=1)
  (hx:s.get te t x=some (.osl k N off n)) (hk:s.blk k=some (.own 1 l)) (hN:N=l.length) (hl:off+n<=l.length) (hy:s.get te t' y=some vy) (hp:s.rd vy=some (.bytes m,bs)) :
  SA P o s ⟨opS x (.osl k N off n)++opS y vy,(k,.own 1 l) :: bs,[],some (d,some (.p (.int .i64 (min m.length n:Nat)))),[(k,.own 1 (rN l off ((m.take n).map λu=>.p (.int .u8 u.toNat))))]⟩:=by
 refine ⟨?_,yM (zM hx) (zM hy),λe he=>(Q5.1 he).elim (λh=>by subst h;exact hk) (uM vy _ bs hp e),by intro k hk';simp at hk'⟩;intro cx s' a w K Q hm hs' hws hk';obtain ⟨M,κ,tip,h0,hpk,hi⟩:=hs';have hbk:s'.blk k=some (.own 1 l):=hm.2.1 (k,.own 1 l) (by simp);have hx':=yF hi (yN hx s' (yI hm.1));have hy':=kE hi hy hp (zZ hm.1) (λe he=>hm.2.1 e (by simp [he]));obtain ⟨info,z,i1,i2,i3,i4,i5⟩:=(hok e ei he).info;have hu:=xA hok ht;have hsz1:(P.info? e).map (·.size)=some 1:=by rw [i1,Wg,i2,hw]
 generalize hev:a.eval x=zx at hx';cases hx' with
 | osl _ _ _ _ w' l' _ g1 g2 g3 g4=>
 rw [hbk] at g1;cases g1;obtain ⟨b,c,hκ,rfl,hnc⟩:=g3 (by omega);obtain ⟨_,g5⟩:=hi.owns.live hbk (n:=N) (by omega);rcases g5 with ⟨_,y2,_⟩ | ⟨b',n1,cap,arr,e1,fz,q1,q2,q3,q4,q5,q6,q7,q8,q9,q10,q11⟩
 ·rw [hκ] at y2;cases y2
 rw [hκ] at q2;cases q2;have hnn:n1=N:=by omega
 subst hnn;have hfin:∀ (w':World) (vs:List Value),(execOp a.eval o).run P w=.ok (.value (.int .i64 (min m.length n:Nat))) w'->w'=w.setCells b off vs->vs=(m.take n).map (λu=>.int .u8 u.toNat)->o.wp P a w K Q:=by
  intro w' vs h1 h2 h3;subst h2;unfold Oper.wp;rw [h1];show K (a.put o.dst _) _;rw [hd];refine hk' _ _ ?_;rw [sN];have hvl:vs.length=((m.take n).map λu=>(AV.p (.int .u8 u.toNat))).length:=by simp [h3]
  have hvn:vs.length<=n:=by rw [h3];simp;omega
  obtain ⟨arr',z1,z2,z3⟩:=qH b vs off w arr e1 fz q4 (by omega);have hlen:=zDx (l:=l) (cs:=(m.take n).map λu=>(AV.p (.int .u8 u.toNat))) (off:=off) (by omega);refine ⟨M,κ,_,h0,hpk,(hi.ownSet (n':=n1) hbk q1 hκ q3 (by rw [z2];exact q5) z1 (by rw [z2];exact q7) q8 q9 (by omega) q11 (by omega) (by omega) q6 ?_).put (hws d (by simp [Qv])) (.p _ _ (.int _ _))⟩;intro j q hq;rw [bQ (by omega)] at hq;rw [Q0,z3 j];by_cases hj:off<=j/\j<off+vs.length
  ·rw [if_pos (by omega)] at hq;rw [if_pos hj];rw [List.getElem?_map] at hq;obtain ⟨u,h4,h5⟩:=Q4.1 hq;subst h5;rw [h3,List.getElem?_map,h4];exact .p _ _ (.int _ _)
  ·rw [if_neg (by omega)] at hq;rw [if_neg hj];have:=q10 j q hq;rw [Q0] at this;exact this
 generalize hevy:a.eval y=zy at hy';cases hy' with
 | bytes0=>
  refine hfin w [] ?_ rfl (by simp);have:=run_copy_none (P:=P) w t t' o.type e (some ⟨b,off,none⟩) none n c 0 0 hu hsz1 (by simp [Nat.min_def]);simp [execOp,ho,hev,hevy,resolve,invoke,builtin,this,goInt]
 | bytesE aa=>
  refine hfin w [] ?_ rfl (by simp);have:=run_copy_none (P:=P) w t t' o.type e (some ⟨b,off,none⟩) (some aa) n c 0 0 hu hsz1 (by simp [Nat.min_def]);simp [execOp,ho,hev,hevy,resolve,invoke,builtin,this,goInt]
 | bytes _ b2 o2 n2 c2 e1' e2' e3'=>
  have hcs:((m.take n).map λu=>Value.int .u8 u.toNat).length=Nat.min n2 n:=by simp [e1',Nat.min_comm]
  have hrun:=run_copy_cells (P:=P) w t t' o.type e b off n c ⟨b2,o2,none⟩ n2 c2 ((m.take n).map λu=>Value.int .u8 u.toNat) hu hsz1 hcs
   (by
    intro j u hu';rw [List.getElem?_map] at hu';obtain ⟨u',h4,h5⟩:=Q4.1 hu';rw [List.getElem?_take] at h4;split at h4
    ·rw [add_off,<- h5];exact hi.mem _ _ _ (e3' j u' h4)
    ·cases h4)
   (by
     intro j hj;simp at hj;have:off+j<arr.size:=by omega
     simp [Ql,q4,this])
   (by intro j hj;simp at hj;exact oC q4 q5 (by omega))
   (by intro u hu';obtain ⟨u',_,rfl⟩:=Q7.1 hu';rfl)
  refine hfin _ _ ?_ rfl rfl;have hmin:((m.take n).map λu=>Value.int .u8 u.toNat).length=min m.length n:=by simp [Nat.min_comm]
  rw [hmin] at hrun;simp [execOp,ho,hev,hevy,resolve,invoke,builtin,hrun,goInt]
end
def cpA (l:By) (o n:Nat) (m:By):By:=l.take o++(m.take n++l.drop (o+(m.take n).length))
theorem zYm {l m:By} {o n:Nat} (h:Qz (o+n) l.length=true) (hk:l.length=k):(cpA l o n m).length=k:=by
 have:=Q2 h;simp only [cpA,Qu,List.length_take,List.length_drop];omega
section
variable [T:aY P] 
theorem RK.slO {lo:Operand} {n:Nat} {l:By} (a b:Nat) (hn:l.length=n) (h:Qz b l.length=true) (ht0:((T.te t).map (·.ty),T.te e,ei.w,s.get T.te t x,s.blk k0,s.get T.te 0 lo,s.get T.te 0 hi,Qa a b)=(some (.slice e),some ei,1,some (.own k0 n),some (qO (.bytes l)),some (.p (.int kl (a:Nat))),some (.p (.int kh (b:Nat))),true))
  (k:VK P ops r s K d (opS x (.own k0 n)++(opS lo (.p (.int kl (a:Nat)))++opS hi (.p (.int kh (b:Nat))))) [(k0,qO (.bytes l))] (.osl k0 n a (b - a))):RK P ops (⟨some d,.slice t x (some lo) (some hi) none,ty,pos,af,none⟩:: r) s K:=have ⟨ht,ht0⟩:=pq ht0;have ⟨he,ht0⟩:=pq ht0;have ⟨hw,ht0⟩:=pq ht0;have ⟨hx,ht0⟩:=pq ht0;have ⟨hb,ht0⟩:=pq ht0;have ⟨hlo,ht0⟩:=pq ht0;have ⟨hhi,h1⟩:=pq ht0;
 RK.va rfl rfl (zU5 T.ok rfl ht he hw hx hb (by simp [PV.ecs,hn]) hlo hhi (Q2 h1) (by have:=Q2 h;omega)) k
theorem RK.cpO {n:Nat} {l m:By} (hN:l.length=N) (h:Qz (off+n) l.length=true) (ht0:((T.te t).map (·.ty),T.te e,ei.w,s.get T.te t x,s.blk k0,s.get T.te t2 y)=(some (.slice e),some ei,1,some (.osl k0 N off n),some (qO (.bytes l)),some vy)) (hp:s.rd vy=some (.bytes m,bs))
  (k:BK P ops r s K d (opS x (.osl k0 N off n)++opS y vy) ((k0,qO (.bytes l)) :: bs) [] k0 (qO (.bytes (cpA l off n m))) (.p (.int .i64 (min m.length n:Nat)))):RK P ops (⟨some d,.call ⟨.builtin .copy,#[x,y],#[t,t2]⟩,ty,pos,af,none⟩:: r) s K:=have ⟨ht,ht0⟩:=pq ht0;have ⟨he,ht0⟩:=pq ht0;have ⟨hw,ht0⟩:=pq ht0;have ⟨hx,ht0⟩:=pq ht0;have ⟨hk,hy⟩:=pq ht0;by
 have hle:=Q2 h;have h2:=zW3 (P:=P) (o:=⟨some d,.call ⟨.builtin .copy,#[x,y],#[t,t2]⟩,ty,pos,af,none⟩) T.ok rfl rfl ht he hw hx hk (by simp [PV.ecs,hN]) (by simp [PV.ecs];omega) hy hp;have e1:rN (PV.ecs (.bytes l)) off ((m.take n).map λu=>AV.p (.int .u8 u.toNat))=PV.ecs (.bytes (cpA l off n m)):=by
  rw [eT (by simp [PV.ecs];omega)];simp [PV.ecs,cpA]
 rw [e1] at h2;exact RK.sb rfl h2 k
end
end Go.Sw
