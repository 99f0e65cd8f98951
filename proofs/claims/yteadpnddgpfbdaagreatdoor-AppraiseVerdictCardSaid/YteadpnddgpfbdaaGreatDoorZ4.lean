/- AppraiseVerdict (law 37: the verdict about evidence that is right but for up to two changes) is proved for every input, under no condition of ours; this text is a part of that proof. -/
import Derived.Test.YteadpnddgpfbdaaGreatDoorZ3
import Derived.Lib.Bytealg
set_option linter.all false
open Array renaming getD_eq_getD_getElem? -> Q0, size_append -> Qo, length_toList -> Qt
open Nat renaming eq_of_beq_eq_true -> Q1, mul_le_mul_right -> Q2, le_of_ble_eq_true -> Q3, eq_of_mul_eq_mul_right -> Q5, beq -> Q6, add_mul -> Qb, eq_zero_or_pos -> Qf, blt -> Qj, le_mul_of_pos_right -> Qn, mul_pos -> Qq, add_zero -> Qs, le_refl -> Qw, ble -> Qy, mul_comm -> W0, div_lt_of_lt_mul -> W4, le_trans -> W7, zero_add -> W9, div_add_mod -> Wf
open Go.Extern.Bytes renaming bytesOf -> Q4, loadBytes -> Qp, asByte -> W6
open Option renaming map_eq_some_iff -> Q7, getD_some -> Wd
open List renaming size_toArray -> Q8, map_cons -> Q9, eq_nil_of_length_eq_zero -> Qa, mem_cons -> Qe, getElem_of_mem -> Qk, all_eq_true -> Qr, map -> Qv, getElem_mem -> Qz, mem_map -> W1, mem_append -> W2, length_append -> W8, ext_getElem? -> Wb, length_cons -> Wc, length_nil -> We, length_set -> Wh, length_map -> Wj, map_set -> Wl
open Go.Extern.BytealgIndexByte renaming indexByte -> Qc
open Bool renaming and_eq_true -> Qd, true_and -> W5, eq_false_iff -> Wa
open Go.World renaming cell? -> Qg
open Go.Extern.BytealgCompare renaming compare -> Qh
open Go.Sw.PV renaming len -> Qi, src -> Ql, width -> W3, isSlice -> Wg, one -> Wi
open Go.Result renaming andThen -> Qm
open Go.Instr renaming sureAddr -> Qu, storeAt -> Wk, loadAt -> Wn
open Go.Builtin renaming zeroCells -> Qx, len_ -> Wm
namespace Go.Sw
open Go
variable {B:NB}{K:AS->List Mic->Prop}{M:Mem}{P:Program}{Q:Exit->AS->Prop}{a:ByteArray}{af:Array Edge}{ax:Operand}{b:Nat}{blk blk':LB}{body:Code}{bs:LB}{c:PV}{cap:Nat}{cs:List AV}{cx:Ctx}{d:Nat}{dd:TypeDesc}{e e2:TypeId}{ei:TI}{env env':LV}{i:TI}{j k k0 k2:Nat}{l l2:List AV}{m n:Nat}{o:Oper}{off:Nat}{ops:Array Oper}{p:PV}{pk:List (Nat×Nat)}{pl:List (Nat×Operand)}{pos:String}{r:List Oper}{rs:LV}{s:AS}{t t' t2 ta:TypeId}{te:TE}{tip:Nat->Value}{ty:TypeId}{v:AV}{vs:LV}{vy:AV}{w wd:Nat}{x y:Operand}{z:Value}{α:Type}{κ:Nat->Option Nat}{f:α->PV}{l':List α}{u:α}
section
theorem zQk (hok:yP P te) (hd:o.dst=none) (ho:o.op=.store t ax x) (ht:te t=some i) (ha:s.get te ta ax=some (.ptr k off)) (hx:s.get te t x=some v) (hp0:s.rd v=some (p,bs)) (hb:s.blk k=some (.var l))
  (hw:(AV.p p).cells.length=i.w) (hl:off+i.w<=l.length) (hone:(AV.p p).cells.all AV.one=true):SA P o s ⟨opS ax (.ptr k off)++opS x v,(k,.var l) :: bs,[],none,[(k,.var (qM l off (AV.p p).cells))]⟩:=by
 refine ⟨?_,yK (zJ ha) (zJ hx),λe he=>(Qe.1 he).elim (λh=>by subst h;exact hb) (vP v p bs hp0 e),by intro e he;simp at he⟩;intro cx s' a w K Q hm hs hws hk;obtain ⟨M,κ,tip,h0,hp,hi⟩:=hs;have hbk:=hm.2.1 (k,.var l) (by simp);have hx':RepA M κ tip s'.blk (.p p) (a.eval x):=.p _ _ (mT hi hx hp0 (zX hm.1) (λe he=>hm.2.1 e (by simp [he])));have ha':=zY hi (yJ ha s' (yD hm.1));obtain ⟨hc1,hc2⟩:=fR hx';obtain ⟨b,arr,e,fz,h1,h2,h3,h4,h5,h6,h7⟩:=hi.vars k l hbk;generalize hev:a.eval ax=z at ha';cases ha' with
 | ptr k o b' l' hk' hl'=>
  rw [h1] at hk';cases hk';have hsz:(a.eval x).cells.toList.length=(AV.p p).cells.length:=by simp [hc1]
  have hrun:=run_storeCells_cells (P:=P) b off (a.eval x).cells.toList 0 w
   (by
     intro j hj;rw [hsz] at hj;have:off+j<arr.size:=by omega
     simp [Qg,h2,this])
   (by intro j hj;rw [hsz] at hj;simp only [Qs];exact qN h2 h3 (by omega))
   (by
    intro u hu;obtain ⟨j,hj,hju⟩:=Qk hu;have hjl:j<(AV.p p).cells.length:=by omega
    have hq:=hc2 j (AV.p p).cells[j] (by simp);have hjs:j<(a.eval x).cells.size:=by omega
    have:(a.eval x).cells.getD j undef=u:=by simp [hjs];simpa using hju
    rw [this] at hq;exact zDn hq ((Qr.1 hone) _ (Qz _)))
  unfold Oper.wp;have:(execOp a.eval o).run P w=.ok .skip (w.setCells b off (a.eval x).cells.toList):=by
   simp only [Qs] at hrun;have hcs:¬ ((a.eval x).cells.size≠i.w):=by rw [hc1,hw];simp
   simp [execOp,ho,hev,Wk,Qu,storeVar,u4 hok ht,hcs,hrun]
  rw [this];show K (a.put o.dst undef) _;rw [hd];refine hk _ _ ?_;rw [zAh];refine ⟨M,κ,tip,h0,hp,hi.setVar hbk h1 (by omega) hsz ?_⟩;intro j q hq;have:=hc2 j q hq;rw [Q0] at this;simpa using this
end
section
variable [T:zIa P] 
theorem RK.stP {l:List α} (h:vJ l j u=some l') (ht0:(T.te t,s.get T.te 0 ax)=(some i,some (.ptr k0 off))) (hj:off=j) (hx:s.get T.te t x=some v) (hp:s.rd v=some (f u,bs)) (hb0:(s.blk k0,i.w,(AV.p (f u)).cells,(AV.p (f u)).one)=(some (.var (l.map λx=>AV.p (f x))),1,[AV.p (f u)],true)) (k:RK P ops r (s.setb k0 (.var (l'.map λx=>AV.p (f x)))) λs' ms=>K s' (⟨opS ax (.ptr k0 off)++opS x v,(k0,.var (l.map λx=>AV.p (f x))) :: bs,[],none,[(k0,.var (l'.map λx=>AV.p (f x)))]⟩:: ms)):RK P ops (⟨none,.store t ax x,ty,pos,af,none⟩:: r) s K:=have ⟨ht,ha⟩:=pq ht0;have ⟨hb,hb0⟩:=pq hb0;have ⟨hw,hb0⟩:=pq hb0;have ⟨hf,hone⟩:=pq hb0;by
 refine RK.so rfl ?_ k;subst hj;obtain ⟨h1,h2⟩:=fW h;have:=zQk (P:=P) (o:=⟨none,.store t ax x,ty,pos,af,none⟩) T.ok rfl rfl ht ha hx hp hb (by simp [hf,hw]) (by rw [hw];simpa using Nat.succ_le_of_lt h1) (by simp [hf,hone]);rw [hf,zAj (by simpa using h1)] at this;have e:(l.map λx=>AV.p (f x)).set off (AV.p (f u))=l'.map λx=>AV.p (f x):=by rw [h2,Wl]
 rw [e] at this;exact this
theorem RK.iaE {i:Int} (j:Nat) (h:(i==(j:Int))=true) (ht0:((T.te t).map (·.ty),T.te e,s.get T.te t x,s.get T.te 0 y,Qj j n)=(some (.arr n e),some ei,some (.ptr k0 off),some (.p (.int .i64 i)),true))
  (k:VK P ops r s K d (opS x (.ptr k0 off)++opS y (.p (.int .i64 i))) [] (.ptr k0 (off+j*ei.w))):RK P ops (⟨some d,.indexAddr t x y,ty,pos,af,none⟩:: r) s K:=have ⟨ht,ht0⟩:=pq ht0;have ⟨he,ht0⟩:=pq ht0;have ⟨hx,ht0⟩:=pq ht0;have ⟨hy,h1⟩:=pq ht0;by
 have e:i=(j:Int):=by simpa using h
 subst e;exact RK.va rfl rfl (Go.Sw.iaK T.ok rfl ht he hx hy h1) k
theorem RK.stB {l0:List α} (hlen:l0.length=i.w) (ht0:(T.te t,s.get T.te 0 ax,s.get T.te t x,s.blk k0,i.w)=(some i,some (.ptr k0 0),some (.p (.agg (l0.map f))),some (.var l),l.length)) (hone:∀ a,(f a).one=true)
  (k:RK P ops r (s.setb k0 (.var (l0.map λx=>AV.p (f x)))) λs' ms=>K s' (⟨opS ax (.ptr k0 0)++opS x (.p (.agg (l0.map f))),[(k0,.var l)],[],none,[(k0,.var (l0.map λx=>AV.p (f x)))]⟩:: ms)):RK P ops (⟨none,.store t ax x,ty,pos,af,none⟩:: r) s K:=have ⟨ht,ht0⟩:=pq ht0;have ⟨ha,ht0⟩:=pq ht0;have ⟨hx,ht0⟩:=pq ht0;have ⟨hb,hl⟩:=pq ht0;by
 refine RK.so rfl ?_ k;have hc:(AV.p (.agg (l0.map f))).cells=l0.map λx=>AV.p (f x):=by simp [AV.cells]
 have:=Go.Sw.sa_store (P:=P) (o:=⟨none,.store t ax x,ty,pos,af,none⟩) T.ok rfl rfl ht ha hx hb (by simp [hc,hlen]) (by omega) (by simp [hc,AV.one,hone]);rw [hc] at this;have e:qM l 0 (l0.map λx=>AV.p (f x))=l0.map λx=>AV.p (f x):=by rw [iU (by simp;omega)];simp [hlen,hl]
 rw [e] at this;exact this
end
theorem zJ5 {P:Program} {w:World} {b:Nat}:∀ (l:By) (o:Nat) (r:ByteArray),(∀ (i:Nat) (x:UInt8),l[i]? = some x->w.cell? ⟨b,o+i,none⟩=some (.int .u8 x.toNat)) ->
  (Qp ⟨b,o,none⟩ l.length r).run P w=.ok ⟨r.data++l.toArray⟩ w
 | [],o,r,_=>by simp [Qp]
 | u :: l,o,r,h=>by
  have h0:=h 0 u rfl;simp only [Qs] at h0;have h1:=zJ5 (P:=P) (w:=w) (b:=b) l (o+1) (r.push u) (λi x hx=>by have:=h (i+1) x (by simpa using hx);rw [show o+1+i=o+(i+1) by omega];exact this);simp only [Wc,Qp];rw [Sem.run_bind,run_load,h0];simp only [Qm];have e:(u.toNat:Int).toNat.toUInt8=u:=by simp
  rw [e];have e2:(⟨b,o,none⟩:Addr).add 1=⟨b,o+1,none⟩:=by simp [Addr.add]
  rw [e2,h1];congr 1;apply ByteArray.ext;simp [ByteArray.push]
theorem zL9 {l:By} {x:Value} (h:Rep M (.bytes l) x) {w:World} (hm:∀ b o x,M b o=some x->w.cell? ⟨b,o,none⟩=some x) :
  (Q4 x).run P w=.ok ⟨l.toArray⟩ w:=by
 cases h with
 | bytes0=>rfl
 | bytes l b o n c h1 h2 h3=>
  subst h1;have:=zJ5 (P:=P) (w:=w) (b:=b) l o .empty (λi x hx=>hm _ _ _ (h3 i x hx));simp only [Q4];rw [this];have he:ByteArray.empty.data=#[]:=rfl;simp [he]
def PV.byl:PV->Option By
 | .str l=>some l
 | .bytes l=>some l
 | _=>none
theorem eW {l:By} {x:Value} (hp:p.byl=some l) (h:Rep M p x) {w:World} (hm:∀ b o x,M b o=some x->w.cell? ⟨b,o,none⟩=some x) :
  (Q4 x).run P w=.ok ⟨l.toArray⟩ w:=by
 unfold PV.byl at hp;split at hp
 ·cases hp;rw [lW h];rfl
 ·cases hp;exact zL9 h hm
 ·cases hp
theorem zQu {x y:Value} {b:ByteArray} {w:World} (hx:(Q4 x).run P w=.ok a w) (hy:(Q4 y).run P w=.ok b w) :
  (Qh #[x,y]).run P w=.ok (.int .i64 (Lib.compareBytes a.data.toList b.data.toList)) w:=by
 change Sem.run P (do pure (goInt (Extern.BytealgCompare.cmp (<- Q4 x) (<- Q4 y)))) w=_;simp only [Sem.run_bind,hx,hy,Sem.run_pure,Qm];rw [Lib.cmp_eq];rfl
theorem zTu {x:Value} {c:Int} {w:World} (hx:(Q4 x).run P w=.ok a w) :
  (Qc #[x,.int .u8 c]).run P w=.ok (.int .i64 (Lib.indexByte a.data.toList c.toNat.toUInt8)) w:=by
 change Sem.run P (do
  let b <- Q4 x;let c' <- W6 (.int .u8 c)
  match (List.range b.size).find? λi=>b[i]! == c' with
  | some i=>pure (goInt i)
  | none=>pure (goInt (-1))) w=_
 rw [<- Lib.firstIdx_eq];simp only [W6,firstIdx,Sem.run_bind,hx,Sem.run_pure,Qm];cases List.find? (λi=>a[i]! == c.toNat.toUInt8) (List.range a.size)<;>simp [goInt]
section
variable {v':AV} {p':PV} {bs':LB} {l l':By} {f:FuncId} {fn:Func}
theorem zVy (hf:P.funcs[f]? = some fn) (hname:(fn.name == "runtime.NumGoroutine")=false) (hb:fn.body.isNone=true) (hn:Extern.findNext fn=none) (he:Extern.find fn=some Qh)
  (ho:o.op=.call { callee:=.value (.func f),args:=#[x,y],argTypes:=#[t,t'] })
  (hx:s.get te t x=some v) (hp:s.rd v=some (p,bs)) (hl:p.byl=some l) (hy:s.get te t' y=some v') (hq:s.rd v'=some (p',bs')) (hl':p'.byl=some l') :
  VA P o s (opS x v++opS y v') (bs++bs') (.p (.int .i64 (Lib.compareBytes l l'))):=by
 refine ⟨?_,yK (zJ hx) (zJ hy),λe h=>(W2.1 h).elim (vP v _ bs hp e) (vP v' _ bs' hq e)⟩;intro cx M κ tip s' a w hin hr hbk;have h1:=eW (P:=P) hl (mT hin hx hp (yD hr) (λe h=>hbk e (W2.2 (.inl h)))) hin.mem;have h2:=eW (P:=P) hl' (mT hin hy hq (zX hr) (λe h=>hbk e (W2.2 (.inr h)))) hin.mem;refine ⟨_,?_,.p _ _ (.int _ _)⟩;have h3:=run_callFunc_extern hf hname hb hn he #[a.eval x,a.eval y] w;rw [zQu h1 h2] at h3;simpa [execOp,ho,resolve,Act.eval,Deferred.ofValue,invoke,Qm] using h3
theorem zZh {c:Int} (hf:P.funcs[f]? = some fn) (hname:(fn.name == "runtime.NumGoroutine")=false) (hb:fn.body.isNone=true) (hn:Extern.findNext fn=none) (he:Extern.find fn=some Qc)
  (ho:o.op=.call { callee:=.value (.func f),args:=#[x,y],argTypes:=#[t,t'] })
  (hx:s.get te t x=some v) (hp:s.rd v=some (p,bs)) (hl:p.byl=some l) (hy:s.get te t' y=some (.p (.int .u8 c))) :
  VA P o s (opS x v++opS y (.p (.int .u8 c))) bs (.p (.int .i64 (Lib.indexByte l c.toNat.toUInt8))):=by
 refine ⟨?_,yK (zJ hx) (zJ hy),vP v _ bs hp⟩;intro cx M κ tip s' a w hin hr hbk;have h1:=eW (P:=P) hl (mT hin hx hp (yD hr) hbk) hin.mem;have h2:=rep_int (repA_pv (zY hin (yJ hy s' (zX hr))));refine ⟨_,?_,.p _ _ (.int _ _)⟩;have h3:=run_callFunc_extern hf hname hb hn he #[a.eval x,a.eval y] w;rw [h2,zTu h1] at h3;rw [<- h2] at h3;simpa [execOp,ho,resolve,Act.eval,Deferred.ofValue,invoke,Qm] using h3
def Ext (P:Program) (f:FuncId) (e:Array Value->Sem Value):Prop:=∃ fn,P.funcs[f]? = some fn/\(fn.name == "runtime.NumGoroutine")=false/\fn.body.isNone=true/\Extern.findNext fn=none/\Extern.find fn=some e
variable [T:zIa P]
theorem RK.cpx (h:Ext P f Qh) (hx0:(s.get T.te t x,s.rd v,p.byl,s.get T.te t' y,s.rd v',p'.byl)=(some v,some (p,bs),some l,some v',some (p',bs'),some l'))
  (k:VK P ops r s K d (opS x v++opS y v') (bs++bs') (.p (.int .i64 (Lib.compareBytes l l')))):RK P ops (⟨some d,.call { callee:=.value (.func f),args:=#[x,y],argTypes:=#[t,t'] },ty,pos,af,none⟩:: r) s K:=have ⟨hx,hx0⟩:=pq hx0;have ⟨hp,hx0⟩:=pq hx0;have ⟨hl,hx0⟩:=pq hx0;have ⟨hy,hx0⟩:=pq hx0;have ⟨hq,hl'⟩:=pq hx0;by
 obtain ⟨fn,h1,h2,h3,h4,h5⟩:=h;exact RK.va rfl rfl (zVy h1 h2 h3 h4 h5 rfl hx hp hl hy hq hl') k
theorem RK.ibx {c:UInt8} (h:Ext P f Qc) (hx0:(s.get T.te t x,s.rd v,p.byl,s.get T.te t' y)=(some v,some (p,bs),some l,some (.p (.int .u8 c.toNat))))
  (k:VK P ops r s K d (opS x v++opS y (.p (.int .u8 c.toNat))) bs (.p (.int .i64 (Lib.indexByte l c)))):RK P ops (⟨some d,.call { callee:=.value (.func f),args:=#[x,y],argTypes:=#[t,t'] },ty,pos,af,none⟩:: r) s K:=have ⟨hx,hx0⟩:=pq hx0;have ⟨hp,hx0⟩:=pq hx0;have ⟨hl,hy⟩:=pq hx0;by
 obtain ⟨fn,h1,h2,h3,h4,h5⟩:=h;have:=zZh (o:=⟨some d,.call { callee:=.value (.func f),args:=#[x,y],argTypes:=#[t,t'] },ty,pos,af,none⟩) h1 h2 h3 h4 h5 rfl hx hp hl hy;rw [show ((c.toNat:Int).toNat.toUInt8)=c by simp] at this;exact RK.va rfl rfl this k
end
section
variable {a:Act} {w w':World}
theorem zUc (hi:Inv cx M κ tip s a w) (hp:∀ k∈cx.pk,κ k.1=some k.2/\k.2<cx.w0.heap.size) (hb:s.blk k=some (.own wd l)) (b:Option Nat):∀ k'∈cx.pk,eG κ k b k'.1=some k'.2/\k'.2<cx.w0.heap.size:=by
 intro k' hk';have h1:=hp k' hk';rw [yH]
 ·exact h1
 ·intro e;obtain ⟨_,h4⟩:=hi.owns _ wd l hb;rw [<- e] at h4;rcases h4 with ⟨_,h5,_⟩ | ⟨b',n,cap,arr,e,fz,_,h5,h6,h7,_⟩
  ·rw [h1.1] at h5;cases h5
  ·rw [h1.1] at h5;cases h5;omega
theorem Inv.ownNew (hi:Inv cx M κ tip s a w) {arr:Array Value} {fz:Nat×Nat} (hw:zIe w w' arr e fz)
  (hk:s.blk k=none∨∃ l0,s.blk k=some (.own wd l0)/\l0.length<l.length) (hwd:0<wd) (hn:n*wd=l.length) (hcap:cap*wd<=arr.size) (hnc:n<=cap) (hml:cap<=maxLen)
  (hcs:∀ (j:Nat) (q:AV),l[j]? = some q->RepA M κ tip s.blk q (arr.getD j undef)) :
  Inv cx M (eG κ k (some w.heap.size)) (mQ tip k (.slice (some ⟨w.heap.size,0,none⟩) n cap)) (s.setb k (.own wd l)) a w':=by
 have gle:GLe κ (eG κ k (some w.heap.size)) tip (mQ tip k (.slice (some ⟨w.heap.size,0,none⟩) n cap)) s.blk (s.setb k (.own wd l)).blk:={
  var:=λi b l h h'=>by
   have e:i≠k:=by
    rintro rfl;rcases hk with hk | ⟨l0,hk,_⟩<;>(rw [hk] at h';cases h')
   rw [yH e,zR e];exact ⟨h,l,h'⟩
  buf:=λi c1 h=>by
   have e:i≠k:=by
    rintro rfl;rcases hk with hk | ⟨l0,hk,_⟩<;>(rw [hk] at h;cases h)
   exact GLe.same (by rw [zR e];exact h) (yW e)
  own:=λi w1 l1 h=>by
   by_cases e:i=k
   ·subst e;rcases hk with hk | ⟨l0,hk,hlt⟩
    ·rw [hk] at h;cases h
    ·rw [hk] at h;cases h;exact ⟨l,zU _ _ _,by omega,λe=>by omega⟩
   ·exact GLe.sameO (by rw [zR e];exact h) (yH e) (yW e) }
 have hmap:∀ {v:AV} {x:Value},RepA M κ tip s.blk v x->RepA M (eG κ k (some w.heap.size)) (mQ tip k (.slice (some ⟨w.heap.size,0,none⟩) n cap)) (s.setb k (.own wd l)).blk v x:=λh=>h.ghost gle;exact {
  defers:=hi.defers
  size:=hi.size
  fr:=⟨hw.os.trans hi.fr.os,hw.tape.trans hi.fr.tape,hw.output.trans hi.fr.output,by have:=hi.fr.size;rw [hw.size];omega,λb h1 h2=>by
   rw [hw.old b (by have:=hi.fr.size;omega)];exact hi.fr.block b h1 h2⟩
  mem:=λb o x h=>by
   have:=hi.mem b o x h;have hlt:=World.block_lt_of_cell? w _ this;rw [World.cell?_of_block (hw.old b hlt)];exact this
  env:=λt v h=>let ⟨x,h1,h2⟩:=hi.env t v h;⟨x,h1,hmap h2⟩
  vars:=λi l h=>by
   have e':i≠k:=by rintro rfl;rw [zU] at h;cases h
   rw [zR e'] at h;obtain ⟨b,arr',e1,fz',h1,h2,h3,h4,h5,h6,h7⟩:=hi.vars i l h;have hlt:=hi.lt h1;exact ⟨b,arr',e1,fz',by rw [yH e'];exact h1,by rw [hw.old b hlt];exact h2,h3,h4,λj q hq=>hmap (h5 j q hq),h6,h7⟩
  bufs:=λi c1 h=>by
   have e':i≠k:=by rintro rfl;rw [zU] at h;cases h
   rw [zR e'] at h;obtain ⟨h1,h2,h3,h4⟩:=hi.bufs i c1 h;rw [yW e',yH e'];refine ⟨h1,h2,h3,?_⟩;rcases h4 with h4 | ⟨b,n1,cap1,arr1,e1,fz1,q1,q2,q3,q4,q5,q6,q7,q8⟩
   ·exact .inl h4
   ·have hlt:=hi.lt q2;exact .inr ⟨b,n1,cap1,arr1,e1,fz1,q1,q2,q3,by rw [hw.old b hlt];exact q4,q5,q6,q7,q8⟩
  inj:=λi j b h1 h2=>by
   by_cases e1:i=k
   ·subst e1;rw [vW] at h1;cases h1;by_cases e2:j=i
    ·exact e2.symm
    ·rw [yH e2] at h2;have:=hi.lt h2;omega
   ·rw [yH e1] at h1;by_cases e2:j=k
    ·subst e2;rw [vW] at h2;cases h2;have:=hi.lt h1;omega
    ·rw [yH e2] at h2;exact hi.inj i j b h1 h2
  dom:=λi h=>by
   by_cases e':i=k
   ·subst e';rw [zU] at h;cases h
   ·rw [zR e'] at h;rw [yH e'];exact hi.dom i h
  glob:=hi.glob
  old:=hi.old
  owns:=λi w1 l1 h=>by
   by_cases e':i=k
   ·subst e';rw [zU] at h;cases h;rw [yR,vW];exact ⟨hwd,.inr ⟨w.heap.size,n,cap,arr,e,fz,rfl,rfl,hi.fr.size,hw.new,hw.free,hn,hcap,hnc,hml,λj q hq=>hmap (hcs j q hq),λo=>hi.mlt (Qw _)⟩⟩
   ·rw [zR e'] at h;obtain ⟨g1,g2⟩:=hi.owns i w1 l1 h;rw [yW e',yH e'];refine ⟨g1,?_⟩;rcases g2 with g2 | ⟨b,n1,cap1,arr1,e1,fz1,q1,q2,q3,q4,q5,q6,q7,q8,q9,q10,q11⟩
    ·exact .inl g2
    ·have hlt:=hi.lt q2;exact .inr ⟨b,n1,cap1,arr1,e1,fz1,q1,q2,q3,by rw [hw.old b hlt];exact q4,q5,q6,q7,q8,q9,λj q hq=>hmap (q10 j q hq),q11⟩}
theorem Inv.ownNil (hi:Inv cx M κ tip s a w) (hk:s.blk k=none) (hwd:0<wd) :
  Inv cx M κ (mQ tip k (.slice none 0 0)) (s.setb k (.own wd [])) a w:=by
 have gle:GLe κ κ tip (mQ tip k (.slice none 0 0)) s.blk (s.setb k (.own wd [])).blk:={
  var:=λi b l h h'=>by
   have e:i≠k:=by rintro rfl;rw [hk] at h';cases h'
   rw [zR e];exact ⟨h,l,h'⟩
  buf:=λi c1 h=>by
   have e:i≠k:=by rintro rfl;rw [hk] at h;cases h
   exact GLe.same (by rw [zR e];exact h) (yW e)
  own:=λi c1 l1 h=>by
   have e:i≠k:=by rintro rfl;rw [hk] at h;cases h
   exact GLe.sameO (by rw [zR e];exact h) rfl (yW e) }
 exact {
  defers:=hi.defers
  size:=hi.size
  fr:=hi.fr
  mem:=hi.mem
  env:=λt v h=>let ⟨x,h1,h2⟩:=hi.env t v h;⟨x,h1,h2.ghost gle⟩
  vars:=λi l h=>by
   have e':i≠k:=by rintro rfl;rw [zU] at h;cases h
   rw [zR e'] at h;obtain ⟨b,arr',e1,fz',h1,h2,h3,h4,h5,h6⟩:=hi.vars i l h;exact ⟨b,arr',e1,fz',h1,h2,h3,h4,λj q hq=>(h5 j q hq).ghost gle,h6⟩
  bufs:=λi c1 h=>by
   have e':i≠k:=by rintro rfl;rw [zU] at h;cases h
   rw [zR e'] at h;rw [yW e'];exact hi.bufs i c1 h
  inj:=hi.inj
  dom:=λi h=>by
   by_cases e':i=k
   ·subst e';rw [zU] at h;cases h
   ·rw [zR e'] at h;exact hi.dom i h
  glob:=hi.glob
  old:=hi.old
  owns:=λi w1 l1 h=>by
   by_cases e':i=k
   ·subst e';rw [zU] at h;cases h;rw [yR];exact ⟨hwd,.inl ⟨rfl,hi.dom i hk,rfl⟩⟩
   ·rw [zR e'] at h;obtain ⟨g1,g2⟩:=hi.owns i w1 l1 h;rw [yW e'];refine ⟨g1,?_⟩;rcases g2 with g2 | ⟨b,n1,cap1,arr1,e1,fz1,q1,q2,q3,q4,q5,q6,q7,q8,q9,q10,q11⟩
    ·exact .inl g2
    ·exact .inr ⟨b,n1,cap1,arr1,e1,fz1,q1,q2,q3,q4,q5,q6,q7,q8,q9,λj q hq=>(q10 j q hq).ghost gle,q11⟩}
theorem Inv.ownSet (hi:Inv cx M κ tip s a w) {n':Nat} {l':List AV} {arr':Array Value} {fz:Nat×Nat} {vs:List Value} (hb:s.blk k=some (.own wd l)) (htip:tip k=.slice (some ⟨b,0,none⟩) n cap) (hkb:κ k=some b) (hbase:cx.w0.heap.size<=b)
  (hfree:zDj fz arr'.size) (g1:(w.setCells b off vs).heap[b]? = some (.cells arr' e fz)) (hcap:cap*wd<=arr'.size) (hnc:n'<=cap) (hml:cap<=maxLen) (hwd:0<wd) (hM:∀ o,M b o=none) (hlen:n'*wd=l'.length) (hle:l.length<=l'.length) (hl0:n*wd=l.length)
  (hcs:∀ (j:Nat) (q:AV),l'[j]? = some q->RepA M κ tip s.blk q (arr'.getD j undef)) :
  Inv cx M κ (mQ tip k (.slice (some ⟨b,0,none⟩) n' cap)) (s.setb k (.own wd l')) a (w.setCells b off vs):=by
 have hrest:=lE b vs off w;have gle:GLe κ κ tip (mQ tip k (.slice (some ⟨b,0,none⟩) n' cap)) s.blk (s.setb k (.own wd l')).blk:={
  var:=λi b l h h'=>by
   have e:i≠k:=by rintro rfl;rw [hb] at h';cases h'
   rw [zR e];exact ⟨h,l,h'⟩
  buf:=λi c1 h=>by
   have e:i≠k:=by rintro rfl;rw [hb] at h;cases h
   exact GLe.same (by rw [zR e];exact h) (yW e)
  own:=λi c1 l1 h=>by
   by_cases e:i=k
   ·subst e;rw [hb] at h;cases h;refine ⟨l',zU _ _ _,hle,λe=>⟨rfl,?_⟩⟩;rw [yR,htip];have:n'=n:=Q5 hwd (by omega);rw [this]
   ·exact GLe.sameO (by rw [zR e];exact h) rfl (yW e) }
 have hmap:∀ {v:AV} {x:Value},RepA M κ tip s.blk v x->RepA M κ (mQ tip k (.slice (some ⟨b,0,none⟩) n' cap)) (s.setb k (.own wd l')).blk v x:=λh=>h.ghost gle;exact {
  defers:=hi.defers
  size:=hi.size
  fr:=⟨hrest.1.trans hi.fr.os,hrest.2.1.trans hi.fr.tape,hrest.2.2.trans hi.fr.output,by rw [lT];exact hi.fr.size,λi hi1 hi2=>by
   rw [xO b vs _ w i (by omega)];exact hi.fr.block i hi1 hi2⟩
  mem:=λi o x h=>by
   have hne:i≠b:=by rintro rfl;rw [hM] at h;cases h
   have:=hi.mem i o x h;rw [World.cell?_setCells_out b vs off w _ (λe=>(hne e).elim)];exact this
  env:=λt v h=>let ⟨x,h1,h2⟩:=hi.env t v h;⟨x,h1,hmap h2⟩
  vars:=λi l h=>by
   have e':i≠k:=by rintro rfl;rw [zU] at h;cases h
   rw [zR e'] at h;obtain ⟨b2,arr2,e2,fz2,k1,k2,k3,k4,k5,k6,k7⟩:=hi.vars i l h;have hne:b2≠b:=λe=>e' (hi.inj i k b (e▸k1) hkb);exact ⟨b2,arr2,e2,fz2,k1,by rw [xO b vs _ w b2 hne];exact k2,k3,k4,λj q hq=>hmap (k5 j q hq),k6,k7⟩
  bufs:=λi c1 h=>by
   have e':i≠k:=by rintro rfl;rw [zU] at h;cases h
   rw [zR e'] at h;obtain ⟨k1,k2,k3,k4⟩:=hi.bufs i c1 h;rw [yW e'];refine ⟨k1,k2,k3,?_⟩;rcases k4 with k4 | ⟨b2,n2,cap2,arr2,e2,fz2,q1,q2,q3,q4,q5,q6,q7,q8⟩
   ·exact .inl k4
   ·have hne:b2≠b:=λe=>e' (hi.inj i k b (e▸q2) hkb);exact .inr ⟨b2,n2,cap2,arr2,e2,fz2,q1,q2,q3,by rw [xO b vs _ w b2 hne];exact q4,q5,q6,q7,q8⟩
  inj:=hi.inj
  dom:=λi h=>by
   by_cases e':i=k
   ·subst e';rw [zU] at h;cases h
   ·rw [zR e'] at h;exact hi.dom i h
  glob:=hi.glob
  old:=hi.old
  owns:=λi w1 l1 h=>by
   by_cases e':i=k
   ·subst e';rw [zU] at h;cases h;rw [yR];exact ⟨hwd,.inr ⟨b,n',cap,arr',e,fz,rfl,hkb,hbase,g1,hfree,hlen,hcap,hnc,hml,λj q hq=>hmap (hcs j q hq),hM⟩⟩
   ·rw [zR e'] at h;obtain ⟨g1',g2⟩:=hi.owns i w1 l1 h;rw [yW e'];refine ⟨g1',?_⟩;rcases g2 with g2 | ⟨b2,n1,cap1,arr1,e1,fz1,q1,q2,q3,q4,q5,q6,q7,q8,q9,q10,q11⟩
    ·exact .inl g2
    ·have hne:b2≠b:=λe=>e' (hi.inj i k b (e▸q2) hkb);exact .inr ⟨b2,n1,cap1,arr1,e1,fz1,q1,q2,q3,by rw [xO b vs _ w b2 hne];exact q4,q5,q6,q7,q8,q9,λj q hq=>hmap (q10 j q hq),q11⟩}
end
section
theorem zOz {cx:Ctx} (hb:B k=some (.own wd l)) (hn:n*wd=l.length) (h:RepA M κ tip B (.own k n) z):z=tip k:=by
 cases h with
 | own _ _ w' l' _ h1 h2 h3 hs=>rw [hb] at h1;cases h1;exact h3 hn
theorem zLt {ity:TypeId} {i:Int} (hok:yP P te) (ho:o.op=.indexAddr t x y) (ht:(te t).map (·.ty)=some (.slice e)) (he:te e=some ei)
  (hx:s.get te t x=some (.own k n)) (hb:s.blk k=some (.own wd l)) (hn:n*wd=l.length) (hw:wd=ei.w) (hy:s.get te ity y=some (.p (.int .i64 i))) (h0:0<=i) (h1:i<n) :
  VA P o s (opS x (.own k n)++opS y (.p (.int .i64 i))) [(k,.own wd l)] (.optr k n (i.toNat*ei.w)):=by
 refine ⟨?_,yK (zJ hx) (zJ hy),by simpa using hb⟩;intro cx M κ tip s' a w hi hr hb';have hbk:=hb' (k,.own wd l) (by simp);simp only at hbk;have hx':=zY hi (yJ hx s' (yD hr));have h2:=rep_int (repA_pv (zY hi (yJ hy s' (zX hr))));have hu:=yV hok ht;have hsz:=u4 hok he w;have hev:=zOz (cx:=cx) hbk hn hx';obtain ⟨g1,g2⟩:=hi.owns k wd l hbk;rcases g2 with ⟨_,_,rfl⟩ | ⟨b,n1,cap,arr,e1,fz,q1,q2,q3,q4,q5,q6,q7,q8,q9,q10,q11⟩
 ·have hp:=Qq (show 0<n by omega) g1;simp only [We] at hn;omega
 ·have hnn:n1=n:=Q5 g1 (by omega);subst hnn;rw [q1] at hev;exact ⟨.pointer (some ⟨b,0+i.toNat*ei.w,none⟩),by simp [execOp,ho,hev,h2,Instr.indexAt,asIntOf,run_underlying hu,h0,h1,hsz,add_off],.optr k n1 _ wd l _ hbk (by omega) (λ_=>⟨b,q2,by simp⟩) ⟨_,rfl⟩⟩
theorem zWz (hok:yP P te) (ho:o.op=.call { callee:=.builtin .len,args:=#[x],argTypes:=#[t] }) (ht:(te t).map (·.ty)=some (.slice e)) (hx:s.get te t x=some (.own k n)) (hb:s.blk k=some (.own wd l)) (hn:n*wd=l.length):VA P o s (opS x (.own k n)) [(k,.own wd l)] (.p (.int .i64 n)):=by
 refine ⟨?_,zJ hx,by simpa using hb⟩;intro cx M κ tip s' a w hi hr hb';have hbk:=hb' (k,.own wd l) (by simp);simp only at hbk;have hev:=zOz (cx:=cx) hbk hn (zY hi (yJ hx s' hr));have hu:=yV hok ht;obtain ⟨g1,g2⟩:=hi.owns k wd l hbk;rcases g2 with ⟨y1,_,rfl⟩ | ⟨b,n1,cap,arr,e1,fz,q1,q2,q3,q4,q5,q6,q7,q8,q9,q10,q11⟩
 ·have:n=0:=by
            rcases Qf n with h | h
            ·exact h
            ·have:=Qq h g1;simp at hn;omega
  subst this;rw [y1] at hev;exact ⟨.int .i64 0,by simp [execOp,ho,hev,resolve,invoke,builtin,Wm,run_underlying hu,goInt],.p _ _ (.int _ _)⟩
 ·have hnn:n1=n:=Q5 g1 (by omega);subst hnn;rw [q1] at hev;exact ⟨.int .i64 n1,by simp [execOp,ho,hev,resolve,invoke,builtin,Wm,run_underlying hu,goInt],.p _ _ (.int _ _)⟩
theorem zG1 (hok:yP P te) (ho:o.op=.load t x) (ht:te t=some i) (hp:i.plain=true) (hx:s.get te ty x=some (.optr k n off)) (hb:s.blk k=some (.own wd l)) (hn:n*wd=l.length) (hv:l[off]? = some v) :
  VA P o s (opS x (.optr k n off)) [(k,.own wd l)] v:=by
 refine ⟨?_,zJ hx,by simpa using hb⟩;intro cx M κ tip s' a w hi hr hb';have hx':=zY hi (yJ hx s' hr);have hbk:=hb' (k,.own wd l) (by simp);simp only at hbk;obtain ⟨g1,g2⟩:=hi.owns k wd l hbk;generalize hev:a.eval x=z at hx';cases hx' with
 | optr _ _ _ w' l' _ h1 h2 h3 hs=>
  rw [hbk] at h1;cases h1;obtain ⟨b,hκ,rfl⟩:=h3 hn;rcases g2 with ⟨_,y2,_⟩ | ⟨b',n1,cap,arr,e1,fz,q1,q2,q3,q4,q5,q6,q7,q8,q9,q10,q11⟩
  ·rw [hκ] at y2;cases y2
  ·rw [hκ] at q2;cases q2;have hlt:off<l.length:=(List.getElem?_eq_some_iff.1 hv).1;have hfit:n1*wd<=cap*wd:=Q2 _ q8;have hlt':off<arr.size:=by omega
   have hcell:w.cell? ⟨b,off,none⟩=some arr[off]:=by simp [Qg,q4,hlt']
   refine ⟨arr[off],?_,?_⟩
   ·simp [execOp,ho,hev,Wn,Qu,j5 hok ht hp hcell]
   ·have:=q10 off v hv;simpa [hlt'] using this
theorem zQj (hok:yP P te) (ho:o.op=.load t x) (ht:te t=some i) (hp:i.isAgg=true) (hx:s.get te ty x=some (.optr k n off)) (hb:s.blk k=some (.own wd l)) (hn:n*wd=l.length) (hv:off+i.w<=l.length) :
  VA P o s (opS x (.optr k n off)) [(k,.own wd l)] (.ag ((l.drop off).take i.w)):=by
 refine ⟨?_,zJ hx,by simpa using hb⟩;intro cx M κ tip s' a w hi hr hb';have hx':=zY hi (yJ hx s' hr);have hbk:=hb' (k,.own wd l) (by simp);simp only at hbk;obtain ⟨g1,g2⟩:=hi.owns k wd l hbk;generalize hev:a.eval x=z at hx';cases hx' with
 | optr _ _ _ w' l' _ h1 h2 h3 hs=>
  rw [hbk] at h1;cases h1;obtain ⟨b,hκ,rfl⟩:=h3 hn;rcases g2 with ⟨_,y2,_⟩ | ⟨b',n1,cap,arr,e1,fz,q1,q2,q3,q4,q5,q6,q7,q8,q9,q10,q11⟩
  ·rw [hκ] at y2;cases y2
  ·rw [hκ] at q2;cases q2;have hfit:n1*wd<=cap*wd:=Q2 _ q8;have hlen:((arr.toList.drop off).take i.w).length=i.w:=by simp;omega
   refine ⟨.agg ((arr.toList.drop off).take i.w).toArray,?_,?_⟩
   ·have:=jJ hok ht hp (w:=w) (a:=⟨b,off,none⟩) ((arr.toList.drop off).take i.w) hlen (by
     intro j u hu;rw [List.getElem?_take,List.getElem?_drop] at hu;split at hu
     ·rw [add_off];simp [Qg,q4];simpa using hu
     ·cases hu)
    simp [execOp,ho,hev,Wn,Qu,this]
   ·refine .ag _ _ (by simp;omega) (λj q hq=>?_);rw [List.getElem?_take,List.getElem?_drop] at hq;split at hq
    ·rename_i hj;have:=q10 (off+j) q hq;have hlt:off+j<arr.size:=by omega
     simpa [hj,hlt,List.getElem?_take,List.getElem?_drop] using this
    ·cases hq
theorem zRd {b:zI} (h:s.blk k=some b):s.setb k b=s:=by
 cases s with
 | mk env blk=>
  simp only [AS.setb];congr 1;funext t;by_cases ht:t=k
  ·subst ht;simp;exact h.symm
  ·have:Q6 t k=false:=by rw [Wa];intro e;exact ht (Q1 e)
   simp [this]
end
section
def zVl (P:Program) (y:Operand) (rs:LV) (bs:LB) (size m:Nat) (cs:List AV):Prop:=
 ∀ (cx:Ctx) (M:Mem) (κ:Nat->Option Nat) (tip:Nat->Value) (s:AS) (a:Act) (w:World),Inv cx M κ tip s a w->wN s rs->(∀ e∈bs,s.blk e.1=some e.2) ->
  ∃ news,Src P w size m (a.eval y) news/\∀ (j:Nat) (q:AV),cs[j]? = some q->RepA M κ tip s.blk q ((news[j]?).getD undef)
theorem zK8 (hok:yP P te) (hd:o.dst=some d) (ho:o.op=.call { callee:=.builtin .append,args:=#[x,y],argTypes:=#[t,t'] })
  (ht:(te t).map (·.ty)=some (.slice e)) (he:te e=some ei) (ht':P.underlying t'=some dd) (hdd:dH dd) (hx:s.get te t x=some (.own k n)) (hk:s.blk k=some (.own wd l)) (hn:n*wd=l.length) (hcw:wd=ei.w) (hz:ei.z.length=ei.w) (hy:s.get te t' y=some vy) (hbs:∀ e∈bs,s.blk e.1=some e.2)
  (hsrc:zVl P y (opS y vy) bs ei.w m cs) (hm:cs.length=m*ei.w) (hone:cs.all AV.one=true) (hb:(n+m)*ei.b<=140737488355328) (hb1:0<ei.b) :
  SA P o s ⟨opS x (.own k n)++opS y vy,(k,.own wd l) :: bs,[],some (d,some (.own k (n+m))),[(k,.own wd (l++cs))]⟩:=by
 refine ⟨?_,yK (zJ hx) (zJ hy),?_,by intro k hk';simp at hk'⟩
 ·intro cx s' a w K Q hmm hs hws hk';obtain ⟨M,κ,tip,h0,hpk,hi⟩:=hs;have hbk:=hmm.2.1 (k,.own wd l) (by simp);simp only at hbk;have hevx:=zOz (cx:=cx) hbk hn (zY hi (yJ hx s' (yD hmm.1)));obtain ⟨news,n1,n2⟩:=hsrc cx M κ tip s' a w hi (zX hmm.1) (λe he=>hmm.2.1 e (by simp [he]));obtain ⟨g1,g2⟩:=hi.owns k wd l hbk;obtain ⟨info,z,i1,i2,i3,i4,i5⟩:=(hok e ei he).info;have hu:=yV hok ht;have hlen:n+m<=140737488355328:=W7 (Qn _ hb1) hb;have hnl:news.length=m*ei.w:=n1.nl;have hnc:news.length=cs.length:=by omega
  rw [<- i2] at n1;have hzs:z.cells.size=ei.w:=by rw [<- Qt,i5];simpa using hz
  have hlc:(l++cs).length=(n+m)*wd:=by rw [W8,hm,<- hn,hcw,Qb]
  have honev:∀ u∈news,u.oneCell'=true:=by
   intro u hu;obtain ⟨j,hj,hju⟩:=Qk hu;have hq:=n2 j cs[j] (by simp);rw [List.getElem?_eq_getElem hj,hju] at hq;exact zDn hq ((Qr.1 hone) _ (Qz _))
  unfold Oper.wp;rcases g2 with ⟨hnil,hκ,rfl⟩ | ⟨b,n',cap,arr,e1,fz,q1,q2,q3,q4,q5,q6,q7,q8,q9,q10,q11⟩
  ·have hn0:n=0:=by
    rcases Qf n with h | h
    ·exact h
    ·have:=Qq h g1;simp only [We] at hn;omega
   subst hn0;simp only [List.nil_append,W9] at *;by_cases hm0:m=0
   ·subst hm0;have hcs:cs=[]:=Qa (by omega);subst hcs;have hrun:=n8 (P:=P) (ty:=o.type) hu ht' hdd i1 n1;rw [xD ho (hevx.trans hnil) hrun];show K (a.put o.dst _) _;rw [hd];refine hk' _ _ ?_;rw [vV,zRd hbk];exact ⟨M,κ,tip,h0,hpk,hi.put (hws d (by simp [Mic.ws])) (.own k 0 wd [] _ hbk (by simp) (λ_=>hnil.symm) ⟨_,_,_,rfl⟩)⟩
   ·have hrun:=kM (P:=P) (ty:=o.type) hu ht' hdd i1 i4 n1 (by omega) (by rw [i3];exact hb) (by omega);rw [xD ho (hevx.trans hnil) hrun];show K (a.put o.dst _) _;rw [hd];refine hk' _ _ ?_;rw [vV];have hge:=grownCap_ge w m 0 e;have hsize:(news.toArray++Qx z.cells (grownCap w m 0 e - m)).size=grownCap w m 0 e*ei.w:=by
     simp only [Qo,Q8,size_zeroCells,hzs,hnl,<- Qb];congr 1;omega
    have hml:grownCap w m 0 e<=maxLen:=grownCap_le_maxLen w m 0 e (by simp only [maxLen];omega);have hpos:=Qq (show 0<m by omega) g1;refine ⟨M,_,_,h0,zUc hi hpk hbk _,(hi.ownNew (k:=k) (wd:=wd) (n:=m) (cap:=grownCap w m 0 e) (l:=cs) (tO w _ e) (.inr ⟨[],hbk,by simp;omega⟩) g1 (by omega) (by rw [hsize,hcw];exact Qw _) hge hml ?_).put (hws d (by simp [Mic.ws])) (.own k m wd cs _ (zU _ _ _) (by omega) (λ_=>(yR _ _ _).symm) ⟨_,_,_,rfl⟩)⟩;intro j q hq;have hlt:j<cs.length:=(List.getElem?_eq_some_iff.1 hq).1;rw [Q0,Array.getElem?_append_left (by simp;omega)];have:=n2 j q hq;simpa using this
  ·have hnn:n'=n:=Q5 g1 (by omega);subst hnn;have hfit0:n'*wd<=cap*wd:=Q2 _ q8;by_cases hroom:n'+m<=cap
   ·have hfits:(n'+m)*wd<=arr.size:=W7 (Q2 _ hroom) q7;have hadd:(n'+m)*wd=n'*wd+m*wd:=Qb _ _ _;have hnw:news.length=m*wd:=by rw [hnl,hcw]
    have hrun:=dQ (P:=P) (ty:=o.type) hu ht' hdd i1 n1 (b:=b) (n:=n') (cap:=cap) honev hroom
     (by
       intro j hj;rw [i2,<- hcw];have:n'*wd+j<arr.size:=by omega
       simp [Qg,q4,this])
     (by intro j hj;rw [i2,<- hcw];exact qN q4 q5 (by omega))
    rw [xD ho (hevx.trans q1) hrun];show K (a.put o.dst _) _;rw [hd];refine hk' _ _ ?_;rw [vV,i2,<- hcw];obtain ⟨arr',z1,z2,z3⟩:=oR b news (n'*wd) w arr e1 fz q4 (by omega);refine ⟨M,κ,_,h0,hpk,(hi.ownSet (n':=n'+m) (l':=l++cs) hbk q1 q2 q3 (by rw [z2];exact q5) z1 (by rw [z2];exact q7) hroom q9 g1 q11 (by omega) (by simp) q6 ?_).put (hws d (by simp [Mic.ws])) (.own k (n'+m) wd (l++cs) _ (zU _ _ _) (by omega) (λ_=>(yR _ _ _).symm) ⟨_,_,_,rfl⟩)⟩;intro j q hq;rw [Q0,z3 j];by_cases hj:j<l.length
    ·rw [List.getElem?_append_left hj] at hq;rw [if_neg (by omega)];have:=q10 j q hq;rw [Q0] at this;exact this
    ·rw [List.getElem?_append_right (by omega)] at hq;have hlt:j - l.length<cs.length:=(List.getElem?_eq_some_iff.1 hq).1;rw [if_pos (by omega)];have:=n2 _ q hq;rw [show j - n'*wd=j - l.length by omega];exact this
   ·have hol:(arr.toList.take (n'*wd)).length=n'*info.size:=by simp [i2,<- hcw];omega
    have hrun:=dN (P:=P) (ty:=o.type) hu ht' hdd i1 i4 n1 (b:=b) (n:=n') (cap:=cap) (olds:=arr.toList.take (n'*wd)) hol
     (by
      intro j u hu;rw [List.getElem?_take] at hu;split at hu
      ·simp only [Qg,q4];simpa using hu
      ·cases hu)
     (by omega) (by rw [i3];exact hb) (by omega)
    rw [xD ho (hevx.trans q1) hrun];show K (a.put o.dst _) _;rw [hd];refine hk' _ _ ?_;rw [vV];have hge:=grownCap_ge w (n'+m) cap e;have hml:grownCap w (n'+m) cap e<=maxLen:=grownCap_le_maxLen w _ cap e (by simp only [maxLen];omega);have hmp:0<m:=by omega
    have hmw:=Qq hmp g1;have hadd:(n'+m)*wd=n'*wd+m*wd:=Qb _ _ _;have htl:(arr.toList.take (n'*wd)).length=n'*wd:=by simp;omega
    generalize hA:((arr.toList.take (n'*wd)).toArray++news.toArray++Qx z.cells (grownCap w (n'+m) cap e - (n'+m)))=A;have hsize:A.size=grownCap w (n'+m) cap e*ei.w:=by
     rw [<- hA];have hsub:(grownCap w (n'+m) cap e - (n'+m))*ei.w=grownCap w (n'+m) cap e*ei.w - (n'+m)*ei.w:=Nat.sub_mul _ _ _;have hge2:(n'+m)*ei.w<=grownCap w (n'+m) cap e*ei.w:=Q2 _ hge;simp only [Qo,Q8,htl,size_zeroCells,hzs,hnl];rw [hsub,hcw];rw [hcw] at hadd;omega
    refine ⟨M,_,_,h0,zUc hi hpk hbk _,(hi.ownNew (k:=k) (wd:=wd) (n:=n'+m) (cap:=grownCap w (n'+m) cap e) (l:=l++cs) (tO w A e) (.inr ⟨l,hbk,by omega⟩) g1 (by omega) (by rw [hsize,hcw];exact Qw _) hge hml ?_).put (hws d (by simp [Mic.ws])) (.own k (n'+m) wd (l++cs) _ (zU _ _ _) (by omega) (λ_=>(yR _ _ _).symm) ⟨_,_,_,rfl⟩)⟩;intro j q hq;have hnw:news.length=m*wd:=by rw [hnl,hcw]
    have hjt:j<(l++cs).length:=(List.getElem?_eq_some_iff.1 hq).1;rw [Q0,<- hA,Array.getElem?_append_left (by simp only [Qo,Q8,htl];omega)];by_cases hj:j<l.length
    ·rw [List.getElem?_append_left hj] at hq;rw [Array.getElem?_append_left (by simp only [Q8,htl];omega)];have:=q10 j q hq;rw [Q0] at this;simp only [List.getElem?_toArray,List.getElem?_take];rw [if_pos (by omega)];simpa using this
    ·rw [List.getElem?_append_right (by omega)] at hq;rw [Array.getElem?_append_right (by simp only [Q8,htl];omega)];have:=n2 _ q hq;simp only [Q8,htl,List.getElem?_toArray];rw [show j - n'*wd=j - l.length by omega];exact this
 ·intro e he;rcases Qe.1 he with he | he
  ·subst he;exact hk
  ·exact hbs e he
def PV.ecs:PV->List AV
 | .bytes l=>l.map λx=>.p (.int .u8 x.toNat)
 | .str l=>l.map λx=>.p (.int .u8 x.toNat)
 | .sl _ l=>(xJ l).map .p
 | _=>[]
theorem zE3 {g:Nat->Value} {news:List Value} (hc:rY M p.src g) (hsl:p.src.isSlice=true) (hw:p.src.width=wd) (hn:∀ j,j<p.src.len*wd->news[j]? = some (g j)) :
  p.ecs.length=p.src.len*wd/\∀ (j:Nat) (q:AV),p.ecs[j]? = some q->RepA M κ tip B q ((news[j]?).getD undef):=by
 have hby:∀ (l:By),rY M (.bytes l) g->(∀ j,j<l.length*1->news[j]? = some (g j))->∀ (j:Nat) (q:AV),(l.map λx=>AV.p (.int .u8 x.toNat))[j]? = some q->RepA M κ tip B q ((news[j]?).getD undef):=by
  intro l hc hn j q hq;rw [List.getElem?_map] at hq;obtain ⟨u,h1,h2⟩:=Q7.1 hq;have hlt:j<l.length:=(List.getElem?_eq_some_iff.1 h1).1;rw [hn j (by omega),<- h2,Wd,hc j u h1];exact .p _ _ (.int _ _)
 cases p with
 | bytes l=>simp only [Ql,W3] at *;subst hw;exact ⟨by simp [PV.ecs,Qi],hby l hc hn⟩
 | str l=>simp only [Ql,W3] at *;subst hw;exact ⟨by simp [PV.ecs,Qi],hby l hc hn⟩
 | sl w' l=>
  simp only [Ql,W3] at *;subst hw;obtain ⟨c1,c2⟩:=hc;have hwf:∀ p∈l,p.cells.length=w':=λp hp=>by obtain ⟨i,hi,h⟩:=Qk hp;exact c1 i p (by simp [hi,h])
  obtain ⟨f1,f2⟩:=zCw l hwf;refine ⟨by simp [PV.ecs,Qi,f1],λj q hq=>?_⟩;simp only [PV.ecs] at hq;rw [List.getElem?_map] at hq;obtain ⟨u,h1,h2⟩:=Q7.1 hq;have hlt:j<(xJ l).length:=(List.getElem?_eq_some_iff.1 h1).1;have hw0:0<w':=by
   rcases Qf w' with h | h
   ·subst h;omega
   ·exact h
  have hdm:w'*(j / w')+j % w'=j:=Wf j w';have hi:j / w'<l.length:=W4 (by rw [W0];omega);have hp:l[j / w']? = some l[j / w']:=by simp
  have hcl:=c1 _ _ hp;have hr:j % w'<l[j / w'].cells.length:=by rw [hcl];exact Nat.mod_lt _ hw0
  have hqq:l[j / w'].cells[j % w']? = some l[j / w'].cells[j % w']:=by simp
  have e:j / w'*w'+j % w'=j:=by rw [W0];exact hdm
  have h3:=f2 _ _ _ _ hp hqq;rw [e,h1] at h3;cases h3;have h4:=c2 _ _ _ _ hp hqq;rw [e] at h4;rw [hn j (by simp only [Qi];omega),<- h2,Wd];exact .p _ _ h4
 | _=>simp [Ql,Wg] at hsl
theorem zJ8 (hy:s.get te t' y=some vy) (hp:s.rd vy=some (p,bs)) (hsl:p.src.isSlice=true) (hw:p.src.width=wd) (hw0:0<wd):zVl P y (opS y vy) bs wd p.src.len p.ecs:=by
 intro cx M κ tip s' a w hi hr hb;have h:=mT hi hy hp hr hb;cases p with
 | str l=>
  rw [lW h];obtain ⟨news,g,q1,q2,q3⟩:=zPg (P:=P) (M:=M) (w:=w) l;have hw1:wd=1:=by rw [<- hw];rfl
  subst hw1;exact ⟨news,q1,(zE3 (p:=.str l) q2 rfl rfl q3).2⟩
 | bytes l=>
  obtain ⟨news,g,q1,q2,q3⟩:=zAf (P:=P) hi.mem (p:=.bytes l) rfl h (by simp [W3]);have hw1:wd=1:=by rw [<- hw];rfl
  subst hw1;exact ⟨news,q1,(zE3 (p:=.bytes l) q2 rfl rfl q3).2⟩
 | sl w' l=>
  have hw1:wd=w':=by rw [<- hw];rfl
  subst hw1;obtain ⟨news,g,q1,q2,q3⟩:=zAf (P:=P) hi.mem (p:=.sl wd l) rfl h (by simp [W3];omega);exact ⟨news,q1,(zE3 (p:=.sl wd l) q2 rfl rfl q3).2⟩
 | _=>simp [Ql,Wg] at hsl
theorem zNk (hy:s.get te t' y=some (.ref k2 0 m)) (hl:l2.length=m*wd):zVl P y (opS y (.ref k2 0 m)) [(k2,.var l2)] wd m l2:=by
 intro cx M κ tip s' a w hi hr hb;have hbk:=hb (k2,.var l2) (by simp);simp only at hbk;have h:=zY hi (yJ hy s' hr);obtain ⟨b,arr,e,fz,q1,q2,q3,q4,q5,q6,q7⟩:=hi.vars k2 l2 hbk;generalize hev:a.eval y=z at h;cases h with
 | ref _ _ _ b' l' g1 g2=>
 rw [q1] at g1;cases g1;refine ⟨arr.toList,⟨λw'=>by simp [Builtin.lenOf],λw' hw'=>?_,by simp;omega⟩,λj q hq=>?_⟩
 ·refine run_firstCells_some (P:=P) w' wd m ⟨b,0,none⟩ m m _ (by simp;omega) ?_;intro j u hu;rw [add_off];refine hw' _ _ ?_;simp only [Qg,q2,W9];simpa using hu
 ·have:=q5 j q hq;rw [Q0] at this;simpa using this
theorem zWe {ps:Array (Nat×Operand)} (hok:yP P te) (hd:o.dst=some d) (ho:o.op=.buildSlice t n ps) (hpl:ps.toList=pl) (ht:(te t).map (·.ty)=some (.slice e)) (he:te e=some ei) (hz:ei.z.length=ei.w) (hw0:0<ei.w) (hn:n*ei.w<=16777216)
  (hp:nP s te pl vs rs) (hf:nU (λj=>some (j*ei.w,ei.w)) (u7 ei.z n) vs=some l) (hln:n*ei.w=l.length) (hk:s.blk d=none):SA P o s ⟨rs,[],[d],some (d,some (.own d n)),[(d,.own ei.w l)]⟩:=by
 refine ⟨?_,hp.reads,by intro e he;simp at he,by intro k hk';simp at hk';subst hk';exact hk⟩;intro cx s' a w K Q hm hs hw hk';obtain ⟨M,κ,tip,h0,hpk,hi⟩:=hs;have hpr:=hp.rep hi hm.1;have hxs:(ps.map λ(i,x)=>(i,a.eval x)).toList=pl.map λp=>(p.1,a.eval p.2):=by simp [<- hpl]
 obtain ⟨arr,hrun,hcr⟩:=zLl hok ht he hz hn (xs:=ps.map λ(i,x)=>(i,a.eval x)) (by rw [hxs];exact hpr) hf w;have hb:=hm.2.2 d (by simp);unfold Oper.wp;have:(execOp a.eval o).run P w=.ok (.value (.slice (some ⟨w.heap.size,0,none⟩) n n)) (w.alloc (.cells arr e)):=by simp [execOp,ho,hrun]
 rw [this];show K (a.put o.dst _) _;rw [hd];refine hk' _ _ ?_;rw [m6];have hnn:n<=n*ei.w:=Qn _ hw0;exact ⟨M,_,_,h0,fI hi hpk hb _,(hi.ownNew (k:=d) (wd:=ei.w) (n:=n) (cap:=n) (l:=l) (oK w arr e) (.inl hb) hw0 hln (by rw [hcr.1];omega) (Qw _) (by simp only [maxLen];omega) hcr.2).put (hw d (by simp [Mic.ws])) (.own d n ei.w l _ (zU _ _ _) (by omega) (λ_=>(yR _ _ _).symm) ⟨_,_,_,rfl⟩)⟩
theorem zT9 (hok:yP P te) (hd:o.dst=some d) (ho:o.op=.call { callee:=.builtin .append,args:=#[x,y],argTypes:=#[t,t'] })
  (ht:(te t).map (·.ty)=some (.slice e)) (he:te e=some ei) (ht':P.underlying t'=some dd) (hdd:dH dd) (hx:s.get te t x=some (.nl c)) (hw0:0<ei.w) (hz:ei.z.length=ei.w) (hy:s.get te t' y=some vy) (hbs:∀ e∈bs,s.blk e.1=some e.2)
  (hsrc:zVl P y (opS y vy) bs ei.w m cs) (hm:cs.length=m*ei.w) (hb:m*ei.b<=140737488355328) (hb1:0<ei.b) (hk:s.blk d=none) :
  SA P o s ⟨opS x (.nl c)++opS y vy,bs,[d],some (d,some (.own d m)),[(d,.own ei.w cs)]⟩:=by
 refine ⟨?_,yK (zJ hx) (zJ hy),hbs,by intro k hk';simp at hk';subst hk';exact hk⟩;intro cx s' a w K Q hmm hs hws hk';obtain ⟨M,κ,tip,h0,hpk,hi⟩:=hs;have hbk:=hmm.2.2 d (by simp);have hevx:a.eval x=.slice none 0 0:=by
  have hx':=zY hi (yJ hx s' (yD hmm.1));generalize a.eval x=z at hx';cases hx' with
  | nl _ _=>rfl
 obtain ⟨news,n1,n2⟩:=hsrc cx M κ tip s' a w hi (zX hmm.1) hmm.2.1;obtain ⟨info,z,i1,i2,i3,i4,i5⟩:=(hok e ei he).info;have hu:=yV hok ht;have hlen:m<=140737488355328:=W7 (Qn _ hb1) hb;have hnl:news.length=m*ei.w:=n1.nl;rw [<- i2] at n1;have hzs:z.cells.size=ei.w:=by rw [<- Qt,i5];simpa using hz
 unfold Oper.wp;by_cases hm0:m=0
 ·subst hm0;have hcs:cs=[]:=Qa (by omega);subst hcs;have hrun:=n8 (P:=P) (ty:=o.type) hu ht' hdd i1 n1;rw [xD ho hevx hrun];show K (a.put o.dst _) _;rw [hd];refine hk' _ _ ?_;rw [m6];exact ⟨M,κ,_,h0,hpk,(hi.ownNil hbk hw0).put (hws d (by simp [Mic.ws])) (.own d 0 ei.w [] _ (zU _ _ _) (by simp) (λ_=>(yR _ _ _).symm) ⟨_,_,_,rfl⟩)⟩
 ·have hrun:=kM (P:=P) (ty:=o.type) hu ht' hdd i1 i4 n1 (by omega) (by rw [i3];exact hb) (by omega);rw [xD ho hevx hrun];show K (a.put o.dst _) _;rw [hd];refine hk' _ _ ?_;rw [m6];have hge:=grownCap_ge w m 0 e;have hsize:(news.toArray++Qx z.cells (grownCap w m 0 e - m)).size=grownCap w m 0 e*ei.w:=by
   simp only [Qo,Q8,size_zeroCells,hzs,hnl,<- Qb];congr 1;omega
  have hml:grownCap w m 0 e<=maxLen:=grownCap_le_maxLen w m 0 e (by simp only [maxLen];omega);refine ⟨M,_,_,h0,fI hi hpk hbk _,(hi.ownNew (k:=d) (wd:=ei.w) (n:=m) (cap:=grownCap w m 0 e) (l:=cs) (tO w _ e) (.inl hbk) hw0 (by omega) (by rw [hsize];exact Qw _) hge hml ?_).put (hws d (by simp [Mic.ws])) (.own d m ei.w cs _ (zU _ _ _) (by omega) (λ_=>(yR _ _ _).symm) ⟨_,_,_,rfl⟩)⟩;intro j q hq;have hlt:j<cs.length:=(List.getElem?_eq_some_iff.1 hq).1;rw [Q0,Array.getElem?_append_left (by simp;omega)];have:=n2 j q hq;simpa using this
end
mutual
def fzV (k m:Nat):AV->AV
 | .own j n=>bif Q6 j k then .buf j m else .own j n
 | .ag l=>.ag (fzL k m l)
 | .tu l=>.tu (fzL k m l)
 | .fnv f l=>.fnv f (fzL k m l)
 | v=>v
def fzL (k m:Nat):List AV->List AV
 | []=>[]
 | v :: r=>fzV k m v :: fzL k m r
end
mutual
def mW (k n:Nat):AV->Bool
 | .own j m=>!Nat.beq j k||Q6 m n
 | .optr j _ _=>!Nat.beq j k
 | .ag l=>pB k n l
 | .tu l=>pB k n l
 | .fnv _ l=>pB k n l
 | _=>true
def pB (k n:Nat):List AV->Bool
 | []=>true
 | v :: r=>mW k n v&&pB k n r
end
def fzB (k m:Nat):zI->zI
 | .var l=>.var (fzL k m l)
 | .own w l=>.own w (fzL k m l)
 | .buf c=>.buf c
def fyE (k m:Nat):LV->LV
 | []=>[]
 | (t,v) :: r=>(t,fzV k m v) :: fyE k m r
def zA2 (k m:Nat) (c:PV):LB->LB
 | []=>[]
 | (i,b) :: r=>(bif Q6 i k then (i,.buf c) else (i,fzB k m b)) :: zA2 k m c r
def eU (k n:Nat):LV->Bool
 | []=>true
 | (_,v) :: r=>mW k n v&&eU k n r
def l6 (k n:Nat):LB->Bool
 | []=>true
 | (_,.var l) :: r=>pB k n l&&l6 k n r
 | (_,.own _ l) :: r=>pB k n l&&l6 k n r
 | (_,.buf _) :: r=>l6 k n r
theorem jR (k m:Nat):∀ (l:List AV),(fzL k m l).length=l.length/\∀ (j:Nat),(fzL k m l)[j]? = (l[j]?).map (fzV k m)
 | []=>⟨rfl,by simp [fzL]⟩
 | v :: r=>by
  obtain ⟨h1,h2⟩:=jR k m r;refine ⟨by simp [fzL,h1],λj=>?_⟩;cases j with
  | zero=>simp [fzL]
  | succ j=>simp [fzL,h2 j]
theorem bN:∀ (l:List AV),pB k n l=true->∀ (j:Nat) (q:AV),l[j]? = some q->mW k n q=true
 | [],_,_,_,h=>by simp at h
 | v :: r,h,0,q,hq=>by
  simp only [pB,Qd] at h;simp at hq;rw [<- hq];exact h.1
 | v :: r,h,j+1,q,hq=>by
  simp only [pB,Qd] at h;exact bN r h.2 j q (by simpa using hq)
theorem zPw (f:α->PV):∀ (l:List α),fzL k m (l.map λx=>AV.p (f x))=l.map λx=>AV.p (f x)
 | []=>rfl
 | _ :: r=>by simp only [Q9,fzL,fzV];rw [zPw f r]
theorem zP3:∀ (l:List PV),fzL k m (l.map AV.p)=l.map AV.p
 | []=>rfl
 | _ :: r=>by simp only [Q9,fzL,fzV];rw [zP3 r]
theorem iG (f:α->PV):∀ (l:List α),pB k n (l.map λx=>AV.p (f x))=true
 | []=>rfl
 | _ :: r=>by simp only [Q9,pB,mW,W5];exact iG f r
theorem gF:∀ (l:List PV),pB k n (l.map AV.p)=true
 | []=>rfl
 | _ :: r=>by simp only [Q9,pB,mW,W5];exact gF r
theorem eU.mem:∀ {l:LV},eU k n l=true->∀ {t v},(t,v)∈l->mW k n v=true
 | (_,_) :: _,h,_,_,hm=>by
  simp only [eU,Qd] at h;rcases Qe.1 hm with e | hm
  ·cases e;exact h.1
  ·exact eU.mem h.2 hm
theorem l6.mem:∀ {l:LB},l6 k n l=true->∀ {t b},(t,b)∈l->(∀ v,b=.var v->pB k n v=true)/\∀ w v,b=.own w v->pB k n v=true
 | (_,.var u) :: _,h,_,_,hm=>by
  simp only [l6,Qd] at h;rcases Qe.1 hm with e | hm
  ·cases e;exact ⟨λv e=>(by cases e;exact h.1),λw v e=>(by cases e)⟩
  ·exact l6.mem h.2 hm
 | (_,.own w u) :: _,h,_,_,hm=>by
  simp only [l6,Qd] at h;rcases Qe.1 hm with e | hm
  ·cases e;exact ⟨λv e=>(by cases e),λw v e=>(by cases e;exact h.1)⟩
  ·exact l6.mem h.2 hm
 | (_,.buf u) :: _,h,_,_,hm=>by
  simp only [l6] at h;rcases Qe.1 hm with e | hm
  ·cases e;exact ⟨λv e=>(by cases e),λw v e=>(by cases e)⟩
  ·exact l6.mem h hm
theorem zTj:∀ {l:LV} {t:Nat} {v:AV},lk (fyE k m l) t=some v->∃ u,lk l t=some u/\v=fzV k m u
 | [],_,_,h=>by simp [fyE,lk] at h
 | (i,x) :: r,t,v,h=>by
  simp only [fyE,lk] at h ⊢;cases hb:Q6 t i with
  | true=>simp [hb] at h;exact ⟨x,by simp,h.symm⟩
  | false=>simp [hb] at h;simpa using zTj h
theorem zC3:∀ {l:LB} {t:Nat},lk (zA2 k m c l) t=(lk l t).map (λb=>bif Q6 t k then .buf c else fzB k m b)
 | [],t=>by simp [zA2,lk]
 | (i,x) :: r,t=>by
  simp only [zA2,lk];cases hb:Q6 t i with
  | true=>
   have:=Q1 hb;subst this;cases hk:Q6 t k<;>simp [lk]
  | false=>
   cases hk:Q6 i k<;>simp [lk,hb,zC3]
theorem RepA.fz {M':Mem} {B':NB} (hM:M.le M') (hk:B k=some (.own wd l)) (hn:n*wd=l.length) (hB:∀ i b,i≠k->B i=some b->B' i=some (fzB k n b)) (hk':B' k=some (.buf c)) (hc:c.isSlice=true) (hcl:c.len=n) (hr':Rep M' c (tip k))
  {x:Value} (hr:RepA M κ tip B v x):mW k n v=true->RepA M' κ tip B' (fzV k n v) x:=by
 have nek:∀ {i:Nat} {b:zI},B i=some b->(∀ w l,b≠.own w l)->i≠k:=by
  rintro i b h1 h2 rfl;rw [hk] at h1;cases h1;exact h2 _ _ rfl
 induction hr with
 | p v x h1=>intro _;exact .p v x (h1.mono hM)
 | nl c h1=>intro _;exact .nl c h1
 | ptr i o b l h1 h2=>intro _;exact .ptr i o b _ h1 (hB i _ (nek h2 (by intros;simp)) h2)
 | ref i o n b l h1 h2=>intro _;exact .ref i o n b _ h1 (hB i _ (nek h2 (by intros;simp)) h2)
 | buf i n c x h1 hs h2 h3 h4=>intro _;exact .buf i n c x (hB i _ (nek h1 (by intros;simp)) h1) hs h2 (h3.mono hM) h4
 | ag l vs h1 _ ih=>
  intro h;obtain ⟨r1,r2⟩:=jR k n l;refine .ag _ vs (by omega) (λj q hq=>?_);rw [r2] at hq;obtain ⟨q',h3,h4⟩:=Q7.1 hq;subst h4;exact ih j q' h3 (bN l h j q' h3)
 | tu l vs h1 _ ih=>
  intro h;obtain ⟨r1,r2⟩:=jR k n l;refine .tu _ vs (by omega) (λj q hq=>?_);rw [r2] at hq;obtain ⟨q',h3,h4⟩:=Q7.1 hq;subst h4;exact ih j q' h3 (bN l h j q' h3)
 | fnv f l vs h1 _ ih=>
  intro h;obtain ⟨r1,r2⟩:=jR k n l;refine .fnv f _ vs (by omega) (λj q hq=>?_);rw [r2] at hq;obtain ⟨q',h3,h4⟩:=Q7.1 hq;subst h4;exact ih j q' h3 (bN l h j q' h3)
 | own i m w l0 x h1 h2 h3 hs=>
  intro h;simp only [mW] at h;cases hb:Q6 i k with
  | true=>
   have:=Q1 hb;subst this;simp [hb] at h;subst h;rw [hk] at h1;cases h1;simp only [fzV,hb,cond_true];have hx:=h3 hn;refine .buf i m c x hk' hc (by omega) ?_ (λ_=>hx);rw [<- hcl,tQ hc,hx];exact hr'
  | false=>
   have hne:i≠k:=by rintro rfl;simp at hb
   simp only [fzV,hb,cond_false];obtain ⟨r1,r2⟩:=jR k n l0;exact .own i m w (fzL k n l0) x (hB i _ hne h1) (by omega) (λe=>h3 (by omega)) hs
 | optr i m o w l0 x h1 h2 h3 hs=>
  intro h;simp only [mW] at h;have hne:i≠k:=by rintro rfl;simp at h
  obtain ⟨r1,r2⟩:=jR k n l0;exact .optr i m o w (fzL k n l0) x (hB i _ hne h1) (by omega) (λe=>h3 (by omega)) hs
theorem Imp.freezeO (k:Nat) {cs:List PV} (hb:lk blk k=some (.own wd l)) (hn:n*wd=l.length) (hrd:(mkS env blk).rdL l=some (cs,bs)) (hc:gI wd c cs) (hcn:c.len=n) (hm:m=n)
  (h1:eU k n env=true) (h2:l6 k n blk=true) (he:fyE k m env=env') (hbb:zA2 k m c blk=blk'):Imp pk (mkS env blk) (mkS env' blk'):=by
 subst he hbb hm;intro cx a w hcx hs;obtain ⟨M,κ,tip,h0,hp,hi⟩:=hs;obtain ⟨g1,g2⟩:=hi.owns k wd l hb;have key:∃ M',M.le M'/\Rep M' c (tip k)/\c.isSlice=true/\c.width=wd/\(∀ b o x,M' b o=some x->w.cell? ⟨b,o,none⟩=some x)/\(∀ b o,κ k≠some b->M' b o=M b o) /\
   ((tip k=.slice none 0 0/\κ k=none)∨∃ b n cap arr e fz,tip k=.slice (some ⟨b,0,none⟩) n cap/\κ k=some b/\cx.w0.heap.size<=b /\
    w.heap[b]? = some (.cells arr e fz)/\zDj fz arr.size/\cap*c.width<=arr.size/\cap<=maxLen/\∀ j,n*c.width<=j->M' b j=none):=by
  rcases g2 with ⟨y1,y2,rfl⟩ | ⟨b,n',cap,arr,e,fz,q1,q2,q3,q4,q5,q6,q7,q8,q9,q10,q11⟩
  ·simp [AS.rdL] at hrd;obtain ⟨rfl,rfl⟩:=hrd;obtain ⟨c1,c2,c3,c4⟩:=hc.cells (M:=M) (f:=λ_=>undef) (by simp);have hl0:c.len=0:=by
    rcases Qf c.len with h | h
    ·exact h
    ·have:=Qq h g1;simp at c4;omega
   refine ⟨M,Mem.le_refl M,?_,c2,c3,hi.mem,λ_ _ _=>rfl,.inl ⟨y1,y2⟩⟩;rw [y1];cases c with
   | bytes l=>simp [Qi] at hl0;subst hl0;exact .bytes0
   | sl w l=>simp [Qi] at hl0;subst hl0;exact .sl0 w
   | _=>simp [Wg] at c2
  ·have hnn:n'=m:=Q5 g1 (by omega);subst hnn;have hfit:n'*wd<=cap*wd:=Q2 _ q8;obtain ⟨r1,r2⟩:=gJ hrd q10;obtain ⟨c1,c2,c3,c4⟩:=hc.cells r2;have hle:M.le (xB M b 0 (n'*wd) (arr[·]?)):=vO λo _ _=>q11 o;refine ⟨xB M b 0 (n'*wd) (arr[·]?),hle,?_,c2,c3,λb' o x h=>?_,λb' o hne=>?_,.inr ⟨b,n',cap,arr,e,fz,q1,q2,q3,q4,q5,by rw [c3];exact q7,q9,λj hj=>?_⟩⟩
   ·rw [q1];have:=xT (M':=xB M b 0 (n'*wd) (arr[·]?)) (b:=b) (o:=0) (cap:=cap) c1 c2 hle ?_ (by omega)
    ·rwa [hcn] at this
    intro j hj;rw [hcn,c3] at hj;simp only [xB,W9];rw [if_pos ⟨trivial,Nat.zero_le _,hj⟩];have:j<arr.size:=by omega
    simp [this]
   ·unfold xB at h;split at h
    ·rename_i hc';obtain ⟨rfl,_,hlt⟩:=hc';simp only [Qg,q4];simpa using h
    ·exact hi.mem b' o x h
   ·unfold xB;rw [if_neg (by intro h;exact hne (by rw [h.1];exact q2))]
   ·unfold xB;rw [c3] at hj;rw [if_neg (by omega)];exact q11 j
 obtain ⟨M',hle,hrep,hcs,hcw,hmem,hoth,hrow⟩:=key;have hB:∀ i b,i≠k->lk blk i=some b->lk (zA2 k m c blk) i=some (fzB k m b):=λi b hne h=>by
  have:Q6 i k=false:=by rw [Wa];intro e;exact hne (Q1 e)
  rw [zC3,h,this];rfl
 have hBk:lk (zA2 k m c blk) k=some (.buf c):=by rw [zC3,hb];simp
 have hBi:∀ i b',lk (zA2 k m c blk) i=some b'->(i=k/\b'=.buf c)∨(i≠k/\∃ b,lk blk i=some b/\b'=fzB k m b):=by
  intro i b' h;rw [zC3] at h;obtain ⟨b,h3,h4⟩:=Q7.1 h;cases hq:Q6 i k with
  | true=>simp [hq] at h4;exact .inl ⟨Q1 hq,h4.symm⟩
  | false=>simp [hq] at h4;exact .inr ⟨by rintro rfl;simp at hq,b,h3,h4.symm⟩
 have hmap:∀ {v:AV} {x:Value},RepA M κ tip (lk blk) v x->mW k m v=true->RepA M' κ tip (lk (zA2 k m c blk)) (fzV k m v) x:=λh ho=>h.fz hle hb hn hB hBk hcs hcn hrep ho;have hcells:∀ (li:List AV),pB k m li=true->∀ {arr:Array Value},(∀ (j:Nat) (q:AV),li[j]? = some q->RepA M κ tip (lk blk) q (arr.getD j undef))->∀ (j:Nat) (q:AV),(fzL k m li)[j]? = some q->RepA M' κ tip (lk (zA2 k m c blk)) q (arr.getD j undef):=by
  intro li ho arr hr j q hq;rw [(jR k m li).2] at hq;obtain ⟨q',h3,h4⟩:=Q7.1 hq;subst h4;exact hmap (hr j q' h3) (bN li ho j q' h3)
 refine ⟨M',κ,tip,h0.trans' hle,hp,{
  defers:=hi.defers
  size:=hi.size
  fr:=hi.fr
  mem:=hmem
  env:=λu v h=>by
   obtain ⟨v',h3,rfl⟩:=zTj (show lk (fyE k m env) u=some v from h);obtain ⟨y,h4,h5⟩:=hi.env u v' h3;exact ⟨y,h4,hmap h5 (eU.mem h1 (u9 env u v' h3))⟩
  vars:=λi li h=>by
   rcases hBi i _ h with ⟨_,h3⟩ | ⟨hne,b,h3,h4⟩
   ·cases h3
   ·cases b with
    | buf _=>simp [fzB] at h4
    | own _ _=>simp [fzB] at h4
    | var l0=>
     simp only [fzB,zI.var.injEq] at h4;subst h4;obtain ⟨b2,arr2,e2,fz2,z1,z2,z3,z4,z5,z6,z7⟩:=hi.vars i l0 h3;exact ⟨b2,arr2,e2,fz2,z1,z2,z3,by rw [(jR k m l0).1];exact z4,hcells l0 ((l6.mem h2 (u9 blk i _ h3)).1 l0 rfl) z5,λo=>by rw [hoth b2 o (λe=>hne (hi.inj i k b2 z1 e))];exact z6 o,z7⟩
  bufs:=λi ci h=>by
   rcases hBi i _ h with ⟨rfl,h3⟩ | ⟨hne,b,h3,h4⟩
   ·cases h3;exact ⟨hrep,hcs,by omega,hrow⟩
   ·cases b with
    | own _ _=>simp [fzB] at h4
    | var _=>simp [fzB] at h4
    | buf c0=>
     simp only [fzB,zI.buf.injEq] at h4;subst h4;obtain ⟨z1,z2,z3,z4⟩:=hi.bufs i ci h3;refine ⟨z1.mono hle,z2,z3,?_⟩;rcases z4 with z4 | ⟨b2,n2,cap2,arr2,e2,fz2,y1,y2,y3,y4,y5,y6,y7,y8⟩
     ·exact .inl z4
     ·exact .inr ⟨b2,n2,cap2,arr2,e2,fz2,y1,y2,y3,y4,y5,y6,y7,λj hj=>by rw [hoth b2 j (λe=>hne (hi.inj i k b2 y2 e))];exact y8 j hj⟩
  inj:=hi.inj
  dom:=λi h=>by
   have h':lk (zA2 k m c blk) i=none:=h;rw [zC3] at h';exact hi.dom i (show lk blk i=none by simpa using h')
  glob:=hi.glob.mono hle
  old:=λb' o hb'=>by
   rw [hoth b' o (λe=>?_)]
   ·exact hi.old b' o hb'
   ·rcases hrow with ⟨_,y2⟩ | ⟨b,_,_,_,_,_,_,y2,y3,_⟩
    ·rw [y2] at e;cases e
    ·rw [y2] at e;cases e;omega
  owns:=λi wi li h=>by
   rcases hBi i _ h with ⟨_,h3⟩ | ⟨hne,b,h3,h4⟩
   ·cases h3
   ·cases b with
    | buf _=>simp [fzB] at h4
    | var _=>simp [fzB] at h4
    | own w0 l0=>
     simp only [fzB,zI.own.injEq] at h4;obtain ⟨rfl,rfl⟩:=h4;obtain ⟨z0,z⟩:=hi.owns i wi l0 h3;refine ⟨z0,?_⟩;rcases z with ⟨z1,z2,rfl⟩ | ⟨b2,n2,cap2,arr2,e2,fz2,y1,y2,y3,y4,y5,y6,y7,y8,y9,y10,y11⟩
     ·exact .inl ⟨z1,z2,rfl⟩
     ·exact .inr ⟨b2,n2,cap2,arr2,e2,fz2,y1,y2,y3,y4,y5,by rw [(jR k m l0).1];exact y6,y7,y8,y9,hcells l0 ((l6.mem h2 (u9 blk i _ h3)).2 wi l0 rfl) y10,λo=>by rw [hoth b2 o (λe=>hne (hi.inj i k b2 y2 e))];exact y11 o⟩}⟩
theorem Imp.promO {t:Nat} (wd:Nat) (he:s.env t=some (.nl c)) (hk:s.blk k=none) (hw:Qj 0 wd=true):Imp pk s ((s.setb k (.own wd [])).put t (.own k 0)):=by
 intro cx a w _ hs;obtain ⟨M,κ,tip,h0,hp,hi⟩:=hs;have hw':=Q3 hw;have hinv:=hi.ownNil (k:=k) (wd:=wd) hk (by omega);obtain ⟨x,hx1,hx2⟩:=hi.env t _ he;cases hx2 with
 | nl _ hc=>
 refine ⟨M,κ,_,h0,hp,{ hinv with env:=λu v h=>?_ }⟩;simp only [AS.put] at h;cases hb:Q6 u t with
 | true=>
  have:=Q1 hb;subst this;simp at h;subst h;exact ⟨_,hx1,.own k 0 wd [] _ (zU _ _ _) (by simp) (λ_=>(yR _ _ _).symm) ⟨_,_,_,rfl⟩⟩
 | false=>
  simp [hb] at h;exact hinv.env u v h
abbrev qO (c:PV):zI:=.own c.width c.ecs
theorem zFq:∀ (a b:List PV),xJ (a++b)=xJ a++xJ b
 | [],_=>rfl
 | x :: r,b=>by simp [xJ,zFq r b]
theorem l5 (l:By):l.length*1=(PV.ecs (.bytes l)).length:=by simp [PV.ecs]
theorem eM (hf:∀ a,(f a).cells.length=w):∀ (l:List α),(xJ (l.map f)).length=l.length*w
 | []=>by simp [xJ]
 | x :: r=>by simp only [Q9,xJ,W8,hf,eM hf r,Wc];rw [Qb];omega
theorem rQ (hf:∀ a,(f a).cells.length=w) (l:List α):l.length*w=(PV.ecs (.sl w (l.map f))).length:=by simp [PV.ecs,eM hf]
theorem zXg:∀ (l:List PV),s.rdL (l.map AV.p)=some (l,[])
 | []=>rfl
 | x :: r=>by simp [AS.rdL,AS.rd,zXg r]
theorem zVi (l:By):s.rdL (PV.ecs (.bytes l))=some (l.map λx=>PV.int .u8 x.toNat,[]):=by
 simp only [PV.ecs];exact qF
theorem zVu (l:List PV):s.rdL (PV.ecs (.sl w l))=some (xJ l,[]):=by simp only [PV.ecs];exact zXg _
theorem zCv (hf:∀ a,(f a).cells.length=w) {l:List α} (h:l[j]? = some u) {o:Nat} {q:PV} (hq:(f u).cells[o]? = some q):(PV.ecs (.sl w (l.map f)))[j*w+o]? = some (.p q):=by
 obtain ⟨_,h2⟩:=zCw (l.map f) (w:=w) (by intro p hp;obtain ⟨a,_,rfl⟩:=W1.1 hp;exact hf a);simp only [PV.ecs,List.getElem?_map];rw [h2 j (f u) o q (by simp [h]) hq];rfl
theorem zRf (hf:∀ a,(f a).cells.length=w) {l:List α} (h:l[j]? = some u):((PV.ecs (.sl w (l.map f))).drop (j*w)).take w=(f u).cells.map AV.p:=by
 apply Wb;intro o;rw [List.getElem?_take,List.getElem?_drop,List.getElem?_map];by_cases ho:o<w
 ·rw [if_pos ho];have hlt:o<(f u).cells.length:=by rw [hf];exact ho
  rw [zCv hf h (o:=o) (q:=(f u).cells[o]) (by simp)];simp [hlt]
 ·rw [if_neg ho];have:(f u).cells[o]? = none:=List.getElem?_eq_none (by rw [hf];omega);simp [this]
theorem zTk (hf:∀ a,(f a).cells.length=w) {l:List α} (u:α) (h:j<l.length):qM (PV.ecs (.sl w (l.map f))) (j*w) ((f u).cells.map AV.p)=PV.ecs (.sl w ((l.set j u).map f)):=by
 have hlen:=rQ hf l;have hjw:(j+1)*w<=l.length*w:=Q2 _ h;rw [Qb] at hjw;have hcl:((f u).cells.map AV.p).length=w:=by simp [hf]
 have hw:∀ p∈(l.set j u).map f,p.cells.length=w:=by intro p hp;obtain ⟨a,_,rfl⟩:=W1.1 hp;exact hf a
 have hw0:∀ p∈l.map f,p.cells.length=w:=by intro p hp;obtain ⟨a,_,rfl⟩:=W1.1 hp;exact hf a
 apply Wb;intro o;rw [aZ (by rw [hcl];omega),hcl];rcases Qf w with hz | hpos
 ·subst hz;have h1:(PV.ecs (.sl 0 (l.map f)))=[]:=Qa (by omega);have h2:(PV.ecs (.sl 0 ((l.set j u).map f)))=[]:=Qa (by have:=rQ hf (l.set j u);omega);rw [if_neg (by omega),h1,h2]
 ·by_cases ho:o<l.length*w
  ·have hdm:w*(o / w)+o % w=o:=Wf o w;have he:o / w*w+o % w=o:=by rw [W0];exact hdm
   have hi:o / w<l.length:=W4 (by rw [W0];exact ho);have hr:o % w<w:=Nat.mod_lt _ hpos;by_cases hj:j*w<=o/\o<j*w+w
   ·rw [if_pos hj];have hjj:o / w=j:=Nat.div_eq_of_lt_le (by omega) (by rw [Qb];omega);have hsub:o - j*w=o % w:=by rw [hjj] at he;omega
    have hlt:o % w<(f u).cells.length:=by rw [hf];exact hr
    have:=zCv hf (l:=l.set j u) (j:=j) (u:=u) (by simp [h]) (o:=o % w) (q:=(f u).cells[o % w]) (by simp);rw [hjj] at he;rw [he] at this;rw [this,hsub,List.getElem?_map];simp [hlt]
   ·rw [if_neg hj];have hne:o / w≠j:=by
     intro e;rw [e] at he;exact hj ⟨by omega,by omega⟩
    have hlt:o % w<(f l[o / w]).cells.length:=by rw [hf];exact hr
    have h1:=zCv hf (l:=l) (j:=o / w) (u:=l[o / w]) (by simp) (o:=o % w) (q:=(f l[o / w]).cells[o % w]) (by simp);have h2:=zCv hf (l:=l.set j u) (j:=o / w) (u:=l[o / w]) (by rw [List.getElem?_set_ne (Ne.symm hne)];simp) (o:=o % w) (q:=(f l[o / w]).cells[o % w]) (by simp);rw [he] at h1 h2;rw [h1,h2]
  ·rw [if_neg (by omega),List.getElem?_eq_none (by omega),List.getElem?_eq_none (by have:=rQ hf (l.set j u);rw [Wh] at this;omega)]
section
theorem ag_p {l:List PV} (h:RepA M κ tip B (.ag (l.map AV.p)) z):RepA M κ tip B (.p (.agg l)) z:=by
 cases h with
 | ag _ vs h1 h2=>exact .p _ _ (.agg l vs (by simpa using h1) (λj q hq=>by have:=h2 j (.p q) (by simp [hq]);exact repA_pv this))
theorem VA.agp {l:List PV} (h:VA P o s rs bs (.ag (l.map AV.p))):VA P o s rs bs (.p (.agg l)):=
 ⟨λcx M κ tip s' a w hi hr hb=>by obtain ⟨z,h1,h2⟩:=h.1 cx M κ tip s' a w hi hr hb;exact ⟨z,h1,ag_p h2⟩,h.2⟩
theorem zH2 (hok:yP P te) (hd:o.dst=none) (ho:o.op=.store t ax x) (ht:te t=some i) (ha:s.get te ta ax=some (.optr k n off)) (hx:s.get te t x=some v) (hp:s.rd v=some (p,bs)) (hb:s.blk k=some (.own wd l)) (hn:n*wd=l.length)
  (hw:p.cells.length=i.w) (hl:off+i.w<=l.length) (hone:p.cells.all Wi=true):SA P o s ⟨opS ax (.optr k n off)++opS x v,(k,.own wd l) :: bs,[],none,[(k,.own wd (qM l off (p.cells.map AV.p)))]⟩:=by
 have hpc:(AV.p p).cells=p.cells.map AV.p:=by cases p<;>rfl
 refine ⟨?_,yK (zJ ha) (zJ hx),?_,by intro e he;simp at he⟩
 ·intro cx s' a w K Q hm hs hws hk;obtain ⟨M,κ,tip,h0,hpk,hi⟩:=hs;have hbk:=hm.2.1 (k,.own wd l) (by simp);simp only at hbk;have hr:=mT hi hx hp (zX hm.1) (λe he=>hm.2.1 e (by simp [he]));have ha':=zY hi (yJ ha s' (yD hm.1));have hx':RepA M κ tip s'.blk (.p p) (a.eval x):=.p _ _ hr;obtain ⟨hc1,hc2⟩:=fR hx';rw [hpc] at hc1 hc2;obtain ⟨g1,g2⟩:=hi.owns k wd l hbk;generalize hev:a.eval ax=z at ha';cases ha' with
  | optr _ _ _ w' l' _ h1 h2 h3 hs=>
   rw [hbk] at h1;cases h1;obtain ⟨b,hκ,rfl⟩:=h3 hn;rcases g2 with ⟨_,y2,_⟩ | ⟨b',n1,cap,arr,e1,fz,q1,q2,q3,q4,q5,q6,q7,q8,q9,q10,q11⟩
   ·rw [hκ] at y2;cases y2
   ·rw [hκ] at q2;cases q2;have hnn:n1=n:=Q5 g1 (by omega);subst hnn;have hfit:n1*wd<=cap*wd:=Q2 _ q8;have hpl:(p.cells.map AV.p).length=i.w:=by simp [hw]
    have hsz:(a.eval x).cells.toList.length=(p.cells.map AV.p).length:=by simp only [Qt,hc1]
    have hrun:=run_storeCells_cells (P:=P) b off (a.eval x).cells.toList 0 w
     (by
       intro j hj;rw [hsz] at hj;have:off+j<arr.size:=by omega
       simp [Qg,q4,this])
     (by intro j hj;rw [hsz] at hj;simp only [Qs];exact qN q4 q5 (by omega))
     (by
      intro u hu;obtain ⟨j,hj,hju⟩:=Qk hu;have hjl:j<p.cells.length:=by simp only [Wj] at hsz;omega
      have hq:=hc2 j (.p p.cells[j]) (by simp [hjl]);have hjs:j<(a.eval x).cells.size:=by simpa using hj
      have:(a.eval x).cells.getD j undef=u:=by simp [hjs];simpa using hju
      rw [this] at hq;exact zDn hq ((Qr.1 hone) _ (Qz _)))
    unfold Oper.wp;have:(execOp a.eval o).run P w=.ok .skip (w.setCells b off (a.eval x).cells.toList):=by
     simp only [Qs] at hrun;have hcs:¬ ((a.eval x).cells.size≠i.w):=by rw [hc1,hpl];simp
     simp [execOp,ho,hev,Wk,Qu,storeVar,u4 hok ht,hcs,hrun]
    rw [this];show K (a.put o.dst undef) _;rw [hd];refine hk _ _ ?_;rw [zAh];obtain ⟨arr',z1,z2,z3⟩:=oR b (a.eval x).cells.toList off w arr e1 fz q4 (by omega);have hlen:=zEt (l:=l) (cs:=p.cells.map AV.p) (off:=off) (by omega);refine ⟨M,κ,_,h0,hpk,hi.ownSet (n':=n1) hbk q1 hκ q3 (by rw [z2];exact q5) z1 (by rw [z2];exact q7) q8 q9 g1 q11 (by omega) (by omega) q6 ?_⟩;intro j q hq;rw [aZ (by omega)] at hq;rw [Q0,z3 j];by_cases hj:off<=j/\j<off+(p.cells.map AV.p).length
    ·rw [if_pos hj] at hq;rw [if_pos (by omega)];have:=hc2 (j - off) q hq;rw [Q0] at this;simpa using this
    ·rw [if_neg hj] at hq;rw [if_neg (by omega)];have:=q10 j q hq;rw [Q0] at this;exact this
 ·intro e he;rcases Qe.1 he with he | he
  ·subst he;exact hb
  ·exact vP v p bs hp e he
end
section
variable [T:zIa P] 
theorem RK.xoB {l:By} {i:Int} (hn:l.length=n) (h:ixN n i=some j) (ht:(T.te t).map (·.ty)=some (.slice e)) (he:T.te e=some ei) (hw:1=ei.w) (hx:s.get T.te t x=some (.own k0 n)) (hb:s.blk k0=some (qO (.bytes l))) (hy:s.get T.te 0 y=some (.p (.int .i64 i)))
  (k:VK P ops r s K d (opS x (.own k0 n)++opS y (.p (.int .i64 i))) [(k0,qO (.bytes l))] (.optr k0 n j)):RK P ops (⟨some d,.indexAddr t x y,ty,pos,af,none⟩:: r) s K:=by
 subst hn;obtain ⟨h0,h1,h2⟩:=zDh h;have:=zLt (P:=P) (o:=⟨some d,.indexAddr t x y,ty,pos,af,none⟩) T.ok rfl ht he hx hb (l5 l) hw hy h0 h1;rw [<- h2,<- hw,Nat.mul_one] at this;exact RK.va rfl rfl this k
theorem RK.xoM (f:α->PV) {l:List α} {i:Int} (hn:l.length=n) (h:ixN n i=some j) (hf:∀ a,(f a).cells.length=w) (ht:(T.te t).map (·.ty)=some (.slice e)) (he:T.te e=some ei) (hw:w=ei.w) (hx:s.get T.te t x=some (.own k0 n)) (hb:s.blk k0=some (qO (.sl w (l.map f)))) (hy:s.get T.te 0 y=some (.p (.int .i64 i)))
  (k:VK P ops r s K d (opS x (.own k0 n)++opS y (.p (.int .i64 i))) [(k0,qO (.sl w (l.map f)))] (.optr k0 n (j*w))):RK P ops (⟨some d,.indexAddr t x y,ty,pos,af,none⟩:: r) s K:=by
 subst hn;obtain ⟨h0,h1,h2⟩:=zDh h;have:=zLt (P:=P) (o:=⟨some d,.indexAddr t x y,ty,pos,af,none⟩) T.ok rfl ht he hx hb (rQ hf l) hw hy h0 h1;rw [<- h2,<- hw] at this;exact RK.va rfl rfl this k
theorem RK.xoK (i:Nat) (h:Qj i n=true) (ht:(T.te t).map (·.ty)=some (.slice e)) (he:T.te e=some ei) (hw:w=ei.w) (hx:s.get T.te t x=some (.own k0 n)) (hb:s.blk k0=some (.own w l)) (hn:Q6 (n*w) l.length=true) (hy:s.get T.te 0 y=some (.p (.int .i64 (i:Nat))))
  (k:VK P ops r s K d (opS x (.own k0 n)++opS y (.p (.int .i64 (i:Nat)))) [(k0,.own w l)] (.optr k0 n (i*w))):RK P ops (⟨some d,.indexAddr t x y,ty,pos,af,none⟩:: r) s K:=by
 have hi:=Q3 h;have:=zLt (P:=P) (o:=⟨some d,.indexAddr t x y,ty,pos,af,none⟩) T.ok rfl ht he hx hb (Q1 hn) hw hy (by omega) (by omega);rw [<- hw,Int.toNat_natCast] at this;exact RK.va rfl rfl this k
theorem RK.lnO (hn:n*w=l.length) (ht0:((T.te t).map (·.ty),s.get T.te t x,s.blk k0)=(some (.slice e),some (.own k0 n),some (.own w l))) (k:VK P ops r s K d (opS x (.own k0 n)) [(k0,.own w l)] (.p (.int .i64 n))):RK P ops (⟨some d,.call ⟨.builtin .len,#[x],#[t]⟩,ty,pos,af,none⟩:: r) s K:=have ⟨ht,ht0⟩:=pq ht0;have ⟨hx,hb⟩:=pq ht0;RK.va rfl rfl (zWz T.ok rfl ht hx hb hn) k
theorem RK.ldoB {l:By} {u:UInt8} (hn:l.length=n) (h:l[j]? = some u) (ht:T.te t=some i) (hp:i.plain=true) (hx:s.get T.te 0 x=some (.optr k0 n j)) (hb:s.blk k0=some (qO (.bytes l)))
  (k:VK P ops r s K d (opS x (.optr k0 n j)) [(k0,qO (.bytes l))] (.p (.int .u8 u.toNat))):RK P ops (⟨some d,.load t x,ty,pos,af,none⟩:: r) s K:=by
 subst hn;exact RK.va rfl rfl (zG1 T.ok rfl ht hp hx hb (l5 l) (by simp [PV.ecs,h])) k
theorem RK.ldoK (ht:T.te t=some i) (hp:i.plain=true) (hx:s.get T.te 0 x=some (.optr k0 n off)) (hb:s.blk k0=some (.own w l)) (hn:Q6 (n*w) l.length=true) (hv:l[off]? = some v)
  (k:VK P ops r s K d (opS x (.optr k0 n off)) [(k0,.own w l)] v):RK P ops (⟨some d,.load t x,ty,pos,af,none⟩:: r) s K:=
 RK.va rfl rfl (zG1 T.ok rfl ht hp hx hb (Q1 hn) hv) k
theorem RK.ldo1 (f:α->PV) {l:List α} (hn:l.length=n) (h:l[j]? = some u) (hf:∀ a,(f a).cells=[f a]) (ht:T.te t=some i) (hp:i.plain=true) (hx:s.get T.te 0 x=some (.optr k0 n (j*1))) (hb:s.blk k0=some (qO (.sl 1 (l.map f))))
  (k:VK P ops r s K d (opS x (.optr k0 n (j*1))) [(k0,qO (.sl 1 (l.map f)))] (.p (f u))):RK P ops (⟨some d,.load t x,ty,pos,af,none⟩:: r) s K:=by
 subst hn;exact RK.va rfl rfl (zG1 T.ok rfl ht hp hx hb (rQ (λa=>by rw [hf a];rfl) l) (by have:=zCv (w:=1) (f:=f) (λa=>by rw [hf a];rfl) h (o:=0) (q:=f u) (by rw [hf u];rfl);simpa using this)) k
theorem RK.ldoM (f:α->PV) {l:List α} (hn:l.length=n) (h:l[j]? = some u) (hf:∀ a,(f a).cells.length=w) (hff:∀ a,f a=.agg (f a).cells) (ht:T.te t=some i) (hp:i.isAgg=true) (hw:w=i.w) (hx:s.get T.te 0 x=some (.optr k0 n (j*w))) (hb:s.blk k0=some (qO (.sl w (l.map f))))
  (k:VK P ops r s K d (opS x (.optr k0 n (j*w))) [(k0,qO (.sl w (l.map f)))] (.p (f u))):RK P ops (⟨some d,.load t x,ty,pos,af,none⟩:: r) s K:=by
 subst hn;have hlt:j<l.length:=(List.getElem?_eq_some_iff.1 h).1;have hjw:(j+1)*w<=l.length*w:=Q2 _ hlt;rw [Qb] at hjw;have hlen:=rQ hf l;have:=zQj (P:=P) (o:=⟨some d,.load t x,ty,pos,af,none⟩) T.ok rfl ht hp hx hb (rQ hf l) (by omega);rw [<- hw,zRf hf h] at this;have h2:=VA.agp this;rw [<- hff u] at h2;exact RK.va rfl rfl h2 k
theorem zOj {l:By} (u:UInt8) (h:j<l.length):qM (PV.ecs (.bytes l)) j ([PV.int .u8 u.toNat].map AV.p)=PV.ecs (.bytes (l.set j u)):=by
 simp only [PV.ecs,Q9,List.map_nil];rw [zAj (by simpa using h),Wl]
theorem RK.stoB {l l':By} {u:UInt8} (hn:l.length=n) (h:vJ l j u=some l') (ht:T.te t=some i) (hw:i.w=1) (ha:s.get T.te 0 ax=some (.optr k0 n j)) (hx:s.get T.te t x=some (.p (.int .u8 u.toNat))) (hb:s.blk k0=some (qO (.bytes l)))
  (k:RK P ops r (s.setb k0 (qO (.bytes l'))) λs' ms=>K s' (⟨opS ax (.optr k0 n j)++opS x (.p (.int .u8 u.toNat)),[(k0,qO (.bytes l))],[],none,[(k0,qO (.bytes l'))]⟩:: ms)):RK P ops (⟨none,.store t ax x,ty,pos,af,none⟩:: r) s K:=by
 subst hn;obtain ⟨h1,h2⟩:=fW h;have hlen:=l5 l;have:=zH2 (P:=P) (o:=⟨none,.store t ax x,ty,pos,af,none⟩) T.ok rfl rfl ht ha hx rfl hb (l5 l) (by simp [PV.cells,hw]) (by omega) rfl;have e:qM (PV.ecs (.bytes l)) j ((PV.int .u8 (u.toNat:Int)).cells.map AV.p)=PV.ecs (.bytes l'):=by rw [h2];exact zOj u h1
 rw [e] at this;exact RK.so rfl this k
theorem RK.stoM (f:α->PV) {l:List α} (hn:l.length=n) (h:vJ l j u=some l') (hf:∀ a,(f a).cells.length=w) (hone:∀ a,(f a).cells.all Wi=true) (ht:T.te t=some i) (hw:w=i.w) (ha:s.get T.te 0 ax=some (.optr k0 n (j*w))) (hx:s.get T.te t x=some v) (hp:s.rd v=some (f u,bs)) (hb:s.blk k0=some (qO (.sl w (l.map f))))
  (k:RK P ops r (s.setb k0 (qO (.sl w (l'.map f)))) λs' ms=>K s' (⟨opS ax (.optr k0 n (j*w))++opS x v,(k0,qO (.sl w (l.map f))) :: bs,[],none,[(k0,qO (.sl w (l'.map f)))]⟩:: ms)):RK P ops (⟨none,.store t ax x,ty,pos,af,none⟩:: r) s K:=by
 subst hn;obtain ⟨h1,h2⟩:=fW h;have hjw:(j+1)*w<=l.length*w:=Q2 _ h1;rw [Qb] at hjw;have hlen:=rQ hf l;have:=zH2 (P:=P) (o:=⟨none,.store t ax x,ty,pos,af,none⟩) T.ok rfl rfl ht ha hx hp hb (rQ hf l) (by rw [hf,hw]) (by omega) (hone u);rw [show (PV.sl w (l.map f)).width=w from rfl,zTk hf u h1,<- h2] at this;exact RK.so rfl this k
theorem zTx (l:By):(PV.ecs (.bytes l)).all AV.one=true:=by simp [PV.ecs,AV.one,Wi]
theorem zMv {α:Type} {f:α->PV} {w:Nat} (hone:∀ a,(f a).cells.all Wi=true):∀ (l:List α),(PV.ecs (.sl w (l.map f))).all AV.one=true
 | []=>rfl
 | a :: r=>by
  have:=zMv hone r (w:=w);simp only [PV.ecs,Q9,xJ,List.map_append,List.all_append,Qd] at this ⊢;refine ⟨?_,this⟩;have h2:=hone a;simp only [Qr,W1] at h2 ⊢;rintro q ⟨p,hp,rfl⟩;exact h2 p hp
theorem RK.aoB {l m u:By} (hn:l.length=n) (h:yN b l m=some u) (ht:(T.te t).map (·.ty)=some (.slice e)) (he:T.te e=some ei) (ht2:(T.te t2).map (·.ty)=some (.slice e2)) (hx:s.get T.te t x=some (.own k0 n)) (hk:s.blk k0=some (qO (.bytes l))) (hcw:1=ei.w) (hz:ei.z.length=ei.w) (hy:s.get T.te t2 y=some vy) (hp:s.rd vy=some (.bytes m,bs)) (hb:ei.b=b) (hb1:Qj 0 b=true)
  (k:BK P ops r s K d (opS x (.own k0 n)++opS y vy) ((k0,qO (.bytes l)) :: bs) [] k0 (qO (.bytes u)) (.own k0 u.length)):RK P ops (⟨some d,.call ⟨.builtin .append,#[x,y],#[t,t2]⟩,ty,pos,af,none⟩:: r) s K:=by
 subst hn;obtain ⟨hu,hle⟩:=j8 h;subst hb;have hb2:=Q3 hb1;have:=zK8 (P:=P) (o:=⟨some d,.call ⟨.builtin .append,#[x,y],#[t,t2]⟩,ty,pos,af,none⟩) T.ok rfl rfl ht he (yV T.ok ht2) (.inr ⟨_,rfl⟩) hx hk (l5 l) hcw hz hy (vP vy _ bs hp) (zJ8 hy hp rfl hcw (by omega)) (by rw [<- hcw];exact (l5 m).symm) (zTx m) (by simpa [Ql,Qi] using hle) (by omega);have e1:PV.ecs (.bytes l)++PV.ecs (.bytes m)=PV.ecs (.bytes u):=by rw [hu];simp [PV.ecs]
 have e2:l.length+(Ql (.bytes m)).len=u.length:=by rw [hu];simp [Ql,Qi]
 rw [e1,e2] at this;exact RK.sb rfl this k
theorem RK.aoM (f:α->PV) {l m u:List α} (hn:l.length=n) (h:yN b l m=some u) (hf:∀ a,(f a).cells.length=w) (hone:∀ a,(f a).cells.all Wi=true) (ht:(T.te t).map (·.ty)=some (.slice e)) (he:T.te e=some ei) (ht2:(T.te t2).map (·.ty)=some (.slice e2)) (hx:s.get T.te t x=some (.own k0 n)) (hk:s.blk k0=some (qO (.sl w (l.map f)))) (hcw:w=ei.w) (hw0:Qj 0 w=true) (hz:ei.z.length=ei.w) (hy:s.get T.te t2 y=some vy) (hp:s.rd vy=some (.sl w (m.map f),bs)) (hb:ei.b=b) (hb1:Qj 0 b=true)
  (k:BK P ops r s K d (opS x (.own k0 n)++opS y vy) ((k0,qO (.sl w (l.map f))) :: bs) [] k0 (qO (.sl w (u.map f))) (.own k0 u.length)):RK P ops (⟨some d,.call ⟨.builtin .append,#[x,y],#[t,t2]⟩,ty,pos,af,none⟩:: r) s K:=by
 subst hn;obtain ⟨hu,hle⟩:=j8 h;subst hb;have hb2:=Q3 hb1;have hw2:=Q3 hw0;have:=zK8 (P:=P) (o:=⟨some d,.call ⟨.builtin .append,#[x,y],#[t,t2]⟩,ty,pos,af,none⟩) T.ok rfl rfl ht he (yV T.ok ht2) (.inr ⟨_,rfl⟩) hx hk (rQ hf l) hcw hz hy (vP vy _ bs hp) (zJ8 hy hp rfl hcw (by omega)) (by rw [<- hcw];simp only [Ql,Qi,Wj];exact (rQ hf m).symm) (zMv hone m) (by simpa [Ql,Qi] using hle) (by omega);have e1:PV.ecs (.sl w (l.map f))++PV.ecs (.sl w (m.map f))=PV.ecs (.sl w (u.map f)):=by rw [hu];simp [PV.ecs,zFq]
 have e2:l.length+(Ql (.sl w (m.map f))).len=u.length:=by rw [hu];simp [Ql,Qi]
 rw [e1,e2] at this;exact RK.sb rfl this k
theorem RK.aoR (ht:(T.te t).map (·.ty)=some (.slice e)) (he:T.te e=some ei) (ht2:(T.te t2).map (·.ty)=some (.slice e2)) (hx:s.get T.te t x=some (.own k0 n)) (hk:s.blk k0=some (.own w l)) (hn:Q6 (n*w) l.length=true) (hcw:w=ei.w) (hz:ei.z.length=ei.w) (hy:s.get T.te t2 y=some (.ref k2 0 m)) (hk2:s.blk k2=some (.var l2)) (hm:Q6 l2.length (m*w)=true) (hone:l2.all AV.one=true) (hb:ei.b=b) (hb1:Qj 0 b=true) (hle:Qy ((n+m)*b) 140737488355328=true)
  (k:BK P ops r s K d (opS x (.own k0 n)++opS y (.ref k2 0 m)) [(k0,.own w l),(k2,.var l2)] [] k0 (.own w (l++l2)) (.own k0 (n+m))):RK P ops (⟨some d,.call ⟨.builtin .append,#[x,y],#[t,t2]⟩,ty,pos,af,none⟩:: r) s K:=by
 subst hb;have hb2:=Q3 hb1;have hm2:=Q1 hm;exact RK.sb rfl (zK8 (P:=P) (o:=⟨some d,.call ⟨.builtin .append,#[x,y],#[t,t2]⟩,ty,pos,af,none⟩) T.ok rfl rfl ht he (yV T.ok ht2) (.inr ⟨_,rfl⟩) hx hk (Q1 hn) hcw hz hy (by intro e he;simp at he;subst he;exact hk2) (by rw [<- hcw];exact zNk hy hm2) (by rw [<- hcw];exact hm2) hone (zT hle) (by omega)) k
theorem RK.anR (ht:(T.te t).map (·.ty)=some (.slice e)) (he:T.te e=some ei) (ht2:(T.te t2).map (·.ty)=some (.slice e2)) (hx:s.get T.te t x=some (.nl c)) (hcw:w=ei.w) (hw0:Qj 0 w=true) (hz:ei.z.length=ei.w) (hy:s.get T.te t2 y=some (.ref k2 0 m)) (hk2:s.blk k2=some (.var l2)) (hm:Q6 l2.length (m*w)=true) (hb:ei.b=b) (hb1:Qj 0 b=true) (hle:Qy (m*b) 140737488355328=true) (hk:s.blk d=none)
  (k:BK P ops r s K d (opS x (.nl c)++opS y (.ref k2 0 m)) [(k2,.var l2)] [d] d (.own w l2) (.own d m)):RK P ops (⟨some d,.call ⟨.builtin .append,#[x,y],#[t,t2]⟩,ty,pos,af,none⟩:: r) s K:=by
 subst hb;have hb2:=Q3 hb1;have hw2:=Q3 hw0;have hm2:=Q1 hm;have:=zT9 (P:=P) (bs:=[(k2,.var l2)]) (o:=⟨some d,.call ⟨.builtin .append,#[x,y],#[t,t2]⟩,ty,pos,af,none⟩) T.ok rfl rfl ht he (yV T.ok ht2) (.inr ⟨_,rfl⟩) hx (by omega) hz hy (by intro e he;simp at he;subst he;exact hk2) (by rw [<- hcw];exact zNk hy hm2) (by rw [<- hcw];exact hm2) (zT hle) (by omega) hk;rw [<- hcw] at this;exact RK.sb rfl this k
theorem RK.clO {f:FuncId} {xs:Array Operand} {ts:Array TypeId} {xl:List Operand} {tl:List TypeId} {ps:List PV} {bb:LB} {na:Nat} {av:AV} {blks blks':LB} (h:Ok P f na (mkS (argE 0 ps) []) (mkS [(0,av)] blks)) (hB:bR (sh d) blks=blks') (hxl0:(xs.toList,ts.toList)=(xl,tl)) (ha:mO s T.te xl tl ps rs bb) (hn0:(Q6 na ps.length,(kR (sh d) blks).all (λk=>(s.blk k).isNone))=(true,true))
  (k:RK P ops r (Mic.upd ⟨rs,bb,kR (sh d) blks,some (d,some (av.ren (sh d))),blks'⟩ s) λs' ms=>K s' (⟨rs,bb,kR (sh d) blks,some (d,some (av.ren (sh d))),blks'⟩:: ms)):RK P ops (⟨some d,.call ⟨.value (.func f),xs,ts⟩,ty,pos,af,none⟩:: r) s K:=have ⟨hxl,htl⟩:=pq hxl0;have ⟨hn,hf⟩:=pq hn0;by
 subst hB;subst hxl htl;exact RK.cl h rfl ha (by rw [hn,hf]) k
theorem RK.lo {pa:Array (Nat×Operand)} (hpl:pa.toList=pl) (ht:(T.te t).map (·.ty)=some (.slice e)) (he:T.te e=some ei) (hw:ei.w=w) (hw0:Qj 0 w=true) (hz:ei.z.length=ei.w) (hn:Qy (n*ei.w) 16777216=true) (hp:nP s T.te pl vs rs) (hf:nU (λj=>some (j*ei.w,ei.w)) (u7 ei.z n) vs=some l) (hln:Q6 (n*ei.w) l.length=true) (hk:s.blk d=none)
  (k:BK P ops r s K d rs [] [d] d (.own w l) (.own d n)):RK P ops (⟨some d,.buildSlice t n pa,ty,pos,af,none⟩:: r) s K:=by
 subst hw;have hw2:=Q3 hw0;exact RK.sb rfl (zWe T.ok rfl rfl hpl ht he hz (by omega) (zT hn) hp hf (Q1 hln) hk) k
end
theorem fxB (k:Nat) (u:By) (hn:u.length=n) (hb:lk blk k=some (qO (.bytes u))) (h1:eU k n env=true) (h2:l6 k n blk=true) (he:fyE k u.length env=env') (hbb:zA2 k u.length (.bytes u) blk=blk'):Imp cx.pk (mkS env blk) (mkS env' blk'):=
 Imp.freezeO k hb (by rw [<- hn];exact l5 u) (zVi u) (zC9 u) hn hn h1 h2 he hbb
theorem fxM (k:Nat) (f:α->PV) (w:Nat) (u:List α) (hf:∀ a,(f a).cells.length=w) (hn:u.length=n) (hb:lk blk k=some (qO (.sl w (u.map f)))) (h1:eU k n env=true) (h2:l6 k n blk=true) (he:fyE k u.length env=env') (hbb:zA2 k u.length (.sl w (u.map f)) blk=blk'):Imp cx.pk (mkS env blk) (mkS env' blk'):=
 Imp.freezeO k hb (by rw [<- hn];exact rQ hf u) (zVu (u.map f)) (zYe u hf) (by simp [Qi,hn]) hn h1 h2 he hbb
theorem fxK (k:Nat) (f:α->PV) (u:List α) (hf:∀ a,(f a).cells=[f a]) (hb:lk blk k=some (.own 1 l)) (hn:u.length=n) (hl:l.length=n) (hrd:(mkS env blk).rdL l=some (u.map f,bs)) (h1:eU k n env=true) (h2:l6 k n blk=true) (he:fyE k u.length env=env') (hbb:zA2 k u.length (.sl 1 (u.map f)) blk=blk'):Imp cx.pk (mkS env blk) (mkS env' blk'):=
 Imp.freezeO k hb (by omega) hrd (zIk hf u) (by simp [Qi,hn]) hn h1 h2 he hbb
theorem cP (a b:Nat):Q6 a b=decide (a=b):=by
 cases h:Q6 a b with
 | true=>have:=Q1 h;simp [this]
 | false=>symm;simp only [decide_eq_false_iff_not];rintro rfl;simp at h
theorem Imp.ofEq {s':AS} (h:s=s'):Imp pk s s':=by subst h;exact λ_ _ _ _ h=>h
theorem kZ {l:List α} (h:vJ l j u=some l') (hn:l.length=n):l'.length=n:=by
 obtain ⟨_,h2⟩:=fW h;rw [h2,Wh,hn]
theorem oE:qG B c.ecs=true:=by
 have:∀ (l:List PV),qG B (l.map AV.p)=true:=by
  intro l;induction l with
  | nil=>rfl
  | cons x r ih=>simp only [Q9,qG,AV.oks,W5];exact ih
 cases c<;>first | rfl | (exact zCl _ _) | (exact this _)
theorem eR:pB k n c.ecs=true:=by
 cases c<;>first | rfl | (exact iG _ _) | (exact gF _)
theorem zXa:fzL k m c.ecs=c.ecs:=by
 cases c<;>first | rfl | (exact zPw _ _) | (exact zP3 _)
theorem wI {ρ:Nat->Nat} :eZ ρ c.ecs=c.ecs:=by
 have h:∀ {α:Type} (f:α->PV) (l:List α),eZ ρ (l.map λx=>AV.p (f x))=l.map λx=>AV.p (f x):=by
  intro α f l;induction l with
  | nil=>rfl
  | cons x r ih=>simp only [Q9,eZ,AV.ren,ih]
 cases c<;>first | rfl | (exact h _ _) | (exact h (λx=>x) _)
def zEb (P:Program) (cx:Ctx) (body:Code) (Q:Exit->AS->Prop):Nat->AS->Prop
 | 0,_=>False
 | n+1,s=>awp P cx body (zPp (zEb P cx body Q n) Q) s
theorem ar (h:awp P cx body (zPp (zEb P cx body Q n) Q) s):zEb P cx body Q (n+1) s:=h
theorem hC (n:Nat) (h:zEb P cx body Q n s):awp P cx (.loop body) Q s:=by
 intro a w hs;refine wp_loop_rounds n ?_;induction n generalizing s a w with
 | zero=>exact h.elim
 | succ n ih=>
  rw [rounds_succ];refine wp_mono (h a w hs) ?_;rintro e a' w' ⟨s',h1,h2⟩;cases e with
  | normal=>exact ih h2 a' w' h1
  | _=>exact ⟨s',h1,h2⟩
end Go.Sw
namespace Go.Proofs.TT
open Go Go.Sw
structure yC where
 Machine:Int
 Attest:By
 Signature:By
 Log:By
 deriving DecidableEq,Inhabited
def yC.cs (x:yC):List PV:=[.int .i64 x.Machine,.bytes x.Attest,.bytes x.Signature,.bytes x.Log]
def yC.pv (x:yC):PV:=.agg x.cs
structure zC where
 Register:Int
 Kind:Int
 Digests:List By
 Data:By
 deriving DecidableEq,Inhabited
def zC.cs (x:zC):List PV:=[.int .i64 x.Register,.int .i64 x.Kind,.sl 1 (Qv PV.bytes x.Digests),.bytes x.Data]
def zC.pv (x:zC):PV:=.agg x.cs
structure zV where
 Active:Int
 Resets:Int
 Events:List zC
 deriving DecidableEq,Inhabited
def zV.cs (x:zV):List PV:=[.int .i64 x.Active,.int .i64 x.Resets,.sl 4 (Qv zC.pv x.Events)]
def zV.pv (x:zV):PV:=.agg x.cs
structure uM where
 Auth:By
 Seed:By
 Data:By
 deriving DecidableEq,Inhabited
structure zN where
 Kind:Int
 Attr:Int
 Height:Int
 Policy:By
 Unique:By
 deriving DecidableEq,Inhabited
def zN.cs (x:zN):List PV:=[.int .i64 x.Kind,.int .i64 x.Attr,.int .i64 x.Height,.bytes x.Policy,.bytes x.Unique]
def zN.pv (x:zN):PV:=.agg x.cs
structure yS where
 Machine:Int
 Active:Int
 Quoting:List zN
 Parent:uM
 Parents:zN
 deriving DecidableEq,Inhabited
def yS.cs (x:yS):List PV:=[.int .i64 x.Machine,.int .i64 x.Active,.sl 5 (Qv zN.pv x.Quoting),.bytes x.Parent.Auth,.bytes x.Parent.Seed,.bytes x.Parent.Data,.int .i64 x.Parents.Kind,.int .i64 x.Parents.Attr,.int .i64 x.Parents.Height,.bytes x.Parents.Policy,.bytes x.Parents.Unique]
def yS.pv (x:yS):PV:=.agg x.cs
structure zM where
 Key:By
 Nonce:By
 Resets:Int
 Restarts:Int
 Clock:Int
 Safe:Bool
 Updates:Int
 Selection:A2 Int
 Digest:By
 deriving DecidableEq,Inhabited
def zM.cs (x:zM):List PV:=[.bytes x.Key,.bytes x.Nonce,.int .i64 x.Resets,.int .i64 x.Restarts,.int .i64 x.Clock,.bool x.Safe,.int .i64 x.Updates,.int .i64 x.Selection.a0,.int .i64 x.Selection.a1,.bytes x.Digest]
def zM.pv (x:zM):PV:=.agg x.cs
structure zQ where
 Manifest:Int
 Item:Int
 deriving DecidableEq,Inhabited
def zQ.cs (x:zQ):List PV:=[.int .i64 x.Manifest,.int .i64 x.Item]
def zQ.pv (x:zQ):PV:=.agg x.cs
structure yA where
 Err:Int
 Event:Int
 Reasons:List zQ
 Clock:Int
 deriving DecidableEq,Inhabited
def yA.cs (x:yA):List PV:=[.int .i64 x.Err,.int .i64 x.Event,.sl 2 (Qv zQ.pv x.Reasons),.int .i64 x.Clock]
def yA.pv (x:yA):PV:=.agg x.cs
structure zS where
 Role:Int
 Name:By
 Version:Int
 Digest:By
 deriving DecidableEq,Inhabited
def zS.cs (x:zS):List PV:=[.int .i64 x.Role,.str x.Name,.int .i64 x.Version,.bytes x.Digest]
def zS.pv (x:zS):PV:=.agg x.cs
structure yL where
 Kind:Int
 Text:By
 Low:Int
 High:Int
 deriving DecidableEq,Inhabited
def yL.cs (x:yL):List PV:=[.int .i64 x.Kind,.str x.Text,.int .i64 x.Low,.int .i64 x.High]
def yL.pv (x:yL):PV:=.agg x.cs
structure zG where
 Vendor:By
 Version:Int
 Floor:Int
 From:Int
 Until:Int
 Entries:List zS
 Rules:List yL
 deriving DecidableEq,Inhabited
def zG.cs (x:zG):List PV:=[.str x.Vendor,.int .i64 x.Version,.int .i64 x.Floor,.int .i64 x.From,.int .i64 x.Until,.sl 4 (Qv zS.pv x.Entries),.sl 4 (Qv yL.pv x.Rules)]
def zG.pv (x:zG):PV:=.agg x.cs
structure zF where
 Role:Int
 Name:By
 Version:Int
 Payload:By
 deriving DecidableEq,Inhabited
def zF.cs (x:zF):List PV:=[.int .i64 x.Role,.str x.Name,.int .i64 x.Version,.bytes x.Payload]
def zF.pv (x:zF):PV:=.agg x.cs
structure zD where
 Banks:List (List By)
 Updates:Int
 deriving DecidableEq,Inhabited
def zD.cs (x:zD):List PV:=[.sl 1 (Qv (eSl 1 PV.bytes) x.Banks),.int .i64 x.Updates]
def zD.pv (x:zD):PV:=.agg x.cs
structure zB where
 B:By
 At:Int
 deriving DecidableEq,Inhabited
def zB.cs (x:zB):List PV:=[.bytes x.B,.int .i64 x.At]
structure vZ where
 phase_:Int
 next_:Int
 seen_:A6 Bool
 deriving DecidableEq,Inhabited
def vZ.cs (x:vZ):List PV:=[.int .i64 x.phase_,.int .i64 x.next_,.bool x.seen_.a0,.bool x.seen_.a1,.bool x.seen_.a2,.bool x.seen_.a3,.bool x.seen_.a4,.bool x.seen_.a5]
structure zE where
 B:By
 At:Int
 Error:Int
 deriving DecidableEq,Inhabited
def zE.cs (x:zE):List PV:=[.bytes x.B,.int .i64 x.At,.int .i64 x.Error]
structure zO where
 b_:By
 at_:Int
 e_:Int
 deriving DecidableEq,Inhabited
def zO.cs (x:zO):List PV:=[.bytes x.b_,.int .i64 x.at_,.int .i64 x.e_]
def RF:Nat:=64
def nameByte (c:UInt8):Bool:=(decide (97<=c.toNat)&&decide (c.toNat<=122))||(decide (48<=c.toNat)&&decide (c.toNat<=57))||decide (c.toNat=45)
def zFl (s:By):Option Bool:=some (decide (1<=s.length)&&decide (s.length<=12)&&s.all nameByte)
def eS (b:By) (n:Int):Option By:=
 match b with
 | [x]=>bif (n==20||n==32) then some (List.replicate n.toNat x) else none
 | _=>none
def decF:Nat->Nat->By
 | 0,_=>[]
 | f+1,u=>bif Qj u 10 then [UInt8.ofNat (48+u)] else decF f (u / 10)++[UInt8.ofNat (48+u % 10)]
def strconv_Itoa (n:Int):Option By:=bif decide (0<=n)&&decide (n<=9223372036854775807) then some (decF 20 n.toNat) else none
def decV:Nat->By->Option Nat
 | acc,[]=>some acc
 | acc,b :: r=>bif Qy 48 b.toNat&&Qy b.toNat 57 then decV (acc*10+(b.toNat - 48)) r else none
def strconv_Atoi (s:By):Option (Int×Bool):=bif Qy 1 s.length&&Qy s.length 18 then (decV 0 s).bind λm=>some ((m:Int),false) else none
end Go.Proofs.TT
