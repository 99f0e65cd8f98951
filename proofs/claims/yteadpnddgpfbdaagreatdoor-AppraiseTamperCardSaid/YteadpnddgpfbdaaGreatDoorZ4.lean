/- AppraiseTamper (law 37: evidence that was accepted is refused if its log is changed or cut, and for another challenge, but for a collision of the frames of the nonce) is proved for every input, under no condition of ours; this text is a part of that proof. -/
import Derived.Test.YteadpnddgpfbdaaGreatDoorZ3
import Derived.Lib.Bytealg
set_option linter.all false
namespace Go.Sw
open Go
section
variable {P:Program} {te:TE} {s:AS} {v:AV} {x:Operand}
theorem zJ8 {o:Oper} {p:PV} {bs:List (Nat×ABlk)} {t ta:TypeId} {i:TI} {ax:Operand} {k off:Nat} {l:List AV} (hok:zX P te) (hd:o.dst=none) (ho:o.op=.store t ax x) (ht:te t=some i) (ha:s.get te ta ax=some (.ptr k off)) (hx:s.get te t x=some v) (hp0:s.rd v=some (p,bs)) (hb:s.blk k=some (.var l))
  (hw:(AV.p p).cells.length=i.w) (hl:off+i.w<=l.length) (hone:(AV.p p).cells.all AV.one=true):SA P o s ⟨opS ax (.ptr k off)++opS x v,(k,.var l) :: bs,[],none,[(k,.var (rB l off (AV.p p).cells))]⟩:=by
 refine ⟨?_,zS (zB ha) (zB hx),λe he=>(List.mem_cons.1 he).elim (λh=>by subst h;exact hb) (wO v p bs hp0 e),by intro e he;simp at he⟩
 intro cx s' a w K Q hm hs hws hk
 obtain ⟨M,κ,tip,h0,hp,hi⟩:=hs
 have hbk:=hm.2.1 (k,.var l) (by simp)
 have hx':RepA M κ tip s'.blk (.p p) (a.eval x):=.p _ _ (p9 hi hx hp0 (zH hm.1) (λe he=>hm.2.1 e (by simp [he])))
 have ha':=zI hi (zP ha s' (zL hm.1))
 obtain ⟨hc1,hc2⟩:=kH hx'
 obtain ⟨b,arr,e,fz,h1,h2,h3,h4,h5,h6,h7⟩:=hi.vars k l hbk
 generalize hev:a.eval ax=z at ha'
 cases ha' with
 | ptr k o b' l' hk' hl'=>
  rw [h1] at hk'
  cases hk'
  have hsz:(a.eval x).cells.toList.length=(AV.p p).cells.length:=by simp [hc1]
  have hrun:=run_storeCells_cells (P:=P) b off (a.eval x).cells.toList 0 w
   (by
     intro j hj;rw [hsz] at hj;have:off+j<arr.size:=by omega
     simp [World.cell?,h2,this])
   (by intro j hj;rw [hsz] at hj;simp only [Nat.add_zero];exact qC h2 h3 (by omega))
   (by
    intro u hu
    obtain ⟨j,hj,hju⟩:=List.getElem_of_mem hu
    have hjl:j<(AV.p p).cells.length:=by omega
    have hq:=hc2 j (AV.p p).cells[j] (by simp)
    have hjs:j<(a.eval x).cells.size:=by omega
    have:(a.eval x).cells.getD j undef=u:=by simp [hjs];simpa using hju
    rw [this] at hq
    exact c8 hq ((List.all_eq_true.1 hone) _ (List.getElem_mem _)))
  unfold Oper.wp
  have:(execOp a.eval o).run P w=.ok .skip (w.setCells b off (a.eval x).cells.toList):=by
   simp only [Nat.add_zero] at hrun
   have hcs:¬ ((a.eval x).cells.size≠i.w):=by rw [hc1,hw];simp
   simp [execOp,ho,hev,Instr.storeAt,Instr.sureAddr,storeVar,vL hok ht,hcs,hrun]
  rw [this]
  show K (a.put o.dst undef) _
  rw [hd]
  refine hk _ _ ?_
  rw [fP]
  refine ⟨M,κ,tip,h0,hp,hi.setVar hbk h1 (by omega) hsz ?_⟩
  intro j q hq
  have:=hc2 j q hq
  rw [Array.getD_eq_getD_getElem?] at this
  simpa using this
end
section
variable {P:Program} [T:TEnv P] {ops:Array Oper} {s:AS} {r:List Oper} {K:AS->List Mic->Prop} {d:Nat} {ty:TypeId} {pos:String} {af:Array Edge} {v:AV} {x y:Operand}
theorem RK.stP {α:Type} {f:α->PV} {t:TypeId} {i:TI} {ax:Operand} {k0 off j:Nat} {l l':List α} {u:α} {bs:List (Nat×ABlk)} (h:uN l j u=some l') (ht0:(T.te t,s.get T.te 0 ax)=(some i,some (.ptr k0 off))) (hj:off=j) (hx:s.get T.te t x=some v) (hp:s.rd v=some (f u,bs)) (hb0:(s.blk k0,i.w,(AV.p (f u)).cells,(AV.p (f u)).one)=(some (.var (l.map λx=>AV.p (f x))),1,[AV.p (f u)],true)) (k:RK P ops r (s.setb k0 (.var (l'.map λx=>AV.p (f x)))) λs' ms=>K s' (⟨opS ax (.ptr k0 off)++opS x v,(k0,.var (l.map λx=>AV.p (f x))) :: bs,[],none,[(k0,.var (l'.map λx=>AV.p (f x)))]⟩:: ms)):RK P ops (⟨none,.store t ax x,ty,pos,af,none⟩:: r) s K:=have ⟨ht,ha⟩:=pq ht0;have ⟨hb,hb0⟩:=pq hb0;have ⟨hw,hb0⟩:=pq hb0;have ⟨hf,hone⟩:=pq hb0;by
 refine RK.so rfl ?_ k
 subst hj
 obtain ⟨h1,h2⟩:=kP h
 have:=zJ8 (P:=P) (o:=⟨none,.store t ax x,ty,pos,af,none⟩) T.ok rfl rfl ht ha hx hp hb (by simp [hf,hw]) (by rw [hw];simpa using Nat.succ_le_of_lt h1) (by simp [hf,hone])
 rw [hf,fV (by simpa using h1)] at this
 have e:(l.map λx=>AV.p (f x)).set off (AV.p (f u))=l'.map λx=>AV.p (f x):=by rw [h2,List.map_set]
 rw [e] at this
 exact this
theorem RK.iaE {n k0 off:Nat} {t e:TypeId} {i:Int} {ei:TI} (j:Nat) (h:(i==(j:Int))=true) (ht0:((T.te t).map (·.ty),T.te e,s.get T.te t x,s.get T.te 0 y,Nat.blt j n)=(some (.arr n e),some ei,some (.ptr k0 off),some (.p (.int .i64 i)),true))
  (k:VK P ops r s K d (opS x (.ptr k0 off)++opS y (.p (.int .i64 i))) [] (.ptr k0 (off+j*ei.w))):RK P ops (⟨some d,.indexAddr t x y,ty,pos,af,none⟩:: r) s K:=have ⟨ht,ht0⟩:=pq ht0;have ⟨he,ht0⟩:=pq ht0;have ⟨hx,ht0⟩:=pq ht0;have ⟨hy,h1⟩:=pq ht0;by
 have e:i=(j:Int):=by simpa using h
 subst e
 exact RK.va rfl rfl (Go.Sw.iaK T.ok rfl ht he hx hy h1) k
theorem RK.stB {α:Type} {f:α->PV} {l0:List α} {t:TypeId} {i:TI} {ax:Operand} {k0:Nat} {l:List AV} (hlen:l0.length=i.w) (ht0:(T.te t,s.get T.te 0 ax,s.get T.te t x,s.blk k0,i.w)=(some i,some (.ptr k0 0),some (.p (.agg (l0.map f))),some (.var l),l.length)) (hone:∀ a,(f a).one=true)
  (k:RK P ops r (s.setb k0 (.var (l0.map λx=>AV.p (f x)))) λs' ms=>K s' (⟨opS ax (.ptr k0 0)++opS x (.p (.agg (l0.map f))),[(k0,.var l)],[],none,[(k0,.var (l0.map λx=>AV.p (f x)))]⟩:: ms)):RK P ops (⟨none,.store t ax x,ty,pos,af,none⟩:: r) s K:=have ⟨ht,ht0⟩:=pq ht0;have ⟨ha,ht0⟩:=pq ht0;have ⟨hx,ht0⟩:=pq ht0;have ⟨hb,hl⟩:=pq ht0;by
 refine RK.so rfl ?_ k
 have hc:(AV.p (.agg (l0.map f))).cells=l0.map λx=>AV.p (f x):=by simp [AV.cells]
 have:=Go.Sw.sa_store (P:=P) (o:=⟨none,.store t ax x,ty,pos,af,none⟩) T.ok rfl rfl ht ha hx hb (by simp [hc,hlen]) (by omega) (by simp [hc,AV.one,hone])
 rw [hc] at this
 have e:rB l 0 (l0.map λx=>AV.p (f x))=l0.map λx=>AV.p (f x):=by rw [k8 (by simp;omega)];simp [hlen,hl]
 rw [e] at this
 exact this
end
end Go.Sw
namespace Go.Sw
open Go
theorem zD5 {P:Program} {w:World} {b:Nat}:∀ (l:List UInt8) (o:Nat) (r:ByteArray),(∀ (i:Nat) (x:UInt8),l[i]? = some x->w.cell? ⟨b,o+i,none⟩=some (.int .u8 x.toNat)) ->
  (Extern.Bytes.loadBytes ⟨b,o,none⟩ l.length r).run P w=.ok ⟨r.data++l.toArray⟩ w
 | [],o,r,_=>by simp [Extern.Bytes.loadBytes]
 | u :: l,o,r,h=>by
  have h0:=h 0 u rfl
  simp only [Nat.add_zero] at h0
  have h1:=zD5 (P:=P) (w:=w) (b:=b) l (o+1) (r.push u) (λi x hx=>by have:=h (i+1) x (by simpa using hx);rw [show o+1+i=o+(i+1) by omega];exact this)
  simp only [List.length_cons,Extern.Bytes.loadBytes]
  rw [Sem.run_bind,run_load,h0]
  simp only [Result.andThen]
  have e:(u.toNat:Int).toNat.toUInt8=u:=by simp
  rw [e]
  have e2:(⟨b,o,none⟩:Addr).add 1=⟨b,o+1,none⟩:=by simp [Addr.add]
  rw [e2,h1]
  congr 1
  apply ByteArray.ext
  simp [ByteArray.push]
theorem zFw {P:Program} {M:Mem} {l:List UInt8} {x:Value} (h:Rep M (.bytes l) x) {w:World} (hm:∀ b o x,M b o=some x->w.cell? ⟨b,o,none⟩=some x) :
  (Extern.Bytes.bytesOf x).run P w=.ok ⟨l.toArray⟩ w:=by
 cases h with
 | bytes0=>rfl
 | bytes l b o n c h1 h2 h3=>
  subst h1
  have:=zD5 (P:=P) (w:=w) (b:=b) l o .empty (λi x hx=>hm _ _ _ (h3 i x hx))
  simp only [Extern.Bytes.bytesOf]
  rw [this]
  have he:ByteArray.empty.data=#[]:=rfl
  simp [he]
def PV.byl:PV->Option (List UInt8)
 | .str l=>some l
 | .bytes l=>some l
 | _=>none
theorem jZ {P:Program} {M:Mem} {p:PV} {l:List UInt8} {x:Value} (hp:p.byl=some l) (h:Rep M p x) {w:World} (hm:∀ b o x,M b o=some x->w.cell? ⟨b,o,none⟩=some x) :
  (Extern.Bytes.bytesOf x).run P w=.ok ⟨l.toArray⟩ w:=by
 unfold PV.byl at hp
 split at hp
 ·cases hp;rw [oR h];rfl
 ·cases hp;exact zFw h hm
 ·cases hp
theorem zKs {P:Program} {x y:Value} {a b:ByteArray} {w:World} (hx:(Extern.Bytes.bytesOf x).run P w=.ok a w) (hy:(Extern.Bytes.bytesOf y).run P w=.ok b w) :
  (Extern.BytealgCompare.compare #[x,y]).run P w=.ok (.int .i64 (Lib.compareBytes a.data.toList b.data.toList)) w:=by
 change Sem.run P (do pure (goInt (Extern.BytealgCompare.cmp (<- Extern.Bytes.bytesOf x) (<- Extern.Bytes.bytesOf y)))) w=_
 simp only [Sem.run_bind,hx,hy,Sem.run_pure,Result.andThen]
 rw [Lib.cmp_eq]
 rfl
theorem zLp {P:Program} {x:Value} {a:ByteArray} {c:Int} {w:World} (hx:(Extern.Bytes.bytesOf x).run P w=.ok a w) :
  (Extern.BytealgIndexByte.indexByte #[x,.int .u8 c]).run P w=.ok (.int .i64 (Lib.indexByte a.data.toList c.toNat.toUInt8)) w:=by
 change Sem.run P (do
  let b <- Extern.Bytes.bytesOf x
  let c' <- Extern.Bytes.asByte (.int .u8 c)
  match (List.range b.size).find? λi=>b[i]! == c' with
  | some i=>pure (goInt i)
  | none=>pure (goInt (-1))) w=_
 rw [<- Lib.firstIdx_eq]
 simp only [Extern.Bytes.asByte,firstIdx,Sem.run_bind,hx,Sem.run_pure,Result.andThen]
 cases List.find? (λi=>a[i]! == c.toNat.toUInt8) (List.range a.size)<;>simp [goInt]
section
variable {P:Program} {te:TE} {s:AS} {x y:Operand} {t t':TypeId} {v v':AV} {p p':PV} {bs bs':List (Nat×ABlk)} {l l':List UInt8} {f:FuncId} {fn:Func}
theorem zPc {o:Oper} (hf:P.funcs[f]? = some fn) (hname:(fn.name == "runtime.NumGoroutine")=false) (hb:fn.body.isNone=true) (hn:Extern.findNext fn=none) (he:Extern.find fn=some Extern.BytealgCompare.compare)
  (ho:o.op=.call { callee:=.value (.func f),args:=#[x,y],argTypes:=#[t,t'] })
  (hx:s.get te t x=some v) (hp:s.rd v=some (p,bs)) (hl:p.byl=some l) (hy:s.get te t' y=some v') (hq:s.rd v'=some (p',bs')) (hl':p'.byl=some l') :
  VA P o s (opS x v++opS y v') (bs++bs') (.p (.int .i64 (Lib.compareBytes l l'))):=by
 refine ⟨?_,zS (zB hx) (zB hy),λe h=>(List.mem_append.1 h).elim (wO v _ bs hp e) (wO v' _ bs' hq e)⟩
 intro cx M κ tip s' a w hin hr hbk
 have h1:=jZ (P:=P) hl (p9 hin hx hp (zL hr) (λe h=>hbk e (List.mem_append.2 (.inl h)))) hin.mem
 have h2:=jZ (P:=P) hl' (p9 hin hy hq (zH hr) (λe h=>hbk e (List.mem_append.2 (.inr h)))) hin.mem
 refine ⟨_,?_,.p _ _ (.int _ _)⟩
 have h3:=run_callFunc_extern hf hname hb hn he #[a.eval x,a.eval y] w
 rw [zKs h1 h2] at h3
 simpa [execOp,ho,resolve,Act.eval,Deferred.ofValue,invoke,Result.andThen] using h3
theorem zRo {o:Oper} {c:Int} (hf:P.funcs[f]? = some fn) (hname:(fn.name == "runtime.NumGoroutine")=false) (hb:fn.body.isNone=true) (hn:Extern.findNext fn=none) (he:Extern.find fn=some Extern.BytealgIndexByte.indexByte)
  (ho:o.op=.call { callee:=.value (.func f),args:=#[x,y],argTypes:=#[t,t'] })
  (hx:s.get te t x=some v) (hp:s.rd v=some (p,bs)) (hl:p.byl=some l) (hy:s.get te t' y=some (.p (.int .u8 c))) :
  VA P o s (opS x v++opS y (.p (.int .u8 c))) bs (.p (.int .i64 (Lib.indexByte l c.toNat.toUInt8))):=by
 refine ⟨?_,zS (zB hx) (zB hy),wO v _ bs hp⟩
 intro cx M κ tip s' a w hin hr hbk
 have h1:=jZ (P:=P) hl (p9 hin hx hp (zL hr) hbk) hin.mem
 have h2:=rep_int (repA_pv (zI hin (zP hy s' (zH hr))))
 refine ⟨_,?_,.p _ _ (.int _ _)⟩
 have h3:=run_callFunc_extern hf hname hb hn he #[a.eval x,a.eval y] w
 rw [h2,zLp h1] at h3
 rw [<- h2] at h3
 simpa [execOp,ho,resolve,Act.eval,Deferred.ofValue,invoke,Result.andThen] using h3
def Ext (P:Program) (f:FuncId) (e:Array Value->Sem Value):Prop:=∃ fn,P.funcs[f]? = some fn/\(fn.name == "runtime.NumGoroutine")=false/\fn.body.isNone=true/\Extern.findNext fn=none/\Extern.find fn=some e
variable {ops:Array Oper} {r:List Oper} {K:AS->List Mic->Prop} {d:Nat} {ty:TypeId} {pos:String} {af:Array Edge} [T:TEnv P]
theorem RK.cpx (h:Ext P f Extern.BytealgCompare.compare) (hx0:(s.get T.te t x,s.rd v,p.byl,s.get T.te t' y,s.rd v',p'.byl)=(some v,some (p,bs),some l,some v',some (p',bs'),some l'))
  (k:VK P ops r s K d (opS x v++opS y v') (bs++bs') (.p (.int .i64 (Lib.compareBytes l l')))):RK P ops (⟨some d,.call { callee:=.value (.func f),args:=#[x,y],argTypes:=#[t,t'] },ty,pos,af,none⟩:: r) s K:=have ⟨hx,hx0⟩:=pq hx0;have ⟨hp,hx0⟩:=pq hx0;have ⟨hl,hx0⟩:=pq hx0;have ⟨hy,hx0⟩:=pq hx0;have ⟨hq,hl'⟩:=pq hx0;by
 obtain ⟨fn,h1,h2,h3,h4,h5⟩:=h
 exact RK.va rfl rfl (zPc h1 h2 h3 h4 h5 rfl hx hp hl hy hq hl') k
theorem RK.ibx {c:UInt8} (h:Ext P f Extern.BytealgIndexByte.indexByte) (hx0:(s.get T.te t x,s.rd v,p.byl,s.get T.te t' y)=(some v,some (p,bs),some l,some (.p (.int .u8 c.toNat))))
  (k:VK P ops r s K d (opS x v++opS y (.p (.int .u8 c.toNat))) bs (.p (.int .i64 (Lib.indexByte l c)))):RK P ops (⟨some d,.call { callee:=.value (.func f),args:=#[x,y],argTypes:=#[t,t'] },ty,pos,af,none⟩:: r) s K:=have ⟨hx,hx0⟩:=pq hx0;have ⟨hp,hx0⟩:=pq hx0;have ⟨hl,hy⟩:=pq hx0;by
 obtain ⟨fn,h1,h2,h3,h4,h5⟩:=h
 have:=zRo (o:=⟨some d,.call { callee:=.value (.func f),args:=#[x,y],argTypes:=#[t,t'] },ty,pos,af,none⟩) h1 h2 h3 h4 h5 rfl hx hp hl hy
 rw [show ((c.toNat:Int).toNat.toUInt8)=c by simp] at this
 exact RK.va rfl rfl this k
end
end Go.Sw
namespace Go.Sw
open Go
section
variable {cx:Ctx} {M:Mem} {κ:Nat->Option Nat} {tip:Nat->Value} {s:AS} {a:Act} {w w':World}
theorem zLc (hi:Inv cx M κ tip s a w) (hp:∀ k∈cx.pk,κ k.1=some k.2/\k.2<cx.w0.heap.size) {k wd:Nat} {l:List AV} (hb:s.blk k=some (.own wd l)) (b:Option Nat):∀ k'∈cx.pk,kW κ k b k'.1=some k'.2/\k'.2<cx.w0.heap.size:=by
 intro k' hk'
 have h1:=hp k' hk'
 rw [zM]
 ·exact h1
 ·intro e
  obtain ⟨_,h4⟩:=hi.owns _ wd l hb
  rw [<- e] at h4
  rcases h4 with ⟨_,h5,_⟩ | ⟨b',n,cap,arr,e,fz,_,h5,h6,h7,_⟩
  ·rw [h1.1] at h5;cases h5
  ·rw [h1.1] at h5
   cases h5
   omega
theorem Inv.ownNew (hi:Inv cx M κ tip s a w) {k wd n cap:Nat} {l:List AV} {arr:Array Value} {e:TypeId} {fz:Nat×Nat} (hw:NewRow w w' arr e fz)
  (hk:s.blk k=none∨∃ l0,s.blk k=some (.own wd l0)/\l0.length<l.length) (hwd:0<wd) (hn:n*wd=l.length) (hcap:cap*wd<=arr.size) (hnc:n<=cap) (hml:cap<=maxLen)
  (hcs:∀ (j:Nat) (q:AV),l[j]? = some q->RepA M κ tip s.blk q (arr.getD j undef)) :
  Inv cx M (kW κ k (some w.heap.size)) (pK tip k (.slice (some ⟨w.heap.size,0,none⟩) n cap)) (s.setb k (.own wd l)) a w':=by
 have gle:GLe κ (kW κ k (some w.heap.size)) tip (pK tip k (.slice (some ⟨w.heap.size,0,none⟩) n cap)) s.blk (s.setb k (.own wd l)).blk:={
  var:=λi b l h h'=>by
   have e:i≠k:=by
    rintro rfl
    rcases hk with hk | ⟨l0,hk,_⟩<;>(rw [hk] at h';cases h')
   rw [zM e,zD e]
   exact ⟨h,l,h'⟩
  buf:=λi c1 h=>by
   have e:i≠k:=by
    rintro rfl
    rcases hk with hk | ⟨l0,hk,_⟩<;>(rw [hk] at h;cases h)
   exact GLe.same (by rw [zD e];exact h) (yC e)
  own:=λi w1 l1 h=>by
   by_cases e:i=k
   ·subst e
    rcases hk with hk | ⟨l0,hk,hlt⟩
    ·rw [hk] at h;cases h
    ·rw [hk] at h;cases h
     exact ⟨l,zF _ _ _,by omega,λe=>by omega⟩
   ·exact GLe.sameO (by rw [zD e];exact h) (zM e) (yC e) }
 have hmap:∀ {v:AV} {x:Value},RepA M κ tip s.blk v x->RepA M (kW κ k (some w.heap.size)) (pK tip k (.slice (some ⟨w.heap.size,0,none⟩) n cap)) (s.setb k (.own wd l)).blk v x:=λh=>h.ghost gle
 exact {
  defers:=hi.defers
  size:=hi.size
  fr:=⟨hw.os.trans hi.fr.os,hw.tape.trans hi.fr.tape,hw.output.trans hi.fr.output,by have:=hi.fr.size;rw [hw.size];omega,λb h1 h2=>by
   rw [hw.old b (by have:=hi.fr.size;omega)];exact hi.fr.block b h1 h2⟩
  mem:=λb o x h=>by
   have:=hi.mem b o x h
   have hlt:=World.block_lt_of_cell? w _ this
   rw [World.cell?_of_block (hw.old b hlt)]
   exact this
  env:=λt v h=>let ⟨x,h1,h2⟩:=hi.env t v h;⟨x,h1,hmap h2⟩
  vars:=λi l h=>by
   have e':i≠k:=by rintro rfl;rw [zF] at h;cases h
   rw [zD e'] at h
   obtain ⟨b,arr',e1,fz',h1,h2,h3,h4,h5,h6,h7⟩:=hi.vars i l h
   have hlt:=hi.lt h1
   exact ⟨b,arr',e1,fz',by rw [zM e'];exact h1,by rw [hw.old b hlt];exact h2,h3,h4,λj q hq=>hmap (h5 j q hq),h6,h7⟩
  bufs:=λi c1 h=>by
   have e':i≠k:=by rintro rfl;rw [zF] at h;cases h
   rw [zD e'] at h
   obtain ⟨h1,h2,h3,h4⟩:=hi.bufs i c1 h
   rw [yC e',zM e']
   refine ⟨h1,h2,h3,?_⟩
   rcases h4 with h4 | ⟨b,n1,cap1,arr1,e1,fz1,q1,q2,q3,q4,q5,q6,q7,q8⟩
   ·exact .inl h4
   ·have hlt:=hi.lt q2
    exact .inr ⟨b,n1,cap1,arr1,e1,fz1,q1,q2,q3,by rw [hw.old b hlt];exact q4,q5,q6,q7,q8⟩
  inj:=λi j b h1 h2=>by
   by_cases e1:i=k
   ·subst e1
    rw [wP] at h1
    cases h1
    by_cases e2:j=i
    ·exact e2.symm
    ·rw [zM e2] at h2;have:=hi.lt h2;omega
   ·rw [zM e1] at h1
    by_cases e2:j=k
    ·subst e2;rw [wP] at h2;cases h2;have:=hi.lt h1;omega
    ·rw [zM e2] at h2;exact hi.inj i j b h1 h2
  dom:=λi h=>by
   by_cases e':i=k
   ·subst e';rw [zF] at h;cases h
   ·rw [zD e'] at h;rw [zM e'];exact hi.dom i h
  glob:=hi.glob
  old:=hi.old
  owns:=λi w1 l1 h=>by
   by_cases e':i=k
   ·subst e'
    rw [zF] at h
    cases h
    rw [zY,wP]
    exact ⟨hwd,.inr ⟨w.heap.size,n,cap,arr,e,fz,rfl,rfl,hi.fr.size,hw.new,hw.free,hn,hcap,hnc,hml,λj q hq=>hmap (hcs j q hq),λo=>hi.mlt (Nat.le_refl _)⟩⟩
   ·rw [zD e'] at h
    obtain ⟨g1,g2⟩:=hi.owns i w1 l1 h
    rw [yC e',zM e']
    refine ⟨g1,?_⟩
    rcases g2 with g2 | ⟨b,n1,cap1,arr1,e1,fz1,q1,q2,q3,q4,q5,q6,q7,q8,q9,q10,q11⟩
    ·exact .inl g2
    ·have hlt:=hi.lt q2
     exact .inr ⟨b,n1,cap1,arr1,e1,fz1,q1,q2,q3,by rw [hw.old b hlt];exact q4,q5,q6,q7,q8,q9,λj q hq=>hmap (q10 j q hq),q11⟩}
theorem Inv.ownNil (hi:Inv cx M κ tip s a w) {k wd:Nat} (hk:s.blk k=none) (hwd:0<wd) :
  Inv cx M κ (pK tip k (.slice none 0 0)) (s.setb k (.own wd [])) a w:=by
 have gle:GLe κ κ tip (pK tip k (.slice none 0 0)) s.blk (s.setb k (.own wd [])).blk:={
  var:=λi b l h h'=>by
   have e:i≠k:=by rintro rfl;rw [hk] at h';cases h'
   rw [zD e];exact ⟨h,l,h'⟩
  buf:=λi c1 h=>by
   have e:i≠k:=by rintro rfl;rw [hk] at h;cases h
   exact GLe.same (by rw [zD e];exact h) (yC e)
  own:=λi c1 l1 h=>by
   have e:i≠k:=by rintro rfl;rw [hk] at h;cases h
   exact GLe.sameO (by rw [zD e];exact h) rfl (yC e) }
 exact {
  defers:=hi.defers
  size:=hi.size
  fr:=hi.fr
  mem:=hi.mem
  env:=λt v h=>let ⟨x,h1,h2⟩:=hi.env t v h;⟨x,h1,h2.ghost gle⟩
  vars:=λi l h=>by
   have e':i≠k:=by rintro rfl;rw [zF] at h;cases h
   rw [zD e'] at h
   obtain ⟨b,arr',e1,fz',h1,h2,h3,h4,h5,h6⟩:=hi.vars i l h
   exact ⟨b,arr',e1,fz',h1,h2,h3,h4,λj q hq=>(h5 j q hq).ghost gle,h6⟩
  bufs:=λi c1 h=>by
   have e':i≠k:=by rintro rfl;rw [zF] at h;cases h
   rw [zD e'] at h
   rw [yC e']
   exact hi.bufs i c1 h
  inj:=hi.inj
  dom:=λi h=>by
   by_cases e':i=k
   ·subst e';rw [zF] at h;cases h
   ·rw [zD e'] at h;exact hi.dom i h
  glob:=hi.glob
  old:=hi.old
  owns:=λi w1 l1 h=>by
   by_cases e':i=k
   ·subst e'
    rw [zF] at h
    cases h
    rw [zY]
    exact ⟨hwd,.inl ⟨rfl,hi.dom i hk,rfl⟩⟩
   ·rw [zD e'] at h
    obtain ⟨g1,g2⟩:=hi.owns i w1 l1 h
    rw [yC e']
    refine ⟨g1,?_⟩
    rcases g2 with g2 | ⟨b,n1,cap1,arr1,e1,fz1,q1,q2,q3,q4,q5,q6,q7,q8,q9,q10,q11⟩
    ·exact .inl g2
    ·exact .inr ⟨b,n1,cap1,arr1,e1,fz1,q1,q2,q3,q4,q5,q6,q7,q8,q9,λj q hq=>(q10 j q hq).ghost gle,q11⟩}
theorem Inv.ownSet (hi:Inv cx M κ tip s a w) {k wd b n cap off n':Nat} {l l':List AV} {arr':Array Value} {e:TypeId} {fz:Nat×Nat} {vs:List Value} (hb:s.blk k=some (.own wd l)) (htip:tip k=.slice (some ⟨b,0,none⟩) n cap) (hkb:κ k=some b) (hbase:cx.w0.heap.size<=b)
  (hfree:bM fz arr'.size) (g1:(w.setCells b off vs).heap[b]? = some (.cells arr' e fz)) (hcap:cap*wd<=arr'.size) (hnc:n'<=cap) (hml:cap<=maxLen) (hwd:0<wd) (hM:∀ o,M b o=none) (hlen:n'*wd=l'.length) (hle:l.length<=l'.length) (hl0:n*wd=l.length)
  (hcs:∀ (j:Nat) (q:AV),l'[j]? = some q->RepA M κ tip s.blk q (arr'.getD j undef)) :
  Inv cx M κ (pK tip k (.slice (some ⟨b,0,none⟩) n' cap)) (s.setb k (.own wd l')) a (w.setCells b off vs):=by
 have hrest:=oO b vs off w
 have gle:GLe κ κ tip (pK tip k (.slice (some ⟨b,0,none⟩) n' cap)) s.blk (s.setb k (.own wd l')).blk:={
  var:=λi b l h h'=>by
   have e:i≠k:=by rintro rfl;rw [hb] at h';cases h'
   rw [zD e];exact ⟨h,l,h'⟩
  buf:=λi c1 h=>by
   have e:i≠k:=by rintro rfl;rw [hb] at h;cases h
   exact GLe.same (by rw [zD e];exact h) (yC e)
  own:=λi c1 l1 h=>by
   by_cases e:i=k
   ·subst e
    rw [hb] at h
    cases h
    refine ⟨l',zF _ _ _,hle,λe=>⟨rfl,?_⟩⟩
    rw [zY,htip]
    have:n'=n:=Nat.eq_of_mul_eq_mul_right hwd (by omega)
    rw [this]
   ·exact GLe.sameO (by rw [zD e];exact h) rfl (yC e) }
 have hmap:∀ {v:AV} {x:Value},RepA M κ tip s.blk v x->RepA M κ (pK tip k (.slice (some ⟨b,0,none⟩) n' cap)) (s.setb k (.own wd l')).blk v x:=λh=>h.ghost gle
 exact {
  defers:=hi.defers
  size:=hi.size
  fr:=⟨hrest.1.trans hi.fr.os,hrest.2.1.trans hi.fr.tape,hrest.2.2.trans hi.fr.output,by rw [oS];exact hi.fr.size,λi hi1 hi2=>by
   rw [yQ b vs _ w i (by omega)];exact hi.fr.block i hi1 hi2⟩
  mem:=λi o x h=>by
   have hne:i≠b:=by rintro rfl;rw [hM] at h;cases h
   have:=hi.mem i o x h
   rw [World.cell?_setCells_out b vs off w _ (λe=>(hne e).elim)]
   exact this
  env:=λt v h=>let ⟨x,h1,h2⟩:=hi.env t v h;⟨x,h1,hmap h2⟩
  vars:=λi l h=>by
   have e':i≠k:=by rintro rfl;rw [zF] at h;cases h
   rw [zD e'] at h
   obtain ⟨b2,arr2,e2,fz2,k1,k2,k3,k4,k5,k6,k7⟩:=hi.vars i l h
   have hne:b2≠b:=λe=>e' (hi.inj i k b (e▸k1) hkb)
   exact ⟨b2,arr2,e2,fz2,k1,by rw [yQ b vs _ w b2 hne];exact k2,k3,k4,λj q hq=>hmap (k5 j q hq),k6,k7⟩
  bufs:=λi c1 h=>by
   have e':i≠k:=by rintro rfl;rw [zF] at h;cases h
   rw [zD e'] at h
   obtain ⟨k1,k2,k3,k4⟩:=hi.bufs i c1 h
   rw [yC e']
   refine ⟨k1,k2,k3,?_⟩
   rcases k4 with k4 | ⟨b2,n2,cap2,arr2,e2,fz2,q1,q2,q3,q4,q5,q6,q7,q8⟩
   ·exact .inl k4
   ·have hne:b2≠b:=λe=>e' (hi.inj i k b (e▸q2) hkb)
    exact .inr ⟨b2,n2,cap2,arr2,e2,fz2,q1,q2,q3,by rw [yQ b vs _ w b2 hne];exact q4,q5,q6,q7,q8⟩
  inj:=hi.inj
  dom:=λi h=>by
   by_cases e':i=k
   ·subst e';rw [zF] at h;cases h
   ·rw [zD e'] at h;exact hi.dom i h
  glob:=hi.glob
  old:=hi.old
  owns:=λi w1 l1 h=>by
   by_cases e':i=k
   ·subst e'
    rw [zF] at h
    cases h
    rw [zY]
    exact ⟨hwd,.inr ⟨b,n',cap,arr',e,fz,rfl,hkb,hbase,g1,hfree,hlen,hcap,hnc,hml,λj q hq=>hmap (hcs j q hq),hM⟩⟩
   ·rw [zD e'] at h
    obtain ⟨g1',g2⟩:=hi.owns i w1 l1 h
    rw [yC e']
    refine ⟨g1',?_⟩
    rcases g2 with g2 | ⟨b2,n1,cap1,arr1,e1,fz1,q1,q2,q3,q4,q5,q6,q7,q8,q9,q10,q11⟩
    ·exact .inl g2
    ·have hne:b2≠b:=λe=>e' (hi.inj i k b (e▸q2) hkb)
     exact .inr ⟨b2,n1,cap1,arr1,e1,fz1,q1,q2,q3,by rw [yQ b vs _ w b2 hne];exact q4,q5,q6,q7,q8,q9,λj q hq=>hmap (q10 j q hq),q11⟩}
end
end Go.Sw
namespace Go.Sw
open Go
section
variable {P:Program} {te:TE} {s:AS} {o:Oper} {v:AV} {x y:Operand} {d:Nat} {ty:TypeId}
theorem zIb {cx:Ctx} {M:Mem} {κ:Nat->Option Nat} {tip:Nat->Value} {B:Nat->Option ABlk} {k n wd:Nat} {l:List AV} {z:Value} (hb:B k=some (.own wd l)) (hn:n*wd=l.length) (h:RepA M κ tip B (.own k n) z):z=tip k:=by
 cases h with
 | own _ _ w' l' _ h1 h2 h3 hs=>rw [hb] at h1;cases h1;exact h3 hn
theorem zEq {t e ity:TypeId} {k n wd:Nat} {l:List AV} {i:Int} {ei:TI} (hok:zX P te) (ho:o.op=.indexAddr t x y) (ht:(te t).map (·.ty)=some (.slice e)) (he:te e=some ei)
  (hx:s.get te t x=some (.own k n)) (hb:s.blk k=some (.own wd l)) (hn:n*wd=l.length) (hw:wd=ei.w) (hy:s.get te ity y=some (.p (.int .i64 i))) (h0:0<=i) (h1:i<n) :
  VA P o s (opS x (.own k n)++opS y (.p (.int .i64 i))) [(k,.own wd l)] (.optr k n (i.toNat*ei.w)):=by
 refine ⟨?_,zS (zB hx) (zB hy),by simpa using hb⟩
 intro cx M κ tip s' a w hi hr hb'
 have hbk:=hb' (k,.own wd l) (by simp)
 simp only at hbk
 have hx':=zI hi (zP hx s' (zL hr))
 have h2:=rep_int (repA_pv (zI hi (zP hy s' (zH hr))))
 have hu:=yE hok ht
 have hsz:=vL hok he w
 have hev:=zIb (cx:=cx) hbk hn hx'
 obtain ⟨g1,g2⟩:=hi.owns k wd l hbk
 rcases g2 with ⟨_,_,rfl⟩ | ⟨b,n1,cap,arr,e1,fz,q1,q2,q3,q4,q5,q6,q7,q8,q9,q10,q11⟩
 ·have hp:=Nat.mul_pos (show 0<n by omega) g1
  simp only [List.length_nil] at hn
  omega
 ·have hnn:n1=n:=Nat.eq_of_mul_eq_mul_right g1 (by omega)
  subst hnn
  rw [q1] at hev
  exact ⟨.pointer (some ⟨b,0+i.toNat*ei.w,none⟩),by simp [execOp,ho,hev,h2,Instr.indexAt,asIntOf,run_underlying hu,h0,h1,hsz,add_off],.optr k n1 _ wd l _ hbk (by omega) (λ_=>⟨b,q2,by simp⟩) ⟨_,rfl⟩⟩
theorem zOl {t e:TypeId} {k n wd:Nat} {l:List AV} (hok:zX P te) (ho:o.op=.call { callee:=.builtin .len,args:=#[x],argTypes:=#[t] }) (ht:(te t).map (·.ty)=some (.slice e)) (hx:s.get te t x=some (.own k n)) (hb:s.blk k=some (.own wd l)) (hn:n*wd=l.length):VA P o s (opS x (.own k n)) [(k,.own wd l)] (.p (.int .i64 n)):=by
 refine ⟨?_,zB hx,by simpa using hb⟩
 intro cx M κ tip s' a w hi hr hb'
 have hbk:=hb' (k,.own wd l) (by simp)
 simp only at hbk
 have hev:=zIb (cx:=cx) hbk hn (zI hi (zP hx s' hr))
 have hu:=yE hok ht
 obtain ⟨g1,g2⟩:=hi.owns k wd l hbk
 rcases g2 with ⟨y1,_,rfl⟩ | ⟨b,n1,cap,arr,e1,fz,q1,q2,q3,q4,q5,q6,q7,q8,q9,q10,q11⟩
 ·have:n=0:=by
            rcases Nat.eq_zero_or_pos n with h | h
            ·exact h
            ·have:=Nat.mul_pos h g1;simp at hn;omega
  subst this
  rw [y1] at hev
  exact ⟨.int .i64 0,by simp [execOp,ho,hev,resolve,invoke,builtin,Builtin.len_,run_underlying hu,goInt],.p _ _ (.int _ _)⟩
 ·have hnn:n1=n:=Nat.eq_of_mul_eq_mul_right g1 (by omega)
  subst hnn
  rw [q1] at hev
  exact ⟨.int .i64 n1,by simp [execOp,ho,hev,resolve,invoke,builtin,Builtin.len_,run_underlying hu,goInt],.p _ _ (.int _ _)⟩
theorem zFz {t:TypeId} {k n wd off:Nat} {l:List AV} {i:TI} (hok:zX P te) (ho:o.op=.load t x) (ht:te t=some i) (hp:i.plain=true) (hx:s.get te ty x=some (.optr k n off)) (hb:s.blk k=some (.own wd l)) (hn:n*wd=l.length) (hv:l[off]? = some v) :
  VA P o s (opS x (.optr k n off)) [(k,.own wd l)] v:=by
 refine ⟨?_,zB hx,by simpa using hb⟩
 intro cx M κ tip s' a w hi hr hb'
 have hx':=zI hi (zP hx s' hr)
 have hbk:=hb' (k,.own wd l) (by simp)
 simp only at hbk
 obtain ⟨g1,g2⟩:=hi.owns k wd l hbk
 generalize hev:a.eval x=z at hx'
 cases hx' with
 | optr _ _ _ w' l' _ h1 h2 h3 hs=>
  rw [hbk] at h1
  cases h1
  obtain ⟨b,hκ,rfl⟩:=h3 hn
  rcases g2 with ⟨_,y2,_⟩ | ⟨b',n1,cap,arr,e1,fz,q1,q2,q3,q4,q5,q6,q7,q8,q9,q10,q11⟩
  ·rw [hκ] at y2;cases y2
  ·rw [hκ] at q2
   cases q2
   have hlt:off<l.length:=(List.getElem?_eq_some_iff.1 hv).1
   have hfit:n1*wd<=cap*wd:=Nat.mul_le_mul_right _ q8
   have hlt':off<arr.size:=by omega
   have hcell:w.cell? ⟨b,off,none⟩=some arr[off]:=by simp [World.cell?,q4,hlt']
   refine ⟨arr[off],?_,?_⟩
   ·simp [execOp,ho,hev,Instr.loadAt,Instr.sureAddr,n4 hok ht hp hcell]
   ·have:=q10 off v hv
    simpa [hlt'] using this
theorem zKg {s:AS} {k:Nat} {b:ABlk} (h:s.blk k=some b):s.setb k b=s:=by
 cases s with
 | mk env blk=>
  simp only [AS.setb]
  congr 1
  funext t
  by_cases ht:t=k
  ·subst ht;simp;exact h.symm
  ·have:Nat.beq t k=false:=by rw [Bool.eq_false_iff];intro e;exact ht (Nat.eq_of_beq_eq_true e)
   simp [this]
end
end Go.Sw
namespace Go.Sw
open Go
section
variable {P:Program} {te:TE} {s:AS} {o:Oper} {v:AV} {x y:Operand} {d:Nat} {ty:TypeId}
def zPm (P:Program) (y:Operand) (rs:List (Nat×AV)) (bs:List (Nat×ABlk)) (size m:Nat) (cs:List AV):Prop:=
 ∀ (cx:Ctx) (M:Mem) (κ:Nat->Option Nat) (tip:Nat->Value) (s:AS) (a:Act) (w:World),Inv cx M κ tip s a w->xQ s rs->(∀ e∈bs,s.blk e.1=some e.2) ->
  ∃ news,Src P w size m (a.eval y) news/\∀ (j:Nat) (q:AV),cs[j]? = some q->RepA M κ tip s.blk q ((news[j]?).getD undef)
theorem zFf {t t' e:TypeId} {ei:TI} {k n wd m:Nat} {l cs:List AV} {vy:AV} {bs:List (Nat×ABlk)} {dd:TypeDesc} (hok:zX P te) (hd:o.dst=some d) (ho:o.op=.call { callee:=.builtin .append,args:=#[x,y],argTypes:=#[t,t'] })
  (ht:(te t).map (·.ty)=some (.slice e)) (he:te e=some ei) (ht':P.underlying t'=some dd) (hdd:iG dd) (hx:s.get te t x=some (.own k n)) (hk:s.blk k=some (.own wd l)) (hn:n*wd=l.length) (hcw:wd=ei.w) (hz:ei.z.length=ei.w) (hy:s.get te t' y=some vy) (hbs:∀ e∈bs,s.blk e.1=some e.2)
  (hsrc:zPm P y (opS y vy) bs ei.w m cs) (hm:cs.length=m*ei.w) (hone:cs.all AV.one=true) (hb:(n+m)*ei.b<=140737488355328) (hb1:0<ei.b) :
  SA P o s ⟨opS x (.own k n)++opS y vy,(k,.own wd l) :: bs,[],some (d,some (.own k (n+m))),[(k,.own wd (l++cs))]⟩:=by
 refine ⟨?_,zS (zB hx) (zB hy),?_,by intro k hk';simp at hk'⟩
 ·intro cx s' a w K Q hmm hs hws hk'
  obtain ⟨M,κ,tip,h0,hpk,hi⟩:=hs
  have hbk:=hmm.2.1 (k,.own wd l) (by simp)
  simp only at hbk
  have hevx:=zIb (cx:=cx) hbk hn (zI hi (zP hx s' (zL hmm.1)))
  obtain ⟨news,n1,n2⟩:=hsrc cx M κ tip s' a w hi (zH hmm.1) (λe he=>hmm.2.1 e (by simp [he]))
  obtain ⟨g1,g2⟩:=hi.owns k wd l hbk
  obtain ⟨info,z,i1,i2,i3,i4,i5⟩:=(hok e ei he).info
  have hu:=yE hok ht
  have hlen:n+m<=140737488355328:=Nat.le_trans (Nat.le_mul_of_pos_right _ hb1) hb
  have hnl:news.length=m*ei.w:=n1.nl
  have hnc:news.length=cs.length:=by omega
  rw [<- i2] at n1
  have hzs:z.cells.size=ei.w:=by rw [<- Array.length_toList,i5];simpa using hz
  have hlc:(l++cs).length=(n+m)*wd:=by rw [List.length_append,hm,<- hn,hcw,Nat.add_mul]
  have honev:∀ u∈news,u.oneCell'=true:=by
   intro u hu
   obtain ⟨j,hj,hju⟩:=List.getElem_of_mem hu
   have hq:=n2 j cs[j] (by simp)
   rw [List.getElem?_eq_getElem hj,hju] at hq
   exact c8 hq ((List.all_eq_true.1 hone) _ (List.getElem_mem _))
  unfold Oper.wp
  rcases g2 with ⟨hnil,hκ,rfl⟩ | ⟨b,n',cap,arr,e1,fz,q1,q2,q3,q4,q5,q6,q7,q8,q9,q10,q11⟩
  ·have hn0:n=0:=by
    rcases Nat.eq_zero_or_pos n with h | h
    ·exact h
    ·have:=Nat.mul_pos h g1;simp only [List.length_nil] at hn;omega
   subst hn0
   simp only [List.nil_append,Nat.zero_add] at *
   by_cases hm0:m=0
   ·subst hm0
    have hcs:cs=[]:=List.eq_nil_of_length_eq_zero (by omega)
    subst hcs
    have hrun:=pJ (P:=P) (ty:=o.type) hu ht' hdd i1 n1
    rw [yK ho (hevx.trans hnil) hrun]
    show K (a.put o.dst _) _
    rw [hd]
    refine hk' _ _ ?_
    rw [w8,zKg hbk]
    exact ⟨M,κ,tip,h0,hpk,hi.put (hws d (by simp [Mic.ws])) (.own k 0 wd [] _ hbk (by simp) (λ_=>hnil.symm) ⟨_,_,_,rfl⟩)⟩
   ·have hrun:=nA (P:=P) (ty:=o.type) hu ht' hdd i1 i4 n1 (by omega) (by rw [i3];exact hb) (by omega)
    rw [yK ho (hevx.trans hnil) hrun]
    show K (a.put o.dst _) _
    rw [hd]
    refine hk' _ _ ?_
    rw [w8]
    have hge:=grownCap_ge w m 0 e
    have hsize:(news.toArray++Builtin.zeroCells z.cells (grownCap w m 0 e - m)).size=grownCap w m 0 e*ei.w:=by
     simp only [Array.size_append,List.size_toArray,size_zeroCells,hzs,hnl,<- Nat.add_mul]
     congr 1
     omega
    have hml:grownCap w m 0 e<=maxLen:=grownCap_le_maxLen w m 0 e (by simp only [maxLen];omega)
    have hpos:=Nat.mul_pos (show 0<m by omega) g1
    refine ⟨M,_,_,h0,zLc hi hpk hbk _,(hi.ownNew (k:=k) (wd:=wd) (n:=m) (cap:=grownCap w m 0 e) (l:=cs) (vT w _ e) (.inr ⟨[],hbk,by simp;omega⟩) g1 (by omega) (by rw [hsize,hcw];exact Nat.le_refl _) hge hml ?_).put (hws d (by simp [Mic.ws])) (.own k m wd cs _ (zF _ _ _) (by omega) (λ_=>(zY _ _ _).symm) ⟨_,_,_,rfl⟩)⟩
    intro j q hq
    have hlt:j<cs.length:=(List.getElem?_eq_some_iff.1 hq).1
    rw [Array.getD_eq_getD_getElem?,Array.getElem?_append_left (by simp;omega)]
    have:=n2 j q hq
    simpa using this
  ·have hnn:n'=n:=Nat.eq_of_mul_eq_mul_right g1 (by omega)
   subst hnn
   have hfit0:n'*wd<=cap*wd:=Nat.mul_le_mul_right _ q8
   by_cases hroom:n'+m<=cap
   ·have hfits:(n'+m)*wd<=arr.size:=Nat.le_trans (Nat.mul_le_mul_right _ hroom) q7
    have hadd:(n'+m)*wd=n'*wd+m*wd:=Nat.add_mul _ _ _
    have hnw:news.length=m*wd:=by rw [hnl,hcw]
    have hrun:=iC (P:=P) (ty:=o.type) hu ht' hdd i1 n1 (b:=b) (n:=n') (cap:=cap) honev hroom
     (by
       intro j hj;rw [i2,<- hcw];have:n'*wd+j<arr.size:=by omega
       simp [World.cell?,q4,this])
     (by intro j hj;rw [i2,<- hcw];exact qC q4 q5 (by omega))
    rw [yK ho (hevx.trans q1) hrun]
    show K (a.put o.dst _) _
    rw [hd]
    refine hk' _ _ ?_
    rw [w8,i2,<- hcw]
    obtain ⟨arr',z1,z2,z3⟩:=rD b news (n'*wd) w arr e1 fz q4 (by omega)
    refine ⟨M,κ,_,h0,hpk,(hi.ownSet (n':=n'+m) (l':=l++cs) hbk q1 q2 q3 (by rw [z2];exact q5) z1 (by rw [z2];exact q7) hroom q9 g1 q11 (by omega) (by simp) q6 ?_).put (hws d (by simp [Mic.ws])) (.own k (n'+m) wd (l++cs) _ (zF _ _ _) (by omega) (λ_=>(zY _ _ _).symm) ⟨_,_,_,rfl⟩)⟩
    intro j q hq
    rw [Array.getD_eq_getD_getElem?,z3 j]
    by_cases hj:j<l.length
    ·rw [List.getElem?_append_left hj] at hq
     rw [if_neg (by omega)]
     have:=q10 j q hq
     rw [Array.getD_eq_getD_getElem?] at this
     exact this
    ·rw [List.getElem?_append_right (by omega)] at hq
     have hlt:j - l.length<cs.length:=(List.getElem?_eq_some_iff.1 hq).1
     rw [if_pos (by omega)]
     have:=n2 _ q hq
     rw [show j - n'*wd=j - l.length by omega]
     exact this
   ·have hol:(arr.toList.take (n'*wd)).length=n'*info.size:=by simp [i2,<- hcw];omega
    have hrun:=jO (P:=P) (ty:=o.type) hu ht' hdd i1 i4 n1 (b:=b) (n:=n') (cap:=cap) (olds:=arr.toList.take (n'*wd)) hol
     (by
      intro j u hu
      rw [List.getElem?_take] at hu
      split at hu
      ·simp only [World.cell?,q4]
       simpa using hu
      ·cases hu)
     (by omega) (by rw [i3];exact hb) (by omega)
    rw [yK ho (hevx.trans q1) hrun]
    show K (a.put o.dst _) _
    rw [hd]
    refine hk' _ _ ?_
    rw [w8]
    have hge:=grownCap_ge w (n'+m) cap e
    have hml:grownCap w (n'+m) cap e<=maxLen:=grownCap_le_maxLen w _ cap e (by simp only [maxLen];omega)
    have hmp:0<m:=by omega
    have hmw:=Nat.mul_pos hmp g1
    have hadd:(n'+m)*wd=n'*wd+m*wd:=Nat.add_mul _ _ _
    have htl:(arr.toList.take (n'*wd)).length=n'*wd:=by simp;omega
    generalize hA:((arr.toList.take (n'*wd)).toArray++news.toArray++Builtin.zeroCells z.cells (grownCap w (n'+m) cap e - (n'+m)))=A
    have hsize:A.size=grownCap w (n'+m) cap e*ei.w:=by
     rw [<- hA]
     have hsub:(grownCap w (n'+m) cap e - (n'+m))*ei.w=grownCap w (n'+m) cap e*ei.w - (n'+m)*ei.w:=Nat.sub_mul _ _ _
     have hge2:(n'+m)*ei.w<=grownCap w (n'+m) cap e*ei.w:=Nat.mul_le_mul_right _ hge
     simp only [Array.size_append,List.size_toArray,htl,size_zeroCells,hzs,hnl]
     rw [hsub,hcw]
     rw [hcw] at hadd
     omega
    refine ⟨M,_,_,h0,zLc hi hpk hbk _,(hi.ownNew (k:=k) (wd:=wd) (n:=n'+m) (cap:=grownCap w (n'+m) cap e) (l:=l++cs) (vT w A e) (.inr ⟨l,hbk,by omega⟩) g1 (by omega) (by rw [hsize,hcw];exact Nat.le_refl _) hge hml ?_).put (hws d (by simp [Mic.ws])) (.own k (n'+m) wd (l++cs) _ (zF _ _ _) (by omega) (λ_=>(zY _ _ _).symm) ⟨_,_,_,rfl⟩)⟩
    intro j q hq
    have hnw:news.length=m*wd:=by rw [hnl,hcw]
    have hjt:j<(l++cs).length:=(List.getElem?_eq_some_iff.1 hq).1
    rw [Array.getD_eq_getD_getElem?,<- hA,Array.getElem?_append_left (by simp only [Array.size_append,List.size_toArray,htl];omega)]
    by_cases hj:j<l.length
    ·rw [List.getElem?_append_left hj] at hq
     rw [Array.getElem?_append_left (by simp only [List.size_toArray,htl];omega)]
     have:=q10 j q hq
     rw [Array.getD_eq_getD_getElem?] at this
     simp only [List.getElem?_toArray,List.getElem?_take]
     rw [if_pos (by omega)]
     simpa using this
    ·rw [List.getElem?_append_right (by omega)] at hq
     rw [Array.getElem?_append_right (by simp only [List.size_toArray,htl];omega)]
     have:=n2 _ q hq
     simp only [List.size_toArray,htl,List.getElem?_toArray]
     rw [show j - n'*wd=j - l.length by omega]
     exact this
 ·intro e he
  rcases List.mem_cons.1 he with he | he
  ·subst he;exact hk
  ·exact hbs e he
def PV.ecs:PV->List AV
 | .bytes l=>l.map λx=>.p (.int .u8 x.toNat)
 | .str l=>l.map λx=>.p (.int .u8 x.toNat)
 | .sl _ l=>(yO l).map .p
 | _=>[]
theorem aC {M:Mem} {κ:Nat->Option Nat} {tip:Nat->Value} {B:Nat->Option ABlk} {p:PV} {g:Nat->Value} {news:List Value} {wd:Nat} (hc:tL M p.src g) (hsl:p.src.isSlice=true) (hw:p.src.width=wd) (hn:∀ j,j<p.src.len*wd->news[j]? = some (g j)) :
  p.ecs.length=p.src.len*wd/\∀ (j:Nat) (q:AV),p.ecs[j]? = some q->RepA M κ tip B q ((news[j]?).getD undef):=by
 have hby:∀ (l:List UInt8),tL M (.bytes l) g->(∀ j,j<l.length*1->news[j]? = some (g j))->∀ (j:Nat) (q:AV),(l.map λx=>AV.p (.int .u8 x.toNat))[j]? = some q->RepA M κ tip B q ((news[j]?).getD undef):=by
  intro l hc hn j q hq
  rw [List.getElem?_map] at hq
  obtain ⟨u,h1,h2⟩:=Option.map_eq_some_iff.1 hq
  have hlt:j<l.length:=(List.getElem?_eq_some_iff.1 h1).1
  rw [hn j (by omega),<- h2,Option.getD_some,hc j u h1]
  exact .p _ _ (.int _ _)
 cases p with
 | bytes l=>simp only [PV.src,PV.width] at *;subst hw;exact ⟨by simp [PV.ecs,PV.len],hby l hc hn⟩
 | str l=>simp only [PV.src,PV.width] at *;subst hw;exact ⟨by simp [PV.ecs,PV.len],hby l hc hn⟩
 | sl w' l=>
  simp only [PV.src,PV.width] at *
  subst hw
  obtain ⟨c1,c2⟩:=hc
  have hwf:∀ p∈l,p.cells.length=w':=λp hp=>by obtain ⟨i,hi,h⟩:=List.getElem_of_mem hp;exact c1 i p (by simp [hi,h])
  obtain ⟨f1,f2⟩:=bT l hwf
  refine ⟨by simp [PV.ecs,PV.len,f1],λj q hq=>?_⟩
  simp only [PV.ecs] at hq
  rw [List.getElem?_map] at hq
  obtain ⟨u,h1,h2⟩:=Option.map_eq_some_iff.1 hq
  have hlt:j<(yO l).length:=(List.getElem?_eq_some_iff.1 h1).1
  have hw0:0<w':=by
   rcases Nat.eq_zero_or_pos w' with h | h
   ·subst h;omega
   ·exact h
  have hdm:w'*(j / w')+j % w'=j:=Nat.div_add_mod j w'
  have hi:j / w'<l.length:=Nat.div_lt_of_lt_mul (by rw [Nat.mul_comm];omega)
  have hp:l[j / w']? = some l[j / w']:=by simp
  have hcl:=c1 _ _ hp
  have hr:j % w'<l[j / w'].cells.length:=by rw [hcl];exact Nat.mod_lt _ hw0
  have hqq:l[j / w'].cells[j % w']? = some l[j / w'].cells[j % w']:=by simp
  have e:j / w'*w'+j % w'=j:=by rw [Nat.mul_comm];exact hdm
  have h3:=f2 _ _ _ _ hp hqq
  rw [e,h1] at h3
  cases h3
  have h4:=c2 _ _ _ _ hp hqq
  rw [e] at h4
  rw [hn j (by simp only [PV.len];omega),<- h2,Option.getD_some]
  exact .p _ _ h4
 | _=>simp [PV.src,PV.isSlice] at hsl
theorem zEc {t':TypeId} {vy:AV} {p:PV} {bs:List (Nat×ABlk)} {wd:Nat} (hy:s.get te t' y=some vy) (hp:s.rd vy=some (p,bs)) (hsl:p.src.isSlice=true) (hw:p.src.width=wd) (hw0:0<wd):zPm P y (opS y vy) bs wd p.src.len p.ecs:=by
 intro cx M κ tip s' a w hi hr hb
 have h:=p9 hi hy hp hr hb
 cases p with
 | str l=>
  rw [oR h]
  obtain ⟨news,g,q1,q2,q3⟩:=zI9 (P:=P) (M:=M) (w:=w) l
  have hw1:wd=1:=by rw [<- hw];rfl
  subst hw1
  exact ⟨news,q1,(aC (p:=.str l) q2 rfl rfl q3).2⟩
 | bytes l=>
  obtain ⟨news,g,q1,q2,q3⟩:=fL (P:=P) hi.mem (p:=.bytes l) rfl h (by simp [PV.width])
  have hw1:wd=1:=by rw [<- hw];rfl
  subst hw1
  exact ⟨news,q1,(aC (p:=.bytes l) q2 rfl rfl q3).2⟩
 | sl w' l=>
  have hw1:wd=w':=by rw [<- hw];rfl
  subst hw1
  obtain ⟨news,g,q1,q2,q3⟩:=fL (P:=P) hi.mem (p:=.sl wd l) rfl h (by simp [PV.width];omega)
  exact ⟨news,q1,(aC (p:=.sl wd l) q2 rfl rfl q3).2⟩
 | _=>simp [PV.src,PV.isSlice] at hsl
theorem zGy {t':TypeId} {k2 m wd:Nat} {l2:List AV} (hy:s.get te t' y=some (.ref k2 0 m)) (hl:l2.length=m*wd):zPm P y (opS y (.ref k2 0 m)) [(k2,.var l2)] wd m l2:=by
 intro cx M κ tip s' a w hi hr hb
 have hbk:=hb (k2,.var l2) (by simp)
 simp only at hbk
 have h:=zI hi (zP hy s' hr)
 obtain ⟨b,arr,e,fz,q1,q2,q3,q4,q5,q6,q7⟩:=hi.vars k2 l2 hbk
 generalize hev:a.eval y=z at h
 cases h with
 | ref _ _ _ b' l' g1 g2=>
 rw [q1] at g1
 cases g1
 refine ⟨arr.toList,⟨λw'=>by simp [Builtin.lenOf],λw' hw'=>?_,by simp;omega⟩,λj q hq=>?_⟩
 ·refine run_firstCells_some (P:=P) w' wd m ⟨b,0,none⟩ m m _ (by simp;omega) ?_
  intro j u hu
  rw [add_off]
  refine hw' _ _ ?_
  simp only [World.cell?,q2,Nat.zero_add]
  simpa using hu
 ·have:=q5 j q hq
  rw [Array.getD_eq_getD_getElem?] at this
  simpa using this
theorem zPg {t e:TypeId} {ei:TI} {n:Nat} {ps:Array (Nat×Operand)} {pl:List (Nat×Operand)} {vs rs:List (Nat×AV)} {l:List AV} (hok:zX P te) (hd:o.dst=some d) (ho:o.op=.buildSlice t n ps) (hpl:ps.toList=pl) (ht:(te t).map (·.ty)=some (.slice e)) (he:te e=some ei) (hz:ei.z.length=ei.w) (hw0:0<ei.w) (hn:n*ei.w<=16777216)
  (hp:Parts s te pl vs rs) (hf:rY (λj=>some (j*ei.w,ei.w)) (uP ei.z n) vs=some l) (hln:n*ei.w=l.length) (hk:s.blk d=none):SA P o s ⟨rs,[],[d],some (d,some (.own d n)),[(d,.own ei.w l)]⟩:=by
 refine ⟨?_,hp.reads,by intro e he;simp at he,by intro k hk';simp at hk';subst hk';exact hk⟩
 intro cx s' a w K Q hm hs hw hk'
 obtain ⟨M,κ,tip,h0,hpk,hi⟩:=hs
 have hpr:=hp.rep hi hm.1
 have hxs:(ps.map λ(i,x)=>(i,a.eval x)).toList=pl.map λp=>(p.1,a.eval p.2):=by simp [<- hpl]
 obtain ⟨arr,hrun,hcr⟩:=zE9 hok ht he hz hn (xs:=ps.map λ(i,x)=>(i,a.eval x)) (by rw [hxs];exact hpr) hf w
 have hb:=hm.2.2 d (by simp)
 unfold Oper.wp
 have:(execOp a.eval o).run P w=.ok (.value (.slice (some ⟨w.heap.size,0,none⟩) n n)) (w.alloc (.cells arr e)):=by simp [execOp,ho,hrun]
 rw [this]
 show K (a.put o.dst _) _
 rw [hd]
 refine hk' _ _ ?_
 rw [mR]
 have hnn:n<=n*ei.w:=Nat.le_mul_of_pos_right _ hw0
 exact ⟨M,_,_,h0,iE hi hpk hb _,(hi.ownNew (k:=d) (wd:=ei.w) (n:=n) (cap:=n) (l:=l) (oK w arr e) (.inl hb) hw0 hln (by rw [hcr.1];omega) (Nat.le_refl _) (by simp only [maxLen];omega) hcr.2).put (hw d (by simp [Mic.ws])) (.own d n ei.w l _ (zF _ _ _) (by omega) (λ_=>(zY _ _ _).symm) ⟨_,_,_,rfl⟩)⟩
theorem zNm {t t' e:TypeId} {ei:TI} {m:Nat} {c:PV} {cs:List AV} {vy:AV} {bs:List (Nat×ABlk)} {dd:TypeDesc} (hok:zX P te) (hd:o.dst=some d) (ho:o.op=.call { callee:=.builtin .append,args:=#[x,y],argTypes:=#[t,t'] })
  (ht:(te t).map (·.ty)=some (.slice e)) (he:te e=some ei) (ht':P.underlying t'=some dd) (hdd:iG dd) (hx:s.get te t x=some (.nl c)) (hw0:0<ei.w) (hz:ei.z.length=ei.w) (hy:s.get te t' y=some vy) (hbs:∀ e∈bs,s.blk e.1=some e.2)
  (hsrc:zPm P y (opS y vy) bs ei.w m cs) (hm:cs.length=m*ei.w) (hb:m*ei.b<=140737488355328) (hb1:0<ei.b) (hk:s.blk d=none) :
  SA P o s ⟨opS x (.nl c)++opS y vy,bs,[d],some (d,some (.own d m)),[(d,.own ei.w cs)]⟩:=by
 refine ⟨?_,zS (zB hx) (zB hy),hbs,by intro k hk';simp at hk';subst hk';exact hk⟩
 intro cx s' a w K Q hmm hs hws hk'
 obtain ⟨M,κ,tip,h0,hpk,hi⟩:=hs
 have hbk:=hmm.2.2 d (by simp)
 have hevx:a.eval x=.slice none 0 0:=by
  have hx':=zI hi (zP hx s' (zL hmm.1))
  generalize a.eval x=z at hx'
  cases hx' with
  | nl _ _=>rfl
 obtain ⟨news,n1,n2⟩:=hsrc cx M κ tip s' a w hi (zH hmm.1) hmm.2.1
 obtain ⟨info,z,i1,i2,i3,i4,i5⟩:=(hok e ei he).info
 have hu:=yE hok ht
 have hlen:m<=140737488355328:=Nat.le_trans (Nat.le_mul_of_pos_right _ hb1) hb
 have hnl:news.length=m*ei.w:=n1.nl
 rw [<- i2] at n1
 have hzs:z.cells.size=ei.w:=by rw [<- Array.length_toList,i5];simpa using hz
 unfold Oper.wp
 by_cases hm0:m=0
 ·subst hm0
  have hcs:cs=[]:=List.eq_nil_of_length_eq_zero (by omega)
  subst hcs
  have hrun:=pJ (P:=P) (ty:=o.type) hu ht' hdd i1 n1
  rw [yK ho hevx hrun]
  show K (a.put o.dst _) _
  rw [hd]
  refine hk' _ _ ?_
  rw [mR]
  exact ⟨M,κ,_,h0,hpk,(hi.ownNil hbk hw0).put (hws d (by simp [Mic.ws])) (.own d 0 ei.w [] _ (zF _ _ _) (by simp) (λ_=>(zY _ _ _).symm) ⟨_,_,_,rfl⟩)⟩
 ·have hrun:=nA (P:=P) (ty:=o.type) hu ht' hdd i1 i4 n1 (by omega) (by rw [i3];exact hb) (by omega)
  rw [yK ho hevx hrun]
  show K (a.put o.dst _) _
  rw [hd]
  refine hk' _ _ ?_
  rw [mR]
  have hge:=grownCap_ge w m 0 e
  have hsize:(news.toArray++Builtin.zeroCells z.cells (grownCap w m 0 e - m)).size=grownCap w m 0 e*ei.w:=by
   simp only [Array.size_append,List.size_toArray,size_zeroCells,hzs,hnl,<- Nat.add_mul]
   congr 1
   omega
  have hml:grownCap w m 0 e<=maxLen:=grownCap_le_maxLen w m 0 e (by simp only [maxLen];omega)
  refine ⟨M,_,_,h0,iE hi hpk hbk _,(hi.ownNew (k:=d) (wd:=ei.w) (n:=m) (cap:=grownCap w m 0 e) (l:=cs) (vT w _ e) (.inl hbk) hw0 (by omega) (by rw [hsize];exact Nat.le_refl _) hge hml ?_).put (hws d (by simp [Mic.ws])) (.own d m ei.w cs _ (zF _ _ _) (by omega) (λ_=>(zY _ _ _).symm) ⟨_,_,_,rfl⟩)⟩
  intro j q hq
  have hlt:j<cs.length:=(List.getElem?_eq_some_iff.1 hq).1
  rw [Array.getD_eq_getD_getElem?,Array.getElem?_append_left (by simp;omega)]
  have:=n2 j q hq
  simpa using this
end
end Go.Sw
namespace Go.Sw
open Go
mutual
def fzV (k m:Nat):AV->AV
 | .own j n=>bif Nat.beq j k then .buf j m else .own j n
 | .ag l=>.ag (fzL k m l)
 | .tu l=>.tu (fzL k m l)
 | .fnv f l=>.fnv f (fzL k m l)
 | v=>v
def fzL (k m:Nat):List AV->List AV
 | []=>[]
 | v :: r=>fzV k m v :: fzL k m r
end
mutual
def p8 (k n:Nat):AV->Bool
 | .own j m=>!Nat.beq j k||Nat.beq m n
 | .optr j _ _=>!Nat.beq j k
 | .ag l=>tP k n l
 | .tu l=>tP k n l
 | .fnv _ l=>tP k n l
 | _=>true
def tP (k n:Nat):List AV->Bool
 | []=>true
 | v :: r=>p8 k n v&&tP k n r
end
def fzB (k m:Nat):ABlk->ABlk
 | .var l=>.var (fzL k m l)
 | .own w l=>.own w (fzL k m l)
 | .buf c=>.buf c
def fyE (k m:Nat):List (Nat×AV)->List (Nat×AV)
 | []=>[]
 | (t,v) :: r=>(t,fzV k m v) :: fyE k m r
def eA (k m:Nat) (c:PV):List (Nat×ABlk)->List (Nat×ABlk)
 | []=>[]
 | (i,b) :: r=>(bif Nat.beq i k then (i,.buf c) else (i,fzB k m b)) :: eA k m c r
def jS (k n:Nat):List (Nat×AV)->Bool
 | []=>true
 | (_,v) :: r=>p8 k n v&&jS k n r
def o0 (k n:Nat):List (Nat×ABlk)->Bool
 | []=>true
 | (_,.var l) :: r=>tP k n l&&o0 k n r
 | (_,.own _ l) :: r=>tP k n l&&o0 k n r
 | (_,.buf _) :: r=>o0 k n r
theorem nY (k m:Nat):∀ (l:List AV),(fzL k m l).length=l.length/\∀ (j:Nat),(fzL k m l)[j]? = (l[j]?).map (fzV k m)
 | []=>⟨rfl,by simp [fzL]⟩
 | v :: r=>by
  obtain ⟨h1,h2⟩:=nY k m r
  refine ⟨by simp [fzL,h1],λj=>?_⟩
  cases j with
  | zero=>simp [fzL]
  | succ j=>simp [fzL,h2 j]
theorem gY {k n:Nat}:∀ (l:List AV),tP k n l=true->∀ (j:Nat) (q:AV),l[j]? = some q->p8 k n q=true
 | [],_,_,_,h=>by simp at h
 | v :: r,h,0,q,hq=>by
  simp only [tP,Bool.and_eq_true] at h
  simp at hq
  rw [<- hq];exact h.1
 | v :: r,h,j+1,q,hq=>by
  simp only [tP,Bool.and_eq_true] at h
  exact gY r h.2 j q (by simpa using hq)
theorem zJw {k m:Nat} {α:Type} (f:α->PV):∀ (l:List α),fzL k m (l.map λx=>AV.p (f x))=l.map λx=>AV.p (f x)
 | []=>rfl
 | _ :: r=>by simp only [List.map_cons,fzL,fzV];rw [zJw f r]
theorem zIu {k m:Nat}:∀ (l:List PV),fzL k m (l.map AV.p)=l.map AV.p
 | []=>rfl
 | _ :: r=>by simp only [List.map_cons,fzL,fzV];rw [zIu r]
theorem mQ {k n:Nat} {α:Type} (f:α->PV):∀ (l:List α),tP k n (l.map λx=>AV.p (f x))=true
 | []=>rfl
 | _ :: r=>by simp only [List.map_cons,tP,p8,Bool.true_and];exact mQ f r
theorem mJ {k n:Nat}:∀ (l:List PV),tP k n (l.map AV.p)=true
 | []=>rfl
 | _ :: r=>by simp only [List.map_cons,tP,p8,Bool.true_and];exact mJ r
theorem jS.mem {k n:Nat}:∀ {l:List (Nat×AV)},jS k n l=true->∀ {t v},(t,v)∈l->p8 k n v=true
 | (_,_) :: _,h,_,_,hm=>by
  simp only [jS,Bool.and_eq_true] at h
  rcases List.mem_cons.1 hm with e | hm
  ·cases e;exact h.1
  ·exact jS.mem h.2 hm
theorem o0.mem {k n:Nat}:∀ {l:List (Nat×ABlk)},o0 k n l=true->∀ {t b},(t,b)∈l->(∀ v,b=.var v->tP k n v=true)/\∀ w v,b=.own w v->tP k n v=true
 | (_,.var u) :: _,h,_,_,hm=>by
  simp only [o0,Bool.and_eq_true] at h
  rcases List.mem_cons.1 hm with e | hm
  ·cases e;exact ⟨λv e=>(by cases e;exact h.1),λw v e=>(by cases e)⟩
  ·exact o0.mem h.2 hm
 | (_,.own w u) :: _,h,_,_,hm=>by
  simp only [o0,Bool.and_eq_true] at h
  rcases List.mem_cons.1 hm with e | hm
  ·cases e;exact ⟨λv e=>(by cases e),λw v e=>(by cases e;exact h.1)⟩
  ·exact o0.mem h.2 hm
 | (_,.buf u) :: _,h,_,_,hm=>by
  simp only [o0] at h
  rcases List.mem_cons.1 hm with e | hm
  ·cases e;exact ⟨λv e=>(by cases e),λw v e=>(by cases e)⟩
  ·exact o0.mem h hm
theorem zM6 {k m:Nat}:∀ {l:List (Nat×AV)} {t:Nat} {v:AV},lk (fyE k m l) t=some v->∃ u,lk l t=some u/\v=fzV k m u
 | [],_,_,h=>by simp [fyE,lk] at h
 | (i,x) :: r,t,v,h=>by
  simp only [fyE,lk] at h ⊢
  cases hb:Nat.beq t i with
  | true=>simp [hb] at h;exact ⟨x,by simp,h.symm⟩
  | false=>simp [hb] at h;simpa using zM6 h
theorem cO {k m:Nat} {c:PV}:∀ {l:List (Nat×ABlk)} {t:Nat},lk (eA k m c l) t=(lk l t).map (λb=>bif Nat.beq t k then .buf c else fzB k m b)
 | [],t=>by simp [eA,lk]
 | (i,x) :: r,t=>by
  simp only [eA,lk]
  cases hb:Nat.beq t i with
  | true=>
   have:=Nat.eq_of_beq_eq_true hb
   subst this
   cases hk:Nat.beq t k<;>simp [lk]
  | false=>
   cases hk:Nat.beq i k<;>simp [lk,hb,cO]
theorem RepA.fz {M M':Mem} {κ:Nat->Option Nat} {tip:Nat->Value} {B B':Nat->Option ABlk} {k n wd:Nat} {l:List AV} {c:PV} (hM:M.le M') (hk:B k=some (.own wd l)) (hn:n*wd=l.length) (hB:∀ i b,i≠k->B i=some b->B' i=some (fzB k n b)) (hk':B' k=some (.buf c)) (hc:c.isSlice=true) (hcl:c.len=n) (hr':Rep M' c (tip k))
  {v:AV} {x:Value} (hr:RepA M κ tip B v x):p8 k n v=true->RepA M' κ tip B' (fzV k n v) x:=by
 have nek:∀ {i:Nat} {b:ABlk},B i=some b->(∀ w l,b≠.own w l)->i≠k:=by
  rintro i b h1 h2 rfl
  rw [hk] at h1
  cases h1
  exact h2 _ _ rfl
 induction hr with
 | p v x h1=>intro _;exact .p v x (h1.mono hM)
 | nl c h1=>intro _;exact .nl c h1
 | ptr i o b l h1 h2=>intro _;exact .ptr i o b _ h1 (hB i _ (nek h2 (by intros;simp)) h2)
 | ref i o n b l h1 h2=>intro _;exact .ref i o n b _ h1 (hB i _ (nek h2 (by intros;simp)) h2)
 | buf i n c x h1 hs h2 h3 h4=>intro _;exact .buf i n c x (hB i _ (nek h1 (by intros;simp)) h1) hs h2 (h3.mono hM) h4
 | ag l vs h1 _ ih=>
  intro h
  obtain ⟨r1,r2⟩:=nY k n l
  refine .ag _ vs (by omega) (λj q hq=>?_)
  rw [r2] at hq
  obtain ⟨q',h3,h4⟩:=Option.map_eq_some_iff.1 hq
  subst h4
  exact ih j q' h3 (gY l h j q' h3)
 | tu l vs h1 _ ih=>
  intro h
  obtain ⟨r1,r2⟩:=nY k n l
  refine .tu _ vs (by omega) (λj q hq=>?_)
  rw [r2] at hq
  obtain ⟨q',h3,h4⟩:=Option.map_eq_some_iff.1 hq
  subst h4
  exact ih j q' h3 (gY l h j q' h3)
 | fnv f l vs h1 _ ih=>
  intro h
  obtain ⟨r1,r2⟩:=nY k n l
  refine .fnv f _ vs (by omega) (λj q hq=>?_)
  rw [r2] at hq
  obtain ⟨q',h3,h4⟩:=Option.map_eq_some_iff.1 hq
  subst h4
  exact ih j q' h3 (gY l h j q' h3)
 | own i m w l0 x h1 h2 h3 hs=>
  intro h
  simp only [p8] at h
  cases hb:Nat.beq i k with
  | true=>
   have:=Nat.eq_of_beq_eq_true hb
   subst this
   simp [hb] at h
   subst h
   rw [hk] at h1
   cases h1
   simp only [fzV,hb,cond_true]
   have hx:=h3 hn
   refine .buf i m c x hk' hc (by omega) ?_ (λ_=>hx)
   rw [<- hcl,vS hc,hx]
   exact hr'
  | false=>
   have hne:i≠k:=by rintro rfl;simp at hb
   simp only [fzV,hb,cond_false]
   obtain ⟨r1,r2⟩:=nY k n l0
   exact .own i m w (fzL k n l0) x (hB i _ hne h1) (by omega) (λe=>h3 (by omega)) hs
 | optr i m o w l0 x h1 h2 h3 hs=>
  intro h
  simp only [p8] at h
  have hne:i≠k:=by rintro rfl;simp at h
  obtain ⟨r1,r2⟩:=nY k n l0
  exact .optr i m o w (fzL k n l0) x (hB i _ hne h1) (by omega) (λe=>h3 (by omega)) hs
theorem Imp.freezeO {pk:List (Nat×Nat)} {env env':List (Nat×AV)} {blk blk':List (Nat×ABlk)} (k:Nat) {n wd:Nat} {l:List AV} {cs:List PV} {bs:List (Nat×ABlk)} {c:PV} (hb:lk blk k=some (.own wd l)) (hn:n*wd=l.length) (hrd:(mkS env blk).rdL l=some (cs,bs)) (hc:Lit' wd c cs) (hcn:c.len=n) {m:Nat} (hm:m=n)
  (h1:jS k n env=true) (h2:o0 k n blk=true) (he:fyE k m env=env') (hbb:eA k m c blk=blk'):Imp pk (mkS env blk) (mkS env' blk'):=by
 subst he hbb hm
 intro cx a w hcx hs
 obtain ⟨M,κ,tip,h0,hp,hi⟩:=hs
 obtain ⟨g1,g2⟩:=hi.owns k wd l hb
 have key:∃ M',M.le M'/\Rep M' c (tip k)/\c.isSlice=true/\c.width=wd/\(∀ b o x,M' b o=some x->w.cell? ⟨b,o,none⟩=some x)/\(∀ b o,κ k≠some b->M' b o=M b o) /\
   ((tip k=.slice none 0 0/\κ k=none)∨∃ b n cap arr e fz,tip k=.slice (some ⟨b,0,none⟩) n cap/\κ k=some b/\cx.w0.heap.size<=b /\
    w.heap[b]? = some (.cells arr e fz)/\bM fz arr.size/\cap*c.width<=arr.size/\cap<=maxLen/\∀ j,n*c.width<=j->M' b j=none):=by
  rcases g2 with ⟨y1,y2,rfl⟩ | ⟨b,n',cap,arr,e,fz,q1,q2,q3,q4,q5,q6,q7,q8,q9,q10,q11⟩
  ·simp [AS.rdL] at hrd
   obtain ⟨rfl,rfl⟩:=hrd
   obtain ⟨c1,c2,c3,c4⟩:=hc.cells (M:=M) (f:=λ_=>undef) (by simp)
   have hl0:c.len=0:=by
    rcases Nat.eq_zero_or_pos c.len with h | h
    ·exact h
    ·have:=Nat.mul_pos h g1;simp at c4;omega
   refine ⟨M,Mem.le_refl M,?_,c2,c3,hi.mem,λ_ _ _=>rfl,.inl ⟨y1,y2⟩⟩
   rw [y1]
   cases c with
   | bytes l=>simp [PV.len] at hl0;subst hl0;exact .bytes0
   | sl w l=>simp [PV.len] at hl0;subst hl0;exact .sl0 w
   | _=>simp [PV.isSlice] at c2
  ·have hnn:n'=m:=Nat.eq_of_mul_eq_mul_right g1 (by omega)
   subst hnn
   have hfit:n'*wd<=cap*wd:=Nat.mul_le_mul_right _ q8
   obtain ⟨r1,r2⟩:=lM hrd q10
   obtain ⟨c1,c2,c3,c4⟩:=hc.cells r2
   have hle:M.le (yJ M b 0 (n'*wd) (arr[·]?)):=wH λo _ _=>q11 o
   refine ⟨yJ M b 0 (n'*wd) (arr[·]?),hle,?_,c2,c3,λb' o x h=>?_,λb' o hne=>?_,.inr ⟨b,n',cap,arr,e,fz,q1,q2,q3,q4,q5,by rw [c3];exact q7,q9,λj hj=>?_⟩⟩
   ·rw [q1]
    have:=yX (M':=yJ M b 0 (n'*wd) (arr[·]?)) (b:=b) (o:=0) (cap:=cap) c1 c2 hle ?_ (by omega)
    ·rwa [hcn] at this
    intro j hj
    rw [hcn,c3] at hj
    simp only [yJ,Nat.zero_add]
    rw [if_pos ⟨trivial,Nat.zero_le _,hj⟩]
    have:j<arr.size:=by omega
    simp [this]
   ·unfold yJ at h
    split at h
    ·rename_i hc'
     obtain ⟨rfl,_,hlt⟩:=hc'
     simp only [World.cell?,q4]
     simpa using h
    ·exact hi.mem b' o x h
   ·unfold yJ
    rw [if_neg (by intro h;exact hne (by rw [h.1];exact q2))]
   ·unfold yJ
    rw [c3] at hj
    rw [if_neg (by omega)]
    exact q11 j
 obtain ⟨M',hle,hrep,hcs,hcw,hmem,hoth,hrow⟩:=key
 have hB:∀ i b,i≠k->lk blk i=some b->lk (eA k m c blk) i=some (fzB k m b):=λi b hne h=>by
  have:Nat.beq i k=false:=by rw [Bool.eq_false_iff];intro e;exact hne (Nat.eq_of_beq_eq_true e)
  rw [cO,h,this]
  rfl
 have hBk:lk (eA k m c blk) k=some (.buf c):=by rw [cO,hb];simp
 have hBi:∀ i b',lk (eA k m c blk) i=some b'->(i=k/\b'=.buf c)∨(i≠k/\∃ b,lk blk i=some b/\b'=fzB k m b):=by
  intro i b' h
  rw [cO] at h
  obtain ⟨b,h3,h4⟩:=Option.map_eq_some_iff.1 h
  cases hq:Nat.beq i k with
  | true=>simp [hq] at h4;exact .inl ⟨Nat.eq_of_beq_eq_true hq,h4.symm⟩
  | false=>simp [hq] at h4;exact .inr ⟨by rintro rfl;simp at hq,b,h3,h4.symm⟩
 have hmap:∀ {v:AV} {x:Value},RepA M κ tip (lk blk) v x->p8 k m v=true->RepA M' κ tip (lk (eA k m c blk)) (fzV k m v) x:=λh ho=>h.fz hle hb hn hB hBk hcs hcn hrep ho
 have hcells:∀ (li:List AV),tP k m li=true->∀ {arr:Array Value},(∀ (j:Nat) (q:AV),li[j]? = some q->RepA M κ tip (lk blk) q (arr.getD j undef))->∀ (j:Nat) (q:AV),(fzL k m li)[j]? = some q->RepA M' κ tip (lk (eA k m c blk)) q (arr.getD j undef):=by
  intro li ho arr hr j q hq
  rw [(nY k m li).2] at hq
  obtain ⟨q',h3,h4⟩:=Option.map_eq_some_iff.1 hq
  subst h4
  exact hmap (hr j q' h3) (gY li ho j q' h3)
 refine ⟨M',κ,tip,h0.trans' hle,hp,{
  defers:=hi.defers
  size:=hi.size
  fr:=hi.fr
  mem:=hmem
  env:=λu v h=>by
   obtain ⟨v',h3,rfl⟩:=zM6 (show lk (fyE k m env) u=some v from h)
   obtain ⟨y,h4,h5⟩:=hi.env u v' h3
   exact ⟨y,h4,hmap h5 (jS.mem h1 (vM env u v' h3))⟩
  vars:=λi li h=>by
   rcases hBi i _ h with ⟨_,h3⟩ | ⟨hne,b,h3,h4⟩
   ·cases h3
   ·cases b with
    | buf _=>simp [fzB] at h4
    | own _ _=>simp [fzB] at h4
    | var l0=>
     simp only [fzB,ABlk.var.injEq] at h4
     subst h4
     obtain ⟨b2,arr2,e2,fz2,z1,z2,z3,z4,z5,z6,z7⟩:=hi.vars i l0 h3
     exact ⟨b2,arr2,e2,fz2,z1,z2,z3,by rw [(nY k m l0).1];exact z4,hcells l0 ((o0.mem h2 (vM blk i _ h3)).1 l0 rfl) z5,λo=>by rw [hoth b2 o (λe=>hne (hi.inj i k b2 z1 e))];exact z6 o,z7⟩
  bufs:=λi ci h=>by
   rcases hBi i _ h with ⟨rfl,h3⟩ | ⟨hne,b,h3,h4⟩
   ·cases h3
    exact ⟨hrep,hcs,by omega,hrow⟩
   ·cases b with
    | own _ _=>simp [fzB] at h4
    | var _=>simp [fzB] at h4
    | buf c0=>
     simp only [fzB,ABlk.buf.injEq] at h4
     subst h4
     obtain ⟨z1,z2,z3,z4⟩:=hi.bufs i ci h3
     refine ⟨z1.mono hle,z2,z3,?_⟩
     rcases z4 with z4 | ⟨b2,n2,cap2,arr2,e2,fz2,y1,y2,y3,y4,y5,y6,y7,y8⟩
     ·exact .inl z4
     ·exact .inr ⟨b2,n2,cap2,arr2,e2,fz2,y1,y2,y3,y4,y5,y6,y7,λj hj=>by rw [hoth b2 j (λe=>hne (hi.inj i k b2 y2 e))];exact y8 j hj⟩
  inj:=hi.inj
  dom:=λi h=>by
   have h':lk (eA k m c blk) i=none:=h
   rw [cO] at h'
   exact hi.dom i (show lk blk i=none by simpa using h')
  glob:=hi.glob.mono hle
  old:=λb' o hb'=>by
   rw [hoth b' o (λe=>?_)]
   ·exact hi.old b' o hb'
   ·rcases hrow with ⟨_,y2⟩ | ⟨b,_,_,_,_,_,_,y2,y3,_⟩
    ·rw [y2] at e;cases e
    ·rw [y2] at e;cases e;omega
  owns:=λi wi li h=>by
   rcases hBi i _ h with ⟨_,h3⟩ | ⟨hne,b,h3,h4⟩
   ·cases h3
   ·cases b with
    | buf _=>simp [fzB] at h4
    | var _=>simp [fzB] at h4
    | own w0 l0=>
     simp only [fzB,ABlk.own.injEq] at h4
     obtain ⟨rfl,rfl⟩:=h4
     obtain ⟨z0,z⟩:=hi.owns i wi l0 h3
     refine ⟨z0,?_⟩
     rcases z with ⟨z1,z2,rfl⟩ | ⟨b2,n2,cap2,arr2,e2,fz2,y1,y2,y3,y4,y5,y6,y7,y8,y9,y10,y11⟩
     ·exact .inl ⟨z1,z2,rfl⟩
     ·exact .inr ⟨b2,n2,cap2,arr2,e2,fz2,y1,y2,y3,y4,y5,by rw [(nY k m l0).1];exact y6,y7,y8,y9,hcells l0 ((o0.mem h2 (vM blk i _ h3)).2 wi l0 rfl) y10,λo=>by rw [hoth b2 o (λe=>hne (hi.inj i k b2 y2 e))];exact y11 o⟩}⟩
theorem Imp.promO {pk:List (Nat×Nat)} {s:AS} {t k:Nat} {c:PV} (wd:Nat) (he:s.env t=some (.nl c)) (hk:s.blk k=none) (hw:Nat.blt 0 wd=true):Imp pk s ((s.setb k (.own wd [])).put t (.own k 0)):=by
 intro cx a w _ hs
 obtain ⟨M,κ,tip,h0,hp,hi⟩:=hs
 have hw':=Nat.le_of_ble_eq_true hw
 have hinv:=hi.ownNil (k:=k) (wd:=wd) hk (by omega)
 obtain ⟨x,hx1,hx2⟩:=hi.env t _ he
 cases hx2 with
 | nl _ hc=>
 refine ⟨M,κ,_,h0,hp,{ hinv with env:=λu v h=>?_ }⟩
 simp only [AS.put] at h
 cases hb:Nat.beq u t with
 | true=>
  have:=Nat.eq_of_beq_eq_true hb
  subst this
  simp at h
  subst h
  exact ⟨_,hx1,.own k 0 wd [] _ (zF _ _ _) (by simp) (λ_=>(zY _ _ _).symm) ⟨_,_,_,rfl⟩⟩
 | false=>
  simp [hb] at h
  exact hinv.env u v h
end Go.Sw
namespace Go.Sw
open Go
abbrev qO (c:PV):ABlk:=.own c.width c.ecs
theorem zAk:∀ (a b:List PV),yO (a++b)=yO a++yO b
 | [],_=>rfl
 | x :: r,b=>by simp [yO,zAk r b]
theorem o6 (l:List UInt8):l.length*1=(PV.ecs (.bytes l)).length:=by simp [PV.ecs]
theorem jA {α:Type} {f:α->PV} {w:Nat} (hf:∀ a,(f a).cells.length=w):∀ (l:List α),(yO (l.map f)).length=l.length*w
 | []=>by simp [yO]
 | x :: r=>by simp only [List.map_cons,yO,List.length_append,hf,jA hf r,List.length_cons];rw [Nat.add_mul];omega
theorem qV {α:Type} {f:α->PV} {w:Nat} (hf:∀ a,(f a).cells.length=w) (l:List α):l.length*w=(PV.ecs (.sl w (l.map f))).length:=by simp [PV.ecs,jA hf]
theorem zP2 {s:AS}:∀ (l:List PV),s.rdL (l.map AV.p)=some (l,[])
 | []=>rfl
 | x :: r=>by simp [AS.rdL,AS.rd,zP2 r]
theorem zPl {s:AS} (l:List UInt8):s.rdL (PV.ecs (.bytes l))=some (l.map λx=>PV.int .u8 x.toNat,[]):=by
 simp only [PV.ecs];exact qW
theorem zOn {s:AS} {w:Nat} (l:List PV):s.rdL (PV.ecs (.sl w l))=some (yO l,[]):=by simp only [PV.ecs];exact zP2 _
theorem zEh {α:Type} {f:α->PV} {w:Nat} (hf:∀ a,(f a).cells.length=w) {l:List α} {j:Nat} {u:α} (h:l[j]? = some u) {o:Nat} {q:PV} (hq:(f u).cells[o]? = some q):(PV.ecs (.sl w (l.map f)))[j*w+o]? = some (.p q):=by
 obtain ⟨_,h2⟩:=bT (l.map f) (w:=w) (by intro p hp;obtain ⟨a,_,rfl⟩:=List.mem_map.1 hp;exact hf a)
 simp only [PV.ecs,List.getElem?_map]
 rw [h2 j (f u) o q (by simp [h]) hq]
 rfl
theorem zL0 {α:Type} {f:α->PV} {w:Nat} (hf:∀ a,(f a).cells.length=w) {l:List α} {j:Nat} (u:α) (h:j<l.length):rB (PV.ecs (.sl w (l.map f))) (j*w) ((f u).cells.map AV.p)=PV.ecs (.sl w ((l.set j u).map f)):=by
 have hlen:=qV hf l
 have hjw:(j+1)*w<=l.length*w:=Nat.mul_le_mul_right _ h
 rw [Nat.add_mul] at hjw
 have hcl:((f u).cells.map AV.p).length=w:=by simp [hf]
 have hw:∀ p∈(l.set j u).map f,p.cells.length=w:=by intro p hp;obtain ⟨a,_,rfl⟩:=List.mem_map.1 hp;exact hf a
 have hw0:∀ p∈l.map f,p.cells.length=w:=by intro p hp;obtain ⟨a,_,rfl⟩:=List.mem_map.1 hp;exact hf a
 apply List.ext_getElem?
 intro o
 rw [fG (by rw [hcl];omega),hcl]
 rcases Nat.eq_zero_or_pos w with hz | hpos
 ·subst hz
  have h1:(PV.ecs (.sl 0 (l.map f)))=[]:=List.eq_nil_of_length_eq_zero (by omega)
  have h2:(PV.ecs (.sl 0 ((l.set j u).map f)))=[]:=List.eq_nil_of_length_eq_zero (by have:=qV hf (l.set j u);omega)
  rw [if_neg (by omega),h1,h2]
 ·by_cases ho:o<l.length*w
  ·have hdm:w*(o / w)+o % w=o:=Nat.div_add_mod o w
   have he:o / w*w+o % w=o:=by rw [Nat.mul_comm];exact hdm
   have hi:o / w<l.length:=Nat.div_lt_of_lt_mul (by rw [Nat.mul_comm];exact ho)
   have hr:o % w<w:=Nat.mod_lt _ hpos
   by_cases hj:j*w<=o/\o<j*w+w
   ·rw [if_pos hj]
    have hjj:o / w=j:=Nat.div_eq_of_lt_le (by omega) (by rw [Nat.add_mul];omega)
    have hsub:o - j*w=o % w:=by rw [hjj] at he;omega
    have hlt:o % w<(f u).cells.length:=by rw [hf];exact hr
    have:=zEh hf (l:=l.set j u) (j:=j) (u:=u) (by simp [h]) (o:=o % w) (q:=(f u).cells[o % w]) (by simp)
    rw [hjj] at he
    rw [he] at this
    rw [this,hsub,List.getElem?_map]
    simp [hlt]
   ·rw [if_neg hj]
    have hne:o / w≠j:=by
     intro e
     rw [e] at he
     exact hj ⟨by omega,by omega⟩
    have hlt:o % w<(f l[o / w]).cells.length:=by rw [hf];exact hr
    have h1:=zEh hf (l:=l) (j:=o / w) (u:=l[o / w]) (by simp) (o:=o % w) (q:=(f l[o / w]).cells[o % w]) (by simp)
    have h2:=zEh hf (l:=l.set j u) (j:=o / w) (u:=l[o / w]) (by rw [List.getElem?_set_ne (Ne.symm hne)];simp) (o:=o % w) (q:=(f l[o / w]).cells[o % w]) (by simp)
    rw [he] at h1 h2
    rw [h1,h2]
  ·rw [if_neg (by omega),List.getElem?_eq_none (by omega),List.getElem?_eq_none (by have:=qV hf (l.set j u);rw [List.length_set] at this;omega)]
section
variable {P:Program} {s:AS} {v:AV} {x y:Operand}
theorem zCs {o:Oper} {p:PV} {bs:List (Nat×ABlk)} {t ta:TypeId} {i:TI} {ax:Operand} {k n wd off:Nat} {l:List AV} {te:TE} (hok:zX P te) (hd:o.dst=none) (ho:o.op=.store t ax x) (ht:te t=some i) (ha:s.get te ta ax=some (.optr k n off)) (hx:s.get te t x=some v) (hp:s.rd v=some (p,bs)) (hb:s.blk k=some (.own wd l)) (hn:n*wd=l.length)
  (hw:p.cells.length=i.w) (hl:off+i.w<=l.length) (hone:p.cells.all PV.one=true):SA P o s ⟨opS ax (.optr k n off)++opS x v,(k,.own wd l) :: bs,[],none,[(k,.own wd (rB l off (p.cells.map AV.p)))]⟩:=by
 have hpc:(AV.p p).cells=p.cells.map AV.p:=by cases p<;>rfl
 refine ⟨?_,zS (zB ha) (zB hx),?_,by intro e he;simp at he⟩
 ·intro cx s' a w K Q hm hs hws hk
  obtain ⟨M,κ,tip,h0,hpk,hi⟩:=hs
  have hbk:=hm.2.1 (k,.own wd l) (by simp)
  simp only at hbk
  have hr:=p9 hi hx hp (zH hm.1) (λe he=>hm.2.1 e (by simp [he]))
  have ha':=zI hi (zP ha s' (zL hm.1))
  have hx':RepA M κ tip s'.blk (.p p) (a.eval x):=.p _ _ hr
  obtain ⟨hc1,hc2⟩:=kH hx'
  rw [hpc] at hc1 hc2
  obtain ⟨g1,g2⟩:=hi.owns k wd l hbk
  generalize hev:a.eval ax=z at ha'
  cases ha' with
  | optr _ _ _ w' l' _ h1 h2 h3 hs=>
   rw [hbk] at h1
   cases h1
   obtain ⟨b,hκ,rfl⟩:=h3 hn
   rcases g2 with ⟨_,y2,_⟩ | ⟨b',n1,cap,arr,e1,fz,q1,q2,q3,q4,q5,q6,q7,q8,q9,q10,q11⟩
   ·rw [hκ] at y2;cases y2
   ·rw [hκ] at q2
    cases q2
    have hnn:n1=n:=Nat.eq_of_mul_eq_mul_right g1 (by omega)
    subst hnn
    have hfit:n1*wd<=cap*wd:=Nat.mul_le_mul_right _ q8
    have hpl:(p.cells.map AV.p).length=i.w:=by simp [hw]
    have hsz:(a.eval x).cells.toList.length=(p.cells.map AV.p).length:=by simp only [Array.length_toList,hc1]
    have hrun:=run_storeCells_cells (P:=P) b off (a.eval x).cells.toList 0 w
     (by
       intro j hj;rw [hsz] at hj;have:off+j<arr.size:=by omega
       simp [World.cell?,q4,this])
     (by intro j hj;rw [hsz] at hj;simp only [Nat.add_zero];exact qC q4 q5 (by omega))
     (by
      intro u hu
      obtain ⟨j,hj,hju⟩:=List.getElem_of_mem hu
      have hjl:j<p.cells.length:=by simp only [List.length_map] at hsz;omega
      have hq:=hc2 j (.p p.cells[j]) (by simp [hjl])
      have hjs:j<(a.eval x).cells.size:=by simpa using hj
      have:(a.eval x).cells.getD j undef=u:=by simp [hjs];simpa using hju
      rw [this] at hq
      exact c8 hq ((List.all_eq_true.1 hone) _ (List.getElem_mem _)))
    unfold Oper.wp
    have:(execOp a.eval o).run P w=.ok .skip (w.setCells b off (a.eval x).cells.toList):=by
     simp only [Nat.add_zero] at hrun
     have hcs:¬ ((a.eval x).cells.size≠i.w):=by rw [hc1,hpl];simp
     simp [execOp,ho,hev,Instr.storeAt,Instr.sureAddr,storeVar,vL hok ht,hcs,hrun]
    rw [this]
    show K (a.put o.dst undef) _
    rw [hd]
    refine hk _ _ ?_
    rw [fP]
    obtain ⟨arr',z1,z2,z3⟩:=rD b (a.eval x).cells.toList off w arr e1 fz q4 (by omega)
    have hlen:=aI (l:=l) (cs:=p.cells.map AV.p) (off:=off) (by omega)
    refine ⟨M,κ,_,h0,hpk,hi.ownSet (n':=n1) hbk q1 hκ q3 (by rw [z2];exact q5) z1 (by rw [z2];exact q7) q8 q9 g1 q11 (by omega) (by omega) q6 ?_⟩
    intro j q hq
    rw [fG (by omega)] at hq
    rw [Array.getD_eq_getD_getElem?,z3 j]
    by_cases hj:off<=j/\j<off+(p.cells.map AV.p).length
    ·rw [if_pos hj] at hq
     rw [if_pos (by omega)]
     have:=hc2 (j - off) q hq
     rw [Array.getD_eq_getD_getElem?] at this
     simpa using this
    ·rw [if_neg hj] at hq
     rw [if_neg (by omega)]
     have:=q10 j q hq
     rw [Array.getD_eq_getD_getElem?] at this
     exact this
 ·intro e he
  rcases List.mem_cons.1 he with he | he
  ·subst he;exact hb
  ·exact wO v p bs hp e he
end
section
variable {P:Program} [T:TEnv P] {ops:Array Oper} {s:AS} {r:List Oper} {K:AS->List Mic->Prop} {d:Nat} {ty:TypeId} {pos:String} {af:Array Edge} {v:AV} {x y:Operand}
theorem RK.xoB {t e:TypeId} {k0 j:Nat} {l:List UInt8} {i:Int} {ei:TI} {n:Nat} (hn:l.length=n) (h:ixN n i=some j) (ht:(T.te t).map (·.ty)=some (.slice e)) (he:T.te e=some ei) (hw:1=ei.w) (hx:s.get T.te t x=some (.own k0 n)) (hb:s.blk k0=some (qO (.bytes l))) (hy:s.get T.te 0 y=some (.p (.int .i64 i)))
  (k:VK P ops r s K d (opS x (.own k0 n)++opS y (.p (.int .i64 i))) [(k0,qO (.bytes l))] (.optr k0 n j)):RK P ops (⟨some d,.indexAddr t x y,ty,pos,af,none⟩:: r) s K:=by
 subst hn
 obtain ⟨h0,h1,h2⟩:=c9 h
 have:=zEq (P:=P) (o:=⟨some d,.indexAddr t x y,ty,pos,af,none⟩) T.ok rfl ht he hx hb (o6 l) hw hy h0 h1
 rw [<- h2,<- hw,Nat.mul_one] at this
 exact RK.va rfl rfl this k
theorem RK.xoM {α:Type} (f:α->PV) {w:Nat} {t e:TypeId} {k0 j:Nat} {l:List α} {i:Int} {ei:TI} {n:Nat} (hn:l.length=n) (h:ixN n i=some j) (hf:∀ a,(f a).cells.length=w) (ht:(T.te t).map (·.ty)=some (.slice e)) (he:T.te e=some ei) (hw:w=ei.w) (hx:s.get T.te t x=some (.own k0 n)) (hb:s.blk k0=some (qO (.sl w (l.map f)))) (hy:s.get T.te 0 y=some (.p (.int .i64 i)))
  (k:VK P ops r s K d (opS x (.own k0 n)++opS y (.p (.int .i64 i))) [(k0,qO (.sl w (l.map f)))] (.optr k0 n (j*w))):RK P ops (⟨some d,.indexAddr t x y,ty,pos,af,none⟩:: r) s K:=by
 subst hn
 obtain ⟨h0,h1,h2⟩:=c9 h
 have:=zEq (P:=P) (o:=⟨some d,.indexAddr t x y,ty,pos,af,none⟩) T.ok rfl ht he hx hb (qV hf l) hw hy h0 h1
 rw [<- h2,<- hw] at this
 exact RK.va rfl rfl this k
theorem RK.xoK {t e:TypeId} {k0 n w:Nat} {l:List AV} {ei:TI} (i:Nat) (h:Nat.blt i n=true) (ht:(T.te t).map (·.ty)=some (.slice e)) (he:T.te e=some ei) (hw:w=ei.w) (hx:s.get T.te t x=some (.own k0 n)) (hb:s.blk k0=some (.own w l)) (hn:Nat.beq (n*w) l.length=true) (hy:s.get T.te 0 y=some (.p (.int .i64 (i:Nat))))
  (k:VK P ops r s K d (opS x (.own k0 n)++opS y (.p (.int .i64 (i:Nat)))) [(k0,.own w l)] (.optr k0 n (i*w))):RK P ops (⟨some d,.indexAddr t x y,ty,pos,af,none⟩:: r) s K:=by
 have hi:=Nat.le_of_ble_eq_true h
 have:=zEq (P:=P) (o:=⟨some d,.indexAddr t x y,ty,pos,af,none⟩) T.ok rfl ht he hx hb (Nat.eq_of_beq_eq_true hn) hw hy (by omega) (by omega)
 rw [<- hw,Int.toNat_natCast] at this
 exact RK.va rfl rfl this k
theorem RK.lnO {t e:TypeId} {k0 n w:Nat} {l:List AV} (hn:n*w=l.length) (ht0:((T.te t).map (·.ty),s.get T.te t x,s.blk k0)=(some (.slice e),some (.own k0 n),some (.own w l))) (k:VK P ops r s K d (opS x (.own k0 n)) [(k0,.own w l)] (.p (.int .i64 n))):RK P ops (⟨some d,.call ⟨.builtin .len,#[x],#[t]⟩,ty,pos,af,none⟩:: r) s K:=have ⟨ht,ht0⟩:=pq ht0;have ⟨hx,hb⟩:=pq ht0;RK.va rfl rfl (zOl T.ok rfl ht hx hb hn) k
theorem RK.ldoB {t:TypeId} {k0 j:Nat} {l:List UInt8} {u:UInt8} {i:TI} {n:Nat} (hn:l.length=n) (h:l[j]? = some u) (ht:T.te t=some i) (hp:i.plain=true) (hx:s.get T.te 0 x=some (.optr k0 n j)) (hb:s.blk k0=some (qO (.bytes l)))
  (k:VK P ops r s K d (opS x (.optr k0 n j)) [(k0,qO (.bytes l))] (.p (.int .u8 u.toNat))):RK P ops (⟨some d,.load t x,ty,pos,af,none⟩:: r) s K:=by
 subst hn
 exact RK.va rfl rfl (zFz T.ok rfl ht hp hx hb (o6 l) (by simp [PV.ecs,h])) k
theorem RK.ldoK {t:TypeId} {k0 n w off:Nat} {l:List AV} {i:TI} (ht:T.te t=some i) (hp:i.plain=true) (hx:s.get T.te 0 x=some (.optr k0 n off)) (hb:s.blk k0=some (.own w l)) (hn:Nat.beq (n*w) l.length=true) (hv:l[off]? = some v)
  (k:VK P ops r s K d (opS x (.optr k0 n off)) [(k0,.own w l)] v):RK P ops (⟨some d,.load t x,ty,pos,af,none⟩:: r) s K:=
 RK.va rfl rfl (zFz T.ok rfl ht hp hx hb (Nat.eq_of_beq_eq_true hn) hv) k
theorem zHx {l:List UInt8} {j:Nat} (u:UInt8) (h:j<l.length):rB (PV.ecs (.bytes l)) j ([PV.int .u8 u.toNat].map AV.p)=PV.ecs (.bytes (l.set j u)):=by
 simp only [PV.ecs,List.map_cons,List.map_nil]
 rw [fV (by simpa using h),List.map_set]
theorem RK.stoB {t:TypeId} {i:TI} {ax:Operand} {k0 j:Nat} {l l':List UInt8} {u:UInt8} {n:Nat} (hn:l.length=n) (h:uN l j u=some l') (ht:T.te t=some i) (hw:i.w=1) (ha:s.get T.te 0 ax=some (.optr k0 n j)) (hx:s.get T.te t x=some (.p (.int .u8 u.toNat))) (hb:s.blk k0=some (qO (.bytes l)))
  (k:RK P ops r (s.setb k0 (qO (.bytes l'))) λs' ms=>K s' (⟨opS ax (.optr k0 n j)++opS x (.p (.int .u8 u.toNat)),[(k0,qO (.bytes l))],[],none,[(k0,qO (.bytes l'))]⟩:: ms)):RK P ops (⟨none,.store t ax x,ty,pos,af,none⟩:: r) s K:=by
 subst hn
 obtain ⟨h1,h2⟩:=kP h
 have hlen:=o6 l
 have:=zCs (P:=P) (o:=⟨none,.store t ax x,ty,pos,af,none⟩) T.ok rfl rfl ht ha hx rfl hb (o6 l) (by simp [PV.cells,hw]) (by omega) rfl
 have e:rB (PV.ecs (.bytes l)) j ((PV.int .u8 (u.toNat:Int)).cells.map AV.p)=PV.ecs (.bytes l'):=by rw [h2];exact zHx u h1
 rw [e] at this
 exact RK.so rfl this k
theorem RK.stoM {α:Type} (f:α->PV) {w:Nat} {t:TypeId} {i:TI} {ax:Operand} {k0 j:Nat} {l l':List α} {u:α} {bs:List (Nat×ABlk)} {n:Nat} (hn:l.length=n) (h:uN l j u=some l') (hf:∀ a,(f a).cells.length=w) (hone:∀ a,(f a).cells.all PV.one=true) (ht:T.te t=some i) (hw:w=i.w) (ha:s.get T.te 0 ax=some (.optr k0 n (j*w))) (hx:s.get T.te t x=some v) (hp:s.rd v=some (f u,bs)) (hb:s.blk k0=some (qO (.sl w (l.map f))))
  (k:RK P ops r (s.setb k0 (qO (.sl w (l'.map f)))) λs' ms=>K s' (⟨opS ax (.optr k0 n (j*w))++opS x v,(k0,qO (.sl w (l.map f))) :: bs,[],none,[(k0,qO (.sl w (l'.map f)))]⟩:: ms)):RK P ops (⟨none,.store t ax x,ty,pos,af,none⟩:: r) s K:=by
 subst hn
 obtain ⟨h1,h2⟩:=kP h
 have hjw:(j+1)*w<=l.length*w:=Nat.mul_le_mul_right _ h1
 rw [Nat.add_mul] at hjw
 have hlen:=qV hf l
 have:=zCs (P:=P) (o:=⟨none,.store t ax x,ty,pos,af,none⟩) T.ok rfl rfl ht ha hx hp hb (qV hf l) (by rw [hf,hw]) (by omega) (hone u)
 rw [show (PV.sl w (l.map f)).width=w from rfl,zL0 hf u h1,<- h2] at this
 exact RK.so rfl this k
theorem zLx (l:List UInt8):(PV.ecs (.bytes l)).all AV.one=true:=by simp [PV.ecs,AV.one,PV.one]
theorem zGv {α:Type} {f:α->PV} {w:Nat} (hone:∀ a,(f a).cells.all PV.one=true):∀ (l:List α),(PV.ecs (.sl w (l.map f))).all AV.one=true
 | []=>rfl
 | a :: r=>by
  have:=zGv hone r (w:=w)
  simp only [PV.ecs,List.map_cons,yO,List.map_append,List.all_append,Bool.and_eq_true] at this ⊢
  refine ⟨?_,this⟩
  have h2:=hone a
  simp only [List.all_eq_true,List.mem_map] at h2 ⊢
  rintro q ⟨p,hp,rfl⟩
  exact h2 p hp
theorem RK.aoB {t t2 e e2:TypeId} {ei:TI} {vy:AV} {bs:List (Nat×ABlk)} {b:Nat} {k0:Nat} {l m u:List UInt8} {n:Nat} (hn:l.length=n) (h:zZ b l m=some u) (ht:(T.te t).map (·.ty)=some (.slice e)) (he:T.te e=some ei) (ht2:(T.te t2).map (·.ty)=some (.slice e2)) (hx:s.get T.te t x=some (.own k0 n)) (hk:s.blk k0=some (qO (.bytes l))) (hcw:1=ei.w) (hz:ei.z.length=ei.w) (hy:s.get T.te t2 y=some vy) (hp:s.rd vy=some (.bytes m,bs)) (hb:ei.b=b) (hb1:Nat.blt 0 b=true)
  (k:BK P ops r s K d (opS x (.own k0 n)++opS y vy) ((k0,qO (.bytes l)) :: bs) [] k0 (qO (.bytes u)) (.own k0 u.length)):RK P ops (⟨some d,.call ⟨.builtin .append,#[x,y],#[t,t2]⟩,ty,pos,af,none⟩:: r) s K:=by
 subst hn
 obtain ⟨hu,hle⟩:=mE h
 subst hb
 have hb2:=Nat.le_of_ble_eq_true hb1
 have:=zFf (P:=P) (o:=⟨some d,.call ⟨.builtin .append,#[x,y],#[t,t2]⟩,ty,pos,af,none⟩) T.ok rfl rfl ht he (yE T.ok ht2) (.inr ⟨_,rfl⟩) hx hk (o6 l) hcw hz hy (wO vy _ bs hp) (zEc hy hp rfl hcw (by omega)) (by rw [<- hcw];exact (o6 m).symm) (zLx m) (by simpa [PV.src,PV.len] using hle) (by omega)
 have e1:PV.ecs (.bytes l)++PV.ecs (.bytes m)=PV.ecs (.bytes u):=by rw [hu];simp [PV.ecs]
 have e2:l.length+(PV.src (.bytes m)).len=u.length:=by rw [hu];simp [PV.src,PV.len]
 rw [e1,e2] at this
 exact RK.sb rfl this k
theorem RK.aoM {α:Type} (f:α->PV) {w:Nat} {t t2 e e2:TypeId} {ei:TI} {vy:AV} {bs:List (Nat×ABlk)} {b:Nat} {k0:Nat} {l m u:List α} {n:Nat} (hn:l.length=n) (h:zZ b l m=some u) (hf:∀ a,(f a).cells.length=w) (hone:∀ a,(f a).cells.all PV.one=true) (ht:(T.te t).map (·.ty)=some (.slice e)) (he:T.te e=some ei) (ht2:(T.te t2).map (·.ty)=some (.slice e2)) (hx:s.get T.te t x=some (.own k0 n)) (hk:s.blk k0=some (qO (.sl w (l.map f)))) (hcw:w=ei.w) (hw0:Nat.blt 0 w=true) (hz:ei.z.length=ei.w) (hy:s.get T.te t2 y=some vy) (hp:s.rd vy=some (.sl w (m.map f),bs)) (hb:ei.b=b) (hb1:Nat.blt 0 b=true)
  (k:BK P ops r s K d (opS x (.own k0 n)++opS y vy) ((k0,qO (.sl w (l.map f))) :: bs) [] k0 (qO (.sl w (u.map f))) (.own k0 u.length)):RK P ops (⟨some d,.call ⟨.builtin .append,#[x,y],#[t,t2]⟩,ty,pos,af,none⟩:: r) s K:=by
 subst hn
 obtain ⟨hu,hle⟩:=mE h
 subst hb
 have hb2:=Nat.le_of_ble_eq_true hb1
 have hw2:=Nat.le_of_ble_eq_true hw0
 have:=zFf (P:=P) (o:=⟨some d,.call ⟨.builtin .append,#[x,y],#[t,t2]⟩,ty,pos,af,none⟩) T.ok rfl rfl ht he (yE T.ok ht2) (.inr ⟨_,rfl⟩) hx hk (qV hf l) hcw hz hy (wO vy _ bs hp) (zEc hy hp rfl hcw (by omega)) (by rw [<- hcw];simp only [PV.src,PV.len,List.length_map];exact (qV hf m).symm) (zGv hone m) (by simpa [PV.src,PV.len] using hle) (by omega)
 have e1:PV.ecs (.sl w (l.map f))++PV.ecs (.sl w (m.map f))=PV.ecs (.sl w (u.map f)):=by rw [hu];simp [PV.ecs,zAk]
 have e2:l.length+(PV.src (.sl w (m.map f))).len=u.length:=by rw [hu];simp [PV.src,PV.len]
 rw [e1,e2] at this
 exact RK.sb rfl this k
theorem RK.aoR {w:Nat} {t t2 e e2:TypeId} {ei:TI} {b k0 k2 n m:Nat} {l l2:List AV} (ht:(T.te t).map (·.ty)=some (.slice e)) (he:T.te e=some ei) (ht2:(T.te t2).map (·.ty)=some (.slice e2)) (hx:s.get T.te t x=some (.own k0 n)) (hk:s.blk k0=some (.own w l)) (hn:Nat.beq (n*w) l.length=true) (hcw:w=ei.w) (hz:ei.z.length=ei.w) (hy:s.get T.te t2 y=some (.ref k2 0 m)) (hk2:s.blk k2=some (.var l2)) (hm:Nat.beq l2.length (m*w)=true) (hone:l2.all AV.one=true) (hb:ei.b=b) (hb1:Nat.blt 0 b=true) (hle:Nat.ble ((n+m)*b) 140737488355328=true)
  (k:BK P ops r s K d (opS x (.own k0 n)++opS y (.ref k2 0 m)) [(k0,.own w l),(k2,.var l2)] [] k0 (.own w (l++l2)) (.own k0 (n+m))):RK P ops (⟨some d,.call ⟨.builtin .append,#[x,y],#[t,t2]⟩,ty,pos,af,none⟩:: r) s K:=by
 subst hb
 have hb2:=Nat.le_of_ble_eq_true hb1
 have hm2:=Nat.eq_of_beq_eq_true hm
 exact RK.sb rfl (zFf (P:=P) (o:=⟨some d,.call ⟨.builtin .append,#[x,y],#[t,t2]⟩,ty,pos,af,none⟩) T.ok rfl rfl ht he (yE T.ok ht2) (.inr ⟨_,rfl⟩) hx hk (Nat.eq_of_beq_eq_true hn) hcw hz hy (by intro e he;simp at he;subst he;exact hk2) (by rw [<- hcw];exact zGy hy hm2) (by rw [<- hcw];exact hm2) hone (zJ hle) (by omega)) k
theorem RK.anR {w:Nat} {t t2 e e2:TypeId} {ei:TI} {c:PV} {b k2 m:Nat} {l2:List AV} (ht:(T.te t).map (·.ty)=some (.slice e)) (he:T.te e=some ei) (ht2:(T.te t2).map (·.ty)=some (.slice e2)) (hx:s.get T.te t x=some (.nl c)) (hcw:w=ei.w) (hw0:Nat.blt 0 w=true) (hz:ei.z.length=ei.w) (hy:s.get T.te t2 y=some (.ref k2 0 m)) (hk2:s.blk k2=some (.var l2)) (hm:Nat.beq l2.length (m*w)=true) (hb:ei.b=b) (hb1:Nat.blt 0 b=true) (hle:Nat.ble (m*b) 140737488355328=true) (hk:s.blk d=none)
  (k:BK P ops r s K d (opS x (.nl c)++opS y (.ref k2 0 m)) [(k2,.var l2)] [d] d (.own w l2) (.own d m)):RK P ops (⟨some d,.call ⟨.builtin .append,#[x,y],#[t,t2]⟩,ty,pos,af,none⟩:: r) s K:=by
 subst hb
 have hb2:=Nat.le_of_ble_eq_true hb1
 have hw2:=Nat.le_of_ble_eq_true hw0
 have hm2:=Nat.eq_of_beq_eq_true hm
 have:=zNm (P:=P) (bs:=[(k2,.var l2)]) (o:=⟨some d,.call ⟨.builtin .append,#[x,y],#[t,t2]⟩,ty,pos,af,none⟩) T.ok rfl rfl ht he (yE T.ok ht2) (.inr ⟨_,rfl⟩) hx (by omega) hz hy (by intro e he;simp at he;subst he;exact hk2) (by rw [<- hcw];exact zGy hy hm2) (by rw [<- hcw];exact hm2) (zJ hle) (by omega) hk
 rw [<- hcw] at this
 exact RK.sb rfl this k
theorem RK.clO {f:FuncId} {xs:Array Operand} {ts:Array TypeId} {xl:List Operand} {tl:List TypeId} {ps:List PV} {rs:List (Nat×AV)} {bb:List (Nat×ABlk)} {na:Nat} {av:AV} {blks blks':List (Nat×ABlk)} (h:Ok P f na (mkS (argE 0 ps) []) (mkS [(0,av)] blks)) (hB:bR (sh d) blks=blks') (hxl0:(xs.toList,ts.toList)=(xl,tl)) (ha:Args s T.te xl tl ps rs bb) (hn0:(Nat.beq na ps.length,(kR (sh d) blks).all (λk=>(s.blk k).isNone))=(true,true))
  (k:RK P ops r (Mic.upd ⟨rs,bb,kR (sh d) blks,some (d,some (av.ren (sh d))),blks'⟩ s) λs' ms=>K s' (⟨rs,bb,kR (sh d) blks,some (d,some (av.ren (sh d))),blks'⟩:: ms)):RK P ops (⟨some d,.call ⟨.value (.func f),xs,ts⟩,ty,pos,af,none⟩:: r) s K:=have ⟨hxl,htl⟩:=pq hxl0;have ⟨hn,hf⟩:=pq hn0;by
 subst hB
 subst hxl htl;exact RK.cl h rfl ha (by rw [hn,hf]) k
theorem RK.lo {t e:TypeId} {ei:TI} {w n:Nat} {pa:Array (Nat×Operand)} {pl:List (Nat×Operand)} {vs rs:List (Nat×AV)} {l:List AV} (hpl:pa.toList=pl) (ht:(T.te t).map (·.ty)=some (.slice e)) (he:T.te e=some ei) (hw:ei.w=w) (hw0:Nat.blt 0 w=true) (hz:ei.z.length=ei.w) (hn:Nat.ble (n*ei.w) 16777216=true) (hp:Parts s T.te pl vs rs) (hf:rY (λj=>some (j*ei.w,ei.w)) (uP ei.z n) vs=some l) (hln:Nat.beq (n*ei.w) l.length=true) (hk:s.blk d=none)
  (k:BK P ops r s K d rs [] [d] d (.own w l) (.own d n)):RK P ops (⟨some d,.buildSlice t n pa,ty,pos,af,none⟩:: r) s K:=by
 subst hw
 have hw2:=Nat.le_of_ble_eq_true hw0
 exact RK.sb rfl (zPg T.ok rfl rfl hpl ht he hz (by omega) (zJ hn) hp hf (Nat.eq_of_beq_eq_true hln) hk) k
end
theorem fxB {cx:Ctx} {env env':List (Nat×AV)} {blk blk':List (Nat×ABlk)} (k:Nat) (u:List UInt8) {n:Nat} (hn:u.length=n) (hb:lk blk k=some (qO (.bytes u))) (h1:jS k n env=true) (h2:o0 k n blk=true) (he:fyE k u.length env=env') (hbb:eA k u.length (.bytes u) blk=blk'):Imp cx.pk (mkS env blk) (mkS env' blk'):=
 Imp.freezeO k hb (by rw [<- hn];exact o6 u) (zPl u) (zB4 u) hn hn h1 h2 he hbb
theorem fxM {cx:Ctx} {env env':List (Nat×AV)} {blk blk':List (Nat×ABlk)} (k:Nat) {α:Type} (f:α->PV) (w:Nat) (u:List α) (hf:∀ a,(f a).cells.length=w) {n:Nat} (hn:u.length=n) (hb:lk blk k=some (qO (.sl w (u.map f)))) (h1:jS k n env=true) (h2:o0 k n blk=true) (he:fyE k u.length env=env') (hbb:eA k u.length (.sl w (u.map f)) blk=blk'):Imp cx.pk (mkS env blk) (mkS env' blk'):=
 Imp.freezeO k hb (by rw [<- hn];exact qV hf u) (zOn (u.map f)) (zTn u hf) (by simp [PV.len,hn]) hn h1 h2 he hbb
theorem fxK {cx:Ctx} {env env':List (Nat×AV)} {blk blk':List (Nat×ABlk)} (k:Nat) {α:Type} (f:α->PV) (u:List α) {l:List AV} {bs:List (Nat×ABlk)} (hf:∀ a,(f a).cells=[f a]) (hb:lk blk k=some (.own 1 l)) {n:Nat} (hn:u.length=n) (hl:l.length=n) (hrd:(mkS env blk).rdL l=some (u.map f,bs)) (h1:jS k n env=true) (h2:o0 k n blk=true) (he:fyE k u.length env=env') (hbb:eA k u.length (.sl 1 (u.map f)) blk=blk'):Imp cx.pk (mkS env blk) (mkS env' blk'):=
 Imp.freezeO k hb (by omega) hrd (zD8 hf u) (by simp [PV.len,hn]) hn h1 h2 he hbb
theorem iV (a b:Nat):Nat.beq a b=decide (a=b):=by
 cases h:Nat.beq a b with
 | true=>have:=Nat.eq_of_beq_eq_true h;simp [this]
 | false=>symm;simp only [decide_eq_false_iff_not];rintro rfl;simp at h
theorem Imp.ofEq {pk:List (Nat×Nat)} {s s':AS} (h:s=s'):Imp pk s s':=by subst h;exact λ_ _ _ _ h=>h
theorem zAf {α:Type} {l l':List α} {j n:Nat} {u:α} (h:uN l j u=some l') (hn:l.length=n):l'.length=n:=by
 obtain ⟨_,h2⟩:=kP h
 rw [h2,List.length_set,hn]
theorem oE {B:Nat->Option ABlk} {c:PV}:tM B c.ecs=true:=by
 have:∀ (l:List PV),tM B (l.map AV.p)=true:=by
  intro l
  induction l with
  | nil=>rfl
  | cons x r ih=>simp only [List.map_cons,tM,AV.oks,Bool.true_and];exact ih
 cases c<;>first | rfl | (exact dC _ _) | (exact this _)
theorem jK {k n:Nat} {c:PV}:tP k n c.ecs=true:=by
 cases c<;>first | rfl | (exact mQ _ _) | (exact mJ _)
theorem zP5 {k m:Nat} {c:PV}:fzL k m c.ecs=c.ecs:=by
 cases c<;>first | rfl | (exact zJw _ _) | (exact zIu _)
theorem xN {ρ:Nat->Nat} {c:PV}:jR ρ c.ecs=c.ecs:=by
 have h:∀ {α:Type} (f:α->PV) (l:List α),jR ρ (l.map λx=>AV.p (f x))=l.map λx=>AV.p (f x):=by
  intro α f l
  induction l with
  | nil=>rfl
  | cons x r ih=>simp only [List.map_cons,jR,AV.ren,ih]
 cases c<;>first | rfl | (exact h _ _) | (exact h (λx=>x) _)
def zBq (P:Program) (cx:Ctx) (body:Code) (Q:Exit->AS->Prop):Nat->AS->Prop
 | 0,_=>False
 | n+1,s=>awp P cx body (zJm (zBq P cx body Q n) Q) s
theorem ar {P:Program} {cx:Ctx} {Q:Exit->AS->Prop} {s:AS} {body:Code} {n:Nat} (h:awp P cx body (zJm (zBq P cx body Q n) Q) s):zBq P cx body Q (n+1) s:=h
theorem iI {P:Program} {cx:Ctx} {Q:Exit->AS->Prop} {s:AS} {body:Code} (n:Nat) (h:zBq P cx body Q n s):awp P cx (.loop body) Q s:=by
 intro a w hs
 refine wp_loop_rounds n ?_
 induction n generalizing s a w with
 | zero=>exact h.elim
 | succ n ih=>
  rw [rounds_succ]
  refine wp_mono (h a w hs) ?_
  rintro e a' w' ⟨s',h1,h2⟩
  cases e with
  | normal=>exact ih h2 a' w' h1
  | _=>exact ⟨s',h1,h2⟩
end Go.Sw
namespace Go.Proofs.TT
open Go Go.Sw
structure api_Evidence where
 Machine:Int
 Attest:List UInt8
 Signature:List UInt8
 Log:List UInt8
 deriving DecidableEq,Inhabited
def api_Evidence.cs (x:api_Evidence):List PV:=[.int .i64 x.Machine,.bytes x.Attest,.bytes x.Signature,.bytes x.Log]
def api_Evidence.pv (x:api_Evidence):PV:=.agg x.cs
structure api_Event where
 Register:Int
 Kind:Int
 Digests:List (List UInt8)
 Data:List UInt8
 deriving DecidableEq,Inhabited
def api_Event.cs (x:api_Event):List PV:=[.int .i64 x.Register,.int .i64 x.Kind,.sl 1 (List.map PV.bytes x.Digests),.bytes x.Data]
def api_Event.pv (x:api_Event):PV:=.agg x.cs
structure api_Log where
 Active:Int
 Resets:Int
 Events:List api_Event
 deriving DecidableEq,Inhabited
def api_Log.cs (x:api_Log):List PV:=[.int .i64 x.Active,.int .i64 x.Resets,.sl 4 (List.map api_Event.pv x.Events)]
def api_Log.pv (x:api_Log):PV:=.agg x.cs
structure api_Sensitive where
 Auth:List UInt8
 Seed:List UInt8
 Data:List UInt8
 deriving DecidableEq,Inhabited
structure api_Public where
 Kind:Int
 Attr:Int
 Height:Int
 Policy:List UInt8
 Unique:List UInt8
 deriving DecidableEq,Inhabited
def api_Public.cs (x:api_Public):List PV:=[.int .i64 x.Kind,.int .i64 x.Attr,.int .i64 x.Height,.bytes x.Policy,.bytes x.Unique]
def api_Public.pv (x:api_Public):PV:=.agg x.cs
structure api_Enrolled where
 Machine:Int
 Active:Int
 Quoting:List api_Public
 Parent:api_Sensitive
 Parents:api_Public
 deriving DecidableEq,Inhabited
def api_Enrolled.cs (x:api_Enrolled):List PV:=[.int .i64 x.Machine,.int .i64 x.Active,.sl 5 (List.map api_Public.pv x.Quoting),.bytes x.Parent.Auth,.bytes x.Parent.Seed,.bytes x.Parent.Data,.int .i64 x.Parents.Kind,.int .i64 x.Parents.Attr,.int .i64 x.Parents.Height,.bytes x.Parents.Policy,.bytes x.Parents.Unique]
def api_Enrolled.pv (x:api_Enrolled):PV:=.agg x.cs
structure api_Attest where
 Key:List UInt8
 Nonce:List UInt8
 Resets:Int
 Restarts:Int
 Clock:Int
 Safe:Bool
 Updates:Int
 Selection:A2 Int
 Digest:List UInt8
 deriving DecidableEq,Inhabited
def api_Attest.cs (x:api_Attest):List PV:=[.bytes x.Key,.bytes x.Nonce,.int .i64 x.Resets,.int .i64 x.Restarts,.int .i64 x.Clock,.bool x.Safe,.int .i64 x.Updates,.int .i64 x.Selection.a0,.int .i64 x.Selection.a1,.bytes x.Digest]
def api_Attest.pv (x:api_Attest):PV:=.agg x.cs
structure api_Reason where
 Manifest:Int
 Item:Int
 deriving DecidableEq,Inhabited
def api_Reason.cs (x:api_Reason):List PV:=[.int .i64 x.Manifest,.int .i64 x.Item]
def api_Reason.pv (x:api_Reason):PV:=.agg x.cs
structure api_Verdict where
 Err:Int
 Event:Int
 Reasons:List api_Reason
 Clock:Int
 deriving DecidableEq,Inhabited
def api_Verdict.cs (x:api_Verdict):List PV:=[.int .i64 x.Err,.int .i64 x.Event,.sl 2 (List.map api_Reason.pv x.Reasons),.int .i64 x.Clock]
def api_Verdict.pv (x:api_Verdict):PV:=.agg x.cs
structure api_Entry where
 Role:Int
 Name:List UInt8
 Version:Int
 Digest:List UInt8
 deriving DecidableEq,Inhabited
def api_Entry.cs (x:api_Entry):List PV:=[.int .i64 x.Role,.str x.Name,.int .i64 x.Version,.bytes x.Digest]
def api_Entry.pv (x:api_Entry):PV:=.agg x.cs
structure api_Rule where
 Kind:Int
 Text:List UInt8
 Low:Int
 High:Int
 deriving DecidableEq,Inhabited
def api_Rule.cs (x:api_Rule):List PV:=[.int .i64 x.Kind,.str x.Text,.int .i64 x.Low,.int .i64 x.High]
def api_Rule.pv (x:api_Rule):PV:=.agg x.cs
structure api_Manifest where
 Vendor:List UInt8
 Version:Int
 Floor:Int
 From:Int
 Until:Int
 Entries:List api_Entry
 Rules:List api_Rule
 deriving DecidableEq,Inhabited
def api_Manifest.cs (x:api_Manifest):List PV:=[.str x.Vendor,.int .i64 x.Version,.int .i64 x.Floor,.int .i64 x.From,.int .i64 x.Until,.sl 4 (List.map api_Entry.pv x.Entries),.sl 4 (List.map api_Rule.pv x.Rules)]
def api_Manifest.pv (x:api_Manifest):PV:=.agg x.cs
structure api_Image where
 Role:Int
 Name:List UInt8
 Version:Int
 Payload:List UInt8
 deriving DecidableEq,Inhabited
def api_Image.cs (x:api_Image):List PV:=[.int .i64 x.Role,.str x.Name,.int .i64 x.Version,.bytes x.Payload]
def api_Image.pv (x:api_Image):PV:=.agg x.cs
structure api_Registers where
 Banks:List (List (List UInt8))
 Updates:Int
 deriving DecidableEq,Inhabited
def api_Registers.cs (x:api_Registers):List PV:=[.sl 1 (List.map (eSl 1 PV.bytes) x.Banks),.int .i64 x.Updates]
def api_Registers.pv (x:api_Registers):PV:=.agg x.cs
structure sealwrightdraw_Codes where
 B:List UInt8
 At:Int
 deriving DecidableEq,Inhabited
def sealwrightdraw_Codes.cs (x:sealwrightdraw_Codes):List PV:=[.bytes x.B,.int .i64 x.At]
structure match_walk where
 phase_:Int
 next_:Int
 seen_:A6 Bool
 deriving DecidableEq,Inhabited
def match_walk.cs (x:match_walk):List PV:=[.int .i64 x.phase_,.int .i64 x.next_,.bool x.seen_.a0,.bool x.seen_.a1,.bool x.seen_.a2,.bool x.seen_.a3,.bool x.seen_.a4,.bool x.seen_.a5]
structure wire_Reader where
 b_:List UInt8
 at_:Int
 e_:Int
 deriving DecidableEq,Inhabited
def wire_Reader.cs (x:wire_Reader):List PV:=[.bytes x.b_,.int .i64 x.at_,.int .i64 x.e_]
end Go.Proofs.TT
namespace Go.Proofs.TT
open Go Go.Sw
def RF:Nat:=64
def nameByte (c:UInt8):Bool:=(decide (97<=c.toNat)&&decide (c.toNat<=122))||(decide (48<=c.toNat)&&decide (c.toNat<=57))||decide (c.toNat=45)
def zAm (s:List UInt8):Option Bool:=some (decide (1<=s.length)&&decide (s.length<=12)&&s.all nameByte)
def jL (b:List UInt8) (n:Int):Option (List UInt8):=
 match b with
 | [x]=>bif (n==20||n==32) then some (List.replicate n.toNat x) else none
 | _=>none
def decF:Nat->Nat->List UInt8
 | 0,_=>[]
 | f+1,u=>bif Nat.blt u 10 then [UInt8.ofNat (48+u)] else decF f (u / 10)++[UInt8.ofNat (48+u % 10)]
def strconv_Itoa (n:Int):Option (List UInt8):=bif decide (0<=n)&&decide (n<=9223372036854775807) then some (decF 20 n.toNat) else none
def decV:Nat->List UInt8->Option Nat
 | acc,[]=>some acc
 | acc,b :: r=>bif Nat.ble 48 b.toNat&&Nat.ble b.toNat 57 then decV (acc*10+(b.toNat - 48)) r else none
def strconv_Atoi (s:List UInt8):Option (Int×Bool):=bif Nat.ble 1 s.length&&Nat.ble s.length 18 then (decV 0 s).bind λm=>some ((m:Int),false) else none
end Go.Proofs.TT
