/- what a loss of power at a start leaves -/
import Derived.Test.YtpbnmpopifipbaaGreatDoorCZ1
set_option linter.all false
open Nat renaming eq_of_beq_eq_true -> Q0, le_of_ble_eq_true -> Q1, beq -> Q2, blt -> Q5, le_refl -> Q6, ble -> Q9, le_mul_of_pos_right -> Qd, add_mul -> Qe, mul_one -> Qg, succ_le_of_lt -> Qj, zero_add -> Ql, one_ne_zero -> Qo, zero_le -> Qp
open Go.World renaming freeze -> Q3, cell? -> Qr
open List renaming all_eq_true -> Q4, mem_append -> Qm, length_map -> Qn, mem_map -> Qq, mem_cons -> Qu
open Option renaming map_eq_some_iff -> Q7, map_some -> Q8, isSome_iff_exists -> Qa
open Go.Region renaming wanted -> Qb
open Go.Sw.PV renaming len -> Qc, nilOf -> Qs, width -> Qt
open Go.Value renaming int -> Qf
open Go.Sw.AV renaming oks -> Qh
open Go.Result renaming andThen_ok -> Qi
open Go.IntKind renaming u8 -> Qk
namespace Go.Sw
open Go
variable {B:NB}{K:AS->List Mic->Prop}{M:Mem}{P:Program}{Q:Exit->AS->Prop}{X Y:Type}{a:Int}{av:AV}{ax:Operand}{b:Int}{b':Bool}{blks:LB}{body:Code}{bs bs0:LB}{c:Operand}{cc:Int}{cs:List PV}{cx:Ctx}{d dj:Nat}{dst e e' e2:TypeId}{ei fi:TI}{fo:Nat}{fs:List (TypeId×Nat)}{ft:TypeId}{hi:Option Operand}{hi' hi2:Option Int}{i:TI}{id:Nat}{ity:TypeId}{j k:Nat}{k':IntKind}{k0:Nat}{k2 kc kk kl:IntKind}{ks:List Nat}{l l':List AV}{lo:Option Operand}{lo' lo2:Option Int}{ms:List Mic}{mx:Option Operand}{mx' mx2:Option Int}{n na:Nat}{o:Oper}{off:Nat}{ops:Array Oper}{p:PV}{pa:Array (Nat×Operand)}{pk:List (Nat×Nat)}{pl:List (Nat×Operand)}{ps:Array (Nat×Operand)}{q:PV}{r:List Oper}{rh rl rm rs:LV}{s s':AS}{src t t' t0 t2 ta tc:TypeId}{te:TE}{tip:Nat->Value}{tl:List TypeId}{ts:Array TypeId}{tx ty tyy:TypeId}{v:AV}{vs:LV}{vy:AV}{w:Nat}{x xa:Operand}{xl:List Operand}{xs:Array Operand}{y:Operand}{α β:Type}{κ:Nat->Option Nat}{f:α->PV}{m:List α}{u:α}
def xG:List PV->List PV
 | []=>[]
 | p :: r=>p.cells++xG r
theorem zDr:∀ (ps:List PV),(∀ p∈ps,p.cells.length=w)->(xG ps).length=ps.length*w/\∀ (i:Nat) (p:PV) (j:Nat) (q:PV),ps[i]? = some p->p.cells[j]? = some q->(xG ps)[i*w+j]? = some q
 | [],_=>⟨by simp [xG],by simp⟩
 | p :: r,h=>by
  obtain ⟨h1,h2⟩:=zDr r (λq hq=>h q (by simp [hq]));have hp:=h p (by simp);refine ⟨by simp [xG,h1,hp,Qe];omega,λi p' j q hi hq=>?_⟩;cases i with
  | zero=>
   simp at hi;subst hi;have:j<p.cells.length:=(List.getElem?_eq_some_iff.1 hq).1;simp only [xG,Nat.zero_mul,Ql];rw [List.getElem?_append_left this];exact hq
  | succ i=>
   simp only [xG];rw [List.getElem?_append_right (by rw [hp,Qe];omega),hp,show (i+1)*w+j - w=i*w+j by rw [Qe];omega];exact h2 i p' j q (by simpa using hi) hq
inductive fJ (w:Nat):PV->List PV->Prop where
 | bytes (xs:By):w=1->fJ w (.bytes xs) (xs.map λx=>.int .u8 x.toNat)
 | sl (ps:List PV):(∀ p∈ps,p.cells.length=w)->fJ w (.sl w ps) (xG ps)
theorem fJ.cells {c:PV} (h:fJ w c cs) {f:Nat->Value} (hf:∀ (j:Nat) (q:PV),cs[j]? = some q->Rep M q (f j)):qV M c f/\c.isSlice=true/\c.width=w/\c.len*w=cs.length:=by
 cases h with
 | bytes xs hw=>
  refine ⟨λi x hx=>rep_int (hf i _ (by simp [hx])),rfl,hw.symm,by simp [Qc,hw]⟩
 | sl ps hw=>
  obtain ⟨h1,h2⟩:=zDr ps hw;exact ⟨⟨λi p hp=>hw p (List.mem_of_getElem? hp),λi p j q hp hq=>hf _ q (h2 i p j q hp hq)⟩,rfl,rfl,by simp [Qc,h1]⟩
section
inductive nS (s:AS) (te:TE) (t:TypeId):Nat->List (Nat×Operand)->LV->LV->LB->Prop where
 | nil (n:Nat):nS s te t n [] [] [] []
 | cons (n:Nat) (x:Operand) (v:AV) (p:PV) (bs:LB) (ps:List (Nat×Operand)) (vs rs:LV) (bb:LB):s.get te t x=some v->s.rd v=some (p,bs)->nS s te t (n+1) ps vs rs bb->nS s te t n ((n,x) :: ps) ((n,.p p) :: vs) (opS x v++rs) (bs++bb)
theorem nS.reads {ps:List (Nat×Operand)} {bb:LB} (h:nS s te t n ps vs rs bb):wM s rs/\∀ e∈bb,s.blk e.1=some e.2:=by
 induction h with
 | nil=>exact ⟨by intro e he;simp at he,by simp⟩
 | cons n x v p bs ps vs rs bb h1 h2 _ ih=>exact ⟨yH (zK h1) ih.1,λe he=>(Qm.1 he).elim (tD v p bs h2 e) (ih.2 e)⟩
theorem nS.rep {ps:List (Nat×Operand)} {bb:LB} (h:nS s te t n ps vs rs bb) {a:Act} {w:World} (hi:Inv cx M κ tip s' a w) :
  wM s' rs->(∀ e∈bb,s'.blk e.1=some e.2)->fH M κ tip s'.blk (ps.map λp=>(p.1,a.eval p.2)) vs:=by
 induction h with
 | nil=>intro _ _;trivial
 | cons n x v p bs ps vs rs bb h1 h2 _ ih=>
  intro hr hb;exact ⟨rfl,.p _ _ (hJ hi h1 h2 (yD hr) (λe he=>hb e (Qm.2 (.inl he)))),ih (zZ hr) (λe he=>hb e (Qm.2 (.inr he)))⟩
def sW (z:List PV) (n:Nat):List AV:=(List.replicate n (z.map zA)).flatten
theorem zQi (z:List PV) (n:Nat):(sW z n).length=n*z.length:=by simp [sW]
theorem zJh (z:List PV):∀ (n j:Nat),(sW z n)[j]? = if j<n*z.length then (z.map zA)[j % z.length]? else none
 | 0,j=>by simp [sW]
 | n+1,j=>by
  have hz:sW z (n+1)=z.map zA++sW z n:=by simp [sW,List.replicate_succ]
  rw [hz];by_cases h:j<z.length
  ·rw [List.getElem?_append_left (by simpa using h),if_pos (by rw [Qe];omega),Nat.mod_eq_of_lt h]
  ·rw [List.getElem?_append_right (by simp;omega),Qn,zJh z n];by_cases h2:j<(n+1)*z.length
   ·rw [if_pos h2,if_pos (by rw [Qe] at h2;omega)];congr 1;rw [<- Nat.mod_eq_sub_mod (by omega)]
   ·rw [if_neg h2,if_neg (by rw [Qe] at h2;omega)]
theorem zBd (hok:yR P te) (h:te t=some i) (hz:i.z.length=i.w) {z:Value} {info:TypeInfo} (hinfo:P.info? t=some info) (hiz:info.zero=some z) (n:Nat) :
  CR M κ tip B (sW i.z n) (madeCells z.cells (n*i.w)):=by
 obtain ⟨z',h1,h2,h3⟩:=zGg hok h (M:=M) (κ:=κ) (tip:=tip) (B:=B) default;have hzz:z'=z:=by simp [zeroValue,typeInfo,hinfo,hiz] at h1;exact h1.symm
 subst hzz;refine ⟨by rw [size_madeCells,zQi,hz],λj q hq=>?_⟩;rw [zJh] at hq;split at hq
 ·rename_i hj;rw [hz] at hj hq;have hw:0<i.w:=by
   rcases Nat.eq_zero_or_pos i.w with h | h
   ·rw [h] at hj;simp at hj
   ·exact h
  have:=h3.2 (j % i.w) q hq;have hlt:j % i.w<z'.cells.size:=by rw [h2,hz];exact Nat.mod_lt _ hw
  have hmd:(madeCells z'.cells (n*i.w)).getD j undef=z'.cells[j % i.w]:=by
   simp [madeCells,hj,h2,hz];rw [getElem!_pos z'.cells (j % i.w) hlt]
  rw [hmd];simpa [hlt] using this
 ·cases hq
theorem zOq (hok:yR P te) (ht:(te t).map (·.ty)=some (.slice e)) (he:te e=some ei) (hz:ei.z.length=ei.w) (hn:n*ei.w<=16777216) {xs:Array (Nat×Value)} (hp:fH M κ tip B xs.toList vs) 
  (hf:lJ (λj=>some (j*ei.w,ei.w)) (sW ei.z n) vs=some l) (w:World):∃ arr,(Instr.buildSlice t n xs).run P w=.ok (.slice (some ⟨w.heap.size,0,none⟩) n n) (w.alloc (.cells arr e))/\CR M κ tip B l arr:=by
 obtain ⟨info,z,i1,i2,i3,i4,i5⟩:=(hok e ei he).info;have hcr:=zBd hok he hz i1 i4 (M:=M) (κ:=κ) (tip:=tip) (B:=B) n;obtain ⟨arr,f1,f2⟩:=zD0 vs xs.toList _ l _ hp hcr hf;refine ⟨arr,?_,f2⟩;have hu:=yS hok ht;have h24:¬ (16777216<n*ei.w):=by omega
 have hsz:=tA hok he w;by_cases h0:n*ei.w=0
 ·have hmade:madeCells z.cells (n*ei.w)=(Array.range 0).map ((#[]:Array Value)[· % (#[]:Array Value).size]!):=by rw [h0];simp [madeCells]
  rw [hmade] at f1;have hor:n=0∨ei.w=0:=by rcases Nat.mul_eq_zero.1 h0 with h | h;exact .inl h;exact .inr h
  simp only [Instr.buildSlice,Sem.run_bind,run_underlying hu,Qi,hsz,h0];simp only [Array.range_zero',List.map_toArray] at f1 ⊢;simp [f1,newRow] at *;simp [f1]
 ·simp only [madeCells] at f1;simp [Instr.buildSlice,run_underlying hu,hsz,h24,h0,zeroValue,typeInfo,i1,i4,f1,newRow]
theorem zR2 {bb:LB} {c:PV} (hok:yR P te) (hd:o.dst=some d) (ho:o.op=.buildSlice t n ps) (hpl:ps.toList=pl) (ht:(te t).map (·.ty)=some (.slice e)) (he:te e=some ei) (hz:ei.z.length=ei.w) (hw0:0<ei.w) (hn:n*ei.w<=16777216)
  (hp:nS s te e 0 pl vs rs bb) (hf:lJ (λj=>some (j*ei.w,ei.w)) (sW ei.z n) vs=some (cs.map .p)) (hc:fJ ei.w c cs) (hcn:c.len=n) (hk:s.blk d=none) :
  SA P o s ⟨rs,bb,[d],some (d,some (.buf d c.len)),[(d,.buf c)]⟩:=by
 refine ⟨?_,hp.reads.1,hp.reads.2,by intro k hk';simp at hk';subst hk';exact hk⟩;intro cx s' a w K Q hm hs hws hk';obtain ⟨M,κ,tip,h0,hpk,hi⟩:=hs;have hbk:=hm.2.2 d (by simp);have hpr:=hp.rep hi hm.1 hm.2.1;have hxs:(ps.map λ(i,x)=>(i,a.eval x)).toList=pl.map λp=>(p.1,a.eval p.2):=by simp [<- hpl]
 obtain ⟨arr,hrun,hcr⟩:=zOq hok ht he hz hn (xs:=ps.map λ(i,x)=>(i,a.eval x)) (by rw [hxs];exact hpr) hf w;have hcells:∀ (j:Nat) (q:PV),cs[j]? = some q->Rep M q (arr.getD j undef):=λj q hq=>repA_pv (hcr.2 j (.p q) (by simp [hq]));obtain ⟨c1,c2,c3,c4⟩:=hc.cells hcells;have hasz:arr.size=n*ei.w:=by rw [hcr.1,Qn,<- c4,hcn]
 unfold Oper.wp;have:(execOp a.eval o).run P w=.ok (.value (.slice (some ⟨w.heap.size,0,none⟩) n n)) (w.alloc (.cells arr e)):=by simp [execOp,ho,hrun]
 rw [this];show K (a.put o.dst _) _;rw [hd];refine hk' _ _ ?_;rw [uH];have hle:M.le (addM M w.heap.size 0 (n*c.width) (arr[·]?)):=addM_le λo _ _=>hi.mlt (Q6 _);have hrep:Rep (addM M w.heap.size 0 (n*c.width) (arr[·]?)) c (.slice (some ⟨w.heap.size,0,none⟩) n n):=by
  have:=wV (M':=addM M w.heap.size 0 (n*c.width) (arr[·]?)) (b:=w.heap.size) (o:=0) (cap:=n) c1 c2 hle ?_ (by omega)
  ·rwa [hcn] at this
  intro j hj;rw [hcn] at hj;simp only [addM,Ql];rw [if_pos ⟨trivial,Qp _,hj⟩];rw [c3,<- hasz] at hj;simp [hj]
 have hml:n<=maxLen:=by
  have:n<=n*ei.w:=Qd _ hw0;simp only [maxLen];omega
 refine ⟨_,_,_,h0.trans' hle,zAt hi hpk hbk _,(hi.bufNew (eS w arr e) (.inl hbk) c2 (by omega) (by rw [c3,hasz];exact Q6 _) (by rw [c3,hasz];exact Q6 _) hml hrep).put (hws d (by simp [Mic.ws])) ?_⟩;rw [hcn];refine .buf d _ c _ (zY _ _ _) c2 (by omega) ?_ (λ_=>(yV _ _ _).symm);rw [<- hcn,sS c2,hcn];exact hrep
end
def zO5:TypeDesc->Ty
 | .bool=>.bool
 | .int k=>.int k
 | .string=>.str
 | .slice e=>.slice e
 | .array n e=>.arr n e
 | .struct fs=>.struct (fs.toList.map λf=>(f.type,f.offset))
 | .pointer e=>.ptr e
 | .func _ _ _=>.func
 | .interface _=>.iface
 | _=>.other
def zLw (i:TypeInfo):Nat×Nat×Option (List Value):=(i.size,i.bytes,i.zero.map (·.cells.toList))
theorem zV (h1:(P.info? t).map zLw=some (i.w,i.b,some (i.z.map zv))) (h2:(P.underlying t).map zO5=some i.ty) (h3:i.z.all PV.zok=true):TOk P t i where
 info:=by
  obtain ⟨info,a,b⟩:=Q7.1 h1;simp only [zLw,Prod.mk.injEq] at b;obtain ⟨b1,b2,b3⟩:=b;obtain ⟨z,c1,c2⟩:=Q7.1 b3;exact ⟨info,z,a,b1,b2,c1,c2⟩
 zok:=λz hz=>(Q4.1 h3) z hz
 und:=by
  obtain ⟨d,a,b⟩:=Q7.1 h2;cases d<;>simp only [zO5] at b<;>rw [<- b]<;>simp only [a]<;>simp
inductive Tr where
 | leaf
 | node (k:Nat) (v:TI) (l r:Tr)
def Tr.get:Tr->TE
 | .leaf,_=>none
 | .node k v l r,t=>bif Q2 t k then some v else bif Q5 t k then l.get t else r.get t
def Tr.All (P:Program):Tr->Prop
 | .leaf=>True
 | .node k v l r=>TOk P k v/\l.All P/\r.All P
theorem Tr.ok:∀ (t:Tr),t.All P->yR P t.get
 | .leaf,_=>λ_ _ h=>by simp [Tr.get] at h
 | .node k v l r,h=>λt i hi=>by
  simp only [Tr.get] at hi;cases hb:Q2 t k with
  | true=>
   simp [hb] at hi;rw [Q0 hb,<- hi];exact h.1
  | false=>
   simp only [hb,cond_false] at hi;cases hl:Q5 t k with
   | true=>simp only [hl,cond_true] at hi;exact Tr.ok l h.2.1 t i hi
   | false=>simp only [hl,cond_false] at hi;exact Tr.ok r h.2.2 t i hi
def u8 (n:Int):UInt8:=UInt8.ofNat (n % 256).toNat
theorem hP (n:Int):((u8 n).toNat:Int)=n % 256:=by
 unfold u8;have h0:0<=n % 256:=Int.emod_nonneg _ (by decide);have h1:n % 256<256:=Int.emod_lt_of_pos _ (by decide);have h2:(n % 256).toNat<256:=by omega
 rw [UInt8.toNat_ofNat_of_lt' (by simpa using h2)];omega
theorem zOz (n:Int):Qk.wrap n=((u8 n).toNat:Int):=by
 rw [hP];simp [IntKind.wrap,IntKind.signed,IntKind.bits]
section
theorem va_conv8 (hok:yR P te) (ho:o.op=.convert src dst x) (hs:(te src).map (·.ty)=some (.int k')) (ht:(te dst).map (·.ty)=some (.int .u8)) (hx:s.get te src x=some (.p (.int k' a))) :
  VA P o s (opS x (.p (.int k' a))) [] (.p (.int .u8 (u8 a).toNat)):=by
 have:=zPu (P:=P) hok ho hs ht hx;rwa [zOz] at this
theorem zXr (f:IOp) (a b:Int):f.val .u8 a b=((u8 (f.val .u8 a b)).toNat:Int):=by
 have:∀ n:Int,Qk.wrap n=((u8 (Qk.wrap n)).toNat:Int):=λn=>by
  rw [hP,zOz,hP];omega
 cases f<;>exact this _
theorem zVd (f:IOp) (ho:o.op=.binOp f.op tx x y tyy) (hx:s.get te tx x=some (.p (.int .u8 a))) (hy:s.get te tyy y=some (.p (.int .u8 b))) :
  VA P o s (opS x (.p (.int .u8 a))++opS y (.p (.int .u8 b))) [] (.p (.int .u8 (u8 (f.val .u8 a b)).toNat)):=by
 have:=zN3 (P:=P) f ho hx hy;rwa [zXr] at this
inductive RK (P:Program) (ops:Array Oper) (l:List Oper) (s:AS) (K:AS->List Mic->Prop):Prop where
 | mk (s':AS) (ms:List Mic) (h:Run P ops l s s' ms) (k:K s' ms)
theorem RK.nil (h:K s []):RK P ops [] s K:=⟨s,[],.nil s,h⟩
theorem RK.va {w:AV} (hd:o.dst=some d) (hg:o.guard=none) (h:VA P o s rs bs w) (k:RK P ops r (s.put d w) λs' ms=>K s' (⟨rs,bs,[],some (d,some w),[]⟩:: ms)):RK P ops (o :: r) s K:=
 let ⟨s',ms,h1,h2⟩:=k;⟨s',_,Run.vv hd hg h h1,h2⟩
theorem RK.st {m:Mic} (hg:o.guard=none) (h:SA P o s m) (k:RK P ops r (m.upd s) λs' ms=>K s' (m :: ms)):RK P ops (o :: r) s K:=
 let ⟨s',ms,h1,h2⟩:=k;⟨s',_,Run.ss hg h h1,h2⟩
theorem RK.sb {fr:List Nat} {bl:zG} {w:AV} (hg:o.guard=none) (h:SA P o s ⟨rs,bs,fr,some (d,some w),[(k,bl)]⟩) (kk:RK P ops r ((s.setb k bl).put d w) λs' ms=>K s' (⟨rs,bs,fr,some (d,some w),[(k,bl)]⟩:: ms)):RK P ops (o :: r) s K:=
 RK.st hg h (by rw [uH];exact kk)
theorem RK.so {bl:zG} (hg:o.guard=none) (h:SA P o s ⟨rs,bs,[],none,[(k,bl)]⟩) (kk:RK P ops r (s.setb k bl) λs' ms=>K s' (⟨rs,bs,[],none,[(k,bl)]⟩:: ms)):RK P ops (o :: r) s K:=
 RK.st hg h (by rw [zBa];exact kk)
theorem yD9 {a b:Operand} {bb:Bool} (ho:o.op=.pick c a b) (hbb:bb=true) (hc:s.get te t0 c=some (.p (.bool bb))) (h:s.get te o.type a=some v):VA P o s (opS c (.p (.bool true))++opS a v) [] v:=zTm ho (hbb▸hc) h
theorem yD8 {a b:Operand} {bb:Bool} (ho:o.op=.pick c a b) (hbb:bb=false) (hc:s.get te t0 c=some (.p (.bool bb))) (h:s.get te o.type b=some v):VA P o s (opS c (.p (.bool false))++opS b v) [] v:=zSc ho (hbb▸hc) h
theorem cT {t:Nat} {x y:Code} {b:Bool} (he:b=true) (hc:s.env t=some (.p (.bool b))) (h:awp P cx x Q s):awp P cx (.cond (.tmp t) x y) Q s:=zLm hc (λ_=>h) (λe=>by rw [he] at e;cases e)
theorem cF {t:Nat} {x y:Code} {b:Bool} (he:b=false) (hc:s.env t=some (.p (.bool b))) (h:awp P cx y Q s):awp P cx (.cond (.tmp t) x y) Q s:=zLm hc (λe=>by rw [he] at e;cases e) (λ_=>h)
theorem rgn (hnt:cx.nt=n) (h:RK P ops ops.toList s λs' ms=>zBz n ms=true/\Q .normal s'):awp P cx (.region id ops false) Q s:=
 let ⟨_,_,h1,h2,h3⟩:=h;zOa h1 (by rw [hnt];exact h2) h3
theorem rgd (hnt:cx.nt=n) (hm:P.follows .mixedOrders=true) (h:RK P ops ops.toList s λs' ms=>zBz n ms=true/\(zBe ops ms&&zQ3 ops)=true/\Q .normal s'):awp P cx (.region id ops true) Q s:=by
 obtain ⟨s',ms,h1,h2,h3,h4⟩:=h;simp only [Bool.and_eq_true] at h3;exact zSf h1 (by rw [hnt];exact h2) hm h3.1 h3.2 h4
end
def LIM:Nat:=140737488355328
def yN (b:Nat) (l m:List α):Option (List α):=if (l.length+m.length)*b<=LIM then some (l++m) else none
theorem hC {b:Nat} {l r:List α} (h:yN b l m=some r):r=l++m/\(l.length+m.length)*b<=140737488355328:=by
 unfold yN at h;split at h
 ·rename_i hb;cases h;exact ⟨rfl,hb⟩
 ·cases h
theorem appB {l m r:By} {b:Nat} (h:yN b l m=some r):(PV.bytes l).app (.bytes m)=some (.bytes r):=by rw [(hC h).1];rfl
theorem appM {l r:List α} {b:Nat} (h:yN b l m=some r):(PV.sl w (l.map f)).app (.sl w (m.map f))=some (.sl w (r.map f)):=by
 rw [(hC h).1];simp [PV.app]
theorem zPf {b:Nat} {l r:List α} (h:yN b l m=some r):(l.length+m.length)*b<=140737488355328:=(hC h).2
theorem bind_some {m:Option α} {k:α->Option β} {r:β} (h:m.bind k=some r):∃ x,m=some x/\k x=some r:=Option.bind_eq_some_iff.1 h
section
theorem zO2 {c:Code} (hl:Imp cx.pk s s') (h:awp P cx c Q s'):awp P cx c Q s:=λa w hs=>h a w (hl cx a w rfl hs)
def LQ (cx:Ctx) (E:X->AS) (R:Y->Exit->AS->Prop):X ⊕ Y->Exit->AS->Prop
 | .inl x,e,s=>e=.normal/\Imp cx.pk s (E x)
 | .inr y,e,s=>R y e s
theorem yDs (E:X->AS) (step:X->Option (X ⊕ Y)) (R:Y->Exit->AS->Prop) (hne:∀ y s,¬ R y .normal s)
  (hb:∀ x r,step x=some r->awp P cx body (LQ cx E R r) (E x)):∀ n x y,zL step n x=some y->awp P cx (.loop body) (R y) (E x):=by
 intro n x y hy a w hs;refine wp_loop_rounds n ?_;induction n generalizing x a w with
 | zero=>simp [zL] at hy
 | succ n ih=>
  rw [rounds_succ];simp only [zL] at hy;cases hst:step x with
  | none=>simp [hst] at hy
  | some r=>
   have hb':=hb x r hst a w hs;cases r with
   | inl x'=>
    rw [hst] at hy;refine wp_mono hb' ?_;rintro e a' w' ⟨s',h1,rfl,h2⟩;exact ih x' hy a' w' (h2 cx a' w' rfl h1)
   | inr y'=>
    rw [hst] at hy;cases hy;refine wp_mono hb' ?_;rintro e a' w' ⟨s',h1,h2⟩;cases e with
    | normal=>exact (hne _ _ h2).elim
    | _=>exact ⟨s',h1,h2⟩
end
section
theorem zCo (hd:o.dst=some d)
  (h:∀ (cx:Ctx) (M:Mem) (κ:Nat->Option Nat) (tip:Nat->Value) (s:AS) (a:Act) (w:World),Inv cx M κ tip s a w->wM s rs->(∀ e∈bs,s.blk e.1=some e.2) ->
   ∃ arr e,(execOp a.eval o).run P w=.ok (.value (.slice (some ⟨w.heap.size,0,none⟩) n n)) (w.alloc (.cells arr e))/\CR M κ tip s.blk l arr) :
  Snd P o ⟨rs,bs,[d],some (d,some (.ref d 0 n)),[(d,.var l)]⟩:=by
 intro cx s a w K Q hm hs hw hk;obtain ⟨M,κ,tip,h0,hp,hi⟩:=hs;obtain ⟨arr,e,hx,hr⟩:=h cx M κ tip s a w hi hm.1 hm.2.1;have hb:=hm.2.2 d (by simp);unfold Oper.wp;rw [hx];show K (a.put o.dst _) _;rw [hd];refine hk _ _ ?_;rw [cS];exact ⟨M,cJ κ d (some w.heap.size),tip,h0,zAt hi hp hb _,(hi.newVar hb hr e).put (hw d (by simp [Mic.ws])) (.ref d 0 n _ l (uR _ _ _) (zY _ _ _))⟩
theorem sa_mkr {tl:TypeId} {n:Int} (hok:yR P te) (hd:o.dst=some d) (ho:o.op=.makeSlice t x y) (ht:(te t).map (·.ty)=some (.slice e)) (he:te e=some ei) (hz:ei.z.length=ei.w) (hx:s.get te tl x=some (.p (.int kl n))) (hy:s.get te tc y=some (.p (.int kc n)))
  (h0:0<=n) (hb:n.toNat*ei.b<=140737488355328) (hb1:0<ei.b) (hk:s.blk d=none):SA P o s ⟨opS x (.p (.int kl n))++opS y (.p (.int kc n)),[],[d],some (d,some (.ref d 0 n.toNat)),[(d,.var (sW ei.z n.toNat))]⟩:=by
 refine ⟨zCo hd ?_,yH (zK hx) (zK hy),by intro e he;simp at he,by intro k hk';simp at hk';subst hk';exact hk⟩;intro cx M κ tip s' a w hi hr _;have h1:=rep_int (repA_pv (yC hi (yF hx s' (yD hr))));have h2:=rep_int (repA_pv (yC hi (yF hy s' (zZ hr))));obtain ⟨info,z,i1,i2,i3,i4,i5⟩:=(hok e ei he).info;have hu:=yS hok ht;have hcr:=zBd hok he hz i1 i4 (M:=M) (κ:=κ) (tip:=tip) (B:=s'.blk) n.toNat;have hlen:n.toNat<=n.toNat*ei.b:=Qd _ hb1;have hbi:(info.bytes:Int)*n<=281474976710656:=by
  rw [i3];have:((n.toNat*ei.b:Nat):Int)<=140737488355328:=by omega
  rw [Int.natCast_mul,Int.toNat_of_nonneg h0,Int.mul_comm] at this;omega
 have hrun:=run_make (P:=P) w t e info z hu i1 i4 kl kc n n h0 (Int.le_refl _) hbi (by omega);exact ⟨_,e,by rw [i2] at hrun;simp [execOp,ho,h1,h2,hrun],hcr⟩
theorem sa_mk0 {tl:TypeId} {n:Int} {c:PV} (hok:yR P te) (hd:o.dst=some d) (ho:o.op=.makeSlice t x y) (ht:(te t).map (·.ty)=some (.slice e)) (he:te e=some ei) (hz:ei.z.length=ei.w) (hw0:0<ei.w) (hx:s.get te tl x=some (.p (.int kl 0))) (hy:s.get te tc y=some (.p (.int kc n)))
  (h0:0<=n) (hb:n.toNat*ei.b<=140737488355328) (hb1:0<ei.b) (hc:c.nilOf=true) (hcw:c.width=ei.w) (hk:s.blk d=none):SA P o s ⟨opS x (.p (.int kl 0))++opS y (.p (.int kc n)),[],[d],some (d,some (.buf d 0)),[(d,.buf c)]⟩:=by
 refine ⟨?_,yH (zK hx) (zK hy),by intro e he;simp at he,by intro k hk';simp at hk';subst hk';exact hk⟩;intro cx s' a w K Q hm hs hws hk';obtain ⟨M,κ,tip,h0',hp,hi⟩:=hs;have hbk:=hm.2.2 d (by simp);have h1:=rep_int (repA_pv (yC hi (yF hx s' (yD hm.1))));have h2:=rep_int (repA_pv (yC hi (yF hy s' (zZ hm.1))));obtain ⟨info,z,i1,i2,i3,i4,i5⟩:=(hok e ei he).info;have hu:=yS hok ht;have hlen:n.toNat<=n.toNat*ei.b:=Qd _ hb1;have hbi:(info.bytes:Int)*n<=281474976710656:=by
  rw [i3];have:((n.toNat*ei.b:Nat):Int)<=140737488355328:=by omega
  rw [Int.natCast_mul,Int.toNat_of_nonneg h0,Int.mul_comm] at this;omega
 have hrun:=run_make (P:=P) w t e info z hu i1 i4 kl kc 0 n (Int.le_refl _) h0 hbi (by omega);unfold Oper.wp;have:(execOp a.eval o).run P w=.ok (.value (.slice (some ⟨w.heap.size,0,none⟩) 0 n.toNat)) (w.alloc (.cells (madeCells z.cells (n.toNat*ei.w)) e)):=by
  rw [i2] at hrun;simp [execOp,ho,h1,h2,hrun]
 rw [this];show K (a.put o.dst _) _;rw [hd];refine hk' _ _ ?_;rw [uH];have hsl:c.isSlice=true:=by unfold Qs at hc;split at hc<;>first | rfl | cases hc
 have hlen0:c.len=0:=by unfold Qs at hc;split at hc<;>first | rfl | cases hc
 have hle:M.le (addM M w.heap.size 0 (0*c.width) ((madeCells z.cells (n.toNat*ei.w))[·]?)):=addM_le λo _ _=>hi.mlt (Q6 _);have hrep:Rep (addM M w.heap.size 0 (0*c.width) ((madeCells z.cells (n.toNat*ei.w))[·]?)) c (.slice (some ⟨w.heap.size,0,none⟩) 0 n.toNat):=by
  have:=wV (M:=M) (M':=addM M w.heap.size 0 (0*c.width) ((madeCells z.cells (n.toNat*ei.w))[·]?)) (b:=w.heap.size) (o:=0) (cap:=n.toNat) (nX hsl hlen0 (λ_=>undef)) hsl hle (by rw [hlen0];intro j hj;omega) (by omega);rwa [hlen0] at this
 refine ⟨_,_,_,h0'.trans' hle,zAt hi hp hbk _,(hi.bufNew (eS w _ e) (.inl hbk) hsl (by omega) (by omega) (by rw [size_madeCells,hcw];exact Q6 _) (by simp only [maxLen];omega) hrep).put (hws d (by simp [Mic.ws])) ?_⟩;refine .buf d 0 c _ (zY _ _ _) hsl (by omega) ?_ (λ_=>(yV _ _ _).symm);rw [<- hlen0,sS hsl,hlen0];exact hrep
theorem sa_litr (hok:yR P te) (hd:o.dst=some d) (ho:o.op=.buildSlice t n ps) (hpl:ps.toList=pl) (ht:(te t).map (·.ty)=some (.slice e)) (he:te e=some ei) (hz:ei.z.length=ei.w) (hn:n*ei.w<=16777216)
  (hp:lL s te pl vs rs) (hf:lJ (λj=>some (j*ei.w,ei.w)) (sW ei.z n) vs=some l) (hk:s.blk d=none):SA P o s ⟨rs,[],[d],some (d,some (.ref d 0 n)),[(d,.var l)]⟩:=by
 refine ⟨zCo hd ?_,hp.reads,by intro e he;simp at he,by intro k hk';simp at hk';subst hk';exact hk⟩;intro cx M κ tip s' a w hi hr _;have hpr:=hp.rep hi hr;have hxs:(ps.map λ(i,x)=>(i,a.eval x)).toList=pl.map λp=>(p.1,a.eval p.2):=by simp [<- hpl]
 obtain ⟨arr,hrun,hcr⟩:=zOq hok ht he hz hn (xs:=ps.map λ(i,x)=>(i,a.eval x)) (by rw [hxs];exact hpr) hf w;exact ⟨arr,e,by simp [execOp,ho,hrun],hcr⟩
theorem va_lenR (hok:yR P te) (ho:o.op=.call { callee:=.builtin .len,args:=#[x],argTypes:=#[t] }) (ht:(te t).map (·.ty)=some (.slice e)) (hx:s.get te t x=some (.ref k off n)):VA P o s (opS x (.ref k off n)) [] (.p (.int .i64 n)):=by
 refine ⟨?_,zK hx,by simp⟩;intro cx M κ tip s' a w hi hr hb;have h1:=yC hi (yF hx s' hr);have hu:=yS hok ht;generalize hev:a.eval x=z at h1;cases h1 with
 | ref _ _ _ b l h2 h3=>exact ⟨.int .i64 n,by simp [execOp,ho,hev,resolve,invoke,builtin,Builtin.len_,run_underlying hu,goInt],.p _ _ (.int _ _)⟩
def wW (B:NB) (k:Nat):NB:=λi=>bif Q2 i k then none else B i
theorem RepA.frz {tip':Nat->Value} {B':NB} (hB:∀ i,i≠k->B' i=B i) (ht:∀ i,i≠k->tip' i=tip i) {x:Value} (hr:RepA M κ tip B v x):v.oks (wW B k)=true->RepA M κ tip' B' v x:=by
 have hne:∀ i,(wW B k i).isSome=true->i≠k:=by
  intro i h e;subst e;simp [wW] at h
 induction hr with
 | p v x h1=>intro _;exact .p v x h1
 | nl c h1=>intro _;exact .nl c h1
 | ptr i o b l h1 h2=>intro h;simp only [Qh] at h;exact .ptr i o b l h1 (by rw [hB i (hne i h)];exact h2)
 | ref i o n b l h1 h2=>intro h;simp only [Qh] at h;exact .ref i o n b l h1 (by rw [hB i (hne i h)];exact h2)
 | buf i n c x h1 hs h2 h3 h4=>intro h;simp only [Qh] at h;exact .buf i n c x (by rw [hB i (hne i h)];exact h1) hs h2 h3 (λe=>by rw [ht i (hne i h)];exact h4 e)
 | ag l vs h1 _ ih=>intro h;simp only [Qh] at h;exact .ag l vs h1 (λj q hq=>ih j q hq (vU l h j q hq))
 | tu l vs h1 _ ih=>intro h;simp only [Qh] at h;exact .tu l vs h1 (λj q hq=>ih j q hq (vU l h j q hq))
 | fnv f l vs h1 _ ih=>intro h;simp only [Qh] at h;exact .fnv f l vs h1 (λj q hq=>ih j q hq (vU l h j q hq))
 | own i n w l x h1 h2 h3 hs=>intro h;simp only [Qh] at h;exact .own i n w l x (by rw [hB i (hne i h)];exact h1) h2 (λe=>by rw [ht i (hne i h)];exact h3 e) hs
 | optr i n o w l x h1 h2 h3 hs=>intro h;simp only [Qh] at h;exact .optr i n o w l x (by rw [hB i (hne i h)];exact h1) h2 h3 hs
 | osl i n o m w l x h1 h2 h3 hs=>intro h;simp only [Qh] at h;exact .osl i n o m w l x (by rw [hB i (hne i h)];exact h1) h2 h3 hs
theorem Imp.freeze {t:Nat} {c:PV} {w0:Nat} (he:s.env t=some (.ref k 0 n)) (hb:s.blk k=some (.var l)) (hrd:s.rdL l=some (cs,bs)) (hc:fJ w0 c cs) (hcn:c.len=n) (hw:0<w0) (hml:n<=maxLen)
  (hpk:∀ e∈pk,e.1≠k) (hE:∀ u v,u≠t->s.env u=some v->v.oks (wW s.blk k)=true) (hV:∀ i li,i≠k->s.blk i=some (.var li)->pH (wW s.blk k) li=true) (hW:∀ i w li,s.blk i=some (.own w li)->pH (wW s.blk k) li=true):Imp pk s ((s.setb k (.buf c)).put t (.buf k n)):=by
 intro cx a w hcx hs;obtain ⟨M,κ,tip,h0,hp,hi⟩:=hs;obtain ⟨b,arr,e,fz,q1,q2,q3,q4,q5,q6,q7⟩:=hi.vars k l hb;obtain ⟨x,hx1,hx2⟩:=hi.env t _ he;obtain ⟨r1,r2⟩:=fY hrd q5;obtain ⟨c1,c2,c3,c4⟩:=hc.cells r2;have hasz:arr.size=n*w0:=by rw [q4,<- r1,<- c4,hcn]
 cases hx2 with
 | ref _ _ _ b' l' g1 g2=>
 rw [q1] at g1;cases g1;have hbase:cx.w0.heap.size<=b:=by
  rcases q7 with q7 | q7
  ·exact q7
  ·simp only [Ctx.pb,Qq] at q7;obtain ⟨e',he',rfl⟩:=q7;have h1:=(hp e' he').1;have:=hi.inj _ _ _ h1 q1;exact (hpk e' (hcx▸he') this).elim
 have hle:M.le (addM M b 0 (n*c.width) (arr[·]?)):=addM_le λo _ _=>q6 o;have hrep:Rep (addM M b 0 (n*c.width) (arr[·]?)) c (.slice (some ⟨b,0,none⟩) n n):=by
  have:=wV (M':=addM M b 0 (n*c.width) (arr[·]?)) (b:=b) (o:=0) (cap:=n) c1 c2 hle ?_ (by omega)
  ·rwa [hcn] at this
  intro j hj;rw [hcn] at hj;simp only [addM,Ql];rw [if_pos ⟨trivial,Qp _,hj⟩];rw [c3,<- hasz] at hj;simp [hj]
 have hB:∀ i,i≠k->(s.setb k (.buf c)).blk i=s.blk i:=λi h=>zU h;have hT:∀ i,i≠k->mW tip k (.slice (some ⟨b,0,none⟩) n n) i=tip i:=λi h=>yZ h;have hother:∀ b' o,b'≠b->addM M b 0 (n*c.width) (arr[·]?) b' o=M b' o:=by
  intro b' o hne;unfold addM;rw [if_neg (by intro h;exact hne h.1)]
 have hmap:∀ {v:AV} {x:Value},RepA M κ tip s.blk v x->v.oks (wW s.blk k)=true->RepA (addM M b 0 (n*c.width) (arr[·]?)) κ (mW tip k (.slice (some ⟨b,0,none⟩) n n)) (s.setb k (.buf c)).blk v x:=
  λh ho=>(h.frz hB hT ho).mono hle
 refine ⟨addM M b 0 (n*c.width) (arr[·]?),κ,mW tip k (.slice (some ⟨b,0,none⟩) n n),h0.trans' hle,hp,{
  defers:=hi.defers
  size:=hi.size
  fr:=hi.fr
  mem:=λb' o y h=>by
   unfold addM at h;split at h
   ·rename_i hc';obtain ⟨rfl,_,hlt⟩:=hc';simp only [Qr,q2];simpa using h
   ·exact hi.mem b' o y h
  env:=λu v h=>by
   simp only [AS.put] at h;cases hbq:Q2 u t with
   | true=>
    have:=Q0 hbq;subst this;simp at h;subst h;refine ⟨_,hx1,.buf k n c _ (zY _ _ _) c2 (by omega) ?_ (λ_=>(yV _ _ _).symm)⟩;rw [<- hcn,sS c2,hcn];exact hrep
   | false=>
    simp [hbq] at h;have hne:u≠t:=by rintro rfl;simp at hbq
    obtain ⟨y,h1,h2⟩:=hi.env u v h;exact ⟨y,h1,hmap h2 (hE u v hne h)⟩
  vars:=λi li h=>by
   have hne:i≠k:=by rintro rfl;have h':(s.setb i (.buf c)).blk i=some (.var li):=h;rw [zY] at h';cases h'
   have h':(s.setb k (.buf c)).blk i=some (.var li):=h;rw [hB i hne] at h';obtain ⟨b2,arr2,e2,fz2,z1,z2,z3,z4,z5,z6,z7⟩:=hi.vars i li h';have hnb:b2≠b:=λe=>hne (hi.inj i k b (e▸z1) q1);exact ⟨b2,arr2,e2,fz2,z1,z2,z3,z4,λj q hq=>hmap (z5 j q hq) (vU li (hV i li hne h') j q hq),λo=>by rw [hother b2 o hnb];exact z6 o,z7⟩
  bufs:=λi ci h=>by
   have h':(s.setb k (.buf c)).blk i=some (.buf ci):=h;by_cases hne:i=k
   ·subst hne;rw [zY] at h';cases h';rw [yV];refine ⟨hrep,c2,by omega,.inr ⟨b,n,n,arr,e,fz,rfl,q1,hbase,q2,q3,by rw [c3,hasz];exact Q6 _,hml,λj hj=>?_⟩⟩;unfold addM;rw [if_neg (by omega)];exact q6 j
   ·rw [hB i hne] at h';obtain ⟨z1,z2,z3,z4⟩:=hi.bufs i ci h';rw [hT i hne];refine ⟨z1.mono hle,z2,z3,?_⟩;rcases z4 with z4 | ⟨b2,n2,cap2,arr2,e2,fz2,y1,y2,y3,y4,y5,y6,y7,y8⟩
    ·exact .inl z4
    ·have hnb:b2≠b:=λe=>hne (hi.inj i k b (e▸y2) q1);exact .inr ⟨b2,n2,cap2,arr2,e2,fz2,y1,y2,y3,y4,y5,y6,y7,λj hj=>by rw [hother b2 j hnb];exact y8 j hj⟩
  inj:=hi.inj
  dom:=λi h=>by
   have h':(s.setb k (.buf c)).blk i=none:=h;by_cases hne:i=k
   ·subst hne;rw [zY] at h';cases h'
   ·rw [hB i hne] at h';exact hi.dom i h'
  glob:=hi.glob.mono hle
  old:=λb' o hb'=>by rw [hother b' o (by omega)];exact hi.old b' o hb'
  owns:=hi.owns.keep λi wd li h=>by
   have h':(s.setb k (.buf c)).blk i=some (.own wd li):=h;have hne:i≠k:=by rintro rfl;rw [zY] at h';cases h'
   rw [hB i hne] at h';exact ⟨h',rfl,hT i hne,λb2 z=>⟨rfl,λo hm=>by rw [hother b2 o (λe=>hne (hi.inj i k b (e▸z) q1))];exact hm⟩,λj q x hq hr=>hmap hr (vU li (hW i wd li h') j q hq)⟩}⟩
end
section
theorem zVk {w:World} (l:By):∃ w' arr cap,(Conv.stringToBytes e ⟨l.toArray⟩).run P w=.ok (.slice (some ⟨w.heap.size,0,none⟩) l.length cap) w'/\zHe w w' arr e (arr.size,arr.size+1)/\l.length<=cap/\arr.size=cap/\(l.length<=maxLen->cap<=maxLen) /\
  ∀ (j:Nat) (u:UInt8),l[j]? = some u->arr[j]? = some (.int .u8 u.toNat):=by
 have hsz:(ByteArray.mk l.toArray).size=l.length:=zDe l;have hge:=grownCap_ge w l.length 0 e;generalize hA:(l.toArray.map λb=>Qf .u8 b.toNat)++Array.replicate (grownCap w l.length 0 e - l.length) (Qf .u8 0)=A;have hAs:A.size=grownCap w l.length 0 e:=by rw [<- hA];simp;omega
 have hnew:(w.drew.alloc (.cells A e)).heap[w.heap.size]? = some (.cells A e):=by have:=heap_alloc_new w.drew (.cells A e);simpa using this
 refine ⟨(w.drew.alloc (.cells A e)).freeze ⟨w.heap.size,A.size,none⟩ 1,A,grownCap w l.length 0 e,?_,?_,hge,hAs,λh=>grownCap_le_maxLen w l.length 0 e h,?_⟩
 ·simp only [Conv.stringToBytes,hsz];have hmk:∀ W:World,W.heap[w.heap.size]? = some (.cells A e)->(markStringish ⟨w.heap.size,0,none⟩).run P W=.ok () (W.freeze ⟨w.heap.size,A.size,none⟩ 1):=by
   intro W hW;simp [markStringish,shape,Sem.run,World.shape?,hW,freeze]
  have hm:=hmk _ hnew;have hch:(choose (.appendCap l.length 0 e)).run P w=.ok (grownCap w l.length 0 e) w.drew:=by simp [choose,Sem.run,Question.forced,grownCap]
  simp only [Sem.run_bind,hch,Qi,newRow,newObj];have hA':(Array.map (λb=>Qf Qk b.toNat) (ByteArray.mk l.toArray).data++Array.replicate (grownCap w l.length 0 e - l.length) (Qf .u8 0))=A:=hA;rw [hA'];have hrun:(Sem.new (.cells A e) Sem.pure:Sem Nat).run P w.drew=.ok w.heap.size (w.drew.alloc (.cells A e)):=rfl;simp only [hrun,Qi,Sem.run_pure,hm]
 ·exact {
   os:=by simp [Q3];rfl
   tape:=by simp [Q3]
   output:=by simp [Q3];rfl
   size:=by simp [Q3]
   old:=λi h=>by
    simp only [Q3,Array.getElem?_modify];simp only [Qo,if_false,Array.getElem?_modify];rw [if_neg (by omega),hao w.drew _ i h];rfl
   new:=by
    unfold Q3;simp only [Qo,if_false,Array.getElem?_modify,if_true];rw [hnew];simp
   free:=.inr (Q6 _) }
 ·intro j u hu;rw [<- hA];have:j<l.length:=(List.getElem?_eq_some_iff.1 hu).1;rw [Array.getElem?_append_left (by simpa using this)];simp [hu]
theorem sa_stb {l:By} (hok:yR P te) (hd:o.dst=some d) (ho:o.op=.convert src dst x) (hs:(te src).map (·.ty)=some .str) (ht:(te dst).map (·.ty)=some (.slice e)) (he:(te e).map (·.ty)=some (.int .u8)) (hx:s.get te src x=some (.p (.str l))) (hl:l.length<=140737488355328) (hk:s.blk d=none) :
  SA P o s ⟨opS x (.p (.str l)),[],[d],some (d,some (.buf d l.length)),[(d,.buf (.bytes l))]⟩:=by
 refine ⟨?_,zK hx,by intro e he;simp at he,by intro k hk';simp at hk';subst hk';exact hk⟩;intro cx s' a w K Q hm hs' hws hk';obtain ⟨M,κ,tip,h0,hp,hi⟩:=hs';have hbk:=hm.2.2 d (by simp);have h1:=iO (repA_pv (yC hi (yF hx s' hm.1)));obtain ⟨w',arr,cap,r1,r2,r3,r4,r5,r6⟩:=zVk (P:=P) (w:=w) (e:=e) l;unfold Oper.wp;have:(execOp a.eval o).run P w=.ok (.value (.slice (some ⟨w.heap.size,0,none⟩) l.length cap)) w':=by
  simp [execOp,ho,h1,convert,run_underlying (zA7 hok hs),run_underlying (yS hok ht),run_underlying (zDm hok he),r1]
 rw [this];show K (a.put o.dst _) _;rw [hd];refine hk' _ _ ?_;rw [uH];have hle:M.le (addM M w.heap.size 0 (l.length*(PV.bytes l).width) (arr[·]?)):=addM_le λo _ _=>hi.mlt (Q6 _);have hrep:Rep (addM M w.heap.size 0 (l.length*(PV.bytes l).width) (arr[·]?)) (.bytes l) (.slice (some ⟨w.heap.size,0,none⟩) l.length cap):=by
  refine .bytes l _ _ _ _ rfl r3 ?_;intro i u hu;have:i<l.length:=(List.getElem?_eq_some_iff.1 hu).1;simp only [addM,Ql];rw [if_pos ⟨trivial,Qp _,by simp only [Qt,Qg];exact this⟩];exact r6 i u hu
 refine ⟨_,_,_,h0.trans' hle,zAt hi hp hbk _,(hi.bufNew r2 (.inl hbk) rfl (by simp [Qt]) (by simp only [Qt];omega) (by simp only [Qt];omega) (r5 (by simp only [maxLen];omega)) hrep).put (hws d (by simp [Mic.ws])) ?_⟩;refine .buf d _ (.bytes l) _ (zY _ _ _) rfl (Q6 _) ?_ (λ_=>(yV _ _ _).symm);have:(PV.bytes l).take l.length=.bytes l:=by simp [PV.take]
 rw [this];exact hrep
end
theorem zLg (w:World) (b n:Nat):∃ f:Obj->Obj,(∀ c e fz,∃ fz',f (.cells c e fz)=.cells c e fz'/\(n=c.size->zD9 fz c.size->zD9 fz' c.size))/\∀ i,(w.freeze ⟨b,n,none⟩ 1).heap[i]? = if b=i then (w.heap[i]?).map f else w.heap[i]?:=by
 refine ⟨λo=>match o with | .cells c elem fz=>.cells c elem (if fz.1==fz.2 then (n,n+1) else (min fz.1 n,max fz.2 (n+1))) | o=>o,?_,?_⟩
 ·intro c e fz;refine ⟨_,rfl,λhn hf=>?_⟩;unfold zD9 at *;subst hn;split
  ·exact .inr (Q6 _)
  ·rename_i h;refine .inr ?_;simp only [beq_iff_eq] at h;simp only;omega
 ·intro i;unfold Q3;simp only [Qo,if_false,Array.getElem?_modify];split
  ·cases w.heap[i]? with
   | none=>rfl
   | some o=>cases o<;>rfl
  ·rfl
section
theorem Inv.frzMark {a:Act} {w:World} (hi:Inv cx M κ tip s a w) {b:Nat} {arr:Array Value} {fz:Nat×Nat} (hk:κ k=some b) (hbase:cx.w0.heap.size<=b) (hheap:w.heap[b]? = some (.cells arr e fz)) :
  Inv cx M κ tip s a (w.freeze ⟨b,arr.size,none⟩ 1):=by
 obtain ⟨f,hf,hh⟩:=zLg w b arr.size;have hsz:(w.freeze ⟨b,arr.size,none⟩ 1).heap.size=w.heap.size:=by unfold Q3;simp
 have hcell:∀ i o x,w.cell? ⟨i,o,none⟩=some x->(w.freeze ⟨b,arr.size,none⟩ 1).cell? ⟨i,o,none⟩=some x:=by
  intro i o x h;simp only [Qr,hh i] at h ⊢;by_cases hbi:b=i
  ·subst hbi;rw [hheap] at h;obtain ⟨fz',h1,_⟩:=hf arr e fz;simp only [if_true,hheap,Q8,h1];exact h
  ·rw [if_neg hbi];exact h
 exact {
  defers:=hi.defers
  size:=hi.size
  fr:=⟨by have:=hi.fr.os;unfold Q3;simpa using this,by have:=hi.fr.tape;unfold Q3;simpa using this,by have:=hi.fr.output;unfold Q3;simpa using this,by rw [hsz];exact hi.fr.size,λi h1 h2=>by
   rw [hh i,if_neg (by omega)];exact hi.fr.block i h1 h2⟩
  mem:=λi o x h=>hcell i o x (hi.mem i o x h)
  env:=hi.env
  vars:=λi l h=>by
   obtain ⟨b2,arr2,e2,fz2,k1,k2,k3,k4,k5⟩:=hi.vars i l h;by_cases hb:b=b2
   ·subst hb;rw [hheap] at k2;cases k2;obtain ⟨fz',h1,h2⟩:=hf arr e fz;exact ⟨b,arr,e,fz',k1,by rw [hh b,if_pos rfl,hheap,Q8,h1],h2 rfl k3,k4,k5⟩
   ·exact ⟨b2,arr2,e2,fz2,k1,by rw [hh b2,if_neg hb];exact k2,k3,k4,k5⟩
  bufs:=λi c h=>by
   obtain ⟨k1,k2,k3,k4⟩:=hi.bufs i c h;refine ⟨k1,k2,k3,?_⟩;rcases k4 with k4 | ⟨b2,n2,cap2,arr2,e2,fz2,q1,q2,q3,q4,q5,q6⟩
   ·exact .inl k4
   ·by_cases hb:b=b2
    ·subst hb;rw [hheap] at q4;cases q4;obtain ⟨fz',h1,h2⟩:=hf arr e fz;exact .inr ⟨b,n2,cap2,arr,e,fz',q1,q2,q3,by rw [hh b,if_pos rfl,hheap,Q8,h1],h2 rfl q5,q6⟩
    ·exact .inr ⟨b2,n2,cap2,arr2,e2,fz2,q1,q2,q3,by rw [hh b2,if_neg hb];exact q4,q5,q6⟩
  inj:=hi.inj
  dom:=hi.dom
  glob:=hi.glob
  old:=hi.old
  owns:=λi wd l h=>by
   obtain ⟨g1,g2⟩:=hi.owns i wd l h;refine ⟨g1,?_⟩;rcases g2 with g2 | ⟨b2,n2,cap2,arr2,e2,fz2,q1,q2,q3,q4,q5,q6⟩
   ·exact .inl g2
   ·by_cases hb:b=b2
    ·subst hb;rw [hheap] at q4;cases q4;obtain ⟨fz',h1,h2⟩:=hf arr e fz;exact .inr ⟨b,n2,cap2,arr,e,fz',q1,q2,q3,by rw [hh b,if_pos rfl,hheap,Q8,h1],h2 rfl q5,q6⟩
    ·exact .inr ⟨b2,n2,cap2,arr2,e2,fz2,q1,q2,q3,by rw [hh b2,if_neg hb];exact q4,q5,q6⟩}
theorem sa_bb {l:By} (hok:yR P te) (hd:o.dst=some d) (ho:o.op=.convert t t x) (ht:(te t).map (·.ty)=some (.slice e)) (he:(te e).map (·.ty)=some (.int .u8)) (hx:s.get te t x=some (.buf k l.length)) (hk:s.blk k=some (.buf (.bytes l))) (hl:l≠[]) :
  SA P o s ⟨opS x (.buf k l.length),[(k,.buf (.bytes l))],[],some (d,some (.buf k l.length)),[]⟩:=by
 refine ⟨?_,zK hx,by intro e he;simp at he;subst he;exact hk,by intro k hk';simp at hk'⟩;intro cx s' a w K Q hm hs' hws hk';obtain ⟨M,κ,tip,h0,hp,hi⟩:=hs';have hbk:s'.blk k=some (.buf (.bytes l)):=hm.2.1 (k,.buf (.bytes l)) (by simp);have hx':=yC hi (yF hx s' hm.1);obtain ⟨b1,b2,b3,b4⟩:=hi.bufs k _ hbk;have hevx:a.eval x=tip k:=by
  have hx2:=hx';generalize a.eval x=zx at hx2;cases hx2 with
  | buf _ _ c' _ g1 g2 g3 g4 g5=>rw [hbk] at g1;cases g1;exact g5 rfl
 rcases b4 with ⟨hnil,_⟩ | ⟨b,n,cap,arr,e1,fz,htip,hκ,hbase,hheap,hfree,hcap,hml,hM⟩
 ·rw [hnil] at b1;cases b1;exact (hl rfl).elim
 ·unfold Oper.wp;have:(execOp a.eval o).run P w=.ok (.value (tip k)) (w.freeze ⟨b,arr.size,none⟩ 1):=by
   rw [htip] at hevx ⊢;simp [execOp,ho,hevx,convert,run_underlying (yS hok ht),run_underlying (zDm hok he),markStringish,shape,Sem.run,World.shape?,hheap,freeze]
  rw [this];show K (a.put o.dst _) _;rw [hd];refine hk' _ _ ⟨M,κ,tip,h0,hp,?_⟩;have hr:=hx';rw [hevx] at hr;exact (hi.frzMark hκ hbase hheap).put (hws d (by simp [Mic.ws])) hr
theorem sa_copy {m:By} (hok:yR P te) (hd:o.dst=some d) (ho:o.op=.call { callee:=.builtin .copy,args:=#[x,y],argTypes:=#[t,t'] }) (ht:(te t).map (·.ty)=some (.slice e)) (he:te e=some ei) (hw:ei.w=1)
  (hx:s.get te t x=some (.ref k off n)) (hk:s.blk k=some (.var l)) (hl:off+n<=l.length) (hy:s.get te t' y=some vy) (hp:s.rd vy=some (.bytes m,bs)) :
  SA P o s ⟨opS x (.ref k off n)++opS y vy,(k,.var l) :: bs,[],some (d,some (.p (.int .i64 (min m.length n:Nat)))),[(k,.var (qM l off ((m.take n).map λu=>.p (.int .u8 u.toNat))))]⟩:=by
 refine ⟨?_,yH (zK hx) (zK hy),λe he=>(Qu.1 he).elim (λh=>by subst h;exact hk) (tD vy _ bs hp e),by intro k hk';simp at hk'⟩;intro cx s' a w K Q hm hs' hws hk';obtain ⟨M,κ,tip,h0,hpk,hi⟩:=hs';have hbk:s'.blk k=some (.var l):=hm.2.1 (k,.var l) (by simp);have hx':=yC hi (yF hx s' (yD hm.1));have hy':=hJ hi hy hp (zZ hm.1) (λe he=>hm.2.1 e (by simp [he]));obtain ⟨b,arr,e1,fz,q1,q2,q3,q4,q5,q6,q7⟩:=hi.vars k l hbk;obtain ⟨info,z,i1,i2,i3,i4,i5⟩:=(hok e ei he).info;have hu:=yS hok ht;have hsz1:(P.info? e).map (·.size)=some 1:=by rw [i1,Q8,i2,hw]
 generalize hev:a.eval x=zx at hx';cases hx' with
 | ref _ _ _ b' l' g1 g2=>
 rw [q1] at g1;cases g1;have hfin:∀ (w':World) (vs:List Value),(execOp a.eval o).run P w=.ok (.value (.int .i64 (min m.length n:Nat))) w'->w'=w.setCells b off vs->vs=(m.take n).map (λu=>.int .u8 u.toNat)->o.wp P a w K Q:=by
  intro w' vs h1 h2 h3;subst h2;unfold Oper.wp;rw [h1];show K (a.put o.dst _) _;rw [hd];refine hk' _ _ ?_;rw [uH];refine ⟨M,κ,tip,h0,hpk,(hi.setVar hbk q1 (by simp;omega) (by simp [h3]) ?_).put (hws d (by simp [Mic.ws])) (.p _ _ (.int _ _))⟩;intro j q hq;rw [List.getElem?_map] at hq;obtain ⟨u,h4,h5⟩:=Q7.1 hq;subst h5;rw [h3,List.getElem?_map,h4];exact .p _ _ (.int _ _)
 generalize hevy:a.eval y=zy at hy';cases hy' with
 | bytes0=>
  refine hfin w [] ?_ rfl (by simp);have:=run_copy_none (P:=P) w t t' o.type e (some ⟨b,off,none⟩) none n n 0 0 hu hsz1 (by simp [Nat.min_def]);simp [execOp,ho,hev,hevy,resolve,invoke,builtin,this,goInt]
 | bytesE aa=>
  refine hfin w [] ?_ rfl (by simp);have:=run_copy_none (P:=P) w t t' o.type e (some ⟨b,off,none⟩) (some aa) n n 0 0 hu hsz1 (by simp [Nat.min_def]);simp [execOp,ho,hev,hevy,resolve,invoke,builtin,this,goInt]
 | bytes _ b2 o2 n2 c2 e1' e2' e3'=>
  have hcs:((m.take n).map λu=>Qf .u8 u.toNat).length=Nat.min n2 n:=by simp [e1',Nat.min_comm]
  have hrun:=run_copy_cells (P:=P) w t t' o.type e b off n n ⟨b2,o2,none⟩ n2 c2 ((m.take n).map λu=>Qf .u8 u.toNat) hu hsz1 hcs
   (by
    intro j u hu';rw [List.getElem?_map] at hu';obtain ⟨u',h4,h5⟩:=Q7.1 hu';rw [List.getElem?_take] at h4;split at h4
    ·rw [add_off,<- h5];exact hi.mem _ _ _ (e3' j u' h4)
    ·cases h4)
   (by
     intro j hj;simp at hj;have:off+j<arr.size:=by omega
     simp [Qr,q2,this])
   (by intro j hj;simp at hj;exact rO q2 q3 (by omega))
   (by intro u hu';obtain ⟨u',_,rfl⟩:=Qq.1 hu';rfl)
  refine hfin _ _ ?_ rfl rfl;have hmin:((m.take n).map λu=>Qf .u8 u.toNat).length=min m.length n:=by simp [Nat.min_comm]
  rw [hmin] at hrun;simp [execOp,ho,hev,hevy,resolve,invoke,builtin,hrun,goInt]
end
def ck (b:Bool):Option Unit:=bif b then some () else none
theorem xA {b:Bool} {u:Unit} (h:ck b=some u):b=true:=by cases b<;>simp [ck] at h ⊢
def idx (l:List α) (i:Int):Option α:=if 0<=i then l[i.toNat]? else none
def sub (l:List α) (lo hi:Int):Option (List α):=if 0<=lo/\lo<=hi/\hi<=l.length then some ((l.drop lo.toNat).take (hi.toNat - lo.toNat)) else none
def upd (l:List α) (i:Int) (v:α):Option (List α):=if 0<=i/\i<l.length then some (l.set i.toNat v) else none
theorem fD {l:List α} {i:Int} {x:α} (h:idx l i=some x):0<=i/\l[i.toNat]? = some x:=by
 unfold idx at h;split at h
 ·exact ⟨‹_›,h⟩
 ·cases h
theorem zP7 {l:By} {i:Int} {x:UInt8} (h:idx l i=some x):(PV.bytes l).idx i=some (.int .u8 x.toNat):=by
 obtain ⟨h0,h1⟩:=fD h;simp [PV.idx,h0,h1]
theorem idxM {l:List α} {i:Int} {x:α} (h:idx l i=some x):(PV.sl w (l.map f)).idx i=some (f x):=by
 obtain ⟨h0,h1⟩:=fD h;simp [PV.idx,h0,h1]
theorem zMf {l r:List α} {lo hi:Int} (h:sub l lo hi=some r):0<=lo/\lo<=hi/\hi<=l.length/\r=(l.drop lo.toNat).take (hi.toNat - lo.toNat):=by
 unfold sub at h;split at h
 ·rename_i hc;cases h;exact ⟨hc.1,hc.2.1,hc.2.2,rfl⟩
 ·cases h
theorem pR (n:Int):0<=IntKind.u64.wrap n:=by
 simp [IntKind.wrap,IntKind.signed,IntKind.bits];exact Int.emod_nonneg _ (by decide)
section
theorem mv (hok:yR P te) (ho:o.op=.move x) (h:s.get te o.type x=some v):VA P o s (opS x v) [] v:=zOo (.inl ho) h
theorem asg (hok:yR P te) (ho:o.op=.assign x) (h:s.get te o.type x=some v):VA P o s (opS x v) [] v:=zOo (.inr ho) h
theorem iop (hok:yR P te) (f:IOp) {k:IntKind} (ho:o.op=.binOp f.op tx x y tyy) (hx:s.get te tx x=some (.p (.int k a))) (hy:s.get te tyy y=some (.p (.int k b))):VA P o s (opS x (.p (.int k a))++opS y (.p (.int k b))) [] (.p (.int k (f.val k a b))):=zN3 f ho hx hy
theorem iop8 (hok:yR P te) (f:IOp) (ho:o.op=.binOp f.op tx x y tyy) (hx:s.get te tx x=some (.p (.int .u8 a))) (hy:s.get te tyy y=some (.p (.int .u8 b))):VA P o s (opS x (.p (.int .u8 a))++opS y (.p (.int .u8 b))) [] (.p (.int .u8 (u8 (f.val .u8 a b)).toNat)):=zVd f ho hx hy
theorem cmp (hok:yR P te) (f:COp) {k:IntKind} (ho:o.op=.binOp f.op tx x y tyy) (hx:s.get te tx x=some (.p (.int k a))) (hy:s.get te tyy y=some (.p (.int k b))):VA P o s (opS x (.p (.int k a))++opS y (.p (.int k b))) [] (.p (.bool (f.val a b))):=zZr f ho hx hy
theorem scm (hok:yR P te) (f:COp) {a b:By} (ho:o.op=.binOp f.op tx x y tyy) (hx:s.get te tx x=some (.p (.str a))) (hy:s.get te tyy y=some (.p (.str b))):VA P o s (opS x (.p (.str a))++opS y (.p (.str b))) [] (.p (.bool (SOp f a b))):=zUm f ho hx hy
theorem pkT (hok:yR P te) {a b:Operand} {bb:Bool} (hbb:bb=true) (ho:o.op=.pick c a b) (hc:s.get te 0 c=some (.p (.bool bb))) (h:s.get te o.type a=some v):VA P o s (opS c (.p (.bool true))++opS a v) [] v:=yD9 ho hbb hc h
theorem pkF (hok:yR P te) {a b:Operand} {bb:Bool} (hbb:bb=false) (ho:o.op=.pick c a b) (hc:s.get te 0 c=some (.p (.bool bb))) (h:s.get te o.type b=some v):VA P o s (opS c (.p (.bool false))++opS b v) [] v:=yD8 ho hbb hc h
theorem lnS (hok:yR P te) (ho:o.op=.call { callee:=.builtin .len,args:=#[x],argTypes:=#[t] }) (ht:(te t).map (·.ty)=some (.slice e)) (hx:s.get te t x=some v) (hp:s.rd v=some (p,bs)) (hs:p.isSlice=true):VA P o s (opS x v) bs (.p (.int .i64 p.len)):=
 zRm hok ho (.inl ⟨e,ht⟩) hx hp (by cases p<;>simp [PV.isSlice] at hs<;>rfl) (λ_=>hs) (λh=>by rw [ht] at h;cases h)
theorem lnT (hok:yR P te) {l:By} (ho:o.op=.call { callee:=.builtin .len,args:=#[x],argTypes:=#[t] }) (ht:(te t).map (·.ty)=some .str) (hx:s.get te t x=some (.p (.str l))):VA P o s (opS x (.p (.str l))) [] (.p (.int .i64 l.length)):=
 zRm hok ho (.inr ht) hx rfl rfl (λ⟨e,h⟩ =>by rw [ht] at h;cases h) (λ_=>rfl)
theorem lnM (hok:yR P te) {l:List α} (ho:o.op=.call { callee:=.builtin .len,args:=#[x],argTypes:=#[t] }) (ht:(te t).map (·.ty)=some (.slice e)) (hx:s.get te t x=some v) (hp:s.rd v=some (.sl w (l.map f),bs)):VA P o s (opS x v) bs (.p (.int .i64 l.length)):=by
 have:=lnS hok ho ht hx hp rfl;simpa [Qc] using this
theorem slB (hok:yR P te) {l r:By} (h:sub l a b=some r) (ho:o.op=.slice t x lo hi mx)
  (ht:(te t).map (·.ty)=some (.slice e)) (he:te e=some ei) (hx:s.get te t x=some v) (hp:s.rd v=some (.bytes l,bs)) (hw:1=ei.w)
  (hlo:Bd s te lo lo' rl) (hhi:Bd s te hi hi' rh) (hmx:Bd s te mx mx' rm) (hm:mx'=none∨(mx'=hi'/\hi'.isSome=true)) (ea:lo'.getD 0=a) (eb:hi'.getD l.length=b) :
  VA P o s (opS x v++(rl++(rh++rm))) bs (.p (.bytes r)):=by
 obtain ⟨h0,h1,h2,h3⟩:=zMf h;subst ea;have hh:hi'.getD ((PV.bytes l).len:Int)=b:=eb;have:=zLn (P:=P) hok ho ht he hx hp rfl hw hlo hhi hmx (by rcases hm with hm | ⟨hm,hs⟩<;>simp [hm]) h0 (by rw [hh];exact h1)
  (by
    rw [hh];rcases hm with hm | ⟨hm,hs⟩
    ·rw [hm];exact h2
    ·rw [hm];obtain ⟨i,hi⟩:=Qa.1 hs;rw [hi] at eb ⊢;simp at eb ⊢;omega)
  (by
    rcases hm with hm | ⟨hm,hs⟩
    ·rw [hm];simp
    ·rw [hm];obtain ⟨i,hi⟩:=Qa.1 hs;rw [hi] at eb ⊢;simp at eb ⊢;rw [eb];exact h2)
 rw [hh] at this;rw [h3];exact this
theorem slM (hok:yR P te) {l r:List α} (h:sub l a b=some r) (ho:o.op=.slice t x lo hi mx)
  (ht:(te t).map (·.ty)=some (.slice e)) (he:te e=some ei) (hx:s.get te t x=some v) (hp:s.rd v=some (.sl w (l.map f),bs)) (hw:w=ei.w)
  (hlo:Bd s te lo lo' rl) (hhi:Bd s te hi hi' rh) (hmx:Bd s te mx mx' rm) (hm:mx'=none∨(mx'=hi'/\hi'.isSome=true)) (ea:lo'.getD 0=a) (eb:hi'.getD l.length=b) :
  VA P o s (opS x v++(rl++(rh++rm))) bs (.p (.sl w (r.map f))):=by
 obtain ⟨h0,h1,h2,h3⟩:=zMf h;subst ea;have hh:hi'.getD ((PV.sl w (l.map f)).len:Int)=b:=by simp only [Qc,Qn];exact eb
 have hlen:((PV.sl w (l.map f)).len:Int)=l.length:=by simp [Qc]
 have:=zLn (P:=P) hok ho ht he hx hp rfl hw hlo hhi hmx (by rcases hm with hm | ⟨hm,hs⟩<;>simp [hm]) h0 (by rw [hh];exact h1)
  (by
    rw [hh];rcases hm with hm | ⟨hm,hs⟩
    ·rw [hm,Option.getD_none,hlen];exact h2
    ·rw [hm];obtain ⟨i,hi⟩:=Qa.1 hs;rw [hi] at eb ⊢;simp at eb ⊢;omega)
  (by
    rcases hm with hm | ⟨hm,hs⟩
    ·rw [hm];simp
    ·rw [hm,hlen];obtain ⟨i,hi⟩:=Qa.1 hs;rw [hi] at eb ⊢;simp at eb ⊢;rw [eb];exact h2)
 rw [hh] at this;rw [h3];simpa [PV.sub,List.map_take,List.map_drop] using this
end
theorem zL8 {q:AV} (hd:o.dst=some d) (hy:∀ (cx:Ctx) (s:AS) (a:Act) (w:World),tG cx s a w->s.env dj=some q->Qb o (yielded ops a.tmps)=false) :
  zPa P ops o ⟨[(dj,q)],[],[],some (d,some (.p (.tup []))),[]⟩:=by
 intro cx s a w K Q hm hs hw hk;have:=hy cx s a w hs (hm.1 (dj,q) (by simp));rw [if_neg (by rw [this];simp),hd];obtain ⟨M,κ,tip,h0,hp,hi⟩:=hs;exact hk _ _ ⟨M,κ,tip,h0,hp,hi.put (hw d (by simp [Mic.ws])) (.p _ _ (.tup [] #[] rfl (by simp)))⟩
section
theorem RK.sk {b b2:Bool} (hb2:b2=b) (hd0:(o.dst,o.guard,(ops[j]?).bind (·.dst),s.env dj,b')=(some d,some (j,b'),some dj,some (.p (.bool b2)),!b))
  (k:RK P ops r (s.put d (.p (.tup []))) λs' ms=>K s' (⟨[(dj,.p (.bool b))],[],[],some (d,some (.p (.tup []))),[]⟩:: ms)):RK P ops (o :: r) s K:=have ⟨hd,hd0⟩:=pq hd0;have ⟨hg,hd0⟩:=pq hd0;have ⟨hj,hd0⟩:=pq hd0;have ⟨hb,hn⟩:=pq hd0;by
 obtain ⟨s',ms,h1,h2⟩:=k;subst hb2 hn;refine ⟨s',_,.cons o r _ s s' ms (zL8 (q:=.p (.bool b2)) hd λcx s a w hs he=>?_) ⟨by intro e he;simp at he;subst he;exact hb,by simp,by simp⟩ h1,h2⟩;have hy:=zIn hs hj he;cases b2<;>simp [Qb,hg,hy]
theorem RK.su (hd0:(o.dst,o.guard,(ops[j]?).bind (·.dst),s.env dj)=(some d,some (j,b'),some dj,some (.p (.tup []))))
  (k:RK P ops r (s.put d (.p (.tup []))) λs' ms=>K s' (⟨[(dj,.p (.tup []))],[],[],some (d,some (.p (.tup []))),[]⟩:: ms)):RK P ops (o :: r) s K:=have ⟨hd,hd0⟩:=pq hd0;have ⟨hg,hd0⟩:=pq hd0;have ⟨hj,hb⟩:=pq hd0;by
 obtain ⟨s',ms,h1,h2⟩:=k;refine ⟨s',_,.cons o r _ s s' ms (zL8 (q:=.p (.tup [])) hd λcx s a w hs he=>?_) ⟨by intro e he;simp at he;subst he;exact hb,by simp,by simp⟩ h1,h2⟩;obtain ⟨M,κ,tip,h0,hp,hi⟩:=hs;obtain ⟨y,hy,hr⟩:=hi.env dj _ he;have:yielded ops a.tmps j=none:=by
  cases hr with
  | p _ _ hr=>cases hr;simp [yielded,hj,hy]
 simp [Qb,hg,this]
end
section
structure OQ {J:Type} (cx:Ctx) (f:J->Exit×AS) (j:J) (e:Exit) (s:AS):Prop where
 fst:e=(f j).1
 snd:Imp cx.pk s (f j).2
theorem cR {J:Type} {c:Code} (f:J->Exit×AS) (j:J) (h:awp P cx c (OQ cx f j) s) (k:Q (f j).1 (f j).2):awp P cx c Q s:=λa w hs=>
 wp_mono (h a w hs) λe a' w' ⟨s',h1,h2,h3⟩ =>⟨(f j).2,h3 cx a' w' rfl h1,h2▸k⟩
def LF (E:X->AS) (f:Y->Exit×AS):X ⊕ Y->Exit×AS
 | .inl x=>(.normal,E x)
 | .inr y=>f y
theorem zPh {step:X->Option (X ⊕ Y)} {x0:X} {y:Y} (E:X->AS) (f:Y->Exit×AS) (hl:zL step n x0=some y) (hi:Imp cx.pk s (E x0)) (hne:∀ y,(f y).1≠.normal)
  (hb:∀ x r,step x=some r->awp P cx body (OQ cx (LF E f) r) (E x)) (k:Q (f y).1 (f y).2):awp P cx (.loop body) Q s:=by
 refine zO2 hi (cR f y ?_ k);refine yDs E step (λy=>OQ cx f y) (λy s h=>hne y h.1.symm) (λx r hr=>?_) n x0 y hl;refine zC9 (hb x r hr) (λe s h=>?_);cases r with
 | inl x'=>exact ⟨h.1,h.2⟩
 | inr y'=>exact ⟨h.1,h.2⟩
theorem zOs {f:FuncId} {fn:Func} {as rs:AS} (E:AS) (hf:P.funcs[f]? = some fn) (hb:fn.body=some body) (hnm:(fn.name == "runtime.NumGoroutine")=false) (hnt:na<=fn.ntmps) (hks:∀ k,(as.blk k).isSome=true->k∈ks)
  (hr:∀ cx:Ctx,PK cx ks->qH P fn cx E rs) (h:∀ cx:Ctx,cx.nt=fn.ntmps->PK cx ks->awp P cx body (OQ cx (λ_:Unit=>(.ret,E)) ()) as):Ok P f na as rs:=
 zJe hf hb hnm hnt hks λcx h1 h2=>cR _ _ (h cx h1 h2) ⟨.inl rfl,hr cx h2⟩
end
theorem cond_some {c:Bool} {a b:Option β} {r:β} (h:(bif c then a else b)=some r):(c=true/\a=some r)∨(c=false/\b=some r):=by cases c<;>simp_all
def lt (e:α) (f:α->Option β):Option β:=f e
theorem zR4 {c:PV} (h:c.isSlice=true):c.take c.len=c:=by
 cases c<;>simp_all [PV.isSlice,PV.take,Qc]
theorem rdT {c:PV} (h:s.blk k=some (.buf c)) (hs:c.isSlice=true):s.rd (.buf k c.len)=some (c,[(k,.buf c)]):=by
 simp [AS.rd,h,zR4 hs]
theorem rdB {l:By} (h:s.blk k=some (.buf (.bytes l))):s.rd (.buf k l.length)=some (.bytes l,[(k,.buf (.bytes l))]):=rdT (c:=.bytes l) h rfl
theorem rdM {l:List α} (h:s.blk k=some (.buf (.sl w (l.map f)))):s.rd (.buf k l.length)=some (.sl w (l.map f),[(k,.buf (.sl w (l.map f)))]):=by
 have:=rdT (s:=s) (k:=k) (c:=.sl w (l.map f)) h rfl;simpa [Qc] using this
theorem iE:s.rdL []=some ([],[]):=by simp [AS.rdL]
theorem xK {ps:List PV} {bs':LB} (h:s.rd v=some (p,bs)) (h':s.rdL l=some (ps,bs')):s.rdL (v :: l)=some (p :: ps,bs++bs'):=by simp [AS.rdL,h,h']
theorem zHu {ps:List PV} (h:s.rdL l=some (ps,bs)):s.rd (.ag l)=some (.agg ps,bs):=by simp [AS.rd,h]
theorem zN {a b:Nat} (h:Q9 a b=true):a<=b:=Q1 h
def TI.known (i:TI):Bool:=match i.ty with | .other=>false | _=>true
theorem zM0 (h:i.known=true):i.ty≠.other:=by intro e;simp [TI.known,e] at h
section
theorem iopE (hok:yR P te) (f:IOp) {k:IntKind} {c:Int} (hc:f.val k a b=c) (ho:o.op=.binOp f.op tx x y tyy) (hx:s.get te tx x=some (.p (.int k a))) (hy:s.get te tyy y=some (.p (.int k b))):VA P o s (opS x (.p (.int k a))++opS y (.p (.int k b))) [] (.p (.int k c)):=hc▸zN3 f ho hx hy
theorem quo (hok:yR P te) {k:IntKind} (h0:(b==0)=false) (ho:o.op=.binOp .quo tx x y tyy) (hx:s.get te tx x=some (.p (.int k a))) (hy:s.get te tyy y=some (.p (.int k b))):VA P o s (opS x (.p (.int k a))++opS y (.p (.int k b))) [] (.p (.int k (k.wrap (a.tdiv b)))):=zYk ho hx hy (by simpa using h0)
theorem rem (hok:yR P te) {k:IntKind} (h0:(b==0)=false) (ho:o.op=.binOp .rem tx x y tyy) (hx:s.get te tx x=some (.p (.int k a))) (hy:s.get te tyy y=some (.p (.int k b))):VA P o s (opS x (.p (.int k a))++opS y (.p (.int k b))) [] (.p (.int k (a.tmod b))):=zZw ho hx hy (by simpa using h0)
theorem shl (hok:yR P te) {k:IntKind} (h0:0<=b) (ho:o.op=.binOp .shl tx x y tyy) (hx:s.get te tx x=some (.p (.int k a))) (hy:s.get te tyy y=some (.p (.int k' b))):VA P o s (opS x (.p (.int k a))++opS y (.p (.int k' b))) [] (.p (.int k (lI k a b))):=zYf ho hx hy h0
theorem shr (hok:yR P te) {k:IntKind} (h0:0<=b) (ho:o.op=.binOp .shr tx x y tyy) (hx:s.get te tx x=some (.p (.int k a))) (hy:s.get te tyy y=some (.p (.int k' b))):VA P o s (opS x (.p (.int k a))++opS y (.p (.int k' b))) [] (.p (.int k (vC k a b))):=zRt ho hx hy h0
theorem shrE (hok:yR P te) {k:IntKind} {c:Int} (hc:vC k a b=c) (h0:0<=b) (ho:o.op=.binOp .shr tx x y tyy) (hx:s.get te tx x=some (.p (.int k a))) (hy:s.get te tyy y=some (.p (.int k' b))):VA P o s (opS x (.p (.int k a))++opS y (.p (.int k' b))) [] (.p (.int k c)):=hc▸zRt ho hx hy h0
theorem not' (hok:yR P te) {a:Bool} (ho:o.op=.unOp .not tx x) (hx:s.get te tx x=some (.p (.bool a))):VA P o s (opS x (.p (.bool a))) [] (.p (.bool (!a))):=zYg ho hx
theorem com (hok:yR P te) {k:IntKind} (ho:o.op=.unOp .xor tx x) (hx:s.get te tx x=some (.p (.int k a))):VA P o s (opS x (.p (.int k a))) [] (.p (.int k (zI1 k a))):=zZv ho hx
theorem minI (hok:yR P te) {k:IntKind} (ho:o.op=.call { callee:=.builtin .min,args:=#[x,y],argTypes:=#[t,t'] }) (hx:s.get te t x=some (.p (.int k a))) (hy:s.get te t' y=some (.p (.int k b))):VA P o s (opS x (.p (.int k a))++opS y (.p (.int k b))) [] (.p (.int k (if b<a then b else a))):=zV4 ho hx hy
theorem ixB (hok:yR P te) {l:By} {u:UInt8} {i:Int} (h:idx l i=some u) (ho:o.op=.indexAddr t x y) (ht:(te t).map (·.ty)=some (.slice e)) (he:te e=some ei) (hx:s.get te t x=some v) (hp:s.rd v=some (.bytes l,bs)) (hw:1=ei.w) (hy:s.get te 0 y=some (.p (.int .i64 i))) :
  VA P o s (opS x v++opS y (.p (.int .i64 i))) bs (.p (.cptr (.int .u8 u.toNat))):=zTn hok ho ht he hx hp hw hy (zP7 h)
theorem ixM (hok:yR P te) {l:List α} {i:Int} (h:idx l i=some u) (ho:o.op=.indexAddr t x y) (ht:(te t).map (·.ty)=some (.slice e)) (he:te e=some ei) (hx:s.get te t x=some v) (hp:s.rd v=some (.sl w (l.map f),bs)) (hw:w=ei.w) (hy:s.get te 0 y=some (.p (.int .i64 i))) :
  VA P o s (opS x v++opS y (.p (.int .i64 i))) bs (.p (.cptr (f u))):=zTn hok ho ht he hx hp hw hy (idxM h)
theorem ixS (hok:yR P te) {l:By} {i:Int} {u:UInt8} (h:idx l i=some u) (ho:o.op=.index t x y) (ht:(te t).map (·.ty)=some .str) (hx:s.get te t x=some (.p (.str l))) (hy:s.get te 0 y=some (.p (.int .i64 i))) :
  VA P o s (opS x (.p (.str l))++opS y (.p (.int .i64 i))) [] (.p (.int .u8 u.toNat)):=zQj hok ho ht hx hy (fD h).1 (fD h).2
theorem ixV (hok:yR P te) {l:List α} {i:Int} (h:idx l i=some u) (ho:o.op=.index t x y) (ht:(te t).map (·.ty)=some (.arr n e)) (he:te e=some ei) (hne:ei.known=true) (hx:s.get te t x=some v) (hp:s.rd v=some (.agg (l.map f),bs)) (hy:s.get te 0 y=some (.p (.int .i64 i))) (hn:Q9 l.length n=true) (hag:ei.isAgg=false) (hw:ei.w=1) (hf:∀ a,(f a).cells=[f a]) :
  VA P o s (opS x v++opS y (.p (.int .i64 i))) bs (.p (f u)):=by
 obtain ⟨h0,h1⟩:=fD h;have hlt:i.toNat<l.length:=(List.getElem?_eq_some_iff.1 h1).1;have hn':=zN hn;refine zLx hok ho ht he (zM0 hne) hx hp hy h0 (by omega) ?_;rw [hag,hw];simp only [jT,cond_false,Qg,List.getElem?_map,h1,Q8];have:=hf u;cases hq:f u<;>first | rfl | skip
 rw [hq] at this;simp only [PV.cells] at this;have h2:=congrArg SizeOf.sizeOf this;simp at h2;omega
end
def nzw (i:TI):Bool:=!Nat.beq i.w 0
theorem zRi (h:nzw i=true):i.w≠0:=by intro e;simp [nzw,e] at h
section
theorem fa (hok:yR P te) {f:Nat} (ho:o.op=.fieldAddr t x f) (ht:(te t).map (·.ty)=some (.struct fs)) (hf:fs[f]? = some (ft,fo)) (he:te ft=some fi) (hw:nzw fi=true)
  (hx:s.get te 0 x=some (.ptr k off)):VA P o s (opS x (.ptr k off)) [] (.ptr k (off+fo)):=zX2 hok ho ht hf he (zRi hw) hx
theorem fc (hok:yR P te) {l:List PV} {f:Nat} (ho:o.op=.fieldAddr t x f) (ht:(te t).map (·.ty)=some (.struct fs)) (hf:fs[f]? = some (ft,fo)) (he:te ft=some fi) (hw:nzw fi=true)
  (hx:s.get te 0 x=some (.p (.cptr (.agg l)))) (hq:jT fi.isAgg l fo fi.w=some q):VA P o s (opS x (.p (.cptr (.agg l)))) [] (.p (.cptr q)):=zUt hok ho ht hf he (zRi hw) hx hq
theorem ncp (hok:yR P te) (ho:o.op=.nilCheck x) (hx:s.get te 0 x=some (.ptr k n)):VA P o s (opS x (.ptr k n)) [] (.ptr k n):=zVh ho hx (.inl ⟨k,n,rfl⟩)
theorem iaK (hok:yR P te) {i:Nat} (ho:o.op=.indexAddr t x y) (ht:(te t).map (·.ty)=some (.arr n e)) (he:te e=some ei) (hx:s.get te t x=some (.ptr k off)) (hy:s.get te 0 y=some (.p (.int .i64 i))) (h1:Q5 i n=true) :
  VA P o s (opS x (.ptr k off)++opS y (.p (.int .i64 i))) [] (.ptr k (off+i*ei.w)):=zO7 hok ho ht he hx hy (Int.natCast_nonneg i) (by have:=Q1 h1;omega)
theorem ld (hok:yR P te) (ho:o.op=.load t x) (ht:te t=some i) (hp:i.plain=true) (hx:s.get te 0 x=some (.ptr k off)) (hb:s.blk k=some (.var l)) (hv:l[off]? = some v):VA P o s (opS x (.ptr k off)) [(k,.var l)] v:=zUa hok ho ht hp hx hb hv
theorem ldN (hok:yR P te) (ho:o.op=.load t x) (ht:te t=some i) (hp:i.isAgg=true) (hx:s.get te 0 x=some (.ptr k off)) (hb:s.blk k=some (.var l)) (hv:Q9 (off+i.w) l.length=true):VA P o s (opS x (.ptr k off)) [(k,.var l)] (.ag ((l.drop off).take i.w)):=zSq hok ho ht hp hx hb (zN hv)
theorem ldC (hok:yR P te) (ho:o.op=.load t x) (ht:te t=some i) (hp:i.plain=true) (hx:s.get te 0 x=some (.p (.cptr q))) (hq:q.cells=[q]):VA P o s (opS x (.p (.cptr q))) [] (.p q):=zTb hok ho ht hp hx hq
theorem ldCN (hok:yR P te) {l:List PV} (ho:o.op=.load t x) (ht:te t=some i) (hp:i.isAgg=true) (hx:s.get te 0 x=some (.p (.cptr (.agg l)))) (hl:Q2 l.length i.w=true):VA P o s (opS x (.p (.cptr (.agg l)))) [] (.p (.agg l)):=zQm hok ho ht hp hx (Q0 hl)
theorem sto (hok:yR P te) (hd:o.dst=none) (ho:o.op=.store t ax x) (ht:te t=some i) (ha:s.get te 0 ax=some (.ptr k off)) (hx:s.get te t x=some v) (hb:s.blk k=some (.var l))
  (hw:Q2 v.cells.length i.w=true) (hl:Q9 (off+i.w) l.length=true) (hone:v.cells.all AV.one=true):SA P o s ⟨opS ax (.ptr k off)++opS x v,[(k,.var l)],[],none,[(k,.var (qM l off v.cells))]⟩:=sa_store hok hd ho ht ha hx hb (Q0 hw) (zN hl) hone
theorem al (hok:yR P te) (hd:o.dst=some d) (ho:o.op=.alloc t) (ht:te t=some i) (hb:s.blk d=none):SA P o s ⟨[],[],[d],some (d,some (.ptr d 0)),[(d,.var (i.z.map zA))]⟩:=zSi hok hd ho ht hb
theorem bx (hok:yR P te) (hd:o.dst=some d) (ho:o.op=.box t x) (hx:s.get te t x=some v) (hb:s.blk d=none):SA P o s ⟨opS x v,[],[d],some (d,some (.ptr d 0)),[(d,.var v.cells)]⟩:=zXf hd ho hx hb
theorem pn:lL s te [] [] []:=.nil
theorem pc (t:TypeId) {i:Nat} {ps:List (Nat×Operand)} (h:s.get te t x=some v) (k:lL s te ps vs rs):lL s te ((i,x) :: ps) ((i,v) :: vs) (opS x v++rs):=.cons _ _ t _ _ _ _ h k
theorem bld (hok:yR P te) (ho:o.op=.build t ps) (hpl:ps.toList=pl) (ht:te t=some i) (hty:i.ty=.struct fs) (hfs:fs.all (λf=>(te f.1).isSome)=true)
  (hp:lL s te pl vs rs) (hf:lJ (zH0 te fs) (i.z.map zA) vs=some l):VA P o s rs [] (.ag l):=zRr hok ho hpl ht hty hfs hp hf
theorem bldA (hok:yR P te) (ho:o.op=.build t ps) (hpl:ps.toList=pl) (ht:te t=some i) (hty:i.ty=.arr n e) (he:te e=some ei)
  (hp:lL s te pl vs rs) (hf:lJ (λj=>some (j*ei.w,ei.w)) (i.z.map zA) vs=some l):VA P o s rs [] (.ag l):=zQs hok ho hpl ht hty he hp hf
theorem zV8 (l:List α) (hf:∀ a,(f a).cells.length=w):fJ w (.sl w (l.map f)) (xG (l.map f)):=.sl _ λp hp=>by
 obtain ⟨a,_,rfl⟩:=Qq.1 hp;exact hf a
theorem qn:nS s te t n [] [] [] []:=.nil n
theorem qc {ps:List (Nat×Operand)} {bb:LB} (h:s.get te t x=some v) (hr:s.rd v=some (p,bs)) (k:nS s te t (n+1) ps vs rs bb):nS s te t n ((n,x) :: ps) ((n,.p p) :: vs) (opS x v++rs) (bs++bb):=.cons n x v p bs ps vs rs bb h hr k
theorem litB (hok:yR P te) (l:By) {bb:LB} (hd:o.dst=some d) (ho:o.op=.buildSlice t n ps) (hpl:ps.toList=pl) (ht:(te t).map (·.ty)=some (.slice e)) (he:te e=some ei) (hz:ei.z.length=ei.w) (hw0:1=ei.w) (hn:Q9 n 16777216=true)
  (hp:nS s te e 0 pl vs rs bb) (hf:lJ (λj=>some (j*ei.w,ei.w)) (sW ei.z n) vs=some ((l.map λx=>PV.int .u8 x.toNat).map .p)) (hcn:l.length=n) (hk:s.blk d=none) :
  SA P o s ⟨rs,bb,[d],some (d,some (.buf d l.length)),[(d,.buf (.bytes l))]⟩:=
 zR2 (c:=.bytes l) hok hd ho hpl ht he hz (by omega) (by rw [<- hw0];have:=zN hn;omega) hp hf (.bytes l hw0.symm) hcn hk
theorem lit (hok:yR P te) (f:α->PV) (l:List α) {bb:LB} (hd:o.dst=some d) (ho:o.op=.buildSlice t n ps) (hpl:ps.toList=pl) (ht:(te t).map (·.ty)=some (.slice e)) (he:te e=some ei) (hz:ei.z.length=ei.w) (hw:ei.w=w) (hw0:Q5 0 w=true) (hn:Q9 (n*w) 16777216=true)
  (hp:nS s te e 0 pl vs rs bb) (hl:∀ a,(f a).cells.length=w) (hf:lJ (λj=>some (j*ei.w,ei.w)) (sW ei.z n) vs=some ((xG (l.map f)).map .p)) (hcn:l.length=n) (hk:s.blk d=none) :
  SA P o s ⟨rs,bb,[d],some (d,some (.buf d l.length)),[(d,.buf (.sl w (l.map f)))]⟩:=by
 subst hw;have:=zR2 (c:=.sl ei.w (l.map f)) hok hd ho hpl ht he hz (by have:=Q1 hw0;omega) (zN hn) hp hf (zV8 l hl) (by simpa [Qc] using hcn) hk;simpa [Qc] using this
theorem oneM {l:List α} (hf:∀ a,(f a).cells.all PV.one=true):cM (.sl w (l.map f))=true:=by
 simp only [cM,List.all_map,Q4,Function.comp];exact λa _=>by simpa using hf a
theorem apNB (hok:yR P te) {m r:By} {b:Nat} (h:yN b [] m=some r) (hd:o.dst=some d) (ho:o.op=.call { callee:=.builtin .append,args:=#[x,y],argTypes:=#[t,t'] })
  (ht:(te t).map (·.ty)=some (.slice e)) (he:te e=some ei) (ht':(te t').map (·.ty)=some (.slice e')) (hx:s.get te t x=some (.nl (.bytes []))) (hcw:1=ei.w) (hz:ei.z.length=ei.w) (hy:s.get te t' y=some vy) (hp:s.rd vy=some (.bytes m,bs)) (hb:ei.b=b) (hb1:Q5 0 b=true) (hk:s.blk d=none) :
  SA P o s ⟨opS x (.nl (.bytes []))++opS y vy,bs,[d],some (d,some (.buf d r.length)),[(d,.buf (.bytes r))]⟩:=by
 subst hb;exact zP6 hok hd ho ht he (yS hok ht') (.inr ⟨_,rfl⟩) hx hcw (by omega) hz hy hp (appB h) (zPf h) (by have:=Q1 hb1;omega) hk
theorem apB (hok:yR P te) {l m r:By} {b:Nat} (h:yN b l m=some r) (hd:o.dst=some d) (ho:o.op=.call { callee:=.builtin .append,args:=#[x,y],argTypes:=#[t,t'] })
  (ht:(te t).map (·.ty)=some (.slice e)) (he:te e=some ei) (ht':(te t').map (·.ty)=some (.slice e')) (hx:s.get te t x=some (.buf k l.length)) (hk:s.blk k=some (.buf (.bytes l))) (hcw:1=ei.w) (hz:ei.z.length=ei.w) (hy:s.get te t' y=some vy) (hp:s.rd vy=some (.bytes m,bs)) (hb:ei.b=b) (hb1:Q5 0 b=true) :
  SA P o s ⟨opS x (.buf k l.length)++opS y vy,(k,.buf (.bytes l)) :: bs,[],some (d,some (.buf k r.length)),[(k,.buf (.bytes r))]⟩:=by
 subst hb;exact zRz (c:=.bytes l) hok hd ho ht he (yS hok ht') (.inr ⟨_,rfl⟩) hx hk hcw (by omega) hz hy hp (appB h) rfl (zPf h) (by have:=Q1 hb1;omega)
theorem apM (hok:yR P te) (f:α->PV) {l r:List α} {b:Nat} (h:yN b l m=some r) (hd:o.dst=some d) (ho:o.op=.call { callee:=.builtin .append,args:=#[x,y],argTypes:=#[t,t'] })
  (ht:(te t).map (·.ty)=some (.slice e)) (he:te e=some ei) (ht':(te t').map (·.ty)=some (.slice e')) (hx:s.get te t x=some (.buf k l.length)) (hk:s.blk k=some (.buf (.sl w (l.map f)))) (hcw:w=ei.w) (hw0:Q5 0 w=true) (hz:ei.z.length=ei.w) (hy:s.get te t' y=some vy) (hp:s.rd vy=some (.sl w (m.map f),bs)) (hone:∀ a,(f a).cells.all PV.one=true) (hb:ei.b=b) (hb1:Q5 0 b=true) :
  SA P o s ⟨opS x (.buf k l.length)++opS y vy,(k,.buf (.sl w (l.map f))) :: bs,[],some (d,some (.buf k r.length)),[(k,.buf (.sl w (r.map f)))]⟩:=by
 subst hb;have hl:(PV.sl w (l.map f)).len=l.length:=by simp [Qc]
 have:=zRz (c:=.sl w (l.map f)) hok hd ho ht he (yS hok ht') (.inr ⟨_,rfl⟩) (by rw [hl];exact hx) hk hcw (by have:=Q1 hw0;omega) hz hy hp (appM (f:=f) h) (oneM hone) (by have:=zPf h;simpa [Qc,PV.src] using this) (by have:=Q1 hb1;omega);simpa [Qc] using this
theorem an:mG s te [] [] [] [] []:=.nil
theorem ac {bb:LB} {xs:List Operand} {ts:List TypeId} {ps:List PV} (h:s.get te t x=some v) (hr:s.rd v=some (p,bs)) (k:mG s te xs ts ps rs bb):mG s te (x :: xs) (t :: ts) (p :: ps) (opS x v++rs) (bs++bb):=.cons _ _ _ _ _ _ _ _ _ _ h hr k
end
section
theorem cl (hok:yR P te) {f:FuncId} {ps:List PV} {bb:LB} (h:Ok P f na (mkS (argE 0 ps) []) (mkS [(0,av)] blks)) (hd:o.dst=some d) (ho:o.op=.call { callee:=.value (.func f),args:=xs,argTypes:=ts })
  (hxl:xs.toList=xl) (htl:ts.toList=tl) (ha:mG s te xl tl ps rs bb) (hn:Q2 na ps.length=true) (hf:(blks.map λe=>sh d e.1).all (λk=>(s.blk k).isNone)=true) :
  SA P o s ⟨rs,bb,blks.map λe=>sh d e.1,some (d,some (av.ren (sh d))),blks.map λe=>(sh d e.1,e.2.ren (sh d))⟩:=
 zU6 hd ho h hxl htl ha (Q0 hn) (λk hk=>by simpa using (Q4.1 hf) k hk)
theorem clp (hok:yR P te) {f:FuncId} {ps:List PV} {bb:LB} (h:Ok P f na (mkS ((0,.ptr 0 0) :: argE 1 ps) [(0,.var (cs.map .p))]) (mkS [(0,av)] ((0,.var l') :: blks))) (hd:o.dst=some d)
  (ho:o.op=.call { callee:=.value (.func f),args:=xs,argTypes:=ts }) (hxl:xs.toList=xa :: xl) (htl:ts.toList=ta :: tl) (hxa:s.get te ta xa=some (.ptr k 0)) (hbk:s.blk k=some (.var l)) (hcs:s.rdL l=some (cs,bs0))
  (ha:mG s te xl tl ps rs bb) (hn:Q2 na (ps.length+1)=true) (hf:(blks.map λe=>sh d e.1).all (λk=>(s.blk k).isNone)=true) (hne:blks.all (λe=>!Nat.beq e.1 0)=true) :
  SA P o s ⟨opS xa (.ptr k 0)++rs,(k,.var l) :: (bs0++bb),blks.map λe=>sh d e.1,some (d,some (av.ren (shp d k))),((0,.var l') :: blks).map λe=>(shp d k e.1,e.2.ren (shp d k))⟩:=
 zSg hd ho h hxl htl hxa hbk hcs ha (Q0 hn) (λk hk=>by simpa using (Q4.1 hf) k hk) (λe he h0=>by have:=(Q4.1 hne) e he;simp [h0] at this)
end
theorem zPc (hb:s.blk k=some (.var l)):GLe κ κ tip tip s.blk (s.setb k (.var l')).blk where
 var:=λi b li h h'=>by
  by_cases e:i=k
  ·subst e;exact ⟨h,l',zY _ _ _⟩
  ·exact ⟨h,li,by rw [zU e];exact h'⟩
 buf:=λi c h=>by
  have e:i≠k:=by rintro rfl;rw [hb] at h;cases h
  exact GLe.same (by rw [zU e];exact h) rfl
 own:=λi c l1 h=>by
  have e:i≠k:=by rintro rfl;rw [hb] at h;cases h
  exact GLe.sameO (by rw [zU e];exact h) rfl rfl
theorem Inv.reVar {a:Act} {w:World} (hi:Inv cx M κ tip s a w) (hb:s.blk k=some (.var l)) (hlen:l'.length=l.length)
  (h:∀ (j:Nat) (q:AV) (x:Value),l'[j]? = some q->(∀ q0,l[j]? = some q0->RepA M κ tip s.blk q0 x)->RepA M κ tip s.blk q x):Inv cx M κ tip (s.setb k (.var l')) a w:=by
 have gle:=zPc (κ:=κ) (tip:=tip) (l':=l') hb;exact {
  defers:=hi.defers
  size:=hi.size
  fr:=hi.fr
  mem:=hi.mem
  env:=λt v e=>let ⟨x,h1,h2⟩:=hi.env t v e;⟨x,h1,h2.ghost gle⟩
  vars:=λi li hli=>by
   by_cases e:i=k
   ·subst e;rw [zY] at hli;cases hli;obtain ⟨b,arr,e1,fz,q1,q2,q3,q4,q5,q6⟩:=hi.vars i l hb;exact ⟨b,arr,e1,fz,q1,q2,q3,by omega,λj q hq=>(h j q _ hq (λq0 hq0=>q5 j q0 hq0)).ghost gle,q6⟩
   ·rw [zU e] at hli;obtain ⟨b,arr,e1,fz,q1,q2,q3,q4,q5,q6⟩:=hi.vars i li hli;exact ⟨b,arr,e1,fz,q1,q2,q3,q4,λj q hq=>(q5 j q hq).ghost gle,q6⟩
  bufs:=λi c h=>by
   have e:i≠k:=by rintro rfl;rw [zY] at h;cases h
   rw [zU e] at h;exact hi.bufs i c h
  inj:=hi.inj
  dom:=λi h=>by
   have e:i≠k:=by rintro rfl;rw [zY] at h;cases h
   rw [zU e] at h;exact hi.dom i h
  glob:=hi.glob
  old:=hi.old
  owns:=hi.owns.keep λi wd li h=>by
   have e:i≠k:=by rintro rfl;rw [zY] at h;cases h
   rw [zU e] at h;exact ⟨h,rfl,rfl,λb2 z=>⟨rfl,λo hm=>hm⟩,λj q x hq hr=>hr.ghost gle⟩}
theorem Imp.pureC (j:Nat) {q:AV} (hb:s.blk k=some (.var l)) (hq:l[j]? = some q) (hr:s.rd q=some (p,bs)):Imp pk s (s.setb k (.var (l.set j (.p p)))):=by
 intro cx a w _ hs;obtain ⟨M,κ,tip,h0,hp,hi⟩:=hs;refine ⟨M,κ,tip,h0,hp,hi.reVar hb (by simp) λi q' x hq' hx=>?_⟩;rw [List.getElem?_set] at hq';split at hq'
 ·rename_i e;subst e;split at hq'
  ·cases hq';exact .p _ _ (zE9 (hx q hq) hr)
  ·cases hq'
 ·exact hx q' hq'
theorem Imp.promC (j k2:Nat) {c:PV} (hb:s.blk k=some (.var l)) (hq:l[j]? = some (.nl c)) (hk2:s.blk k2=none) (hw:Q5 0 c.width=true):Imp pk s ((s.setb k2 (.buf c)).setb k (.var (l.set j (.buf k2 0)))):=by
 intro cx a w _ hs;obtain ⟨M,κ,tip,h0,hp,hi⟩:=hs;have hne:k≠k2:=by rintro rfl;rw [hb] at hk2;cases hk2
 have hj:j<l.length:=(List.getElem?_eq_some_iff.1 hq).1;have hn:c.nilOf=true:=by
  obtain ⟨b,arr,e1,fz,q1,q2,q3,q4,q5,q6⟩:=hi.vars k l hb;have h:=q5 j _ hq;generalize arr.getD j undef=y at h;cases h with
  | nl _ hn=>exact hn
 have hi2:=hi.bufNil hk2 hn (by have:=Q1 hw;omega);refine ⟨M,κ,_,h0,hp,hi2.reVar (l:=l) (by rw [zU hne];exact hb) (by simp) λi q' x hq' hx=>?_⟩;rw [List.getElem?_set] at hq';split at hq'
 ·rename_i e;subst e;cases hq';have h2:=hx _ hq;cases h2 with
  | nl _ _=>
  refine .buf k2 0 c _ (zY _ _ _) ?_ (Qp _) ?_ (λ_=>(yV _ _ _).symm)
  ·unfold Qs at hn;split at hn<;>first | rfl | cases hn
  ·unfold Qs at hn;split at hn
   ·exact .bytes0
   ·exact .sl0 _
   ·cases hn
 ·exact hx q' hq'
structure A5 (α:Type) where (a0 a1 a2 a3 a4:α) deriving DecidableEq,Inhabited
structure A8 (α:Type) where (a0 a1 a2 a3 a4 a5 a6 a7:α) deriving DecidableEq,Inhabited
def eU8 (x:UInt8):PV:=.int .u8 x.toNat
def eSl (w:Nat) (f:α->PV) (l:List α):PV:=.sl w (l.map f)
def FU:Nat:=2 ^ 70
def SE (f:X->Exit×AS) (g:Y->Exit×AS):X ⊕ Y->Exit×AS
 | .inl x=>f x
 | .inr y=>g y
def rho (m:List (Nat×Nat)) (j:Nat):Nat:=(lk m j).getD j
theorem Imp.renK (hpk:PK cx ks) (m:List (Nat×Nat)) {env:LV} (h1:((blks.map (·.1)).all λj=>(blks.map (·.1)).all λj'=>!Nat.beq (rho m j) (rho m j')||Q2 j j')=true) (h2:(ks.all λk=>Q2 (rho m k) k&&(blks.map (·.1)).any (Q2 k))=true) :
  Imp cx.pk (mkS env blks) (mkS (env.map λe=>(e.1,e.2.ren (rho m))) (blks.map λe=>(rho m e.1,e.2.ren (rho m)))):=by
 refine Imp.ren (rho m) (λj hj j' hj' h=>?_) (λe he=>?_)
 ·have:=(Q4.1 ((Q4.1 h1) j hj)) j' hj';rw [h] at this;simpa using this
 ·have:=(Q4.1 h2) e.1 (hpk e he);simp only [Bool.and_eq_true,List.any_eq_true] at this;obtain ⟨q1,x,q2,q3⟩:=this;exact ⟨Q0 q1,by rw [Q0 q3];exact q2⟩
theorem zKo {as:AS} (h:as.blk=lk []):∀ k,(as.blk k).isSome=true->k∈([]:List Nat):=by
 intro k hk;rw [h] at hk;simp [lk] at hk
theorem zJ9 {as:AS} {b:zG} (h:as.blk=lk [(0,b)]):∀ k,(as.blk k).isSome=true->k∈[0]:=by
 intro k hk;rw [h] at hk;simp only [lk] at hk;cases hb:Q2 k 0 with
 | true=>simp [Q0 hb]
 | false=>simp [hb] at hk
theorem Imp.refl:Imp pk s s:=λ_ _ _ _ h=>h
def kR (ρ:Nat->Nat):LB->List Nat
 | []=>[]
 | (k,_) :: r=>ρ k :: kR ρ r
def bR (ρ:Nat->Nat):LB->LB
 | []=>[]
 | (k,b) :: r=>(ρ k,b.ren ρ) :: bR ρ r
theorem gI (ρ:Nat->Nat):∀ (l:LB),kR ρ l=l.map λe=>ρ e.1
 | []=>rfl
 | (_,_) :: r=>by simp [kR,gI ρ r]
theorem zCg (ρ:Nat->Nat):∀ (l:LB),bR ρ l=l.map λe=>(ρ e.1,e.2.ren ρ)
 | []=>rfl
 | (_,_) :: r=>by simp [bR,zCg ρ r]
def ixN (n:Nat) (i:Int):Option Nat:=if 0<=i/\i<n then some i.toNat else none
def sN (l:List α) (j:Nat) (u:α):Option (List α):=if j<l.length then some (l.set j u) else none
theorem zG2 {i:Int} (h:ixN n i=some j):0<=i/\i<n/\j=i.toNat:=by
 unfold ixN at h;split at h
 ·rename_i hc;cases h;exact ⟨hc.1,hc.2,rfl⟩
 ·cases h
theorem zBn {l l':List α} (h:sN l j u=some l'):j<l.length/\l'=l.set j u:=by
 unfold sN at h;split at h
 ·rename_i hc;cases h;exact ⟨hc,rfl⟩
 ·cases h
theorem zFa (h:off<l.length):qM l off [v]=l.set off v:=by
 rw [jA (by simpa using Qj h)];rw [List.set_eq_take_append_cons_drop,if_pos h];simp
section
theorem ia (hok:yR P te) {i:Int} (h:ixN n i=some j) (ho:o.op=.indexAddr t x y) (ht:(te t).map (·.ty)=some (.arr n e)) (he:te e=some ei) (hw:ei.w=1) (hx:s.get te t x=some (.ptr k off)) (hy:s.get te ity y=some (.p (.int .i64 i))) :
  VA P o s (opS x (.ptr k off)++opS y (.p (.int .i64 i))) [] (.ptr k (off+j)):=by
 obtain ⟨h0,h1,rfl⟩:=zG2 h;have:=zO7 (P:=P) hok ho ht he hx hy h0 h1;rwa [hw,Qg] at this
theorem ir (hok:yR P te) {i:Int} (h:ixN n i=some j) (ho:o.op=.indexAddr t x y) (ht:(te t).map (·.ty)=some (.slice e)) (he:te e=some ei) (hw:ei.w=1) (hx:s.get te t x=some (.ref k off n)) (hy:s.get te ity y=some (.p (.int .i64 i))) :
  VA P o s (opS x (.ref k off n)++opS y (.p (.int .i64 i))) [] (.ptr k (off+j)):=by
 obtain ⟨h0,h1,rfl⟩:=zG2 h;have:=zUs (P:=P) hok ho ht he hx hy h0 h1;rwa [hw,Qg] at this
theorem zIz (h:p.cells=[p]):∀ l,p≠.agg l:=by
 intro l e;subst e;simp only [PV.cells] at h;have h2:=congrArg SizeOf.sizeOf h;simp at h2;omega
theorem ixC (hok:yR P te) {l:List α} {i:Int} (h:idx l i=some u) (ho:o.op=.indexAddr t x y) (ht:(te t).map (·.ty)=some (.arr n e)) (he:te e=some ei) (hx:s.get te t x=some (.p (.cptr (.agg (l.map f))))) (hn:Q9 l.length n=true) (hag:ei.isAgg=false) (hw:ei.w=1) (hf:∀ a,(f a).cells=[f a]) (hy:s.get te ity y=some (.p (.int .i64 i))) :
  VA P o s (opS x (.p (.cptr (.agg (l.map f))))++opS y (.p (.int .i64 i))) [] (.p (.cptr (f u))):=by
 obtain ⟨h0,h1⟩:=fD h;have hlt:i.toNat<l.length:=(List.getElem?_eq_some_iff.1 h1).1;have hn':=zN hn;refine zUx hok ho ht he hx hy h0 (by omega) ?_;rw [hag,hw];simp only [jT,cond_false,Qg,List.getElem?_map,h1,Q8];have:=zIz (hf u);cases hq:f u<;>first | rfl | exact absurd hq (this _)
theorem ldW (hok:yR P te) (ho:o.op=.load t x) (ht:te t=some i) (hp:i.isAgg=true) (hx:s.get te 0 x=some (.ptr k 0)) (hb:s.blk k=some (.var l)) (hv:Q2 i.w l.length=true):VA P o s (opS x (.ptr k 0)) [(k,.var l)] (.ag l):=by
 have h1:=Q0 hv;have:=ldN (P:=P) hok ho ht hp hx hb (by simp [h1]);rw [h1] at this;simpa using this
end
class zAn (P:Program) where
 te:TE
 ok:yR P te
section
variable {pos:String} {af:Array Edge} 
abbrev VK (P:Program) (ops:Array Oper) (r:List Oper) (s:AS) (K:AS->List Mic->Prop) (d:Nat) (rs:LV) (bs:LB) (w:AV):Prop:=RK P ops r (s.put d w) λs' ms=>K s' (⟨rs,bs,[],some (d,some w),[]⟩:: ms)
abbrev BK (P:Program) (ops:Array Oper) (r:List Oper) (s:AS) (K:AS->List Mic->Prop) (d:Nat) (rs:LV) (bs:LB) (fr:List Nat) (k:Nat) (bl:zG) (w:AV):Prop:=RK P ops r ((s.setb k bl).put d w) λs' ms=>K s' (⟨rs,bs,fr,some (d,some w),[(k,bl)]⟩:: ms)
def GK (K:AS->List Mic->Prop) (dj:Nat) (b:Bool) (s:AS):List Mic->Prop
 | m :: ms=>K s ({ m with slots:=(dj,.p (.bool b)) :: m.slots } :: ms)
 | []=>False
theorem RK.g {dst:Option Nat} {op:Op} {b:Bool} (hb':b'=b) (hj0:((ops[j]?).bind (·.dst),s.env dj)=(some dj,some (.p (.bool b')))) (k:RK P ops (⟨dst,op,ty,pos,af,none⟩:: r) s (GK K dj b)):RK P ops (⟨dst,op,ty,pos,af,some (j,b)⟩:: r) s K:=have ⟨hj,hb⟩:=pq hj0;by
 obtain ⟨s',ms,h1,h2⟩:=k;cases h1 with
 | cons _ _ _ _ _ _ he hh hr=>
  refine ⟨s',_,.cons _ _ _ _ _ _ ?_ ?_ ?_,h2⟩
  ·intro cx s a w K Q hm hs hw hk;have hy:=zIn hs hj (hm.1 (dj,.p (.bool b)) (by simp));have hwn:Qb ⟨dst,op,ty,pos,af,some (j,b)⟩ (yielded ops a.tmps)=true:=by simp [Qb,hy]
   rw [if_pos hwn];have:=he cx s a w K Q ⟨λe he=>hm.1 e (List.mem_cons_of_mem _ he),hm.2.1,hm.2.2⟩ hs hw hk;rw [if_pos (by simp [Qb])] at this;exact this
  ·exact ⟨λe he=>(Qu.1 he).elim (λh=>by subst h;rw [<- hb'];exact hb) (hh.1 e),hh.2.1,hh.2.2⟩
  ·exact hr
variable [T:zAn P]
theorem RK.mv (h:s.get T.te ty x=some v) (k:VK P ops r s K d (opS x v) ([]) (v)):RK P ops (⟨some d,.move x,ty,pos,af,none⟩:: r) s K:=RK.va rfl rfl (Go.Sw.mv T.ok rfl h) k
theorem RK.as (h:s.get T.te ty x=some v) (k:VK P ops r s K d (opS x v) ([]) (v)):RK P ops (⟨some d,.assign x,ty,pos,af,none⟩:: r) s K:=RK.va rfl rfl (Go.Sw.asg T.ok rfl h) k
theorem RK.pT {a b:Operand} {bb:Bool} (hb:bb=true) (hc0:(s.get T.te 0 c,s.get T.te ty a)=(some (.p (.bool bb)),some v)) (k:VK P ops r s K d (opS c (.p (.bool true))++opS a v) ([]) (v)):RK P ops (⟨some d,.pick c a b,ty,pos,af,none⟩:: r) s K:=have ⟨hc,h⟩:=pq hc0;RK.va rfl rfl (Go.Sw.pkT T.ok hb rfl hc h) k
theorem RK.pF {a b:Operand} {bb:Bool} (hb:bb=false) (hc0:(s.get T.te 0 c,s.get T.te ty b)=(some (.p (.bool bb)),some v)) (k:VK P ops r s K d (opS c (.p (.bool false))++opS b v) ([]) (v)):RK P ops (⟨some d,.pick c a b,ty,pos,af,none⟩:: r) s K:=have ⟨hc,h⟩:=pq hc0;RK.va rfl rfl (Go.Sw.pkF T.ok hb rfl hc h) k
theorem RK.ad (hx0:(s.get T.te tx x,s.get T.te tyy y)=(some (.p (.int kk a)),some (.p (.int kk b)))) (k:VK P ops r s K d (opS x (.p (.int kk a))++opS y (.p (.int kk b))) ([]) (.p (.int kk (kk.wrap (a+b))))):RK P ops (⟨some d,.binOp .add tx x y tyy,ty,pos,af,none⟩:: r) s K:=have ⟨hx,hy⟩:=pq hx0;RK.va rfl rfl (Go.Sw.iop T.ok .add rfl hx hy) k
theorem RK.adE (hc:kk.wrap (a+b)=cc) (hx0:(s.get T.te tx x,s.get T.te tyy y)=(some (.p (.int kk a)),some (.p (.int kk b)))) (k:VK P ops r s K d (opS x (.p (.int kk a))++opS y (.p (.int kk b))) ([]) (.p (.int kk cc))):RK P ops (⟨some d,.binOp .add tx x y tyy,ty,pos,af,none⟩:: r) s K:=have ⟨hx,hy⟩:=pq hx0;RK.va rfl rfl (Go.Sw.iopE T.ok .add hc rfl hx hy) k
theorem RK.sbt (hx0:(s.get T.te tx x,s.get T.te tyy y)=(some (.p (.int kk a)),some (.p (.int kk b)))) (k:VK P ops r s K d (opS x (.p (.int kk a))++opS y (.p (.int kk b))) ([]) (.p (.int kk (kk.wrap (a - b))))):RK P ops (⟨some d,.binOp .sub tx x y tyy,ty,pos,af,none⟩:: r) s K:=have ⟨hx,hy⟩:=pq hx0;RK.va rfl rfl (Go.Sw.iop T.ok .sub rfl hx hy) k
theorem RK.sbtE (hc:kk.wrap (a - b)=cc) (hx0:(s.get T.te tx x,s.get T.te tyy y)=(some (.p (.int kk a)),some (.p (.int kk b)))) (k:VK P ops r s K d (opS x (.p (.int kk a))++opS y (.p (.int kk b))) ([]) (.p (.int kk cc))):RK P ops (⟨some d,.binOp .sub tx x y tyy,ty,pos,af,none⟩:: r) s K:=have ⟨hx,hy⟩:=pq hx0;RK.va rfl rfl (Go.Sw.iopE T.ok .sub hc rfl hx hy) k
theorem RK.muE (hc:kk.wrap (a*b)=cc) (hx0:(s.get T.te tx x,s.get T.te tyy y)=(some (.p (.int kk a)),some (.p (.int kk b)))) (k:VK P ops r s K d (opS x (.p (.int kk a))++opS y (.p (.int kk b))) ([]) (.p (.int kk cc))):RK P ops (⟨some d,.binOp .mul tx x y tyy,ty,pos,af,none⟩:: r) s K:=have ⟨hx,hy⟩:=pq hx0;RK.va rfl rfl (Go.Sw.iopE T.ok .mul hc rfl hx hy) k
theorem RK.an (hx0:(s.get T.te tx x,s.get T.te tyy y)=(some (.p (.int kk a)),some (.p (.int kk b)))) (k:VK P ops r s K d (opS x (.p (.int kk a))++opS y (.p (.int kk b))) ([]) (.p (.int kk (tR kk a b)))):RK P ops (⟨some d,.binOp .and tx x y tyy,ty,pos,af,none⟩:: r) s K:=have ⟨hx,hy⟩:=pq hx0;RK.va rfl rfl (Go.Sw.iop T.ok .and rfl hx hy) k
theorem RK.anE (hc:tR kk a b=cc) (hx0:(s.get T.te tx x,s.get T.te tyy y)=(some (.p (.int kk a)),some (.p (.int kk b)))) (k:VK P ops r s K d (opS x (.p (.int kk a))++opS y (.p (.int kk b))) ([]) (.p (.int kk cc))):RK P ops (⟨some d,.binOp .and tx x y tyy,ty,pos,af,none⟩:: r) s K:=have ⟨hx,hy⟩:=pq hx0;RK.va rfl rfl (Go.Sw.iopE T.ok .and hc rfl hx hy) k
theorem RK.oE (hc:ior kk a b=cc) (hx0:(s.get T.te tx x,s.get T.te tyy y)=(some (.p (.int kk a)),some (.p (.int kk b)))) (k:VK P ops r s K d (opS x (.p (.int kk a))++opS y (.p (.int kk b))) ([]) (.p (.int kk cc))):RK P ops (⟨some d,.binOp .or tx x y tyy,ty,pos,af,none⟩:: r) s K:=have ⟨hx,hy⟩:=pq hx0;RK.va rfl rfl (Go.Sw.iopE T.ok .or hc rfl hx hy) k
theorem RK.xo (hx0:(s.get T.te tx x,s.get T.te tyy y)=(some (.p (.int kk a)),some (.p (.int kk b)))) (k:VK P ops r s K d (opS x (.p (.int kk a))++opS y (.p (.int kk b))) ([]) (.p (.int kk (wY kk a b)))):RK P ops (⟨some d,.binOp .xor tx x y tyy,ty,pos,af,none⟩:: r) s K:=have ⟨hx,hy⟩:=pq hx0;RK.va rfl rfl (Go.Sw.iop T.ok .xor rfl hx hy) k
theorem RK.xoE (hc:wY kk a b=cc) (hx0:(s.get T.te tx x,s.get T.te tyy y)=(some (.p (.int kk a)),some (.p (.int kk b)))) (k:VK P ops r s K d (opS x (.p (.int kk a))++opS y (.p (.int kk b))) ([]) (.p (.int kk cc))):RK P ops (⟨some d,.binOp .xor tx x y tyy,ty,pos,af,none⟩:: r) s K:=have ⟨hx,hy⟩:=pq hx0;RK.va rfl rfl (Go.Sw.iopE T.ok .xor hc rfl hx hy) k
theorem RK.xo8 (hx0:(s.get T.te tx x,s.get T.te tyy y)=(some (.p (.int .u8 a)),some (.p (.int .u8 b)))) (k:VK P ops r s K d (opS x (.p (.int .u8 a))++opS y (.p (.int .u8 b))) ([]) (.p (.int .u8 (u8 (wY Qk a b)).toNat))):RK P ops (⟨some d,.binOp .xor tx x y tyy,ty,pos,af,none⟩:: r) s K:=have ⟨hx,hy⟩:=pq hx0;RK.va rfl rfl (Go.Sw.iop8 T.ok .xor rfl hx hy) k
theorem RK.eq (hx0:(s.get T.te tx x,s.get T.te tyy y)=(some (.p (.int kk a)),some (.p (.int kk b)))) (k:VK P ops r s K d (opS x (.p (.int kk a))++opS y (.p (.int kk b))) ([]) (.p (.bool (a==b)))):RK P ops (⟨some d,.binOp .eql tx x y tyy,ty,pos,af,none⟩:: r) s K:=have ⟨hx,hy⟩:=pq hx0;RK.va rfl rfl (Go.Sw.cmp T.ok .eql rfl hx hy) k
theorem RK.ne (hx0:(s.get T.te tx x,s.get T.te tyy y)=(some (.p (.int kk a)),some (.p (.int kk b)))) (k:VK P ops r s K d (opS x (.p (.int kk a))++opS y (.p (.int kk b))) ([]) (.p (.bool (a != b)))):RK P ops (⟨some d,.binOp .neq tx x y tyy,ty,pos,af,none⟩:: r) s K:=have ⟨hx,hy⟩:=pq hx0;RK.va rfl rfl (Go.Sw.cmp T.ok .neq rfl hx hy) k
theorem RK.sne {a b:By} (hx0:(s.get T.te tx x,s.get T.te tyy y)=(some (.p (.str a)),some (.p (.str b)))) (k:VK P ops r s K d (opS x (.p (.str a))++opS y (.p (.str b))) ([]) (.p (.bool (SOp .neq a b)))):RK P ops (⟨some d,.binOp .neq tx x y tyy,ty,pos,af,none⟩:: r) s K:=have ⟨hx,hy⟩:=pq hx0;RK.va rfl rfl (Go.Sw.scm T.ok .neq rfl hx hy) k
theorem RK.ls (hx0:(s.get T.te tx x,s.get T.te tyy y)=(some (.p (.int kk a)),some (.p (.int kk b)))) (k:VK P ops r s K d (opS x (.p (.int kk a))++opS y (.p (.int kk b))) ([]) (.p (.bool (decide (a<b))))):RK P ops (⟨some d,.binOp .lss tx x y tyy,ty,pos,af,none⟩:: r) s K:=have ⟨hx,hy⟩:=pq hx0;RK.va rfl rfl (Go.Sw.cmp T.ok .lss rfl hx hy) k
theorem RK.gt (hx0:(s.get T.te tx x,s.get T.te tyy y)=(some (.p (.int kk a)),some (.p (.int kk b)))) (k:VK P ops r s K d (opS x (.p (.int kk a))++opS y (.p (.int kk b))) ([]) (.p (.bool (decide (b<a))))):RK P ops (⟨some d,.binOp .gtr tx x y tyy,ty,pos,af,none⟩:: r) s K:=have ⟨hx,hy⟩:=pq hx0;RK.va rfl rfl (Go.Sw.cmp T.ok .gtr rfl hx hy) k
theorem RK.ge (hx0:(s.get T.te tx x,s.get T.te tyy y)=(some (.p (.int kk a)),some (.p (.int kk b)))) (k:VK P ops r s K d (opS x (.p (.int kk a))++opS y (.p (.int kk b))) ([]) (.p (.bool (decide (b<=a))))):RK P ops (⟨some d,.binOp .geq tx x y tyy,ty,pos,af,none⟩:: r) s K:=have ⟨hx,hy⟩:=pq hx0;RK.va rfl rfl (Go.Sw.cmp T.ok .geq rfl hx hy) k
theorem RK.quo (h0:(b==0)=false) (hx:s.get T.te tx x=some (.p (.int kk a))) (hy:s.get T.te tyy y=some (.p (.int kk b))) (k:VK P ops r s K d (opS x (.p (.int kk a))++opS y (.p (.int kk b))) ([]) (.p (.int kk (kk.wrap (a.tdiv b))))):RK P ops (⟨some d,.binOp .quo tx x y tyy,ty,pos,af,none⟩:: r) s K:=RK.va rfl rfl (Go.Sw.quo T.ok h0 rfl hx hy) k
theorem RK.rem (h0:(b==0)=false) (hx:s.get T.te tx x=some (.p (.int kk a))) (hy:s.get T.te tyy y=some (.p (.int kk b))) (k:VK P ops r s K d (opS x (.p (.int kk a))++opS y (.p (.int kk b))) ([]) (.p (.int kk (a.tmod b)))):RK P ops (⟨some d,.binOp .rem tx x y tyy,ty,pos,af,none⟩:: r) s K:=RK.va rfl rfl (Go.Sw.rem T.ok h0 rfl hx hy) k
theorem RK.shl (h0:0<=b) (hx0:(s.get T.te tx x,s.get T.te tyy y)=(some (.p (.int kk a)),some (.p (.int k2 b)))) (k:VK P ops r s K d (opS x (.p (.int kk a))++opS y (.p (.int k2 b))) ([]) (.p (.int kk (lI kk a b)))):RK P ops (⟨some d,.binOp .shl tx x y tyy,ty,pos,af,none⟩:: r) s K:=have ⟨hx,hy⟩:=pq hx0;RK.va rfl rfl (Go.Sw.shl T.ok h0 rfl hx hy) k
theorem RK.shr (h0:0<=b) (hx0:(s.get T.te tx x,s.get T.te tyy y)=(some (.p (.int kk a)),some (.p (.int k2 b)))) (k:VK P ops r s K d (opS x (.p (.int kk a))++opS y (.p (.int k2 b))) ([]) (.p (.int kk (vC kk a b)))):RK P ops (⟨some d,.binOp .shr tx x y tyy,ty,pos,af,none⟩:: r) s K:=have ⟨hx,hy⟩:=pq hx0;RK.va rfl rfl (Go.Sw.shr T.ok h0 rfl hx hy) k
theorem RK.shrE (hc:vC kk a b=cc) (h0:0<=b) (hx0:(s.get T.te tx x,s.get T.te tyy y)=(some (.p (.int kk a)),some (.p (.int k2 b)))) (k:VK P ops r s K d (opS x (.p (.int kk a))++opS y (.p (.int k2 b))) ([]) (.p (.int kk cc))):RK P ops (⟨some d,.binOp .shr tx x y tyy,ty,pos,af,none⟩:: r) s K:=have ⟨hx,hy⟩:=pq hx0;RK.va rfl rfl (Go.Sw.shrE T.ok hc h0 rfl hx hy) k
theorem RK.no {a:Bool} (hx:s.get T.te tx x=some (.p (.bool a))) (k:VK P ops r s K d (opS x (.p (.bool a))) ([]) (.p (.bool (!a)))):RK P ops (⟨some d,.unOp .not tx x,ty,pos,af,none⟩:: r) s K:=RK.va rfl rfl (Go.Sw.not' T.ok rfl hx) k
theorem RK.com (hx:s.get T.te tx x=some (.p (.int kk a))) (k:VK P ops r s K d (opS x (.p (.int kk a))) ([]) (.p (.int kk (zI1 kk a)))):RK P ops (⟨some d,.unOp .xor tx x,ty,pos,af,none⟩:: r) s K:=RK.va rfl rfl (Go.Sw.com T.ok rfl hx) k
theorem RK.cv8 (hs0:((T.te src).map (·.ty),(T.te dst).map (·.ty),s.get T.te src x)=(some (.int k2),some (.int .u8),some (.p (.int k2 a)))) (k:VK P ops r s K d (opS x (.p (.int k2 a))) ([]) (.p (.int .u8 (u8 a).toNat))):RK P ops (⟨some d,.convert src dst x,ty,pos,af,none⟩:: r) s K:=have ⟨hs,hs0⟩:=pq hs0;have ⟨ht,hx⟩:=pq hs0;RK.va rfl rfl (Go.Sw.va_conv8 T.ok rfl hs ht hx) k
theorem RK.bts {l:By} (hs0:((T.te src).map (·.ty),(T.te e).map (·.ty),(T.te dst).map (·.ty),s.get T.te src x)=(some (.slice e),some (.int .u8),some .str,some v)) (hp:s.rd v=some (.bytes l,bs)) (k:VK P ops r s K d (opS x v) (bs) (.p (.str l))):RK P ops (⟨some d,.convert src dst x,ty,pos,af,none⟩:: r) s K:=have ⟨hs,hs0⟩:=pq hs0;have ⟨he,hs0⟩:=pq hs0;have ⟨ht,hx⟩:=pq hs0;RK.va rfl rfl (Go.Sw.va_bts T.ok rfl hs he ht hx hp) k
theorem RK.ncp (hx:s.get T.te 0 x=some (.ptr k0 n)) (k:VK P ops r s K d (opS x (.ptr k0 n)) ([]) (.ptr k0 n)):RK P ops (⟨some d,.nilCheck x,ty,pos,af,none⟩:: r) s K:=RK.va rfl rfl (Go.Sw.ncp T.ok rfl hx) k
theorem RK.fa {f:Nat} (ht0:((T.te t).map (·.ty),fs[f]?,T.te ft,nzw fi,s.get T.te 0 x)=(some (.struct fs),some (ft,fo),some fi,true,some (.ptr k0 off))) (k:VK P ops r s K d (opS x (.ptr k0 off)) ([]) (.ptr k0 (off+fo))):RK P ops (⟨some d,.fieldAddr t x f,ty,pos,af,none⟩:: r) s K:=have ⟨ht,ht0⟩:=pq ht0;have ⟨hf,ht0⟩:=pq ht0;have ⟨he,ht0⟩:=pq ht0;have ⟨hw,hx⟩:=pq ht0;RK.va rfl rfl (Go.Sw.fa T.ok rfl ht hf he hw hx) k
theorem RK.ixB {l:By} {u:UInt8} {i:Int} (h:idx l i=some u) (ht0:((T.te t).map (·.ty),T.te e,s.get T.te t x,s.rd v,1,s.get T.te 0 y)=(some (.slice e),some ei,some v,some (.bytes l,bs),ei.w,some (.p (.int .i64 i)))) (k:VK P ops r s K d (opS x v++opS y (.p (.int .i64 i))) (bs) (.p (.cptr (.int .u8 u.toNat)))):RK P ops (⟨some d,.indexAddr t x y,ty,pos,af,none⟩:: r) s K:=have ⟨ht,ht0⟩:=pq ht0;have ⟨he,ht0⟩:=pq ht0;have ⟨hx,ht0⟩:=pq ht0;have ⟨hp,ht0⟩:=pq ht0;have ⟨hw,hy⟩:=pq ht0;RK.va rfl rfl (Go.Sw.ixB T.ok h rfl ht he hx hp hw hy) k
theorem RK.ixM {l:List α} {i:Int} (h:idx l i=some u) (ht0:((T.te t).map (·.ty),T.te e,s.get T.te t x)=(some (.slice e),some ei,some v)) (hp:s.rd v=some (.sl w (l.map f),bs)) (hw0:(w,s.get T.te 0 y)=(ei.w,some (.p (.int .i64 i)))) (k:VK P ops r s K d (opS x v++opS y (.p (.int .i64 i))) (bs) (.p (.cptr (f u)))):RK P ops (⟨some d,.indexAddr t x y,ty,pos,af,none⟩:: r) s K:=have ⟨ht,ht0⟩:=pq ht0;have ⟨he,hx⟩:=pq ht0;have ⟨hw,hy⟩:=pq hw0;RK.va rfl rfl (Go.Sw.ixM T.ok h rfl ht he hx hp hw hy) k
theorem RK.ixS {l:By} {u:UInt8} {i:Int} (h:idx l i=some u) (ht0:((T.te t).map (·.ty),s.get T.te t x,s.get T.te 0 y)=(some .str,some (.p (.str l)),some (.p (.int .i64 i)))) (k:VK P ops r s K d (opS x (.p (.str l))++opS y (.p (.int .i64 i))) ([]) (.p (.int .u8 u.toNat))):RK P ops (⟨some d,.index t x y,ty,pos,af,none⟩:: r) s K:=have ⟨ht,ht0⟩:=pq ht0;have ⟨hx,hy⟩:=pq ht0;RK.va rfl rfl (Go.Sw.ixS T.ok h rfl ht hx hy) k
theorem RK.ixC {l:List α} {i:Int} (h:idx l i=some u) (ht0:((T.te t).map (·.ty),T.te e,s.get T.te t x,Q9 l.length n,ei.isAgg,ei.w)=(some (.arr n e),some ei,some (.p (.cptr (.agg (l.map f)))),true,false,1)) (hf:∀ a,(f a).cells=[f a]) (hy:s.get T.te 0 y=some (.p (.int .i64 i))) (k:VK P ops r s K d (opS x (.p (.cptr (.agg (l.map f))))++opS y (.p (.int .i64 i))) ([]) (.p (.cptr (f u)))):RK P ops (⟨some d,.indexAddr t x y,ty,pos,af,none⟩:: r) s K:=have ⟨ht,ht0⟩:=pq ht0;have ⟨he,ht0⟩:=pq ht0;have ⟨hx,ht0⟩:=pq ht0;have ⟨hn,ht0⟩:=pq ht0;have ⟨hag,hw⟩:=pq ht0;RK.va rfl rfl (Go.Sw.ixC T.ok h rfl ht he hx hn hag hw hf hy) k
theorem RK.ixV {l:List α} {i:Int} (h:idx l i=some u) (ht0:((T.te t).map (·.ty),T.te e,ei.known,s.get T.te t x,s.rd v,Q9 l.length n,ei.isAgg,ei.w)=(some (.arr n e),some ei,true,some v,some (.agg (l.map f),bs),true,false,1)) (hf:∀ a,(f a).cells=[f a]) (hy:s.get T.te 0 y=some (.p (.int .i64 i))) (k:VK P ops r s K d (opS x v++opS y (.p (.int .i64 i))) (bs) (.p (f u))):RK P ops (⟨some d,.index t x y,ty,pos,af,none⟩:: r) s K:=have ⟨ht,ht0⟩:=pq ht0;have ⟨he,ht0⟩:=pq ht0;have ⟨hne,ht0⟩:=pq ht0;have ⟨hx,ht0⟩:=pq ht0;have ⟨hp,ht0⟩:=pq ht0;have ⟨hn,ht0⟩:=pq ht0;have ⟨hag,hw⟩:=pq ht0;RK.va rfl rfl (Go.Sw.ixV T.ok h rfl ht he hne hx hp hy hn hag hw hf) k
theorem RK.ia {i:Int} (h:ixN n i=some j) (ht0:((T.te t).map (·.ty),T.te e,ei.w,s.get T.te t x,s.get T.te 0 y)=(some (.arr n e),some ei,1,some (.ptr k0 off),some (.p (.int .i64 i)))) (k:VK P ops r s K d (opS x (.ptr k0 off)++opS y (.p (.int .i64 i))) ([]) (.ptr k0 (off+j))):RK P ops (⟨some d,.indexAddr t x y,ty,pos,af,none⟩:: r) s K:=have ⟨ht,ht0⟩:=pq ht0;have ⟨he,ht0⟩:=pq ht0;have ⟨hw,ht0⟩:=pq ht0;have ⟨hx,hy⟩:=pq ht0;RK.va rfl rfl (Go.Sw.ia T.ok h rfl ht he hw hx hy) k
theorem RK.iaK {i:Nat} (ht0:((T.te t).map (·.ty),T.te e,s.get T.te t x,s.get T.te 0 y,Q5 i n)=(some (.arr n e),some ei,some (.ptr k0 off),some (.p (.int .i64 (i:Nat))),true)) (k:VK P ops r s K d (opS x (.ptr k0 off)++opS y (.p (.int .i64 (i:Nat)))) ([]) (.ptr k0 (off+i*ei.w))):RK P ops (⟨some d,.indexAddr t x y,ty,pos,af,none⟩:: r) s K:=have ⟨ht,ht0⟩:=pq ht0;have ⟨he,ht0⟩:=pq ht0;have ⟨hx,ht0⟩:=pq ht0;have ⟨hy,h1⟩:=pq ht0;RK.va rfl rfl (Go.Sw.iaK T.ok rfl ht he hx hy h1) k
theorem RK.ir {i:Int} (h:ixN n i=some j) (ht0:((T.te t).map (·.ty),T.te e,ei.w,s.get T.te t x,s.get T.te 0 y)=(some (.slice e),some ei,1,some (.ref k0 off n),some (.p (.int .i64 i)))) (k:VK P ops r s K d (opS x (.ref k0 off n)++opS y (.p (.int .i64 i))) ([]) (.ptr k0 (off+j))):RK P ops (⟨some d,.indexAddr t x y,ty,pos,af,none⟩:: r) s K:=have ⟨ht,ht0⟩:=pq ht0;have ⟨he,ht0⟩:=pq ht0;have ⟨hw,ht0⟩:=pq ht0;have ⟨hx,hy⟩:=pq ht0;RK.va rfl rfl (Go.Sw.ir T.ok h rfl ht he hw hx hy) k
theorem RK.ld (ht0:(T.te t,i.plain,s.get T.te 0 x,s.blk k0,l[off]?)=(some i,true,some (.ptr k0 off),some (.var l),some v)) (k:VK P ops r s K d (opS x (.ptr k0 off)) ([(k0,.var l)]) (v)):RK P ops (⟨some d,.load t x,ty,pos,af,none⟩:: r) s K:=have ⟨ht,ht0⟩:=pq ht0;have ⟨hp,ht0⟩:=pq ht0;have ⟨hx,ht0⟩:=pq ht0;have ⟨hb,hv⟩:=pq ht0;RK.va rfl rfl (Go.Sw.ld T.ok rfl ht hp hx hb hv) k
theorem RK.ldA {f:α->AV} {l:List α} (h:l[j]? = some u) (ht0:(T.te t,i.plain,s.get T.te 0 x)=(some i,true,some (.ptr k0 off))) (hj:off=j) (hb:s.blk k0=some (.var (l.map f))) (k:VK P ops r s K d (opS x (.ptr k0 off)) ([(k0,.var (l.map f))]) (f u)):RK P ops (⟨some d,.load t x,ty,pos,af,none⟩:: r) s K:=have ⟨ht,ht0⟩:=pq ht0;have ⟨hp,hx⟩:=pq ht0;RK.va rfl rfl (Go.Sw.ld T.ok rfl ht hp hx hb (by subst hj;simp [h])) k
theorem RK.ldN (ht0:(T.te t,i.isAgg,s.get T.te 0 x,s.blk k0,Q9 (off+i.w) l.length)=(some i,true,some (.ptr k0 off),some (.var l),true)) (k:VK P ops r s K d (opS x (.ptr k0 off)) ([(k0,.var l)]) (.ag ((l.drop off).take i.w))):RK P ops (⟨some d,.load t x,ty,pos,af,none⟩:: r) s K:=have ⟨ht,ht0⟩:=pq ht0;have ⟨hp,ht0⟩:=pq ht0;have ⟨hx,ht0⟩:=pq ht0;have ⟨hb,hv⟩:=pq ht0;RK.va rfl rfl (Go.Sw.ldN T.ok rfl ht hp hx hb hv) k
theorem RK.ldW (ht0:(T.te t,i.isAgg,s.get T.te 0 x,s.blk k0,Q2 i.w l.length)=(some i,true,some (.ptr k0 0),some (.var l),true)) (k:VK P ops r s K d (opS x (.ptr k0 0)) ([(k0,.var l)]) (.ag l)):RK P ops (⟨some d,.load t x,ty,pos,af,none⟩:: r) s K:=have ⟨ht,ht0⟩:=pq ht0;have ⟨hp,ht0⟩:=pq ht0;have ⟨hx,ht0⟩:=pq ht0;have ⟨hb,hv⟩:=pq ht0;RK.va rfl rfl (Go.Sw.ldW T.ok rfl ht hp hx hb hv) k
theorem RK.ldC (ht0:(T.te t,i.plain,s.get T.te 0 x,q.cells)=(some i,true,some (.p (.cptr q)),[q])) (k:VK P ops r s K d (opS x (.p (.cptr q))) ([]) (.p q)):RK P ops (⟨some d,.load t x,ty,pos,af,none⟩:: r) s K:=have ⟨ht,ht0⟩:=pq ht0;have ⟨hp,ht0⟩:=pq ht0;have ⟨hx,hq⟩:=pq ht0;RK.va rfl rfl (Go.Sw.ldC T.ok rfl ht hp hx hq) k
theorem RK.ldD {l:List PV} (ht0:(T.te t,i.isAgg,s.get T.te 0 x,Q2 l.length i.w)=(some i,true,some (.p (.cptr (.agg l))),true)) (k:VK P ops r s K d (opS x (.p (.cptr (.agg l)))) ([]) (.p (.agg l))):RK P ops (⟨some d,.load t x,ty,pos,af,none⟩:: r) s K:=have ⟨ht,ht0⟩:=pq ht0;have ⟨hp,ht0⟩:=pq ht0;have ⟨hx,hl⟩:=pq ht0;RK.va rfl rfl (Go.Sw.ldCN T.ok rfl ht hp hx hl) k
theorem RK.sto (ht0:(T.te t,s.get T.te 0 ax,s.get T.te t x,s.blk k0,Q2 v.cells.length i.w,Q9 (off+i.w) l.length,v.cells.all AV.one)=(some i,some (.ptr k0 off),some v,some (.var l),true,true,true)) (k:RK P ops r (s.setb k0 (.var (qM l off v.cells))) λs' ms=>K s' (⟨opS ax (.ptr k0 off)++opS x v,[(k0,.var l)],[],none,[(k0,.var (qM l off v.cells))]⟩:: ms)):RK P ops (⟨none,.store t ax x,ty,pos,af,none⟩:: r) s K:=have ⟨ht,ht0⟩:=pq ht0;have ⟨ha,ht0⟩:=pq ht0;have ⟨hx,ht0⟩:=pq ht0;have ⟨hb,ht0⟩:=pq ht0;have ⟨hw,ht0⟩:=pq ht0;have ⟨hl,hone⟩:=pq ht0;
 RK.so rfl (Go.Sw.sto T.ok rfl rfl ht ha hx hb hw hl hone) k
theorem RK.st1 (ht0:(T.te t,s.get T.te 0 ax,s.get T.te t x,s.blk k0,i.w,v.cells,Q5 off l.length,v.one)=(some i,some (.ptr k0 off),some v,some (.var l),1,[v],true,true)) (k:RK P ops r (s.setb k0 (.var (l.set off v))) λs' ms=>K s' (⟨opS ax (.ptr k0 off)++opS x v,[(k0,.var l)],[],none,[(k0,.var (l.set off v))]⟩:: ms)):RK P ops (⟨none,.store t ax x,ty,pos,af,none⟩:: r) s K:=have ⟨ht,ht0⟩:=pq ht0;have ⟨ha,ht0⟩:=pq ht0;have ⟨hx,ht0⟩:=pq ht0;have ⟨hb,ht0⟩:=pq ht0;have ⟨hw,ht0⟩:=pq ht0;have ⟨hc,ht0⟩:=pq ht0;have ⟨hl,hone⟩:=pq ht0;by
 refine RK.so rfl ?_ k;have h1:off<l.length:=by have:=Q1 hl;omega
 have:=Go.Sw.sto (P:=P) (o:=⟨none,.store t ax x,ty,pos,af,none⟩) T.ok rfl rfl ht ha hx hb (by simp [hc,hw]) (by rw [hw];simpa using Qj h1) (by simp [hc,hone]);rw [hc,zFa h1] at this;exact this
theorem RK.stW (ht0:(T.te t,s.get T.te 0 ax,s.get T.te t x,s.blk k0,Q2 v.cells.length i.w,Q2 i.w l.length,v.cells.all AV.one)=(some i,some (.ptr k0 0),some v,some (.var l),true,true,true)) (k:RK P ops r (s.setb k0 (.var v.cells)) λs' ms=>K s' (⟨opS ax (.ptr k0 0)++opS x v,[(k0,.var l)],[],none,[(k0,.var v.cells)]⟩:: ms)):RK P ops (⟨none,.store t ax x,ty,pos,af,none⟩:: r) s K:=have ⟨ht,ht0⟩:=pq ht0;have ⟨ha,ht0⟩:=pq ht0;have ⟨hx,ht0⟩:=pq ht0;have ⟨hb,ht0⟩:=pq ht0;have ⟨hw,ht0⟩:=pq ht0;have ⟨hl,hone⟩:=pq ht0;by
 refine RK.so rfl ?_ k;have h1:=Q0 hw;have h2:=Q0 hl;have:=Go.Sw.sto (P:=P) (o:=⟨none,.store t ax x,ty,pos,af,none⟩) T.ok rfl rfl ht ha hx hb hw (by simp [h2]) hone;have e:qM l 0 v.cells=v.cells:=by rw [jA (by omega)];simp [h1,h2]
 rw [e] at this;exact this
theorem RK.stA {f:α->AV} {l l':List α} (h:sN l j u=some l') (ht0:(T.te t,s.get T.te 0 ax)=(some i,some (.ptr k0 off))) (hj:off=j) (hx0:(s.get T.te t x,s.blk k0,i.w,(f u).cells,(f u).one)=(some (f u),some (.var (l.map f)),1,[f u],true)) (k:RK P ops r (s.setb k0 (.var (l'.map f))) λs' ms=>K s' (⟨opS ax (.ptr k0 off)++opS x (f u),[(k0,.var (l.map f))],[],none,[(k0,.var (l'.map f))]⟩:: ms)):RK P ops (⟨none,.store t ax x,ty,pos,af,none⟩:: r) s K:=have ⟨ht,ha⟩:=pq ht0;have ⟨hx,hx0⟩:=pq hx0;have ⟨hb,hx0⟩:=pq hx0;have ⟨hw,hx0⟩:=pq hx0;have ⟨hf,hone⟩:=pq hx0;by
 refine RK.so rfl ?_ k;subst hj;obtain ⟨h1,h2⟩:=zBn h;have:=Go.Sw.sto (P:=P) (o:=⟨none,.store t ax x,ty,pos,af,none⟩) T.ok rfl rfl ht ha hx hb (by simp [hf,hw]) (by rw [hw];simpa using Qj h1) (by simp [hf,hone]);rw [hf,zFa (by simpa using h1),<- List.map_set,<- h2] at this;exact this
theorem RK.al (ht0:(T.te t,s.blk d)=(some i,none)) (k:BK P ops r s K d ([]) ([]) ([d]) (d) (.var (i.z.map zA)) (.ptr d 0)):RK P ops (⟨some d,.alloc t,ty,pos,af,none⟩:: r) s K:=have ⟨ht,hb⟩:=pq ht0;RK.sb rfl (Go.Sw.al T.ok rfl rfl ht hb) k
theorem RK.bx (hx0:(s.get T.te t x,s.blk d)=(some v,none)) (k:BK P ops r s K d (opS x v) ([]) ([d]) (d) (.var v.cells) (.ptr d 0)):RK P ops (⟨some d,.box t x,ty,pos,af,none⟩:: r) s K:=have ⟨hx,hb⟩:=pq hx0;RK.sb rfl (Go.Sw.bx T.ok rfl rfl hx hb) k
theorem RK.bl (hpl0:(pa.toList,T.te t,i.ty,fs.all (λf=>(T.te f.1).isSome))=(pl,some i,.struct fs,true)) (hp:lL s T.te pl vs rs) (hf:lJ (zH0 T.te fs) (i.z.map zA) vs=some l) (k:VK P ops r s K d (rs) ([]) (.ag l)):RK P ops (⟨some d,.build t pa,ty,pos,af,none⟩:: r) s K:=have ⟨hpl,hpl0⟩:=pq hpl0;have ⟨ht,hpl0⟩:=pq hpl0;have ⟨hty,hfs⟩:=pq hpl0;RK.va rfl rfl (Go.Sw.bld T.ok rfl hpl ht hty hfs hp hf) k
theorem RK.bA (hpl0:(pa.toList,T.te t,i.ty,T.te e)=(pl,some i,.arr n e,some ei)) (hp:lL s T.te pl vs rs) (hf:lJ (λj=>some (j*ei.w,ei.w)) (i.z.map zA) vs=some l) (k:VK P ops r s K d (rs) ([]) (.ag l)):RK P ops (⟨some d,.build t pa,ty,pos,af,none⟩:: r) s K:=have ⟨hpl,hpl0⟩:=pq hpl0;have ⟨ht,hpl0⟩:=pq hpl0;have ⟨hty,he⟩:=pq hpl0;RK.va rfl rfl (Go.Sw.bldA T.ok rfl hpl ht hty he hp hf) k
theorem RK.liB (l:By) {bb:LB} (hpl0:(pa.toList,(T.te t).map (·.ty),T.te e,ei.z.length,1,Q9 n 16777216)=(pl,some (.slice e),some ei,ei.w,ei.w,true)) (hp:nS s T.te e 0 pl vs rs bb) (hf0:(lJ (λj=>some (j*ei.w,ei.w)) (sW ei.z n) vs,l.length,s.blk d)=(some ((l.map λx=>PV.int .u8 x.toNat).map .p),n,none)) (k:BK P ops r s K d (rs) (bb) ([d]) (d) (.buf (.bytes l)) (.buf d l.length)):RK P ops (⟨some d,.buildSlice t n pa,ty,pos,af,none⟩:: r) s K:=have ⟨hpl,hpl0⟩:=pq hpl0;have ⟨ht,hpl0⟩:=pq hpl0;have ⟨he,hpl0⟩:=pq hpl0;have ⟨hz,hpl0⟩:=pq hpl0;have ⟨hw0,hn⟩:=pq hpl0;have ⟨hf,hf0⟩:=pq hf0;have ⟨hcn,hk⟩:=pq hf0;RK.sb rfl (Go.Sw.litB T.ok l rfl rfl hpl ht he hz hw0 hn hp hf hcn hk) k
theorem RK.li (f:α->PV) (l:List α) {bb:LB} (hpl0:(pa.toList,(T.te t).map (·.ty),T.te e,ei.z.length,ei.w,Q5 0 w,Q9 (n*w) 16777216)=(pl,some (.slice e),some ei,ei.w,w,true,true)) (hp:nS s T.te e 0 pl vs rs bb) (hl:∀ a,(f a).cells.length=w) (hf0:(lJ (λj=>some (j*ei.w,ei.w)) (sW ei.z n) vs,l.length,s.blk d)=(some ((xG (l.map f)).map .p),n,none)) (k:BK P ops r s K d (rs) (bb) ([d]) (d) (.buf (.sl w (l.map f))) (.buf d l.length)):RK P ops (⟨some d,.buildSlice t n pa,ty,pos,af,none⟩:: r) s K:=have ⟨hpl,hpl0⟩:=pq hpl0;have ⟨ht,hpl0⟩:=pq hpl0;have ⟨he,hpl0⟩:=pq hpl0;have ⟨hz,hpl0⟩:=pq hpl0;have ⟨hw,hpl0⟩:=pq hpl0;have ⟨hw0,hn⟩:=pq hpl0;have ⟨hf,hf0⟩:=pq hf0;have ⟨hcn,hk⟩:=pq hf0;RK.sb rfl (Go.Sw.lit T.ok f l rfl rfl hpl ht he hz hw hw0 hn hp hl hf hcn hk) k
theorem RK.lr (hpl0:(pa.toList,(T.te t).map (·.ty),T.te e,ei.z.length,Q9 (n*ei.w) 16777216)=(pl,some (.slice e),some ei,ei.w,true)) (hp:lL s T.te pl vs rs) (hf0:(lJ (λj=>some (j*ei.w,ei.w)) (sW ei.z n) vs,s.blk d)=(some l,none)) (k:BK P ops r s K d (rs) ([]) ([d]) (d) (.var l) (.ref d 0 n)):RK P ops (⟨some d,.buildSlice t n pa,ty,pos,af,none⟩:: r) s K:=have ⟨hpl,hpl0⟩:=pq hpl0;have ⟨ht,hpl0⟩:=pq hpl0;have ⟨he,hpl0⟩:=pq hpl0;have ⟨hz,hn⟩:=pq hpl0;have ⟨hf,hk⟩:=pq hf0;RK.sb rfl (Go.Sw.sa_litr T.ok rfl rfl hpl ht he hz (zN hn) hp hf hk) k
theorem RK.ex (hx0:(s.get T.te 0 x,l[n]?)=(some (.tu l),some v)) (k:VK P ops r s K d (opS x (.tu l)) ([]) (v)):RK P ops (⟨some d,.extract x n,ty,pos,af,none⟩:: r) s K:=have ⟨hx,hq⟩:=pq hx0;RK.va rfl rfl (Go.Sw.va_extractA rfl hx hq) k
theorem RK.slB {l u:By} (h:sub l a b=some u) (ht0:((T.te t).map (·.ty),T.te e,s.get T.te t x)=(some (.slice e),some ei,some v)) (hp:s.rd v=some (.bytes l,bs)) (hw:1=ei.w) (hlo:Bd s T.te lo lo2 rl) (hhi:Bd s T.te hi hi2 rh) (hmx:Bd s T.te mx mx2 rm) (hm:mx2=none∨(mx2=hi2/\hi2.isSome=true)) (ea0:(lo2.getD 0,hi2.getD l.length)=(a,b)) (k:VK P ops r s K d (opS x v++(rl++(rh++rm))) (bs) (.p (.bytes u))):RK P ops (⟨some d,.slice t x lo hi mx,ty,pos,af,none⟩:: r) s K:=have ⟨ht,ht0⟩:=pq ht0;have ⟨he,hx⟩:=pq ht0;have ⟨ea,eb⟩:=pq ea0;RK.va rfl rfl (Go.Sw.slB T.ok h rfl ht he hx hp hw hlo hhi hmx hm ea eb) k
theorem RK.slM {l u:List α} (h:sub l a b=some u) (ht0:((T.te t).map (·.ty),T.te e,s.get T.te t x)=(some (.slice e),some ei,some v)) (hp:s.rd v=some (.sl w (l.map f),bs)) (hw:w=ei.w) (hlo:Bd s T.te lo lo2 rl) (hhi:Bd s T.te hi hi2 rh) (hmx:Bd s T.te mx mx2 rm) (hm:mx2=none∨(mx2=hi2/\hi2.isSome=true)) (ea0:(lo2.getD 0,hi2.getD l.length)=(a,b)) (k:VK P ops r s K d (opS x v++(rl++(rh++rm))) (bs) (.p (.sl w (u.map f)))):RK P ops (⟨some d,.slice t x lo hi mx,ty,pos,af,none⟩:: r) s K:=have ⟨ht,ht0⟩:=pq ht0;have ⟨he,hx⟩:=pq ht0;have ⟨ea,eb⟩:=pq ea0;RK.va rfl rfl (Go.Sw.slM T.ok h rfl ht he hx hp hw hlo hhi hmx hm ea eb) k
theorem RK.lnT {l:By} (ht0:((T.te t).map (·.ty),s.get T.te t x)=(some .str,some (.p (.str l)))) (k:VK P ops r s K d (opS x (.p (.str l))) ([]) (.p (.int .i64 l.length))):RK P ops (⟨some d,.call ⟨.builtin .len,#[x],#[t]⟩,ty,pos,af,none⟩:: r) s K:=have ⟨ht,hx⟩:=pq ht0;RK.va rfl rfl (Go.Sw.lnT T.ok rfl ht hx) k
theorem RK.lnS (ht0:((T.te t).map (·.ty),s.get T.te t x)=(some (.slice e),some v)) (hp:s.rd v=some (p,bs)) (hs:p.isSlice=true) (k:VK P ops r s K d (opS x v) (bs) (.p (.int .i64 p.len))):RK P ops (⟨some d,.call ⟨.builtin .len,#[x],#[t]⟩,ty,pos,af,none⟩:: r) s K:=have ⟨ht,hx⟩:=pq ht0;RK.va rfl rfl (Go.Sw.lnS T.ok rfl ht hx hp hs) k
theorem RK.lnM {l:List α} (ht0:((T.te t).map (·.ty),s.get T.te t x)=(some (.slice e),some v)) (hp:s.rd v=some (.sl w (l.map f),bs)) (k:VK P ops r s K d (opS x v) (bs) (.p (.int .i64 l.length))):RK P ops (⟨some d,.call ⟨.builtin .len,#[x],#[t]⟩,ty,pos,af,none⟩:: r) s K:=have ⟨ht,hx⟩:=pq ht0;RK.va rfl rfl (Go.Sw.lnM T.ok rfl ht hx hp) k
theorem RK.lnR (ht0:((T.te t).map (·.ty),s.get T.te t x)=(some (.slice e),some (.ref k0 off n))) (k:VK P ops r s K d (opS x (.ref k0 off n)) ([]) (.p (.int .i64 n))):RK P ops (⟨some d,.call ⟨.builtin .len,#[x],#[t]⟩,ty,pos,af,none⟩:: r) s K:=have ⟨ht,hx⟩:=pq ht0;RK.va rfl rfl (Go.Sw.va_lenR T.ok rfl ht hx) k
theorem RK.mi (hx0:(s.get T.te t x,s.get T.te t2 y)=(some (.p (.int kk a)),some (.p (.int kk b)))) (k:VK P ops r s K d (opS x (.p (.int kk a))++opS y (.p (.int kk b))) ([]) (.p (.int kk (if b<a then b else a)))):RK P ops (⟨some d,.call ⟨.builtin .min,#[x,y],#[t,t2]⟩,ty,pos,af,none⟩:: r) s K:=have ⟨hx,hy⟩:=pq hx0;RK.va rfl rfl (Go.Sw.minI T.ok rfl hx hy) k
theorem RK.apNB {b:Nat} {m u:By} (h:yN b [] m=some u) (ht0:((T.te t).map (·.ty),T.te e,(T.te t2).map (·.ty),s.get T.te t x,1,ei.z.length,s.get T.te t2 y,s.rd vy,ei.b,Q5 0 b,s.blk d)=(some (.slice e),some ei,some (.slice e2),some (.nl (.bytes [])),ei.w,ei.w,some vy,some (.bytes m,bs),b,true,none)) (k:BK P ops r s K d (opS x (.nl (.bytes []))++opS y vy) (bs) ([d]) (d) (.buf (.bytes u)) (.buf d u.length)):RK P ops (⟨some d,.call ⟨.builtin .append,#[x,y],#[t,t2]⟩,ty,pos,af,none⟩:: r) s K:=have ⟨ht,ht0⟩:=pq ht0;have ⟨he,ht0⟩:=pq ht0;have ⟨ht2,ht0⟩:=pq ht0;have ⟨hx,ht0⟩:=pq ht0;have ⟨hcw,ht0⟩:=pq ht0;have ⟨hz,ht0⟩:=pq ht0;have ⟨hy,ht0⟩:=pq ht0;have ⟨hp,ht0⟩:=pq ht0;have ⟨hb,ht0⟩:=pq ht0;have ⟨hb1,hk⟩:=pq ht0;RK.sb rfl (Go.Sw.apNB T.ok h rfl rfl ht he ht2 hx hcw hz hy hp hb hb1 hk) k
theorem RK.apB {b:Nat} {l m u:By} (h:yN b l m=some u) (ht0:((T.te t).map (·.ty),T.te e,(T.te t2).map (·.ty),s.get T.te t x,s.blk k0,1,ei.z.length,s.get T.te t2 y)=(some (.slice e),some ei,some (.slice e2),some (.buf k0 l.length),some (.buf (.bytes l)),ei.w,ei.w,some vy)) (hp:s.rd vy=some (.bytes m,bs)) (hb0:(ei.b,Q5 0 b)=(b,true)) (k:BK P ops r s K d (opS x (.buf k0 l.length)++opS y vy) ((k0,.buf (.bytes l)) :: bs) ([]) (k0) (.buf (.bytes u)) (.buf k0 u.length)):RK P ops (⟨some d,.call ⟨.builtin .append,#[x,y],#[t,t2]⟩,ty,pos,af,none⟩:: r) s K:=have ⟨ht,ht0⟩:=pq ht0;have ⟨he,ht0⟩:=pq ht0;have ⟨ht2,ht0⟩:=pq ht0;have ⟨hx,ht0⟩:=pq ht0;have ⟨hk,ht0⟩:=pq ht0;have ⟨hcw,ht0⟩:=pq ht0;have ⟨hz,hy⟩:=pq ht0;have ⟨hb,hb1⟩:=pq hb0;RK.sb rfl (Go.Sw.apB T.ok h rfl rfl ht he ht2 hx hk hcw hz hy hp hb hb1) k
theorem RK.apM {b:Nat} (f:α->PV) {l u:List α} (h:yN b l m=some u) (ht0:((T.te t).map (·.ty),T.te e,(T.te t2).map (·.ty),s.get T.te t x,s.blk k0,w,Q5 0 w,ei.z.length,s.get T.te t2 y)=(some (.slice e),some ei,some (.slice e2),some (.buf k0 l.length),some (.buf (.sl w (l.map f))),ei.w,true,ei.w,some vy)) (hp:s.rd vy=some (.sl w (m.map f),bs)) (hone:∀ a,(f a).cells.all PV.one=true) (hb0:(ei.b,Q5 0 b)=(b,true)) (k:BK P ops r s K d (opS x (.buf k0 l.length)++opS y vy) ((k0,.buf (.sl w (l.map f))) :: bs) ([]) (k0) (.buf (.sl w (u.map f))) (.buf k0 u.length)):RK P ops (⟨some d,.call ⟨.builtin .append,#[x,y],#[t,t2]⟩,ty,pos,af,none⟩:: r) s K:=have ⟨ht,ht0⟩:=pq ht0;have ⟨he,ht0⟩:=pq ht0;have ⟨ht2,ht0⟩:=pq ht0;have ⟨hx,ht0⟩:=pq ht0;have ⟨hk,ht0⟩:=pq ht0;have ⟨hcw,ht0⟩:=pq ht0;have ⟨hw0,ht0⟩:=pq ht0;have ⟨hz,hy⟩:=pq ht0;have ⟨hb,hb1⟩:=pq hb0;RK.sb rfl (Go.Sw.apM T.ok f h rfl rfl ht he ht2 hx hk hcw hw0 hz hy hp hone hb hb1) k
theorem RK.stb {l:By} (hs0:((T.te src).map (·.ty),(T.te dst).map (·.ty),(T.te e).map (·.ty),s.get T.te src x)=(some .str,some (.slice e),some (.int .u8),some (.p (.str l)))) (hl:l.length<=140737488355328) (hk:s.blk d=none) (k:BK P ops r s K d (opS x (.p (.str l))) ([]) ([d]) (d) (.buf (.bytes l)) (.buf d l.length)):RK P ops (⟨some d,.convert src dst x,ty,pos,af,none⟩:: r) s K:=have ⟨hs,hs0⟩:=pq hs0;have ⟨ht,hs0⟩:=pq hs0;have ⟨he,hx⟩:=pq hs0;RK.sb rfl (Go.Sw.sa_stb T.ok rfl rfl hs ht he hx hl hk) k
theorem RK.bb {l:By} (ht0:((T.te t).map (·.ty),(T.te e).map (·.ty),s.get T.te t x,s.blk k0)=(some (.slice e),some (.int .u8),some (.buf k0 l.length),some (.buf (.bytes l)))) (hl:l≠[])
  (k:RK P ops r (s.put d (.buf k0 l.length)) λs' ms=>K s' (⟨opS x (.buf k0 l.length),[(k0,.buf (.bytes l))],[],some (d,some (.buf k0 l.length)),[]⟩:: ms)):RK P ops (⟨some d,.convert t t x,ty,pos,af,none⟩:: r) s K:=have ⟨ht,ht0⟩:=pq ht0;have ⟨he,ht0⟩:=pq ht0;have ⟨hx,hk⟩:=pq ht0;RK.st rfl (Go.Sw.sa_bb T.ok rfl rfl ht he hx hk hl) k
theorem RK.cl {f:FuncId} {ps:List PV} {bb:LB} (h:Ok P f na (mkS (argE 0 ps) []) (mkS [(0,av)] blks)) (hxl0:(xs.toList,ts.toList)=(xl,tl)) (ha:mG s T.te xl tl ps rs bb) (hn0:(Q2 na ps.length,(kR (sh d) blks).all (λk=>(s.blk k).isNone))=(true,true))
  (k:RK P ops r (Mic.upd ⟨rs,bb,kR (sh d) blks,some (d,some (av.ren (sh d))),bR (sh d) blks⟩ s) λs' ms=>K s' (⟨rs,bb,kR (sh d) blks,some (d,some (av.ren (sh d))),bR (sh d) blks⟩:: ms)):RK P ops (⟨some d,.call ⟨.value (.func f),xs,ts⟩,ty,pos,af,none⟩:: r) s K:=have ⟨hxl,htl⟩:=pq hxl0;have ⟨hn,hf⟩:=pq hn0;
 by
 rw [gI,zCg] at k;exact RK.st rfl (Go.Sw.cl T.ok h rfl rfl hxl htl ha hn (by rw [<- gI];exact hf)) k
theorem RK.cp {f:FuncId} {ps:List PV} {bb:LB} (h:Ok P f na (mkS ((0,.ptr 0 0) :: argE 1 ps) [(0,.var (cs.map .p))]) (mkS [(0,av)] ((0,.var l') :: blks))) (hxl0:(xs.toList,ts.toList,s.get T.te ta xa,s.blk k0,s.rdL l)=(xa :: xl,ta :: tl,some (.ptr k0 0),some (.var l),some (cs,bs0))) (ha:mG s T.te xl tl ps rs bb) (hn0:(Q2 na (ps.length+1),(kR (sh d) blks).all (λk=>(s.blk k).isNone),blks.all (λe=>!Nat.beq e.1 0))=(true,true,true))
  (k:RK P ops r (Mic.upd ⟨opS xa (.ptr k0 0)++rs,(k0,.var l) :: (bs0++bb),kR (sh d) blks,some (d,some (av.ren (shp d k0))),bR (shp d k0) ((0,.var l') :: blks)⟩ s) λs' ms=>K s' (⟨opS xa (.ptr k0 0)++rs,(k0,.var l) :: (bs0++bb),kR (sh d) blks,some (d,some (av.ren (shp d k0))),bR (shp d k0) ((0,.var l') :: blks)⟩:: ms)):RK P ops (⟨some d,.call ⟨.value (.func f),xs,ts⟩,ty,pos,af,none⟩:: r) s K:=have ⟨hxl,hxl0⟩:=pq hxl0;have ⟨htl,hxl0⟩:=pq hxl0;have ⟨hxa,hxl0⟩:=pq hxl0;have ⟨hbk,hcs⟩:=pq hxl0;have ⟨hn,hn0⟩:=pq hn0;have ⟨hf,hne⟩:=pq hn0;
 by
 rw [gI,zCg] at k;exact RK.st rfl (Go.Sw.clp T.ok h rfl rfl hxl htl hxa hbk hcs ha hn (by rw [<- gI];exact hf) hne) k
end
end Go.Sw
