/- UpdatePolicy holds for all inputs -/
import Derived.Test.YtlipjldhnmcbiaaGreatDoorCZ1
set_option linter.all false
open Nat renaming eq_of_beq_eq_true -> Q0, beq -> Q2, blt -> Q4, ble -> Q5, le_refl -> Q7, le_mul_of_pos_right -> Qa, add_mul -> Qb, le_of_ble_eq_true -> Qe, zero_add -> Qi, one_ne_zero -> Qk, zero_le -> Ql
open List renaming all_eq_true -> Q1, mem_append -> Qf, mem_cons -> Qg, length_map -> Qj, mem_map -> Qm
open Go.World renaming freeze -> Q3, cell? -> Qn
open Option renaming map_eq_some_iff -> Q6, map_some -> Q8
open Go.Sw.PV renaming len -> Q9, nilOf -> Qo, width -> Qp
open Go.Region renaming wanted -> Qc
open Go.Value renaming int -> Qd
open Go.Result renaming andThen_ok -> Qh
namespace Go.Sw
open Go
variable {B:NB}{K:AS->List Mic->Prop}{M:Mem}{P:Program}{Q:Exit->AS->Prop}{X Y:Type}{a:Int}{av:AV}{ax:Operand}{b:Int}{b':Bool}{blks:LB}{body:Code}{bs bs0:LB}{c:Operand}{cc:Int}{cs:List PV}{cx:Ctx}{d dj:Nat}{dst e e' e2:TypeId}{ei fi:TI}{fo:Nat}{fs:List (TypeId×Nat)}{ft:TypeId}{hi:Option Operand}{hi' hi2:Option Int}{i:TI}{id:Nat}{ity:TypeId}{j k:Nat}{k':IntKind}{k0:Nat}{k2 kc kk kl:IntKind}{ks:List Nat}{l l':List AV}{lo:Option Operand}{lo' lo2:Option Int}{ms:List Mic}{mx:Option Operand}{mx' mx2:Option Int}{n na:Nat}{o:Oper}{off:Nat}{ops:Array Oper}{p:PV}{pa:Array (Nat×Operand)}{pk:PKs}{pl:List (Nat×Operand)}{ps:Array (Nat×Operand)}{q:PV}{r:List Oper}{rh rl rm rs:LV}{s s':AS}{src t t' t0 t2 ta tc:TypeId}{te:TE}{tip:Nat->Value}{tl:List TypeId}{ts:Array TypeId}{tx ty tyy:TypeId}{v:AV}{vs:LV}{vy:AV}{w:Nat}{x xa:Operand}{xl:List Operand}{xs:Array Operand}{y:Operand}{α β:Type}{κ:Nat->Option Nat}{f:α->PV}{m:List α}{u:α}
def flatCells:List PV->List PV
 | []=>[]
 | p :: r=>p.cells++flatCells r
theorem flat_get:∀ (ps:List PV),(∀ p∈ps,p.cells.length=w)->(flatCells ps).length=ps.length*w/\∀ (i:Nat) (p:PV) (j:Nat) (q:PV),ps[i]? = some p->p.cells[j]? = some q->(flatCells ps)[i*w+j]? = some q
 | [],_=>⟨by simp [flatCells],by simp⟩
 | p :: r,h=>by
  obtain ⟨h1,h2⟩:=flat_get r (λq hq=>h q (by simp [hq]));have hp:=h p (by simp);refine ⟨by simp [flatCells,h1,hp,Qb];omega,λi p' j q hi hq=>?_⟩;cases i with
  | zero=>
   simp at hi;subst hi;have:j<p.cells.length:=(List.getElem?_eq_some_iff.1 hq).1;simp only [flatCells,Nat.zero_mul,Qi];rw [List.getElem?_append_left this];exact hq
  | succ i=>
   simp only [flatCells];rw [List.getElem?_append_right (by rw [hp,Qb];omega),hp,show (i+1)*w+j - w=i*w+j by rw [Qb];omega];exact h2 i p' j q (by simpa using hi) hq
inductive dA (w:Nat):PV->List PV->Prop where
 | bytes (xs:By):w=1->dA w (.bytes xs) (xs.map λx=>.int .u8 x.toNat)
 | sl (ps:List PV):(∀ p∈ps,p.cells.length=w)->dA w (.sl w ps) (flatCells ps)
theorem dA.cells {c:PV} (h:dA w c cs) {f:Nat->Value} (hf:∀ (j:Nat) (q:PV),cs[j]? = some q->Rep M q (f j)):pE M c f/\c.isSlice=true/\c.width=w/\c.len*w=cs.length:=by
 cases h with
 | bytes xs hw=>
  refine ⟨λi x hx=>rep_int (hf i _ (by simp [hx])),rfl,hw.symm,by simp [Q9,hw]⟩
 | sl ps hw=>
  obtain ⟨h1,h2⟩:=flat_get ps hw;exact ⟨⟨λi p hp=>hw p (List.mem_of_getElem? hp),λi p j q hp hq=>hf _ q (h2 i p j q hp hq)⟩,rfl,rfl,by simp [Q9,h1]⟩
section
inductive nW (s:AS) (te:TE) (t:TypeId):Nat->List (Nat×Operand)->LV->LV->LB->Prop where
 | nil (n:Nat):nW s te t n [] [] [] []
 | cons (n:Nat) (x:Operand) (v:AV) (p:PV) (bs:LB) (ps:List (Nat×Operand)) (vs rs:LV) (bb:LB):s.get te t x=some v->s.rd v=some (p,bs)->nW s te t (n+1) ps vs rs bb->nW s te t n ((n,x) :: ps) ((n,.p p) :: vs) (opS x v++rs) (bs++bb)
theorem nW.reads {ps:List (Nat×Operand)} {bb:LB} (h:nW s te t n ps vs rs bb):wG s rs/\∀ e∈bb,s.blk e.1=some e.2:=by
 induction h with
 | nil=>exact ⟨by intro e he;simp at he,by simp⟩
 | cons n x v p bs ps vs rs bb h1 h2 _ ih=>exact ⟨yI (zN h1) ih.1,λe he=>(Qf.1 he).elim (vU v p bs h2 e) (ih.2 e)⟩
theorem nW.rep {ps:List (Nat×Operand)} {bb:LB} (h:nW s te t n ps vs rs bb) {a:Act} {w:World} (hi:Inv cx M κ tip s' a w) :
  wG s' rs->(∀ e∈bb,s'.blk e.1=some e.2)->fU M κ tip s'.blk (ps.map λp=>(p.1,a.eval p.2)) vs:=by
 induction h with
 | nil=>intro _ _;trivial
 | cons n x v p bs ps vs rs bb h1 h2 _ ih=>
  intro hr hb;exact ⟨rfl,.p _ _ (kM hi h1 h2 (yF hr) (λe he=>hb e (Qf.2 (.inl he)))),ih (zZ hr) (λe he=>hb e (Qf.2 (.inr he)))⟩
def sQ (z:List PV) (n:Nat):List AV:=(List.replicate n (z.map zA)).flatten
theorem zUb (z:List PV) (n:Nat):(sQ z n).length=n*z.length:=by simp [sQ]
theorem zLc (z:List PV):∀ (n j:Nat),(sQ z n)[j]? = if j<n*z.length then (z.map zA)[j % z.length]? else none
 | 0,j=>by simp [sQ]
 | n+1,j=>by
  have hz:sQ z (n+1)=z.map zA++sQ z n:=by simp [sQ,List.replicate_succ]
  rw [hz];by_cases h:j<z.length
  ·rw [List.getElem?_append_left (by simpa using h),if_pos (by rw [Qb];omega),Nat.mod_eq_of_lt h]
  ·rw [List.getElem?_append_right (by simp;omega),Qj,zLc z n];by_cases h2:j<(n+1)*z.length
   ·rw [if_pos h2,if_pos (by rw [Qb] at h2;omega)];congr 1;rw [<- Nat.mod_eq_sub_mod (by omega)]
   ·rw [if_neg h2,if_neg (by rw [Qb] at h2;omega)]
theorem zCw (hok:yV P te) (h:te t=some i) (hz:i.z.length=i.w) {z:Value} {info:TypeInfo} (hinfo:P.info? t=some info) (hiz:info.zero=some z) (n:Nat) :
  CR M κ tip B (sQ i.z n) (madeCells z.cells (n*i.w)):=by
 obtain ⟨z',h1,h2,h3⟩:=zI1 hok h (M:=M) (κ:=κ) (tip:=tip) (B:=B) default;have hzz:z'=z:=by simp [zeroValue,typeInfo,hinfo,hiz] at h1;exact h1.symm
 subst hzz;refine ⟨by rw [size_madeCells,zUb,hz],λj q hq=>?_⟩;rw [zLc] at hq;split at hq
 ·rename_i hj;rw [hz] at hj hq;have hw:0<i.w:=by
   rcases Nat.eq_zero_or_pos i.w with h | h
   ·rw [h] at hj;simp at hj
   ·exact h
  have:=h3.2 (j % i.w) q hq;have hlt:j % i.w<z'.cells.size:=by rw [h2,hz];exact Nat.mod_lt _ hw
  have hmd:(madeCells z'.cells (n*i.w)).getD j undef=z'.cells[j % i.w]:=by
   simp [madeCells,hj,h2,hz];rw [getElem!_pos z'.cells (j % i.w) hlt]
  rw [hmd];simpa [hlt] using this
 ·cases hq
theorem zSc (hok:yV P te) (ht:(te t).map (·.ty)=some (.slice e)) (he:te e=some ei) (hz:ei.z.length=ei.w) (hn:n*ei.w<=16777216) {xs:Array (Nat×Value)} (hp:fU M κ tip B xs.toList vs) 
  (hf:kN (λj=>some (j*ei.w,ei.w)) (sQ ei.z n) vs=some l) (w:World):∃ arr,(Instr.buildSlice t n xs).run P w=.ok (.slice (some ⟨w.heap.size,0,none⟩) n n) (w.alloc (.cells arr e))/\CR M κ tip B l arr:=by
 obtain ⟨info,z,i1,i2,i3,i4,i5⟩:=(hok e ei he).info;have hcr:=zCw hok he hz i1 i4 (M:=M) (κ:=κ) (tip:=tip) (B:=B) n;obtain ⟨arr,f1,f2⟩:=zE9 vs xs.toList _ l _ hp hcr hf;refine ⟨arr,?_,f2⟩;have hu:=yX hok ht;have h24:¬ (16777216<n*ei.w):=by omega
 have hsz:=uL hok he w;by_cases h0:n*ei.w=0
 ·have hmade:madeCells z.cells (n*ei.w)=(Array.range 0).map ((#[]:Array Value)[· % (#[]:Array Value).size]!):=by rw [h0];simp [madeCells]
  rw [hmade] at f1;have hor:n=0∨ei.w=0:=by rcases Nat.mul_eq_zero.1 h0 with h | h;exact .inl h;exact .inr h
  simp only [Instr.buildSlice,Sem.run_bind,run_underlying hu,Qh,hsz,h0];simp only [Array.range_zero',List.map_toArray] at f1 ⊢;simp [f1,newRow] at *;simp [f1]
 ·simp only [madeCells] at f1;simp [Instr.buildSlice,run_underlying hu,hsz,h24,h0,zeroValue,typeInfo,i1,i4,f1,newRow]
theorem zZw {bb:LB} {c:PV} (hok:yV P te) (hd:o.dst=some d) (ho:o.op=.buildSlice t n ps) (hpl:ps.toList=pl) (ht:(te t).map (·.ty)=some (.slice e)) (he:te e=some ei) (hz:ei.z.length=ei.w) (hw0:0<ei.w) (hn:n*ei.w<=16777216)
  (hp:nW s te e 0 pl vs rs bb) (hf:kN (λj=>some (j*ei.w,ei.w)) (sQ ei.z n) vs=some (cs.map .p)) (hc:dA ei.w c cs) (hcn:c.len=n) (hk:s.blk d=none) :
  SA P o s ⟨rs,bb,[d],some (d,some (.buf d c.len)),[(d,.buf c)]⟩:=by
 refine ⟨?_,hp.reads.1,hp.reads.2,by intro k hk';simp at hk';subst hk';exact hk⟩;intro cx s' a w K Q hm hs hws hk';obtain ⟨M,κ,tip,h0,hpk,hi⟩:=hs;have hbk:=hm.2.2 d (by simp);have hpr:=hp.rep hi hm.1 hm.2.1;have hxs:(ps.map λ(i,x)=>(i,a.eval x)).toList=pl.map λp=>(p.1,a.eval p.2):=by simp [<- hpl]
 obtain ⟨arr,hrun,hcr⟩:=zSc hok ht he hz hn (xs:=ps.map λ(i,x)=>(i,a.eval x)) (by rw [hxs];exact hpr) hf w;have hcells:∀ (j:Nat) (q:PV),cs[j]? = some q->Rep M q (arr.getD j undef):=λj q hq=>repA_pv (hcr.2 j (.p q) (by simp [hq]));obtain ⟨c1,c2,c3,c4⟩:=hc.cells hcells;have hasz:arr.size=n*ei.w:=by rw [hcr.1,Qj,<- c4,hcn]
 unfold Oper.wp;have:(execOp a.eval o).run P w=.ok (.value (.slice (some ⟨w.heap.size,0,none⟩) n n)) (w.alloc (.cells arr e)):=by simp [execOp,ho,hrun]
 rw [this];show K (a.put o.dst _) _;rw [hd];refine hk' _ _ ?_;rw [vZ];have hle:M.le (addM M w.heap.size 0 (n*c.width) (arr[·]?)):=addM_le λo _ _=>hi.mlt (Q7 _);have hrep:Rep (addM M w.heap.size 0 (n*c.width) (arr[·]?)) c (.slice (some ⟨w.heap.size,0,none⟩) n n):=by
  have:=wL (M':=addM M w.heap.size 0 (n*c.width) (arr[·]?)) (b:=w.heap.size) (o:=0) (cap:=n) c1 c2 hle ?_ (by omega)
  ·rwa [hcn] at this
  intro j hj;rw [hcn] at hj;simp only [addM,Qi];rw [if_pos ⟨trivial,Ql _,hj⟩];rw [c3,<- hasz] at hj;simp [hj]
 have hml:n<=maxLen:=by
  have:n<=n*ei.w:=Qa _ hw0;simp only [maxLen];omega
 refine ⟨_,_,_,h0.trans' hle,zB4 hi hpk hbk _,(hi.bufNew (cO w arr e) (.inl hbk) c2 (by omega) (by rw [c3,hasz];exact Q7 _) (by rw [c3,hasz];exact Q7 _) hml hrep).put (hws d (by simp [Mic.ws])) ?_⟩;rw [hcn];refine .buf d _ c _ (zV _ _ _) c2 (by omega) ?_ (λ_=>(xA _ _ _).symm);rw [<- hcn,sB c2,hcn];exact hrep
end
def zMv:TypeDesc->Ty
 | .bool=>.bool
 | .int k=>.int k
 | .string=>.str
 | .slice e=>.slice e
 | .array n e=>.arr n e
 | .struct fs=>.struct (fs.toList.map λf=>(f.type,f.offset))
 | .pointer e=>.ptr e
 | .func _ _ _=>.func
 | .interface _=>.iface
 | _=>.other
def zJ9 (i:TypeInfo):Nat×Nat×Option (List Value):=(i.size,i.bytes,i.zero.map (·.cells.toList))
theorem yEx (h1:(P.info? t).map zJ9=some (i.w,i.b,some (i.z.map zv))) (h2:(P.underlying t).map zMv=some i.ty) (h3:i.z.all PV.zok=true):TOk P t i where
 info:=by
  obtain ⟨info,a,b⟩:=Q6.1 h1;simp only [zJ9,Prod.mk.injEq] at b;obtain ⟨b1,b2,b3⟩:=b;obtain ⟨z,c1,c2⟩:=Q6.1 b3;exact ⟨info,z,a,b1,b2,c1,c2⟩
 zok:=λz hz=>(Q1.1 h3) z hz
 und:=by
  obtain ⟨d,a,b⟩:=Q6.1 h2;cases d<;>simp only [zMv] at b<;>rw [<- b]<;>simp only [a]<;>simp
inductive Tr where
 | leaf
 | node (k:Nat) (v:TI) (l r:Tr)
def Tr.get:Tr->TE
 | .leaf,_=>none
 | .node k v l r,t=>bif Q2 t k then some v else bif Q4 t k then l.get t else r.get t
def Tr.pr (P:Program):Tr->List ((Option (Nat×Nat×Option (List Value))×Option Ty×Bool)×(Option (Nat×Nat×Option (List Value))×Option Ty×Bool))
 | .leaf=>[]
 | .node t i l r=>(((P.info? t).map zJ9,(P.underlying t).map zMv,i.z.all PV.zok),(some (i.w,i.b,some (i.z.map zv)),some i.ty,true)) :: (l.pr P++r.pr P)
theorem Tr.ok':∀ (t:Tr),(∀ e∈t.pr P,e.1=e.2)->yV P t.get
 | .leaf,_=>λ_ _ h=>by simp [Tr.get] at h
 | .node k v l r,h=>λt i hi=>by
  simp only [Tr.pr,Qg,Qf] at h;simp only [Tr.get] at hi;cases hb:Q2 t k with
  | true=>
   simp [hb] at hi;rw [Q0 hb,<- hi];have e:=h _ (.inl rfl);simp only [Prod.mk.injEq] at e;exact yEx e.1 e.2.1 e.2.2
  | false=>
   simp only [hb,cond_false] at hi;cases hl:Q4 t k with
   | true=>simp only [hl,cond_true] at hi;exact Tr.ok' l (λe he=>h e (.inr (.inl he))) t i hi
   | false=>simp only [hl,cond_false] at hi;exact Tr.ok' r (λe he=>h e (.inr (.inr he))) t i hi
theorem Tr.ok (t:Tr) (h:(t.pr P).map (·.1)=(t.pr P).map (·.2)):yV P t.get:=Tr.ok' t λe he=>by
 revert h he;induction t.pr P with
 | nil=>intro _ he;cases he
 | cons a l ih=>
  intro h he;simp only [List.map_cons,List.cons.injEq] at h;rcases Qg.1 he with rfl | he
  ·exact h.1
  ·exact ih h.2 he
def u8 (n:Int):UInt8:=UInt8.ofNat (n % 256).toNat
theorem zB0 (n:Int):((u8 n).toNat:Int)=n % 256:=by
 unfold u8;have h:(n % 256).toNat<256:=by omega
 rw [UInt8.toNat_ofNat_of_lt' (by omega)];omega
theorem wrap_u8 (n:Int):IntKind.u8.wrap n=((u8 n).toNat:Int):=by
 rw [zB0];rfl
section
theorem va_conv8 (A:yV P te) (G:o.op=.convert src dst x) (J:(te src).map (·.ty)=some (.int k')) (I:(te dst).map (·.ty)=some (.int .u8)) (K:s.get te src x=some (.p (.int k' a))) :
  VA P o s (opS x (.p (.int k' a))) [] (.p (.int .u8 (u8 a).toNat)):=by
 have:=va_conv A G J I K;rwa [wrap_u8] at this
theorem yFg (f:IOp) (a b:Int):f.val .u8 a b=((u8 (f.val .u8 a b)).toNat:Int):=by
 have:∀ n,IntKind.u8.wrap n=((u8 (IntKind.u8.wrap n)).toNat):=λn=>by
  rw [zB0,wrap_u8,zB0];omega
 cases f<;>exact this _
theorem yA1 (f:IOp) (E:o.op=.binOp f.op tx x y tyy) (G:s.get te tx x=some (.p (.int .u8 a))) (F:s.get te tyy y=some (.p (.int .u8 b))) :
  VA P o s (opS x (.p (.int .u8 a))++opS y (.p (.int .u8 b))) [] (.p (.int .u8 (u8 (f.val .u8 a b)).toNat)):=by
 have:=zPm (P:=P) f E G F;rwa [yFg] at this
inductive RK (P:Program) (ops:Array Oper) (l:List Oper) (s:AS) (K:AS->List Mic->Prop):Prop where
 | mk (s':AS) (ms:List Mic) (h:Run P ops l s s' ms) (k:K s' ms)
theorem RK.nil (h:K s []):RK P ops [] s K:=⟨s,[],.nil s,h⟩
theorem RK.va {w:AV} (G:o.dst=some d) (F:o.guard=none) (h:VA P o s rs bs w) (k:RK P ops r (s.put d w) λs' A=>K s' (⟨rs,bs,[],some (d,some w),[]⟩:: A)):RK P ops (o :: r) s K:=
 let ⟨s',A,E,I⟩:=k;⟨s',_,Run.vv G F h E,I⟩
theorem RK.st {m:Mic} (y:o.guard=none) (h:SA P o s m) (k:RK P ops r (m.upd s) λs' v=>K s' (m :: v)):RK P ops (o :: r) s K:=
 let ⟨s',v,D,A⟩:=k;⟨s',_,Run.ss y h D,A⟩
theorem RK.sb {fr:List Nat} {bl:ABlk} {w:AV} (G:o.guard=none) (h:SA P o s ⟨rs,bs,fr,some (d,some w),[(k,bl)]⟩) (E:RK P ops r ((s.setb k bl).put d w) λs' I=>K s' (⟨rs,bs,fr,some (d,some w),[(k,bl)]⟩:: I)):RK P ops (o :: r) s K:=
 RK.st G h (by rw [vZ];exact E)
theorem RK.so {bl:ABlk} (D:o.guard=none) (h:SA P o s ⟨rs,bs,[],none,[(k,bl)]⟩) (A:RK P ops r (s.setb k bl) λs' E=>K s' (⟨rs,bs,[],none,[(k,bl)]⟩:: E)):RK P ops (o :: r) s K:=
 RK.st D h (by rw [zCm];exact A)
theorem yF8 {a b:Operand} {bb:Bool} (E:o.op=.pick c a b) (A:bb=true) (F:s.get te t0 c=some (.p (.bool bb))) (h:s.get te o.type a=some v):VA P o s (opS c (.p (.bool true))++opS a v) [] v:=zWt E (A▸F) h
theorem yGq {a b:Operand} {bb:Bool} (E:o.op=.pick c a b) (A:bb=false) (F:s.get te t0 c=some (.p (.bool bb))) (h:s.get te o.type b=some v):VA P o s (opS c (.p (.bool false))++opS b v) [] v:=zWq E (A▸F) h
theorem cT {t:Nat} {x y:Code} {b:Bool} (E:b=true) (A:s.env t=some (.p (.bool b))) (h:awp P cx x Q s):awp P cx (.cond (.tmp t) x y) Q s:=zNf A (λ_=>h) (λe=>by simp_all)
theorem cF {t:Nat} {x y:Code} {b:Bool} (E:b=false) (A:s.env t=some (.p (.bool b))) (h:awp P cx y Q s):awp P cx (.cond (.tmp t) x y) Q s:=zNf A (λe=>by simp_all) (λ_=>h)
theorem rgn (y:cx.nt=n) (h:RK P ops ops.toList s λs' I=>fW n I=true/\Q .normal s'):awp P cx (.region id ops false) Q s:=
 let ⟨_,_,F,E,G⟩:=h;zQe F (by simp_all) G
theorem rgd (D:cx.nt=n) (G:P.follows .mixedOrders=true) (h:RK P ops ops.toList s λs' E=>fW n E=true/\(pA ops E&&zK0 ops)=true/\Q .normal s'):awp P cx (.region id ops true) Q s:=by
 obtain ⟨s',E,I,K,F,J⟩:=h;simp only [Bool.and_eq_true] at F;exact zXy I (by simp_all) G F.1 F.2 J
end
def LIM:Nat:=140737488355328
def yN (b:Nat) (l m:List α):Option (List α):=if (l.length+m.length)*b<=LIM then some (l++m) else none
theorem fF {b:Nat} {l r:List α} (h:yN b l m=some r):r=l++m/\(l.length+m.length)*b<=140737488355328:=by
 unfold yN at h;split at h
 ·rename_i y;cases h;exact ⟨rfl,y⟩
 simp_all
theorem appB {l m r:By} {b:Nat} (h:yN b l m=some r):(PV.bytes l).app (.bytes m)=some (.bytes r):=by rw [(fF h).1];rfl
theorem appM {l r:List α} {b:Nat} (h:yN b l m=some r):(PV.sl w (l.map f)).app (.sl w (m.map f))=some (.sl w (r.map f)):=by
 rw [(fF h).1];simp [PV.app]
theorem zSa {b:Nat} {l r:List α} (h:yN b l m=some r):(l.length+m.length)*b<=140737488355328:=(fF h).2
theorem bind_some {m:Option α} {k:α->Option β} {r:β} (h:m.bind k=some r):∃ x,m=some x/\k x=some r:=Option.bind_eq_some_iff.1 h
section
theorem zRw {c:Code} (d:Imp cx.pk s s') (h:awp P cx c Q s'):awp P cx c Q s:=λa w v=>h a w (d cx a w rfl v)
def LQ (cx:Ctx) (E:X->AS) (R:Y->Exit->AS->Prop):X ⊕ Y->Exit->AS->Prop
 | .inl x,e,s=>e=.normal/\Imp cx.pk s (E x)
 | .inr y,e,s=>R y e s
theorem yF9 (E:X->AS) (step:X->Option (X ⊕ Y)) (R:Y->Exit->AS->Prop) (I:∀ y s,¬ R y .normal s)
  (Z:∀ x r,step x=some r->awp P cx body (LQ cx E R r) (E x)):∀ n x y,zP step n x=some y->awp P cx (.loop body) (R y) (E x):=by
 intro n x y D a w hs;refine wp_loop_rounds n ?_;induction n generalizing x a w with
 | zero=>simp [zP] at D
 | succ n W=>
  simp only [zP] at D;cases h:step x with
  | none=>simp_all
  | some r=>
   have F:=Z x r h a w hs;cases r with
   | inl x'=>
    rw [h] at D;refine wp_mono F ?_;rintro e J w' ⟨s',K,rfl,G⟩;exact W x' D J w' (G cx J w' rfl K)
   | inr y'=>
    rw [h] at D;cases D;refine wp_mono F ?_;rintro e J w' ⟨s',K,G⟩;cases e with
    | normal=>exact (I _ _ G).elim
    | _=>exact ⟨s',K,G⟩
end
section
theorem zD6 (hd:o.dst=some d)
  (h:∀ (cx:Ctx) (M:Mem) (A:Nat->Option Nat) (tip:Nat->Value) (s:AS) (a:Act) (w:World),Inv cx M A tip s a w->wG s rs->(∀ e∈bs,s.blk e.1=some e.2) ->
   ∃ y e,(execOp a.eval o).run P w=.ok (.value (.slice (some ⟨w.heap.size,0,none⟩) n n)) (w.alloc (.cells y e))/\CR M A tip s.blk l y) :
  Snd P o ⟨rs,bs,[d],some (d,some (.ref d 0 n)),[(d,.var l)]⟩:=by
 intro cx s a w K Q E Y hw Z;obtain ⟨M,A,tip,h0,T,D⟩:=Y;obtain ⟨y,e,hx,hr⟩:=h cx M A _ s a w D E.1 E.2.1;have N:=E.2.2 d (by simp);unfold Oper.wp;rw [hx];show K _ _;rw [hd];refine Z _ _ ?_;rw [aX];exact ⟨M,gP A d _,tip,h0,zB4 D T N _,(D.newVar N hr e).put (hw d (by simp [Mic.ws])) (.ref d 0 n _ l (wT _ _ _) (zV _ _ _))⟩
theorem sa_mkr {tl:TypeId} {n:Int} (F:yV P te) (hd:o.dst=some d) (ho:o.op=.makeSlice t x y) (ht:(te t).map (·.ty)=some (.slice e)) (J:te e=some ei) (hz:ei.z.length=ei.w) (Y:s.get te tl x=some (.p (.int kl n))) (Z:s.get te tc y=some (.p (.int kc n)))
  (h0:0<=n) (hb:n.toNat*ei.b<=140737488355328) (L:0<ei.b) (hk:s.blk d=none):SA P o s ⟨opS x (.p (.int kl n))++opS y (.p (.int kc n)),[],[d],some (d,some (.ref d 0 n.toNat)),[(d,.var (sQ ei.z n.toNat))]⟩:=by
 refine ⟨zD6 hd ?_,yI (zN Y) (zN Z),by simp,by simp_all⟩;intro cx M κ tip s' a w hi hr _;have h1:=rep_int (repA_pv (yD hi (yJ Y s' (yF hr))));have h2:=rep_int (repA_pv (yD hi (yJ Z s' (zZ hr))));obtain ⟨info,z,W,i2,i3,i4,i5⟩:=(F e ei J).info;have hu:=yX F ht;have N:=zCw F J hz W i4 (M:=M) (κ:=κ) (tip:=tip) (B:=s'.blk) n.toNat;have bg:n.toNat<=n.toNat*ei.b:=Qa _ L;have K:(info.bytes:Int)*n<=281474976710656:=by
  rw [i3];have:((n.toNat*ei.b:Nat):Int)<=140737488355328:=by omega
  rw [Int.natCast_mul,Int.toNat_of_nonneg h0,Int.mul_comm] at this;omega
 have D:=run_make (P:=P) w t e info z hu W i4 kl kc n n h0 (Int.le_refl _) K (by omega);exact ⟨_,e,by rw [i2] at D;simp [execOp,ho,h1,h2,D],N⟩
theorem sa_mk0 {tl:TypeId} {n:Int} {c:PV} (V:yV P te) (hd:o.dst=some d) (ho:o.op=.makeSlice t x y) (ht:(te t).map (·.ty)=some (.slice e)) (he:te e=some ei) (hz:ei.z.length=ei.w) (bv:0<ei.w) (hx:s.get te tl x=some (.p (.int kl 0))) (hy:s.get te tc y=some (.p (.int kc n)))
  (h0:0<=n) (hb:n.toNat*ei.b<=140737488355328) (bj:0<ei.b) (T:c.nilOf=true) (bd:c.width=ei.w) (hk:s.blk d=none):SA P o s ⟨opS x (.p (.int kl 0))++opS y (.p (.int kc n)),[],[d],some (d,some (.buf d 0)),[(d,.buf c)]⟩:=by
 refine ⟨?_,yI (zN hx) (zN hy),by intro e he;simp at he,by intro k G;simp at G;subst G;exact hk⟩;intro cx s' a w K Q hm hs be G;obtain ⟨M,κ,tip,bm,hp,hi⟩:=hs;have Z:=hm.2.2 d (by simp);have h1:=rep_int (repA_pv (yD hi (yJ hx s' (yF hm.1))));have h2:=rep_int (repA_pv (yD hi (yJ hy s' (zZ hm.1))));obtain ⟨info,z,i1,i2,i3,i4,i5⟩:=(V e ei he).info;have hu:=yX V ht;have br:n.toNat<=n.toNat*ei.b:=Qa _ bj;have bi:(info.bytes:Int)*n<=281474976710656:=by
  rw [i3];have:((n.toNat*ei.b:Nat):Int)<=140737488355328:=by omega
  rw [Int.natCast_mul,Int.toNat_of_nonneg h0,Int.mul_comm] at this;omega
 have J:=run_make (P:=P) w t e info z hu i1 i4 kl kc 0 n (Int.le_refl _) h0 bi (by omega);unfold Oper.wp;have:(execOp a.eval o).run P w=.ok (.value (.slice (some ⟨w.heap.size,0,none⟩) 0 n.toNat)) (w.alloc (.cells (madeCells z.cells (n.toNat*ei.w)) e)):=by
  rw [i2] at J;simp [execOp,ho,h1,h2,J]
 rw [this];show K (a.put o.dst _) _;rw [hd];refine G _ _ ?_;rw [vZ];have E:c.isSlice=true:=by unfold Qo at T;split at T<;>first | rfl | cases T
 have v:c.len=0:=by unfold Qo at T;split at T<;>first | rfl | cases T
 have U:M.le (addM M w.heap.size 0 (0*c.width) ((madeCells z.cells (n.toNat*ei.w))[·]?)):=addM_le λo _ _=>hi.mlt (Q7 _);have L:Rep (addM M w.heap.size 0 (0*c.width) ((madeCells z.cells (n.toNat*ei.w))[·]?)) c (.slice (some ⟨w.heap.size,0,none⟩) 0 n.toNat):=by
  have:=wL (M:=M) (M':=addM M w.heap.size 0 (0*c.width) ((madeCells z.cells (n.toNat*ei.w))[·]?)) (b:=w.heap.size) (o:=0) (cap:=n.toNat) (mF E v (λ_=>undef)) E U (by rw [v];intro j hj;omega) (by omega);rwa [v] at this
 refine ⟨_,_,_,bm.trans' U,zB4 hi hp Z _,(hi.bufNew (cO w _ e) (.inl Z) E (by omega) (by omega) (by rw [size_madeCells,bd];exact Q7 _) (by simp only [maxLen];omega) L).put (be d (by simp [Mic.ws])) ?_⟩;refine .buf d 0 c _ (zV _ _ _) E (by omega) ?_ (λ_=>(xA _ _ _).symm);rw [<- v,sB E,v];exact L
theorem sa_litr (J:yV P te) (hd:o.dst=some d) (ho:o.op=.buildSlice t n ps) (F:ps.toList=pl) (ht:(te t).map (·.ty)=some (.slice e)) (N:te e=some ei) (Z:ei.z.length=ei.w) (hn:n*ei.w<=16777216)
  (U:kO s te pl vs rs) (hf:kN (λj=>some (j*ei.w,ei.w)) (sQ ei.z n) vs=some l) (hk:s.blk d=none):SA P o s ⟨rs,[],[d],some (d,some (.ref d 0 n)),[(d,.var l)]⟩:=by
 refine ⟨zD6 hd ?_,U.reads,by simp,by simp_all⟩;intro cx M κ tip s' a w hi hr _;have S:=U.rep hi hr;have I:(ps.map λ(i,x)=>(i,a.eval x)).toList=pl.map λp=>(p.1,a.eval p.2):=by simp_all
 obtain ⟨T,A,G⟩:=zSc J ht N Z hn (by rw [I];exact S) hf w;exact ⟨T,e,by simp [execOp,ho,A],G⟩
theorem va_lenR (E:yV P te) (N:o.op=.call { callee:=.builtin .len,args:=#[x],argTypes:=#[t] }) (S:(te t).map (·.ty)=some (.slice e)) (I:s.get te t x=some (.ref k off n)):VA P o s (opS x (.ref k off n)) [] (.p (.int .i64 n)):=by
 refine ⟨?_,zN I,by simp⟩;intro cx M Y tip s' a w V W Z;have J:=yD V (yJ I s' W);have U:=yX E S;generalize G:a.eval x=z at J;cases J with
 | ref _ _ _ b l h2 h3=>exact ⟨.int .i64 n,by simp [execOp,N,G,resolve,invoke,builtin,Builtin.len_,run_underlying U,goInt],.p _ _ (.int _ _)⟩
def wP (B:NB) (k:Nat):NB:=λi=>bif Q2 i k then none else B i
theorem RepA.frz {tip':Nat->Value} {B':NB} (I:∀ i,i≠k->B' i=B i) (ht:∀ i,i≠k->tip' i=tip i) {x:Value} (hr:RepA M κ tip B v x):v.oks (wP B k)=true->RepA M κ tip' B' v x:=by
 have y:∀ i,(wP B k i).isSome=true->i≠k:=by
  intro i h e;subst e;simp [wP] at h
 induction hr with
 | p v x d=>intro _;exact .p v x d
 | nl c d=>intro _;exact .nl c d
 | ptr i o b l d A=>intro h;simp only [AV.oks] at h;exact .ptr i o b l d (by rw [I i (y i h)];exact A)
 | ref i o n b l d A=>intro h;simp only [AV.oks] at h;exact .ref i o n b l d (by rw [I i (y i h)];exact A)
 | buf i n c x d F A G h4=>intro h;simp only [AV.oks] at h;exact .buf i n c x (by rw [I i (y i h)];exact d) F A G (λe=>by rw [ht i (y i h)];exact h4 e)
 | ag l L d _ K=>intro h;simp only [AV.oks] at h;exact .ag l L d (λj q E=>K j q E (vO l h j q E))
 | tu l L d _ K=>intro h;exact .tu l L d (λj q E=>K j q E (vO l h j q E))
 | fnv f l L d _ K=>intro h;simp only [AV.oks] at h;exact .fnv f l L d (λj q E=>K j q E (vO l h j q E))
 | own i n w l x d A G F=>intro h;simp only [AV.oks] at h;exact .own i n w l x (by rw [I i (y i h)];exact d) A (λe=>by rw [ht i (y i h)];exact G e) F
 | optr i n o w l x d A G F=>intro h;simp only [AV.oks] at h;exact .optr i n o w l x (by rw [I i (y i h)];exact d) A G F
 | osl i n o m w l x d A G F=>intro h;simp only [AV.oks] at h;exact .osl i n o m w l x (by rw [I i (y i h)];exact d) A G F
theorem Imp.freeze {t:Nat} {c:PV} {w0:Nat} (he:s.env t=some (.ref k 0 n)) (hb:s.blk k=some (.var l)) (cl:s.rdL l=some (cs,bs)) (hc:dA w0 c cs) (T:c.len=n) (hw:0<w0) (bw:n<=maxLen)
  (bv:∀ e∈pk,e.1≠k) (hE:∀ u v,u≠t->s.env u=some v->v.oks (wP s.blk k)=true) (hV:∀ i J,i≠k->s.blk i=some (.var J)->oL (wP s.blk k) J=true) (hW:∀ i w J,s.blk i=some (.own w J)->oL (wP s.blk k) J=true):Imp pk s ((s.setb k (.buf c)).put t (.buf k n)):=by
 intro cx a w cf hs;obtain ⟨M,κ,tip,h0,hp,G⟩:=hs;obtain ⟨b,I,e,fz,q1,q2,q3,q4,q5,q6,q7⟩:=G.vars k l hb;obtain ⟨x,ch,ca⟩:=G.env t _ he;obtain ⟨r1,r2⟩:=dU cl q5;obtain ⟨c1,c2,c3,c4⟩:=hc.cells r2;have Z:I.size=n*w0:=by rw [q4,<- r1,<- c4,T]
 cases ca with
 | ref _ _ _ b' l' g1 g2=>
 rw [q1] at g1;cases g1;have ba:cx.w0.heap.size<=b:=by
  rcases q7 with q7 | q7
  ·exact q7
  ·simp only [Ctx.pb,Qm] at q7;obtain ⟨e',bk,rfl⟩:=q7;have h1:=(hp e' bk).1;have:=G.inj _ _ _ h1 q1;exact (bv e' (cf▸bk) this).elim
 have S:M.le (addM M b 0 (n*c.width) (I[·]?)):=addM_le λo _ _=>q6 o;have Y:Rep (addM M b 0 (n*c.width) (I[·]?)) c (.slice (some ⟨b,0,none⟩) n n):=by
  have:=wL (M':=addM M b 0 (n*c.width) (I[·]?)) (b:=b) (o:=0) (cap:=n) c1 c2 S ?_ (by omega)
  ·rwa [T] at this
  intro j hj;rw [T] at hj;simp only [addM,Qi];rw [if_pos ⟨trivial,Ql _,hj⟩];rw [c3,<- Z] at hj;simp [hj]
 have hB:∀ i,i≠k->(s.setb k (.buf c)).blk i=s.blk i:=λi h=>zS h;have hT:∀ i,i≠k->lG tip k (.slice (some ⟨b,0,none⟩) n n) i=tip i:=λi h=>xF h;have D:∀ b' o,b'≠b->addM M b 0 (n*c.width) (I[·]?) b' o=M b' o:=by
  intro b' o A;unfold addM;rw [if_neg (by intro h;exact A h.1)]
 have V:∀ {v:AV} {x:Value},RepA M κ tip s.blk v x->v.oks (wP s.blk k)=true->RepA (addM M b 0 (n*c.width) (I[·]?)) κ (lG tip k (.slice (some ⟨b,0,none⟩) n n)) (s.setb k (.buf c)).blk v x:=
  λh ho=>(h.frz hB hT ho).mono S
 refine ⟨addM M b 0 (n*c.width) (I[·]?),κ,lG tip k (.slice (some ⟨b,0,none⟩) n n),h0.trans' S,hp,{
  defers:=G.defers
  size:=G.size
  fr:=G.fr
  mem:=λb' o y h=>by
   unfold addM at h;split at h
   ·rename_i bx;obtain ⟨rfl,_,hlt⟩:=bx;simp only [Qn,q2];simpa using h
   ·exact G.mem b' o y h
  env:=λu v h=>by
   simp only [AS.put] at h;cases bg:Q2 u t with
   | true=>
    have:=Q0 bg;subst this;simp at h;subst h;refine ⟨_,ch,.buf k n c _ (zV _ _ _) c2 (by omega) ?_ (λ_=>(xA _ _ _).symm)⟩;rw [<- T,sB c2,T];exact Y
   | false=>
    simp [bg] at h;have A:u≠t:=by rintro rfl;simp at bg
    obtain ⟨y,h1,h2⟩:=G.env u v h;exact ⟨y,h1,V h2 (hE u v A h)⟩
  vars:=λi J h=>by
   have A:i≠k:=by rintro rfl;have E:(s.setb i (.buf c)).blk i=some (.var J):=h;rw [zV] at E;cases E
   have E:(s.setb k (.buf c)).blk i=some (.var J):=h;rw [hB i A] at E;obtain ⟨W,U,e2,bc,z1,z2,z3,z4,z5,z6,z7⟩:=G.vars i J E;have bf:W≠b:=λe=>A (G.inj i k b (e▸z1) q1);exact ⟨W,U,e2,bc,z1,z2,z3,z4,λj q hq=>V (z5 j q hq) (vO J (hV i J A E) j q hq),λo=>by rw [D W o bf];exact z6 o,z7⟩
  bufs:=λi ci h=>by
   have E:(s.setb k (.buf c)).blk i=some (.buf ci):=h;by_cases A:i=k
   ·subst A;rw [zV] at E;cases E;rw [xA];refine ⟨Y,c2,by omega,.inr ⟨b,n,n,I,e,fz,rfl,q1,ba,q2,q3,by rw [c3,Z];exact Q7 _,bw,λj hj=>?_⟩⟩;unfold addM;rw [if_neg (by omega)];exact q6 j
   ·rw [hB i A] at E;obtain ⟨z1,z2,z3,z4⟩:=G.bufs i ci E;rw [hT i A];refine ⟨z1.mono S,z2,z3,?_⟩;rcases z4 with z4 | ⟨W,n2,bm,U,e2,bc,y1,y2,y3,y4,y5,y6,y7,y8⟩
    ·exact .inl z4
    ·have bf:W≠b:=λe=>A (G.inj i k b (e▸y2) q1);exact .inr ⟨W,n2,bm,U,e2,bc,y1,y2,y3,y4,y5,y6,y7,λj hj=>by rw [D W j bf];exact y8 j hj⟩
  inj:=G.inj
  dom:=λi h=>by
   have E:(s.setb k (.buf c)).blk i=none:=h;by_cases A:i=k
   ·subst A;rw [zV] at E;cases E
   ·rw [hB i A] at E;exact G.dom i E
  glob:=G.glob.mono S
  old:=⟨λb' o cm=>by rw [D b' o (by omega)];exact G.old.1 b' o cm,G.old.2⟩
  owns:=G.owns.keep λi wd J h=>by
   have E:(s.setb k (.buf c)).blk i=some (.own wd J):=h;have A:i≠k:=by rintro rfl;rw [zV] at E;cases E
   rw [hB i A] at E;exact ⟨E,rfl,hT i A,λW z=>⟨rfl,λo hm=>by rw [D W o (λe=>A (G.inj i k b (e▸z) q1))];exact hm⟩,λj q x hq hr=>V hr (vO J (hW i wd J E) j q hq)⟩}⟩
end
section
theorem yBi {w:World} (l:By):∃ w' arr cap,(Conv.stringToBytes e ⟨l.toArray⟩).run P w=.ok (.slice (some ⟨w.heap.size,0,none⟩) l.length cap) w'/\zJl w w' arr e (arr.size,arr.size+1)/\l.length<=cap/\arr.size=cap/\(l.length<=maxLen->cap<=maxLen) /\
  ∀ (j:Nat) (u:UInt8),l[j]? = some u->arr[j]? = some (.int .u8 u.toNat):=by
 have hsz:(ByteArray.mk l.toArray).size=l.length:=zFg l;have hge:=grownCap_ge w l.length 0 e;generalize hA:(l.toArray.map λb=>Qd .u8 b.toNat)++Array.replicate (grownCap w l.length 0 e - l.length) (Qd .u8 0)=A;have hAs:A.size=grownCap w l.length 0 e:=by rw [<- hA];simp;omega
 have hnew:(w.drew.alloc (.cells A e)).heap[w.heap.size]? = some (.cells A e):=by have:=heap_alloc_new w.drew (.cells A e);simpa using this
 refine ⟨(w.drew.alloc (.cells A e)).freeze ⟨w.heap.size,A.size,none⟩ 1,A,grownCap w l.length 0 e,?_,?_,hge,hAs,λh=>grownCap_le_maxLen w l.length 0 e h,?_⟩
 ·simp only [Conv.stringToBytes,hsz];have hmk:∀ W:World,W.heap[w.heap.size]? = some (.cells A e)->(markStringish ⟨w.heap.size,0,none⟩).run P W=.ok () (W.freeze ⟨w.heap.size,A.size,none⟩ 1):=by
   intro W hW;simp [markStringish,shape,Sem.run,World.shape?,hW,freeze]
  have hm:=hmk _ hnew;have hch:(choose (.appendCap l.length 0 e)).run P w=.ok (grownCap w l.length 0 e) w.drew:=by simp [choose,Sem.run,Question.forced,grownCap]
  simp only [Sem.run_bind,hch,Qh,newRow,newObj];have hA':(Array.map (λb=>Qd IntKind.u8 b.toNat) (ByteArray.mk l.toArray).data++Array.replicate (grownCap w l.length 0 e - l.length) (Qd .u8 0))=A:=hA;rw [hA'];have hrun:(Sem.new (.cells A e) Sem.pure:Sem Nat).run P w.drew=.ok w.heap.size (w.drew.alloc (.cells A e)):=rfl;simp only [hrun,Qh,Sem.run_pure,hm]
 ·exact {
   os:=by simp [Q3];rfl
   tape:=by simp [Q3]
   output:=by simp [Q3];rfl
   size:=by simp [Q3]
   old:=λi h=>by
    simp only [Q3,Array.getElem?_modify];simp only [Qk,if_false,Array.getElem?_modify];rw [if_neg (by omega),hao w.drew _ i h];rfl
   new:=by
    unfold Q3;simp only [Qk,if_false,Array.getElem?_modify,if_true];rw [hnew];simp
   free:=.inr (Q7 _) }
 ·intro j u hu;rw [<- hA];have:j<l.length:=(List.getElem?_eq_some_iff.1 hu).1;rw [Array.getElem?_append_left (by simpa using this)];simp [hu]
theorem sa_stb {l:By} (hok:yV P te) (hd:o.dst=some d) (ho:o.op=.convert src dst x) (hs:(te src).map (·.ty)=some .str) (ht:(te dst).map (·.ty)=some (.slice e)) (he:(te e).map (·.ty)=some (.int .u8)) (hx:s.get te src x=some (.p (.str l))) (hl:l.length<=140737488355328) (hk:s.blk d=none) :
  SA P o s ⟨opS x (.p (.str l)),[],[d],some (d,some (.buf d l.length)),[(d,.buf (.bytes l))]⟩:=by
 refine ⟨?_,zN hx,by intro e he;simp at he,by intro k hk';simp at hk';subst hk';exact hk⟩;intro cx s' a w K Q hm hs' hws hk';obtain ⟨M,κ,tip,h0,hp,hi⟩:=hs';have hbk:=hm.2.2 d (by simp);have h1:=gU (repA_pv (yD hi (yJ hx s' hm.1)));obtain ⟨w',arr,cap,r1,r2,r3,r4,r5,r6⟩:=yBi (P:=P) (w:=w) (e:=e) l;unfold Oper.wp;have:(execOp a.eval o).run P w=.ok (.value (.slice (some ⟨w.heap.size,0,none⟩) l.length cap)) w':=by
  simp [execOp,ho,h1,convert,run_underlying (zCl hok hs),run_underlying (yX hok ht),run_underlying (zFw hok he),r1]
 rw [this];show K (a.put o.dst _) _;rw [hd];refine hk' _ _ ?_;rw [vZ];have hle:M.le (addM M w.heap.size 0 (l.length*(PV.bytes l).width) (arr[·]?)):=addM_le λo _ _=>hi.mlt (Q7 _);have hrep:Rep (addM M w.heap.size 0 (l.length*(PV.bytes l).width) (arr[·]?)) (.bytes l) (.slice (some ⟨w.heap.size,0,none⟩) l.length cap):=by
  refine .bytes l _ _ _ _ rfl r3 ?_;intro i u hu;have:i<l.length:=(List.getElem?_eq_some_iff.1 hu).1;simp only [addM,Qi];rw [if_pos ⟨trivial,Ql _,by simp only [Qp,Nat.mul_one];exact this⟩];exact r6 i u hu
 refine ⟨_,_,_,h0.trans' hle,zB4 hi hp hbk _,(hi.bufNew r2 (.inl hbk) rfl (by simp [Qp]) (by simp only [Qp];omega) (by simp only [Qp];omega) (r5 (by simp only [maxLen];omega)) hrep).put (hws d (by simp [Mic.ws])) ?_⟩;refine .buf d _ (.bytes l) _ (zV _ _ _) rfl (Q7 _) ?_ (λ_=>(xA _ _ _).symm);have:(PV.bytes l).take l.length=.bytes l:=by simp [PV.take]
 rw [this];exact hrep
end
theorem zOo (w:World) (b n:Nat):∃ f:Obj->Obj,(∀ c e v,∃ D,f (.cells c e v)=.cells c e D/\(n=c.size->zD3 v c.size->zD3 D c.size))/\∀ i,(w.freeze ⟨b,n,none⟩ 1).heap[i]? = if b=i then (w.heap[i]?).map f else w.heap[i]?:=by
 refine ⟨λo=>match o with | .cells c A v=>.cells c A (if v.1==v.2 then (n,n+1) else (min v.1 n,max v.2 (n+1))) | o=>o,?_,?_⟩
 ·intro c e v;refine ⟨_,rfl,λL N=>?_⟩;unfold zD3 at *;subst L;split
  ·simp
  simp_all
 ·intro i;unfold Q3;simp only [Qk,if_false,Array.getElem?_modify];split
  ·cases w.heap[i]? with
   | none=>rfl
   | some o=>cases o<;>rfl
  ·rfl
section
theorem Inv.frzMark {a:Act} {w:World} (D:Inv cx M κ tip s a w) {b:Nat} {arr:Array Value} {fz:Nat×Nat} (hk:κ k=some b) (bq:cx.w0.heap.size<=b) (d:w.heap[b]? = some (.cells arr e fz)) :
  Inv cx M κ tip s a (w.freeze ⟨b,arr.size,none⟩ 1):=by
 obtain ⟨f,hf,N⟩:=zOo w b arr.size;have bu:(w.freeze ⟨b,arr.size,none⟩ 1).heap.size=w.heap.size:=by unfold Q3;simp
 have U:∀ i o x,w.cell? ⟨i,o,none⟩=some x->(w.freeze ⟨b,arr.size,none⟩ 1).cell? ⟨i,o,none⟩=some x:=by
  intro i o x h;simp only [Qn,N i] at h ⊢;by_cases bc:b=i
  ·subst bc;rw [d] at h;obtain ⟨F,K,_⟩:=hf arr e fz;simp only [if_true,d,Q8,K];exact h
  ·rw [if_neg bc];exact h
 exact {
  defers:=D.defers
  size:=D.size
  fr:=⟨by have:=D.fr.os;unfold Q3;simpa using this,by have:=D.fr.tape;unfold Q3;simpa using this,by have:=D.fr.output;unfold Q3;simpa using this,by rw [bu];exact D.fr.size,λi K V h3=>by
   rw [N i,if_neg (by omega)];exact D.fr.block i K V h3⟩
  mem:=λi o x h=>U i o x (D.mem i o x h)
  env:=D.env
  vars:=λi l h=>by
   obtain ⟨G,y,e2,J,k1,k2,k3,W,k5⟩:=D.vars i l h;by_cases S:b=G
   ·subst S;rw [d] at k2;cases k2;obtain ⟨F,K,V⟩:=hf arr e fz;exact ⟨b,arr,e,F,k1,by rw [N b,if_pos rfl,d,Q8,K],V rfl k3,W,k5⟩
   ·exact ⟨G,y,e2,J,k1,by rw [N G,if_neg S];exact k2,k3,W,k5⟩
  bufs:=λi c h=>by
   obtain ⟨k1,k2,k3,W⟩:=D.bufs i c h;refine ⟨k1,k2,k3,?_⟩;rcases W with W | ⟨G,Y,A,y,e2,J,q1,Z,q3,T,q5,q6⟩
   ·exact .inl W
   ·by_cases S:b=G
    ·subst S;rw [d] at T;cases T;obtain ⟨F,K,V⟩:=hf arr e fz;exact .inr ⟨b,Y,A,arr,e,F,q1,Z,q3,by rw [N b,if_pos rfl,d,Q8,K],V rfl q5,q6⟩
    ·exact .inr ⟨G,Y,A,y,e2,J,q1,Z,q3,by rw [N G,if_neg S];exact T,q5,q6⟩
  inj:=D.inj
  dom:=D.dom
  glob:=D.glob
  old:=D.old
  owns:=λi wd l h=>by
   rcases D.owns i wd l h with g0 | ⟨g1,g2⟩
   ·exact .inl g0
   refine .inr ⟨g1,?_⟩;rcases g2 with g2 | ⟨G,Y,A,y,e2,J,q1,Z,q3,T,q5,q6⟩
   ·exact .inl g2
   ·by_cases S:b=G
    ·subst S;rw [d] at T;cases T;obtain ⟨F,K,V⟩:=hf arr e fz;exact .inr ⟨b,Y,A,arr,e,F,q1,Z,q3,by rw [N b,if_pos rfl,d,Q8,K],V rfl q5,q6⟩
    ·exact .inr ⟨G,Y,A,y,e2,J,q1,Z,q3,by rw [N G,if_neg S];exact T,q5,q6⟩}
theorem sa_bb {l:By} (G:yV P te) (hd:o.dst=some d) (ho:o.op=.convert t t x) (ht:(te t).map (·.ty)=some (.slice e)) (S:(te e).map (·.ty)=some (.int .u8)) (hx:s.get te t x=some (.buf k l.length)) (hk:s.blk k=some (.buf (.bytes l))) (hl:l≠[]) :
  SA P o s ⟨opS x (.buf k l.length),[(k,.buf (.bytes l))],[],some (d,some (.buf k l.length)),[]⟩:=by
 refine ⟨?_,zN hx,by intro e S;simp at S;subst S;exact hk,by intro k E;simp at E⟩;intro cx s' a w K Q hm hs' hws E;obtain ⟨M,κ,tip,h0,hp,hi⟩:=hs';have I:s'.blk k=some (.buf (.bytes l)):=hm.2.1 (k,.buf (.bytes l)) (by simp);have L:=yD hi (yJ hx s' hm.1);obtain ⟨b1,b2,b3,b4⟩:=hi.bufs k _ I;have y:a.eval x=tip k:=by
  have F:=L;generalize a.eval x=zx at F;cases F with
  | buf _ _ c' _ g1 g2 g3 g4 g5=>rw [I] at g1;cases g1;exact g5 rfl
 rcases b4 with ⟨J,_⟩ | ⟨b,n,cap,arr,e1,fz,N,hκ,D,A,hfree,hcap,hml,hM⟩
 ·rw [J] at b1;cases b1;exact (hl rfl).elim
 ·unfold Oper.wp;have:(execOp a.eval o).run P w=.ok (.value (tip k)) (w.freeze ⟨b,arr.size,none⟩ 1):=by
   rw [N] at y ⊢;simp [execOp,ho,y,convert,run_underlying (yX G ht),run_underlying (zFw G S),markStringish,shape,Sem.run,World.shape?,A,freeze]
  rw [this];show K (a.put o.dst _) _;rw [hd];refine E _ _ ⟨M,κ,tip,h0,hp,?_⟩;have hr:=L;rw [y] at hr;exact (hi.frzMark hκ D A).put (hws d (by simp [Mic.ws])) hr
theorem sa_copy {m:By} (hok:yV P te) (hd:o.dst=some d) (ho:o.op=.call { callee:=.builtin .copy,args:=#[x,y],argTypes:=#[t,t'] }) (ht:(te t).map (·.ty)=some (.slice e)) (he:te e=some ei) (hw:ei.w=1)
  (hx:s.get te t x=some (.ref k off n)) (hk:s.blk k=some (.var l)) (hl:off+n<=l.length) (hy:s.get te t' y=some vy) (hp:s.rd vy=some (.bytes m,bs)) :
  SA P o s ⟨opS x (.ref k off n)++opS y vy,(k,.var l) :: bs,[],some (d,some (.p (.int .i64 (min m.length n:Nat)))),[(k,.var (sW l off ((m.take n).map λu=>.p (.int .u8 u.toNat))))]⟩:=by
 refine ⟨?_,yI (zN hx) (zN hy),λe he=>(Qg.1 he).elim (λh=>by subst h;exact hk) (vU vy _ bs hp e),by intro k T;simp at T⟩;intro cx s' a w K Q hm hs' hws T;obtain ⟨M,κ,tip,h0,hpk,hi⟩:=hs';have hbk:s'.blk k=some (.var l):=hm.2.1 (k,.var l) (by simp);have hx':=yD hi (yJ hx s' (yF hm.1));have hy':=kM hi hy hp (zZ hm.1) (λe he=>hm.2.1 e (by simp [he]));obtain ⟨b,arr,e1,fz,q1,q2,q3,q4,q5,q6,q7⟩:=hi.vars k l hbk;obtain ⟨info,z,i1,i2,i3,i4,i5⟩:=(hok e ei he).info;have hu:=yX hok ht;have I:(P.info? e).map (·.size)=some 1:=by rw [i1,Q8,i2,hw]
 generalize U:a.eval x=zx at hx';cases hx' with
 | ref _ _ _ b' l' g1 g2=>
 rw [q1] at g1;cases g1;have F:∀ (w':World) (vs:List Value),(execOp a.eval o).run P w=.ok (.value (.int .i64 (min m.length n:Nat))) w'->w'=w.setCells b off vs->vs=(m.take n).map (λu=>.int .u8 u.toNat)->o.wp P a w K Q:=by
  intro w' vs h1 h2 h3;subst h2;unfold Oper.wp;rw [h1];show K (a.put o.dst _) _;rw [hd];refine T _ _ ?_;rw [vZ];refine ⟨M,κ,tip,h0,hpk,(hi.setVar hbk q1 (by simp;omega) (by simp [h3]) ?_).put (hws d (by simp [Mic.ws])) (.p _ _ (.int _ _))⟩;intro j q hq;rw [List.getElem?_map] at hq;obtain ⟨u,V,h5⟩:=Q6.1 hq;subst h5;rw [h3,List.getElem?_map,V];exact .p _ _ (.int _ _)
 generalize G:a.eval y=zy at hy';cases hy' with
 | bytes0=>
  refine F w [] ?_ rfl (by simp);have:=run_copy_none (P:=P) w t t' o.type e (some ⟨b,off,none⟩) none n n 0 0 hu I (by simp [Nat.min_def]);simp [execOp,ho,U,G,resolve,invoke,builtin,this,goInt]
 | bytesE aa=>
  refine F w [] ?_ rfl (by simp);have:=run_copy_none (P:=P) w t t' o.type e (some ⟨b,off,none⟩) (some aa) n n 0 0 hu I (by simp [Nat.min_def]);simp [execOp,ho,U,G,resolve,invoke,builtin,this,goInt]
 | bytes _ b2 o2 n2 c2 e1' e2' e3'=>
  have hcs:((m.take n).map λu=>Qd .u8 u.toNat).length=Nat.min n2 n:=by simp [e1',Nat.min_comm]
  have S:=run_copy_cells (P:=P) w t t' o.type e b off n n ⟨b2,o2,none⟩ n2 c2 ((m.take n).map λu=>Qd .u8 u.toNat) hu I hcs
   (by
    intro j u L;rw [List.getElem?_map] at L;obtain ⟨u',V,h5⟩:=Q6.1 L;rw [List.getElem?_take] at V;split at V
    ·rw [add_off,<- h5];exact hi.mem _ _ _ (e3' j u' V)
    ·cases V)
   (by
     intro j hj;simp at hj;have:off+j<arr.size:=by omega
     simp [Qn,q2,this])
   (by intro j hj;simp at hj;exact rI q2 q3 (by omega))
   (by intro u L;obtain ⟨u',_,rfl⟩:=Qm.1 L;rfl)
  refine F _ _ ?_ rfl rfl;have hmin:((m.take n).map λu=>Qd .u8 u.toNat).length=min m.length n:=by simp [Nat.min_comm]
  rw [hmin] at S;simp [execOp,ho,U,G,resolve,invoke,builtin,S,goInt]
end
def ck (b:Bool):Option Unit:=bif b then some () else none
theorem yS {b:Bool} {u:Unit} (h:ck b=some u):b=true:=by cases b<;>simp [ck] at h ⊢
def idx (l:List α) (i:Int):Option α:=if 0<=i then l[i.toNat]? else none
def sub (l:List α) (lo hi:Int):Option (List α):=if 0<=lo/\lo<=hi/\hi<=l.length then some ((l.drop lo.toNat).take (hi.toNat - lo.toNat)) else none
def upd (l:List α) (i:Int) (v:α):Option (List α):=if 0<=i/\i<l.length then some (l.set i.toNat v) else none
theorem fX {l:List α} {i:Int} {x:α} (h:idx l i=some x):0<=i/\l[i.toNat]? = some x:=by
 unfold idx at h;split at h
 ·simp_all
 simp_all
theorem zUl {l:By} {i:Int} {x:UInt8} (h:idx l i=some x):(PV.bytes l).idx i=some (.int .u8 x.toNat):=by
 obtain ⟨v,A⟩:=fX h;simp [PV.idx,v,A]
theorem idxM {l:List α} {i:Int} {x:α} (h:idx l i=some x):(PV.sl w (l.map f)).idx i=some (f x):=by
 obtain ⟨y,A⟩:=fX h;simp [PV.idx,y,A]
theorem zOe {l r:List α} {lo hi:Int} (h:sub l lo hi=some r):0<=lo/\lo<=hi/\hi<=l.length/\r=(l.drop lo.toNat).take (hi.toNat - lo.toNat):=by
 unfold sub at h;split at h
 ·simp_all
 simp_all
theorem tN (n:Int):0<=IntKind.u64.wrap n:=by
 exact Int.emod_nonneg _ (by decide)
section
theorem mv (y:yV P te) (D:o.op=.move x) (h:s.get te o.type x=some v):VA P o s (opS x v) [] v:=zSd (.inl D) h
theorem asg (D:yV P te) (E:o.op=.assign x) (h:s.get te o.type x=some v):VA P o s (opS x v) [] v:=zSd (.inr E) h
theorem iop (D:yV P te) (f:IOp) {k:IntKind} (G:o.op=.binOp f.op tx x y tyy) (F:s.get te tx x=some (.p (.int k a))) (E:s.get te tyy y=some (.p (.int k b))):VA P o s (opS x (.p (.int k a))++opS y (.p (.int k b))) [] (.p (.int k (f.val k a b))):=zPm f G F E
theorem zQo (E:yV P te) (f:IOp) (I:o.op=.binOp f.op tx x y tyy) (G:s.get te tx x=some (.p (.int .u8 a))) (F:s.get te tyy y=some (.p (.int .u8 b))):VA P o s (opS x (.p (.int .u8 a))++opS y (.p (.int .u8 b))) [] (.p (.int .u8 (u8 (f.val .u8 a b)).toNat)):=yA1 f I G F
theorem cmp (D:yV P te) (f:COp) {k:IntKind} (G:o.op=.binOp f.op tx x y tyy) (F:s.get te tx x=some (.p (.int k a))) (E:s.get te tyy y=some (.p (.int k b))):VA P o s (opS x (.p (.int k a))++opS y (.p (.int k b))) [] (.p (.bool (f.val a b))):=yEo f G F E
theorem scm (D:yV P te) (f:COp) {a b:By} (G:o.op=.binOp f.op tx x y tyy) (F:s.get te tx x=some (.p (.str a))) (E:s.get te tyy y=some (.p (.str b))):VA P o s (opS x (.p (.str a))++opS y (.p (.str b))) [] (.p (.bool (SOp f a b))):=yB1 f G F E
theorem pkT (E:yV P te) {a b:Operand} {bb:Bool} (A:bb=true) (G:o.op=.pick c a b) (F:s.get te 0 c=some (.p (.bool bb))) (h:s.get te o.type a=some v):VA P o s (opS c (.p (.bool true))++opS a v) [] v:=yF8 G A F h
theorem pkF (E:yV P te) {a b:Operand} {bb:Bool} (A:bb=false) (G:o.op=.pick c a b) (F:s.get te 0 c=some (.p (.bool bb))) (h:s.get te o.type b=some v):VA P o s (opS c (.p (.bool false))++opS b v) [] v:=yGq G A F h
theorem lnS (D:yV P te) (U:o.op=.call { callee:=.builtin .len,args:=#[x],argTypes:=#[t] }) (F:(te t).map (·.ty)=some (.slice e)) (V:s.get te t x=some v) (W:s.rd v=some (p,bs)) (J:p.isSlice=true):VA P o s (opS x v) bs (.p (.int .i64 p.len)):=
 zY5 D U (.inl ⟨e,F⟩) V W (by cases p<;>simp [PV.isSlice] at J<;>rfl) (λ_=>J) (λh=>by simp_all)
theorem lnT (D:yV P te) {l:By} (G:o.op=.call { callee:=.builtin .len,args:=#[x],argTypes:=#[t] }) (F:(te t).map (·.ty)=some .str) (I:s.get te t x=some (.p (.str l))):VA P o s (opS x (.p (.str l))) [] (.p (.int .i64 l.length)):=
 zY5 D G (.inr F) I rfl rfl (λ⟨e,h⟩ =>by simp_all) (λ_=>rfl)
theorem lnM (D:yV P te) {l:List α} (I:o.op=.call { callee:=.builtin .len,args:=#[x],argTypes:=#[t] }) (T:(te t).map (·.ty)=some (.slice e)) (J:s.get te t x=some v) (S:s.rd v=some (.sl w (l.map f),bs)):VA P o s (opS x v) bs (.p (.int .i64 l.length)):=by
 have:=lnS D I T J S rfl;simpa [Q9] using this
theorem slB (T:yV P te) {l r:By} (h:sub l a b=some r) (ho:o.op=.slice t x lo hi mx)
  (ht:(te t).map (·.ty)=some (.slice e)) (he:te e=some ei) (hx:s.get te t x=some v) (hp:s.rd v=some (.bytes l,bs)) (hw:1=ei.w)
  (L:Bd s te lo lo' rl) (K:Bd s te hi hi' rh) (N:Bd s te mx mx' rm) (d:mx'=none∨(mx'=hi'/\hi'.isSome=true)) (ea:lo'.getD 0=a) (F:hi'.getD l.length=b) :
  VA P o s (opS x v++(rl++(rh++rm))) bs (.p (.bytes r)):=by
 obtain ⟨h0,h1,h2,h3⟩:=zOe h;subst ea;have S:hi'.getD ((PV.bytes l).len:Int)=b:=F;have:=zNt T ho ht he hx hp rfl hw L K N (by rcases d with d | ⟨d,J⟩<;>simp [d]) h0 (by omega)
  (by
    rw [S];rcases d with d | ⟨d,J⟩
    ·rw [d];exact h2
    simp_all)
  (by
    rcases d with d | ⟨d,J⟩
    ·rw [d];simp
    ·rw [d];obtain ⟨i,hi⟩:=Option.isSome_iff_exists.1 J;rw [hi] at F ⊢;simp at F ⊢;rw [F];exact h2)
 rw [S] at this;rw [h3];exact this
theorem slM (U:yV P te) {l r:List α} (h:sub l a b=some r) (ho:o.op=.slice t x lo hi mx)
  (ht:(te t).map (·.ty)=some (.slice e)) (he:te e=some ei) (hx:s.get te t x=some v) (hp:s.rd v=some (.sl w (l.map f),bs)) (hw:w=ei.w)
  (N:Bd s te lo lo' rl) (L:Bd s te hi hi' rh) (S:Bd s te mx mx' rm) (d:mx'=none∨(mx'=hi'/\hi'.isSome=true)) (ea:lo'.getD 0=a) (I:hi'.getD l.length=b) :
  VA P o s (opS x v++(rl++(rh++rm))) bs (.p (.sl w (r.map f))):=by
 obtain ⟨h0,h1,h2,h3⟩:=zOe h;subst ea;have T:hi'.getD ((PV.sl w (l.map f)).len:Int)=b:=by simp only [Q9,Qj];exact I
 have D:((PV.sl w (l.map f)).len:Int)=l.length:=by simp [Q9]
 have:=zNt (P:=P) U ho ht he hx hp rfl hw N L S (by rcases d with d | ⟨d,K⟩<;>simp [d]) h0 (by rw [T];exact h1)
  (by
    rw [T];rcases d with d | ⟨d,K⟩
    ·simp_all
    simp_all)
  (by
    rcases d with d | ⟨d,K⟩
    ·rw [d];simp
    simp_all)
 rw [T] at this;rw [h3];simpa [PV.sub,List.map_drop] using this
end
theorem zM7 {q:AV} (N:o.dst=some d) (I:∀ (cx:Ctx) (s:AS) (a:Act) (w:World),SRel cx s a w->s.env dj=some q->Qc o (yielded ops a.tmps)=false) :
  zSk P ops o ⟨[(dj,q)],[],[],some (d,some (.p (.tup []))),[]⟩:=by
 intro cx s a w K Q U E S L;have:=I cx s a w E (U.1 (dj,q) (by simp));rw [if_neg (by simp_all),N];obtain ⟨M,T,tip,J,F,G⟩:=E;exact L _ _ ⟨M,T,tip,J,F,G.put (S d (by simp [Mic.ws])) (.p _ _ (.tup [] _ rfl (by simp)))⟩
section
theorem RK.sk {b b2:Bool} (E:b2=b) (v:(o.dst,o.guard,(ops[j]?).bind (·.dst),s.env dj,b')=(some d,some (j,b'),some dj,some (.p (.bool b2)),!b))
  (k:RK P ops r (s.put d (.p (.tup []))) λs' I=>K s' (⟨[(dj,.p (.bool b))],[],[],some (d,some (.p (.tup []))),[]⟩:: I)):RK P ops (o :: r) s K:=have ⟨N,v⟩:=pq v;have ⟨hg,v⟩:=pq v;have ⟨T,v⟩:=pq v;have ⟨Y,U⟩:=pq v;by
 obtain ⟨s',I,W,h2⟩:=k;subst E U;refine ⟨s',_,.cons o r _ s s' I (zM7 N λcx s a w Z A=>?_) ⟨by simp_all,by simp,by simp⟩ W,h2⟩;have V:=zKd Z T A;cases b2<;>simp [Qc,hg,V]
theorem RK.su (v:(o.dst,o.guard,(ops[j]?).bind (·.dst),s.env dj)=(some d,some (j,b'),some dj,some (.p (.tup []))))
  (k:RK P ops r (s.put d (.p (.tup []))) λs' I=>K s' (⟨[(dj,.p (.tup []))],[],[],some (d,some (.p (.tup []))),[]⟩:: I)):RK P ops (o :: r) s K:=have ⟨V,v⟩:=pq v;have ⟨Z,v⟩:=pq v;have ⟨U,hb⟩:=pq v;by
 obtain ⟨s',I,W,h2⟩:=k;refine ⟨s',_,.cons o r _ s s' I (zM7 V λcx s a w hs F=>?_) ⟨by simp_all,by simp,by simp⟩ W,h2⟩;obtain ⟨M,κ,tip,h0,hp,Y⟩:=hs;obtain ⟨y,T,G⟩:=Y.env dj _ F;have:yielded ops a.tmps j=none:=by
  cases G with
  | p _ _ G=>cases G;simp [yielded,U,T]
 simp [Qc,Z,this]
end
section
structure OQ {J:Type} (cx:Ctx) (f:J->Exit×AS) (j:J) (e:Exit) (s:AS):Prop where
 fst:e=(f j).1
 snd:Imp cx.pk s (f j).2
theorem kA {J:Type} {c:Code} (f:J->Exit×AS) (j:J) (h:awp P cx c (OQ cx f j) s) (k:Q (f j).1 (f j).2):awp P cx c Q s:=λa w D=>
 wp_mono (h a w D) λe y w' ⟨s',v,d,A⟩ =>⟨(f j).2,A cx y w' rfl v,d▸k⟩
def LF (E:X->AS) (f:Y->Exit×AS):X ⊕ Y->Exit×AS
 | .inl x=>(.normal,E x)
 | .inr y=>f y
theorem zIw {step:X->Option (X ⊕ Y)} {x0:X} {y:Y} (E:X->AS) (f:Y->Exit×AS) (L:zP step n x0=some y) (S:Imp cx.pk s (E x0)) (F:∀ y,(f y).1≠.normal)
  (J:∀ x r,step x=some r->awp P cx body (OQ cx (LF E f) r) (E x)) (k:Q (f y).1 (f y).2):awp P cx (.loop body) Q s:=by
 refine zRw S (kA f y ?_ k);refine yF9 E _ _ (λy s h=>F y h.1.symm) (λx r N=>?_) n x0 y L;refine zB2 (J x r N) (λe s h=>?_);cases r with
 | inl V=>exact ⟨h.1,h.2⟩
 | inr U=>exact ⟨h.1,h.2⟩
theorem zLd {f:FuncId} {fn:Func} {as rs:AS} (E:AS) (T:P.funcs[f]? = some fn) (W:fn.body=some body) (I:(fn.name == "runtime.NumGoroutine")=false) (D:na<=fn.ntmps) (F:∀ k,k<BIG->(as.blk k).isSome=true->k∈ks)
  (Y:∀ cx:Ctx,PK cx ks->vY P fn cx E rs) (h:∀ cx:Ctx,cx.nt=fn.ntmps->PK cx ks->awp P cx body (OQ cx (λ_:Unit=>(.ret,E)) ()) as):Ok P f na as rs:=
 zLh T W I D F λcx S K=>kA _ _ (h cx S K) ⟨.inl rfl,Y cx K⟩
end
theorem cond_some {c:Bool} {a b:Option β} {r:β} (h:(bif c then a else b)=some r):(c=true/\a=some r)∨(c=false/\b=some r):=by cases c<;>simp_all
def lt (e:α) (f:α->Option β):Option β:=f e
theorem zWd {c:PV} (h:c.isSlice=true):c.take c.len=c:=by
 cases c<;>simp_all [PV.take,Q9]
theorem rdT {c:PV} (h:s.blk k=some (.buf c)) (A:c.isSlice=true):s.rd (.buf k c.len)=some (c,[(k,.buf c)]):=by
 simp [AS.rd,h,zWd A]
theorem rdB {l:By} (h:s.blk k=some (.buf (.bytes l))):s.rd (.buf k l.length)=some (.bytes l,[(k,.buf (.bytes l))]):=rdT h rfl
theorem rdM {l:List α} (h:s.blk k=some (.buf (.sl w (l.map f)))):s.rd (.buf k l.length)=some (.sl w (l.map f),[(k,.buf (.sl w (l.map f)))]):=by
 have:=rdT h rfl;simpa [Q9] using this
theorem vN:s.rdL []=some ([],[]):=rfl
theorem zM {ps:List PV} {bs':LB} (h:s.rd v=some (p,bs)) (A:s.rdL l=some (ps,bs')):s.rdL (v :: l)=some (p :: ps,bs++bs'):=by simp [AS.rdL,h,A]
theorem nI {ps:List PV} (h:s.rdL l=some (ps,bs)):s.rd (.ag l)=some (.agg ps,bs):=by simp [AS.rd,h]
theorem yW {a b:Nat} (h:Q5 a b=true):a<=b:=by simp_all
def TI.known (i:TI):Bool:=match i.ty with | .other=>false | _=>true
theorem zOh (h:i.known=true):i.ty≠.other:=by intro e;simp [TI.known,e] at h
section
theorem iopE (D:yV P te) (f:IOp) {k:IntKind} {c:Int} (I:f.val k a b=c) (G:o.op=.binOp f.op tx x y tyy) (F:s.get te tx x=some (.p (.int k a))) (E:s.get te tyy y=some (.p (.int k b))):VA P o s (opS x (.p (.int k a))++opS y (.p (.int k b))) [] (.p (.int k c)):=I▸zPm f G F E
theorem quo (E:yV P te) {k:IntKind} (K:(b==0)=false) (J:o.op=.binOp .quo tx x y tyy) (I:s.get te tx x=some (.p (.int k a))) (G:s.get te tyy y=some (.p (.int k b))):VA P o s (opS x (.p (.int k a))++opS y (.p (.int k b))) [] (.p (.int k (k.wrap (a.tdiv b)))):=yEh J I G (by simp_all)
theorem rem (E:yV P te) {k:IntKind} (J:(b==0)=false) (I:o.op=.binOp .rem tx x y tyy) (G:s.get te tx x=some (.p (.int k a))) (F:s.get te tyy y=some (.p (.int k b))):VA P o s (opS x (.p (.int k a))++opS y (.p (.int k b))) [] (.p (.int k (a.tmod b))):=yFh I G F (by simp_all)
theorem shl (E:yV P te) {k:IntKind} (J:0<=b) (I:o.op=.binOp .shl tx x y tyy) (G:s.get te tx x=some (.p (.int k a))) (F:s.get te tyy y=some (.p (.int k' b))):VA P o s (opS x (.p (.int k a))++opS y (.p (.int k' b))) [] (.p (.int k (iR k a b))):=yDv I G F J
theorem shr (E:yV P te) {k:IntKind} (K:0<=b) (F:o.op=.binOp .shr tx x y tyy) (I:s.get te tx x=some (.p (.int k a))) (G:s.get te tyy y=some (.p (.int k' b))):VA P o s (opS x (.p (.int k a))++opS y (.p (.int k' b))) [] (.p (.int k (xT k a b))):=zYm F I G K
theorem shrE (E:yV P te) {k:IntKind} {c:Int} (K:xT k a b=c) (J:0<=b) (I:o.op=.binOp .shr tx x y tyy) (G:s.get te tx x=some (.p (.int k a))) (F:s.get te tyy y=some (.p (.int k' b))):VA P o s (opS x (.p (.int k a))++opS y (.p (.int k' b))) [] (.p (.int k c)):=K▸zYm I G F J
theorem not' (y:yV P te) {a:Bool} (E:o.op=.unOp .not tx x) (A:s.get te tx x=some (.p (.bool a))):VA P o s (opS x (.p (.bool a))) [] (.p (.bool (!a))):=yDy E A
theorem com (F:yV P te) {k:IntKind} (E:o.op=.unOp .xor tx x) (D:s.get te tx x=some (.p (.int k a))):VA P o s (opS x (.p (.int k a))) [] (.p (.int k (zKv k a))):=yEm E D
theorem minI (F:yV P te) {k:IntKind} (I:o.op=.call { callee:=.builtin .min,args:=#[x,y],argTypes:=#[t,t'] }) (G:s.get te t x=some (.p (.int k a))) (K:s.get te t' y=some (.p (.int k b))):VA P o s (opS x (.p (.int k a))++opS y (.p (.int k b))) [] (.p (.int k (if b<a then b else a))):=yEd I G K
theorem ixB (E:yV P te) {l:By} {u:UInt8} {i:Int} (h:idx l i=some u) (U:o.op=.indexAddr t x y) (T:(te t).map (·.ty)=some (.slice e)) (S:te e=some ei) (L:s.get te t x=some v) (W:s.rd v=some (.bytes l,bs)) (K:1=ei.w) (V:s.get te 0 y=some (.p (.int .i64 i))) :
  VA P o s (opS x v++opS y (.p (.int .i64 i))) bs (.p (.cptr (.int .u8 u.toNat))):=zYc E U T S L W K V (zUl h)
theorem ixM (E:yV P te) {l:List α} {i:Int} (h:idx l i=some u) (L:o.op=.indexAddr t x y) (S:(te t).map (·.ty)=some (.slice e)) (W:te e=some ei) (T:s.get te t x=some v) (Y:s.rd v=some (.sl w (l.map f),bs)) (V:w=ei.w) (U:s.get te 0 y=some (.p (.int .i64 i))) :
  VA P o s (opS x v++opS y (.p (.int .i64 i))) bs (.p (.cptr (f u))):=zYc E L S W T Y V U (idxM h)
theorem ixS (D:yV P te) {l:By} {i:Int} {u:UInt8} (h:idx l i=some u) (L:o.op=.index t x y) (G:(te t).map (·.ty)=some .str) (J:s.get te t x=some (.p (.str l))) (I:s.get te 0 y=some (.p (.int .i64 i))) :
  VA P o s (opS x (.p (.str l))++opS y (.p (.int .i64 i))) [] (.p (.int .u8 u.toNat)):=zUi D L G J I (fX h).1 (fX h).2
theorem ixV (K:yV P te) {l:List α} {i:Int} (h:idx l i=some u) (U:o.op=.index t x y) (ht:(te t).map (·.ty)=some (.arr n e)) (he:te e=some ei) (G:ei.known=true) (V:s.get te t x=some v) (hp:s.rd v=some (.agg (l.map f),bs)) (hy:s.get te 0 y=some (.p (.int .i64 i))) (hn:Q5 l.length n=true) (J:ei.isAgg=false) (W:ei.w=1) (hf:∀ a,(f a).cells=[f a]) :
  VA P o s (opS x v++opS y (.p (.int .i64 i))) bs (.p (f u)):=by
 obtain ⟨Y,T⟩:=fX h;have bi:=(List.getElem?_eq_some_iff.1 T).1;have be:=yW hn;refine zN1 K U ht he (zOh G) V hp hy Y (by omega) ?_;rw [J,W];simp only [iO,Nat.mul_one,List.getElem?_map,T,Q8];have:=hf u;cases Z:f u<;>first | rfl | skip
 rw [Z] at this;simp only [PV.cells] at this;have h2:=congrArg SizeOf.sizeOf this;simp at h2;omega
end
def nzw (i:TI):Bool:=!Nat.beq i.w 0
theorem zZx (h:nzw i=true):i.w≠0:=by intro e;simp [nzw,e] at h
section
theorem fa (A:yV P te) {f:Nat} (I:o.op=.fieldAddr t x f) (J:(te t).map (·.ty)=some (.struct fs)) (N:fs[f]? = some (ft,fo)) (L:te ft=some fi) (S:nzw fi=true)
  (T:s.get te 0 x=some (.ptr k off)):VA P o s (opS x (.ptr k off)) [] (.ptr k (off+fo)):=yEl A I J N L (zZx S) T
theorem fc (E:yV P te) {l:List PV} {f:Nat} (T:o.op=.fieldAddr t x f) (J:(te t).map (·.ty)=some (.struct fs)) (N:fs[f]? = some (ft,fo)) (L:te ft=some fi) (S:nzw fi=true)
  (V:s.get te 0 x=some (.p (.cptr (.agg l)))) (U:iO fi.isAgg l fo fi.w=some q):VA P o s (opS x (.p (.cptr (.agg l)))) [] (.p (.cptr q)):=yAu E T J N L (zZx S) V U
theorem ncp (y:yV P te) (E:o.op=.nilCheck x) (D:s.get te 0 x=some (.ptr k n)):VA P o s (opS x (.ptr k n)) [] (.ptr k n):=yCy E D (.inl ⟨k,n,rfl⟩)
theorem iaK (A:yV P te) {i:Nat} (S:o.op=.indexAddr t x y) (K:(te t).map (·.ty)=some (.arr n e)) (N:te e=some ei) (J:s.get te t x=some (.ptr k off)) (U:s.get te 0 y=some (.p (.int .i64 i))) (I:Q4 i n=true) :
  VA P o s (opS x (.ptr k off)++opS y (.p (.int .i64 i))) [] (.ptr k (off+i*ei.w)):=zSb A S K N J U (Int.natCast_nonneg i) (by simp_all)
theorem ld (h:yV P te) (F:o.op=.load t x) (I:te t=some i) (K:i.plain=true) (G:s.get te 0 x=some (.ptr k off)) (J:s.blk k=some (.var l)) (E:l[off]? = some v):VA P o s (opS x (.ptr k off)) [(k,.var l)] v:=yBp h F I K G J E
theorem ldN (v:yV P te) (J:o.op=.load t x) (G:te t=some i) (K:i.isAgg=true) (F:s.get te 0 x=some (.ptr k off)) (I:s.blk k=some (.var l)) (E:Q5 (off+i.w) l.length=true):VA P o s (opS x (.ptr k off)) [(k,.var l)] (.ag ((l.drop off).take i.w)):=zYa v J G K F I (yW E)
theorem ldC (v:yV P te) (D:o.op=.load t x) (G:te t=some i) (F:i.plain=true) (E:s.get te 0 x=some (.p (.cptr q))) (A:q.cells=[q]):VA P o s (opS x (.p (.cptr q))) [] (.p q):=zZu v D G F E A
theorem ldCN (A:yV P te) {l:List PV} (G:o.op=.load t x) (D:te t=some i) (I:i.isAgg=true) (E:s.get te 0 x=some (.p (.cptr (.agg l)))) (F:Q2 l.length i.w=true):VA P o s (opS x (.p (.cptr (.agg l)))) [] (.p (.agg l)):=zUx A G D I E (Q0 F)
theorem sto (E:yV P te) (S:o.dst=none) (J:o.op=.store t ax x) (L:te t=some i) (T:s.get te 0 ax=some (.ptr k off)) (K:s.get te t x=some v) (U:s.blk k=some (.var l))
  (I:Q2 v.cells.length i.w=true) (N:Q5 (off+i.w) l.length=true) (D:v.cells.all AV.one=true):SA P o s ⟨opS ax (.ptr k off)++opS x v,[(k,.var l)],[],none,[(k,.var (sW l off v.cells))]⟩:=sa_store E S J L T K U (Q0 I) (yW N) D
theorem al (y:yV P te) (G:o.dst=some d) (J:o.op=.alloc t) (I:te t=some i) (E:s.blk d=none):SA P o s ⟨[],[],[d],some (d,some (.ptr d 0)),[(d,.var (i.z.map zA))]⟩:=zXh y G J I E
theorem bx (A:yV P te) (F:o.dst=some d) (K:o.op=.box t x) (I:s.get te t x=some v) (G:s.blk d=none):SA P o s ⟨opS x v,[],[d],some (d,some (.ptr d 0)),[(d,.var v.cells)]⟩:=yE1 F K I G
theorem pn:kO s te [] [] []:=.nil
theorem pc (t:TypeId) {i:Nat} {ps:List (Nat×Operand)} (h:s.get te t x=some v) (k:kO s te ps vs rs):kO s te ((i,x) :: ps) ((i,v) :: vs) (opS x v++rs):=.cons _ _ t _ _ _ _ h k
theorem bld (y:yV P te) (L:o.op=.build t ps) (E:ps.toList=pl) (S:te t=some i) (A:i.ty=.struct fs) (D:fs.all (λf=>(te f.1).isSome)=true)
  (T:kO s te pl vs rs) (N:kN (zJb te fs) (i.z.map zA) vs=some l):VA P o s rs [] (.ag l):=zXw y L E S A D T N
theorem bldA (h:yV P te) (K:o.op=.build t ps) (y:ps.toList=pl) (I:te t=some i) (A:i.ty=.arr n e) (N:te e=some ei)
  (S:kO s te pl vs rs) (J:kN (λj=>some (j*ei.w,ei.w)) (i.z.map zA) vs=some l):VA P o s rs [] (.ag l):=zT3 h K y I A N S J
theorem yDt (l:List α) (v:∀ a,(f a).cells.length=w):dA w (.sl w (l.map f)) (flatCells (l.map f)):=.sl _ λp A=>by
 obtain ⟨a,_,rfl⟩:=Qm.1 A;simp_all
theorem qn:nW s te t n [] [] [] []:=.nil n
theorem qc {ps:List (Nat×Operand)} {bb:LB} (h:s.get te t x=some v) (E:s.rd v=some (p,bs)) (k:nW s te t (n+1) ps vs rs bb):nW s te t n ((n,x) :: ps) ((n,.p p) :: vs) (opS x v++rs) (bs++bb):=.cons n x v p bs ps vs rs bb h E k
theorem litB (G:yV P te) (l:By) {bb:LB} (W:o.dst=some d) (ho:o.op=.buildSlice t n ps) (J:ps.toList=pl) (ht:(te t).map (·.ty)=some (.slice e)) (he:te e=some ei) (Y:ei.z.length=ei.w) (A:1=ei.w) (Z:Q5 n 16777216=true)
  (U:nW s te e 0 pl vs rs bb) (hf:kN (λj=>some (j*ei.w,ei.w)) (sQ ei.z n) vs=some ((l.map λx=>PV.int .u8 x.toNat).map .p)) (I:l.length=n) (V:s.blk d=none) :
  SA P o s ⟨rs,bb,[d],some (d,some (.buf d l.length)),[(d,.buf (.bytes l))]⟩:=
 zZw G W ho J ht he Y (by omega) (by rw [<- A];have:=yW Z;omega) U hf (.bytes l A.symm) I V
theorem lit (I:yV P te) (f:α->PV) (l:List α) {bb:LB} (hd:o.dst=some d) (ho:o.op=.buildSlice t n ps) (E:ps.toList=pl) (ht:(te t).map (·.ty)=some (.slice e)) (he:te e=some ei) (Y:ei.z.length=ei.w) (hw:ei.w=w) (L:Q4 0 w=true) (hn:Q5 (n*w) 16777216=true)
  (hp:nW s te e 0 pl vs rs bb) (hl:∀ a,(f a).cells.length=w) (hf:kN (λj=>some (j*ei.w,ei.w)) (sQ ei.z n) vs=some ((flatCells (l.map f)).map .p)) (K:l.length=n) (Z:s.blk d=none) :
  SA P o s ⟨rs,bb,[d],some (d,some (.buf d l.length)),[(d,.buf (.sl w (l.map f)))]⟩:=by
 subst hw;have:=zZw I hd ho E ht he Y (by simp_all) (yW hn) hp hf (yDt l hl) (by simpa [Q9] using K) Z;simpa [Q9] using this
theorem oneM {l:List α} (A:∀ a,(f a).cells.all PV.one=true):bK (.sl w (l.map f))=true:=by
 simp only [bK,List.all_map,Q1];exact λa _=>by simpa using A a
theorem apNB (E:yV P te) {m r:By} {b:Nat} (h:yN b [] m=some r) (hd:o.dst=some d) (ho:o.op=.call { callee:=.builtin .append,args:=#[x,y],argTypes:=#[t,t'] })
  (ht:(te t).map (·.ty)=some (.slice e)) (he:te e=some ei) (T:(te t').map (·.ty)=some (.slice e')) (hx:s.get te t x=some (.nl (.bytes []))) (L:1=ei.w) (hz:ei.z.length=ei.w) (hy:s.get te t' y=some vy) (hp:s.rd vy=some (.bytes m,bs)) (hb:ei.b=b) (N:Q4 0 b=true) (hk:s.blk d=none) :
  SA P o s ⟨opS x (.nl (.bytes []))++opS y vy,bs,[d],some (d,some (.buf d r.length)),[(d,.buf (.bytes r))]⟩:=by
 subst hb;exact zUh E hd ho ht he (yX E T) (.inr ⟨_,rfl⟩) hx L (by omega) hz hy hp (appB h) (zSa h) (by simp_all) hk
theorem apB (G:yV P te) {l m r:By} {b:Nat} (h:yN b l m=some r) (hd:o.dst=some d) (ho:o.op=.call { callee:=.builtin .append,args:=#[x,y],argTypes:=#[t,t'] })
  (ht:(te t).map (·.ty)=some (.slice e)) (he:te e=some ei) (K:(te t').map (·.ty)=some (.slice e')) (hx:s.get te t x=some (.buf k l.length)) (hk:s.blk k=some (.buf (.bytes l))) (L:1=ei.w) (hz:ei.z.length=ei.w) (hy:s.get te t' y=some vy) (Z:s.rd vy=some (.bytes m,bs)) (hb:ei.b=b) (T:Q4 0 b=true) :
  SA P o s ⟨opS x (.buf k l.length)++opS y vy,(k,.buf (.bytes l)) :: bs,[],some (d,some (.buf k r.length)),[(k,.buf (.bytes r))]⟩:=by
 subst hb;exact zZl G hd ho ht he (yX G K) (.inr ⟨_,rfl⟩) hx hk L (by omega) hz hy Z (appB h) rfl (zSa h) (by simp_all)
theorem apM (J:yV P te) (f:α->PV) {l r:List α} {b:Nat} (h:yN b l m=some r) (hd:o.dst=some d) (ho:o.op=.call { callee:=.builtin .append,args:=#[x,y],argTypes:=#[t,t'] })
  (ht:(te t).map (·.ty)=some (.slice e)) (he:te e=some ei) (V:(te t').map (·.ty)=some (.slice e')) (hx:s.get te t x=some (.buf k l.length)) (hk:s.blk k=some (.buf (.sl w (l.map f)))) (T:w=ei.w) (Y:Q4 0 w=true) (hz:ei.z.length=ei.w) (hy:s.get te t' y=some vy) (hp:s.rd vy=some (.sl w (m.map f),bs)) (I:∀ a,(f a).cells.all PV.one=true) (hb:ei.b=b) (W:Q4 0 b=true) :
  SA P o s ⟨opS x (.buf k l.length)++opS y vy,(k,.buf (.sl w (l.map f))) :: bs,[],some (d,some (.buf k r.length)),[(k,.buf (.sl w (r.map f)))]⟩:=by
 subst hb;have hl:(PV.sl w (l.map f)).len=l.length:=by simp [Q9]
 have:=zZl J hd ho ht he (yX J V) (.inr ⟨_,rfl⟩) (by simp_all) hk T (by simp_all) hz hy hp (appM h) (oneM I) (by have:=zSa h;simpa [Q9,PV.src] using this) (by simp_all);simpa [Q9] using this
theorem an:mD s te [] [] [] [] []:=.nil
theorem ac {bb:LB} {xs:List Operand} {ts:List TypeId} {ps:List PV} (h:s.get te t x=some v) (E:s.rd v=some (p,bs)) (k:mD s te xs ts ps rs bb):mD s te (x :: xs) (t :: ts) (p :: ps) (opS x v++rs) (bs++bb):=.cons _ _ _ _ _ _ _ _ _ _ h E k
end
section
theorem cl (Z:yV P te) {f:FuncId} {ps:List PV} {bb:LB} (h:Ok P f na (mkS (argE 0 ps) []) (mkS [(0,av)] blks)) (W:o.dst=some d) (V:o.op=.call { callee:=.value (.func f),args:=xs,argTypes:=ts })
  (G:xs.toList=xl) (F:ts.toList=tl) (ha:mD s te xl tl ps rs bb) (hn:Q2 na ps.length=true) (hf:(blks.map λe=>sh d e.1).all (λk=>(s.blk k).isNone)=true) :
  SA P o s ⟨rs,bb,blks.map λe=>sh d e.1,some (d,some (av.ren (sh d))),blks.map λe=>(sh d e.1,e.2.ren (sh d))⟩:=
 yBh W V h G F ha (Q0 hn) (λk Y=>by simpa using (Q1.1 hf) k Y)
theorem clp (bm:yV P te) {f:FuncId} {ps:List PV} {bb:LB} (h:Ok P f na (mkS ((0,.ptr 0 0) :: argE 1 ps) [(0,.var (cs.map .p))]) (mkS [(0,av)] ((0,.var l') :: blks))) (hd:o.dst=some d)
  (ho:o.op=.call { callee:=.value (.func f),args:=xs,argTypes:=ts }) (L:xs.toList=xa :: xl) (S:ts.toList=ta :: tl) (U:s.get te ta xa=some (.ptr k 0)) (V:s.blk k=some (.var l)) (T:s.rdL l=some (cs,bs0))
  (ha:mD s te xl tl ps rs bb) (hn:Q2 na (ps.length+1)=true) (hf:(blks.map λe=>sh d e.1).all (λk=>(s.blk k).isNone)=true) (J:blks.all (λe=>!Nat.beq e.1 0)=true) :
  SA P o s ⟨opS xa (.ptr k 0)++rs,(k,.var l) :: (bs0++bb),blks.map λe=>sh d e.1,some (d,some (av.ren (shp d k))),((0,.var l') :: blks).map λe=>(shp d k e.1,e.2.ren (shp d k))⟩:=
 zWp hd ho h L S U V T ha (Q0 hn) (λk hk=>by simpa using (Q1.1 hf) k hk) (λe he h0=>by have:=(Q1.1 J) e he;simp_all)
end
theorem zSp (hb:s.blk k=some (.var l)):GLe κ κ tip tip s.blk (s.setb k (.var l')).blk where
 var:=λi b li h h'=>by
  by_cases e:i=k
  ·subst e;exact ⟨h,l',zV _ _ _⟩
  ·exact ⟨h,li,by rw [zS e];exact h'⟩
 buf:=λi c h=>by
  have e:i≠k:=by rintro rfl;rw [hb] at h;cases h
  exact GLe.same (by rw [zS e];exact h) rfl
 own:=λi c l1 h=>by
  have e:i≠k:=by rintro rfl;rw [hb] at h;cases h
  exact GLe.sameO (by rw [zS e];exact h) rfl rfl
theorem Inv.reVar {a:Act} {w:World} (hi:Inv cx M κ tip s a w) (hb:s.blk k=some (.var l)) (hlen:l'.length=l.length)
  (h:∀ (j:Nat) (q:AV) (x:Value),l'[j]? = some q->(∀ q0,l[j]? = some q0->RepA M κ tip s.blk q0 x)->RepA M κ tip s.blk q x):Inv cx M κ tip (s.setb k (.var l')) a w:=by
 have gle:=zSp (κ:=κ) (tip:=tip) (l':=l') hb;exact {
  defers:=hi.defers
  size:=hi.size
  fr:=hi.fr
  mem:=hi.mem
  env:=λt v e=>let ⟨x,h1,h2⟩:=hi.env t v e;⟨x,h1,h2.ghost gle⟩
  vars:=λi li hli=>by
   by_cases e:i=k
   ·subst e;rw [zV] at hli;cases hli;obtain ⟨b,arr,e1,fz,q1,q2,q3,q4,q5,q6⟩:=hi.vars i l hb;exact ⟨b,arr,e1,fz,q1,q2,q3,by omega,λj q hq=>(h j q _ hq (λq0 hq0=>q5 j q0 hq0)).ghost gle,q6⟩
   ·rw [zS e] at hli;obtain ⟨b,arr,e1,fz,q1,q2,q3,q4,q5,q6⟩:=hi.vars i li hli;exact ⟨b,arr,e1,fz,q1,q2,q3,q4,λj q hq=>(q5 j q hq).ghost gle,q6⟩
  bufs:=λi c h=>by
   have e:i≠k:=by rintro rfl;rw [zV] at h;cases h
   rw [zS e] at h;exact hi.bufs i c h
  inj:=hi.inj
  dom:=λi h=>by
   have e:i≠k:=by rintro rfl;rw [zV] at h;cases h
   rw [zS e] at h;exact hi.dom i h
  glob:=hi.glob
  old:=hi.old
  owns:=hi.owns.keep λi wd li h=>by
   have e:i≠k:=by rintro rfl;rw [zV] at h;cases h
   rw [zS e] at h;exact ⟨h,rfl,rfl,λb2 z=>⟨rfl,λo hm=>hm⟩,λj q x hq hr=>hr.ghost gle⟩}
theorem Imp.pureC (j:Nat) {q:AV} (hb:s.blk k=some (.var l)) (hq:l[j]? = some q) (hr:s.rd q=some (p,bs)):Imp pk s (s.setb k (.var (l.set j (.p p)))):=by
 intro cx a w _ hs;obtain ⟨M,κ,tip,h0,hp,hi⟩:=hs;refine ⟨M,κ,tip,h0,hp,hi.reVar hb (by simp) λi q' x hq' hx=>?_⟩;rw [List.getElem?_set] at hq';split at hq'
 ·rename_i e;subst e;split at hq'
  ·cases hq';exact .p _ _ (zGd (hx q hq) hr)
  ·cases hq'
 ·exact hx q' hq'
theorem Imp.promC (j k2:Nat) {c:PV} (hb:s.blk k=some (.var l)) (hq:l[j]? = some (.nl c)) (hk2:s.blk k2=none) (hw:Q4 0 c.width=true):Imp pk s ((s.setb k2 (.buf c)).setb k (.var (l.set j (.buf k2 0)))):=by
 intro cx a w _ hs;obtain ⟨M,κ,tip,h0,hp,hi⟩:=hs;have hne:k≠k2:=by rintro rfl;rw [hb] at hk2;cases hk2
 have hj:j<l.length:=(List.getElem?_eq_some_iff.1 hq).1;have hn:c.nilOf=true:=by
  obtain ⟨b,arr,e1,fz,q1,q2,q3,q4,q5,q6⟩:=hi.vars k l hb;have h:=q5 j _ hq;generalize arr.getD j undef=y at h;cases h with
  | nl _ hn=>exact hn
 have hi2:=hi.bufNil hk2 hn (by have:=Qe hw;omega);refine ⟨M,κ,_,h0,hp,hi2.reVar (l:=l) (by rw [zS hne];exact hb) (by simp) λi q' x hq' hx=>?_⟩;rw [List.getElem?_set] at hq';split at hq'
 ·rename_i e;subst e;cases hq';have h2:=hx _ hq;cases h2 with
  | nl _ _=>
  refine .buf k2 0 c _ (zV _ _ _) ?_ (Ql _) ?_ (λ_=>(xA _ _ _).symm)
  ·unfold Qo at hn;split at hn<;>first | rfl | cases hn
  ·unfold Qo at hn;split at hn
   ·exact .bytes0
   ·exact .sl0 _
   ·cases hn
 ·exact hx q' hq'
structure A2 (α:Type) where (a0 a1:α) deriving DecidableEq,Inhabited
structure A5 (α:Type) where (a0 a1 a2 a3 a4:α) deriving DecidableEq,Inhabited
structure A8 (α:Type) where (a0 a1 a2 a3 a4 a5 a6 a7:α) deriving DecidableEq,Inhabited
def eU8 (x:UInt8):PV:=.int .u8 x.toNat
def eSl (w:Nat) (f:α->PV) (l:List α):PV:=.sl w (l.map f)
def FU:Nat:=2 ^ 70
def SE (f:X->Exit×AS) (g:Y->Exit×AS):X ⊕ Y->Exit×AS
 | .inl x=>f x
 | .inr y=>g y
def rho (m:List (Nat×Nat)) (j:Nat):Nat:=(lk m j).getD j
theorem Imp.renK (D:PK cx ks) (m:List (Nat×Nat)) {env:LV} (G:((blks.map (·.1)).all λj=>(Q4 j BIG||Q5 BIG (rho m j))&&(blks.map (·.1)).all λv=>!Nat.beq (rho m j) (rho m v)||Q2 j v)=true) (S:(ks.all λk=>Q2 (rho m k) k&&(blks.map (·.1)).any (Q2 k))=true) :
  Imp cx.pk (mkS env blks) (mkS (env.map λe=>(e.1,e.2.ren (rho m))) (blks.map λe=>(rho m e.1,e.2.ren (rho m)))):=by
 refine Imp.ren (rho m) (λj A v y h=>?_) (λe K=>?_) (λj A U=>?_)
 ·have:=(Q1.1 (((Bool.and_eq_true _ _).mp ((Q1.1 G) j A)).2)) v y;simp_all
 ·have:=(Q1.1 S) e.1 (D e K);simp_all
 ·have:=((Bool.and_eq_true _ _).mp ((Q1.1 G) j A)).1;rcases (Bool.or_eq_true _ _).mp this with h | h
  ·have:=Qe (show Q5 (j+1) BIG=true from h);omega
  ·exact Qe h
theorem aL {as:AS} (h:as.blk=lk []):∀ k,k<BIG->(as.blk k).isSome=true->k∈([]:List Nat):=λk _ v=>by
 rw [h] at v;simp [lk] at v
theorem zMn {as:AS} {b:ABlk} (h:as.blk=lk [(0,b)]):∀ k,k<BIG->(as.blk k).isSome=true->k∈[0]:=λk _ A=>by
 rw [h] at A;simp only [lk] at A;cases D:Q2 k 0 with
 | true=>simp_all
 | false=>simp_all
theorem Imp.refl:Imp pk s s:=λ_ _ _ _ h=>h
def kR (ρ:Nat->Nat):LB->List Nat
 | []=>[]
 | (k,_) :: r=>ρ k :: kR ρ r
def bR (ρ:Nat->Nat):LB->LB
 | []=>[]
 | (k,b) :: r=>(ρ k,b.ren ρ) :: bR ρ r
theorem kQ (d:Nat->Nat):∀ (l:LB),kR d l=l.map λe=>d e.1
 | []=>rfl
 | (_,_) :: r=>by simp [kR,kQ d r]
theorem zBn (d:Nat->Nat):∀ (l:LB),bR d l=l.map λe=>(d e.1,e.2.ren d)
 | []=>rfl
 | (_,_) :: r=>by simp [bR,zBn d r]
def ixN (n:Nat) (i:Int):Option Nat:=if 0<=i/\i<n then some i.toNat else none
def uA (l:List α) (j:Nat) (u:α):Option (List α):=if j<l.length then some (l.set j u) else none
theorem zJz {i:Int} (h:ixN n i=some j):0<=i/\i<n/\j=i.toNat:=by
 unfold ixN at h;split at h
 ·simp_all
 simp_all
theorem zCu {l l':List α} (h:uA l j u=some l'):j<l.length/\l'=l.set j u:=by
 unfold uA at h;split at h
 ·simp_all
 simp_all
theorem zG7 (h:off<l.length):sW l off [v]=l.set off v:=by
 rw [iF (by assumption)];rw [List.set_eq_take_append_cons_drop,if_pos h];simp
section
theorem ia (G:yV P te) {i:Int} (h:ixN n i=some j) (Y:o.op=.indexAddr t x y) (N:(te t).map (·.ty)=some (.arr n e)) (U:te e=some ei) (J:ei.w=1) (K:s.get te t x=some (.ptr k off)) (L:s.get te ity y=some (.p (.int .i64 i))) :
  VA P o s (opS x (.ptr k off)++opS y (.p (.int .i64 i))) [] (.ptr k (off+j)):=by
 obtain ⟨S,V,rfl⟩:=zJz h;have:=zSb G Y N U K L S V;simp_all
theorem ir (A:yV P te) {i:Int} (h:ixN n i=some j) (L:o.op=.indexAddr t x y) (Y:(te t).map (·.ty)=some (.slice e)) (W:te e=some ei) (K:ei.w=1) (N:s.get te t x=some (.ref k off n)) (S:s.get te ity y=some (.p (.int .i64 i))) :
  VA P o s (opS x (.ref k off n)++opS y (.p (.int .i64 i))) [] (.ptr k (off+j)):=by
 obtain ⟨U,Z,rfl⟩:=zJz h;have:=yB2 A L Y W N S U Z;simp_all
theorem zKs (h:p.cells=[p]):∀ l,p≠.agg l:=by
 intro l e;subst e;simp only [PV.cells] at h;have v:=congrArg SizeOf.sizeOf h;simp at v;omega
theorem ixC (K:yV P te) {l:List α} {i:Int} (h:idx l i=some u) (ho:o.op=.indexAddr t x y) (ht:(te t).map (·.ty)=some (.arr n e)) (he:te e=some ei) (W:s.get te t x=some (.p (.cptr (.agg (l.map f))))) (hn:Q5 l.length n=true) (I:ei.isAgg=false) (hw:ei.w=1) (hf:∀ a,(f a).cells=[f a]) (V:s.get te ity y=some (.p (.int .i64 i))) :
  VA P o s (opS x (.p (.cptr (.agg (l.map f))))++opS y (.p (.int .i64 i))) [] (.p (.cptr (f u))):=by
 obtain ⟨h0,U⟩:=fX h;have Z:=(List.getElem?_eq_some_iff.1 U).1;have bi:=yW hn;refine yCi K ho ht he W V h0 (by omega) ?_;simp only [iO];have:=zKs (hf u);simp_all
theorem ldW (v:yV P te) (F:o.op=.load t x) (E:te t=some i) (K:i.isAgg=true) (G:s.get te 0 x=some (.ptr k 0)) (J:s.blk k=some (.var l)) (I:Q2 i.w l.length=true):VA P o s (opS x (.ptr k 0)) [(k,.var l)] (.ag l):=by
 have D:=Q0 I;have:=ldN v F E K G J (by simp [D]);simp_all
end
class nZ (P:Program) where
 te:TE
 ok:yV P te
section
variable {pos:String} {af:Array Edge} 
abbrev VK (P:Program) (ops:Array Oper) (r:List Oper) (s:AS) (K:AS->List Mic->Prop) (d:Nat) (rs:LV) (bs:LB) (w:AV):Prop:=RK P ops r (s.put d w) λs' ms=>K s' (⟨rs,bs,[],some (d,some w),[]⟩:: ms)
abbrev BK (P:Program) (ops:Array Oper) (r:List Oper) (s:AS) (K:AS->List Mic->Prop) (d:Nat) (rs:LV) (bs:LB) (fr:List Nat) (k:Nat) (bl:ABlk) (w:AV):Prop:=RK P ops r ((s.setb k bl).put d w) λs' ms=>K s' (⟨rs,bs,fr,some (d,some w),[(k,bl)]⟩:: ms)
def GK (K:AS->List Mic->Prop) (dj:Nat) (b:Bool) (s:AS):List Mic->Prop
 | m :: ms=>K s ({ m with slots:=(dj,.p (.bool b)) :: m.slots } :: ms)
 | []=>False
theorem RK.g {dst:Option Nat} {op:Op} {b:Bool} (L:b'=b) (N:((ops[j]?).bind (·.dst),s.env dj)=(some dj,some (.p (.bool b')))) (k:RK P ops (⟨dst,op,ty,pos,af,none⟩:: r) s (GK K dj b)):RK P ops (⟨dst,op,ty,pos,af,some (j,b)⟩:: r) s K:=have ⟨hj,hb⟩:=pq N;by
 obtain ⟨s',ms,h1,h2⟩:=k;cases h1 with
 | cons _ _ _ _ _ _ D I hr=>
  refine ⟨s',_,.cons _ _ _ _ _ _ ?_ ?_ ?_,h2⟩
  ·intro cx s a w K Q F T hw hk;have hy:=zKd T hj (F.1 (dj,.p (.bool b)) (by simp));have S:Qc ⟨dst,op,ty,pos,af,some (j,b)⟩ (yielded ops a.tmps)=true:=by simp [Qc,hy]
   rw [if_pos S];have:=D cx s a w K Q ⟨λe D=>F.1 e (List.mem_cons_of_mem _ D),F.2.1,F.2.2⟩ T hw hk;assumption
  ·exact ⟨λe D=>(Qg.1 D).elim (λh=>by simp_all) (I.1 e),I.2.1,I.2.2⟩
  assumption
variable [T:nZ P]
theorem RK.mv (h:s.get T.te ty x=some v) (k:VK P ops r s K d (opS x v) ([]) (v)):RK P ops (⟨some d,.move x,ty,pos,af,none⟩:: r) s K:=RK.va rfl rfl (Go.Sw.mv T.ok rfl h) k
theorem RK.as (h:s.get T.te ty x=some v) (k:VK P ops r s K d (opS x v) ([]) (v)):RK P ops (⟨some d,.assign x,ty,pos,af,none⟩:: r) s K:=RK.va rfl rfl (Go.Sw.asg T.ok rfl h) k
theorem RK.pT {a b:Operand} {bb:Bool} (G:bb=true) (D:(s.get T.te 0 c,s.get T.te ty a)=(some (.p (.bool bb)),some v)) (k:VK P ops r s K d (opS c (.p (.bool true))++opS a v) ([]) (v)):RK P ops (⟨some d,.pick c a b,ty,pos,af,none⟩:: r) s K:=have ⟨I,h⟩:=pq D;RK.va rfl rfl (Go.Sw.pkT T.ok G rfl I h) k
theorem RK.pF {a b:Operand} {bb:Bool} (G:bb=false) (D:(s.get T.te 0 c,s.get T.te ty b)=(some (.p (.bool bb)),some v)) (k:VK P ops r s K d (opS c (.p (.bool false))++opS b v) ([]) (v)):RK P ops (⟨some d,.pick c a b,ty,pos,af,none⟩:: r) s K:=have ⟨J,h⟩:=pq D;RK.va rfl rfl (Go.Sw.pkF T.ok G rfl J h) k
theorem RK.ad (F:(s.get T.te tx x,s.get T.te tyy y)=(some (.p (.int kk a)),some (.p (.int kk b)))) (k:VK P ops r s K d (opS x (.p (.int kk a))++opS y (.p (.int kk b))) ([]) (.p (.int kk (kk.wrap (a+b))))):RK P ops (⟨some d,.binOp .add tx x y tyy,ty,pos,af,none⟩:: r) s K:=have ⟨L,N⟩:=pq F;RK.va rfl rfl (Go.Sw.iop T.ok .add rfl L N) k
theorem RK.adE (hc:kk.wrap (a+b)=cc) (hx0:(s.get T.te tx x,s.get T.te tyy y)=(some (.p (.int kk a)),some (.p (.int kk b)))) (k:VK P ops r s K d (opS x (.p (.int kk a))++opS y (.p (.int kk b))) ([]) (.p (.int kk cc))):RK P ops (⟨some d,.binOp .add tx x y tyy,ty,pos,af,none⟩:: r) s K:=have ⟨hx,hy⟩:=pq hx0;RK.va rfl rfl (Go.Sw.iopE T.ok .add hc rfl hx hy) k
theorem RK.sbt (E:(s.get T.te tx x,s.get T.te tyy y)=(some (.p (.int kk a)),some (.p (.int kk b)))) (k:VK P ops r s K d (opS x (.p (.int kk a))++opS y (.p (.int kk b))) ([]) (.p (.int kk (kk.wrap (a - b))))):RK P ops (⟨some d,.binOp .sub tx x y tyy,ty,pos,af,none⟩:: r) s K:=have ⟨J,L⟩:=pq E;RK.va rfl rfl (Go.Sw.iop T.ok .sub rfl J L) k
theorem RK.sbtE (N:kk.wrap (a - b)=cc) (E:(s.get T.te tx x,s.get T.te tyy y)=(some (.p (.int kk a)),some (.p (.int kk b)))) (k:VK P ops r s K d (opS x (.p (.int kk a))++opS y (.p (.int kk b))) ([]) (.p (.int kk cc))):RK P ops (⟨some d,.binOp .sub tx x y tyy,ty,pos,af,none⟩:: r) s K:=have ⟨L,S⟩:=pq E;RK.va rfl rfl (Go.Sw.iopE T.ok .sub N rfl L S) k
theorem RK.muE (S:kk.wrap (a*b)=cc) (F:(s.get T.te tx x,s.get T.te tyy y)=(some (.p (.int kk a)),some (.p (.int kk b)))) (k:VK P ops r s K d (opS x (.p (.int kk a))++opS y (.p (.int kk b))) ([]) (.p (.int kk cc))):RK P ops (⟨some d,.binOp .mul tx x y tyy,ty,pos,af,none⟩:: r) s K:=have ⟨N,U⟩:=pq F;RK.va rfl rfl (Go.Sw.iopE T.ok .mul S rfl N U) k
theorem RK.an (hx0:(s.get T.te tx x,s.get T.te tyy y)=(some (.p (.int kk a)),some (.p (.int kk b)))) (k:VK P ops r s K d (opS x (.p (.int kk a))++opS y (.p (.int kk b))) ([]) (.p (.int kk (vA kk a b)))):RK P ops (⟨some d,.binOp .and tx x y tyy,ty,pos,af,none⟩:: r) s K:=have ⟨hx,hy⟩:=pq hx0;RK.va rfl rfl (Go.Sw.iop T.ok .and rfl hx hy) k
theorem RK.anE (S:vA kk a b=cc) (F:(s.get T.te tx x,s.get T.te tyy y)=(some (.p (.int kk a)),some (.p (.int kk b)))) (k:VK P ops r s K d (opS x (.p (.int kk a))++opS y (.p (.int kk b))) ([]) (.p (.int kk cc))):RK P ops (⟨some d,.binOp .and tx x y tyy,ty,pos,af,none⟩:: r) s K:=have ⟨N,U⟩:=pq F;RK.va rfl rfl (Go.Sw.iopE T.ok .and S rfl N U) k
theorem RK.oE (hc:ior kk a b=cc) (hx0:(s.get T.te tx x,s.get T.te tyy y)=(some (.p (.int kk a)),some (.p (.int kk b)))) (k:VK P ops r s K d (opS x (.p (.int kk a))++opS y (.p (.int kk b))) ([]) (.p (.int kk cc))):RK P ops (⟨some d,.binOp .or tx x y tyy,ty,pos,af,none⟩:: r) s K:=have ⟨hx,hy⟩:=pq hx0;RK.va rfl rfl (Go.Sw.iopE T.ok .or hc rfl hx hy) k
theorem RK.xoE (N:wN kk a b=cc) (F:(s.get T.te tx x,s.get T.te tyy y)=(some (.p (.int kk a)),some (.p (.int kk b)))) (k:VK P ops r s K d (opS x (.p (.int kk a))++opS y (.p (.int kk b))) ([]) (.p (.int kk cc))):RK P ops (⟨some d,.binOp .xor tx x y tyy,ty,pos,af,none⟩:: r) s K:=have ⟨U,L⟩:=pq F;RK.va rfl rfl (Go.Sw.iopE T.ok .xor N rfl U L) k
theorem RK.eq (E:(s.get T.te tx x,s.get T.te tyy y)=(some (.p (.int kk a)),some (.p (.int kk b)))) (k:VK P ops r s K d (opS x (.p (.int kk a))++opS y (.p (.int kk b))) ([]) (.p (.bool (a==b)))):RK P ops (⟨some d,.binOp .eql tx x y tyy,ty,pos,af,none⟩:: r) s K:=have ⟨L,N⟩:=pq E;RK.va rfl rfl (Go.Sw.cmp T.ok .eql rfl L N) k
theorem RK.ne (F:(s.get T.te tx x,s.get T.te tyy y)=(some (.p (.int kk a)),some (.p (.int kk b)))) (k:VK P ops r s K d (opS x (.p (.int kk a))++opS y (.p (.int kk b))) ([]) (.p (.bool (a != b)))):RK P ops (⟨some d,.binOp .neq tx x y tyy,ty,pos,af,none⟩:: r) s K:=have ⟨N,J⟩:=pq F;RK.va rfl rfl (Go.Sw.cmp T.ok .neq rfl N J) k
theorem RK.ls (G:(s.get T.te tx x,s.get T.te tyy y)=(some (.p (.int kk a)),some (.p (.int kk b)))) (k:VK P ops r s K d (opS x (.p (.int kk a))++opS y (.p (.int kk b))) ([]) (.p (.bool (decide (a<b))))):RK P ops (⟨some d,.binOp .lss tx x y tyy,ty,pos,af,none⟩:: r) s K:=have ⟨N,S⟩:=pq G;RK.va rfl rfl (Go.Sw.cmp T.ok .lss rfl N S) k
theorem RK.gt (G:(s.get T.te tx x,s.get T.te tyy y)=(some (.p (.int kk a)),some (.p (.int kk b)))) (k:VK P ops r s K d (opS x (.p (.int kk a))++opS y (.p (.int kk b))) ([]) (.p (.bool (decide (b<a))))):RK P ops (⟨some d,.binOp .gtr tx x y tyy,ty,pos,af,none⟩:: r) s K:=have ⟨N,S⟩:=pq G;RK.va rfl rfl (Go.Sw.cmp T.ok .gtr rfl N S) k
theorem RK.ge (F:(s.get T.te tx x,s.get T.te tyy y)=(some (.p (.int kk a)),some (.p (.int kk b)))) (k:VK P ops r s K d (opS x (.p (.int kk a))++opS y (.p (.int kk b))) ([]) (.p (.bool (decide (b<=a))))):RK P ops (⟨some d,.binOp .geq tx x y tyy,ty,pos,af,none⟩:: r) s K:=have ⟨N,S⟩:=pq F;RK.va rfl rfl (Go.Sw.cmp T.ok .geq rfl N S) k
theorem RK.quo (N:(b==0)=false) (L:s.get T.te tx x=some (.p (.int kk a))) (J:s.get T.te tyy y=some (.p (.int kk b))) (k:VK P ops r s K d (opS x (.p (.int kk a))++opS y (.p (.int kk b))) ([]) (.p (.int kk (kk.wrap (a.tdiv b))))):RK P ops (⟨some d,.binOp .quo tx x y tyy,ty,pos,af,none⟩:: r) s K:=RK.va rfl rfl (Go.Sw.quo T.ok N rfl L J) k
theorem RK.rem (N:(b==0)=false) (L:s.get T.te tx x=some (.p (.int kk a))) (J:s.get T.te tyy y=some (.p (.int kk b))) (k:VK P ops r s K d (opS x (.p (.int kk a))++opS y (.p (.int kk b))) ([]) (.p (.int kk (a.tmod b)))):RK P ops (⟨some d,.binOp .rem tx x y tyy,ty,pos,af,none⟩:: r) s K:=RK.va rfl rfl (Go.Sw.rem T.ok N rfl L J) k
theorem RK.shl (S:0<=b) (E:(s.get T.te tx x,s.get T.te tyy y)=(some (.p (.int kk a)),some (.p (.int k2 b)))) (k:VK P ops r s K d (opS x (.p (.int kk a))++opS y (.p (.int k2 b))) ([]) (.p (.int kk (iR kk a b)))):RK P ops (⟨some d,.binOp .shl tx x y tyy,ty,pos,af,none⟩:: r) s K:=have ⟨L,N⟩:=pq E;RK.va rfl rfl (Go.Sw.shl T.ok S rfl L N) k
theorem RK.shr (S:0<=b) (E:(s.get T.te tx x,s.get T.te tyy y)=(some (.p (.int kk a)),some (.p (.int k2 b)))) (k:VK P ops r s K d (opS x (.p (.int kk a))++opS y (.p (.int k2 b))) ([]) (.p (.int kk (xT kk a b)))):RK P ops (⟨some d,.binOp .shr tx x y tyy,ty,pos,af,none⟩:: r) s K:=have ⟨L,N⟩:=pq E;RK.va rfl rfl (Go.Sw.shr T.ok S rfl L N) k
theorem RK.shrE (U:xT kk a b=cc) (L:0<=b) (E:(s.get T.te tx x,s.get T.te tyy y)=(some (.p (.int kk a)),some (.p (.int k2 b)))) (k:VK P ops r s K d (opS x (.p (.int kk a))++opS y (.p (.int k2 b))) ([]) (.p (.int kk cc))):RK P ops (⟨some d,.binOp .shr tx x y tyy,ty,pos,af,none⟩:: r) s K:=have ⟨N,S⟩:=pq E;RK.va rfl rfl (Go.Sw.shrE T.ok U L rfl N S) k
theorem RK.no {a:Bool} (F:s.get T.te tx x=some (.p (.bool a))) (k:VK P ops r s K d (opS x (.p (.bool a))) ([]) (.p (.bool (!a)))):RK P ops (⟨some d,.unOp .not tx x,ty,pos,af,none⟩:: r) s K:=RK.va rfl rfl (Go.Sw.not' T.ok rfl F) k
theorem RK.com (G:s.get T.te tx x=some (.p (.int kk a))) (k:VK P ops r s K d (opS x (.p (.int kk a))) ([]) (.p (.int kk (zKv kk a)))):RK P ops (⟨some d,.unOp .xor tx x,ty,pos,af,none⟩:: r) s K:=RK.va rfl rfl (Go.Sw.com T.ok rfl G) k
theorem RK.cv (y:((T.te src).map (·.ty),(T.te dst).map (·.ty),s.get T.te src x)=(some (.int k2),some (.int kk),some (.p (.int k2 a)))) (k:VK P ops r s K d (opS x (.p (.int k2 a))) ([]) (.p (.int kk (kk.wrap a)))):RK P ops (⟨some d,.convert src dst x,ty,pos,af,none⟩:: r) s K:=have ⟨L,y⟩:=pq y;have ⟨J,N⟩:=pq y;RK.va rfl rfl (Go.Sw.va_conv T.ok rfl L J N) k
theorem RK.cv8 (A:((T.te src).map (·.ty),(T.te dst).map (·.ty),s.get T.te src x)=(some (.int k2),some (.int .u8),some (.p (.int k2 a)))) (k:VK P ops r s K d (opS x (.p (.int k2 a))) ([]) (.p (.int .u8 (u8 a).toNat))):RK P ops (⟨some d,.convert src dst x,ty,pos,af,none⟩:: r) s K:=have ⟨S,A⟩:=pq A;have ⟨L,N⟩:=pq A;RK.va rfl rfl (Go.Sw.va_conv8 T.ok rfl S L N) k
theorem RK.bts {l:By} (y:((T.te src).map (·.ty),(T.te e).map (·.ty),(T.te dst).map (·.ty),s.get T.te src x)=(some (.slice e),some (.int .u8),some .str,some v)) (L:s.rd v=some (.bytes l,bs)) (k:VK P ops r s K d (opS x v) (bs) (.p (.str l))):RK P ops (⟨some d,.convert src dst x,ty,pos,af,none⟩:: r) s K:=have ⟨U,y⟩:=pq y;have ⟨V,y⟩:=pq y;have ⟨N,S⟩:=pq y;RK.va rfl rfl (Go.Sw.va_bts T.ok rfl U V N S L) k
theorem RK.ncp (F:s.get T.te 0 x=some (.ptr k0 n)) (k:VK P ops r s K d (opS x (.ptr k0 n)) ([]) (.ptr k0 n)):RK P ops (⟨some d,.nilCheck x,ty,pos,af,none⟩:: r) s K:=RK.va rfl rfl (Go.Sw.ncp T.ok rfl F) k
theorem RK.fa {f:Nat} (h:((T.te t).map (·.ty),fs[f]?,T.te ft,nzw fi,s.get T.te 0 x)=(some (.struct fs),some (ft,fo),some fi,true,some (.ptr k0 off))) (k:VK P ops r s K d (opS x (.ptr k0 off)) ([]) (.ptr k0 (off+fo))):RK P ops (⟨some d,.fieldAddr t x f,ty,pos,af,none⟩:: r) s K:=have ⟨Y,h⟩:=pq h;have ⟨Z,h⟩:=pq h;have ⟨W,h⟩:=pq h;have ⟨N,S⟩:=pq h;RK.va rfl rfl (Go.Sw.fa T.ok rfl Y Z W N S) k
theorem RK.ixB {l:By} {u:UInt8} {i:Int} (h:idx l i=some u) (D:((T.te t).map (·.ty),T.te e,s.get T.te t x,s.rd v,1,s.get T.te 0 y)=(some (.slice e),some ei,some v,some (.bytes l,bs),ei.w,some (.p (.int .i64 i)))) (k:VK P ops r s K d (opS x v++opS y (.p (.int .i64 i))) (bs) (.p (.cptr (.int .u8 u.toNat)))):RK P ops (⟨some d,.indexAddr t x y,ty,pos,af,none⟩:: r) s K:=have ⟨V,D⟩:=pq D;have ⟨he,D⟩:=pq D;have ⟨W,D⟩:=pq D;have ⟨S,D⟩:=pq D;have ⟨U,Y⟩:=pq D;RK.va rfl rfl (Go.Sw.ixB T.ok h rfl V he W S U Y) k
theorem RK.ixM {l:List α} {i:Int} (h:idx l i=some u) (E:((T.te t).map (·.ty),T.te e,s.get T.te t x)=(some (.slice e),some ei,some v)) (hp:s.rd v=some (.sl w (l.map f),bs)) (I:(w,s.get T.te 0 y)=(ei.w,some (.p (.int .i64 i)))) (k:VK P ops r s K d (opS x v++opS y (.p (.int .i64 i))) (bs) (.p (.cptr (f u)))):RK P ops (⟨some d,.indexAddr t x y,ty,pos,af,none⟩:: r) s K:=have ⟨ht,E⟩:=pq E;have ⟨W,V⟩:=pq E;have ⟨hw,Y⟩:=pq I;RK.va rfl rfl (Go.Sw.ixM T.ok h rfl ht W V hp hw Y) k
theorem RK.ixS {l:By} {u:UInt8} {i:Int} (h:idx l i=some u) (A:((T.te t).map (·.ty),s.get T.te t x,s.get T.te 0 y)=(some .str,some (.p (.str l)),some (.p (.int .i64 i)))) (k:VK P ops r s K d (opS x (.p (.str l))++opS y (.p (.int .i64 i))) ([]) (.p (.int .u8 u.toNat))):RK P ops (⟨some d,.index t x y,ty,pos,af,none⟩:: r) s K:=have ⟨J,A⟩:=pq A;have ⟨L,S⟩:=pq A;RK.va rfl rfl (Go.Sw.ixS T.ok h rfl J L S) k
theorem RK.ixC {l:List α} {i:Int} (h:idx l i=some u) (v:((T.te t).map (·.ty),T.te e,s.get T.te t x,Q5 l.length n,ei.isAgg,ei.w)=(some (.arr n e),some ei,some (.p (.cptr (.agg (l.map f)))),true,false,1)) (hf:∀ a,(f a).cells=[f a]) (Y:s.get T.te 0 y=some (.p (.int .i64 i))) (k:VK P ops r s K d (opS x (.p (.cptr (.agg (l.map f))))++opS y (.p (.int .i64 i))) ([]) (.p (.cptr (f u)))):RK P ops (⟨some d,.indexAddr t x y,ty,pos,af,none⟩:: r) s K:=have ⟨ht,v⟩:=pq v;have ⟨he,v⟩:=pq v;have ⟨Z,v⟩:=pq v;have ⟨hn,v⟩:=pq v;have ⟨J,hw⟩:=pq v;RK.va rfl rfl (Go.Sw.ixC T.ok h rfl ht he Z hn J hw hf Y) k
theorem RK.ixV {l:List α} {i:Int} (h:idx l i=some u) (A:((T.te t).map (·.ty),T.te e,ei.known,s.get T.te t x,s.rd v,Q5 l.length n,ei.isAgg,ei.w)=(some (.arr n e),some ei,true,some v,some (.agg (l.map f),bs),true,false,1)) (hf:∀ a,(f a).cells=[f a]) (hy:s.get T.te 0 y=some (.p (.int .i64 i))) (k:VK P ops r s K d (opS x v++opS y (.p (.int .i64 i))) (bs) (.p (f u))):RK P ops (⟨some d,.index t x y,ty,pos,af,none⟩:: r) s K:=have ⟨ht,A⟩:=pq A;have ⟨he,A⟩:=pq A;have ⟨N,A⟩:=pq A;have ⟨hx,A⟩:=pq A;have ⟨hp,A⟩:=pq A;have ⟨Y,A⟩:=pq A;have ⟨J,Z⟩:=pq A;RK.va rfl rfl (Go.Sw.ixV T.ok h rfl ht he N hx hp hy Y J Z hf) k
theorem RK.ia {i:Int} (h:ixN n i=some j) (A:((T.te t).map (·.ty),T.te e,ei.w,s.get T.te t x,s.get T.te 0 y)=(some (.arr n e),some ei,1,some (.ptr k0 off),some (.p (.int .i64 i)))) (k:VK P ops r s K d (opS x (.ptr k0 off)++opS y (.p (.int .i64 i))) ([]) (.ptr k0 (off+j))):RK P ops (⟨some d,.indexAddr t x y,ty,pos,af,none⟩:: r) s K:=have ⟨Y,A⟩:=pq A;have ⟨he,A⟩:=pq A;have ⟨S,A⟩:=pq A;have ⟨V,W⟩:=pq A;RK.va rfl rfl (Go.Sw.ia T.ok h rfl Y he S V W) k
theorem RK.iaK {i:Nat} (h:((T.te t).map (·.ty),T.te e,s.get T.te t x,s.get T.te 0 y,Q4 i n)=(some (.arr n e),some ei,some (.ptr k0 off),some (.p (.int .i64 (i:Nat))),true)) (k:VK P ops r s K d (opS x (.ptr k0 off)++opS y (.p (.int .i64 (i:Nat)))) ([]) (.ptr k0 (off+i*ei.w))):RK P ops (⟨some d,.indexAddr t x y,ty,pos,af,none⟩:: r) s K:=have ⟨N,h⟩:=pq h;have ⟨W,h⟩:=pq h;have ⟨U,h⟩:=pq h;have ⟨S,V⟩:=pq h;RK.va rfl rfl (Go.Sw.iaK T.ok rfl N W U S V) k
theorem RK.ir {i:Int} (h:ixN n i=some j) (A:((T.te t).map (·.ty),T.te e,ei.w,s.get T.te t x,s.get T.te 0 y)=(some (.slice e),some ei,1,some (.ref k0 off n),some (.p (.int .i64 i)))) (k:VK P ops r s K d (opS x (.ref k0 off n)++opS y (.p (.int .i64 i))) ([]) (.ptr k0 (off+j))):RK P ops (⟨some d,.indexAddr t x y,ty,pos,af,none⟩:: r) s K:=have ⟨U,A⟩:=pq A;have ⟨he,A⟩:=pq A;have ⟨Z,A⟩:=pq A;have ⟨V,W⟩:=pq A;RK.va rfl rfl (Go.Sw.ir T.ok h rfl U he Z V W) k
theorem RK.ld (h:(T.te t,i.plain,s.get T.te 0 x,s.blk k0,l[off]?)=(some i,true,some (.ptr k0 off),some (.var l),some v)) (k:VK P ops r s K d (opS x (.ptr k0 off)) ([(k0,.var l)]) (v)):RK P ops (⟨some d,.load t x,ty,pos,af,none⟩:: r) s K:=have ⟨S,h⟩:=pq h;have ⟨L,h⟩:=pq h;have ⟨N,h⟩:=pq h;have ⟨U,I⟩:=pq h;RK.va rfl rfl (Go.Sw.ld T.ok rfl S L N U I) k
theorem RK.ldA {f:α->AV} {l:List α} (h:l[j]? = some u) (y:(T.te t,i.plain,s.get T.te 0 x)=(some i,true,some (.ptr k0 off))) (L:off=j) (V:s.blk k0=some (.var (l.map f))) (k:VK P ops r s K d (opS x (.ptr k0 off)) ([(k0,.var (l.map f))]) (f u)):RK P ops (⟨some d,.load t x,ty,pos,af,none⟩:: r) s K:=have ⟨J,y⟩:=pq y;have ⟨U,N⟩:=pq y;RK.va rfl rfl (Go.Sw.ld T.ok rfl J U N V (by simp_all)) k
theorem RK.ldN (h:(T.te t,i.isAgg,s.get T.te 0 x,s.blk k0,Q5 (off+i.w) l.length)=(some i,true,some (.ptr k0 off),some (.var l),true)) (k:VK P ops r s K d (opS x (.ptr k0 off)) ([(k0,.var l)]) (.ag ((l.drop off).take i.w))):RK P ops (⟨some d,.load t x,ty,pos,af,none⟩:: r) s K:=have ⟨J,h⟩:=pq h;have ⟨I,h⟩:=pq h;have ⟨L,h⟩:=pq h;have ⟨U,S⟩:=pq h;RK.va rfl rfl (Go.Sw.ldN T.ok rfl J I L U S) k
theorem RK.ldW (h:(T.te t,i.isAgg,s.get T.te 0 x,s.blk k0,Q2 i.w l.length)=(some i,true,some (.ptr k0 0),some (.var l),true)) (k:VK P ops r s K d (opS x (.ptr k0 0)) ([(k0,.var l)]) (.ag l)):RK P ops (⟨some d,.load t x,ty,pos,af,none⟩:: r) s K:=have ⟨N,h⟩:=pq h;have ⟨J,h⟩:=pq h;have ⟨L,h⟩:=pq h;have ⟨S,G⟩:=pq h;RK.va rfl rfl (Go.Sw.ldW T.ok rfl N J L S G) k
theorem RK.ldC (h:(T.te t,i.plain,s.get T.te 0 x,q.cells)=(some i,true,some (.p (.cptr q)),[q])) (k:VK P ops r s K d (opS x (.p (.cptr q))) ([]) (.p q)):RK P ops (⟨some d,.load t x,ty,pos,af,none⟩:: r) s K:=have ⟨I,h⟩:=pq h;have ⟨J,h⟩:=pq h;have ⟨G,F⟩:=pq h;RK.va rfl rfl (Go.Sw.ldC T.ok rfl I J G F) k
theorem RK.ldD {l:List PV} (h:(T.te t,i.isAgg,s.get T.te 0 x,Q2 l.length i.w)=(some i,true,some (.p (.cptr (.agg l))),true)) (k:VK P ops r s K d (opS x (.p (.cptr (.agg l)))) ([]) (.p (.agg l))):RK P ops (⟨some d,.load t x,ty,pos,af,none⟩:: r) s K:=have ⟨F,h⟩:=pq h;have ⟨I,h⟩:=pq h;have ⟨J,L⟩:=pq h;RK.va rfl rfl (Go.Sw.ldCN T.ok rfl F I J L) k
theorem RK.sto (d:(T.te t,s.get T.te 0 ax,s.get T.te t x,s.blk k0,Q2 v.cells.length i.w,Q5 (off+i.w) l.length,v.cells.all AV.one)=(some i,some (.ptr k0 off),some v,some (.var l),true,true,true)) (k:RK P ops r (s.setb k0 (.var (sW l off v.cells))) λs' V=>K s' (⟨opS ax (.ptr k0 off)++opS x v,[(k0,.var l)],[],none,[(k0,.var (sW l off v.cells))]⟩:: V)):RK P ops (⟨none,.store t ax x,ty,pos,af,none⟩:: r) s K:=have ⟨N,d⟩:=pq d;have ⟨Y,d⟩:=pq d;have ⟨U,d⟩:=pq d;have ⟨J,d⟩:=pq d;have ⟨W,d⟩:=pq d;have ⟨L,F⟩:=pq d;
 RK.so rfl (Go.Sw.sto T.ok rfl rfl N Y U J W L F) k
theorem RK.st1 (d:(T.te t,s.get T.te 0 ax,s.get T.te t x,s.blk k0,i.w,v.cells,Q4 off l.length,v.one)=(some i,some (.ptr k0 off),some v,some (.var l),1,[v],true,true)) (k:RK P ops r (s.setb k0 (.var (l.set off v))) λs' ms=>K s' (⟨opS ax (.ptr k0 off)++opS x v,[(k0,.var l)],[],none,[(k0,.var (l.set off v))]⟩:: ms)):RK P ops (⟨none,.store t ax x,ty,pos,af,none⟩:: r) s K:=have ⟨Y,d⟩:=pq d;have ⟨W,d⟩:=pq d;have ⟨V,d⟩:=pq d;have ⟨Z,d⟩:=pq d;have ⟨S,d⟩:=pq d;have ⟨J,d⟩:=pq d;have ⟨hl,E⟩:=pq d;by
 refine RK.so rfl ?_ k;have N:off<l.length:=by simp_all
 have:=Go.Sw.sto (o:=⟨none,.store t ax x,ty,pos,af,none⟩) T.ok rfl rfl Y W V Z (by simp_all) (by rw [S];assumption) (by simp_all);rw [J,zG7 N] at this;omega
theorem RK.stW (d:(T.te t,s.get T.te 0 ax,s.get T.te t x,s.blk k0,Q2 v.cells.length i.w,Q2 i.w l.length,v.cells.all AV.one)=(some i,some (.ptr k0 0),some v,some (.var l),true,true,true)) (k:RK P ops r (s.setb k0 (.var v.cells)) λs' ms=>K s' (⟨opS ax (.ptr k0 0)++opS x v,[(k0,.var l)],[],none,[(k0,.var v.cells)]⟩:: ms)):RK P ops (⟨none,.store t ax x,ty,pos,af,none⟩:: r) s K:=have ⟨W,d⟩:=pq d;have ⟨Z,d⟩:=pq d;have ⟨U,d⟩:=pq d;have ⟨S,d⟩:=pq d;have ⟨N,d⟩:=pq d;have ⟨hl,F⟩:=pq d;by
 refine RK.so rfl ?_ k;have Y:=Q0 N;have L:=Q0 hl;have:=Go.Sw.sto (o:=⟨none,.store t ax x,ty,pos,af,none⟩) T.ok rfl rfl W Z U S N (by simp [L]) F;have e:sW l 0 v.cells=v.cells:=by rw [iF (by omega)];simp_all
 simp_all
theorem RK.stA {f:α->AV} {l l':List α} (h:uA l j u=some l') (I:(T.te t,s.get T.te 0 ax)=(some i,some (.ptr k0 off))) (hj:off=j) (d:(s.get T.te t x,s.blk k0,i.w,(f u).cells,(f u).one)=(some (f u),some (.var (l.map f)),1,[f u],true)) (k:RK P ops r (s.setb k0 (.var (l'.map f))) λs' ms=>K s' (⟨opS ax (.ptr k0 off)++opS x (f u),[(k0,.var (l.map f))],[],none,[(k0,.var (l'.map f))]⟩:: ms)):RK P ops (⟨none,.store t ax x,ty,pos,af,none⟩:: r) s K:=have ⟨ht,ha⟩:=pq I;have ⟨Y,d⟩:=pq d;have ⟨hb,d⟩:=pq d;have ⟨U,d⟩:=pq d;have ⟨S,E⟩:=pq d;by
 refine RK.so rfl ?_ k;subst hj;obtain ⟨W,h2⟩:=zCu h;have:=Go.Sw.sto (o:=⟨none,.store t ax x,ty,pos,af,none⟩) T.ok rfl rfl ht ha Y hb (by simp_all) (by rw [U];simpa using Nat.succ_le_of_lt W) (by simp_all);rw [S,zG7 (by simp_all),<- List.map_set,<- h2] at this;omega
theorem RK.al (y:(T.te t,s.blk d)=(some i,none)) (k:BK P ops r s K d ([]) ([]) ([d]) (d) (.var (i.z.map zA)) (.ptr d 0)):RK P ops (⟨some d,.alloc t,ty,pos,af,none⟩:: r) s K:=have ⟨D,F⟩:=pq y;RK.sb rfl (Go.Sw.al T.ok rfl rfl D F) k
theorem RK.bx (A:(s.get T.te t x,s.blk d)=(some v,none)) (k:BK P ops r s K d (opS x v) ([]) ([d]) (d) (.var v.cells) (.ptr d 0)):RK P ops (⟨some d,.box t x,ty,pos,af,none⟩:: r) s K:=have ⟨G,D⟩:=pq A;RK.sb rfl (Go.Sw.bx T.ok rfl rfl G D) k
theorem RK.bl (h:(pa.toList,T.te t,i.ty,fs.all (λf=>(T.te f.1).isSome))=(pl,some i,.struct fs,true)) (V:kO s T.te pl vs rs) (Y:kN (zJb T.te fs) (i.z.map zA) vs=some l) (k:VK P ops r s K d (rs) ([]) (.ag l)):RK P ops (⟨some d,.build t pa,ty,pos,af,none⟩:: r) s K:=have ⟨F,h⟩:=pq h;have ⟨W,h⟩:=pq h;have ⟨G,D⟩:=pq h;RK.va rfl rfl (Go.Sw.bld T.ok rfl F W G D V Y) k
theorem RK.bA (h:(pa.toList,T.te t,i.ty,T.te e)=(pl,some i,.arr n e,some ei)) (N:kO s T.te pl vs rs) (U:kN (λj=>some (j*ei.w,ei.w)) (i.z.map zA) vs=some l) (k:VK P ops r s K d (rs) ([]) (.ag l)):RK P ops (⟨some d,.build t pa,ty,pos,af,none⟩:: r) s K:=have ⟨y,h⟩:=pq h;have ⟨Y,h⟩:=pq h;have ⟨E,V⟩:=pq h;RK.va rfl rfl (Go.Sw.bldA T.ok rfl y Y E V N U) k
theorem RK.liB (l:By) {bb:LB} (h:(pa.toList,(T.te t).map (·.ty),T.te e,ei.z.length,1,Q5 n 16777216)=(pl,some (.slice e),some ei,ei.w,ei.w,true)) (Z:nW s T.te e 0 pl vs rs bb) (A:(kN (λj=>some (j*ei.w,ei.w)) (sQ ei.z n) vs,l.length,s.blk d)=(some ((l.map λx=>PV.int .u8 x.toNat).map .p),n,none)) (k:BK P ops r s K d (rs) (bb) ([d]) (d) (.buf (.bytes l)) (.buf d l.length)):RK P ops (⟨some d,.buildSlice t n pa,ty,pos,af,none⟩:: r) s K:=have ⟨L,h⟩:=pq h;have ⟨ht,h⟩:=pq h;have ⟨he,h⟩:=pq h;have ⟨hz,h⟩:=pq h;have ⟨I,hn⟩:=pq h;have ⟨hf,A⟩:=pq A;have ⟨G,hk⟩:=pq A;RK.sb rfl (Go.Sw.litB T.ok l rfl rfl L ht he hz I hn Z hf G hk) k
theorem RK.li (f:α->PV) (l:List α) {bb:LB} (h:(pa.toList,(T.te t).map (·.ty),T.te e,ei.z.length,ei.w,Q4 0 w,Q5 (n*w) 16777216)=(pl,some (.slice e),some ei,ei.w,w,true,true)) (hp:nW s T.te e 0 pl vs rs bb) (hl:∀ a,(f a).cells.length=w) (D:(kN (λj=>some (j*ei.w,ei.w)) (sQ ei.z n) vs,l.length,s.blk d)=(some ((flatCells (l.map f)).map .p),n,none)) (k:BK P ops r s K d (rs) (bb) ([d]) (d) (.buf (.sl w (l.map f))) (.buf d l.length)):RK P ops (⟨some d,.buildSlice t n pa,ty,pos,af,none⟩:: r) s K:=have ⟨U,h⟩:=pq h;have ⟨ht,h⟩:=pq h;have ⟨he,h⟩:=pq h;have ⟨hz,h⟩:=pq h;have ⟨hw,h⟩:=pq h;have ⟨S,hn⟩:=pq h;have ⟨hf,D⟩:=pq D;have ⟨I,hk⟩:=pq D;RK.sb rfl (Go.Sw.lit T.ok f l rfl rfl U ht he hz hw S hn hp hl hf I hk) k
theorem RK.lr (h:(pa.toList,(T.te t).map (·.ty),T.te e,ei.z.length,Q5 (n*ei.w) 16777216)=(pl,some (.slice e),some ei,ei.w,true)) (U:kO s T.te pl vs rs) (F:(kN (λj=>some (j*ei.w,ei.w)) (sQ ei.z n) vs,s.blk d)=(some l,none)) (k:BK P ops r s K d (rs) ([]) ([d]) (d) (.var l) (.ref d 0 n)):RK P ops (⟨some d,.buildSlice t n pa,ty,pos,af,none⟩:: r) s K:=have ⟨G,h⟩:=pq h;have ⟨Z,h⟩:=pq h;have ⟨he,h⟩:=pq h;have ⟨hz,W⟩:=pq h;have ⟨hf,hk⟩:=pq F;RK.sb rfl (Go.Sw.sa_litr T.ok rfl rfl G Z he hz (yW W) U hf hk) k
theorem RK.ex (A:(s.get T.te 0 x,l[n]?)=(some (.tu l),some v)) (k:VK P ops r s K d (opS x (.tu l)) ([]) (v)):RK P ops (⟨some d,.extract x n,ty,pos,af,none⟩:: r) s K:=have ⟨F,E⟩:=pq A;RK.va rfl rfl (Go.Sw.va_extractA rfl F E) k
theorem RK.slB {l u:By} (h:sub l a b=some u) (F:((T.te t).map (·.ty),T.te e,s.get T.te t x)=(some (.slice e),some ei,some v)) (hp:s.rd v=some (.bytes l,bs)) (hw:1=ei.w) (L:Bd s T.te lo lo2 rl) (J:Bd s T.te hi hi2 rh) (N:Bd s T.te mx mx2 rm) (hm:mx2=none∨(mx2=hi2/\hi2.isSome=true)) (S:(lo2.getD 0,hi2.getD l.length)=(a,b)) (k:VK P ops r s K d (opS x v++(rl++(rh++rm))) (bs) (.p (.bytes u))):RK P ops (⟨some d,.slice t x lo hi mx,ty,pos,af,none⟩:: r) s K:=have ⟨ht,F⟩:=pq F;have ⟨he,hx⟩:=pq F;have ⟨ea,eb⟩:=pq S;RK.va rfl rfl (Go.Sw.slB T.ok h rfl ht he hx hp hw L J N hm ea eb) k
theorem RK.slM {l u:List α} (h:sub l a b=some u) (E:((T.te t).map (·.ty),T.te e,s.get T.te t x)=(some (.slice e),some ei,some v)) (hp:s.rd v=some (.sl w (l.map f),bs)) (hw:w=ei.w) (J:Bd s T.te lo lo2 rl) (N:Bd s T.te hi hi2 rh) (S:Bd s T.te mx mx2 rm) (hm:mx2=none∨(mx2=hi2/\hi2.isSome=true)) (L:(lo2.getD 0,hi2.getD l.length)=(a,b)) (k:VK P ops r s K d (opS x v++(rl++(rh++rm))) (bs) (.p (.sl w (u.map f)))):RK P ops (⟨some d,.slice t x lo hi mx,ty,pos,af,none⟩:: r) s K:=have ⟨ht,E⟩:=pq E;have ⟨he,hx⟩:=pq E;have ⟨ea,eb⟩:=pq L;RK.va rfl rfl (Go.Sw.slM T.ok h rfl ht he hx hp hw J N S hm ea eb) k
theorem RK.lnT {l:By} (y:((T.te t).map (·.ty),s.get T.te t x)=(some .str,some (.p (.str l)))) (k:VK P ops r s K d (opS x (.p (.str l))) ([]) (.p (.int .i64 l.length))):RK P ops (⟨some d,.call ⟨.builtin .len,#[x],#[t]⟩,ty,pos,af,none⟩:: r) s K:=have ⟨J,L⟩:=pq y;RK.va rfl rfl (Go.Sw.lnT T.ok rfl J L) k
theorem RK.lnS (A:((T.te t).map (·.ty),s.get T.te t x)=(some (.slice e),some v)) (L:s.rd v=some (p,bs)) (N:p.isSlice=true) (k:VK P ops r s K d (opS x v) (bs) (.p (.int .i64 p.len))):RK P ops (⟨some d,.call ⟨.builtin .len,#[x],#[t]⟩,ty,pos,af,none⟩:: r) s K:=have ⟨W,S⟩:=pq A;RK.va rfl rfl (Go.Sw.lnS T.ok rfl W S L N) k
theorem RK.lnM {l:List α} (A:((T.te t).map (·.ty),s.get T.te t x)=(some (.slice e),some v)) (V:s.rd v=some (.sl w (l.map f),bs)) (k:VK P ops r s K d (opS x v) (bs) (.p (.int .i64 l.length))):RK P ops (⟨some d,.call ⟨.builtin .len,#[x],#[t]⟩,ty,pos,af,none⟩:: r) s K:=have ⟨J,N⟩:=pq A;RK.va rfl rfl (Go.Sw.lnM T.ok rfl J N V) k
theorem RK.lnR (v:((T.te t).map (·.ty),s.get T.te t x)=(some (.slice e),some (.ref k0 off n))) (k:VK P ops r s K d (opS x (.ref k0 off n)) ([]) (.p (.int .i64 n))):RK P ops (⟨some d,.call ⟨.builtin .len,#[x],#[t]⟩,ty,pos,af,none⟩:: r) s K:=have ⟨G,N⟩:=pq v;RK.va rfl rfl (Go.Sw.va_lenR T.ok rfl G N) k
theorem RK.mi (D:(s.get T.te t x,s.get T.te t2 y)=(some (.p (.int kk a)),some (.p (.int kk b)))) (k:VK P ops r s K d (opS x (.p (.int kk a))++opS y (.p (.int kk b))) ([]) (.p (.int kk (if b<a then b else a)))):RK P ops (⟨some d,.call ⟨.builtin .min,#[x,y],#[t,t2]⟩,ty,pos,af,none⟩:: r) s K:=have ⟨L,I⟩:=pq D;RK.va rfl rfl (Go.Sw.minI T.ok rfl L I) k
theorem RK.apNB {b:Nat} {m u:By} (h:yN b [] m=some u) (v:((T.te t).map (·.ty),T.te e,(T.te t2).map (·.ty),s.get T.te t x,1,ei.z.length,s.get T.te t2 y,s.rd vy,ei.b,Q4 0 b,s.blk d)=(some (.slice e),some ei,some (.slice e2),some (.nl (.bytes [])),ei.w,ei.w,some vy,some (.bytes m,bs),b,true,none)) (k:BK P ops r s K d (opS x (.nl (.bytes []))++opS y vy) (bs) ([d]) (d) (.buf (.bytes u)) (.buf d u.length)):RK P ops (⟨some d,.call ⟨.builtin .append,#[x,y],#[t,t2]⟩,ty,pos,af,none⟩:: r) s K:=have ⟨ht,v⟩:=pq v;have ⟨he,v⟩:=pq v;have ⟨ht2,v⟩:=pq v;have ⟨hx,v⟩:=pq v;have ⟨I,v⟩:=pq v;have ⟨hz,v⟩:=pq v;have ⟨hy,v⟩:=pq v;have ⟨hp,v⟩:=pq v;have ⟨hb,v⟩:=pq v;have ⟨hb1,hk⟩:=pq v;RK.sb rfl (Go.Sw.apNB T.ok h rfl rfl ht he ht2 hx I hz hy hp hb hb1 hk) k
theorem RK.apB {b:Nat} {l m u:By} (h:yN b l m=some u) (v:((T.te t).map (·.ty),T.te e,(T.te t2).map (·.ty),s.get T.te t x,s.blk k0,1,ei.z.length,s.get T.te t2 y)=(some (.slice e),some ei,some (.slice e2),some (.buf k0 l.length),some (.buf (.bytes l)),ei.w,ei.w,some vy)) (hp:s.rd vy=some (.bytes m,bs)) (W:(ei.b,Q4 0 b)=(b,true)) (k:BK P ops r s K d (opS x (.buf k0 l.length)++opS y vy) ((k0,.buf (.bytes l)) :: bs) ([]) (k0) (.buf (.bytes u)) (.buf k0 u.length)):RK P ops (⟨some d,.call ⟨.builtin .append,#[x,y],#[t,t2]⟩,ty,pos,af,none⟩:: r) s K:=have ⟨ht,v⟩:=pq v;have ⟨he,v⟩:=pq v;have ⟨V,v⟩:=pq v;have ⟨hx,v⟩:=pq v;have ⟨hk,v⟩:=pq v;have ⟨J,v⟩:=pq v;have ⟨hz,hy⟩:=pq v;have ⟨hb,L⟩:=pq W;RK.sb rfl (Go.Sw.apB T.ok h rfl rfl ht he V hx hk J hz hy hp hb L) k
theorem RK.apM {b:Nat} (f:α->PV) {l u:List α} (h:yN b l m=some u) (v:((T.te t).map (·.ty),T.te e,(T.te t2).map (·.ty),s.get T.te t x,s.blk k0,w,Q4 0 w,ei.z.length,s.get T.te t2 y)=(some (.slice e),some ei,some (.slice e2),some (.buf k0 l.length),some (.buf (.sl w (l.map f))),ei.w,true,ei.w,some vy)) (hp:s.rd vy=some (.sl w (m.map f),bs)) (J:∀ a,(f a).cells.all PV.one=true) (bd:(ei.b,Q4 0 b)=(b,true)) (k:BK P ops r s K d (opS x (.buf k0 l.length)++opS y vy) ((k0,.buf (.sl w (l.map f))) :: bs) ([]) (k0) (.buf (.sl w (u.map f))) (.buf k0 u.length)):RK P ops (⟨some d,.call ⟨.builtin .append,#[x,y],#[t,t2]⟩,ty,pos,af,none⟩:: r) s K:=have ⟨ht,v⟩:=pq v;have ⟨he,v⟩:=pq v;have ⟨V,v⟩:=pq v;have ⟨hx,v⟩:=pq v;have ⟨hk,v⟩:=pq v;have ⟨N,v⟩:=pq v;have ⟨bc,v⟩:=pq v;have ⟨hz,hy⟩:=pq v;have ⟨hb,Y⟩:=pq bd;RK.sb rfl (Go.Sw.apM T.ok f h rfl rfl ht he V hx hk N bc hz hy hp J hb Y) k
theorem RK.stb {l:By} (v:((T.te src).map (·.ty),(T.te dst).map (·.ty),(T.te e).map (·.ty),s.get T.te src x)=(some .str,some (.slice e),some (.int .u8),some (.p (.str l)))) (L:l.length<=140737488355328) (Y:s.blk d=none) (k:BK P ops r s K d (opS x (.p (.str l))) ([]) ([d]) (d) (.buf (.bytes l)) (.buf d l.length)):RK P ops (⟨some d,.convert src dst x,ty,pos,af,none⟩:: r) s K:=have ⟨W,v⟩:=pq v;have ⟨S,v⟩:=pq v;have ⟨N,V⟩:=pq v;RK.sb rfl (Go.Sw.sa_stb T.ok rfl rfl W S N V L Y) k
theorem RK.bb {l:By} (y:((T.te t).map (·.ty),(T.te e).map (·.ty),s.get T.te t x,s.blk k0)=(some (.slice e),some (.int .u8),some (.buf k0 l.length),some (.buf (.bytes l)))) (L:l≠[])
  (k:RK P ops r (s.put d (.buf k0 l.length)) λs' U=>K s' (⟨opS x (.buf k0 l.length),[(k0,.buf (.bytes l))],[],some (d,some (.buf k0 l.length)),[]⟩:: U)):RK P ops (⟨some d,.convert t t x,ty,pos,af,none⟩:: r) s K:=have ⟨I,y⟩:=pq y;have ⟨N,y⟩:=pq y;have ⟨S,V⟩:=pq y;RK.st rfl (Go.Sw.sa_bb T.ok rfl rfl I N S V L) k
theorem RK.cl {f:FuncId} {ps:List PV} {bb:LB} (h:Ok P f na (mkS (argE 0 ps) []) (mkS [(0,av)] blks)) (A:(xs.toList,ts.toList)=(xl,tl)) (ha:mD s T.te xl tl ps rs bb) (I:(Q2 na ps.length,(kR (sh d) blks).all (λk=>(s.blk k).isNone))=(true,true))
  (k:RK P ops r (Mic.upd ⟨rs,bb,kR (sh d) blks,some (d,some (av.ren (sh d))),bR (sh d) blks⟩ s) λs' ms=>K s' (⟨rs,bb,kR (sh d) blks,some (d,some (av.ren (sh d))),bR (sh d) blks⟩:: ms)):RK P ops (⟨some d,.call ⟨.value (.func f),xs,ts⟩,ty,pos,af,none⟩:: r) s K:=have ⟨G,F⟩:=pq A;have ⟨hn,hf⟩:=pq I;
 by
 rw [kQ,zBn] at k;exact RK.st rfl (Go.Sw.cl T.ok h rfl rfl G F ha hn (by rw [<- kQ];exact hf)) k
theorem RK.cp {f:FuncId} {ps:List PV} {bb:LB} (h:Ok P f na (mkS ((0,.ptr 0 0) :: argE 1 ps) [(0,.var (cs.map .p))]) (mkS [(0,av)] ((0,.var l') :: blks))) (v:(xs.toList,ts.toList,s.get T.te ta xa,s.blk k0,s.rdL l)=(xa :: xl,ta :: tl,some (.ptr k0 0),some (.var l),some (cs,bs0))) (ha:mD s T.te xl tl ps rs bb) (F:(Q2 na (ps.length+1),(kR (sh d) blks).all (λk=>(s.blk k).isNone),blks.all (λe=>!Nat.beq e.1 0))=(true,true,true))
  (k:RK P ops r (Mic.upd ⟨opS xa (.ptr k0 0)++rs,(k0,.var l) :: (bs0++bb),kR (sh d) blks,some (d,some (av.ren (shp d k0))),bR (shp d k0) ((0,.var l') :: blks)⟩ s) λs' ms=>K s' (⟨opS xa (.ptr k0 0)++rs,(k0,.var l) :: (bs0++bb),kR (sh d) blks,some (d,some (av.ren (shp d k0))),bR (shp d k0) ((0,.var l') :: blks)⟩:: ms)):RK P ops (⟨some d,.call ⟨.value (.func f),xs,ts⟩,ty,pos,af,none⟩:: r) s K:=have ⟨U,v⟩:=pq v;have ⟨N,v⟩:=pq v;have ⟨Z,v⟩:=pq v;have ⟨ba,Y⟩:=pq v;have ⟨hn,F⟩:=pq F;have ⟨hf,V⟩:=pq F;
 by
 rw [kQ,zBn] at k;exact RK.st rfl (Go.Sw.clp T.ok h rfl rfl U N Z ba Y ha hn (by rw [<- kQ];exact hf) V) k
end
end Go.Sw
