/- UpdateDecode holds for all inputs -/
import Derived.Test.YtegimnpiojonmaaGreatDoorBZ1
set_option linter.all false
open Nat renaming eq_of_beq_eq_true -> Q0, le_of_ble_eq_true -> Q1, le_refl -> Q4, beq -> Q8, blt -> Qa, le_mul_of_pos_right -> Qb, add_mul -> Qc, ble -> Qf, mul_one -> Qg, zero_add -> Qj, one_ne_zero -> Qm, zero_le -> Qn
open List renaming all_eq_true -> Q2, mem_append -> Qk, length_map -> Ql, mem_map -> Qo
open Go.World renaming freeze -> Q3, cell? -> Qp
open Option renaming map_eq_some_iff -> Q5, map_some -> Q6, isSome_iff_exists -> Q7
open Go.Sw.PV renaming len -> Q9, nilOf -> Qq, width -> Qr
open Bool renaming and_eq_true -> Qd
open Go.Value renaming int -> Qe
open Go.Sw.AV renaming oks -> Qh
open Go.Result renaming andThen_ok -> Qi
namespace Go.Sw
open Go
variable {B:NB}{K:AS->List Mic->Prop}{M:Mem}{P:Program}{Q:Exit->AS->Prop}{X Y:Type}{a:Int}{as:AS}{av:AV}{b:Int}{b':Bool}{bb:LB}{bl:ABlk}{blks:LB}{body:Code}{bs:LB}{c:PV}{cs:List PV}{cx:Ctx}{d dj:Nat}{dst e e':TypeId}{ei fi:TI}{fo:Nat}{fs:List (TypeId×Nat)}{ft:TypeId}{hi:Option Operand}{hi':Option Int}{i:TI}{id:Nat}{ity:TypeId}{j k:Nat}{k' kc kl:IntKind}{ks:List Nat}{l l':List AV}{lo:Option Operand}{lo':Option Int}{ms:List Mic}{mx:Option Operand}{mx':Option Int}{n na:Nat}{o:Oper}{off:Nat}{ops:Array Oper}{p:PV}{pk:PKs}{pl:List (Nat×Operand)}{ps:Array (Nat×Operand)}{q:AV}{r:List Oper}{rh rl rm rs:LV}{s s':AS}{src t t' t0 tc:TypeId}{te:TE}{tip:Nat->Value}{tl:List TypeId}{ts:Array TypeId}{tx ty tyy:TypeId}{v:AV}{vs:LV}{vy:AV}{w:Nat}{x:Operand}{xl:List Operand}{xs:Array Operand}{y:Operand}{α β:Type}{κ:Nat->Option Nat}{f:α->PV}{m:List α}{u:α}
def flatCells:List PV->List PV
 | []=>[]
 | p :: r=>p.cells++flatCells r
theorem flat_get:∀ (ps:List PV),(∀ p∈ps,p.cells.length=w)->(flatCells ps).length=ps.length*w/\∀ (i:Nat) (p:PV) (j:Nat) (q:PV),ps[i]? = some p->p.cells[j]? = some q->(flatCells ps)[i*w+j]? = some q
 | [],_=>⟨by simp [flatCells],by simp⟩
 | p :: r,h=>by
  obtain ⟨h1,h2⟩:=flat_get r (λq hq=>h q (by simp [hq]));have hp:=h p (by simp);refine ⟨by simp [flatCells,h1,hp,Qc];omega,λi p' j q hi hq=>?_⟩;cases i with
  | zero=>
   simp at hi;subst hi;have:j<p.cells.length:=(List.getElem?_eq_some_iff.1 hq).1;simp only [flatCells,Nat.zero_mul,Qj];rw [List.getElem?_append_left this];exact hq
  | succ i=>
   simp only [flatCells];rw [List.getElem?_append_right (by rw [hp,Qc];omega),hp,show (i+1)*w+j - w=i*w+j by rw [Qc];omega];exact h2 i p' j q (by simpa using hi) hq
inductive cV (w:Nat):PV->List PV->Prop where
 | bytes (xs:By):w=1->cV w (.bytes xs) (xs.map λx=>.int .u8 x.toNat)
 | sl (ps:List PV):(∀ p∈ps,p.cells.length=w)->cV w (.sl w ps) (flatCells ps)
theorem cV.cells (h:cV w c cs) {f:Nat->Value} (hf:∀ (j:Nat) (q:PV),cs[j]? = some q->Rep M q (f j)):oN M c f/\c.isSlice=true/\c.width=w/\c.len*w=cs.length:=by
 cases h with
 | bytes xs hw=>
  refine ⟨λi x hx=>rep_int (hf i _ (by simp [hx])),rfl,hw.symm,by simp [Q9,hw]⟩
 | sl ps hw=>
  obtain ⟨h1,h2⟩:=flat_get ps hw;exact ⟨⟨λi p hp=>hw p (List.mem_of_getElem? hp),λi p j q hp hq=>hf _ q (h2 i p j q hp hq)⟩,rfl,rfl,by simp [Q9,h1]⟩
section
inductive mI (s:AS) (te:TE) (t:TypeId):Nat->List (Nat×Operand)->LV->LV->LB->Prop where
 | nil (n:Nat):mI s te t n [] [] [] []
 | cons (n:Nat) (x:Operand) (v:AV) (p:PV) (bs:LB) (ps:List (Nat×Operand)) (vs rs:LV) (bb:LB):s.get te t x=some v->s.rd v=some (p,bs)->mI s te t (n+1) ps vs rs bb->mI s te t n ((n,x) :: ps) ((n,.p p) :: vs) (opS x v++rs) (bs++bb)
theorem mI.reads {ps:List (Nat×Operand)} (h:mI s te t n ps vs rs bb):wN s rs/\∀ e∈bb,s.blk e.1=some e.2:=by
 induction h with
 | nil=>exact ⟨by intro e he;simp at he,by simp⟩
 | cons n x v p bs ps vs rs bb h1 h2 _ ih=>exact ⟨yM (zM h1) ih.1,λe he=>(Qk.1 he).elim (uM v p bs h2 e) (ih.2 e)⟩
theorem mI.rep {ps:List (Nat×Operand)} (h:mI s te t n ps vs rs bb) {a:Act} {w:World} (hi:Inv cx M κ tip s' a w) :
  wN s' rs->(∀ e∈bb,s'.blk e.1=some e.2)->eQ M κ tip s'.blk (ps.map λp=>(p.1,a.eval p.2)) vs:=by
 induction h with
 | nil=>intro _ _;trivial
 | cons n x v p bs ps vs rs bb h1 h2 _ ih=>
  intro hr hb;exact ⟨rfl,.p _ _ (kE hi h1 h2 (yI hr) (λe he=>hb e (Qk.2 (.inl he)))),ih (zZ hr) (λe he=>hb e (Qk.2 (.inr he)))⟩
def sD (z:List PV) (n:Nat):List AV:=(List.replicate n (z.map zA)).flatten
theorem zVa (z:List PV) (n:Nat):(sD z n).length=n*z.length:=by simp [sD]
theorem zPg (z:List PV):∀ (n j:Nat),(sD z n)[j]? = if j<n*z.length then (z.map zA)[j % z.length]? else none
 | 0,j=>by simp [sD]
 | n+1,j=>by
  have hz:sD z (n+1)=z.map zA++sD z n:=by simp [sD,List.replicate_succ]
  rw [hz];by_cases h:j<z.length
  ·rw [List.getElem?_append_left (by simpa using h),if_pos (by rw [Qc];omega),Nat.mod_eq_of_lt h]
  ·rw [List.getElem?_append_right (by simp;omega),Ql,zPg z n];by_cases h2:j<(n+1)*z.length
   ·rw [if_pos h2,if_pos (by rw [Qc] at h2;omega)];congr 1;rw [<- Nat.mod_eq_sub_mod (by omega)]
   ·rw [if_neg h2,if_neg (by rw [Qc] at h2;omega)]
theorem zDs (hok:yX P te) (h:te t=some i) (hz:i.z.length=i.w) {z:Value} {info:TypeInfo} (hinfo:P.info? t=some info) (hiz:info.zero=some z) (n:Nat) :
  CR M κ tip B (sD i.z n) (madeCells z.cells (n*i.w)):=by
 obtain ⟨z',h1,h2,h3⟩:=zMn hok h (M:=M) (κ:=κ) (tip:=tip) (B:=B) default;have hzz:z'=z:=by simp [zeroValue,typeInfo,hinfo,hiz] at h1;exact h1.symm
 subst hzz;refine ⟨by rw [size_madeCells,zVa,hz],λj q hq=>?_⟩;rw [zPg] at hq;split at hq
 ·rename_i hj;rw [hz] at hj hq;have hw:0<i.w:=by
   rcases Nat.eq_zero_or_pos i.w with h | h
   ·rw [h] at hj;simp at hj
   ·exact h
  have:=h3.2 (j % i.w) q hq;have hlt:j % i.w<z'.cells.size:=by rw [h2,hz];exact Nat.mod_lt _ hw
  have hmd:(madeCells z'.cells (n*i.w)).getD j undef=z'.cells[j % i.w]:=by
   simp [madeCells,hj,h2,hz];rw [getElem!_pos z'.cells (j % i.w) hlt]
  rw [hmd];simpa [hlt] using this
 ·cases hq
theorem zQf (hok:yX P te) (ht:(te t).map (·.ty)=some (.slice e)) (he:te e=some ei) (hz:ei.z.length=ei.w) (hn:n*ei.w<=16777216) {xs:Array (Nat×Value)} (hp:eQ M κ tip B xs.toList vs) 
  (hf:mJ (λj=>some (j*ei.w,ei.w)) (sD ei.z n) vs=some l) (w:World):∃ arr,(Instr.buildSlice t n xs).run P w=.ok (.slice (some ⟨w.heap.size,0,none⟩) n n) (w.alloc (.cells arr e))/\CR M κ tip B l arr:=by
 obtain ⟨info,z,i1,i2,i3,i4,i5⟩:=(hok e ei he).info;have hcr:=zDs hok he hz i1 i4 (M:=M) (κ:=κ) (tip:=tip) (B:=B) n;obtain ⟨arr,f1,f2⟩:=zIn vs xs.toList _ l _ hp hcr hf;refine ⟨arr,?_,f2⟩;have hu:=xA hok ht;have h24:¬ (16777216<n*ei.w):=by omega
 have hsz:=tC hok he w;by_cases h0:n*ei.w=0
 ·have hmade:madeCells z.cells (n*ei.w)=(Array.range 0).map ((#[]:Array Value)[· % (#[]:Array Value).size]!):=by rw [h0];simp [madeCells]
  rw [hmade] at f1;have hor:n=0∨ei.w=0:=by rcases Nat.mul_eq_zero.1 h0 with h | h;exact .inl h;exact .inr h
  simp only [Instr.buildSlice,Sem.run_bind,run_underlying hu,Qi,hsz,h0];simp only [Array.range_zero',List.map_toArray] at f1 ⊢;simp [f1,newRow] at *;simp [f1]
 ·simp only [madeCells] at f1;simp [Instr.buildSlice,run_underlying hu,hsz,h24,h0,zeroValue,typeInfo,i1,i4,f1,newRow]
theorem zXk (hok:yX P te) (hd:o.dst=some d) (ho:o.op=.buildSlice t n ps) (hpl:ps.toList=pl) (ht:(te t).map (·.ty)=some (.slice e)) (he:te e=some ei) (hz:ei.z.length=ei.w) (hw0:0<ei.w) (hn:n*ei.w<=16777216)
  (hp:mI s te e 0 pl vs rs bb) (hf:mJ (λj=>some (j*ei.w,ei.w)) (sD ei.z n) vs=some (cs.map .p)) (hc:cV ei.w c cs) (hcn:c.len=n) (hk:s.blk d=none) :
  SA P o s ⟨rs,bb,[d],some (d,some (.buf d c.len)),[(d,.buf c)]⟩:=by
 refine ⟨?_,hp.reads.1,hp.reads.2,by intro k hk';simp at hk';subst hk';exact hk⟩;intro cx s' a w K Q hm hs hws hk';obtain ⟨M,κ,tip,h0,hpk,hi⟩:=hs;have hbk:=hm.2.2 d (by simp);have hpr:=hp.rep hi hm.1 hm.2.1;have hxs:(ps.map λ(i,x)=>(i,a.eval x)).toList=pl.map λp=>(p.1,a.eval p.2):=by simp [<- hpl]
 obtain ⟨arr,hrun,hcr⟩:=zQf hok ht he hz hn (xs:=ps.map λ(i,x)=>(i,a.eval x)) (by rw [hxs];exact hpr) hf w;have hcells:∀ (j:Nat) (q:PV),cs[j]? = some q->Rep M q (arr.getD j undef):=λj q hq=>repA_pv (hcr.2 j (.p q) (by simp [hq]));obtain ⟨c1,c2,c3,c4⟩:=hc.cells hcells;have hasz:arr.size=n*ei.w:=by rw [hcr.1,Ql,<- c4,hcn]
 unfold Oper.wp;have:(execOp a.eval o).run P w=.ok (.value (.slice (some ⟨w.heap.size,0,none⟩) n n)) (w.alloc (.cells arr e)):=by simp [execOp,ho,hrun]
 rw [this];show K (a.put o.dst _) _;rw [hd];refine hk' _ _ ?_;rw [sN];have hle:M.le (addM M w.heap.size 0 (n*c.width) (arr[·]?)):=addM_le λo _ _=>hi.mlt (Q4 _);have hrep:Rep (addM M w.heap.size 0 (n*c.width) (arr[·]?)) c (.slice (some ⟨w.heap.size,0,none⟩) n n):=by
  have:=uB (M':=addM M w.heap.size 0 (n*c.width) (arr[·]?)) (b:=w.heap.size) (o:=0) (cap:=n) c1 c2 hle ?_ (by omega)
  ·rwa [hcn] at this
  intro j hj;rw [hcn] at hj;simp only [addM,Qj];rw [if_pos ⟨trivial,Qn _,hj⟩];rw [c3,<- hasz] at hj;simp [hj]
 have hml:n<=maxLen:=by
  have:n<=n*ei.w:=Qb _ hw0;simp only [maxLen];omega
 refine ⟨_,_,_,h0.trans' hle,zAx hi hpk hbk _,(hi.bufNew (jA w arr e) (.inl hbk) c2 (by omega) (by rw [c3,hasz];exact Q4 _) (by rw [c3,hasz];exact Q4 _) hml hrep).put (hws d (by simp [Mic.ws])) ?_⟩;rw [hcn];refine .buf d _ c _ (zW _ _ _) c2 (by omega) ?_ (λ_=>(xF _ _ _).symm);rw [<- hcn,nQ c2,hcn];exact hrep
end
def zUf:TypeDesc->Ty
 | .bool=>.bool
 | .int k=>.int k
 | .string=>.str
 | .slice e=>.slice e
 | .array n e=>.arr n e
 | .struct fs=>.struct (fs.toList.map λf=>(f.type,f.offset))
 | .pointer e=>.ptr e
 | .func _ _ _=>.func
 | .interface _=>.iface
 | _=>.other
def zR0 (i:TypeInfo):Nat×Nat×Option (List Value):=(i.size,i.bytes,i.zero.map (·.cells.toList))
theorem yK (h1:(P.info? t).map zR0=some (i.w,i.b,some (i.z.map zv))) (h2:(P.underlying t).map zUf=some i.ty) (h3:i.z.all PV.zok=true):TOk P t i where
 info:=by
  obtain ⟨info,a,b⟩:=Q5.1 h1;simp only [zR0,Prod.mk.injEq] at b;obtain ⟨b1,b2,b3⟩:=b;obtain ⟨z,c1,c2⟩:=Q5.1 b3;exact ⟨info,z,a,b1,b2,c1,c2⟩
 zok:=λz hz=>(Q2.1 h3) z hz
 und:=by
  obtain ⟨d,a,b⟩:=Q5.1 h2;cases d<;>simp only [zUf] at b<;>rw [<- b]<;>simp only [a]<;>simp
inductive Tr where
 | leaf
 | node (k:Nat) (v:TI) (l r:Tr)
def Tr.get:Tr->TE
 | .leaf,_=>none
 | .node k v l r,t=>bif Q8 t k then some v else bif Qa t k then l.get t else r.get t
def Tr.All (P:Program):Tr->Prop
 | .leaf=>True
 | .node k v l r=>TOk P k v/\l.All P/\r.All P
theorem Tr.ok:∀ (t:Tr),t.All P->yX P t.get
 | .leaf,_=>λ_ _ h=>by simp [Tr.get] at h
 | .node k v l r,h=>λt i hi=>by
  simp only [Tr.get] at hi;cases hb:Q8 t k with
  | true=>
   simp [hb] at hi;rw [Q0 hb,<- hi];exact h.1
  | false=>
   simp only [hb,cond_false] at hi;cases hl:Qa t k with
   | true=>simp only [hl,cond_true] at hi;exact Tr.ok l h.2.1 t i hi
   | false=>simp only [hl,cond_false] at hi;exact Tr.ok r h.2.2 t i hi
def u8 (n:Int):UInt8:=UInt8.ofNat (n % 256).toNat
theorem jN (n:Int):((u8 n).toNat:Int)=n % 256:=by
 unfold u8;have h0:0<=n % 256:=Int.emod_nonneg _ (by decide);have h1:n % 256<256:=Int.emod_lt_of_pos _ (by decide);have h2:(n % 256).toNat<256:=by omega
 rw [UInt8.toNat_ofNat_of_lt' (by simpa using h2)];omega
theorem wrap_u8 (n:Int):IntKind.u8.wrap n=((u8 n).toNat:Int):=by
 rw [jN];simp [IntKind.wrap,IntKind.signed,IntKind.bits]
section
theorem va_conv8 (hok:yX P te) (ho:o.op=.convert src dst x) (hs:(te src).map (·.ty)=some (.int k')) (ht:(te dst).map (·.ty)=some (.int .u8)) (hx:s.get te src x=some (.p (.int k' a))) :
  VA P o s (opS x (.p (.int k' a))) [] (.p (.int .u8 (u8 a).toNat)):=by
 have:=zT0 (P:=P) hok ho hs ht hx;rwa [wrap_u8] at this
theorem yAe (f:IOp) (a b:Int):f.val .u8 a b=((u8 (f.val .u8 a b)).toNat:Int):=by
 have:∀ n:Int,IntKind.u8.wrap n=((u8 (IntKind.u8.wrap n)).toNat:Int):=λn=>by
  rw [jN,wrap_u8,jN];omega
 cases f<;>exact this _
theorem zZj (f:IOp) (ho:o.op=.binOp f.op tx x y tyy) (hx:s.get te tx x=some (.p (.int .u8 a))) (hy:s.get te tyy y=some (.p (.int .u8 b))) :
  VA P o s (opS x (.p (.int .u8 a))++opS y (.p (.int .u8 b))) [] (.p (.int .u8 (u8 (f.val .u8 a b)).toNat)):=by
 have:=zS4 (P:=P) f ho hx hy;rwa [yAe] at this
inductive RK (P:Program) (ops:Array Oper) (l:List Oper) (s:AS) (K:AS->List Mic->Prop):Prop where
 | mk (s':AS) (ms:List Mic) (h:Run P ops l s s' ms) (k:K s' ms)
theorem RK.nil (h:K s []):RK P ops [] s K:=⟨s,[],.nil s,h⟩
theorem RK.va {w:AV} (hd:o.dst=some d) (hg:o.guard=none) (h:VA P o s rs bs w) (k:RK P ops r (s.put d w) λs' ms=>K s' (⟨rs,bs,[],some (d,some w),[]⟩:: ms)):RK P ops (o :: r) s K:=
 let ⟨s',ms,h1,h2⟩:=k;⟨s',_,Run.vv hd hg h h1,h2⟩
theorem RK.st {m:Mic} (hg:o.guard=none) (h:SA P o s m) (k:RK P ops r (m.upd s) λs' ms=>K s' (m :: ms)):RK P ops (o :: r) s K:=
 let ⟨s',ms,h1,h2⟩:=k;⟨s',_,Run.ss hg h h1,h2⟩
theorem RK.sb {fr:List Nat} {w:AV} (hg:o.guard=none) (h:SA P o s ⟨rs,bs,fr,some (d,some w),[(k,bl)]⟩) (kk:RK P ops r ((s.setb k bl).put d w) λs' ms=>K s' (⟨rs,bs,fr,some (d,some w),[(k,bl)]⟩:: ms)):RK P ops (o :: r) s K:=
 RK.st hg h (by rw [sN];exact kk)
theorem RK.so (hg:o.guard=none) (h:SA P o s ⟨rs,bs,[],none,[(k,bl)]⟩) (kk:RK P ops r (s.setb k bl) λs' ms=>K s' (⟨rs,bs,[],none,[(k,bl)]⟩:: ms)):RK P ops (o :: r) s K:=
 RK.st hg h (by rw [zD0];exact kk)
theorem yC6 {c a b:Operand} {bb:Bool} (ho:o.op=.pick c a b) (hbb:bb=true) (hc:s.get te t0 c=some (.p (.bool bb))) (h:s.get te o.type a=some v):VA P o s (opS c (.p (.bool true))++opS a v) [] v:=zWu ho (hbb▸hc) h
theorem yFx {c a b:Operand} {bb:Bool} (ho:o.op=.pick c a b) (hbb:bb=false) (hc:s.get te t0 c=some (.p (.bool bb))) (h:s.get te o.type b=some v):VA P o s (opS c (.p (.bool false))++opS b v) [] v:=zWj ho (hbb▸hc) h
theorem cT {t:Nat} {x y:Code} {b:Bool} (he:b=true) (hc:s.env t=some (.p (.bool b))) (h:awp P cx x Q s):awp P cx (.cond (.tmp t) x y) Q s:=zQ9 hc (λ_=>h) (λe=>by rw [he] at e;cases e)
theorem cF {t:Nat} {x y:Code} {b:Bool} (he:b=false) (hc:s.env t=some (.p (.bool b))) (h:awp P cx y Q s):awp P cx (.cond (.tmp t) x y) Q s:=zQ9 hc (λe=>by rw [he] at e;cases e) (λ_=>h)
theorem rgn (hnt:cx.nt=n) (h:RK P ops ops.toList s λs' ms=>bW n ms=true/\Q .normal s'):awp P cx (.region id ops false) Q s:=
 let ⟨_,_,h1,h2,h3⟩:=h;zS6 h1 (by rw [hnt];exact h2) h3
theorem rgd (hnt:cx.nt=n) (hm:P.follows .mixedOrders=true) (h:RK P ops ops.toList s λs' ms=>bW n ms=true/\(oW ops ms&&zQr ops)=true/\Q .normal s'):awp P cx (.region id ops true) Q s:=by
 obtain ⟨s',ms,h1,h2,h3,h4⟩:=h;simp only [Qd] at h3;exact zWd h1 (by rw [hnt];exact h2) hm h3.1 h3.2 h4
end
def LIM:Nat:=140737488355328
def xB (b:Nat) (l m:List α):Option (List α):=if (l.length+m.length)*b<=LIM then some (l++m) else none
theorem fF {b:Nat} {l r:List α} (h:xB b l m=some r):r=l++m/\(l.length+m.length)*b<=140737488355328:=by
 unfold xB at h;split at h
 ·rename_i hb;cases h;exact ⟨rfl,hb⟩
 ·cases h
theorem appB {l m r:By} {b:Nat} (h:xB b l m=some r):(PV.bytes l).app (.bytes m)=some (.bytes r):=by rw [(fF h).1];rfl
theorem appM {l r:List α} {b:Nat} (h:xB b l m=some r):(PV.sl w (l.map f)).app (.sl w (m.map f))=some (.sl w (r.map f)):=by
 rw [(fF h).1];simp [PV.app]
theorem zVw {b:Nat} {l r:List α} (h:xB b l m=some r):(l.length+m.length)*b<=140737488355328:=(fF h).2
theorem bind_some {m:Option α} {k:α->Option β} {r:β} (h:m.bind k=some r):∃ x,m=some x/\k x=some r:=Option.bind_eq_some_iff.1 h
section
theorem zT3 {c:Code} (hl:Imp cx.pk s s') (h:awp P cx c Q s'):awp P cx c Q s:=λa w hs=>h a w (hl cx a w rfl hs)
def LQ (cx:Ctx) (E:X->AS) (R:Y->Exit->AS->Prop):X ⊕ Y->Exit->AS->Prop
 | .inl x,e,s=>e=.normal/\Imp cx.pk s (E x)
 | .inr y,e,s=>R y e s
theorem yGt (E:X->AS) (step:X->Option (X ⊕ Y)) (R:Y->Exit->AS->Prop) (hne:∀ y s,¬ R y .normal s)
  (hb:∀ x r,step x=some r->awp P cx body (LQ cx E R r) (E x)):∀ n x y,zT step n x=some y->awp P cx (.loop body) (R y) (E x):=by
 intro n x y hy a w hs;refine wp_loop_rounds n ?_;induction n generalizing x a w with
 | zero=>simp [zT] at hy
 | succ n ih=>
  rw [rounds_succ];simp only [zT] at hy;cases hst:step x with
  | none=>simp [hst] at hy
  | some r=>
   have hb':=hb x r hst a w hs;cases r with
   | inl x'=>
    rw [hst] at hy;refine wp_mono hb' ?_;rintro e a' w' ⟨s',h1,rfl,h2⟩;exact ih x' hy a' w' (h2 cx a' w' rfl h1)
   | inr y'=>
    rw [hst] at hy;cases hy;refine wp_mono hb' ?_;rintro e a' w' ⟨s',h1,h2⟩;cases e with
    | normal=>exact (hne _ _ h2).elim
    | _=>exact ⟨s',h1,h2⟩
end
section
theorem zGd (hd:o.dst=some d)
  (h:∀ (cx:Ctx) (M:Mem) (κ:Nat->Option Nat) (tip:Nat->Value) (s:AS) (a:Act) (w:World),Inv cx M κ tip s a w->wN s rs->(∀ e∈bs,s.blk e.1=some e.2) ->
   ∃ arr e,(execOp a.eval o).run P w=.ok (.value (.slice (some ⟨w.heap.size,0,none⟩) n n)) (w.alloc (.cells arr e))/\CR M κ tip s.blk l arr) :
  Snd P o ⟨rs,bs,[d],some (d,some (.ref d 0 n)),[(d,.var l)]⟩:=by
 intro cx s a w K Q hm hs hw hk;obtain ⟨M,κ,tip,h0,hp,hi⟩:=hs;obtain ⟨arr,e,hx,hr⟩:=h cx M κ tip s a w hi hm.1 hm.2.1;have hb:=hm.2.2 d (by simp);unfold Oper.wp;rw [hx];show K (a.put o.dst _) _;rw [hd];refine hk _ _ ?_;rw [fP];exact ⟨M,fA κ d (some w.heap.size),tip,h0,zAx hi hp hb _,(hi.newVar hb hr e).put (hw d (by simp [Mic.ws])) (.ref d 0 n _ l (vH _ _ _) (zW _ _ _))⟩
theorem sa_mkr {tl:TypeId} {n:Int} (hok:yX P te) (hd:o.dst=some d) (ho:o.op=.makeSlice t x y) (ht:(te t).map (·.ty)=some (.slice e)) (he:te e=some ei) (hz:ei.z.length=ei.w) (hx:s.get te tl x=some (.p (.int kl n))) (hy:s.get te tc y=some (.p (.int kc n)))
  (h0:0<=n) (hb:n.toNat*ei.b<=140737488355328) (hb1:0<ei.b) (hk:s.blk d=none):SA P o s ⟨opS x (.p (.int kl n))++opS y (.p (.int kc n)),[],[d],some (d,some (.ref d 0 n.toNat)),[(d,.var (sD ei.z n.toNat))]⟩:=by
 refine ⟨zGd hd ?_,yM (zM hx) (zM hy),by intro e he;simp at he,by intro k hk';simp at hk';subst hk';exact hk⟩;intro cx M κ tip s' a w hi hr _;have h1:=rep_int (repA_pv (yF hi (yN hx s' (yI hr))));have h2:=rep_int (repA_pv (yF hi (yN hy s' (zZ hr))));obtain ⟨info,z,i1,i2,i3,i4,i5⟩:=(hok e ei he).info;have hu:=xA hok ht;have hcr:=zDs hok he hz i1 i4 (M:=M) (κ:=κ) (tip:=tip) (B:=s'.blk) n.toNat;have hlen:n.toNat<=n.toNat*ei.b:=Qb _ hb1;have hbi:(info.bytes:Int)*n<=281474976710656:=by
  rw [i3];have:((n.toNat*ei.b:Nat):Int)<=140737488355328:=by omega
  rw [Int.natCast_mul,Int.toNat_of_nonneg h0,Int.mul_comm] at this;omega
 have hrun:=run_make (P:=P) w t e info z hu i1 i4 kl kc n n h0 (Int.le_refl _) hbi (by omega);exact ⟨_,e,by rw [i2] at hrun;simp [execOp,ho,h1,h2,hrun],hcr⟩
theorem sa_mk0 {tl:TypeId} {n:Int} (hok:yX P te) (hd:o.dst=some d) (ho:o.op=.makeSlice t x y) (ht:(te t).map (·.ty)=some (.slice e)) (he:te e=some ei) (hz:ei.z.length=ei.w) (hw0:0<ei.w) (hx:s.get te tl x=some (.p (.int kl 0))) (hy:s.get te tc y=some (.p (.int kc n)))
  (h0:0<=n) (hb:n.toNat*ei.b<=140737488355328) (hb1:0<ei.b) (hc:c.nilOf=true) (hcw:c.width=ei.w) (hk:s.blk d=none):SA P o s ⟨opS x (.p (.int kl 0))++opS y (.p (.int kc n)),[],[d],some (d,some (.buf d 0)),[(d,.buf c)]⟩:=by
 refine ⟨?_,yM (zM hx) (zM hy),by intro e he;simp at he,by intro k hk';simp at hk';subst hk';exact hk⟩;intro cx s' a w K Q hm hs hws hk';obtain ⟨M,κ,tip,h0',hp,hi⟩:=hs;have hbk:=hm.2.2 d (by simp);have h1:=rep_int (repA_pv (yF hi (yN hx s' (yI hm.1))));have h2:=rep_int (repA_pv (yF hi (yN hy s' (zZ hm.1))));obtain ⟨info,z,i1,i2,i3,i4,i5⟩:=(hok e ei he).info;have hu:=xA hok ht;have hlen:n.toNat<=n.toNat*ei.b:=Qb _ hb1;have hbi:(info.bytes:Int)*n<=281474976710656:=by
  rw [i3];have:((n.toNat*ei.b:Nat):Int)<=140737488355328:=by omega
  rw [Int.natCast_mul,Int.toNat_of_nonneg h0,Int.mul_comm] at this;omega
 have hrun:=run_make (P:=P) w t e info z hu i1 i4 kl kc 0 n (Int.le_refl _) h0 hbi (by omega);unfold Oper.wp;have:(execOp a.eval o).run P w=.ok (.value (.slice (some ⟨w.heap.size,0,none⟩) 0 n.toNat)) (w.alloc (.cells (madeCells z.cells (n.toNat*ei.w)) e)):=by
  rw [i2] at hrun;simp [execOp,ho,h1,h2,hrun]
 rw [this];show K (a.put o.dst _) _;rw [hd];refine hk' _ _ ?_;rw [sN];have hsl:c.isSlice=true:=by unfold Qq at hc;split at hc<;>first | rfl | cases hc
 have hlen0:c.len=0:=by unfold Qq at hc;split at hc<;>first | rfl | cases hc
 have hle:M.le (addM M w.heap.size 0 (0*c.width) ((madeCells z.cells (n.toNat*ei.w))[·]?)):=addM_le λo _ _=>hi.mlt (Q4 _);have hrep:Rep (addM M w.heap.size 0 (0*c.width) ((madeCells z.cells (n.toNat*ei.w))[·]?)) c (.slice (some ⟨w.heap.size,0,none⟩) 0 n.toNat):=by
  have:=uB (M:=M) (M':=addM M w.heap.size 0 (0*c.width) ((madeCells z.cells (n.toNat*ei.w))[·]?)) (b:=w.heap.size) (o:=0) (cap:=n.toNat) (jQ hsl hlen0 (λ_=>undef)) hsl hle (by rw [hlen0];intro j hj;omega) (by omega);rwa [hlen0] at this
 refine ⟨_,_,_,h0'.trans' hle,zAx hi hp hbk _,(hi.bufNew (jA w _ e) (.inl hbk) hsl (by omega) (by omega) (by rw [size_madeCells,hcw];exact Q4 _) (by simp only [maxLen];omega) hrep).put (hws d (by simp [Mic.ws])) ?_⟩;refine .buf d 0 c _ (zW _ _ _) hsl (by omega) ?_ (λ_=>(xF _ _ _).symm);rw [<- hlen0,nQ hsl,hlen0];exact hrep
theorem sa_litr (hok:yX P te) (hd:o.dst=some d) (ho:o.op=.buildSlice t n ps) (hpl:ps.toList=pl) (ht:(te t).map (·.ty)=some (.slice e)) (he:te e=some ei) (hz:ei.z.length=ei.w) (hn:n*ei.w<=16777216)
  (hp:mN s te pl vs rs) (hf:mJ (λj=>some (j*ei.w,ei.w)) (sD ei.z n) vs=some l) (hk:s.blk d=none):SA P o s ⟨rs,[],[d],some (d,some (.ref d 0 n)),[(d,.var l)]⟩:=by
 refine ⟨zGd hd ?_,hp.reads,by intro e he;simp at he,by intro k hk';simp at hk';subst hk';exact hk⟩;intro cx M κ tip s' a w hi hr _;have hpr:=hp.rep hi hr;have hxs:(ps.map λ(i,x)=>(i,a.eval x)).toList=pl.map λp=>(p.1,a.eval p.2):=by simp [<- hpl]
 obtain ⟨arr,hrun,hcr⟩:=zQf hok ht he hz hn (xs:=ps.map λ(i,x)=>(i,a.eval x)) (by rw [hxs];exact hpr) hf w;exact ⟨arr,e,by simp [execOp,ho,hrun],hcr⟩
theorem va_lenR (hok:yX P te) (ho:o.op=.call { callee:=.builtin .len,args:=#[x],argTypes:=#[t] }) (ht:(te t).map (·.ty)=some (.slice e)) (hx:s.get te t x=some (.ref k off n)):VA P o s (opS x (.ref k off n)) [] (.p (.int .i64 n)):=by
 refine ⟨?_,zM hx,by simp⟩;intro cx M κ tip s' a w hi hr hb;have h1:=yF hi (yN hx s' hr);have hu:=xA hok ht;generalize hev:a.eval x=z at h1;cases h1 with
 | ref _ _ _ b l h2 h3=>exact ⟨.int .i64 n,by simp [execOp,ho,hev,resolve,invoke,builtin,Builtin.len_,run_underlying hu,goInt],.p _ _ (.int _ _)⟩
def wX (B:NB) (k:Nat):NB:=λi=>bif Q8 i k then none else B i
theorem RepA.frz {tip':Nat->Value} {B':NB} (hB:∀ i,i≠k->B' i=B i) (ht:∀ i,i≠k->tip' i=tip i) {x:Value} (hr:RepA M κ tip B v x):v.oks (wX B k)=true->RepA M κ tip' B' v x:=by
 have hne:∀ i,(wX B k i).isSome=true->i≠k:=by
  intro i h e;subst e;simp [wX] at h
 induction hr with
 | p v x h1=>intro _;exact .p v x h1
 | nl c h1=>intro _;exact .nl c h1
 | ptr i o b l h1 h2=>intro h;simp only [Qh] at h;exact .ptr i o b l h1 (by rw [hB i (hne i h)];exact h2)
 | ref i o n b l h1 h2=>intro h;simp only [Qh] at h;exact .ref i o n b l h1 (by rw [hB i (hne i h)];exact h2)
 | buf i n c x h1 hs h2 h3 h4=>intro h;simp only [Qh] at h;exact .buf i n c x (by rw [hB i (hne i h)];exact h1) hs h2 h3 (λe=>by rw [ht i (hne i h)];exact h4 e)
 | ag l vs h1 _ ih=>intro h;simp only [Qh] at h;exact .ag l vs h1 (λj q hq=>ih j q hq (uC l h j q hq))
 | tu l vs h1 _ ih=>intro h;simp only [Qh] at h;exact .tu l vs h1 (λj q hq=>ih j q hq (uC l h j q hq))
 | fnv f l vs h1 _ ih=>intro h;simp only [Qh] at h;exact .fnv f l vs h1 (λj q hq=>ih j q hq (uC l h j q hq))
 | own i n w l x h1 h2 h3 hs=>intro h;simp only [Qh] at h;exact .own i n w l x (by rw [hB i (hne i h)];exact h1) h2 (λe=>by rw [ht i (hne i h)];exact h3 e) hs
 | optr i n o w l x h1 h2 h3 hs=>intro h;simp only [Qh] at h;exact .optr i n o w l x (by rw [hB i (hne i h)];exact h1) h2 h3 hs
 | osl i n o m w l x h1 h2 h3 hs=>intro h;simp only [Qh] at h;exact .osl i n o m w l x (by rw [hB i (hne i h)];exact h1) h2 h3 hs
theorem Imp.freeze {t:Nat} {w0:Nat} (he:s.env t=some (.ref k 0 n)) (hb:s.blk k=some (.var l)) (hrd:s.rdL l=some (cs,bs)) (hc:cV w0 c cs) (hcn:c.len=n) (hw:0<w0) (hml:n<=maxLen)
  (hpk:∀ e∈pk,e.1≠k) (hE:∀ u v,u≠t->s.env u=some v->v.oks (wX s.blk k)=true) (hV:∀ i li,i≠k->s.blk i=some (.var li)->qN (wX s.blk k) li=true) (hW:∀ i w li,s.blk i=some (.own w li)->qN (wX s.blk k) li=true):Imp pk s ((s.setb k (.buf c)).put t (.buf k n)):=by
 intro cx a w hcx hs;obtain ⟨M,κ,tip,h0,hp,hi⟩:=hs;obtain ⟨b,arr,e,fz,q1,q2,q3,q4,q5,q6,q7⟩:=hi.vars k l hb;obtain ⟨x,hx1,hx2⟩:=hi.env t _ he;obtain ⟨r1,r2⟩:=zAt hrd q5;obtain ⟨c1,c2,c3,c4⟩:=hc.cells r2;have hasz:arr.size=n*w0:=by rw [q4,<- r1,<- c4,hcn]
 cases hx2 with
 | ref _ _ _ b' l' g1 g2=>
 rw [q1] at g1;cases g1;have hbase:cx.w0.heap.size<=b:=by
  rcases q7 with q7 | q7
  ·exact q7
  ·simp only [Ctx.pb,Qo] at q7;obtain ⟨e',he',rfl⟩:=q7;have h1:=(hp e' he').1;have:=hi.inj _ _ _ h1 q1;exact (hpk e' (hcx▸he') this).elim
 have hle:M.le (addM M b 0 (n*c.width) (arr[·]?)):=addM_le λo _ _=>q6 o;have hrep:Rep (addM M b 0 (n*c.width) (arr[·]?)) c (.slice (some ⟨b,0,none⟩) n n):=by
  have:=uB (M':=addM M b 0 (n*c.width) (arr[·]?)) (b:=b) (o:=0) (cap:=n) c1 c2 hle ?_ (by omega)
  ·rwa [hcn] at this
  intro j hj;rw [hcn] at hj;simp only [addM,Qj];rw [if_pos ⟨trivial,Qn _,hj⟩];rw [c3,<- hasz] at hj;simp [hj]
 have hB:∀ i,i≠k->(s.setb k (.buf c)).blk i=s.blk i:=λi h=>zQ h;have hT:∀ i,i≠k->lH tip k (.slice (some ⟨b,0,none⟩) n n) i=tip i:=λi h=>xI h;have hother:∀ b' o,b'≠b->addM M b 0 (n*c.width) (arr[·]?) b' o=M b' o:=by
  intro b' o hne;unfold addM;rw [if_neg (by intro h;exact hne h.1)]
 have hmap:∀ {v:AV} {x:Value},RepA M κ tip s.blk v x->v.oks (wX s.blk k)=true->RepA (addM M b 0 (n*c.width) (arr[·]?)) κ (lH tip k (.slice (some ⟨b,0,none⟩) n n)) (s.setb k (.buf c)).blk v x:=
  λh ho=>(h.frz hB hT ho).mono hle
 refine ⟨addM M b 0 (n*c.width) (arr[·]?),κ,lH tip k (.slice (some ⟨b,0,none⟩) n n),h0.trans' hle,hp,{
  defers:=hi.defers
  size:=hi.size
  fr:=hi.fr
  mem:=λb' o y h=>by
   unfold addM at h;split at h
   ·rename_i hc';obtain ⟨rfl,_,hlt⟩:=hc';simp only [Qp,q2];simpa using h
   ·exact hi.mem b' o y h
  env:=λu v h=>by
   simp only [AS.put] at h;cases hbq:Q8 u t with
   | true=>
    have:=Q0 hbq;subst this;simp at h;subst h;refine ⟨_,hx1,.buf k n c _ (zW _ _ _) c2 (by omega) ?_ (λ_=>(xF _ _ _).symm)⟩;rw [<- hcn,nQ c2,hcn];exact hrep
   | false=>
    simp [hbq] at h;have hne:u≠t:=by rintro rfl;simp at hbq
    obtain ⟨y,h1,h2⟩:=hi.env u v h;exact ⟨y,h1,hmap h2 (hE u v hne h)⟩
  vars:=λi li h=>by
   have hne:i≠k:=by rintro rfl;have h':(s.setb i (.buf c)).blk i=some (.var li):=h;rw [zW] at h';cases h'
   have h':(s.setb k (.buf c)).blk i=some (.var li):=h;rw [hB i hne] at h';obtain ⟨b2,arr2,e2,fz2,z1,z2,z3,z4,z5,z6,z7⟩:=hi.vars i li h';have hnb:b2≠b:=λe=>hne (hi.inj i k b (e▸z1) q1);exact ⟨b2,arr2,e2,fz2,z1,z2,z3,z4,λj q hq=>hmap (z5 j q hq) (uC li (hV i li hne h') j q hq),λo=>by rw [hother b2 o hnb];exact z6 o,z7⟩
  bufs:=λi ci h=>by
   have h':(s.setb k (.buf c)).blk i=some (.buf ci):=h;by_cases hne:i=k
   ·subst hne;rw [zW] at h';cases h';rw [xF];refine ⟨hrep,c2,by omega,.inr ⟨b,n,n,arr,e,fz,rfl,q1,hbase,q2,q3,by rw [c3,hasz];exact Q4 _,hml,λj hj=>?_⟩⟩;unfold addM;rw [if_neg (by omega)];exact q6 j
   ·rw [hB i hne] at h';obtain ⟨z1,z2,z3,z4⟩:=hi.bufs i ci h';rw [hT i hne];refine ⟨z1.mono hle,z2,z3,?_⟩;rcases z4 with z4 | ⟨b2,n2,cap2,arr2,e2,fz2,y1,y2,y3,y4,y5,y6,y7,y8⟩
    ·exact .inl z4
    ·have hnb:b2≠b:=λe=>hne (hi.inj i k b (e▸y2) q1);exact .inr ⟨b2,n2,cap2,arr2,e2,fz2,y1,y2,y3,y4,y5,y6,y7,λj hj=>by rw [hother b2 j hnb];exact y8 j hj⟩
  inj:=hi.inj
  dom:=λi h=>by
   have h':(s.setb k (.buf c)).blk i=none:=h;by_cases hne:i=k
   ·subst hne;rw [zW] at h';cases h'
   ·rw [hB i hne] at h';exact hi.dom i h'
  glob:=hi.glob.mono hle
  old:=⟨λb' o hb'=>by rw [hother b' o (by omega)];exact hi.old.1 b' o hb',hi.old.2⟩
  owns:=hi.owns.keep λi wd li h=>by
   have h':(s.setb k (.buf c)).blk i=some (.own wd li):=h;have hne:i≠k:=by rintro rfl;rw [zW] at h';cases h'
   rw [hB i hne] at h';exact ⟨h',rfl,hT i hne,λb2 z=>⟨rfl,λo hm=>by rw [hother b2 o (λe=>hne (hi.inj i k b (e▸z) q1))];exact hm⟩,λj q x hq hr=>hmap hr (uC li (hW i wd li h') j q hq)⟩}⟩
end
section
theorem zYv {w:World} (l:By):∃ w' arr cap,(Conv.stringToBytes e ⟨l.toArray⟩).run P w=.ok (.slice (some ⟨w.heap.size,0,none⟩) l.length cap) w'/\zOd w w' arr e (arr.size,arr.size+1)/\l.length<=cap/\arr.size=cap/\(l.length<=maxLen->cap<=maxLen) /\
  ∀ (j:Nat) (u:UInt8),l[j]? = some u->arr[j]? = some (.int .u8 u.toNat):=by
 have hsz:(ByteArray.mk l.toArray).size=l.length:=zIu l;have hge:=grownCap_ge w l.length 0 e;generalize hA:(l.toArray.map λb=>Qe .u8 b.toNat)++Array.replicate (grownCap w l.length 0 e - l.length) (Qe .u8 0)=A;have hAs:A.size=grownCap w l.length 0 e:=by rw [<- hA];simp;omega
 have hnew:(w.drew.alloc (.cells A e)).heap[w.heap.size]? = some (.cells A e):=by have:=heap_alloc_new w.drew (.cells A e);simpa using this
 refine ⟨(w.drew.alloc (.cells A e)).freeze ⟨w.heap.size,A.size,none⟩ 1,A,grownCap w l.length 0 e,?_,?_,hge,hAs,λh=>grownCap_le_maxLen w l.length 0 e h,?_⟩
 ·simp only [Conv.stringToBytes,hsz];have hmk:∀ W:World,W.heap[w.heap.size]? = some (.cells A e)->(markStringish ⟨w.heap.size,0,none⟩).run P W=.ok () (W.freeze ⟨w.heap.size,A.size,none⟩ 1):=by
   intro W hW;simp [markStringish,shape,Sem.run,World.shape?,hW,freeze]
  have hm:=hmk _ hnew;have hch:(choose (.appendCap l.length 0 e)).run P w=.ok (grownCap w l.length 0 e) w.drew:=by simp [choose,Sem.run,Question.forced,grownCap]
  simp only [Sem.run_bind,hch,Qi,newRow,newObj];have hA':(Array.map (λb=>Qe IntKind.u8 b.toNat) (ByteArray.mk l.toArray).data++Array.replicate (grownCap w l.length 0 e - l.length) (Qe .u8 0))=A:=hA;rw [hA'];have hrun:(Sem.new (.cells A e) Sem.pure:Sem Nat).run P w.drew=.ok w.heap.size (w.drew.alloc (.cells A e)):=rfl;simp only [hrun,Qi,Sem.run_pure,hm]
 ·exact {
   os:=by simp [Q3];rfl
   tape:=by simp [Q3]
   output:=by simp [Q3];rfl
   size:=by simp [Q3]
   old:=λi h=>by
    simp only [Q3,Array.getElem?_modify];simp only [Qm,if_false,Array.getElem?_modify];rw [if_neg (by omega),hao w.drew _ i h];rfl
   new:=by
    unfold Q3;simp only [Qm,if_false,Array.getElem?_modify,if_true];rw [hnew];simp
   free:=.inr (Q4 _) }
 ·intro j u hu;rw [<- hA];have:j<l.length:=(List.getElem?_eq_some_iff.1 hu).1;rw [Array.getElem?_append_left (by simpa using this)];simp [hu]
theorem sa_stb {l:By} (hok:yX P te) (hd:o.dst=some d) (ho:o.op=.convert src dst x) (hs:(te src).map (·.ty)=some .str) (ht:(te dst).map (·.ty)=some (.slice e)) (he:(te e).map (·.ty)=some (.int .u8)) (hx:s.get te src x=some (.p (.str l))) (hl:l.length<=140737488355328) (hk:s.blk d=none) :
  SA P o s ⟨opS x (.p (.str l)),[],[d],some (d,some (.buf d l.length)),[(d,.buf (.bytes l))]⟩:=by
 refine ⟨?_,zM hx,by intro e he;simp at he,by intro k hk';simp at hk';subst hk';exact hk⟩;intro cx s' a w K Q hm hs' hws hk';obtain ⟨M,κ,tip,h0,hp,hi⟩:=hs';have hbk:=hm.2.2 d (by simp);have h1:=gQ (repA_pv (yF hi (yN hx s' hm.1)));obtain ⟨w',arr,cap,r1,r2,r3,r4,r5,r6⟩:=zYv (P:=P) (w:=w) (e:=e) l;unfold Oper.wp;have:(execOp a.eval o).run P w=.ok (.value (.slice (some ⟨w.heap.size,0,none⟩) l.length cap)) w':=by
  simp [execOp,ho,h1,convert,run_underlying (zDz hok hs),run_underlying (xA hok ht),run_underlying (zG2 hok he),r1]
 rw [this];show K (a.put o.dst _) _;rw [hd];refine hk' _ _ ?_;rw [sN];have hle:M.le (addM M w.heap.size 0 (l.length*(PV.bytes l).width) (arr[·]?)):=addM_le λo _ _=>hi.mlt (Q4 _);have hrep:Rep (addM M w.heap.size 0 (l.length*(PV.bytes l).width) (arr[·]?)) (.bytes l) (.slice (some ⟨w.heap.size,0,none⟩) l.length cap):=by
  refine .bytes l _ _ _ _ rfl r3 ?_;intro i u hu;have:i<l.length:=(List.getElem?_eq_some_iff.1 hu).1;simp only [addM,Qj];rw [if_pos ⟨trivial,Qn _,by simp only [Qr,Qg];exact this⟩];exact r6 i u hu
 refine ⟨_,_,_,h0.trans' hle,zAx hi hp hbk _,(hi.bufNew r2 (.inl hbk) rfl (by simp [Qr]) (by simp only [Qr];omega) (by simp only [Qr];omega) (r5 (by simp only [maxLen];omega)) hrep).put (hws d (by simp [Mic.ws])) ?_⟩;refine .buf d _ (.bytes l) _ (zW _ _ _) rfl (Q4 _) ?_ (λ_=>(xF _ _ _).symm);have:(PV.bytes l).take l.length=.bytes l:=by simp [PV.take]
 rw [this];exact hrep
end
theorem zR2 (w:World) (b n:Nat):∃ f:Obj->Obj,(∀ c e fz,∃ fz',f (.cells c e fz)=.cells c e fz'/\(n=c.size->zGs fz c.size->zGs fz' c.size))/\∀ i,(w.freeze ⟨b,n,none⟩ 1).heap[i]? = if b=i then (w.heap[i]?).map f else w.heap[i]?:=by
 refine ⟨λo=>match o with | .cells c elem fz=>.cells c elem (if fz.1==fz.2 then (n,n+1) else (min fz.1 n,max fz.2 (n+1))) | o=>o,?_,?_⟩
 ·intro c e fz;refine ⟨_,rfl,λhn hf=>?_⟩;unfold zGs at *;subst hn;split
  ·exact .inr (Q4 _)
  ·rename_i h;refine .inr ?_;simp only [beq_iff_eq] at h;simp only;omega
 ·intro i;unfold Q3;simp only [Qm,if_false,Array.getElem?_modify];split
  ·cases w.heap[i]? with
   | none=>rfl
   | some o=>cases o<;>rfl
  ·rfl
section
theorem Inv.frzMark {a:Act} {w:World} (hi:Inv cx M κ tip s a w) {b:Nat} {arr:Array Value} {fz:Nat×Nat} (hk:κ k=some b) (hbase:cx.w0.heap.size<=b) (hheap:w.heap[b]? = some (.cells arr e fz)) :
  Inv cx M κ tip s a (w.freeze ⟨b,arr.size,none⟩ 1):=by
 obtain ⟨f,hf,hh⟩:=zR2 w b arr.size;have hsz:(w.freeze ⟨b,arr.size,none⟩ 1).heap.size=w.heap.size:=by unfold Q3;simp
 have hcell:∀ i o x,w.cell? ⟨i,o,none⟩=some x->(w.freeze ⟨b,arr.size,none⟩ 1).cell? ⟨i,o,none⟩=some x:=by
  intro i o x h;simp only [Qp,hh i] at h ⊢;by_cases hbi:b=i
  ·subst hbi;rw [hheap] at h;obtain ⟨fz',h1,_⟩:=hf arr e fz;simp only [if_true,hheap,Q6,h1];exact h
  ·rw [if_neg hbi];exact h
 exact {
  defers:=hi.defers
  size:=hi.size
  fr:=⟨by have:=hi.fr.os;unfold Q3;simpa using this,by have:=hi.fr.tape;unfold Q3;simpa using this,by have:=hi.fr.output;unfold Q3;simpa using this,by rw [hsz];exact hi.fr.size,λi h1 h2 h3=>by
   rw [hh i,if_neg (by omega)];exact hi.fr.block i h1 h2 h3⟩
  mem:=λi o x h=>hcell i o x (hi.mem i o x h)
  env:=hi.env
  vars:=λi l h=>by
   obtain ⟨b2,arr2,e2,fz2,k1,k2,k3,k4,k5⟩:=hi.vars i l h;by_cases hb:b=b2
   ·subst hb;rw [hheap] at k2;cases k2;obtain ⟨fz',h1,h2⟩:=hf arr e fz;exact ⟨b,arr,e,fz',k1,by rw [hh b,if_pos rfl,hheap,Q6,h1],h2 rfl k3,k4,k5⟩
   ·exact ⟨b2,arr2,e2,fz2,k1,by rw [hh b2,if_neg hb];exact k2,k3,k4,k5⟩
  bufs:=λi c h=>by
   obtain ⟨k1,k2,k3,k4⟩:=hi.bufs i c h;refine ⟨k1,k2,k3,?_⟩;rcases k4 with k4 | ⟨b2,n2,cap2,arr2,e2,fz2,q1,q2,q3,q4,q5,q6⟩
   ·exact .inl k4
   ·by_cases hb:b=b2
    ·subst hb;rw [hheap] at q4;cases q4;obtain ⟨fz',h1,h2⟩:=hf arr e fz;exact .inr ⟨b,n2,cap2,arr,e,fz',q1,q2,q3,by rw [hh b,if_pos rfl,hheap,Q6,h1],h2 rfl q5,q6⟩
    ·exact .inr ⟨b2,n2,cap2,arr2,e2,fz2,q1,q2,q3,by rw [hh b2,if_neg hb];exact q4,q5,q6⟩
  inj:=hi.inj
  dom:=hi.dom
  glob:=hi.glob
  old:=hi.old
  owns:=λi wd l h=>by
   rcases hi.owns i wd l h with g0 | ⟨g1,g2⟩
   ·exact .inl g0
   refine .inr ⟨g1,?_⟩;rcases g2 with g2 | ⟨b2,n2,cap2,arr2,e2,fz2,q1,q2,q3,q4,q5,q6⟩
   ·exact .inl g2
   ·by_cases hb:b=b2
    ·subst hb;rw [hheap] at q4;cases q4;obtain ⟨fz',h1,h2⟩:=hf arr e fz;exact .inr ⟨b,n2,cap2,arr,e,fz',q1,q2,q3,by rw [hh b,if_pos rfl,hheap,Q6,h1],h2 rfl q5,q6⟩
    ·exact .inr ⟨b2,n2,cap2,arr2,e2,fz2,q1,q2,q3,by rw [hh b2,if_neg hb];exact q4,q5,q6⟩}
theorem sa_bb {l:By} (hok:yX P te) (hd:o.dst=some d) (ho:o.op=.convert t t x) (ht:(te t).map (·.ty)=some (.slice e)) (he:(te e).map (·.ty)=some (.int .u8)) (hx:s.get te t x=some (.buf k l.length)) (hk:s.blk k=some (.buf (.bytes l))) (hl:l≠[]) :
  SA P o s ⟨opS x (.buf k l.length),[(k,.buf (.bytes l))],[],some (d,some (.buf k l.length)),[]⟩:=by
 refine ⟨?_,zM hx,by intro e he;simp at he;subst he;exact hk,by intro k hk';simp at hk'⟩;intro cx s' a w K Q hm hs' hws hk';obtain ⟨M,κ,tip,h0,hp,hi⟩:=hs';have hbk:s'.blk k=some (.buf (.bytes l)):=hm.2.1 (k,.buf (.bytes l)) (by simp);have hx':=yF hi (yN hx s' hm.1);obtain ⟨b1,b2,b3,b4⟩:=hi.bufs k _ hbk;have hevx:a.eval x=tip k:=by
  have hx2:=hx';generalize a.eval x=zx at hx2;cases hx2 with
  | buf _ _ c' _ g1 g2 g3 g4 g5=>rw [hbk] at g1;cases g1;exact g5 rfl
 rcases b4 with ⟨hnil,_⟩ | ⟨b,n,cap,arr,e1,fz,htip,hκ,hbase,hheap,hfree,hcap,hml,hM⟩
 ·rw [hnil] at b1;cases b1;exact (hl rfl).elim
 ·unfold Oper.wp;have:(execOp a.eval o).run P w=.ok (.value (tip k)) (w.freeze ⟨b,arr.size,none⟩ 1):=by
   rw [htip] at hevx ⊢;simp [execOp,ho,hevx,convert,run_underlying (xA hok ht),run_underlying (zG2 hok he),markStringish,shape,Sem.run,World.shape?,hheap,freeze]
  rw [this];show K (a.put o.dst _) _;rw [hd];refine hk' _ _ ⟨M,κ,tip,h0,hp,?_⟩;have hr:=hx';rw [hevx] at hr;exact (hi.frzMark hκ hbase hheap).put (hws d (by simp [Mic.ws])) hr
theorem sa_copy {m:By} (hok:yX P te) (hd:o.dst=some d) (ho:o.op=.call { callee:=.builtin .copy,args:=#[x,y],argTypes:=#[t,t'] }) (ht:(te t).map (·.ty)=some (.slice e)) (he:te e=some ei) (hw:ei.w=1)
  (hx:s.get te t x=some (.ref k off n)) (hk:s.blk k=some (.var l)) (hl:off+n<=l.length) (hy:s.get te t' y=some vy) (hp:s.rd vy=some (.bytes m,bs)) :
  SA P o s ⟨opS x (.ref k off n)++opS y vy,(k,.var l) :: bs,[],some (d,some (.p (.int .i64 (min m.length n:Nat)))),[(k,.var (rN l off ((m.take n).map λu=>.p (.int .u8 u.toNat))))]⟩:=by
 refine ⟨?_,yM (zM hx) (zM hy),λe he=>(List.mem_cons.1 he).elim (λh=>by subst h;exact hk) (uM vy _ bs hp e),by intro k hk';simp at hk'⟩;intro cx s' a w K Q hm hs' hws hk';obtain ⟨M,κ,tip,h0,hpk,hi⟩:=hs';have hbk:s'.blk k=some (.var l):=hm.2.1 (k,.var l) (by simp);have hx':=yF hi (yN hx s' (yI hm.1));have hy':=kE hi hy hp (zZ hm.1) (λe he=>hm.2.1 e (by simp [he]));obtain ⟨b,arr,e1,fz,q1,q2,q3,q4,q5,q6,q7⟩:=hi.vars k l hbk;obtain ⟨info,z,i1,i2,i3,i4,i5⟩:=(hok e ei he).info;have hu:=xA hok ht;have hsz1:(P.info? e).map (·.size)=some 1:=by rw [i1,Q6,i2,hw]
 generalize hev:a.eval x=zx at hx';cases hx' with
 | ref _ _ _ b' l' g1 g2=>
 rw [q1] at g1;cases g1;have hfin:∀ (w':World) (vs:List Value),(execOp a.eval o).run P w=.ok (.value (.int .i64 (min m.length n:Nat))) w'->w'=w.setCells b off vs->vs=(m.take n).map (λu=>.int .u8 u.toNat)->o.wp P a w K Q:=by
  intro w' vs h1 h2 h3;subst h2;unfold Oper.wp;rw [h1];show K (a.put o.dst _) _;rw [hd];refine hk' _ _ ?_;rw [sN];refine ⟨M,κ,tip,h0,hpk,(hi.setVar hbk q1 (by simp;omega) (by simp [h3]) ?_).put (hws d (by simp [Mic.ws])) (.p _ _ (.int _ _))⟩;intro j q hq;rw [List.getElem?_map] at hq;obtain ⟨u,h4,h5⟩:=Q5.1 hq;subst h5;rw [h3,List.getElem?_map,h4];exact .p _ _ (.int _ _)
 generalize hevy:a.eval y=zy at hy';cases hy' with
 | bytes0=>
  refine hfin w [] ?_ rfl (by simp);have:=run_copy_none (P:=P) w t t' o.type e (some ⟨b,off,none⟩) none n n 0 0 hu hsz1 (by simp [Nat.min_def]);simp [execOp,ho,hev,hevy,resolve,invoke,builtin,this,goInt]
 | bytesE aa=>
  refine hfin w [] ?_ rfl (by simp);have:=run_copy_none (P:=P) w t t' o.type e (some ⟨b,off,none⟩) (some aa) n n 0 0 hu hsz1 (by simp [Nat.min_def]);simp [execOp,ho,hev,hevy,resolve,invoke,builtin,this,goInt]
 | bytes _ b2 o2 n2 c2 e1' e2' e3'=>
  have hcs:((m.take n).map λu=>Qe .u8 u.toNat).length=Nat.min n2 n:=by simp [e1',Nat.min_comm]
  have hrun:=run_copy_cells (P:=P) w t t' o.type e b off n n ⟨b2,o2,none⟩ n2 c2 ((m.take n).map λu=>Qe .u8 u.toNat) hu hsz1 hcs
   (by
    intro j u hu';rw [List.getElem?_map] at hu';obtain ⟨u',h4,h5⟩:=Q5.1 hu';rw [List.getElem?_take] at h4;split at h4
    ·rw [add_off,<- h5];exact hi.mem _ _ _ (e3' j u' h4)
    ·cases h4)
   (by
     intro j hj;simp at hj;have:off+j<arr.size:=by omega
     simp [Qp,q2,this])
   (by intro j hj;simp at hj;exact oC q2 q3 (by omega))
   (by intro u hu';obtain ⟨u',_,rfl⟩:=Qo.1 hu';rfl)
  refine hfin _ _ ?_ rfl rfl;have hmin:((m.take n).map λu=>Qe .u8 u.toNat).length=min m.length n:=by simp [Nat.min_comm]
  rw [hmin] at hrun;simp [execOp,ho,hev,hevy,resolve,invoke,builtin,hrun,goInt]
end
def ck (b:Bool):Option Unit:=bif b then some () else none
theorem xH {b:Bool} {u:Unit} (h:ck b=some u):b=true:=by cases b<;>simp [ck] at h ⊢
def idx (l:List α) (i:Int):Option α:=if 0<=i then l[i.toNat]? else none
def sub (l:List α) (lo hi:Int):Option (List α):=if 0<=lo/\lo<=hi/\hi<=l.length then some ((l.drop lo.toNat).take (hi.toNat - lo.toNat)) else none
def upd (l:List α) (i:Int) (v:α):Option (List α):=if 0<=i/\i<l.length then some (l.set i.toNat v) else none
theorem eZ {l:List α} {i:Int} {x:α} (h:idx l i=some x):0<=i/\l[i.toNat]? = some x:=by
 unfold idx at h;split at h
 ·exact ⟨‹_›,h⟩
 ·cases h
theorem zVf {l:By} {i:Int} {x:UInt8} (h:idx l i=some x):(PV.bytes l).idx i=some (.int .u8 x.toNat):=by
 obtain ⟨h0,h1⟩:=eZ h;simp [PV.idx,h0,h1]
theorem idxM {l:List α} {i:Int} {x:α} (h:idx l i=some x):(PV.sl w (l.map f)).idx i=some (f x):=by
 obtain ⟨h0,h1⟩:=eZ h;simp [PV.idx,h0,h1]
theorem zRr {l r:List α} {lo hi:Int} (h:sub l lo hi=some r):0<=lo/\lo<=hi/\hi<=l.length/\r=(l.drop lo.toNat).take (hi.toNat - lo.toNat):=by
 unfold sub at h;split at h
 ·rename_i hc;cases h;exact ⟨hc.1,hc.2.1,hc.2.2,rfl⟩
 ·cases h
theorem mV (n:Int):0<=IntKind.u64.wrap n:=by
 simp [IntKind.wrap,IntKind.signed,IntKind.bits];exact Int.emod_nonneg _ (by decide)
section
theorem mv (hok:yX P te) (ho:o.op=.move x) (h:s.get te o.type x=some v):VA P o s (opS x v) [] v:=zUl (.inl ho) h
theorem asg (hok:yX P te) (ho:o.op=.assign x) (h:s.get te o.type x=some v):VA P o s (opS x v) [] v:=zUl (.inr ho) h
theorem iop (hok:yX P te) (f:IOp) {k:IntKind} (ho:o.op=.binOp f.op tx x y tyy) (hx:s.get te tx x=some (.p (.int k a))) (hy:s.get te tyy y=some (.p (.int k b))):VA P o s (opS x (.p (.int k a))++opS y (.p (.int k b))) [] (.p (.int k (f.val k a b))):=zS4 f ho hx hy
theorem iop8 (hok:yX P te) (f:IOp) (ho:o.op=.binOp f.op tx x y tyy) (hx:s.get te tx x=some (.p (.int .u8 a))) (hy:s.get te tyy y=some (.p (.int .u8 b))):VA P o s (opS x (.p (.int .u8 a))++opS y (.p (.int .u8 b))) [] (.p (.int .u8 (u8 (f.val .u8 a b)).toNat)):=zZj f ho hx hy
theorem cmp (hok:yX P te) (f:COp) {k:IntKind} (ho:o.op=.binOp f.op tx x y tyy) (hx:s.get te tx x=some (.p (.int k a))) (hy:s.get te tyy y=some (.p (.int k b))):VA P o s (opS x (.p (.int k a))++opS y (.p (.int k b))) [] (.p (.bool (f.val a b))):=zZ0 f ho hx hy
theorem scm (hok:yX P te) (f:COp) {a b:By} (ho:o.op=.binOp f.op tx x y tyy) (hx:s.get te tx x=some (.p (.str a))) (hy:s.get te tyy y=some (.p (.str b))):VA P o s (opS x (.p (.str a))++opS y (.p (.str b))) [] (.p (.bool (SOp f a b))):=zZk f ho hx hy
theorem pkT (hok:yX P te) {c a b:Operand} {bb:Bool} (hbb:bb=true) (ho:o.op=.pick c a b) (hc:s.get te 0 c=some (.p (.bool bb))) (h:s.get te o.type a=some v):VA P o s (opS c (.p (.bool true))++opS a v) [] v:=yC6 ho hbb hc h
theorem pkF (hok:yX P te) {c a b:Operand} {bb:Bool} (hbb:bb=false) (ho:o.op=.pick c a b) (hc:s.get te 0 c=some (.p (.bool bb))) (h:s.get te o.type b=some v):VA P o s (opS c (.p (.bool false))++opS b v) [] v:=yFx ho hbb hc h
theorem lnS (hok:yX P te) (ho:o.op=.call { callee:=.builtin .len,args:=#[x],argTypes:=#[t] }) (ht:(te t).map (·.ty)=some (.slice e)) (hx:s.get te t x=some v) (hp:s.rd v=some (p,bs)) (hs:p.isSlice=true):VA P o s (opS x v) bs (.p (.int .i64 p.len)):=
 zX0 hok ho (.inl ⟨e,ht⟩) hx hp (by cases p<;>simp [PV.isSlice] at hs<;>rfl) (λ_=>hs) (λh=>by rw [ht] at h;cases h)
theorem lnT (hok:yX P te) {l:By} (ho:o.op=.call { callee:=.builtin .len,args:=#[x],argTypes:=#[t] }) (ht:(te t).map (·.ty)=some .str) (hx:s.get te t x=some (.p (.str l))):VA P o s (opS x (.p (.str l))) [] (.p (.int .i64 l.length)):=
 zX0 hok ho (.inr ht) hx rfl rfl (λ⟨e,h⟩ =>by rw [ht] at h;cases h) (λ_=>rfl)
theorem lnM (hok:yX P te) {l:List α} (ho:o.op=.call { callee:=.builtin .len,args:=#[x],argTypes:=#[t] }) (ht:(te t).map (·.ty)=some (.slice e)) (hx:s.get te t x=some v) (hp:s.rd v=some (.sl w (l.map f),bs)):VA P o s (opS x v) bs (.p (.int .i64 l.length)):=by
 have:=lnS hok ho ht hx hp rfl;simpa [Q9] using this
theorem slB (hok:yX P te) {l r:By} (h:sub l a b=some r) (ho:o.op=.slice t x lo hi mx)
  (ht:(te t).map (·.ty)=some (.slice e)) (he:te e=some ei) (hx:s.get te t x=some v) (hp:s.rd v=some (.bytes l,bs)) (hw:1=ei.w)
  (hlo:Bd s te lo lo' rl) (hhi:Bd s te hi hi' rh) (hmx:Bd s te mx mx' rm) (hm:mx'=none∨(mx'=hi'/\hi'.isSome=true)) (ea:lo'.getD 0=a) (eb:hi'.getD l.length=b) :
  VA P o s (opS x v++(rl++(rh++rm))) bs (.p (.bytes r)):=by
 obtain ⟨h0,h1,h2,h3⟩:=zRr h;subst ea;have hh:hi'.getD ((PV.bytes l).len:Int)=b:=eb;have:=zQ8 (P:=P) hok ho ht he hx hp rfl hw hlo hhi hmx (by rcases hm with hm | ⟨hm,hs⟩<;>simp [hm]) h0 (by rw [hh];exact h1)
  (by
    rw [hh];rcases hm with hm | ⟨hm,hs⟩
    ·rw [hm];exact h2
    ·rw [hm];obtain ⟨i,hi⟩:=Q7.1 hs;rw [hi] at eb ⊢;simp at eb ⊢;omega)
  (by
    rcases hm with hm | ⟨hm,hs⟩
    ·rw [hm];simp
    ·rw [hm];obtain ⟨i,hi⟩:=Q7.1 hs;rw [hi] at eb ⊢;simp at eb ⊢;rw [eb];exact h2)
 rw [hh] at this;rw [h3];exact this
theorem slM (hok:yX P te) {l r:List α} (h:sub l a b=some r) (ho:o.op=.slice t x lo hi mx)
  (ht:(te t).map (·.ty)=some (.slice e)) (he:te e=some ei) (hx:s.get te t x=some v) (hp:s.rd v=some (.sl w (l.map f),bs)) (hw:w=ei.w)
  (hlo:Bd s te lo lo' rl) (hhi:Bd s te hi hi' rh) (hmx:Bd s te mx mx' rm) (hm:mx'=none∨(mx'=hi'/\hi'.isSome=true)) (ea:lo'.getD 0=a) (eb:hi'.getD l.length=b) :
  VA P o s (opS x v++(rl++(rh++rm))) bs (.p (.sl w (r.map f))):=by
 obtain ⟨h0,h1,h2,h3⟩:=zRr h;subst ea;have hh:hi'.getD ((PV.sl w (l.map f)).len:Int)=b:=by simp only [Q9,Ql];exact eb
 have hlen:((PV.sl w (l.map f)).len:Int)=l.length:=by simp [Q9]
 have:=zQ8 (P:=P) hok ho ht he hx hp rfl hw hlo hhi hmx (by rcases hm with hm | ⟨hm,hs⟩<;>simp [hm]) h0 (by rw [hh];exact h1)
  (by
    rw [hh];rcases hm with hm | ⟨hm,hs⟩
    ·rw [hm,Option.getD_none,hlen];exact h2
    ·rw [hm];obtain ⟨i,hi⟩:=Q7.1 hs;rw [hi] at eb ⊢;simp at eb ⊢;omega)
  (by
    rcases hm with hm | ⟨hm,hs⟩
    ·rw [hm];simp
    ·rw [hm,hlen];obtain ⟨i,hi⟩:=Q7.1 hs;rw [hi] at eb ⊢;simp at eb ⊢;rw [eb];exact h2)
 rw [hh] at this;rw [h3];simpa [PV.sub,List.map_take,List.map_drop] using this
end
theorem zRy (hd:o.dst=some d) (hy:∀ (cx:Ctx) (s:AS) (a:Act) (w:World),SRel cx s a w->s.env dj=some q->Region.wanted o (yielded ops a.tmps)=false) :
  zUk P ops o ⟨[(dj,q)],[],[],some (d,some (.p (.tup []))),[]⟩:=by
 intro cx s a w K Q hm hs hw hk;have:=hy cx s a w hs (hm.1 (dj,q) (by simp));rw [if_neg (by rw [this];simp),hd];obtain ⟨M,κ,tip,h0,hp,hi⟩:=hs;exact hk _ _ ⟨M,κ,tip,h0,hp,hi.put (hw d (by simp [Mic.ws])) (.p _ _ (.tup [] #[] rfl (by simp)))⟩
section
theorem RK.sk {b b2:Bool} (hb2:b2=b) (hd0:(o.dst,o.guard,(ops[j]?).bind (·.dst),s.env dj,b')=(some d,some (j,b'),some dj,some (.p (.bool b2)),!b))
  (k:RK P ops r (s.put d (.p (.tup []))) λs' ms=>K s' (⟨[(dj,.p (.bool b))],[],[],some (d,some (.p (.tup []))),[]⟩:: ms)):RK P ops (o :: r) s K:=have ⟨hd,hd0⟩:=pq hd0;have ⟨hg,hd0⟩:=pq hd0;have ⟨hj,hd0⟩:=pq hd0;have ⟨hb,hn⟩:=pq hd0;by
 obtain ⟨s',ms,h1,h2⟩:=k;subst hb2 hn;refine ⟨s',_,.cons o r _ s s' ms (zRy (q:=.p (.bool b2)) hd λcx s a w hs he=>?_) ⟨by intro e he;simp at he;subst he;exact hb,by simp,by simp⟩ h1,h2⟩;have hy:=zMs hs hj he;cases b2<;>simp [Region.wanted,hg,hy]
theorem RK.su (hd0:(o.dst,o.guard,(ops[j]?).bind (·.dst),s.env dj)=(some d,some (j,b'),some dj,some (.p (.tup []))))
  (k:RK P ops r (s.put d (.p (.tup []))) λs' ms=>K s' (⟨[(dj,.p (.tup []))],[],[],some (d,some (.p (.tup []))),[]⟩:: ms)):RK P ops (o :: r) s K:=have ⟨hd,hd0⟩:=pq hd0;have ⟨hg,hd0⟩:=pq hd0;have ⟨hj,hb⟩:=pq hd0;by
 obtain ⟨s',ms,h1,h2⟩:=k;refine ⟨s',_,.cons o r _ s s' ms (zRy (q:=.p (.tup [])) hd λcx s a w hs he=>?_) ⟨by intro e he;simp at he;subst he;exact hb,by simp,by simp⟩ h1,h2⟩;obtain ⟨M,κ,tip,h0,hp,hi⟩:=hs;obtain ⟨y,hy,hr⟩:=hi.env dj _ he;have:yielded ops a.tmps j=none:=by
  cases hr with
  | p _ _ hr=>cases hr;simp [yielded,hj,hy]
 simp [Region.wanted,hg,this]
end
section
structure OQ {J:Type} (cx:Ctx) (f:J->Exit×AS) (j:J) (e:Exit) (s:AS):Prop where
 fst:e=(f j).1
 snd:Imp cx.pk s (f j).2
theorem lM {J:Type} {c:Code} (f:J->Exit×AS) (j:J) (h:awp P cx c (OQ cx f j) s) (k:Q (f j).1 (f j).2):awp P cx c Q s:=λa w hs=>
 wp_mono (h a w hs) λe a' w' ⟨s',h1,h2,h3⟩ =>⟨(f j).2,h3 cx a' w' rfl h1,h2▸k⟩
def LF (E:X->AS) (f:Y->Exit×AS):X ⊕ Y->Exit×AS
 | .inl x=>(.normal,E x)
 | .inr y=>f y
theorem zMk {step:X->Option (X ⊕ Y)} {x0:X} {y:Y} (E:X->AS) (f:Y->Exit×AS) (hl:zT step n x0=some y) (hi:Imp cx.pk s (E x0)) (hne:∀ y,(f y).1≠.normal)
  (hb:∀ x r,step x=some r->awp P cx body (OQ cx (LF E f) r) (E x)) (k:Q (f y).1 (f y).2):awp P cx (.loop body) Q s:=by
 refine zT3 hi (lM f y ?_ k);refine yGt E step (λy=>OQ cx f y) (λy s h=>hne y h.1.symm) (λx r hr=>?_) n x0 y hl;refine zCb (hb x r hr) (λe s h=>?_);cases r with
 | inl x'=>exact ⟨h.1,h.2⟩
 | inr y'=>exact ⟨h.1,h.2⟩
theorem zRs {f:FuncId} {fn:Func} {rs:AS} (E:AS) (hf:P.funcs[f]? = some fn) (hb:fn.body=some body) (hnm:(fn.name == "runtime.NumGoroutine")=false) (hnt:na<=fn.ntmps) (hks:∀ k,k<BIG->(as.blk k).isSome=true->k∈ks)
  (hr:∀ cx:Ctx,PK cx ks->tB P fn cx E rs) (h:∀ cx:Ctx,cx.nt=fn.ntmps->PK cx ks->awp P cx body (OQ cx (λ_:Unit=>(.ret,E)) ()) as):Ok P f na as rs:=
 zO5 hf hb hnm hnt hks λcx h1 h2=>lM _ _ (h cx h1 h2) ⟨.inl rfl,hr cx h2⟩
end
theorem cond_some {c:Bool} {a b:Option β} {r:β} (h:(bif c then a else b)=some r):(c=true/\a=some r)∨(c=false/\b=some r):=by cases c<;>simp_all
def lt (e:α) (f:α->Option β):Option β:=f e
theorem zXg (h:c.isSlice=true):c.take c.len=c:=by
 cases c<;>simp_all [PV.isSlice,PV.take,Q9]
theorem rdT (h:s.blk k=some (.buf c)) (hs:c.isSlice=true):s.rd (.buf k c.len)=some (c,[(k,.buf c)]):=by
 simp [AS.rd,h,zXg hs]
theorem rdB {l:By} (h:s.blk k=some (.buf (.bytes l))):s.rd (.buf k l.length)=some (.bytes l,[(k,.buf (.bytes l))]):=rdT (c:=.bytes l) h rfl
theorem rdM {l:List α} (h:s.blk k=some (.buf (.sl w (l.map f)))):s.rd (.buf k l.length)=some (.sl w (l.map f),[(k,.buf (.sl w (l.map f)))]):=by
 have:=rdT (s:=s) (k:=k) (c:=.sl w (l.map f)) h rfl;simpa [Q9] using this
theorem uL:s.rdL []=some ([],[]):=by simp [AS.rdL]
theorem zN {ps:List PV} {bs':LB} (h:s.rd v=some (p,bs)) (h':s.rdL l=some (ps,bs')):s.rdL (v :: l)=some (p :: ps,bs++bs'):=by simp [AS.rdL,h,h']
theorem nN {ps:List PV} (h:s.rdL l=some (ps,bs)):s.rd (.ag l)=some (.agg ps,bs):=by simp [AS.rd,h]
theorem xE {a b:Nat} (h:Qf a b=true):a<=b:=Q1 h
def TI.known (i:TI):Bool:=match i.ty with | .other=>false | _=>true
theorem zRf (h:i.known=true):i.ty≠.other:=by intro e;simp [TI.known,e] at h
section
theorem iopE (hok:yX P te) (f:IOp) {k:IntKind} {c:Int} (hc:f.val k a b=c) (ho:o.op=.binOp f.op tx x y tyy) (hx:s.get te tx x=some (.p (.int k a))) (hy:s.get te tyy y=some (.p (.int k b))):VA P o s (opS x (.p (.int k a))++opS y (.p (.int k b))) [] (.p (.int k c)):=hc▸zS4 f ho hx hy
theorem quo (hok:yX P te) {k:IntKind} (h0:(b==0)=false) (ho:o.op=.binOp .quo tx x y tyy) (hx:s.get te tx x=some (.p (.int k a))) (hy:s.get te tyy y=some (.p (.int k b))):VA P o s (opS x (.p (.int k a))++opS y (.p (.int k b))) [] (.p (.int k (k.wrap (a.tdiv b)))):=yB9 ho hx hy (by simpa using h0)
theorem rem (hok:yX P te) {k:IntKind} (h0:(b==0)=false) (ho:o.op=.binOp .rem tx x y tyy) (hx:s.get te tx x=some (.p (.int k a))) (hy:s.get te tyy y=some (.p (.int k b))):VA P o s (opS x (.p (.int k a))++opS y (.p (.int k b))) [] (.p (.int k (a.tmod b))):=yAk ho hx hy (by simpa using h0)
theorem shl (hok:yX P te) {k:IntKind} (h0:0<=b) (ho:o.op=.binOp .shl tx x y tyy) (hx:s.get te tx x=some (.p (.int k a))) (hy:s.get te tyy y=some (.p (.int k' b))):VA P o s (opS x (.p (.int k a))++opS y (.p (.int k' b))) [] (.p (.int k (lT k a b))):=yA4 ho hx hy h0
theorem shr (hok:yX P te) {k:IntKind} (h0:0<=b) (ho:o.op=.binOp .shr tx x y tyy) (hx:s.get te tx x=some (.p (.int k a))) (hy:s.get te tyy y=some (.p (.int k' b))):VA P o s (opS x (.p (.int k a))++opS y (.p (.int k' b))) [] (.p (.int k (wK k a b))):=zXr ho hx hy h0
theorem shrE (hok:yX P te) {k:IntKind} {c:Int} (hc:wK k a b=c) (h0:0<=b) (ho:o.op=.binOp .shr tx x y tyy) (hx:s.get te tx x=some (.p (.int k a))) (hy:s.get te tyy y=some (.p (.int k' b))):VA P o s (opS x (.p (.int k a))++opS y (.p (.int k' b))) [] (.p (.int k c)):=hc▸zXr ho hx hy h0
theorem not' (hok:yX P te) {a:Bool} (ho:o.op=.unOp .not tx x) (hx:s.get te tx x=some (.p (.bool a))):VA P o s (opS x (.p (.bool a))) [] (.p (.bool (!a))):=yBf ho hx
theorem com (hok:yX P te) {k:IntKind} (ho:o.op=.unOp .xor tx x) (hx:s.get te tx x=some (.p (.int k a))):VA P o s (opS x (.p (.int k a))) [] (.p (.int k (zQu k a))):=yB5 ho hx
theorem minI (hok:yX P te) {k:IntKind} (ho:o.op=.call { callee:=.builtin .min,args:=#[x,y],argTypes:=#[t,t'] }) (hx:s.get te t x=some (.p (.int k a))) (hy:s.get te t' y=some (.p (.int k b))):VA P o s (opS x (.p (.int k a))++opS y (.p (.int k b))) [] (.p (.int k (if b<a then b else a))):=yCv ho hx hy
theorem ixB (hok:yX P te) {l:By} {u:UInt8} {i:Int} (h:idx l i=some u) (ho:o.op=.indexAddr t x y) (ht:(te t).map (·.ty)=some (.slice e)) (he:te e=some ei) (hx:s.get te t x=some v) (hp:s.rd v=some (.bytes l,bs)) (hw:1=ei.w) (hy:s.get te 0 y=some (.p (.int .i64 i))) :
  VA P o s (opS x v++opS y (.p (.int .i64 i))) bs (.p (.cptr (.int .u8 u.toNat))):=zXj hok ho ht he hx hp hw hy (zVf h)
theorem ixM (hok:yX P te) {l:List α} {i:Int} (h:idx l i=some u) (ho:o.op=.indexAddr t x y) (ht:(te t).map (·.ty)=some (.slice e)) (he:te e=some ei) (hx:s.get te t x=some v) (hp:s.rd v=some (.sl w (l.map f),bs)) (hw:w=ei.w) (hy:s.get te 0 y=some (.p (.int .i64 i))) :
  VA P o s (opS x v++opS y (.p (.int .i64 i))) bs (.p (.cptr (f u))):=zXj hok ho ht he hx hp hw hy (idxM h)
theorem ixS (hok:yX P te) {l:By} {i:Int} {u:UInt8} (h:idx l i=some u) (ho:o.op=.index t x y) (ht:(te t).map (·.ty)=some .str) (hx:s.get te t x=some (.p (.str l))) (hy:s.get te 0 y=some (.p (.int .i64 i))) :
  VA P o s (opS x (.p (.str l))++opS y (.p (.int .i64 i))) [] (.p (.int .u8 u.toNat)):=zU9 hok ho ht hx hy (eZ h).1 (eZ h).2
theorem ixV (hok:yX P te) {l:List α} {i:Int} (h:idx l i=some u) (ho:o.op=.index t x y) (ht:(te t).map (·.ty)=some (.arr n e)) (he:te e=some ei) (hne:ei.known=true) (hx:s.get te t x=some v) (hp:s.rd v=some (.agg (l.map f),bs)) (hy:s.get te 0 y=some (.p (.int .i64 i))) (hn:Qf l.length n=true) (hag:ei.isAgg=false) (hw:ei.w=1) (hf:∀ a,(f a).cells=[f a]) :
  VA P o s (opS x v++opS y (.p (.int .i64 i))) bs (.p (f u)):=by
 obtain ⟨h0,h1⟩:=eZ h;have hlt:i.toNat<l.length:=(List.getElem?_eq_some_iff.1 h1).1;have hn':=xE hn;refine zQz hok ho ht he (zRf hne) hx hp hy h0 (by omega) ?_;rw [hag,hw];simp only [kV,cond_false,Qg,List.getElem?_map,h1,Q6];have:=hf u;cases hq:f u<;>first | rfl | skip
 rw [hq] at this;simp only [PV.cells] at this;have h2:=congrArg SizeOf.sizeOf this;simp at h2;omega
end
def nzw (i:TI):Bool:=!Nat.beq i.w 0
theorem zX1 (h:nzw i=true):i.w≠0:=by intro e;simp [nzw,e] at h
section
theorem fa (hok:yX P te) {f:Nat} (ho:o.op=.fieldAddr t x f) (ht:(te t).map (·.ty)=some (.struct fs)) (hf:fs[f]? = some (ft,fo)) (he:te ft=some fi) (hw:nzw fi=true)
  (hx:s.get te 0 x=some (.ptr k off)):VA P o s (opS x (.ptr k off)) [] (.ptr k (off+fo)):=yCa hok ho ht hf he (zX1 hw) hx
theorem fc (hok:yX P te) {l:List PV} {q:PV} {f:Nat} (ho:o.op=.fieldAddr t x f) (ht:(te t).map (·.ty)=some (.struct fs)) (hf:fs[f]? = some (ft,fo)) (he:te ft=some fi) (hw:nzw fi=true)
  (hx:s.get te 0 x=some (.p (.cptr (.agg l)))) (hq:kV fi.isAgg l fo fi.w=some q):VA P o s (opS x (.p (.cptr (.agg l)))) [] (.p (.cptr q)):=zZm hok ho ht hf he (zX1 hw) hx hq
theorem ncp (hok:yX P te) (ho:o.op=.nilCheck x) (hx:s.get te 0 x=some (.ptr k n)):VA P o s (opS x (.ptr k n)) [] (.ptr k n):=zZl ho hx (.inl ⟨k,n,rfl⟩)
theorem iaK (hok:yX P te) {i:Nat} (ho:o.op=.indexAddr t x y) (ht:(te t).map (·.ty)=some (.arr n e)) (he:te e=some ei) (hx:s.get te t x=some (.ptr k off)) (hy:s.get te 0 y=some (.p (.int .i64 i))) (h1:Qa i n=true) :
  VA P o s (opS x (.ptr k off)++opS y (.p (.int .i64 i))) [] (.ptr k (off+i*ei.w)):=zT7 hok ho ht he hx hy (Int.natCast_nonneg i) (by have:=Q1 h1;omega)
theorem ld (hok:yX P te) (ho:o.op=.load t x) (ht:te t=some i) (hp:i.plain=true) (hx:s.get te 0 x=some (.ptr k off)) (hb:s.blk k=some (.var l)) (hv:l[off]? = some v):VA P o s (opS x (.ptr k off)) [(k,.var l)] v:=zZa hok ho ht hp hx hb hv
theorem ldN (hok:yX P te) (ho:o.op=.load t x) (ht:te t=some i) (hp:i.isAgg=true) (hx:s.get te 0 x=some (.ptr k off)) (hb:s.blk k=some (.var l)) (hv:Qf (off+i.w) l.length=true):VA P o s (opS x (.ptr k off)) [(k,.var l)] (.ag ((l.drop off).take i.w)):=zW9 hok ho ht hp hx hb (xE hv)
theorem ldC (hok:yX P te) {q:PV} (ho:o.op=.load t x) (ht:te t=some i) (hp:i.plain=true) (hx:s.get te 0 x=some (.p (.cptr q))) (hq:q.cells=[q]):VA P o s (opS x (.p (.cptr q))) [] (.p q):=zWg hok ho ht hp hx hq
theorem ldCN (hok:yX P te) {l:List PV} (ho:o.op=.load t x) (ht:te t=some i) (hp:i.isAgg=true) (hx:s.get te 0 x=some (.p (.cptr (.agg l)))) (hl:Q8 l.length i.w=true):VA P o s (opS x (.p (.cptr (.agg l)))) [] (.p (.agg l)):=zVr hok ho ht hp hx (Q0 hl)
theorem sto (hok:yX P te) {ax:Operand} (hd:o.dst=none) (ho:o.op=.store t ax x) (ht:te t=some i) (ha:s.get te 0 ax=some (.ptr k off)) (hx:s.get te t x=some v) (hb:s.blk k=some (.var l))
  (hw:Q8 v.cells.length i.w=true) (hl:Qf (off+i.w) l.length=true) (hone:v.cells.all AV.one=true):SA P o s ⟨opS ax (.ptr k off)++opS x v,[(k,.var l)],[],none,[(k,.var (rN l off v.cells))]⟩:=zVv hok hd ho ht ha hx hb (Q0 hw) (xE hl) hone
theorem al (hok:yX P te) (hd:o.dst=some d) (ho:o.op=.alloc t) (ht:te t=some i) (hb:s.blk d=none):SA P o s ⟨[],[],[d],some (d,some (.ptr d 0)),[(d,.var (i.z.map zA))]⟩:=zXo hok hd ho ht hb
theorem bx (hok:yX P te) (hd:o.dst=some d) (ho:o.op=.box t x) (hx:s.get te t x=some v) (hb:s.blk d=none):SA P o s ⟨opS x v,[],[d],some (d,some (.ptr d 0)),[(d,.var v.cells)]⟩:=yAg hd ho hx hb
theorem pn:mN s te [] [] []:=.nil
theorem pc (t:TypeId) {i:Nat} {ps:List (Nat×Operand)} (h:s.get te t x=some v) (k:mN s te ps vs rs):mN s te ((i,x) :: ps) ((i,v) :: vs) (opS x v++rs):=.cons _ _ t _ _ _ _ h k
theorem bld (hok:yX P te) (ho:o.op=.build t ps) (hpl:ps.toList=pl) (ht:te t=some i) (hty:i.ty=.struct fs) (hfs:fs.all (λf=>(te f.1).isSome)=true)
  (hp:mN s te pl vs rs) (hf:mJ (zMr te fs) (i.z.map zA) vs=some l):VA P o s rs [] (.ag l):=zX4 hok ho hpl ht hty hfs hp hf
theorem bldA (hok:yX P te) (ho:o.op=.build t ps) (hpl:ps.toList=pl) (ht:te t=some i) (hty:i.ty=.arr n e) (he:te e=some ei)
  (hp:mN s te pl vs rs) (hf:mJ (λj=>some (j*ei.w,ei.w)) (i.z.map zA) vs=some l):VA P o s rs [] (.ag l):=zVk hok ho hpl ht hty he hp hf
theorem yA7 (l:List α) (hf:∀ a,(f a).cells.length=w):cV w (.sl w (l.map f)) (flatCells (l.map f)):=.sl _ λp hp=>by
 obtain ⟨a,_,rfl⟩:=Qo.1 hp;exact hf a
theorem qn:mI s te t n [] [] [] []:=.nil n
theorem qc {ps:List (Nat×Operand)} (h:s.get te t x=some v) (hr:s.rd v=some (p,bs)) (k:mI s te t (n+1) ps vs rs bb):mI s te t n ((n,x) :: ps) ((n,.p p) :: vs) (opS x v++rs) (bs++bb):=.cons n x v p bs ps vs rs bb h hr k
theorem litB (hok:yX P te) (l:By) (hd:o.dst=some d) (ho:o.op=.buildSlice t n ps) (hpl:ps.toList=pl) (ht:(te t).map (·.ty)=some (.slice e)) (he:te e=some ei) (hz:ei.z.length=ei.w) (hw0:1=ei.w) (hn:Qf n 16777216=true)
  (hp:mI s te e 0 pl vs rs bb) (hf:mJ (λj=>some (j*ei.w,ei.w)) (sD ei.z n) vs=some ((l.map λx=>PV.int .u8 x.toNat).map .p)) (hcn:l.length=n) (hk:s.blk d=none) :
  SA P o s ⟨rs,bb,[d],some (d,some (.buf d l.length)),[(d,.buf (.bytes l))]⟩:=
 zXk (c:=.bytes l) hok hd ho hpl ht he hz (by omega) (by rw [<- hw0];have:=xE hn;omega) hp hf (.bytes l hw0.symm) hcn hk
theorem lit (hok:yX P te) (f:α->PV) (l:List α) (hd:o.dst=some d) (ho:o.op=.buildSlice t n ps) (hpl:ps.toList=pl) (ht:(te t).map (·.ty)=some (.slice e)) (he:te e=some ei) (hz:ei.z.length=ei.w) (hw:ei.w=w) (hw0:Qa 0 w=true) (hn:Qf (n*w) 16777216=true)
  (hp:mI s te e 0 pl vs rs bb) (hl:∀ a,(f a).cells.length=w) (hf:mJ (λj=>some (j*ei.w,ei.w)) (sD ei.z n) vs=some ((flatCells (l.map f)).map .p)) (hcn:l.length=n) (hk:s.blk d=none) :
  SA P o s ⟨rs,bb,[d],some (d,some (.buf d l.length)),[(d,.buf (.sl w (l.map f)))]⟩:=by
 subst hw;have:=zXk (c:=.sl ei.w (l.map f)) hok hd ho hpl ht he hz (by have:=Q1 hw0;omega) (xE hn) hp hf (yA7 l hl) (by simpa [Q9] using hcn) hk;simpa [Q9] using this
theorem oneM {l:List α} (hf:∀ a,(f a).cells.all PV.one=true):zCk (.sl w (l.map f))=true:=by
 simp only [zCk,List.all_map,Q2,Function.comp];exact λa _=>by simpa using hf a
theorem apNB (hok:yX P te) {m r:By} {b:Nat} (h:xB b [] m=some r) (hd:o.dst=some d) (ho:o.op=.call { callee:=.builtin .append,args:=#[x,y],argTypes:=#[t,t'] })
  (ht:(te t).map (·.ty)=some (.slice e)) (he:te e=some ei) (ht':(te t').map (·.ty)=some (.slice e')) (hx:s.get te t x=some (.nl (.bytes []))) (hcw:1=ei.w) (hz:ei.z.length=ei.w) (hy:s.get te t' y=some vy) (hp:s.rd vy=some (.bytes m,bs)) (hb:ei.b=b) (hb1:Qa 0 b=true) (hk:s.blk d=none) :
  SA P o s ⟨opS x (.nl (.bytes []))++opS y vy,bs,[d],some (d,some (.buf d r.length)),[(d,.buf (.bytes r))]⟩:=by
 subst hb;exact zUs hok hd ho ht he (xA hok ht') (.inr ⟨_,rfl⟩) hx hcw (by omega) hz hy hp (appB h) (zVw h) (by have:=Q1 hb1;omega) hk
theorem apB (hok:yX P te) {l m r:By} {b:Nat} (h:xB b l m=some r) (hd:o.dst=some d) (ho:o.op=.call { callee:=.builtin .append,args:=#[x,y],argTypes:=#[t,t'] })
  (ht:(te t).map (·.ty)=some (.slice e)) (he:te e=some ei) (ht':(te t').map (·.ty)=some (.slice e')) (hx:s.get te t x=some (.buf k l.length)) (hk:s.blk k=some (.buf (.bytes l))) (hcw:1=ei.w) (hz:ei.z.length=ei.w) (hy:s.get te t' y=some vy) (hp:s.rd vy=some (.bytes m,bs)) (hb:ei.b=b) (hb1:Qa 0 b=true) :
  SA P o s ⟨opS x (.buf k l.length)++opS y vy,(k,.buf (.bytes l)) :: bs,[],some (d,some (.buf k r.length)),[(k,.buf (.bytes r))]⟩:=by
 subst hb;exact zX2 (c:=.bytes l) hok hd ho ht he (xA hok ht') (.inr ⟨_,rfl⟩) hx hk hcw (by omega) hz hy hp (appB h) rfl (zVw h) (by have:=Q1 hb1;omega)
theorem apM (hok:yX P te) (f:α->PV) {l r:List α} {b:Nat} (h:xB b l m=some r) (hd:o.dst=some d) (ho:o.op=.call { callee:=.builtin .append,args:=#[x,y],argTypes:=#[t,t'] })
  (ht:(te t).map (·.ty)=some (.slice e)) (he:te e=some ei) (ht':(te t').map (·.ty)=some (.slice e')) (hx:s.get te t x=some (.buf k l.length)) (hk:s.blk k=some (.buf (.sl w (l.map f)))) (hcw:w=ei.w) (hw0:Qa 0 w=true) (hz:ei.z.length=ei.w) (hy:s.get te t' y=some vy) (hp:s.rd vy=some (.sl w (m.map f),bs)) (hone:∀ a,(f a).cells.all PV.one=true) (hb:ei.b=b) (hb1:Qa 0 b=true) :
  SA P o s ⟨opS x (.buf k l.length)++opS y vy,(k,.buf (.sl w (l.map f))) :: bs,[],some (d,some (.buf k r.length)),[(k,.buf (.sl w (r.map f)))]⟩:=by
 subst hb;have hl:(PV.sl w (l.map f)).len=l.length:=by simp [Q9]
 have:=zX2 (c:=.sl w (l.map f)) hok hd ho ht he (xA hok ht') (.inr ⟨_,rfl⟩) (by rw [hl];exact hx) hk hcw (by have:=Q1 hw0;omega) hz hy hp (appM (f:=f) h) (oneM hone) (by have:=zVw h;simpa [Q9,PV.src] using this) (by have:=Q1 hb1;omega);simpa [Q9] using this
theorem an:mP s te [] [] [] [] []:=.nil
theorem ac {xs:List Operand} {ts:List TypeId} {ps:List PV} (h:s.get te t x=some v) (hr:s.rd v=some (p,bs)) (k:mP s te xs ts ps rs bb):mP s te (x :: xs) (t :: ts) (p :: ps) (opS x v++rs) (bs++bb):=.cons _ _ _ _ _ _ _ _ _ _ h hr k
end
section
theorem cl (hok:yX P te) {f:FuncId} {ps:List PV} (h:Ok P f na (mkS (argE 0 ps) []) (mkS [(0,av)] blks)) (hd:o.dst=some d) (ho:o.op=.call { callee:=.value (.func f),args:=xs,argTypes:=ts })
  (hxl:xs.toList=xl) (htl:ts.toList=tl) (ha:mP s te xl tl ps rs bb) (hn:Q8 na ps.length=true) (hf:(blks.map λe=>sh d e.1).all (λk=>(s.blk k).isNone)=true) :
  SA P o s ⟨rs,bb,blks.map λe=>sh d e.1,some (d,some (av.ren (sh d))),blks.map λe=>(sh d e.1,e.2.ren (sh d))⟩:=
 zYq hd ho h hxl htl ha (Q0 hn) (λk hk=>by simpa using (Q2.1 hf) k hk)
theorem clp (hok:yX P te) {f:FuncId} {xa:Operand} {ta:TypeId} {ps:List PV} {bs0:LB} (h:Ok P f na (mkS ((0,.ptr 0 0) :: argE 1 ps) [(0,.var (cs.map .p))]) (mkS [(0,av)] ((0,.var l') :: blks))) (hd:o.dst=some d)
  (ho:o.op=.call { callee:=.value (.func f),args:=xs,argTypes:=ts }) (hxl:xs.toList=xa :: xl) (htl:ts.toList=ta :: tl) (hxa:s.get te ta xa=some (.ptr k 0)) (hbk:s.blk k=some (.var l)) (hcs:s.rdL l=some (cs,bs0))
  (ha:mP s te xl tl ps rs bb) (hn:Q8 na (ps.length+1)=true) (hf:(blks.map λe=>sh d e.1).all (λk=>(s.blk k).isNone)=true) (hne:blks.all (λe=>!Nat.beq e.1 0)=true) :
  SA P o s ⟨opS xa (.ptr k 0)++rs,(k,.var l) :: (bs0++bb),blks.map λe=>sh d e.1,some (d,some (av.ren (shp d k))),((0,.var l') :: blks).map λe=>(shp d k e.1,e.2.ren (shp d k))⟩:=
 zXa hd ho h hxl htl hxa hbk hcs ha (Q0 hn) (λk hk=>by simpa using (Q2.1 hf) k hk) (λe he h0=>by have:=(Q2.1 hne) e he;simp [h0] at this)
end
theorem zUj (hb:s.blk k=some (.var l)):GLe κ κ tip tip s.blk (s.setb k (.var l')).blk where
 var:=λi b li h h'=>by
  by_cases e:i=k
  ·subst e;exact ⟨h,l',zW _ _ _⟩
  ·exact ⟨h,li,by rw [zQ e];exact h'⟩
 buf:=λi c h=>by
  have e:i≠k:=by rintro rfl;rw [hb] at h;cases h
  exact GLe.same (by rw [zQ e];exact h) rfl
 own:=λi c l1 h=>by
  have e:i≠k:=by rintro rfl;rw [hb] at h;cases h
  exact GLe.sameO (by rw [zQ e];exact h) rfl rfl
theorem Inv.reVar {a:Act} {w:World} (hi:Inv cx M κ tip s a w) (hb:s.blk k=some (.var l)) (hlen:l'.length=l.length)
  (h:∀ (j:Nat) (q:AV) (x:Value),l'[j]? = some q->(∀ q0,l[j]? = some q0->RepA M κ tip s.blk q0 x)->RepA M κ tip s.blk q x):Inv cx M κ tip (s.setb k (.var l')) a w:=by
 have gle:=zUj (κ:=κ) (tip:=tip) (l':=l') hb;exact {
  defers:=hi.defers
  size:=hi.size
  fr:=hi.fr
  mem:=hi.mem
  env:=λt v e=>let ⟨x,h1,h2⟩:=hi.env t v e;⟨x,h1,h2.ghost gle⟩
  vars:=λi li hli=>by
   by_cases e:i=k
   ·subst e;rw [zW] at hli;cases hli;obtain ⟨b,arr,e1,fz,q1,q2,q3,q4,q5,q6⟩:=hi.vars i l hb;exact ⟨b,arr,e1,fz,q1,q2,q3,by omega,λj q hq=>(h j q _ hq (λq0 hq0=>q5 j q0 hq0)).ghost gle,q6⟩
   ·rw [zQ e] at hli;obtain ⟨b,arr,e1,fz,q1,q2,q3,q4,q5,q6⟩:=hi.vars i li hli;exact ⟨b,arr,e1,fz,q1,q2,q3,q4,λj q hq=>(q5 j q hq).ghost gle,q6⟩
  bufs:=λi c h=>by
   have e:i≠k:=by rintro rfl;rw [zW] at h;cases h
   rw [zQ e] at h;exact hi.bufs i c h
  inj:=hi.inj
  dom:=λi h=>by
   have e:i≠k:=by rintro rfl;rw [zW] at h;cases h
   rw [zQ e] at h;exact hi.dom i h
  glob:=hi.glob
  old:=hi.old
  owns:=hi.owns.keep λi wd li h=>by
   have e:i≠k:=by rintro rfl;rw [zW] at h;cases h
   rw [zQ e] at h;exact ⟨h,rfl,rfl,λb2 z=>⟨rfl,λo hm=>hm⟩,λj q x hq hr=>hr.ghost gle⟩}
theorem Imp.pureC (j:Nat) (hb:s.blk k=some (.var l)) (hq:l[j]? = some q) (hr:s.rd q=some (p,bs)):Imp pk s (s.setb k (.var (l.set j (.p p)))):=by
 intro cx a w _ hs;obtain ⟨M,κ,tip,h0,hp,hi⟩:=hs;refine ⟨M,κ,tip,h0,hp,hi.reVar hb (by simp) λi q' x hq' hx=>?_⟩;rw [List.getElem?_set] at hq';split at hq'
 ·rename_i e;subst e;split at hq'
  ·cases hq';exact .p _ _ (zKl (hx q hq) hr)
  ·cases hq'
 ·exact hx q' hq'
theorem Imp.promC (j k2:Nat) (hb:s.blk k=some (.var l)) (hq:l[j]? = some (.nl c)) (hk2:s.blk k2=none) (hw:Qa 0 c.width=true):Imp pk s ((s.setb k2 (.buf c)).setb k (.var (l.set j (.buf k2 0)))):=by
 intro cx a w _ hs;obtain ⟨M,κ,tip,h0,hp,hi⟩:=hs;have hne:k≠k2:=by rintro rfl;rw [hb] at hk2;cases hk2
 have hj:j<l.length:=(List.getElem?_eq_some_iff.1 hq).1;have hn:c.nilOf=true:=by
  obtain ⟨b,arr,e1,fz,q1,q2,q3,q4,q5,q6⟩:=hi.vars k l hb;have h:=q5 j _ hq;generalize arr.getD j undef=y at h;cases h with
  | nl _ hn=>exact hn
 have hi2:=hi.bufNil hk2 hn (by have:=Q1 hw;omega);refine ⟨M,κ,_,h0,hp,hi2.reVar (l:=l) (by rw [zQ hne];exact hb) (by simp) λi q' x hq' hx=>?_⟩;rw [List.getElem?_set] at hq';split at hq'
 ·rename_i e;subst e;cases hq';have h2:=hx _ hq;cases h2 with
  | nl _ _=>
  refine .buf k2 0 c _ (zW _ _ _) ?_ (Qn _) ?_ (λ_=>(xF _ _ _).symm)
  ·unfold Qq at hn;split at hn<;>first | rfl | cases hn
  ·unfold Qq at hn;split at hn
   ·exact .bytes0
   ·exact .sl0 _
   ·cases hn
 ·exact hx q' hq'
structure A2 (α:Type) where (a0 a1:α) deriving DecidableEq,Inhabited
structure A5 (α:Type) where (a0 a1 a2 a3 a4:α) deriving DecidableEq,Inhabited
structure A8 (α:Type) where (a0 a1 a2 a3 a4 a5 a6 a7:α) deriving DecidableEq,Inhabited
def eU8 (x:UInt8):PV:=.int .u8 x.toNat
def eSl (w:Nat) (f:α->PV) (l:List α):PV:=.sl w (l.map f)
def FU:Nat:=2 ^ 70
def SE (f:X->Exit×AS) (g:Y->Exit×AS):X ⊕ Y->Exit×AS
 | .inl x=>f x
 | .inr y=>g y
def rho (m:List (Nat×Nat)) (j:Nat):Nat:=(lk m j).getD j
theorem Imp.renK (hpk:PK cx ks) (m:List (Nat×Nat)) {env:LV} (h1:((blks.map (·.1)).all λj=>(Qa j BIG||Qf BIG (rho m j))&&(blks.map (·.1)).all λj'=>!Nat.beq (rho m j) (rho m j')||Q8 j j')=true) (h2:(ks.all λk=>Q8 (rho m k) k&&(blks.map (·.1)).any (Q8 k))=true) :
  Imp cx.pk (mkS env blks) (mkS (env.map λe=>(e.1,e.2.ren (rho m))) (blks.map λe=>(rho m e.1,e.2.ren (rho m)))):=by
 refine Imp.ren (rho m) (λj hj j' hj' h=>?_) (λe he=>?_) (λj hj hb=>?_)
 ·have:=(Q2.1 (((Qd _ _).mp ((Q2.1 h1) j hj)).2)) j' hj';rw [h] at this;simpa using this
 ·have:=(Q2.1 h2) e.1 (hpk e he);simp only [Qd,List.any_eq_true] at this;obtain ⟨q1,x,q2,q3⟩:=this;exact ⟨Q0 q1,by rw [Q0 q3];exact q2⟩
 ·have:=((Qd _ _).mp ((Q2.1 h1) j hj)).1;rcases (Bool.or_eq_true _ _).mp this with h | h
  ·have:=Q1 (show Qf (j+1) BIG=true from h);omega
  ·exact Q1 h
theorem zCi (h:as.blk=lk []):∀ k,k<BIG->(as.blk k).isSome=true->k∈([]:List Nat):=λk _ hk=>by
 rw [h] at hk;simp [lk] at hk
theorem zQs {b:ABlk} (h:as.blk=lk [(0,b)]):∀ k,k<BIG->(as.blk k).isSome=true->k∈[0]:=λk _ hk=>by
 rw [h] at hk;simp only [lk] at hk;cases hb:Q8 k 0 with
 | true=>simp [Q0 hb]
 | false=>simp [hb] at hk
theorem Imp.refl:Imp pk s s:=λ_ _ _ _ h=>h
def kR (ρ:Nat->Nat):LB->List Nat
 | []=>[]
 | (k,_) :: r=>ρ k :: kR ρ r
def bR (ρ:Nat->Nat):LB->LB
 | []=>[]
 | (k,b) :: r=>(ρ k,b.ren ρ) :: bR ρ r
theorem kD (ρ:Nat->Nat):∀ (l:LB),kR ρ l=l.map λe=>ρ e.1
 | []=>rfl
 | (_,_) :: r=>by simp [kR,kD ρ r]
theorem zDp (ρ:Nat->Nat):∀ (l:LB),bR ρ l=l.map λe=>(ρ e.1,e.2.ren ρ)
 | []=>rfl
 | (_,_) :: r=>by simp [bR,zDp ρ r]
def ixN (n:Nat) (i:Int):Option Nat:=if 0<=i/\i<n then some i.toNat else none
def qG (l:List α) (j:Nat) (u:α):Option (List α):=if j<l.length then some (l.set j u) else none
theorem zHo {i:Int} (h:ixN n i=some j):0<=i/\i<n/\j=i.toNat:=by
 unfold ixN at h;split at h
 ·rename_i hc;cases h;exact ⟨hc.1,hc.2,rfl⟩
 ·cases h
theorem zAd {l l':List α} (h:qG l j u=some l'):j<l.length/\l'=l.set j u:=by
 unfold qG at h;split at h
 ·rename_i hc;cases h;exact ⟨hc,rfl⟩
 ·cases h
theorem zDt (h:off<l.length):rN l off [v]=l.set off v:=by
 rw [eT (by simpa using Nat.succ_le_of_lt h)];rw [List.set_eq_take_append_cons_drop,if_pos h];simp
section
theorem ia (hok:yX P te) {i:Int} (h:ixN n i=some j) (ho:o.op=.indexAddr t x y) (ht:(te t).map (·.ty)=some (.arr n e)) (he:te e=some ei) (hw:ei.w=1) (hx:s.get te t x=some (.ptr k off)) (hy:s.get te ity y=some (.p (.int .i64 i))) :
  VA P o s (opS x (.ptr k off)++opS y (.p (.int .i64 i))) [] (.ptr k (off+j)):=by
 obtain ⟨h0,h1,rfl⟩:=zHo h;have:=zT7 (P:=P) hok ho ht he hx hy h0 h1;rwa [hw,Qg] at this
theorem ir (hok:yX P te) {i:Int} (h:ixN n i=some j) (ho:o.op=.indexAddr t x y) (ht:(te t).map (·.ty)=some (.slice e)) (he:te e=some ei) (hw:ei.w=1) (hx:s.get te t x=some (.ref k off n)) (hy:s.get te ity y=some (.p (.int .i64 i))) :
  VA P o s (opS x (.ref k off n)++opS y (.p (.int .i64 i))) [] (.ptr k (off+j)):=by
 obtain ⟨h0,h1,rfl⟩:=zHo h;have:=zYl (P:=P) hok ho ht he hx hy h0 h1;rwa [hw,Qg] at this
theorem zO1 (h:p.cells=[p]):∀ l,p≠.agg l:=by
 intro l e;subst e;simp only [PV.cells] at h;have h2:=congrArg SizeOf.sizeOf h;simp at h2;omega
theorem ixC (hok:yX P te) {l:List α} {i:Int} (h:idx l i=some u) (ho:o.op=.indexAddr t x y) (ht:(te t).map (·.ty)=some (.arr n e)) (he:te e=some ei) (hx:s.get te t x=some (.p (.cptr (.agg (l.map f))))) (hn:Qf l.length n=true) (hag:ei.isAgg=false) (hw:ei.w=1) (hf:∀ a,(f a).cells=[f a]) (hy:s.get te ity y=some (.p (.int .i64 i))) :
  VA P o s (opS x (.p (.cptr (.agg (l.map f))))++opS y (.p (.int .i64 i))) [] (.p (.cptr (f u))):=by
 obtain ⟨h0,h1⟩:=eZ h;have hlt:i.toNat<l.length:=(List.getElem?_eq_some_iff.1 h1).1;have hn':=xE hn;refine zZe hok ho ht he hx hy h0 (by omega) ?_;rw [hag,hw];simp only [kV,cond_false,Qg,List.getElem?_map,h1,Q6];have:=zO1 (hf u);cases hq:f u<;>first | rfl | exact absurd hq (this _)
theorem ldW (hok:yX P te) (ho:o.op=.load t x) (ht:te t=some i) (hp:i.isAgg=true) (hx:s.get te 0 x=some (.ptr k 0)) (hb:s.blk k=some (.var l)) (hv:Q8 i.w l.length=true):VA P o s (opS x (.ptr k 0)) [(k,.var l)] (.ag l):=by
 have h1:=Q0 hv;have:=ldN (P:=P) hok ho ht hp hx hb (by simp [h1]);rw [h1] at this;simpa using this
end
end Go.Sw
