/- ModuleStarted holds for all inputs -/
import Derived.Test.YtkalaoahbicflaaGreatDoorSZ1
import Derived.Scope
set_option linter.all false
open Nat renaming eq_of_beq_eq_true -> Q0, beq -> Q1, blt -> Q3, ble -> Q6, add_mul -> Qb, le_of_ble_eq_true -> Qd, le_refl -> Qg, zero_add -> Qj, le_mul_of_pos_right -> Qk, zero_le -> Qm
open Option renaming map_eq_some_iff -> Q2, map_some -> Q8
open List renaming all_eq_true -> Q4, mem_cons -> Q5, mem_append -> Q7, mem_map -> Qa, map_cons -> Qh, length_map -> Ql
open Go.Sw.PV renaming len -> Q9
open Go.Region renaming wanted -> Qc
open Go.IntKind renaming u8 -> Qe
open Go.World renaming freeze -> Qf, cell? -> Qn
open Go.Value renaming pointer -> Qi, int -> Qo
namespace Go.Sw
open Go
variable {A:TypeId}{B:NB}{D:TypeId}{E:Nat}{F:List (Nat×Operand)}{G I J:TypeId}{K:AS->List Mic->Prop}{L:TI}{M:Mem}{N:List (Nat×Operand)}{P:Program}{Q:Exit->AS->Prop}{S U V:LV}{X Y:Type}{Z:Option Operand}{a:Int}{av:AV}{b:Int}{b':Bool}{blks bs:LB}{c:Operand}{cc:Int}{cs:List PV}{cx:Ctx}{d:Nat}{e e' e2:TypeId}{ei:TI}{f:FuncId}{fs:List (TypeId×Nat)}{i:TI}{id j k:Nat}{k2 kk:IntKind}{ks:List Nat}{l l':List AV}{lo:Option Operand}{m:By}{ms:List Mic}{mx:Option Operand}{n na:Nat}{o:Oper}{off:Nat}{ops:Array Oper}{p:PV}{pk:PKs}{ps:Array (Nat×Operand)}{q:PV}{r:List Oper}{rh rl rs:LV}{s s':AS}{t t0 t2 ta:TypeId}{te:TE}{tip:Nat->Value}{tl:List TypeId}{ts:Array TypeId}{tx ty tyy:TypeId}{u:By}{v:AV}{vs:LV}{vy:AV}{w w0:Nat}{x:Operand}{xl:List Operand}{xs:Array Operand}{y:Operand}{α:Type}{κ:Nat->Option Nat}
def xJ:List PV->List PV
 | []=>[]
 | p :: r=>p.cells++xJ r
theorem zFc:∀ (ps:List PV),(∀ p∈ps,p.cells.length=w)->(xJ ps).length=ps.length*w/\∀ (i:Nat) (p:PV) (j:Nat) (q:PV),ps[i]? = some p->p.cells[j]? = some q->(xJ ps)[i*w+j]? = some q
 | [],_=>⟨by simp [xJ],by simp⟩
 | p :: r,h=>by
  obtain ⟨K,L⟩:=zFc r (λq A=>h q (by simp [A]));have E:=h p (by simp);refine ⟨by simp [xJ,K,E,Qb];omega,λi J j q F A=>?_⟩;cases i with
  | zero=>
   simp at F;subst F;have:=(List.getElem?_eq_some_iff.1 A).1;simp only [xJ,Nat.zero_mul,Qj];rw [List.getElem?_append_left this];exact A
  | succ i=>
   simp only [xJ];rw [List.getElem?_append_right (by rw [E,Qb];omega),E,show (i+1)*w+j - w=i*w+j by rw [Qb];omega];simp_all
inductive dA (w:Nat):PV->List PV->Prop where
 | bytes (xs:By):w=1->dA w (.bytes xs) (xs.map λx=>.int .u8 x.toNat)
 | sl (ps:List PV):(∀ p∈ps,p.cells.length=w)->dA w (.sl w ps) (xJ ps)
theorem dA.cells {c:PV} (h:dA w c cs) {f:Nat->Value} (E:∀ (j:Nat) (q:PV),cs[j]? = some q->Rep M q (f j)):rV M c f/\c.isSlice=true/\c.width=w/\c.len*w=cs.length:=by
 cases h with
 | bytes xs v=>
  refine ⟨λi x I=>xK (E i _ (by simp [I])),rfl,v.symm,by simp [Q9,v]⟩
 | sl ps v=>
  obtain ⟨G,J⟩:=zFc ps v;exact ⟨⟨λi p y=>v p (List.mem_of_getElem? y),λi p j q y F=>E _ q (J i p j q y F)⟩,rfl,rfl,by simp [Q9,G]⟩
section
inductive oU (s:AS) (te:TE) (t:TypeId):Nat->List (Nat×Operand)->LV->LV->LB->Prop where
 | nil (n:Nat):oU s te t n [] [] [] []
 | cons (n:Nat) (x:Operand) (v:AV) (p:PV) (bs:LB) (ps:List (Nat×Operand)) (vs rs:LV) (bb:LB):s.get te t x=some v->s.rd v=some (p,bs)->oU s te t (n+1) ps vs rs bb->oU s te t n ((n,x) :: ps) ((n,.p p) :: vs) (opS x v++rs) (bs++bb)
theorem oU.reads {ps:List (Nat×Operand)} {bb:LB} (h:oU s te t n ps vs rs bb):wR s rs/\∀ e∈bb,s.blk e.1=some e.2:=by
 induction h with
 | nil=>exact ⟨by intro e y;simp_all,by simp⟩
 | cons n x v p bs ps vs rs bb I J _ E=>exact ⟨yL (zP I) E.1,λe y=>(Q7.1 y).elim (uJ v p bs J e) (E.2 e)⟩
theorem oU.rep {ps:List (Nat×Operand)} {bb:LB} (h:oU s te t n ps vs rs bb) {a:Act} {w:World} (K:Inv cx M κ tip s' a w) :
  wR s' rs->(∀ e∈bb,s'.blk e.1=some e.2)->eI M κ tip s'.blk (ps.map λp=>(p.1,a.eval p.2)) vs:=by
 induction h with
 | nil=>intro _ _;trivial
 | cons n x v p bs ps vs rs bb L F _ I=>
  intro hr A;exact ⟨rfl,.p _ _ (eK K L F (yG hr) (λe y=>A e (Q7.2 (.inl y)))),I (zX hr) (λe y=>A e (Q7.2 (.inr y)))⟩
def rR (z:List PV) (n:Nat):List AV:=(List.replicate n (z.map zA)).flatten
theorem zUc (z:List PV) (n:Nat):(rR z n).length=n*z.length:=by simp [rR]
theorem zKg (z:List PV):∀ (n j:Nat),(rR z n)[j]? = if j<n*z.length then (z.map zA)[j % z.length]? else none
 | 0,j=>by simp [rR]
 | n+1,j=>by
  have D:rR z (n+1)=z.map zA++rR z n:=by rfl
  rw [D];by_cases h:j<z.length
  ·rw [List.getElem?_append_left (by simpa using h),if_pos (by rw [Qb];omega),Nat.mod_eq_of_lt h]
  ·rw [List.getElem?_append_right (by simp;omega),Ql,zKg z n];by_cases y:j<(n+1)*z.length
   ·rw [if_pos y,if_pos (by rw [Qb] at y;omega)];rw [<- Nat.mod_eq_sub_mod (by omega)]
   ·rw [if_neg y,if_neg (by rw [Qb] at y;omega)]
theorem zFr (J:yO P te) (h:te t=some i) (I:i.z.length=i.w) {z:Value} {info:TypeInfo} (y:P.info? t=some info) (K:info.zero=some z) (n:Nat) :
  CR M κ tip B (rR i.z n) (madeCells z.cells (n*i.w)):=by
 obtain ⟨E,S,U,W⟩:=zG2 J h (M:=M) (κ:=κ) (B:=B) default;have L:E=z:=by simp [zeroValue,typeInfo,y,K] at S;exact S.symm
 subst L;refine ⟨by rw [size_madeCells,zUc,I],λj q A=>?_⟩;rw [zKg] at A;split at A
 ·rename_i G;rw [I] at G A;have V:0<i.w:=by
   rcases Nat.eq_zero_or_pos i.w with h | h
   ·simp_all
   ·exact h
  have:=W.2 (j % i.w) q A;have D:j % i.w<E.cells.size:=by rw [U,I];exact Nat.mod_lt _ V
  have N:(madeCells E.cells (n*i.w)).getD j undef=E.cells[j % i.w]:=by
   simp [madeCells,G,U,I];rw [getElem!_pos E.cells (j % i.w) D]
  rw [N];simpa [D] using this
 ·cases A
theorem zKv (A:yO P te) (ht:(te t).map (·.ty)=some (.slice e)) (U:te e=some ei) (hz:ei.z.length=ei.w) (hn:n*ei.w<=16777216) {xs:Array (Nat×Value)} (hp:eI M κ tip B xs.toList vs) 
  (hf:oC (λj=>some (j*ei.w,ei.w)) (rR ei.z n) vs=some l) (w:World):∃ D,(Instr.buildSlice t n xs).run P w=.ok (.slice (some ⟨w.heap.size,0,none⟩) n n) (w.alloc (.cells D e))/\CR M κ tip B l D:=by
 obtain ⟨info,z,W,i2,i3,V,i5⟩:=(A e ei U).info;have T:=zFr A U hz W V (M:=M) (κ:=κ) (tip:=tip) (B:=B) n;obtain ⟨D,G,f2⟩:=zEs vs xs.toList _ l _ hp T hf;refine ⟨D,?_,f2⟩;have Z:=xB A ht;have S:¬ (16777216<n*ei.w):=by omega
 have J:=vK A U w;by_cases K:n*ei.w=0
 ·have F:madeCells z.cells (n*ei.w)=(Array.range 0).map ((#[]:Array Value)[· % (#[]:Array Value).size]!):=by rw [K];simp [madeCells]
  rw [F] at G;simp only [Instr.buildSlice,Sem.run_bind,run_underlying Z,Result.andThen_ok,J,K];simp only [Array.range_zero',List.map_toArray] at G ⊢;simp [G,newRow] at *;simp [G]
 ·simp only [madeCells] at G;simp [Instr.buildSlice,run_underlying Z,J,S,K,zeroValue,typeInfo,W,V,G,newRow]
theorem yA0 {pl:List (Nat×Operand)} {bb:LB} {c:PV} (bi:yO P te) (hd:o.dst=some d) (ho:o.op=.buildSlice t n ps) (bg:ps.toList=pl) (ht:(te t).map (·.ty)=some (.slice e)) (he:te e=some ei) (hz:ei.z.length=ei.w) (bp:0<ei.w) (hn:n*ei.w<=16777216)
  (hp:oU s te e 0 pl vs rs bb) (hf:oC (λj=>some (j*ei.w,ei.w)) (rR ei.z n) vs=some (cs.map .p)) (hc:dA ei.w c cs) (A:c.len=n) (hk:s.blk d=none) :
  SA P o s ⟨rs,bb,[d],some (d,some (.buf d c.len)),[(d,.buf c)]⟩:=by
 refine ⟨?_,hp.reads.1,hp.reads.2,by intro k G;simp at G;subst G;exact hk⟩;intro cx s' a w K Q hm hs bd G;obtain ⟨M,κ,tip,h0,be,Z⟩:=hs;have V:=hm.2.2 d (by simp);have bn:=hp.rep Z hm.1 hm.2.1;have bh:(ps.map λ(i,x)=>(i,a.eval x)).toList=pl.map λp=>(p.1,a.eval p.2):=by simp [<- bg]
 obtain ⟨y,T,U⟩:=zKv bi ht he hz hn (xs:=ps.map λ(i,x)=>(i,a.eval x)) (by rw [bh];exact bn) hf w;have F:∀ (j:Nat) (q:PV),cs[j]? = some q->Rep M q (y.getD j undef):=λj q hq=>repA_pv (U.2 j (.p q) (by simp [hq]));obtain ⟨c1,W,c3,c4⟩:=hc.cells F;have E:y.size=n*ei.w:=by rw [U.1,Ql,<- c4,A]
 unfold Oper.wp;have:(execOp a.eval o).run P w=.ok (.value (.slice (some ⟨w.heap.size,0,none⟩) n n)) (w.alloc (.cells y e)):=by simp [execOp,ho,T]
 rw [this];show K (a.put o.dst _) _;rw [hd];refine G _ _ ?_;rw [vZ];have N:M.le (xY M w.heap.size 0 (n*c.width) (y[·]?)):=uM λo _ _=>Z.mlt (Qg _);have L:=by
  have:=wH (M':=xY M w.heap.size 0 (n*c.width) (y[·]?)) (b:=w.heap.size) (o:=0) (cap:=n) c1 W N ?_ (by omega)
  ·rwa [A] at this
  intro j hj;rw [A] at hj;simp only [xY,Qj];rw [if_pos ⟨trivial,Qm _,hj⟩];rw [c3,<- E] at hj;simp [hj]
 have bc:n<=maxLen:=by
  have:n<=n*ei.w:=Qk _ bp;simp only [maxLen];omega
 refine ⟨_,_,_,h0.trans' N,zDp Z be V _,(Z.bufNew (cK w y e) (.inl V) W (by omega) (by rw [c3,E];exact Qg _) (by rw [c3,E];exact Qg _) bc L).put (bd d (by simp [Mic.ws])) ?_⟩;rw [A];refine .buf d _ c _ (zW _ _ _) W (by omega) ?_ (λ_=>(yU _ _ _).symm);rw [<- A,sP W,A];exact L
end
def dL:TypeDesc->Ty
 | .bool=>.bool
 | .int k=>.int k
 | .string=>.str
 | .slice e=>.slice e
 | .array n e=>.arr n e
 | .struct fs=>.struct (fs.toList.map λf=>(f.type,f.offset))
 | .pointer e=>.ptr e
 | .func _ _ _=>.func
 | .interface _=>.iface
 | _=>.other
def zIs (i:TypeInfo):Nat×Nat×Option (List Value):=(i.size,i.bytes,i.zero.map (·.cells.toList))
theorem yH1 (h1:(P.info? t).map zIs=some (i.w,i.b,some (i.z.map zv))) (h2:(P.underlying t).map dL=some i.ty) (h3:i.z.all PV.zok=true):TOk P t i where
 info:=by
  obtain ⟨info,a,b⟩:=Q2.1 h1;simp only [zIs,Prod.mk.injEq] at b;obtain ⟨b1,b2,b3⟩:=b;obtain ⟨z,c1,c2⟩:=Q2.1 b3;exact ⟨info,z,a,b1,b2,c1,c2⟩
 zok:=λz hz=>(Q4.1 h3) z hz
 und:=by
  obtain ⟨d,a,b⟩:=Q2.1 h2;cases d<;>simp only [dL] at b<;>rw [<- b]<;>simp only [a]<;>simp
inductive Tr where
 | leaf
 | node (k:Nat) (v:TI) (l r:Tr)
def Tr.get:Tr->TE
 | .leaf,_=>none
 | .node k v l r,t=>bif Q1 t k then some v else bif Q3 t k then l.get t else r.get t
def Tr.pr (P:Program):Tr->List ((Option (Nat×Nat×Option (List Value))×Option Ty×Bool)×(Option (Nat×Nat×Option (List Value))×Option Ty×Bool))
 | .leaf=>[]
 | .node t i l r=>(((P.info? t).map zIs,(P.underlying t).map dL,i.z.all PV.zok),(some (i.w,i.b,some (i.z.map zv)),some i.ty,true)) :: (l.pr P++r.pr P)
theorem Tr.ok':∀ (t:Tr),(∀ e∈t.pr P,e.1=e.2)->yO P t.get
 | .leaf,_=>λ_ _ h=>by simp [Tr.get] at h
 | .node k v l r,h=>λt i hi=>by
  simp only [Tr.pr,Q5,Q7] at h;simp only [Tr.get] at hi;cases hb:Q1 t k with
  | true=>
   simp [hb] at hi;rw [Q0 hb,<- hi];have e:=h _ (.inl rfl);simp only [Prod.mk.injEq] at e;exact yH1 e.1 e.2.1 e.2.2
  | false=>
   simp only [hb,cond_false] at hi;cases hl:Q3 t k with
   | true=>simp only [hl,cond_true] at hi;exact Tr.ok' l (λe he=>h e (.inr (.inl he))) t i hi
   | false=>simp only [hl,cond_false] at hi;exact Tr.ok' r (λe he=>h e (.inr (.inr he))) t i hi
theorem Tr.ok (t:Tr) (h:(t.pr P).map (·.1)=(t.pr P).map (·.2)):yO P t.get:=Tr.ok' t λe he=>by
 revert h he;induction t.pr P with
 | nil=>intro _ he;cases he
 | cons a l ih=>
  intro h he;simp only [Qh,List.cons.injEq] at h;rcases Q5.1 he with rfl | he
  ·exact h.1
  ·exact ih h.2 he
def u8 (n:Int):UInt8:=UInt8.ofNat (n % 256).toNat
theorem eH (n:Int):((u8 n).toNat:Int)=n % 256:=by
 unfold u8;have h:(n % 256).toNat<256:=by omega
 rw [UInt8.toNat_ofNat_of_lt' (by omega)];omega
theorem wrap_u8 (n:Int):Qe.wrap n=((u8 n).toNat:Int):=by
 rw [eH];rfl
section
theorem va_conv8 {v y:TypeId} {E:IntKind} (A:yO P te) (G:o.op=.convert v y x) (J:(te v).map (·.ty)=some (.int E)) (I:(te y).map (·.ty)=some (.int .u8)) (K:s.get te v x=some (.p (.int E a))) :
  VA P o s (opS x (.p (.int E a))) [] (.p (.int .u8 (u8 a).toNat)):=by
 have:=va_conv A G J I K;rwa [wrap_u8] at this
theorem yJ9 (f:IOp) (a b:Int):f.val .u8 a b=((u8 (f.val .u8 a b)).toNat:Int):=by
 have:∀ n,Qe.wrap n=((u8 (Qe.wrap n)).toNat):=λn=>by
  rw [eH,wrap_u8,eH];omega
 cases f<;>exact this _
theorem yEm (f:IOp) {h:TypeId} (E:o.op=.binOp f.op D x y h) (G:s.get te D x=some (.p (.int .u8 a))) (F:s.get te h y=some (.p (.int .u8 b))) :
  VA P o s (opS x (.p (.int .u8 a))++opS y (.p (.int .u8 b))) [] (.p (.int .u8 (u8 (f.val .u8 a b)).toNat)):=by
 have:=zQi (P:=P) f E G F;rwa [yJ9] at this
inductive RK (P:Program) (ops:Array Oper) (l:List Oper) (s:AS) (K:AS->List Mic->Prop):Prop where
 | mk (s':AS) (ms:List Mic) (h:Run P ops l s s' ms) (k:K s' ms)
theorem RK.nil (h:K s []):RK P ops [] s K:=⟨s,[],.nil s,h⟩
theorem RK.va {y:LV} {w:AV} (G:o.dst=some d) (F:o.guard=none) (h:VA P o s y bs w) (k:RK P ops r (s.put d w) λs' A=>K s' (⟨y,bs,[],some (d,some w),[]⟩:: A)):RK P ops (o :: r) s K:=
 let ⟨s',A,E,I⟩:=k;⟨s',_,Run.vv G F h E,I⟩
theorem RK.st {m:Mic} (y:o.guard=none) (h:SA P o s m) (k:RK P ops r (m.upd s) λs' v=>K s' (m :: v)):RK P ops (o :: r) s K:=
 let ⟨s',v,D,A⟩:=k;⟨s',_,Run.ss y h D,A⟩
theorem RK.sb {D:LV} {fr:List Nat} {y:zN} {w:AV} (G:o.guard=none) (h:SA P o s ⟨D,bs,fr,some (d,some w),[(k,y)]⟩) (E:RK P ops r ((s.setb k y).put d w) λs' I=>K s' (⟨D,bs,fr,some (d,some w),[(k,y)]⟩:: I)):RK P ops (o :: r) s K:=
 RK.st G h (by rw [vZ];exact E)
theorem RK.so {y:LV} {v:zN} (D:o.guard=none) (h:SA P o s ⟨y,bs,[],none,[(k,v)]⟩) (A:RK P ops r (s.setb k v) λs' E=>K s' (⟨y,bs,[],none,[(k,v)]⟩:: E)):RK P ops (o :: r) s K:=
 RK.st D h (by rw [zCx];exact A)
theorem yMv {a b:Operand} {bb:Bool} (E:o.op=.pick c a b) (A:bb=true) (F:s.get te t0 c=some (.p (.bool bb))) (h:s.get te o.type a=some v):VA P o s (opS c (.p (.bool true))++opS a v) [] v:=zXc E (A▸F) h
theorem yLs {a b:Operand} {bb:Bool} (E:o.op=.pick c a b) (A:bb=false) (F:s.get te t0 c=some (.p (.bool bb))) (h:s.get te o.type b=some v):VA P o s (opS c (.p (.bool false))++opS b v) [] v:=zXm E (A▸F) h
theorem cT {t:Nat} {x y:Code} {b:Bool} (E:b=true) (A:s.env t=some (.p (.bool b))) (h:awp P cx x Q s):awp P cx (.cond (.tmp t) x y) Q s:=zNp A (λ_=>h) (λe=>by simp_all)
theorem cF {t:Nat} {x y:Code} {b:Bool} (E:b=false) (A:s.env t=some (.p (.bool b))) (h:awp P cx y Q s):awp P cx (.cond (.tmp t) x y) Q s:=zNp A (λe=>by simp_all) (λ_=>h)
theorem rgn (y:cx.nt=n) (h:RK P ops ops.toList s λs' I=>cO n I=true/\Q .normal s'):awp P cx (.region id ops false) Q s:=
 let ⟨_,_,F,E,G⟩:=h;zPa F (by simp_all) G
theorem rgd (D:cx.nt=n) (G:P.follows .mixedOrders=true) (h:RK P ops ops.toList s λs' E=>cO n E=true/\(rQ ops E&&zLw ops)=true/\Q .normal s'):awp P cx (.region id ops true) Q s:=by
 obtain ⟨s',E,I,K,F,J⟩:=h;simp only [Bool.and_eq_true] at F;exact yBj I (by simp_all) G F.1 F.2 J
end
def LIM:Nat:=140737488355328
def yK (b:Nat) (l m:List α):Option (List α):=if (l.length+m.length)*b<=LIM then some (l++m) else none
theorem kD {v:Type} {b:Nat} {l m r:List v} (h:yK b l m=some r):r=l++m/\(l.length+m.length)*b<=140737488355328:=by
 unfold yK at h;split at h
 ·rename_i y;cases h;exact ⟨rfl,y⟩
 simp_all
theorem appB {l r:By} {b:Nat} (h:yK b l m=some r):(PV.bytes l).app (.bytes m)=some (.bytes r):=by rw [(kD h).1];rfl
theorem appS {l r:By} {b:Nat} (h:yK b l m=some r):(PV.bytes l).app (.str m)=some (.bytes r):=by rw [(kD h).1];rfl
theorem appM {v:Type} {f:v->PV} {l m r:List v} {b:Nat} (h:yK b l m=some r):(PV.sl w (l.map f)).app (.sl w (m.map f))=some (.sl w (r.map f)):=by
 rw [(kD h).1];simp [PV.app]
theorem zNl {v:Type} {b:Nat} {l m r:List v} (h:yK b l m=some r):(l.length+m.length)*b<=140737488355328:=(kD h).2
theorem bind_some {v y:Type} {m:Option v} {k:v->Option y} {r:y} (h:m.bind k=some r):∃ x,m=some x/\k x=some r:=Option.bind_eq_some_iff.1 h
section
theorem zRe {c:Code} (d:Imp cx.pk s s') (h:awp P cx c Q s'):awp P cx c Q s:=λa w v=>h a w (d cx a w rfl v)
def LQ (cx:Ctx) (E:X->AS) (R:Y->Exit->AS->Prop):X ⊕ Y->Exit->AS->Prop
 | .inl x,e,s=>e=.normal/\Imp cx.pk s (E x)
 | .inr y,e,s=>R y e s
theorem yK1 {A:Code} (E:X->AS) (step:X->Option (X ⊕ Y)) (R:Y->Exit->AS->Prop) (I:∀ y s,¬ R y .normal s)
  (Z:∀ x r,step x=some r->awp P cx A (LQ cx E R r) (E x)):∀ n x y,zO step n x=some y->awp P cx (.loop A) (R y) (E x):=by
 intro n x y D a w hs;refine wp_loop_rounds n ?_;induction n generalizing x a w with
 | zero=>simp [zO] at D
 | succ n W=>
  simp only [zO] at D;cases h:step x with
  | none=>simp_all
  | some r=>
   have F:=Z x r h a w hs;cases r with
   | inl x'=>
    rw [h] at D;refine wp_mono F ?_;rintro e J w' ⟨s',K,rfl,G⟩;exact W x' D J w' (G cx J w' rfl K)
   | inr y'=>
    rw [h] at D;cases D;refine wp_mono F ?_;rintro e J w' ⟨s',K,G⟩;cases e with
    | normal=>exact (I _ _ G).elim
    | _=>exact ⟨s',K,G⟩
end
section
theorem zIy (hd:o.dst=some d)
  (h:∀ (cx:Ctx) (M:Mem) (A:Nat->Option Nat) (tip:Nat->Value) (s:AS) (a:Act) (w:World),Inv cx M A tip s a w->wR s S->(∀ e∈bs,s.blk e.1=some e.2) ->
   ∃ y e,(execOp a.eval o).run P w=.ok (.value (.slice (some ⟨w.heap.size,0,none⟩) n n)) (w.alloc (.cells y e))/\CR M A tip s.blk l y) :
  Snd P o ⟨S,bs,[d],some (d,some (.ref d 0 n)),[(d,.var l)]⟩:=by
 intro cx s a w K Q E Y hw Z;obtain ⟨M,A,tip,h0,T,D⟩:=Y;obtain ⟨y,e,hx,hr⟩:=h cx M A _ s a w D E.1 E.2.1;have N:=E.2.2 d (by simp);unfold Oper.wp;rw [hx];show K _ _;rw [hd];refine Z _ _ ?_;rw [eC];exact ⟨M,zBu A d _,tip,h0,zDp D T N _,(D.newVar N hr e).put (hw d (by simp [Mic.ws])) (.ref d 0 n _ l (sL _ _ _) (zW _ _ _))⟩
theorem sa_mkr {tl tc:TypeId} {A:TI} {S U:IntKind} {n:Int} (F:yO P te) (hd:o.dst=some d) (ho:o.op=.makeSlice t x y) (ht:(te t).map (·.ty)=some (.slice e)) (J:te e=some A) (hz:A.z.length=A.w) (Y:s.get te tl x=some (.p (.int S n))) (Z:s.get te tc y=some (.p (.int U n)))
  (h0:0<=n) (hb:n.toNat*A.b<=140737488355328) (L:0<A.b) (hk:s.blk d=none):SA P o s ⟨opS x (.p (.int S n))++opS y (.p (.int U n)),[],[d],some (d,some (.ref d 0 n.toNat)),[(d,.var (rR A.z n.toNat))]⟩:=by
 refine ⟨zIy hd ?_,yL (zP Y) (zP Z),by simp,by simp_all⟩;intro cx M κ tip s' a w hi hr _;have h1:=xK (repA_pv (yB hi (yI Y s' (yG hr))));have h2:=xK (repA_pv (yB hi (yI Z s' (zX hr))));obtain ⟨info,z,W,i2,i3,i4,i5⟩:=(F e A J).info;have hu:=xB F ht;have N:=zFr F J hz W i4 (M:=M) (κ:=κ) (tip:=tip) (B:=s'.blk) n.toNat;have bg:n.toNat<=n.toNat*A.b:=Qk _ L;have K:(info.bytes:Int)*n<=281474976710656:=by
  rw [i3];have:((n.toNat*A.b:Nat):Int)<=140737488355328:=by omega
  rw [Int.natCast_mul,Int.toNat_of_nonneg h0,Int.mul_comm] at this;omega
 have D:=run_make (P:=P) w t e info z hu W i4 S U n n h0 (Int.le_refl _) K (by omega);exact ⟨_,e,by rw [i2] at D;simp [execOp,ho,h1,h2,D],N⟩
theorem sa_litr {y:TI} {L:List (Nat×Operand)} {Y:LV} (J:yO P te) (hd:o.dst=some d) (ho:o.op=.buildSlice t n ps) (F:ps.toList=L) (ht:(te t).map (·.ty)=some (.slice e)) (N:te e=some y) (Z:y.z.length=y.w) (hn:n*y.w<=16777216)
  (U:oD s te L V Y) (hf:oC (λj=>some (j*y.w,y.w)) (rR y.z n) V=some l) (hk:s.blk d=none):SA P o s ⟨Y,[],[d],some (d,some (.ref d 0 n)),[(d,.var l)]⟩:=by
 refine ⟨zIy hd ?_,U.reads,by simp,by simp_all⟩;intro cx M κ tip s' a w hi hr _;have S:=U.rep hi hr;have I:(ps.map λ(i,x)=>(i,a.eval x)).toList=L.map λp=>(p.1,a.eval p.2):=by simp_all
 obtain ⟨T,A,G⟩:=zKv J ht N Z hn (by rw [I];exact S) hf w;exact ⟨T,e,by simp [execOp,ho,A],G⟩
theorem va_lenR (E:yO P te) (N:o.op=.call { callee:=.builtin .len,args:=#[x],argTypes:=#[t] }) (S:(te t).map (·.ty)=some (.slice e)) (I:s.get te t x=some (.ref k off n)):VA P o s (opS x (.ref k off n)) [] (.p (.int .i64 n)):=by
 refine ⟨?_,zP I,by simp⟩;intro cx M Y tip s' a w V W Z;have J:=yB V (yI I s' W);have U:=xB E S;generalize G:a.eval x=z at J;cases J with
 | ref _ _ _ b l h2 h3=>exact ⟨.int .i64 n,by simp [execOp,N,G,resolve,invoke,builtin,Builtin.len_,run_underlying U,goInt],.p _ _ (.int _ _)⟩
def tP (B:NB) (k:Nat):NB:=λi=>bif Q1 i k then none else B i
theorem RepA.frz {D:Nat->Value} {B':NB} (I:∀ i,i≠k->B' i=B i) (ht:∀ i,i≠k->D i=tip i) {x:Value} (hr:RepA M κ tip B v x):v.oks (tP B k)=true->RepA M κ D B' v x:=by
 have y:∀ i,(tP B k i).isSome=true->i≠k:=by
  intro i h e;subst e;simp [tP] at h
 induction hr with
 | p v x d=>intro _;exact .p v x d
 | nl c d=>intro _;exact .nl c d
 | ptr i o b l d A=>intro h;simp only [AV.oks] at h;exact .ptr i o b l d (by rw [I i (y i h)];exact A)
 | ref i o n b l d A=>intro h;simp only [AV.oks] at h;exact .ref i o n b l d (by rw [I i (y i h)];exact A)
 | buf i n c x d F A G h4=>intro h;simp only [AV.oks] at h;exact .buf i n c x (by rw [I i (y i h)];exact d) F A G (λe=>by rw [ht i (y i h)];exact h4 e)
 | ag l L d _ K=>intro h;simp only [AV.oks] at h;exact .ag l L d (λj q E=>K j q E (uY l h j q E))
 | tu l L d _ K=>intro h;exact .tu l L d (λj q E=>K j q E (uY l h j q E))
 | fnv f l L d _ K=>intro h;simp only [AV.oks] at h;exact .fnv f l L d (λj q E=>K j q E (uY l h j q E))
 | own i n w l x d A G F=>intro h;simp only [AV.oks] at h;exact .own i n w l x (by rw [I i (y i h)];exact d) A (λe=>by rw [ht i (y i h)];exact G e) F
 | optr i n o w l x d A G F=>intro h;simp only [AV.oks] at h;exact .optr i n o w l x (by rw [I i (y i h)];exact d) A G F
 | osl i n o m w l x d A G F=>intro h;simp only [AV.oks] at h;exact .osl i n o m w l x (by rw [I i (y i h)];exact d) A G F
theorem Imp.freeze {t:Nat} {c:PV} (he:s.env t=some (.ref k 0 n)) (hb:s.blk k=some (.var l)) (cl:s.rdL l=some (cs,bs)) (hc:dA w0 c cs) (T:c.len=n) (hw:0<w0) (bw:n<=maxLen)
  (bv:∀ e∈pk,e.1≠k) (hE:∀ u v,u≠t->s.env u=some v->v.oks (tP s.blk k)=true) (hV:∀ i J,i≠k->s.blk i=some (.var J)->oW (tP s.blk k) J=true) (hW:∀ i w J,s.blk i=some (.own w J)->oW (tP s.blk k) J=true):Imp pk s ((s.setb k (.buf c)).put t (.buf k n)):=by
 intro cx a w cf hs;obtain ⟨M,κ,tip,h0,hp,G⟩:=hs;obtain ⟨b,I,e,fz,q1,q2,q3,q4,q5,q6,q7⟩:=G.vars k l hb;obtain ⟨x,ch,ca⟩:=G.env t _ he;obtain ⟨r1,r2⟩:=aK cl q5;obtain ⟨c1,c2,c3,c4⟩:=hc.cells r2;have Z:I.size=n*w0:=by rw [q4,<- r1,<- c4,T]
 cases ca with
 | ref _ _ _ b' l' g1 g2=>
 rw [q1] at g1;cases g1;have ba:cx.w0.heap.size<=b:=by
  rcases q7 with q7 | q7
  ·exact q7
  ·simp only [Ctx.pb,Qa] at q7;obtain ⟨e',bk,rfl⟩:=q7;have h1:=(hp e' bk).1;have:=G.inj _ _ _ h1 q1;exact (bv e' (cf▸bk) this).elim
 have S:M.le (xY M b 0 (n*c.width) (I[·]?)):=uM λo _ _=>q6 o;have Y:Rep (xY M b 0 (n*c.width) (I[·]?)) c (.slice (some ⟨b,0,none⟩) n n):=by
  have:=wH (M':=xY M b 0 (n*c.width) (I[·]?)) (b:=b) (o:=0) (cap:=n) c1 c2 S ?_ (by omega)
  ·rwa [T] at this
  intro j hj;rw [T] at hj;simp only [xY,Qj];rw [if_pos ⟨trivial,Qm _,hj⟩];rw [c3,<- Z] at hj;simp [hj]
 have hB:∀ i,i≠k->(s.setb k (.buf c)).blk i=s.blk i:=λi h=>zS h;have hT:∀ i,i≠k->nS tip k (.slice (some ⟨b,0,none⟩) n n) i=tip i:=λi h=>yW h;have D:∀ b' o,b'≠b->xY M b 0 (n*c.width) (I[·]?) b' o=M b' o:=by
  intro b' o A;unfold xY;rw [if_neg (by intro h;exact A h.1)]
 have V:∀ {v:AV} {x:Value},RepA M κ tip s.blk v x->v.oks (tP s.blk k)=true->RepA (xY M b 0 (n*c.width) (I[·]?)) κ (nS tip k (.slice (some ⟨b,0,none⟩) n n)) (s.setb k (.buf c)).blk v x:=
  λh ho=>(h.frz hB hT ho).mono S
 refine ⟨xY M b 0 (n*c.width) (I[·]?),κ,nS tip k (.slice (some ⟨b,0,none⟩) n n),h0.trans' S,hp,{
  defers:=G.defers
  size:=G.size
  fr:=G.fr
  mem:=λb' o y h=>by
   unfold xY at h;split at h
   ·rename_i bx;obtain ⟨rfl,_,hlt⟩:=bx;simp only [Qn,q2];simpa using h
   ·exact G.mem b' o y h
  env:=λu v h=>by
   simp only [AS.put] at h;cases bg:Q1 u t with
   | true=>
    have:=Q0 bg;subst this;simp at h;subst h;refine ⟨_,ch,.buf k n c _ (zW _ _ _) c2 (by omega) ?_ (λ_=>(yU _ _ _).symm)⟩;rw [<- T,sP c2,T];exact Y
   | false=>
    simp [bg] at h;have A:u≠t:=by rintro rfl;simp at bg
    obtain ⟨y,h1,h2⟩:=G.env u v h;exact ⟨y,h1,V h2 (hE u v A h)⟩
  vars:=λi J h=>by
   have A:i≠k:=by rintro rfl;have E:(s.setb i (.buf c)).blk i=some (.var J):=h;rw [zW] at E;cases E
   have E:(s.setb k (.buf c)).blk i=some (.var J):=h;rw [hB i A] at E;obtain ⟨W,U,e2,bc,z1,z2,z3,z4,z5,z6,z7⟩:=G.vars i J E;have bf:W≠b:=λe=>A (G.inj i k b (e▸z1) q1);exact ⟨W,U,e2,bc,z1,z2,z3,z4,λj q hq=>V (z5 j q hq) (uY J (hV i J A E) j q hq),λo=>by rw [D W o bf];exact z6 o,z7⟩
  bufs:=λi ci h=>by
   have E:(s.setb k (.buf c)).blk i=some (.buf ci):=h;by_cases A:i=k
   ·subst A;rw [zW] at E;cases E;rw [yU];refine ⟨Y,c2,by omega,.inr ⟨b,n,n,I,e,fz,rfl,q1,ba,q2,q3,by rw [c3,Z];exact Qg _,bw,λj hj=>?_⟩⟩;unfold xY;rw [if_neg (by omega)];exact q6 j
   ·rw [hB i A] at E;obtain ⟨z1,z2,z3,z4⟩:=G.bufs i ci E;rw [hT i A];refine ⟨z1.mono S,z2,z3,?_⟩;rcases z4 with z4 | ⟨W,n2,bm,U,e2,bc,y1,y2,y3,y4,y5,y6,y7,y8⟩
    ·exact .inl z4
    ·have bf:W≠b:=λe=>A (G.inj i k b (e▸y2) q1);exact .inr ⟨W,n2,bm,U,e2,bc,y1,y2,y3,y4,y5,y6,y7,λj hj=>by rw [D W j bf];exact y8 j hj⟩
  inj:=G.inj
  dom:=λi h=>by
   have E:(s.setb k (.buf c)).blk i=none:=h;by_cases A:i=k
   ·subst A;rw [zW] at E;cases E
   ·rw [hB i A] at E;exact G.dom i E
  glob:=G.glob.mono S
  old:=⟨λb' o cm=>by rw [D b' o (by omega)];exact G.old.1 b' o cm,G.old.2⟩
  owns:=G.owns.keep λi wd J h=>by
   have E:(s.setb k (.buf c)).blk i=some (.own wd J):=h;have A:i≠k:=by rintro rfl;rw [zW] at E;cases E
   rw [hB i A] at E;exact ⟨E,rfl,hT i A,λW z=>⟨rfl,λo hm=>by rw [D W o (λe=>A (G.inj i k b (e▸z) q1))];exact hm⟩,λj q x hq hr=>V hr (uY J (hW i wd J E) j q hq)⟩}⟩
end
section
end
theorem zN7 (w:World) (b n:Nat):∃ f:Obj->Obj,(∀ c e v,∃ D,f (.cells c e v)=.cells c e D/\(n=c.size->zD3 v c.size->zD3 D c.size))/\∀ i,(w.freeze ⟨b,n,none⟩ 1).heap[i]? = if b=i then (w.heap[i]?).map f else w.heap[i]?:=by
 refine ⟨λo=>match o with | .cells c A v=>.cells c A (if v.1==v.2 then (n,n+1) else (min v.1 n,max v.2 (n+1))) | o=>o,?_,?_⟩
 ·intro c e v;refine ⟨_,rfl,λL N=>?_⟩;unfold zD3 at *;subst L;split
  ·simp
  simp_all
 ·intro i;unfold Qf;simp only [Nat.one_ne_zero,if_false,Array.getElem?_modify];split
  ·cases w.heap[i]? with
   | none=>rfl
   | some o=>cases o<;>rfl
  ·rfl
section
theorem Inv.frzMark {a:Act} {w:World} (D:Inv cx M κ tip s a w) {b:Nat} {v:Array Value} {fz:Nat×Nat} (hk:κ k=some b) (bq:cx.w0.heap.size<=b) (d:w.heap[b]? = some (.cells v e fz)) :
  Inv cx M κ tip s a (w.freeze ⟨b,v.size,none⟩ 1):=by
 obtain ⟨f,hf,N⟩:=zN7 w b v.size;have bu:(w.freeze ⟨b,v.size,none⟩ 1).heap.size=w.heap.size:=by unfold Qf;simp
 have U:∀ i o x,w.cell? ⟨i,o,none⟩=some x->(w.freeze ⟨b,v.size,none⟩ 1).cell? ⟨i,o,none⟩=some x:=by
  intro i o x h;simp only [Qn,N i] at h ⊢;by_cases bc:b=i
  ·subst bc;rw [d] at h;obtain ⟨F,K,_⟩:=hf v e fz;simp only [if_true,d,Q8,K];exact h
  ·rw [if_neg bc];exact h
 exact {
  defers:=D.defers
  size:=D.size
  fr:=⟨by have:=D.fr.os;unfold Qf;simpa using this,by have:=D.fr.tape;unfold Qf;simpa using this,by have:=D.fr.output;unfold Qf;simpa using this,by rw [bu];exact D.fr.size,λi K V h3=>by
   rw [N i,if_neg (by omega)];exact D.fr.block i K V h3⟩
  mem:=λi o x h=>U i o x (D.mem i o x h)
  env:=D.env
  vars:=λi l h=>by
   obtain ⟨G,y,e2,J,k1,k2,k3,W,k5⟩:=D.vars i l h;by_cases S:b=G
   ·subst S;rw [d] at k2;cases k2;obtain ⟨F,K,V⟩:=hf v e fz;exact ⟨b,v,e,F,k1,by rw [N b,if_pos rfl,d,Q8,K],V rfl k3,W,k5⟩
   ·exact ⟨G,y,e2,J,k1,by rw [N G,if_neg S];exact k2,k3,W,k5⟩
  bufs:=λi c h=>by
   obtain ⟨k1,k2,k3,W⟩:=D.bufs i c h;refine ⟨k1,k2,k3,?_⟩;rcases W with W | ⟨G,Y,A,y,e2,J,q1,Z,q3,T,q5,q6⟩
   ·exact .inl W
   ·by_cases S:b=G
    ·subst S;rw [d] at T;cases T;obtain ⟨F,K,V⟩:=hf v e fz;exact .inr ⟨b,Y,A,v,e,F,q1,Z,q3,by rw [N b,if_pos rfl,d,Q8,K],V rfl q5,q6⟩
    ·exact .inr ⟨G,Y,A,y,e2,J,q1,Z,q3,by rw [N G,if_neg S];exact T,q5,q6⟩
  inj:=D.inj
  dom:=D.dom
  glob:=D.glob
  old:=D.old
  owns:=λi wd l h=>by
   rcases D.owns i wd l h with g0 | ⟨g1,g2⟩
   ·exact .inl g0
   refine .inr ⟨g1,?_⟩;rcases g2 with g2 | ⟨G,Y,A,y,e2,J,q1,Z,q3,T,q5,q6⟩
   ·exact .inl g2
   ·by_cases S:b=G
    ·subst S;rw [d] at T;cases T;obtain ⟨F,K,V⟩:=hf v e fz;exact .inr ⟨b,Y,A,v,e,F,q1,Z,q3,by rw [N b,if_pos rfl,d,Q8,K],V rfl q5,q6⟩
    ·exact .inr ⟨G,Y,A,y,e2,J,q1,Z,q3,by rw [N G,if_neg S];exact T,q5,q6⟩}
theorem sa_bb {l:By} (G:yO P te) (hd:o.dst=some d) (ho:o.op=.convert t t x) (ht:(te t).map (·.ty)=some (.slice e)) (S:(te e).map (·.ty)=some (.int .u8)) (hx:s.get te t x=some (.buf k l.length)) (hk:s.blk k=some (.buf (.bytes l))) (hl:l≠[]) :
  SA P o s ⟨opS x (.buf k l.length),[(k,.buf (.bytes l))],[],some (d,some (.buf k l.length)),[]⟩:=by
 refine ⟨?_,zP hx,by intro e S;simp at S;subst S;exact hk,by intro k E;simp at E⟩;intro cx s' a w K Q hm hs' hws E;obtain ⟨M,κ,tip,h0,hp,hi⟩:=hs';have I:s'.blk k=some (.buf (.bytes l)):=hm.2.1 (k,.buf (.bytes l)) (by simp);have L:=yB hi (yI hx s' hm.1);obtain ⟨b1,b2,b3,b4⟩:=hi.bufs k _ I;have y:a.eval x=tip k:=by
  have F:=L;generalize a.eval x=zx at F;cases F with
  | buf _ _ c' _ g1 g2 g3 g4 g5=>rw [I] at g1;cases g1;exact g5 rfl
 rcases b4 with ⟨J,_⟩ | ⟨b,n,cap,arr,e1,fz,N,hκ,D,A,hfree,hcap,hml,hM⟩
 ·rw [J] at b1;cases b1;exact (hl rfl).elim
 ·unfold Oper.wp;have:(execOp a.eval o).run P w=.ok (.value (tip k)) (w.freeze ⟨b,arr.size,none⟩ 1):=by
   rw [N] at y ⊢;simp [execOp,ho,y,convert,run_underlying (xB G ht),run_underlying (yEv G S),markStringish,shape,Sem.run,World.shape?,A,freeze]
  rw [this];show K (a.put o.dst _) _;rw [hd];refine E _ _ ⟨M,κ,tip,h0,hp,?_⟩;have hr:=L;rw [y] at hr;exact (hi.frzMark hκ D A).put (hws d (by simp [Mic.ws])) hr
theorem sa_copy {Y:TypeId} (hok:yO P te) (hd:o.dst=some d) (ho:o.op=.call { callee:=.builtin .copy,args:=#[x,y],argTypes:=#[t,Y] }) (ht:(te t).map (·.ty)=some (.slice e)) (he:te e=some ei) (hw:ei.w=1)
  (hx:s.get te t x=some (.ref k off n)) (hk:s.blk k=some (.var l)) (hl:off+n<=l.length) (hy:s.get te Y y=some vy) (hp:s.rd vy=some (.bytes m,bs)) :
  SA P o s ⟨opS x (.ref k off n)++opS y vy,(k,.var l) :: bs,[],some (d,some (.p (.int .i64 (min m.length n:Nat)))),[(k,.var (uO l off ((m.take n).map λu=>.p (.int .u8 u.toNat))))]⟩:=by
 refine ⟨?_,yL (zP hx) (zP hy),λe he=>(Q5.1 he).elim (λh=>by subst h;exact hk) (uJ vy _ bs hp e),by intro k T;simp at T⟩;intro cx s' a w K Q hm hs' hws T;obtain ⟨M,κ,tip,h0,hpk,hi⟩:=hs';have hbk:s'.blk k=some (.var l):=hm.2.1 (k,.var l) (by simp);have hx':=yB hi (yI hx s' (yG hm.1));have hy':=eK hi hy hp (zX hm.1) (λe he=>hm.2.1 e (by simp [he]));obtain ⟨b,arr,e1,fz,q1,q2,q3,q4,q5,q6,q7⟩:=hi.vars k l hbk;obtain ⟨info,z,i1,i2,i3,i4,i5⟩:=(hok e ei he).info;have hu:=xB hok ht;have I:(P.info? e).map (·.size)=some 1:=by rw [i1,Q8,i2,hw]
 generalize U:a.eval x=zx at hx';cases hx' with
 | ref _ _ _ b' l' g1 g2=>
 rw [q1] at g1;cases g1;have F:∀ (w':World) (vs:List Value),(execOp a.eval o).run P w=.ok (.value (.int .i64 (min m.length n:Nat))) w'->w'=w.setCells b off vs->vs=(m.take n).map (λu=>.int .u8 u.toNat)->o.wp P a w K Q:=by
  intro w' vs h1 h2 h3;subst h2;unfold Oper.wp;rw [h1];show K (a.put o.dst _) _;rw [hd];refine T _ _ ?_;rw [vZ];refine ⟨M,κ,tip,h0,hpk,(hi.setVar hbk q1 (by simp;omega) (by simp [h3]) ?_).put (hws d (by simp [Mic.ws])) (.p _ _ (.int _ _))⟩;intro j q hq;rw [List.getElem?_map] at hq;obtain ⟨u,V,h5⟩:=Q2.1 hq;subst h5;rw [h3,List.getElem?_map,V];exact .p _ _ (.int _ _)
 generalize G:a.eval y=zy at hy';cases hy' with
 | bytes0=>
  refine F w [] ?_ rfl (by simp);have:=run_copy_none (P:=P) w t Y o.type e (some ⟨b,off,none⟩) none n n 0 0 hu I (by simp [Nat.min_def]);simp [execOp,ho,U,G,resolve,invoke,builtin,this,goInt]
 | bytesE aa=>
  refine F w [] ?_ rfl (by simp);have:=run_copy_none (P:=P) w t Y o.type e (some ⟨b,off,none⟩) (some aa) n n 0 0 hu I (by simp [Nat.min_def]);simp [execOp,ho,U,G,resolve,invoke,builtin,this,goInt]
 | bytes _ b2 o2 n2 c2 e1' e2' e3'=>
  have hcs:((m.take n).map λu=>Qo .u8 u.toNat).length=Nat.min n2 n:=by simp [e1',Nat.min_comm]
  have S:=run_copy_cells (P:=P) w t Y o.type e b off n n ⟨b2,o2,none⟩ n2 c2 ((m.take n).map λu=>Qo .u8 u.toNat) hu I hcs
   (by
    intro j u L;rw [List.getElem?_map] at L;obtain ⟨u',V,h5⟩:=Q2.1 L;rw [List.getElem?_take] at V;split at V
    ·rw [add_off,<- h5];exact hi.mem _ _ _ (e3' j u' V)
    ·cases V)
   (by
     intro j hj;simp at hj;have:off+j<arr.size:=by omega
     simp [Qn,q2,this])
   (by intro j hj;simp at hj;exact sR q2 q3 (by omega))
   (by intro u L;obtain ⟨u',_,rfl⟩:=Qa.1 L;rfl)
  refine F _ _ ?_ rfl rfl;have hmin:((m.take n).map λu=>Qo .u8 u.toNat).length=min m.length n:=by simp [Nat.min_comm]
  rw [hmin] at S;simp [execOp,ho,U,G,resolve,invoke,builtin,S,goInt]
end
def ck (b:Bool):Option Unit:=bif b then some () else none
theorem xE {b:Bool} {u:Unit} (h:ck b=some u):b=true:=by cases b<;>simp [ck] at h ⊢
def idx (l:List α) (i:Int):Option α:=if 0<=i then l[i.toNat]? else none
def sub (l:List α) (lo hi:Int):Option (List α):=if 0<=lo/\lo<=hi/\hi<=l.length then some ((l.drop lo.toNat).take (hi.toNat - lo.toNat)) else none
def upd (l:List α) (i:Int) (v:α):Option (List α):=if 0<=i/\i<l.length then some (l.set i.toNat v) else none
theorem zE4 {v:Type} {l:List v} {i:Int} {x:v} (h:idx l i=some x):0<=i/\l[i.toNat]? = some x:=by
 unfold idx at h;split at h
 ·simp_all
 simp_all
theorem zUi {l:By} {i:Int} {x:UInt8} (h:idx l i=some x):(PV.bytes l).idx i=some (.int .u8 x.toNat):=by
 obtain ⟨v,A⟩:=zE4 h;simp [PV.idx,v,A]
theorem idxM {v:Type} {f:v->PV} {l:List v} {i:Int} {x:v} (h:idx l i=some x):(PV.sl w (l.map f)).idx i=some (f x):=by
 obtain ⟨y,A⟩:=zE4 h;simp [PV.idx,y,A]
theorem zMn {E:Type} {l r:List E} {d v:Int} (h:sub l d v=some r):0<=d/\d<=v/\v<=l.length/\r=(l.drop d.toNat).take (v.toNat - d.toNat):=by
 unfold sub at h;split at h
 ·simp_all
 simp_all
theorem uT (n:Int):0<=IntKind.u64.wrap n:=by
 exact Int.emod_nonneg _ (by decide)
section
theorem mv (y:yO P te) (D:o.op=.move x) (h:s.get te o.type x=some v):VA P o s (opS x v) [] v:=zR7 (.inl D) h
theorem asg (D:yO P te) (E:o.op=.assign x) (h:s.get te o.type x=some v):VA P o s (opS x v) [] v:=zR7 (.inr E) h
theorem iop (D:yO P te) (f:IOp) {v:TypeId} {k:IntKind} (G:o.op=.binOp f.op A x y v) (F:s.get te A x=some (.p (.int k a))) (E:s.get te v y=some (.p (.int k b))):VA P o s (opS x (.p (.int k a))++opS y (.p (.int k b))) [] (.p (.int k (f.val k a b))):=zQi f G F E
theorem iop8 (E:yO P te) (f:IOp) {v:TypeId} (I:o.op=.binOp f.op D x y v) (G:s.get te D x=some (.p (.int .u8 a))) (F:s.get te v y=some (.p (.int .u8 b))):VA P o s (opS x (.p (.int .u8 a))++opS y (.p (.int .u8 b))) [] (.p (.int .u8 (u8 (f.val .u8 a b)).toNat)):=yEm f I G F
theorem cmp (D:yO P te) (f:COp) {v:TypeId} {k:IntKind} (G:o.op=.binOp f.op A x y v) (F:s.get te A x=some (.p (.int k a))) (E:s.get te v y=some (.p (.int k b))):VA P o s (opS x (.p (.int k a))++opS y (.p (.int k b))) [] (.p (.bool (f.val a b))):=yIv f G F E
theorem scm (D:yO P te) (f:COp) {v:TypeId} {a b:By} (G:o.op=.binOp f.op A x y v) (F:s.get te A x=some (.p (.str a))) (E:s.get te v y=some (.p (.str b))):VA P o s (opS x (.p (.str a))++opS y (.p (.str b))) [] (.p (.bool (SOp f a b))):=yEr f G F E
theorem pkT (E:yO P te) {a b:Operand} {bb:Bool} (A:bb=true) (G:o.op=.pick c a b) (F:s.get te 0 c=some (.p (.bool bb))) (h:s.get te o.type a=some v):VA P o s (opS c (.p (.bool true))++opS a v) [] v:=yMv G A F h
theorem pkF (E:yO P te) {a b:Operand} {bb:Bool} (A:bb=false) (G:o.op=.pick c a b) (F:s.get te 0 c=some (.p (.bool bb))) (h:s.get te o.type b=some v):VA P o s (opS c (.p (.bool false))++opS b v) [] v:=yLs G A F h
theorem lnS (D:yO P te) (U:o.op=.call { callee:=.builtin .len,args:=#[x],argTypes:=#[t] }) (F:(te t).map (·.ty)=some (.slice e)) (V:s.get te t x=some v) (W:s.rd v=some (p,bs)) (J:p.isSlice=true):VA P o s (opS x v) bs (.p (.int .i64 p.len)):=
 yJk D U (.inl ⟨e,F⟩) V W (by cases p<;>simp [PV.isSlice] at J<;>rfl) (λ_=>J) (λh=>by simp_all)
theorem lnM (D:yO P te) {E:Type} {f:E->PV} {l:List E} (I:o.op=.call { callee:=.builtin .len,args:=#[x],argTypes:=#[t] }) (T:(te t).map (·.ty)=some (.slice e)) (J:s.get te t x=some v) (S:s.rd v=some (.sl w (l.map f),bs)):VA P o s (opS x v) bs (.p (.int .i64 l.length)):=by
 have:=lnS D I T J S rfl;simpa [Q9] using this
theorem slB (T:yO P te) {U G Y:Option Operand} {I A D:Option Int} {Z:LV} {l r:By} (h:sub l a b=some r) (ho:o.op=.slice t x U G Y)
  (ht:(te t).map (·.ty)=some (.slice e)) (he:te e=some ei) (hx:s.get te t x=some v) (hp:s.rd v=some (.bytes l,bs)) (hw:1=ei.w)
  (L:Bd s te U I rl) (K:Bd s te G A Z) (N:Bd s te Y D V) (d:D=none∨(D=A/\A.isSome=true)) (ea:I.getD 0=a) (F:A.getD l.length=b) :
  VA P o s (opS x v++(rl++(Z++V))) bs (.p (.bytes r)):=by
 obtain ⟨h0,h1,h2,h3⟩:=zMn h;subst ea;have S:A.getD ((PV.bytes l).len:Int)=b:=F;have:=zL3 T ho ht he hx hp rfl hw L K N (by rcases d with d | ⟨d,J⟩<;>simp [d]) h0 (by omega)
  (by
    rw [S];rcases d with d | ⟨d,J⟩
    ·rw [d];exact h2
    simp_all)
  (by
    rcases d with d | ⟨d,J⟩
    ·rw [d];simp
    ·rw [d];obtain ⟨i,G⟩:=Option.isSome_iff_exists.1 J;rw [G] at F ⊢;simp at F ⊢;rw [F];exact h2)
 rw [S] at this;rw [h3];exact this
theorem slM (U:yO P te) {W:Type} {f:W->PV} {G:Option Operand} {J A F:Option Int} {Y:LV} {l r:List W} (h:sub l a b=some r) (ho:o.op=.slice t x lo G mx)
  (ht:(te t).map (·.ty)=some (.slice e)) (he:te e=some ei) (hx:s.get te t x=some v) (hp:s.rd v=some (.sl w (l.map f),bs)) (hw:w=ei.w)
  (N:Bd s te lo J rl) (L:Bd s te G A rh) (S:Bd s te mx F Y) (d:F=none∨(F=A/\A.isSome=true)) (ea:J.getD 0=a) (I:A.getD l.length=b) :
  VA P o s (opS x v++(rl++(rh++Y))) bs (.p (.sl w (r.map f))):=by
 obtain ⟨h0,h1,h2,h3⟩:=zMn h;subst ea;have T:A.getD ((PV.sl w (l.map f)).len:Int)=b:=by simp only [Q9,Ql];exact I
 have D:((PV.sl w (l.map f)).len:Int)=l.length:=by simp [Q9]
 have:=zL3 (P:=P) U ho ht he hx hp rfl hw N L S (by rcases d with d | ⟨d,K⟩<;>simp [d]) h0 (by rw [T];exact h1)
  (by
    rw [T];rcases d with d | ⟨d,K⟩
    ·simp_all
    simp_all)
  (by
    rcases d with d | ⟨d,K⟩
    ·rw [d];simp
    simp_all)
 rw [T] at this;rw [h3];simpa [PV.sub,List.map_drop] using this
end
theorem zL4 {A:Nat} {q:AV} (N:o.dst=some d) (I:∀ (cx:Ctx) (s:AS) (a:Act) (w:World),SRel cx s a w->s.env A=some q->Qc o (yielded ops a.tmps)=false) :
  zR9 P ops o ⟨[(A,q)],[],[],some (d,some (.p (.tup []))),[]⟩:=by
 intro cx s a w K Q U E S L;have:=I cx s a w E (U.1 (A,q) (by simp));rw [if_neg (by simp_all),N];obtain ⟨M,T,tip,J,F,G⟩:=E;exact L _ _ ⟨M,T,tip,J,F,G.put (S d (by simp [Mic.ws])) (.p _ _ (.tup [] _ rfl (by simp)))⟩
section
theorem RK.sk {F:Nat} {b D:Bool} (E:D=b) (v:(o.dst,o.guard,(ops[j]?).bind (·.dst),s.env F,b')=(some d,some (j,b'),some F,some (.p (.bool D)),!b))
  (k:RK P ops r (s.put d (.p (.tup []))) λs' I=>K s' (⟨[(F,.p (.bool b))],[],[],some (d,some (.p (.tup []))),[]⟩:: I)):RK P ops (o :: r) s K:=have ⟨N,v⟩:=pq v;have ⟨hg,v⟩:=pq v;have ⟨T,v⟩:=pq v;have ⟨Y,U⟩:=pq v;by
 obtain ⟨s',I,W,h2⟩:=k;subst E U;refine ⟨s',_,.cons o r _ s s' I (zL4 N λcx s a w Z A=>?_) ⟨by simp_all,by simp,by simp⟩ W,h2⟩;have V:=zHg Z T A;cases D<;>simp [Qc,hg,V]
theorem RK.su {D:Nat} (v:(o.dst,o.guard,(ops[j]?).bind (·.dst),s.env D)=(some d,some (j,b'),some D,some (.p (.tup []))))
  (k:RK P ops r (s.put d (.p (.tup []))) λs' I=>K s' (⟨[(D,.p (.tup []))],[],[],some (d,some (.p (.tup []))),[]⟩:: I)):RK P ops (o :: r) s K:=have ⟨V,v⟩:=pq v;have ⟨Z,v⟩:=pq v;have ⟨U,hb⟩:=pq v;by
 obtain ⟨s',I,W,h2⟩:=k;refine ⟨s',_,.cons o r _ s s' I (zL4 V λcx s a w hs F=>?_) ⟨by simp_all,by simp,by simp⟩ W,h2⟩;obtain ⟨M,κ,tip,h0,hp,Y⟩:=hs;obtain ⟨y,T,G⟩:=Y.env D _ F;have:yielded ops a.tmps j=none:=by
  cases G with
  | p _ _ G=>cases G;simp [yielded,U,T]
 simp [Qc,Z,this]
end
section
structure OQ {J:Type} (cx:Ctx) (f:J->Exit×AS) (j:J) (e:Exit) (s:AS):Prop where
 fst:e=(f j).1
 snd:Imp cx.pk s (f j).2
theorem zH0 {J:Type} {c:Code} (f:J->Exit×AS) (j:J) (h:awp P cx c (OQ cx f j) s) (k:Q (f j).1 (f j).2):awp P cx c Q s:=λa w D=>
 wp_mono (h a w D) λe y w' ⟨s',v,d,A⟩ =>⟨(f j).2,A cx y w' rfl v,d▸k⟩
def LF (E:X->AS) (f:Y->Exit×AS):X ⊕ Y->Exit×AS
 | .inl x=>(.normal,E x)
 | .inr y=>f y
theorem yF6 {d:Code} {step:X->Option (X ⊕ Y)} {D:X} {y:Y} (E:X->AS) (f:Y->Exit×AS) (L:zO step n D=some y) (S:Imp cx.pk s (E D)) (F:∀ y,(f y).1≠.normal)
  (J:∀ x r,step x=some r->awp P cx d (OQ cx (LF E f) r) (E x)) (k:Q (f y).1 (f y).2):awp P cx (.loop d) Q s:=by
 refine zRe S (zH0 f y ?_ k);refine yK1 E _ _ (λy s h=>F y h.1.symm) (λx r N=>?_) n D y L;refine zHe (J x r N) (λe s h=>?_);cases r with
 | inl V=>exact ⟨h.1,h.2⟩
 | inr U=>exact ⟨h.1,h.2⟩
theorem zQ7 {v:Func} {d:Code} {L:Nat} {as N:AS} (E:AS) (T:P.funcs[f]? = some v) (W:v.body=some d) (I:(v.name == "runtime.NumGoroutine")=false) (D:L<=v.ntmps) (F:∀ k,k<BIG->(as.blk k).isSome=true->k∈ks)
  (Y:∀ cx:Ctx,PK cx ks->jU P v cx E N) (h:∀ cx:Ctx,cx.nt=v.ntmps->PK cx ks->awp P cx d (OQ cx (λ_:Unit=>(.ret,E)) ()) as):Ok P f L as N:=
 zJ5 T W I D F λcx S K=>zH0 _ _ (h cx S K) ⟨.inl rfl,Y cx K⟩
end
theorem zJ9 {A:Type} {c:Bool} {a b:Option A} {r:A} (h:(bif c then a else b)=some r):(c=true/\a=some r)∨(c=false/\b=some r):=by cases c<;>simp_all
def lt {β:Type} (e:α) (f:α->Option β):Option β:=f e
theorem zZg {c:PV} (h:c.isSlice=true):c.take c.len=c:=by
 cases c<;>simp_all [PV.take,Q9]
theorem rdT {c:PV} (h:s.blk k=some (.buf c)) (A:c.isSlice=true):s.rd (.buf k c.len)=some (c,[(k,.buf c)]):=by
 simp [AS.rd,h,zZg A]
theorem rdB {l:By} (h:s.blk k=some (.buf (.bytes l))):s.rd (.buf k l.length)=some (.bytes l,[(k,.buf (.bytes l))]):=rdT h rfl
theorem rdM {A:Type} {f:A->PV} {l:List A} (h:s.blk k=some (.buf (.sl w (l.map f)))):s.rd (.buf k l.length)=some (.sl w (l.map f),[(k,.buf (.sl w (l.map f)))]):=by
 have:=rdT h rfl;simpa [Q9] using this
theorem rT:s.rdL []=some ([],[]):=rfl
theorem zV {ps:List PV} {y:LB} (h:s.rd v=some (p,bs)) (A:s.rdL l=some (ps,y)):s.rdL (v :: l)=some (p :: ps,bs++y):=by simp [AS.rdL,h,A]
theorem zBc {ps:List PV} (h:s.rdL l=some (ps,bs)):s.rd (.ag l)=some (.agg ps,bs):=by simp [AS.rd,h]
theorem yZ {a b:Nat} (h:Q6 a b=true):a<=b:=by simp_all
def TI.known (i:TI):Bool:=match i.ty with | .other=>false | _=>true
theorem zX7 (h:i.known=true):i.ty≠.other:=by intro e;simp [TI.known,e] at h
section
theorem iopE (D:yO P te) (f:IOp) {v:TypeId} {k:IntKind} {c:Int} (I:f.val k a b=c) (G:o.op=.binOp f.op A x y v) (F:s.get te A x=some (.p (.int k a))) (E:s.get te v y=some (.p (.int k b))):VA P o s (opS x (.p (.int k a))++opS y (.p (.int k b))) [] (.p (.int k c)):=I▸zQi f G F E
theorem quo (E:yO P te) {v:TypeId} {k:IntKind} (K:(b==0)=false) (J:o.op=.binOp .quo D x y v) (I:s.get te D x=some (.p (.int k a))) (G:s.get te v y=some (.p (.int k b))):VA P o s (opS x (.p (.int k a))++opS y (.p (.int k b))) [] (.p (.int k (k.wrap (a.tdiv b)))):=yIw J I G (by simp_all)
theorem rem (E:yO P te) {v:TypeId} {k:IntKind} (J:(b==0)=false) (I:o.op=.binOp .rem D x y v) (G:s.get te D x=some (.p (.int k a))) (F:s.get te v y=some (.p (.int k b))):VA P o s (opS x (.p (.int k a))++opS y (.p (.int k b))) [] (.p (.int k (a.tmod b))):=yH5 I G F (by simp_all)
theorem shl (E:yO P te) {v:TypeId} {k D:IntKind} (J:0<=b) (I:o.op=.binOp .shl A x y v) (G:s.get te A x=some (.p (.int k a))) (F:s.get te v y=some (.p (.int D b))):VA P o s (opS x (.p (.int k a))++opS y (.p (.int D b))) [] (.p (.int k (rX k a b))):=yAx I G F J
theorem shr (E:yO P te) {v:TypeId} {k D:IntKind} (K:0<=b) (F:o.op=.binOp .shr A x y v) (I:s.get te A x=some (.p (.int k a))) (G:s.get te v y=some (.p (.int D b))):VA P o s (opS x (.p (.int k a))++opS y (.p (.int D b))) [] (.p (.int k (xN k a b))):=yBd F I G K
theorem shrE (E:yO P te) {v:TypeId} {k D:IntKind} {c:Int} (K:xN k a b=c) (J:0<=b) (I:o.op=.binOp .shr A x y v) (G:s.get te A x=some (.p (.int k a))) (F:s.get te v y=some (.p (.int D b))):VA P o s (opS x (.p (.int k a))++opS y (.p (.int D b))) [] (.p (.int k c)):=K▸yBd I G F J
theorem shlE (hok:yO P te) {k k':IntKind} {c:Int} (hc:rX k a b=c) (h0:0<=b) (ho:o.op=.binOp .shl tx x y tyy) (hx:s.get te tx x=some (.p (.int k a))) (hy:s.get te tyy y=some (.p (.int k' b))):VA P o s (opS x (.p (.int k a))++opS y (.p (.int k' b))) [] (.p (.int k c)):=hc▸yAx ho hx hy h0
theorem beq (hok:yO P te) {a b:Bool} (ho:o.op=.binOp .eql tx x y tyy) (ht:(te tx).map (·.ty)=some .bool) (hx:s.get te tx x=some (.p (.bool a))) (hy:s.get te tyy y=some (.p (.bool b))):VA P o s (opS x (.p (.bool a))++opS y (.p (.bool b))) [] (.p (.bool (a==b))):=
 yH9 hok ho (by obtain ⟨i,h1,h2⟩:=Q2.1 ht;exact ⟨i,h1,h2⟩) hx hy
theorem bne' (hok:yO P te) {a b:Bool} (ho:o.op=.binOp .neq tx x y tyy) (ht:(te tx).map (·.ty)=some .bool) (hx:s.get te tx x=some (.p (.bool a))) (hy:s.get te tyy y=some (.p (.bool b))):VA P o s (opS x (.p (.bool a))++opS y (.p (.bool b))) [] (.p (.bool (!(a==b)))):=
 yJn hok ho (by obtain ⟨i,h1,h2⟩:=Q2.1 ht;exact ⟨i,h1,h2⟩) hx hy
theorem not' (y:yO P te) {d:TypeId} {a:Bool} (E:o.op=.unOp .not d x) (A:s.get te d x=some (.p (.bool a))):VA P o s (opS x (.p (.bool a))) [] (.p (.bool (!a))):=yKm E A
theorem com (F:yO P te) {v:TypeId} {k:IntKind} (E:o.op=.unOp .xor v x) (D:s.get te v x=some (.p (.int k a))):VA P o s (opS x (.p (.int k a))) [] (.p (.int k (zK0 k a))):=yJz E D
theorem minI (F:yO P te) {k:IntKind} (I:o.op=.call { callee:=.builtin .min,args:=#[x,y],argTypes:=#[t,D] }) (G:s.get te t x=some (.p (.int k a))) (K:s.get te D y=some (.p (.int k b))):VA P o s (opS x (.p (.int k a))++opS y (.p (.int k b))) [] (.p (.int k (if b<a then b else a))):=yJo I G K
theorem ixB (E:yO P te) {l:By} {u:UInt8} {i:Int} {I:TI} (h:idx l i=some u) (U:o.op=.indexAddr t x y) (T:(te t).map (·.ty)=some (.slice e)) (S:te e=some I) (L:s.get te t x=some v) (W:s.rd v=some (.bytes l,bs)) (K:1=I.w) (V:s.get te 0 y=some (.p (.int .i64 i))) :
  VA P o s (opS x v++opS y (.p (.int .i64 i))) bs (.p (.cptr (.int .u8 u.toNat))):=yAy E U T S L W K V (zUi h)
theorem ixM (E:yO P te) {D:Type} {f:D->PV} {l:List D} {u:D} {i:Int} {J:TI} (h:idx l i=some u) (L:o.op=.indexAddr t x y) (S:(te t).map (·.ty)=some (.slice e)) (W:te e=some J) (T:s.get te t x=some v) (Y:s.rd v=some (.sl w (l.map f),bs)) (V:w=J.w) (U:s.get te 0 y=some (.p (.int .i64 i))) :
  VA P o s (opS x v++opS y (.p (.int .i64 i))) bs (.p (.cptr (f u))):=yAy E L S W T Y V U (idxM h)
end
def nzw (i:TI):Bool:=!Nat.beq i.w 0
theorem zY1 (h:nzw i=true):i.w≠0:=by intro e;simp [nzw,e] at h
section
theorem fa (A:yO P te) {F:TypeId} {f:Nat} {D:TI} (I:o.op=.fieldAddr t x f) (J:(te t).map (·.ty)=some (.struct fs)) (N:fs[f]? = some (F,E)) (L:te F=some D) (S:nzw D=true)
  (T:s.get te 0 x=some (.ptr k off)):VA P o s (opS x (.ptr k off)) [] (.ptr k (off+E)):=yKj A I J N L (zY1 S) T
theorem fc (E:yO P te) {l:List PV} {f G:Nat} {y:TI} (T:o.op=.fieldAddr t x f) (J:(te t).map (·.ty)=some (.struct fs)) (N:fs[f]? = some (I,G)) (L:te I=some y) (S:nzw y=true)
  (V:s.get te 0 x=some (.p (.cptr (.agg l)))) (U:iE y.isAgg l G y.w=some q):VA P o s (opS x (.p (.cptr (.agg l)))) [] (.p (.cptr q)):=yDo E T J N L (zY1 S) V U
theorem ncp (y:yO P te) (E:o.op=.nilCheck x) (D:s.get te 0 x=some (.ptr k n)):VA P o s (opS x (.ptr k n)) [] (.ptr k n):=yFl E D (.inl ⟨k,n,rfl⟩)
theorem iaK (A:yO P te) {i:Nat} {G:TI} (S:o.op=.indexAddr t x y) (K:(te t).map (·.ty)=some (.arr n e)) (N:te e=some G) (J:s.get te t x=some (.ptr k off)) (U:s.get te 0 y=some (.p (.int .i64 i))) (I:Q3 i n=true) :
  VA P o s (opS x (.ptr k off)++opS y (.p (.int .i64 i))) [] (.ptr k (off+i*G.w)):=zLa A S K N J U (Int.natCast_nonneg i) (by simp_all)
theorem ld (h:yO P te) (F:o.op=.load t x) (I:te t=some i) (K:i.plain=true) (G:s.get te 0 x=some (.ptr k off)) (J:s.blk k=some (.var l)) (E:l[off]? = some v):VA P o s (opS x (.ptr k off)) [(k,.var l)] v:=yGd h F I K G J E
theorem ldN (v:yO P te) (J:o.op=.load t x) (G:te t=some i) (K:i.isAgg=true) (F:s.get te 0 x=some (.ptr k off)) (I:s.blk k=some (.var l)) (E:Q6 (off+i.w) l.length=true):VA P o s (opS x (.ptr k off)) [(k,.var l)] (.ag ((l.drop off).take i.w)):=zNi v J G K F I (yZ E)
theorem ldC (v:yO P te) (D:o.op=.load t x) (G:te t=some i) (F:i.plain=true) (E:s.get te 0 x=some (.p (.cptr q))) (A:q.cells=[q]):VA P o s (opS x (.p (.cptr q))) [] (.p q):=zXe v D G F E A
theorem ldCN (A:yO P te) {l:List PV} (G:o.op=.load t x) (D:te t=some i) (I:i.isAgg=true) (E:s.get te 0 x=some (.p (.cptr (.agg l)))) (F:Q1 l.length i.w=true):VA P o s (opS x (.p (.cptr (.agg l)))) [] (.p (.agg l)):=zT7 A G D I E (Q0 F)
theorem sto (E:yO P te) {F:Operand} (S:o.dst=none) (J:o.op=.store t F x) (L:te t=some i) (T:s.get te 0 F=some (.ptr k off)) (K:s.get te t x=some v) (U:s.blk k=some (.var l))
  (I:Q1 v.cells.length i.w=true) (N:Q6 (off+i.w) l.length=true) (D:v.cells.all AV.one=true):SA P o s ⟨opS F (.ptr k off)++opS x v,[(k,.var l)],[],none,[(k,.var (uO l off v.cells))]⟩:=sa_store E S J L T K U (Q0 I) (yZ N) D
theorem al (y:yO P te) (G:o.dst=some d) (J:o.op=.alloc t) (I:te t=some i) (E:s.blk d=none):SA P o s ⟨[],[],[d],some (d,some (.ptr d 0)),[(d,.var (i.z.map zA))]⟩:=zXl y G J I E
theorem bx (A:yO P te) (F:o.dst=some d) (K:o.op=.box t x) (I:s.get te t x=some v) (G:s.blk d=none):SA P o s ⟨opS x v,[],[d],some (d,some (.ptr d 0)),[(d,.var v.cells)]⟩:=yJh F K I G
theorem pn:oD s te [] [] []:=.nil
theorem pc (t:TypeId) {i:Nat} {ps:List (Nat×Operand)} {d A:LV} (h:s.get te t x=some v) (k:oD s te ps d A):oD s te ((i,x) :: ps) ((i,v) :: d) (opS x v++A):=.cons _ _ t _ _ _ _ h k
theorem bld (y:yO P te) {J:List (Nat×Operand)} {G K:LV} (L:o.op=.build t ps) (E:ps.toList=J) (S:te t=some i) (A:i.ty=.struct fs) (D:fs.all (λf=>(te f.1).isSome)=true)
  (T:oD s te J G K) (N:oC (zHr te fs) (i.z.map zA) G=some l):VA P o s K [] (.ag l):=zWo y L E S A D T N
theorem bldA (h:yO P te) {E G:LV} {D:TI} (K:o.op=.build t ps) (y:ps.toList=F) (I:te t=some i) (A:i.ty=.arr n e) (N:te e=some D)
  (S:oD s te F E G) (J:oC (λj=>some (j*D.w,D.w)) (i.z.map zA) E=some l):VA P o s G [] (.ag l):=zTk h K y I A N S J
theorem yIq {h:Type} {f:h->PV} (l:List h) (v:∀ a,(f a).cells.length=w):dA w (.sl w (l.map f)) (xJ (l.map f)):=.sl _ λp A=>by
 obtain ⟨a,_,rfl⟩:=Qa.1 A;simp_all
theorem qn:oU s te t n [] [] [] []:=.nil n
theorem qc {ps:List (Nat×Operand)} {y A:LV} {bb:LB} (h:s.get te t x=some v) (E:s.rd v=some (p,bs)) (k:oU s te t (n+1) ps y A bb):oU s te t n ((n,x) :: ps) ((n,.p p) :: y) (opS x v++A) (bs++bb):=.cons n x v p bs ps y A bb h E k
theorem litB (G:yO P te) (l:By) {y:TI} {T:LV} {bb:LB} (W:o.dst=some d) (ho:o.op=.buildSlice t n ps) (J:ps.toList=N) (ht:(te t).map (·.ty)=some (.slice e)) (he:te e=some y) (Y:y.z.length=y.w) (A:1=y.w) (Z:Q6 n 16777216=true)
  (U:oU s te e 0 N S T bb) (hf:oC (λj=>some (j*y.w,y.w)) (rR y.z n) S=some ((l.map λx=>PV.int .u8 x.toNat).map .p)) (I:l.length=n) (V:s.blk d=none) :
  SA P o s ⟨T,bb,[d],some (d,some (.buf d l.length)),[(d,.buf (.bytes l))]⟩:=
 yA0 G W ho J ht he Y (by omega) (by rw [<- A];have:=yZ Z;omega) U hf (.bytes l A.symm) I V
theorem lit (I:yO P te) {N:Type} (f:N->PV) (l:List N) {y:TI} {T:List (Nat×Operand)} {bb:LB} (hd:o.dst=some d) (ho:o.op=.buildSlice t n ps) (E:ps.toList=T) (ht:(te t).map (·.ty)=some (.slice e)) (he:te e=some y) (Y:y.z.length=y.w) (hw:y.w=w) (L:Q3 0 w=true) (hn:Q6 (n*w) 16777216=true)
  (hp:oU s te e 0 T S V bb) (hl:∀ a,(f a).cells.length=w) (hf:oC (λj=>some (j*y.w,y.w)) (rR y.z n) S=some ((xJ (l.map f)).map .p)) (K:l.length=n) (Z:s.blk d=none) :
  SA P o s ⟨V,bb,[d],some (d,some (.buf d l.length)),[(d,.buf (.sl w (l.map f)))]⟩:=by
 subst hw;have:=yA0 I hd ho E ht he Y (by simp_all) (yZ hn) hp hf (yIq l hl) (by simpa [Q9] using K) Z;simpa [Q9] using this
theorem oneM {y:Type} {f:y->PV} {l:List y} (A:∀ a,(f a).cells.all PV.one=true):bK (.sl w (l.map f))=true:=by
 simp only [bK,List.all_map,Q4];exact λa _=>by simpa using A a
theorem apNB (E:yO P te) {F:TI} {r:By} {U:AV} {b:Nat} (h:yK b [] m=some r) (hd:o.dst=some d) (ho:o.op=.call { callee:=.builtin .append,args:=#[x,y],argTypes:=#[t,J] })
  (ht:(te t).map (·.ty)=some (.slice e)) (he:te e=some F) (T:(te J).map (·.ty)=some (.slice e')) (hx:s.get te t x=some (.nl (.bytes []))) (L:1=F.w) (hz:F.z.length=F.w) (hy:s.get te J y=some U) (hp:s.rd U=some (.bytes m,bs)) (hb:F.b=b) (N:Q3 0 b=true) (hk:s.blk d=none) :
  SA P o s ⟨opS x (.nl (.bytes []))++opS y U,bs,[d],some (d,some (.buf d r.length)),[(d,.buf (.bytes r))]⟩:=by
 subst hb;exact zUq E hd ho ht he (xB E T) (.inr ⟨_,rfl⟩) hx L (by omega) hz hy hp (appB h) (zNl h) (by simp_all) hk
theorem apB (G:yO P te) {S:TypeId} {F:TI} {l r:By} {U:AV} {b:Nat} (h:yK b l m=some r) (hd:o.dst=some d) (ho:o.op=.call { callee:=.builtin .append,args:=#[x,y],argTypes:=#[t,S] })
  (ht:(te t).map (·.ty)=some (.slice e)) (he:te e=some F) (K:(te S).map (·.ty)=some (.slice e')) (hx:s.get te t x=some (.buf k l.length)) (hk:s.blk k=some (.buf (.bytes l))) (L:1=F.w) (hz:F.z.length=F.w) (hy:s.get te S y=some U) (Z:s.rd U=some (.bytes m,bs)) (hb:F.b=b) (T:Q3 0 b=true) :
  SA P o s ⟨opS x (.buf k l.length)++opS y U,(k,.buf (.bytes l)) :: bs,[],some (d,some (.buf k r.length)),[(k,.buf (.bytes r))]⟩:=by
 subst hb;exact zOo G hd ho ht he (xB G K) (.inr ⟨_,rfl⟩) hx hk L (by omega) hz hy Z (appB h) rfl (zNl h) (by simp_all)
theorem apS (hok:yO P te) {t':TypeId} {l r:By} {b:Nat} (h:yK b l m=some r) (hd:o.dst=some d) (ho:o.op=.call { callee:=.builtin .append,args:=#[x,y],argTypes:=#[t,t'] })
  (ht:(te t).map (·.ty)=some (.slice e)) (he:te e=some ei) (ht':(te t').map (·.ty)=some .str) (hx:s.get te t x=some (.buf k l.length)) (hk:s.blk k=some (.buf (.bytes l))) (hcw:1=ei.w) (hz:ei.z.length=ei.w) (hy:s.get te t' y=some vy) (hp:s.rd vy=some (.str m,bs)) (hb:ei.b=b) (hb1:Q3 0 b=true) :
  SA P o s ⟨opS x (.buf k l.length)++opS y vy,(k,.buf (.bytes l)) :: bs,[],some (d,some (.buf k r.length)),[(k,.buf (.bytes r))]⟩:=by
 subst hb;exact zOo (c:=.bytes l) hok hd ho ht he (zQl hok ht') (.inl rfl) hx hk hcw (by omega) hz hy hp (appS h) rfl (zNl h) (by have:=Qd hb1;omega)
theorem apM (J:yO P te) (f:α->PV) {S:TypeId} {G:TI} {l m r:List α} {b:Nat} (h:yK b l m=some r) (hd:o.dst=some d) (ho:o.op=.call { callee:=.builtin .append,args:=#[x,y],argTypes:=#[t,S] })
  (ht:(te t).map (·.ty)=some (.slice e)) (he:te e=some G) (V:(te S).map (·.ty)=some (.slice e')) (hx:s.get te t x=some (.buf k l.length)) (hk:s.blk k=some (.buf (.sl w (l.map f)))) (T:w=G.w) (Y:Q3 0 w=true) (hz:G.z.length=G.w) (hy:s.get te S y=some vy) (hp:s.rd vy=some (.sl w (m.map f),bs)) (I:∀ a,(f a).cells.all PV.one=true) (hb:G.b=b) (W:Q3 0 b=true) :
  SA P o s ⟨opS x (.buf k l.length)++opS y vy,(k,.buf (.sl w (l.map f))) :: bs,[],some (d,some (.buf k r.length)),[(k,.buf (.sl w (r.map f)))]⟩:=by
 subst hb;have hl:(PV.sl w (l.map f)).len=l.length:=by simp [Q9]
 have:=zOo J hd ho ht he (xB J V) (.inr ⟨_,rfl⟩) (by simp_all) hk T (by simp_all) hz hy hp (appM h) (oneM I) (by have:=zNl h;simpa [Q9,PV.src] using this) (by simp_all);simpa [Q9] using this
theorem an:iF s te [] [] [] [] []:=.nil
theorem ac {bb:LB} {xs:List Operand} {A:List TypeId} {ps:List PV} {y:LV} (h:s.get te t x=some v) (E:s.rd v=some (p,bs)) (k:iF s te xs A ps y bb):iF s te (x :: xs) (t :: A) (p :: ps) (opS x v++y) (bs++bb):=.cons _ _ _ _ _ _ _ _ _ _ h E k
end
section
theorem cl (Z:yO P te) {J:Array TypeId} {T:List Operand} {S:List TypeId} {ps:List PV} {bb:LB} {N:Nat} (h:Ok P f N (mkS (argE 0 ps) []) (mkS [(0,av)] blks)) (W:o.dst=some d) (V:o.op=.call { callee:=.value (.func f),args:=xs,argTypes:=J })
  (G:xs.toList=T) (F:J.toList=S) (ha:iF s te T S ps U bb) (hn:Q1 N ps.length=true) (hf:(blks.map λe=>sh d e.1).all (λk=>(s.blk k).isNone)=true) :
  SA P o s ⟨U,bb,blks.map λe=>sh d e.1,some (d,some (av.ren (sh d))),blks.map λe=>(sh d e.1,e.2.ren (sh d))⟩:=
 yEd W V h G F ha (Q0 hn) (λk Y=>by simpa using (Q4.1 hf) k Y)
theorem clp (bm:yO P te) {K:Operand} {Z:List TypeId} {ps:List PV} {bb E:LB} {Y:Nat} (h:Ok P f Y (mkS ((0,.ptr 0 0) :: argE 1 ps) [(0,.var (cs.map .p))]) (mkS [(0,av)] ((0,.var l') :: blks))) (hd:o.dst=some d)
  (ho:o.op=.call { callee:=.value (.func f),args:=xs,argTypes:=ts }) (L:xs.toList=K :: xl) (S:ts.toList=ta :: Z) (U:s.get te ta K=some (.ptr k 0)) (V:s.blk k=some (.var l)) (T:s.rdL l=some (cs,E))
  (ha:iF s te xl Z ps rs bb) (hn:Q1 Y (ps.length+1)=true) (hf:(blks.map λe=>sh d e.1).all (λk=>(s.blk k).isNone)=true) (J:blks.all (λe=>!Nat.beq e.1 0)=true) :
  SA P o s ⟨opS K (.ptr k 0)++rs,(k,.var l) :: (E++bb),blks.map λe=>sh d e.1,some (d,some (av.ren (shp d k))),((0,.var l') :: blks).map λe=>(shp d k e.1,e.2.ren (shp d k))⟩:=
 zWm hd ho h L S U V T ha (Q0 hn) (λk hk=>by simpa using (Q4.1 hf) k hk) (λe he h0=>by have:=(Q4.1 J) e he;simp_all)
end
theorem zSt (A:s.blk k=some (.var l)):GLe κ κ tip tip s.blk (s.setb k (.var l')).blk where
 var:=λi b F h G=>by
  by_cases e:i=k
  ·subst e;exact ⟨h,l',zW _ _ _⟩
  ·exact ⟨h,F,by rw [zS e];exact G⟩
 buf:=λi c h=>by
  have e:i≠k:=by rintro rfl;simp_all
  exact GLe.same (by rw [zS e];exact h) rfl
 own:=λi c I h=>by
  have e:i≠k:=by rintro rfl;simp_all
  exact GLe.sameO (by rw [zS e];exact h) rfl rfl
theorem Inv.reVar {a:Act} {w:World} (y:Inv cx M κ tip s a w) (hb:s.blk k=some (.var l)) (bi:l'.length=l.length)
  (h:∀ (j:Nat) (q:AV) (x:Value),l'[j]? = some q->(∀ K,l[j]? = some K->RepA M κ tip s.blk K x)->RepA M κ tip s.blk q x):Inv cx M κ tip (s.setb k (.var l')) a w:=by
 have D:=zSt (κ:=κ) (tip:=tip) (l':=l') hb;exact {
  defers:=y.defers
  size:=y.size
  fr:=y.fr
  mem:=y.mem
  env:=λt v e=>let ⟨x,h1,h2⟩:=y.env t v e;⟨x,h1,h2.ghost D⟩
  vars:=λi li A=>by
   by_cases e:i=k
   ·subst e;rw [zW] at A;cases A;obtain ⟨b,F,Y,V,L,S,N,q4,U,Z⟩:=y.vars i l hb;exact ⟨b,F,Y,V,L,S,N,by omega,λj q I=>(h j q _ I (λK W=>U j K W)).ghost D,Z⟩
   ·rw [zS e] at A;obtain ⟨b,F,Y,V,L,S,N,q4,U,Z⟩:=y.vars i li A;exact ⟨b,F,Y,V,L,S,N,q4,λj q I=>(U j q I).ghost D,Z⟩
  bufs:=λi c h=>by
   have e:i≠k:=by rintro rfl;rw [zW] at h;cases h
   rw [zS e] at h;exact y.bufs i c h
  inj:=y.inj
  dom:=λi h=>by
   have e:i≠k:=by rintro rfl;rw [zW] at h;cases h
   rw [zS e] at h;exact y.dom i h
  glob:=y.glob
  old:=y.old
  owns:=y.owns.keep λi wd li h=>by
   have e:i≠k:=by rintro rfl;rw [zW] at h;cases h
   rw [zS e] at h;exact ⟨h,rfl,rfl,λb2 z=>⟨rfl,λo hm=>hm⟩,λj q x I hr=>hr.ghost D⟩}
theorem Imp.pureC (j:Nat) {q:AV} (K:s.blk k=some (.var l)) (G:l[j]? = some q) (hr:s.rd q=some (p,bs)):Imp pk s (s.setb k (.var (l.set j (.p p)))):=by
 intro cx a w _ J;obtain ⟨M,κ,tip,I,E,F⟩:=J;refine ⟨M,κ,tip,I,E,F.reVar K (by simp) λi L x v D=>?_⟩;rw [List.getElem?_set] at v;split at v
 ·rename_i e;subst e;split at v
  ·cases v;exact .p _ _ (zIq (D q G) hr)
  simp_all
 simp_all
theorem Imp.promC (j k2:Nat) {c:PV} (S:s.blk k=some (.var l)) (J:l[j]? = some (.nl c)) (D:s.blk k2=none) (hw:Q3 0 c.width=true):Imp pk s ((s.setb k2 (.buf c)).setb k (.var (l.set j (.buf k2 0)))):=by
 intro cx a w _ hs;obtain ⟨M,κ,tip,h0,hp,Y⟩:=hs;have N:k≠k2:=by rintro rfl;rw [S] at D;cases D
 have hj:j<l.length:=(List.getElem?_eq_some_iff.1 J).1;have v:c.nilOf=true:=by
  obtain ⟨b,T,e1,fz,q1,q2,q3,q4,q5,q6⟩:=Y.vars k l S;have h:=q5 j _ J;generalize T.getD j undef=y at h;cases h with
  | nl _ v=>exact v
 have K:=Y.bufNil D v (by simp_all);refine ⟨M,κ,_,h0,hp,K.reVar (l:=l) (by rw [zS N];exact S) (by simp) λi q' x A hx=>?_⟩;rw [List.getElem?_set] at A;split at A
 ·rename_i e;subst e;cases A;have h2:=hx _ J;cases h2 with
  | nl _ _=>
  refine .buf k2 0 c _ (zW _ _ _) ?_ (Qm _) ?_ (λ_=>(yU _ _ _).symm)
  ·unfold PV.nilOf at v;split at v<;>first | rfl | cases v
  ·unfold PV.nilOf at v;split at v
   ·exact .bytes0
   ·exact .sl0 _
   ·cases v
 ·exact hx q' A
structure A2 (α:Type) where (a0 a1:α) deriving DecidableEq,Inhabited
structure A4 (α:Type) where (a0 a1 a2 a3:α) deriving DecidableEq,Inhabited
structure A5 (α:Type) where (a0 a1 a2 a3 a4:α) deriving DecidableEq,Inhabited
structure A8 (α:Type) where (a0 a1 a2 a3 a4 a5 a6 a7:α) deriving DecidableEq,Inhabited
def eU8 (x:UInt8):PV:=.int .u8 x.toNat
def eSl (w:Nat) (f:α->PV) (l:List α):PV:=.sl w (l.map f)
def FU:Nat:=2 ^ 70
def SE (f:X->Exit×AS) (g:Y->Exit×AS):X ⊕ Y->Exit×AS
 | .inl x=>f x
 | .inr y=>g y
def rho (m:List (Nat×Nat)) (j:Nat):Nat:=(lk m j).getD j
theorem Imp.renK (D:PK cx ks) (m:List (Nat×Nat)) {env:LV} (G:((blks.map (·.1)).all λj=>(Q3 j BIG||Q6 BIG (rho m j))&&(blks.map (·.1)).all λv=>!Nat.beq (rho m j) (rho m v)||Q1 j v)=true) (S:(ks.all λk=>Q1 (rho m k) k&&(blks.map (·.1)).any (Q1 k))=true) :
  Imp cx.pk (mkS env blks) (mkS (env.map λe=>(e.1,e.2.ren (rho m))) (blks.map λe=>(rho m e.1,e.2.ren (rho m)))):=by
 refine Imp.ren (rho m) (λj A v y h=>?_) (λe K=>?_) (λj A U=>?_)
 ·have:=(Q4.1 (((Bool.and_eq_true _ _).mp ((Q4.1 G) j A)).2)) v y;simp_all
 ·have:=(Q4.1 S) e.1 (D e K);simp_all
 ·have:=((Bool.and_eq_true _ _).mp ((Q4.1 G) j A)).1;rcases (Bool.or_eq_true _ _).mp this with h | h
  ·have:=Qd (show Q6 (j+1) BIG=true from h);omega
  ·exact Qd h
theorem zP6 {as:AS} (h:as.blk=lk []):∀ k,k<BIG->(as.blk k).isSome=true->k∈([]:List Nat):=λk _ v=>by
 rw [h] at v;simp [lk] at v
theorem zQy {as:AS} {b:zN} (h:as.blk=lk [(0,b)]):∀ k,k<BIG->(as.blk k).isSome=true->k∈[0]:=λk _ A=>by
 rw [h] at A;simp only [lk] at A;cases D:Q1 k 0 with
 | true=>simp_all
 | false=>simp_all
theorem Imp.refl {d:PKs} :Imp d s s:=λ_ _ _ _ h=>h
def kR (ρ:Nat->Nat):LB->List Nat
 | []=>[]
 | (k,_) :: r=>ρ k :: kR ρ r
def bR (ρ:Nat->Nat):LB->LB
 | []=>[]
 | (k,b) :: r=>(ρ k,b.ren ρ) :: bR ρ r
theorem zF8 (d:Nat->Nat):∀ (l:LB),kR d l=l.map λe=>d e.1
 | []=>rfl
 | (_,_) :: r=>by simp [kR,zF8 d r]
theorem zH7 (d:Nat->Nat):∀ (l:LB),bR d l=l.map λe=>(d e.1,e.2.ren d)
 | []=>rfl
 | (_,_) :: r=>by simp [bR,zH7 d r]
def ixN (n:Nat) (i:Int):Option Nat:=if 0<=i/\i<n then some i.toNat else none
def wL (l:List α) (j:Nat) (u:α):Option (List α):=if j<l.length then some (l.set j u) else none
theorem zE5 {i:Int} (h:ixN n i=some j):0<=i/\i<n/\j=i.toNat:=by
 unfold ixN at h;split at h
 ·simp_all
 simp_all
theorem fM {d:Type} {l l':List d} {u:d} (h:wL l j u=some l'):j<l.length/\l'=l.set j u:=by
 unfold wL at h;split at h
 ·simp_all
 simp_all
theorem zCz (h:off<l.length):uO l off [v]=l.set off v:=by
 rw [jQ (by assumption)];rw [List.set_eq_take_append_cons_drop,if_pos h];simp
theorem ir8 {a:Nat} (h:a<256) (b:Int):xN .u8 (a:Int) b=((u8 (xN .u8 (a:Int) b)).toNat:Int):=by
 rw [eH];unfold xN;generalize min b.toNat Qe.bits=m;have h2:(0:Int)<2 ^ m:=Int.pow_pos (by decide);rw [Int.fdiv_eq_ediv_of_nonneg _ (by omega)];have h0:0<=(a:Int) / 2 ^ m:=Int.ediv_nonneg (by omega) (by omega);have h1:(a:Int) / 2 ^ m<=a:=Int.ediv_le_self _ (by omega);omega
section
theorem ia (G:yO P te) {i:Int} {I:TI} (h:ixN n i=some j) (Y:o.op=.indexAddr t x y) (N:(te t).map (·.ty)=some (.arr n e)) (U:te e=some I) (J:I.w=1) (K:s.get te t x=some (.ptr k off)) (L:s.get te D y=some (.p (.int .i64 i))) :
  VA P o s (opS x (.ptr k off)++opS y (.p (.int .i64 i))) [] (.ptr k (off+j)):=by
 obtain ⟨S,V,rfl⟩:=zE5 h;have:=zLa G Y N U K L S V;simp_all
theorem ir (A:yO P te) {F:TypeId} {i:Int} {J:TI} (h:ixN n i=some j) (L:o.op=.indexAddr t x y) (Y:(te t).map (·.ty)=some (.slice e)) (W:te e=some J) (K:J.w=1) (N:s.get te t x=some (.ref k off n)) (S:s.get te F y=some (.p (.int .i64 i))) :
  VA P o s (opS x (.ref k off n)++opS y (.p (.int .i64 i))) [] (.ptr k (off+j)):=by
 obtain ⟨U,Z,rfl⟩:=zE5 h;have:=yE8 A L Y W N S U Z;simp_all
theorem zJg (h:p.cells=[p]):∀ l,p≠.agg l:=by
 intro l e;subst e;simp only [PV.cells] at h;have v:=congrArg SizeOf.sizeOf h;simp at v;omega
theorem ixC (K:yO P te) {D:Type} {f:D->PV} {l:List D} {u:D} {i:Int} {J:TI} (h:idx l i=some u) (ho:o.op=.indexAddr t x y) (ht:(te t).map (·.ty)=some (.arr n e)) (he:te e=some J) (W:s.get te t x=some (.p (.cptr (.agg (l.map f))))) (hn:Q6 l.length n=true) (I:J.isAgg=false) (hw:J.w=1) (hf:∀ a,(f a).cells=[f a]) (V:s.get te G y=some (.p (.int .i64 i))) :
  VA P o s (opS x (.p (.cptr (.agg (l.map f))))++opS y (.p (.int .i64 i))) [] (.p (.cptr (f u))):=by
 obtain ⟨h0,U⟩:=zE4 h;have Z:=(List.getElem?_eq_some_iff.1 U).1;have bi:=yZ hn;refine yFn K ho ht he W V h0 (by omega) ?_;simp only [iE];have:=zJg (hf u);simp_all
theorem ldW (v:yO P te) (F:o.op=.load t x) (E:te t=some i) (K:i.isAgg=true) (G:s.get te 0 x=some (.ptr k 0)) (J:s.blk k=some (.var l)) (I:Q1 i.w l.length=true):VA P o s (opS x (.ptr k 0)) [(k,.var l)] (.ag l):=by
 have D:=Q0 I;have:=ldN v F E K G J (by simp [D]);simp_all
end
class pB (P:Program) where
 te:TE
 ok:yO P te
section
variable {pos:String} {af:Array Edge} 
abbrev VK (P:Program) (ops:Array Oper) (r:List Oper) (s:AS) (K:AS->List Mic->Prop) (d:Nat) (rs:LV) (bs:LB) (w:AV):Prop:=RK P ops r (s.put d w) λs' ms=>K s' (⟨rs,bs,[],some (d,some w),[]⟩:: ms)
abbrev BK (P:Program) (ops:Array Oper) (r:List Oper) (s:AS) (K:AS->List Mic->Prop) (d:Nat) (rs:LV) (bs:LB) (fr:List Nat) (k:Nat) (bl:zN) (w:AV):Prop:=RK P ops r ((s.setb k bl).put d w) λs' ms=>K s' (⟨rs,bs,fr,some (d,some w),[(k,bl)]⟩:: ms)
def GK (K:AS->List Mic->Prop) (dj:Nat) (b:Bool) (s:AS):List Mic->Prop
 | m :: ms=>K s ({ m with slots:=(dj,.p (.bool b)) :: m.slots } :: ms)
 | []=>False
theorem RK.g {dst:Option Nat} {J:Op} {G:Nat} {b:Bool} (L:b'=b) (N:((ops[j]?).bind (·.dst),s.env G)=(some G,some (.p (.bool b')))) (k:RK P ops (⟨dst,J,ty,pos,af,none⟩:: r) s (GK K G b)):RK P ops (⟨dst,J,ty,pos,af,some (j,b)⟩:: r) s K:=have ⟨hj,hb⟩:=pq N;by
 obtain ⟨s',ms,h1,h2⟩:=k;cases h1 with
 | cons _ _ _ _ _ _ D I hr=>
  refine ⟨s',_,.cons _ _ _ _ _ _ ?_ ?_ ?_,h2⟩
  ·intro cx s a w K Q F T hw hk;have hy:=zHg T hj (F.1 (G,.p (.bool b)) (by simp));have S:Qc ⟨dst,J,ty,pos,af,some (j,b)⟩ (yielded ops a.tmps)=true:=by simp [Qc,hy]
   rw [if_pos S];have:=D cx s a w K Q ⟨λe D=>F.1 e (List.mem_cons_of_mem _ D),F.2.1,F.2.2⟩ T hw hk;assumption
  ·exact ⟨λe D=>(Q5.1 D).elim (λh=>by simp_all) (I.1 e),I.2.1,I.2.2⟩
  assumption
variable [T:pB P]
theorem RK.mv (h:s.get T.te ty x=some v) (k:VK P ops r s K d (opS x v) ([]) (v)):RK P ops (⟨some d,.move x,ty,pos,af,none⟩:: r) s K:=RK.va rfl rfl (Go.Sw.mv T.ok rfl h) k
theorem RK.as (h:s.get T.te ty x=some v) (k:VK P ops r s K d (opS x v) ([]) (v)):RK P ops (⟨some d,.assign x,ty,pos,af,none⟩:: r) s K:=RK.va rfl rfl (Go.Sw.asg T.ok rfl h) k
theorem RK.pT {a b:Operand} {bb:Bool} (G:bb=true) (D:(s.get T.te 0 c,s.get T.te ty a)=(some (.p (.bool bb)),some v)) (k:VK P ops r s K d (opS c (.p (.bool true))++opS a v) ([]) (v)):RK P ops (⟨some d,.pick c a b,ty,pos,af,none⟩:: r) s K:=have ⟨I,h⟩:=pq D;RK.va rfl rfl (Go.Sw.pkT T.ok G rfl I h) k
theorem RK.pF {a b:Operand} {bb:Bool} (G:bb=false) (D:(s.get T.te 0 c,s.get T.te ty b)=(some (.p (.bool bb)),some v)) (k:VK P ops r s K d (opS c (.p (.bool false))++opS b v) ([]) (v)):RK P ops (⟨some d,.pick c a b,ty,pos,af,none⟩:: r) s K:=have ⟨J,h⟩:=pq D;RK.va rfl rfl (Go.Sw.pkF T.ok G rfl J h) k
theorem RK.ad {A:IntKind} (F:(s.get T.te I x,s.get T.te D y)=(some (.p (.int A a)),some (.p (.int A b)))) (k:VK P ops r s K d (opS x (.p (.int A a))++opS y (.p (.int A b))) ([]) (.p (.int A (A.wrap (a+b))))):RK P ops (⟨some d,.binOp .add I x y D,ty,pos,af,none⟩:: r) s K:=have ⟨L,N⟩:=pq F;RK.va rfl rfl (Go.Sw.iop T.ok .add rfl L N) k
theorem RK.adE (hc:kk.wrap (a+b)=cc) (hx0:(s.get T.te tx x,s.get T.te tyy y)=(some (.p (.int kk a)),some (.p (.int kk b)))) (k:VK P ops r s K d (opS x (.p (.int kk a))++opS y (.p (.int kk b))) ([]) (.p (.int kk cc))):RK P ops (⟨some d,.binOp .add tx x y tyy,ty,pos,af,none⟩:: r) s K:=have ⟨hx,hy⟩:=pq hx0;RK.va rfl rfl (Go.Sw.iopE T.ok .add hc rfl hx hy) k
theorem RK.sbt {A:IntKind} (E:(s.get T.te G x,s.get T.te D y)=(some (.p (.int A a)),some (.p (.int A b)))) (k:VK P ops r s K d (opS x (.p (.int A a))++opS y (.p (.int A b))) ([]) (.p (.int A (A.wrap (a - b))))):RK P ops (⟨some d,.binOp .sub G x y D,ty,pos,af,none⟩:: r) s K:=have ⟨J,L⟩:=pq E;RK.va rfl rfl (Go.Sw.iop T.ok .sub rfl J L) k
theorem RK.sbtE {A:IntKind} {F:Int} (N:A.wrap (a - b)=F) (E:(s.get T.te I x,s.get T.te D y)=(some (.p (.int A a)),some (.p (.int A b)))) (k:VK P ops r s K d (opS x (.p (.int A a))++opS y (.p (.int A b))) ([]) (.p (.int A F))):RK P ops (⟨some d,.binOp .sub I x y D,ty,pos,af,none⟩:: r) s K:=have ⟨L,S⟩:=pq E;RK.va rfl rfl (Go.Sw.iopE T.ok .sub N rfl L S) k
theorem RK.mu (hx0:(s.get T.te tx x,s.get T.te tyy y)=(some (.p (.int kk a)),some (.p (.int kk b)))) (k:VK P ops r s K d (opS x (.p (.int kk a))++opS y (.p (.int kk b))) ([]) (.p (.int kk (kk.wrap (a*b))))):RK P ops (⟨some d,.binOp .mul tx x y tyy,ty,pos,af,none⟩:: r) s K:=have ⟨hx,hy⟩:=pq hx0;RK.va rfl rfl (Go.Sw.iop T.ok .mul rfl hx hy) k
theorem RK.muE {A:IntKind} {G:Int} (S:A.wrap (a*b)=G) (F:(s.get T.te J x,s.get T.te D y)=(some (.p (.int A a)),some (.p (.int A b)))) (k:VK P ops r s K d (opS x (.p (.int A a))++opS y (.p (.int A b))) ([]) (.p (.int A G))):RK P ops (⟨some d,.binOp .mul J x y D,ty,pos,af,none⟩:: r) s K:=have ⟨N,U⟩:=pq F;RK.va rfl rfl (Go.Sw.iopE T.ok .mul S rfl N U) k
theorem RK.an (hx0:(s.get T.te tx x,s.get T.te tyy y)=(some (.p (.int kk a)),some (.p (.int kk b)))) (k:VK P ops r s K d (opS x (.p (.int kk a))++opS y (.p (.int kk b))) ([]) (.p (.int kk (yX kk a b)))):RK P ops (⟨some d,.binOp .and tx x y tyy,ty,pos,af,none⟩:: r) s K:=have ⟨hx,hy⟩:=pq hx0;RK.va rfl rfl (Go.Sw.iop T.ok .and rfl hx hy) k
theorem RK.anE {A:IntKind} {G:Int} (S:yX A a b=G) (F:(s.get T.te J x,s.get T.te D y)=(some (.p (.int A a)),some (.p (.int A b)))) (k:VK P ops r s K d (opS x (.p (.int A a))++opS y (.p (.int A b))) ([]) (.p (.int A G))):RK P ops (⟨some d,.binOp .and J x y D,ty,pos,af,none⟩:: r) s K:=have ⟨N,U⟩:=pq F;RK.va rfl rfl (Go.Sw.iopE T.ok .and S rfl N U) k
theorem RK.oE (hc:ior kk a b=cc) (hx0:(s.get T.te tx x,s.get T.te tyy y)=(some (.p (.int kk a)),some (.p (.int kk b)))) (k:VK P ops r s K d (opS x (.p (.int kk a))++opS y (.p (.int kk b))) ([]) (.p (.int kk cc))):RK P ops (⟨some d,.binOp .or tx x y tyy,ty,pos,af,none⟩:: r) s K:=have ⟨hx,hy⟩:=pq hx0;RK.va rfl rfl (Go.Sw.iopE T.ok .or hc rfl hx hy) k
theorem RK.o8 (hx0:(s.get T.te tx x,s.get T.te tyy y)=(some (.p (.int .u8 a)),some (.p (.int .u8 b)))) (k:VK P ops r s K d (opS x (.p (.int .u8 a))++opS y (.p (.int .u8 b))) ([]) (.p (.int .u8 (u8 (ior Qe a b)).toNat))):RK P ops (⟨some d,.binOp .or tx x y tyy,ty,pos,af,none⟩:: r) s K:=have ⟨hx,hy⟩:=pq hx0;RK.va rfl rfl (Go.Sw.iop8 T.ok .or rfl hx hy) k
theorem RK.xoE {A:IntKind} {G:Int} (N:wC A a b=G) (F:(s.get T.te I x,s.get T.te D y)=(some (.p (.int A a)),some (.p (.int A b)))) (k:VK P ops r s K d (opS x (.p (.int A a))++opS y (.p (.int A b))) ([]) (.p (.int A G))):RK P ops (⟨some d,.binOp .xor I x y D,ty,pos,af,none⟩:: r) s K:=have ⟨U,L⟩:=pq F;RK.va rfl rfl (Go.Sw.iopE T.ok .xor N rfl U L) k
theorem RK.xo8 (hx0:(s.get T.te tx x,s.get T.te tyy y)=(some (.p (.int .u8 a)),some (.p (.int .u8 b)))) (k:VK P ops r s K d (opS x (.p (.int .u8 a))++opS y (.p (.int .u8 b))) ([]) (.p (.int .u8 (u8 (wC Qe a b)).toNat))):RK P ops (⟨some d,.binOp .xor tx x y tyy,ty,pos,af,none⟩:: r) s K:=have ⟨hx,hy⟩:=pq hx0;RK.va rfl rfl (Go.Sw.iop8 T.ok .xor rfl hx hy) k
theorem RK.eq {D:IntKind} (E:(s.get T.te G x,s.get T.te A y)=(some (.p (.int D a)),some (.p (.int D b)))) (k:VK P ops r s K d (opS x (.p (.int D a))++opS y (.p (.int D b))) ([]) (.p (.bool (a==b)))):RK P ops (⟨some d,.binOp .eql G x y A,ty,pos,af,none⟩:: r) s K:=have ⟨L,N⟩:=pq E;RK.va rfl rfl (Go.Sw.cmp T.ok .eql rfl L N) k
theorem RK.ne {D:IntKind} (F:(s.get T.te I x,s.get T.te A y)=(some (.p (.int D a)),some (.p (.int D b)))) (k:VK P ops r s K d (opS x (.p (.int D a))++opS y (.p (.int D b))) ([]) (.p (.bool (a != b)))):RK P ops (⟨some d,.binOp .neq I x y A,ty,pos,af,none⟩:: r) s K:=have ⟨N,J⟩:=pq F;RK.va rfl rfl (Go.Sw.cmp T.ok .neq rfl N J) k
theorem RK.ls {D:IntKind} (G:(s.get T.te J x,s.get T.te A y)=(some (.p (.int D a)),some (.p (.int D b)))) (k:VK P ops r s K d (opS x (.p (.int D a))++opS y (.p (.int D b))) ([]) (.p (.bool (decide (a<b))))):RK P ops (⟨some d,.binOp .lss J x y A,ty,pos,af,none⟩:: r) s K:=have ⟨N,S⟩:=pq G;RK.va rfl rfl (Go.Sw.cmp T.ok .lss rfl N S) k
theorem RK.gt {D:IntKind} (G:(s.get T.te J x,s.get T.te A y)=(some (.p (.int D a)),some (.p (.int D b)))) (k:VK P ops r s K d (opS x (.p (.int D a))++opS y (.p (.int D b))) ([]) (.p (.bool (decide (b<a))))):RK P ops (⟨some d,.binOp .gtr J x y A,ty,pos,af,none⟩:: r) s K:=have ⟨N,S⟩:=pq G;RK.va rfl rfl (Go.Sw.cmp T.ok .gtr rfl N S) k
theorem RK.ge {D:IntKind} (F:(s.get T.te J x,s.get T.te A y)=(some (.p (.int D a)),some (.p (.int D b)))) (k:VK P ops r s K d (opS x (.p (.int D a))++opS y (.p (.int D b))) ([]) (.p (.bool (decide (b<=a))))):RK P ops (⟨some d,.binOp .geq J x y A,ty,pos,af,none⟩:: r) s K:=have ⟨N,S⟩:=pq F;RK.va rfl rfl (Go.Sw.cmp T.ok .geq rfl N S) k
theorem RK.quo {A:IntKind} (N:(b==0)=false) (L:s.get T.te G x=some (.p (.int A a))) (J:s.get T.te D y=some (.p (.int A b))) (k:VK P ops r s K d (opS x (.p (.int A a))++opS y (.p (.int A b))) ([]) (.p (.int A (A.wrap (a.tdiv b))))):RK P ops (⟨some d,.binOp .quo G x y D,ty,pos,af,none⟩:: r) s K:=RK.va rfl rfl (Go.Sw.quo T.ok N rfl L J) k
theorem RK.rem {A:IntKind} (N:(b==0)=false) (L:s.get T.te G x=some (.p (.int A a))) (J:s.get T.te D y=some (.p (.int A b))) (k:VK P ops r s K d (opS x (.p (.int A a))++opS y (.p (.int A b))) ([]) (.p (.int A (a.tmod b)))):RK P ops (⟨some d,.binOp .rem G x y D,ty,pos,af,none⟩:: r) s K:=RK.va rfl rfl (Go.Sw.rem T.ok N rfl L J) k
theorem RK.shl {D F:IntKind} (S:0<=b) (E:(s.get T.te I x,s.get T.te A y)=(some (.p (.int D a)),some (.p (.int F b)))) (k:VK P ops r s K d (opS x (.p (.int D a))++opS y (.p (.int F b))) ([]) (.p (.int D (rX D a b)))):RK P ops (⟨some d,.binOp .shl I x y A,ty,pos,af,none⟩:: r) s K:=have ⟨L,N⟩:=pq E;RK.va rfl rfl (Go.Sw.shl T.ok S rfl L N) k
theorem RK.shlE (hc:rX kk a b=cc) (h0:0<=b) (hx:s.get T.te tx x=some (.p (.int kk a))) (hy:s.get T.te tyy y=some (.p (.int k2 b))) (k:VK P ops r s K d (opS x (.p (.int kk a))++opS y (.p (.int k2 b))) ([]) (.p (.int kk cc))):RK P ops (⟨some d,.binOp .shl tx x y tyy,ty,pos,af,none⟩:: r) s K:=RK.va rfl rfl (Go.Sw.shlE T.ok hc h0 rfl hx hy) k
theorem RK.shr {D F:IntKind} (S:0<=b) (E:(s.get T.te I x,s.get T.te A y)=(some (.p (.int D a)),some (.p (.int F b)))) (k:VK P ops r s K d (opS x (.p (.int D a))++opS y (.p (.int F b))) ([]) (.p (.int D (xN D a b)))):RK P ops (⟨some d,.binOp .shr I x y A,ty,pos,af,none⟩:: r) s K:=have ⟨L,N⟩:=pq E;RK.va rfl rfl (Go.Sw.shr T.ok S rfl L N) k
theorem RK.shrE {D F:IntKind} {J:Int} (U:xN D a b=J) (L:0<=b) (E:(s.get T.te I x,s.get T.te A y)=(some (.p (.int D a)),some (.p (.int F b)))) (k:VK P ops r s K d (opS x (.p (.int D a))++opS y (.p (.int F b))) ([]) (.p (.int D J))):RK P ops (⟨some d,.binOp .shr I x y A,ty,pos,af,none⟩:: r) s K:=have ⟨N,S⟩:=pq E;RK.va rfl rfl (Go.Sw.shrE T.ok U L rfl N S) k
theorem RK.shr8 {a:Nat} (h0:0<=b) (hx:s.get T.te tx x=some (.p (.int .u8 (a:Nat)))) (ha:a<256) (hy:s.get T.te tyy y=some (.p (.int k2 b))) (k:VK P ops r s K d (opS x (.p (.int .u8 (a:Nat)))++opS y (.p (.int k2 b))) ([]) (.p (.int .u8 (u8 (xN .u8 (a:Nat) b)).toNat))):RK P ops (⟨some d,.binOp .shr tx x y tyy,ty,pos,af,none⟩:: r) s K:=RK.va rfl rfl (Go.Sw.shrE T.ok (ir8 ha _) h0 rfl hx hy) k
theorem RK.beq {a b:Bool} (ht:(T.te tx).map (·.ty)=some .bool) (hx:s.get T.te tx x=some (.p (.bool a))) (hy:s.get T.te tyy y=some (.p (.bool b))) (k:VK P ops r s K d (opS x (.p (.bool a))++opS y (.p (.bool b))) ([]) (.p (.bool (a==b)))):RK P ops (⟨some d,.binOp .eql tx x y tyy,ty,pos,af,none⟩:: r) s K:=RK.va rfl rfl (Go.Sw.beq T.ok rfl ht hx hy) k
theorem RK.bne {a b:Bool} (ht:(T.te tx).map (·.ty)=some .bool) (hx:s.get T.te tx x=some (.p (.bool a))) (hy:s.get T.te tyy y=some (.p (.bool b))) (k:VK P ops r s K d (opS x (.p (.bool a))++opS y (.p (.bool b))) ([]) (.p (.bool (!(a==b))))):RK P ops (⟨some d,.binOp .neq tx x y tyy,ty,pos,af,none⟩:: r) s K:=RK.va rfl rfl (Go.Sw.bne' T.ok rfl ht hx hy) k
theorem RK.no {y:TypeId} {a:Bool} (F:s.get T.te y x=some (.p (.bool a))) (k:VK P ops r s K d (opS x (.p (.bool a))) ([]) (.p (.bool (!a)))):RK P ops (⟨some d,.unOp .not y x,ty,pos,af,none⟩:: r) s K:=RK.va rfl rfl (Go.Sw.not' T.ok rfl F) k
theorem RK.com {y:IntKind} (G:s.get T.te A x=some (.p (.int y a))) (k:VK P ops r s K d (opS x (.p (.int y a))) ([]) (.p (.int y (zK0 y a)))):RK P ops (⟨some d,.unOp .xor A x,ty,pos,af,none⟩:: r) s K:=RK.va rfl rfl (Go.Sw.com T.ok rfl G) k
theorem RK.cv {E G:IntKind} (y:((T.te A).map (·.ty),(T.te D).map (·.ty),s.get T.te A x)=(some (.int G),some (.int E),some (.p (.int G a)))) (k:VK P ops r s K d (opS x (.p (.int G a))) ([]) (.p (.int E (E.wrap a)))):RK P ops (⟨some d,.convert A D x,ty,pos,af,none⟩:: r) s K:=have ⟨L,y⟩:=pq y;have ⟨J,N⟩:=pq y;RK.va rfl rfl (Go.Sw.va_conv T.ok rfl L J N) k
theorem RK.cv8 {y:TypeId} {G:IntKind} (A:((T.te y).map (·.ty),(T.te D).map (·.ty),s.get T.te y x)=(some (.int G),some (.int .u8),some (.p (.int G a)))) (k:VK P ops r s K d (opS x (.p (.int G a))) ([]) (.p (.int .u8 (u8 a).toNat))):RK P ops (⟨some d,.convert y D x,ty,pos,af,none⟩:: r) s K:=have ⟨S,A⟩:=pq A;have ⟨L,N⟩:=pq A;RK.va rfl rfl (Go.Sw.va_conv8 T.ok rfl S L N) k
theorem RK.fa {f L:Nat} {I:TI} (h:((T.te t).map (·.ty),fs[f]?,T.te G,nzw I,s.get T.te 0 x)=(some (.struct fs),some (G,L),some I,true,some (.ptr E off))) (k:VK P ops r s K d (opS x (.ptr E off)) ([]) (.ptr E (off+L))):RK P ops (⟨some d,.fieldAddr t x f,ty,pos,af,none⟩:: r) s K:=have ⟨Y,h⟩:=pq h;have ⟨Z,h⟩:=pq h;have ⟨W,h⟩:=pq h;have ⟨N,S⟩:=pq h;RK.va rfl rfl (Go.Sw.fa T.ok rfl Y Z W N S) k
theorem RK.fc {ft:TypeId} {l:List PV} {f fo:Nat} {fi:TI} (ht0:((T.te t).map (·.ty),fs[f]?,T.te ft,nzw fi,s.get T.te 0 x,iE fi.isAgg l fo fi.w)=(some (.struct fs),some (ft,fo),some fi,true,some (.p (.cptr (.agg l))),some q)) (k:VK P ops r s K d (opS x (.p (.cptr (.agg l)))) ([]) (.p (.cptr q))):RK P ops (⟨some d,.fieldAddr t x f,ty,pos,af,none⟩:: r) s K:=have ⟨ht,ht0⟩:=pq ht0;have ⟨hf,ht0⟩:=pq ht0;have ⟨he,ht0⟩:=pq ht0;have ⟨hw,ht0⟩:=pq ht0;have ⟨hx,hq⟩:=pq ht0;RK.va rfl rfl (Go.Sw.fc T.ok rfl ht hf he hw hx hq) k
theorem RK.ixB {l:By} {u:UInt8} {i:Int} (h:idx l i=some u) (D:((T.te t).map (·.ty),T.te e,s.get T.te t x,s.rd v,1,s.get T.te 0 y)=(some (.slice e),some L,some v,some (.bytes l,bs),L.w,some (.p (.int .i64 i)))) (k:VK P ops r s K d (opS x v++opS y (.p (.int .i64 i))) (bs) (.p (.cptr (.int .u8 u.toNat)))):RK P ops (⟨some d,.indexAddr t x y,ty,pos,af,none⟩:: r) s K:=have ⟨V,D⟩:=pq D;have ⟨he,D⟩:=pq D;have ⟨W,D⟩:=pq D;have ⟨S,D⟩:=pq D;have ⟨U,Y⟩:=pq D;RK.va rfl rfl (Go.Sw.ixB T.ok h rfl V he W S U Y) k
theorem RK.ixM {F:Type} {f:F->PV} {l:List F} {u:F} {i:Int} {N:TI} (h:idx l i=some u) (E:((T.te t).map (·.ty),T.te e,s.get T.te t x)=(some (.slice e),some N,some v)) (hp:s.rd v=some (.sl w (l.map f),bs)) (I:(w,s.get T.te 0 y)=(N.w,some (.p (.int .i64 i)))) (k:VK P ops r s K d (opS x v++opS y (.p (.int .i64 i))) (bs) (.p (.cptr (f u)))):RK P ops (⟨some d,.indexAddr t x y,ty,pos,af,none⟩:: r) s K:=have ⟨ht,E⟩:=pq E;have ⟨W,V⟩:=pq E;have ⟨hw,Y⟩:=pq I;RK.va rfl rfl (Go.Sw.ixM T.ok h rfl ht W V hp hw Y) k
theorem RK.ixC {F:Type} {f:F->PV} {l:List F} {u:F} {i:Int} (h:idx l i=some u) (v:((T.te t).map (·.ty),T.te e,s.get T.te t x,Q6 l.length n,L.isAgg,L.w)=(some (.arr n e),some L,some (.p (.cptr (.agg (l.map f)))),true,false,1)) (hf:∀ a,(f a).cells=[f a]) (Y:s.get T.te 0 y=some (.p (.int .i64 i))) (k:VK P ops r s K d (opS x (.p (.cptr (.agg (l.map f))))++opS y (.p (.int .i64 i))) ([]) (.p (.cptr (f u)))):RK P ops (⟨some d,.indexAddr t x y,ty,pos,af,none⟩:: r) s K:=have ⟨ht,v⟩:=pq v;have ⟨he,v⟩:=pq v;have ⟨Z,v⟩:=pq v;have ⟨hn,v⟩:=pq v;have ⟨J,hw⟩:=pq v;RK.va rfl rfl (Go.Sw.ixC T.ok h rfl ht he Z hn J hw hf Y) k
theorem RK.ia {G:Nat} {i:Int} {J:TI} (h:ixN n i=some j) (A:((T.te t).map (·.ty),T.te e,J.w,s.get T.te t x,s.get T.te 0 y)=(some (.arr n e),some J,1,some (.ptr G off),some (.p (.int .i64 i)))) (k:VK P ops r s K d (opS x (.ptr G off)++opS y (.p (.int .i64 i))) ([]) (.ptr G (off+j))):RK P ops (⟨some d,.indexAddr t x y,ty,pos,af,none⟩:: r) s K:=have ⟨Y,A⟩:=pq A;have ⟨he,A⟩:=pq A;have ⟨S,A⟩:=pq A;have ⟨V,W⟩:=pq A;RK.va rfl rfl (Go.Sw.ia T.ok h rfl Y he S V W) k
theorem RK.iaK {i F:Nat} {I:TI} (h:((T.te t).map (·.ty),T.te e,s.get T.te t x,s.get T.te 0 y,Q3 i n)=(some (.arr n e),some I,some (.ptr F off),some (.p (.int .i64 (i:Nat))),true)) (k:VK P ops r s K d (opS x (.ptr F off)++opS y (.p (.int .i64 (i:Nat)))) ([]) (.ptr F (off+i*I.w))):RK P ops (⟨some d,.indexAddr t x y,ty,pos,af,none⟩:: r) s K:=have ⟨N,h⟩:=pq h;have ⟨W,h⟩:=pq h;have ⟨U,h⟩:=pq h;have ⟨S,V⟩:=pq h;RK.va rfl rfl (Go.Sw.iaK T.ok rfl N W U S V) k
theorem RK.ir {J:Nat} {i:Int} (h:ixN n i=some j) (A:((T.te t).map (·.ty),T.te e,L.w,s.get T.te t x,s.get T.te 0 y)=(some (.slice e),some L,1,some (.ref J off n),some (.p (.int .i64 i)))) (k:VK P ops r s K d (opS x (.ref J off n)++opS y (.p (.int .i64 i))) ([]) (.ptr J (off+j))):RK P ops (⟨some d,.indexAddr t x y,ty,pos,af,none⟩:: r) s K:=have ⟨U,A⟩:=pq A;have ⟨he,A⟩:=pq A;have ⟨Z,A⟩:=pq A;have ⟨V,W⟩:=pq A;RK.va rfl rfl (Go.Sw.ir T.ok h rfl U he Z V W) k
theorem RK.ld {A:Nat} (h:(T.te t,i.plain,s.get T.te 0 x,s.blk A,l[off]?)=(some i,true,some (.ptr A off),some (.var l),some v)) (k:VK P ops r s K d (opS x (.ptr A off)) ([(A,.var l)]) (v)):RK P ops (⟨some d,.load t x,ty,pos,af,none⟩:: r) s K:=have ⟨S,h⟩:=pq h;have ⟨L,h⟩:=pq h;have ⟨N,h⟩:=pq h;have ⟨U,I⟩:=pq h;RK.va rfl rfl (Go.Sw.ld T.ok rfl S L N U I) k
theorem RK.ldA {D:Type} {f:D->AV} {A:Nat} {l:List D} {u:D} (h:l[j]? = some u) (y:(T.te t,i.plain,s.get T.te 0 x)=(some i,true,some (.ptr A off))) (L:off=j) (V:s.blk A=some (.var (l.map f))) (k:VK P ops r s K d (opS x (.ptr A off)) ([(A,.var (l.map f))]) (f u)):RK P ops (⟨some d,.load t x,ty,pos,af,none⟩:: r) s K:=have ⟨J,y⟩:=pq y;have ⟨U,N⟩:=pq y;RK.va rfl rfl (Go.Sw.ld T.ok rfl J U N V (by simp_all)) k
theorem RK.ldN {A:Nat} (h:(T.te t,i.isAgg,s.get T.te 0 x,s.blk A,Q6 (off+i.w) l.length)=(some i,true,some (.ptr A off),some (.var l),true)) (k:VK P ops r s K d (opS x (.ptr A off)) ([(A,.var l)]) (.ag ((l.drop off).take i.w))):RK P ops (⟨some d,.load t x,ty,pos,af,none⟩:: r) s K:=have ⟨J,h⟩:=pq h;have ⟨I,h⟩:=pq h;have ⟨L,h⟩:=pq h;have ⟨U,S⟩:=pq h;RK.va rfl rfl (Go.Sw.ldN T.ok rfl J I L U S) k
theorem RK.ldW {A:Nat} (h:(T.te t,i.isAgg,s.get T.te 0 x,s.blk A,Q1 i.w l.length)=(some i,true,some (.ptr A 0),some (.var l),true)) (k:VK P ops r s K d (opS x (.ptr A 0)) ([(A,.var l)]) (.ag l)):RK P ops (⟨some d,.load t x,ty,pos,af,none⟩:: r) s K:=have ⟨N,h⟩:=pq h;have ⟨J,h⟩:=pq h;have ⟨L,h⟩:=pq h;have ⟨S,G⟩:=pq h;RK.va rfl rfl (Go.Sw.ldW T.ok rfl N J L S G) k
theorem RK.ldC (h:(T.te t,i.plain,s.get T.te 0 x,q.cells)=(some i,true,some (.p (.cptr q)),[q])) (k:VK P ops r s K d (opS x (.p (.cptr q))) ([]) (.p q)):RK P ops (⟨some d,.load t x,ty,pos,af,none⟩:: r) s K:=have ⟨I,h⟩:=pq h;have ⟨J,h⟩:=pq h;have ⟨G,F⟩:=pq h;RK.va rfl rfl (Go.Sw.ldC T.ok rfl I J G F) k
theorem RK.ldD {l:List PV} (h:(T.te t,i.isAgg,s.get T.te 0 x,Q1 l.length i.w)=(some i,true,some (.p (.cptr (.agg l))),true)) (k:VK P ops r s K d (opS x (.p (.cptr (.agg l)))) ([]) (.p (.agg l))):RK P ops (⟨some d,.load t x,ty,pos,af,none⟩:: r) s K:=have ⟨F,h⟩:=pq h;have ⟨I,h⟩:=pq h;have ⟨J,L⟩:=pq h;RK.va rfl rfl (Go.Sw.ldCN T.ok rfl F I J L) k
theorem RK.sto {G:Operand} (d:(T.te t,s.get T.te 0 G,s.get T.te t x,s.blk E,Q1 v.cells.length i.w,Q6 (off+i.w) l.length,v.cells.all AV.one)=(some i,some (.ptr E off),some v,some (.var l),true,true,true)) (k:RK P ops r (s.setb E (.var (uO l off v.cells))) λs' V=>K s' (⟨opS G (.ptr E off)++opS x v,[(E,.var l)],[],none,[(E,.var (uO l off v.cells))]⟩:: V)):RK P ops (⟨none,.store t G x,ty,pos,af,none⟩:: r) s K:=have ⟨N,d⟩:=pq d;have ⟨Y,d⟩:=pq d;have ⟨U,d⟩:=pq d;have ⟨J,d⟩:=pq d;have ⟨W,d⟩:=pq d;have ⟨L,F⟩:=pq d;
 RK.so rfl (Go.Sw.sto T.ok rfl rfl N Y U J W L F) k
theorem RK.st1 {G:Operand} {D:Nat} (d:(T.te t,s.get T.te 0 G,s.get T.te t x,s.blk D,i.w,v.cells,Q3 off l.length,v.one)=(some i,some (.ptr D off),some v,some (.var l),1,[v],true,true)) (k:RK P ops r (s.setb D (.var (l.set off v))) λs' ms=>K s' (⟨opS G (.ptr D off)++opS x v,[(D,.var l)],[],none,[(D,.var (l.set off v))]⟩:: ms)):RK P ops (⟨none,.store t G x,ty,pos,af,none⟩:: r) s K:=have ⟨Y,d⟩:=pq d;have ⟨W,d⟩:=pq d;have ⟨V,d⟩:=pq d;have ⟨Z,d⟩:=pq d;have ⟨S,d⟩:=pq d;have ⟨J,d⟩:=pq d;have ⟨hl,E⟩:=pq d;by
 refine RK.so rfl ?_ k;have N:off<l.length:=by simp_all
 have:=Go.Sw.sto (o:=⟨none,.store t G x,ty,pos,af,none⟩) T.ok rfl rfl Y W V Z (by simp_all) (by rw [S];assumption) (by simp_all);rw [J,zCz N] at this;omega
theorem RK.stW {G:Operand} (d:(T.te t,s.get T.te 0 G,s.get T.te t x,s.blk E,Q1 v.cells.length i.w,Q1 i.w l.length,v.cells.all AV.one)=(some i,some (.ptr E 0),some v,some (.var l),true,true,true)) (k:RK P ops r (s.setb E (.var v.cells)) λs' ms=>K s' (⟨opS G (.ptr E 0)++opS x v,[(E,.var l)],[],none,[(E,.var v.cells)]⟩:: ms)):RK P ops (⟨none,.store t G x,ty,pos,af,none⟩:: r) s K:=have ⟨W,d⟩:=pq d;have ⟨Z,d⟩:=pq d;have ⟨U,d⟩:=pq d;have ⟨S,d⟩:=pq d;have ⟨N,d⟩:=pq d;have ⟨hl,F⟩:=pq d;by
 refine RK.so rfl ?_ k;have Y:=Q0 N;have L:=Q0 hl;have:=Go.Sw.sto (o:=⟨none,.store t G x,ty,pos,af,none⟩) T.ok rfl rfl W Z U S N (by simp [L]) F;have e:uO l 0 v.cells=v.cells:=by rw [jQ (by omega)];simp_all
 simp_all
theorem RK.stA {G:Type} {f:G->AV} {F:Operand} {D:Nat} {l l':List G} {u:G} (h:wL l j u=some l') (I:(T.te t,s.get T.te 0 F)=(some i,some (.ptr D off))) (hj:off=j) (d:(s.get T.te t x,s.blk D,i.w,(f u).cells,(f u).one)=(some (f u),some (.var (l.map f)),1,[f u],true)) (k:RK P ops r (s.setb D (.var (l'.map f))) λs' ms=>K s' (⟨opS F (.ptr D off)++opS x (f u),[(D,.var (l.map f))],[],none,[(D,.var (l'.map f))]⟩:: ms)):RK P ops (⟨none,.store t F x,ty,pos,af,none⟩:: r) s K:=have ⟨ht,ha⟩:=pq I;have ⟨Y,d⟩:=pq d;have ⟨hb,d⟩:=pq d;have ⟨U,d⟩:=pq d;have ⟨S,E⟩:=pq d;by
 refine RK.so rfl ?_ k;subst hj;obtain ⟨W,h2⟩:=fM h;have:=Go.Sw.sto (o:=⟨none,.store t F x,ty,pos,af,none⟩) T.ok rfl rfl ht ha Y hb (by simp_all) (by rw [U];simpa using Nat.succ_le_of_lt W) (by simp_all);rw [S,zCz (by simp_all),<- List.map_set,<- h2] at this;omega
theorem RK.al (y:(T.te t,s.blk d)=(some i,none)) (k:BK P ops r s K d ([]) ([]) ([d]) (d) (.var (i.z.map zA)) (.ptr d 0)):RK P ops (⟨some d,.alloc t,ty,pos,af,none⟩:: r) s K:=have ⟨D,F⟩:=pq y;RK.sb rfl (Go.Sw.al T.ok rfl rfl D F) k
theorem RK.bx (A:(s.get T.te t x,s.blk d)=(some v,none)) (k:BK P ops r s K d (opS x v) ([]) ([d]) (d) (.var v.cells) (.ptr d 0)):RK P ops (⟨some d,.box t x,ty,pos,af,none⟩:: r) s K:=have ⟨G,D⟩:=pq A;RK.sb rfl (Go.Sw.bx T.ok rfl rfl G D) k
theorem RK.bl {J:Array (Nat×Operand)} (h:(J.toList,T.te t,i.ty,fs.all (λf=>(T.te f.1).isSome))=(N,some i,.struct fs,true)) (V:oD s T.te N S U) (Y:oC (zHr T.te fs) (i.z.map zA) S=some l) (k:VK P ops r s K d (U) ([]) (.ag l)):RK P ops (⟨some d,.build t J,ty,pos,af,none⟩:: r) s K:=have ⟨F,h⟩:=pq h;have ⟨W,h⟩:=pq h;have ⟨G,D⟩:=pq h;RK.va rfl rfl (Go.Sw.bld T.ok rfl F W G D V Y) k
theorem RK.bA {G:Array (Nat×Operand)} {L J:LV} {A:TI} (h:(G.toList,T.te t,i.ty,T.te e)=(F,some i,.arr n e,some A)) (N:oD s T.te F L J) (U:oC (λj=>some (j*A.w,A.w)) (i.z.map zA) L=some l) (k:VK P ops r s K d (J) ([]) (.ag l)):RK P ops (⟨some d,.build t G,ty,pos,af,none⟩:: r) s K:=have ⟨y,h⟩:=pq h;have ⟨Y,h⟩:=pq h;have ⟨E,V⟩:=pq h;RK.va rfl rfl (Go.Sw.bldA T.ok rfl y Y E V N U) k
theorem RK.liB (l:By) {D:TI} {U:Array (Nat×Operand)} {W:List (Nat×Operand)} {Y:LV} {bb:LB} (h:(U.toList,(T.te t).map (·.ty),T.te e,D.z.length,1,Q6 n 16777216)=(W,some (.slice e),some D,D.w,D.w,true)) (Z:oU s T.te e 0 W V Y bb) (A:(oC (λj=>some (j*D.w,D.w)) (rR D.z n) V,l.length,s.blk d)=(some ((l.map λx=>PV.int .u8 x.toNat).map .p),n,none)) (k:BK P ops r s K d (Y) (bb) ([d]) (d) (.buf (.bytes l)) (.buf d l.length)):RK P ops (⟨some d,.buildSlice t n U,ty,pos,af,none⟩:: r) s K:=have ⟨L,h⟩:=pq h;have ⟨ht,h⟩:=pq h;have ⟨he,h⟩:=pq h;have ⟨hz,h⟩:=pq h;have ⟨I,hn⟩:=pq h;have ⟨hf,A⟩:=pq A;have ⟨G,hk⟩:=pq A;RK.sb rfl (Go.Sw.litB T.ok l rfl rfl L ht he hz I hn Z hf G hk) k
theorem RK.li {V:Type} (f:V->PV) (l:List V) {A:TI} {W:Array (Nat×Operand)} {Y:List (Nat×Operand)} {Z:LV} {bb:LB} (h:(W.toList,(T.te t).map (·.ty),T.te e,A.z.length,A.w,Q3 0 w,Q6 (n*w) 16777216)=(Y,some (.slice e),some A,A.w,w,true,true)) (hp:oU s T.te e 0 Y Z rs bb) (hl:∀ a,(f a).cells.length=w) (D:(oC (λj=>some (j*A.w,A.w)) (rR A.z n) Z,l.length,s.blk d)=(some ((xJ (l.map f)).map .p),n,none)) (k:BK P ops r s K d (rs) (bb) ([d]) (d) (.buf (.sl w (l.map f))) (.buf d l.length)):RK P ops (⟨some d,.buildSlice t n W,ty,pos,af,none⟩:: r) s K:=have ⟨U,h⟩:=pq h;have ⟨ht,h⟩:=pq h;have ⟨he,h⟩:=pq h;have ⟨hz,h⟩:=pq h;have ⟨hw,h⟩:=pq h;have ⟨S,hn⟩:=pq h;have ⟨hf,D⟩:=pq D;have ⟨I,hk⟩:=pq D;RK.sb rfl (Go.Sw.lit T.ok f l rfl rfl U ht he hz hw S hn hp hl hf I hk) k
theorem RK.lr {A:TI} {L:Array (Nat×Operand)} {J:List (Nat×Operand)} {N:LV} (h:(L.toList,(T.te t).map (·.ty),T.te e,A.z.length,Q6 (n*A.w) 16777216)=(J,some (.slice e),some A,A.w,true)) (U:oD s T.te J N S) (F:(oC (λj=>some (j*A.w,A.w)) (rR A.z n) N,s.blk d)=(some l,none)) (k:BK P ops r s K d (S) ([]) ([d]) (d) (.var l) (.ref d 0 n)):RK P ops (⟨some d,.buildSlice t n L,ty,pos,af,none⟩:: r) s K:=have ⟨G,h⟩:=pq h;have ⟨Z,h⟩:=pq h;have ⟨he,h⟩:=pq h;have ⟨hz,W⟩:=pq h;have ⟨hf,hk⟩:=pq F;RK.sb rfl (Go.Sw.sa_litr T.ok rfl rfl G Z he hz (yZ W) U hf hk) k
theorem RK.ex (A:(s.get T.te 0 x,l[n]?)=(some (.tu l),some v)) (k:VK P ops r s K d (opS x (.tu l)) ([]) (v)):RK P ops (⟨some d,.extract x n,ty,pos,af,none⟩:: r) s K:=have ⟨F,E⟩:=pq A;RK.va rfl rfl (Go.Sw.va_extractA rfl F E) k
theorem RK.slB {Y:Option Operand} {G A E:Option Int} {W:TI} {l:By} (h:sub l a b=some u) (F:((T.te t).map (·.ty),T.te e,s.get T.te t x)=(some (.slice e),some W,some v)) (hp:s.rd v=some (.bytes l,bs)) (hw:1=W.w) (L:Bd s T.te lo G rl) (J:Bd s T.te Y A rh) (N:Bd s T.te Z E U) (hm:E=none∨(E=A/\A.isSome=true)) (S:(G.getD 0,A.getD l.length)=(a,b)) (k:VK P ops r s K d (opS x v++(rl++(rh++U))) (bs) (.p (.bytes u))):RK P ops (⟨some d,.slice t x lo Y Z,ty,pos,af,none⟩:: r) s K:=have ⟨ht,F⟩:=pq F;have ⟨he,hx⟩:=pq F;have ⟨ea,eb⟩:=pq S;RK.va rfl rfl (Go.Sw.slB T.ok h rfl ht he hx hp hw L J N hm ea eb) k
theorem RK.slM {W:Option Operand} {G A F:Option Int} {Y:TI} {f:α->PV} {l u:List α} (h:sub l a b=some u) (E:((T.te t).map (·.ty),T.te e,s.get T.te t x)=(some (.slice e),some Y,some v)) (hp:s.rd v=some (.sl w (l.map f),bs)) (hw:w=Y.w) (J:Bd s T.te W G rl) (N:Bd s T.te Z A rh) (S:Bd s T.te mx F U) (hm:F=none∨(F=A/\A.isSome=true)) (L:(G.getD 0,A.getD l.length)=(a,b)) (k:VK P ops r s K d (opS x v++(rl++(rh++U))) (bs) (.p (.sl w (u.map f)))):RK P ops (⟨some d,.slice t x W Z mx,ty,pos,af,none⟩:: r) s K:=have ⟨ht,E⟩:=pq E;have ⟨he,hx⟩:=pq E;have ⟨ea,eb⟩:=pq L;RK.va rfl rfl (Go.Sw.slM T.ok h rfl ht he hx hp hw J N S hm ea eb) k
theorem RK.lnS (A:((T.te t).map (·.ty),s.get T.te t x)=(some (.slice e),some v)) (L:s.rd v=some (p,bs)) (N:p.isSlice=true) (k:VK P ops r s K d (opS x v) (bs) (.p (.int .i64 p.len))):RK P ops (⟨some d,.call ⟨.builtin .len,#[x],#[t]⟩,ty,pos,af,none⟩:: r) s K:=have ⟨W,S⟩:=pq A;RK.va rfl rfl (Go.Sw.lnS T.ok rfl W S L N) k
theorem RK.lnM {E:Type} {f:E->PV} {l:List E} (A:((T.te t).map (·.ty),s.get T.te t x)=(some (.slice e),some v)) (V:s.rd v=some (.sl w (l.map f),bs)) (k:VK P ops r s K d (opS x v) (bs) (.p (.int .i64 l.length))):RK P ops (⟨some d,.call ⟨.builtin .len,#[x],#[t]⟩,ty,pos,af,none⟩:: r) s K:=have ⟨J,N⟩:=pq A;RK.va rfl rfl (Go.Sw.lnM T.ok rfl J N V) k
theorem RK.lnR {D:Nat} (v:((T.te t).map (·.ty),s.get T.te t x)=(some (.slice e),some (.ref D off n))) (k:VK P ops r s K d (opS x (.ref D off n)) ([]) (.p (.int .i64 n))):RK P ops (⟨some d,.call ⟨.builtin .len,#[x],#[t]⟩,ty,pos,af,none⟩:: r) s K:=have ⟨G,N⟩:=pq v;RK.va rfl rfl (Go.Sw.va_lenR T.ok rfl G N) k
theorem RK.mi {A:IntKind} (D:(s.get T.te t x,s.get T.te G y)=(some (.p (.int A a)),some (.p (.int A b)))) (k:VK P ops r s K d (opS x (.p (.int A a))++opS y (.p (.int A b))) ([]) (.p (.int A (if b<a then b else a)))):RK P ops (⟨some d,.call ⟨.builtin .min,#[x,y],#[t,G]⟩,ty,pos,af,none⟩:: r) s K:=have ⟨L,I⟩:=pq D;RK.va rfl rfl (Go.Sw.minI T.ok rfl L I) k
theorem RK.apNB {E:TI} {b:Nat} (h:yK b [] m=some u) (v:((T.te t).map (·.ty),T.te e,(T.te t2).map (·.ty),s.get T.te t x,1,E.z.length,s.get T.te t2 y,s.rd vy,E.b,Q3 0 b,s.blk d)=(some (.slice e),some E,some (.slice e2),some (.nl (.bytes [])),E.w,E.w,some vy,some (.bytes m,bs),b,true,none)) (k:BK P ops r s K d (opS x (.nl (.bytes []))++opS y vy) (bs) ([d]) (d) (.buf (.bytes u)) (.buf d u.length)):RK P ops (⟨some d,.call ⟨.builtin .append,#[x,y],#[t,t2]⟩,ty,pos,af,none⟩:: r) s K:=have ⟨ht,v⟩:=pq v;have ⟨he,v⟩:=pq v;have ⟨ht2,v⟩:=pq v;have ⟨hx,v⟩:=pq v;have ⟨I,v⟩:=pq v;have ⟨hz,v⟩:=pq v;have ⟨hy,v⟩:=pq v;have ⟨hp,v⟩:=pq v;have ⟨hb,v⟩:=pq v;have ⟨hb1,hk⟩:=pq v;RK.sb rfl (Go.Sw.apNB T.ok h rfl rfl ht he ht2 hx I hz hy hp hb hb1 hk) k
theorem RK.apB {N:TypeId} {G:TI} {S:AV} {b:Nat} {F:Nat} {l:By} (h:yK b l m=some u) (v:((T.te t).map (·.ty),T.te e,(T.te N).map (·.ty),s.get T.te t x,s.blk F,1,G.z.length,s.get T.te N y)=(some (.slice e),some G,some (.slice e2),some (.buf F l.length),some (.buf (.bytes l)),G.w,G.w,some S)) (hp:s.rd S=some (.bytes m,bs)) (W:(G.b,Q3 0 b)=(b,true)) (k:BK P ops r s K d (opS x (.buf F l.length)++opS y S) ((F,.buf (.bytes l)) :: bs) ([]) (F) (.buf (.bytes u)) (.buf F u.length)):RK P ops (⟨some d,.call ⟨.builtin .append,#[x,y],#[t,N]⟩,ty,pos,af,none⟩:: r) s K:=have ⟨ht,v⟩:=pq v;have ⟨he,v⟩:=pq v;have ⟨V,v⟩:=pq v;have ⟨hx,v⟩:=pq v;have ⟨hk,v⟩:=pq v;have ⟨J,v⟩:=pq v;have ⟨hz,hy⟩:=pq v;have ⟨hb,L⟩:=pq W;RK.sb rfl (Go.Sw.apB T.ok h rfl rfl ht he V hx hk J hz hy hp hb L) k
theorem RK.apS {b:Nat} {k0:Nat} {l:By} (h:yK b l m=some u) (ht:(T.te t).map (·.ty)=some (.slice e)) (he:T.te e=some ei) (ht2:(T.te t2).map (·.ty)=some .str) (hx:s.get T.te t x=some (.buf k0 l.length)) (hk:s.blk k0=some (.buf (.bytes l))) (hcw:1=ei.w) (hz:ei.z.length=ei.w) (hy:s.get T.te t2 y=some vy) (hp:s.rd vy=some (.str m,bs)) (hb:ei.b=b) (hb1:Q3 0 b=true) (k:BK P ops r s K d (opS x (.buf k0 l.length)++opS y vy) ((k0,.buf (.bytes l)) :: bs) ([]) (k0) (.buf (.bytes u)) (.buf k0 u.length)):RK P ops (⟨some d,.call ⟨.builtin .append,#[x,y],#[t,t2]⟩,ty,pos,af,none⟩:: r) s K:=RK.sb rfl (Go.Sw.apS T.ok h rfl rfl ht he ht2 hx hk hcw hz hy hp hb hb1) k
theorem RK.apM {S:TypeId} {I:TI} {b:Nat} (f:α->PV) {G:Nat} {l m u:List α} (h:yK b l m=some u) (v:((T.te t).map (·.ty),T.te e,(T.te S).map (·.ty),s.get T.te t x,s.blk G,w,Q3 0 w,I.z.length,s.get T.te S y)=(some (.slice e),some I,some (.slice e2),some (.buf G l.length),some (.buf (.sl w (l.map f))),I.w,true,I.w,some vy)) (hp:s.rd vy=some (.sl w (m.map f),bs)) (J:∀ a,(f a).cells.all PV.one=true) (bd:(I.b,Q3 0 b)=(b,true)) (k:BK P ops r s K d (opS x (.buf G l.length)++opS y vy) ((G,.buf (.sl w (l.map f))) :: bs) ([]) (G) (.buf (.sl w (u.map f))) (.buf G u.length)):RK P ops (⟨some d,.call ⟨.builtin .append,#[x,y],#[t,S]⟩,ty,pos,af,none⟩:: r) s K:=have ⟨ht,v⟩:=pq v;have ⟨he,v⟩:=pq v;have ⟨V,v⟩:=pq v;have ⟨hx,v⟩:=pq v;have ⟨hk,v⟩:=pq v;have ⟨N,v⟩:=pq v;have ⟨bc,v⟩:=pq v;have ⟨hz,hy⟩:=pq v;have ⟨hb,Y⟩:=pq bd;RK.sb rfl (Go.Sw.apM T.ok f h rfl rfl ht he V hx hk N bc hz hy hp J hb Y) k
theorem RK.bb {A:Nat} {l:By} (y:((T.te t).map (·.ty),(T.te e).map (·.ty),s.get T.te t x,s.blk A)=(some (.slice e),some (.int .u8),some (.buf A l.length),some (.buf (.bytes l)))) (L:l≠[])
  (k:RK P ops r (s.put d (.buf A l.length)) λs' U=>K s' (⟨opS x (.buf A l.length),[(A,.buf (.bytes l))],[],some (d,some (.buf A l.length)),[]⟩:: U)):RK P ops (⟨some d,.convert t t x,ty,pos,af,none⟩:: r) s K:=have ⟨I,y⟩:=pq y;have ⟨N,y⟩:=pq y;have ⟨S,V⟩:=pq y;RK.st rfl (Go.Sw.sa_bb T.ok rfl rfl I N S V L) k
theorem RK.cl {U:Array TypeId} {Y:List Operand} {S:List TypeId} {ps:List PV} {E:LV} {bb:LB} {W:Nat} (h:Ok P f W (mkS (argE 0 ps) []) (mkS [(0,av)] blks)) (A:(xs.toList,U.toList)=(Y,S)) (ha:iF s T.te Y S ps E bb) (I:(Q1 W ps.length,(kR (sh d) blks).all (λk=>(s.blk k).isNone))=(true,true))
  (k:RK P ops r (Mic.upd ⟨E,bb,kR (sh d) blks,some (d,some (av.ren (sh d))),bR (sh d) blks⟩ s) λs' ms=>K s' (⟨E,bb,kR (sh d) blks,some (d,some (av.ren (sh d))),bR (sh d) blks⟩:: ms)):RK P ops (⟨some d,.call ⟨.value (.func f),xs,U⟩,ty,pos,af,none⟩:: r) s K:=have ⟨G,F⟩:=pq A;have ⟨hn,hf⟩:=pq I;
 by
 rw [zF8,zH7] at k;exact RK.st rfl (Go.Sw.cl T.ok h rfl rfl G F ha hn (by rw [<- zF8];exact hf)) k
theorem RK.cp {J:Operand} {ps:List PV} {bb G:LB} {D:Nat} (h:Ok P f na (mkS ((0,.ptr 0 0) :: argE 1 ps) [(0,.var (cs.map .p))]) (mkS [(0,av)] ((0,.var l') :: blks))) (v:(xs.toList,ts.toList,s.get T.te ta J,s.blk D,s.rdL l)=(J :: xl,ta :: tl,some (.ptr D 0),some (.var l),some (cs,G))) (ha:iF s T.te xl tl ps S bb) (F:(Q1 na (ps.length+1),(kR (sh d) blks).all (λk=>(s.blk k).isNone),blks.all (λe=>!Nat.beq e.1 0))=(true,true,true))
  (k:RK P ops r (Mic.upd ⟨opS J (.ptr D 0)++S,(D,.var l) :: (G++bb),kR (sh d) blks,some (d,some (av.ren (shp d D))),bR (shp d D) ((0,.var l') :: blks)⟩ s) λs' ms=>K s' (⟨opS J (.ptr D 0)++S,(D,.var l) :: (G++bb),kR (sh d) blks,some (d,some (av.ren (shp d D))),bR (shp d D) ((0,.var l') :: blks)⟩:: ms)):RK P ops (⟨some d,.call ⟨.value (.func f),xs,ts⟩,ty,pos,af,none⟩:: r) s K:=have ⟨U,v⟩:=pq v;have ⟨N,v⟩:=pq v;have ⟨Z,v⟩:=pq v;have ⟨ba,Y⟩:=pq v;have ⟨hn,F⟩:=pq F;have ⟨hf,V⟩:=pq F;
 by
 rw [zF8,zH7] at k;exact RK.st rfl (Go.Sw.clp T.ok h rfl rfl U N Z ba Y ha hn (by rw [<- zF8];exact hf) V) k
end
theorem Imp.pureT {t:Nat} (j:Nat) (W:s.env t=some (.tu l)) (L:l[j]? = some v) (hr:s.rd v=some (p,bs)):Imp pk s (s.put t (.tu (l.set j (.p p)))):=by
 intro cx a w _ U;obtain ⟨M,κ,tip,T,N,G⟩:=U;refine ⟨M,κ,tip,T,N,{ G with env:=λu y e=>?_ }⟩;simp only [AS.put] at e;cases J:Q1 u t with
 | true=>
  have:=Q0 J;subst this;simp at e;subst e;obtain ⟨x,S,Y⟩:=G.env u _ W;cases Y with
  | tu _ V Z I=>
  refine ⟨_,S,.tu _ V (by simp_all) (λi q D=>?_)⟩;rw [List.getElem?_set] at D;split at D
  ·rename_i e;subst e;split at D
   ·cases D;exact .p _ _ (zIq (I j v L) hr)
   ·cases D
  ·exact I i q D
 | false=>
  simp [J] at e;exact G.env u y e
section
theorem zS9 {l:Nat} (h:Q .normal s):awp P cx (.label l) Q s:=λ_ _ hs=>wp_label ⟨s,hs,h⟩
end
theorem Imp.freezeC {k2 j0:Nat} {l2:List AV} {c:PV} (he:s.blk k2=some (.var l2)) (hj0:l2[j0]? = some (.ref k 0 n)) (bu:k2≠k) (hb:s.blk k=some (.var l)) (hrd:s.rdL l=some (cs,bs)) (hc:dA w0 c cs) (ba:c.len=n) (hw:0<w0) (hml:n<=maxLen)
  (hpk:∀ e∈pk,e.1≠k) (hE:∀ u v,s.env u=some v->v.oks (tP s.blk k)=true) (hV:∀ i V,i≠k->i≠k2->s.blk i=some (.var V)->oW (tP s.blk k) V=true) (hV2:oW (tP s.blk k) (l2.set j0 (.p .nilp))=true) (hW:∀ i w V,s.blk i=some (.own w V)->oW (tP s.blk k) V=true):Imp pk s ((s.setb k (.buf c)).setb k2 (.var (l2.set j0 (.buf k n)))):=by
 intro cx a w hcx hs;obtain ⟨M,κ,tip,h0,hp,G⟩:=hs;obtain ⟨b,K,e,fz,q1,q2,q3,q4,q5,q6,q7⟩:=G.vars k l hb;obtain ⟨bb,bg,eb,fzb,p1,p2,p3,p4,p5,p6,p7⟩:=G.vars k2 l2 he;obtain ⟨r1,r2⟩:=aK hrd q5;obtain ⟨c1,c2,c3,c4⟩:=hc.cells r2;have bh:K.size=n*w0:=by rw [q4,<- r1,<- c4,ba]
 have bw:=p5 j0 _ hj0;generalize hx:bg.getD j0 undef=xx at bw;cases bw with
 | ref _ _ _ b' l' g1 g2=>
 rw [q1] at g1;cases g1;have bl:cx.w0.heap.size<=b:=by
  rcases q7 with q7 | q7
  ·exact q7
  ·simp only [Ctx.pb,Qa] at q7;obtain ⟨e',cb,rfl⟩:=q7;have h1:=(hp e' cb).1;have:=G.inj _ _ _ h1 q1;exact (hpk e' (hcx▸cb) this).elim
 have Y:M.le (xY M b 0 (n*c.width) (K[·]?)):=uM λo _ _=>q6 o;have bi:Rep (xY M b 0 (n*c.width) (K[·]?)) c (.slice (some ⟨b,0,none⟩) n n):=by
  have:=wH (M':=xY M b 0 (n*c.width) (K[·]?)) (b:=b) (o:=0) (cap:=n) c1 c2 Y ?_ (by omega)
  ·rwa [ba] at this
  intro j hj;rw [ba] at hj;simp only [xY,Qj];rw [if_pos ⟨trivial,Qm _,hj⟩];rw [c3,<- bh] at hj;simp [hj]
 have E:∀ b' o,b'≠b->xY M b 0 (n*c.width) (K[·]?) b' o=M b' o:=by
  intro b' o D;unfold xY;rw [if_neg (by intro h;exact D h.1)]
 generalize hS:(s.setb k (.buf c)).setb k2 (.var (l2.set j0 (.buf k n)))=S;have bc:S.blk k=some (.buf c):=by rw [<- hS,zS (Ne.symm bu)];exact zW _ _ _
 have T:S.blk k2=some (.var (l2.set j0 (.buf k n))):=by rw [<- hS];exact zW _ _ _
 have be:∀ i,i≠k->i≠k2->S.blk i=s.blk i:=λi h1 U=>by rw [<- hS,zS U,zS h1]
 have hSe:S.env=s.env:=by rw [<- hS];rfl
 have hT:∀ i,i≠k->nS tip k (.slice (some ⟨b,0,none⟩) n n) i=tip i:=λi h=>yW h;have bk:∀ {v:AV} {x:Value},RepA M κ tip s.blk v x->v.oks (tP s.blk k)=true->RepA M κ (nS tip k (.slice (some ⟨b,0,none⟩) n n)) (s.setb k (.buf c)).blk v x:=
  λh ho=>h.frz (λi h=>zS h) hT ho
 have gle:GLe κ κ (nS tip k (.slice (some ⟨b,0,none⟩) n n)) (nS tip k (.slice (some ⟨b,0,none⟩) n n)) (s.setb k (.buf c)).blk S.blk:=by
  rw [<- hS];exact zSt (by rw [zS bu];exact he)
 have N:∀ {v:AV} {x:Value},RepA M κ tip s.blk v x->v.oks (tP s.blk k)=true->RepA (xY M b 0 (n*c.width) (K[·]?)) κ (nS tip k (.slice (some ⟨b,0,none⟩) n n)) S.blk v x:=
  λh ho=>((bk h ho).ghost gle).mono Y
 refine ⟨xY M b 0 (n*c.width) (K[·]?),κ,nS tip k (.slice (some ⟨b,0,none⟩) n n),h0.trans' Y,hp,{
  defers:=G.defers
  size:=G.size
  fr:=G.fr
  mem:=λb' o y h=>by
   unfold xY at h;split at h
   ·rename_i hc';obtain ⟨rfl,_,hlt⟩:=hc';simp only [Qn,q2];simpa using h
   ·exact G.mem b' o y h
  env:=λu v h=>by
   rw [hSe] at h;obtain ⟨y,h1,U⟩:=G.env u v h;exact ⟨y,h1,N U (hE u v h)⟩
  vars:=λi V h=>by
   have D:i≠k:=by rintro rfl;rw [bc] at h;cases h
   by_cases U:i=k2
   ·subst U;rw [T] at h;cases h;refine ⟨bb,bg,eb,fzb,p1,p2,p3,by simpa using p4,λj q W=>?_,λo=>by rw [E bb o (λe=>D (G.inj i k b (e▸p1) q1))];exact p6 o,p7⟩;rw [List.getElem?_set] at W;split at W
    ·rename_i e;subst e;split at W
     ·cases W;rw [hx];refine .buf k n c _ bc c2 (by omega) ?_ (λ_=>(yU _ _ _).symm);rw [<- ba,sP c2,ba];exact bi
     ·cases W
    ·rename_i hjn;refine N (p5 j q W) (uY _ hV2 j q ?_);rw [List.getElem?_set_ne hjn];exact W
   ·rw [be i D U] at h;obtain ⟨b2,Z,e2,bj,z1,z2,z3,z4,z5,z6,z7⟩:=G.vars i V h;have bn:b2≠b:=λe=>D (G.inj i k b (e▸z1) q1);exact ⟨b2,Z,e2,bj,z1,z2,z3,z4,λj q W=>N (z5 j q W) (uY V (hV i V D U h) j q W),λo=>by rw [E b2 o bn];exact z6 o,z7⟩
  bufs:=λi ci h=>by
   by_cases D:i=k
   ·subst D;rw [bc] at h;cases h;rw [yU];refine ⟨bi,c2,by omega,.inr ⟨b,n,n,K,e,fz,rfl,q1,bl,q2,q3,by rw [c3,bh];exact Qg _,hml,λj hj=>?_⟩⟩;unfold xY;rw [if_neg (by omega)];exact q6 j
   ·have U:i≠k2:=by rintro rfl;rw [T] at h;cases h
    rw [be i D U] at h;obtain ⟨z1,z2,z3,z4⟩:=G.bufs i ci h;rw [hT i D];refine ⟨z1.mono Y,z2,z3,?_⟩;rcases z4 with z4 | ⟨b2,n2,bz,Z,e2,bj,y1,y2,y3,y4,y5,y6,y7,y8⟩
    ·exact .inl z4
    ·have bn:b2≠b:=λe=>D (G.inj i k b (e▸y2) q1);exact .inr ⟨b2,n2,bz,Z,e2,bj,y1,y2,y3,y4,y5,y6,y7,λj hj=>by rw [E b2 j bn];exact y8 j hj⟩
  inj:=G.inj
  dom:=λi h=>by
   by_cases D:i=k
   ·subst D;rw [bc] at h;cases h
   ·by_cases U:i=k2
    ·subst U;rw [T] at h;cases h
    ·rw [be i D U] at h;exact G.dom i h
  glob:=G.glob.mono Y
  old:=⟨λb' o hb'=>by rw [E b' o (by omega)];exact G.old.1 b' o hb',G.old.2⟩
  owns:=G.owns.keep λi wd V h=>by
   have D:i≠k:=by rintro rfl;rw [bc] at h;cases h
   have U:i≠k2:=by rintro rfl;rw [T] at h;cases h
   rw [be i D U] at h;exact ⟨h,rfl,hT i D,λb2 z=>⟨rfl,λo hm=>by rw [E b2 o (λe=>D (G.inj i k b (e▸z) q1))];exact hm⟩,λj q x W hr=>N hr (uY V (hW i wd V h) j q W)⟩}⟩
section
theorem sa_callpf {ps:List PV} {bb bs0:LB} (hd:o.dst=some d)
  (ho:o.op=.call { callee:=.value x,args:=xs,argTypes:=ts }) (hxa:s.get te tx x=some (.fnv f [.ptr k 0])) (hok:Ok P f na (mkS ((0,.ptr 0 0) :: argE 1 ps) [(0,.var (cs.map .p))]) (mkS [(0,av)] ((0,.var l') :: blks))) (hxl:xs.toList=xl) (htl:ts.toList=tl) (hbk:s.blk k=some (.var l)) (hcs:s.rdL l=some (cs,bs0))
  (ha:iF s te xl tl ps rs bb) (hn:na=ps.length+1) (hf:∀ j∈(blks.map λe=>sh d e.1),s.blk j=none) (hne:∀ e∈blks,e.1≠0) (hlt:Q3 f 1000000=true) :
  SA P o s ⟨opS x (.fnv f [.ptr k 0])++rs,(k,.var l) :: (bs0++bb),blks.map λe=>sh d e.1,some (d,some (av.ren (shp d k))),((0,.var l') :: blks).map λe=>(shp d k e.1,e.2.ren (shp d k))⟩:=by
 refine ⟨?_,yL (zP hxa) ha.reads.1,?_,hf⟩
 ·intro cx s' a w K Q hm hs hws hk;obtain ⟨M,κ,tip,h0,hp,Y⟩:=hs;have hb':∀ e∈bb,s'.blk e.1=some e.2:=λe F=>hm.2.1 e (by simp [F]);have hbs':∀ e∈bs0,s'.blk e.1=some e.2:=λe F=>hm.2.1 e (by simp [F]);have T:s'.blk k=some (.var l):=hm.2.1 (k,.var l) (by simp);obtain ⟨hl,hrep⟩:=ha.rep Y (zX hm.1) hb';have W:=yB Y (yI hxa s' (yG hm.1));obtain ⟨b,arr,e,fz,q1,q2,q3,q4,q5,q6,q7⟩:=Y.vars k l T;have hev:a.eval x=.func (.func f) #[.pointer (some ⟨b,0,none⟩)] #[]:=by
   generalize a.eval x=z at W;cases W with
   | fnv _ _ vs g1 g2=>
    have g3:=g2 0 (.ptr k 0) rfl;obtain ⟨y,hy⟩:∃ y,vs=#[y]:=by
     cases vs with
     | mk l=>
      match l with
      | [y]=>exact ⟨y,rfl⟩
      | []=>simp at g1
      | _ :: _ :: _=>simp at g1
    subst hy;have g4:(#[y]:Array Value).getD 0 undef=y:=rfl;rw [g4] at g3;cases g3 with
    | ptr _ _ b' _ g5 g6=>rw [q1] at g5;cases g5;simp only [mkF,hlt,cond_true]
  obtain ⟨c1,c2⟩:=aK (bT l cs bs0 hcs hbs') q5;have S:(#[Qi (some ⟨b,0,none⟩)]++xs.map a.eval++#[]).toList=.pointer (some ⟨b,0,none⟩) :: xl.map a.eval:=by simp [hxl]
  have hsz:(#[Qi (some ⟨b,0,none⟩)]++xs.map a.eval++#[]).size=ps.length+1:=by rw [<- hl,<- Array.length_toList,S];simp
  have hget0:(#[Qi (some ⟨b,0,none⟩)]++xs.map a.eval++#[])[0]? = some (.pointer (some ⟨b,0,none⟩)):=by rw [<- Array.getElem?_toList,S];rfl
  have hinv:=zKc (w:=w) (Y.globw hp) Y.mem hsz hget0 (λj p I=>by
   have:=hrep j p I;rw [Array.getD_eq_getD_getElem?,<- Array.getElem?_toList,S];simpa using this) q2 q3 (by omega) c2 q6
  have hrun:(execOp a.eval o).run P w=.ok (.enter f (#[Qi (some ⟨b,0,none⟩)]++xs.map a.eval++#[])) w:=by
   obtain ⟨fn,V,h2,h3⟩:=hok.1;have h2':fn.body≠none:=by intro e;simp [e] at h2
   have h3':fn.name ≠ "runtime.NumGoroutine":=by intro e;simp [e] at h3
   simp [execOp,ho,resolve,hev,Deferred.ofValue,invoke,callFunc,V,h2',h3']
  subst hn;unfold Oper.wp;rw [hrun];show Calls P f _ w _;refine (hok.2 w M ⟨[(0,b)],[],by simp [BIG]⟩ _ _ _ hinv (by intro k' N;simp at N;subst N;exact ⟨by simp,Y.lt q1⟩)).mono ?_;rintro e' w' ⟨v,rfl,M',κ',tip',h0',hp',hr⟩;show K (a.put o.dst v) w';rw [hd];refine hk _ _ ?_;rw [zHf];have G:∀ j∈blks.map (·.1),s'.blk (sh d j)=none:=λj I=>by
   refine hm.2.2 (sh d j) ?_;obtain ⟨e,F,rfl⟩:=Qa.1 I;exact Qa.2 ⟨e,F,rfl⟩
  have hD:∀ j∈((0,zN.var l') :: blks).map (·.1),j≠0->sh d j≠k:=by
   intro j I E N;simp only [Qh,Q5] at I;rcases I with I | I
   ·exact E I
   ·have:=G j I;rw [N,T] at this;cases this
  obtain ⟨i1,i2⟩:=Y.import h0' hr (hob:=by simp) (shp d k) (λj I j' hj' h=>zRp d k hD I hj' h)
   (by
    intro e' he';simp at he';subst he';exact ⟨(hp' (0,b) (by simp)).1,by simpa [shp] using q1,⟨l,by simpa [shp] using T⟩,l',by simp [lk]⟩)
   (λj I=>by
    simp only [Qh,Q5] at I;by_cases E:j=0
    ·exact .inl ⟨b,by simp [E]⟩
    ·refine .inr ?_;have hb0:Q1 j 0=false:=by rw [Bool.eq_false_iff];intro e;exact E (Q0 e)
     simp only [shp,hb0,cond_false];exact G j (I.resolve_left E))
  obtain ⟨x,hx,hrx⟩:=hr.env 0 av (by simp [mkS,lk]);simp at hx;subst hx;refine ⟨M',_,_,h0.trans' h0',?_,i1.put (hws d (by simp [Mic.ws])) (i2 av v hrx)⟩;intro k' N;obtain ⟨V,h2⟩:=hp k' N;refine ⟨?_,h2⟩;cases hfk:fk (shp d k) (((0,zN.var l') :: blks).map (·.1)) k'.1 with
  | none=>exact V
  | some j=>
   obtain ⟨I,F⟩:=pQ hfk;simp only;by_cases E:j=0
   ·subst E;simp only [shp] at F;rw [F] at V;simp at V;rw [q1] at V;cases V;exact (hp' (0,k'.2) (by simp)).1
   ·have hb0:Q1 j 0=false:=by rw [Bool.eq_false_iff];intro e;exact E (Q0 e)
    simp only [shp,hb0,cond_false] at F;simp only [Qh,Q5] at I;have:=G j (I.resolve_left E);rw [F,Y.dom _ this] at V;cases V
 ·intro e F;simp only [Q5,Q7] at F;rcases F with F | F | F
  ·subst F;exact hbk
  ·exact bF l cs bs0 hcs e F
  ·exact ha.reads.2 e F
theorem va_mkfA (U:o.op=.makeFunc (.func f) #[x] #[]) (J:s.get te tx x=some v) (E:Q3 f 1000000=true):VA P o s (opS x v) [] (.fnv f [v]):=by
 refine ⟨?_,zP J,by simp⟩;intro cx M κ tip s' a w S hr _;have T:=yB S (yI J s' hr);refine ⟨mkF f #[a.eval x],by simp [execOp,U,Instr.makeFunc,mkF,E],.fnv f _ _ rfl (λj q F=>?_)⟩;cases j with
 | zero=>simp_all
 | succ j=>simp_all
end
end Go.Sw
