/- UpdatePolicy holds for all inputs -/
import Derived.Test.YtlipjldhnmcbiaaGreatDoorCZ0
set_option linter.all false
open Nat renaming eq_of_beq_eq_true -> Q0, beq -> Q2, le_refl -> Q5, mul_le_mul_right -> Q6, zero_add -> Qd, add_mul -> Qj, le_trans -> Qp, zero_le -> Qs, add_zero -> W2, mul_comm -> W4, le_mul_of_pos_right -> W5, div_lt_of_lt_mul -> W8, sub_zero -> Wd, div_add_mod -> Wg, not_lt_zero -> Wh
open Array renaming getD_eq_getD_getElem? -> Q1, length_toList -> Qk, size_append -> Qw
open Option renaming map_eq_some_iff -> Q3, isSome_iff_exists -> Qb, getD_some -> Wf
open List renaming mem_map -> Q4, eq_nil_of_length_eq_zero -> Qc, map_cons -> Qf, mem_cons -> Qh, take_append_of_le_length -> Qi, all_eq_true -> Qo, mem_append -> Qq, size_toArray -> Qx, length_cons -> W1, getElem_mem -> W3, mem_of_getElem? -> W6, range -> W9, drop_succ_cons -> Wb, getElem_of_mem -> Wc, cons_append -> We
open Go.Builtin renaming zeroCells -> Q7, append_ -> Q9, firstCells -> Qe, lenOf -> Qn, nextslicecap -> Wa
open Bool renaming eq_false_iff -> Q8
open Go.Sw.PV renaming len -> Qa, isSlice -> Qg, width -> Qr, take -> Qz, nilOf -> W7
open Go.World renaming block_lt_of_cell? -> Ql, cell? -> Qm, setCells -> Wi
open Go.Sw.GLe renaming sameO -> Qt, same -> W0
open Go.Sw.Mic renaming ws -> Qu, upd -> Qy
open Go.Result renaming andThen_ok -> Qv
namespace Go.Sw
open Go
variable {B:NB}{D:List Nat}{M M':Mem}{P:Program}{a:Act}{a1 a2:AV}{args arr:Array Value}{av:AV}{b:Nat}{bb blks bs:LB}{c:PV}{cap:Nat}{cs:List AV}{cx:Ctx}{d:Nat}{dd:TypeDesc}{e:TypeId}{ei:TI}{env:LV}{f:FuncId}{fn:Func}{fr:List Nat}{fz:Nat×Nat}{g:Nat->Value}{i:TypeInfo}{j j' k:Nat}{ks:List Nat}{l l':List AV}{m:Nat}{ms:List Mic}{n na:Nat}{news:List Value}{o:Oper}{off:Nat}{ops:Array Oper}{p:PV}{pk:PKs}{pl:List (Nat×Operand)}{ps:List PV}{r:List Oper}{rr:PV}{rs:LV}{rv rv1 rv2:ResultVar}{s s':AS}{t t' ta:TypeId}{te:TE}{tip tip':Nat->Value}{tl:List TypeId}{ts:Array TypeId}{ty:TypeId}{v:AV}{vs:LV}{vy:AV}{w w':World}{x:Operand}{xl:List Operand}{xs:Array Operand}{y z:Value}{κ κ':Nat->Option Nat}{ρ:Nat->Nat}
def CR (M:Mem) (κ:Nat->Option Nat) (tip:Nat->Value) (B:NB) (l:List AV) (arr:Array Value):Prop:=
 arr.size=l.length/\∀ (j:Nat) (q:AV),l[j]? = some q->RepA M κ tip B q (arr.getD j undef)
theorem Inv.lt (A:Inv cx M κ tip s a w) (h:κ k=some b):b<w.heap.size:=by
 cases D:s.blk k with
 | none=>rw [A.dom k D] at h;cases h
 | some T=>
  cases T with
  | var l=>
   obtain ⟨b',y,e,J,I,N,_⟩:=A.vars k l D;rw [h] at I;cases I;exact (Array.getElem?_eq_some_iff.1 N).1
  | buf c=>
   obtain ⟨_,_,_,F⟩:=A.bufs k c D;rcases F with ⟨_,d⟩ | ⟨b',n,cap,y,e,J,_,d,_,E,_⟩
   ·rw [h] at d;cases d
   ·rw [h] at d;cases d;exact (Array.getElem?_eq_some_iff.1 E).1
  | own wd l=>
   rcases A.owns k wd l D with ⟨_,d,_⟩ | ⟨_,F⟩
   ·rw [h] at d;cases d
   rcases F with ⟨_,d,_⟩ | ⟨b',n,cap,y,e,J,_,d,_,E,_⟩
   ·simp_all
   ·rw [h] at d;cases d;exact (Array.getElem?_eq_some_iff.1 E).1
theorem Inv.mlt (A:Inv cx M κ tip s a w) {o:Nat} (h:w.heap.size<=b):M b o=none:=by
 cases y:M b o with
 | none=>rfl
 | some x=>
  have:=Ql w _ (A.mem b o x y);simp at this;omega
def gP (κ:Nat->Option Nat) (k:Nat) (b:Option Nat):Nat->Option Nat:=λi=>bif Q2 i k then b else κ i
theorem wT (d:Nat->Option Nat) (k:Nat) (b:Option Nat):gP d k b k=b:=by simp [gP]
theorem yE {i:Nat} {b:Option Nat} (h:i≠k):gP κ k b i=κ i:=by
 have:Q2 i k=false:=by rw [Q8];simp_all
 simp [gP,this]
theorem zV (s:AS) (k:Nat) (b:ABlk):(s.setb k b).blk k=some b:=by simp [AS.setb]
theorem zS {i:Nat} {b:ABlk} (h:i≠k):(s.setb k b).blk i=s.blk i:=by
 have:Q2 i k=false:=by rw [Q8];simp_all
 simp [AS.setb,this]
theorem hao (w:World) (o:Obj) (i:Nat) (h:i<w.heap.size):(w.alloc o).heap[i]? = w.heap[i]?:=by
 simp only [World.alloc,Array.getElem?_push,if_neg (Nat.ne_of_lt h)]
theorem zGk (n:Nat):zD3 (0,0) n:=.inl rfl
theorem aG (G:κ k=none) (D:s.blk k=none):GLe κ (gP κ k (some b)) tip tip s.blk (s.setb k (.var l)).blk where
 var:=λi b' l' h F=>by
  by_cases e:i=k
  ·subst e;rw [G] at h;cases h
  ·rw [yE e,zS e];exact ⟨h,l',F⟩
 buf:=λi c h=>by
  by_cases e:i=k
  ·simp_all
  ·exact W0 (by rw [zS e];exact h) rfl
 own:=λi c J h=>by
  by_cases e:i=k
  ·simp_all
  ·exact Qt (by rw [zS e];exact h) (yE e) rfl
theorem Inv.newVar (d:Inv cx M κ tip s a w) (F:s.blk k=none) (U:CR M κ tip s.blk l arr) (e:TypeId) :
  Inv cx M (gP κ k (some w.heap.size)) tip (s.setb k (.var l)) a (w.alloc (.cells arr e)) where
 defers:=d.defers
 size:=d.size
 fr:=⟨d.fr.os,d.fr.tape,d.fr.output,by have:=d.fr.size;simp;omega,λb A D N=>by
  rw [hao w _ b (by have:=d.fr.size;omega)];exact d.fr.block b A D N⟩
 mem:=λb o x h=>by
  have:=d.mem b o x h;rw [World.cell?_alloc_lt w _ _ (Ql w _ this)];exact this
 env:=λt v h=>let ⟨x,A,D⟩:=d.env t v h;⟨x,A,D.ghost (aG (d.dom k F) F)⟩
 vars:=λi li h=>by
  by_cases y:i=k
  ·subst y;rw [zV] at h;cases h;exact ⟨w.heap.size,arr,e,(0,0),wT _ _ _,heap_alloc_new w _,zGk _,U.1,λj q Y=>(U.2 j q Y).ghost (aG (d.dom i F) F),λo=>d.mlt (Q5 _),.inl d.fr.size⟩
  ·rw [zS y] at h;obtain ⟨b,E,L,fz,A,D,N,I,K,Z,V⟩:=d.vars i li h;exact ⟨b,E,L,fz,by rw [yE y];exact A,by rw [hao w _ b (d.lt A)];exact D,N,I,λj q Y=>(K j q Y).ghost (aG (d.dom k F) F),Z,V⟩
 bufs:=λi c h=>by
  by_cases y:i=k
  ·subst y;rw [zV] at h;cases h
  ·rw [zS y] at h;obtain ⟨A,D,N,I⟩:=d.bufs i c h;refine ⟨A,D,N,?_⟩;rcases I with ⟨I,K⟩ | ⟨b,n,cap,E,L,fz,I,K,Z,V,h8⟩
   ·exact .inl ⟨I,by rw [yE y];exact K⟩
   ·exact .inr ⟨b,n,cap,E,L,fz,I,by rw [yE y];exact K,Z,by rw [hao w _ b (d.lt K)];exact V,h8⟩
 inj:=λi j b A D=>by
  by_cases L:i=k
  ·subst L;rw [wT] at A;cases A;by_cases S:j=i
   ·exact S.symm
   ·rw [yE S] at D;have:=d.lt D;omega
  ·rw [yE L] at A;by_cases S:j=k
   ·subst S;rw [wT] at D;cases D;have:=d.lt A;omega
   ·rw [yE S] at D;exact d.inj i j b A D
 dom:=λi h=>by
  by_cases y:i=k
  ·subst y;rw [zV] at h;cases h
  ·rw [zS y] at h;rw [yE y];exact d.dom i h
 glob:=d.glob
 old:=d.old
 owns:=d.owns.keep λi wd li h=>by
  have y:i≠k:=by rintro rfl;rw [zV] at h;cases h
  rw [zS y] at h;exact ⟨h,yE y,rfl,λb' bc=>⟨hao w _ b' (d.lt bc),λ_ h=>h⟩,λj q x _ U=>U.ghost (aG (d.dom k F) F)⟩
section
theorem Run.st {m:Mic} (D:o.guard=none) (h:Snd P o m) (A:m.holds s) (k:Run P ops r (m.upd s) s' ms):Run P ops (o :: r) s s' (m :: ms):=.cons o r m s s' ms (zD4 D h) A k
def SA (P:Program) (o:Oper) (s:AS) (m:Mic):Prop:=Snd P o m/\m.holds s
theorem Run.ss {m:Mic} (y:o.guard=none) (h:SA P o s m) (k:Run P ops r (m.upd s) s' ms):Run P ops (o :: r) s s' (m :: ms):=Run.st y h.1 h.2 k
theorem aX {b:ABlk}:Qy ⟨rs,bs,[k],some (d,some v),[(k,b)]⟩ s=(s.setb k b).put d v:=by
 simp only [Qy,AS.setb,AS.put,lk];congr 1;funext t;cases Q2 t k<;>simp
theorem zB4 (D:Inv cx M κ tip s a w) (F:∀ k∈cx.pk,κ k.1=some k.2/\k.2<cx.w0.heap.size) (E:s.blk k=none) (b:Option Nat):∀ h∈cx.pk,gP κ k b h.1=some h.2/\h.2<cx.w0.heap.size:=by
 intro h v;have:=F h v;rw [yE]
 ·omega
 ·intro e;rw [e,D.dom k E] at this;simp_all
theorem zJo (hd:o.dst=some d)
  (h:∀ (cx:Ctx) (M:Mem) (κ:Nat->Option Nat) (tip:Nat->Value) (s:AS) (a:Act) (w:World),Inv cx M κ tip s a w->wG s rs->(∀ e∈bs,s.blk e.1=some e.2) ->
   ∃ arr e,(execOp a.eval o).run P w=.ok (.value (.pointer (some ⟨w.heap.size,0,none⟩))) (w.alloc (.cells arr e))/\CR M κ tip s.blk l arr) :
  Snd P o ⟨rs,bs,[d],some (d,some (.ptr d 0)),[(d,.var l)]⟩:=by
 intro cx s a w K Q hm hs hw hk;obtain ⟨M,κ,tip,h0,hp,hi⟩:=hs;obtain ⟨arr,e,hx,hr⟩:=h cx M κ tip s a w hi hm.1 hm.2.1;have hb:=hm.2.2 d (by simp);unfold Oper.wp;rw [hx];show K (a.put o.dst _) _;rw [hd];refine hk _ _ ?_;rw [aX];exact ⟨M,gP κ d (some w.heap.size),tip,h0,zB4 hi hp hb _,(hi.newVar hb hr e).put (hw d (by simp [Qu])) (.ptr d 0 _ l (wT _ _ _) (zV _ _ _))⟩
theorem zI1 (hok:yV P te) {i:TI} (h:te t=some i) (w:World):∃ z,(zeroValue t).run P w=.ok z w/\z.cells.size=i.z.length/\CR M κ tip B (i.z.map zA) z.cells:=by
 obtain ⟨info,z,h1,h2,h3,h4,h5⟩:=(hok t i h).info;have hzok:=(hok t i h).zok;have hsz:z.cells.size=i.z.length:=by rw [<- Qk,h5];simp
 refine ⟨z,by simp [zeroValue,typeInfo,h1,h4],hsz,by simp [hsz],λj q hq=>?_⟩;rw [List.getElem?_map] at hq;obtain ⟨c,h6,h7⟩:=Q3.1 hq;subst h7;have hlt:j<i.z.length:=(List.getElem?_eq_some_iff.1 h6).1;have hlt':j<z.cells.size:=by omega
 have hv:z.cells.toList[j]? = some (zv c):=by rw [h5,List.getElem?_map,h6];rfl
 have hv':z.cells[j]? = some (zv c):=by simpa using hv
 have:z.cells.getD j undef=zv c:=by simp [Q1,hv']
 rw [this];exact yE3 (hzok c (W6 h6))
theorem zXh {i:TI} (hok:yV P te) (hd:o.dst=some d) (ho:o.op=.alloc t) (ht:te t=some i) (hb:s.blk d=none):SA P o s ⟨[],[],[d],some (d,some (.ptr d 0)),[(d,.var (i.z.map zA))]⟩:=by
 refine ⟨zJo hd ?_,by intro e he;simp at he,by intro e he;simp at he,by intro k hk;simp at hk;subst hk;exact hb⟩;intro cx M κ tip s a w hi _ _;obtain ⟨z,h1,h2,h3⟩:=zI1 hok ht (M:=M) (κ:=κ) (tip:=tip) (B:=s.blk) w;exact ⟨z.cells,t,by simp [execOp,ho,Instr.alloc,h1,newVar,newRow],h3⟩
theorem yE1 (U:o.dst=some d) (J:o.op=.box t x) (D:s.get te t x=some v) (V:s.blk d=none):SA P o s ⟨opS x v,[],[d],some (d,some (.ptr d 0)),[(d,.var v.cells)]⟩:=by
 refine ⟨zJo U ?_,zN D,by simp,by simp_all⟩;intro cx M W tip s' a w I L _;have G:=cX (yD I (yJ D s' L));exact ⟨(a.eval x).cells,t,by simp [execOp,J,Instr.box,newVar,newRow],G⟩
def ovr:List AV->List AV->List AV
 | _ :: l,c :: cs=>c :: ovr l cs
 | l,[]=>l
 | [],cs=>cs
def sW:List AV->Nat->List AV->List AV
 | x :: l,n+1,cs=>x :: sW l n cs
 | l,_,cs=>ovr l cs
theorem zWw:∀ (l cs:List AV),cs.length<=l.length->ovr l cs=cs++l.drop cs.length
 | _ :: l,c :: cs,h=>by simp only [ovr,We,W1,Wb,zWw l cs (by simp_all)]
 | l,[],_=>by cases l<;>simp [ovr]
 | [],_ :: _,h=>by simp_all
theorem iF:∀ {l cs:List AV} {off:Nat},off+cs.length<=l.length->sW l off cs=l.take off++cs++l.drop (off+cs.length)
 | x :: l,cs,n+1,h=>by
  have:=iF (l:=l) (cs:=cs) (off:=n) (by simp at h;omega);rw [show n+1+cs.length=(n+cs.length)+1 by omega];simp only [sW,this,List.take_succ_cons,Wb,We]
 | x :: l,cs,0,h=>by simp only [sW,Qd];exact zWw _ _ (by omega)
 | [],cs,off,h=>by
  have:cs=[]:=Qc (by simp_all);subst this;simp [sW,ovr]
theorem zCr (h:off+cs.length<=l.length):(sW l off cs).length=l.length:=by rw [iF h];simp;omega
theorem bD (h:off+cs.length<=l.length) (j:Nat):(sW l off cs)[j]? = if off<=j/\j<off+cs.length then cs[j - off]? else l[j]?:=by
 rw [iF h];have d:(l.take off).length=off:=by simp;omega
 by_cases y:j<off
 ·rw [List.append_assoc,List.getElem?_append_left (by omega),List.getElem?_take,if_pos y,if_neg (by omega)]
 ·by_cases A:j<off+cs.length
  ·rw [List.getElem?_append_left (by simp;omega),List.getElem?_append_right (by omega),d,if_pos (by omega)]
  ·rw [List.getElem?_append_right (by simp;omega),List.getElem?_drop,if_neg (by omega)];congr 1;simp_all
theorem qD (b:Nat):∀ (I:List Value) (o:Nat) (w:World) (d:Array Value) (e:TypeId) (F:Nat×Nat),w.heap[b]? = some (.cells d e F)->o+I.length<=d.size ->
  ∃ y,(w.setCells b o I).heap[b]? = some (.cells y e F)/\y.size=d.size/\∀ j,y[j]? = if o<=j/\j<o+I.length then I[j - o]? else d[j]?
 | [],o,w,d,e,F,h,_=>⟨d,h,rfl,λj=>by rw [if_neg (by simp)]⟩
 | v :: r,o,w,d,e,F,h,V=>by
  simp only [W1] at V;have N:(w.setCell ⟨b,o,none⟩ v).heap[b]? = some (.cells (d.setIfInBounds o v) e F):=by
   simp [World.setCell,Array.getElem?_modify,h]
  obtain ⟨y,U,S,T⟩:=qD b r (o+1) _ _ e F N (by simp;omega);refine ⟨y,U,by simpa using S,λj=>?_⟩;rw [T j];by_cases K:o+1<=j/\j<o+1+r.length
  ·rw [if_pos K,if_pos (by simp;omega)];have:j - o=(j - (o+1))+1:=by omega
   rw [this];simp
  ·rw [if_neg K];by_cases J:j=o
   ·subst J;rw [if_pos (by simp)];have:j<d.size:=by omega
    simp [this]
   ·rw [if_neg (by simp;omega),Array.getElem?_setIfInBounds_ne (by omega)]
theorem xY (b:Nat):∀ (A:List Value) (o:Nat) (w:World) (k:Nat),k≠b->(w.setCells b o A).heap[k]? = w.heap[k]?
 | [],_,_,_,_=>rfl
 | v :: r,o,w,k,h=>by rw [Wi,xY b r _ _ k h,heap_setCell_other w _ k v h]
theorem jH (b:Nat):∀ (y:List Value) (o:Nat) (w:World),(w.setCells b o y).heap.size=w.heap.size
 | [],_,_=>rfl
 | v :: r,o,w=>by rw [Wi,jH b r];simp
theorem jE (b:Nat):∀ (y:List Value) (o:Nat) (w:World),(w.setCells b o y).os=w.os/\(w.setCells b o y).tape=w.tape/\(w.setCells b o y).output=w.output
 | [],_,_=>⟨rfl,rfl,rfl⟩
 | v :: r,o,w=>by exact jE b r _ _
theorem zQk (D:s.blk k=some (.var l)):GLe κ κ tip tip s.blk (s.setb k (.var l')).blk where
 var:=λi b' v h G=>by
  by_cases e:i=k
  ·subst e;exact ⟨h,l',zV _ _ _⟩
  ·exact ⟨h,v,by rw [zS e];exact G⟩
 buf:=λi c h=>by
  by_cases e:i=k
  ·simp_all
  ·exact W0 (by rw [zS e];exact h) rfl
 own:=λi c v h=>by
  by_cases e:i=k
  ·simp_all
  ·exact Qt (by rw [zS e];exact h) rfl rfl
theorem Inv.setVar (d:Inv cx M κ tip s a w) (hb:s.blk k=some (.var l)) (W:κ k=some b) {vs:List Value}
  (hl:off+cs.length<=l.length) (hv:vs.length=cs.length) (hr:∀ (j:Nat) (q:AV),cs[j]? = some q->RepA M κ tip s.blk q ((vs[j]?).getD undef)) :
  Inv cx M κ tip (s.setb k (.var (sW l off cs))) a (w.setCells b off vs):=by
 obtain ⟨b',bm,e,fz,h1,h2,h3,h4,h5,h6,h7⟩:=d.vars k l hb;rw [W] at h1;cases h1;obtain ⟨Y,g1,g2,g3⟩:=qD b vs off w bm e fz h2 (by omega);have y:=jE b vs off w;have D:GLe κ κ tip tip s.blk (s.setb k (.var (sW l off cs))).blk:=zQk hb;exact {
  defers:=d.defers
  size:=d.size
  fr:=⟨y.1.trans d.fr.os,y.2.1.trans d.fr.tape,y.2.2.trans d.fr.output,by rw [jH];exact d.fr.size,λi bl V bi=>by
   rw [xY b vs off w i (by rintro rfl;exact h7.elim (λh7=>by omega) V)];exact d.fr.block i bl V bi⟩
  mem:=λi o x h=>by
   have I:i≠b:=by rintro rfl;rw [h6] at h;cases h
   have:=d.mem i o x h;rw [World.cell?_setCells_out b vs off w _ (λe=>(I e).elim)];exact this
  env:=λt v h=>let ⟨x,h1,h2⟩:=d.env t v h;⟨x,h1,h2.ghost D⟩
  vars:=λi li h=>by
   by_cases A:i=k
   ·subst A;rw [zV] at h;cases h;refine ⟨b,Y,e,fz,W,g1,by rw [g2];exact h3,by rw [g2,zCr hl];exact h4,λj q L=>?_,h6,h7⟩;rw [bD hl] at L;rw [Q1,g3 j];by_cases hj:off<=j/\j<off+cs.length
    ·rw [if_pos hj] at L;rw [if_pos (by omega)];exact (hr _ q L).ghost D
    ·rw [if_neg hj] at L;rw [if_neg (by omega)];have:=(h5 j q L).ghost D;rw [Q1] at this;exact this
   ·rw [zS A] at h;obtain ⟨N,F,e2,S,k1,k2,k3,U,k5,k6,k7⟩:=d.vars i li h;have I:N≠b:=λe=>A (d.inj i k b (e▸k1) W);exact ⟨N,F,e2,S,k1,by rw [xY b vs off w N I];exact k2,k3,U,λj q L=>(k5 j q L).ghost D,k6,k7⟩
  bufs:=λi c h=>by
   by_cases A:i=k
   ·subst A;rw [zV] at h;cases h
   ·rw [zS A] at h;obtain ⟨k1,k2,k3,U⟩:=d.bufs i c h;refine ⟨k1,k2,k3,?_⟩;rcases U with U | ⟨N,n,cap,F,e2,S,q1,q2,q3,q4,q5⟩
    ·exact .inl U
    ·have I:N≠b:=λe=>A (d.inj i k b (e▸q2) W);exact .inr ⟨N,n,cap,F,e2,S,q1,q2,q3,by rw [xY b vs off w N I];exact q4,q5⟩
  inj:=d.inj
  dom:=λi h=>by
   by_cases A:i=k
   ·subst A;rw [zV] at h;cases h
   ·rw [zS A] at h;exact d.dom i h
  glob:=d.glob
  old:=d.old
  owns:=d.owns.keep λi wd li h=>by
   have A:i≠k:=by rintro rfl;rw [zV] at h;cases h
   rw [zS A] at h;exact ⟨h,rfl,rfl,λb' bn=>⟨xY b vs off w b' (λe=>A (d.inj i k b (e▸bn) W)),λ_ h=>h⟩,λj q x _ hr=>hr.ghost D⟩}
end
def PV.one:PV->Bool
 | .agg _ | .tup _=>false
 | _=>true
def AV.one:AV->Bool
 | .p q=>q.one
 | .ag _ | .tu _=>false
 | _=>true
theorem zFa {x:Value} (h:RepA M κ tip B v x) (ho:v.one=true):x.oneCell'=true:=by
 cases h with
 | p p x hr=>cases hr<;>first | rfl | (simp [AV.one,PV.one] at ho)
 | nl c h1=>rfl
 | ptr k o b l h1 h2=>rfl
 | ref k o n b l h1 h2=>rfl
 | buf k n c x h1 hs h2 h3 h4=>
  have hs':(c.take n).isSlice=true:=by cases c<;>simp_all [Qz,Qg]
  rcases oH h3 hs' with ⟨hx,_⟩ | ⟨b,o,m,cc,hx,_⟩ | ⟨aa,hx,_⟩<;>rw [hx]<;>rfl
 | ag l vs h1 h2=>simp [AV.one] at ho
 | tu l vs h1 h2=>simp [AV.one] at ho
 | fnv f l vs h1 h2=>unfold mkF;cases Nat.blt f 1000000<;>rfl
 | own k n w l x h1 h2 h3 hs=>obtain ⟨a,m,c,rfl⟩:=hs;rfl
 | optr k n o w l x h1 h2 h3 hs=>obtain ⟨a,rfl⟩:=hs;rfl
 | osl k n o m w l x h1 h2 h3 hs=>obtain ⟨a,m',c,rfl⟩:=hs;rfl
theorem rI (h:w.heap[b]? = some (.cells arr e fz)) (D:zD3 fz arr.size) {o:Nat} (J:o<arr.size):w.frozen? ⟨b,o,none⟩=false:=by
 simp only [World.frozen?,h];unfold zD3 at D;simp;omega
section
theorem zCm {b:ABlk}:Qy ⟨rs,bs,[],none,[(k,b)]⟩ s=s.setb k b:=by
 simp only [Qy,lk];congr 1;funext t;cases Q2 t k<;>simp
theorem sa_store {i:TI} {ax:Operand} (bh:yV P te) (hd:o.dst=none) (ho:o.op=.store t ax x) (ht:te t=some i) (ha:s.get te ta ax=some (.ptr k off)) (hx:s.get te t x=some v) (hb:s.blk k=some (.var l))
  (hw:v.cells.length=i.w) (hl:off+i.w<=l.length) (I:v.cells.all AV.one=true):SA P o s ⟨opS ax (.ptr k off)++opS x v,[(k,.var l)],[],none,[(k,.var (sW l off v.cells))]⟩:=by
 refine ⟨?_,yI (zN ha) (zN hx),by intro e Z;simp at Z;subst Z;exact hb,by intro e Z;simp at Z⟩;intro cx s' a w K Q hm hs br hk;obtain ⟨M,κ,tip,h0,hp,Y⟩:=hs;have L:=hm.2.1 (k,.var l) (by simp);have bf:=yD Y (yJ hx s' (zZ hm.1));have T:=yD Y (yJ ha s' (yF hm.1));obtain ⟨N,F⟩:=cX bf;obtain ⟨b,bi,e,fz,h1,h2,h3,h4,h5,h6,h7⟩:=Y.vars k l L;generalize be:a.eval ax=z at T;cases T with
 | ptr k o b' l' G ce=>
  rw [h1] at G;cases G;have D:(a.eval x).cells.toList.length=v.cells.length:=by simp [N]
  have y:=run_storeCells_cells (P:=P) b off (a.eval x).cells.toList 0 w
   (by
     intro j W;rw [D] at W;have:off+j<bi.size:=by omega
     simp [Qm,h2,this])
   (by intro j W;rw [D] at W;simp only [W2];exact rI h2 h3 (by omega))
   (by
    intro u hu;obtain ⟨j,W,bc⟩:=Wc hu;have bx:j<v.cells.length:=by omega
    have U:=F j v.cells[j] (by simp);have bd:j<(a.eval x).cells.size:=by omega
    have:(a.eval x).cells.getD j undef=u:=by simp [bd];simpa using bc
    rw [this] at U;exact zFa U ((Qo.1 I) _ (W3 _)))
  unfold Oper.wp;have:(execOp a.eval o).run P w=.ok .skip (w.setCells b off (a.eval x).cells.toList):=by
   simp only [W2] at y;have bg:¬ ((a.eval x).cells.size≠i.w):=by rw [N,hw];simp
   simp [execOp,ho,be,Instr.storeAt,Instr.sureAddr,storeVar,uL bh ht,bg,y]
  rw [this];show K (a.put o.dst undef) _;rw [hd];refine hk _ _ ?_;rw [zCm];refine ⟨M,κ,tip,h0,hp,Y.setVar L h1 (by omega) D ?_⟩;intro j q U;have:=F j q U;rw [Q1] at this;simpa using this
inductive kO (s:AS) (te:TE):List (Nat×Operand)->LV->LV->Prop where
 | nil:kO s te [] [] []
 | cons (i:Nat) (x:Operand) (t:TypeId) (v:AV) (ps:List (Nat×Operand)) (vs rs:LV):s.get te t x=some v->kO s te ps vs rs->kO s te ((i,x) :: ps) ((i,v) :: vs) (opS x v++rs)
theorem kO.reads {ps:List (Nat×Operand)} (h:kO s te ps vs rs):wG s rs:=by
 induction h with
 | nil=>intro e F;simp_all
 | cons i x t v ps vs rs G _ D=>exact yI (zN G) D
def fU (M:Mem) (κ:Nat->Option Nat) (tip:Nat->Value) (B:NB):List (Nat×Value)->LV->Prop
 | [],[]=>True
 | (i,x) :: xs,(j,v) :: vs=>i=j/\RepA M κ tip B v x/\fU M κ tip B xs vs
 | _,_=>False
theorem kO.rep {ps:List (Nat×Operand)} (h:kO s te ps vs rs) (hi:Inv cx M κ tip s' a w) :
  wG s' rs->fU M κ tip s'.blk (ps.map λp=>(p.1,a.eval p.2)) vs:=by
 induction h with
 | nil=>intro _;trivial
 | cons i x t v ps vs rs h1 _ ih=>
  intro hr;exact ⟨rfl,yD hi (yJ h1 s' (yF hr)),ih (zZ hr)⟩
def kN (place:Nat->Option (Nat×Nat)) (cells:List AV):LV->Option (List AV)
 | []=>some cells
 | (i,v) :: rest=>match place i with
  | none=>none
  | some (off,size)=>bif Q2 v.cells.length size&&Nat.ble (off+v.cells.length) cells.length then kN place (sW cells off v.cells) rest else none
theorem zLt (off:Nat):∀ (y:List Value) (n:Nat) (d:Array Value),off+n+y.length<=d.size ->
  let r:=(y.zipIdx n).foldl (λcs (c,j)=>cs.setIfInBounds (off+j) c) d
  r.size=d.size/\∀ j,r[j]? = if off+n<=j/\j<off+n+y.length then y[j - (off+n)]? else d[j]?
 | [],n,d,_=>by simp only [List.zipIdx_nil,List.foldl_nil,List.length_nil,W2,true_and];intro j;rw [if_neg (by omega)]
 | v :: y,n,d,h=>by
  simp only [List.zipIdx_cons,List.foldl_cons,W1] at h ⊢;obtain ⟨G,I⟩:=zLt off y (n+1) (d.setIfInBounds (off+n) v) (by simp;omega);refine ⟨by simpa using G,λj=>?_⟩;rw [I j];by_cases F:off+(n+1)<=j/\j<off+(n+1)+y.length
  ·rw [if_pos F,if_pos (by omega)];have:j - (off+n)=(j - (off+(n+1)))+1:=by omega
   rw [this];simp
  ·rw [if_neg F];by_cases E:j=off+n
   ·subst E;rw [if_pos (by omega)];have:off+n<d.size:=by omega
    simp [this]
   ·rw [if_neg (by omega),Array.getElem?_setIfInBounds_ne (by omega)]
theorem zE9 {place:Nat->Option (Nat×Nat)}:∀ (V:LV) (xs:List (Nat×Value)) (l l':List AV) (d:Array Value),fU M κ tip B xs V->CR M κ tip B l d ->
  kN place l V=some l'->∃ A,Instr.fill place d xs=some A/\CR M κ tip B l' A
 | [],[],l,l',d,_,T,h=>by simp [kN] at h;subst h;exact ⟨d,rfl,T⟩
 | (i,v) :: V,[],_,_,_,E,_,_=>by simp [fU] at E
 | [],(i,x) :: xs,_,_,_,E,_,_=>by simp [fU] at E
 | (i,v) :: V,(j,x) :: xs,l,l',d,E,T,h=>by
  obtain ⟨rfl,hr,E⟩:=E;simp only [kN] at h;cases I:place j with
  | none=>simp [I] at h
  | some os=>
   obtain ⟨off,size⟩:=os;simp only [I] at h;cases U:(Q2 v.cells.length size&&Nat.ble (off+v.cells.length) l.length) with
   | false=>simp [U] at h
   | true=>
    rw [U] at h;simp only [Bool.and_eq_true] at U;have e1:=Q0 U.1;have Z:=Nat.le_of_ble_eq_true U.2;obtain ⟨c1,c2⟩:=cX hr;have Y:off+x.cells.size<=d.size:=by rw [c1,T.1];exact Z
    have F:=zLt off x.cells.toList 0 d (by simpa using Y);have hz:x.cells.zipIdx.foldl (λcs (c,j)=>cs.setIfInBounds (off+j) c) d=(x.cells.toList.zipIdx 0).foldl (λcs (c,j)=>cs.setIfInBounds (off+j) c) d:=by
     rw [<- Array.foldl_toList,Array.toList_zipIdx]
    generalize hG:(x.cells.toList.zipIdx 0).foldl (λcs (c,j)=>cs.setIfInBounds (off+j) c) d=G at F hz;have ba:CR M κ tip B (sW l off v.cells) G:=by
     refine ⟨by rw [F.1,zCr Z];exact T.1,λj q S=>?_⟩;rw [bD Z] at S;rw [Q1,F.2 j];by_cases hj:off<=j/\j<off+v.cells.length
     ·simp_all
     ·rw [if_neg hj] at S;rw [if_neg (by simp;omega)];have:=T.2 j q S;rw [Q1] at this;exact this
    obtain ⟨A,f1,f2⟩:=zE9 V xs _ l' G E ba h;refine ⟨A,?_,f2⟩;have hg:(x.cells.size≠size||off+x.cells.size > d.size)=false:=by
     have:¬ (d.size<off+x.cells.size):=by omega
     simp [c1,e1];omega
    simp only [Instr.fill,I,hg,hz,f1];simp
def zJb (te:TE) (fs:List (TypeId×Nat)) (i:Nat):Option (Nat×Nat):=match fs[i]? with
 | some (ft,fo)=>match te ft with
  | some fi=>some (fo,fi.w)
  | none=>none
 | none=>none
theorem zJh (v:yV P te) (w:World):∀ (d:List Field),(∀ f∈d,(te f.type).isSome=true) ->
  (d.mapM λf=>(do pure (f.offset,<- sizeOf f.type):Sem (Nat×Nat))).run P w=.ok (d.map λf=>(f.offset,((te f.type).map (·.w)).getD 0)) w
 | [],_=>by simp
 | f :: d,h=>by
  obtain ⟨i,D⟩:=Qb.1 (h f (by simp));have:=zJh v w d (λg J=>h g (by simp [J]));rw [List.mapM_cons];simp only [Sem.run_bind,uL v D,Qv,Sem.run_pure,this,Qf,D,Option.map_some,Wf]
theorem zXw {ps:Array (Nat×Operand)} {fs:List (TypeId×Nat)} {i:TI} (F:yV P te) (ho:o.op=.build t ps) (V:ps.toList=pl) (ht:te t=some i) (Z:i.ty=.struct fs) (bc:fs.all (λf=>(te f.1).isSome)=true)
  (hp:kO s te pl vs rs) (U:kN (zJb te fs) (i.z.map zA) vs=some l):VA P o s rs [] (.ag l):=by
 refine ⟨?_,hp.reads,by simp⟩;intro cx M κ tip s' a w hi hr _;have bg:=hp.rep hi hr;obtain ⟨z,h1,h2,h3⟩:=zI1 F ht (M:=M) (κ:=κ) (tip:=tip) (B:=s'.blk) w;obtain ⟨d,hu,G⟩:=zEt F (t:=t) (fs:=fs) (by simp [ht,Z]);have E:∀ f∈d.toList,(te f.type).isSome=true:=by
  intro f U;have:(f.type,f.offset)∈fs:=by rw [<- G];exact Q4.2 ⟨f,U,rfl⟩
  exact (Qo.1 bc) _ this
 have K:=zJh (P:=P) F w d.toList E;have A:zJb te fs=λj=>((d.toList.map λf=>(f.offset,((te f.type).map (·.w)).getD 0)).toArray)[j]?:=by
  funext j;simp only [zJb,<- G,List.getElem?_map];cases N:d.toList[j]? with
  | none=>
   have:d.size<=j:=by simpa using N
   simp [N]
  | some f=>
   obtain ⟨fi,ba⟩:=Qb.1 (E f (W6 N));simp [N,ba]
 rw [A] at U;obtain ⟨J,f1,f2⟩:=zE9 vs _ _ l z.cells bg h3 U;refine ⟨.agg J,?_,.ag _ _ f2.1 f2.2⟩;have bh:(d.mapM λf=>(do pure (f.offset,<- sizeOf f.type):Sem (Nat×Nat))).run P w=.ok (d.toList.map λf=>(f.offset,((te f.type).map (·.w)).getD 0)).toArray w:=by
  rw [Array.mapM_eq_mapM_toList];rw [Sem.run_map,K];rfl
 have v:(ps.map λ(i,x)=>(i,a.eval x)).toList=pl.map λp=>(p.1,a.eval p.2):=by simp [<- V]
 simp only [execOp,ho,Instr.build,Sem.run_bind,h1,Qv,run_underlying hu,bh,v,f1];simp
theorem zT3 {ps:Array (Nat×Operand)} {i:TI} (v:yV P te) (ho:o.op=.build t ps) (D:ps.toList=pl) (N:te t=some i) (I:i.ty=.arr n e) (he:te e=some ei)
  (V:kO s te pl vs rs) (hf:kN (λj=>some (j*ei.w,ei.w)) (i.z.map zA) vs=some l):VA P o s rs [] (.ag l):=by
 refine ⟨?_,V.reads,by simp⟩;intro cx M κ tip s' a w hi hr _;have L:=V.rep hi hr;obtain ⟨z,h1,h2,Z⟩:=zI1 v N w;have hu:=zFl v (t:=t) (n:=n) (e:=e) (by simp [N,I]);obtain ⟨y,Y,S⟩:=zE9 vs _ _ l _ L Z hf;refine ⟨.agg y,?_,.ag _ _ S.1 S.2⟩;have h:(ps.map λ(i,x)=>(i,a.eval x)).toList=pl.map λp=>(p.1,a.eval p.2):=by simp_all
 simp only [execOp,ho,Instr.build,Sem.run_bind,h1,Qv,run_underlying hu,uL v he,h,Y];simp
end
def addM (M:Mem) (b lo hi:Nat) (f:Nat->Option Value):Mem:=λb' o=>if b'=b/\lo<=o/\o<hi then f o else M b' o
theorem addM_le {lo hi:Nat} {f:Nat->Option Value} (h:∀ o,lo<=o->o<hi->M b o=none):M.le (addM M b lo hi f):=by
 intro b' o x d;unfold addM;split
 ·simp_all
 omega
def lG (tip:Nat->Value) (k:Nat) (v:Value):Nat->Value:=λi=>bif Q2 i k then v else tip i
theorem xA (tip:Nat->Value) (k:Nat) (v:Value):lG tip k v k=v:=by simp [lG]
theorem xF {i:Nat} {v:Value} (h:i≠k):lG tip k v i=tip i:=by
 have:Q2 i k=false:=by rw [Q8];simp_all
 simp [lG,this]
structure zJl (w w':World) (arr:Array Value) (e:TypeId) (fz:Nat×Nat):Prop where
 os:w'.os=w.os
 tape:w'.tape=w.tape
 output:w'.output=w.output
 size:w'.heap.size=w.heap.size+1
 old:∀ i,i<w.heap.size->w'.heap[i]? = w.heap[i]?
 new:w'.heap[w.heap.size]? = some (.cells arr e fz)
 free:zD3 fz arr.size
theorem Inv.bufNew (d:Inv cx M κ tip s a w) (N:zJl w w' arr e fz)
  (L:s.blk k=none∨∃ U,s.blk k=some (.buf U)/\U.len<c.len/\∀ n,n<=U.len->c.take n=U.take n) (bi:c.isSlice=true) (bt:0<c.width) (hn:n*c.width<=arr.size) (be:cap*c.width<=arr.size) (bq:cap<=maxLen)
  (bj:Rep (addM M w.heap.size 0 (n*c.width) (arr[·]?)) c (.slice (some ⟨w.heap.size,0,none⟩) n cap)) :
  Inv cx (addM M w.heap.size 0 (n*c.width) (arr[·]?)) (gP κ k (some w.heap.size)) (lG tip k (.slice (some ⟨w.heap.size,0,none⟩) n cap)) (s.setb k (.buf c)) a w':=by
 have V:M.le (addM M w.heap.size 0 (n*c.width) (arr[·]?)):=addM_le λo _ _=>d.mlt (Q5 _);have bl:GLe κ (gP κ k (some w.heap.size)) tip (lG tip k (.slice (some ⟨w.heap.size,0,none⟩) n cap)) s.blk (s.setb k (.buf c)).blk:={
  var:=λi b l h h'=>by
   have e:i≠k:=by
    rintro rfl;rcases L with L | ⟨U,L,_⟩<;>(rw [L] at h';cases h')
   rw [yE e,zS e];exact ⟨h,l,h'⟩
  buf:=λi c1 h=>by
   by_cases e:i=k
   ·subst e;rcases L with L | ⟨U,L,E,bv⟩
    ·rw [L] at h;cases h
    ·rw [L] at h;cases h;exact ⟨c,zV _ _ _,λ_=>bi,by omega,bv,λe=>by omega⟩
   ·exact W0 (by rw [zS e];exact h) (xF e)
  own:=λi c1 l1 h=>by
   have e:i≠k:=by
    rintro rfl;rcases L with L | ⟨U,L,_⟩<;>(rw [L] at h;cases h)
   exact Qt (by rw [zS e];exact h) (yE e) (xF e) }
 have S:∀ {v:AV} {x:Value},RepA M κ tip s.blk v x->RepA (addM M w.heap.size 0 (n*c.width) (arr[·]?)) (gP κ k (some w.heap.size)) (lG tip k (.slice (some ⟨w.heap.size,0,none⟩) n cap)) (s.setb k (.buf c)).blk v x:=
  λh=>(h.mono V).ghost bl
 have y:∀ b o,b<w.heap.size->addM M w.heap.size 0 (n*c.width) (arr[·]?) b o=M b o:=by
  intro b o hb;unfold addM;rw [if_neg (by omega)]
 exact {
  defers:=d.defers
  size:=d.size
  fr:=⟨N.os.trans d.fr.os,N.tape.trans d.fr.tape,N.output.trans d.fr.output,by have:=d.fr.size;rw [N.size];omega,λb J I h3=>by
   rw [N.old b (by have:=d.fr.size;omega)];exact d.fr.block b J I h3⟩
  mem:=λb o x h=>by
   unfold addM at h;split at h
   ·rename_i hc;obtain ⟨rfl,_,E⟩:=hc;simp only [Qm,N.new];simpa using h
   ·have:=d.mem b o x h;have E:=Ql w _ this;rw [World.cell?_of_block (N.old b E)];exact this
  env:=λt v h=>let ⟨x,J,I⟩:=d.env t v h;⟨x,J,S I⟩
  vars:=λi l h=>by
   have G:i≠k:=by rintro rfl;rw [zV] at h;cases h
   rw [zS G] at h;obtain ⟨b,bf,Y,bp,J,I,h3,h4,h5,h6,h7⟩:=d.vars i l h;have E:=d.lt J;exact ⟨b,bf,Y,bp,by rw [yE G];exact J,by rw [N.old b E];exact I,h3,h4,λj q hq=>S (h5 j q hq),λo=>by rw [y b o E];exact h6 o,h7⟩
  bufs:=λi c1 h=>by
   by_cases G:i=k
   ·subst G;rw [zV] at h;cases h;rw [xA,wT];refine ⟨bj,bi,bt,.inr ⟨w.heap.size,n,cap,arr,e,fz,rfl,rfl,d.fr.size,N.new,N.free,be,bq,λj hj=>?_⟩⟩;unfold addM;rw [if_neg (by omega)];exact d.mlt (Q5 _)
   ·rw [zS G] at h;obtain ⟨J,I,h3,h4⟩:=d.bufs i c1 h;rw [xF G,yE G];refine ⟨J.mono V,I,h3,?_⟩;rcases h4 with h4 | ⟨b,n1,bg,ba,Y,bm,q1,q2,q3,q4,q5,q6,q7,q8⟩
    ·exact .inl h4
    ·have E:=d.lt q2;exact .inr ⟨b,n1,bg,ba,Y,bm,q1,q2,q3,by rw [N.old b E];exact q4,q5,q6,q7,λj hj=>by rw [y b j E];exact q8 j hj⟩
  inj:=λi j b J I=>by
   by_cases Y:i=k
   ·subst Y;rw [wT] at J;cases J;by_cases e2:j=i
    ·exact e2.symm
    ·rw [yE e2] at I;have:=d.lt I;omega
   ·rw [yE Y] at J;by_cases e2:j=k
    ·subst e2;rw [wT] at I;cases I;have:=d.lt J;omega
    ·rw [yE e2] at I;exact d.inj i j b J I
  dom:=λi h=>by
   by_cases G:i=k
   ·subst G;rw [zV] at h;cases h
   ·rw [zS G] at h;rw [yE G];exact d.dom i h
  glob:=d.glob.mono V
  old:=⟨λb o hb=>by
   rw [y b o (by have:=d.fr.size;omega)];exact d.old.1 b o hb,d.old.2⟩
  owns:=d.owns.keep λi wd li h=>by
   have G:i≠k:=by rintro rfl;rw [zV] at h;cases h
   rw [zS G] at h;exact ⟨h,yE G,xF G,λb' Z=>⟨N.old b' (d.lt Z),λo h=>by rw [y b' o (d.lt Z)];exact h⟩,λj q x _ hr=>S hr⟩}
theorem Inv.bufNil (d:Inv cx M κ tip s a w) (N:s.blk k=none) (F:c.nilOf=true) (V:0<c.width) :
  Inv cx M κ (lG tip k (.slice none 0 0)) (s.setb k (.buf c)) a w:=by
 have E:GLe κ κ tip (lG tip k (.slice none 0 0)) s.blk (s.setb k (.buf c)).blk:={
  var:=λi b l h S=>by
   have e:i≠k:=by rintro rfl;rw [N] at S;cases S
   rw [zS e];exact ⟨h,l,S⟩
  buf:=λi Y h=>by
   have e:i≠k:=by rintro rfl;rw [N] at h;cases h
   exact W0 (by rw [zS e];exact h) (xF e)
  own:=λi Y l1 h=>by
   have e:i≠k:=by rintro rfl;rw [N] at h;cases h
   exact Qt (by rw [zS e];exact h) rfl (xF e) }
 exact {
  defers:=d.defers
  size:=d.size
  fr:=d.fr
  mem:=d.mem
  env:=λt v h=>let ⟨x,W,Z⟩:=d.env t v h;⟨x,W,Z.ghost E⟩
  vars:=λi l h=>by
   have y:i≠k:=by rintro rfl;rw [zV] at h;cases h
   rw [zS y] at h;obtain ⟨b,I,e1,T,W,Z,h3,h4,h5,h6⟩:=d.vars i l h;exact ⟨b,I,e1,T,W,Z,h3,h4,λj q hq=>(h5 j q hq).ghost E,h6⟩
  bufs:=λi Y h=>by
   by_cases y:i=k
   ·subst y;rw [zV] at h;cases h;rw [xA];refine ⟨?_,?_,V,.inl ⟨rfl,d.dom i N⟩⟩
    ·unfold W7 at F;split at F
     ·exact .bytes0
     ·exact .sl0 _
     ·cases F
    ·unfold W7 at F;split at F<;>first | rfl | cases F
   ·rw [zS y] at h;rw [xF y];exact d.bufs i Y h
  inj:=d.inj
  dom:=λi h=>by
   by_cases y:i=k
   ·subst y;rw [zV] at h;cases h
   ·rw [zS y] at h;exact d.dom i h
  glob:=d.glob
  old:=d.old
  owns:=d.owns.keep λi wd li h=>by
   have y:i≠k:=by rintro rfl;rw [zV] at h;cases h
   rw [zS y] at h;exact ⟨h,rfl,xF y,λb' bh=>⟨rfl,λo h=>h⟩,λj q x _ hr=>hr.ghost E⟩}
theorem Inv.bufIn (A:Inv cx M κ tip s a w) {c':PV} {vs:List Value}
  (hk:s.blk k=some (.buf c)) (bl:tip k=.slice (some ⟨b,0,none⟩) n cap) (S:κ k=some b) (bi:cx.w0.heap.size<=b) (bd:w.heap[b]? = some (.cells arr e fz)) (bf:zD3 fz arr.size) (Z:cap*c.width<=arr.size) (hml:cap<=maxLen)
  (hM:∀ j,n*c.width<=j->M b j=none) (hvs:vs.length=m*c.width) (bg:n+m<=cap) (hc':c'.isSlice=true) (be:c'.width=c.width) (bk:c.len<=c'.len) (htk:∀ i,i<=c.len->c'.take i=c.take i) (ba:c'.len=c.len->m=0)
  (hrep:Rep (addM M b (n*c.width) ((n+m)*c.width) (λo=>vs[o - n*c.width]?)) c' (.slice (some ⟨b,0,none⟩) (n+m) cap)) :
  Inv cx (addM M b (n*c.width) ((n+m)*c.width) (λo=>vs[o - n*c.width]?)) κ (lG tip k (.slice (some ⟨b,0,none⟩) (n+m) cap)) (s.setb k (.buf c')) a (w.setCells b (n*c.width) vs):=by
 generalize V:addM M b (n*c.width) ((n+m)*c.width) (λo=>vs[o - n*c.width]?)=M' at *;have hadd:(n+m)*c.width=n*c.width+m*c.width:=Qj _ _ _;have bm:n*c.width+vs.length<=arr.size:=by rw [hvs,<- hadd];exact Qp (Q6 _ bg) Z
 have bh:M.le M':=by rw [<- V];exact addM_le λo h _=>hM o h
 obtain ⟨arr',g1,g2,g3⟩:=qD b vs (n*c.width) w arr e fz bd bm;have F:=jE b vs (n*c.width) w;obtain ⟨_,_,hw0,_⟩:=A.bufs k c hk;have gle:GLe κ κ tip (lG tip k (.slice (some ⟨b,0,none⟩) (n+m) cap)) s.blk (s.setb k (.buf c')).blk:={
  var:=λi b l h h'=>by
   have e:i≠k:=by rintro rfl;rw [hk] at h';cases h'
   rw [zS e];exact ⟨h,l,h'⟩
  buf:=λi c1 h=>by
   by_cases e:i=k
   ·subst e;rw [hk] at h;cases h;refine ⟨c',zV _ _ _,λ_=>hc',bk,htk,λe=>?_⟩;rw [xA,bl,ba e];rfl
   ·exact W0 (by rw [zS e];exact h) (xF e)
  own:=λi c1 l1 h=>by
   have e:i≠k:=by rintro rfl;rw [hk] at h;cases h
   exact Qt (by rw [zS e];exact h) rfl (xF e) }
 have K:∀ {v:AV} {x:Value},RepA M κ tip s.blk v x->RepA M' κ (lG tip k (.slice (some ⟨b,0,none⟩) (n+m) cap)) (s.setb k (.buf c')).blk v x:=λh=>(h.mono bh).ghost gle;have d:∀ b' o,b'≠b->M' b' o=M b' o:=by
  intro b' o G;rw [<- V];unfold addM;rw [if_neg (by intro h;exact G h.1)]
 exact {
  defers:=A.defers
  size:=A.size
  fr:=⟨F.1.trans A.fr.os,F.2.1.trans A.fr.tape,F.2.2.trans A.fr.output,by rw [jH];exact A.fr.size,λi hi1 hi2 hi3=>by
   rw [xY b vs _ w i (by omega)];exact A.fr.block i hi1 hi2 hi3⟩
  mem:=λi o x h=>by
   rw [<- V] at h;unfold addM at h;split at h
   ·rename_i hc;obtain ⟨rfl,h1,h2⟩:=hc;simp only [Qm,g1];have:=g3 o;rw [if_pos (by omega)] at this;simp [this,h]
   ·rename_i hc;have hc2:=A.mem i o x h;rw [World.cell?_setCells_out b vs _ w _ (λe1 _=>by
     simp only at e1;subst e1;simp only;by_cases hlo:o<n*c.width
     ·exact .inl hlo
     ·have:=hM o (by omega);rw [this] at h;cases h)]
    exact hc2
  env:=λt v h=>let ⟨x,h1,h2⟩:=A.env t v h;⟨x,h1,K h2⟩
  vars:=λi l h=>by
   have I:i≠k:=by rintro rfl;rw [zV] at h;cases h
   rw [zS I] at h;obtain ⟨W,L,e2,bc,k1,k2,k3,k4,k5,k6,k7⟩:=A.vars i l h;have G:W≠b:=λe=>I (A.inj i k b (e▸k1) S);exact ⟨W,L,e2,bc,k1,by rw [xY b vs _ w W G];exact k2,k3,k4,λj q hq=>K (k5 j q hq),λo=>by rw [d W o G];exact k6 o,k7⟩
  bufs:=λi c1 h=>by
   by_cases I:i=k
   ·subst I;rw [zV] at h;cases h;rw [xA];refine ⟨hrep,hc',by rw [be];exact hw0,.inr ⟨b,n+m,cap,arr',e,fz,rfl,S,bi,g1,by rw [g2];exact bf,by rw [g2,be];exact Z,hml,λj hj=>?_⟩⟩;rw [be] at hj;rw [<- V];unfold addM;rw [if_neg (by omega)];exact hM j (by omega)
   ·rw [zS I] at h;obtain ⟨k1,k2,k3,k4⟩:=A.bufs i c1 h;rw [xF I];refine ⟨k1.mono bh,k2,k3,?_⟩;rcases k4 with k4 | ⟨W,n2,bp,L,e2,bc,q1,q2,q3,q4,q5,q6,q7,q8⟩
    ·exact .inl k4
    ·have G:W≠b:=λe=>I (A.inj i k b (e▸q2) S);exact .inr ⟨W,n2,bp,L,e2,bc,q1,q2,q3,by rw [xY b vs _ w W G];exact q4,q5,q6,q7,λj hj=>by rw [d W j G];exact q8 j hj⟩
  inj:=A.inj
  dom:=λi h=>by
   by_cases I:i=k
   ·subst I;rw [zV] at h;cases h
   ·rw [zS I] at h;exact A.dom i h
  glob:=A.glob.mono bh
  old:=⟨λb' o hb=>by rw [d b' o (by omega)];exact A.old.1 b' o hb,A.old.2⟩
  owns:=A.owns.keep λi wd li h=>by
   have I:i≠k:=by rintro rfl;rw [zV] at h;cases h
   rw [zS I] at h;exact ⟨h,rfl,xF I,λb' hb'=>⟨xY b vs _ w b' (λe=>I (A.inj i k b (e▸hb') S)),λo h=>by rw [d b' o (λe=>I (A.inj i k b (e▸hb') S))];exact h⟩,λj q x _ hr=>K hr⟩}
def pE (M:Mem) (c:PV) (f:Nat->Value):Prop:=
 match c with
 | .bytes l=>∀ (i:Nat) (x:UInt8),l[i]? = some x->f i=.int .u8 x.toNat
 | .sl w l=>(∀ (i:Nat) (p:PV),l[i]? = some p->p.cells.length=w)/\∀ (i:Nat) (p:PV) (j:Nat) (q:PV),l[i]? = some p->p.cells[j]? = some q->Rep M q (f (i*w+j))
 | _=>False
theorem zBb (hs:c.isSlice=true) {o:Nat} (h:Rep M c (.slice (some ⟨b,o,none⟩) n cap)):pE M c (λj=>mget M b (o+j)):=by
 cases h with
 | bytesE a=>intro i x hx;simp at hx
 | slE a=>exact ⟨by simp,by simp⟩
 | bytes l b o n c h1 h2 h3=>intro i x hx;simp [mget,h3 i x hx]
 | sl w l b o n c h1 h2 h3 h4 h5=>exact ⟨h3,λi p j q hp hq=>h5 i p j q hp hq⟩
theorem mF (hs:c.isSlice=true) (h:c.len=0) (f:Nat->Value):pE M c f:=by
 cases c<;>simp [Qg] at hs
 ·rename_i l;simp [Qa] at h;subst h;intro i x hx;simp at hx
 ·rename_i w l;simp [Qa] at h;subst h;exact ⟨by simp,by simp⟩
theorem zJv (hs:c.isSlice=true) {o:Nat} (h:Rep M c (.slice (some ⟨b,o,none⟩) n cap)) (hw:0<c.width):∀ j,j<n*c.width->(M b (o+j)).isSome=true:=by
 intro j hj;cases h with
 | bytesE a=>simp at hj
 | slE a=>simp at hj
 | bytes l b o n c h1 h2 h3=>
  simp [Qr] at hj;have hq:l[j]? = some l[j]:=by simp
  simp [h3 j _ hq]
 | sl w l b o n c h1 h2 h3 h4 h5=>
  simp only [Qr] at hj hw;have hi:j / w<l.length:=by rw [<- h1];exact W8 (by rw [W4];exact hj)
  have hp:l[j / w]? = some l[j / w]:=by simp
  have hwd:=h3 _ _ hp;have hr:j % w<l[j / w].cells.length:=by rw [hwd];exact Nat.mod_lt _ hw
  have hq:l[j / w].cells[j % w]? = some l[j / w].cells[j % w]:=by simp
  have:=h4 _ _ _ _ hp hq;have e:j / w*w+j % w=j:=by rw [W4];exact Wg j w
  rw [e] at this;exact this
theorem wL {f:Nat->Value} (h:pE M c f) (hs:c.isSlice=true) (hle:M.le M') {o:Nat} (hm:∀ j,j<c.len*c.width->M' b (o+j)=some (f j)) (hc:c.len<=cap):Rep M' c (.slice (some ⟨b,o,none⟩) c.len cap):=by
 cases c<;>simp [Qg] at hs
 ·rename_i l;refine .bytes l b o _ cap rfl hc ?_;intro i x hx;have hlt:i<l.length:=(List.getElem?_eq_some_iff.1 hx).1;rw [hm i (by simp [Qa,Qr];exact hlt),h i x hx]
 ·rename_i w l;have key:∀ (i:Nat) (p:PV) (j:Nat) (q:PV),l[i]? = some p->p.cells[j]? = some q->i*w+j<l.length*w:=by
   intro i p j q hp hq;have h1:i<l.length:=(List.getElem?_eq_some_iff.1 hp).1;have h2:j<p.cells.length:=(List.getElem?_eq_some_iff.1 hq).1;rw [h.1 i p hp] at h2;have:(i+1)*w<=l.length*w:=Q6 _ h1;rw [Qj] at this;omega
  refine .sl w l b o _ cap rfl hc h.1 ?_ ?_
  ·intro i p j q hp hq;rw [hm _ (key i p j q hp hq)];rfl
  ·intro i p j q hp hq;have:=hm _ (key i p j q hp hq);simp only [mget,this,Wf];exact (h.2 i p j q hp hq).mono hle
def PV.app:PV->PV->Option PV
 | .bytes a,.bytes b=>some (.bytes (a++b))
 | .sl w a,.sl w' b=>bif Q2 w w' then some (.sl w (a++b)) else none
 | .bytes a,.str b=>some (.bytes (a++b))
 | _,_=>none
def PV.src:PV->PV
 | .str l=>.bytes l
 | p=>p
theorem zF7 {x r:PV} (h:c.app x=some r):c.isSlice=true/\r.isSlice=true/\x.src.isSlice=true/\r.width=c.width/\x.src.width=c.width/\r.len=c.len+x.src.len/\∀ n,n<=c.len->r.take n=c.take n:=by
 unfold PV.app at h;split at h
 ·cases h;refine ⟨rfl,rfl,rfl,rfl,rfl,by simp [Qa,PV.src],λn hn=>?_⟩;simp only [Qa] at hn;simp [Qz,Qi hn]
 ·rename_i w a w' b;cases hb:Q2 w w' with
  | false=>simp [hb] at h
  | true=>
   simp [hb] at h;subst h;have:=Q0 hb;subst this;refine ⟨rfl,rfl,rfl,rfl,rfl,by simp [Qa,PV.src],λn hn=>?_⟩;simp only [Qa] at hn;simp [Qz,Qi hn]
 ·cases h;refine ⟨rfl,rfl,rfl,rfl,rfl,by simp [Qa,PV.src],λn hn=>?_⟩;simp only [Qa] at hn;simp [Qz,Qi hn]
 ·cases h
theorem bL {x r:PV} {f:Nat->Value} (h:c.app x=some r) (hc:pE M c f) (hx:pE M x.src g):pE M r (λj=>if j<c.len*c.width then f j else g (j - c.len*c.width)):=by
 have hb:∀ (a b:By) (f g:Nat->Value),(∀ (i:Nat) (x:UInt8),a[i]? = some x->f i=.int .u8 x.toNat)->(∀ (i:Nat) (x:UInt8),b[i]? = some x->g i=.int .u8 x.toNat)->∀ (i:Nat) (x:UInt8),(a++b)[i]? = some x->(if i<a.length*1 then f i else g (i - a.length*1))=.int .u8 x.toNat:=by
  intro a b f g h1 h2 i x hx;rw [Nat.mul_one];by_cases hi:i<a.length
  ·rw [if_pos hi];rw [List.getElem?_append_left hi] at hx;exact h1 i x hx
  ·rw [if_neg hi];rw [List.getElem?_append_right (by omega)] at hx;exact h2 _ x hx
 unfold PV.app at h;split at h
 ·cases h;exact hb _ _ f g hc hx
 ·rename_i w a w' b;cases hbq:Q2 w w' with
  | false=>simp [hbq] at h
  | true=>
   simp [hbq] at h;subst h;have:=Q0 hbq;subst this;obtain ⟨c1,c2⟩:=hc;obtain ⟨x1,x2⟩:=hx;refine ⟨λi p hp=>?_,λi p j q hp hq=>?_⟩
   ·by_cases hi:i<a.length
    ·rw [List.getElem?_append_left hi] at hp;exact c1 i p hp
    ·rw [List.getElem?_append_right (by omega)] at hp;exact x1 _ p hp
   ·show Rep M q (if i*w+j<a.length*w then f (i*w+j) else g (i*w+j - a.length*w));by_cases hi:i<a.length
    ·rw [List.getElem?_append_left hi] at hp;have hj:j<w:=by rw [<- c1 i p hp];exact (List.getElem?_eq_some_iff.1 hq).1
     have:(i+1)*w<=a.length*w:=Q6 _ hi;rw [Qj] at this;rw [if_pos (by omega)];exact c2 i p j q hp hq
    ·rw [List.getElem?_append_right (by omega)] at hp;have h1:a.length*w<=i*w:=Q6 _ (by omega);rw [if_neg (by omega)];have:=x2 (i - a.length) p j q hp hq;rw [show i*w+j - a.length*w=(i - a.length)*w+j by rw [Nat.sub_mul];omega];exact this
 ·cases h;exact hb _ _ f g hc hx
 ·cases h
structure Src (P:Program) (w:World) (size m:Nat) (y:Value) (news:List Value):Prop where
 len:∀ w':World,(Qn y).run P w'=.ok m w'
 cells:∀ w':World,(∀ a u,w.cell? a=some u->w'.cell? a=some u)->(Qe size m y).run P w'=.ok news.toArray w'
 nl:news.length=m*size
theorem zCi (hm:∀ b o x,M b o=some x->w.cell? ⟨b,o,none⟩=some x) (hs:p.isSlice=true) (h:Rep M p y) (hw:0<p.width) :
  ∃ news g,Src P w p.width p.len y news/\pE M p g/\∀ j,j<p.len*p.width->news[j]? = some (g j):=by
 rcases oH h hs with ⟨rfl,hl⟩ | ⟨b,o,n,c,rfl,hn,hc⟩ | ⟨aa,rfl,rfl | rfl⟩
 ·refine ⟨[],λ_=>undef,⟨λw'=>by simp [Qn,hl],λw' _=>by simp [Qe],by simp [hl]⟩,mF hs hl _,by simp [hl]⟩
 ·subst hn;refine ⟨(W9 (p.len*p.width)).map λj=>mget M b (o+j),λj=>mget M b (o+j),⟨λw'=>by simp [Qn],λw' hw'=>?_,by simp⟩,zBb hs h,λj hj=>by simp [hj]⟩;refine run_firstCells_some (P:=P) w' p.width p.len ⟨b,o,none⟩ p.len c _ (by simp) ?_;intro j u hu;rw [List.getElem?_map] at hu;obtain ⟨j',h1,h2⟩:=Q3.1 hu;have hj:j<p.len*p.width:=by have:=(List.getElem?_eq_some_iff.1 h1).1;simpa using this
  have hjj:j'=j:=by have:=(List.getElem?_eq_some_iff.1 h1).2;simpa using this.symm
  subst hjj;obtain ⟨z,hz⟩:=Qb.1 (zJv hs h hw j' hj);rw [add_off,<- h2];refine hw' _ _ ?_;rw [hm _ _ _ hz];simp [mget,hz]
 all_goals exact ⟨[],λ_=>undef,⟨λw'=>by simp [Qn,Qa],λw' _=>by simpa [Qe,Qa] using run_loadCells_list (P:=P) (w:=w') aa ([]:List Value) (by simp),by simp [Qa]⟩,mF rfl rfl _,by simp [Qa]⟩
theorem zRj (l:By):∃ news g,Src P w 1 l.length (.string ⟨l.toArray⟩) news/\pE M (.bytes l) g/\∀ j,j<l.length*1->news[j]? = some (g j):=by
 refine ⟨l.map λx=>.int .u8 x.toNat,λj=>((l.map λx=>Value.int .u8 x.toNat)[j]?).getD undef,⟨λw'=>by simp [Qn,zFg],λw' _=>?_,by simp⟩,?_,?_⟩
 ·simp [Qe]
 ·intro i x hx;simp [hx]
 ·intro j hj;have:j<l.length:=by omega
  simp [this]
section
def aJ (d:TypeDesc):Prop:=d=.string∨∃ e,d=.slice e
theorem iI {d:TypeDesc} (ht:P.underlying t=some (.slice e)) (ht':P.underlying t'=some d) (hd:aJ d) (hi:P.info? e=some i) (hz:i.zero=some z)
  (hy:Src P w i.size m y news) (h0:0<m) (hb:m*i.bytes<=140737488355328) (h63:m<=9223372036854775807) :
  (Q9 #[t,t'] ty #[.slice none 0 0,y]).run P w=.ok (.slice (some ⟨w.heap.size,0,none⟩) m (grownCap w m 0 e)) (w.drew.alloc (.cells (news.toArray++Q7 z.cells (grownCap w m 0 e - m)) e)):=by
 have hn:m≠0:=by omega
 have h63':¬ (9223372036854775807<(m:Int)):=by omega
 have h48':¬ (281474976710656<Wa m 0*i.bytes):=by
  have:=growslice_fits (need:=m) (old:=0) (bytes:=i.bytes) h0 hb;omega
 have hc:=hy.cells w.drew (λa u h=>by simpa using h);have h1:(Qe i.size 0 (.slice none 0 0)).run P w.drew=.ok #[] w.drew:=by simp [Qe]
 rcases hd with rfl | ⟨e',rfl⟩<;>simp [Q9,run_underlying ht,run_underlying ht',sizeOf,typeInfo,zeroValue,hi,hz,hy.len,hc,h1,hn,h63',h48',Question.forced,newRow,grownCap]
theorem kD {d:TypeDesc} (ht:P.underlying t=some (.slice e)) (ht':P.underlying t'=some d) (hd:aJ d) (hi:P.info? e=some i)
  (hy:Src P w i.size 0 y news):(Q9 #[t,t'] ty #[.slice none 0 0,y]).run P w=.ok (.slice none 0 0) w:=by
 have hc:=hy.cells w (λa u h=>h);rcases hd with rfl | ⟨e',rfl⟩<;>simp [Q9,run_underlying ht,run_underlying ht',sizeOf,typeInfo,hi,hy.len,hc]
theorem aT {d:TypeDesc} (ht:P.underlying t=some (.slice e)) (ht':P.underlying t'=some d) (hd:aJ d) (hi:P.info? e=some i)
  (hy:Src P w i.size m y news) (h1:∀ u∈news,u.oneCell'=true) (hroom:n+m<=cap) (hc:∀ j,j<news.length->(w.cell? ⟨b,n*i.size+j,none⟩).isSome=true) (hf:∀ j,j<news.length->w.frozen? ⟨b,n*i.size+j,none⟩=false) :
  (Q9 #[t,t'] ty #[.slice (some ⟨b,0,none⟩) n cap,y]).run P w=.ok (.slice (some ⟨b,0,none⟩) (n+m) cap) (w.setCells b (n*i.size) news):=by
 have hfc:=hy.cells w (λa u h=>h);have hst:=run_storeCells_cells (P:=P) b (n*i.size) news 0 w (by simpa using hc) (by simpa using hf) h1;simp only [W2] at hst;rcases hd with rfl | ⟨e',rfl⟩<;>simp [Q9,run_underlying ht,run_underlying ht',sizeOf,typeInfo,hi,hy.len,hroom,hfc,add_off,hst]
theorem aE {d:TypeDesc} (ht:P.underlying t=some (.slice e)) (ht':P.underlying t'=some d) (hd:aJ d) (hi:P.info? e=some i) (hz:i.zero=some z)
  (hy:Src P w i.size m y news) {olds:List Value} (hlo:olds.length=n*i.size) (holds:∀ (j:Nat) (u:Value),olds[j]? = some u->w.cell? ⟨b,j,none⟩=some u) (hg:cap<n+m) (hb:(n+m)*i.bytes<=140737488355328) (h63:n+m<=9223372036854775807) :
  (Q9 #[t,t'] ty #[.slice (some ⟨b,0,none⟩) n cap,y]).run P w=.ok (.slice (some ⟨w.heap.size,0,none⟩) (n+m) (grownCap w (n+m) cap e))
   (w.drew.alloc (.cells (olds.toArray++news.toArray++Q7 z.cells (grownCap w (n+m) cap e - (n+m))) e)):=by
 have hn:¬ (n+m<=cap):=by omega
 have h63':¬ (9223372036854775807<((n:Int)+(m:Int))):=by omega
 have h48':¬ (281474976710656<Wa (n+m) cap*i.bytes):=by
  have:=growslice_fits (need:=n+m) (old:=cap) (bytes:=i.bytes) hg hb;omega
 have hc:=hy.cells w.drew (λa u h=>by simpa using h);have h1:=run_firstCells_some (P:=P) w.drew i.size n ⟨b,0,none⟩ n cap olds hlo (by intro j u hu;rw [add_off];simpa using holds j u hu);rcases hd with rfl | ⟨e',rfl⟩<;>simp [Q9,run_underlying ht,run_underlying ht',sizeOf,typeInfo,zeroValue,hi,hz,hy.len,hc,h1,hn,h63',h48',Question.forced,newRow,grownCap]<;>(rw [<- Array.append_assoc];simp)
end
theorem tX (w:World) (arr:Array Value) (e:TypeId):zJl w (w.drew.alloc (.cells arr e)) arr e (0,0) where
 os:=rfl
 tape:=rfl
 output:=rfl
 size:=by simp
 old:=λi h=>by rw [hao w.drew _ i h];rfl
 new:=by have:=heap_alloc_new w.drew (.cells arr e);simpa using this
 free:=zGk _
theorem cO (w:World) (arr:Array Value) (e:TypeId):zJl w (w.alloc (.cells arr e)) arr e (0,0) where
 os:=rfl
 tape:=rfl
 output:=rfl
 size:=by simp
 old:=λi h=>hao w _ i h
 new:=by have:=heap_alloc_new w (.cells arr e);simpa using this
 free:=zGk _
section
variable {y:Operand}
theorem vZ {b:ABlk}:Qy ⟨rs,bs,fr,some (d,some v),[(k,b)]⟩ s=(s.setb k b).put d v:=by
 simp only [Qy,AS.setb,AS.put,zGt,lk];congr 1;funext t;cases Q2 t k<;>simp
theorem zYb (hm:∀ b o x,M b o=some x->w.cell? ⟨b,o,none⟩=some x) (happ:c.app p=some rr) (h:Rep M p z) (hw:0<c.width) :
  ∃ news g,Src P w c.width p.src.len z news/\pE M p.src g/\∀ j,j<p.src.len*c.width->news[j]? = some (g j):=by
 obtain ⟨h1,h2,h3,h4,h5,h6,h7⟩:=zF7 happ;cases p with
 | str l=>
  cases h;have hcw:c.width=1:=by rw [<- h5];rfl
  obtain ⟨news,g,q1,q2,q3⟩:=zRj (P:=P) (M:=M) (w:=w) l;exact ⟨news,g,by rw [hcw];exact q1,q2,by rw [hcw];exact q3⟩
 | bytes l=>
  obtain ⟨news,g,q1,q2,q3⟩:=zCi (P:=P) hm (p:=.bytes l) rfl h (by simp [Qr]);have hcw:c.width=1:=by rw [<- h5];rfl
  exact ⟨news,g,by rw [hcw];exact q1,q2,by rw [hcw];exact q3⟩
 | sl w' l=>
  have hcw:w'=c.width:=by rw [<- h5];rfl
  obtain ⟨news,g,q1,q2,q3⟩:=zCi (P:=P) hm (p:=.sl w' l) rfl h (by simp [Qr];omega);exact ⟨news,g,by rw [<- hcw];exact q1,q2,by rw [<- hcw];exact q3⟩
 | _=>simp [PV.src,Qg] at h3
def bK:PV->Bool
 | .sl _ l=>l.all λp=>p.cells.all PV.one
 | _=>true
theorem one_pv {x:Value} (h:Rep M p x) (ho:p.one=true):x.oneCell'=true:=zFa (κ:=λ_=>none) (tip:=λ_=>undef) (B:=λ_=>none) (.p p x h) ho
theorem zSz (h:c.app p=some rr):p.isSlice=true∨∃ l,p=.str l:=by
 unfold PV.app at h;split at h<;>first | (exact .inl rfl) | (exact .inr ⟨_,rfl⟩) | cases h
theorem zFc {wd:Nat} (hs:p.isSlice=true) (hw:p.width=wd) (hwp:0<wd) (hc:pE M p g) (hl:news.length=p.len*wd) (hn:∀ j,j<p.len*wd->news[j]? = some (g j)) (he:bK p=true):∀ u∈news,u.oneCell'=true:=by
 intro u hu;obtain ⟨j,hj,hju⟩:=Wc hu;rw [hl] at hj;have h1:=hn j hj;have h2:g j=u:=by
  have:news[j]? = some u:=by rw [List.getElem?_eq_getElem (by omega),hju]
  rw [this] at h1;exact (Option.some.inj h1).symm
 cases p<;>simp [Qg] at hs
 ·rename_i l;simp only [Qr] at hw;subst hw;simp only [Qa,Nat.mul_one] at hj;have:=hc j l[j] (by simp);rw [<- h2,this];rfl
 ·rename_i w l;simp only [Qr] at hw;subst hw;simp only [Qa] at hj;have hi:j / w<l.length:=W8 (by rw [W4];exact hj);have hp:l[j / w]? = some l[j / w]:=by simp
  have hwd:=hc.1 _ _ hp;have hr:j % w<l[j / w].cells.length:=by rw [hwd];exact Nat.mod_lt _ hwp
  have hq:l[j / w].cells[j % w]? = some l[j / w].cells[j % w]:=by simp
  have h3:=hc.2 _ _ _ _ hp hq;have e:j / w*w+j % w=j:=by rw [W4];exact Wg j w
  rw [e,h2] at h3;simp only [bK,Qo] at he;exact one_pv h3 (he _ (W3 _) _ (W3 _))
theorem xM {v:Value} (ho:o.op=.call { callee:=.builtin .append,args:=#[x,y],argTypes:=#[t,t'] }) {vx:Value} (hx:a.eval x=vx) (h:(Q9 #[t,t'] o.type #[vx,a.eval y]).run P w=.ok v w') :
  (execOp a.eval o).run P w=.ok (.value v) w':=by
 simp [execOp,ho,resolve,invoke,builtin,hx,h]
theorem zUh (hok:yV P te) (hd:o.dst=some d) (ho:o.op=.call { callee:=.builtin .append,args:=#[x,y],argTypes:=#[t,t'] })
  (ht:(te t).map (·.ty)=some (.slice e)) (he:te e=some ei) (ht':P.underlying t'=some dd) (hdd:aJ dd) (hx:s.get te t x=some (.nl c)) (hcw:c.width=ei.w) (hw0:0<ei.w) (hz:ei.z.length=ei.w) (hy:s.get te t' y=some vy) (hp:s.rd vy=some (p,bs)) (happ:c.app p=some rr)
  (hb:(c.len+p.src.len)*ei.b<=140737488355328) (hb1:0<ei.b) (hk:s.blk d=none) :
  SA P o s ⟨opS x (.nl c)++opS y vy,bs,[d],some (d,some (.buf d rr.len)),[(d,.buf rr)]⟩:=by
 refine ⟨?_,yI (zN hx) (zN hy),vU vy p bs hp,by intro k hk';simp at hk';subst hk';exact hk⟩;intro cx s' a w K Q hm hs hws hk';obtain ⟨M,κ,tip,h0,hpk,hi⟩:=hs;have hbk:=hm.2.2 d (by simp);have hx':=yD hi (yJ hx s' (yF hm.1));have hy':=kM hi hy hp (zZ hm.1) hm.2.1;obtain ⟨q1,q2,q3,q4,q5,q6,q7⟩:=zF7 happ;generalize hev:a.eval x=zx at hx';cases hx' with
 | nl _ hnil=>
 have hlen0:c.len=0:=by unfold W7 at hnil;split at hnil<;>first | rfl | cases hnil
 rw [hlen0,Qd] at hb;obtain ⟨news,g,n1,n2,n3⟩:=zYb (P:=P) hi.mem happ hy' (by omega);obtain ⟨info,z,i1,i2,i3,i4,i5⟩:=(hok e ei he).info;have hu:=yX hok ht;have hlen:p.src.len<=140737488355328:=Qp (W5 _ hb1) hb;rw [hcw,<- i2] at n1;unfold Oper.wp;by_cases hm0:p.src.len=0
 ·rw [hm0] at n1;have hrun:=kD (P:=P) (ty:=o.type) hu ht' hdd i1 n1;rw [xM ho hev hrun];show K (a.put o.dst _) _;rw [hd];refine hk' _ _ ?_;rw [vZ];have hrl:rr.len=0:=by omega
  have hrn:rr.nilOf=true:=by cases rr<;>simp [Qg] at q2<;>simp [Qa] at hrl<;>subst hrl<;>rfl
  refine ⟨M,κ,_,h0,hpk,(hi.bufNil hbk hrn (by omega)).put (hws d (by simp [Qu])) ?_⟩;rw [hrl];refine .buf d 0 rr _ (zV _ _ _) q2 (Qs _) ?_ (λ_=>(xA _ _ _).symm);cases rr<;>simp [Qg] at q2<;>simp only [Qz,List.take_zero]
  ·exact .bytes0
  ·exact .sl0 _
 ·have hrun:=iI (P:=P) (ty:=o.type) hu ht' hdd i1 i4 n1 (by omega) (by rw [i3];exact hb) (by omega);rw [xM ho hev hrun];show K (a.put o.dst _) _;rw [hd];refine hk' _ _ ?_;rw [vZ];have hcells:=bL happ (mF q1 hlen0 (λ_=>undef)) n2;have hzs:z.cells.size=ei.w:=by rw [<- Qk,i5];simpa using hz
  have hge:=grownCap_ge w p.src.len 0 e;have hnl:news.length=p.src.len*ei.w:=by rw [n1.nl,i2]
  have hrl:rr.len=p.src.len:=by omega
  have hrw:rr.width=ei.w:=by omega
  have hsize:(news.toArray++Q7 z.cells (grownCap w p.src.len 0 e - p.src.len)).size=grownCap w p.src.len 0 e*ei.w:=by
   simp only [Qw,Qx,size_zeroCells,hzs,hnl,<- Qj];congr 1;omega
  have hfit:p.src.len*ei.w<=grownCap w p.src.len 0 e*ei.w:=Q6 _ hge;have hml:grownCap w p.src.len 0 e<=maxLen:=grownCap_le_maxLen w p.src.len 0 e (by simp only [maxLen];omega);have hrep:Rep (addM M w.heap.size 0 (p.src.len*rr.width) ((news.toArray++Q7 z.cells (grownCap w p.src.len 0 e - p.src.len))[·]?)) rr (.slice (some ⟨w.heap.size,0,none⟩) p.src.len (grownCap w p.src.len 0 e)):=by
   have:=wL (M':=addM M w.heap.size 0 (p.src.len*rr.width) ((news.toArray++Q7 z.cells (grownCap w p.src.len 0 e - p.src.len))[·]?)) (b:=w.heap.size) (o:=0) (cap:=grownCap w p.src.len 0 e) hcells q2 (addM_le λo _ _=>hi.mlt (Q5 _)) ?_ (by omega)
   ·rwa [hrl] at this
   intro j hj;rw [hrl] at hj;simp only [addM,Qd];rw [if_pos ⟨trivial,Qs _,hj⟩,hlen0];simp only [Nat.zero_mul,Wh,if_false,Wd];rw [hrw] at hj;have:=n3 j (by rw [hcw];exact hj);rw [Array.getElem?_append_left (by simp;omega)];simpa using this
  refine ⟨_,_,_,h0.trans' (addM_le λo _ _=>hi.mlt (Q5 _)),zB4 hi hpk hbk _,(hi.bufNew (tX w _ e) (.inl hbk) q2 (by omega) ?_ ?_ hml hrep).put (hws d (by simp [Qu])) ?_⟩
  ·rw [hsize,hrw];exact hfit
  ·rw [hsize,hrw];exact Q5 _
  ·rw [hrl];refine .buf d _ rr _ (zV _ _ _) q2 (by omega) ?_ (λ_=>(xA _ _ _).symm);have:rr.take p.src.len=rr:=by rw [<- hrl];cases rr<;>simp [Qg] at q2<;>simp [Qz,Qa]
   rw [this];exact hrep
end
section
variable {y:Operand}
theorem sB (h:c.isSlice=true):c.take c.len=c:=by cases c<;>simp [Qg] at h<;>simp [Qz,Qa]
theorem zI3 (K:Inv cx M κ tip s a w) (G:∀ k∈cx.pk,κ k.1=some k.2/\k.2<cx.w0.heap.size) (I:s.blk k=some (.buf c)) (b:Option Nat):∀ h∈cx.pk,gP κ k b h.1=some h.2/\h.2<cx.w0.heap.size:=by
 intro h A;have y:=G h A;rw [yE]
 ·exact y
 ·intro e;obtain ⟨_,_,_,E⟩:=K.bufs _ c I;rw [<- e] at E;rcases E with ⟨_,v⟩ | ⟨b',n,cap,J,e,L,_,v,S,N,_⟩
  ·simp_all
  ·rw [y.1] at v;cases v;omega
theorem zZl (hok:yV P te) (hd:o.dst=some d) (ho:o.op=.call { callee:=.builtin .append,args:=#[x,y],argTypes:=#[t,t'] })
  (ht:(te t).map (·.ty)=some (.slice e)) (he:te e=some ei) (ht':P.underlying t'=some dd) (hdd:aJ dd) (hx:s.get te t x=some (.buf k c.len)) (hk:s.blk k=some (.buf c)) (hcw:c.width=ei.w) (hw0:0<ei.w) (hz:ei.z.length=ei.w) (hy:s.get te t' y=some vy) (hp:s.rd vy=some (p,bs)) (v:c.app p=some rr)
  (hel:bK p=true) (hb:(c.len+p.src.len)*ei.b<=140737488355328) (hb1:0<ei.b) :
  SA P o s ⟨opS x (.buf k c.len)++opS y vy,(k,.buf c) :: bs,[],some (d,some (.buf k rr.len)),[(k,.buf rr)]⟩:=by
 refine ⟨?_,yI (zN hx) (zN hy),?_,by intro k hk';simp at hk'⟩
 ·intro cx s' a w K Q hm hs hws hk';obtain ⟨M,κ,tip,h0,hpk,hi⟩:=hs;have hbk:=hm.2.1 (k,.buf c) (by simp);simp only at hbk;have hx':=yD hi (yJ hx s' (yF hm.1));have hy':=kM hi hy hp (zZ hm.1) (λe he=>hm.2.1 e (by simp [he]));obtain ⟨q1,q2,q3,q4,q5,q6,q7⟩:=zF7 v;obtain ⟨b1,b2,b3,b4⟩:=hi.bufs k c hbk;have hevx:a.eval x=tip k:=by
   generalize a.eval x=zx at hx';cases hx' with
   | buf _ _ c' _ g1 g2 g3 g4 g5=>rw [hbk] at g1;cases g1;exact g5 rfl
  obtain ⟨G,g,n1,n2,n3⟩:=zYb (P:=P) hi.mem v hy' (by omega);obtain ⟨info,z,i1,i2,i3,i4,i5⟩:=(hok e ei he).info;have hu:=yX hok ht;have hlen:c.len+p.src.len<=140737488355328:=Qp (W5 _ hb1) hb;rw [hcw,<- i2] at n1;have hnl:G.length=p.src.len*ei.w:=by rw [n1.nl,i2]
  have hrw:rr.width=ei.w:=by omega
  have hzs:z.cells.size=ei.w:=by rw [<- Qk,i5];simpa using hz
  have hone:∀ u∈G,u.oneCell'=true:=by
   rcases zSz v with hsl | ⟨l,rfl⟩
   ·have hps:p.src=p:=by cases p<;>simp [Qg] at hsl<;>rfl
    rw [hps] at n2 n3 hnl q5;exact zFc hsl (by omega) hw0 n2 hnl (λj hj=>n3 j (by rw [hcw];exact hj)) hel
   ·exact zFc (p:=.bytes l) rfl (by have h5:(1:Nat)=c.width:=q5;show (1:Nat)=ei.w;omega) hw0 n2 hnl (λj hj=>n3 j (by rw [hcw];exact hj)) rfl
  unfold Oper.wp;rcases b4 with ⟨hnil,hκ⟩ | ⟨b,n,cap,arr,e1,fz,htip,hκ,hbase,hheap,hfree,hcap,hml,hM⟩
  ·
   have hlen0:c.len=0:=by
    rw [hnil] at b1;rcases oH b1 b2 with ⟨_,h⟩ | ⟨b,o,n,cc,h,_⟩ | ⟨aa,h,_⟩
    ·exact h
    ·cases h
    ·cases h
   by_cases hm0:p.src.len=0
   ·rw [hm0] at n1;have hrun:=kD (P:=P) (ty:=o.type) hu ht' hdd i1 n1;rw [xM ho (hevx.trans hnil) hrun];show K (a.put o.dst _) _;rw [hd];refine hk' _ _ ?_;rw [vZ];have hrl:rr.len=0:=by omega
    have hrn:rr=c:=by
     have hps:p.src.len=0:=hm0;unfold PV.app at v;split at v
     ·rename_i aa bb;simp only [PV.src,Qa] at hps;have:bb=[]:=Qc hps;subst this;simp at v;exact v.symm
     ·rename_i ww aa ww' bb;simp only [PV.src,Qa] at hps;have:bb=[]:=Qc hps;subst this;cases hbq:Q2 ww ww' with
      | false=>simp [hbq] at v
      | true=>simp [hbq] at v;exact v.symm
     ·rename_i aa bb;simp only [PV.src,Qa] at hps;have:bb=[]:=Qc hps;subst this;simp at v;exact v.symm
     ·cases v
    subst hrn;have hset:s'.setb k (.buf rr)=s':=by
     cases s' with
     | mk env blk=>
      simp only [AS.setb];congr 1;funext t;by_cases ht:t=k
      ·subst ht;simp;exact hbk.symm
      ·have:Q2 t k=false:=by rw [Q8];intro e;exact ht (Q0 e)
       simp [this]
    rw [hset];refine ⟨M,κ,tip,h0,hpk,hi.put (hws d (by simp [Qu])) ?_⟩;refine .buf k _ rr _ hbk b2 (Q5 _) ?_ (λ_=>hnil.symm);rw [sB b2,<- hnil];exact b1
   ·have hrun:=iI (P:=P) (ty:=o.type) hu ht' hdd i1 i4 n1 (by omega) (by rw [i3];rw [hlen0,Qd] at hb;exact hb) (by omega);rw [xM ho (hevx.trans hnil) hrun];show K (a.put o.dst _) _;rw [hd];refine hk' _ _ ?_;rw [vZ];have F:=bL v (mF q1 hlen0 (λ_=>undef)) n2;have hge:=grownCap_ge w p.src.len 0 e;have hrl:rr.len=p.src.len:=by omega
    have hsize:(G.toArray++Q7 z.cells (grownCap w p.src.len 0 e - p.src.len)).size=grownCap w p.src.len 0 e*ei.w:=by
     simp only [Qw,Qx,size_zeroCells,hzs,hnl,<- Qj];congr 1;omega
    have hfit:p.src.len*ei.w<=grownCap w p.src.len 0 e*ei.w:=Q6 _ hge;have hml:grownCap w p.src.len 0 e<=maxLen:=grownCap_le_maxLen w p.src.len 0 e (by simp only [maxLen];omega);have I:Rep (addM M w.heap.size 0 (p.src.len*rr.width) ((G.toArray++Q7 z.cells (grownCap w p.src.len 0 e - p.src.len))[·]?)) rr (.slice (some ⟨w.heap.size,0,none⟩) p.src.len (grownCap w p.src.len 0 e)):=by
     have:=wL (M':=addM M w.heap.size 0 (p.src.len*rr.width) ((G.toArray++Q7 z.cells (grownCap w p.src.len 0 e - p.src.len))[·]?)) (b:=w.heap.size) (o:=0) (cap:=grownCap w p.src.len 0 e) F q2 (addM_le λo _ _=>hi.mlt (Q5 _)) ?_ (by omega)
     ·rwa [hrl] at this
     intro j hj;rw [hrl] at hj;simp only [addM,Qd];rw [if_pos ⟨trivial,Qs _,hj⟩,hlen0];simp only [Nat.zero_mul,Wh,if_false,Wd];rw [hrw] at hj;have:=n3 j (by rw [hcw];exact hj);rw [Array.getElem?_append_left (by simp;omega)];simpa using this
    refine ⟨_,_,_,h0.trans' (addM_le λo _ _=>hi.mlt (Q5 _)),zI3 hi hpk hbk _,(hi.bufNew (tX w _ e) (.inr ⟨c,hbk,by omega,q7⟩) q2 (by omega) ?_ ?_ hml I).put (hws d (by simp [Qu])) ?_⟩
    ·rw [hsize,hrw];exact hfit
    ·rw [hsize,hrw];exact Q5 _
    ·rw [hrl];refine .buf k _ rr _ (zV _ _ _) q2 (by omega) ?_ (λ_=>(xA _ _ _).symm);rw [<- hrl,sB q2,hrl];exact I
  ·rw [htip] at b1;have hn:n=c.len/\n<=cap:=by
    rcases oH b1 b2 with ⟨h,_⟩ | ⟨b',o',n',cc,h,h2,h3⟩ | ⟨aa,h,hpe⟩
    ·cases h
    ·cases h;exact ⟨h2,h3⟩
    ·cases h;rcases hpe with hpe | hpe<;>(rw [hpe];exact ⟨rfl,Q5 _⟩)
   obtain ⟨hn,hcl⟩:=hn;subst hn;have F:=bL v (zBb b2 b1) n2;simp only [Qd] at F;have hsome:=zJv b2 b1 b3;simp only [Qd] at hsome;have hadd:(c.len+p.src.len)*ei.w=c.len*ei.w+p.src.len*ei.w:=Qj _ _ _;by_cases hroom:c.len+p.src.len<=cap
   ·have hfits:(c.len+p.src.len)*ei.w<=arr.size:=by rw [<- hcw];exact Qp (Q6 _ hroom) hcap
    have hrun:=aT (P:=P) (ty:=o.type) hu ht' hdd i1 n1 (b:=b) (n:=c.len) (cap:=cap) hone hroom
     (by
       intro j hj;rw [i2];have:c.len*ei.w+j<arr.size:=by omega
       simp [Qm,hheap,this])
     (by intro j hj;rw [i2];exact rI hheap hfree (by omega))
    rw [xM ho (hevx.trans htip) hrun];show K (a.put o.dst _) _;rw [hd];refine hk' _ _ ?_;rw [vZ,i2,<- hcw];have hle:M.le (addM M b (c.len*c.width) ((c.len+p.src.len)*c.width) (λo=>G[o - c.len*c.width]?)):=addM_le λo h _=>hM o h;have I:Rep (addM M b (c.len*c.width) ((c.len+p.src.len)*c.width) (λo=>G[o - c.len*c.width]?)) rr (.slice (some ⟨b,0,none⟩) (c.len+p.src.len) cap):=by
     have:=wL (M':=addM M b (c.len*c.width) ((c.len+p.src.len)*c.width) (λo=>G[o - c.len*c.width]?)) (b:=b) (o:=0) (cap:=cap) F q2 hle ?_ (by omega)
     ·rwa [q6] at this
     intro j hj;rw [q6,q4] at hj;simp only [Qd];by_cases hjc:j<c.len*c.width
     ·rw [if_pos hjc];obtain ⟨u,hu⟩:=Qb.1 (hsome j hjc);rw [hle _ _ _ hu];simp [mget,hu]
     ·rw [if_neg hjc];simp only [addM];rw [if_pos ⟨trivial,by omega,hj⟩];exact n3 _ (by rw [hcw] at hj hjc ⊢;omega)
    refine ⟨_,_,_,h0.trans' hle,hpk,(hi.bufIn hbk htip hκ hbase hheap hfree hcap hml hM (by rw [hnl,hcw]) hroom q2 q4 (by omega) q7 (by omega) I).put (hws d (by simp [Qu])) ?_⟩;rw [q6];refine .buf k _ rr _ (zV _ _ _) q2 (by omega) ?_ (λ_=>(xA _ _ _).symm);rw [<- q6,sB q2,q6];exact I
   ·have hol:((W9 (c.len*ei.w)).map λj=>mget M b j).length=c.len*info.size:=by simp [i2]
    have hrun:=aE (P:=P) (ty:=o.type) hu ht' hdd i1 i4 n1 (b:=b) (n:=c.len) (cap:=cap) (olds:=(W9 (c.len*ei.w)).map λj=>mget M b j) hol
     (by
      intro j u hu;rw [List.getElem?_map] at hu;obtain ⟨j',h1,h2⟩:=Q3.1 hu;have hj:j<c.len*ei.w:=by have:=(List.getElem?_eq_some_iff.1 h1).1;simpa using this
      have hjj:j'=j:=by have:=(List.getElem?_eq_some_iff.1 h1).2;simpa using this.symm
      subst hjj;obtain ⟨zz,hz⟩:=Qb.1 (hsome j' (by rw [hcw];exact hj));rw [hi.mem _ _ _ hz,<- h2];simp [mget,hz])
     (by omega) (by rw [i3];exact hb) (by omega)
    rw [xM ho (hevx.trans htip) hrun];show K (a.put o.dst _) _;rw [hd];refine hk' _ _ ?_;rw [vZ];have hge:=grownCap_ge w (c.len+p.src.len) cap e;have hml:grownCap w (c.len+p.src.len) cap e<=maxLen:=grownCap_le_maxLen w _ cap e (by simp only [maxLen];omega);generalize hA:(((W9 (c.len*ei.w)).map λj=>mget M b j).toArray++G.toArray++Q7 z.cells (grownCap w (c.len+p.src.len) cap e - (c.len+p.src.len)))=A;have hsize:A.size=grownCap w (c.len+p.src.len) cap e*ei.w:=by
     rw [<- hA];simp only [Qw,Qx,List.length_map,List.length_range,size_zeroCells,hzs,hnl,<- Qj];congr 1;omega
    have hfit:(c.len+p.src.len)*ei.w<=grownCap w (c.len+p.src.len) cap e*ei.w:=Q6 _ hge;have hget:∀ j,j<(c.len+p.src.len)*ei.w->A[j]? = some (if j<c.len*ei.w then mget M b j else g (j - c.len*ei.w)):=by
     intro j hj;rw [<- hA,Array.getElem?_append_left (by simp;omega)];by_cases hjc:j<c.len*ei.w
     ·rw [if_pos hjc,Array.getElem?_append_left (by simpa using hjc)];simp [hjc]
     ·rw [if_neg hjc,Array.getElem?_append_right (by simp;omega)];have:=n3 (j - c.len*ei.w) (by rw [hcw];omega);simpa using this
    have hle:M.le (addM M w.heap.size 0 ((c.len+p.src.len)*rr.width) (A[·]?)):=addM_le λo _ _=>hi.mlt (Q5 _);have I:Rep (addM M w.heap.size 0 ((c.len+p.src.len)*rr.width) (A[·]?)) rr (.slice (some ⟨w.heap.size,0,none⟩) (c.len+p.src.len) (grownCap w (c.len+p.src.len) cap e)):=by
     have:=wL (M':=addM M w.heap.size 0 ((c.len+p.src.len)*rr.width) (A[·]?)) (b:=w.heap.size) (o:=0) (cap:=grownCap w (c.len+p.src.len) cap e) F q2 hle ?_ (by omega)
     ·rwa [q6] at this
     intro j hj;rw [q6] at hj;simp only [addM,Qd];rw [if_pos ⟨trivial,Qs _,hj⟩];rw [hrw] at hj;rw [hget j hj,hcw]
    refine ⟨_,_,_,h0.trans' hle,zI3 hi hpk hbk _,(hi.bufNew (tX w _ e) (.inr ⟨c,hbk,by omega,q7⟩) q2 (by omega) ?_ ?_ hml I).put (hws d (by simp [Qu])) ?_⟩
    ·rw [hsize,hrw];exact hfit
    ·rw [hsize,hrw];exact Q5 _
    ·rw [q6];refine .buf k _ rr _ (zV _ _ _) q2 (by omega) ?_ (λ_=>(xA _ _ _).symm);rw [<- q6,sB q2,q6];exact I
 ·intro e he;rcases Qh.1 he with he | he
  ·subst he;exact hk
  ·exact vU vy p bs hp e he
end
mutual
def AV.ren (ρ:Nat->Nat):AV->AV
 | .p v=>.p v
 | .nl c=>.nl c
 | .ptr k o=>.ptr (ρ k) o
 | .ref k o n=>.ref (ρ k) o n
 | .buf k n=>.buf (ρ k) n
 | .ag l=>.ag (kG ρ l)
 | .tu l=>.tu (kG ρ l)
 | .fnv f l=>.fnv f (kG ρ l)
 | .own k n=>.own (ρ k) n
 | .optr k n o=>.optr (ρ k) n o
 | .osl k n o m=>.osl (ρ k) n o m
def kG (ρ:Nat->Nat):List AV->List AV
 | []=>[]
 | v :: r=>v.ren ρ :: kG ρ r
end
theorem pG (y:Nat->Nat):∀ (l:List AV),(kG y l).length=l.length/\∀ (j:Nat),(kG y l)[j]? = (l[j]?).map (AV.ren y)
 | []=>⟨rfl,by simp [kG]⟩
 | v :: r=>by
  obtain ⟨F,E⟩:=pG y r;refine ⟨by simp [kG,F],λj=>?_⟩;cases j with
  | zero=>rfl
  | succ j=>simp [kG,E j]
def ABlk.ren (ρ:Nat->Nat):ABlk->ABlk
 | .var l=>.var (kG ρ l)
 | .buf c=>.buf c
 | .own w l=>.own w (kG ρ l)
theorem RepA.ren {B':NB} (W:∀ k b,κ k=some b->κ' (ρ k)=some b) (I:∀ k b,B k=some b->B' (ρ k)=some (b.ren ρ)/\tip' (ρ k)=tip k) {x:Value}
  (hr:RepA M κ tip B v x):RepA M κ' tip' B' (v.ren ρ) x:=by
 induction hr with
 | p v x d=>exact .p v x d
 | nl c d=>exact .nl c d
 | ptr k o b l d E=>exact .ptr _ o b _ (W _ _ d) (I _ _ E).1
 | ref k o n b l d E=>exact .ref _ o n b _ (W _ _ d) (I _ _ E).1
 | buf k n c x d K E h J=>exact .buf _ n c x (I _ _ d).1 K E h (λe=>by rw [J e,(I _ _ d).2])
 | ag l U d _ S=>
  obtain ⟨N,F⟩:=pG ρ l;refine .ag _ U (by omega) (λj q G=>?_);rw [F] at G;obtain ⟨V,h,J⟩:=Q3.1 G;subst J;exact S j V h
 | tu l U d _ S=>
  obtain ⟨N,F⟩:=pG ρ l;refine .tu _ U (by omega) (λj q G=>?_);rw [F] at G;obtain ⟨V,h,J⟩:=Q3.1 G;subst J;exact S j V h
 | fnv f l U d _ S=>
  obtain ⟨N,F⟩:=pG ρ l;refine .fnv f _ U (by omega) (λj q G=>?_);rw [F] at G;obtain ⟨V,h,J⟩:=Q3.1 G;subst J;exact S j V h
 | own k n w l x d E h K=>
  obtain ⟨N,F⟩:=pG ρ l;exact .own _ n w _ x (I _ _ d).1 (by omega) (λe=>by rw [h (by omega),(I _ _ d).2]) K
 | optr k n o w l x d E h K=>
  obtain ⟨N,F⟩:=pG ρ l;exact .optr _ n o w _ x (I _ _ d).1 (by omega) (λe=>by
   obtain ⟨b,g1,Z⟩:=h (by omega);exact ⟨b,W _ _ g1,Z⟩) K
 | osl k n o m w l x d E h K=>
  obtain ⟨N,F⟩:=pG ρ l;exact .osl _ n o m w _ x (I _ _ d).1 (by omega) (λe=>by
   obtain ⟨b,c,g1,Z⟩:=h (by omega);exact ⟨b,c,W _ _ g1,Z⟩) K
def Callable (P:Program) (f:FuncId):Prop:=∃ fn,P.funcs[f]? = some fn/\fn.body.isNone=false/\(fn.name == "runtime.NumGoroutine")=false
def Ok (P:Program) (f:FuncId) (na:Nat) (as rs:AS):Prop:=Callable P f /\
 ∀ (w:World) (M:Mem) (pk:PKs) (args:Array Value) (κ:Nat->Option Nat) (tip:Nat->Value),Inv ⟨w,M,pk,na,[]⟩ M κ tip as ⟨args,[]⟩ w->(∀ k∈pk,κ k.1=some k.2/\k.2<w.heap.size) ->
  Calls P f args w λe w'=>∃ v,e=.returned v/\SRel ⟨w,M,pk,1,[]⟩ rs ⟨#[v],[]⟩ w'
def argE (i:Nat):List PV->LV
 | []=>[]
 | p :: r=>(i,.p p) :: argE (i+1) r
theorem zFs:∀ (l:List PV) (i t:Nat) (v:AV),lk (argE i l) t=some v->∃ p,v=.p p/\i<=t/\l[t - i]? = some p
 | [],i,t,v,h=>by simp [argE,lk] at h
 | p :: r,i,t,v,h=>by
  simp only [argE,lk] at h;cases E:Q2 t i with
  | true=>
   simp_all
  | false=>
   simp [E] at h;obtain ⟨q,G,I,F⟩:=zFs r _ t v h;refine ⟨q,G,by omega,?_⟩;have:t - i=(t - (i+1))+1:=by omega
   simp_all
section
inductive mD (s:AS) (te:TE):List Operand->List TypeId->List PV->LV->LB->Prop where
 | nil:mD s te [] [] [] [] []
 | cons (x:Operand) (t:TypeId) (v:AV) (p:PV) (bs:LB) (xs:List Operand) (ts:List TypeId) (ps:List PV) (rs:LV) (bb:LB) :
   s.get te t x=some v->s.rd v=some (p,bs)->mD s te xs ts ps rs bb->mD s te (x :: xs) (t :: ts) (p :: ps) (opS x v++rs) (bs++bb)
theorem mD.reads {xs:List Operand} {ts:List TypeId} (h:mD s te xs ts ps rs bb):wG s rs/\∀ e∈bb,s.blk e.1=some e.2:=by
 induction h with
 | nil=>exact ⟨by intro e d;simp_all,by simp⟩
 | cons x t v p bs xs ts ps rs bb I J _ F=>exact ⟨yI (zN I) F.1,λe d=>(Qq.1 d).elim (vU v p bs J e) (F.2 e)⟩
theorem mD.rep {xs:List Operand} {ts:List TypeId} (h:mD s te xs ts ps rs bb) (W:Inv cx M κ tip s' a w) :
  wG s' rs->(∀ e∈bb,s'.blk e.1=some e.2)->xs.length=ps.length/\∀ (j:Nat) (p:PV),ps[j]? = some p->Rep M p (((xs.map a.eval)[j]?).getD undef):=by
 induction h with
 | nil=>simp
 | cons x t v p bs xs ts ps rs bb V h2 _ T=>
  intro G J;obtain ⟨Z,N⟩:=T (zZ G) (λe y=>J e (Qq.2 (.inr y)));refine ⟨by simp [Z],λj q A=>?_⟩;cases j with
  | zero=>simp at A;subst A;simpa using kM W V h2 (yF G) (λe y=>J e (Qq.2 (.inl y)))
  | succ j=>simp_all
def inS (s:AS) (ρ:Nat->Nat) (blks:LB):AS:={ s with blk:=λk=>(lk (blks.map λe=>(ρ e.1,e.2.ren ρ)) k).or (s.blk k) }
theorem zQq (d:Nat->Nat):∀ (blks:LB),(∀ e∈blks,∀ G∈blks,d e.1=d G.1->e.1=G.1)->∀ (k:Nat) (b:ABlk),lk blks k=some b->lk (blks.map λe=>(d e.1,e.2.ren d)) (d k)=some (b.ren d)
 | [],_,k,b,h=>by simp [lk] at h
 | (j,c) :: rest,v,k,b,h=>by
  simp only [lk] at h;simp only [Qf,lk];cases F:Q2 k j with
  | true=>
   simp_all
  | false=>
   simp [F] at h;have D:=tG rest k b h;have I:d k≠d j:=λe=>by
    have:=v (k,b) (List.mem_cons_of_mem _ D) (j,c) (by simp) e;simp only at this;subst this;simp at F
   have:Q2 (d k) (d j)=false:=by rw [Q8];simp_all
   simp only [this,cond_false];exact zQq d rest (λe N G J=>v e (by simp [N]) G (by simp [J])) k b h
theorem zD8 (v:Nat->Nat):∀ (blks:LB) (i:Nat) (b:ABlk),lk (blks.map λe=>(v e.1,e.2.ren v)) i=some b->∃ k∈blks.map (·.1),i=v k
 | [],i,b,h=>by simp [lk] at h
 | (j,c) :: rest,i,b,h=>by
  simp only [Qf,lk] at h;cases E:Q2 i (v j) with
  | true=>simp_all
  | false=>
   simp [E] at h;obtain ⟨k,A,G⟩:=zD8 v _ i b (by omega);exact ⟨k,by simp_all,G⟩
def fk (ρ:Nat->Nat) (D:List Nat) (i:Nat):Option Nat:=D.find? λj=>Q2 i (ρ j)
theorem zCx (y:∀ j∈D,∀ d∈D,ρ j=ρ d->j=d) (E:j∈D):fk ρ D (ρ j)=some j:=by
 unfold fk;cases h:D.find? _ with
 | none=>
  have:=List.find?_eq_none.1 h j E;simp_all
 | some d=>
  have I:=List.find?_some h;have G:=List.mem_of_find?_eq_some h;have:=y j E d G (Q0 I);simp_all
theorem qG {i:Nat} (h:fk ρ D i=some j):j∈D/\i=ρ j:=
 ⟨List.mem_of_find?_eq_some h,Q0 (by have:=List.find?_some h;omega)⟩
theorem Inv.import (hi:Inv cx M κ tip s a w) {a':Act} (hM:M.le M')
  (hr:Inv ⟨w,M,pk,n,[]⟩ M' κ' tip' (mkS env blks) a' w') (A:Nat->Nat) (hinj:∀ j∈blks.map (·.1),∀ j'∈blks.map (·.1),A j=A j'->j=j')
  (hpk:∀ e∈pk,κ' e.1=some e.2/\κ (A e.1)=some e.2/\(∃ l,s.blk (A e.1)=some (.var l))/\∃ l',lk blks e.1=some (.var l'))
  (hfr:∀ j∈blks.map (·.1),(∃ b,(j,b)∈pk)∨s.blk (A j)=none) (hob:∀ b∈pk.ob,((∀ i,κ i≠some b)/\(cx.w0.heap.size<=b∨b∈cx.ob))/\∀ j∈blks.map (·.1),BIG<=j->BIG<=A j) :
  Inv cx M' (λi=>match fk A (blks.map (·.1)) i with | some j=>κ' j | none=>κ i) (λi=>match fk A (blks.map (·.1)) i with | some j=>tip' j | none=>tip i) (inS s A blks) a w' /\
  ∀ v x,RepA M' κ' tip' (mkS env blks).blk v x->RepA M' (λi=>match fk A (blks.map (·.1)) i with | some j=>κ' j | none=>κ i) (λi=>match fk A (blks.map (·.1)) i with | some j=>tip' j | none=>tip i) (inS s A blks).blk (v.ren A) x:=by
 generalize hκ2:(λi=>match fk A (blks.map (·.1)) i with | some j=>κ' j | none=>κ i)=κ2;generalize ht2:(λi=>match fk A (blks.map (·.1)) i with | some j=>tip' j | none=>tip i)=tip2;have kin:∀ j∈blks.map (·.1),κ2 (A j)=κ' j:=λj F=>by rw [<- hκ2];simp only [zCx hinj F]
 have tin:∀ j∈blks.map (·.1),tip2 (A j)=tip' j:=λj F=>by rw [<- ht2];simp only [zCx hinj F]
 have D:∀ i,fk A (blks.map (·.1)) i=none->κ2 i=κ i/\tip2 i=tip i:=λi h=>by rw [<- hκ2,<- ht2];simp only [h,and_self]
 have bin:∀ j b,lk blks j=some b->(inS s A blks).blk (A j)=some (b.ren A):=λj b h=>by
  simp only [inS];rw [zQq A blks (λe he e' he' h=>hinj _ (Q4.2 ⟨e,he,rfl⟩) _ (Q4.2 ⟨e',he',rfl⟩) h) j b h];rfl
 have bout:∀ i,fk A (blks.map (·.1)) i=none->(inS s A blks).blk i=s.blk i:=λi h=>by
  simp only [inS];cases hl:lk (blks.map λe=>(A e.1,e.2.ren A)) i with
  | none=>rfl
  | some b=>
   obtain ⟨k,h1,h2⟩:=zD8 A blks i b hl;subst h2;rw [zCx hinj h1] at h;cases h
 have lkin:∀ j∈blks.map (·.1),∃ b,lk blks j=some b:=by
  intro j F;clear hr hinj hpk hfr hob kin tin D bin bout hκ2 ht2;induction blks with
  | nil=>simp at F
  | cons e rest ih=>
   obtain ⟨k,b⟩:=e;simp only [lk];cases hb:Q2 j k with
   | true=>exact ⟨b,by simp⟩
   | false=>
    simp only [cond_false];refine ih ?_;simp only [Qf,Qh] at F;rcases F with h | h
    ·subst h;simp at hb
    ·exact h
 have lkmem:∀ j b,lk blks j=some b->j∈blks.map (·.1):=λj b h=>Q4.2 ⟨(j,b),tG blks j b h,rfl⟩;have param:∀ j∈blks.map (·.1),s.blk (A j)≠none->∃ b,(j,b)∈pk:=λj F h=>(hfr j F).resolve_right h;have gle:GLe κ κ2 tip tip2 s.blk (inS s A blks).blk:={
  var:=λi b l h h'=>by
   cases E:fk A (blks.map (·.1)) i with
   | none=>rw [(D i E).1,bout i E];exact ⟨h,l,h'⟩
   | some j=>
    obtain ⟨F,rfl⟩:=qG E;obtain ⟨b',hb'⟩:=param j F (by rw [h'];simp);obtain ⟨p1,p2,_,l',p4⟩:=hpk (j,b') hb';simp only at p1 p2 p4;rw [kin j F];rw [p2] at h;cases h;exact ⟨p1,_,bin j _ p4⟩
  buf:=λi c h=>by
   cases E:fk A (blks.map (·.1)) i with
   | none=>exact W0 (by rw [bout i E];exact h) (D i E).2
   | some j=>
    obtain ⟨F,rfl⟩:=qG E;obtain ⟨b',hb'⟩:=param j F (by rw [h];simp);obtain ⟨_,_,⟨l,p3⟩,_⟩:=hpk (j,b') hb';simp only at p3;rw [h] at p3;cases p3
  own:=λi c l1 h=>by
   cases E:fk A (blks.map (·.1)) i with
   | none=>exact Qt (by rw [bout i E];exact h) (D i E).1 (D i E).2
   | some j=>
    obtain ⟨F,rfl⟩:=qG E;obtain ⟨b',hb'⟩:=param j F (by rw [h];simp);obtain ⟨_,_,⟨l,p3⟩,_⟩:=hpk (j,b') hb';simp only at p3;rw [h] at p3;cases p3 }
 have hold:∀ {v:AV} {x:Value},RepA M κ tip s.blk v x->RepA M' κ2 tip2 (inS s A blks).blk v x:=λh=>(h.mono hM).ghost gle;have hnew:∀ {v:AV} {x:Value},RepA M' κ' tip' (mkS env blks).blk v x->RepA M' κ2 tip2 (inS s A blks).blk (v.ren A) x:=λh=>
  h.ren (λk b hk=>by
   have:k∈blks.map (·.1):=by
    cases hb:lk blks k with
    | none=>rw [hr.dom k hb] at hk;cases hk
    | some b'=>exact lkmem k b' hb
   rw [kin k this];exact hk) (λk b hb=>⟨bin k b hb,tin k (lkmem k b hb)⟩)
 have hsz:w.heap.size<=w'.heap.size:=hr.fr.size;have hbase:cx.w0.heap.size<=w.heap.size:=hi.fr.size;have notp:∀ i b,κ i=some b->fk A (blks.map (·.1)) i=none->b∉Ctx.pb ⟨w,M,pk,n,[]⟩:=by
  intro i b h1 h2 h3;simp only [Ctx.pb,Q4] at h3;obtain ⟨e,he,rfl⟩:=h3;obtain ⟨_,p2,_,l',p4⟩:=hpk e he;have:=hi.inj i (A e.1) e.2 h1 p2;subst this;rw [zCx hinj (lkmem _ _ p4)] at h2;cases h2
 have noto:∀ i b,κ i=some b->b∉pk.ob:=λi b h1 h2=>(hob b h2).1.1 i h1;have newb:∀ j b,κ' j=some b->(∃ b,(j,b)∈pk)∨w.heap.size<=b∨b∈pk.ob/\∃ wd l,lk blks j=some (.own wd l):=by
  intro j b h;cases hb:lk blks j with
  | none=>rw [hr.dom j hb] at h;cases h
  | some bl=>
   cases bl with
   | var l=>
    obtain ⟨b',arr,e,fz,q1,q2,q3,q4,q5,q6,q7⟩:=hr.vars j l hb;rw [h] at q1;cases q1;rcases q7 with q7 | q7
    ·exact .inr (.inl q7)
    ·simp only [Ctx.pb,Q4] at q7;obtain ⟨e,he,he2⟩:=q7;have:=hr.inj j e.1 b h (by rw [(hpk e he).1,he2]);exact .inl ⟨e.2,by rw [this];exact he⟩
   | buf c=>
    obtain ⟨_,_,_,q4⟩:=hr.bufs j c hb;rcases q4 with ⟨_,q5⟩ | ⟨b',n',cap,arr,e,fz,_,q5,q6,_⟩
    ·rw [h] at q5;cases q5
    ·rw [h] at q5;cases q5;exact .inr (.inl q6)
   | own wd l=>
    rcases hr.owns j wd l hb with ⟨_,q5,_⟩ | ⟨_,⟨_,q5,_⟩ | ⟨b',n',cap,arr,e,fz,_,q5,q6,_⟩⟩
    ·rw [h] at q5;cases q5
    ·rw [h] at q5;cases q5
    ·rw [h] at q5;cases q5;exact .inr (q6.imp id λh=>⟨h.1,wd,l,rfl⟩)
 refine ⟨{
  defers:=hi.defers
  size:=hi.size
  fr:=⟨hr.fr.os.trans hi.fr.os,hr.fr.tape.trans hi.fr.tape,hr.fr.output.trans hi.fr.output,by omega,λb h1 h2 h2'=>by
   rw [hr.fr.block b (by simp only;omega) ?_ (λh=>(hob b h).1.2.elim (λh=>by omega) h2')]
   ·exact hi.fr.block b h1 h2 h2'
   ·intro h3;simp only [Ctx.pb,Q4] at h3;obtain ⟨e,he,rfl⟩:=h3;obtain ⟨_,p2,⟨l,p3⟩,_⟩:=hpk e he;obtain ⟨b',arr,e',fz,q1,_,_,_,_,_,q7⟩:=hi.vars _ l p3;rw [p2] at q1;cases q1;rcases q7 with q7 | q7
    ·omega
    ·exact h2 q7⟩
  mem:=hr.mem
  env:=λt v h=>let ⟨x,h1,h2⟩:=hi.env t v h;⟨x,h1,hold h2⟩
  vars:=λi l h=>by
   cases E:fk A (blks.map (·.1)) i with
   | none=>
    rw [bout i E] at h;obtain ⟨b,arr,e,fz,q1,q2,q3,q4,q5,q6,q7⟩:=hi.vars i l h;have hlt:=hi.lt q1;refine ⟨b,arr,e,fz,by rw [(D i E).1];exact q1,?_,q3,q4,λj q hq=>hold (q5 j q hq),λo=>?_,q7⟩
    ·rw [hr.fr.block b hlt (notp i b q1 E) (noto i b q1)];exact q2
    ·have:=hr.old.1 b o hlt;simp only at this;rw [this];exact q6 o
   | some j=>
    obtain ⟨F,rfl⟩:=qG E;obtain ⟨bl,hbl⟩:=lkin j F;rw [bin j bl hbl] at h;cases bl with
    | buf c=>cases h
    | own wd l0=>cases h
    | var l0=>
     cases h;obtain ⟨b,arr,e,fz,q1,q2,q3,q4,q5,q6,q7⟩:=hr.vars j l0 hbl;obtain ⟨r1,r2⟩:=pG A l0;refine ⟨b,arr,e,fz,by rw [kin j F];exact q1,q2,q3,by omega,λjj q hq=>?_,q6,?_⟩
     ·rw [r2] at hq;obtain ⟨q',h3,h4⟩:=Q3.1 hq;subst h4;exact hnew (q5 jj q' h3)
     ·rcases newb j b q1 with ⟨b',hp⟩ | G
      ·obtain ⟨p1,p2,⟨l,p3⟩,_⟩:=hpk (j,b') hp;simp only at p1 p2 p3;rw [q1] at p1;cases p1;obtain ⟨b2,_,_,_,q1',_,_,_,_,_,q7'⟩:=hi.vars _ l p3;rw [p2] at q1';cases q1';exact q7'
      ·rcases G with G | ⟨_,wd,l9,G⟩
       ·exact .inl (by omega)
       ·rw [hbl] at G;cases G
  bufs:=λi c h=>by
   cases E:fk A (blks.map (·.1)) i with
   | none=>
    rw [bout i E] at h;obtain ⟨q1,q2,q3,q4⟩:=hi.bufs i c h;rw [(D i E).1,(D i E).2];refine ⟨q1.mono hM,q2,q3,?_⟩;rcases q4 with q4 | ⟨b,n',cap,arr,e,fz,z1,z2,z3,z4,z5,z6,z7,z8⟩
    ·exact .inl q4
    ·have hlt:=hi.lt z2;refine .inr ⟨b,n',cap,arr,e,fz,z1,z2,z3,?_,z5,z6,z7,λj F=>?_⟩
     ·rw [hr.fr.block b hlt (notp i b z2 E) (noto i b z2)];exact z4
     ·have:=hr.old.1 b j hlt;simp only at this;rw [this];exact z8 j F
   | some j=>
    obtain ⟨F,rfl⟩:=qG E;obtain ⟨bl,hbl⟩:=lkin j F;rw [bin j bl hbl] at h;cases bl with
    | var l0=>cases h
    | own wd l0=>cases h
    | buf c0=>
     have hcc:c0=c:=by simpa [ABlk.ren] using h
     subst hcc;obtain ⟨q1,q2,q3,q4⟩:=hr.bufs j c0 hbl;rw [kin j F,tin j F];refine ⟨q1,q2,q3,?_⟩;rcases q4 with q4 | ⟨b,n',cap,arr,e,fz,z1,z2,z3,z4⟩
     ·exact .inl q4
     ·exact .inr ⟨b,n',cap,arr,e,fz,z1,z2,by simp only at z3;omega,z4⟩
  inj:=λi i' b h1 h2=>by
   cases E:fk A (blks.map (·.1)) i with
   | none=>
    rw [(D i E).1] at h1;cases hf':fk A (blks.map (·.1)) i' with
    | none=>rw [(D i' hf').1] at h2;exact hi.inj i i' b h1 h2
    | some j'=>
     obtain ⟨hj',rfl⟩:=qG hf';rw [kin j' hj'] at h2;rcases newb j' b h2 with ⟨b',hp⟩ | G
     ·exact (notp i b h1 E (by
       simp only [Ctx.pb,Q4];obtain ⟨p1,_⟩:=hpk (j',b') hp;simp only at p1;rw [h2] at p1;cases p1;exact ⟨(j',b),hp,rfl⟩)).elim
     ·rcases G with G | G
      ·have:=hi.lt h1;omega
      ·exact (noto i b h1 G.1).elim
   | some j=>
    obtain ⟨F,rfl⟩:=qG E;rw [kin j F] at h1;cases hf':fk A (blks.map (·.1)) i' with
    | none=>
     rw [(D i' hf').1] at h2;rcases newb j b h1 with ⟨b',hp⟩ | G
     ·exact (notp i' b h2 hf' (by
       simp only [Ctx.pb,Q4];obtain ⟨p1,_⟩:=hpk (j,b') hp;simp only at p1;rw [h1] at p1;cases p1;exact ⟨(j,b),hp,rfl⟩)).elim
     ·rcases G with G | G
      ·have:=hi.lt h2;omega
      ·exact (noto i' b h2 G.1).elim
    | some j'=>
     obtain ⟨hj',rfl⟩:=qG hf';rw [kin j' hj'] at h2;rw [hr.inj j j' b h1 h2]
  dom:=λi h=>by
   cases E:fk A (blks.map (·.1)) i with
   | none=>rw [bout i E] at h;rw [(D i E).1];exact hi.dom i h
   | some j=>
    obtain ⟨F,rfl⟩:=qG E;obtain ⟨bl,hbl⟩:=lkin j F;rw [bin j bl hbl] at h;cases h
  glob:=hi.glob.mono hM
  old:=⟨λb o hb=>by
   have:=hr.old.1 b o (by simp only;omega);simp only at this;rw [this];exact hi.old.1 b o hb,hi.old.2⟩
  owns:=λi wd l h=>by
   cases E:fk A (blks.map (·.1)) i with
   | none=>
    rw [bout i E] at h;rw [(D i E).1,(D i E).2];rcases hi.owns i wd l h with g0 | ⟨g1,g2⟩
    ·exact .inl g0
    refine .inr ⟨g1,?_⟩;rcases g2 with g2 | ⟨b,n',cap,arr,e,fz,z1,z2,z3,z4,z5,z6,z7,z8,z9,z10,z11⟩
    ·exact .inl g2
    ·have hlt:=hi.lt z2;refine .inr ⟨b,n',cap,arr,e,fz,z1,z2,z3,?_,z5,z6,z7,z8,z9,λj q hq=>hold (z10 j q hq),λo=>?_⟩
     ·rw [hr.fr.block b hlt (notp i b z2 E) (noto i b z2)];exact z4
     ·have:=hr.old.1 b o hlt;simp only at this;rw [this];exact z11 o
   | some j=>
    obtain ⟨F,rfl⟩:=qG E;obtain ⟨bl,hbl⟩:=lkin j F;rw [bin j bl hbl] at h;cases bl with
    | var l0=>cases h
    | buf c0=>cases h
    | own wd0 l0=>
     cases h;obtain ⟨r1,r2⟩:=pG A l0;rw [kin j F,tin j F];rcases hr.owns j wd l0 hbl with ⟨g1,g2,rfl⟩ | ⟨g1,g2⟩
     ·exact .inl ⟨g1,g2,rfl⟩
     refine .inr ⟨g1,?_⟩;rcases g2 with ⟨y1,y2,rfl⟩ | ⟨b,n',cap,arr,e,fz,z1,z2,z3,z4,z5,z6,z7,z8,z9,z10,z11⟩
     ·exact .inl ⟨y1,y2,rfl⟩
     ·refine .inr ⟨b,n',cap,arr,e,fz,z1,z2,z3.elim (λh=>.inl (Qp hbase h)) (λh=>(hob b h.1).1.2.imp id λh'=>⟨h',(hob b h.1).2 j F h.2⟩),z4,z5,by omega,z7,z8,z9,λjj q hq=>?_,z11⟩;rw [r2] at hq;obtain ⟨q',h3,h4⟩:=Q3.1 hq;subst h4;exact hnew (z10 jj q' h3) },λv x h=>hnew h⟩
end
def sh (d j:Nat):Nat:=j+1000*(d+1)
theorem zPw (d:Nat) (h:sh d j=sh d j'):j=j':=by unfold sh at h;omega
section
theorem zKj (ho:o.op=.call { callee:=.value (.func f),args:=xs,argTypes:=ts }) (hc:Callable P f) :
  (execOp a.eval o).run P w=.ok (.enter f (xs.map a.eval)) w:=by
 obtain ⟨fn,h1,h2,h3⟩:=hc;have h2':fn.body≠none:=by intro e;simp [e] at h2
 have h3':fn.name ≠ "runtime.NumGoroutine":=by intro e;simp [e] at h3
 simp [execOp,ho,resolve,Act.eval,Deferred.ofValue,invoke,callFunc,h1,h2',h3']
theorem zOz (hg:GlobOk w M) (hm:∀ b o x,M b o=some x->w.cell? ⟨b,o,none⟩=some x) (hs:args.size=ps.length) (hr:∀ (j:Nat) (p:PV),ps[j]? = some p->Rep M p (args.getD j undef)) :
  Inv ⟨w,M,zTd,ps.length,[]⟩ M (λ_=>none) (λ_=>undef) (mkS (argE 0 ps) []) ⟨args,[]⟩ w where
 defers:=rfl
 size:=hs
 fr:=⟨rfl,rfl,rfl,Q5 _,λ_ _ _ _=>rfl⟩
 mem:=hm
 env:=λt v h=>by
  obtain ⟨p,rfl,_,h3⟩:=zFs ps 0 t v h;simp only [Wd] at h3;have hlt:t<ps.length:=(List.getElem?_eq_some_iff.1 h3).1;have hlt':t<args.size:=by omega
  refine ⟨args[t],by simp [hlt'],.p _ _ ?_⟩;have:=hr t p h3;simpa [hlt'] using this
 vars:=λk l h=>by simp [mkS,lk] at h
 bufs:=λk c h=>by simp [mkS,lk] at h
 inj:=λk k' b h=>by simp at h
 dom:=λ_ _=>rfl
 old:=⟨λ_ _ _=>rfl,λ_ h=>by cases h⟩
 glob:=hg
 owns:=λk wd l h=>by simp [mkS,lk] at h
theorem zF1:Qy ⟨rs,bb,fr,some (d,some v),blks.map λe=>(ρ e.1,e.2.ren ρ)⟩ s=(inS s ρ blks).put d v:=rfl
theorem yBh (hd:o.dst=some d) (ho:o.op=.call { callee:=.value (.func f),args:=xs,argTypes:=ts })
  (hok:Ok P f na (mkS (argE 0 ps) []) (mkS [(0,av)] blks)) (hxl:xs.toList=xl) (htl:ts.toList=tl) (ha:mD s te xl tl ps rs bb) (hn:na=ps.length) (hf:∀ k∈(blks.map λe=>sh d e.1),s.blk k=none) :
  SA P o s ⟨rs,bb,blks.map λe=>sh d e.1,some (d,some (av.ren (sh d))),blks.map λe=>(sh d e.1,e.2.ren (sh d))⟩:=by
 refine ⟨?_,ha.reads.1,ha.reads.2,hf⟩;intro cx s' a w K Q hm hs hws hk;obtain ⟨M,κ,tip,h0,hp,hi⟩:=hs;obtain ⟨hl,hrep⟩:=ha.rep hi hm.1 hm.2.1;have hsz:(xs.map a.eval).size=ps.length:=by rw [<- hl,<- hxl];simp
 have hinv:=zOz (w:=w) (hi.globw hp) hi.mem hsz (λj p hj=>by
  have:=hrep j p hj;rw [<- hxl] at this;rw [Q1];simpa using this)
 subst hn;unfold Oper.wp;rw [zKj ho hok.1];show Calls P f _ w _;refine (hok.2 w M zTd _ _ _ hinv (by simp)).mono ?_;rintro e w' ⟨v,rfl,M',κ',tip',h0',hp',hr⟩;show K (a.put o.dst v) w';rw [hd];refine hk _ _ ?_;rw [zF1];obtain ⟨i1,i2⟩:=hi.import h0' hr (sh d) (λj _ j' _ h=>zPw d h) (by simp) (hob:=by simp) (λj hj=>.inr (by
  refine hm.2.2 (sh d j) ?_;obtain ⟨e,he,rfl⟩:=Q4.1 hj;exact Q4.2 ⟨e,he,rfl⟩))
 obtain ⟨x,hx,hrx⟩:=hr.env 0 av (by simp [mkS,lk]);simp at hx;subst hx;refine ⟨M',_,_,h0.trans' h0',?_,i1.put (hws d (by simp [Qu])) (i2 av v hrx)⟩;intro k hk';obtain ⟨h1,h2⟩:=hp k hk';refine ⟨?_,h2⟩;have:fk (sh d) (blks.map (·.1)) k.1=none:=by
  cases hfk:fk (sh d) (blks.map (·.1)) k.1 with
  | none=>rfl
  | some j=>
   obtain ⟨hj,he⟩:=qG hfk;have:=hm.2.2 (sh d j) (by obtain ⟨e,he',rfl⟩:=Q4.1 hj;exact Q4.2 ⟨e,he',rfl⟩);rw [he,hi.dom _ this] at h1;cases h1
 simp only [this];exact h1
def shp (d k j:Nat):Nat:=bif Q2 j 0 then k else sh d j
theorem zSg (d k:Nat) (hD:∀ j∈D,j≠0->sh d j≠k) (hj:j∈D) (hj':j'∈D) (h:shp d k j=shp d k j'):j=j':=by
 have h0:∀ j:Nat,j≠0->Q2 j 0=false:=λj h=>by rw [Q8];intro e;exact h (Q0 e)
 unfold shp at h;by_cases a:j=0
 ·by_cases b:j'=0
  ·omega
  ·subst a;rw [h0 j' b] at h;simp at h;exact (hD j' hj' b h.symm).elim
 ·by_cases b:j'=0
  ·subst b;rw [h0 j a] at h;simp at h;exact (hD j hj a h).elim
  ·rw [h0 j a,h0 j' b] at h;exact zPw d h
theorem dU {cs:List PV} (h:s.rdL l=some (cs,bs)) (hr:∀ (j:Nat) (q:AV),l[j]? = some q->RepA M κ tip s.blk q (arr.getD j undef)) :
  cs.length=l.length/\∀ (j:Nat) (q:PV),cs[j]? = some q->Rep M q (arr.getD j undef):=by
 obtain ⟨e1,e2⟩:=zIv l cs bs h;refine ⟨e1,λj q hq=>?_⟩;obtain ⟨v,b,h3,h4⟩:=e2 j q hq;exact zGd (hr j v h3) h4
theorem zLj (hg:GlobOk w M) (hm:∀ b o x,M b o=some x->w.cell? ⟨b,o,none⟩=some x) {cs:List PV} (hs:args.size=ps.length+1) (h0:args[0]? = some (.pointer (some ⟨b,0,none⟩)))
  (hr:∀ (j:Nat) (p:PV),ps[j]? = some p->Rep M p (args.getD (j+1) undef)) (hheap:w.heap[b]? = some (.cells arr e fz)) (hfree:zD3 fz arr.size) (hsz:arr.size=cs.length) (hcs:∀ (j:Nat) (q:PV),cs[j]? = some q->Rep M q (arr.getD j undef)) (hM:∀ o,M b o=none) :
  Inv ⟨w,M,⟨[(0,b)],[],by simp [BIG]⟩,ps.length+1,[]⟩ M (λk=>bif Q2 k 0 then some b else none) (λ_=>undef) (mkS ((0,.ptr 0 0) :: argE 1 ps) [(0,.var (cs.map .p))]) ⟨args,[]⟩ w where
 defers:=rfl
 size:=hs
 fr:=⟨rfl,rfl,rfl,Q5 _,λ_ _ _ _=>rfl⟩
 mem:=hm
 env:=λt v h=>by
  simp only [mkS,lk] at h;cases hb:Q2 t 0 with
  | true=>
   have:=Q0 hb;subst this;simp at h;subst h;exact ⟨_,h0,.ptr 0 0 b (cs.map .p) (by simp) (by simp [mkS,lk])⟩
  | false=>
   simp [hb] at h;obtain ⟨p,rfl,h2,h3⟩:=zFs ps 1 t v h;have hlt:t - 1<ps.length:=(List.getElem?_eq_some_iff.1 h3).1;have hlt':t<args.size:=by omega
   refine ⟨args[t],by simp [hlt'],.p _ _ ?_⟩;have:=hr (t - 1) p h3;rw [show t - 1+1=t by omega] at this;simpa [hlt'] using this
 vars:=λk l h=>by
  simp only [mkS,lk] at h;cases hb:Q2 k 0 with
  | true=>
   have:=Q0 hb;subst this;simp at h;subst h;refine ⟨b,arr,e,fz,by simp,hheap,hfree,by simp [hsz],λj q hq=>?_,hM,.inr (by simp [Ctx.pb])⟩;rw [List.getElem?_map] at hq;obtain ⟨p,h1,h2⟩:=Q3.1 hq;subst h2;exact .p _ _ (hcs j p h1)
  | false=>simp [hb] at h
 bufs:=λk c h=>by
  simp only [mkS,lk] at h;cases hb:Q2 k 0 with
  | true=>simp [hb] at h
  | false=>simp [hb] at h
 inj:=λk k' b' h1 h2=>by
  cases hb:Q2 k 0 with
  | true=>
   cases hb':Q2 k' 0 with
   | true=>rw [Q0 hb,Q0 hb']
   | false=>simp [hb'] at h2
  | false=>simp [hb] at h1
 dom:=λk h=>by
  simp only [mkS,lk] at h;cases hb:Q2 k 0 with
  | true=>simp [hb] at h
  | false=>simp
 old:=⟨λ_ _ _=>rfl,λ_ h=>by cases h⟩
 glob:=hg
 owns:=λk wd l h=>by
  simp only [mkS,lk] at h;cases hb:Q2 k 0 with
  | true=>simp [hb] at h
  | false=>simp [hb] at h
theorem zWp {xa:Operand} {cs:List PV} {bs0:LB} (hd:o.dst=some d)
  (ho:o.op=.call { callee:=.value (.func f),args:=xs,argTypes:=ts }) (hok:Ok P f na (mkS ((0,.ptr 0 0) :: argE 1 ps) [(0,.var (cs.map .p))]) (mkS [(0,av)] ((0,.var l') :: blks))) (hxl:xs.toList=xa :: xl) (htl:ts.toList=ta :: tl) (hxa:s.get te ta xa=some (.ptr k 0)) (hbk:s.blk k=some (.var l)) (hcs:s.rdL l=some (cs,bs0))
  (ha:mD s te xl tl ps rs bb) (hn:na=ps.length+1) (hf:∀ j∈(blks.map λe=>sh d e.1),s.blk j=none) (hne:∀ e∈blks,e.1≠0) :
  SA P o s ⟨opS xa (.ptr k 0)++rs,(k,.var l) :: (bs0++bb),blks.map λe=>sh d e.1,some (d,some (av.ren (shp d k))),((0,.var l') :: blks).map λe=>(shp d k e.1,e.2.ren (shp d k))⟩:=by
 refine ⟨?_,yI (zN hxa) ha.reads.1,?_,hf⟩
 ·intro cx s' a w K Q hm hs hws hk;obtain ⟨M,κ,tip,h0,hp,hi⟩:=hs;have hb':∀ e∈bb,s'.blk e.1=some e.2:=λe he=>hm.2.1 e (by simp [he]);have hbs':∀ e∈bs0,s'.blk e.1=some e.2:=λe he=>hm.2.1 e (by simp [he]);have hbk':s'.blk k=some (.var l):=hm.2.1 (k,.var l) (by simp);obtain ⟨hl,hrep⟩:=ha.rep hi (zZ hm.1) hb';have hxa':=yD hi (yJ hxa s' (yF hm.1));obtain ⟨b,arr,e,fz,q1,q2,q3,q4,q5,q6,q7⟩:=hi.vars k l hbk';have hev:a.eval xa=.pointer (some ⟨b,0,none⟩):=by
   generalize a.eval xa=z at hxa';cases hxa' with
   | ptr _ _ b' _ g1 g2=>rw [q1] at g1;cases g1;rfl
  obtain ⟨c1,c2⟩:=dU (bY l cs bs0 hcs hbs') q5;have hmap:(xs.map a.eval).toList=a.eval xa :: xl.map a.eval:=by simp [hxl]
  have hsz:(xs.map a.eval).size=ps.length+1:=by rw [<- hl,<- Qk,hmap];simp
  have hget0:(xs.map a.eval)[0]? = some (.pointer (some ⟨b,0,none⟩)):=by rw [<- Array.getElem?_toList,hmap,<- hev];rfl
  have hinv:=zLj (w:=w) (hi.globw hp) hi.mem hsz hget0 (λj p hj=>by
   have:=hrep j p hj;rw [Q1,<- Array.getElem?_toList,hmap];simpa using this) q2 q3 (by omega) c2 q6
  subst hn;unfold Oper.wp;rw [zKj ho hok.1];show Calls P f _ w _;refine (hok.2 w M ⟨[(0,b)],[],by simp [BIG]⟩ _ _ _ hinv (by intro k' hk';simp at hk';subst hk';exact ⟨by simp,hi.lt q1⟩)).mono ?_;rintro e' w' ⟨v,rfl,M',κ',tip',h0',hp',hr⟩;show K (a.put o.dst v) w';rw [hd];refine hk _ _ ?_;rw [zF1];have hfresh:∀ j∈blks.map (·.1),s'.blk (sh d j)=none:=λj hj=>by
   refine hm.2.2 (sh d j) ?_;obtain ⟨e,he,rfl⟩:=Q4.1 hj;exact Q4.2 ⟨e,he,rfl⟩
  have hD:∀ j∈((0,ABlk.var l') :: blks).map (·.1),j≠0->sh d j≠k:=by
   intro j hj hj0 hk';simp only [Qf,Qh] at hj;rcases hj with hj | hj
   ·exact hj0 hj
   ·have:=hfresh j hj;rw [hk',hbk'] at this;cases this
  obtain ⟨i1,i2⟩:=hi.import h0' hr (hob:=by simp) (shp d k) (λj hj j' hj' h=>zSg d k hD hj hj' h)
   (by
    intro e' he';simp at he';subst he';exact ⟨(hp' (0,b) (by simp)).1,by simpa [shp] using q1,⟨l,by simpa [shp] using hbk'⟩,l',by simp [lk]⟩)
   (λj hj=>by
    simp only [Qf,Qh] at hj;by_cases hj0:j=0
    ·exact .inl ⟨b,by simp [hj0]⟩
    ·refine .inr ?_;have hb0:Q2 j 0=false:=by rw [Q8];intro e;exact hj0 (Q0 e)
     simp only [shp,hb0,cond_false];exact hfresh j (hj.resolve_left hj0))
  obtain ⟨x,hx,hrx⟩:=hr.env 0 av (by simp [mkS,lk]);simp at hx;subst hx;refine ⟨M',_,_,h0.trans' h0',?_,i1.put (hws d (by simp [Qu])) (i2 av v hrx)⟩;intro k' hk';obtain ⟨h1,h2⟩:=hp k' hk';refine ⟨?_,h2⟩;cases hfk:fk (shp d k) (((0,ABlk.var l') :: blks).map (·.1)) k'.1 with
  | none=>exact h1
  | some j=>
   obtain ⟨hj,he⟩:=qG hfk;simp only;by_cases hj0:j=0
   ·subst hj0;simp only [shp] at he;rw [he] at h1;simp at h1;rw [q1] at h1;cases h1;exact (hp' (0,k'.2) (by simp)).1
   ·have hb0:Q2 j 0=false:=by rw [Q8];intro e;exact hj0 (Q0 e)
    simp only [shp,hb0,cond_false] at he;simp only [Qf,Qh] at hj;have:=hfresh j (hj.resolve_left hj0);rw [he,hi.dom _ this] at h1;cases h1
 ·intro e he;simp only [Qh,Qq] at he;rcases he with he | he | he
  ·subst he;exact hbk
  ·exact cR l cs bs0 hcs e he
  ·exact ha.reads.2 e he
end
def PK (cx:Ctx) (ks:List Nat):Prop:=∀ k∈cx.pk,k.1∈ks
theorem Lep.mk' (v:PK cx ks) {blk:LB} (F:zQj s env) (y:zP3 s blk) (A:kC (lk blk) env=true) (G:uY (lk blk) blk=true) (E:ks.all (λk=>(lk blk k).isSome)=true):Lep cx (mkS env blk) s:=
 ⟨Le.mk' F y A G,λk D=>(Qo.1 E) _ (v k D)⟩
def vY (P:Program) (fn:Func) (cx:Ctx) (s rs:AS):Prop:=∀ a w,SRel cx s a w->∃ v,(results fn a.tmps).run P w=.ok v w/\SRel { cx with nt:=1,df:=[] } rs ⟨#[v],[]⟩ w
def yEy (P:Program) (fn:Func) (cx:Ctx) (rs:AS):Exit->AS->Prop:=λe s=>(e=.ret∨e=.normal)/\vY P fn cx s rs
theorem zLh {body:Code} {as rs:AS} (hf:P.funcs[f]? = some fn) (K:fn.body=some body) (Z:(fn.name == "runtime.NumGoroutine")=false) (ca:na<=fn.ntmps) (Y:∀ k,k<BIG->(as.blk k).isSome=true->k∈ks)
  (h:∀ cx:Ctx,cx.nt=fn.ntmps->PK cx ks->awp P cx body (yEy P fn cx rs) as):Ok P f na as rs:=by
 refine ⟨⟨fn,hf,by simp [K],Z⟩,?_⟩;intro w M L args κ tip d F;refine calls_of_wp hf K ?_;have bu:args.size=na:=d.size;have J:Inv ⟨w,M,L,fn.ntmps,[]⟩ M κ tip as { tmps:=args++Array.replicate (fn.ntmps - args.size) undef,defers:=[] } w:={
  defers:=rfl
  size:=by simp;omega
  fr:=⟨d.fr.os,d.fr.tape,d.fr.output,d.fr.size,d.fr.block⟩
  mem:=d.mem
  env:=λt v e=>by
   obtain ⟨x,U,h2⟩:=d.env t v e;refine ⟨x,?_,h2⟩;simp only at U;have T:t<args.size:=(Array.getElem?_eq_some_iff.1 U).1;rw [Array.getElem?_append_left T];exact U
  vars:=d.vars
  bufs:=d.bufs
  inj:=d.inj
  dom:=d.dom
  glob:=d.glob
  old:=d.old
  owns:=d.owns }
 have V:=λk hk=>Y k.1 (L.nk k hk) (by
  cases K:as.blk k.1 with
  | none=>have:=(F k hk).1;rw [d.dom _ K] at this;cases this
  | some b=>rfl)
 refine wp_mono (h ⟨w,M,L,fn.ntmps,[]⟩ rfl V _ _ ⟨M,κ,tip,Mem.le_refl _,F,J⟩) ?_;rintro e a' w' ⟨s',G,he,I⟩;obtain ⟨v,hv,hr⟩:=I a' w' G;have hd:a'.defers=[]:=by obtain ⟨_,_,_,_,_,ba⟩:=G;exact ba.defers
 rcases he with rfl | rfl
 ·exact ⟨hd,v,hv,v,rfl,hr⟩
 ·exact ⟨hd,v,hv,v,rfl,hr⟩
theorem SRel.result (h:SRel cx s a w) {v:Value} (V:∀ M y tip,Inv cx M y tip s a w->RepA M y tip s.blk av v):SRel { cx with nt:=1,df:=[] } { env:=lk [(0,av)],blk:=s.blk } ⟨#[v],[]⟩ w:=by
 obtain ⟨M,y,tip,N,L,d⟩:=h;refine ⟨M,y,tip,N,L,{
  defers:=rfl
  size:=rfl
  fr:=⟨d.fr.os,d.fr.tape,d.fr.output,d.fr.size,d.fr.block⟩
  mem:=d.mem
  env:=λt u e=>by
   simp only [lk] at e;cases E:Q2 t 0 with
   | true=>
    simp_all
   | false=>simp_all
  vars:=d.vars
  bufs:=d.bufs
  inj:=d.inj
  dom:=d.dom
  glob:=d.glob
  old:=d.old
  owns:=d.owns }⟩
def Imp (pk:PKs) (s s':AS):Prop:=∀ cx a w,cx.pk=pk->SRel cx s a w->SRel cx s' a w
theorem Imp.trans {s'':AS} (h:Imp pk s s') (k:Imp pk s' s''):Imp pk s s'':=λcx a w y A=>k cx a w y (h cx a w y A)
theorem Imp.lep (h:Lep cx s' s):Imp cx.pk s s':=λd a w y v=>v.less h.1 (by rw [y];exact h.2)
theorem Imp.pure {t:Nat} (K:s.env t=some v) (I:s.rd v=some (p,bs)):Imp pk s (s.put t (.p p)):=by
 intro cx a w _ L;obtain ⟨M,T,tip,J,F,h⟩:=L;refine ⟨M,T,tip,J,F,{ h with env:=λu y e=>?_ }⟩;simp only [AS.put] at e;cases E:Q2 u t with
 | true=>
  have:=Q0 E;subst this;simp at e;subst e;obtain ⟨x,G,N⟩:=h.env u v K;exact ⟨x,G,.p _ _ (zGd N I)⟩
 | false=>
  simp [E] at e;exact h.env u y e
theorem Imp.promote {t:Nat} (Z:s.env t=some (.nl c)) (hb:s.blk k=none) (N:0<c.width):Imp pk s ((s.setb k (.buf c)).put t (.buf k 0)):=by
 intro cx a w _ hs;obtain ⟨M,κ,tip,Y,L,I⟩:=hs;obtain ⟨x,U,h2⟩:=I.env t _ Z;cases h2 with
 | nl _ d=>
 have A:=I.bufNil hb d N;refine ⟨M,κ,_,Y,L,{ A with env:=λu y e=>?_ }⟩;simp only [AS.put] at e;cases h:Q2 u t with
 | true=>
  have:=Q0 h;subst this;simp at e;subst e;refine ⟨_,U,.buf k 0 c _ (zV _ _ _) ?_ (Qs _) ?_ (λ_=>(xA _ _ _).symm)⟩
  ·unfold W7 at d;split at d<;>first | rfl | cases d
  ·unfold W7 at d;split at d
   ·exact .bytes0
   ·exact .sl0 _
   simp_all
 | false=>
  simp [h] at e;exact A.env u y e
theorem Imp.ren (A:Nat->Nat) (L:∀ j∈blks.map (·.1),∀ j'∈blks.map (·.1),A j=A j'->j=j') (bx:∀ e∈pk,A e.1=e.1/\e.1∈blks.map (·.1)) (cb:∀ j∈blks.map (·.1),BIG<=j->BIG<=A j) :
  Imp pk (mkS env blks) (mkS (env.map λe=>(e.1,e.2.ren A)) (blks.map λe=>(A e.1,e.2.ren A))):=by
 intro cx a w bn hs;obtain ⟨M,κ,tip,h0,hp,J⟩:=hs;generalize Y:(λi=>match fk A (blks.map (·.1)) i with | some j=>κ j | none=>none)=W;generalize cf:(λi=>match fk A (blks.map (·.1)) i with | some j=>tip j | none=>undef)=S;have G:∀ j∈blks.map (·.1),W (A j)=κ j:=λj Z=>by rw [<- Y];simp only [zCx L Z]
 have bd:∀ j∈blks.map (·.1),S (A j)=tip j:=λj Z=>by rw [<- cf];simp only [zCx L Z]
 have K:∀ i,fk A (blks.map (·.1)) i=none->W i=none:=λi h=>by rw [<- Y];simp only [h]
 have D:∀ j b,lk blks j=some b->j∈blks.map (·.1):=λj b h=>Q4.2 ⟨(j,b),tG blks j b h,rfl⟩;have bc:∀ j b,lk blks j=some b->lk (blks.map λe=>(A e.1,e.2.ren A)) (A j)=some (b.ren A):=λj b h=>
  zQq A blks (λe he e' ce h=>L _ (Q4.2 ⟨e,he,rfl⟩) _ (Q4.2 ⟨e',ce,rfl⟩) h) j b h
 have T:∀ i b,lk (blks.map λe=>(A e.1,e.2.ren A)) i=some b->∃ j b',i=A j/\lk blks j=some b'/\b=b'.ren A:=λi b h=>by
  obtain ⟨k,U,F⟩:=zD8 A blks i b h;subst F;cases hl:lk blks k with
  | none=>
   exfalso;obtain ⟨e,he,rfl⟩:=Q4.1 U;have:∀ (l:LB),e∈l->lk l e.1≠none:=by
    intro l;induction l with
    | nil=>intro h;simp at h
    | cons x l ih=>
     intro h;obtain ⟨xk,xb⟩:=x;simp only [lk];cases V:Q2 e.1 xk with
     | true=>simp
     | false=>
      simp only [cond_false];rcases Qh.1 h with h | h
      ·subst h;simp at V
      ·exact ih h
   exact this blks he hl
  | some b'=>
   have:=bc k b' hl;rw [h] at this;exact ⟨k,b',rfl,hl,by simpa using this⟩
 have N:∀ {v:AV} {x:Value},RepA M κ tip (mkS env blks).blk v x->RepA M W S (mkS (env.map λe=>(e.1,e.2.ren A)) (blks.map λe=>(A e.1,e.2.ren A))).blk (v.ren A) x:=λh=>
  h.ren (λk b hk=>by
   have:k∈blks.map (·.1):=by
    cases V:lk blks k with
    | none=>rw [J.dom k V] at hk;cases hk
    | some b'=>exact D k b' V
   rw [G k this];exact hk) (λk b V=>⟨bc k b V,bd k (D k b V)⟩)
 have cd:∀ (l:LV) (t:Nat) (v:AV),lk (l.map λe=>(e.1,e.2.ren A)) t=some v->∃ u,lk l t=some u/\v=u.ren A:=by
  intro l;induction l with
  | nil=>intro t v h;simp [lk] at h
  | cons x l ih=>
   intro t v h;obtain ⟨xk,xv⟩:=x;simp only [Qf,lk] at h ⊢;cases V:Q2 t xk with
   | true=>simp [V] at h;exact ⟨xv,by simp,h.symm⟩
   | false=>simp [V] at h;simpa using ih t v (by simpa using h)
 refine ⟨M,W,S,h0,λk hk=>?_,{
  defers:=J.defers
  size:=J.size
  fr:=J.fr
  mem:=J.mem
  env:=λt v h=>by
   obtain ⟨u,U,rfl⟩:=cd env t v h;obtain ⟨x,F,E⟩:=J.env t u U;exact ⟨x,F,N E⟩
  vars:=λi l h=>by
   obtain ⟨j,b',rfl,F,E⟩:=T i _ h;cases b' with
   | buf c=>simp [ABlk.ren] at E
   | own wd l0=>simp [ABlk.ren] at E
   | var l0=>
    simp [ABlk.ren] at E;subst E;obtain ⟨b,be,e,fz,q1,q2,q3,q4,q5,q6,q7⟩:=J.vars j l0 F;obtain ⟨r1,r2⟩:=pG A l0;refine ⟨b,be,e,fz,by rw [G j (D j _ F)];exact q1,q2,q3,by omega,λjj q hq=>?_,q6,q7⟩;rw [r2] at hq;obtain ⟨q',E,h4⟩:=Q3.1 hq;subst h4;exact N (q5 jj q' E)
  bufs:=λi c h=>by
   obtain ⟨j,b',rfl,F,E⟩:=T i _ h;cases b' with
   | var l=>simp [ABlk.ren] at E
   | own wd l=>simp [ABlk.ren] at E
   | buf c0=>
    simp [ABlk.ren] at E;subst E;rw [G j (D j _ F),bd j (D j _ F)];exact J.bufs j c F
  inj:=λi i' b U F=>by
   cases hf:fk A (blks.map (·.1)) i with
   | none=>rw [K i hf] at U;cases U
   | some j=>
    obtain ⟨Z,rfl⟩:=qG hf;cases bj:fk A (blks.map (·.1)) i' with
    | none=>rw [K i' bj] at F;cases F
    | some j'=>
     obtain ⟨hj',rfl⟩:=qG bj;rw [G j Z] at U;rw [G j' hj'] at F;rw [J.inj j j' b U F]
  dom:=λi h=>by
   cases hf:fk A (blks.map (·.1)) i with
   | none=>exact K i hf
   | some j=>
    obtain ⟨Z,rfl⟩:=qG hf;cases hl:lk blks j with
    | none=>rw [G j Z];exact J.dom j hl
    | some b=>
     have:=bc j b hl;have h':lk (blks.map λe=>(A e.1,e.2.ren A)) (A j)=none:=h;rw [this] at h';cases h'
  glob:=J.glob
  old:=J.old
  owns:=λi wd l h=>by
   obtain ⟨j,b',rfl,F,E⟩:=T i _ h;cases b' with
   | var l=>simp [ABlk.ren] at E
   | buf l=>simp [ABlk.ren] at E
   | own wd0 l0=>
    simp only [ABlk.ren,ABlk.own.injEq] at E;obtain ⟨rfl,rfl⟩:=E;obtain ⟨r1,r2⟩:=pG A l0;rw [G j (D j _ F),bd j (D j _ F)];rcases J.owns j wd l0 F with ⟨g1,g2,rfl⟩ | ⟨g1,g2⟩
    ·exact .inl ⟨g1,g2,rfl⟩
    refine .inr ⟨g1,?_⟩;rcases g2 with ⟨y1,y2,rfl⟩ | ⟨b,n',cap,be,e,fz,z1,z2,z3,z4,z5,z6,z7,z8,z9,z10,z11⟩
    ·exact .inl ⟨y1,y2,rfl⟩
    ·refine .inr ⟨b,n',cap,be,e,fz,z1,z2,z3.imp id (λh=>⟨h.1,cb j (D j _ F) h.2⟩),z4,z5,by omega,z7,z8,z9,λjj q hq=>?_,z11⟩;rw [r2] at hq;obtain ⟨q',E,h4⟩:=Q3.1 hq;subst h4;exact N (z10 jj q' E) }⟩
 rw [bn] at hk;obtain ⟨U,F⟩:=bx k hk;have:=hp k (by rw [bn];exact hk);refine ⟨?_,this.2⟩;have E:=G k.1 F;rw [U] at E;rw [E];exact this.1
section
variable {rs:AS}
theorem tZ (d:fn.results=#[]) (h:Imp cx.pk { env:=lk [(0,.tu [])],blk:=s.blk } rs):vY P fn cx s rs:=by
 intro a w A;refine ⟨.tuple #[],by simp [results,d],?_⟩;exact h _ _ _ rfl (A.result λM F tip J=>.tu [] _ rfl (by simp))
def zXb (tmps:Array Value):ResultVar->Sem Value
 | .tmp t=>pure (tmps.getD t undef)
 | .cell a t=>do loadVar t (<- asAddr (tmps.getD a undef))
theorem aU (A:Func) (d:Array Value):results A d=(do let v <- A.results.mapM (zXb d);pure (if h:v.size=1 then v[0] else .tuple v)):=rfl
inductive RV (te:TE) (s:AS):ResultVar->AV->Prop where
 | tmp (t:Nat) (v:AV):s.env t=some v->RV te s (.tmp t) v
 | cell (t k off:Nat) (ty:TypeId) (l:List AV) (i:TI) (v:AV):s.env t=some (.ptr k off)->s.blk k=some (.var l)->te ty=some i->i.plain=true->l[off]? = some v->RV te s (.cell t ty) v
 | cellN (t k off:Nat) (ty:TypeId) (l:List AV) (i:TI):s.env t=some (.ptr k off)->s.blk k=some (.var l)->te ty=some i->i.isAgg=true->off+i.w<=l.length->RV te s (.cell t ty) (.ag ((l.drop off).take i.w))
theorem RV.run (J:yV P te) (h:RV te s rv v) (I:Inv cx M κ tip s a w) :
  ∃ x,(zXb a.tmps rv).run P w=.ok x w/\RepA M κ tip s.blk v x:=by
 cases h with
 | tmp t v L=>
  obtain ⟨x,G,S⟩:=I.env t v L;exact ⟨x,by simp [zXb,Q1,G],S⟩
 | cell t k off ty l i v L hb ht Z hv=>
  obtain ⟨x,G,S⟩:=I.env t _ L;obtain ⟨b,d,e,fz,q1,q2,q3,q4,q5,q6⟩:=I.vars k l hb;cases S with
  | ptr _ _ b' l' F be=>
   rw [q1] at F;cases F;have N:off<l.length:=(List.getElem?_eq_some_iff.1 hv).1;have A:off<d.size:=by omega
   have E:w.cell? ⟨b,off,none⟩=some d[off]:=by simp [Qm,q2,A]
   refine ⟨d[off],?_,?_⟩
   ·simp [zXb,Q1,G,asAddr,fB J ht Z E]
   ·have:=q5 off v hv;simpa [A] using this
 | cellN t k off ty l i L hb ht Z hv=>
  obtain ⟨x,G,S⟩:=I.env t _ L;obtain ⟨b,d,e,fz,q1,q2,q3,q4,q5,q6⟩:=I.vars k l hb;cases S with
  | ptr _ _ b' l' F be=>
   rw [q1] at F;cases F;have U:((d.toList.drop off).take i.w).length=i.w:=by simp;omega
   have D:=aR J ht Z (w:=w) (a:=⟨b,off,none⟩) ((d.toList.drop off).take i.w) U (by
    intro j u W;rw [List.getElem?_take,List.getElem?_drop] at W;split at W
    ·rw [add_off];simp [Qm,q2];simpa using W
    ·cases W)
   refine ⟨.agg ((d.toList.drop off).take i.w).toArray,?_,?_⟩
   ·simp [zXb,Q1,G,asAddr,D]
   ·refine .ag _ _ (by simp;omega) (λj q Y=>?_);rw [List.getElem?_take,List.getElem?_drop] at Y;split at Y
    ·rename_i hj;have:=q5 (off+j) q Y;have N:off+j<d.size:=by omega
     simpa [hj,N,List.getElem?_take,List.getElem?_drop] using this
    ·cases Y
theorem tK (v:yV P te) (y:fn.results=#[rv]) (I:RV te s rv av) (h:Imp cx.pk { env:=lk [(0,av)],blk:=s.blk } rs):vY P fn cx s rs:=by
 intro a w F;have D:=F;obtain ⟨M,N,tip,U,W,A⟩:=D;obtain ⟨x,G,_⟩:=I.run v A;refine ⟨x,?_,h _ _ _ rfl (F.result λM N tip A=>?_)⟩
 ·simp [aU,y,G]
 ·obtain ⟨S,d,L⟩:=I.run v A;simp_all
theorem vG (d:yV P te) (F:fn.results=#[rv1,rv2]) (T:RV te s rv1 a1) (U:RV te s rv2 a2) (h:Imp cx.pk { env:=lk [(0,.tu [a1,a2])],blk:=s.blk } rs):vY P fn cx s rs:=by
 intro a w N;have K:=N;obtain ⟨M,κ,tip,h0,hp,G⟩:=K;obtain ⟨x1,J,_⟩:=T.run d G;obtain ⟨Y,A,_⟩:=U.run d G;refine ⟨.tuple #[x1,Y],?_,h _ _ _ rfl (N.result λM κ tip G=>?_)⟩
 ·simp [aU,F,J,A]
 ·obtain ⟨y1,D,r1⟩:=T.run d G;obtain ⟨y2,v,W⟩:=U.run d G;rw [J] at D;cases D;refine .tu _ _ rfl (λj q y=>?_)
  match j with
  | 0=>simp_all
  | 1=>simp_all
  | j+2=>simp at y
theorem wW (d:yV P te) {rv3:ResultVar} {a3:AV} (K:fn.results=#[rv1,rv2,rv3]) (Y:RV te s rv1 a1) (W:RV te s rv2 a2) (Z:RV te s rv3 a3) (h:Imp cx.pk { env:=lk [(0,.tu [a1,a2,a3])],blk:=s.blk } rs):vY P fn cx s rs:=by
 intro a w hs;have S:=hs;obtain ⟨M,κ,tip,h0,hp,y⟩:=S;obtain ⟨x1,N,_⟩:=Y.run d y;obtain ⟨x2,L,_⟩:=W.run d y;obtain ⟨x3,J,_⟩:=Z.run d y;refine ⟨.tuple #[x1,x2,x3],?_,h _ _ _ rfl (hs.result λM κ tip y=>?_)⟩
 ·simp [aU,K,N,L,J]
 ·obtain ⟨y1,F,r1⟩:=Y.run d y;obtain ⟨y2,A,r2⟩:=W.run d y;obtain ⟨y3,E,r3⟩:=Z.run d y;rw [N] at F;rw [L] at A;rw [J] at E;cases F;cases A;cases E;refine .tu _ _ rfl (λj q v=>?_)
  match j with
  | 0=>simp_all
  | 1=>simp_all
  | 2=>simp at v;subst v;exact r3
  | j+3=>simp at v
end
end Go.Sw
