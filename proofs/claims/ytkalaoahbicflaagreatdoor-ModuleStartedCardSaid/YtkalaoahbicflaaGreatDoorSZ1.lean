/- ModuleStarted holds for all inputs -/
import Derived.Test.YtkalaoahbicflaaGreatDoorSZ0
set_option linter.all false
open Nat renaming eq_of_beq_eq_true -> Q0, beq -> Q2, le_refl -> Q5, mul_le_mul_right -> Q6, zero_add -> Qc, add_mul -> Qi, le_trans -> Qo, zero_le -> Qq, add_zero -> W0, mul_comm -> W2, le_mul_of_pos_right -> W3, div_lt_of_lt_mul -> W7, div_add_mod -> Wf, not_lt_zero -> Wg
open Array renaming getD_eq_getD_getElem? -> Q1, length_toList -> Qj, size_append -> Qu
open Option renaming map_eq_some_iff -> Q3, isSome_iff_exists -> Qa, getD_some -> We
open List renaming mem_map -> Q4, eq_nil_of_length_eq_zero -> Qb, map_cons -> Qd, mem_cons -> Qg, take_append_of_le_length -> Qh, all_eq_true -> Qn, mem_append -> Qp, size_toArray -> Qv, length_cons -> Qz, getElem_mem -> W1, mem_of_getElem? -> W4, range -> W8, drop_succ_cons -> Wb, getElem_of_mem -> Wc, cons_append -> Wd
open Go.Builtin renaming zeroCells -> Q7, append_ -> Q9, firstCells -> Qk, nextslicecap -> W9, lenOf -> Wa
open Bool renaming eq_false_iff -> Q8
open Go.Sw.PV renaming isSlice -> Qe, len -> Qf, take -> Qx, nilOf -> W5, width -> W6
open Go.World renaming block_lt_of_cell? -> Ql, cell? -> Qm
open Go.Sw.GLe renaming sameO -> Qr, same -> Qy
open Go.Sw.Mic renaming ws -> Qs, upd -> Qw
open Go.Result renaming andThen_ok -> Qt
namespace Go.Sw
open Go
variable {A:LV}{B:NB}{D:List Nat}{E I:ResultVar}{J:List Value}{M M':Mem}{P:Program}{T:Nat->Option Nat}{V:AV}{W:Nat->Option Nat}{a:Act}{args arr:Array Value}{av:AV}{b:Nat}{bb blks bs:LB}{c:PV}{cap:Nat}{cs:List AV}{cx:Ctx}{d:Nat}{dd:TypeDesc}{e:TypeId}{env:LV}{f:FuncId}{fr:List Nat}{fz:Nat×Nat}{g:Nat->Value}{i:TypeInfo}{j j' k:Nat}{ks:List Nat}{l l':List AV}{m:Nat}{ms:List Mic}{n na:Nat}{news:List Value}{o:Oper}{off:Nat}{ops:Array Oper}{p:PV}{pk:PKs}{ps:List PV}{r:List Oper}{rr:PV}{rs s s':AS}{t t' ta:TypeId}{te:TE}{tip:Nat->Value}{tl:List TypeId}{ts:Array TypeId}{ty:TypeId}{v:AV}{vs:LV}{vy:AV}{w w':World}{x:Operand}{xl:List Operand}{xs:Array Operand}{y:Operand}{z:Value}{κ:Nat->Option Nat}
def CR (M:Mem) (κ:Nat->Option Nat) (tip:Nat->Value) (B:NB) (l:List AV) (arr:Array Value):Prop:=
 arr.size=l.length/\∀ (j:Nat) (q:AV),l[j]? = some q->RepA M κ tip B q (arr.getD j undef)
theorem Inv.lt {K:Nat->Option Nat} (A:Inv cx M K tip s a w) (h:K k=some b):b<w.heap.size:=by
 cases D:s.blk k with
 | none=>rw [A.dom k D] at h;cases h
 | some T=>
  cases T with
  | var l=>
   obtain ⟨b',y,e,J,I,N,_⟩:=A.vars k l D;rw [h] at I;cases I;exact (Array.getElem?_eq_some_iff.1 N).1
  | buf c=>
   obtain ⟨_,_,_,F⟩:=A.bufs k c D;rcases F with ⟨_,d⟩ | ⟨b',n,cap,y,e,J,_,d,_,E,_⟩
   ·rw [h] at d;cases d
   ·rw [h] at d;cases d;exact (Array.getElem?_eq_some_iff.1 E).1
  | own wd l=>
   rcases A.owns k wd l D with ⟨_,d,_⟩ | ⟨_,F⟩
   ·rw [h] at d;cases d
   rcases F with ⟨_,d,_⟩ | ⟨b',n,cap,y,e,J,_,d,_,E,_⟩
   ·simp_all
   ·rw [h] at d;cases d;exact (Array.getElem?_eq_some_iff.1 E).1
theorem Inv.mlt {D:Nat->Option Nat} (A:Inv cx M D tip s a w) {o:Nat} (h:w.heap.size<=b):M b o=none:=by
 cases y:M b o with
 | none=>rfl
 | some x=>
  have:=Ql w _ (A.mem b o x y);simp at this;omega
def zBu (κ:Nat->Option Nat) (k:Nat) (b:Option Nat):Nat->Option Nat:=λi=>bif Q2 i k then b else κ i
theorem sL (d:Nat->Option Nat) (k:Nat) (b:Option Nat):zBu d k b k=b:=by simp [zBu]
theorem yP {v:Nat->Option Nat} {i:Nat} {b:Option Nat} (h:i≠k):zBu v k b i=v i:=by
 have:Q2 i k=false:=by rw [Q8];simp_all
 simp [zBu,this]
theorem zW (s:AS) (k:Nat) (b:zN):(s.setb k b).blk k=some b:=by simp [AS.setb]
theorem zS {i:Nat} {b:zN} (h:i≠k):(s.setb k b).blk i=s.blk i:=by
 have:Q2 i k=false:=by rw [Q8];simp_all
 simp [AS.setb,this]
theorem hao (w:World) (o:Obj) (i:Nat) (h:i<w.heap.size):(w.alloc o).heap[i]? = w.heap[i]?:=by
 simp only [World.alloc,Array.getElem?_push,if_neg (Nat.ne_of_lt h)]
theorem zFk (n:Nat):zD3 (0,0) n:=.inl rfl
theorem zAm {y:Nat->Option Nat} (G:y k=none) (D:s.blk k=none):GLe y (zBu y k (some b)) tip tip s.blk (s.setb k (.var l)).blk where
 var:=λi b' l' h F=>by
  by_cases e:i=k
  ·subst e;rw [G] at h;cases h
  ·rw [yP e,zS e];exact ⟨h,l',F⟩
 buf:=λi c h=>by
  by_cases e:i=k
  ·simp_all
  ·exact Qy (by rw [zS e];exact h) rfl
 own:=λi c J h=>by
  by_cases e:i=k
  ·simp_all
  ·exact Qr (by rw [zS e];exact h) (yP e) rfl
theorem Inv.newVar (d:Inv cx M κ tip s a w) (F:s.blk k=none) {J:Array Value} (U:CR M κ tip s.blk l J) (e:TypeId) :
  Inv cx M (zBu κ k (some w.heap.size)) tip (s.setb k (.var l)) a (w.alloc (.cells J e)) where
 defers:=d.defers
 size:=d.size
 fr:=⟨d.fr.os,d.fr.tape,d.fr.output,by have:=d.fr.size;simp;omega,λb A D N=>by
  rw [hao w _ b (by have:=d.fr.size;omega)];exact d.fr.block b A D N⟩
 mem:=λb o x h=>by
  have:=d.mem b o x h;rw [World.cell?_alloc_lt w _ _ (Ql w _ this)];exact this
 env:=λt v h=>let ⟨x,A,D⟩:=d.env t v h;⟨x,A,D.ghost (zAm (d.dom k F) F)⟩
 vars:=λi li h=>by
  by_cases y:i=k
  ·subst y;rw [zW] at h;cases h;exact ⟨w.heap.size,J,e,(0,0),sL _ _ _,heap_alloc_new w _,zFk _,U.1,λj q Y=>(U.2 j q Y).ghost (zAm (d.dom i F) F),λo=>d.mlt (Q5 _),.inl d.fr.size⟩
  ·rw [zS y] at h;obtain ⟨b,E,L,fz,A,D,N,I,K,Z,V⟩:=d.vars i li h;exact ⟨b,E,L,fz,by rw [yP y];exact A,by rw [hao w _ b (d.lt A)];exact D,N,I,λj q Y=>(K j q Y).ghost (zAm (d.dom k F) F),Z,V⟩
 bufs:=λi c h=>by
  by_cases y:i=k
  ·subst y;rw [zW] at h;cases h
  ·rw [zS y] at h;obtain ⟨A,D,N,I⟩:=d.bufs i c h;refine ⟨A,D,N,?_⟩;rcases I with ⟨I,K⟩ | ⟨b,n,cap,E,L,fz,I,K,Z,V,h8⟩
   ·exact .inl ⟨I,by rw [yP y];exact K⟩
   ·exact .inr ⟨b,n,cap,E,L,fz,I,by rw [yP y];exact K,Z,by rw [hao w _ b (d.lt K)];exact V,h8⟩
 inj:=λi j b A D=>by
  by_cases L:i=k
  ·subst L;rw [sL] at A;cases A;by_cases S:j=i
   ·exact S.symm
   ·rw [yP S] at D;have:=d.lt D;omega
  ·rw [yP L] at A;by_cases S:j=k
   ·subst S;rw [sL] at D;cases D;have:=d.lt A;omega
   ·rw [yP S] at D;exact d.inj i j b A D
 dom:=λi h=>by
  by_cases y:i=k
  ·subst y;rw [zW] at h;cases h
  ·rw [zS y] at h;rw [yP y];exact d.dom i h
 glob:=d.glob
 old:=d.old
 owns:=d.owns.keep λi wd li h=>by
  have y:i≠k:=by rintro rfl;rw [zW] at h;cases h
  rw [zS y] at h;exact ⟨h,yP y,rfl,λb' bc=>⟨hao w _ b' (d.lt bc),λ_ h=>h⟩,λj q x _ U=>U.ghost (zAm (d.dom k F) F)⟩
section
theorem Run.st {m:Mic} (D:o.guard=none) (h:Snd P o m) (A:m.holds s) (k:Run P ops r (m.upd s) s' ms):Run P ops (o :: r) s s' (m :: ms):=.cons o r m s s' ms (zG9 D h) A k
def SA (P:Program) (o:Oper) (s:AS) (m:Mic):Prop:=Snd P o m/\m.holds s
theorem Run.ss {m:Mic} (y:o.guard=none) (h:SA P o s m) (k:Run P ops r (m.upd s) s' ms):Run P ops (o :: r) s s' (m :: ms):=Run.st y h.1 h.2 k
theorem eC {b:zN}:Qw ⟨A,bs,[k],some (d,some v),[(k,b)]⟩ s=(s.setb k b).put d v:=by
 simp only [Qw,AS.setb,AS.put,lk];congr 1;funext t;cases Q2 t k<;>simp
theorem zDp {y:Nat->Option Nat} (D:Inv cx M y tip s a w) (F:∀ k∈cx.pk,y k.1=some k.2/\k.2<cx.w0.heap.size) (E:s.blk k=none) (b:Option Nat):∀ h∈cx.pk,zBu y k b h.1=some h.2/\h.2<cx.w0.heap.size:=by
 intro h v;have:=F h v;rw [yP]
 ·omega
 ·intro e;rw [e,D.dom k E] at this;simp_all
theorem zHd {rs:LV} (hd:o.dst=some d)
  (h:∀ (cx:Ctx) (M:Mem) (κ:Nat->Option Nat) (tip:Nat->Value) (s:AS) (a:Act) (w:World),Inv cx M κ tip s a w->wR s rs->(∀ e∈bs,s.blk e.1=some e.2) ->
   ∃ arr e,(execOp a.eval o).run P w=.ok (.value (.pointer (some ⟨w.heap.size,0,none⟩))) (w.alloc (.cells arr e))/\CR M κ tip s.blk l arr) :
  Snd P o ⟨rs,bs,[d],some (d,some (.ptr d 0)),[(d,.var l)]⟩:=by
 intro cx s a w K Q hm hs hw hk;obtain ⟨M,κ,tip,h0,hp,hi⟩:=hs;obtain ⟨arr,e,hx,hr⟩:=h cx M κ tip s a w hi hm.1 hm.2.1;have hb:=hm.2.2 d (by simp);unfold Oper.wp;rw [hx];show K (a.put o.dst _) _;rw [hd];refine hk _ _ ?_;rw [eC];exact ⟨M,zBu κ d (some w.heap.size),tip,h0,zDp hi hp hb _,(hi.newVar hb hr e).put (hw d (by simp [Qs])) (.ptr d 0 _ l (sL _ _ _) (zW _ _ _))⟩
theorem zG2 (hok:yO P te) {i:TI} (h:te t=some i) (w:World):∃ z,(zeroValue t).run P w=.ok z w/\z.cells.size=i.z.length/\CR M κ tip B (i.z.map zA) z.cells:=by
 obtain ⟨info,z,h1,h2,h3,h4,h5⟩:=(hok t i h).info;have hzok:=(hok t i h).zok;have hsz:z.cells.size=i.z.length:=by rw [<- Qj,h5];simp
 refine ⟨z,by simp [zeroValue,typeInfo,h1,h4],hsz,by simp [hsz],λj q hq=>?_⟩;rw [List.getElem?_map] at hq;obtain ⟨c,h6,h7⟩:=Q3.1 hq;subst h7;have hlt:j<i.z.length:=(List.getElem?_eq_some_iff.1 h6).1;have hlt':j<z.cells.size:=by omega
 have hv:z.cells.toList[j]? = some (zv c):=by rw [h5,List.getElem?_map,h6];rfl
 have hv':z.cells[j]? = some (zv c):=by simpa using hv
 have:z.cells.getD j undef=zv c:=by simp [Q1,hv']
 rw [this];exact yI4 (hzok c (W4 h6))
theorem zXl {i:TI} (hok:yO P te) (hd:o.dst=some d) (ho:o.op=.alloc t) (ht:te t=some i) (hb:s.blk d=none):SA P o s ⟨[],[],[d],some (d,some (.ptr d 0)),[(d,.var (i.z.map zA))]⟩:=by
 refine ⟨zHd hd ?_,by intro e he;simp at he,by intro e he;simp at he,by intro k hk;simp at hk;subst hk;exact hb⟩;intro cx M κ tip s a w hi _ _;obtain ⟨z,h1,h2,h3⟩:=zG2 hok ht (M:=M) (κ:=κ) (tip:=tip) (B:=s.blk) w;exact ⟨z.cells,t,by simp [execOp,ho,Instr.alloc,h1,newVar,newRow],h3⟩
theorem yJh (U:o.dst=some d) (J:o.op=.box t x) (D:s.get te t x=some v) (V:s.blk d=none):SA P o s ⟨opS x v,[],[d],some (d,some (.ptr d 0)),[(d,.var v.cells)]⟩:=by
 refine ⟨zHd U ?_,zP D,by simp,by simp_all⟩;intro cx M W tip s' a w I L _;have G:=bG (yB I (yI D s' L));exact ⟨(a.eval x).cells,t,by simp [execOp,J,Instr.box,newVar,newRow],G⟩
def ovr:List AV->List AV->List AV
 | _ :: l,c :: cs=>c :: ovr l cs
 | l,[]=>l
 | [],cs=>cs
def uO:List AV->Nat->List AV->List AV
 | x :: l,n+1,cs=>x :: uO l n cs
 | l,_,cs=>ovr l cs
theorem zZw:∀ (l cs:List AV),cs.length<=l.length->ovr l cs=cs++l.drop cs.length
 | _ :: l,c :: cs,h=>by simp only [ovr,Wd,Qz,Wb,zZw l cs (by simp_all)]
 | l,[],_=>by cases l<;>simp [ovr]
 | [],_ :: _,h=>by simp_all
theorem jQ:∀ {l cs:List AV} {off:Nat},off+cs.length<=l.length->uO l off cs=l.take off++cs++l.drop (off+cs.length)
 | x :: l,cs,n+1,h=>by
  have:=jQ (l:=l) (cs:=cs) (off:=n) (by simp at h;omega);rw [show n+1+cs.length=(n+cs.length)+1 by omega];simp only [uO,this,List.take_succ_cons,Wb,Wd]
 | x :: l,cs,0,h=>by simp only [uO,Qc];exact zZw _ _ (by omega)
 | [],cs,off,h=>by
  have:cs=[]:=Qb (by simp_all);subst this;simp [uO,ovr]
theorem zCn (h:off+cs.length<=l.length):(uO l off cs).length=l.length:=by rw [jQ h];simp;omega
theorem lL (h:off+cs.length<=l.length) (j:Nat):(uO l off cs)[j]? = if off<=j/\j<off+cs.length then cs[j - off]? else l[j]?:=by
 rw [jQ h];have d:(l.take off).length=off:=by simp;omega
 by_cases y:j<off
 ·rw [List.append_assoc,List.getElem?_append_left (by omega),List.getElem?_take,if_pos y,if_neg (by omega)]
 ·by_cases A:j<off+cs.length
  ·rw [List.getElem?_append_left (by simp;omega),List.getElem?_append_right (by omega),d,if_pos (by omega)]
  ·rw [List.getElem?_append_right (by simp;omega),List.getElem?_drop,if_neg (by omega)];congr 1;simp_all
theorem rK (b:Nat):∀ (I:List Value) (o:Nat) (w:World) (d:Array Value) (e:TypeId) (F:Nat×Nat),w.heap[b]? = some (.cells d e F)->o+I.length<=d.size ->
  ∃ y,(w.setCells b o I).heap[b]? = some (.cells y e F)/\y.size=d.size/\∀ j,y[j]? = if o<=j/\j<o+I.length then I[j - o]? else d[j]?
 | [],o,w,d,e,F,h,_=>⟨d,h,rfl,λj=>by rw [if_neg (by simp)]⟩
 | v :: r,o,w,d,e,F,h,V=>by
  simp only [Qz] at V;have N:(w.setCell ⟨b,o,none⟩ v).heap[b]? = some (.cells (d.setIfInBounds o v) e F):=by
   simp [World.setCell,Array.getElem?_modify,h]
  obtain ⟨y,U,S,T⟩:=rK b r (o+1) _ _ e F N (by simp;omega);refine ⟨y,U,by simpa using S,λj=>?_⟩;rw [T j];by_cases K:o+1<=j/\j<o+1+r.length
  ·rw [if_pos K,if_pos (by simp;omega)];have:j - o=(j - (o+1))+1:=by omega
   rw [this];simp
  ·rw [if_neg K];by_cases J:j=o
   ·subst J;rw [if_pos (by simp)];have:j<d.size:=by omega
    simp [this]
   ·rw [if_neg (by simp;omega),Array.getElem?_setIfInBounds_ne (by omega)]
theorem xP (b:Nat):∀ (A:List Value) (o:Nat) (w:World) (k:Nat),k≠b->(w.setCells b o A).heap[k]? = w.heap[k]?
 | [],_,_,_,_=>rfl
 | v :: r,o,w,k,h=>by rw [World.setCells,xP b r _ _ k h,heap_setCell_other w _ k v h]
theorem kO (b:Nat):∀ (y:List Value) (o:Nat) (w:World),(w.setCells b o y).heap.size=w.heap.size
 | [],_,_=>rfl
 | v :: r,o,w=>by rw [World.setCells,kO b r];simp
theorem kJ (b:Nat):∀ (y:List Value) (o:Nat) (w:World),(w.setCells b o y).os=w.os/\(w.setCells b o y).tape=w.tape/\(w.setCells b o y).output=w.output
 | [],_,_=>⟨rfl,rfl,rfl⟩
 | v :: r,o,w=>by exact kJ b r _ _
theorem zP0 {A:Nat->Option Nat} (D:s.blk k=some (.var l)):GLe A A tip tip s.blk (s.setb k (.var l')).blk where
 var:=λi b' v h G=>by
  by_cases e:i=k
  ·subst e;exact ⟨h,l',zW _ _ _⟩
  ·exact ⟨h,v,by rw [zS e];exact G⟩
 buf:=λi c h=>by
  by_cases e:i=k
  ·simp_all
  ·exact Qy (by rw [zS e];exact h) rfl
 own:=λi c v h=>by
  by_cases e:i=k
  ·simp_all
  ·exact Qr (by rw [zS e];exact h) rfl rfl
theorem Inv.setVar (d:Inv cx M T tip s a w) (hb:s.blk k=some (.var l)) (W:T k=some b) 
  (hl:off+cs.length<=l.length) (hv:J.length=cs.length) (hr:∀ (j:Nat) (q:AV),cs[j]? = some q->RepA M T tip s.blk q ((J[j]?).getD undef)) :
  Inv cx M T tip (s.setb k (.var (uO l off cs))) a (w.setCells b off J):=by
 obtain ⟨b',bm,e,fz,h1,h2,h3,h4,h5,h6,h7⟩:=d.vars k l hb;rw [W] at h1;cases h1;obtain ⟨Y,g1,g2,g3⟩:=rK b J off w bm e fz h2 (by omega);have y:=kJ b J off w;have D:GLe T T tip tip s.blk (s.setb k (.var (uO l off cs))).blk:=zP0 hb;exact {
  defers:=d.defers
  size:=d.size
  fr:=⟨y.1.trans d.fr.os,y.2.1.trans d.fr.tape,y.2.2.trans d.fr.output,by rw [kO];exact d.fr.size,λi bl V bi=>by
   rw [xP b J off w i (by rintro rfl;exact h7.elim (λh7=>by omega) V)];exact d.fr.block i bl V bi⟩
  mem:=λi o x h=>by
   have I:i≠b:=by rintro rfl;rw [h6] at h;cases h
   have:=d.mem i o x h;rw [World.cell?_setCells_out b J off w _ (λe=>(I e).elim)];exact this
  env:=λt v h=>let ⟨x,h1,h2⟩:=d.env t v h;⟨x,h1,h2.ghost D⟩
  vars:=λi li h=>by
   by_cases A:i=k
   ·subst A;rw [zW] at h;cases h;refine ⟨b,Y,e,fz,W,g1,by rw [g2];exact h3,by rw [g2,zCn hl];exact h4,λj q L=>?_,h6,h7⟩;rw [lL hl] at L;rw [Q1,g3 j];by_cases hj:off<=j/\j<off+cs.length
    ·rw [if_pos hj] at L;rw [if_pos (by omega)];exact (hr _ q L).ghost D
    ·rw [if_neg hj] at L;rw [if_neg (by omega)];have:=(h5 j q L).ghost D;rw [Q1] at this;exact this
   ·rw [zS A] at h;obtain ⟨N,F,e2,S,k1,k2,k3,U,k5,k6,k7⟩:=d.vars i li h;have I:N≠b:=λe=>A (d.inj i k b (e▸k1) W);exact ⟨N,F,e2,S,k1,by rw [xP b J off w N I];exact k2,k3,U,λj q L=>(k5 j q L).ghost D,k6,k7⟩
  bufs:=λi c h=>by
   by_cases A:i=k
   ·subst A;rw [zW] at h;cases h
   ·rw [zS A] at h;obtain ⟨k1,k2,k3,U⟩:=d.bufs i c h;refine ⟨k1,k2,k3,?_⟩;rcases U with U | ⟨N,n,cap,F,e2,S,q1,q2,q3,q4,q5⟩
    ·exact .inl U
    ·have I:N≠b:=λe=>A (d.inj i k b (e▸q2) W);exact .inr ⟨N,n,cap,F,e2,S,q1,q2,q3,by rw [xP b J off w N I];exact q4,q5⟩
  inj:=d.inj
  dom:=λi h=>by
   by_cases A:i=k
   ·subst A;rw [zW] at h;cases h
   ·rw [zS A] at h;exact d.dom i h
  glob:=d.glob
  old:=d.old
  owns:=d.owns.keep λi wd li h=>by
   have A:i≠k:=by rintro rfl;rw [zW] at h;cases h
   rw [zS A] at h;exact ⟨h,rfl,rfl,λb' bn=>⟨xP b J off w b' (λe=>A (d.inj i k b (e▸bn) W)),λ_ h=>h⟩,λj q x _ hr=>hr.ghost D⟩}
end
def PV.one:PV->Bool
 | .agg _ | .tup _=>false
 | _=>true
def AV.one:AV->Bool
 | .p q=>q.one
 | .ag _ | .tu _=>false
 | _=>true
theorem zEd {x:Value} (h:RepA M κ tip B v x) (ho:v.one=true):x.oneCell'=true:=by
 cases h with
 | p p x hr=>cases hr<;>first | rfl | (simp [AV.one,PV.one] at ho)
 | nl c h1=>rfl
 | ptr k o b l h1 h2=>rfl
 | ref k o n b l h1 h2=>rfl
 | buf k n c x h1 hs h2 h3 h4=>
  have hs':(c.take n).isSlice=true:=by cases c<;>simp_all [Qx,Qe]
  rcases nD h3 hs' with ⟨hx,_⟩ | ⟨b,o,m,cc,hx,_⟩ | ⟨aa,hx,_⟩<;>rw [hx]<;>rfl
 | ag l vs h1 h2=>simp [AV.one] at ho
 | tu l vs h1 h2=>simp [AV.one] at ho
 | fnv f l vs h1 h2=>unfold mkF;cases Nat.blt f 1000000<;>rfl
 | own k n w l x h1 h2 h3 hs=>obtain ⟨a,m,c,rfl⟩:=hs;rfl
 | optr k n o w l x h1 h2 h3 hs=>obtain ⟨a,rfl⟩:=hs;rfl
 | osl k n o m w l x h1 h2 h3 hs=>obtain ⟨a,m',c,rfl⟩:=hs;rfl
theorem sR {d:Array Value} {A:Nat×Nat} (h:w.heap[b]? = some (.cells d e A)) (D:zD3 A d.size) {o:Nat} (J:o<d.size):w.frozen? ⟨b,o,none⟩=false:=by
 simp only [World.frozen?,h];unfold zD3 at D;simp;omega
section
theorem zCx {h:LV} {b:zN}:Qw ⟨h,bs,[],none,[(k,b)]⟩ s=s.setb k b:=by
 simp only [Qw,lk];congr 1;funext t;cases Q2 t k<;>simp
theorem sa_store {i:TI} {V:Operand} (bh:yO P te) (hd:o.dst=none) (ho:o.op=.store t V x) (ht:te t=some i) (ha:s.get te ta V=some (.ptr k off)) (hx:s.get te t x=some v) (hb:s.blk k=some (.var l))
  (hw:v.cells.length=i.w) (hl:off+i.w<=l.length) (I:v.cells.all AV.one=true):SA P o s ⟨opS V (.ptr k off)++opS x v,[(k,.var l)],[],none,[(k,.var (uO l off v.cells))]⟩:=by
 refine ⟨?_,yL (zP ha) (zP hx),by intro e Z;simp at Z;subst Z;exact hb,by intro e Z;simp at Z⟩;intro cx s' a w K Q hm hs br hk;obtain ⟨M,κ,tip,h0,hp,Y⟩:=hs;have L:=hm.2.1 (k,.var l) (by simp);have bf:=yB Y (yI hx s' (zX hm.1));have T:=yB Y (yI ha s' (yG hm.1));obtain ⟨N,F⟩:=bG bf;obtain ⟨b,bi,e,fz,h1,h2,h3,h4,h5,h6,h7⟩:=Y.vars k l L;generalize be:a.eval V=z at T;cases T with
 | ptr k o b' l' G ce=>
  rw [h1] at G;cases G;have D:(a.eval x).cells.toList.length=v.cells.length:=by simp [N]
  have y:=run_storeCells_cells (P:=P) b off (a.eval x).cells.toList 0 w
   (by
     intro j W;rw [D] at W;have:off+j<bi.size:=by omega
     simp [Qm,h2,this])
   (by intro j W;rw [D] at W;simp only [W0];exact sR h2 h3 (by omega))
   (by
    intro u hu;obtain ⟨j,W,bc⟩:=Wc hu;have bx:j<v.cells.length:=by omega
    have U:=F j v.cells[j] (by simp);have bd:j<(a.eval x).cells.size:=by omega
    have:(a.eval x).cells.getD j undef=u:=by simp [bd];simpa using bc
    rw [this] at U;exact zEd U ((Qn.1 I) _ (W1 _)))
  unfold Oper.wp;have:(execOp a.eval o).run P w=.ok .skip (w.setCells b off (a.eval x).cells.toList):=by
   simp only [W0] at y;have bg:¬ ((a.eval x).cells.size≠i.w):=by rw [N,hw];simp
   simp [execOp,ho,be,Instr.storeAt,Instr.sureAddr,storeVar,vK bh ht,bg,y]
  rw [this];show K (a.put o.dst undef) _;rw [hd];refine hk _ _ ?_;rw [zCx];refine ⟨M,κ,tip,h0,hp,Y.setVar L h1 (by omega) D ?_⟩;intro j q U;have:=F j q U;rw [Q1] at this;simpa using this
inductive oD (s:AS) (te:TE):List (Nat×Operand)->LV->LV->Prop where
 | nil:oD s te [] [] []
 | cons (i:Nat) (x:Operand) (t:TypeId) (v:AV) (ps:List (Nat×Operand)) (vs rs:LV):s.get te t x=some v->oD s te ps vs rs->oD s te ((i,x) :: ps) ((i,v) :: vs) (opS x v++rs)
theorem oD.reads {ps:List (Nat×Operand)} {d:LV} (h:oD s te ps A d):wR s d:=by
 induction h with
 | nil=>intro e F;simp_all
 | cons i x t v ps A d G _ D=>exact yL (zP G) D
def eI (M:Mem) (κ:Nat->Option Nat) (tip:Nat->Value) (B:NB):List (Nat×Value)->LV->Prop
 | [],[]=>True
 | (i,x) :: xs,(j,v) :: vs=>i=j/\RepA M κ tip B v x/\eI M κ tip B xs vs
 | _,_=>False
theorem oD.rep {ps:List (Nat×Operand)} {rs:LV} (h:oD s te ps vs rs) (hi:Inv cx M κ tip s' a w) :
  wR s' rs->eI M κ tip s'.blk (ps.map λp=>(p.1,a.eval p.2)) vs:=by
 induction h with
 | nil=>intro _;trivial
 | cons i x t v ps vs rs h1 _ ih=>
  intro hr;exact ⟨rfl,yB hi (yI h1 s' (yG hr)),ih (zX hr)⟩
def oC (place:Nat->Option (Nat×Nat)) (cells:List AV):LV->Option (List AV)
 | []=>some cells
 | (i,v) :: rest=>match place i with
  | none=>none
  | some (off,size)=>bif Q2 v.cells.length size&&Nat.ble (off+v.cells.length) cells.length then oC place (uO cells off v.cells) rest else none
theorem zJ4 (off:Nat):∀ (y:List Value) (n:Nat) (d:Array Value),off+n+y.length<=d.size ->
  let r:=(y.zipIdx n).foldl (λcs (c,j)=>cs.setIfInBounds (off+j) c) d
  r.size=d.size/\∀ j,r[j]? = if off+n<=j/\j<off+n+y.length then y[j - (off+n)]? else d[j]?
 | [],n,d,_=>by simp only [List.zipIdx_nil,List.foldl_nil,List.length_nil,W0,true_and];intro j;rw [if_neg (by omega)]
 | v :: y,n,d,h=>by
  simp only [List.zipIdx_cons,List.foldl_cons,Qz] at h ⊢;obtain ⟨G,I⟩:=zJ4 off y (n+1) (d.setIfInBounds (off+n) v) (by simp;omega);refine ⟨by simpa using G,λj=>?_⟩;rw [I j];by_cases F:off+(n+1)<=j/\j<off+(n+1)+y.length
  ·rw [if_pos F,if_pos (by omega)];have:j - (off+n)=(j - (off+(n+1)))+1:=by omega
   rw [this];simp
  ·rw [if_neg F];by_cases E:j=off+n
   ·subst E;rw [if_pos (by omega)];have:off+n<d.size:=by omega
    simp [this]
   ·rw [if_neg (by omega),Array.getElem?_setIfInBounds_ne (by omega)]
theorem zEs {y:Nat->Option (Nat×Nat)}:∀ (V:LV) (xs:List (Nat×Value)) (l l':List AV) (d:Array Value),eI M W tip B xs V->CR M W tip B l d ->
  oC y l V=some l'->∃ A,Instr.fill y d xs=some A/\CR M W tip B l' A
 | [],[],l,l',d,_,T,h=>by simp [oC] at h;subst h;exact ⟨d,rfl,T⟩
 | (i,v) :: V,[],_,_,_,E,_,_=>by simp [eI] at E
 | [],(i,x) :: xs,_,_,_,E,_,_=>by simp [eI] at E
 | (i,v) :: V,(j,x) :: xs,l,l',d,E,T,h=>by
  obtain ⟨rfl,hr,E⟩:=E;simp only [oC] at h;cases I:y j with
  | none=>simp [I] at h
  | some os=>
   obtain ⟨off,size⟩:=os;simp only [I] at h;cases U:(Q2 v.cells.length size&&Nat.ble (off+v.cells.length) l.length) with
   | false=>simp [U] at h
   | true=>
    rw [U] at h;simp only [Bool.and_eq_true] at U;have e1:=Q0 U.1;have Z:=Nat.le_of_ble_eq_true U.2;obtain ⟨c1,c2⟩:=bG hr;have Y:off+x.cells.size<=d.size:=by rw [c1,T.1];exact Z
    have F:=zJ4 off x.cells.toList 0 d (by simpa using Y);have hz:x.cells.zipIdx.foldl (λcs (c,j)=>cs.setIfInBounds (off+j) c) d=(x.cells.toList.zipIdx 0).foldl (λcs (c,j)=>cs.setIfInBounds (off+j) c) d:=by
     rw [<- Array.foldl_toList,Array.toList_zipIdx]
    generalize hG:(x.cells.toList.zipIdx 0).foldl (λcs (c,j)=>cs.setIfInBounds (off+j) c) d=G at F hz;have ba:CR M W tip B (uO l off v.cells) G:=by
     refine ⟨by rw [F.1,zCn Z];exact T.1,λj q S=>?_⟩;rw [lL Z] at S;rw [Q1,F.2 j];by_cases hj:off<=j/\j<off+v.cells.length
     ·simp_all
     ·rw [if_neg hj] at S;rw [if_neg (by simp;omega)];have:=T.2 j q S;rw [Q1] at this;exact this
    obtain ⟨A,f1,f2⟩:=zEs V xs _ l' G E ba h;refine ⟨A,?_,f2⟩;have hg:(x.cells.size≠size||off+x.cells.size > d.size)=false:=by
     have:¬ (d.size<off+x.cells.size):=by omega
     simp [c1,e1];omega
    simp only [Instr.fill,I,hg,hz,f1];simp
def zHr (te:TE) (fs:List (TypeId×Nat)) (i:Nat):Option (Nat×Nat):=match fs[i]? with
 | some (ft,fo)=>match te ft with
  | some fi=>some (fo,fi.w)
  | none=>none
 | none=>none
theorem zIf (v:yO P te) (w:World):∀ (d:List Field),(∀ f∈d,(te f.type).isSome=true) ->
  (d.mapM λf=>(do pure (f.offset,<- sizeOf f.type):Sem (Nat×Nat))).run P w=.ok (d.map λf=>(f.offset,((te f.type).map (·.w)).getD 0)) w
 | [],_=>by simp
 | f :: d,h=>by
  obtain ⟨i,D⟩:=Qa.1 (h f (by simp));have:=zIf v w d (λg J=>h g (by simp [J]));rw [List.mapM_cons];simp only [Sem.run_bind,vK v D,Qt,Sem.run_pure,this,Qd,D,Option.map_some,We]
theorem zWo {ps:Array (Nat×Operand)} {W:List (Nat×Operand)} {rs:LV} {fs:List (TypeId×Nat)} {i:TI} (F:yO P te) (ho:o.op=.build t ps) (V:ps.toList=W) (ht:te t=some i) (Z:i.ty=.struct fs) (bc:fs.all (λf=>(te f.1).isSome)=true)
  (hp:oD s te W vs rs) (U:oC (zHr te fs) (i.z.map zA) vs=some l):VA P o s rs [] (.ag l):=by
 refine ⟨?_,hp.reads,by simp⟩;intro cx M κ tip s' a w hi hr _;have bg:=hp.rep hi hr;obtain ⟨z,h1,h2,h3⟩:=zG2 F ht (M:=M) (κ:=κ) (tip:=tip) (B:=s'.blk) w;obtain ⟨d,hu,G⟩:=zA3 F (t:=t) (fs:=fs) (by simp [ht,Z]);have E:∀ f∈d.toList,(te f.type).isSome=true:=by
  intro f U;have:(f.type,f.offset)∈fs:=by rw [<- G];exact Q4.2 ⟨f,U,rfl⟩
  exact (Qn.1 bc) _ this
 have K:=zIf (P:=P) F w d.toList E;have A:zHr te fs=λj=>((d.toList.map λf=>(f.offset,((te f.type).map (·.w)).getD 0)).toArray)[j]?:=by
  funext j;simp only [zHr,<- G,List.getElem?_map];cases N:d.toList[j]? with
  | none=>
   have:d.size<=j:=by simpa using N
   simp [N]
  | some f=>
   obtain ⟨fi,ba⟩:=Qa.1 (E f (W4 N));simp [N,ba]
 rw [A] at U;obtain ⟨J,f1,f2⟩:=zEs vs _ _ l z.cells bg h3 U;refine ⟨.agg J,?_,.ag _ _ f2.1 f2.2⟩;have bh:(d.mapM λf=>(do pure (f.offset,<- sizeOf f.type):Sem (Nat×Nat))).run P w=.ok (d.toList.map λf=>(f.offset,((te f.type).map (·.w)).getD 0)).toArray w:=by
  rw [Array.mapM_eq_mapM_toList];rw [Sem.run_map,K];rfl
 have v:(ps.map λ(i,x)=>(i,a.eval x)).toList=W.map λp=>(p.1,a.eval p.2):=by simp [<- V]
 simp only [execOp,ho,Instr.build,Sem.run_bind,h1,Qt,run_underlying hu,bh,v,f1];simp
theorem zTk {ps:Array (Nat×Operand)} {K:List (Nat×Operand)} {J U:LV} {i E:TI} (v:yO P te) (ho:o.op=.build t ps) (D:ps.toList=K) (N:te t=some i) (I:i.ty=.arr n e) (he:te e=some E)
  (V:oD s te K J U) (hf:oC (λj=>some (j*E.w,E.w)) (i.z.map zA) J=some l):VA P o s U [] (.ag l):=by
 refine ⟨?_,V.reads,by simp⟩;intro cx M κ tip s' a w hi hr _;have L:=V.rep hi hr;obtain ⟨z,h1,h2,Z⟩:=zG2 v N w;have hu:=zEt v (t:=t) (n:=n) (e:=e) (by simp [N,I]);obtain ⟨y,Y,S⟩:=zEs J _ _ l _ L Z hf;refine ⟨.agg y,?_,.ag _ _ S.1 S.2⟩;have h:(ps.map λ(i,x)=>(i,a.eval x)).toList=K.map λp=>(p.1,a.eval p.2):=by simp_all
 simp only [execOp,ho,Instr.build,Sem.run_bind,h1,Qt,run_underlying hu,vK v he,h,Y];simp
end
def xY (M:Mem) (b lo hi:Nat) (f:Nat->Option Value):Mem:=λb' o=>if b'=b/\lo<=o/\o<hi then f o else M b' o
theorem uM {y A:Nat} {f:Nat->Option Value} (h:∀ o,y<=o->o<A->M b o=none):M.le (xY M b y A f):=by
 intro b' o x d;unfold xY;split
 ·simp_all
 omega
def nS (tip:Nat->Value) (k:Nat) (v:Value):Nat->Value:=λi=>bif Q2 i k then v else tip i
theorem yU (tip:Nat->Value) (k:Nat) (v:Value):nS tip k v k=v:=by simp [nS]
theorem yW {i:Nat} {v:Value} (h:i≠k):nS tip k v i=tip i:=by
 have:Q2 i k=false:=by rw [Q8];simp_all
 simp [nS,this]
structure zLk (w w':World) (arr:Array Value) (e:TypeId) (fz:Nat×Nat):Prop where
 os:w'.os=w.os
 tape:w'.tape=w.tape
 output:w'.output=w.output
 size:w'.heap.size=w.heap.size+1
 old:∀ i,i<w.heap.size->w'.heap[i]? = w.heap[i]?
 new:w'.heap[w.heap.size]? = some (.cells arr e fz)
 free:zD3 fz arr.size
theorem Inv.bufNew (d:Inv cx M W tip s a w) {D:Array Value} (N:zLk w w' D e fz)
  (L:s.blk k=none∨∃ U,s.blk k=some (.buf U)/\U.len<c.len/\∀ n,n<=U.len->c.take n=U.take n) (bi:c.isSlice=true) (bt:0<c.width) (hn:n*c.width<=D.size) (be:cap*c.width<=D.size) (bq:cap<=maxLen)
  (bj:Rep (xY M w.heap.size 0 (n*c.width) (D[·]?)) c (.slice (some ⟨w.heap.size,0,none⟩) n cap)) :
  Inv cx (xY M w.heap.size 0 (n*c.width) (D[·]?)) (zBu W k (some w.heap.size)) (nS tip k (.slice (some ⟨w.heap.size,0,none⟩) n cap)) (s.setb k (.buf c)) a w':=by
 have V:M.le (xY M w.heap.size 0 (n*c.width) (D[·]?)):=uM λo _ _=>d.mlt (Q5 _);have bl:GLe W (zBu W k (some w.heap.size)) tip (nS tip k (.slice (some ⟨w.heap.size,0,none⟩) n cap)) s.blk (s.setb k (.buf c)).blk:={
  var:=λi b l h h'=>by
   have e:i≠k:=by
    rintro rfl;rcases L with L | ⟨U,L,_⟩<;>(rw [L] at h';cases h')
   rw [yP e,zS e];exact ⟨h,l,h'⟩
  buf:=λi c1 h=>by
   by_cases e:i=k
   ·subst e;rcases L with L | ⟨U,L,E,bv⟩
    ·rw [L] at h;cases h
    ·rw [L] at h;cases h;exact ⟨c,zW _ _ _,λ_=>bi,by omega,bv,λe=>by omega⟩
   ·exact Qy (by rw [zS e];exact h) (yW e)
  own:=λi c1 l1 h=>by
   have e:i≠k:=by
    rintro rfl;rcases L with L | ⟨U,L,_⟩<;>(rw [L] at h;cases h)
   exact Qr (by rw [zS e];exact h) (yP e) (yW e) }
 have S:∀ {v:AV} {x:Value},RepA M W tip s.blk v x->RepA (xY M w.heap.size 0 (n*c.width) (D[·]?)) (zBu W k (some w.heap.size)) (nS tip k (.slice (some ⟨w.heap.size,0,none⟩) n cap)) (s.setb k (.buf c)).blk v x:=
  λh=>(h.mono V).ghost bl
 have y:∀ b o,b<w.heap.size->xY M w.heap.size 0 (n*c.width) (D[·]?) b o=M b o:=by
  intro b o hb;unfold xY;rw [if_neg (by omega)]
 exact {
  defers:=d.defers
  size:=d.size
  fr:=⟨N.os.trans d.fr.os,N.tape.trans d.fr.tape,N.output.trans d.fr.output,by have:=d.fr.size;rw [N.size];omega,λb J I h3=>by
   rw [N.old b (by have:=d.fr.size;omega)];exact d.fr.block b J I h3⟩
  mem:=λb o x h=>by
   unfold xY at h;split at h
   ·rename_i hc;obtain ⟨rfl,_,E⟩:=hc;simp only [Qm,N.new];simpa using h
   ·have:=d.mem b o x h;have E:=Ql w _ this;rw [World.cell?_of_block (N.old b E)];exact this
  env:=λt v h=>let ⟨x,J,I⟩:=d.env t v h;⟨x,J,S I⟩
  vars:=λi l h=>by
   have G:i≠k:=by rintro rfl;rw [zW] at h;cases h
   rw [zS G] at h;obtain ⟨b,bf,Y,bp,J,I,h3,h4,h5,h6,h7⟩:=d.vars i l h;have E:=d.lt J;exact ⟨b,bf,Y,bp,by rw [yP G];exact J,by rw [N.old b E];exact I,h3,h4,λj q hq=>S (h5 j q hq),λo=>by rw [y b o E];exact h6 o,h7⟩
  bufs:=λi c1 h=>by
   by_cases G:i=k
   ·subst G;rw [zW] at h;cases h;rw [yU,sL];refine ⟨bj,bi,bt,.inr ⟨w.heap.size,n,cap,D,e,fz,rfl,rfl,d.fr.size,N.new,N.free,be,bq,λj hj=>?_⟩⟩;unfold xY;rw [if_neg (by omega)];exact d.mlt (Q5 _)
   ·rw [zS G] at h;obtain ⟨J,I,h3,h4⟩:=d.bufs i c1 h;rw [yW G,yP G];refine ⟨J.mono V,I,h3,?_⟩;rcases h4 with h4 | ⟨b,n1,bg,ba,Y,bm,q1,q2,q3,q4,q5,q6,q7,q8⟩
    ·exact .inl h4
    ·have E:=d.lt q2;exact .inr ⟨b,n1,bg,ba,Y,bm,q1,q2,q3,by rw [N.old b E];exact q4,q5,q6,q7,λj hj=>by rw [y b j E];exact q8 j hj⟩
  inj:=λi j b J I=>by
   by_cases Y:i=k
   ·subst Y;rw [sL] at J;cases J;by_cases e2:j=i
    ·exact e2.symm
    ·rw [yP e2] at I;have:=d.lt I;omega
   ·rw [yP Y] at J;by_cases e2:j=k
    ·subst e2;rw [sL] at I;cases I;have:=d.lt J;omega
    ·rw [yP e2] at I;exact d.inj i j b J I
  dom:=λi h=>by
   by_cases G:i=k
   ·subst G;rw [zW] at h;cases h
   ·rw [zS G] at h;rw [yP G];exact d.dom i h
  glob:=d.glob.mono V
  old:=⟨λb o hb=>by
   rw [y b o (by have:=d.fr.size;omega)];exact d.old.1 b o hb,d.old.2⟩
  owns:=d.owns.keep λi wd li h=>by
   have G:i≠k:=by rintro rfl;rw [zW] at h;cases h
   rw [zS G] at h;exact ⟨h,yP G,yW G,λb' Z=>⟨N.old b' (d.lt Z),λo h=>by rw [y b' o (d.lt Z)];exact h⟩,λj q x _ hr=>S hr⟩}
theorem Inv.bufNil {J:Nat->Option Nat} (d:Inv cx M J tip s a w) (N:s.blk k=none) (F:c.nilOf=true) (V:0<c.width) :
  Inv cx M J (nS tip k (.slice none 0 0)) (s.setb k (.buf c)) a w:=by
 have E:GLe J J tip (nS tip k (.slice none 0 0)) s.blk (s.setb k (.buf c)).blk:={
  var:=λi b l h S=>by
   have e:i≠k:=by rintro rfl;rw [N] at S;cases S
   rw [zS e];exact ⟨h,l,S⟩
  buf:=λi Y h=>by
   have e:i≠k:=by rintro rfl;rw [N] at h;cases h
   exact Qy (by rw [zS e];exact h) (yW e)
  own:=λi Y l1 h=>by
   have e:i≠k:=by rintro rfl;rw [N] at h;cases h
   exact Qr (by rw [zS e];exact h) rfl (yW e) }
 exact {
  defers:=d.defers
  size:=d.size
  fr:=d.fr
  mem:=d.mem
  env:=λt v h=>let ⟨x,W,Z⟩:=d.env t v h;⟨x,W,Z.ghost E⟩
  vars:=λi l h=>by
   have y:i≠k:=by rintro rfl;rw [zW] at h;cases h
   rw [zS y] at h;obtain ⟨b,I,e1,T,W,Z,h3,h4,h5,h6⟩:=d.vars i l h;exact ⟨b,I,e1,T,W,Z,h3,h4,λj q hq=>(h5 j q hq).ghost E,h6⟩
  bufs:=λi Y h=>by
   by_cases y:i=k
   ·subst y;rw [zW] at h;cases h;rw [yU];refine ⟨?_,?_,V,.inl ⟨rfl,d.dom i N⟩⟩
    ·unfold W5 at F;split at F
     ·exact .bytes0
     ·exact .sl0 _
     ·cases F
    ·unfold W5 at F;split at F<;>first | rfl | cases F
   ·rw [zS y] at h;rw [yW y];exact d.bufs i Y h
  inj:=d.inj
  dom:=λi h=>by
   by_cases y:i=k
   ·subst y;rw [zW] at h;cases h
   ·rw [zS y] at h;exact d.dom i h
  glob:=d.glob
  old:=d.old
  owns:=d.owns.keep λi wd li h=>by
   have y:i≠k:=by rintro rfl;rw [zW] at h;cases h
   rw [zS y] at h;exact ⟨h,rfl,yW y,λb' bh=>⟨rfl,λo h=>h⟩,λj q x _ hr=>hr.ghost E⟩}
theorem Inv.bufIn (A:Inv cx M κ tip s a w) {U:PV} {T:Array Value} 
  (hk:s.blk k=some (.buf c)) (bl:tip k=.slice (some ⟨b,0,none⟩) n cap) (S:κ k=some b) (bi:cx.w0.heap.size<=b) (bd:w.heap[b]? = some (.cells T e fz)) (bf:zD3 fz T.size) (Z:cap*c.width<=T.size) (hml:cap<=maxLen)
  (hM:∀ j,n*c.width<=j->M b j=none) (hvs:J.length=m*c.width) (bg:n+m<=cap) (hc':U.isSlice=true) (be:U.width=c.width) (bk:c.len<=U.len) (htk:∀ i,i<=c.len->U.take i=c.take i) (ba:U.len=c.len->m=0)
  (hrep:Rep (xY M b (n*c.width) ((n+m)*c.width) (λo=>J[o - n*c.width]?)) U (.slice (some ⟨b,0,none⟩) (n+m) cap)) :
  Inv cx (xY M b (n*c.width) ((n+m)*c.width) (λo=>J[o - n*c.width]?)) κ (nS tip k (.slice (some ⟨b,0,none⟩) (n+m) cap)) (s.setb k (.buf U)) a (w.setCells b (n*c.width) J):=by
 generalize V:xY M b (n*c.width) ((n+m)*c.width) (λo=>J[o - n*c.width]?)=M' at *;have hadd:(n+m)*c.width=n*c.width+m*c.width:=Qi _ _ _;have bm:n*c.width+J.length<=T.size:=by rw [hvs,<- hadd];exact Qo (Q6 _ bg) Z
 have bh:M.le M':=by rw [<- V];exact uM λo h _=>hM o h
 obtain ⟨arr',g1,g2,g3⟩:=rK b J (n*c.width) w T e fz bd bm;have F:=kJ b J (n*c.width) w;obtain ⟨_,_,hw0,_⟩:=A.bufs k c hk;have gle:GLe κ κ tip (nS tip k (.slice (some ⟨b,0,none⟩) (n+m) cap)) s.blk (s.setb k (.buf U)).blk:={
  var:=λi b l h h'=>by
   have e:i≠k:=by rintro rfl;rw [hk] at h';cases h'
   rw [zS e];exact ⟨h,l,h'⟩
  buf:=λi c1 h=>by
   by_cases e:i=k
   ·subst e;rw [hk] at h;cases h;refine ⟨U,zW _ _ _,λ_=>hc',bk,htk,λe=>?_⟩;rw [yU,bl,ba e];rfl
   ·exact Qy (by rw [zS e];exact h) (yW e)
  own:=λi c1 l1 h=>by
   have e:i≠k:=by rintro rfl;rw [hk] at h;cases h
   exact Qr (by rw [zS e];exact h) rfl (yW e) }
 have K:∀ {v:AV} {x:Value},RepA M κ tip s.blk v x->RepA M' κ (nS tip k (.slice (some ⟨b,0,none⟩) (n+m) cap)) (s.setb k (.buf U)).blk v x:=λh=>(h.mono bh).ghost gle;have d:∀ b' o,b'≠b->M' b' o=M b' o:=by
  intro b' o G;rw [<- V];unfold xY;rw [if_neg (by intro h;exact G h.1)]
 exact {
  defers:=A.defers
  size:=A.size
  fr:=⟨F.1.trans A.fr.os,F.2.1.trans A.fr.tape,F.2.2.trans A.fr.output,by rw [kO];exact A.fr.size,λi hi1 hi2 hi3=>by
   rw [xP b J _ w i (by omega)];exact A.fr.block i hi1 hi2 hi3⟩
  mem:=λi o x h=>by
   rw [<- V] at h;unfold xY at h;split at h
   ·rename_i hc;obtain ⟨rfl,h1,h2⟩:=hc;simp only [Qm,g1];have:=g3 o;rw [if_pos (by omega)] at this;simp [this,h]
   ·rename_i hc;have hc2:=A.mem i o x h;rw [World.cell?_setCells_out b J _ w _ (λe1 _=>by
     simp only at e1;subst e1;simp only;by_cases hlo:o<n*c.width
     ·exact .inl hlo
     ·have:=hM o (by omega);rw [this] at h;cases h)]
    exact hc2
  env:=λt v h=>let ⟨x,h1,h2⟩:=A.env t v h;⟨x,h1,K h2⟩
  vars:=λi l h=>by
   have I:i≠k:=by rintro rfl;rw [zW] at h;cases h
   rw [zS I] at h;obtain ⟨W,L,e2,bc,k1,k2,k3,k4,k5,k6,k7⟩:=A.vars i l h;have G:W≠b:=λe=>I (A.inj i k b (e▸k1) S);exact ⟨W,L,e2,bc,k1,by rw [xP b J _ w W G];exact k2,k3,k4,λj q hq=>K (k5 j q hq),λo=>by rw [d W o G];exact k6 o,k7⟩
  bufs:=λi c1 h=>by
   by_cases I:i=k
   ·subst I;rw [zW] at h;cases h;rw [yU];refine ⟨hrep,hc',by rw [be];exact hw0,.inr ⟨b,n+m,cap,arr',e,fz,rfl,S,bi,g1,by rw [g2];exact bf,by rw [g2,be];exact Z,hml,λj hj=>?_⟩⟩;rw [be] at hj;rw [<- V];unfold xY;rw [if_neg (by omega)];exact hM j (by omega)
   ·rw [zS I] at h;obtain ⟨k1,k2,k3,k4⟩:=A.bufs i c1 h;rw [yW I];refine ⟨k1.mono bh,k2,k3,?_⟩;rcases k4 with k4 | ⟨W,n2,bp,L,e2,bc,q1,q2,q3,q4,q5,q6,q7,q8⟩
    ·exact .inl k4
    ·have G:W≠b:=λe=>I (A.inj i k b (e▸q2) S);exact .inr ⟨W,n2,bp,L,e2,bc,q1,q2,q3,by rw [xP b J _ w W G];exact q4,q5,q6,q7,λj hj=>by rw [d W j G];exact q8 j hj⟩
  inj:=A.inj
  dom:=λi h=>by
   by_cases I:i=k
   ·subst I;rw [zW] at h;cases h
   ·rw [zS I] at h;exact A.dom i h
  glob:=A.glob.mono bh
  old:=⟨λb' o hb=>by rw [d b' o (by omega)];exact A.old.1 b' o hb,A.old.2⟩
  owns:=A.owns.keep λi wd li h=>by
   have I:i≠k:=by rintro rfl;rw [zW] at h;cases h
   rw [zS I] at h;exact ⟨h,rfl,yW I,λb' hb'=>⟨xP b J _ w b' (λe=>I (A.inj i k b (e▸hb') S)),λo h=>by rw [d b' o (λe=>I (A.inj i k b (e▸hb') S))];exact h⟩,λj q x _ hr=>K hr⟩}
def rV (M:Mem) (c:PV) (f:Nat->Value):Prop:=
 match c with
 | .bytes l=>∀ (i:Nat) (x:UInt8),l[i]? = some x->f i=.int .u8 x.toNat
 | .sl w l=>(∀ (i:Nat) (p:PV),l[i]? = some p->p.cells.length=w)/\∀ (i:Nat) (p:PV) (j:Nat) (q:PV),l[i]? = some p->p.cells[j]? = some q->Rep M q (f (i*w+j))
 | _=>False
theorem zB5 (T:c.isSlice=true) {o:Nat} (h:Rep M c (.slice (some ⟨b,o,none⟩) n cap)):rV M c (λj=>oS M b (o+j)):=by
 cases h with
 | bytesE a=>intro i x A;simp_all
 | slE a=>exact ⟨by simp,by simp⟩
 | bytes l b o n c N K y=>intro i x A;simp [oS,y i x A]
 | sl w l b o n c N K y V L=>exact ⟨y,λi p j q I J=>L i p j q I J⟩
theorem jM (A:c.isSlice=true) (h:c.len=0) (f:Nat->Value):rV M c f:=by
 cases c<;>simp [Qe] at A
 ·simp [Qf] at h;intro i x y;simp_all
 ·simp [Qf] at h;subst h;exact ⟨by simp,by simp⟩
theorem zIo (Z:c.isSlice=true) {o:Nat} (h:Rep M c (.slice (some ⟨b,o,none⟩) n cap)) (N:0<c.width):∀ j,j<n*c.width->(M b (o+j)).isSome=true:=by
 intro j D;cases h with
 | bytesE a=>simp at D
 | slE a=>simp at D
 | bytes l b o n c L V K=>
  simp [W6] at D;simp_all
 | sl w l b o n c L V K W h5=>
  have hi:j / w<l.length:=by rw [<- L];exact W7 (by rw [W2];exact D)
  have T:l[j / w]? = some l[j / w]:=by simp
  have I:=K _ _ T;have hr:j % w<l[j / w].cells.length:=by rw [I];exact Nat.mod_lt _ N
  have G:l[j / w].cells[j % w]? = some l[j / w].cells[j % w]:=by simp
  have:=W _ _ _ _ T G;have e:j / w*w+j % w=j:=by rw [W2];exact Wf j w
  simp_all
theorem wH {f:Nat->Value} (h:rV M c f) (T:c.isSlice=true) (I:M.le M') {o:Nat} (E:∀ j,j<c.len*c.width->M' b (o+j)=some (f j)) (N:c.len<=cap):Rep M' c (.slice (some ⟨b,o,none⟩) c.len cap):=by
 cases c<;>simp [Qe] at T
 ·rename_i l;refine .bytes l b o _ cap rfl N ?_;intro i x S;have G:i<l.length:=(List.getElem?_eq_some_iff.1 S).1;rw [E i (by simp [Qf,W6];exact G),h i x S]
 ·rename_i w l;have D:∀ (i:Nat) (p:PV) (j:Nat) (q:PV),l[i]? = some p->p.cells[j]? = some q->i*w+j<l.length*w:=by
   intro i p j q y A;have U:i<l.length:=(List.getElem?_eq_some_iff.1 y).1;have V:=(List.getElem?_eq_some_iff.1 A).1;rw [h.1 i p y] at V;have:(i+1)*w<=l.length*w:=Q6 _ U;rw [Qi] at this;omega
  refine .sl w l b o _ cap rfl N h.1 ?_ ?_
  ·intro i p j q y A;rw [E _ (D i p j q y A)];rfl
  ·intro i p j q y A;have:=E _ (D i p j q y A);simp only [oS,this,We];exact (h.2 i p j q y A).mono I
def PV.app:PV->PV->Option PV
 | .bytes a,.bytes b=>some (.bytes (a++b))
 | .sl w a,.sl w' b=>bif Q2 w w' then some (.sl w (a++b)) else none
 | .bytes a,.str b=>some (.bytes (a++b))
 | _,_=>none
def PV.src:PV->PV
 | .str l=>.bytes l
 | p=>p
theorem zFd {x r:PV} (h:c.app x=some r):c.isSlice=true/\r.isSlice=true/\x.src.isSlice=true/\r.width=c.width/\x.src.width=c.width/\r.len=c.len+x.src.len/\∀ n,n<=c.len->r.take n=c.take n:=by
 unfold PV.app at h;split at h
 ·cases h;refine ⟨rfl,rfl,rfl,rfl,rfl,by simp [Qf,PV.src],λn y=>?_⟩;simp only [Qf] at y;simp [Qx,Qh y]
 ·rename_i w a w' b;cases D:Q2 w w' with
  | false=>simp [D] at h
  | true=>
   simp [D] at h;subst h;have:=Q0 D;subst this;refine ⟨rfl,rfl,rfl,rfl,rfl,by simp [Qf,PV.src],λn y=>?_⟩;simp [Qx,Qh y]
 ·cases h;refine ⟨rfl,rfl,rfl,rfl,rfl,by simp [Qf,PV.src],λn y=>?_⟩;simp [Qx,Qh y]
 ·cases h
theorem bX {x r:PV} {f:Nat->Value} (h:c.app x=some r) (I:rV M c f) (A:rV M x.src g):rV M r (λj=>if j<c.len*c.width then f j else g (j - c.len*c.width)):=by
 have T:∀ (a b:By) (f g:Nat->Value),(∀ (i:Nat) (x:UInt8),a[i]? = some x->f i=.int .u8 x.toNat)->(∀ (i:Nat) (x:UInt8),b[i]? = some x->g i=.int .u8 x.toNat)->∀ (i:Nat) (x:UInt8),(a++b)[i]? = some x->(if i<a.length*1 then f i else g (i - a.length*1))=.int .u8 x.toNat:=by
  intro a b f g K U i x A;rw [Nat.mul_one];by_cases D:i<a.length
  ·rw [if_pos D];rw [List.getElem?_append_left D] at A;exact K i x A
  ·rw [if_neg D];rw [List.getElem?_append_right (by omega)] at A;exact U _ x A
 unfold PV.app at h;split at h
 ·cases h;exact T _ _ f g I A
 ·rename_i w a w' b;cases E:Q2 w w' with
  | false=>simp [E] at h
  | true=>
   simp [E] at h;subst h;have:=Q0 E;subst this;obtain ⟨S,Y⟩:=I;obtain ⟨W,V⟩:=A;refine ⟨λi p y=>?_,λi p j q y J=>?_⟩
   ·by_cases D:i<a.length
    ·rw [List.getElem?_append_left D] at y;exact S i p y
    ·rw [List.getElem?_append_right (by omega)] at y;exact W _ p y
   ·show Rep M q (if i*w+j<a.length*w then f (i*w+j) else g (i*w+j - a.length*w));by_cases D:i<a.length
    ·rw [List.getElem?_append_left D] at y;have Z:j<w:=by rw [<- S i p y];exact (List.getElem?_eq_some_iff.1 J).1
     have:(i+1)*w<=a.length*w:=Q6 _ D;rw [Qi] at this;rw [if_pos (by omega)];exact Y i p j q y J
    ·rw [List.getElem?_append_right (by omega)] at y;have K:a.length*w<=i*w:=Q6 _ (by omega);rw [if_neg (by omega)];have:=V (i - a.length) p j q y J;rw [show i*w+j - a.length*w=(i - a.length)*w+j by rw [Nat.sub_mul];omega];exact this
 ·cases h;exact T _ _ f g I A
 ·cases h
structure Src (P:Program) (w:World) (size m:Nat) (y:Value) (news:List Value):Prop where
 len:∀ w':World,(Wa y).run P w'=.ok m w'
 cells:∀ w':World,(∀ a u,w.cell? a=some u->w'.cell? a=some u)->(Qk size m y).run P w'=.ok news.toArray w'
 nl:news.length=m*size
theorem zCu (V:∀ b o x,M b o=some x->w.cell? ⟨b,o,none⟩=some x) (F:p.isSlice=true) {y:Value} (h:Rep M p y) (W:0<p.width) :
  ∃ v g,Src P w p.width p.len y v/\rV M p g/\∀ j,j<p.len*p.width->v[j]? = some (g j):=by
 rcases nD h F with ⟨rfl,E⟩ | ⟨b,o,n,c,rfl,Z,hc⟩ | ⟨U,rfl,rfl | rfl⟩
 ·refine ⟨[],λ_=>undef,⟨λw'=>by simp [Wa,E],λw' _=>by rfl,by simp [E]⟩,jM F E _,by simp [E]⟩
 ·subst Z;refine ⟨(W8 (p.len*p.width)).map λj=>oS M b (o+j),λj=>oS M b (o+j),⟨λw'=>by simp [Wa],λw' I=>?_,by simp⟩,zB5 F h,λj G=>by simp [G]⟩;refine run_firstCells_some (P:=P) w' p.width p.len ⟨b,o,none⟩ p.len c _ (by simp) ?_;intro j u S;rw [List.getElem?_map] at S;obtain ⟨T,N,h2⟩:=Q3.1 S;have G:j<p.len*p.width:=by have:=(List.getElem?_eq_some_iff.1 N).1;simpa using this
  have J:T=j:=by simp_all
  subst J;obtain ⟨z,K⟩:=Qa.1 (zIo F h W T G);rw [add_off,<- h2];refine I _ _ ?_;rw [V _ _ _ K];simp [oS,K]
 all_goals exact ⟨[],λ_=>undef,⟨λw'=>by rfl,λw' _=>by rfl,by simp [Qf]⟩,jM rfl rfl _,by simp [Qf]⟩
theorem zR2 (l:By):∃ v g,Src P w 1 l.length (.string ⟨l.toArray⟩) v/\rV M (.bytes l) g/\∀ j,j<l.length*1->v[j]? = some (g j):=by
 refine ⟨l.map λx=>.int .u8 x.toNat,λj=>((l.map λx=>Value.int .u8 x.toNat)[j]?).getD undef,⟨λw'=>by rfl,λw' _=>?_,by simp⟩,?_,?_⟩
 ·simp [Qk]
 ·intro i x G;simp [G]
 simp_all
section
def zAu (d:TypeDesc):Prop:=d=.string∨∃ e,d=.slice e
theorem jI {d:TypeDesc} {y:Value} (ht:P.underlying t=some (.slice e)) (ht':P.underlying t'=some d) (hd:zAu d) (hi:P.info? e=some i) (hz:i.zero=some z)
  (hy:Src P w i.size m y news) (h0:0<m) (hb:m*i.bytes<=140737488355328) (h63:m<=9223372036854775807) :
  (Q9 #[t,t'] ty #[.slice none 0 0,y]).run P w=.ok (.slice (some ⟨w.heap.size,0,none⟩) m (grownCap w m 0 e)) (w.drew.alloc (.cells (news.toArray++Q7 z.cells (grownCap w m 0 e - m)) e)):=by
 have hn:m≠0:=by omega
 have h63':¬ (9223372036854775807<(m:Int)):=by omega
 have h48':¬ (281474976710656<W9 m 0*i.bytes):=by
  have:=growslice_fits (need:=m) (old:=0) (bytes:=i.bytes) h0 hb;omega
 have hc:=hy.cells w.drew (λa u h=>by simpa using h);have h1:(Qk i.size 0 (.slice none 0 0)).run P w.drew=.ok #[] w.drew:=by simp [Qk]
 rcases hd with rfl | ⟨e',rfl⟩<;>simp [Q9,run_underlying ht,run_underlying ht',sizeOf,typeInfo,zeroValue,hi,hz,hy.len,hc,h1,hn,h63',h48',Question.forced,newRow,grownCap]
theorem mO {d:TypeDesc} {y:Value} (ht:P.underlying t=some (.slice e)) (ht':P.underlying t'=some d) (hd:zAu d) (hi:P.info? e=some i)
  (hy:Src P w i.size 0 y news):(Q9 #[t,t'] ty #[.slice none 0 0,y]).run P w=.ok (.slice none 0 0) w:=by
 have hc:=hy.cells w (λa u h=>h);rcases hd with rfl | ⟨e',rfl⟩<;>simp [Q9,run_underlying ht,run_underlying ht',sizeOf,typeInfo,hi,hy.len,hc]
theorem zAl {d:TypeDesc} {y:Value} (ht:P.underlying t=some (.slice e)) (ht':P.underlying t'=some d) (hd:zAu d) (hi:P.info? e=some i)
  (hy:Src P w i.size m y news) (h1:∀ u∈news,u.oneCell'=true) (hroom:n+m<=cap) (hc:∀ j,j<news.length->(w.cell? ⟨b,n*i.size+j,none⟩).isSome=true) (hf:∀ j,j<news.length->w.frozen? ⟨b,n*i.size+j,none⟩=false) :
  (Q9 #[t,t'] ty #[.slice (some ⟨b,0,none⟩) n cap,y]).run P w=.ok (.slice (some ⟨b,0,none⟩) (n+m) cap) (w.setCells b (n*i.size) news):=by
 have hfc:=hy.cells w (λa u h=>h);have hst:=run_storeCells_cells (P:=P) b (n*i.size) news 0 w (by simpa using hc) (by simpa using hf) h1;simp only [W0] at hst;rcases hd with rfl | ⟨e',rfl⟩<;>simp [Q9,run_underlying ht,run_underlying ht',sizeOf,typeInfo,hi,hy.len,hroom,hfc,add_off,hst]
theorem aI {d:TypeDesc} {y:Value} (ht:P.underlying t=some (.slice e)) (ht':P.underlying t'=some d) (hd:zAu d) (hi:P.info? e=some i) (hz:i.zero=some z)
  (hy:Src P w i.size m y news) {olds:List Value} (hlo:olds.length=n*i.size) (holds:∀ (j:Nat) (u:Value),olds[j]? = some u->w.cell? ⟨b,j,none⟩=some u) (hg:cap<n+m) (hb:(n+m)*i.bytes<=140737488355328) (h63:n+m<=9223372036854775807) :
  (Q9 #[t,t'] ty #[.slice (some ⟨b,0,none⟩) n cap,y]).run P w=.ok (.slice (some ⟨w.heap.size,0,none⟩) (n+m) (grownCap w (n+m) cap e))
   (w.drew.alloc (.cells (olds.toArray++news.toArray++Q7 z.cells (grownCap w (n+m) cap e - (n+m))) e)):=by
 have hn:¬ (n+m<=cap):=by omega
 have h63':¬ (9223372036854775807<((n:Int)+(m:Int))):=by omega
 have h48':¬ (281474976710656<W9 (n+m) cap*i.bytes):=by
  have:=growslice_fits (need:=n+m) (old:=cap) (bytes:=i.bytes) hg hb;omega
 have hc:=hy.cells w.drew (λa u h=>by simpa using h);have h1:=run_firstCells_some (P:=P) w.drew i.size n ⟨b,0,none⟩ n cap olds hlo (by intro j u hu;rw [add_off];simpa using holds j u hu);rcases hd with rfl | ⟨e',rfl⟩<;>simp [Q9,run_underlying ht,run_underlying ht',sizeOf,typeInfo,zeroValue,hi,hz,hy.len,hc,h1,hn,h63',h48',Question.forced,newRow,grownCap]<;>(rw [<- Array.append_assoc];simp)
end
theorem tA (w:World) (y:Array Value) (e:TypeId):zLk w (w.drew.alloc (.cells y e)) y e (0,0) where
 os:=rfl
 tape:=rfl
 output:=rfl
 size:=by simp
 old:=λi h=>by rw [hao w.drew _ i h];rfl
 new:=by have:=heap_alloc_new w.drew (.cells y e);simp_all
 free:=zFk _
theorem cK (w:World) (y:Array Value) (e:TypeId):zLk w (w.alloc (.cells y e)) y e (0,0) where
 os:=rfl
 tape:=rfl
 output:=rfl
 size:=by simp
 old:=λi h=>hao w _ i h
 new:=by have:=heap_alloc_new w (.cells y e);omega
 free:=zFk _
section
theorem vZ {rs:LV} {b:zN}:Qw ⟨rs,bs,fr,some (d,some v),[(k,b)]⟩ s=(s.setb k b).put d v:=by
 simp only [Qw,AS.setb,AS.put,lk];congr 1;funext t;cases Q2 t k<;>simp
theorem zY0 (J:∀ b o x,M b o=some x->w.cell? ⟨b,o,none⟩=some x) (E:c.app p=some rr) (h:Rep M p z) (Z:0<c.width) :
  ∃ v g,Src P w c.width p.src.len z v/\rV M p.src g/\∀ j,j<p.src.len*c.width->v[j]? = some (g j):=by
 obtain ⟨T,V,S,Y,I,U,W⟩:=zFd E;cases p with
 | str l=>
  cases h;have y:c.width=1:=by rw [<- I];rfl
  obtain ⟨v,g,G,F,D⟩:=zR2 (P:=P) (M:=M) (w:=w) l;exact ⟨v,g,by rw [y];exact G,F,by rw [y];exact D⟩
 | bytes l=>
  obtain ⟨v,g,G,F,D⟩:=zCu (P:=P) J rfl h (by simp [W6]);have y:c.width=1:=by rw [<- I];rfl
  exact ⟨v,g,by rw [y];exact G,F,by rw [y];exact D⟩
 | sl w' l=>
  have y:w'=c.width:=by rw [<- I];rfl
  obtain ⟨v,g,G,F,D⟩:=zCu (P:=P) J rfl h (by simp [W6];omega);exact ⟨v,g,by rw [<- y];exact G,F,by rw [<- y];exact D⟩
 | _=>simp [PV.src,Qe] at S
def bK:PV->Bool
 | .sl _ l=>l.all λp=>p.cells.all PV.one
 | _=>true
theorem yKk {x:Value} (h:Rep M p x) (A:p.one=true):x.oneCell'=true:=zEd (κ:=λ_=>none) (tip:=λ_=>undef) (B:=λ_=>none) (.p p x h) A
theorem zQu (h:c.app p=some rr):p.isSlice=true∨∃ l,p=.str l:=by
 unfold PV.app at h;split at h<;>first | (exact .inl rfl) | simp | cases h
theorem zEi {wd:Nat} (Z:p.isSlice=true) (E:p.width=wd) (G:0<wd) (J:rV M p g) (W:news.length=p.len*wd) (hn:∀ j,j<p.len*wd->news[j]? = some (g j)) (T:bK p=true):∀ u∈news,u.oneCell'=true:=by
 intro u Y;obtain ⟨j,D,I⟩:=Wc Y;rw [W] at D;have N:=hn j D;have U:g j=u:=by
  simp_all
 cases p<;>simp [Qe] at Z
 ·rename_i l;simp only [W6] at E;subst E;simp only [Qf,Nat.mul_one] at D;have:=J j l[j] (by simp);rw [<- U,this];rfl
 ·rename_i w l;subst E;have hi:j / w<l.length:=W7 (by rw [W2];exact D);have K:l[j / w]? = some l[j / w]:=by simp
  have F:=J.1 _ _ K;have hr:j % w<l[j / w].cells.length:=by rw [F];exact Nat.mod_lt _ G
  have V:l[j / w].cells[j % w]? = some l[j / w].cells[j % w]:=by simp
  have L:=J.2 _ _ _ _ K V;have e:j / w*w+j % w=j:=by rw [W2];exact Wf j w
  rw [e,U] at L;simp only [bK,Qn] at T;exact yKk L (T _ (W1 _) _ (W1 _))
theorem xH {v:Value} (K:o.op=.call { callee:=.builtin .append,args:=#[x,y],argTypes:=#[t,t'] }) {vx:Value} (J:a.eval x=vx) (h:(Q9 #[t,t'] o.type #[vx,a.eval y]).run P w=.ok v w') :
  (execOp a.eval o).run P w=.ok (.value v) w':=by
 simp [execOp,K,resolve,invoke,builtin,J,h]
theorem zUq {ei:TI} (bd:yO P te) (hd:o.dst=some d) (ho:o.op=.call { callee:=.builtin .append,args:=#[x,y],argTypes:=#[t,t'] })
  (ht:(te t).map (·.ty)=some (.slice e)) (he:te e=some ei) (ht':P.underlying t'=some dd) (hdd:zAu dd) (hx:s.get te t x=some (.nl c)) (bc:c.width=ei.w) (hw0:0<ei.w) (hz:ei.z.length=ei.w) (hy:s.get te t' y=some vy) (hp:s.rd vy=some (p,bs)) (I:c.app p=some rr)
  (hb:(c.len+p.src.len)*ei.b<=140737488355328) (hb1:0<ei.b) (hk:s.blk d=none) :
  SA P o s ⟨opS x (.nl c)++opS y vy,bs,[d],some (d,some (.buf d rr.len)),[(d,.buf rr)]⟩:=by
 refine ⟨?_,yL (zP hx) (zP hy),uJ vy p bs hp,by intro k F;simp at F;subst F;exact hk⟩;intro cx s' a w K Q hm hs hws F;obtain ⟨M,κ,tip,h0,hpk,T⟩:=hs;have U:=hm.2.2 d (by simp);have bf:=yB T (yI hx s' (yG hm.1));have hy':=eK T hy hp (zX hm.1) hm.2.1;obtain ⟨q1,V,q3,q4,q5,q6,q7⟩:=zFd I;generalize bg:a.eval x=zx at bf;cases bf with
 | nl _ J=>
 have D:c.len=0:=by unfold W5 at J;split at J<;>first | rfl | cases J
 rw [D,Qc] at hb;obtain ⟨E,g,n1,n2,n3⟩:=zY0 (P:=P) T.mem I hy' (by omega);obtain ⟨info,z,i1,i2,i3,i4,i5⟩:=(bd e ei he).info;have hu:=xB bd ht;have hlen:p.src.len<=140737488355328:=Qo (W3 _ hb1) hb;rw [bc,<- i2] at n1;unfold Oper.wp;by_cases hm0:p.src.len=0
 ·rw [hm0] at n1;have L:=mO (P:=P) (ty:=o.type) hu ht' hdd i1 n1;rw [xH ho bg L];show K (a.put o.dst _) _;rw [hd];refine F _ _ ?_;rw [vZ];have A:rr.len=0:=by omega
  have hrn:rr.nilOf=true:=by cases rr<;>simp [Qe] at V<;>simp [Qf] at A<;>subst A<;>rfl
  refine ⟨M,κ,_,h0,hpk,(T.bufNil U hrn (by omega)).put (hws d (by simp [Qs])) ?_⟩;rw [A];refine .buf d 0 rr _ (zW _ _ _) V (Qq _) ?_ (λ_=>(yU _ _ _).symm);cases rr<;>simp [Qe] at V<;>simp only [Qx,List.take_zero]
  ·exact .bytes0
  ·exact .sl0 _
 ·have L:=jI (P:=P) (ty:=o.type) hu ht' hdd i1 i4 n1 (by omega) (by rw [i3];exact hb) (by omega);rw [xH ho bg L];show K (a.put o.dst _) _;rw [hd];refine F _ _ ?_;rw [vZ];have N:=bX I (jM q1 D (λ_=>undef)) n2;have hzs:z.cells.size=ei.w:=by rw [<- Qj,i5];simpa using hz
  have hge:=grownCap_ge w p.src.len 0 e;have hnl:E.length=p.src.len*ei.w:=by rw [n1.nl,i2]
  have A:rr.len=p.src.len:=by omega
  have W:rr.width=ei.w:=by omega
  have G:(E.toArray++Q7 z.cells (grownCap w p.src.len 0 e - p.src.len)).size=grownCap w p.src.len 0 e*ei.w:=by
   simp only [Qu,Qv,size_zeroCells,hzs,hnl,<- Qi];congr 1;omega
  have hfit:p.src.len*ei.w<=grownCap w p.src.len 0 e*ei.w:=Q6 _ hge;have hml:grownCap w p.src.len 0 e<=maxLen:=grownCap_le_maxLen w p.src.len 0 e (by simp only [maxLen];omega);have S:Rep (xY M w.heap.size 0 (p.src.len*rr.width) ((E.toArray++Q7 z.cells (grownCap w p.src.len 0 e - p.src.len))[·]?)) rr (.slice (some ⟨w.heap.size,0,none⟩) p.src.len (grownCap w p.src.len 0 e)):=by
   have:=wH (M':=xY M w.heap.size 0 (p.src.len*rr.width) ((E.toArray++Q7 z.cells (grownCap w p.src.len 0 e - p.src.len))[·]?)) (b:=w.heap.size) (o:=0) (cap:=grownCap w p.src.len 0 e) N V (uM λo _ _=>T.mlt (Q5 _)) ?_ (by omega)
   ·rwa [A] at this
   intro j hj;rw [A] at hj;simp only [xY,Qc];rw [if_pos ⟨trivial,Qq _,hj⟩,D];simp only [Nat.zero_mul,Wg,if_false,Nat.sub_zero];rw [W] at hj;have:=n3 j (by rw [bc];exact hj);rw [Array.getElem?_append_left (by simp;omega)];simpa using this
  refine ⟨_,_,_,h0.trans' (uM λo _ _=>T.mlt (Q5 _)),zDp T hpk U _,(T.bufNew (tA w _ e) (.inl U) V (by omega) ?_ ?_ hml S).put (hws d (by simp [Qs])) ?_⟩
  ·rw [G,W];exact hfit
  ·rw [G,W];exact Q5 _
  ·rw [A];refine .buf d _ rr _ (zW _ _ _) V (by omega) ?_ (λ_=>(yU _ _ _).symm);have:rr.take p.src.len=rr:=by rw [<- A];cases rr<;>simp [Qe] at V<;>simp [Qx,Qf]
   rw [this];exact S
end
section
theorem sP (h:c.isSlice=true):c.take c.len=c:=by cases c<;>simp [Qe] at h<;>simp [Qx,Qf]
theorem zGz {D:Nat->Option Nat} (K:Inv cx M D tip s a w) (G:∀ k∈cx.pk,D k.1=some k.2/\k.2<cx.w0.heap.size) (I:s.blk k=some (.buf c)) (b:Option Nat):∀ h∈cx.pk,zBu D k b h.1=some h.2/\h.2<cx.w0.heap.size:=by
 intro h A;have y:=G h A;rw [yP]
 ·exact y
 ·intro e;obtain ⟨_,_,_,E⟩:=K.bufs _ c I;rw [<- e] at E;rcases E with ⟨_,v⟩ | ⟨b',n,cap,J,e,L,_,v,S,N,_⟩
  ·simp_all
  ·rw [y.1] at v;cases v;omega
theorem zOo {E:TI} (hok:yO P te) (hd:o.dst=some d) (ho:o.op=.call { callee:=.builtin .append,args:=#[x,y],argTypes:=#[t,t'] })
  (ht:(te t).map (·.ty)=some (.slice e)) (he:te e=some E) (ht':P.underlying t'=some dd) (hdd:zAu dd) (hx:s.get te t x=some (.buf k c.len)) (hk:s.blk k=some (.buf c)) (hcw:c.width=E.w) (hw0:0<E.w) (hz:E.z.length=E.w) (hy:s.get te t' y=some vy) (hp:s.rd vy=some (p,bs)) (v:c.app p=some rr)
  (hel:bK p=true) (hb:(c.len+p.src.len)*E.b<=140737488355328) (hb1:0<E.b) :
  SA P o s ⟨opS x (.buf k c.len)++opS y vy,(k,.buf c) :: bs,[],some (d,some (.buf k rr.len)),[(k,.buf rr)]⟩:=by
 refine ⟨?_,yL (zP hx) (zP hy),?_,by intro k hk';simp at hk'⟩
 ·intro cx s' a w K Q hm hs hws hk';obtain ⟨M,κ,tip,h0,hpk,hi⟩:=hs;have hbk:=hm.2.1 (k,.buf c) (by simp);simp only at hbk;have hx':=yB hi (yI hx s' (yG hm.1));have hy':=eK hi hy hp (zX hm.1) (λe he=>hm.2.1 e (by simp [he]));obtain ⟨q1,q2,q3,q4,q5,q6,q7⟩:=zFd v;obtain ⟨b1,b2,b3,b4⟩:=hi.bufs k c hbk;have hevx:a.eval x=tip k:=by
   generalize a.eval x=zx at hx';cases hx' with
   | buf _ _ c' _ g1 g2 g3 g4 g5=>rw [hbk] at g1;cases g1;exact g5 rfl
  obtain ⟨G,g,n1,n2,n3⟩:=zY0 (P:=P) hi.mem v hy' (by omega);obtain ⟨info,z,i1,i2,i3,i4,i5⟩:=(hok e E he).info;have hu:=xB hok ht;have hlen:c.len+p.src.len<=140737488355328:=Qo (W3 _ hb1) hb;rw [hcw,<- i2] at n1;have hnl:G.length=p.src.len*E.w:=by rw [n1.nl,i2]
  have hrw:rr.width=E.w:=by omega
  have hzs:z.cells.size=E.w:=by rw [<- Qj,i5];simpa using hz
  have hone:∀ u∈G,u.oneCell'=true:=by
   rcases zQu v with hsl | ⟨l,rfl⟩
   ·have hps:p.src=p:=by cases p<;>simp [Qe] at hsl<;>rfl
    rw [hps] at n2 n3 hnl q5;exact zEi hsl (by omega) hw0 n2 hnl (λj hj=>n3 j (by rw [hcw];exact hj)) hel
   ·exact zEi (p:=.bytes l) rfl (by have h5:(1:Nat)=c.width:=q5;show (1:Nat)=E.w;omega) hw0 n2 hnl (λj hj=>n3 j (by rw [hcw];exact hj)) rfl
  unfold Oper.wp;rcases b4 with ⟨hnil,hκ⟩ | ⟨b,n,cap,arr,e1,fz,htip,hκ,hbase,hheap,hfree,hcap,hml,hM⟩
  ·
   have hlen0:c.len=0:=by
    rw [hnil] at b1;rcases nD b1 b2 with ⟨_,h⟩ | ⟨b,o,n,cc,h,_⟩ | ⟨aa,h,_⟩
    ·exact h
    ·cases h
    ·cases h
   by_cases hm0:p.src.len=0
   ·rw [hm0] at n1;have hrun:=mO (P:=P) (ty:=o.type) hu ht' hdd i1 n1;rw [xH ho (hevx.trans hnil) hrun];show K (a.put o.dst _) _;rw [hd];refine hk' _ _ ?_;rw [vZ];have hrl:rr.len=0:=by omega
    have hrn:rr=c:=by
     have hps:p.src.len=0:=hm0;unfold PV.app at v;split at v
     ·rename_i aa bb;simp only [PV.src,Qf] at hps;have:bb=[]:=Qb hps;subst this;simp at v;exact v.symm
     ·rename_i ww aa ww' bb;simp only [PV.src,Qf] at hps;have:bb=[]:=Qb hps;subst this;cases hbq:Q2 ww ww' with
      | false=>simp [hbq] at v
      | true=>simp [hbq] at v;exact v.symm
     ·rename_i aa bb;simp only [PV.src,Qf] at hps;have:bb=[]:=Qb hps;subst this;simp at v;exact v.symm
     ·cases v
    subst hrn;have hset:s'.setb k (.buf rr)=s':=by
     cases s' with
     | mk env blk=>
      simp only [AS.setb];congr 1;funext t;by_cases ht:t=k
      ·subst ht;simp;exact hbk.symm
      ·have:Q2 t k=false:=by rw [Q8];intro e;exact ht (Q0 e)
       simp [this]
    rw [hset];refine ⟨M,κ,tip,h0,hpk,hi.put (hws d (by simp [Qs])) ?_⟩;refine .buf k _ rr _ hbk b2 (Q5 _) ?_ (λ_=>hnil.symm);rw [sP b2,<- hnil];exact b1
   ·have hrun:=jI (P:=P) (ty:=o.type) hu ht' hdd i1 i4 n1 (by omega) (by rw [i3];rw [hlen0,Qc] at hb;exact hb) (by omega);rw [xH ho (hevx.trans hnil) hrun];show K (a.put o.dst _) _;rw [hd];refine hk' _ _ ?_;rw [vZ];have F:=bX v (jM q1 hlen0 (λ_=>undef)) n2;have hge:=grownCap_ge w p.src.len 0 e;have hrl:rr.len=p.src.len:=by omega
    have hsize:(G.toArray++Q7 z.cells (grownCap w p.src.len 0 e - p.src.len)).size=grownCap w p.src.len 0 e*E.w:=by
     simp only [Qu,Qv,size_zeroCells,hzs,hnl,<- Qi];congr 1;omega
    have hfit:p.src.len*E.w<=grownCap w p.src.len 0 e*E.w:=Q6 _ hge;have hml:grownCap w p.src.len 0 e<=maxLen:=grownCap_le_maxLen w p.src.len 0 e (by simp only [maxLen];omega);have I:Rep (xY M w.heap.size 0 (p.src.len*rr.width) ((G.toArray++Q7 z.cells (grownCap w p.src.len 0 e - p.src.len))[·]?)) rr (.slice (some ⟨w.heap.size,0,none⟩) p.src.len (grownCap w p.src.len 0 e)):=by
     have:=wH (M':=xY M w.heap.size 0 (p.src.len*rr.width) ((G.toArray++Q7 z.cells (grownCap w p.src.len 0 e - p.src.len))[·]?)) (b:=w.heap.size) (o:=0) (cap:=grownCap w p.src.len 0 e) F q2 (uM λo _ _=>hi.mlt (Q5 _)) ?_ (by omega)
     ·rwa [hrl] at this
     intro j hj;rw [hrl] at hj;simp only [xY,Qc];rw [if_pos ⟨trivial,Qq _,hj⟩,hlen0];simp only [Nat.zero_mul,Wg,if_false,Nat.sub_zero];rw [hrw] at hj;have:=n3 j (by rw [hcw];exact hj);rw [Array.getElem?_append_left (by simp;omega)];simpa using this
    refine ⟨_,_,_,h0.trans' (uM λo _ _=>hi.mlt (Q5 _)),zGz hi hpk hbk _,(hi.bufNew (tA w _ e) (.inr ⟨c,hbk,by omega,q7⟩) q2 (by omega) ?_ ?_ hml I).put (hws d (by simp [Qs])) ?_⟩
    ·rw [hsize,hrw];exact hfit
    ·rw [hsize,hrw];exact Q5 _
    ·rw [hrl];refine .buf k _ rr _ (zW _ _ _) q2 (by omega) ?_ (λ_=>(yU _ _ _).symm);rw [<- hrl,sP q2,hrl];exact I
  ·rw [htip] at b1;have hn:n=c.len/\n<=cap:=by
    rcases nD b1 b2 with ⟨h,_⟩ | ⟨b',o',n',cc,h,h2,h3⟩ | ⟨aa,h,hpe⟩
    ·cases h
    ·cases h;exact ⟨h2,h3⟩
    ·cases h;rcases hpe with hpe | hpe<;>(rw [hpe];exact ⟨rfl,Q5 _⟩)
   obtain ⟨hn,hcl⟩:=hn;subst hn;have F:=bX v (zB5 b2 b1) n2;simp only [Qc] at F;have hsome:=zIo b2 b1 b3;simp only [Qc] at hsome;have hadd:(c.len+p.src.len)*E.w=c.len*E.w+p.src.len*E.w:=Qi _ _ _;by_cases hroom:c.len+p.src.len<=cap
   ·have hfits:(c.len+p.src.len)*E.w<=arr.size:=by rw [<- hcw];exact Qo (Q6 _ hroom) hcap
    have hrun:=zAl (P:=P) (ty:=o.type) hu ht' hdd i1 n1 (b:=b) (n:=c.len) (cap:=cap) hone hroom
     (by
       intro j hj;rw [i2];have:c.len*E.w+j<arr.size:=by omega
       simp [Qm,hheap,this])
     (by intro j hj;rw [i2];exact sR hheap hfree (by omega))
    rw [xH ho (hevx.trans htip) hrun];show K (a.put o.dst _) _;rw [hd];refine hk' _ _ ?_;rw [vZ,i2,<- hcw];have hle:M.le (xY M b (c.len*c.width) ((c.len+p.src.len)*c.width) (λo=>G[o - c.len*c.width]?)):=uM λo h _=>hM o h;have I:Rep (xY M b (c.len*c.width) ((c.len+p.src.len)*c.width) (λo=>G[o - c.len*c.width]?)) rr (.slice (some ⟨b,0,none⟩) (c.len+p.src.len) cap):=by
     have:=wH (M':=xY M b (c.len*c.width) ((c.len+p.src.len)*c.width) (λo=>G[o - c.len*c.width]?)) (b:=b) (o:=0) (cap:=cap) F q2 hle ?_ (by omega)
     ·rwa [q6] at this
     intro j hj;rw [q6,q4] at hj;simp only [Qc];by_cases hjc:j<c.len*c.width
     ·rw [if_pos hjc];obtain ⟨u,hu⟩:=Qa.1 (hsome j hjc);rw [hle _ _ _ hu];simp [oS,hu]
     ·rw [if_neg hjc];simp only [xY];rw [if_pos ⟨trivial,by omega,hj⟩];exact n3 _ (by rw [hcw] at hj hjc ⊢;omega)
    refine ⟨_,_,_,h0.trans' hle,hpk,(hi.bufIn hbk htip hκ hbase hheap hfree hcap hml hM (by rw [hnl,hcw]) hroom q2 q4 (by omega) q7 (by omega) I).put (hws d (by simp [Qs])) ?_⟩;rw [q6];refine .buf k _ rr _ (zW _ _ _) q2 (by omega) ?_ (λ_=>(yU _ _ _).symm);rw [<- q6,sP q2,q6];exact I
   ·have hol:((W8 (c.len*E.w)).map λj=>oS M b j).length=c.len*info.size:=by simp [i2]
    have hrun:=aI (P:=P) (ty:=o.type) hu ht' hdd i1 i4 n1 (b:=b) (n:=c.len) (cap:=cap) (olds:=(W8 (c.len*E.w)).map λj=>oS M b j) hol
     (by
      intro j u hu;rw [List.getElem?_map] at hu;obtain ⟨j',h1,h2⟩:=Q3.1 hu;have hj:j<c.len*E.w:=by have:=(List.getElem?_eq_some_iff.1 h1).1;simpa using this
      have hjj:j'=j:=by have:=(List.getElem?_eq_some_iff.1 h1).2;simpa using this.symm
      subst hjj;obtain ⟨zz,hz⟩:=Qa.1 (hsome j' (by rw [hcw];exact hj));rw [hi.mem _ _ _ hz,<- h2];simp [oS,hz])
     (by omega) (by rw [i3];exact hb) (by omega)
    rw [xH ho (hevx.trans htip) hrun];show K (a.put o.dst _) _;rw [hd];refine hk' _ _ ?_;rw [vZ];have hge:=grownCap_ge w (c.len+p.src.len) cap e;have hml:grownCap w (c.len+p.src.len) cap e<=maxLen:=grownCap_le_maxLen w _ cap e (by simp only [maxLen];omega);generalize hA:(((W8 (c.len*E.w)).map λj=>oS M b j).toArray++G.toArray++Q7 z.cells (grownCap w (c.len+p.src.len) cap e - (c.len+p.src.len)))=A;have hsize:A.size=grownCap w (c.len+p.src.len) cap e*E.w:=by
     rw [<- hA];simp only [Qu,Qv,List.length_map,List.length_range,size_zeroCells,hzs,hnl,<- Qi];congr 1;omega
    have hfit:(c.len+p.src.len)*E.w<=grownCap w (c.len+p.src.len) cap e*E.w:=Q6 _ hge;have hget:∀ j,j<(c.len+p.src.len)*E.w->A[j]? = some (if j<c.len*E.w then oS M b j else g (j - c.len*E.w)):=by
     intro j hj;rw [<- hA,Array.getElem?_append_left (by simp;omega)];by_cases hjc:j<c.len*E.w
     ·rw [if_pos hjc,Array.getElem?_append_left (by simpa using hjc)];simp [hjc]
     ·rw [if_neg hjc,Array.getElem?_append_right (by simp;omega)];have:=n3 (j - c.len*E.w) (by rw [hcw];omega);simpa using this
    have hle:M.le (xY M w.heap.size 0 ((c.len+p.src.len)*rr.width) (A[·]?)):=uM λo _ _=>hi.mlt (Q5 _);have I:Rep (xY M w.heap.size 0 ((c.len+p.src.len)*rr.width) (A[·]?)) rr (.slice (some ⟨w.heap.size,0,none⟩) (c.len+p.src.len) (grownCap w (c.len+p.src.len) cap e)):=by
     have:=wH (M':=xY M w.heap.size 0 ((c.len+p.src.len)*rr.width) (A[·]?)) (b:=w.heap.size) (o:=0) (cap:=grownCap w (c.len+p.src.len) cap e) F q2 hle ?_ (by omega)
     ·rwa [q6] at this
     intro j hj;rw [q6] at hj;simp only [xY,Qc];rw [if_pos ⟨trivial,Qq _,hj⟩];rw [hrw] at hj;rw [hget j hj,hcw]
    refine ⟨_,_,_,h0.trans' hle,zGz hi hpk hbk _,(hi.bufNew (tA w _ e) (.inr ⟨c,hbk,by omega,q7⟩) q2 (by omega) ?_ ?_ hml I).put (hws d (by simp [Qs])) ?_⟩
    ·rw [hsize,hrw];exact hfit
    ·rw [hsize,hrw];exact Q5 _
    ·rw [q6];refine .buf k _ rr _ (zW _ _ _) q2 (by omega) ?_ (λ_=>(yU _ _ _).symm);rw [<- q6,sP q2,q6];exact I
 ·intro e he;rcases Qg.1 he with he | he
  ·subst he;exact hk
  ·exact uJ vy p bs hp e he
end
mutual
def AV.ren (ρ:Nat->Nat):AV->AV
 | .p v=>.p v
 | .nl c=>.nl c
 | .ptr k o=>.ptr (ρ k) o
 | .ref k o n=>.ref (ρ k) o n
 | .buf k n=>.buf (ρ k) n
 | .ag l=>.ag (oG ρ l)
 | .tu l=>.tu (oG ρ l)
 | .fnv f l=>.fnv f (oG ρ l)
 | .own k n=>.own (ρ k) n
 | .optr k n o=>.optr (ρ k) n o
 | .osl k n o m=>.osl (ρ k) n o m
def oG (ρ:Nat->Nat):List AV->List AV
 | []=>[]
 | v :: r=>v.ren ρ :: oG ρ r
end
theorem qD (y:Nat->Nat):∀ (l:List AV),(oG y l).length=l.length/\∀ (j:Nat),(oG y l)[j]? = (l[j]?).map (AV.ren y)
 | []=>⟨rfl,by simp [oG]⟩
 | v :: r=>by
  obtain ⟨F,E⟩:=qD y r;refine ⟨by simp [oG,F],λj=>?_⟩;cases j with
  | zero=>rfl
  | succ j=>simp [oG,E j]
def zN.ren (ρ:Nat->Nat):zN->zN
 | .var l=>.var (oG ρ l)
 | .buf c=>.buf c
 | .own w l=>.own w (oG ρ l)
theorem RepA.ren {D:Nat->Value} {B':NB} {A:Nat->Nat} (W:∀ k b,κ k=some b->T (A k)=some b) (I:∀ k b,B k=some b->B' (A k)=some (b.ren A)/\D (A k)=tip k) {x:Value}
  (hr:RepA M κ tip B v x):RepA M T D B' (v.ren A) x:=by
 induction hr with
 | p v x d=>exact .p v x d
 | nl c d=>exact .nl c d
 | ptr k o b l d E=>exact .ptr _ o b _ (W _ _ d) (I _ _ E).1
 | ref k o n b l d E=>exact .ref _ o n b _ (W _ _ d) (I _ _ E).1
 | buf k n c x d K E h J=>exact .buf _ n c x (I _ _ d).1 K E h (λe=>by rw [J e,(I _ _ d).2])
 | ag l U d _ S=>
  obtain ⟨N,F⟩:=qD A l;refine .ag _ U (by omega) (λj q G=>?_);rw [F] at G;obtain ⟨V,h,J⟩:=Q3.1 G;subst J;exact S j V h
 | tu l U d _ S=>
  obtain ⟨N,F⟩:=qD A l;refine .tu _ U (by omega) (λj q G=>?_);rw [F] at G;obtain ⟨V,h,J⟩:=Q3.1 G;subst J;exact S j V h
 | fnv f l U d _ S=>
  obtain ⟨N,F⟩:=qD A l;refine .fnv f _ U (by omega) (λj q G=>?_);rw [F] at G;obtain ⟨V,h,J⟩:=Q3.1 G;subst J;exact S j V h
 | own k n w l x d E h K=>
  obtain ⟨N,F⟩:=qD A l;exact .own _ n w _ x (I _ _ d).1 (by omega) (λe=>by rw [h (by omega),(I _ _ d).2]) K
 | optr k n o w l x d E h K=>
  obtain ⟨N,F⟩:=qD A l;exact .optr _ n o w _ x (I _ _ d).1 (by omega) (λe=>by
   obtain ⟨b,g1,Z⟩:=h (by omega);exact ⟨b,W _ _ g1,Z⟩) K
 | osl k n o m w l x d E h K=>
  obtain ⟨N,F⟩:=qD A l;exact .osl _ n o m w _ x (I _ _ d).1 (by omega) (λe=>by
   obtain ⟨b,c,g1,Z⟩:=h (by omega);exact ⟨b,c,W _ _ g1,Z⟩) K
def Callable (P:Program) (f:FuncId):Prop:=∃ fn,P.funcs[f]? = some fn/\fn.body.isNone=false/\(fn.name == "runtime.NumGoroutine")=false
def Ok (P:Program) (f:FuncId) (na:Nat) (as rs:AS):Prop:=Callable P f /\
 ∀ (w:World) (M:Mem) (pk:PKs) (args:Array Value) (κ:Nat->Option Nat) (tip:Nat->Value),Inv ⟨w,M,pk,na,[]⟩ M κ tip as ⟨args,[]⟩ w->(∀ k∈pk,κ k.1=some k.2/\k.2<w.heap.size) ->
  Calls P f args w λe w'=>∃ v,e=.returned v/\SRel ⟨w,M,pk,1,[]⟩ rs ⟨#[v],[]⟩ w'
def argE (i:Nat):List PV->LV
 | []=>[]
 | p :: r=>(i,.p p) :: argE (i+1) r
theorem zEr:∀ (l:List PV) (i t:Nat) (v:AV),lk (argE i l) t=some v->∃ p,v=.p p/\i<=t/\l[t - i]? = some p
 | [],i,t,v,h=>by simp [argE,lk] at h
 | p :: r,i,t,v,h=>by
  simp only [argE,lk] at h;cases E:Q2 t i with
  | true=>
   simp_all
  | false=>
   simp [E] at h;obtain ⟨q,G,I,F⟩:=zEr r _ t v h;refine ⟨q,G,by omega,?_⟩;have:t - i=(t - (i+1))+1:=by omega
   simp_all
section
inductive iF (s:AS) (te:TE):List Operand->List TypeId->List PV->LV->LB->Prop where
 | nil:iF s te [] [] [] [] []
 | cons (x:Operand) (t:TypeId) (v:AV) (p:PV) (bs:LB) (xs:List Operand) (ts:List TypeId) (ps:List PV) (rs:LV) (bb:LB) :
   s.get te t x=some v->s.rd v=some (p,bs)->iF s te xs ts ps rs bb->iF s te (x :: xs) (t :: ts) (p :: ps) (opS x v++rs) (bs++bb)
theorem iF.reads {xs:List Operand} {A:List TypeId} {y:LV} (h:iF s te xs A ps y bb):wR s y/\∀ e∈bb,s.blk e.1=some e.2:=by
 induction h with
 | nil=>exact ⟨by intro e d;simp_all,by simp⟩
 | cons x t v p bs xs A ps y bb I J _ F=>exact ⟨yL (zP I) F.1,λe d=>(Qp.1 d).elim (uJ v p bs J e) (F.2 e)⟩
theorem iF.rep {xs:List Operand} {F:List TypeId} {D:LV} (h:iF s te xs F ps D bb) (W:Inv cx M κ tip s' a w) :
  wR s' D->(∀ e∈bb,s'.blk e.1=some e.2)->xs.length=ps.length/\∀ (j:Nat) (p:PV),ps[j]? = some p->Rep M p (((xs.map a.eval)[j]?).getD undef):=by
 induction h with
 | nil=>simp
 | cons x t v p bs xs F ps D bb V h2 _ T=>
  intro G J;obtain ⟨Z,N⟩:=T (zX G) (λe y=>J e (Qp.2 (.inr y)));refine ⟨by simp [Z],λj q A=>?_⟩;cases j with
  | zero=>simp at A;subst A;simpa using eK W V h2 (yG G) (λe y=>J e (Qp.2 (.inl y)))
  | succ j=>simp_all
def inS (s:AS) (ρ:Nat->Nat) (blks:LB):AS:={ s with blk:=λk=>(lk (blks.map λe=>(ρ e.1,e.2.ren ρ)) k).or (s.blk k) }
theorem zP2 (d:Nat->Nat):∀ (blks:LB),(∀ e∈blks,∀ G∈blks,d e.1=d G.1->e.1=G.1)->∀ (k:Nat) (b:zN),lk blks k=some b->lk (blks.map λe=>(d e.1,e.2.ren d)) (d k)=some (b.ren d)
 | [],_,k,b,h=>by simp [lk] at h
 | (j,c) :: rest,v,k,b,h=>by
  simp only [lk] at h;simp only [Qd,lk];cases F:Q2 k j with
  | true=>
   simp_all
  | false=>
   simp [F] at h;have D:=sY rest k b h;have I:d k≠d j:=λe=>by
    have:=v (k,b) (List.mem_cons_of_mem _ D) (j,c) (by simp) e;simp only at this;subst this;simp at F
   have:Q2 (d k) (d j)=false:=by rw [Q8];simp_all
   simp only [this,cond_false];exact zP2 d rest (λe N G J=>v e (by simp [N]) G (by simp [J])) k b h
theorem zD9 (v:Nat->Nat):∀ (blks:LB) (i:Nat) (b:zN),lk (blks.map λe=>(v e.1,e.2.ren v)) i=some b->∃ k∈blks.map (·.1),i=v k
 | [],i,b,h=>by simp [lk] at h
 | (j,c) :: rest,i,b,h=>by
  simp only [Qd,lk] at h;cases E:Q2 i (v j) with
  | true=>simp_all
  | false=>
   simp [E] at h;obtain ⟨k,A,G⟩:=zD9 v _ i b (by omega);exact ⟨k,by simp_all,G⟩
def fk (ρ:Nat->Nat) (D:List Nat) (i:Nat):Option Nat:=D.find? λj=>Q2 i (ρ j)
theorem zC1 {v:Nat->Nat} (y:∀ j∈D,∀ d∈D,v j=v d->j=d) (E:j∈D):fk v D (v j)=some j:=by
 unfold fk;cases h:D.find? _ with
 | none=>
  have:=List.find?_eq_none.1 h j E;simp_all
 | some d=>
  have I:=List.find?_some h;have G:=List.mem_of_find?_eq_some h;have:=y j E d G (Q0 I);simp_all
theorem pQ {d:Nat->Nat} {i:Nat} (h:fk d D i=some j):j∈D/\i=d j:=
 ⟨List.mem_of_find?_eq_some h,Q0 (by have:=List.find?_some h;omega)⟩
theorem Inv.import (hi:Inv cx M κ tip s a w) {a':Act} {κ':Nat->Option Nat} {tip':Nat->Value} (hM:M.le M')
  (hr:Inv ⟨w,M,pk,n,[]⟩ M' κ' tip' (mkS env blks) a' w') (A:Nat->Nat) (hinj:∀ j∈blks.map (·.1),∀ j'∈blks.map (·.1),A j=A j'->j=j')
  (hpk:∀ e∈pk,κ' e.1=some e.2/\κ (A e.1)=some e.2/\(∃ l,s.blk (A e.1)=some (.var l))/\∃ l',lk blks e.1=some (.var l'))
  (hfr:∀ j∈blks.map (·.1),(∃ b,(j,b)∈pk)∨s.blk (A j)=none) (hob:∀ b∈pk.ob,(∀ i,κ i≠some b)/\(cx.w0.heap.size<=b∨b∈cx.ob/\∀ j∈blks.map (·.1),BIG<=j->BIG<=A j)) :
  Inv cx M' (λi=>match fk A (blks.map (·.1)) i with | some j=>κ' j | none=>κ i) (λi=>match fk A (blks.map (·.1)) i with | some j=>tip' j | none=>tip i) (inS s A blks) a w' /\
  ∀ v x,RepA M' κ' tip' (mkS env blks).blk v x->RepA M' (λi=>match fk A (blks.map (·.1)) i with | some j=>κ' j | none=>κ i) (λi=>match fk A (blks.map (·.1)) i with | some j=>tip' j | none=>tip i) (inS s A blks).blk (v.ren A) x:=by
 generalize hκ2:(λi=>match fk A (blks.map (·.1)) i with | some j=>κ' j | none=>κ i)=κ2;generalize ht2:(λi=>match fk A (blks.map (·.1)) i with | some j=>tip' j | none=>tip i)=tip2;have kin:∀ j∈blks.map (·.1),κ2 (A j)=κ' j:=λj F=>by rw [<- hκ2];simp only [zC1 hinj F]
 have tin:∀ j∈blks.map (·.1),tip2 (A j)=tip' j:=λj F=>by rw [<- ht2];simp only [zC1 hinj F]
 have D:∀ i,fk A (blks.map (·.1)) i=none->κ2 i=κ i/\tip2 i=tip i:=λi h=>by rw [<- hκ2,<- ht2];simp only [h,and_self]
 have bin:∀ j b,lk blks j=some b->(inS s A blks).blk (A j)=some (b.ren A):=λj b h=>by
  simp only [inS];rw [zP2 A blks (λe he e' he' h=>hinj _ (Q4.2 ⟨e,he,rfl⟩) _ (Q4.2 ⟨e',he',rfl⟩) h) j b h];rfl
 have bout:∀ i,fk A (blks.map (·.1)) i=none->(inS s A blks).blk i=s.blk i:=λi h=>by
  simp only [inS];cases hl:lk (blks.map λe=>(A e.1,e.2.ren A)) i with
  | none=>rfl
  | some b=>
   obtain ⟨k,h1,h2⟩:=zD9 A blks i b hl;subst h2;rw [zC1 hinj h1] at h;cases h
 have lkin:∀ j∈blks.map (·.1),∃ b,lk blks j=some b:=by
  intro j F;clear hr hinj hpk hfr hob kin tin D bin bout hκ2 ht2;induction blks with
  | nil=>simp at F
  | cons e rest ih=>
   obtain ⟨k,b⟩:=e;simp only [lk];cases hb:Q2 j k with
   | true=>exact ⟨b,by simp⟩
   | false=>
    simp only [cond_false];refine ih ?_;simp only [Qd,Qg] at F;rcases F with h | h
    ·subst h;simp at hb
    ·exact h
 have lkmem:∀ j b,lk blks j=some b->j∈blks.map (·.1):=λj b h=>Q4.2 ⟨(j,b),sY blks j b h,rfl⟩;have param:∀ j∈blks.map (·.1),s.blk (A j)≠none->∃ b,(j,b)∈pk:=λj F h=>(hfr j F).resolve_right h;have gle:GLe κ κ2 tip tip2 s.blk (inS s A blks).blk:={
  var:=λi b l h h'=>by
   cases E:fk A (blks.map (·.1)) i with
   | none=>rw [(D i E).1,bout i E];exact ⟨h,l,h'⟩
   | some j=>
    obtain ⟨F,rfl⟩:=pQ E;obtain ⟨b',hb'⟩:=param j F (by rw [h'];simp);obtain ⟨p1,p2,_,l',p4⟩:=hpk (j,b') hb';simp only at p1 p2 p4;rw [kin j F];rw [p2] at h;cases h;exact ⟨p1,_,bin j _ p4⟩
  buf:=λi c h=>by
   cases E:fk A (blks.map (·.1)) i with
   | none=>exact Qy (by rw [bout i E];exact h) (D i E).2
   | some j=>
    obtain ⟨F,rfl⟩:=pQ E;obtain ⟨b',hb'⟩:=param j F (by rw [h];simp);obtain ⟨_,_,⟨l,p3⟩,_⟩:=hpk (j,b') hb';simp only at p3;rw [h] at p3;cases p3
  own:=λi c l1 h=>by
   cases E:fk A (blks.map (·.1)) i with
   | none=>exact Qr (by rw [bout i E];exact h) (D i E).1 (D i E).2
   | some j=>
    obtain ⟨F,rfl⟩:=pQ E;obtain ⟨b',hb'⟩:=param j F (by rw [h];simp);obtain ⟨_,_,⟨l,p3⟩,_⟩:=hpk (j,b') hb';simp only at p3;rw [h] at p3;cases p3 }
 have hold:∀ {v:AV} {x:Value},RepA M κ tip s.blk v x->RepA M' κ2 tip2 (inS s A blks).blk v x:=λh=>(h.mono hM).ghost gle;have hnew:∀ {v:AV} {x:Value},RepA M' κ' tip' (mkS env blks).blk v x->RepA M' κ2 tip2 (inS s A blks).blk (v.ren A) x:=λh=>
  h.ren (λk b hk=>by
   have:k∈blks.map (·.1):=by
    cases hb:lk blks k with
    | none=>rw [hr.dom k hb] at hk;cases hk
    | some b'=>exact lkmem k b' hb
   rw [kin k this];exact hk) (λk b hb=>⟨bin k b hb,tin k (lkmem k b hb)⟩)
 have hsz:w.heap.size<=w'.heap.size:=hr.fr.size;have hbase:cx.w0.heap.size<=w.heap.size:=hi.fr.size;have notp:∀ i b,κ i=some b->fk A (blks.map (·.1)) i=none->b∉Ctx.pb ⟨w,M,pk,n,[]⟩:=by
  intro i b h1 h2 h3;simp only [Ctx.pb,Q4] at h3;obtain ⟨e,he,rfl⟩:=h3;obtain ⟨_,p2,_,l',p4⟩:=hpk e he;have:=hi.inj i (A e.1) e.2 h1 p2;subst this;rw [zC1 hinj (lkmem _ _ p4)] at h2;cases h2
 have noto:∀ i b,κ i=some b->b∉pk.ob:=λi b h1 h2=>(hob b h2).1 i h1;have newb:∀ j b,κ' j=some b->(∃ b,(j,b)∈pk)∨w.heap.size<=b∨b∈pk.ob/\∃ wd l,lk blks j=some (.own wd l):=by
  intro j b h;cases hb:lk blks j with
  | none=>rw [hr.dom j hb] at h;cases h
  | some bl=>
   cases bl with
   | var l=>
    obtain ⟨b',arr,e,fz,q1,q2,q3,q4,q5,q6,q7⟩:=hr.vars j l hb;rw [h] at q1;cases q1;rcases q7 with q7 | q7
    ·exact .inr (.inl q7)
    ·simp only [Ctx.pb,Q4] at q7;obtain ⟨e,he,he2⟩:=q7;have:=hr.inj j e.1 b h (by rw [(hpk e he).1,he2]);exact .inl ⟨e.2,by rw [this];exact he⟩
   | buf c=>
    obtain ⟨_,_,_,q4⟩:=hr.bufs j c hb;rcases q4 with ⟨_,q5⟩ | ⟨b',n',cap,arr,e,fz,_,q5,q6,_⟩
    ·rw [h] at q5;cases q5
    ·rw [h] at q5;cases q5;exact .inr (.inl q6)
   | own wd l=>
    rcases hr.owns j wd l hb with ⟨_,q5,_⟩ | ⟨_,⟨_,q5,_⟩ | ⟨b',n',cap,arr,e,fz,_,q5,q6,_⟩⟩
    ·rw [h] at q5;cases q5
    ·rw [h] at q5;cases q5
    ·rw [h] at q5;cases q5;exact .inr (q6.imp id λh=>⟨h.1,wd,l,rfl⟩)
 refine ⟨{
  defers:=hi.defers
  size:=hi.size
  fr:=⟨hr.fr.os.trans hi.fr.os,hr.fr.tape.trans hi.fr.tape,hr.fr.output.trans hi.fr.output,by omega,λb h1 h2 h2'=>by
   rw [hr.fr.block b (by simp only;omega) ?_ (λh=>(hob b h).2.elim (λh=>by omega) λh=>h2' h.1)]
   ·exact hi.fr.block b h1 h2 h2'
   ·intro h3;simp only [Ctx.pb,Q4] at h3;obtain ⟨e,he,rfl⟩:=h3;obtain ⟨_,p2,⟨l,p3⟩,_⟩:=hpk e he;obtain ⟨b',arr,e',fz,q1,_,_,_,_,_,q7⟩:=hi.vars _ l p3;rw [p2] at q1;cases q1;rcases q7 with q7 | q7
    ·omega
    ·exact h2 q7⟩
  mem:=hr.mem
  env:=λt v h=>let ⟨x,h1,h2⟩:=hi.env t v h;⟨x,h1,hold h2⟩
  vars:=λi l h=>by
   cases E:fk A (blks.map (·.1)) i with
   | none=>
    rw [bout i E] at h;obtain ⟨b,arr,e,fz,q1,q2,q3,q4,q5,q6,q7⟩:=hi.vars i l h;have hlt:=hi.lt q1;refine ⟨b,arr,e,fz,by rw [(D i E).1];exact q1,?_,q3,q4,λj q hq=>hold (q5 j q hq),λo=>?_,q7⟩
    ·rw [hr.fr.block b hlt (notp i b q1 E) (noto i b q1)];exact q2
    ·have:=hr.old.1 b o hlt;simp only at this;rw [this];exact q6 o
   | some j=>
    obtain ⟨F,rfl⟩:=pQ E;obtain ⟨bl,hbl⟩:=lkin j F;rw [bin j bl hbl] at h;cases bl with
    | buf c=>cases h
    | own wd l0=>cases h
    | var l0=>
     cases h;obtain ⟨b,arr,e,fz,q1,q2,q3,q4,q5,q6,q7⟩:=hr.vars j l0 hbl;obtain ⟨r1,r2⟩:=qD A l0;refine ⟨b,arr,e,fz,by rw [kin j F];exact q1,q2,q3,by omega,λjj q hq=>?_,q6,?_⟩
     ·rw [r2] at hq;obtain ⟨q',h3,h4⟩:=Q3.1 hq;subst h4;exact hnew (q5 jj q' h3)
     ·rcases newb j b q1 with ⟨b',hp⟩ | G
      ·obtain ⟨p1,p2,⟨l,p3⟩,_⟩:=hpk (j,b') hp;simp only at p1 p2 p3;rw [q1] at p1;cases p1;obtain ⟨b2,_,_,_,q1',_,_,_,_,_,q7'⟩:=hi.vars _ l p3;rw [p2] at q1';cases q1';exact q7'
      ·rcases G with G | ⟨_,wd,l9,G⟩
       ·exact .inl (by omega)
       ·rw [hbl] at G;cases G
  bufs:=λi c h=>by
   cases E:fk A (blks.map (·.1)) i with
   | none=>
    rw [bout i E] at h;obtain ⟨q1,q2,q3,q4⟩:=hi.bufs i c h;rw [(D i E).1,(D i E).2];refine ⟨q1.mono hM,q2,q3,?_⟩;rcases q4 with q4 | ⟨b,n',cap,arr,e,fz,z1,z2,z3,z4,z5,z6,z7,z8⟩
    ·exact .inl q4
    ·have hlt:=hi.lt z2;refine .inr ⟨b,n',cap,arr,e,fz,z1,z2,z3,?_,z5,z6,z7,λj F=>?_⟩
     ·rw [hr.fr.block b hlt (notp i b z2 E) (noto i b z2)];exact z4
     ·have:=hr.old.1 b j hlt;simp only at this;rw [this];exact z8 j F
   | some j=>
    obtain ⟨F,rfl⟩:=pQ E;obtain ⟨bl,hbl⟩:=lkin j F;rw [bin j bl hbl] at h;cases bl with
    | var l0=>cases h
    | own wd l0=>cases h
    | buf c0=>
     have hcc:c0=c:=by simpa [zN.ren] using h
     subst hcc;obtain ⟨q1,q2,q3,q4⟩:=hr.bufs j c0 hbl;rw [kin j F,tin j F];refine ⟨q1,q2,q3,?_⟩;rcases q4 with q4 | ⟨b,n',cap,arr,e,fz,z1,z2,z3,z4⟩
     ·exact .inl q4
     ·exact .inr ⟨b,n',cap,arr,e,fz,z1,z2,by simp only at z3;omega,z4⟩
  inj:=λi i' b h1 h2=>by
   cases E:fk A (blks.map (·.1)) i with
   | none=>
    rw [(D i E).1] at h1;cases hf':fk A (blks.map (·.1)) i' with
    | none=>rw [(D i' hf').1] at h2;exact hi.inj i i' b h1 h2
    | some j'=>
     obtain ⟨hj',rfl⟩:=pQ hf';rw [kin j' hj'] at h2;rcases newb j' b h2 with ⟨b',hp⟩ | G
     ·exact (notp i b h1 E (by
       simp only [Ctx.pb,Q4];obtain ⟨p1,_⟩:=hpk (j',b') hp;simp only at p1;rw [h2] at p1;cases p1;exact ⟨(j',b),hp,rfl⟩)).elim
     ·rcases G with G | G
      ·have:=hi.lt h1;omega
      ·exact (noto i b h1 G.1).elim
   | some j=>
    obtain ⟨F,rfl⟩:=pQ E;rw [kin j F] at h1;cases hf':fk A (blks.map (·.1)) i' with
    | none=>
     rw [(D i' hf').1] at h2;rcases newb j b h1 with ⟨b',hp⟩ | G
     ·exact (notp i' b h2 hf' (by
       simp only [Ctx.pb,Q4];obtain ⟨p1,_⟩:=hpk (j,b') hp;simp only at p1;rw [h1] at p1;cases p1;exact ⟨(j,b),hp,rfl⟩)).elim
     ·rcases G with G | G
      ·have:=hi.lt h2;omega
      ·exact (noto i' b h2 G.1).elim
    | some j'=>
     obtain ⟨hj',rfl⟩:=pQ hf';rw [kin j' hj'] at h2;rw [hr.inj j j' b h1 h2]
  dom:=λi h=>by
   cases E:fk A (blks.map (·.1)) i with
   | none=>rw [bout i E] at h;rw [(D i E).1];exact hi.dom i h
   | some j=>
    obtain ⟨F,rfl⟩:=pQ E;obtain ⟨bl,hbl⟩:=lkin j F;rw [bin j bl hbl] at h;cases h
  glob:=hi.glob.mono hM
  old:=⟨λb o hb=>by
   have:=hr.old.1 b o (by simp only;omega);simp only at this;rw [this];exact hi.old.1 b o hb,hi.old.2⟩
  owns:=λi wd l h=>by
   cases E:fk A (blks.map (·.1)) i with
   | none=>
    rw [bout i E] at h;rw [(D i E).1,(D i E).2];rcases hi.owns i wd l h with g0 | ⟨g1,g2⟩
    ·exact .inl g0
    refine .inr ⟨g1,?_⟩;rcases g2 with g2 | ⟨b,n',cap,arr,e,fz,z1,z2,z3,z4,z5,z6,z7,z8,z9,z10,z11⟩
    ·exact .inl g2
    ·have hlt:=hi.lt z2;refine .inr ⟨b,n',cap,arr,e,fz,z1,z2,z3,?_,z5,z6,z7,z8,z9,λj q hq=>hold (z10 j q hq),λo=>?_⟩
     ·rw [hr.fr.block b hlt (notp i b z2 E) (noto i b z2)];exact z4
     ·have:=hr.old.1 b o hlt;simp only at this;rw [this];exact z11 o
   | some j=>
    obtain ⟨F,rfl⟩:=pQ E;obtain ⟨bl,hbl⟩:=lkin j F;rw [bin j bl hbl] at h;cases bl with
    | var l0=>cases h
    | buf c0=>cases h
    | own wd0 l0=>
     cases h;obtain ⟨r1,r2⟩:=qD A l0;rw [kin j F,tin j F];rcases hr.owns j wd l0 hbl with ⟨g1,g2,rfl⟩ | ⟨g1,g2⟩
     ·exact .inl ⟨g1,g2,rfl⟩
     refine .inr ⟨g1,?_⟩;rcases g2 with ⟨y1,y2,rfl⟩ | ⟨b,n',cap,arr,e,fz,z1,z2,z3,z4,z5,z6,z7,z8,z9,z10,z11⟩
     ·exact .inl ⟨y1,y2,rfl⟩
     ·refine .inr ⟨b,n',cap,arr,e,fz,z1,z2,z3.elim (λh=>.inl (Qo hbase h)) (λh=>(hob b h.1).2.imp id λh'=>⟨h'.1,h'.2 j F h.2⟩),z4,z5,by omega,z7,z8,z9,λjj q hq=>?_,z11⟩;rw [r2] at hq;obtain ⟨q',h3,h4⟩:=Q3.1 hq;subst h4;exact hnew (z10 jj q' h3) },λv x h=>hnew h⟩
end
def sh (d j:Nat):Nat:=j+1000*(d+1)
theorem zX5 (d:Nat) (h:sh d j=sh d j'):j=j':=by unfold sh at h;omega
section
theorem zMj (L:o.op=.call { callee:=.value (.func f),args:=xs,argTypes:=ts }) (S:Callable P f) :
  (execOp a.eval o).run P w=.ok (.enter f (xs.map a.eval)) w:=by
 obtain ⟨J,V,U,N⟩:=S;have A:J.body≠none:=by intro e;simp [e] at U
 have E:J.name ≠ "runtime.NumGoroutine":=by simp_all
 simp [execOp,L,resolve,Act.eval,Deferred.ofValue,invoke,callFunc,V,A,E]
theorem yAg (V:GlobOk w M) (N:∀ b o x,M b o=some x->w.cell? ⟨b,o,none⟩=some x) (U:args.size=ps.length) (hr:∀ (j:Nat) (p:PV),ps[j]? = some p->Rep M p (args.getD j undef)) :
  Inv ⟨w,M,zXd,ps.length,[]⟩ M (λ_=>none) (λ_=>undef) (mkS (argE 0 ps) []) ⟨args,[]⟩ w where
 defers:=rfl
 size:=U
 fr:=⟨rfl,rfl,rfl,Q5 _,λ_ _ _ _=>rfl⟩
 mem:=N
 env:=λt v h=>by
  obtain ⟨p,rfl,_,F⟩:=zEr ps 0 t v h;have T:=(List.getElem?_eq_some_iff.1 F).1;have A:=by omega
  refine ⟨args[t],by simp [A],.p _ _ ?_⟩;have:=hr t p F;simp_all
 vars:=λk l h=>by simp [mkS,lk] at h
 bufs:=λk c h=>by simp [mkS,lk] at h
 inj:=λk Y b h=>by simp
 dom:=λ_ _=>rfl
 old:=⟨λ_ _ _=>rfl,λ_ h=>by cases h⟩
 glob:=V
 owns:=λk wd l h=>by simp [mkS,lk] at h
theorem zHf {rs:LV} {ρ:Nat->Nat} :Qw ⟨rs,bb,fr,some (d,some v),blks.map λe=>(ρ e.1,e.2.ren ρ)⟩ s=(inS s ρ blks).put d v:=rfl
theorem yEd {rs:LV} (hd:o.dst=some d) (ho:o.op=.call { callee:=.value (.func f),args:=xs,argTypes:=ts })
  (J:Ok P f na (mkS (argE 0 ps) []) (mkS [(0,av)] blks)) (I:xs.toList=xl) (br:ts.toList=tl) (U:iF s te xl tl ps rs bb) (hn:na=ps.length) (hf:∀ k∈(blks.map λe=>sh d e.1),s.blk k=none) :
  SA P o s ⟨rs,bb,blks.map λe=>sh d e.1,some (d,some (av.ren (sh d))),blks.map λe=>(sh d e.1,e.2.ren (sh d))⟩:=by
 refine ⟨?_,U.reads.1,U.reads.2,hf⟩;intro cx s' a w K Q S hs V hk;obtain ⟨M,κ,tip,h0,hp,L⟩:=hs;obtain ⟨hl,G⟩:=U.rep L S.1 S.2.1;have W:(xs.map a.eval).size=ps.length:=by rw [<- hl,<- I];simp
 have N:=yAg (w:=w) (L.globw hp) L.mem W (λj p F=>by
  have:=G j p F;rw [<- I] at this;simpa using this)
 subst hn;unfold Oper.wp;rw [zMj ho J.1];show Calls P f _ w _;refine (J.2 w M zXd _ _ _ N (by simp)).mono ?_;rintro e w' ⟨v,rfl,M',cc,bk,E,bx,hr⟩;show K (a.put o.dst v) w';rw [hd];refine hk _ _ ?_;rw [zHf];obtain ⟨i1,i2⟩:=L.import E hr (sh d) (λj _ j' _ h=>zX5 d h) (by simp) (hob:=by simp) (λj F=>.inr (by
  refine S.2.2 (sh d j) ?_;obtain ⟨e,he,rfl⟩:=Q4.1 F;exact Q4.2 ⟨e,he,rfl⟩))
 obtain ⟨x,hx,Y⟩:=hr.env 0 av (by simp [mkS,lk]);simp at hx;subst hx;refine ⟨M',_,_,h0.trans' E,?_,i1.put (V d (by simp [Qs])) (i2 av v Y)⟩;intro k bd;obtain ⟨h1,h2⟩:=hp k bd;refine ⟨?_,h2⟩;have:fk (sh d) (blks.map (·.1)) k.1=none:=by
  cases be:fk (sh d) (blks.map (·.1)) k.1 with
  | none=>rfl
  | some j=>
   obtain ⟨F,he⟩:=pQ be;have:=S.2.2 (sh d j) (by obtain ⟨e,ba,rfl⟩:=Q4.1 F;exact Q4.2 ⟨e,ba,rfl⟩);rw [he,L.dom _ this] at h1;cases h1
 simp only [this];exact h1
def shp (d k j:Nat):Nat:=bif Q2 j 0 then k else sh d j
theorem zRp (d k:Nat) (F:∀ j∈D,j≠0->sh d j≠k) (G:j∈D) (E:j'∈D) (h:shp d k j=shp d k j'):j=j':=by
 have y:∀ j:Nat,j≠0->Q2 j 0=false:=λj h=>by rw [Q8];simp_all
 unfold shp at h;by_cases a:j=0
 ·by_cases b:j'=0
  ·omega
  ·subst a;rw [y j' b] at h;exact (F j' E b h.symm).elim
 ·by_cases b:j'=0
  ·simp_all
  ·rw [y j a,y j' b] at h;exact zX5 d h
theorem aK {cs:List PV} (h:s.rdL l=some (cs,bs)) (hr:∀ (j:Nat) (q:AV),l[j]? = some q->RepA M κ tip s.blk q (arr.getD j undef)) :
  cs.length=l.length/\∀ (j:Nat) (q:PV),cs[j]? = some q->Rep M q (arr.getD j undef):=by
 obtain ⟨D,A⟩:=zGs l cs bs h;refine ⟨D,λj q F=>?_⟩;obtain ⟨v,b,G,E⟩:=A j q F;exact zIq (hr j v G) E
theorem zKc (hg:GlobOk w M) (hm:∀ b o x,M b o=some x->w.cell? ⟨b,o,none⟩=some x) {cs:List PV} (hs:args.size=ps.length+1) (h0:args[0]? = some (.pointer (some ⟨b,0,none⟩)))
  (hr:∀ (j:Nat) (p:PV),ps[j]? = some p->Rep M p (args.getD (j+1) undef)) (J:w.heap[b]? = some (.cells arr e fz)) (I:zD3 fz arr.size) (V:arr.size=cs.length) (Y:∀ (j:Nat) (q:PV),cs[j]? = some q->Rep M q (arr.getD j undef)) (hM:∀ o,M b o=none) :
  Inv ⟨w,M,⟨[(0,b)],[],by simp [BIG]⟩,ps.length+1,[]⟩ M (λk=>bif Q2 k 0 then some b else none) (λ_=>undef) (mkS ((0,.ptr 0 0) :: argE 1 ps) [(0,.var (cs.map .p))]) ⟨args,[]⟩ w where
 defers:=rfl
 size:=hs
 fr:=⟨rfl,rfl,rfl,Q5 _,λ_ _ _ _=>rfl⟩
 mem:=hm
 env:=λt v h=>by
  simp only [mkS,lk] at h;cases E:Q2 t 0 with
  | true=>
   have:=Q0 E;subst this;simp at h;subst h;exact ⟨_,h0,.ptr 0 0 b (cs.map .p) (by simp) (by simp [mkS,lk])⟩
  | false=>
   simp [E] at h;obtain ⟨p,rfl,S,h3⟩:=zEr ps 1 t v h;have bh:t - 1<ps.length:=(List.getElem?_eq_some_iff.1 h3).1;have G:t<args.size:=by omega
   refine ⟨args[t],by simp [G],.p _ _ ?_⟩;have:=hr (t - 1) p h3;rw [show t - 1+1=t by omega] at this;simpa [G] using this
 vars:=λk l h=>by
  simp only [mkS,lk] at h;cases E:Q2 k 0 with
  | true=>
   have:=Q0 E;subst this;simp at h;subst h;refine ⟨b,arr,e,fz,by simp,J,I,by simp [V],λj q Z=>?_,hM,.inr (by simp [Ctx.pb])⟩;rw [List.getElem?_map] at Z;obtain ⟨p,W,S⟩:=Q3.1 Z;subst S;exact .p _ _ (Y j p W)
  | false=>simp [E] at h
 bufs:=λk c h=>by
  simp only [mkS,lk] at h;cases E:Q2 k 0 with
  | true=>simp [E] at h
  | false=>simp [E] at h
 inj:=λk k' b' W S=>by
  cases E:Q2 k 0 with
  | true=>
   cases K:Q2 k' 0 with
   | true=>rw [Q0 E,Q0 K]
   | false=>simp [K] at S
  | false=>simp [E] at W
 dom:=λk h=>by
  simp only [mkS,lk] at h;cases E:Q2 k 0 with
  | true=>simp [E] at h
  | false=>simp
 old:=⟨λ_ _ _=>rfl,λ_ h=>by cases h⟩
 glob:=hg
 owns:=λk wd l h=>by
  simp only [mkS,lk] at h;cases E:Q2 k 0 with
  | true=>simp [E] at h
  | false=>simp [E] at h
theorem zWm {xa:Operand} {cs:List PV} {rs:LV} {bs0:LB} (hd:o.dst=some d)
  (ho:o.op=.call { callee:=.value (.func f),args:=xs,argTypes:=ts }) (bg:Ok P f na (mkS ((0,.ptr 0 0) :: argE 1 ps) [(0,.var (cs.map .p))]) (mkS [(0,av)] ((0,.var l') :: blks))) (hxl:xs.toList=xa :: xl) (htl:ts.toList=ta :: tl) (bi:s.get te ta xa=some (.ptr k 0)) (hbk:s.blk k=some (.var l)) (bk:s.rdL l=some (cs,bs0))
  (ha:iF s te xl tl ps rs bb) (hn:na=ps.length+1) (hf:∀ j∈(blks.map λe=>sh d e.1),s.blk j=none) (hne:∀ e∈blks,e.1≠0) :
  SA P o s ⟨opS xa (.ptr k 0)++rs,(k,.var l) :: (bs0++bb),blks.map λe=>sh d e.1,some (d,some (av.ren (shp d k))),((0,.var l') :: blks).map λe=>(shp d k e.1,e.2.ren (shp d k))⟩:=by
 refine ⟨?_,yL (zP bi) ha.reads.1,?_,hf⟩
 ·intro cx s' a w K Q hm hs bw hk;obtain ⟨M,κ,tip,h0,hp,U⟩:=hs;have hb':∀ e∈bb,s'.blk e.1=some e.2:=λe A=>hm.2.1 e (by simp [A]);have be:∀ e∈bs0,s'.blk e.1=some e.2:=λe A=>hm.2.1 e (by simp [A]);have N:s'.blk k=some (.var l):=hm.2.1 (k,.var l) (by simp);obtain ⟨hl,bl⟩:=ha.rep U (zX hm.1) hb';have T:=yB U (yI bi s' (yG hm.1));obtain ⟨b,arr,e,fz,q1,q2,q3,q4,q5,q6,q7⟩:=U.vars k l N;have hev:a.eval xa=.pointer (some ⟨b,0,none⟩):=by
   generalize a.eval xa=z at T;cases T with
   | ptr _ _ b' _ g1 g2=>rw [q1] at g1;cases g1;rfl
  obtain ⟨c1,c2⟩:=aK (bT l cs bs0 bk be) q5;have S:(xs.map a.eval).toList=a.eval xa :: xl.map a.eval:=by simp [hxl]
  have hsz:(xs.map a.eval).size=ps.length+1:=by rw [<- hl,<- Qj,S];simp
  have ba:(xs.map a.eval)[0]? = some (.pointer (some ⟨b,0,none⟩)):=by rw [<- Array.getElem?_toList,S,<- hev];rfl
  have bm:=zKc (w:=w) (U.globw hp) U.mem hsz ba (λj p F=>by
   have:=bl j p F;rw [Q1,<- Array.getElem?_toList,S];simpa using this) q2 q3 (by omega) c2 q6
  subst hn;unfold Oper.wp;rw [zMj ho bg.1];show Calls P f _ w _;refine (bg.2 w M ⟨[(0,b)],[],by simp [BIG]⟩ _ _ _ bm (by intro k' I;simp at I;subst I;exact ⟨by simp,U.lt q1⟩)).mono ?_;rintro e' w' ⟨v,rfl,M',κ',tip',bn,bj,hr⟩;show K (a.put o.dst v) w';rw [hd];refine hk _ _ ?_;rw [zHf];have E:∀ j∈blks.map (·.1),s'.blk (sh d j)=none:=λj F=>by
   refine hm.2.2 (sh d j) ?_;obtain ⟨e,A,rfl⟩:=Q4.1 F;exact Q4.2 ⟨e,A,rfl⟩
  have hD:∀ j∈((0,zN.var l') :: blks).map (·.1),j≠0->sh d j≠k:=by
   intro j F D I;simp only [Qd,Qg] at F;rcases F with F | F
   ·exact D F
   ·have:=E j F;rw [I,N] at this;cases this
  obtain ⟨i1,i2⟩:=U.import bn hr (hob:=by simp) (shp d k) (λj F j' hj' h=>zRp d k hD F hj' h)
   (by
    intro e' bf;simp at bf;subst bf;exact ⟨(bj (0,b) (by simp)).1,by simpa [shp] using q1,⟨l,by simpa [shp] using N⟩,l',by simp [lk]⟩)
   (λj F=>by
    simp only [Qd,Qg] at F;by_cases D:j=0
    ·exact .inl ⟨b,by simp [D]⟩
    ·refine .inr ?_;have Z:Q2 j 0=false:=by rw [Q8];intro e;exact D (Q0 e)
     simp only [shp,Z,cond_false];exact E j (F.resolve_left D))
  obtain ⟨x,hx,hrx⟩:=hr.env 0 av (by simp [mkS,lk]);simp at hx;subst hx;refine ⟨M',_,_,h0.trans' bn,?_,i1.put (bw d (by simp [Qs])) (i2 av v hrx)⟩;intro k' I;obtain ⟨Y,h2⟩:=hp k' I;refine ⟨?_,h2⟩;cases bx:fk (shp d k) (((0,zN.var l') :: blks).map (·.1)) k'.1 with
  | none=>exact Y
  | some j=>
   obtain ⟨F,A⟩:=pQ bx;simp only;by_cases D:j=0
   ·subst D;simp only [shp] at A;rw [A] at Y;simp at Y;rw [q1] at Y;cases Y;exact (bj (0,k'.2) (by simp)).1
   ·have Z:Q2 j 0=false:=by rw [Q8];intro e;exact D (Q0 e)
    simp only [shp,Z,cond_false] at A;simp only [Qd,Qg] at F;have:=E j (F.resolve_left D);rw [A,U.dom _ this] at Y;cases Y
 ·intro e A;simp only [Qg,Qp] at A;rcases A with A | A | A
  ·subst A;exact hbk
  ·exact bF l cs bs0 bk e A
  ·exact ha.reads.2 e A
end
def PK (cx:Ctx) (ks:List Nat):Prop:=∀ k∈cx.pk,k.1∈ks
theorem Lep.mk' (v:PK cx ks) {blk:LB} (F:zOr s env) (y:zPn s blk) (A:nO (lk blk) env=true) (G:uF (lk blk) blk=true) (E:ks.all (λk=>(lk blk k).isSome)=true):Lep cx (mkS env blk) s:=
 ⟨Le.mk' F y A G,λk D=>(Qn.1 E) _ (v k D)⟩
def jU (P:Program) (fn:Func) (cx:Ctx) (s rs:AS):Prop:=∀ a w,SRel cx s a w->∃ v,(results fn a.tmps).run P w=.ok v w/\SRel { cx with nt:=1,df:=[] } rs ⟨#[v],[]⟩ w
def RetQ (P:Program) (fn:Func) (cx:Ctx) (rs:AS):Exit->AS->Prop:=λe s=>(e=.ret∨e=.normal)/\jU P fn cx s rs
theorem zJ5 {y:Func} {E:Code} {S:Nat} {as:AS} (hf:P.funcs[f]? = some y) (K:y.body=some E) (Z:(y.name == "runtime.NumGoroutine")=false) (ca:S<=y.ntmps) (Y:∀ k,k<BIG->(as.blk k).isSome=true->k∈ks)
  (h:∀ cx:Ctx,cx.nt=y.ntmps->PK cx ks->awp P cx E (RetQ P y cx rs) as):Ok P f S as rs:=by
 refine ⟨⟨y,hf,by simp [K],Z⟩,?_⟩;intro w M L args κ tip d F;refine calls_of_wp hf K ?_;have bu:args.size=S:=d.size;have J:Inv ⟨w,M,L,y.ntmps,[]⟩ M κ tip as { tmps:=args++Array.replicate (y.ntmps - args.size) undef,defers:=[] } w:={
  defers:=rfl
  size:=by simp;omega
  fr:=⟨d.fr.os,d.fr.tape,d.fr.output,d.fr.size,d.fr.block⟩
  mem:=d.mem
  env:=λt v e=>by
   obtain ⟨x,U,h2⟩:=d.env t v e;refine ⟨x,?_,h2⟩;simp only at U;have T:t<args.size:=(Array.getElem?_eq_some_iff.1 U).1;rw [Array.getElem?_append_left T];exact U
  vars:=d.vars
  bufs:=d.bufs
  inj:=d.inj
  dom:=d.dom
  glob:=d.glob
  old:=d.old
  owns:=d.owns }
 have V:=λk hk=>Y k.1 (L.nk k hk) (by
  cases K:as.blk k.1 with
  | none=>have:=(F k hk).1;rw [d.dom _ K] at this;cases this
  | some b=>rfl)
 refine wp_mono (h ⟨w,M,L,y.ntmps,[]⟩ rfl V _ _ ⟨M,κ,tip,Mem.le_refl _,F,J⟩) ?_;rintro e a' w' ⟨s',G,he,I⟩;obtain ⟨v,hv,hr⟩:=I a' w' G;have hd:a'.defers=[]:=by obtain ⟨_,_,_,_,_,ba⟩:=G;exact ba.defers
 rcases he with rfl | rfl
 ·exact ⟨hd,v,hv,v,rfl,hr⟩
 ·exact ⟨hd,v,hv,v,rfl,hr⟩
theorem SRel.result (h:SRel cx s a w) {v:Value} (V:∀ M y tip,Inv cx M y tip s a w->RepA M y tip s.blk av v):SRel { cx with nt:=1,df:=[] } { env:=lk [(0,av)],blk:=s.blk } ⟨#[v],[]⟩ w:=by
 obtain ⟨M,y,tip,N,L,d⟩:=h;refine ⟨M,y,tip,N,L,{
  defers:=rfl
  size:=rfl
  fr:=⟨d.fr.os,d.fr.tape,d.fr.output,d.fr.size,d.fr.block⟩
  mem:=d.mem
  env:=λt u e=>by
   simp only [lk] at e;cases E:Q2 t 0 with
   | true=>
    simp_all
   | false=>simp_all
  vars:=d.vars
  bufs:=d.bufs
  inj:=d.inj
  dom:=d.dom
  glob:=d.glob
  old:=d.old
  owns:=d.owns }⟩
def Imp (pk:PKs) (s s':AS):Prop:=∀ cx a w,cx.pk=pk->SRel cx s a w->SRel cx s' a w
theorem Imp.trans {v:PKs} {d:AS} (h:Imp v s s') (k:Imp v s' d):Imp v s d:=λcx a w y A=>k cx a w y (h cx a w y A)
theorem Imp.lep (h:Lep cx s' s):Imp cx.pk s s':=λd a w y v=>v.less h.1 (by rw [y];exact h.2)
theorem Imp.pure {S:PKs} {t:Nat} (K:s.env t=some v) (I:s.rd v=some (p,bs)):Imp S s (s.put t (.p p)):=by
 intro cx a w _ L;obtain ⟨M,T,tip,J,F,h⟩:=L;refine ⟨M,T,tip,J,F,{ h with env:=λu y e=>?_ }⟩;simp only [AS.put] at e;cases E:Q2 u t with
 | true=>
  have:=Q0 E;subst this;simp at e;subst e;obtain ⟨x,G,N⟩:=h.env u v K;exact ⟨x,G,.p _ _ (zIq N I)⟩
 | false=>
  simp [E] at e;exact h.env u y e
theorem Imp.promote {T:PKs} {t:Nat} (Z:s.env t=some (.nl c)) (hb:s.blk k=none) (N:0<c.width):Imp T s ((s.setb k (.buf c)).put t (.buf k 0)):=by
 intro cx a w _ hs;obtain ⟨M,κ,tip,Y,L,I⟩:=hs;obtain ⟨x,U,h2⟩:=I.env t _ Z;cases h2 with
 | nl _ d=>
 have A:=I.bufNil hb d N;refine ⟨M,κ,_,Y,L,{ A with env:=λu y e=>?_ }⟩;simp only [AS.put] at e;cases h:Q2 u t with
 | true=>
  have:=Q0 h;subst this;simp at e;subst e;refine ⟨_,U,.buf k 0 c _ (zW _ _ _) ?_ (Qq _) ?_ (λ_=>(yU _ _ _).symm)⟩
  ·unfold W5 at d;split at d<;>first | rfl | cases d
  ·unfold W5 at d;split at d
   ·exact .bytes0
   ·exact .sl0 _
   simp_all
 | false=>
  simp [h] at e;exact A.env u y e
theorem Imp.ren (A:Nat->Nat) (L:∀ j∈blks.map (·.1),∀ j'∈blks.map (·.1),A j=A j'->j=j') (bx:∀ e∈pk,A e.1=e.1/\e.1∈blks.map (·.1)) (cb:∀ j∈blks.map (·.1),BIG<=j->BIG<=A j) :
  Imp pk (mkS env blks) (mkS (env.map λe=>(e.1,e.2.ren A)) (blks.map λe=>(A e.1,e.2.ren A))):=by
 intro cx a w bn hs;obtain ⟨M,κ,tip,h0,hp,J⟩:=hs;generalize Y:(λi=>match fk A (blks.map (·.1)) i with | some j=>κ j | none=>none)=W;generalize cf:(λi=>match fk A (blks.map (·.1)) i with | some j=>tip j | none=>undef)=S;have G:∀ j∈blks.map (·.1),W (A j)=κ j:=λj Z=>by rw [<- Y];simp only [zC1 L Z]
 have bd:∀ j∈blks.map (·.1),S (A j)=tip j:=λj Z=>by rw [<- cf];simp only [zC1 L Z]
 have K:∀ i,fk A (blks.map (·.1)) i=none->W i=none:=λi h=>by rw [<- Y];simp only [h]
 have D:∀ j b,lk blks j=some b->j∈blks.map (·.1):=λj b h=>Q4.2 ⟨(j,b),sY blks j b h,rfl⟩;have bc:∀ j b,lk blks j=some b->lk (blks.map λe=>(A e.1,e.2.ren A)) (A j)=some (b.ren A):=λj b h=>
  zP2 A blks (λe he e' ce h=>L _ (Q4.2 ⟨e,he,rfl⟩) _ (Q4.2 ⟨e',ce,rfl⟩) h) j b h
 have T:∀ i b,lk (blks.map λe=>(A e.1,e.2.ren A)) i=some b->∃ j b',i=A j/\lk blks j=some b'/\b=b'.ren A:=λi b h=>by
  obtain ⟨k,U,F⟩:=zD9 A blks i b h;subst F;cases hl:lk blks k with
  | none=>
   exfalso;obtain ⟨e,he,rfl⟩:=Q4.1 U;have:∀ (l:LB),e∈l->lk l e.1≠none:=by
    intro l;induction l with
    | nil=>intro h;simp at h
    | cons x l ih=>
     intro h;obtain ⟨xk,xb⟩:=x;simp only [lk];cases V:Q2 e.1 xk with
     | true=>simp
     | false=>
      simp only [cond_false];rcases Qg.1 h with h | h
      ·subst h;simp at V
      ·exact ih h
   exact this blks he hl
  | some b'=>
   have:=bc k b' hl;rw [h] at this;exact ⟨k,b',rfl,hl,by simpa using this⟩
 have N:∀ {v:AV} {x:Value},RepA M κ tip (mkS env blks).blk v x->RepA M W S (mkS (env.map λe=>(e.1,e.2.ren A)) (blks.map λe=>(A e.1,e.2.ren A))).blk (v.ren A) x:=λh=>
  h.ren (λk b hk=>by
   have:k∈blks.map (·.1):=by
    cases V:lk blks k with
    | none=>rw [J.dom k V] at hk;cases hk
    | some b'=>exact D k b' V
   rw [G k this];exact hk) (λk b V=>⟨bc k b V,bd k (D k b V)⟩)
 have cd:∀ (l:LV) (t:Nat) (v:AV),lk (l.map λe=>(e.1,e.2.ren A)) t=some v->∃ u,lk l t=some u/\v=u.ren A:=by
  intro l;induction l with
  | nil=>intro t v h;simp [lk] at h
  | cons x l ih=>
   intro t v h;obtain ⟨xk,xv⟩:=x;simp only [Qd,lk] at h ⊢;cases V:Q2 t xk with
   | true=>simp [V] at h;exact ⟨xv,by simp,h.symm⟩
   | false=>simp [V] at h;simpa using ih t v (by simpa using h)
 refine ⟨M,W,S,h0,λk hk=>?_,{
  defers:=J.defers
  size:=J.size
  fr:=J.fr
  mem:=J.mem
  env:=λt v h=>by
   obtain ⟨u,U,rfl⟩:=cd env t v h;obtain ⟨x,F,E⟩:=J.env t u U;exact ⟨x,F,N E⟩
  vars:=λi l h=>by
   obtain ⟨j,b',rfl,F,E⟩:=T i _ h;cases b' with
   | buf c=>simp [zN.ren] at E
   | own wd l0=>simp [zN.ren] at E
   | var l0=>
    simp [zN.ren] at E;subst E;obtain ⟨b,be,e,fz,q1,q2,q3,q4,q5,q6,q7⟩:=J.vars j l0 F;obtain ⟨r1,r2⟩:=qD A l0;refine ⟨b,be,e,fz,by rw [G j (D j _ F)];exact q1,q2,q3,by omega,λjj q hq=>?_,q6,q7⟩;rw [r2] at hq;obtain ⟨q',E,h4⟩:=Q3.1 hq;subst h4;exact N (q5 jj q' E)
  bufs:=λi c h=>by
   obtain ⟨j,b',rfl,F,E⟩:=T i _ h;cases b' with
   | var l=>simp [zN.ren] at E
   | own wd l=>simp [zN.ren] at E
   | buf c0=>
    simp [zN.ren] at E;subst E;rw [G j (D j _ F),bd j (D j _ F)];exact J.bufs j c F
  inj:=λi i' b U F=>by
   cases hf:fk A (blks.map (·.1)) i with
   | none=>rw [K i hf] at U;cases U
   | some j=>
    obtain ⟨Z,rfl⟩:=pQ hf;cases bj:fk A (blks.map (·.1)) i' with
    | none=>rw [K i' bj] at F;cases F
    | some j'=>
     obtain ⟨hj',rfl⟩:=pQ bj;rw [G j Z] at U;rw [G j' hj'] at F;rw [J.inj j j' b U F]
  dom:=λi h=>by
   cases hf:fk A (blks.map (·.1)) i with
   | none=>exact K i hf
   | some j=>
    obtain ⟨Z,rfl⟩:=pQ hf;cases hl:lk blks j with
    | none=>rw [G j Z];exact J.dom j hl
    | some b=>
     have:=bc j b hl;have h':lk (blks.map λe=>(A e.1,e.2.ren A)) (A j)=none:=h;rw [this] at h';cases h'
  glob:=J.glob
  old:=J.old
  owns:=λi wd l h=>by
   obtain ⟨j,b',rfl,F,E⟩:=T i _ h;cases b' with
   | var l=>simp [zN.ren] at E
   | buf l=>simp [zN.ren] at E
   | own wd0 l0=>
    simp only [zN.ren,zN.own.injEq] at E;obtain ⟨rfl,rfl⟩:=E;obtain ⟨r1,r2⟩:=qD A l0;rw [G j (D j _ F),bd j (D j _ F)];rcases J.owns j wd l0 F with ⟨g1,g2,rfl⟩ | ⟨g1,g2⟩
    ·exact .inl ⟨g1,g2,rfl⟩
    refine .inr ⟨g1,?_⟩;rcases g2 with ⟨y1,y2,rfl⟩ | ⟨b,n',cap,be,e,fz,z1,z2,z3,z4,z5,z6,z7,z8,z9,z10,z11⟩
    ·exact .inl ⟨y1,y2,rfl⟩
    ·refine .inr ⟨b,n',cap,be,e,fz,z1,z2,z3.imp id (λh=>⟨h.1,cb j (D j _ F) h.2⟩),z4,z5,by omega,z7,z8,z9,λjj q hq=>?_,z11⟩;rw [r2] at hq;obtain ⟨q',E,h4⟩:=Q3.1 hq;subst h4;exact N (z10 jj q' E) }⟩
 rw [bn] at hk;obtain ⟨U,F⟩:=bx k hk;have:=hp k (by rw [bn];exact hk);refine ⟨?_,this.2⟩;have E:=G k.1 F;rw [U] at E;rw [E];exact this.1
section
variable {fn:Func} 
theorem zYp (d:fn.results=#[]) (h:Imp cx.pk { env:=lk [(0,.tu [])],blk:=s.blk } rs):jU P fn cx s rs:=by
 intro a w A;refine ⟨.tuple #[],by simp [results,d],?_⟩;exact h _ _ _ rfl (A.result λM F tip J=>.tu [] _ rfl (by simp))
def zWh (tmps:Array Value):ResultVar->Sem Value
 | .tmp t=>pure (tmps.getD t undef)
 | .cell a t=>do loadVar t (<- asAddr (tmps.getD a undef))
theorem zAq (A:Func) (d:Array Value):results A d=(do let v <- A.results.mapM (zWh d);pure (if h:v.size=1 then v[0] else .tuple v)):=rfl
inductive RV (te:TE) (s:AS):ResultVar->AV->Prop where
 | tmp (t:Nat) (v:AV):s.env t=some v->RV te s (.tmp t) v
 | cell (t k off:Nat) (ty:TypeId) (l:List AV) (i:TI) (v:AV):s.env t=some (.ptr k off)->s.blk k=some (.var l)->te ty=some i->i.plain=true->l[off]? = some v->RV te s (.cell t ty) v
 | cellN (t k off:Nat) (ty:TypeId) (l:List AV) (i:TI):s.env t=some (.ptr k off)->s.blk k=some (.var l)->te ty=some i->i.isAgg=true->off+i.w<=l.length->RV te s (.cell t ty) (.ag ((l.drop off).take i.w))
theorem RV.run (J:yO P te) {rv:ResultVar} (h:RV te s rv v) (I:Inv cx M κ tip s a w) :
  ∃ x,(zWh a.tmps rv).run P w=.ok x w/\RepA M κ tip s.blk v x:=by
 cases h with
 | tmp t v L=>
  obtain ⟨x,G,S⟩:=I.env t v L;exact ⟨x,by simp [zWh,Q1,G],S⟩
 | cell t k off ty l i v L hb ht Z hv=>
  obtain ⟨x,G,S⟩:=I.env t _ L;obtain ⟨b,d,e,fz,q1,q2,q3,q4,q5,q6⟩:=I.vars k l hb;cases S with
  | ptr _ _ b' l' F be=>
   rw [q1] at F;cases F;have N:off<l.length:=(List.getElem?_eq_some_iff.1 hv).1;have A:off<d.size:=by omega
   have E:w.cell? ⟨b,off,none⟩=some d[off]:=by simp [Qm,q2,A]
   refine ⟨d[off],?_,?_⟩
   ·simp [zWh,Q1,G,asAddr,gI J ht Z E]
   ·have:=q5 off v hv;simpa [A] using this
 | cellN t k off ty l i L hb ht Z hv=>
  obtain ⟨x,G,S⟩:=I.env t _ L;obtain ⟨b,d,e,fz,q1,q2,q3,q4,q5,q6⟩:=I.vars k l hb;cases S with
  | ptr _ _ b' l' F be=>
   rw [q1] at F;cases F;have U:((d.toList.drop off).take i.w).length=i.w:=by simp;omega
   have D:=zA2 J ht Z (w:=w) (a:=⟨b,off,none⟩) ((d.toList.drop off).take i.w) U (by
    intro j u W;rw [List.getElem?_take,List.getElem?_drop] at W;split at W
    ·rw [add_off];simp [Qm,q2];simpa using W
    ·cases W)
   refine ⟨.agg ((d.toList.drop off).take i.w).toArray,?_,?_⟩
   ·simp [zWh,Q1,G,asAddr,D]
   ·refine .ag _ _ (by simp;omega) (λj q Y=>?_);rw [List.getElem?_take,List.getElem?_drop] at Y;split at Y
    ·rename_i hj;have:=q5 (off+j) q Y;have N:off+j<d.size:=by omega
     simpa [hj,N,List.getElem?_take,List.getElem?_drop] using this
    ·cases Y
theorem uX (v:yO P te) (y:fn.results=#[E]) (I:RV te s E av) (h:Imp cx.pk { env:=lk [(0,av)],blk:=s.blk } rs):jU P fn cx s rs:=by
 intro a w F;have D:=F;obtain ⟨M,N,tip,U,W,A⟩:=D;obtain ⟨x,G,_⟩:=I.run v A;refine ⟨x,?_,h _ _ _ rfl (F.result λM N tip A=>?_)⟩
 ·simp [zAq,y,G]
 ·obtain ⟨S,d,L⟩:=I.run v A;simp_all
theorem fD (d:yO P te) {S:AV} (F:fn.results=#[E,I]) (T:RV te s E V) (U:RV te s I S) (h:Imp cx.pk { env:=lk [(0,.tu [V,S])],blk:=s.blk } rs):jU P fn cx s rs:=by
 intro a w N;have K:=N;obtain ⟨M,κ,tip,h0,hp,G⟩:=K;obtain ⟨x1,J,_⟩:=T.run d G;obtain ⟨Y,A,_⟩:=U.run d G;refine ⟨.tuple #[x1,Y],?_,h _ _ _ rfl (N.result λM κ tip G=>?_)⟩
 ·simp [zAq,F,J,A]
 ·obtain ⟨y1,D,r1⟩:=T.run d G;obtain ⟨y2,v,W⟩:=U.run d G;rw [J] at D;cases D;refine .tu _ _ rfl (λj q y=>?_)
  match j with
  | 0=>simp_all
  | 1=>simp_all
  | j+2=>simp at y
theorem fJ (d:yO P te) {G D:ResultVar} {a1 U:AV} (K:fn.results=#[G,I,D]) (Y:RV te s G a1) (W:RV te s I U) (Z:RV te s D V) (h:Imp cx.pk { env:=lk [(0,.tu [a1,U,V])],blk:=s.blk } rs):jU P fn cx s rs:=by
 intro a w hs;have S:=hs;obtain ⟨M,κ,tip,h0,hp,y⟩:=S;obtain ⟨x1,N,_⟩:=Y.run d y;obtain ⟨x2,L,_⟩:=W.run d y;obtain ⟨x3,J,_⟩:=Z.run d y;refine ⟨.tuple #[x1,x2,x3],?_,h _ _ _ rfl (hs.result λM κ tip y=>?_)⟩
 ·simp [zAq,K,N,L,J]
 ·obtain ⟨y1,F,r1⟩:=Y.run d y;obtain ⟨y2,A,r2⟩:=W.run d y;obtain ⟨y3,E,r3⟩:=Z.run d y;rw [N] at F;rw [L] at A;rw [J] at E;cases F;cases A;cases E;refine .tu _ _ rfl (λj q v=>?_)
  match j with
  | 0=>simp_all
  | 1=>simp_all
  | 2=>simp at v;subst v;exact r3
  | j+3=>simp at v
end
end Go.Sw
