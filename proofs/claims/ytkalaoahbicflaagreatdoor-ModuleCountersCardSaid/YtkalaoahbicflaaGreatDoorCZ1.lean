/- A part. -/
import Derived.Test.YtkalaoahbicflaaGreatDoorCZ0
set_option linter.all false
open Option renaming map_eq_some_iff -> Q0, isSome_iff_exists -> Qi, map_some -> Qo
open Nat renaming eq_of_beq_eq_true -> Q1, beq -> Q2, le_refl -> Q4, mul_le_mul_right -> Q5, add_mul -> Q7, zero_add -> Qa, le_mul_of_pos_right -> Qd, zero_le -> Qn, le_trans -> Qr, mul_comm -> Qz, div_lt_of_lt_mul -> W2, zero_mul -> W6, mod_lt -> W8, div_add_mod -> W9, not_lt_zero -> Wa
open List renaming mem_map -> Q3, mem_cons -> Qb, mem_append -> Qc, map_cons -> Qf, take_append_of_le_length -> Qk, eq_nil_of_length_eq_zero -> Ql, length_map -> Qs, size_toArray -> Qx, all_eq_true -> W0, range -> W3, getElem_mem -> W7
open Go.Builtin renaming zeroCells -> Q6, append_ -> Q9, firstCells -> Qp, nextslicecap -> W4, lenOf -> W5
open Go.Sw.PV renaming len -> Q8, isSlice -> Qh, nilOf -> Qv, take -> Qy, width -> W1
open Array renaming getD_eq_getD_getElem? -> Qe, length_toList -> Qu, size_append -> Qw
open Bool renaming eq_false_iff -> Qg
open Go.World renaming cell? -> Qj, freeze -> Qt
open Go.Sw.Mic renaming ws -> Qm
open Go.Oper renaming wp -> Qq
namespace Go.Sw
open Go
variable {A:TypeId}{B B':NB}{D:TypeId}{E:ResultVar}{G:Option Operand}{I:ResultVar}{K:AS->List Mic->Prop}{M M':Mem}{P:Program}{Q:Exit->AS->Prop}{V:AV}{X Y:Type}{a:Int}{args arr:Array Value}{as:AS}{av:AV}{b:Nat}{b':Bool}{bb blks bs:LB}{c:PV}{cap:Nat}{cs:List PV}{cx:Ctx}{d:Nat}{dd:TypeDesc}{e:TypeId}{ei:TI}{env:LV}{f:FuncId}{fr:List Nat}{fz:Nat×Nat}{g:Nat->Value}{i:TypeInfo}{id j j' k:Nat}{ks:List Nat}{l:List AV}{m:Nat}{ms:List Mic}{n na:Nat}{news:List Value}{o:Oper}{off:Nat}{ops:Array Oper}{p:PV}{pk:PKs}{ps:List PV}{r:List Oper}{rl:LV}{rr:PV}{rs s s':AS}{t t' t0 tc:TypeId}{te:TE}{tip:Nat->Value}{tl:List TypeId}{ts:Array TypeId}{ty:TypeId}{v:AV}{vs:LV}{vy:AV}{w w':World}{x:Operand}{xl:List Operand}{xs:Array Operand}{y:Operand}{z:Value}{α:Type}{κ:Nat->Option Nat}
def xI (M:Mem) (b lo hi:Nat) (f:Nat->Option Value):Mem:=λb' o=>if b'=b/\lo<=o/\o<hi then f o else M b' o
def uK {y A:Nat} {f:Nat->Option Value} (h:∀ o,y<=o->o<A->M b o=none):M.le (xI M b y A f):=by
 intro b' o x d;unfold xI;split
 ·simp_all
 omega
def nC (tip:Nat->Value) (k:Nat) (v:Value):Nat->Value:=λi=>bif Q2 i k then v else tip i
def yR (tip:Nat->Value) (k:Nat) (v:Value):nC tip k v k=v:=by simp [nC]
def yQ {i:Nat} {v:Value} (h:i≠k):nC tip k v i=tip i:=by
 have:Q2 i k=false:=by rw [Qg];simp_all
 simp [nC,this]
structure zMb (w w':World) (arr:Array Value) (e:TypeId) (fz:Nat×Nat):Prop where
 os:w'.os=w.os
 tape:w'.tape=w.tape
 output:w'.output=w.output
 size:w'.heap.size=w.heap.size+1
 old:∀ i,i<w.heap.size->w'.heap[i]? = w.heap[i]?
 new:w'.heap[w.heap.size]? = some (.cells arr e fz)
 free:zDu fz arr.size
def Inv.bufNew {W:Nat->Option Nat} {a:Act} (d:Inv cx M W tip s a w) {D:Array Value} (N:zMb w w' D e fz)
  (L:s.blk k=none∨∃ U,s.blk k=some (.buf U)/\U.len<c.len/\∀ n,n<=U.len->c.take n=U.take n) (bi:c.isSlice=true) (bt:0<c.width) (hn:n*c.width<=D.size) (be:cap*c.width<=D.size) (bq:cap<=maxLen)
  (bj:Rep (xI M w.heap.size 0 (n*c.width) (D[·]?)) c (.slice (some ⟨w.heap.size,0,none⟩) n cap)) :
  Inv cx (xI M w.heap.size 0 (n*c.width) (D[·]?)) (kF W k (some w.heap.size)) (nC tip k (.slice (some ⟨w.heap.size,0,none⟩) n cap)) (s.setb k (.buf c)) a w':=by
 have V:M.le (xI M w.heap.size 0 (n*c.width) (D[·]?)):=uK λo _ _=>d.mlt (Q4 _);have bl:GLe W (kF W k (some w.heap.size)) tip (nC tip k (.slice (some ⟨w.heap.size,0,none⟩) n cap)) s.blk (s.setb k (.buf c)).blk:={
  var:=λi b l h h'=>by
   have e:i≠k:=by
    rintro rfl;rcases L with L | ⟨U,L,_⟩<;>(rw [L] at h';cases h')
   rw [zW e,zN e];exact ⟨h,l,h'⟩
  buf:=λi c1 h=>by
   by_cases e:i=k
   ·subst e;rcases L with L | ⟨U,L,E,bv⟩
    ·rw [L] at h;cases h
    ·rw [L] at h;cases h;exact ⟨c,zU _ _ _,λ_=>bi,jh,bv,λe=>jh⟩
   ·exact GLe.same (by rw [zN e];exact h) (yQ e)
  own:=λi c1 l1 h=>by
   have e:i≠k:=by
    rintro rfl;rcases L with L | ⟨U,L,_⟩<;>(rw [L] at h;cases h)
   exact GLe.sameO (by rw [zN e];exact h) (zW e) (yQ e) }
 have S:∀ {v:AV} {x:Value},yT M W tip s.blk v x->yT (xI M w.heap.size 0 (n*c.width) (D[·]?)) (kF W k (some w.heap.size)) (nC tip k (.slice (some ⟨w.heap.size,0,none⟩) n cap)) (s.setb k (.buf c)).blk v x:=
  λh=>(h.mono V).ghost bl
 have y:∀ b o,b<w.heap.size->xI M w.heap.size 0 (n*c.width) (D[·]?) b o=M b o:=by
  intro b o hb;unfold xI;rw [if_neg jh]
 exact {
  defers:=d.defers
  size:=d.size
  fr:=⟨N.os.trans d.fr.os,N.tape.trans d.fr.tape,N.output.trans d.fr.output,by have:=d.fr.size;rw [N.size];omega,λb J I h3=>by
   rw [N.old b (by have:=d.fr.size;omega)];exact d.fr.block b J I h3⟩
  mem:=λb o x h=>by
   unfold xI at h;split at h
   ·rename_i hc;obtain ⟨rfl,_,E⟩:=hc;simp only [Qj,N.new];simpa using h
   ·have:=d.mem b o x h;have E:=World.block_lt_of_cell? w _ this;rw [World.cell?_of_block (N.old b E)];exact this
  env:=λt v h=>let ⟨x,J,I⟩:=d.env t v h;⟨x,J,S I⟩
  vars:=λi l h=>by
   have G:i≠k:=by rintro rfl;rw [zU] at h;cases h
   rw [zN G] at h;obtain ⟨b,bf,Y,bp,J,I,h3,h4,h5,h6,h7⟩:=d.vars i l h;have E:=d.lt J;exact ⟨b,bf,Y,bp,by rw [zW G];exact J,by rw [N.old b E];exact I,h3,h4,λj q hq=>S (h5 j q hq),λo=>by rw [y b o E];exact h6 o,h7⟩
  bufs:=λi c1 h=>by
   by_cases G:i=k
   ·subst G;rw [zU] at h;cases h;rw [yR,xO];refine ⟨bj,bi,bt,.inr ⟨w.heap.size,n,cap,D,e,fz,rfl,rfl,d.fr.size,N.new,N.free,be,bq,λj hj=>?_⟩⟩;unfold xI;rw [if_neg jh];exact d.mlt (Q4 _)
   ·rw [zN G] at h;obtain ⟨J,I,h3,h4⟩:=d.bufs i c1 h;rw [yQ G,zW G];refine ⟨J.mono V,I,h3,?_⟩;rcases h4 with h4 | ⟨b,n1,bg,ba,Y,bm,q1,q2,q3,q4,q5,q6,q7,q8⟩
    ·exact .inl h4
    ·have E:=d.lt q2;exact .inr ⟨b,n1,bg,ba,Y,bm,q1,q2,q3,by rw [N.old b E];exact q4,q5,q6,q7,λj hj=>by rw [y b j E];exact q8 j hj⟩
  inj:=λi j b J I=>by
   by_cases Y:i=k
   ·subst Y;rw [xO] at J;cases J;by_cases e2:j=i
    ·exact e2.symm
    ·rw [zW e2] at I;have:=d.lt I;omega
   ·rw [zW Y] at J;by_cases e2:j=k
    ·subst e2;rw [xO] at I;cases I;have:=d.lt J;omega
    ·rw [zW e2] at I;exact d.inj i j b J I
  dom:=λi h=>by
   by_cases G:i=k
   ·subst G;rw [zU] at h;cases h
   ·rw [zN G] at h;rw [zW G];exact d.dom i h
  glob:=d.glob.mono V
  old:=⟨λb o hb=>by
   rw [y b o (by have:=d.fr.size;omega)];exact d.old.1 b o hb,d.old.2⟩
  owns:=d.owns.keep λi wd li h=>by
   have G:i≠k:=by rintro rfl;rw [zU] at h;cases h
   rw [zN G] at h;exact ⟨h,zW G,yQ G,λb' Z=>⟨N.old b' (d.lt Z),λo h=>by rw [y b' o (d.lt Z)];exact h⟩,λj q x _ hr=>S hr⟩}
def Inv.bufNil {J:Nat->Option Nat} {a:Act} (d:Inv cx M J tip s a w) (N:s.blk k=none) (F:c.nilOf=true) (V:0<c.width) :
  Inv cx M J (nC tip k (.slice none 0 0)) (s.setb k (.buf c)) a w:=by
 have E:GLe J J tip (nC tip k (.slice none 0 0)) s.blk (s.setb k (.buf c)).blk:={
  var:=λi b l h S=>by
   have e:i≠k:=by rintro rfl;rw [N] at S;cases S
   rw [zN e];exact ⟨h,l,S⟩
  buf:=λi Y h=>by
   have e:i≠k:=by rintro rfl;rw [N] at h;cases h
   exact GLe.same (by rw [zN e];exact h) (yQ e)
  own:=λi Y l1 h=>by
   have e:i≠k:=by rintro rfl;rw [N] at h;cases h
   exact GLe.sameO (by rw [zN e];exact h) rfl (yQ e) }
 exact {
  defers:=d.defers
  size:=d.size
  fr:=d.fr
  mem:=d.mem
  env:=λt v h=>let ⟨x,W,Z⟩:=d.env t v h;⟨x,W,Z.ghost E⟩
  vars:=λi l h=>by
   have y:i≠k:=by rintro rfl;rw [zU] at h;cases h
   rw [zN y] at h;obtain ⟨b,I,e1,T,W,Z,h3,h4,h5,h6⟩:=d.vars i l h;exact ⟨b,I,e1,T,W,Z,h3,h4,λj q hq=>(h5 j q hq).ghost E,h6⟩
  bufs:=λi Y h=>by
   by_cases y:i=k
   ·subst y;rw [zU] at h;cases h;rw [yR];refine ⟨?_,?_,V,.inl ⟨rfl,d.dom i N⟩⟩
    ·unfold Qv at F;split at F
     ·exact .bytes0
     ·exact .sl0 _
     ·cases F
    ·unfold Qv at F;split at F<;>first | rfl | cases F
   ·rw [zN y] at h;rw [yQ y];exact d.bufs i Y h
  inj:=d.inj
  dom:=λi h=>by
   by_cases y:i=k
   ·subst y;rw [zU] at h;cases h
   ·rw [zN y] at h;exact d.dom i h
  glob:=d.glob
  old:=d.old
  owns:=d.owns.keep λi wd li h=>by
   have y:i≠k:=by rintro rfl;rw [zU] at h;cases h
   rw [zN y] at h;exact ⟨h,rfl,yQ y,λb' bh=>⟨rfl,λo h=>h⟩,λj q x _ hr=>hr.ghost E⟩}
def Inv.bufIn {a:Act} (A:Inv cx M κ tip s a w) {U:PV} {T:Array Value} {J:List Value}
  (hk:s.blk k=some (.buf c)) (bl:tip k=.slice (some ⟨b,0,none⟩) n cap) (S:κ k=some b) (bi:cx.w0.heap.size<=b) (bd:w.heap[b]? = some (.cells T e fz)) (bf:zDu fz T.size) (Z:cap*c.width<=T.size) (hml:cap<=maxLen)
  (hM:∀ j,n*c.width<=j->M b j=none) (hvs:J.length=m*c.width) (bg:n+m<=cap) (hc':U.isSlice=true) (be:U.width=c.width) (bk:c.len<=U.len) (htk:∀ i,i<=c.len->U.take i=c.take i) (ba:U.len=c.len->m=0)
  (hrep:Rep (xI M b (n*c.width) ((n+m)*c.width) (λo=>J[o - n*c.width]?)) U (.slice (some ⟨b,0,none⟩) (n+m) cap)) :
  Inv cx (xI M b (n*c.width) ((n+m)*c.width) (λo=>J[o - n*c.width]?)) κ (nC tip k (.slice (some ⟨b,0,none⟩) (n+m) cap)) (s.setb k (.buf U)) a (w.setCells b (n*c.width) J):=by
 generalize V:xI M b (n*c.width) ((n+m)*c.width) (λo=>J[o - n*c.width]?)=M' at *;have hadd:(n+m)*c.width=n*c.width+m*c.width:=Q7 _ _ _;have bm:n*c.width+J.length<=T.size:=by rw [hvs,<- hadd];exact Qr (Q5 _ bg) Z
 have bh:M.le M':=by rw [<- V];exact uK λo h _=>hM o h
 obtain ⟨arr',g1,g2,g3⟩:=sO b J (n*c.width) w T e fz bd bm;have F:=iE b J (n*c.width) w;obtain ⟨_,_,hw0,_⟩:=A.bufs k c hk;have gle:GLe κ κ tip (nC tip k (.slice (some ⟨b,0,none⟩) (n+m) cap)) s.blk (s.setb k (.buf U)).blk:={
  var:=λi b l h h'=>by
   have e:i≠k:=by rintro rfl;rw [hk] at h';cases h'
   rw [zN e];exact ⟨h,l,h'⟩
  buf:=λi c1 h=>by
   by_cases e:i=k
   ·subst e;rw [hk] at h;cases h;refine ⟨U,zU _ _ _,λ_=>hc',bk,htk,λe=>?_⟩;rw [yR,bl,ba e];rfl
   ·exact GLe.same (by rw [zN e];exact h) (yQ e)
  own:=λi c1 l1 h=>by
   have e:i≠k:=by rintro rfl;rw [hk] at h;cases h
   exact GLe.sameO (by rw [zN e];exact h) rfl (yQ e) }
 have K:∀ {v:AV} {x:Value},yT M κ tip s.blk v x->yT M' κ (nC tip k (.slice (some ⟨b,0,none⟩) (n+m) cap)) (s.setb k (.buf U)).blk v x:=λh=>(h.mono bh).ghost gle;have d:∀ b' o,b'≠b->M' b' o=M b' o:=by
  intro b' o G;rw [<- V];unfold xI;rw [if_neg (by intro h;exact G h.1)]
 exact {
  defers:=A.defers
  size:=A.size
  fr:=⟨F.1.trans A.fr.os,F.2.1.trans A.fr.tape,F.2.2.trans A.fr.output,by rw [iH];exact A.fr.size,λi hi1 hi2 hi3=>by
   rw [xR b J _ w i jh];exact A.fr.block i hi1 hi2 hi3⟩
  mem:=λi o x h=>by
   rw [<- V] at h;unfold xI at h;split at h
   ·rename_i hc;obtain ⟨rfl,h1,h2⟩:=hc;simp only [Qj,g1];have:=g3 o;rw [if_pos jh] at this;simp [this,h]
   ·rename_i hc;have hc2:=A.mem i o x h;rw [World.cell?_setCells_out b J _ w _ (λe1 _=>by
     simp only at e1;subst e1;simp only;by_cases hlo:o<n*c.width
     ·exact .inl hlo
     ·have:=hM o jh;rw [this] at h;cases h)]
    exact hc2
  env:=λt v h=>let ⟨x,h1,h2⟩:=A.env t v h;⟨x,h1,K h2⟩
  vars:=λi l h=>by
   have I:i≠k:=by rintro rfl;rw [zU] at h;cases h
   rw [zN I] at h;obtain ⟨W,L,e2,bc,k1,k2,k3,k4,k5,k6,k7⟩:=A.vars i l h;have G:W≠b:=λe=>I (A.inj i k b (e▸k1) S);exact ⟨W,L,e2,bc,k1,by rw [xR b J _ w W G];exact k2,k3,k4,λj q hq=>K (k5 j q hq),λo=>by rw [d W o G];exact k6 o,k7⟩
  bufs:=λi c1 h=>by
   by_cases I:i=k
   ·subst I;rw [zU] at h;cases h;rw [yR];refine ⟨hrep,hc',by rw [be];exact hw0,.inr ⟨b,n+m,cap,arr',e,fz,rfl,S,bi,g1,by rw [g2];exact bf,by rw [g2,be];exact Z,hml,λj hj=>?_⟩⟩;rw [be] at hj;rw [<- V];unfold xI;rw [if_neg jh];exact hM j jh
   ·rw [zN I] at h;obtain ⟨k1,k2,k3,k4⟩:=A.bufs i c1 h;rw [yQ I];refine ⟨k1.mono bh,k2,k3,?_⟩;rcases k4 with k4 | ⟨W,n2,bp,L,e2,bc,q1,q2,q3,q4,q5,q6,q7,q8⟩
    ·exact .inl k4
    ·have G:W≠b:=λe=>I (A.inj i k b (e▸q2) S);exact .inr ⟨W,n2,bp,L,e2,bc,q1,q2,q3,by rw [xR b J _ w W G];exact q4,q5,q6,q7,λj hj=>by rw [d W j G];exact q8 j hj⟩
  inj:=A.inj
  dom:=λi h=>by
   by_cases I:i=k
   ·subst I;rw [zU] at h;cases h
   ·rw [zN I] at h;exact A.dom i h
  glob:=A.glob.mono bh
  old:=⟨λb' o hb=>by rw [d b' o jh];exact A.old.1 b' o hb,A.old.2⟩
  owns:=A.owns.keep λi wd li h=>by
   have I:i≠k:=by rintro rfl;rw [zU] at h;cases h
   rw [zN I] at h;exact ⟨h,rfl,yQ I,λb' hb'=>⟨xR b J _ w b' (λe=>I (A.inj i k b (e▸hb') S)),λo h=>by rw [d b' o (λe=>I (A.inj i k b (e▸hb') S))];exact h⟩,λj q x _ hr=>K hr⟩}
def qM (M:Mem) (c:PV) (f:Nat->Value):Prop:=
 match c with
 | .bytes l=>∀ (i:Nat) (x:UInt8),l[i]? = some x->f i=.int .u8 x.toNat
 | .sl w l=>(∀ (i:Nat) (p:PV),l[i]? = some p->p.cells.length=w)/\∀ (i:Nat) (p:PV) (j:Nat) (q:PV),l[i]? = some p->p.cells[j]? = some q->Rep M q (f (i*w+j))
 | _=>False
def zCx (T:c.isSlice=true) {o:Nat} (h:Rep M c (.slice (some ⟨b,o,none⟩) n cap)):qM M c (λj=>mget M b (o+j)):=by
 cases h with
 | bytesE a=>intro i x A;simp_all
 | slE a=>exact ⟨jk,jk⟩
 | bytes l b o n c N K y=>intro i x A;simp [mget,y i x A]
 | sl w l b o n c N K y V L=>exact ⟨y,λi p j q I J=>L i p j q I J⟩
def mA (A:c.isSlice=true) (h:c.len=0) (f:Nat->Value):qM M c f:=by
 cases c<;>simp [Qh] at A
 ·simp [Q8] at h;intro i x y;simp_all
 ·simp [Q8] at h;subst h;exact ⟨jk,jk⟩
def zJg (Z:c.isSlice=true) {o:Nat} (h:Rep M c (.slice (some ⟨b,o,none⟩) n cap)) (N:0<c.width):∀ j,j<n*c.width->(M b (o+j)).isSome=true:=by
 intro j D;cases h with
 | bytesE a=>simp at D
 | slE a=>simp at D
 | bytes l b o n c L V K=>
  simp [W1] at D;simp_all
 | sl w l b o n c L V K W h5=>
  have hi:j / w<l.length:=by rw [<- L];exact W2 (by rw [Qz];exact D)
  have T:l[j / w]? = some l[j / w]:=by simp
  have I:=K _ _ T;have hr:j % w<l[j / w].cells.length:=by rw [I];exact W8 _ N
  have G:l[j / w].cells[j % w]? = some l[j / w].cells[j % w]:=by simp
  have:=W _ _ _ _ T G;have e:j / w*w+j % w=j:=by rw [Qz];exact W9 j w
  simp_all
def wB {f:Nat->Value} (h:qM M c f) (T:c.isSlice=true) (I:M.le M') {o:Nat} (E:∀ j,j<c.len*c.width->M' b (o+j)=some (f j)) (N:c.len<=cap):Rep M' c (.slice (some ⟨b,o,none⟩) c.len cap):=by
 cases c<;>simp [Qh] at T
 ·rename_i l;refine .bytes l b o _ cap rfl N ?_;intro i x S;have G:i<l.length:=(List.getElem?_eq_some_iff.1 S).1;rw [E i (by simp [Q8,W1];exact G),h i x S]
 ·rename_i w l;have D:∀ (i:Nat) (p:PV) (j:Nat) (q:PV),l[i]? = some p->p.cells[j]? = some q->i*w+j<l.length*w:=by
   intro i p j q y A;have U:i<l.length:=(List.getElem?_eq_some_iff.1 y).1;have V:=(List.getElem?_eq_some_iff.1 A).1;rw [h.1 i p y] at V;have:(i+1)*w<=l.length*w:=Q5 _ U;rw [Q7] at this;omega
  refine .sl w l b o _ cap rfl N h.1 ?_ ?_
  ·intro i p j q y A;rw [E _ (D i p j q y A)];rfl
  ·intro i p j q y A;have:=E _ (D i p j q y A);simp only [mget,this,Option.getD_some];exact (h.2 i p j q y A).mono I
def PV.app:PV->PV->Option PV
 | .bytes a,.bytes b=>some (.bytes (a++b))
 | .sl w a,.sl w' b=>bif Q2 w w' then some (.sl w (a++b)) else none
 | .bytes a,.str b=>some (.bytes (a++b))
 | _,_=>none
def PV.src:PV->PV
 | .str l=>.bytes l
 | p=>p
def zFs {x r:PV} (h:c.app x=some r):c.isSlice=true/\r.isSlice=true/\x.src.isSlice=true/\r.width=c.width/\x.src.width=c.width/\r.len=c.len+x.src.len/\∀ n,n<=c.len->r.take n=c.take n:=by
 unfold PV.app at h;split at h
 ·cases h;refine ⟨rfl,rfl,rfl,rfl,rfl,by simp [Q8,PV.src],λn y=>?_⟩;simp only [Q8] at y;simp [Qy,Qk y]
 ·rename_i w a w' b;cases D:Q2 w w' with
  | false=>simp [D] at h
  | true=>
   simp [D] at h;subst h;have:=Q1 D;subst this;refine ⟨rfl,rfl,rfl,rfl,rfl,by simp [Q8,PV.src],λn y=>?_⟩;simp [Qy,Qk y]
 ·cases h;refine ⟨rfl,rfl,rfl,rfl,rfl,by simp [Q8,PV.src],λn y=>?_⟩;simp [Qy,Qk y]
 ·cases h
def aO {x r:PV} {f:Nat->Value} (h:c.app x=some r) (I:qM M c f) (A:qM M x.src g):qM M r (λj=>if j<c.len*c.width then f j else g (j - c.len*c.width)):=by
 have T:∀ (a b:By) (f g:Nat->Value),(∀ (i:Nat) (x:UInt8),a[i]? = some x->f i=.int .u8 x.toNat)->(∀ (i:Nat) (x:UInt8),b[i]? = some x->g i=.int .u8 x.toNat)->∀ (i:Nat) (x:UInt8),(a++b)[i]? = some x->(if i<a.length*1 then f i else g (i - a.length*1))=.int .u8 x.toNat:=by
  intro a b f g K U i x A;rw [Nat.mul_one];by_cases D:i<a.length
  ·rw [if_pos D];rw [List.getElem?_append_left D] at A;exact K i x A
  ·rw [if_neg D];rw [List.getElem?_append_right jh] at A;exact U _ x A
 unfold PV.app at h;split at h
 ·cases h;exact T _ _ f g I A
 ·rename_i w a w' b;cases E:Q2 w w' with
  | false=>simp [E] at h
  | true=>
   simp [E] at h;subst h;have:=Q1 E;subst this;obtain ⟨S,Y⟩:=I;obtain ⟨W,V⟩:=A;refine ⟨λi p y=>?_,λi p j q y J=>?_⟩
   ·by_cases D:i<a.length
    ·rw [List.getElem?_append_left D] at y;exact S i p y
    ·rw [List.getElem?_append_right jh] at y;exact W _ p y
   ·show Rep M q (if i*w+j<a.length*w then f (i*w+j) else g (i*w+j - a.length*w));by_cases D:i<a.length
    ·rw [List.getElem?_append_left D] at y;have Z:j<w:=by rw [<- S i p y];exact (List.getElem?_eq_some_iff.1 J).1
     have:(i+1)*w<=a.length*w:=Q5 _ D;rw [Q7] at this;rw [if_pos jh];exact Y i p j q y J
    ·rw [List.getElem?_append_right jh] at y;have K:a.length*w<=i*w:=Q5 _ jh;rw [if_neg jh];have:=V (i - a.length) p j q y J;rw [show i*w+j - a.length*w=(i - a.length)*w+j by rw [Nat.sub_mul];omega];exact this
 ·cases h;exact T _ _ f g I A
 ·cases h
structure Src (P:Program) (w:World) (size m:Nat) (y:Value) (news:List Value):Prop where
 len:∀ w':World,(W5 y).run P w'=.ok m w'
 cells:∀ w':World,(∀ a u,w.cell? a=some u->w'.cell? a=some u)->(Qp size m y).run P w'=.ok news.toArray w'
 nl:news.length=m*size
def zC4 (V:∀ b o x,M b o=some x->w.cell? ⟨b,o,none⟩=some x) (F:p.isSlice=true) {y:Value} (h:Rep M p y) (W:0<p.width) :
  ∃ v g,Src P w p.width p.len y v/\qM M p g/\∀ j,j<p.len*p.width->v[j]? = some (g j):=by
 rcases mE h F with ⟨rfl,E⟩ | ⟨b,o,n,c,rfl,Z,hc⟩ | ⟨U,rfl,rfl | rfl⟩
 ·refine ⟨[],λ_=>undef,⟨λw'=>by simp [W5,E],λw' _=>by rfl,by simp [E]⟩,mA F E _,by simp [E]⟩
 ·subst Z;refine ⟨(W3 (p.len*p.width)).map λj=>mget M b (o+j),λj=>mget M b (o+j),⟨λw'=>by simp [W5],λw' I=>?_,jk⟩,zCx F h,λj G=>by simp [G]⟩;refine run_firstCells_some (P:=P) w' p.width p.len ⟨b,o,none⟩ p.len c _ jk ?_;intro j u S;rw [List.getElem?_map] at S;obtain ⟨T,N,h2⟩:=Q0.1 S;have G:j<p.len*p.width:=by have:=(List.getElem?_eq_some_iff.1 N).1;simpa using this
  have J:T=j:=by simp_all
  subst J;obtain ⟨z,K⟩:=Qi.1 (zJg F h W T G);rw [vL,<- h2];refine I _ _ ?_;rw [V _ _ _ K];simp [mget,K]
 all_goals exact ⟨[],λ_=>undef,⟨λw'=>by rfl,λw' _=>by rfl,by simp [Q8]⟩,mA rfl rfl _,by simp [Q8]⟩
def zT5 (l:By):∃ v g,Src P w 1 l.length (.string ⟨l.toArray⟩) v/\qM M (.bytes l) g/\∀ j,j<l.length*1->v[j]? = some (g j):=by
 refine ⟨l.map λx=>.int .u8 x.toNat,λj=>((l.map λx=>Value.int .u8 x.toNat)[j]?).getD undef,⟨λw'=>by rfl,λw' _=>?_,jk⟩,?_,?_⟩
 ·simp [Qp]
 ·intro i x G;simp [G]
 simp_all
section
def zBd (d:TypeDesc):Prop:=d=.string∨∃ e,d=.slice e
def iP {d:TypeDesc} {y:Value} (ht:P.underlying t=some (.slice e)) (ht':P.underlying t'=some d) (hd:zBd d) (hi:P.info? e=some i) (hz:i.zero=some z)
  (hy:Src P w i.size m y news) (h0:0<m) (hb:m*i.bytes<=140737488355328) (h63:m<=9223372036854775807) :
  (Q9 #[t,t'] ty #[.slice none 0 0,y]).run P w=.ok (.slice (some ⟨w.heap.size,0,none⟩) m (grownCap w m 0 e)) (w.drew.alloc (.cells (news.toArray++Q6 z.cells (grownCap w m 0 e - m)) e)):=by
 have hn:m≠0:=jh
 have h63':¬ (9223372036854775807<(m:Int)):=jh
 have h48':¬ (281474976710656<W4 m 0*i.bytes):=by
  have:=growslice_fits (need:=m) (old:=0) (bytes:=i.bytes) h0 hb;omega
 have hc:=hy.cells w.drew (λa u h=>by simpa using h);have h1:(Qp i.size 0 (.slice none 0 0)).run P w.drew=.ok #[] w.drew:=by simp [Qp]
 rcases hd with rfl | ⟨e',rfl⟩<;>simp [Q9,run_underlying ht,run_underlying ht',sizeOf,typeInfo,zeroValue,hi,hz,hy.len,hc,h1,hn,h63',h48',Question.forced,newRow,grownCap]
def mL {d:TypeDesc} {y:Value} (ht:P.underlying t=some (.slice e)) (ht':P.underlying t'=some d) (hd:zBd d) (hi:P.info? e=some i)
  (hy:Src P w i.size 0 y news):(Q9 #[t,t'] ty #[.slice none 0 0,y]).run P w=.ok (.slice none 0 0) w:=by
 have hc:=hy.cells w (λa u h=>h);rcases hd with rfl | ⟨e',rfl⟩<;>simp [Q9,run_underlying ht,run_underlying ht',sizeOf,typeInfo,hi,hy.len,hc]
def zAb {d:TypeDesc} {y:Value} (ht:P.underlying t=some (.slice e)) (ht':P.underlying t'=some d) (hd:zBd d) (hi:P.info? e=some i)
  (hy:Src P w i.size m y news) (h1:∀ u∈news,u.oneCell'=true) (hroom:n+m<=cap) (hc:∀ j,j<news.length->(w.cell? ⟨b,n*i.size+j,none⟩).isSome=true) (hf:∀ j,j<news.length->w.frozen? ⟨b,n*i.size+j,none⟩=false) :
  (Q9 #[t,t'] ty #[.slice (some ⟨b,0,none⟩) n cap,y]).run P w=.ok (.slice (some ⟨b,0,none⟩) (n+m) cap) (w.setCells b (n*i.size) news):=by
 have hfc:=hy.cells w (λa u h=>h);have hst:=run_storeCells_cells (P:=P) b (n*i.size) news 0 w (by simpa using hc) (by simpa using hf) h1;simp only [Nat.add_zero] at hst;rcases hd with rfl | ⟨e',rfl⟩<;>simp [Q9,run_underlying ht,run_underlying ht',sizeOf,typeInfo,hi,hy.len,hroom,hfc,vL,hst]
def zBa {d:TypeDesc} {y:Value} (ht:P.underlying t=some (.slice e)) (ht':P.underlying t'=some d) (hd:zBd d) (hi:P.info? e=some i) (hz:i.zero=some z)
  (hy:Src P w i.size m y news) {olds:List Value} (hlo:olds.length=n*i.size) (holds:∀ (j:Nat) (u:Value),olds[j]? = some u->w.cell? ⟨b,j,none⟩=some u) (hg:cap<n+m) (hb:(n+m)*i.bytes<=140737488355328) (h63:n+m<=9223372036854775807) :
  (Q9 #[t,t'] ty #[.slice (some ⟨b,0,none⟩) n cap,y]).run P w=.ok (.slice (some ⟨w.heap.size,0,none⟩) (n+m) (grownCap w (n+m) cap e))
   (w.drew.alloc (.cells (olds.toArray++news.toArray++Q6 z.cells (grownCap w (n+m) cap e - (n+m))) e)):=by
 have hn:¬ (n+m<=cap):=jh
 have h63':¬ (9223372036854775807<((n:Int)+(m:Int))):=jh
 have h48':¬ (281474976710656<W4 (n+m) cap*i.bytes):=by
  have:=growslice_fits (need:=n+m) (old:=cap) (bytes:=i.bytes) hg hb;omega
 have hc:=hy.cells w.drew (λa u h=>by simpa using h);have h1:=run_firstCells_some (P:=P) w.drew i.size n ⟨b,0,none⟩ n cap olds hlo (by intro j u hu;rw [vL];simpa using holds j u hu);rcases hd with rfl | ⟨e',rfl⟩<;>simp [Q9,run_underlying ht,run_underlying ht',sizeOf,typeInfo,zeroValue,hi,hz,hy.len,hc,h1,hn,h63',h48',Question.forced,newRow,grownCap]<;>(rw [<- Array.append_assoc];simp)
end
def sC (w:World) (y:Array Value) (e:TypeId):zMb w (w.drew.alloc (.cells y e)) y e (0,0) where
 os:=rfl
 tape:=rfl
 output:=rfl
 size:=by simp
 old:=λi h=>by rw [hao w.drew _ i h];rfl
 new:=by have:=heap_alloc_new w.drew (.cells y e);simp_all
 free:=zGq _
def iD (w:World) (y:Array Value) (e:TypeId):zMb w (w.alloc (.cells y e)) y e (0,0) where
 os:=rfl
 tape:=rfl
 output:=rfl
 size:=by simp
 old:=λi h=>hao w _ i h
 new:=by have:=heap_alloc_new w (.cells y e);omega
 free:=zGq _
section
def uL {rs:LV} {b:ABlk}:Mic.upd ⟨rs,bs,fr,some (d,some v),[(k,b)]⟩ s=(s.setb k b).put d v:=by
 simp only [Mic.upd,AS.setb,AS.put,lk];congr 1;funext t;cases Q2 t k<;>simp
def zZg (J:∀ b o x,M b o=some x->w.cell? ⟨b,o,none⟩=some x) (E:c.app p=some rr) (h:Rep M p z) (Z:0<c.width) :
  ∃ v g,Src P w c.width p.src.len z v/\qM M p.src g/\∀ j,j<p.src.len*c.width->v[j]? = some (g j):=by
 obtain ⟨T,V,S,Y,I,U,W⟩:=zFs E;cases p with
 | str l=>
  cases h;have y:c.width=1:=by rw [<- I];rfl
  obtain ⟨v,g,G,F,D⟩:=zT5 (P:=P) (M:=M) (w:=w) l;exact ⟨v,g,by rw [y];exact G,F,by rw [y];exact D⟩
 | bytes l=>
  obtain ⟨v,g,G,F,D⟩:=zC4 (P:=P) J rfl h (by simp [W1]);have y:c.width=1:=by rw [<- I];rfl
  exact ⟨v,g,by rw [y];exact G,F,by rw [y];exact D⟩
 | sl w' l=>
  have y:w'=c.width:=by rw [<- I];rfl
  obtain ⟨v,g,G,F,D⟩:=zC4 (P:=P) J rfl h (by simp [W1];omega);exact ⟨v,g,by rw [<- y];exact G,F,by rw [<- y];exact D⟩
 | _=>simp [PV.src,Qh] at S
def aW:PV->Bool
 | .sl _ l=>l.all λp=>p.cells.all PV.one
 | _=>true
def one_pv {x:Value} (h:Rep M p x) (A:p.one=true):x.oneCell'=true:=zE5 (κ:=λ_=>none) (tip:=λ_=>undef) (B:=λ_=>none) (.p p x h) A
def zSk (h:c.app p=some rr):p.isSlice=true∨∃ l,p=.str l:=by
 unfold PV.app at h;split at h<;>first | (exact .inl rfl) | simp | cases h
def zE8 {wd:Nat} (Z:p.isSlice=true) (E:p.width=wd) (G:0<wd) (J:qM M p g) (W:news.length=p.len*wd) (hn:∀ j,j<p.len*wd->news[j]? = some (g j)) (T:aW p=true):∀ u∈news,u.oneCell'=true:=by
 intro u Y;obtain ⟨j,D,I⟩:=List.getElem_of_mem Y;rw [W] at D;have N:=hn j D;have U:g j=u:=by
  simp_all
 cases p<;>simp [Qh] at Z
 ·rename_i l;simp only [W1] at E;subst E;simp only [Q8,Nat.mul_one] at D;have:=J j l[j] jk;rw [<- U,this];rfl
 ·rename_i w l;subst E;have hi:j / w<l.length:=W2 (by rw [Qz];exact D);have K:l[j / w]? = some l[j / w]:=by simp
  have F:=J.1 _ _ K;have hr:j % w<l[j / w].cells.length:=by rw [F];exact W8 _ G
  have V:l[j / w].cells[j % w]? = some l[j / w].cells[j % w]:=by simp
  have L:=J.2 _ _ _ _ K V;have e:j / w*w+j % w=j:=by rw [Qz];exact W9 j w
  rw [e,U] at L;simp only [aW,W0] at T;exact one_pv L (T _ (W7 _) _ (W7 _))
def xH {a:Act} {v:Value} (K:o.op=.call { callee:=.builtin .append,args:=#[x,y],argTypes:=#[t,t'] }) {vx:Value} (J:a.eval x=vx) (h:(Q9 #[t,t'] o.type #[vx,a.eval y]).run P w=.ok v w') :
  (execOp a.eval o).run P w=.ok (.value v) w':=by
 simp [execOp,K,resolve,invoke,builtin,J,h]
def zVa (bd:yN P te) (hd:o.dst=some d) (ho:o.op=.call { callee:=.builtin .append,args:=#[x,y],argTypes:=#[t,t'] })
  (ht:(te t).map (·.ty)=some (.slice e)) (he:te e=some ei) (ht':P.underlying t'=some dd) (hdd:zBd dd) (hx:s.get te t x=some (.nl c)) (bc:c.width=ei.w) (hw0:0<ei.w) (hz:ei.z.length=ei.w) (hy:s.get te t' y=some vy) (hp:s.rd vy=some (p,bs)) (I:c.app p=some rr)
  (hb:(c.len+p.src.len)*ei.b<=140737488355328) (hb1:0<ei.b) (hk:s.blk d=none) :
  SA P o s ⟨opS x (.nl c)++opS y vy,bs,[d],some (d,some (.buf d rr.len)),[(d,.buf rr)]⟩:=by
 refine ⟨?_,yK (zO hx) (zO hy),uV vy p bs hp,by intro k F;simp at F;subst F;exact hk⟩;intro cx s' a w K Q hm hs hws F;obtain ⟨M,κ,tip,h0,hpk,T⟩:=hs;have U:=hm.2.2 d jk;have bf:=yB T (yJ hx s' (yE hm.1));have hy':=dS T hy hp (zY hm.1) hm.2.1;obtain ⟨q1,V,q3,q4,q5,q6,q7⟩:=zFs I;generalize bg:a.eval x=zx at bf;cases bf with
 | nl _ J=>
 have D:c.len=0:=by unfold Qv at J;split at J<;>first | rfl | cases J
 rw [D,Qa] at hb;obtain ⟨E,g,n1,n2,n3⟩:=zZg (P:=P) T.mem I hy' jh;obtain ⟨info,z,i1,i2,i3,i4,i5⟩:=(bd e ei he).info;have hu:=yV bd ht;have hlen:p.src.len<=140737488355328:=Qr (Qd _ hb1) hb;rw [bc,<- i2] at n1;unfold Qq;by_cases hm0:p.src.len=0
 ·rw [hm0] at n1;have L:=mL (P:=P) (ty:=o.type) hu ht' hdd i1 n1;rw [xH ho bg L];show K (a.put o.dst _) _;rw [hd];refine F _ _ ?_;rw [uL];have A:rr.len=0:=jh
  have hrn:rr.nilOf=true:=by cases rr<;>simp [Qh] at V<;>simp [Q8] at A<;>subst A<;>rfl
  refine ⟨M,κ,_,h0,hpk,(T.bufNil U hrn jh).put (hws d (by simp [Qm])) ?_⟩;rw [A];refine .buf d 0 rr _ (zU _ _ _) V (Qn _) ?_ (λ_=>(yR _ _ _).symm);cases rr<;>simp [Qh] at V<;>simp only [Qy,List.take_zero]
  ·exact .bytes0
  ·exact .sl0 _
 ·have L:=iP (P:=P) (ty:=o.type) hu ht' hdd i1 i4 n1 jh (by rw [i3];exact hb) jh;rw [xH ho bg L];show K (a.put o.dst _) _;rw [hd];refine F _ _ ?_;rw [uL];have N:=aO I (mA q1 D (λ_=>undef)) n2;have hzs:z.cells.size=ei.w:=by rw [<- Qu,i5];simpa using hz
  have hge:=grownCap_ge w p.src.len 0 e;have hnl:E.length=p.src.len*ei.w:=by rw [n1.nl,i2]
  have A:rr.len=p.src.len:=jh
  have W:rr.width=ei.w:=jh
  have G:(E.toArray++Q6 z.cells (grownCap w p.src.len 0 e - p.src.len)).size=grownCap w p.src.len 0 e*ei.w:=by
   simp only [Qw,Qx,size_zeroCells,hzs,hnl,<- Q7];congr 1;omega
  have hfit:p.src.len*ei.w<=grownCap w p.src.len 0 e*ei.w:=Q5 _ hge;have hml:grownCap w p.src.len 0 e<=maxLen:=grownCap_le_maxLen w p.src.len 0 e (by simp only [maxLen];omega);have S:Rep (xI M w.heap.size 0 (p.src.len*rr.width) ((E.toArray++Q6 z.cells (grownCap w p.src.len 0 e - p.src.len))[·]?)) rr (.slice (some ⟨w.heap.size,0,none⟩) p.src.len (grownCap w p.src.len 0 e)):=by
   have:=wB (M':=xI M w.heap.size 0 (p.src.len*rr.width) ((E.toArray++Q6 z.cells (grownCap w p.src.len 0 e - p.src.len))[·]?)) (b:=w.heap.size) (o:=0) (cap:=grownCap w p.src.len 0 e) N V (uK λo _ _=>T.mlt (Q4 _)) ?_ jh
   ·rwa [A] at this
   intro j hj;rw [A] at hj;simp only [xI,Qa];rw [if_pos ⟨trivial,Qn _,hj⟩,D];simp only [W6,Wa,if_false,Nat.sub_zero];rw [W] at hj;have:=n3 j (by rw [bc];exact hj);rw [Array.getElem?_append_left jl];simpa using this
  refine ⟨_,_,_,h0.trans' (uK λo _ _=>T.mlt (Q4 _)),zBj T hpk U _,(T.bufNew (sC w _ e) (.inl U) V jh ?_ ?_ hml S).put (hws d (by simp [Qm])) ?_⟩
  ·rw [G,W];exact hfit
  ·rw [G,W];exact Q4 _
  ·rw [A];refine .buf d _ rr _ (zU _ _ _) V jh ?_ (λ_=>(yR _ _ _).symm);have:rr.take p.src.len=rr:=by rw [<- A];cases rr<;>simp [Qh] at V<;>simp [Qy,Q8]
   rw [this];exact S
end
section
def sL (h:c.isSlice=true):c.take c.len=c:=by cases c<;>simp [Qh] at h<;>simp [Qy,Q8]
def zHj {D:Nat->Option Nat} {a:Act} (K:Inv cx M D tip s a w) (G:∀ k∈cx.pk,D k.1=some k.2/\k.2<cx.w0.heap.size) (I:s.blk k=some (.buf c)) (b:Option Nat):∀ h∈cx.pk,kF D k b h.1=some h.2/\h.2<cx.w0.heap.size:=by
 intro h A;have y:=G h A;rw [zW]
 ·exact y
 ·intro e;obtain ⟨_,_,_,E⟩:=K.bufs _ c I;rw [<- e] at E;rcases E with ⟨_,v⟩ | ⟨b',n,cap,J,e,L,_,v,S,N,_⟩
  ·simp_all
  ·rw [y.1] at v;cases v;omega
def zPv {E:TI} (hok:yN P te) (hd:o.dst=some d) (ho:o.op=.call { callee:=.builtin .append,args:=#[x,y],argTypes:=#[t,t'] })
  (ht:(te t).map (·.ty)=some (.slice e)) (he:te e=some E) (ht':P.underlying t'=some dd) (hdd:zBd dd) (hx:s.get te t x=some (.buf k c.len)) (hk:s.blk k=some (.buf c)) (hcw:c.width=E.w) (hw0:0<E.w) (hz:E.z.length=E.w) (hy:s.get te t' y=some vy) (hp:s.rd vy=some (p,bs)) (v:c.app p=some rr)
  (hel:aW p=true) (hb:(c.len+p.src.len)*E.b<=140737488355328) (hb1:0<E.b) :
  SA P o s ⟨opS x (.buf k c.len)++opS y vy,(k,.buf c) :: bs,[],some (d,some (.buf k rr.len)),[(k,.buf rr)]⟩:=by
 refine ⟨?_,yK (zO hx) (zO hy),?_,by intro k hk';simp at hk'⟩
 ·intro cx s' a w K Q hm hs hws hk';obtain ⟨M,κ,tip,h0,hpk,hi⟩:=hs;have hbk:=hm.2.1 (k,.buf c) jk;simp only at hbk;have hx':=yB hi (yJ hx s' (yE hm.1));have hy':=dS hi hy hp (zY hm.1) (λe he=>hm.2.1 e (by simp [he]));obtain ⟨q1,q2,q3,q4,q5,q6,q7⟩:=zFs v;obtain ⟨b1,b2,b3,b4⟩:=hi.bufs k c hbk;have hevx:a.eval x=tip k:=by
   generalize a.eval x=zx at hx';cases hx' with
   | buf _ _ c' _ g1 g2 g3 g4 g5=>rw [hbk] at g1;cases g1;exact g5 rfl
  obtain ⟨G,g,n1,n2,n3⟩:=zZg (P:=P) hi.mem v hy' jh;obtain ⟨info,z,i1,i2,i3,i4,i5⟩:=(hok e E he).info;have hu:=yV hok ht;have hlen:c.len+p.src.len<=140737488355328:=Qr (Qd _ hb1) hb;rw [hcw,<- i2] at n1;have hnl:G.length=p.src.len*E.w:=by rw [n1.nl,i2]
  have hrw:rr.width=E.w:=jh
  have hzs:z.cells.size=E.w:=by rw [<- Qu,i5];simpa using hz
  have hone:∀ u∈G,u.oneCell'=true:=by
   rcases zSk v with hsl | ⟨l,rfl⟩
   ·have hps:p.src=p:=by cases p<;>simp [Qh] at hsl<;>rfl
    rw [hps] at n2 n3 hnl q5;exact zE8 hsl jh hw0 n2 hnl (λj hj=>n3 j (by rw [hcw];exact hj)) hel
   ·exact zE8 (p:=.bytes l) rfl (by have h5:(1:Nat)=c.width:=q5;show (1:Nat)=E.w;omega) hw0 n2 hnl (λj hj=>n3 j (by rw [hcw];exact hj)) rfl
  unfold Qq;rcases b4 with ⟨hnil,hκ⟩ | ⟨b,n,cap,arr,e1,fz,htip,hκ,hbase,hheap,hfree,hcap,hml,hM⟩
  ·
   have hlen0:c.len=0:=by
    rw [hnil] at b1;rcases mE b1 b2 with ⟨_,h⟩ | ⟨b,o,n,cc,h,_⟩ | ⟨aa,h,_⟩
    ·exact h
    ·cases h
    ·cases h
   by_cases hm0:p.src.len=0
   ·rw [hm0] at n1;have hrun:=mL (P:=P) (ty:=o.type) hu ht' hdd i1 n1;rw [xH ho (hevx.trans hnil) hrun];show K (a.put o.dst _) _;rw [hd];refine hk' _ _ ?_;rw [uL];have hrl:rr.len=0:=jh
    have hrn:rr=c:=by
     have hps:p.src.len=0:=hm0;unfold PV.app at v;split at v
     ·rename_i aa bb;simp only [PV.src,Q8] at hps;have:bb=[]:=Ql hps;subst this;simp at v;exact v.symm
     ·rename_i ww aa ww' bb;simp only [PV.src,Q8] at hps;have:bb=[]:=Ql hps;subst this;cases hbq:Q2 ww ww' with
      | false=>simp [hbq] at v
      | true=>simp [hbq] at v;exact v.symm
     ·rename_i aa bb;simp only [PV.src,Q8] at hps;have:bb=[]:=Ql hps;subst this;simp at v;exact v.symm
     ·cases v
    subst hrn;have hset:s'.setb k (.buf rr)=s':=by
     cases s' with
     | mk env blk=>
      simp only [AS.setb];congr 1;funext t;by_cases ht:t=k
      ·subst ht;simp;exact hbk.symm
      ·have:Q2 t k=false:=by rw [Qg];intro e;exact ht (Q1 e)
       simp [this]
    rw [hset];refine ⟨M,κ,tip,h0,hpk,hi.put (hws d (by simp [Qm])) ?_⟩;refine .buf k _ rr _ hbk b2 (Q4 _) ?_ (λ_=>hnil.symm);rw [sL b2,<- hnil];exact b1
   ·have hrun:=iP (P:=P) (ty:=o.type) hu ht' hdd i1 i4 n1 jh (by rw [i3];rw [hlen0,Qa] at hb;exact hb) jh;rw [xH ho (hevx.trans hnil) hrun];show K (a.put o.dst _) _;rw [hd];refine hk' _ _ ?_;rw [uL];have F:=aO v (mA q1 hlen0 (λ_=>undef)) n2;have hge:=grownCap_ge w p.src.len 0 e;have hrl:rr.len=p.src.len:=jh
    have hsize:(G.toArray++Q6 z.cells (grownCap w p.src.len 0 e - p.src.len)).size=grownCap w p.src.len 0 e*E.w:=by
     simp only [Qw,Qx,size_zeroCells,hzs,hnl,<- Q7];congr 1;omega
    have hfit:p.src.len*E.w<=grownCap w p.src.len 0 e*E.w:=Q5 _ hge;have hml:grownCap w p.src.len 0 e<=maxLen:=grownCap_le_maxLen w p.src.len 0 e (by simp only [maxLen];omega);have I:Rep (xI M w.heap.size 0 (p.src.len*rr.width) ((G.toArray++Q6 z.cells (grownCap w p.src.len 0 e - p.src.len))[·]?)) rr (.slice (some ⟨w.heap.size,0,none⟩) p.src.len (grownCap w p.src.len 0 e)):=by
     have:=wB (M':=xI M w.heap.size 0 (p.src.len*rr.width) ((G.toArray++Q6 z.cells (grownCap w p.src.len 0 e - p.src.len))[·]?)) (b:=w.heap.size) (o:=0) (cap:=grownCap w p.src.len 0 e) F q2 (uK λo _ _=>hi.mlt (Q4 _)) ?_ jh
     ·rwa [hrl] at this
     intro j hj;rw [hrl] at hj;simp only [xI,Qa];rw [if_pos ⟨trivial,Qn _,hj⟩,hlen0];simp only [W6,Wa,if_false,Nat.sub_zero];rw [hrw] at hj;have:=n3 j (by rw [hcw];exact hj);rw [Array.getElem?_append_left jl];simpa using this
    refine ⟨_,_,_,h0.trans' (uK λo _ _=>hi.mlt (Q4 _)),zHj hi hpk hbk _,(hi.bufNew (sC w _ e) (.inr ⟨c,hbk,jh,q7⟩) q2 jh ?_ ?_ hml I).put (hws d (by simp [Qm])) ?_⟩
    ·rw [hsize,hrw];exact hfit
    ·rw [hsize,hrw];exact Q4 _
    ·rw [hrl];refine .buf k _ rr _ (zU _ _ _) q2 jh ?_ (λ_=>(yR _ _ _).symm);rw [<- hrl,sL q2,hrl];exact I
  ·rw [htip] at b1;have hn:n=c.len/\n<=cap:=by
    rcases mE b1 b2 with ⟨h,_⟩ | ⟨b',o',n',cc,h,h2,h3⟩ | ⟨aa,h,hpe⟩
    ·cases h
    ·cases h;exact ⟨h2,h3⟩
    ·cases h;rcases hpe with hpe | hpe<;>(rw [hpe];exact ⟨rfl,Q4 _⟩)
   obtain ⟨hn,hcl⟩:=hn;subst hn;have F:=aO v (zCx b2 b1) n2;simp only [Qa] at F;have hsome:=zJg b2 b1 b3;simp only [Qa] at hsome;have hadd:(c.len+p.src.len)*E.w=c.len*E.w+p.src.len*E.w:=Q7 _ _ _;by_cases hroom:c.len+p.src.len<=cap
   ·have hfits:(c.len+p.src.len)*E.w<=arr.size:=by rw [<- hcw];exact Qr (Q5 _ hroom) hcap
    have hrun:=zAb (P:=P) (ty:=o.type) hu ht' hdd i1 n1 (b:=b) (n:=c.len) (cap:=cap) hone hroom
     (by
       intro j hj;rw [i2];have:c.len*E.w+j<arr.size:=jh
       simp [Qj,hheap,this])
     (by intro j hj;rw [i2];exact tZ hheap hfree jh)
    rw [xH ho (hevx.trans htip) hrun];show K (a.put o.dst _) _;rw [hd];refine hk' _ _ ?_;rw [uL,i2,<- hcw];have hle:M.le (xI M b (c.len*c.width) ((c.len+p.src.len)*c.width) (λo=>G[o - c.len*c.width]?)):=uK λo h _=>hM o h;have I:Rep (xI M b (c.len*c.width) ((c.len+p.src.len)*c.width) (λo=>G[o - c.len*c.width]?)) rr (.slice (some ⟨b,0,none⟩) (c.len+p.src.len) cap):=by
     have:=wB (M':=xI M b (c.len*c.width) ((c.len+p.src.len)*c.width) (λo=>G[o - c.len*c.width]?)) (b:=b) (o:=0) (cap:=cap) F q2 hle ?_ jh
     ·rwa [q6] at this
     intro j hj;rw [q6,q4] at hj;simp only [Qa];by_cases hjc:j<c.len*c.width
     ·rw [if_pos hjc];obtain ⟨u,hu⟩:=Qi.1 (hsome j hjc);rw [hle _ _ _ hu];simp [mget,hu]
     ·rw [if_neg hjc];simp only [xI];rw [if_pos ⟨trivial,jh,hj⟩];exact n3 _ (by rw [hcw] at hj hjc ⊢;omega)
    refine ⟨_,_,_,h0.trans' hle,hpk,(hi.bufIn hbk htip hκ hbase hheap hfree hcap hml hM (by rw [hnl,hcw]) hroom q2 q4 jh q7 jh I).put (hws d (by simp [Qm])) ?_⟩;rw [q6];refine .buf k _ rr _ (zU _ _ _) q2 jh ?_ (λ_=>(yR _ _ _).symm);rw [<- q6,sL q2,q6];exact I
   ·have hol:((W3 (c.len*E.w)).map λj=>mget M b j).length=c.len*info.size:=by simp [i2]
    have hrun:=zBa (P:=P) (ty:=o.type) hu ht' hdd i1 i4 n1 (b:=b) (n:=c.len) (cap:=cap) (olds:=(W3 (c.len*E.w)).map λj=>mget M b j) hol
     (by
      intro j u hu;rw [List.getElem?_map] at hu;obtain ⟨j',h1,h2⟩:=Q0.1 hu;have hj:j<c.len*E.w:=by have:=(List.getElem?_eq_some_iff.1 h1).1;simpa using this
      have hjj:j'=j:=by have:=(List.getElem?_eq_some_iff.1 h1).2;simpa using this.symm
      subst hjj;obtain ⟨zz,hz⟩:=Qi.1 (hsome j' (by rw [hcw];exact hj));rw [hi.mem _ _ _ hz,<- h2];simp [mget,hz])
     jh (by rw [i3];exact hb) jh
    rw [xH ho (hevx.trans htip) hrun];show K (a.put o.dst _) _;rw [hd];refine hk' _ _ ?_;rw [uL];have hge:=grownCap_ge w (c.len+p.src.len) cap e;have hml:grownCap w (c.len+p.src.len) cap e<=maxLen:=grownCap_le_maxLen w _ cap e (by simp only [maxLen];omega);generalize hA:(((W3 (c.len*E.w)).map λj=>mget M b j).toArray++G.toArray++Q6 z.cells (grownCap w (c.len+p.src.len) cap e - (c.len+p.src.len)))=A;have hsize:A.size=grownCap w (c.len+p.src.len) cap e*E.w:=by
     rw [<- hA];simp only [Qw,Qx,Qs,List.length_range,size_zeroCells,hzs,hnl,<- Q7];congr 1;omega
    have hfit:(c.len+p.src.len)*E.w<=grownCap w (c.len+p.src.len) cap e*E.w:=Q5 _ hge;have hget:∀ j,j<(c.len+p.src.len)*E.w->A[j]? = some (if j<c.len*E.w then mget M b j else g (j - c.len*E.w)):=by
     intro j hj;rw [<- hA,Array.getElem?_append_left jl];by_cases hjc:j<c.len*E.w
     ·rw [if_pos hjc,Array.getElem?_append_left (by simpa using hjc)];simp [hjc]
     ·rw [if_neg hjc,Array.getElem?_append_right jl];have:=n3 (j - c.len*E.w) (by rw [hcw];omega);simpa using this
    have hle:M.le (xI M w.heap.size 0 ((c.len+p.src.len)*rr.width) (A[·]?)):=uK λo _ _=>hi.mlt (Q4 _);have I:Rep (xI M w.heap.size 0 ((c.len+p.src.len)*rr.width) (A[·]?)) rr (.slice (some ⟨w.heap.size,0,none⟩) (c.len+p.src.len) (grownCap w (c.len+p.src.len) cap e)):=by
     have:=wB (M':=xI M w.heap.size 0 ((c.len+p.src.len)*rr.width) (A[·]?)) (b:=w.heap.size) (o:=0) (cap:=grownCap w (c.len+p.src.len) cap e) F q2 hle ?_ jh
     ·rwa [q6] at this
     intro j hj;rw [q6] at hj;simp only [xI,Qa];rw [if_pos ⟨trivial,Qn _,hj⟩];rw [hrw] at hj;rw [hget j hj,hcw]
    refine ⟨_,_,_,h0.trans' hle,zHj hi hpk hbk _,(hi.bufNew (sC w _ e) (.inr ⟨c,hbk,jh,q7⟩) q2 jh ?_ ?_ hml I).put (hws d (by simp [Qm])) ?_⟩
    ·rw [hsize,hrw];exact hfit
    ·rw [hsize,hrw];exact Q4 _
    ·rw [q6];refine .buf k _ rr _ (zU _ _ _) q2 jh ?_ (λ_=>(yR _ _ _).symm);rw [<- q6,sL q2,q6];exact I
 ·intro e he;rcases Qb.1 he with he | he
  ·subst he;exact hk
  ·exact uV vy p bs hp e he
end
mutual
def AV.ren (ρ:Nat->Nat):AV->AV
 | .p v=>.p v
 | .nl c=>.nl c
 | .ptr k o=>.ptr (ρ k) o
 | .ref k o n=>.ref (ρ k) o n
 | .buf k n=>.buf (ρ k) n
 | .ag l=>.ag (qN ρ l)
 | .tu l=>.tu (qN ρ l)
 | .fnv f l=>.fnv f (qN ρ l)
 | .own k n=>.own (ρ k) n
 | .optr k n o=>.optr (ρ k) n o
 | .osl k n o m=>.osl (ρ k) n o m
def qN (ρ:Nat->Nat):List AV->List AV
 | []=>[]
 | v :: r=>v.ren ρ :: qN ρ r
end
def pG (y:Nat->Nat):∀ (l:List AV),(qN y l).length=l.length/\∀ (j:Nat),(qN y l)[j]? = (l[j]?).map (AV.ren y)
 | []=>⟨rfl,by simp [qN]⟩
 | v :: r=>by
  obtain ⟨F,E⟩:=pG y r;refine ⟨by simp [qN,F],λj=>?_⟩;cases j with
  | zero=>rfl
  | succ j=>simp [qN,E j]
def ABlk.ren (ρ:Nat->Nat):ABlk->ABlk
 | .var l=>.var (qN ρ l)
 | .buf c=>.buf c
 | .own w l=>.own w (qN ρ l)
def yT.ren {T:Nat->Option Nat} {D:Nat->Value} {A:Nat->Nat} (W:∀ k b,κ k=some b->T (A k)=some b) (I:∀ k b,B k=some b->B' (A k)=some (b.ren A)/\D (A k)=tip k) {x:Value}
  (hr:yT M κ tip B v x):yT M T D B' (v.ren A) x:=by
 induction hr with
 | p v x d=>exact .p v x d
 | nl c d=>exact .nl c d
 | ptr k o b l d E=>exact .ptr _ o b _ (W _ _ d) (I _ _ E).1
 | ref k o n b l d E=>exact .ref _ o n b _ (W _ _ d) (I _ _ E).1
 | buf k n c x d K E h J=>exact .buf _ n c x (I _ _ d).1 K E h (λe=>by rw [J e,(I _ _ d).2])
 | ag l U d _ S=>
  obtain ⟨N,F⟩:=pG A l;refine .ag _ U jh (λj q G=>?_);rw [F] at G;obtain ⟨V,h,J⟩:=Q0.1 G;subst J;exact S j V h
 | tu l U d _ S=>
  obtain ⟨N,F⟩:=pG A l;refine .tu _ U jh (λj q G=>?_);rw [F] at G;obtain ⟨V,h,J⟩:=Q0.1 G;subst J;exact S j V h
 | fnv f l U d _ S=>
  obtain ⟨N,F⟩:=pG A l;refine .fnv f _ U jh (λj q G=>?_);rw [F] at G;obtain ⟨V,h,J⟩:=Q0.1 G;subst J;exact S j V h
 | own k n w l x d E h K=>
  obtain ⟨N,F⟩:=pG A l;exact .own _ n w _ x (I _ _ d).1 jh (λe=>by rw [h jh,(I _ _ d).2]) K
 | optr k n o w l x d E h K=>
  obtain ⟨N,F⟩:=pG A l;exact .optr _ n o w _ x (I _ _ d).1 jh (λe=>by
   obtain ⟨b,g1,Z⟩:=h jh;exact ⟨b,W _ _ g1,Z⟩) K
 | osl k n o m w l x d E h K=>
  obtain ⟨N,F⟩:=pG A l;exact .osl _ n o m w _ x (I _ _ d).1 jh (λe=>by
   obtain ⟨b,c,g1,Z⟩:=h jh;exact ⟨b,c,W _ _ g1,Z⟩) K
def Callable (P:Program) (f:FuncId):Prop:=∃ fn,P.funcs[f]? = some fn/\fn.body.isNone=false/\(fn.name == "runtime.NumGoroutine")=false
def Ok (P:Program) (f:FuncId) (na:Nat) (as rs:AS):Prop:=Callable P f /\
 ∀ (w:World) (M:Mem) (pk:PKs) (args:Array Value) (κ:Nat->Option Nat) (tip:Nat->Value),Inv ⟨w,M,pk,na,[]⟩ M κ tip as ⟨args,[]⟩ w->(∀ k∈pk,κ k.1=some k.2/\k.2<w.heap.size) ->
  Calls P f args w λe w'=>∃ v,e=.returned v/\SRel ⟨w,M,pk,1,[]⟩ rs ⟨#[v],[]⟩ w'
def argE (i:Nat):List PV->LV
 | []=>[]
 | p :: r=>(i,.p p) :: argE (i+1) r
def zFa:∀ (l:List PV) (i t:Nat) (v:AV),lk (argE i l) t=some v->∃ p,v=.p p/\i<=t/\l[t - i]? = some p
 | [],i,t,v,h=>by simp [argE,lk] at h
 | p :: r,i,t,v,h=>by
  simp only [argE,lk] at h;cases E:Q2 t i with
  | true=>
   simp_all
  | false=>
   simp [E] at h;obtain ⟨q,G,I,F⟩:=zFa r _ t v h;refine ⟨q,G,jh,?_⟩;have:t - i=(t - (i+1))+1:=jh
   simp_all
section
inductive lH (s:AS) (te:TE):List Operand->List TypeId->List PV->LV->LB->Prop where
 | nil:lH s te [] [] [] [] []
 | cons (x:Operand) (t:TypeId) (v:AV) (p:PV) (bs:LB) (xs:List Operand) (ts:List TypeId) (ps:List PV) (rs:LV) (bb:LB) :
   s.get te t x=some v->s.rd v=some (p,bs)->lH s te xs ts ps rs bb->lH s te (x :: xs) (t :: ts) (p :: ps) (opS x v++rs) (bs++bb)
def lH.reads {xs:List Operand} {A:List TypeId} {y:LV} (h:lH s te xs A ps y bb):wH s y/\∀ e∈bb,s.blk e.1=some e.2:=by
 induction h with
 | nil=>exact ⟨by intro e d;simp_all,jk⟩
 | cons x t v p bs xs A ps y bb I J _ F=>exact ⟨yK (zO I) F.1,λe d=>(Qc.1 d).elim (uV v p bs J e) (F.2 e)⟩
def lH.rep {xs:List Operand} {F:List TypeId} {D:LV} (h:lH s te xs F ps D bb) {a:Act} (W:Inv cx M κ tip s' a w) :
  wH s' D->(∀ e∈bb,s'.blk e.1=some e.2)->xs.length=ps.length/\∀ (j:Nat) (p:PV),ps[j]? = some p->Rep M p (((xs.map a.eval)[j]?).getD undef):=by
 induction h with
 | nil=>simp
 | cons x t v p bs xs F ps D bb V h2 _ T=>
  intro G J;obtain ⟨Z,N⟩:=T (zY G) (λe y=>J e (Qc.2 (.inr y)));refine ⟨by simp [Z],λj q A=>?_⟩;cases j with
  | zero=>simp at A;subst A;simpa using dS W V h2 (yE G) (λe y=>J e (Qc.2 (.inl y)))
  | succ j=>simp_all
def inS (s:AS) (ρ:Nat->Nat) (blks:LB):AS:={ s with blk:=λk=>(lk (blks.map λe=>(ρ e.1,e.2.ren ρ)) k).or (s.blk k) }
def zPw (d:Nat->Nat):∀ (blks:LB),(∀ e∈blks,∀ G∈blks,d e.1=d G.1->e.1=G.1)->∀ (k:Nat) (b:ABlk),lk blks k=some b->lk (blks.map λe=>(d e.1,e.2.ren d)) (d k)=some (b.ren d)
 | [],_,k,b,h=>by simp [lk] at h
 | (j,c) :: rest,v,k,b,h=>by
  simp only [lk] at h;simp only [Qf,lk];cases F:Q2 k j with
  | true=>
   simp_all
  | false=>
   simp [F] at h;have D:=tG rest k b h;have I:d k≠d j:=λe=>by
    have:=v (k,b) (List.mem_cons_of_mem _ D) (j,c) jk e;simp only at this;subst this;simp at F
   have:Q2 (d k) (d j)=false:=by rw [Qg];simp_all
   simp only [this,cond_false];exact zPw d rest (λe N G J=>v e (by simp [N]) G (by simp [J])) k b h
def zEw (v:Nat->Nat):∀ (blks:LB) (i:Nat) (b:ABlk),lk (blks.map λe=>(v e.1,e.2.ren v)) i=some b->∃ k∈blks.map (·.1),i=v k
 | [],i,b,h=>by simp [lk] at h
 | (j,c) :: rest,i,b,h=>by
  simp only [Qf,lk] at h;cases E:Q2 i (v j) with
  | true=>simp_all
  | false=>
   simp [E] at h;obtain ⟨k,A,G⟩:=zEw v _ i b jh;exact ⟨k,jm,G⟩
def fk (ρ:Nat->Nat) (D:List Nat) (i:Nat):Option Nat:=D.find? λj=>Q2 i (ρ j)
def zDi {v:Nat->Nat} {D:List Nat} (y:∀ j∈D,∀ d∈D,v j=v d->j=d) (E:j∈D):fk v D (v j)=some j:=by
 unfold fk;cases h:D.find? _ with
 | none=>
  have:=List.find?_eq_none.1 h j E;simp_all
 | some d=>
  have I:=List.find?_some h;have G:=List.mem_of_find?_eq_some h;have:=y j E d G (Q1 I);simp_all
def qT {d:Nat->Nat} {D:List Nat} {i:Nat} (h:fk d D i=some j):j∈D/\i=d j:=
 ⟨List.mem_of_find?_eq_some h,Q1 (by have:=List.find?_some h;omega)⟩
theorem Inv.import {a:Act} (hi:Inv cx M κ tip s a w) {a':Act} {κ':Nat->Option Nat} {tip':Nat->Value} (hM:M.le M')
  (hr:Inv ⟨w,M,pk,n,[]⟩ M' κ' tip' (mkS env blks) a' w') (A:Nat->Nat) (hinj:∀ j∈blks.map (·.1),∀ j'∈blks.map (·.1),A j=A j'->j=j')
  (hpk:∀ e∈pk,κ' e.1=some e.2/\κ (A e.1)=some e.2/\(∃ l,s.blk (A e.1)=some (.var l))/\∃ l',lk blks e.1=some (.var l'))
  (hfr:∀ j∈blks.map (·.1),(∃ b,(j,b)∈pk)∨s.blk (A j)=none) (hob:∀ b∈pk.ob,(∀ i,κ i≠some b)/\(cx.w0.heap.size<=b∨b∈cx.ob/\∀ j∈blks.map (·.1),BIG<=j->BIG<=A j)) :
  Inv cx M' (λi=>match fk A (blks.map (·.1)) i with | some j=>κ' j | none=>κ i) (λi=>match fk A (blks.map (·.1)) i with | some j=>tip' j | none=>tip i) (inS s A blks) a w' /\
  ∀ v x,yT M' κ' tip' (mkS env blks).blk v x->yT M' (λi=>match fk A (blks.map (·.1)) i with | some j=>κ' j | none=>κ i) (λi=>match fk A (blks.map (·.1)) i with | some j=>tip' j | none=>tip i) (inS s A blks).blk (v.ren A) x:=by
 generalize hκ2:(λi=>match fk A (blks.map (·.1)) i with | some j=>κ' j | none=>κ i)=κ2;generalize ht2:(λi=>match fk A (blks.map (·.1)) i with | some j=>tip' j | none=>tip i)=tip2;have kin:∀ j∈blks.map (·.1),κ2 (A j)=κ' j:=λj F=>by rw [<- hκ2];simp only [zDi hinj F]
 have tin:∀ j∈blks.map (·.1),tip2 (A j)=tip' j:=λj F=>by rw [<- ht2];simp only [zDi hinj F]
 have D:∀ i,fk A (blks.map (·.1)) i=none->κ2 i=κ i/\tip2 i=tip i:=λi h=>by rw [<- hκ2,<- ht2];simp only [h,and_self]
 have bin:∀ j b,lk blks j=some b->(inS s A blks).blk (A j)=some (b.ren A):=λj b h=>by
  simp only [inS];rw [zPw A blks (λe he e' he' h=>hinj _ (Q3.2 ⟨e,he,rfl⟩) _ (Q3.2 ⟨e',he',rfl⟩) h) j b h];rfl
 have bout:∀ i,fk A (blks.map (·.1)) i=none->(inS s A blks).blk i=s.blk i:=λi h=>by
  simp only [inS];cases hl:lk (blks.map λe=>(A e.1,e.2.ren A)) i with
  | none=>rfl
  | some b=>
   obtain ⟨k,h1,h2⟩:=zEw A blks i b hl;subst h2;rw [zDi hinj h1] at h;cases h
 have lkin:∀ j∈blks.map (·.1),∃ b,lk blks j=some b:=by
  intro j F;clear hr hinj hpk hfr hob kin tin D bin bout hκ2 ht2;induction blks with
  | nil=>simp at F
  | cons e rest ih=>
   obtain ⟨k,b⟩:=e;simp only [lk];cases hb:Q2 j k with
   | true=>exact ⟨b,jk⟩
   | false=>
    simp only [cond_false];refine ih ?_;simp only [Qf,Qb] at F;rcases F with h | h
    ·subst h;simp at hb
    ·exact h
 have lkmem:∀ j b,lk blks j=some b->j∈blks.map (·.1):=λj b h=>Q3.2 ⟨(j,b),tG blks j b h,rfl⟩;have param:∀ j∈blks.map (·.1),s.blk (A j)≠none->∃ b,(j,b)∈pk:=λj F h=>(hfr j F).resolve_right h;have gle:GLe κ κ2 tip tip2 s.blk (inS s A blks).blk:={
  var:=λi b l h h'=>by
   cases E:fk A (blks.map (·.1)) i with
   | none=>rw [(D i E).1,bout i E];exact ⟨h,l,h'⟩
   | some j=>
    obtain ⟨F,rfl⟩:=qT E;obtain ⟨b',hb'⟩:=param j F (by rw [h'];simp);obtain ⟨p1,p2,_,l',p4⟩:=hpk (j,b') hb';simp only at p1 p2 p4;rw [kin j F];rw [p2] at h;cases h;exact ⟨p1,_,bin j _ p4⟩
  buf:=λi c h=>by
   cases E:fk A (blks.map (·.1)) i with
   | none=>exact GLe.same (by rw [bout i E];exact h) (D i E).2
   | some j=>
    obtain ⟨F,rfl⟩:=qT E;obtain ⟨b',hb'⟩:=param j F (by rw [h];simp);obtain ⟨_,_,⟨l,p3⟩,_⟩:=hpk (j,b') hb';simp only at p3;rw [h] at p3;cases p3
  own:=λi c l1 h=>by
   cases E:fk A (blks.map (·.1)) i with
   | none=>exact GLe.sameO (by rw [bout i E];exact h) (D i E).1 (D i E).2
   | some j=>
    obtain ⟨F,rfl⟩:=qT E;obtain ⟨b',hb'⟩:=param j F (by rw [h];simp);obtain ⟨_,_,⟨l,p3⟩,_⟩:=hpk (j,b') hb';simp only at p3;rw [h] at p3;cases p3 }
 have hold:∀ {v:AV} {x:Value},yT M κ tip s.blk v x->yT M' κ2 tip2 (inS s A blks).blk v x:=λh=>(h.mono hM).ghost gle;have hnew:∀ {v:AV} {x:Value},yT M' κ' tip' (mkS env blks).blk v x->yT M' κ2 tip2 (inS s A blks).blk (v.ren A) x:=λh=>
  h.ren (λk b hk=>by
   have:k∈blks.map (·.1):=by
    cases hb:lk blks k with
    | none=>rw [hr.dom k hb] at hk;cases hk
    | some b'=>exact lkmem k b' hb
   rw [kin k this];exact hk) (λk b hb=>⟨bin k b hb,tin k (lkmem k b hb)⟩)
 have hsz:w.heap.size<=w'.heap.size:=hr.fr.size;have hbase:cx.w0.heap.size<=w.heap.size:=hi.fr.size;have notp:∀ i b,κ i=some b->fk A (blks.map (·.1)) i=none->b∉Ctx.pb ⟨w,M,pk,n,[]⟩:=by
  intro i b h1 h2 h3;simp only [Ctx.pb,Q3] at h3;obtain ⟨e,he,rfl⟩:=h3;obtain ⟨_,p2,_,l',p4⟩:=hpk e he;have:=hi.inj i (A e.1) e.2 h1 p2;subst this;rw [zDi hinj (lkmem _ _ p4)] at h2;cases h2
 have noto:∀ i b,κ i=some b->b∉pk.ob:=λi b h1 h2=>(hob b h2).1 i h1;have newb:∀ j b,κ' j=some b->(∃ b,(j,b)∈pk)∨w.heap.size<=b∨b∈pk.ob/\∃ wd l,lk blks j=some (.own wd l):=by
  intro j b h;cases hb:lk blks j with
  | none=>rw [hr.dom j hb] at h;cases h
  | some bl=>
   cases bl with
   | var l=>
    obtain ⟨b',arr,e,fz,q1,q2,q3,q4,q5,q6,q7⟩:=hr.vars j l hb;rw [h] at q1;cases q1;rcases q7 with q7 | q7
    ·exact .inr (.inl q7)
    ·simp only [Ctx.pb,Q3] at q7;obtain ⟨e,he,he2⟩:=q7;have:=hr.inj j e.1 b h (by rw [(hpk e he).1,he2]);exact .inl ⟨e.2,by rw [this];exact he⟩
   | buf c=>
    obtain ⟨_,_,_,q4⟩:=hr.bufs j c hb;rcases q4 with ⟨_,q5⟩ | ⟨b',n',cap,arr,e,fz,_,q5,q6,_⟩
    ·rw [h] at q5;cases q5
    ·rw [h] at q5;cases q5;exact .inr (.inl q6)
   | own wd l=>
    rcases hr.owns j wd l hb with ⟨_,q5,_⟩ | ⟨_,⟨_,q5,_⟩ | ⟨b',n',cap,arr,e,fz,_,q5,q6,_⟩⟩
    ·rw [h] at q5;cases q5
    ·rw [h] at q5;cases q5
    ·rw [h] at q5;cases q5;exact .inr (q6.imp id λh=>⟨h.1,wd,l,rfl⟩)
 refine ⟨{
  defers:=hi.defers
  size:=hi.size
  fr:=⟨hr.fr.os.trans hi.fr.os,hr.fr.tape.trans hi.fr.tape,hr.fr.output.trans hi.fr.output,jh,λb h1 h2 h2'=>by
   rw [hr.fr.block b (by simp only;omega) ?_ (λh=>(hob b h).2.elim (λh=>by omega) λh=>h2' h.1)]
   ·exact hi.fr.block b h1 h2 h2'
   ·intro h3;simp only [Ctx.pb,Q3] at h3;obtain ⟨e,he,rfl⟩:=h3;obtain ⟨_,p2,⟨l,p3⟩,_⟩:=hpk e he;obtain ⟨b',arr,e',fz,q1,_,_,_,_,_,q7⟩:=hi.vars _ l p3;rw [p2] at q1;cases q1;rcases q7 with q7 | q7
    ·omega
    ·exact h2 q7⟩
  mem:=hr.mem
  env:=λt v h=>let ⟨x,h1,h2⟩:=hi.env t v h;⟨x,h1,hold h2⟩
  vars:=λi l h=>by
   cases E:fk A (blks.map (·.1)) i with
   | none=>
    rw [bout i E] at h;obtain ⟨b,arr,e,fz,q1,q2,q3,q4,q5,q6,q7⟩:=hi.vars i l h;have hlt:=hi.lt q1;refine ⟨b,arr,e,fz,by rw [(D i E).1];exact q1,?_,q3,q4,λj q hq=>hold (q5 j q hq),λo=>?_,q7⟩
    ·rw [hr.fr.block b hlt (notp i b q1 E) (noto i b q1)];exact q2
    ·have:=hr.old.1 b o hlt;simp only at this;rw [this];exact q6 o
   | some j=>
    obtain ⟨F,rfl⟩:=qT E;obtain ⟨bl,hbl⟩:=lkin j F;rw [bin j bl hbl] at h;cases bl with
    | buf c=>cases h
    | own wd l0=>cases h
    | var l0=>
     cases h;obtain ⟨b,arr,e,fz,q1,q2,q3,q4,q5,q6,q7⟩:=hr.vars j l0 hbl;obtain ⟨r1,r2⟩:=pG A l0;refine ⟨b,arr,e,fz,by rw [kin j F];exact q1,q2,q3,jh,λjj q hq=>?_,q6,?_⟩
     ·rw [r2] at hq;obtain ⟨q',h3,h4⟩:=Q0.1 hq;subst h4;exact hnew (q5 jj q' h3)
     ·rcases newb j b q1 with ⟨b',hp⟩ | G
      ·obtain ⟨p1,p2,⟨l,p3⟩,_⟩:=hpk (j,b') hp;simp only at p1 p2 p3;rw [q1] at p1;cases p1;obtain ⟨b2,_,_,_,q1',_,_,_,_,_,q7'⟩:=hi.vars _ l p3;rw [p2] at q1';cases q1';exact q7'
      ·rcases G with G | ⟨_,wd,l9,G⟩
       ·exact .inl jh
       ·rw [hbl] at G;cases G
  bufs:=λi c h=>by
   cases E:fk A (blks.map (·.1)) i with
   | none=>
    rw [bout i E] at h;obtain ⟨q1,q2,q3,q4⟩:=hi.bufs i c h;rw [(D i E).1,(D i E).2];refine ⟨q1.mono hM,q2,q3,?_⟩;rcases q4 with q4 | ⟨b,n',cap,arr,e,fz,z1,z2,z3,z4,z5,z6,z7,z8⟩
    ·exact .inl q4
    ·have hlt:=hi.lt z2;refine .inr ⟨b,n',cap,arr,e,fz,z1,z2,z3,?_,z5,z6,z7,λj F=>?_⟩
     ·rw [hr.fr.block b hlt (notp i b z2 E) (noto i b z2)];exact z4
     ·have:=hr.old.1 b j hlt;simp only at this;rw [this];exact z8 j F
   | some j=>
    obtain ⟨F,rfl⟩:=qT E;obtain ⟨bl,hbl⟩:=lkin j F;rw [bin j bl hbl] at h;cases bl with
    | var l0=>cases h
    | own wd l0=>cases h
    | buf c0=>
     have hcc:c0=c:=by simpa [ABlk.ren] using h
     subst hcc;obtain ⟨q1,q2,q3,q4⟩:=hr.bufs j c0 hbl;rw [kin j F,tin j F];refine ⟨q1,q2,q3,?_⟩;rcases q4 with q4 | ⟨b,n',cap,arr,e,fz,z1,z2,z3,z4⟩
     ·exact .inl q4
     ·exact .inr ⟨b,n',cap,arr,e,fz,z1,z2,by simp only at z3;omega,z4⟩
  inj:=λi i' b h1 h2=>by
   cases E:fk A (blks.map (·.1)) i with
   | none=>
    rw [(D i E).1] at h1;cases hf':fk A (blks.map (·.1)) i' with
    | none=>rw [(D i' hf').1] at h2;exact hi.inj i i' b h1 h2
    | some j'=>
     obtain ⟨hj',rfl⟩:=qT hf';rw [kin j' hj'] at h2;rcases newb j' b h2 with ⟨b',hp⟩ | G
     ·exact (notp i b h1 E (by
       simp only [Ctx.pb,Q3];obtain ⟨p1,_⟩:=hpk (j',b') hp;simp only at p1;rw [h2] at p1;cases p1;exact ⟨(j',b),hp,rfl⟩)).elim
     ·rcases G with G | G
      ·have:=hi.lt h1;omega
      ·exact (noto i b h1 G.1).elim
   | some j=>
    obtain ⟨F,rfl⟩:=qT E;rw [kin j F] at h1;cases hf':fk A (blks.map (·.1)) i' with
    | none=>
     rw [(D i' hf').1] at h2;rcases newb j b h1 with ⟨b',hp⟩ | G
     ·exact (notp i' b h2 hf' (by
       simp only [Ctx.pb,Q3];obtain ⟨p1,_⟩:=hpk (j,b') hp;simp only at p1;rw [h1] at p1;cases p1;exact ⟨(j,b),hp,rfl⟩)).elim
     ·rcases G with G | G
      ·have:=hi.lt h2;omega
      ·exact (noto i' b h2 G.1).elim
    | some j'=>
     obtain ⟨hj',rfl⟩:=qT hf';rw [kin j' hj'] at h2;rw [hr.inj j j' b h1 h2]
  dom:=λi h=>by
   cases E:fk A (blks.map (·.1)) i with
   | none=>rw [bout i E] at h;rw [(D i E).1];exact hi.dom i h
   | some j=>
    obtain ⟨F,rfl⟩:=qT E;obtain ⟨bl,hbl⟩:=lkin j F;rw [bin j bl hbl] at h;cases h
  glob:=hi.glob.mono hM
  old:=⟨λb o hb=>by
   have:=hr.old.1 b o (by simp only;omega);simp only at this;rw [this];exact hi.old.1 b o hb,hi.old.2⟩
  owns:=λi wd l h=>by
   cases E:fk A (blks.map (·.1)) i with
   | none=>
    rw [bout i E] at h;rw [(D i E).1,(D i E).2];rcases hi.owns i wd l h with g0 | ⟨g1,g2⟩
    ·exact .inl g0
    refine .inr ⟨g1,?_⟩;rcases g2 with g2 | ⟨b,n',cap,arr,e,fz,z1,z2,z3,z4,z5,z6,z7,z8,z9,z10,z11⟩
    ·exact .inl g2
    ·have hlt:=hi.lt z2;refine .inr ⟨b,n',cap,arr,e,fz,z1,z2,z3,?_,z5,z6,z7,z8,z9,λj q hq=>hold (z10 j q hq),λo=>?_⟩
     ·rw [hr.fr.block b hlt (notp i b z2 E) (noto i b z2)];exact z4
     ·have:=hr.old.1 b o hlt;simp only at this;rw [this];exact z11 o
   | some j=>
    obtain ⟨F,rfl⟩:=qT E;obtain ⟨bl,hbl⟩:=lkin j F;rw [bin j bl hbl] at h;cases bl with
    | var l0=>cases h
    | buf c0=>cases h
    | own wd0 l0=>
     cases h;obtain ⟨r1,r2⟩:=pG A l0;rw [kin j F,tin j F];rcases hr.owns j wd l0 hbl with ⟨g1,g2,rfl⟩ | ⟨g1,g2⟩
     ·exact .inl ⟨g1,g2,rfl⟩
     refine .inr ⟨g1,?_⟩;rcases g2 with ⟨y1,y2,rfl⟩ | ⟨b,n',cap,arr,e,fz,z1,z2,z3,z4,z5,z6,z7,z8,z9,z10,z11⟩
     ·exact .inl ⟨y1,y2,rfl⟩
     ·refine .inr ⟨b,n',cap,arr,e,fz,z1,z2,z3.elim (λh=>.inl (Qr hbase h)) (λh=>(hob b h.1).2.imp id λh'=>⟨h'.1,h'.2 j F h.2⟩),z4,z5,jh,z7,z8,z9,λjj q hq=>?_,z11⟩;rw [r2] at hq;obtain ⟨q',h3,h4⟩:=Q0.1 hq;subst h4;exact hnew (z10 jj q' h3) },λv x h=>hnew h⟩
end
def sh (d j:Nat):Nat:=j+1000*(d+1)
def zQ0 (d:Nat) (h:sh d j=sh d j'):j=j':=by unfold sh at h;omega
section
def zE6 {a:Act} (L:o.op=.call { callee:=.value (.func f),args:=xs,argTypes:=ts }) (S:Callable P f) :
  (execOp a.eval o).run P w=.ok (.enter f (xs.map a.eval)) w:=by
 obtain ⟨J,V,U,N⟩:=S;have A:J.body≠none:=by intro e;simp [e] at U
 have E:J.name ≠ "runtime.NumGoroutine":=by simp_all
 simp [execOp,L,resolve,Act.eval,Deferred.ofValue,invoke,callFunc,V,A,E]
def zJu (V:GlobOk w M) (N:∀ b o x,M b o=some x->w.cell? ⟨b,o,none⟩=some x) (U:args.size=ps.length) (hr:∀ (j:Nat) (p:PV),ps[j]? = some p->Rep M p (args.getD j undef)) :
  Inv ⟨w,M,zP4,ps.length,[]⟩ M (λ_=>none) (λ_=>undef) (mkS (argE 0 ps) []) ⟨args,[]⟩ w where
 defers:=rfl
 size:=U
 fr:=⟨rfl,rfl,rfl,Q4 _,λ_ _ _ _=>rfl⟩
 mem:=N
 env:=λt v h=>by
  obtain ⟨p,rfl,_,F⟩:=zFa ps 0 t v h;have T:=(List.getElem?_eq_some_iff.1 F).1;have A:=jh
  refine ⟨args[t],by simp [A],.p _ _ ?_⟩;have:=hr t p F;simp_all
 vars:=λk l h=>by simp [mkS,lk] at h
 bufs:=λk c h=>by simp [mkS,lk] at h
 inj:=λk Y b h=>by simp
 dom:=λ_ _=>rfl
 old:=⟨λ_ _ _=>rfl,λ_ h=>by cases h⟩
 glob:=V
 owns:=λk wd l h=>by simp [mkS,lk] at h
def zJh {rs:LV} {ρ:Nat->Nat} :Mic.upd ⟨rs,bb,fr,some (d,some v),blks.map λe=>(ρ e.1,e.2.ren ρ)⟩ s=(inS s ρ blks).put d v:=rfl
def yF0 {rs:LV} (hd:o.dst=some d) (ho:o.op=.call { callee:=.value (.func f),args:=xs,argTypes:=ts })
  (J:Ok P f na (mkS (argE 0 ps) []) (mkS [(0,av)] blks)) (I:xs.toList=xl) (br:ts.toList=tl) (U:lH s te xl tl ps rs bb) (hn:na=ps.length) (hf:∀ k∈(blks.map λe=>sh d e.1),s.blk k=none) :
  SA P o s ⟨rs,bb,blks.map λe=>sh d e.1,some (d,some (av.ren (sh d))),blks.map λe=>(sh d e.1,e.2.ren (sh d))⟩:=by
 refine ⟨?_,U.reads.1,U.reads.2,hf⟩;intro cx s' a w K Q S hs V hk;obtain ⟨M,κ,tip,h0,hp,L⟩:=hs;obtain ⟨hl,G⟩:=U.rep L S.1 S.2.1;have W:(xs.map a.eval).size=ps.length:=by rw [<- hl,<- I];simp
 have N:=zJu (w:=w) (L.globw hp) L.mem W (λj p F=>by
  have:=G j p F;rw [<- I] at this;simpa using this)
 subst hn;unfold Qq;rw [zE6 ho J.1];show Calls P f _ w _;refine (J.2 w M zP4 _ _ _ N jk).mono ?_;rintro e w' ⟨v,rfl,M',cc,bk,E,bx,hr⟩;show K (a.put o.dst v) w';rw [hd];refine hk _ _ ?_;rw [zJh];obtain ⟨i1,i2⟩:=L.import E hr (sh d) (λj _ j' _ h=>zQ0 d h) jk (hob:=by simp) (λj F=>.inr (by
  refine S.2.2 (sh d j) ?_;obtain ⟨e,he,rfl⟩:=Q3.1 F;exact Q3.2 ⟨e,he,rfl⟩))
 obtain ⟨x,hx,Y⟩:=hr.env 0 av (by simp [mkS,lk]);simp at hx;subst hx;refine ⟨M',_,_,h0.trans' E,?_,i1.put (V d (by simp [Qm])) (i2 av v Y)⟩;intro k bd;obtain ⟨h1,h2⟩:=hp k bd;refine ⟨?_,h2⟩;have:fk (sh d) (blks.map (·.1)) k.1=none:=by
  cases be:fk (sh d) (blks.map (·.1)) k.1 with
  | none=>rfl
  | some j=>
   obtain ⟨F,he⟩:=qT be;have:=S.2.2 (sh d j) (by obtain ⟨e,ba,rfl⟩:=Q3.1 F;exact Q3.2 ⟨e,ba,rfl⟩);rw [he,L.dom _ this] at h1;cases h1
 simp only [this];exact h1
def shp (d k j:Nat):Nat:=bif Q2 j 0 then k else sh d j
def yHs (d k:Nat) {D:List Nat} (F:∀ j∈D,j≠0->sh d j≠k) (G:j∈D) (E:j'∈D) (h:shp d k j=shp d k j'):j=j':=by
 have y:∀ j:Nat,j≠0->Q2 j 0=false:=λj h=>by rw [Qg];simp_all
 unfold shp at h;by_cases a:j=0
 ·by_cases b:j'=0
  ·omega
  ·subst a;rw [y j' b] at h;exact (F j' E b h.symm).elim
 ·by_cases b:j'=0
  ·simp_all
  ·rw [y j a,y j' b] at h;exact zQ0 d h
def zAh (h:s.rdL l=some (cs,bs)) (hr:∀ (j:Nat) (q:AV),l[j]? = some q->yT M κ tip s.blk q (arr.getD j undef)) :
  cs.length=l.length/\∀ (j:Nat) (q:PV),cs[j]? = some q->Rep M q (arr.getD j undef):=by
 obtain ⟨D,A⟩:=zHr l cs bs h;refine ⟨D,λj q F=>?_⟩;obtain ⟨v,b,G,E⟩:=A j q F;exact zGg (hr j v G) E
def zUn (hg:GlobOk w M) (hm:∀ b o x,M b o=some x->w.cell? ⟨b,o,none⟩=some x) (hs:args.size=ps.length+1) (h0:args[0]? = some (.pointer (some ⟨b,0,none⟩)))
  (hr:∀ (j:Nat) (p:PV),ps[j]? = some p->Rep M p (args.getD (j+1) undef)) (J:w.heap[b]? = some (.cells arr e fz)) (I:zDu fz arr.size) (V:arr.size=cs.length) (Y:∀ (j:Nat) (q:PV),cs[j]? = some q->Rep M q (arr.getD j undef)) (hM:∀ o,M b o=none) :
  Inv ⟨w,M,⟨[(0,b)],[],by simp [BIG]⟩,ps.length+1,[]⟩ M (λk=>bif Q2 k 0 then some b else none) (λ_=>undef) (mkS ((0,.ptr 0 0) :: argE 1 ps) [(0,.var (cs.map .p))]) ⟨args,[]⟩ w where
 defers:=rfl
 size:=hs
 fr:=⟨rfl,rfl,rfl,Q4 _,λ_ _ _ _=>rfl⟩
 mem:=hm
 env:=λt v h=>by
  simp only [mkS,lk] at h;cases E:Q2 t 0 with
  | true=>
   have:=Q1 E;subst this;simp at h;subst h;exact ⟨_,h0,.ptr 0 0 b (cs.map .p) jk (by simp [mkS,lk])⟩
  | false=>
   simp [E] at h;obtain ⟨p,rfl,S,h3⟩:=zFa ps 1 t v h;have bh:t - 1<ps.length:=(List.getElem?_eq_some_iff.1 h3).1;have G:t<args.size:=jh
   refine ⟨args[t],by simp [G],.p _ _ ?_⟩;have:=hr (t - 1) p h3;rw [show t - 1+1=t by omega] at this;simpa [G] using this
 vars:=λk l h=>by
  simp only [mkS,lk] at h;cases E:Q2 k 0 with
  | true=>
   have:=Q1 E;subst this;simp at h;subst h;refine ⟨b,arr,e,fz,jk,J,I,by simp [V],λj q Z=>?_,hM,.inr (by simp [Ctx.pb])⟩;rw [List.getElem?_map] at Z;obtain ⟨p,W,S⟩:=Q0.1 Z;subst S;exact .p _ _ (Y j p W)
  | false=>simp [E] at h
 bufs:=λk c h=>by
  simp only [mkS,lk] at h;cases E:Q2 k 0 with
  | true=>simp [E] at h
  | false=>simp [E] at h
 inj:=λk k' b' W S=>by
  cases E:Q2 k 0 with
  | true=>
   cases K:Q2 k' 0 with
   | true=>rw [Q1 E,Q1 K]
   | false=>simp [K] at S
  | false=>simp [E] at W
 dom:=λk h=>by
  simp only [mkS,lk] at h;cases E:Q2 k 0 with
  | true=>simp [E] at h
  | false=>simp
 old:=⟨λ_ _ _=>rfl,λ_ h=>by cases h⟩
 glob:=hg
 owns:=λk wd l h=>by
  simp only [mkS,lk] at h;cases E:Q2 k 0 with
  | true=>simp [E] at h
  | false=>simp [E] at h
def zZe {xa:Operand} {ta:TypeId} {rs:LV} {bs0:LB} {l':List AV} (hd:o.dst=some d)
  (ho:o.op=.call { callee:=.value (.func f),args:=xs,argTypes:=ts }) (bg:Ok P f na (mkS ((0,.ptr 0 0) :: argE 1 ps) [(0,.var (cs.map .p))]) (mkS [(0,av)] ((0,.var l') :: blks))) (hxl:xs.toList=xa :: xl) (htl:ts.toList=ta :: tl) (bi:s.get te ta xa=some (.ptr k 0)) (hbk:s.blk k=some (.var l)) (bk:s.rdL l=some (cs,bs0))
  (ha:lH s te xl tl ps rs bb) (hn:na=ps.length+1) (hf:∀ j∈(blks.map λe=>sh d e.1),s.blk j=none) (hne:∀ e∈blks,e.1≠0) :
  SA P o s ⟨opS xa (.ptr k 0)++rs,(k,.var l) :: (bs0++bb),blks.map λe=>sh d e.1,some (d,some (av.ren (shp d k))),((0,.var l') :: blks).map λe=>(shp d k e.1,e.2.ren (shp d k))⟩:=by
 refine ⟨?_,yK (zO bi) ha.reads.1,?_,hf⟩
 ·intro cx s' a w K Q hm hs bw hk;obtain ⟨M,κ,tip,h0,hp,U⟩:=hs;have hb':∀ e∈bb,s'.blk e.1=some e.2:=λe A=>hm.2.1 e (by simp [A]);have be:∀ e∈bs0,s'.blk e.1=some e.2:=λe A=>hm.2.1 e (by simp [A]);have N:s'.blk k=some (.var l):=hm.2.1 (k,.var l) jk;obtain ⟨hl,bl⟩:=ha.rep U (zY hm.1) hb';have T:=yB U (yJ bi s' (yE hm.1));obtain ⟨b,arr,e,fz,q1,q2,q3,q4,q5,q6,q7⟩:=U.vars k l N;have hev:a.eval xa=.pointer (some ⟨b,0,none⟩):=by
   generalize a.eval xa=z at T;cases T with
   | ptr _ _ b' _ g1 g2=>rw [q1] at g1;cases g1;rfl
  obtain ⟨c1,c2⟩:=zAh (zCq l cs bs0 bk be) q5;have S:(xs.map a.eval).toList=a.eval xa :: xl.map a.eval:=by simp [hxl]
  have hsz:(xs.map a.eval).size=ps.length+1:=by rw [<- hl,<- Qu,S];simp
  have ba:(xs.map a.eval)[0]? = some (.pointer (some ⟨b,0,none⟩)):=by rw [<- Array.getElem?_toList,S,<- hev];rfl
  have bm:=zUn (w:=w) (U.globw hp) U.mem hsz ba (λj p F=>by
   have:=bl j p F;rw [Qe,<- Array.getElem?_toList,S];simpa using this) q2 q3 jh c2 q6
  subst hn;unfold Qq;rw [zE6 ho bg.1];show Calls P f _ w _;refine (bg.2 w M ⟨[(0,b)],[],by simp [BIG]⟩ _ _ _ bm (by intro k' I;simp at I;subst I;exact ⟨jk,U.lt q1⟩)).mono ?_;rintro e' w' ⟨v,rfl,M',κ',tip',bn,bj,hr⟩;show K (a.put o.dst v) w';rw [hd];refine hk _ _ ?_;rw [zJh];have E:∀ j∈blks.map (·.1),s'.blk (sh d j)=none:=λj F=>by
   refine hm.2.2 (sh d j) ?_;obtain ⟨e,A,rfl⟩:=Q3.1 F;exact Q3.2 ⟨e,A,rfl⟩
  have hD:∀ j∈((0,ABlk.var l') :: blks).map (·.1),j≠0->sh d j≠k:=by
   intro j F D I;simp only [Qf,Qb] at F;rcases F with F | F
   ·exact D F
   ·have:=E j F;rw [I,N] at this;cases this
  obtain ⟨i1,i2⟩:=U.import bn hr (hob:=by simp) (shp d k) (λj F j' hj' h=>yHs d k hD F hj' h)
   (by
    intro e' bf;simp at bf;subst bf;exact ⟨(bj (0,b) jk).1,by simpa [shp] using q1,⟨l,by simpa [shp] using N⟩,l',by simp [lk]⟩)
   (λj F=>by
    simp only [Qf,Qb] at F;by_cases D:j=0
    ·exact .inl ⟨b,by simp [D]⟩
    ·refine .inr ?_;have Z:Q2 j 0=false:=by rw [Qg];intro e;exact D (Q1 e)
     simp only [shp,Z,cond_false];exact E j (F.resolve_left D))
  obtain ⟨x,hx,hrx⟩:=hr.env 0 av (by simp [mkS,lk]);simp at hx;subst hx;refine ⟨M',_,_,h0.trans' bn,?_,i1.put (bw d (by simp [Qm])) (i2 av v hrx)⟩;intro k' I;obtain ⟨Y,h2⟩:=hp k' I;refine ⟨?_,h2⟩;cases bx:fk (shp d k) (((0,ABlk.var l') :: blks).map (·.1)) k'.1 with
  | none=>exact Y
  | some j=>
   obtain ⟨F,A⟩:=qT bx;simp only;by_cases D:j=0
   ·subst D;simp only [shp] at A;rw [A] at Y;simp at Y;rw [q1] at Y;cases Y;exact (bj (0,k'.2) jk).1
   ·have Z:Q2 j 0=false:=by rw [Qg];intro e;exact D (Q1 e)
    simp only [shp,Z,cond_false] at A;simp only [Qf,Qb] at F;have:=E j (F.resolve_left D);rw [A,U.dom _ this] at Y;cases Y
 ·intro e A;simp only [Qb,Qc] at A;rcases A with A | A | A
  ·subst A;exact hbk
  ·exact zC0 l cs bs0 bk e A
  ·exact ha.reads.2 e A
end
def PK (cx:Ctx) (ks:List Nat):Prop:=∀ k∈cx.pk,k.1∈ks
def Lep.mk' (v:PK cx ks) {blk:LB} (F:zRe s env) (y:zQy s blk) (A:lL (lk blk) env=true) (G:tA (lk blk) blk=true) (E:ks.all (λk=>(lk blk k).isSome)=true):Lep cx (mkS env blk) s:=
 ⟨Le.mk' F y A G,λk D=>(W0.1 E) _ (v k D)⟩
def kL (P:Program) (fn:Func) (cx:Ctx) (s rs:AS):Prop:=∀ a w,SRel cx s a w->∃ v,(results fn a.tmps).run P w=.ok v w/\SRel { cx with nt:=1,df:=[] } rs ⟨#[v],[]⟩ w
def RetQ (P:Program) (fn:Func) (cx:Ctx) (rs:AS):Exit->AS->Prop:=λe s=>(e=.ret∨e=.normal)/\kL P fn cx s rs
def zKr {y:Func} {E:Code} {S:Nat} (hf:P.funcs[f]? = some y) (K:y.body=some E) (Z:(y.name == "runtime.NumGoroutine")=false) (ca:S<=y.ntmps) (Y:∀ k,k<BIG->(as.blk k).isSome=true->k∈ks)
  (h:∀ cx:Ctx,cx.nt=y.ntmps->PK cx ks->awp P cx E (RetQ P y cx rs) as):Ok P f S as rs:=by
 refine ⟨⟨y,hf,by simp [K],Z⟩,?_⟩;intro w M L args κ tip d F;refine calls_of_wp hf K ?_;have bu:args.size=S:=d.size;have J:Inv ⟨w,M,L,y.ntmps,[]⟩ M κ tip as { tmps:=args++Array.replicate (y.ntmps - args.size) undef,defers:=[] } w:={
  defers:=rfl
  size:=by simp;omega
  fr:=⟨d.fr.os,d.fr.tape,d.fr.output,d.fr.size,d.fr.block⟩
  mem:=d.mem
  env:=λt v e=>by
   obtain ⟨x,U,h2⟩:=d.env t v e;refine ⟨x,?_,h2⟩;simp only at U;have T:t<args.size:=(Array.getElem?_eq_some_iff.1 U).1;rw [Array.getElem?_append_left T];exact U
  vars:=d.vars
  bufs:=d.bufs
  inj:=d.inj
  dom:=d.dom
  glob:=d.glob
  old:=d.old
  owns:=d.owns }
 have V:=λk hk=>Y k.1 (L.nk k hk) (by
  cases K:as.blk k.1 with
  | none=>have:=(F k hk).1;rw [d.dom _ K] at this;cases this
  | some b=>rfl)
 refine wp_mono (h ⟨w,M,L,y.ntmps,[]⟩ rfl V _ _ ⟨M,κ,tip,Mem.le_refl _,F,J⟩) ?_;rintro e a' w' ⟨s',G,he,I⟩;obtain ⟨v,hv,hr⟩:=I a' w' G;have hd:a'.defers=[]:=by obtain ⟨_,_,_,_,_,ba⟩:=G;exact ba.defers
 rcases he with rfl | rfl
 ·exact ⟨hd,v,hv,v,rfl,hr⟩
 ·exact ⟨hd,v,hv,v,rfl,hr⟩
def SRel.result {a:Act} (h:SRel cx s a w) {v:Value} (V:∀ M y tip,Inv cx M y tip s a w->yT M y tip s.blk av v):SRel { cx with nt:=1,df:=[] } { env:=lk [(0,av)],blk:=s.blk } ⟨#[v],[]⟩ w:=by
 obtain ⟨M,y,tip,N,L,d⟩:=h;refine ⟨M,y,tip,N,L,{
  defers:=rfl
  size:=rfl
  fr:=⟨d.fr.os,d.fr.tape,d.fr.output,d.fr.size,d.fr.block⟩
  mem:=d.mem
  env:=λt u e=>by
   simp only [lk] at e;cases E:Q2 t 0 with
   | true=>
    simp_all
   | false=>simp_all
  vars:=d.vars
  bufs:=d.bufs
  inj:=d.inj
  dom:=d.dom
  glob:=d.glob
  old:=d.old
  owns:=d.owns }⟩
def Imp (pk:PKs) (s s':AS):Prop:=∀ cx a w,cx.pk=pk->SRel cx s a w->SRel cx s' a w
def Imp.trans {v:PKs} {d:AS} (h:Imp v s s') (k:Imp v s' d):Imp v s d:=λcx a w y A=>k cx a w y (h cx a w y A)
def Imp.lep (h:Lep cx s' s):Imp cx.pk s s':=λd a w y v=>v.less h.1 (by rw [y];exact h.2)
def Imp.pure {S:PKs} {t:Nat} (K:s.env t=some v) (I:s.rd v=some (p,bs)):Imp S s (s.put t (.p p)):=by
 intro cx a w _ L;obtain ⟨M,T,tip,J,F,h⟩:=L;refine ⟨M,T,tip,J,F,{ h with env:=λu y e=>?_ }⟩;simp only [AS.put] at e;cases E:Q2 u t with
 | true=>
  have:=Q1 E;subst this;simp at e;subst e;obtain ⟨x,G,N⟩:=h.env u v K;exact ⟨x,G,.p _ _ (zGg N I)⟩
 | false=>
  simp [E] at e;exact h.env u y e
def Imp.promote {T:PKs} {t:Nat} (Z:s.env t=some (.nl c)) (hb:s.blk k=none) (N:0<c.width):Imp T s ((s.setb k (.buf c)).put t (.buf k 0)):=by
 intro cx a w _ hs;obtain ⟨M,κ,tip,Y,L,I⟩:=hs;obtain ⟨x,U,h2⟩:=I.env t _ Z;cases h2 with
 | nl _ d=>
 have A:=I.bufNil hb d N;refine ⟨M,κ,_,Y,L,{ A with env:=λu y e=>?_ }⟩;simp only [AS.put] at e;cases h:Q2 u t with
 | true=>
  have:=Q1 h;subst this;simp at e;subst e;refine ⟨_,U,.buf k 0 c _ (zU _ _ _) ?_ (Qn _) ?_ (λ_=>(yR _ _ _).symm)⟩
  ·unfold Qv at d;split at d<;>first | rfl | cases d
  ·unfold Qv at d;split at d
   ·exact .bytes0
   ·exact .sl0 _
   simp_all
 | false=>
  simp [h] at e;exact A.env u y e
theorem Imp.ren (A:Nat->Nat) (L:∀ j∈blks.map (·.1),∀ j'∈blks.map (·.1),A j=A j'->j=j') (bx:∀ e∈pk,A e.1=e.1/\e.1∈blks.map (·.1)) (cb:∀ j∈blks.map (·.1),BIG<=j->BIG<=A j) :
  Imp pk (mkS env blks) (mkS (env.map λe=>(e.1,e.2.ren A)) (blks.map λe=>(A e.1,e.2.ren A))):=by
 intro cx a w bn hs;obtain ⟨M,κ,tip,h0,hp,J⟩:=hs;generalize Y:(λi=>match fk A (blks.map (·.1)) i with | some j=>κ j | none=>none)=W;generalize cf:(λi=>match fk A (blks.map (·.1)) i with | some j=>tip j | none=>undef)=S;have G:∀ j∈blks.map (·.1),W (A j)=κ j:=λj Z=>by rw [<- Y];simp only [zDi L Z]
 have bd:∀ j∈blks.map (·.1),S (A j)=tip j:=λj Z=>by rw [<- cf];simp only [zDi L Z]
 have K:∀ i,fk A (blks.map (·.1)) i=none->W i=none:=λi h=>by rw [<- Y];simp only [h]
 have D:∀ j b,lk blks j=some b->j∈blks.map (·.1):=λj b h=>Q3.2 ⟨(j,b),tG blks j b h,rfl⟩;have bc:∀ j b,lk blks j=some b->lk (blks.map λe=>(A e.1,e.2.ren A)) (A j)=some (b.ren A):=λj b h=>
  zPw A blks (λe he e' ce h=>L _ (Q3.2 ⟨e,he,rfl⟩) _ (Q3.2 ⟨e',ce,rfl⟩) h) j b h
 have T:∀ i b,lk (blks.map λe=>(A e.1,e.2.ren A)) i=some b->∃ j b',i=A j/\lk blks j=some b'/\b=b'.ren A:=λi b h=>by
  obtain ⟨k,U,F⟩:=zEw A blks i b h;subst F;cases hl:lk blks k with
  | none=>
   exfalso;obtain ⟨e,he,rfl⟩:=Q3.1 U;have:∀ (l:LB),e∈l->lk l e.1≠none:=by
    intro l;induction l with
    | nil=>intro h;simp at h
    | cons x l ih=>
     intro h;obtain ⟨xk,xb⟩:=x;simp only [lk];cases V:Q2 e.1 xk with
     | true=>simp
     | false=>
      simp only [cond_false];rcases Qb.1 h with h | h
      ·subst h;simp at V
      ·exact ih h
   exact this blks he hl
  | some b'=>
   have:=bc k b' hl;rw [h] at this;exact ⟨k,b',rfl,hl,by simpa using this⟩
 have N:∀ {v:AV} {x:Value},yT M κ tip (mkS env blks).blk v x->yT M W S (mkS (env.map λe=>(e.1,e.2.ren A)) (blks.map λe=>(A e.1,e.2.ren A))).blk (v.ren A) x:=λh=>
  h.ren (λk b hk=>by
   have:k∈blks.map (·.1):=by
    cases V:lk blks k with
    | none=>rw [J.dom k V] at hk;cases hk
    | some b'=>exact D k b' V
   rw [G k this];exact hk) (λk b V=>⟨bc k b V,bd k (D k b V)⟩)
 have cd:∀ (l:LV) (t:Nat) (v:AV),lk (l.map λe=>(e.1,e.2.ren A)) t=some v->∃ u,lk l t=some u/\v=u.ren A:=by
  intro l;induction l with
  | nil=>intro t v h;simp [lk] at h
  | cons x l ih=>
   intro t v h;obtain ⟨xk,xv⟩:=x;simp only [Qf,lk] at h ⊢;cases V:Q2 t xk with
   | true=>simp [V] at h;exact ⟨xv,jk,h.symm⟩
   | false=>simp [V] at h;simpa using ih t v (by simpa using h)
 refine ⟨M,W,S,h0,λk hk=>?_,{
  defers:=J.defers
  size:=J.size
  fr:=J.fr
  mem:=J.mem
  env:=λt v h=>by
   obtain ⟨u,U,rfl⟩:=cd env t v h;obtain ⟨x,F,E⟩:=J.env t u U;exact ⟨x,F,N E⟩
  vars:=λi l h=>by
   obtain ⟨j,b',rfl,F,E⟩:=T i _ h;cases b' with
   | buf c=>simp [ABlk.ren] at E
   | own wd l0=>simp [ABlk.ren] at E
   | var l0=>
    simp [ABlk.ren] at E;subst E;obtain ⟨b,be,e,fz,q1,q2,q3,q4,q5,q6,q7⟩:=J.vars j l0 F;obtain ⟨r1,r2⟩:=pG A l0;refine ⟨b,be,e,fz,by rw [G j (D j _ F)];exact q1,q2,q3,jh,λjj q hq=>?_,q6,q7⟩;rw [r2] at hq;obtain ⟨q',E,h4⟩:=Q0.1 hq;subst h4;exact N (q5 jj q' E)
  bufs:=λi c h=>by
   obtain ⟨j,b',rfl,F,E⟩:=T i _ h;cases b' with
   | var l=>simp [ABlk.ren] at E
   | own wd l=>simp [ABlk.ren] at E
   | buf c0=>
    simp [ABlk.ren] at E;subst E;rw [G j (D j _ F),bd j (D j _ F)];exact J.bufs j c F
  inj:=λi i' b U F=>by
   cases hf:fk A (blks.map (·.1)) i with
   | none=>rw [K i hf] at U;cases U
   | some j=>
    obtain ⟨Z,rfl⟩:=qT hf;cases bj:fk A (blks.map (·.1)) i' with
    | none=>rw [K i' bj] at F;cases F
    | some j'=>
     obtain ⟨hj',rfl⟩:=qT bj;rw [G j Z] at U;rw [G j' hj'] at F;rw [J.inj j j' b U F]
  dom:=λi h=>by
   cases hf:fk A (blks.map (·.1)) i with
   | none=>exact K i hf
   | some j=>
    obtain ⟨Z,rfl⟩:=qT hf;cases hl:lk blks j with
    | none=>rw [G j Z];exact J.dom j hl
    | some b=>
     have:=bc j b hl;have h':lk (blks.map λe=>(A e.1,e.2.ren A)) (A j)=none:=h;rw [this] at h';cases h'
  glob:=J.glob
  old:=J.old
  owns:=λi wd l h=>by
   obtain ⟨j,b',rfl,F,E⟩:=T i _ h;cases b' with
   | var l=>simp [ABlk.ren] at E
   | buf l=>simp [ABlk.ren] at E
   | own wd0 l0=>
    simp only [ABlk.ren,ABlk.own.injEq] at E;obtain ⟨rfl,rfl⟩:=E;obtain ⟨r1,r2⟩:=pG A l0;rw [G j (D j _ F),bd j (D j _ F)];rcases J.owns j wd l0 F with ⟨g1,g2,rfl⟩ | ⟨g1,g2⟩
    ·exact .inl ⟨g1,g2,rfl⟩
    refine .inr ⟨g1,?_⟩;rcases g2 with ⟨y1,y2,rfl⟩ | ⟨b,n',cap,be,e,fz,z1,z2,z3,z4,z5,z6,z7,z8,z9,z10,z11⟩
    ·exact .inl ⟨y1,y2,rfl⟩
    ·refine .inr ⟨b,n',cap,be,e,fz,z1,z2,z3.imp id (λh=>⟨h.1,cb j (D j _ F) h.2⟩),z4,z5,jh,z7,z8,z9,λjj q hq=>?_,z11⟩;rw [r2] at hq;obtain ⟨q',E,h4⟩:=Q0.1 hq;subst h4;exact N (z10 jj q' E) }⟩
 rw [bn] at hk;obtain ⟨U,F⟩:=bx k hk;have:=hp k (by rw [bn];exact hk);refine ⟨?_,this.2⟩;have E:=G k.1 F;rw [U] at E;rw [E];exact this.1
section
variable {fn:Func} 
def zJs (d:fn.results=#[]) (h:Imp cx.pk { env:=lk [(0,.tu [])],blk:=s.blk } rs):kL P fn cx s rs:=by
 intro a w A;refine ⟨.tuple #[],by simp [results,d],?_⟩;exact h _ _ _ rfl (A.result λM F tip J=>.tu [] _ rfl jk)
def zY9 (tmps:Array Value):ResultVar->Sem Value
 | .tmp t=>pure (tmps.getD t undef)
 | .cell a t=>do loadVar t (<- asAddr (tmps.getD a undef))
def zAi (A:Func) (d:Array Value):results A d=(do let v <- A.results.mapM (zY9 d);pure (if h:v.size=1 then v[0] else .tuple v)):=rfl
inductive RV (te:TE) (s:AS):ResultVar->AV->Prop where
 | tmp (t:Nat) (v:AV):s.env t=some v->RV te s (.tmp t) v
 | cell (t k off:Nat) (ty:TypeId) (l:List AV) (i:TI) (v:AV):s.env t=some (.ptr k off)->s.blk k=some (.var l)->te ty=some i->i.plain=true->l[off]? = some v->RV te s (.cell t ty) v
 | cellN (t k off:Nat) (ty:TypeId) (l:List AV) (i:TI):s.env t=some (.ptr k off)->s.blk k=some (.var l)->te ty=some i->i.isAgg=true->off+i.w<=l.length->RV te s (.cell t ty) (.ag ((l.drop off).take i.w))
def RV.run (J:yN P te) {rv:ResultVar} (h:RV te s rv v) {a:Act} (I:Inv cx M κ tip s a w) :
  ∃ x,(zY9 a.tmps rv).run P w=.ok x w/\yT M κ tip s.blk v x:=by
 cases h with
 | tmp t v L=>
  obtain ⟨x,G,S⟩:=I.env t v L;exact ⟨x,by simp [zY9,Qe,G],S⟩
 | cell t k off ty l i v L hb ht Z hv=>
  obtain ⟨x,G,S⟩:=I.env t _ L;obtain ⟨b,d,e,fz,q1,q2,q3,q4,q5,q6⟩:=I.vars k l hb;cases S with
  | ptr _ _ b' l' F be=>
   rw [q1] at F;cases F;have N:off<l.length:=(List.getElem?_eq_some_iff.1 hv).1;have A:off<d.size:=jh
   have E:w.cell? ⟨b,off,none⟩=some d[off]:=by simp [Qj,q2,A]
   refine ⟨d[off],?_,?_⟩
   ·simp [zY9,Qe,G,asAddr,eB J ht Z E]
   ·have:=q5 off v hv;simpa [A] using this
 | cellN t k off ty l i L hb ht Z hv=>
  obtain ⟨x,G,S⟩:=I.env t _ L;obtain ⟨b,d,e,fz,q1,q2,q3,q4,q5,q6⟩:=I.vars k l hb;cases S with
  | ptr _ _ b' l' F be=>
   rw [q1] at F;cases F;have U:((d.toList.drop off).take i.w).length=i.w:=by simp;omega
   have D:=fZ J ht Z (w:=w) (a:=⟨b,off,none⟩) ((d.toList.drop off).take i.w) U (by
    intro j u W;rw [List.getElem?_take,List.getElem?_drop] at W;split at W
    ·rw [vL];simp [Qj,q2];simpa using W
    ·cases W)
   refine ⟨.agg ((d.toList.drop off).take i.w).toArray,?_,?_⟩
   ·simp [zY9,Qe,G,asAddr,D]
   ·refine .ag _ _ jl (λj q Y=>?_);rw [List.getElem?_take,List.getElem?_drop] at Y;split at Y
    ·rename_i hj;have:=q5 (off+j) q Y;have N:off+j<d.size:=jh
     simpa [hj,N,List.getElem?_take,List.getElem?_drop] using this
    ·cases Y
def uM (v:yN P te) (y:fn.results=#[E]) (I:RV te s E av) (h:Imp cx.pk { env:=lk [(0,av)],blk:=s.blk } rs):kL P fn cx s rs:=by
 intro a w F;have D:=F;obtain ⟨M,N,tip,U,W,A⟩:=D;obtain ⟨x,G,_⟩:=I.run v A;refine ⟨x,?_,h _ _ _ rfl (F.result λM N tip A=>?_)⟩
 ·simp [zAi,y,G]
 ·obtain ⟨S,d,L⟩:=I.run v A;simp_all
def mZ (d:yN P te) {S:AV} (F:fn.results=#[E,I]) (T:RV te s E V) (U:RV te s I S) (h:Imp cx.pk { env:=lk [(0,.tu [V,S])],blk:=s.blk } rs):kL P fn cx s rs:=by
 intro a w N;have K:=N;obtain ⟨M,κ,tip,h0,hp,G⟩:=K;obtain ⟨x1,J,_⟩:=T.run d G;obtain ⟨Y,A,_⟩:=U.run d G;refine ⟨.tuple #[x1,Y],?_,h _ _ _ rfl (N.result λM κ tip G=>?_)⟩
 ·simp [zAi,F,J,A]
 ·obtain ⟨y1,D,r1⟩:=T.run d G;obtain ⟨y2,v,W⟩:=U.run d G;rw [J] at D;cases D;refine .tu _ _ rfl (λj q y=>?_)
  match j with
  | 0=>simp_all
  | 1=>simp_all
  | j+2=>simp at y
def eQ (d:yN P te) {G D:ResultVar} {a1 U:AV} (K:fn.results=#[G,I,D]) (Y:RV te s G a1) (W:RV te s I U) (Z:RV te s D V) (h:Imp cx.pk { env:=lk [(0,.tu [a1,U,V])],blk:=s.blk } rs):kL P fn cx s rs:=by
 intro a w hs;have S:=hs;obtain ⟨M,κ,tip,h0,hp,y⟩:=S;obtain ⟨x1,N,_⟩:=Y.run d y;obtain ⟨x2,L,_⟩:=W.run d y;obtain ⟨x3,J,_⟩:=Z.run d y;refine ⟨.tuple #[x1,x2,x3],?_,h _ _ _ rfl (hs.result λM κ tip y=>?_)⟩
 ·simp [zAi,K,N,L,J]
 ·obtain ⟨y1,F,r1⟩:=Y.run d y;obtain ⟨y2,A,r2⟩:=W.run d y;obtain ⟨y3,E,r3⟩:=Z.run d y;rw [N] at F;rw [L] at A;rw [J] at E;cases F;cases A;cases E;refine .tu _ _ rfl (λj q v=>?_)
  match j with
  | 0=>simp_all
  | 1=>simp_all
  | 2=>simp at v;subst v;exact r3
  | j+3=>simp at v
end
def flatCells:List PV->List PV
 | []=>[]
 | p :: r=>p.cells++flatCells r
def flat_get {w:Nat}:∀ (ps:List PV),(∀ p∈ps,p.cells.length=w)->(flatCells ps).length=ps.length*w/\∀ (i:Nat) (p:PV) (j:Nat) (q:PV),ps[i]? = some p->p.cells[j]? = some q->(flatCells ps)[i*w+j]? = some q
 | [],_=>⟨by simp [flatCells],jk⟩
 | p :: r,h=>by
  obtain ⟨K,L⟩:=flat_get r (λq A=>h q (by simp [A]));have E:=h p jk;refine ⟨by simp [flatCells,K,E,Q7];omega,λi J j q F A=>?_⟩;cases i with
  | zero=>
   simp at F;subst F;have:=(List.getElem?_eq_some_iff.1 A).1;simp only [flatCells,W6,Qa];rw [List.getElem?_append_left this];exact A
  | succ i=>
   simp only [flatCells];rw [List.getElem?_append_right (by rw [E,Q7];omega),E,show (i+1)*w+j - w=i*w+j by rw [Q7];omega];simp_all
inductive fO (w:Nat):PV->List PV->Prop where
 | bytes (xs:By):w=1->fO w (.bytes xs) (xs.map λx=>.int .u8 x.toNat)
 | sl (ps:List PV):(∀ p∈ps,p.cells.length=w)->fO w (.sl w ps) (flatCells ps)
def fO.cells {w:Nat} (h:fO w c cs) {f:Nat->Value} (E:∀ (j:Nat) (q:PV),cs[j]? = some q->Rep M q (f j)):qM M c f/\c.isSlice=true/\c.width=w/\c.len*w=cs.length:=by
 cases h with
 | bytes xs v=>
  refine ⟨λi x I=>xU (E i _ (by simp [I])),rfl,v.symm,by simp [Q8,v]⟩
 | sl ps v=>
  obtain ⟨G,J⟩:=flat_get ps v;exact ⟨⟨λi p y=>v p (List.mem_of_getElem? y),λi p j q y F=>E _ q (J i p j q y F)⟩,rfl,rfl,by simp [Q8,G]⟩
section
inductive nP (s:AS) (te:TE) (t:TypeId):Nat->List (Nat×Operand)->LV->LV->LB->Prop where
 | nil (n:Nat):nP s te t n [] [] [] []
 | cons (n:Nat) (x:Operand) (v:AV) (p:PV) (bs:LB) (ps:List (Nat×Operand)) (vs rs:LV) (bb:LB):s.get te t x=some v->s.rd v=some (p,bs)->nP s te t (n+1) ps vs rs bb->nP s te t n ((n,x) :: ps) ((n,.p p) :: vs) (opS x v++rs) (bs++bb)
def nP.reads {ps:List (Nat×Operand)} {rs:LV} (h:nP s te t n ps vs rs bb):wH s rs/\∀ e∈bb,s.blk e.1=some e.2:=by
 induction h with
 | nil=>exact ⟨by intro e y;simp_all,jk⟩
 | cons n x v p bs ps vs rs bb I J _ E=>exact ⟨yK (zO I) E.1,λe y=>(Qc.1 y).elim (uV v p bs J e) (E.2 e)⟩
def nP.rep {ps:List (Nat×Operand)} {rs:LV} (h:nP s te t n ps vs rs bb) {a:Act} (K:Inv cx M κ tip s' a w) :
  wH s' rs->(∀ e∈bb,s'.blk e.1=some e.2)->eX M κ tip s'.blk (ps.map λp=>(p.1,a.eval p.2)) vs:=by
 induction h with
 | nil=>intro _ _;trivial
 | cons n x v p bs ps vs rs bb L F _ I=>
  intro hr A;exact ⟨rfl,.p _ _ (dS K L F (yE hr) (λe y=>A e (Qc.2 (.inl y)))),I (zY hr) (λe y=>A e (Qc.2 (.inr y)))⟩
def qJ (z:List PV) (n:Nat):List AV:=(List.replicate n (z.map zA)).flatten
def zUa (z:List PV) (n:Nat):(qJ z n).length=n*z.length:=by simp [qJ]
def zKl (z:List PV):∀ (n j:Nat),(qJ z n)[j]? = if j<n*z.length then (z.map zA)[j % z.length]? else none
 | 0,j=>by simp [qJ]
 | n+1,j=>by
  have D:qJ z (n+1)=z.map zA++qJ z n:=by rfl
  rw [D];by_cases h:j<z.length
  ·rw [List.getElem?_append_left (by simpa using h),if_pos (by rw [Q7];omega),Nat.mod_eq_of_lt h]
  ·rw [List.getElem?_append_right jl,Qs,zKl z n];by_cases y:j<(n+1)*z.length
   ·rw [if_pos y,if_pos (by rw [Q7] at y;omega)];rw [<- Nat.mod_eq_sub_mod jh]
   ·rw [if_neg y,if_neg (by rw [Q7] at y;omega)]
theorem zF6 (J:yN P te) {i:TI} (h:te t=some i) (I:i.z.length=i.w) {info:TypeInfo} (y:P.info? t=some info) (K:info.zero=some z) (n:Nat) :
  CR M κ tip B (qJ i.z n) (madeCells z.cells (n*i.w)):=by
 obtain ⟨E,S,U,W⟩:=zHs J h (M:=M) (κ:=κ) (B:=B) default;have L:E=z:=by simp [zeroValue,typeInfo,y,K] at S;exact S.symm
 subst E;refine ⟨by rw [size_madeCells,zUa,I],λj q A=>?_⟩;rw [zKl] at A;split at A
 ·rename_i G;rw [I] at G A;have V:0<i.w:=by
   rcases Nat.eq_zero_or_pos i.w with h | h
   ·simp_all
   ·exact h
  have:=W.2 (j % i.w) q A;have D:j % i.w<z.cells.size:=by rw [U,I];exact W8 _ V
  have N:(madeCells z.cells (n*i.w)).getD j undef=z.cells[j % i.w]:=by
   simp [madeCells,G,U,I];rw [getElem!_pos z.cells (j % i.w) D]
  rw [N];simpa [D] using this
 ·cases A
def zLt (A:yN P te) (ht:(te t).map (·.ty)=some (.slice e)) (U:te e=some ei) (hz:ei.z.length=ei.w) (hn:n*ei.w<=16777216) {xs:Array (Nat×Value)} (hp:eX M κ tip B xs.toList vs) 
  (hf:nE (λj=>some (j*ei.w,ei.w)) (qJ ei.z n) vs=some l) (w:World):∃ D,(Instr.buildSlice t n xs).run P w=.ok (.slice (some ⟨w.heap.size,0,none⟩) n n) (w.alloc (.cells D e))/\CR M κ tip B l D:=by
 obtain ⟨info,z,W,i2,i3,V,i5⟩:=(A e ei U).info;have T:=zF6 A U hz W V (M:=M) (κ:=κ) (tip:=tip) (B:=B) n;obtain ⟨D,G,f2⟩:=zE2 vs xs.toList _ l _ hp T hf;refine ⟨D,?_,f2⟩;have Z:=yV A ht;have S:¬ (16777216<n*ei.w):=jh
 have J:=vV A U w;by_cases K:n*ei.w=0
 ·have F:madeCells z.cells (n*ei.w)=(Array.range 0).map ((#[]:Array Value)[· % (#[]:Array Value).size]!):=by rw [K];simp [madeCells]
  rw [F] at G;simp only [Instr.buildSlice,Sem.run_bind,run_underlying Z,Result.andThen_ok,J,K];simp only [Array.range_zero',List.map_toArray] at G ⊢;simp [G,newRow] at *;simp [G]
 ·simp only [madeCells] at G;simp [Instr.buildSlice,run_underlying Z,J,S,K,zeroValue,typeInfo,W,V,G,newRow]
def zX3 {ps:Array (Nat×Operand)} {pl:List (Nat×Operand)} {rs:LV} (bi:yN P te) (hd:o.dst=some d) (ho:o.op=.buildSlice t n ps) (bg:ps.toList=pl) (ht:(te t).map (·.ty)=some (.slice e)) (he:te e=some ei) (hz:ei.z.length=ei.w) (bp:0<ei.w) (hn:n*ei.w<=16777216)
  (hp:nP s te e 0 pl vs rs bb) (hf:nE (λj=>some (j*ei.w,ei.w)) (qJ ei.z n) vs=some (cs.map .p)) (hc:fO ei.w c cs) (A:c.len=n) (hk:s.blk d=none) :
  SA P o s ⟨rs,bb,[d],some (d,some (.buf d c.len)),[(d,.buf c)]⟩:=by
 refine ⟨?_,hp.reads.1,hp.reads.2,by intro k G;simp at G;subst G;exact hk⟩;intro cx s' a w K Q hm hs bd G;obtain ⟨M,κ,tip,h0,be,Z⟩:=hs;have V:=hm.2.2 d jk;have bn:=hp.rep Z hm.1 hm.2.1;have bh:(ps.map λ(i,x)=>(i,a.eval x)).toList=pl.map λp=>(p.1,a.eval p.2):=by simp [<- bg]
 obtain ⟨y,T,U⟩:=zLt bi ht he hz hn (xs:=ps.map λ(i,x)=>(i,a.eval x)) (by rw [bh];exact bn) hf w;have F:∀ (j:Nat) (q:PV),cs[j]? = some q->Rep M q (y.getD j undef):=λj q hq=>repA_pv (U.2 j (.p q) (by simp [hq]));obtain ⟨c1,W,c3,c4⟩:=hc.cells F;have E:y.size=n*ei.w:=by rw [U.1,Qs,<- c4,A]
 unfold Qq;have:(execOp a.eval o).run P w=.ok (.value (.slice (some ⟨w.heap.size,0,none⟩) n n)) (w.alloc (.cells y e)):=by simp [execOp,ho,T]
 rw [this];show K (a.put o.dst _) _;rw [hd];refine G _ _ ?_;rw [uL];have N:M.le (xI M w.heap.size 0 (n*c.width) (y[·]?)):=uK λo _ _=>Z.mlt (Q4 _);have L:=by
  have:=wB (M':=xI M w.heap.size 0 (n*c.width) (y[·]?)) (b:=w.heap.size) (o:=0) (cap:=n) c1 W N ?_ jh
  ·rwa [A] at this
  intro j hj;rw [A] at hj;simp only [xI,Qa];rw [if_pos ⟨trivial,Qn _,hj⟩];rw [c3,<- E] at hj;simp [hj]
 have bc:n<=maxLen:=by
  have:n<=n*ei.w:=Qd _ bp;simp only [maxLen];omega
 refine ⟨_,_,_,h0.trans' N,zBj Z be V _,(Z.bufNew (iD w y e) (.inl V) W jh (by rw [c3,E];exact Q4 _) (by rw [c3,E];exact Q4 _) bc L).put (bd d (by simp [Qm])) ?_⟩;rw [A];refine .buf d _ c _ (zU _ _ _) W jh ?_ (λ_=>(yR _ _ _).symm);rw [<- A,sL W,A];exact L
end
def zLb:TypeDesc->Ty
 | .bool=>.bool
 | .int k=>.int k
 | .string=>.str
 | .slice e=>.slice e
 | .array n e=>.arr n e
 | .struct fs=>.struct (fs.toList.map λf=>(f.type,f.offset))
 | .pointer e=>.ptr e
 | .func _ _ _=>.func
 | .interface _=>.iface
 | _=>.other
def zIz (i:TypeInfo):Nat×Nat×Option (List Value):=(i.size,i.bytes,i.zero.map (·.cells.toList))
def yLq {i:TI} (h1:(P.info? t).map zIz=some (i.w,i.b,some (i.z.map zv))) (h2:(P.underlying t).map zLb=some i.ty) (h3:i.z.all PV.zok=true):TOk P t i where
 info:=by
  obtain ⟨info,a,b⟩:=Q0.1 h1;simp only [zIz,Prod.mk.injEq] at b;obtain ⟨b1,b2,b3⟩:=b;obtain ⟨z,c1,c2⟩:=Q0.1 b3;exact ⟨info,z,a,b1,b2,c1,c2⟩
 zok:=λz hz=>(W0.1 h3) z hz
 und:=by
  obtain ⟨d,a,b⟩:=Q0.1 h2;cases d<;>simp only [zLb] at b<;>rw [<- b]<;>simp only [a]<;>simp
inductive Tr where
 | leaf
 | node (k:Nat) (v:TI) (l r:Tr)
def Tr.get:Tr->TE
 | .leaf,_=>none
 | .node k v l r,t=>bif Q2 t k then some v else bif Nat.blt t k then l.get t else r.get t
def Tr.pr (P:Program):Tr->List ((Option (Nat×Nat×Option (List Value))×Option Ty×Bool)×(Option (Nat×Nat×Option (List Value))×Option Ty×Bool))
 | .leaf=>[]
 | .node t i l r=>(((P.info? t).map zIz,(P.underlying t).map zLb,i.z.all PV.zok),(some (i.w,i.b,some (i.z.map zv)),some i.ty,true)) :: (l.pr P++r.pr P)
def Tr.ok':∀ (t:Tr),(∀ e∈t.pr P,e.1=e.2)->yN P t.get
 | .leaf,_=>λ_ _ h=>by simp [Tr.get] at h
 | .node k v l r,h=>λt i hi=>by
  simp only [Tr.pr,Qb,Qc] at h;simp only [Tr.get] at hi;cases hb:Q2 t k with
  | true=>
   simp [hb] at hi;rw [Q1 hb,<- hi];have e:=h _ (.inl rfl);simp only [Prod.mk.injEq] at e;exact yLq e.1 e.2.1 e.2.2
  | false=>
   simp only [hb,cond_false] at hi;cases hl:Nat.blt t k with
   | true=>simp only [hl,cond_true] at hi;exact Tr.ok' l (λe he=>h e (.inr (.inl he))) t i hi
   | false=>simp only [hl,cond_false] at hi;exact Tr.ok' r (λe he=>h e (.inr (.inr he))) t i hi
def Tr.ok (t:Tr) (h:(t.pr P).map (·.1)=(t.pr P).map (·.2)):yN P t.get:=Tr.ok' t λe he=>by
 revert h he;induction t.pr P with
 | nil=>intro _ he;cases he
 | cons a l ih=>
  intro h he;simp only [Qf,List.cons.injEq] at h;rcases Qb.1 he with rfl | he
  ·exact h.1
  ·exact ih h.2 he
def u8 (n:Int):UInt8:=UInt8.ofNat (n % 256).toNat
def qS (n:Int):((u8 n).toNat:Int)=n % 256:=by
 unfold u8;have h:(n % 256).toNat<256:=jh
 rw [UInt8.toNat_ofNat_of_lt' jh];omega
def wrap_u8 (n:Int):IntKind.u8.wrap n=((u8 n).toNat:Int):=by
 rw [qS];rfl
section
def va_conv8 {v y:TypeId} {E:IntKind} (A:yN P te) (G:o.op=.convert v y x) (J:(te v).map (·.ty)=some (.int E)) (I:(te y).map (·.ty)=some (.int .u8)) (K:s.get te v x=some (.p (.int E a))) :
  VA P o s (opS x (.p (.int E a))) [] (.p (.int .u8 (u8 a).toNat)):=by
 have:=va_conv A G J I K;rwa [wrap_u8] at this
def yKe (f:IOp) (a b:Int):f.val .u8 a b=((u8 (f.val .u8 a b)).toNat:Int):=by
 have:∀ n,IntKind.u8.wrap n=((u8 (IntKind.u8.wrap n)).toNat):=λn=>by
  rw [qS,wrap_u8,qS];omega
 cases f<;>exact this _
def yHy (f:IOp) {h:TypeId} {b:Int} (E:o.op=.binOp f.op D x y h) (G:s.get te D x=some (.p (.int .u8 a))) (F:s.get te h y=some (.p (.int .u8 b))) :
  VA P o s (opS x (.p (.int .u8 a))++opS y (.p (.int .u8 b))) [] (.p (.int .u8 (u8 (f.val .u8 a b)).toNat)):=by
 have:=zRd (P:=P) f E G F;rwa [yKe] at this
inductive RK (P:Program) (ops:Array Oper) (l:List Oper) (s:AS) (K:AS->List Mic->Prop):Prop where
 | mk (s':AS) (ms:List Mic) (h:Run P ops l s s' ms) (k:K s' ms)
def RK.nil (h:K s []):RK P ops [] s K:=⟨s,[],.nil s,h⟩
def RK.va {y:LV} {w:AV} (G:o.dst=some d) (F:o.guard=none) (h:VA P o s y bs w) (k:RK P ops r (s.put d w) λs' A=>K s' (⟨y,bs,[],some (d,some w),[]⟩:: A)):RK P ops (o :: r) s K:=
 let ⟨s',A,E,I⟩:=k;⟨s',_,Run.vv G F h E,I⟩
def RK.st {m:Mic} (y:o.guard=none) (h:SA P o s m) (k:RK P ops r (m.upd s) λs' v=>K s' (m :: v)):RK P ops (o :: r) s K:=
 let ⟨s',v,D,A⟩:=k;⟨s',_,Run.ss y h D,A⟩
def RK.sb {D:LV} {y:ABlk} {w:AV} (G:o.guard=none) (h:SA P o s ⟨D,bs,fr,some (d,some w),[(k,y)]⟩) (E:RK P ops r ((s.setb k y).put d w) λs' I=>K s' (⟨D,bs,fr,some (d,some w),[(k,y)]⟩:: I)):RK P ops (o :: r) s K:=
 RK.st G h (by rw [uL];exact E)
def RK.so {y:LV} {v:ABlk} (D:o.guard=none) (h:SA P o s ⟨y,bs,[],none,[(k,v)]⟩) (A:RK P ops r (s.setb k v) λs' E=>K s' (⟨y,bs,[],none,[(k,v)]⟩:: E)):RK P ops (o :: r) s K:=
 RK.st D h (by rw [aT];exact A)
def yP3 {c a b:Operand} {bb:Bool} (E:o.op=.pick c a b) (A:bb=true) (F:s.get te t0 c=some (.p (.bool bb))) (h:s.get te o.type a=some v):VA P o s (opS c (.p (.bool true))++opS a v) [] v:=zZ1 E (A▸F) h
def yN4 {c a b:Operand} {bb:Bool} (E:o.op=.pick c a b) (A:bb=false) (F:s.get te t0 c=some (.p (.bool bb))) (h:s.get te o.type b=some v):VA P o s (opS c (.p (.bool false))++opS b v) [] v:=yBo E (A▸F) h
def cT {t:Nat} {x y:Code} {b:Bool} (E:b=true) (A:s.env t=some (.p (.bool b))) (h:awp P cx x Q s):awp P cx (.cond (.tmp t) x y) Q s:=zOc A (λ_=>h) (λe=>by simp_all)
def cF {t:Nat} {x y:Code} {b:Bool} (E:b=false) (A:s.env t=some (.p (.bool b))) (h:awp P cx y Q s):awp P cx (.cond (.tmp t) x y) Q s:=zOc A (λe=>by simp_all) (λ_=>h)
theorem rgn (y:cx.nt=n) (h:RK P ops ops.toList s λs' I=>bC n I=true/\Q .normal s'):awp P cx (.region id ops false) Q s:=
 let ⟨_,_,F,E,G⟩:=h;zQx F jm G
theorem rgd (D:cx.nt=n) (G:P.follows .mixedOrders=true) (h:RK P ops ops.toList s λs' E=>bC n E=true/\(qH ops E&&zLp ops)=true/\Q .normal s'):awp P cx (.region id ops true) Q s:=by
 obtain ⟨s',E,I,K,F,J⟩:=h;simp only [Bool.and_eq_true] at F;exact yDa I jm G F.1 F.2 J
end
def LIM:Nat:=140737488355328
def yM (b:Nat) (l m:List α):Option (List α):=if (l.length+m.length)*b<=LIM then some (l++m) else none
def kN {v:Type} {l m r:List v} (h:yM b l m=some r):r=l++m/\(l.length+m.length)*b<=140737488355328:=by
 unfold yM at h;split at h
 ·rename_i y;cases h;exact ⟨rfl,y⟩
 simp_all
def appB {l m r:By} (h:yM b l m=some r):(PV.bytes l).app (.bytes m)=some (.bytes r):=by rw [(kN h).1];rfl
def appS {l m r:By} (h:yM b l m=some r):(PV.bytes l).app (.str m)=some (.bytes r):=by rw [(kN h).1];rfl
def appM {v:Type} {f:v->PV} {w:Nat} {l m r:List v} (h:yM b l m=some r):(PV.sl w (l.map f)).app (.sl w (m.map f))=some (.sl w (r.map f)):=by
 rw [(kN h).1];simp [PV.app]
def zN6 {v:Type} {l m r:List v} (h:yM b l m=some r):(l.length+m.length)*b<=140737488355328:=(kN h).2
def bind_some {v y:Type} {m:Option v} {k:v->Option y} {r:y} (h:m.bind k=some r):∃ x,m=some x/\k x=some r:=Option.bind_eq_some_iff.1 h
section
def zSu {c:Code} (d:Imp cx.pk s s') (h:awp P cx c Q s'):awp P cx c Q s:=λa w v=>h a w (d cx a w rfl v)
def LQ (cx:Ctx) (E:X->AS) (R:Y->Exit->AS->Prop):X ⊕ Y->Exit->AS->Prop
 | .inl x,e,s=>e=.normal/\Imp cx.pk s (E x)
 | .inr y,e,s=>R y e s
def yPg {A:Code} (E:X->AS) (step:X->Option (X ⊕ Y)) (R:Y->Exit->AS->Prop) (I:∀ y s,¬ R y .normal s)
  (Z:∀ x r,step x=some r->awp P cx A (LQ cx E R r) (E x)):∀ n x y,zP step n x=some y->awp P cx (.loop A) (R y) (E x):=by
 intro n x y D a w hs;refine wp_loop_rounds n ?_;induction n generalizing x a w with
 | zero=>simp [zP] at D
 | succ n W=>
  simp only [zP] at D;cases h:step x with
  | none=>simp_all
  | some r=>
   have F:=Z x r h a w hs;cases r with
   | inl x'=>
    rw [h] at D;refine wp_mono F ?_;rintro e J w' ⟨s',K,rfl,G⟩;exact W x' D J w' (G cx J w' rfl K)
   | inr y'=>
    rw [h] at D;cases D;refine wp_mono F ?_;rintro e J w' ⟨s',K,G⟩;cases e with
    | normal=>exact (I _ _ G).elim
    | _=>exact ⟨s',K,G⟩
end
section
def zH9 {S:LV} (hd:o.dst=some d)
  (h:∀ (cx:Ctx) (M:Mem) (A:Nat->Option Nat) (tip:Nat->Value) (s:AS) (a:Act) (w:World),Inv cx M A tip s a w->wH s S->(∀ e∈bs,s.blk e.1=some e.2) ->
   ∃ y e,(execOp a.eval o).run P w=.ok (.value (.slice (some ⟨w.heap.size,0,none⟩) n n)) (w.alloc (.cells y e))/\CR M A tip s.blk l y) :
  Snd P o ⟨S,bs,[d],some (d,some (.ref d 0 n)),[(d,.var l)]⟩:=by
 intro cx s a w K Q E Y hw Z;obtain ⟨M,A,tip,h0,T,D⟩:=Y;obtain ⟨y,e,hx,hr⟩:=h cx M A _ s a w D E.1 E.2.1;have N:=E.2.2 d jk;unfold Qq;rw [hx];show K _ _;rw [hd];refine Z _ _ ?_;rw [eY];exact ⟨M,kF A d _,tip,h0,zBj D T N _,(D.newVar N hr e).put (hw d (by simp [Qm])) (.ref d 0 n _ l (xO _ _ _) (zU _ _ _))⟩
def sa_mkr {tl:TypeId} {A:TI} {S U:IntKind} {n:Int} (F:yN P te) (hd:o.dst=some d) (ho:o.op=.makeSlice t x y) (ht:(te t).map (·.ty)=some (.slice e)) (J:te e=some A) (hz:A.z.length=A.w) (Y:s.get te tl x=some (.p (.int S n))) (Z:s.get te tc y=some (.p (.int U n)))
  (h0:0<=n) (hb:n.toNat*A.b<=140737488355328) (L:0<A.b) (hk:s.blk d=none):SA P o s ⟨opS x (.p (.int S n))++opS y (.p (.int U n)),[],[d],some (d,some (.ref d 0 n.toNat)),[(d,.var (qJ A.z n.toNat))]⟩:=by
 refine ⟨zH9 hd ?_,yK (zO Y) (zO Z),jk,jm⟩;intro cx M κ tip s' a w hi hr _;have h1:=xU (repA_pv (yB hi (yJ Y s' (yE hr))));have h2:=xU (repA_pv (yB hi (yJ Z s' (zY hr))));obtain ⟨info,z,W,i2,i3,i4,i5⟩:=(F e A J).info;have hu:=yV F ht;have N:=zF6 F J hz W i4 (M:=M) (κ:=κ) (tip:=tip) (B:=s'.blk) n.toNat;have bg:n.toNat<=n.toNat*A.b:=Qd _ L;have K:(info.bytes:Int)*n<=281474976710656:=by
  rw [i3];have:((n.toNat*A.b:Nat):Int)<=140737488355328:=jh
  rw [Int.natCast_mul,Int.toNat_of_nonneg h0,Int.mul_comm] at this;omega
 have D:=run_make (P:=P) w t e info z hu W i4 S U n n h0 (Int.le_refl _) K jh;exact ⟨_,e,by rw [i2] at D;simp [execOp,ho,h1,h2,D],N⟩
def sa_mk0 {tl:TypeId} {A:TI} {kl kc:IntKind} {n:Int} (V:yN P te) (hd:o.dst=some d) (ho:o.op=.makeSlice t x y) (ht:(te t).map (·.ty)=some (.slice e)) (he:te e=some A) (hz:A.z.length=A.w) (bv:0<A.w) (hx:s.get te tl x=some (.p (.int kl 0))) (hy:s.get te tc y=some (.p (.int kc n)))
  (h0:0<=n) (hb:n.toNat*A.b<=140737488355328) (bj:0<A.b) (T:c.nilOf=true) (bd:c.width=A.w) (hk:s.blk d=none):SA P o s ⟨opS x (.p (.int kl 0))++opS y (.p (.int kc n)),[],[d],some (d,some (.buf d 0)),[(d,.buf c)]⟩:=by
 refine ⟨?_,yK (zO hx) (zO hy),by intro e he;simp at he,by intro k G;simp at G;subst G;exact hk⟩;intro cx s' a w K Q hm hs be G;obtain ⟨M,κ,tip,bm,hp,hi⟩:=hs;have Z:=hm.2.2 d jk;have h1:=xU (repA_pv (yB hi (yJ hx s' (yE hm.1))));have h2:=xU (repA_pv (yB hi (yJ hy s' (zY hm.1))));obtain ⟨info,z,i1,i2,i3,i4,i5⟩:=(V e A he).info;have hu:=yV V ht;have br:n.toNat<=n.toNat*A.b:=Qd _ bj;have bi:(info.bytes:Int)*n<=281474976710656:=by
  rw [i3];have:((n.toNat*A.b:Nat):Int)<=140737488355328:=jh
  rw [Int.natCast_mul,Int.toNat_of_nonneg h0,Int.mul_comm] at this;omega
 have J:=run_make (P:=P) w t e info z hu i1 i4 kl kc 0 n (Int.le_refl _) h0 bi jh;unfold Qq;have:(execOp a.eval o).run P w=.ok (.value (.slice (some ⟨w.heap.size,0,none⟩) 0 n.toNat)) (w.alloc (.cells (madeCells z.cells (n.toNat*A.w)) e)):=by
  rw [i2] at J;simp [execOp,ho,h1,h2,J]
 rw [this];show K (a.put o.dst _) _;rw [hd];refine G _ _ ?_;rw [uL];have E:c.isSlice=true:=by unfold Qv at T;split at T<;>first | rfl | cases T
 have v:c.len=0:=by unfold Qv at T;split at T<;>first | rfl | cases T
 have U:M.le (xI M w.heap.size 0 (0*c.width) ((madeCells z.cells (n.toNat*A.w))[·]?)):=uK λo _ _=>hi.mlt (Q4 _);have L:Rep (xI M w.heap.size 0 (0*c.width) ((madeCells z.cells (n.toNat*A.w))[·]?)) c (.slice (some ⟨w.heap.size,0,none⟩) 0 n.toNat):=by
  have:=wB (M:=M) (M':=xI M w.heap.size 0 (0*c.width) ((madeCells z.cells (n.toNat*A.w))[·]?)) (b:=w.heap.size) (o:=0) (cap:=n.toNat) (mA E v (λ_=>undef)) E U (by rw [v];intro j hj;omega) jh;rwa [v] at this
 refine ⟨_,_,_,bm.trans' U,zBj hi hp Z _,(hi.bufNew (iD w _ e) (.inl Z) E jh jh (by rw [size_madeCells,bd];exact Q4 _) (by simp only [maxLen];omega) L).put (be d (by simp [Qm])) ?_⟩;refine .buf d 0 c _ (zU _ _ _) E jh ?_ (λ_=>(yR _ _ _).symm);rw [<- v,sL E,v];exact L
def sa_litr {y:TI} {ps:Array (Nat×Operand)} {L:List (Nat×Operand)} {V Y:LV} (J:yN P te) (hd:o.dst=some d) (ho:o.op=.buildSlice t n ps) (F:ps.toList=L) (ht:(te t).map (·.ty)=some (.slice e)) (N:te e=some y) (Z:y.z.length=y.w) (hn:n*y.w<=16777216)
  (U:nD s te L V Y) (hf:nE (λj=>some (j*y.w,y.w)) (qJ y.z n) V=some l) (hk:s.blk d=none):SA P o s ⟨Y,[],[d],some (d,some (.ref d 0 n)),[(d,.var l)]⟩:=by
 refine ⟨zH9 hd ?_,U.reads,jk,jm⟩;intro cx M κ tip s' a w hi hr _;have S:=U.rep hi hr;have I:(ps.map λ(i,x)=>(i,a.eval x)).toList=L.map λp=>(p.1,a.eval p.2):=by simp_all
 obtain ⟨T,A,G⟩:=zLt J ht N Z hn (by rw [I];exact S) hf w;exact ⟨T,e,by simp [execOp,ho,A],G⟩
def va_lenR (E:yN P te) (N:o.op=.call { callee:=.builtin .len,args:=#[x],argTypes:=#[t] }) (S:(te t).map (·.ty)=some (.slice e)) (I:s.get te t x=some (.ref k off n)):VA P o s (opS x (.ref k off n)) [] (.p (.int .i64 n)):=by
 refine ⟨?_,zO I,jk⟩;intro cx M Y tip s' a w V W Z;have J:=yB V (yJ I s' W);have U:=yV E S;generalize G:a.eval x=z at J;cases J with
 | ref _ _ _ b l h2 h3=>exact ⟨.int .i64 n,by simp [execOp,N,G,resolve,invoke,builtin,Builtin.len_,run_underlying U,goInt],.p _ _ (.int _ _)⟩
def wP (B:NB) (k:Nat):NB:=λi=>bif Q2 i k then none else B i
def yT.frz {D:Nat->Value} (I:∀ i,i≠k->B' i=B i) (ht:∀ i,i≠k->D i=tip i) {x:Value} (hr:yT M κ tip B v x):v.oks (wP B k)=true->yT M κ D B' v x:=by
 have y:∀ i,(wP B k i).isSome=true->i≠k:=by
  intro i h e;subst e;simp [wP] at h
 induction hr with
 | p v x d=>intro _;exact .p v x d
 | nl c d=>intro _;exact .nl c d
 | ptr i o b l d A=>intro h;simp only [AV.oks] at h;exact .ptr i o b l d (by rw [I i (y i h)];exact A)
 | ref i o n b l d A=>intro h;simp only [AV.oks] at h;exact .ref i o n b l d (by rw [I i (y i h)];exact A)
 | buf i n c x d F A G h4=>intro h;simp only [AV.oks] at h;exact .buf i n c x (by rw [I i (y i h)];exact d) F A G (λe=>by rw [ht i (y i h)];exact h4 e)
 | ag l L d _ K=>intro h;simp only [AV.oks] at h;exact .ag l L d (λj q E=>K j q E (vN l h j q E))
 | tu l L d _ K=>intro h;exact .tu l L d (λj q E=>K j q E (vN l h j q E))
 | fnv f l L d _ K=>intro h;simp only [AV.oks] at h;exact .fnv f l L d (λj q E=>K j q E (vN l h j q E))
 | own i n w l x d A G F=>intro h;simp only [AV.oks] at h;exact .own i n w l x (by rw [I i (y i h)];exact d) A (λe=>by rw [ht i (y i h)];exact G e) F
 | optr i n o w l x d A G F=>intro h;simp only [AV.oks] at h;exact .optr i n o w l x (by rw [I i (y i h)];exact d) A G F
 | osl i n o m w l x d A G F=>intro h;simp only [AV.oks] at h;exact .osl i n o m w l x (by rw [I i (y i h)];exact d) A G F
def Imp.freeze {t:Nat} {w0:Nat} (he:s.env t=some (.ref k 0 n)) (hb:s.blk k=some (.var l)) (cl:s.rdL l=some (cs,bs)) (hc:fO w0 c cs) (T:c.len=n) (hw:0<w0) (bw:n<=maxLen)
  (bv:∀ e∈pk,e.1≠k) (hE:∀ u v,u≠t->s.env u=some v->v.oks (wP s.blk k)=true) (hV:∀ i J,i≠k->s.blk i=some (.var J)->oJ (wP s.blk k) J=true) (hW:∀ i w J,s.blk i=some (.own w J)->oJ (wP s.blk k) J=true):Imp pk s ((s.setb k (.buf c)).put t (.buf k n)):=by
 intro cx a w cf hs;obtain ⟨M,κ,tip,h0,hp,G⟩:=hs;obtain ⟨b,I,e,fz,q1,q2,q3,q4,q5,q6,q7⟩:=G.vars k l hb;obtain ⟨x,ch,ca⟩:=G.env t _ he;obtain ⟨r1,r2⟩:=zAh cl q5;obtain ⟨c1,c2,c3,c4⟩:=hc.cells r2;have Z:I.size=n*w0:=by rw [q4,<- r1,<- c4,T]
 cases ca with
 | ref _ _ _ b' l' g1 g2=>
 rw [q1] at g1;cases g1;have ba:cx.w0.heap.size<=b:=by
  rcases q7 with q7 | q7
  ·exact q7
  ·simp only [Ctx.pb,Q3] at q7;obtain ⟨e',bk,rfl⟩:=q7;have h1:=(hp e' bk).1;have:=G.inj _ _ _ h1 q1;exact (bv e' (cf▸bk) this).elim
 have S:M.le (xI M b 0 (n*c.width) (I[·]?)):=uK λo _ _=>q6 o;have Y:Rep (xI M b 0 (n*c.width) (I[·]?)) c (.slice (some ⟨b,0,none⟩) n n):=by
  have:=wB (M':=xI M b 0 (n*c.width) (I[·]?)) (b:=b) (o:=0) (cap:=n) c1 c2 S ?_ jh
  ·rwa [T] at this
  intro j hj;rw [T] at hj;simp only [xI,Qa];rw [if_pos ⟨trivial,Qn _,hj⟩];rw [c3,<- Z] at hj;simp [hj]
 have hB:∀ i,i≠k->(s.setb k (.buf c)).blk i=s.blk i:=λi h=>zN h;have hT:∀ i,i≠k->nC tip k (.slice (some ⟨b,0,none⟩) n n) i=tip i:=λi h=>yQ h;have D:∀ b' o,b'≠b->xI M b 0 (n*c.width) (I[·]?) b' o=M b' o:=by
  intro b' o A;unfold xI;rw [if_neg (by intro h;exact A h.1)]
 have V:∀ {v:AV} {x:Value},yT M κ tip s.blk v x->v.oks (wP s.blk k)=true->yT (xI M b 0 (n*c.width) (I[·]?)) κ (nC tip k (.slice (some ⟨b,0,none⟩) n n)) (s.setb k (.buf c)).blk v x:=
  λh ho=>(h.frz hB hT ho).mono S
 refine ⟨xI M b 0 (n*c.width) (I[·]?),κ,nC tip k (.slice (some ⟨b,0,none⟩) n n),h0.trans' S,hp,{
  defers:=G.defers
  size:=G.size
  fr:=G.fr
  mem:=λb' o y h=>by
   unfold xI at h;split at h
   ·rename_i bx;obtain ⟨rfl,_,hlt⟩:=bx;simp only [Qj,q2];simpa using h
   ·exact G.mem b' o y h
  env:=λu v h=>by
   simp only [AS.put] at h;cases bg:Q2 u t with
   | true=>
    have:=Q1 bg;subst this;simp at h;subst h;refine ⟨_,ch,.buf k n c _ (zU _ _ _) c2 jh ?_ (λ_=>(yR _ _ _).symm)⟩;rw [<- T,sL c2,T];exact Y
   | false=>
    simp [bg] at h;have A:u≠t:=by rintro rfl;simp at bg
    obtain ⟨y,h1,h2⟩:=G.env u v h;exact ⟨y,h1,V h2 (hE u v A h)⟩
  vars:=λi J h=>by
   have A:i≠k:=by rintro rfl;have E:(s.setb i (.buf c)).blk i=some (.var J):=h;rw [zU] at E;cases E
   have E:(s.setb k (.buf c)).blk i=some (.var J):=h;rw [hB i A] at E;obtain ⟨W,U,e2,bc,z1,z2,z3,z4,z5,z6,z7⟩:=G.vars i J E;have bf:W≠b:=λe=>A (G.inj i k b (e▸z1) q1);exact ⟨W,U,e2,bc,z1,z2,z3,z4,λj q hq=>V (z5 j q hq) (vN J (hV i J A E) j q hq),λo=>by rw [D W o bf];exact z6 o,z7⟩
  bufs:=λi ci h=>by
   have E:(s.setb k (.buf c)).blk i=some (.buf ci):=h;by_cases A:i=k
   ·subst A;rw [zU] at E;cases E;rw [yR];refine ⟨Y,c2,jh,.inr ⟨b,n,n,I,e,fz,rfl,q1,ba,q2,q3,by rw [c3,Z];exact Q4 _,bw,λj hj=>?_⟩⟩;unfold xI;rw [if_neg jh];exact q6 j
   ·rw [hB i A] at E;obtain ⟨z1,z2,z3,z4⟩:=G.bufs i ci E;rw [hT i A];refine ⟨z1.mono S,z2,z3,?_⟩;rcases z4 with z4 | ⟨W,n2,bm,U,e2,bc,y1,y2,y3,y4,y5,y6,y7,y8⟩
    ·exact .inl z4
    ·have bf:W≠b:=λe=>A (G.inj i k b (e▸y2) q1);exact .inr ⟨W,n2,bm,U,e2,bc,y1,y2,y3,y4,y5,y6,y7,λj hj=>by rw [D W j bf];exact y8 j hj⟩
  inj:=G.inj
  dom:=λi h=>by
   have E:(s.setb k (.buf c)).blk i=none:=h;by_cases A:i=k
   ·subst A;rw [zU] at E;cases E
   ·rw [hB i A] at E;exact G.dom i E
  glob:=G.glob.mono S
  old:=⟨λb' o cm=>by rw [D b' o jh];exact G.old.1 b' o cm,G.old.2⟩
  owns:=G.owns.keep λi wd J h=>by
   have E:(s.setb k (.buf c)).blk i=some (.own wd J):=h;have A:i≠k:=by rintro rfl;rw [zU] at E;cases E
   rw [hB i A] at E;exact ⟨E,rfl,hT i A,λW z=>⟨rfl,λo hm=>by rw [D W o (λe=>A (G.inj i k b (e▸z) q1))];exact hm⟩,λj q x hq hr=>V hr (vN J (hW i wd J E) j q hq)⟩}⟩
end
section
end
def zO5 (w:World) (b n:Nat):∃ f:Obj->Obj,(∀ c e v,∃ D,f (.cells c e v)=.cells c e D/\(n=c.size->zDu v c.size->zDu D c.size))/\∀ i,(w.freeze ⟨b,n,none⟩ 1).heap[i]? = if b=i then (w.heap[i]?).map f else w.heap[i]?:=by
 refine ⟨λo=>match o with | .cells c A v=>.cells c A (if v.1==v.2 then (n,n+1) else (min v.1 n,max v.2 (n+1))) | o=>o,?_,?_⟩
 ·intro c e v;refine ⟨_,rfl,λL N=>?_⟩;unfold zDu at *;subst L;split
  ·simp
  simp_all
 ·intro i;unfold Qt;simp only [Nat.one_ne_zero,if_false,Array.getElem?_modify];split
  ·cases w.heap[i]? with
   | none=>rfl
   | some o=>cases o<;>rfl
  ·rfl
section
def Inv.frzMark {a:Act} (D:Inv cx M κ tip s a w) {v:Array Value} (hk:κ k=some b) (bq:cx.w0.heap.size<=b) (d:w.heap[b]? = some (.cells v e fz)) :
  Inv cx M κ tip s a (w.freeze ⟨b,v.size,none⟩ 1):=by
 obtain ⟨f,hf,N⟩:=zO5 w b v.size;have bu:(w.freeze ⟨b,v.size,none⟩ 1).heap.size=w.heap.size:=by unfold Qt;simp
 have U:∀ i o x,w.cell? ⟨i,o,none⟩=some x->(w.freeze ⟨b,v.size,none⟩ 1).cell? ⟨i,o,none⟩=some x:=by
  intro i o x h;simp only [Qj,N i] at h ⊢;by_cases bc:b=i
  ·subst bc;rw [d] at h;obtain ⟨F,K,_⟩:=hf v e fz;simp only [if_true,d,Qo,K];exact h
  ·rw [if_neg bc];exact h
 exact {
  defers:=D.defers
  size:=D.size
  fr:=⟨by have:=D.fr.os;unfold Qt;simpa using this,by have:=D.fr.tape;unfold Qt;simpa using this,by have:=D.fr.output;unfold Qt;simpa using this,by rw [bu];exact D.fr.size,λi K V h3=>by
   rw [N i,if_neg jh];exact D.fr.block i K V h3⟩
  mem:=λi o x h=>U i o x (D.mem i o x h)
  env:=D.env
  vars:=λi l h=>by
   obtain ⟨G,y,e2,J,k1,k2,k3,W,k5⟩:=D.vars i l h;by_cases S:b=G
   ·subst S;rw [d] at k2;cases k2;obtain ⟨F,K,V⟩:=hf v e fz;exact ⟨b,v,e,F,k1,by rw [N b,if_pos rfl,d,Qo,K],V rfl k3,W,k5⟩
   ·exact ⟨G,y,e2,J,k1,by rw [N G,if_neg S];exact k2,k3,W,k5⟩
  bufs:=λi c h=>by
   obtain ⟨k1,k2,k3,W⟩:=D.bufs i c h;refine ⟨k1,k2,k3,?_⟩;rcases W with W | ⟨G,Y,A,y,e2,J,q1,Z,q3,T,q5,q6⟩
   ·exact .inl W
   ·by_cases S:b=G
    ·subst S;rw [d] at T;cases T;obtain ⟨F,K,V⟩:=hf v e fz;exact .inr ⟨b,Y,A,v,e,F,q1,Z,q3,by rw [N b,if_pos rfl,d,Qo,K],V rfl q5,q6⟩
    ·exact .inr ⟨G,Y,A,y,e2,J,q1,Z,q3,by rw [N G,if_neg S];exact T,q5,q6⟩
  inj:=D.inj
  dom:=D.dom
  glob:=D.glob
  old:=D.old
  owns:=λi wd l h=>by
   rcases D.owns i wd l h with g0 | ⟨g1,g2⟩
   ·exact .inl g0
   refine .inr ⟨g1,?_⟩;rcases g2 with g2 | ⟨G,Y,A,y,e2,J,q1,Z,q3,T,q5,q6⟩
   ·exact .inl g2
   ·by_cases S:b=G
    ·subst S;rw [d] at T;cases T;obtain ⟨F,K,V⟩:=hf v e fz;exact .inr ⟨b,Y,A,v,e,F,q1,Z,q3,by rw [N b,if_pos rfl,d,Qo,K],V rfl q5,q6⟩
    ·exact .inr ⟨G,Y,A,y,e2,J,q1,Z,q3,by rw [N G,if_neg S];exact T,q5,q6⟩}
def sa_bb {l:By} (G:yN P te) (hd:o.dst=some d) (ho:o.op=.convert t t x) (ht:(te t).map (·.ty)=some (.slice e)) (S:(te e).map (·.ty)=some (.int .u8)) (hx:s.get te t x=some (.buf k l.length)) (hk:s.blk k=some (.buf (.bytes l))) (hl:l≠[]) :
  SA P o s ⟨opS x (.buf k l.length),[(k,.buf (.bytes l))],[],some (d,some (.buf k l.length)),[]⟩:=by
 refine ⟨?_,zO hx,by intro e S;simp at S;subst S;exact hk,by intro k E;simp at E⟩;intro cx s' a w K Q hm hs' hws E;obtain ⟨M,κ,tip,h0,hp,hi⟩:=hs';have I:s'.blk k=some (.buf (.bytes l)):=hm.2.1 (k,.buf (.bytes l)) jk;have L:=yB hi (yJ hx s' hm.1);obtain ⟨b1,b2,b3,b4⟩:=hi.bufs k _ I;have y:a.eval x=tip k:=by
  have F:=L;generalize a.eval x=zx at F;cases F with
  | buf _ _ c' _ g1 g2 g3 g4 g5=>rw [I] at g1;cases g1;exact g5 rfl
 rcases b4 with ⟨J,_⟩ | ⟨b,n,cap,arr,e1,fz,N,hκ,D,A,hfree,hcap,hml,hM⟩
 ·rw [J] at b1;cases b1;exact (hl rfl).elim
 ·unfold Qq;have:(execOp a.eval o).run P w=.ok (.value (tip k)) (w.freeze ⟨b,arr.size,none⟩ 1):=by
   rw [N] at y ⊢;simp [execOp,ho,y,convert,run_underlying (yV G ht),run_underlying (yIw G S),markStringish,shape,Sem.run,World.shape?,A,freeze]
  rw [this];show K (a.put o.dst _) _;rw [hd];refine E _ _ ⟨M,κ,tip,h0,hp,?_⟩;have hr:=L;rw [y] at hr;exact (hi.frzMark hκ D A).put (hws d (by simp [Qm])) hr
def sa_copy {Y:TypeId} {m:By} (hok:yN P te) (hd:o.dst=some d) (ho:o.op=.call { callee:=.builtin .copy,args:=#[x,y],argTypes:=#[t,Y] }) (ht:(te t).map (·.ty)=some (.slice e)) (he:te e=some ei) (hw:ei.w=1)
  (hx:s.get te t x=some (.ref k off n)) (hk:s.blk k=some (.var l)) (hl:off+n<=l.length) (hy:s.get te Y y=some vy) (hp:s.rd vy=some (.bytes m,bs)) :
  SA P o s ⟨opS x (.ref k off n)++opS y vy,(k,.var l) :: bs,[],some (d,some (.p (.int .i64 (min m.length n:Nat)))),[(k,.var (uS l off ((m.take n).map λu=>.p (.int .u8 u.toNat))))]⟩:=by
 refine ⟨?_,yK (zO hx) (zO hy),λe he=>(Qb.1 he).elim (λh=>by subst h;exact hk) (uV vy _ bs hp e),by intro k T;simp at T⟩;intro cx s' a w K Q hm hs' hws T;obtain ⟨M,κ,tip,h0,hpk,hi⟩:=hs';have hbk:s'.blk k=some (.var l):=hm.2.1 (k,.var l) jk;have hx':=yB hi (yJ hx s' (yE hm.1));have hy':=dS hi hy hp (zY hm.1) (λe he=>hm.2.1 e (by simp [he]));obtain ⟨b,arr,e1,fz,q1,q2,q3,q4,q5,q6,q7⟩:=hi.vars k l hbk;obtain ⟨info,z,i1,i2,i3,i4,i5⟩:=(hok e ei he).info;have hu:=yV hok ht;have I:(P.info? e).map (·.size)=some 1:=by rw [i1,Qo,i2,hw]
 generalize U:a.eval x=zx at hx';cases hx' with
 | ref _ _ _ b' l' g1 g2=>
 rw [q1] at g1;cases g1;have F:∀ (w':World) (vs:List Value),(execOp a.eval o).run P w=.ok (.value (.int .i64 (min m.length n:Nat))) w'->w'=w.setCells b off vs->vs=(m.take n).map (λu=>.int .u8 u.toNat)->o.wp P a w K Q:=by
  intro w' vs h1 h2 h3;subst h2;unfold Qq;rw [h1];show K (a.put o.dst _) _;rw [hd];refine T _ _ ?_;rw [uL];refine ⟨M,κ,tip,h0,hpk,(hi.setVar hbk q1 jl (by simp [h3]) ?_).put (hws d (by simp [Qm])) (.p _ _ (.int _ _))⟩;intro j q hq;rw [List.getElem?_map] at hq;obtain ⟨u,V,h5⟩:=Q0.1 hq;subst h5;rw [h3,List.getElem?_map,V];exact .p _ _ (.int _ _)
 generalize G:a.eval y=zy at hy';cases hy' with
 | bytes0=>
  refine F w [] ?_ rfl jk;have:=run_copy_none (P:=P) w t Y o.type e (some ⟨b,off,none⟩) none n n 0 0 hu I (by simp [Nat.min_def]);simp [execOp,ho,U,G,resolve,invoke,builtin,this,goInt]
 | bytesE aa=>
  refine F w [] ?_ rfl jk;have:=run_copy_none (P:=P) w t Y o.type e (some ⟨b,off,none⟩) (some aa) n n 0 0 hu I (by simp [Nat.min_def]);simp [execOp,ho,U,G,resolve,invoke,builtin,this,goInt]
 | bytes _ b2 o2 n2 c2 e1' e2' e3'=>
  have hcs:((m.take n).map λu=>Value.int .u8 u.toNat).length=Nat.min n2 n:=by simp [e1',Nat.min_comm]
  have S:=run_copy_cells (P:=P) w t Y o.type e b off n n ⟨b2,o2,none⟩ n2 c2 ((m.take n).map λu=>Value.int .u8 u.toNat) hu I hcs
   (by
    intro j u L;rw [List.getElem?_map] at L;obtain ⟨u',V,h5⟩:=Q0.1 L;rw [List.getElem?_take] at V;split at V
    ·rw [vL,<- h5];exact hi.mem _ _ _ (e3' j u' V)
    ·cases V)
   (by
     intro j hj;simp at hj;have:off+j<arr.size:=jh
     simp [Qj,q2,this])
   (by intro j hj;simp at hj;exact tZ q2 q3 jh)
   (by intro u L;obtain ⟨u',_,rfl⟩:=Q3.1 L;rfl)
  refine F _ _ ?_ rfl rfl;have hmin:((m.take n).map λu=>Value.int .u8 u.toNat).length=min m.length n:=by simp [Nat.min_comm]
  rw [hmin] at S;simp [execOp,ho,U,G,resolve,invoke,builtin,S,goInt]
end
def ck (b:Bool):Option Unit:=bif b then some () else none
def yW {b:Bool} {u:Unit} (h:ck b=some u):b=true:=by cases b<;>simp [ck] at h ⊢
def idx (l:List α) (i:Int):Option α:=if 0<=i then l[i.toNat]? else none
def sub (l:List α) (lo hi:Int):Option (List α):=if 0<=lo/\lo<=hi/\hi<=l.length then some ((l.drop lo.toNat).take (hi.toNat - lo.toNat)) else none
def upd (l:List α) (i:Int) (v:α):Option (List α):=if 0<=i/\i<l.length then some (l.set i.toNat v) else none
def zFz {v:Type} {l:List v} {i:Int} {x:v} (h:idx l i=some x):0<=i/\l[i.toNat]? = some x:=by
 unfold idx at h;split at h
 ·simp_all
 simp_all
def zWf {l:By} {i:Int} {x:UInt8} (h:idx l i=some x):(PV.bytes l).idx i=some (.int .u8 x.toNat):=by
 obtain ⟨v,A⟩:=zFz h;simp [PV.idx,v,A]
def idxM {v:Type} {f:v->PV} {w:Nat} {l:List v} {i:Int} {x:v} (h:idx l i=some x):(PV.sl w (l.map f)).idx i=some (f x):=by
 obtain ⟨y,A⟩:=zFz h;simp [PV.idx,y,A]
def zO8 {E:Type} {l r:List E} {d v:Int} (h:sub l d v=some r):0<=d/\d<=v/\v<=l.length/\r=(l.drop d.toNat).take (v.toNat - d.toNat):=by
 unfold sub at h;split at h
 ·simp_all
 simp_all
def tX (n:Int):0<=IntKind.u64.wrap n:=by
 exact Int.emod_nonneg _ ji
section
def mv (y:yN P te) (D:o.op=.move x) (h:s.get te o.type x=some v):VA P o s (opS x v) [] v:=zTf (.inl D) h
def asg (D:yN P te) (E:o.op=.assign x) (h:s.get te o.type x=some v):VA P o s (opS x v) [] v:=zTf (.inr E) h
def iop (D:yN P te) (f:IOp) {v:TypeId} {k:IntKind} {b:Int} (G:o.op=.binOp f.op A x y v) (F:s.get te A x=some (.p (.int k a))) (E:s.get te v y=some (.p (.int k b))):VA P o s (opS x (.p (.int k a))++opS y (.p (.int k b))) [] (.p (.int k (f.val k a b))):=zRd f G F E
def iop8 (E:yN P te) (f:IOp) {v:TypeId} {b:Int} (I:o.op=.binOp f.op D x y v) (G:s.get te D x=some (.p (.int .u8 a))) (F:s.get te v y=some (.p (.int .u8 b))):VA P o s (opS x (.p (.int .u8 a))++opS y (.p (.int .u8 b))) [] (.p (.int .u8 (u8 (f.val .u8 a b)).toNat)):=yHy f I G F
def cmp (D:yN P te) (f:COp) {v:TypeId} {k:IntKind} {b:Int} (G:o.op=.binOp f.op A x y v) (F:s.get te A x=some (.p (.int k a))) (E:s.get te v y=some (.p (.int k b))):VA P o s (opS x (.p (.int k a))++opS y (.p (.int k b))) [] (.p (.bool (f.val a b))):=yL4 f G F E
def scm (D:yN P te) (f:COp) {v:TypeId} {a b:By} (G:o.op=.binOp f.op A x y v) (F:s.get te A x=some (.p (.str a))) (E:s.get te v y=some (.p (.str b))):VA P o s (opS x (.p (.str a))++opS y (.p (.str b))) [] (.p (.bool (SOp f a b))):=yFq f G F E
def pkT (E:yN P te) {c a b:Operand} {bb:Bool} (A:bb=true) (G:o.op=.pick c a b) (F:s.get te 0 c=some (.p (.bool bb))) (h:s.get te o.type a=some v):VA P o s (opS c (.p (.bool true))++opS a v) [] v:=yP3 G A F h
def pkF (E:yN P te) {c a b:Operand} {bb:Bool} (A:bb=false) (G:o.op=.pick c a b) (F:s.get te 0 c=some (.p (.bool bb))) (h:s.get te o.type b=some v):VA P o s (opS c (.p (.bool false))++opS b v) [] v:=yN4 G A F h
def lnS (D:yN P te) (U:o.op=.call { callee:=.builtin .len,args:=#[x],argTypes:=#[t] }) (F:(te t).map (·.ty)=some (.slice e)) (V:s.get te t x=some v) (W:s.rd v=some (p,bs)) (J:p.isSlice=true):VA P o s (opS x v) bs (.p (.int .i64 p.len)):=
 yLi D U (.inl ⟨e,F⟩) V W (by cases p<;>simp [Qh] at J<;>rfl) (λ_=>J) (λh=>by simp_all)
def lnM (D:yN P te) {E:Type} {f:E->PV} {w:Nat} {l:List E} (I:o.op=.call { callee:=.builtin .len,args:=#[x],argTypes:=#[t] }) (T:(te t).map (·.ty)=some (.slice e)) (J:s.get te t x=some v) (S:s.rd v=some (.sl w (l.map f),bs)):VA P o s (opS x v) bs (.p (.int .i64 l.length)):=by
 have:=lnS D I T J S rfl;simpa [Q8] using this
def slB (T:yN P te) {U Y:Option Operand} {I A D:Option Int} {Z V:LV} {l r:By} {b:Int} (h:sub l a b=some r) (ho:o.op=.slice t x U G Y)
  (ht:(te t).map (·.ty)=some (.slice e)) (he:te e=some ei) (hx:s.get te t x=some v) (hp:s.rd v=some (.bytes l,bs)) (hw:1=ei.w)
  (L:Bd s te U I rl) (K:Bd s te G A Z) (N:Bd s te Y D V) (d:D=none∨(D=A/\A.isSome=true)) (ea:I.getD 0=a) (F:A.getD l.length=b) :
  VA P o s (opS x v++(rl++(Z++V))) bs (.p (.bytes r)):=by
 obtain ⟨h0,h1,h2,h3⟩:=zO8 h;subst ea;have S:A.getD ((PV.bytes l).len:Int)=b:=F;have:=zNn T ho ht he hx hp rfl hw L K N (by rcases d with d | ⟨d,J⟩<;>simp [d]) h0 jh
  (by
    rw [S];rcases d with d | ⟨d,J⟩
    ·rw [d];exact h2
    simp_all)
  (by
    rcases d with d | ⟨d,J⟩
    ·rw [d];simp
    ·rw [d];obtain ⟨i,G⟩:=Qi.1 J;rw [G] at F ⊢;simp at F ⊢;rw [F];exact h2)
 rw [S] at this;rw [h3];exact this
def slM (U:yN P te) {W:Type} {f:W->PV} {w:Nat} {lo mx:Option Operand} {J A F:Option Int} {rh Y:LV} {l r:List W} {b:Int} (h:sub l a b=some r) (ho:o.op=.slice t x lo G mx)
  (ht:(te t).map (·.ty)=some (.slice e)) (he:te e=some ei) (hx:s.get te t x=some v) (hp:s.rd v=some (.sl w (l.map f),bs)) (hw:w=ei.w)
  (N:Bd s te lo J rl) (L:Bd s te G A rh) (S:Bd s te mx F Y) (d:F=none∨(F=A/\A.isSome=true)) (ea:J.getD 0=a) (I:A.getD l.length=b) :
  VA P o s (opS x v++(rl++(rh++Y))) bs (.p (.sl w (r.map f))):=by
 obtain ⟨h0,h1,h2,h3⟩:=zO8 h;subst ea;have T:A.getD ((PV.sl w (l.map f)).len:Int)=b:=by simp only [Q8,Qs];exact I
 have D:((PV.sl w (l.map f)).len:Int)=l.length:=by simp [Q8]
 have:=zNn (P:=P) U ho ht he hx hp rfl hw N L S (by rcases d with d | ⟨d,K⟩<;>simp [d]) h0 (by rw [T];exact h1)
  (by
    rw [T];rcases d with d | ⟨d,K⟩
    ·simp_all
    simp_all)
  (by
    rcases d with d | ⟨d,K⟩
    ·rw [d];simp
    simp_all)
 rw [T] at this;rw [h3];simpa [PV.sub,List.map_drop] using this
end
def zNv {A:Nat} {q:AV} (N:o.dst=some d) (I:∀ (cx:Ctx) (s:AS) (a:Act) (w:World),SRel cx s a w->s.env A=some q->Region.wanted o (yielded ops a.tmps)=false) :
  zSs P ops o ⟨[(A,q)],[],[],some (d,some (.p (.tup []))),[]⟩:=by
 intro cx s a w K Q U E S L;have:=I cx s a w E (U.1 (A,q) jk);rw [if_neg jm,N];obtain ⟨M,T,tip,J,F,G⟩:=E;exact L _ _ ⟨M,T,tip,J,F,G.put (S d (by simp [Qm])) (.p _ _ (.tup [] _ rfl jk))⟩
section
def RK.sk {F:Nat} {b D:Bool} (E:D=b) (v:(o.dst,o.guard,(ops[j]?).bind (·.dst),s.env F,b')=(some d,some (j,b'),some F,some (.p (.bool D)),!b))
  (k:RK P ops r (s.put d (.p (.tup []))) λs' I=>K s' (⟨[(F,.p (.bool b))],[],[],some (d,some (.p (.tup []))),[]⟩:: I)):RK P ops (o :: r) s K:=have ⟨N,v⟩:=pq v;have ⟨hg,v⟩:=pq v;have ⟨T,v⟩:=pq v;have ⟨Y,U⟩:=pq v;by
 obtain ⟨s',I,W,h2⟩:=k;subst E U;refine ⟨s',_,.cons o r _ s s' I (zNv N λcx s a w Z A=>?_) ⟨jm,jk,jk⟩ W,h2⟩;have V:=zJj Z T A;cases D<;>simp [Region.wanted,hg,V]
def RK.su {D:Nat} (v:(o.dst,o.guard,(ops[j]?).bind (·.dst),s.env D)=(some d,some (j,b'),some D,some (.p (.tup []))))
  (k:RK P ops r (s.put d (.p (.tup []))) λs' I=>K s' (⟨[(D,.p (.tup []))],[],[],some (d,some (.p (.tup []))),[]⟩:: I)):RK P ops (o :: r) s K:=have ⟨V,v⟩:=pq v;have ⟨Z,v⟩:=pq v;have ⟨U,hb⟩:=pq v;by
 obtain ⟨s',I,W,h2⟩:=k;refine ⟨s',_,.cons o r _ s s' I (zNv V λcx s a w hs F=>?_) ⟨jm,jk,jk⟩ W,h2⟩;obtain ⟨M,κ,tip,h0,hp,Y⟩:=hs;obtain ⟨y,T,G⟩:=Y.env D _ F;have:yielded ops a.tmps j=none:=by
  cases G with
  | p _ _ G=>cases G;simp [yielded,U,T]
 simp [Region.wanted,Z,this]
end
section
structure OQ {J:Type} (cx:Ctx) (f:J->Exit×AS) (j:J) (e:Exit) (s:AS):Prop where
 fst:e=(f j).1
 snd:Imp cx.pk s (f j).2
def zF4 {J:Type} {c:Code} (f:J->Exit×AS) (j:J) (h:awp P cx c (OQ cx f j) s) (k:Q (f j).1 (f j).2):awp P cx c Q s:=λa w D=>
 wp_mono (h a w D) λe y w' ⟨s',v,d,A⟩ =>⟨(f j).2,A cx y w' rfl v,d▸k⟩
def LF (E:X->AS) (f:Y->Exit×AS):X ⊕ Y->Exit×AS
 | .inl x=>(.normal,E x)
 | .inr y=>f y
def yG3 {d:Code} {step:X->Option (X ⊕ Y)} {D:X} {y:Y} (E:X->AS) (f:Y->Exit×AS) (L:zP step n D=some y) (S:Imp cx.pk s (E D)) (F:∀ y,(f y).1≠.normal)
  (J:∀ x r,step x=some r->awp P cx d (OQ cx (LF E f) r) (E x)) (k:Q (f y).1 (f y).2):awp P cx (.loop d) Q s:=by
 refine zSu S (zF4 f y ?_ k);refine yPg E _ _ (λy s h=>F y h.1.symm) (λx r N=>?_) n D y L;refine zJb (J x r N) (λe s h=>?_);cases r with
 | inl V=>exact ⟨h.1,h.2⟩
 | inr U=>exact ⟨h.1,h.2⟩
def zM3 {v:Func} {d:Code} {L:Nat} {N:AS} (E:AS) (T:P.funcs[f]? = some v) (W:v.body=some d) (I:(v.name == "runtime.NumGoroutine")=false) (D:L<=v.ntmps) (F:∀ k,k<BIG->(as.blk k).isSome=true->k∈ks)
  (Y:∀ cx:Ctx,PK cx ks->kL P v cx E N) (h:∀ cx:Ctx,cx.nt=v.ntmps->PK cx ks->awp P cx d (OQ cx (λ_:Unit=>(.ret,E)) ()) as):Ok P f L as N:=
 zKr T W I D F λcx S K=>zF4 _ _ (h cx S K) ⟨.inl rfl,Y cx K⟩
end
def cond_some {A:Type} {c:Bool} {a b:Option A} {r:A} (h:(bif c then a else b)=some r):(c=true/\a=some r)∨(c=false/\b=some r):=by cases c<;>simp_all
def lt {β:Type} (e:α) (f:α->Option β):Option β:=f e
def yBg (h:c.isSlice=true):c.take c.len=c:=by
 cases c<;>simp_all [Qy,Q8]
def rdT (h:s.blk k=some (.buf c)) (A:c.isSlice=true):s.rd (.buf k c.len)=some (c,[(k,.buf c)]):=by
 simp [AS.rd,h,yBg A]
def rdB {l:By} (h:s.blk k=some (.buf (.bytes l))):s.rd (.buf k l.length)=some (.bytes l,[(k,.buf (.bytes l))]):=rdT h rfl
def rdM {w:Nat} {A:Type} {f:A->PV} {l:List A} (h:s.blk k=some (.buf (.sl w (l.map f)))):s.rd (.buf k l.length)=some (.sl w (l.map f),[(k,.buf (.sl w (l.map f)))]):=by
 have:=rdT h rfl;simpa [Q8] using this
def qK:s.rdL []=some ([],[]):=rfl
def zV {y:LB} (h:s.rd v=some (p,bs)) (A:s.rdL l=some (ps,y)):s.rdL (v :: l)=some (p :: ps,bs++y):=by simp [AS.rdL,h,A]
def zBm (h:s.rdL l=some (ps,bs)):s.rd (.ag l)=some (.agg ps,bs):=by simp [AS.rd,h]
def yZ {a:Nat} (h:Nat.ble a b=true):a<=b:=by simp_all
def TI.known (i:TI):Bool:=match i.ty with | .other=>false | _=>true
def zNr {i:TI} (h:i.known=true):i.ty≠.other:=by intro e;simp [TI.known,e] at h
section
def iopE (D:yN P te) (f:IOp) {v:TypeId} {k:IntKind} {b c:Int} (I:f.val k a b=c) (G:o.op=.binOp f.op A x y v) (F:s.get te A x=some (.p (.int k a))) (E:s.get te v y=some (.p (.int k b))):VA P o s (opS x (.p (.int k a))++opS y (.p (.int k b))) [] (.p (.int k c)):=I▸zRd f G F E
def quo (E:yN P te) {v:TypeId} {k:IntKind} {b:Int} (K:(b==0)=false) (J:o.op=.binOp .quo D x y v) (I:s.get te D x=some (.p (.int k a))) (G:s.get te v y=some (.p (.int k b))):VA P o s (opS x (.p (.int k a))++opS y (.p (.int k b))) [] (.p (.int k (k.wrap (a.tdiv b)))):=yLp J I G jm
def rem (E:yN P te) {v:TypeId} {k:IntKind} {b:Int} (J:(b==0)=false) (I:o.op=.binOp .rem D x y v) (G:s.get te D x=some (.p (.int k a))) (F:s.get te v y=some (.p (.int k b))):VA P o s (opS x (.p (.int k a))++opS y (.p (.int k b))) [] (.p (.int k (a.tmod b))):=yL5 I G F jm
def shl (E:yN P te) {v:TypeId} {k D:IntKind} {b:Int} (J:0<=b) (I:o.op=.binOp .shl A x y v) (G:s.get te A x=some (.p (.int k a))) (F:s.get te v y=some (.p (.int D b))):VA P o s (opS x (.p (.int k a))++opS y (.p (.int D b))) [] (.p (.int k (qW k a b))):=yDu I G F J
def shr (E:yN P te) {v:TypeId} {k D:IntKind} {b:Int} (K:0<=b) (F:o.op=.binOp .shr A x y v) (I:s.get te A x=some (.p (.int k a))) (G:s.get te v y=some (.p (.int D b))):VA P o s (opS x (.p (.int k a))++opS y (.p (.int D b))) [] (.p (.int k (xT k a b))):=yB1 F I G K
def shrE (E:yN P te) {v:TypeId} {k D:IntKind} {b c:Int} (K:xT k a b=c) (J:0<=b) (I:o.op=.binOp .shr A x y v) (G:s.get te A x=some (.p (.int k a))) (F:s.get te v y=some (.p (.int D b))):VA P o s (opS x (.p (.int k a))++opS y (.p (.int D b))) [] (.p (.int k c)):=K▸yB1 I G F J
def shlE (hok:yN P te) {tx tyy:TypeId} {k k':IntKind} {b c:Int} (hc:qW k a b=c) (h0:0<=b) (ho:o.op=.binOp .shl tx x y tyy) (hx:s.get te tx x=some (.p (.int k a))) (hy:s.get te tyy y=some (.p (.int k' b))):VA P o s (opS x (.p (.int k a))++opS y (.p (.int k' b))) [] (.p (.int k c)):=hc▸yDu ho hx hy h0
def not' (y:yN P te) {d:TypeId} {a:Bool} (E:o.op=.unOp .not d x) (A:s.get te d x=some (.p (.bool a))):VA P o s (opS x (.p (.bool a))) [] (.p (.bool (!a))):=yKl E A
def com (F:yN P te) {v:TypeId} {k:IntKind} (E:o.op=.unOp .xor v x) (D:s.get te v x=some (.p (.int k a))):VA P o s (opS x (.p (.int k a))) [] (.p (.int k (zMn k a))):=yMp E D
def minI (F:yN P te) {k:IntKind} {b:Int} (I:o.op=.call { callee:=.builtin .min,args:=#[x,y],argTypes:=#[t,D] }) (G:s.get te t x=some (.p (.int k a))) (K:s.get te D y=some (.p (.int k b))):VA P o s (opS x (.p (.int k a))++opS y (.p (.int k b))) [] (.p (.int k (if b<a then b else a))):=yM9 I G K
def ixB (E:yN P te) {l:By} {u:UInt8} {i:Int} {I:TI} (h:idx l i=some u) (U:o.op=.indexAddr t x y) (T:(te t).map (·.ty)=some (.slice e)) (S:te e=some I) (L:s.get te t x=some v) (W:s.rd v=some (.bytes l,bs)) (K:1=I.w) (V:s.get te 0 y=some (.p (.int .i64 i))) :
  VA P o s (opS x v++opS y (.p (.int .i64 i))) bs (.p (.cptr (.int .u8 u.toNat))):=yCx E U T S L W K V (zWf h)
def ixM (E:yN P te) {D:Type} {f:D->PV} {w:Nat} {l:List D} {u:D} {i:Int} {J:TI} (h:idx l i=some u) (L:o.op=.indexAddr t x y) (S:(te t).map (·.ty)=some (.slice e)) (W:te e=some J) (T:s.get te t x=some v) (Y:s.rd v=some (.sl w (l.map f),bs)) (V:w=J.w) (U:s.get te 0 y=some (.p (.int .i64 i))) :
  VA P o s (opS x v++opS y (.p (.int .i64 i))) bs (.p (.cptr (f u))):=yCx E L S W T Y V U (idxM h)
end
end Go.Sw
