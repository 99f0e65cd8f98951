/- UpdateDecode holds for all inputs -/
import Derived.Test.YtegimnpiojonmaaGreatDoorBZ0
set_option linter.all false
open Nat renaming eq_of_beq_eq_true -> Q0, beq -> Q2, le_refl -> Q5, mul_le_mul_right -> Q6, zero_add -> Qd, add_mul -> Qj, le_trans -> Qp, zero_le -> Qs, add_zero -> W2, mul_comm -> W4, le_mul_of_pos_right -> W5, div_lt_of_lt_mul -> W9, sub_zero -> We, div_add_mod -> Wh
open Array renaming getD_eq_getD_getElem? -> Q1, length_toList -> Qk, size_append -> Qw
open Option renaming map_eq_some_iff -> Q3, isSome_iff_exists -> Qb, getD_some -> Wg
open List renaming mem_map -> Q4, eq_nil_of_length_eq_zero -> Qc, map_cons -> Qf, mem_cons -> Qh, take_append_of_le_length -> Qi, all_eq_true -> Qo, mem_append -> Qq, size_toArray -> Qx, length_cons -> W1, getElem_mem -> W3, mem_of_getElem? -> W7, range -> Wa, drop_succ_cons -> Wc, getElem_of_mem -> Wd, cons_append -> Wf, take_zero -> Wi
open Go.Builtin renaming zeroCells -> Q7, append_ -> Q9, firstCells -> Qe, lenOf -> Qn, nextslicecap -> Wb
open Bool renaming eq_false_iff -> Q8
open Go.Sw.PV renaming len -> Qa, isSlice -> Qg, width -> Qr, take -> Qz, nilOf -> W8
open Go.World renaming block_lt_of_cell? -> Ql, cell? -> Qm, setCells -> W6
open Go.Sw.GLe renaming sameO -> Qt, same -> W0
open Go.Sw.Mic renaming ws -> Qu, upd -> Qy
open Go.Result renaming andThen_ok -> Qv
namespace Go.Sw
open Go
variable {B:NB}{D:List Nat}{M M':Mem}{P:Program}{a:Act}{a1 a2:AV}{args arr:Array Value}{av:AV}{b:Nat}{bb blks bs:LB}{c:PV}{cap:Nat}{cs:List AV}{cx:Ctx}{d:Nat}{dd:TypeDesc}{e:TypeId}{ei:TI}{env:LV}{f:FuncId}{fn:Func}{fr:List Nat}{fz:Nat×Nat}{g:Nat->Value}{i:TypeInfo}{j j' k:Nat}{ks:List Nat}{l l':List AV}{m:Nat}{ms:List Mic}{n na:Nat}{news:List Value}{o:Oper}{off:Nat}{ops:Array Oper}{p:PV}{pk:PKs}{pl:List (Nat×Operand)}{ps:List PV}{r:List Oper}{rr:PV}{rs:LV}{rv rv1 rv2:ResultVar}{s s':AS}{t t' ta:TypeId}{te:TE}{tip tip':Nat->Value}{tl:List TypeId}{ts:Array TypeId}{ty:TypeId}{v:AV}{vs:LV}{vy:AV}{w w':World}{x:Operand}{xl:List Operand}{xs:Array Operand}{y z:Value}{κ κ':Nat->Option Nat}{ρ:Nat->Nat}
def CR (M:Mem) (κ:Nat->Option Nat) (tip:Nat->Value) (B:NB) (l:List AV) (arr:Array Value):Prop:=
 arr.size=l.length/\∀ (j:Nat) (q:AV),l[j]? = some q->RepA M κ tip B q (arr.getD j undef)
theorem Inv.lt (hi:Inv cx M κ tip s a w) (h:κ k=some b):b<w.heap.size:=by
 cases hb:s.blk k with
 | none=>rw [hi.dom k hb] at h;cases h
 | some bl=>
  cases bl with
  | var l=>
   obtain ⟨b',arr,e,fz,h1,h2,_⟩:=hi.vars k l hb;rw [h] at h1;cases h1;exact (Array.getElem?_eq_some_iff.1 h2).1
  | buf c=>
   obtain ⟨_,_,_,h4⟩:=hi.bufs k c hb;rcases h4 with ⟨_,h5⟩ | ⟨b',n,cap,arr,e,fz,_,h5,_,h6,_⟩
   ·rw [h] at h5;cases h5
   ·rw [h] at h5;cases h5;exact (Array.getElem?_eq_some_iff.1 h6).1
  | own wd l=>
   rcases hi.owns k wd l hb with ⟨_,h5,_⟩ | ⟨_,h4⟩
   ·rw [h] at h5;cases h5
   rcases h4 with ⟨_,h5,_⟩ | ⟨b',n,cap,arr,e,fz,_,h5,_,h6,_⟩
   ·rw [h] at h5;cases h5
   ·rw [h] at h5;cases h5;exact (Array.getElem?_eq_some_iff.1 h6).1
theorem Inv.mlt (hi:Inv cx M κ tip s a w) {o:Nat} (h:w.heap.size<=b):M b o=none:=by
 cases hm:M b o with
 | none=>rfl
 | some x=>
  have:=Ql w _ (hi.mem b o x hm);simp at this;omega
def fA (κ:Nat->Option Nat) (k:Nat) (b:Option Nat):Nat->Option Nat:=λi=>bif Q2 i k then b else κ i
theorem vH (κ:Nat->Option Nat) (k:Nat) (b:Option Nat):fA κ k b k=b:=by simp [fA]
theorem yH {i:Nat} {b:Option Nat} (h:i≠k):fA κ k b i=κ i:=by
 have:Q2 i k=false:=by rw [Q8];intro e;exact h (Q0 e)
 simp [fA,this]
theorem zW (s:AS) (k:Nat) (b:ABlk):(s.setb k b).blk k=some b:=by simp [AS.setb]
theorem zQ {i:Nat} {b:ABlk} (h:i≠k):(s.setb k b).blk i=s.blk i:=by
 have:Q2 i k=false:=by rw [Q8];intro e;exact h (Q0 e)
 simp [AS.setb,this]
theorem hao (w:World) (o:Obj) (i:Nat) (h:i<w.heap.size):(w.alloc o).heap[i]? = w.heap[i]?:=by
 simp only [World.alloc,Array.getElem?_push,if_neg (Nat.ne_of_lt h)]
theorem zKe (n:Nat):zGs (0,0) n:=.inl rfl
theorem zAl (hk:κ k=none) (hb:s.blk k=none):GLe κ (fA κ k (some b)) tip tip s.blk (s.setb k (.var l)).blk where
 var:=λi b' l' h h'=>by
  by_cases e:i=k
  ·subst e;rw [hk] at h;cases h
  ·rw [yH e,zQ e];exact ⟨h,l',h'⟩
 buf:=λi c h=>by
  by_cases e:i=k
  ·subst e;rw [hb] at h;cases h
  ·exact W0 (by rw [zQ e];exact h) rfl
 own:=λi c l2 h=>by
  by_cases e:i=k
  ·subst e;rw [hb] at h;cases h
  ·exact Qt (by rw [zQ e];exact h) (yH e) rfl
theorem Inv.newVar (hi:Inv cx M κ tip s a w) (hb:s.blk k=none) (hr:CR M κ tip s.blk l arr) (e:TypeId) :
  Inv cx M (fA κ k (some w.heap.size)) tip (s.setb k (.var l)) a (w.alloc (.cells arr e)) where
 defers:=hi.defers
 size:=hi.size
 fr:=⟨hi.fr.os,hi.fr.tape,hi.fr.output,by have:=hi.fr.size;simp;omega,λb h1 h2 h3=>by
  rw [hao w _ b (by have:=hi.fr.size;omega)];exact hi.fr.block b h1 h2 h3⟩
 mem:=λb o x h=>by
  have:=hi.mem b o x h;rw [World.cell?_alloc_lt w _ _ (Ql w _ this)];exact this
 env:=λt v h=>let ⟨x,h1,h2⟩:=hi.env t v h;⟨x,h1,h2.ghost (zAl (hi.dom k hb) hb)⟩
 vars:=λi li h=>by
  by_cases e':i=k
  ·subst e';rw [zW] at h;cases h;exact ⟨w.heap.size,arr,e,(0,0),vH _ _ _,heap_alloc_new w _,zKe _,hr.1,λj q hq=>(hr.2 j q hq).ghost (zAl (hi.dom i hb) hb),λo=>hi.mlt (Q5 _),.inl hi.fr.size⟩
  ·rw [zQ e'] at h;obtain ⟨b,arr',e1,fz,h1,h2,h3,h4,h5,h6,h7⟩:=hi.vars i li h;exact ⟨b,arr',e1,fz,by rw [yH e'];exact h1,by rw [hao w _ b (hi.lt h1)];exact h2,h3,h4,λj q hq=>(h5 j q hq).ghost (zAl (hi.dom k hb) hb),h6,h7⟩
 bufs:=λi c h=>by
  by_cases e':i=k
  ·subst e';rw [zW] at h;cases h
  ·rw [zQ e'] at h;obtain ⟨h1,h2,h3,h4⟩:=hi.bufs i c h;refine ⟨h1,h2,h3,?_⟩;rcases h4 with ⟨h4,h5⟩ | ⟨b,n,cap,arr',e1,fz,h4,h5,h6,h7,h8⟩
   ·exact .inl ⟨h4,by rw [yH e'];exact h5⟩
   ·exact .inr ⟨b,n,cap,arr',e1,fz,h4,by rw [yH e'];exact h5,h6,by rw [hao w _ b (hi.lt h5)];exact h7,h8⟩
 inj:=λi j b h1 h2=>by
  by_cases e1:i=k
  ·subst e1;rw [vH] at h1;cases h1;by_cases e2:j=i
   ·exact e2.symm
   ·rw [yH e2] at h2;have:=hi.lt h2;omega
  ·rw [yH e1] at h1;by_cases e2:j=k
   ·subst e2;rw [vH] at h2;cases h2;have:=hi.lt h1;omega
   ·rw [yH e2] at h2;exact hi.inj i j b h1 h2
 dom:=λi h=>by
  by_cases e':i=k
  ·subst e';rw [zW] at h;cases h
  ·rw [zQ e'] at h;rw [yH e'];exact hi.dom i h
 glob:=hi.glob
 old:=hi.old
 owns:=hi.owns.keep λi wd li h=>by
  have e':i≠k:=by rintro rfl;rw [zW] at h;cases h
  rw [zQ e'] at h;exact ⟨h,yH e',rfl,λb' hb'=>⟨hao w _ b' (hi.lt hb'),λ_ h=>h⟩,λj q x _ hr=>hr.ghost (zAl (hi.dom k hb) hb)⟩
section
theorem Run.st {m:Mic} (hg:o.guard=none) (h:Snd P o m) (hh:m.holds s) (k:Run P ops r (m.upd s) s' ms):Run P ops (o :: r) s s' (m :: ms):=.cons o r m s s' ms (zF9 hg h) hh k
def SA (P:Program) (o:Oper) (s:AS) (m:Mic):Prop:=Snd P o m/\m.holds s
theorem Run.ss {m:Mic} (hg:o.guard=none) (h:SA P o s m) (k:Run P ops r (m.upd s) s' ms):Run P ops (o :: r) s s' (m :: ms):=Run.st hg h.1 h.2 k
theorem fP {b:ABlk}:Qy ⟨rs,bs,[k],some (d,some v),[(k,b)]⟩ s=(s.setb k b).put d v:=by
 simp only [Qy,AS.setb,AS.put,zCt,lk];congr 1;funext t;cases Q2 t k<;>simp
theorem zAx (hi:Inv cx M κ tip s a w) (hp:∀ k∈cx.pk,κ k.1=some k.2/\k.2<cx.w0.heap.size) (hb:s.blk k=none) (b:Option Nat):∀ k'∈cx.pk,fA κ k b k'.1=some k'.2/\k'.2<cx.w0.heap.size:=by
 intro k' hk';have:=hp k' hk';rw [yH]
 ·exact this
 ·intro e;rw [e,hi.dom k hb] at this;cases this.1
theorem zOe (hd:o.dst=some d)
  (h:∀ (cx:Ctx) (M:Mem) (κ:Nat->Option Nat) (tip:Nat->Value) (s:AS) (a:Act) (w:World),Inv cx M κ tip s a w->wN s rs->(∀ e∈bs,s.blk e.1=some e.2) ->
   ∃ arr e,(execOp a.eval o).run P w=.ok (.value (.pointer (some ⟨w.heap.size,0,none⟩))) (w.alloc (.cells arr e))/\CR M κ tip s.blk l arr) :
  Snd P o ⟨rs,bs,[d],some (d,some (.ptr d 0)),[(d,.var l)]⟩:=by
 intro cx s a w K Q hm hs hw hk;obtain ⟨M,κ,tip,h0,hp,hi⟩:=hs;obtain ⟨arr,e,hx,hr⟩:=h cx M κ tip s a w hi hm.1 hm.2.1;have hb:=hm.2.2 d (by simp);unfold Oper.wp;rw [hx];show K (a.put o.dst _) _;rw [hd];refine hk _ _ ?_;rw [fP];exact ⟨M,fA κ d (some w.heap.size),tip,h0,zAx hi hp hb _,(hi.newVar hb hr e).put (hw d (by simp [Qu])) (.ptr d 0 _ l (vH _ _ _) (zW _ _ _))⟩
theorem zMn (hok:yX P te) {i:TI} (h:te t=some i) (w:World):∃ z,(zeroValue t).run P w=.ok z w/\z.cells.size=i.z.length/\CR M κ tip B (i.z.map zA) z.cells:=by
 obtain ⟨info,z,h1,h2,h3,h4,h5⟩:=(hok t i h).info;have hzok:=(hok t i h).zok;have hsz:z.cells.size=i.z.length:=by rw [<- Qk,h5];simp
 refine ⟨z,by simp [zeroValue,typeInfo,h1,h4],hsz,by simp [hsz],λj q hq=>?_⟩;rw [List.getElem?_map] at hq;obtain ⟨c,h6,h7⟩:=Q3.1 hq;subst h7;have hlt:j<i.z.length:=(List.getElem?_eq_some_iff.1 h6).1;have hlt':j<z.cells.size:=by omega
 have hv:z.cells.toList[j]? = some (zv c):=by rw [h5,List.getElem?_map,h6];rfl
 have hv':z.cells[j]? = some (zv c):=by simpa using hv
 have:z.cells.getD j undef=zv c:=by simp [Q1,hv']
 rw [this];exact yCg (hzok c (W7 h6))
theorem zXo {i:TI} (hok:yX P te) (hd:o.dst=some d) (ho:o.op=.alloc t) (ht:te t=some i) (hb:s.blk d=none):SA P o s ⟨[],[],[d],some (d,some (.ptr d 0)),[(d,.var (i.z.map zA))]⟩:=by
 refine ⟨zOe hd ?_,by intro e he;simp at he,by intro e he;simp at he,by intro k hk;simp at hk;subst hk;exact hb⟩;intro cx M κ tip s a w hi _ _;obtain ⟨z,h1,h2,h3⟩:=zMn hok ht (M:=M) (κ:=κ) (tip:=tip) (B:=s.blk) w;exact ⟨z.cells,t,by simp [execOp,ho,Instr.alloc,h1,newVar,newRow],h3⟩
theorem yAg (hd:o.dst=some d) (ho:o.op=.box t x) (hx:s.get te t x=some v) (hb:s.blk d=none):SA P o s ⟨opS x v,[],[d],some (d,some (.ptr d 0)),[(d,.var v.cells)]⟩:=by
 refine ⟨zOe hd ?_,zM hx,by intro e he;simp at he,by intro k hk;simp at hk;subst hk;exact hb⟩;intro cx M κ tip s' a w hi hr _;have h1:=aN (yF hi (yN hx s' hr));exact ⟨(a.eval x).cells,t,by simp [execOp,ho,Instr.box,newVar,newRow],h1⟩
def ovr:List AV->List AV->List AV
 | _ :: l,c :: cs=>c :: ovr l cs
 | l,[]=>l
 | [],cs=>cs
def rN:List AV->Nat->List AV->List AV
 | x :: l,n+1,cs=>x :: rN l n cs
 | l,_,cs=>ovr l cs
theorem zXd:∀ (l cs:List AV),cs.length<=l.length->ovr l cs=cs++l.drop cs.length
 | _ :: l,c :: cs,h=>by simp only [ovr,Wf,W1,Wc,zXd l cs (by simpa using h)]
 | l,[],_=>by cases l<;>simp [ovr]
 | [],_ :: _,h=>by simp at h
theorem eT:∀ {l cs:List AV} {off:Nat},off+cs.length<=l.length->rN l off cs=l.take off++cs++l.drop (off+cs.length)
 | x :: l,cs,n+1,h=>by
  have:=eT (l:=l) (cs:=cs) (off:=n) (by simp at h;omega);rw [show n+1+cs.length=(n+cs.length)+1 by omega];simp only [rN,this,List.take_succ_cons,Wc,Wf]
 | x :: l,cs,0,h=>by simp only [rN,Wi,List.nil_append,Qd];exact zXd _ _ (by simpa using h)
 | [],cs,off,h=>by
  have:cs=[]:=Qc (by have:off+cs.length<=0:=h;omega);subst this;simp [rN,ovr]
theorem zDx (h:off+cs.length<=l.length):(rN l off cs).length=l.length:=by rw [eT h];simp;omega
theorem bQ (h:off+cs.length<=l.length) (j:Nat):(rN l off cs)[j]? = if off<=j/\j<off+cs.length then cs[j - off]? else l[j]?:=by
 rw [eT h];have hlen:(l.take off).length=off:=by simp;omega
 by_cases h1:j<off
 ·rw [List.append_assoc,List.getElem?_append_left (by omega),List.getElem?_take,if_pos h1,if_neg (by omega)]
 ·by_cases h2:j<off+cs.length
  ·rw [List.getElem?_append_left (by simp;omega),List.getElem?_append_right (by omega),hlen,if_pos (by omega)]
  ·rw [List.getElem?_append_right (by simp;omega),List.getElem?_drop,if_neg (by omega)];congr 1;simp;omega
theorem qH (b:Nat):∀ (vs:List Value) (o:Nat) (w:World) (arr:Array Value) (e:TypeId) (fz:Nat×Nat),w.heap[b]? = some (.cells arr e fz)->o+vs.length<=arr.size ->
  ∃ arr',(w.setCells b o vs).heap[b]? = some (.cells arr' e fz)/\arr'.size=arr.size/\∀ j,arr'[j]? = if o<=j/\j<o+vs.length then vs[j - o]? else arr[j]?
 | [],o,w,arr,e,fz,h,_=>⟨arr,h,rfl,λj=>by rw [if_neg (by simp)]⟩
 | v :: r,o,w,arr,e,fz,h,hl=>by
  simp only [W1] at hl;have h1:(w.setCell ⟨b,o,none⟩ v).heap[b]? = some (.cells (arr.setIfInBounds o v) e fz):=by
   simp [World.setCell,Array.getElem?_modify,h]
  obtain ⟨arr',h2,h3,h4⟩:=qH b r (o+1) _ _ e fz h1 (by simp;omega);refine ⟨arr',h2,by simpa using h3,λj=>?_⟩;rw [h4 j];by_cases hj:o+1<=j/\j<o+1+r.length
  ·rw [if_pos hj,if_pos (by simp;omega)];have:j - o=(j - (o+1))+1:=by omega
   rw [this];simp
  ·rw [if_neg hj];by_cases hjo:j=o
   ·subst hjo;rw [if_pos (by simp)];have:j<arr.size:=by omega
    simp [this]
   ·rw [if_neg (by simp;omega),Array.getElem?_setIfInBounds_ne (by omega)]
theorem wH (b:Nat):∀ (vs:List Value) (o:Nat) (w:World) (k:Nat),k≠b->(w.setCells b o vs).heap[k]? = w.heap[k]?
 | [],_,_,_,_=>rfl
 | v :: r,o,w,k,h=>by rw [W6,wH b r _ _ k h,heap_setCell_other w _ k v h]
theorem jD (b:Nat):∀ (vs:List Value) (o:Nat) (w:World),(w.setCells b o vs).heap.size=w.heap.size
 | [],_,_=>rfl
 | v :: r,o,w=>by rw [W6,jD b r];simp
theorem jH (b:Nat):∀ (vs:List Value) (o:Nat) (w:World),(w.setCells b o vs).os=w.os/\(w.setCells b o vs).tape=w.tape/\(w.setCells b o vs).output=w.output
 | [],_,_=>⟨rfl,rfl,rfl⟩
 | v :: r,o,w=>by rw [W6];exact jH b r _ _
theorem zTa (hb:s.blk k=some (.var l)):GLe κ κ tip tip s.blk (s.setb k (.var l')).blk where
 var:=λi b' l2 h h'=>by
  by_cases e:i=k
  ·subst e;exact ⟨h,l',zW _ _ _⟩
  ·exact ⟨h,l2,by rw [zQ e];exact h'⟩
 buf:=λi c h=>by
  by_cases e:i=k
  ·subst e;rw [hb] at h;cases h
  ·exact W0 (by rw [zQ e];exact h) rfl
 own:=λi c l2 h=>by
  by_cases e:i=k
  ·subst e;rw [hb] at h;cases h
  ·exact Qt (by rw [zQ e];exact h) rfl rfl
theorem Inv.setVar (hi:Inv cx M κ tip s a w) (hb:s.blk k=some (.var l)) (hk:κ k=some b) {vs:List Value}
  (hl:off+cs.length<=l.length) (hv:vs.length=cs.length) (hr:∀ (j:Nat) (q:AV),cs[j]? = some q->RepA M κ tip s.blk q ((vs[j]?).getD undef)) :
  Inv cx M κ tip (s.setb k (.var (rN l off cs))) a (w.setCells b off vs):=by
 obtain ⟨b',arr,e,fz,h1,h2,h3,h4,h5,h6,h7⟩:=hi.vars k l hb;rw [hk] at h1;cases h1;obtain ⟨arr',g1,g2,g3⟩:=qH b vs off w arr e fz h2 (by omega);have hrest:=jH b vs off w;have gle:GLe κ κ tip tip s.blk (s.setb k (.var (rN l off cs))).blk:=zTa hb;exact {
  defers:=hi.defers
  size:=hi.size
  fr:=⟨hrest.1.trans hi.fr.os,hrest.2.1.trans hi.fr.tape,hrest.2.2.trans hi.fr.output,by rw [jD];exact hi.fr.size,λi hi1 hi2 hi3=>by
   rw [wH b vs off w i (by rintro rfl;exact h7.elim (λh7=>by omega) hi2)];exact hi.fr.block i hi1 hi2 hi3⟩
  mem:=λi o x h=>by
   have hne:i≠b:=by rintro rfl;rw [h6] at h;cases h
   have:=hi.mem i o x h;rw [World.cell?_setCells_out b vs off w _ (λe=>(hne e).elim)];exact this
  env:=λt v h=>let ⟨x,h1,h2⟩:=hi.env t v h;⟨x,h1,h2.ghost gle⟩
  vars:=λi li h=>by
   by_cases e':i=k
   ·subst e';rw [zW] at h;cases h;refine ⟨b,arr',e,fz,hk,g1,by rw [g2];exact h3,by rw [g2,zDx hl];exact h4,λj q hq=>?_,h6,h7⟩;rw [bQ hl] at hq;rw [Q1,g3 j];by_cases hj:off<=j/\j<off+cs.length
    ·rw [if_pos hj] at hq;rw [if_pos (by omega)];exact (hr _ q hq).ghost gle
    ·rw [if_neg hj] at hq;rw [if_neg (by omega)];have:=(h5 j q hq).ghost gle;rw [Q1] at this;exact this
   ·rw [zQ e'] at h;obtain ⟨b2,arr2,e2,fz2,k1,k2,k3,k4,k5,k6,k7⟩:=hi.vars i li h;have hne:b2≠b:=λe=>e' (hi.inj i k b (e▸k1) hk);exact ⟨b2,arr2,e2,fz2,k1,by rw [wH b vs off w b2 hne];exact k2,k3,k4,λj q hq=>(k5 j q hq).ghost gle,k6,k7⟩
  bufs:=λi c h=>by
   by_cases e':i=k
   ·subst e';rw [zW] at h;cases h
   ·rw [zQ e'] at h;obtain ⟨k1,k2,k3,k4⟩:=hi.bufs i c h;refine ⟨k1,k2,k3,?_⟩;rcases k4 with k4 | ⟨b2,n,cap,arr2,e2,fz2,q1,q2,q3,q4,q5⟩
    ·exact .inl k4
    ·have hne:b2≠b:=λe=>e' (hi.inj i k b (e▸q2) hk);exact .inr ⟨b2,n,cap,arr2,e2,fz2,q1,q2,q3,by rw [wH b vs off w b2 hne];exact q4,q5⟩
  inj:=hi.inj
  dom:=λi h=>by
   by_cases e':i=k
   ·subst e';rw [zW] at h;cases h
   ·rw [zQ e'] at h;exact hi.dom i h
  glob:=hi.glob
  old:=hi.old
  owns:=hi.owns.keep λi wd li h=>by
   have e':i≠k:=by rintro rfl;rw [zW] at h;cases h
   rw [zQ e'] at h;exact ⟨h,rfl,rfl,λb' hb'=>⟨wH b vs off w b' (λe=>e' (hi.inj i k b (e▸hb') hk)),λ_ h=>h⟩,λj q x _ hr=>hr.ghost gle⟩}
end
def PV.one:PV->Bool
 | .agg _ | .tup _=>false
 | _=>true
def AV.one:AV->Bool
 | .p q=>q.one
 | .ag _ | .tu _=>false
 | _=>true
theorem zHh {x:Value} (h:RepA M κ tip B v x) (ho:v.one=true):x.oneCell'=true:=by
 cases h with
 | p p x hr=>cases hr<;>first | rfl | (simp [AV.one,PV.one] at ho)
 | nl c h1=>rfl
 | ptr k o b l h1 h2=>rfl
 | ref k o n b l h1 h2=>rfl
 | buf k n c x h1 hs h2 h3 h4=>
  have hs':(c.take n).isSlice=true:=by cases c<;>simp_all [Qz,Qg]
  rcases kL h3 hs' with ⟨hx,_⟩ | ⟨b,o,m,cc,hx,_⟩ | ⟨aa,hx,_⟩<;>rw [hx]<;>rfl
 | ag l vs h1 h2=>simp [AV.one] at ho
 | tu l vs h1 h2=>simp [AV.one] at ho
 | fnv f l vs h1 h2=>unfold mkF;cases Nat.blt f 1000000<;>rfl
 | own k n w l x h1 h2 h3 hs=>obtain ⟨a,m,c,rfl⟩:=hs;rfl
 | optr k n o w l x h1 h2 h3 hs=>obtain ⟨a,rfl⟩:=hs;rfl
 | osl k n o m w l x h1 h2 h3 hs=>obtain ⟨a,m',c,rfl⟩:=hs;rfl
theorem oC (h:w.heap[b]? = some (.cells arr e fz)) (hf:zGs fz arr.size) {o:Nat} (ho:o<arr.size):w.frozen? ⟨b,o,none⟩=false:=by
 obtain ⟨lo,hi⟩:=fz;simp only [World.frozen?,h];unfold zGs at hf;simp only at hf;simp;omega
section
theorem zD0 {b:ABlk}:Qy ⟨rs,bs,[],none,[(k,b)]⟩ s=s.setb k b:=by
 simp only [Qy,AS.setb,zCt,lk];congr 1;funext t;cases Q2 t k<;>simp
theorem zVv {i:TI} {ax:Operand} (hok:yX P te) (hd:o.dst=none) (ho:o.op=.store t ax x) (ht:te t=some i) (ha:s.get te ta ax=some (.ptr k off)) (hx:s.get te t x=some v) (hb:s.blk k=some (.var l))
  (hw:v.cells.length=i.w) (hl:off+i.w<=l.length) (hone:v.cells.all AV.one=true):SA P o s ⟨opS ax (.ptr k off)++opS x v,[(k,.var l)],[],none,[(k,.var (rN l off v.cells))]⟩:=by
 refine ⟨?_,yM (zM ha) (zM hx),by intro e he;simp at he;subst he;exact hb,by intro e he;simp at he⟩;intro cx s' a w K Q hm hs hws hk;obtain ⟨M,κ,tip,h0,hp,hi⟩:=hs;have hbk:=hm.2.1 (k,.var l) (by simp);have hx':=yF hi (yN hx s' (zZ hm.1));have ha':=yF hi (yN ha s' (yI hm.1));obtain ⟨hc1,hc2⟩:=aN hx';obtain ⟨b,arr,e,fz,h1,h2,h3,h4,h5,h6,h7⟩:=hi.vars k l hbk;generalize hev:a.eval ax=z at ha';cases ha' with
 | ptr k o b' l' hk' hl'=>
  rw [h1] at hk';cases hk';have hsz:(a.eval x).cells.toList.length=v.cells.length:=by simp [hc1]
  have hrun:=run_storeCells_cells (P:=P) b off (a.eval x).cells.toList 0 w
   (by
     intro j hj;rw [hsz] at hj;have:off+j<arr.size:=by omega
     simp [Qm,h2,this])
   (by intro j hj;rw [hsz] at hj;simp only [W2];exact oC h2 h3 (by omega))
   (by
    intro u hu;obtain ⟨j,hj,hju⟩:=Wd hu;have hjl:j<v.cells.length:=by omega
    have hq:=hc2 j v.cells[j] (by simp);have hjs:j<(a.eval x).cells.size:=by omega
    have:(a.eval x).cells.getD j undef=u:=by simp [hjs];simpa using hju
    rw [this] at hq;exact zHh hq ((Qo.1 hone) _ (W3 _)))
  unfold Oper.wp;have:(execOp a.eval o).run P w=.ok .skip (w.setCells b off (a.eval x).cells.toList):=by
   simp only [W2] at hrun;have hcs:¬ ((a.eval x).cells.size≠i.w):=by rw [hc1,hw];simp
   simp [execOp,ho,hev,Instr.storeAt,Instr.sureAddr,storeVar,tC hok ht,hcs,hrun]
  rw [this];show K (a.put o.dst undef) _;rw [hd];refine hk _ _ ?_;rw [zD0];refine ⟨M,κ,tip,h0,hp,hi.setVar hbk h1 (by omega) hsz ?_⟩;intro j q hq;have:=hc2 j q hq;rw [Q1] at this;simpa using this
inductive mN (s:AS) (te:TE):List (Nat×Operand)->LV->LV->Prop where
 | nil:mN s te [] [] []
 | cons (i:Nat) (x:Operand) (t:TypeId) (v:AV) (ps:List (Nat×Operand)) (vs rs:LV):s.get te t x=some v->mN s te ps vs rs->mN s te ((i,x) :: ps) ((i,v) :: vs) (opS x v++rs)
theorem mN.reads {ps:List (Nat×Operand)} (h:mN s te ps vs rs):wN s rs:=by
 induction h with
 | nil=>intro e he;simp at he
 | cons i x t v ps vs rs h1 _ ih=>exact yM (zM h1) ih
def eQ (M:Mem) (κ:Nat->Option Nat) (tip:Nat->Value) (B:NB):List (Nat×Value)->LV->Prop
 | [],[]=>True
 | (i,x) :: xs,(j,v) :: vs=>i=j/\RepA M κ tip B v x/\eQ M κ tip B xs vs
 | _,_=>False
theorem mN.rep {ps:List (Nat×Operand)} (h:mN s te ps vs rs) (hi:Inv cx M κ tip s' a w) :
  wN s' rs->eQ M κ tip s'.blk (ps.map λp=>(p.1,a.eval p.2)) vs:=by
 induction h with
 | nil=>intro _;trivial
 | cons i x t v ps vs rs h1 _ ih=>
  intro hr;exact ⟨rfl,yF hi (yN h1 s' (yI hr)),ih (zZ hr)⟩
def mJ (place:Nat->Option (Nat×Nat)) (cells:List AV):LV->Option (List AV)
 | []=>some cells
 | (i,v) :: rest=>match place i with
  | none=>none
  | some (off,size)=>bif Q2 v.cells.length size&&Nat.ble (off+v.cells.length) cells.length then mJ place (rN cells off v.cells) rest else none
theorem zPc (off:Nat):∀ (vs:List Value) (n:Nat) (cells:Array Value),off+n+vs.length<=cells.size ->
  let r:=(vs.zipIdx n).foldl (λcs (c,j)=>cs.setIfInBounds (off+j) c) cells
  r.size=cells.size/\∀ j,r[j]? = if off+n<=j/\j<off+n+vs.length then vs[j - (off+n)]? else cells[j]?
 | [],n,cells,_=>by simp only [List.zipIdx_nil,List.foldl_nil,List.length_nil,W2,true_and];intro j;rw [if_neg (by omega)]
 | v :: vs,n,cells,h=>by
  simp only [List.zipIdx_cons,List.foldl_cons,W1] at h ⊢;obtain ⟨h1,h2⟩:=zPc off vs (n+1) (cells.setIfInBounds (off+n) v) (by simp;omega);refine ⟨by simpa using h1,λj=>?_⟩;rw [h2 j];by_cases hj:off+(n+1)<=j/\j<off+(n+1)+vs.length
  ·rw [if_pos hj,if_pos (by omega)];have:j - (off+n)=(j - (off+(n+1)))+1:=by omega
   rw [this];simp
  ·rw [if_neg hj];by_cases hjo:j=off+n
   ·subst hjo;rw [if_pos (by omega)];have:off+n<cells.size:=by omega
    simp [this]
   ·rw [if_neg (by omega),Array.getElem?_setIfInBounds_ne (by omega)]
theorem zIn {place:Nat->Option (Nat×Nat)}:∀ (vs:LV) (xs:List (Nat×Value)) (l l':List AV) (arr:Array Value),eQ M κ tip B xs vs->CR M κ tip B l arr ->
  mJ place l vs=some l'->∃ arr',Instr.fill place arr xs=some arr'/\CR M κ tip B l' arr'
 | [],[],l,l',arr,_,hc,h=>by simp [mJ] at h;subst h;exact ⟨arr,rfl,hc⟩
 | (i,v) :: vs,[],_,_,_,hp,_,_=>by simp [eQ] at hp
 | [],(i,x) :: xs,_,_,_,hp,_,_=>by simp [eQ] at hp
 | (i,v) :: vs,(j,x) :: xs,l,l',arr,hp,hc,h=>by
  obtain ⟨rfl,hr,hp⟩:=hp;simp only [mJ] at h;cases hpl:place j with
  | none=>simp [hpl] at h
  | some os=>
   obtain ⟨off,size⟩:=os;simp only [hpl] at h;cases hb:(Q2 v.cells.length size&&Nat.ble (off+v.cells.length) l.length) with
   | false=>simp [hb] at h
   | true=>
    rw [hb] at h;simp only [Bool.and_eq_true] at hb;have e1:=Q0 hb.1;have e2:=Nat.le_of_ble_eq_true hb.2;obtain ⟨c1,c2⟩:=aN hr;have hsz:off+x.cells.size<=arr.size:=by rw [c1,hc.1];exact e2
    have hfs:=zPc off x.cells.toList 0 arr (by simpa using hsz);have hz:x.cells.zipIdx.foldl (λcs (c,j)=>cs.setIfInBounds (off+j) c) arr=(x.cells.toList.zipIdx 0).foldl (λcs (c,j)=>cs.setIfInBounds (off+j) c) arr:=by
     rw [<- Array.foldl_toList,Array.toList_zipIdx]
    generalize hG:(x.cells.toList.zipIdx 0).foldl (λcs (c,j)=>cs.setIfInBounds (off+j) c) arr=G at hfs hz;have hcr:CR M κ tip B (rN l off v.cells) G:=by
     refine ⟨by rw [hfs.1,zDx e2];exact hc.1,λj q hq=>?_⟩;rw [bQ e2] at hq;rw [Q1,hfs.2 j];by_cases hj:off<=j/\j<off+v.cells.length
     ·rw [if_pos hj] at hq;rw [if_pos (by simp;omega)];have:=c2 _ q hq;rw [Q1] at this;simpa using this
     ·rw [if_neg hj] at hq;rw [if_neg (by simp;omega)];have:=hc.2 j q hq;rw [Q1] at this;exact this
    obtain ⟨arr',f1,f2⟩:=zIn vs xs _ l' G hp hcr h;refine ⟨arr',?_,f2⟩;have hg:(x.cells.size≠size||off+x.cells.size > arr.size)=false:=by
     have:¬ (arr.size<off+x.cells.size):=by omega
     simp [c1,e1];omega
    simp only [Instr.fill,hpl,hg,hz,f1];simp
def zMr (te:TE) (fs:List (TypeId×Nat)) (i:Nat):Option (Nat×Nat):=match fs[i]? with
 | some (ft,fo)=>match te ft with
  | some fi=>some (fo,fi.w)
  | none=>none
 | none=>none
theorem zOc (hok:yX P te) (w:World):∀ (fl:List Field),(∀ f∈fl,(te f.type).isSome=true) ->
  (fl.mapM λf=>(do pure (f.offset,<- sizeOf f.type):Sem (Nat×Nat))).run P w=.ok (fl.map λf=>(f.offset,((te f.type).map (·.w)).getD 0)) w
 | [],_=>by simp
 | f :: fl,h=>by
  obtain ⟨i,hi⟩:=Qb.1 (h f (by simp));have:=zOc hok w fl (λg hg=>h g (by simp [hg]));rw [List.mapM_cons];simp only [Sem.run_bind,tC hok hi,Qv,Sem.run_pure,this,Qf,hi,Option.map_some,Wg]
theorem zX4 {ps:Array (Nat×Operand)} {fs:List (TypeId×Nat)} {i:TI} (hok:yX P te) (ho:o.op=.build t ps) (hpl:ps.toList=pl) (ht:te t=some i) (hty:i.ty=.struct fs) (hfs:fs.all (λf=>(te f.1).isSome)=true)
  (hp:mN s te pl vs rs) (hf:mJ (zMr te fs) (i.z.map zA) vs=some l):VA P o s rs [] (.ag l):=by
 refine ⟨?_,hp.reads,by simp⟩;intro cx M κ tip s' a w hi hr _;have hpr:=hp.rep hi hr;obtain ⟨z,h1,h2,h3⟩:=zMn hok ht (M:=M) (κ:=κ) (tip:=tip) (B:=s'.blk) w;obtain ⟨fields,hu,hfl⟩:=zFx hok (t:=t) (fs:=fs) (by simp [ht,hty]);have hall:∀ f∈fields.toList,(te f.type).isSome=true:=by
  intro f hf;have:(f.type,f.offset)∈fs:=by rw [<- hfl];exact Q4.2 ⟨f,hf,rfl⟩
  exact (Qo.1 hfs) _ this
 have hmap:=zOc (P:=P) hok w fields.toList hall;have hplace:zMr te fs=λj=>((fields.toList.map λf=>(f.offset,((te f.type).map (·.w)).getD 0)).toArray)[j]?:=by
  funext j;simp only [zMr,<- hfl,List.getElem?_map];cases hj:fields.toList[j]? with
  | none=>
   have:fields.size<=j:=by simpa using hj
   simp [hj]
  | some f=>
   obtain ⟨fi,hfi⟩:=Qb.1 (hall f (W7 hj));simp [hj,hfi]
 rw [hplace] at hf;obtain ⟨arr',f1,f2⟩:=zIn vs _ _ l z.cells hpr h3 hf;refine ⟨.agg arr',?_,.ag _ _ f2.1 f2.2⟩;have hmA:(fields.mapM λf=>(do pure (f.offset,<- sizeOf f.type):Sem (Nat×Nat))).run P w=.ok (fields.toList.map λf=>(f.offset,((te f.type).map (·.w)).getD 0)).toArray w:=by
  rw [Array.mapM_eq_mapM_toList];rw [Sem.run_map,hmap];rfl
 have hparts:(ps.map λ(i,x)=>(i,a.eval x)).toList=pl.map λp=>(p.1,a.eval p.2):=by simp [<- hpl]
 simp only [execOp,ho,Instr.build,Sem.run_bind,h1,Qv,run_underlying hu,hmA,hparts,f1];simp
theorem zVk {ps:Array (Nat×Operand)} {i:TI} (hok:yX P te) (ho:o.op=.build t ps) (hpl:ps.toList=pl) (ht:te t=some i) (hty:i.ty=.arr n e) (he:te e=some ei)
  (hp:mN s te pl vs rs) (hf:mJ (λj=>some (j*ei.w,ei.w)) (i.z.map zA) vs=some l):VA P o s rs [] (.ag l):=by
 refine ⟨?_,hp.reads,by simp⟩;intro cx M κ tip s' a w hi hr _;have hpr:=hp.rep hi hr;obtain ⟨z,h1,h2,h3⟩:=zMn hok ht (M:=M) (κ:=κ) (tip:=tip) (B:=s'.blk) w;have hu:=zIk hok (t:=t) (n:=n) (e:=e) (by simp [ht,hty]);obtain ⟨arr',f1,f2⟩:=zIn vs _ _ l z.cells hpr h3 hf;refine ⟨.agg arr',?_,.ag _ _ f2.1 f2.2⟩;have hparts:(ps.map λ(i,x)=>(i,a.eval x)).toList=pl.map λp=>(p.1,a.eval p.2):=by simp [<- hpl]
 simp only [execOp,ho,Instr.build,Sem.run_bind,h1,Qv,run_underlying hu,tC hok he,hparts,f1];simp
end
def addM (M:Mem) (b lo hi:Nat) (f:Nat->Option Value):Mem:=λb' o=>if b'=b/\lo<=o/\o<hi then f o else M b' o
theorem addM_le {lo hi:Nat} {f:Nat->Option Value} (h:∀ o,lo<=o->o<hi->M b o=none):M.le (addM M b lo hi f):=by
 intro b' o x hx;unfold addM;split
 ·rename_i hc;obtain ⟨rfl,h1,h2⟩:=hc;rw [h o h1 h2] at hx;cases hx
 ·exact hx
def lH (tip:Nat->Value) (k:Nat) (v:Value):Nat->Value:=λi=>bif Q2 i k then v else tip i
theorem xF (tip:Nat->Value) (k:Nat) (v:Value):lH tip k v k=v:=by simp [lH]
theorem xI {i:Nat} {v:Value} (h:i≠k):lH tip k v i=tip i:=by
 have:Q2 i k=false:=by rw [Q8];intro e;exact h (Q0 e)
 simp [lH,this]
structure zOd (w w':World) (arr:Array Value) (e:TypeId) (fz:Nat×Nat):Prop where
 os:w'.os=w.os
 tape:w'.tape=w.tape
 output:w'.output=w.output
 size:w'.heap.size=w.heap.size+1
 old:∀ i,i<w.heap.size->w'.heap[i]? = w.heap[i]?
 new:w'.heap[w.heap.size]? = some (.cells arr e fz)
 free:zGs fz arr.size
theorem Inv.bufNew (hi:Inv cx M κ tip s a w) (hw:zOd w w' arr e fz)
  (hk:s.blk k=none∨∃ c0,s.blk k=some (.buf c0)/\c0.len<c.len/\∀ n,n<=c0.len->c.take n=c0.take n) (hsl:c.isSlice=true) (hwd:0<c.width) (hn:n*c.width<=arr.size) (hcap:cap*c.width<=arr.size) (hml:cap<=maxLen)
  (hrep:Rep (addM M w.heap.size 0 (n*c.width) (arr[·]?)) c (.slice (some ⟨w.heap.size,0,none⟩) n cap)) :
  Inv cx (addM M w.heap.size 0 (n*c.width) (arr[·]?)) (fA κ k (some w.heap.size)) (lH tip k (.slice (some ⟨w.heap.size,0,none⟩) n cap)) (s.setb k (.buf c)) a w':=by
 have hle:M.le (addM M w.heap.size 0 (n*c.width) (arr[·]?)):=addM_le λo _ _=>hi.mlt (Q5 _);have gle:GLe κ (fA κ k (some w.heap.size)) tip (lH tip k (.slice (some ⟨w.heap.size,0,none⟩) n cap)) s.blk (s.setb k (.buf c)).blk:={
  var:=λi b l h h'=>by
   have e:i≠k:=by
    rintro rfl;rcases hk with hk | ⟨c0,hk,_⟩<;>(rw [hk] at h';cases h')
   rw [yH e,zQ e];exact ⟨h,l,h'⟩
  buf:=λi c1 h=>by
   by_cases e:i=k
   ·subst e;rcases hk with hk | ⟨c0,hk,hlt,htk⟩
    ·rw [hk] at h;cases h
    ·rw [hk] at h;cases h;exact ⟨c,zW _ _ _,λ_=>hsl,by omega,htk,λe=>by omega⟩
   ·exact W0 (by rw [zQ e];exact h) (xI e)
  own:=λi c1 l1 h=>by
   have e:i≠k:=by
    rintro rfl;rcases hk with hk | ⟨c0,hk,_⟩<;>(rw [hk] at h;cases h)
   exact Qt (by rw [zQ e];exact h) (yH e) (xI e) }
 have hmap:∀ {v:AV} {x:Value},RepA M κ tip s.blk v x->RepA (addM M w.heap.size 0 (n*c.width) (arr[·]?)) (fA κ k (some w.heap.size)) (lH tip k (.slice (some ⟨w.heap.size,0,none⟩) n cap)) (s.setb k (.buf c)).blk v x:=
  λh=>(h.mono hle).ghost gle
 have hother:∀ b o,b<w.heap.size->addM M w.heap.size 0 (n*c.width) (arr[·]?) b o=M b o:=by
  intro b o hb;unfold addM;rw [if_neg (by omega)]
 exact {
  defers:=hi.defers
  size:=hi.size
  fr:=⟨hw.os.trans hi.fr.os,hw.tape.trans hi.fr.tape,hw.output.trans hi.fr.output,by have:=hi.fr.size;rw [hw.size];omega,λb h1 h2 h3=>by
   rw [hw.old b (by have:=hi.fr.size;omega)];exact hi.fr.block b h1 h2 h3⟩
  mem:=λb o x h=>by
   unfold addM at h;split at h
   ·rename_i hc;obtain ⟨rfl,_,hlt⟩:=hc;simp only [Qm,hw.new];simpa using h
   ·have:=hi.mem b o x h;have hlt:=Ql w _ this;rw [World.cell?_of_block (hw.old b hlt)];exact this
  env:=λt v h=>let ⟨x,h1,h2⟩:=hi.env t v h;⟨x,h1,hmap h2⟩
  vars:=λi l h=>by
   have e':i≠k:=by rintro rfl;rw [zW] at h;cases h
   rw [zQ e'] at h;obtain ⟨b,arr',e1,fz',h1,h2,h3,h4,h5,h6,h7⟩:=hi.vars i l h;have hlt:=hi.lt h1;exact ⟨b,arr',e1,fz',by rw [yH e'];exact h1,by rw [hw.old b hlt];exact h2,h3,h4,λj q hq=>hmap (h5 j q hq),λo=>by rw [hother b o hlt];exact h6 o,h7⟩
  bufs:=λi c1 h=>by
   by_cases e':i=k
   ·subst e';rw [zW] at h;cases h;rw [xF,vH];refine ⟨hrep,hsl,hwd,.inr ⟨w.heap.size,n,cap,arr,e,fz,rfl,rfl,hi.fr.size,hw.new,hw.free,hcap,hml,λj hj=>?_⟩⟩;unfold addM;rw [if_neg (by omega)];exact hi.mlt (Q5 _)
   ·rw [zQ e'] at h;obtain ⟨h1,h2,h3,h4⟩:=hi.bufs i c1 h;rw [xI e',yH e'];refine ⟨h1.mono hle,h2,h3,?_⟩;rcases h4 with h4 | ⟨b,n1,cap1,arr1,e1,fz1,q1,q2,q3,q4,q5,q6,q7,q8⟩
    ·exact .inl h4
    ·have hlt:=hi.lt q2;exact .inr ⟨b,n1,cap1,arr1,e1,fz1,q1,q2,q3,by rw [hw.old b hlt];exact q4,q5,q6,q7,λj hj=>by rw [hother b j hlt];exact q8 j hj⟩
  inj:=λi j b h1 h2=>by
   by_cases e1:i=k
   ·subst e1;rw [vH] at h1;cases h1;by_cases e2:j=i
    ·exact e2.symm
    ·rw [yH e2] at h2;have:=hi.lt h2;omega
   ·rw [yH e1] at h1;by_cases e2:j=k
    ·subst e2;rw [vH] at h2;cases h2;have:=hi.lt h1;omega
    ·rw [yH e2] at h2;exact hi.inj i j b h1 h2
  dom:=λi h=>by
   by_cases e':i=k
   ·subst e';rw [zW] at h;cases h
   ·rw [zQ e'] at h;rw [yH e'];exact hi.dom i h
  glob:=hi.glob.mono hle
  old:=⟨λb o hb=>by
   rw [hother b o (by have:=hi.fr.size;omega)];exact hi.old.1 b o hb,hi.old.2⟩
  owns:=hi.owns.keep λi wd li h=>by
   have e':i≠k:=by rintro rfl;rw [zW] at h;cases h
   rw [zQ e'] at h;exact ⟨h,yH e',xI e',λb' hb'=>⟨hw.old b' (hi.lt hb'),λo h=>by rw [hother b' o (hi.lt hb')];exact h⟩,λj q x _ hr=>hmap hr⟩}
theorem Inv.bufNil (hi:Inv cx M κ tip s a w) (hk:s.blk k=none) (hc:c.nilOf=true) (hwd:0<c.width) :
  Inv cx M κ (lH tip k (.slice none 0 0)) (s.setb k (.buf c)) a w:=by
 have gle:GLe κ κ tip (lH tip k (.slice none 0 0)) s.blk (s.setb k (.buf c)).blk:={
  var:=λi b l h h'=>by
   have e:i≠k:=by rintro rfl;rw [hk] at h';cases h'
   rw [zQ e];exact ⟨h,l,h'⟩
  buf:=λi c1 h=>by
   have e:i≠k:=by rintro rfl;rw [hk] at h;cases h
   exact W0 (by rw [zQ e];exact h) (xI e)
  own:=λi c1 l1 h=>by
   have e:i≠k:=by rintro rfl;rw [hk] at h;cases h
   exact Qt (by rw [zQ e];exact h) rfl (xI e) }
 exact {
  defers:=hi.defers
  size:=hi.size
  fr:=hi.fr
  mem:=hi.mem
  env:=λt v h=>let ⟨x,h1,h2⟩:=hi.env t v h;⟨x,h1,h2.ghost gle⟩
  vars:=λi l h=>by
   have e':i≠k:=by rintro rfl;rw [zW] at h;cases h
   rw [zQ e'] at h;obtain ⟨b,arr',e1,fz',h1,h2,h3,h4,h5,h6⟩:=hi.vars i l h;exact ⟨b,arr',e1,fz',h1,h2,h3,h4,λj q hq=>(h5 j q hq).ghost gle,h6⟩
  bufs:=λi c1 h=>by
   by_cases e':i=k
   ·subst e';rw [zW] at h;cases h;rw [xF];refine ⟨?_,?_,hwd,.inl ⟨rfl,hi.dom i hk⟩⟩
    ·unfold W8 at hc;split at hc
     ·exact .bytes0
     ·exact .sl0 _
     ·cases hc
    ·unfold W8 at hc;split at hc<;>first | rfl | cases hc
   ·rw [zQ e'] at h;rw [xI e'];exact hi.bufs i c1 h
  inj:=hi.inj
  dom:=λi h=>by
   by_cases e':i=k
   ·subst e';rw [zW] at h;cases h
   ·rw [zQ e'] at h;exact hi.dom i h
  glob:=hi.glob
  old:=hi.old
  owns:=hi.owns.keep λi wd li h=>by
   have e':i≠k:=by rintro rfl;rw [zW] at h;cases h
   rw [zQ e'] at h;exact ⟨h,rfl,xI e',λb' hb'=>⟨rfl,λo h=>h⟩,λj q x _ hr=>hr.ghost gle⟩}
theorem Inv.bufIn (hi:Inv cx M κ tip s a w) {c':PV} {vs:List Value}
  (hk:s.blk k=some (.buf c)) (htip:tip k=.slice (some ⟨b,0,none⟩) n cap) (hkb:κ k=some b) (hbase:cx.w0.heap.size<=b) (hheap:w.heap[b]? = some (.cells arr e fz)) (hfree:zGs fz arr.size) (hcap:cap*c.width<=arr.size) (hml:cap<=maxLen)
  (hM:∀ j,n*c.width<=j->M b j=none) (hvs:vs.length=m*c.width) (hroom:n+m<=cap) (hc':c'.isSlice=true) (hwd:c'.width=c.width) (hlen:c.len<=c'.len) (htk:∀ i,i<=c.len->c'.take i=c.take i) (hlen':c'.len=c.len->m=0)
  (hrep:Rep (addM M b (n*c.width) ((n+m)*c.width) (λo=>vs[o - n*c.width]?)) c' (.slice (some ⟨b,0,none⟩) (n+m) cap)) :
  Inv cx (addM M b (n*c.width) ((n+m)*c.width) (λo=>vs[o - n*c.width]?)) κ (lH tip k (.slice (some ⟨b,0,none⟩) (n+m) cap)) (s.setb k (.buf c')) a (w.setCells b (n*c.width) vs):=by
 generalize hMM:addM M b (n*c.width) ((n+m)*c.width) (λo=>vs[o - n*c.width]?)=M' at *;have hadd:(n+m)*c.width=n*c.width+m*c.width:=Qj _ _ _;have hfit:n*c.width+vs.length<=arr.size:=by rw [hvs,<- hadd];exact Qp (Q6 _ hroom) hcap
 have hle:M.le M':=by rw [<- hMM];exact addM_le λo h _=>hM o h
 obtain ⟨arr',g1,g2,g3⟩:=qH b vs (n*c.width) w arr e fz hheap hfit;have hrest:=jH b vs (n*c.width) w;obtain ⟨_,_,hw0,_⟩:=hi.bufs k c hk;have gle:GLe κ κ tip (lH tip k (.slice (some ⟨b,0,none⟩) (n+m) cap)) s.blk (s.setb k (.buf c')).blk:={
  var:=λi b l h h'=>by
   have e:i≠k:=by rintro rfl;rw [hk] at h';cases h'
   rw [zQ e];exact ⟨h,l,h'⟩
  buf:=λi c1 h=>by
   by_cases e:i=k
   ·subst e;rw [hk] at h;cases h;refine ⟨c',zW _ _ _,λ_=>hc',hlen,htk,λe=>?_⟩;rw [xF,htip,hlen' e];rfl
   ·exact W0 (by rw [zQ e];exact h) (xI e)
  own:=λi c1 l1 h=>by
   have e:i≠k:=by rintro rfl;rw [hk] at h;cases h
   exact Qt (by rw [zQ e];exact h) rfl (xI e) }
 have hmap:∀ {v:AV} {x:Value},RepA M κ tip s.blk v x->RepA M' κ (lH tip k (.slice (some ⟨b,0,none⟩) (n+m) cap)) (s.setb k (.buf c')).blk v x:=λh=>(h.mono hle).ghost gle;have hother:∀ b' o,b'≠b->M' b' o=M b' o:=by
  intro b' o hne;rw [<- hMM];unfold addM;rw [if_neg (by intro h;exact hne h.1)]
 exact {
  defers:=hi.defers
  size:=hi.size
  fr:=⟨hrest.1.trans hi.fr.os,hrest.2.1.trans hi.fr.tape,hrest.2.2.trans hi.fr.output,by rw [jD];exact hi.fr.size,λi hi1 hi2 hi3=>by
   rw [wH b vs _ w i (by omega)];exact hi.fr.block i hi1 hi2 hi3⟩
  mem:=λi o x h=>by
   rw [<- hMM] at h;unfold addM at h;split at h
   ·rename_i hc;obtain ⟨rfl,h1,h2⟩:=hc;simp only [Qm,g1];have:=g3 o;rw [if_pos (by omega)] at this;simp [this,h]
   ·rename_i hc;have hc2:=hi.mem i o x h;rw [World.cell?_setCells_out b vs _ w _ (λe1 _=>by
     simp only at e1;subst e1;simp only;by_cases hlo:o<n*c.width
     ·exact .inl hlo
     ·have:=hM o (by omega);rw [this] at h;cases h)]
    exact hc2
  env:=λt v h=>let ⟨x,h1,h2⟩:=hi.env t v h;⟨x,h1,hmap h2⟩
  vars:=λi l h=>by
   have e':i≠k:=by rintro rfl;rw [zW] at h;cases h
   rw [zQ e'] at h;obtain ⟨b2,arr2,e2,fz2,k1,k2,k3,k4,k5,k6,k7⟩:=hi.vars i l h;have hne:b2≠b:=λe=>e' (hi.inj i k b (e▸k1) hkb);exact ⟨b2,arr2,e2,fz2,k1,by rw [wH b vs _ w b2 hne];exact k2,k3,k4,λj q hq=>hmap (k5 j q hq),λo=>by rw [hother b2 o hne];exact k6 o,k7⟩
  bufs:=λi c1 h=>by
   by_cases e':i=k
   ·subst e';rw [zW] at h;cases h;rw [xF];refine ⟨hrep,hc',by rw [hwd];exact hw0,.inr ⟨b,n+m,cap,arr',e,fz,rfl,hkb,hbase,g1,by rw [g2];exact hfree,by rw [g2,hwd];exact hcap,hml,λj hj=>?_⟩⟩;rw [hwd] at hj;rw [<- hMM];unfold addM;rw [if_neg (by omega)];exact hM j (by omega)
   ·rw [zQ e'] at h;obtain ⟨k1,k2,k3,k4⟩:=hi.bufs i c1 h;rw [xI e'];refine ⟨k1.mono hle,k2,k3,?_⟩;rcases k4 with k4 | ⟨b2,n2,cap2,arr2,e2,fz2,q1,q2,q3,q4,q5,q6,q7,q8⟩
    ·exact .inl k4
    ·have hne:b2≠b:=λe=>e' (hi.inj i k b (e▸q2) hkb);exact .inr ⟨b2,n2,cap2,arr2,e2,fz2,q1,q2,q3,by rw [wH b vs _ w b2 hne];exact q4,q5,q6,q7,λj hj=>by rw [hother b2 j hne];exact q8 j hj⟩
  inj:=hi.inj
  dom:=λi h=>by
   by_cases e':i=k
   ·subst e';rw [zW] at h;cases h
   ·rw [zQ e'] at h;exact hi.dom i h
  glob:=hi.glob.mono hle
  old:=⟨λb' o hb=>by rw [hother b' o (by omega)];exact hi.old.1 b' o hb,hi.old.2⟩
  owns:=hi.owns.keep λi wd li h=>by
   have e':i≠k:=by rintro rfl;rw [zW] at h;cases h
   rw [zQ e'] at h;exact ⟨h,rfl,xI e',λb' hb'=>⟨wH b vs _ w b' (λe=>e' (hi.inj i k b (e▸hb') hkb)),λo h=>by rw [hother b' o (λe=>e' (hi.inj i k b (e▸hb') hkb))];exact h⟩,λj q x _ hr=>hmap hr⟩}
def oN (M:Mem) (c:PV) (f:Nat->Value):Prop:=
 match c with
 | .bytes l=>∀ (i:Nat) (x:UInt8),l[i]? = some x->f i=.int .u8 x.toNat
 | .sl w l=>(∀ (i:Nat) (p:PV),l[i]? = some p->p.cells.length=w)/\∀ (i:Nat) (p:PV) (j:Nat) (q:PV),l[i]? = some p->p.cells[j]? = some q->Rep M q (f (i*w+j))
 | _=>False
theorem zK1 (hs:c.isSlice=true) {o:Nat} (h:Rep M c (.slice (some ⟨b,o,none⟩) n cap)):oN M c (λj=>mget M b (o+j)):=by
 cases h with
 | bytesE a=>intro i x hx;simp at hx
 | slE a=>exact ⟨by simp,by simp⟩
 | bytes l b o n c h1 h2 h3=>intro i x hx;simp [mget,h3 i x hx]
 | sl w l b o n c h1 h2 h3 h4 h5=>exact ⟨h3,λi p j q hp hq=>h5 i p j q hp hq⟩
theorem jQ (hs:c.isSlice=true) (h:c.len=0) (f:Nat->Value):oN M c f:=by
 cases c<;>simp [Qg] at hs
 ·rename_i l;simp [Qa] at h;subst h;intro i x hx;simp at hx
 ·rename_i w l;simp [Qa] at h;subst h;exact ⟨by simp,by simp⟩
theorem zRx (hs:c.isSlice=true) {o:Nat} (h:Rep M c (.slice (some ⟨b,o,none⟩) n cap)) (hw:0<c.width):∀ j,j<n*c.width->(M b (o+j)).isSome=true:=by
 intro j hj;cases h with
 | bytesE a=>simp at hj
 | slE a=>simp at hj
 | bytes l b o n c h1 h2 h3=>
  simp [Qr] at hj;have hq:l[j]? = some l[j]:=by simp
  simp [h3 j _ hq]
 | sl w l b o n c h1 h2 h3 h4 h5=>
  simp only [Qr] at hj hw;have hi:j / w<l.length:=by rw [<- h1];exact W9 (by rw [W4];exact hj)
  have hp:l[j / w]? = some l[j / w]:=by simp
  have hwd:=h3 _ _ hp;have hr:j % w<l[j / w].cells.length:=by rw [hwd];exact Nat.mod_lt _ hw
  have hq:l[j / w].cells[j % w]? = some l[j / w].cells[j % w]:=by simp
  have:=h4 _ _ _ _ hp hq;have e:j / w*w+j % w=j:=by rw [W4];exact Wh j w
  rw [e] at this;exact this
theorem uB {f:Nat->Value} (h:oN M c f) (hs:c.isSlice=true) (hle:M.le M') {o:Nat} (hm:∀ j,j<c.len*c.width->M' b (o+j)=some (f j)) (hc:c.len<=cap):Rep M' c (.slice (some ⟨b,o,none⟩) c.len cap):=by
 cases c<;>simp [Qg] at hs
 ·rename_i l;refine .bytes l b o _ cap rfl hc ?_;intro i x hx;have hlt:i<l.length:=(List.getElem?_eq_some_iff.1 hx).1;rw [hm i (by simp [Qa,Qr];exact hlt),h i x hx]
 ·rename_i w l;have key:∀ (i:Nat) (p:PV) (j:Nat) (q:PV),l[i]? = some p->p.cells[j]? = some q->i*w+j<l.length*w:=by
   intro i p j q hp hq;have h1:i<l.length:=(List.getElem?_eq_some_iff.1 hp).1;have h2:j<p.cells.length:=(List.getElem?_eq_some_iff.1 hq).1;rw [h.1 i p hp] at h2;have:(i+1)*w<=l.length*w:=Q6 _ h1;rw [Qj] at this;omega
  refine .sl w l b o _ cap rfl hc h.1 ?_ ?_
  ·intro i p j q hp hq;rw [hm _ (key i p j q hp hq)];rfl
  ·intro i p j q hp hq;have:=hm _ (key i p j q hp hq);simp only [mget,this,Wg];exact (h.2 i p j q hp hq).mono hle
def PV.app:PV->PV->Option PV
 | .bytes a,.bytes b=>some (.bytes (a++b))
 | .sl w a,.sl w' b=>bif Q2 w w' then some (.sl w (a++b)) else none
 | .bytes a,.str b=>some (.bytes (a++b))
 | _,_=>none
def PV.src:PV->PV
 | .str l=>.bytes l
 | p=>p
theorem zM1 {x r:PV} (h:c.app x=some r):c.isSlice=true/\r.isSlice=true/\x.src.isSlice=true/\r.width=c.width/\x.src.width=c.width/\r.len=c.len+x.src.len/\∀ n,n<=c.len->r.take n=c.take n:=by
 unfold PV.app at h;split at h
 ·cases h;refine ⟨rfl,rfl,rfl,rfl,rfl,by simp [Qa,PV.src],λn hn=>?_⟩;simp only [Qa] at hn;simp [Qz,Qi hn]
 ·rename_i w a w' b;cases hb:Q2 w w' with
  | false=>simp [hb] at h
  | true=>
   simp [hb] at h;subst h;have:=Q0 hb;subst this;refine ⟨rfl,rfl,rfl,rfl,rfl,by simp [Qa,PV.src],λn hn=>?_⟩;simp only [Qa] at hn;simp [Qz,Qi hn]
 ·cases h;refine ⟨rfl,rfl,rfl,rfl,rfl,by simp [Qa,PV.src],λn hn=>?_⟩;simp only [Qa] at hn;simp [Qz,Qi hn]
 ·cases h
theorem zKi {x r:PV} {f:Nat->Value} (h:c.app x=some r) (hc:oN M c f) (hx:oN M x.src g):oN M r (λj=>if j<c.len*c.width then f j else g (j - c.len*c.width)):=by
 have hb:∀ (a b:By) (f g:Nat->Value),(∀ (i:Nat) (x:UInt8),a[i]? = some x->f i=.int .u8 x.toNat)->(∀ (i:Nat) (x:UInt8),b[i]? = some x->g i=.int .u8 x.toNat)->∀ (i:Nat) (x:UInt8),(a++b)[i]? = some x->(if i<a.length*1 then f i else g (i - a.length*1))=.int .u8 x.toNat:=by
  intro a b f g h1 h2 i x hx;rw [Nat.mul_one];by_cases hi:i<a.length
  ·rw [if_pos hi];rw [List.getElem?_append_left hi] at hx;exact h1 i x hx
  ·rw [if_neg hi];rw [List.getElem?_append_right (by omega)] at hx;exact h2 _ x hx
 unfold PV.app at h;split at h
 ·cases h;exact hb _ _ f g hc hx
 ·rename_i w a w' b;cases hbq:Q2 w w' with
  | false=>simp [hbq] at h
  | true=>
   simp [hbq] at h;subst h;have:=Q0 hbq;subst this;obtain ⟨c1,c2⟩:=hc;obtain ⟨x1,x2⟩:=hx;refine ⟨λi p hp=>?_,λi p j q hp hq=>?_⟩
   ·by_cases hi:i<a.length
    ·rw [List.getElem?_append_left hi] at hp;exact c1 i p hp
    ·rw [List.getElem?_append_right (by omega)] at hp;exact x1 _ p hp
   ·show Rep M q (if i*w+j<a.length*w then f (i*w+j) else g (i*w+j - a.length*w));by_cases hi:i<a.length
    ·rw [List.getElem?_append_left hi] at hp;have hj:j<w:=by rw [<- c1 i p hp];exact (List.getElem?_eq_some_iff.1 hq).1
     have:(i+1)*w<=a.length*w:=Q6 _ hi;rw [Qj] at this;rw [if_pos (by omega)];exact c2 i p j q hp hq
    ·rw [List.getElem?_append_right (by omega)] at hp;have h1:a.length*w<=i*w:=Q6 _ (by omega);rw [if_neg (by omega)];have:=x2 (i - a.length) p j q hp hq;rw [show i*w+j - a.length*w=(i - a.length)*w+j by rw [Nat.sub_mul];omega];exact this
 ·cases h;exact hb _ _ f g hc hx
 ·cases h
structure Src (P:Program) (w:World) (size m:Nat) (y:Value) (news:List Value):Prop where
 len:∀ w':World,(Qn y).run P w'=.ok m w'
 cells:∀ w':World,(∀ a u,w.cell? a=some u->w'.cell? a=some u)->(Qe size m y).run P w'=.ok news.toArray w'
 nl:news.length=m*size
theorem zD2 (hm:∀ b o x,M b o=some x->w.cell? ⟨b,o,none⟩=some x) (hs:p.isSlice=true) (h:Rep M p y) (hw:0<p.width) :
  ∃ news g,Src P w p.width p.len y news/\oN M p g/\∀ j,j<p.len*p.width->news[j]? = some (g j):=by
 rcases kL h hs with ⟨rfl,hl⟩ | ⟨b,o,n,c,rfl,hn,hc⟩ | ⟨aa,rfl,rfl | rfl⟩
 ·refine ⟨[],λ_=>undef,⟨λw'=>by simp [Qn,hl],λw' _=>by simp [Qe],by simp [hl]⟩,jQ hs hl _,by simp [hl]⟩
 ·subst hn;refine ⟨(Wa (p.len*p.width)).map λj=>mget M b (o+j),λj=>mget M b (o+j),⟨λw'=>by simp [Qn],λw' hw'=>?_,by simp⟩,zK1 hs h,λj hj=>by simp [hj]⟩;refine run_firstCells_some (P:=P) w' p.width p.len ⟨b,o,none⟩ p.len c _ (by simp) ?_;intro j u hu;rw [List.getElem?_map] at hu;obtain ⟨j',h1,h2⟩:=Q3.1 hu;have hj:j<p.len*p.width:=by have:=(List.getElem?_eq_some_iff.1 h1).1;simpa using this
  have hjj:j'=j:=by have:=(List.getElem?_eq_some_iff.1 h1).2;simpa using this.symm
  subst hjj;obtain ⟨z,hz⟩:=Qb.1 (zRx hs h hw j' hj);rw [add_off,<- h2];refine hw' _ _ ?_;rw [hm _ _ _ hz];simp [mget,hz]
 all_goals exact ⟨[],λ_=>undef,⟨λw'=>by simp [Qn,Qa],λw' _=>by simpa [Qe,Qa] using run_loadCells_list (P:=P) (w:=w') aa ([]:List Value) (by simp),by simp [Qa]⟩,jQ rfl rfl _,by simp [Qa]⟩
theorem zTy (l:By):∃ news g,Src P w 1 l.length (.string ⟨l.toArray⟩) news/\oN M (.bytes l) g/\∀ j,j<l.length*1->news[j]? = some (g j):=by
 refine ⟨l.map λx=>.int .u8 x.toNat,λj=>((l.map λx=>Value.int .u8 x.toNat)[j]?).getD undef,⟨λw'=>by simp [Qn,zIu],λw' _=>?_,by simp⟩,?_,?_⟩
 ·simp [Qe]
 ·intro i x hx;simp [hx]
 ·intro j hj;have:j<l.length:=by omega
  simp [this]
section
def zCo (d:TypeDesc):Prop:=d=.string∨∃ e,d=.slice e
theorem dR {d:TypeDesc} (ht:P.underlying t=some (.slice e)) (ht':P.underlying t'=some d) (hd:zCo d) (hi:P.info? e=some i) (hz:i.zero=some z)
  (hy:Src P w i.size m y news) (h0:0<m) (hb:m*i.bytes<=140737488355328) (h63:m<=9223372036854775807) :
  (Q9 #[t,t'] ty #[.slice none 0 0,y]).run P w=.ok (.slice (some ⟨w.heap.size,0,none⟩) m (grownCap w m 0 e)) (w.drew.alloc (.cells (news.toArray++Q7 z.cells (grownCap w m 0 e - m)) e)):=by
 have hn:m≠0:=by omega
 have h63':¬ (9223372036854775807<(m:Int)):=by omega
 have h48':¬ (281474976710656<Wb m 0*i.bytes):=by
  have:=growslice_fits (need:=m) (old:=0) (bytes:=i.bytes) h0 hb;omega
 have hc:=hy.cells w.drew (λa u h=>by simpa using h);have h1:(Qe i.size 0 (.slice none 0 0)).run P w.drew=.ok #[] w.drew:=by simp [Qe]
 rcases hd with rfl | ⟨e',rfl⟩<;>simp [Q9,run_underlying ht,run_underlying ht',sizeOf,typeInfo,zeroValue,hi,hz,hy.len,hc,h1,hn,h63',h48',Question.forced,newRow,grownCap]
theorem gU {d:TypeDesc} (ht:P.underlying t=some (.slice e)) (ht':P.underlying t'=some d) (hd:zCo d) (hi:P.info? e=some i)
  (hy:Src P w i.size 0 y news):(Q9 #[t,t'] ty #[.slice none 0 0,y]).run P w=.ok (.slice none 0 0) w:=by
 have hc:=hy.cells w (λa u h=>h);rcases hd with rfl | ⟨e',rfl⟩<;>simp [Q9,run_underlying ht,run_underlying ht',sizeOf,typeInfo,hi,hy.len,hc]
theorem zIe {d:TypeDesc} (ht:P.underlying t=some (.slice e)) (ht':P.underlying t'=some d) (hd:zCo d) (hi:P.info? e=some i)
  (hy:Src P w i.size m y news) (h1:∀ u∈news,u.oneCell'=true) (hroom:n+m<=cap) (hc:∀ j,j<news.length->(w.cell? ⟨b,n*i.size+j,none⟩).isSome=true) (hf:∀ j,j<news.length->w.frozen? ⟨b,n*i.size+j,none⟩=false) :
  (Q9 #[t,t'] ty #[.slice (some ⟨b,0,none⟩) n cap,y]).run P w=.ok (.slice (some ⟨b,0,none⟩) (n+m) cap) (w.setCells b (n*i.size) news):=by
 have hfc:=hy.cells w (λa u h=>h);have hst:=run_storeCells_cells (P:=P) b (n*i.size) news 0 w (by simpa using hc) (by simpa using hf) h1;simp only [W2] at hst;rcases hd with rfl | ⟨e',rfl⟩<;>simp [Q9,run_underlying ht,run_underlying ht',sizeOf,typeInfo,hi,hy.len,hroom,hfc,add_off,hst]
theorem zIb {d:TypeDesc} (ht:P.underlying t=some (.slice e)) (ht':P.underlying t'=some d) (hd:zCo d) (hi:P.info? e=some i) (hz:i.zero=some z)
  (hy:Src P w i.size m y news) {olds:List Value} (hlo:olds.length=n*i.size) (holds:∀ (j:Nat) (u:Value),olds[j]? = some u->w.cell? ⟨b,j,none⟩=some u) (hg:cap<n+m) (hb:(n+m)*i.bytes<=140737488355328) (h63:n+m<=9223372036854775807) :
  (Q9 #[t,t'] ty #[.slice (some ⟨b,0,none⟩) n cap,y]).run P w=.ok (.slice (some ⟨w.heap.size,0,none⟩) (n+m) (grownCap w (n+m) cap e))
   (w.drew.alloc (.cells (olds.toArray++news.toArray++Q7 z.cells (grownCap w (n+m) cap e - (n+m))) e)):=by
 have hn:¬ (n+m<=cap):=by omega
 have h63':¬ (9223372036854775807<((n:Int)+(m:Int))):=by omega
 have h48':¬ (281474976710656<Wb (n+m) cap*i.bytes):=by
  have:=growslice_fits (need:=n+m) (old:=cap) (bytes:=i.bytes) hg hb;omega
 have hc:=hy.cells w.drew (λa u h=>by simpa using h);have h1:=run_firstCells_some (P:=P) w.drew i.size n ⟨b,0,none⟩ n cap olds hlo (by intro j u hu;rw [add_off];simpa using holds j u hu);rcases hd with rfl | ⟨e',rfl⟩<;>simp [Q9,run_underlying ht,run_underlying ht',sizeOf,typeInfo,zeroValue,hi,hz,hy.len,hc,h1,hn,h63',h48',Question.forced,newRow,grownCap]<;>(rw [<- Array.append_assoc];simp)
end
theorem nC (w:World) (arr:Array Value) (e:TypeId):zOd w (w.drew.alloc (.cells arr e)) arr e (0,0) where
 os:=rfl
 tape:=rfl
 output:=rfl
 size:=by simp
 old:=λi h=>by rw [hao w.drew _ i h];rfl
 new:=by have:=heap_alloc_new w.drew (.cells arr e);simpa using this
 free:=zKe _
theorem jA (w:World) (arr:Array Value) (e:TypeId):zOd w (w.alloc (.cells arr e)) arr e (0,0) where
 os:=rfl
 tape:=rfl
 output:=rfl
 size:=by simp
 old:=λi h=>hao w _ i h
 new:=by have:=heap_alloc_new w (.cells arr e);simpa using this
 free:=zKe _
section
variable {y:Operand}
theorem sN {b:ABlk}:Qy ⟨rs,bs,fr,some (d,some v),[(k,b)]⟩ s=(s.setb k b).put d v:=by
 simp only [Qy,AS.setb,AS.put,zCt,lk];congr 1;funext t;cases Q2 t k<;>simp
theorem zVs (hm:∀ b o x,M b o=some x->w.cell? ⟨b,o,none⟩=some x) (happ:c.app p=some rr) (h:Rep M p z) (hw:0<c.width) :
  ∃ news g,Src P w c.width p.src.len z news/\oN M p.src g/\∀ j,j<p.src.len*c.width->news[j]? = some (g j):=by
 obtain ⟨h1,h2,h3,h4,h5,h6,h7⟩:=zM1 happ;cases p with
 | str l=>
  cases h;have hcw:c.width=1:=by rw [<- h5];rfl
  obtain ⟨news,g,q1,q2,q3⟩:=zTy (P:=P) (M:=M) (w:=w) l;exact ⟨news,g,by rw [hcw];exact q1,q2,by rw [hcw];exact q3⟩
 | bytes l=>
  obtain ⟨news,g,q1,q2,q3⟩:=zD2 (P:=P) hm (p:=.bytes l) rfl h (by simp [Qr]);have hcw:c.width=1:=by rw [<- h5];rfl
  exact ⟨news,g,by rw [hcw];exact q1,q2,by rw [hcw];exact q3⟩
 | sl w' l=>
  have hcw:w'=c.width:=by rw [<- h5];rfl
  obtain ⟨news,g,q1,q2,q3⟩:=zD2 (P:=P) hm (p:=.sl w' l) rfl h (by simp [Qr];omega);exact ⟨news,g,by rw [<- hcw];exact q1,q2,by rw [<- hcw];exact q3⟩
 | _=>simp [PV.src,Qg] at h3
def zCk:PV->Bool
 | .sl _ l=>l.all λp=>p.cells.all PV.one
 | _=>true
theorem one_pv {x:Value} (h:Rep M p x) (ho:p.one=true):x.oneCell'=true:=zHh (κ:=λ_=>none) (tip:=λ_=>undef) (B:=λ_=>none) (.p p x h) ho
theorem zYu (h:c.app p=some rr):p.isSlice=true∨∃ l,p=.str l:=by
 unfold PV.app at h;split at h<;>first | (exact .inl rfl) | (exact .inr ⟨_,rfl⟩) | cases h
theorem zRm {wd:Nat} (hs:p.isSlice=true) (hw:p.width=wd) (hwp:0<wd) (hc:oN M p g) (hl:news.length=p.len*wd) (hn:∀ j,j<p.len*wd->news[j]? = some (g j)) (he:zCk p=true):∀ u∈news,u.oneCell'=true:=by
 intro u hu;obtain ⟨j,hj,hju⟩:=Wd hu;rw [hl] at hj;have h1:=hn j hj;have h2:g j=u:=by
  have:news[j]? = some u:=by rw [List.getElem?_eq_getElem (by omega),hju]
  rw [this] at h1;exact (Option.some.inj h1).symm
 cases p<;>simp [Qg] at hs
 ·rename_i l;simp only [Qr] at hw;subst hw;simp only [Qa,Nat.mul_one] at hj;have:=hc j l[j] (by simp);rw [<- h2,this];rfl
 ·rename_i w l;simp only [Qr] at hw;subst hw;simp only [Qa] at hj;have hi:j / w<l.length:=W9 (by rw [W4];exact hj);have hp:l[j / w]? = some l[j / w]:=by simp
  have hwd:=hc.1 _ _ hp;have hr:j % w<l[j / w].cells.length:=by rw [hwd];exact Nat.mod_lt _ hwp
  have hq:l[j / w].cells[j % w]? = some l[j / w].cells[j % w]:=by simp
  have h3:=hc.2 _ _ _ _ hp hq;have e:j / w*w+j % w=j:=by rw [W4];exact Wh j w
  rw [e,h2] at h3;simp only [zCk,Qo] at he;exact one_pv h3 (he _ (W3 _) _ (W3 _))
theorem vC {v:Value} (ho:o.op=.call { callee:=.builtin .append,args:=#[x,y],argTypes:=#[t,t'] }) {vx:Value} (hx:a.eval x=vx) (h:(Q9 #[t,t'] o.type #[vx,a.eval y]).run P w=.ok v w') :
  (execOp a.eval o).run P w=.ok (.value v) w':=by
 simp [execOp,ho,resolve,invoke,builtin,hx,h]
theorem zUs (hok:yX P te) (hd:o.dst=some d) (ho:o.op=.call { callee:=.builtin .append,args:=#[x,y],argTypes:=#[t,t'] })
  (ht:(te t).map (·.ty)=some (.slice e)) (he:te e=some ei) (ht':P.underlying t'=some dd) (hdd:zCo dd) (hx:s.get te t x=some (.nl c)) (hcw:c.width=ei.w) (hw0:0<ei.w) (hz:ei.z.length=ei.w) (hy:s.get te t' y=some vy) (hp:s.rd vy=some (p,bs)) (happ:c.app p=some rr)
  (hb:(c.len+p.src.len)*ei.b<=140737488355328) (hb1:0<ei.b) (hk:s.blk d=none) :
  SA P o s ⟨opS x (.nl c)++opS y vy,bs,[d],some (d,some (.buf d rr.len)),[(d,.buf rr)]⟩:=by
 refine ⟨?_,yM (zM hx) (zM hy),uM vy p bs hp,by intro k hk';simp at hk';subst hk';exact hk⟩;intro cx s' a w K Q hm hs hws hk';obtain ⟨M,κ,tip,h0,hpk,hi⟩:=hs;have hbk:=hm.2.2 d (by simp);have hx':=yF hi (yN hx s' (yI hm.1));have hy':=kE hi hy hp (zZ hm.1) hm.2.1;obtain ⟨q1,q2,q3,q4,q5,q6,q7⟩:=zM1 happ;generalize hev:a.eval x=zx at hx';cases hx' with
 | nl _ hnil=>
 have hlen0:c.len=0:=by unfold W8 at hnil;split at hnil<;>first | rfl | cases hnil
 rw [hlen0,Qd] at hb;obtain ⟨news,g,n1,n2,n3⟩:=zVs (P:=P) hi.mem happ hy' (by omega);obtain ⟨info,z,i1,i2,i3,i4,i5⟩:=(hok e ei he).info;have hu:=xA hok ht;have hlen:p.src.len<=140737488355328:=Qp (W5 _ hb1) hb;rw [hcw,<- i2] at n1;unfold Oper.wp;by_cases hm0:p.src.len=0
 ·rw [hm0] at n1;have hrun:=gU (P:=P) (ty:=o.type) hu ht' hdd i1 n1;rw [vC ho hev hrun];show K (a.put o.dst _) _;rw [hd];refine hk' _ _ ?_;rw [sN];have hrl:rr.len=0:=by omega
  have hrn:rr.nilOf=true:=by cases rr<;>simp [Qg] at q2<;>simp [Qa] at hrl<;>subst hrl<;>rfl
  refine ⟨M,κ,_,h0,hpk,(hi.bufNil hbk hrn (by omega)).put (hws d (by simp [Qu])) ?_⟩;rw [hrl];refine .buf d 0 rr _ (zW _ _ _) q2 (Qs _) ?_ (λ_=>(xF _ _ _).symm);cases rr<;>simp [Qg] at q2<;>simp only [Qz,Wi]
  ·exact .bytes0
  ·exact .sl0 _
 ·have hrun:=dR (P:=P) (ty:=o.type) hu ht' hdd i1 i4 n1 (by omega) (by rw [i3];exact hb) (by omega);rw [vC ho hev hrun];show K (a.put o.dst _) _;rw [hd];refine hk' _ _ ?_;rw [sN];have hcells:=zKi happ (jQ q1 hlen0 (λ_=>undef)) n2;have hzs:z.cells.size=ei.w:=by rw [<- Qk,i5];simpa using hz
  have hge:=grownCap_ge w p.src.len 0 e;have hnl:news.length=p.src.len*ei.w:=by rw [n1.nl,i2]
  have hrl:rr.len=p.src.len:=by omega
  have hrw:rr.width=ei.w:=by omega
  have hsize:(news.toArray++Q7 z.cells (grownCap w p.src.len 0 e - p.src.len)).size=grownCap w p.src.len 0 e*ei.w:=by
   simp only [Qw,Qx,size_zeroCells,hzs,hnl,<- Qj];congr 1;omega
  have hfit:p.src.len*ei.w<=grownCap w p.src.len 0 e*ei.w:=Q6 _ hge;have hml:grownCap w p.src.len 0 e<=maxLen:=grownCap_le_maxLen w p.src.len 0 e (by simp only [maxLen];omega);have hrep:Rep (addM M w.heap.size 0 (p.src.len*rr.width) ((news.toArray++Q7 z.cells (grownCap w p.src.len 0 e - p.src.len))[·]?)) rr (.slice (some ⟨w.heap.size,0,none⟩) p.src.len (grownCap w p.src.len 0 e)):=by
   have:=uB (M':=addM M w.heap.size 0 (p.src.len*rr.width) ((news.toArray++Q7 z.cells (grownCap w p.src.len 0 e - p.src.len))[·]?)) (b:=w.heap.size) (o:=0) (cap:=grownCap w p.src.len 0 e) hcells q2 (addM_le λo _ _=>hi.mlt (Q5 _)) ?_ (by omega)
   ·rwa [hrl] at this
   intro j hj;rw [hrl] at hj;simp only [addM,Qd];rw [if_pos ⟨trivial,Qs _,hj⟩,hlen0];simp only [Nat.zero_mul,Nat.not_lt_zero,if_false,We];rw [hrw] at hj;have:=n3 j (by rw [hcw];exact hj);rw [Array.getElem?_append_left (by simp;omega)];simpa using this
  refine ⟨_,_,_,h0.trans' (addM_le λo _ _=>hi.mlt (Q5 _)),zAx hi hpk hbk _,(hi.bufNew (nC w _ e) (.inl hbk) q2 (by omega) ?_ ?_ hml hrep).put (hws d (by simp [Qu])) ?_⟩
  ·rw [hsize,hrw];exact hfit
  ·rw [hsize,hrw];exact Q5 _
  ·rw [hrl];refine .buf d _ rr _ (zW _ _ _) q2 (by omega) ?_ (λ_=>(xF _ _ _).symm);have:rr.take p.src.len=rr:=by rw [<- hrl];cases rr<;>simp [Qg] at q2<;>simp [Qz,Qa]
   rw [this];exact hrep
end
section
variable {y:Operand}
theorem nQ (h:c.isSlice=true):c.take c.len=c:=by cases c<;>simp [Qg] at h<;>simp [Qz,Qa]
theorem zUm (hi:Inv cx M κ tip s a w) (hp:∀ k∈cx.pk,κ k.1=some k.2/\k.2<cx.w0.heap.size) (hb:s.blk k=some (.buf c)) (b:Option Nat):∀ k'∈cx.pk,fA κ k b k'.1=some k'.2/\k'.2<cx.w0.heap.size:=by
 intro k' hk';have h1:=hp k' hk';rw [yH]
 ·exact h1
 ·intro e;obtain ⟨_,_,_,h4⟩:=hi.bufs _ c hb;rw [<- e] at h4;rcases h4 with ⟨_,h5⟩ | ⟨b',n,cap,arr,e,fz,_,h5,h6,h7,_⟩
  ·rw [h1.1] at h5;cases h5
  ·rw [h1.1] at h5;cases h5;omega
theorem zX2 (hok:yX P te) (hd:o.dst=some d) (ho:o.op=.call { callee:=.builtin .append,args:=#[x,y],argTypes:=#[t,t'] })
  (ht:(te t).map (·.ty)=some (.slice e)) (he:te e=some ei) (ht':P.underlying t'=some dd) (hdd:zCo dd) (hx:s.get te t x=some (.buf k c.len)) (hk:s.blk k=some (.buf c)) (hcw:c.width=ei.w) (hw0:0<ei.w) (hz:ei.z.length=ei.w) (hy:s.get te t' y=some vy) (hp:s.rd vy=some (p,bs)) (happ:c.app p=some rr)
  (hel:zCk p=true) (hb:(c.len+p.src.len)*ei.b<=140737488355328) (hb1:0<ei.b) :
  SA P o s ⟨opS x (.buf k c.len)++opS y vy,(k,.buf c) :: bs,[],some (d,some (.buf k rr.len)),[(k,.buf rr)]⟩:=by
 refine ⟨?_,yM (zM hx) (zM hy),?_,by intro k hk';simp at hk'⟩
 ·intro cx s' a w K Q hm hs hws hk';obtain ⟨M,κ,tip,h0,hpk,hi⟩:=hs;have hbk:=hm.2.1 (k,.buf c) (by simp);simp only at hbk;have hx':=yF hi (yN hx s' (yI hm.1));have hy':=kE hi hy hp (zZ hm.1) (λe he=>hm.2.1 e (by simp [he]));obtain ⟨q1,q2,q3,q4,q5,q6,q7⟩:=zM1 happ;obtain ⟨b1,b2,b3,b4⟩:=hi.bufs k c hbk;have hevx:a.eval x=tip k:=by
   generalize a.eval x=zx at hx';cases hx' with
   | buf _ _ c' _ g1 g2 g3 g4 g5=>rw [hbk] at g1;cases g1;exact g5 rfl
  obtain ⟨news,g,n1,n2,n3⟩:=zVs (P:=P) hi.mem happ hy' (by omega);obtain ⟨info,z,i1,i2,i3,i4,i5⟩:=(hok e ei he).info;have hu:=xA hok ht;have hlen:c.len+p.src.len<=140737488355328:=Qp (W5 _ hb1) hb;rw [hcw,<- i2] at n1;have hnl:news.length=p.src.len*ei.w:=by rw [n1.nl,i2]
  have hrw:rr.width=ei.w:=by omega
  have hzs:z.cells.size=ei.w:=by rw [<- Qk,i5];simpa using hz
  have hone:∀ u∈news,u.oneCell'=true:=by
   rcases zYu happ with hsl | ⟨l,rfl⟩
   ·have hps:p.src=p:=by cases p<;>simp [Qg] at hsl<;>rfl
    rw [hps] at n2 n3 hnl q5;exact zRm hsl (by omega) hw0 n2 hnl (λj hj=>n3 j (by rw [hcw];exact hj)) hel
   ·exact zRm (p:=.bytes l) rfl (by have h5:(1:Nat)=c.width:=q5;show (1:Nat)=ei.w;omega) hw0 n2 hnl (λj hj=>n3 j (by rw [hcw];exact hj)) rfl
  unfold Oper.wp;rcases b4 with ⟨hnil,hκ⟩ | ⟨b,n,cap,arr,e1,fz,htip,hκ,hbase,hheap,hfree,hcap,hml,hM⟩
  ·
   have hlen0:c.len=0:=by
    rw [hnil] at b1;rcases kL b1 b2 with ⟨_,h⟩ | ⟨b,o,n,cc,h,_⟩ | ⟨aa,h,_⟩
    ·exact h
    ·cases h
    ·cases h
   by_cases hm0:p.src.len=0
   ·rw [hm0] at n1;have hrun:=gU (P:=P) (ty:=o.type) hu ht' hdd i1 n1;rw [vC ho (hevx.trans hnil) hrun];show K (a.put o.dst _) _;rw [hd];refine hk' _ _ ?_;rw [sN];have hrl:rr.len=0:=by omega
    have hrn:rr=c:=by
     have hps:p.src.len=0:=hm0;unfold PV.app at happ;split at happ
     ·rename_i aa bb;simp only [PV.src,Qa] at hps;have:bb=[]:=Qc hps;subst this;simp at happ;exact happ.symm
     ·rename_i ww aa ww' bb;simp only [PV.src,Qa] at hps;have:bb=[]:=Qc hps;subst this;cases hbq:Q2 ww ww' with
      | false=>simp [hbq] at happ
      | true=>simp [hbq] at happ;exact happ.symm
     ·rename_i aa bb;simp only [PV.src,Qa] at hps;have:bb=[]:=Qc hps;subst this;simp at happ;exact happ.symm
     ·cases happ
    subst hrn;have hset:s'.setb k (.buf rr)=s':=by
     cases s' with
     | mk env blk=>
      simp only [AS.setb];congr 1;funext t;by_cases ht:t=k
      ·subst ht;simp;exact hbk.symm
      ·have:Q2 t k=false:=by rw [Q8];intro e;exact ht (Q0 e)
       simp [this]
    rw [hset];refine ⟨M,κ,tip,h0,hpk,hi.put (hws d (by simp [Qu])) ?_⟩;refine .buf k _ rr _ hbk b2 (Q5 _) ?_ (λ_=>hnil.symm);rw [nQ b2,<- hnil];exact b1
   ·have hrun:=dR (P:=P) (ty:=o.type) hu ht' hdd i1 i4 n1 (by omega) (by rw [i3];rw [hlen0,Qd] at hb;exact hb) (by omega);rw [vC ho (hevx.trans hnil) hrun];show K (a.put o.dst _) _;rw [hd];refine hk' _ _ ?_;rw [sN];have hcells:=zKi happ (jQ q1 hlen0 (λ_=>undef)) n2;have hge:=grownCap_ge w p.src.len 0 e;have hrl:rr.len=p.src.len:=by omega
    have hsize:(news.toArray++Q7 z.cells (grownCap w p.src.len 0 e - p.src.len)).size=grownCap w p.src.len 0 e*ei.w:=by
     simp only [Qw,Qx,size_zeroCells,hzs,hnl,<- Qj];congr 1;omega
    have hfit:p.src.len*ei.w<=grownCap w p.src.len 0 e*ei.w:=Q6 _ hge;have hml:grownCap w p.src.len 0 e<=maxLen:=grownCap_le_maxLen w p.src.len 0 e (by simp only [maxLen];omega);have hrep:Rep (addM M w.heap.size 0 (p.src.len*rr.width) ((news.toArray++Q7 z.cells (grownCap w p.src.len 0 e - p.src.len))[·]?)) rr (.slice (some ⟨w.heap.size,0,none⟩) p.src.len (grownCap w p.src.len 0 e)):=by
     have:=uB (M':=addM M w.heap.size 0 (p.src.len*rr.width) ((news.toArray++Q7 z.cells (grownCap w p.src.len 0 e - p.src.len))[·]?)) (b:=w.heap.size) (o:=0) (cap:=grownCap w p.src.len 0 e) hcells q2 (addM_le λo _ _=>hi.mlt (Q5 _)) ?_ (by omega)
     ·rwa [hrl] at this
     intro j hj;rw [hrl] at hj;simp only [addM,Qd];rw [if_pos ⟨trivial,Qs _,hj⟩,hlen0];simp only [Nat.zero_mul,Nat.not_lt_zero,if_false,We];rw [hrw] at hj;have:=n3 j (by rw [hcw];exact hj);rw [Array.getElem?_append_left (by simp;omega)];simpa using this
    refine ⟨_,_,_,h0.trans' (addM_le λo _ _=>hi.mlt (Q5 _)),zUm hi hpk hbk _,(hi.bufNew (nC w _ e) (.inr ⟨c,hbk,by omega,q7⟩) q2 (by omega) ?_ ?_ hml hrep).put (hws d (by simp [Qu])) ?_⟩
    ·rw [hsize,hrw];exact hfit
    ·rw [hsize,hrw];exact Q5 _
    ·rw [hrl];refine .buf k _ rr _ (zW _ _ _) q2 (by omega) ?_ (λ_=>(xF _ _ _).symm);rw [<- hrl,nQ q2,hrl];exact hrep
  ·rw [htip] at b1;have hn:n=c.len/\n<=cap:=by
    rcases kL b1 b2 with ⟨h,_⟩ | ⟨b',o',n',cc,h,h2,h3⟩ | ⟨aa,h,hpe⟩
    ·cases h
    ·cases h;exact ⟨h2,h3⟩
    ·cases h;rcases hpe with hpe | hpe<;>(rw [hpe];exact ⟨rfl,Q5 _⟩)
   obtain ⟨hn,hcl⟩:=hn;subst hn;have hcells:=zKi happ (zK1 b2 b1) n2;simp only [Qd] at hcells;have hsome:=zRx b2 b1 b3;simp only [Qd] at hsome;have hadd:(c.len+p.src.len)*ei.w=c.len*ei.w+p.src.len*ei.w:=Qj _ _ _;by_cases hroom:c.len+p.src.len<=cap
   ·have hfits:(c.len+p.src.len)*ei.w<=arr.size:=by rw [<- hcw];exact Qp (Q6 _ hroom) hcap
    have hrun:=zIe (P:=P) (ty:=o.type) hu ht' hdd i1 n1 (b:=b) (n:=c.len) (cap:=cap) hone hroom
     (by
       intro j hj;rw [i2];have:c.len*ei.w+j<arr.size:=by omega
       simp [Qm,hheap,this])
     (by intro j hj;rw [i2];exact oC hheap hfree (by omega))
    rw [vC ho (hevx.trans htip) hrun];show K (a.put o.dst _) _;rw [hd];refine hk' _ _ ?_;rw [sN,i2,<- hcw];have hle:M.le (addM M b (c.len*c.width) ((c.len+p.src.len)*c.width) (λo=>news[o - c.len*c.width]?)):=addM_le λo h _=>hM o h;have hrep:Rep (addM M b (c.len*c.width) ((c.len+p.src.len)*c.width) (λo=>news[o - c.len*c.width]?)) rr (.slice (some ⟨b,0,none⟩) (c.len+p.src.len) cap):=by
     have:=uB (M':=addM M b (c.len*c.width) ((c.len+p.src.len)*c.width) (λo=>news[o - c.len*c.width]?)) (b:=b) (o:=0) (cap:=cap) hcells q2 hle ?_ (by omega)
     ·rwa [q6] at this
     intro j hj;rw [q6,q4] at hj;simp only [Qd];by_cases hjc:j<c.len*c.width
     ·rw [if_pos hjc];obtain ⟨u,hu⟩:=Qb.1 (hsome j hjc);rw [hle _ _ _ hu];simp [mget,hu]
     ·rw [if_neg hjc];simp only [addM];rw [if_pos ⟨trivial,by omega,hj⟩];exact n3 _ (by rw [hcw] at hj hjc ⊢;omega)
    refine ⟨_,_,_,h0.trans' hle,hpk,(hi.bufIn hbk htip hκ hbase hheap hfree hcap hml hM (by rw [hnl,hcw]) hroom q2 q4 (by omega) q7 (by omega) hrep).put (hws d (by simp [Qu])) ?_⟩;rw [q6];refine .buf k _ rr _ (zW _ _ _) q2 (by omega) ?_ (λ_=>(xF _ _ _).symm);rw [<- q6,nQ q2,q6];exact hrep
   ·have hol:((Wa (c.len*ei.w)).map λj=>mget M b j).length=c.len*info.size:=by simp [i2]
    have hrun:=zIb (P:=P) (ty:=o.type) hu ht' hdd i1 i4 n1 (b:=b) (n:=c.len) (cap:=cap) (olds:=(Wa (c.len*ei.w)).map λj=>mget M b j) hol
     (by
      intro j u hu;rw [List.getElem?_map] at hu;obtain ⟨j',h1,h2⟩:=Q3.1 hu;have hj:j<c.len*ei.w:=by have:=(List.getElem?_eq_some_iff.1 h1).1;simpa using this
      have hjj:j'=j:=by have:=(List.getElem?_eq_some_iff.1 h1).2;simpa using this.symm
      subst hjj;obtain ⟨zz,hz⟩:=Qb.1 (hsome j' (by rw [hcw];exact hj));rw [hi.mem _ _ _ hz,<- h2];simp [mget,hz])
     (by omega) (by rw [i3];exact hb) (by omega)
    rw [vC ho (hevx.trans htip) hrun];show K (a.put o.dst _) _;rw [hd];refine hk' _ _ ?_;rw [sN];have hge:=grownCap_ge w (c.len+p.src.len) cap e;have hml:grownCap w (c.len+p.src.len) cap e<=maxLen:=grownCap_le_maxLen w _ cap e (by simp only [maxLen];omega);generalize hA:(((Wa (c.len*ei.w)).map λj=>mget M b j).toArray++news.toArray++Q7 z.cells (grownCap w (c.len+p.src.len) cap e - (c.len+p.src.len)))=A;have hsize:A.size=grownCap w (c.len+p.src.len) cap e*ei.w:=by
     rw [<- hA];simp only [Qw,Qx,List.length_map,List.length_range,size_zeroCells,hzs,hnl,<- Qj];congr 1;omega
    have hfit:(c.len+p.src.len)*ei.w<=grownCap w (c.len+p.src.len) cap e*ei.w:=Q6 _ hge;have hget:∀ j,j<(c.len+p.src.len)*ei.w->A[j]? = some (if j<c.len*ei.w then mget M b j else g (j - c.len*ei.w)):=by
     intro j hj;rw [<- hA,Array.getElem?_append_left (by simp;omega)];by_cases hjc:j<c.len*ei.w
     ·rw [if_pos hjc,Array.getElem?_append_left (by simpa using hjc)];simp [hjc]
     ·rw [if_neg hjc,Array.getElem?_append_right (by simp;omega)];have:=n3 (j - c.len*ei.w) (by rw [hcw];omega);simpa using this
    have hle:M.le (addM M w.heap.size 0 ((c.len+p.src.len)*rr.width) (A[·]?)):=addM_le λo _ _=>hi.mlt (Q5 _);have hrep:Rep (addM M w.heap.size 0 ((c.len+p.src.len)*rr.width) (A[·]?)) rr (.slice (some ⟨w.heap.size,0,none⟩) (c.len+p.src.len) (grownCap w (c.len+p.src.len) cap e)):=by
     have:=uB (M':=addM M w.heap.size 0 ((c.len+p.src.len)*rr.width) (A[·]?)) (b:=w.heap.size) (o:=0) (cap:=grownCap w (c.len+p.src.len) cap e) hcells q2 hle ?_ (by omega)
     ·rwa [q6] at this
     intro j hj;rw [q6] at hj;simp only [addM,Qd];rw [if_pos ⟨trivial,Qs _,hj⟩];rw [hrw] at hj;rw [hget j hj,hcw]
    refine ⟨_,_,_,h0.trans' hle,zUm hi hpk hbk _,(hi.bufNew (nC w _ e) (.inr ⟨c,hbk,by omega,q7⟩) q2 (by omega) ?_ ?_ hml hrep).put (hws d (by simp [Qu])) ?_⟩
    ·rw [hsize,hrw];exact hfit
    ·rw [hsize,hrw];exact Q5 _
    ·rw [q6];refine .buf k _ rr _ (zW _ _ _) q2 (by omega) ?_ (λ_=>(xF _ _ _).symm);rw [<- q6,nQ q2,q6];exact hrep
 ·intro e he;rcases Qh.1 he with he | he
  ·subst he;exact hk
  ·exact uM vy p bs hp e he
end
mutual
def AV.ren (ρ:Nat->Nat):AV->AV
 | .p v=>.p v
 | .nl c=>.nl c
 | .ptr k o=>.ptr (ρ k) o
 | .ref k o n=>.ref (ρ k) o n
 | .buf k n=>.buf (ρ k) n
 | .ag l=>.ag (lX ρ l)
 | .tu l=>.tu (lX ρ l)
 | .fnv f l=>.fnv f (lX ρ l)
 | .own k n=>.own (ρ k) n
 | .optr k n o=>.optr (ρ k) n o
 | .osl k n o m=>.osl (ρ k) n o m
def lX (ρ:Nat->Nat):List AV->List AV
 | []=>[]
 | v :: r=>v.ren ρ :: lX ρ r
end
theorem pZ (ρ:Nat->Nat):∀ (l:List AV),(lX ρ l).length=l.length/\∀ (j:Nat),(lX ρ l)[j]? = (l[j]?).map (AV.ren ρ)
 | []=>⟨rfl,by simp [lX]⟩
 | v :: r=>by
  obtain ⟨h1,h2⟩:=pZ ρ r;refine ⟨by simp [lX,h1],λj=>?_⟩;cases j with
  | zero=>simp [lX]
  | succ j=>simp [lX,h2 j]
def ABlk.ren (ρ:Nat->Nat):ABlk->ABlk
 | .var l=>.var (lX ρ l)
 | .buf c=>.buf c
 | .own w l=>.own w (lX ρ l)
theorem RepA.ren {B':NB} (hk:∀ k b,κ k=some b->κ' (ρ k)=some b) (hb:∀ k b,B k=some b->B' (ρ k)=some (b.ren ρ)/\tip' (ρ k)=tip k) {x:Value}
  (hr:RepA M κ tip B v x):RepA M κ' tip' B' (v.ren ρ) x:=by
 induction hr with
 | p v x h1=>exact .p v x h1
 | nl c h1=>exact .nl c h1
 | ptr k o b l h1 h2=>exact .ptr _ o b _ (hk _ _ h1) (hb _ _ h2).1
 | ref k o n b l h1 h2=>exact .ref _ o n b _ (hk _ _ h1) (hb _ _ h2).1
 | buf k n c x h1 hs h2 h3 h4=>exact .buf _ n c x (hb _ _ h1).1 hs h2 h3 (λe=>by rw [h4 e,(hb _ _ h1).2])
 | ag l vs h1 _ ih=>
  obtain ⟨r1,r2⟩:=pZ ρ l;refine .ag _ vs (by omega) (λj q hq=>?_);rw [r2] at hq;obtain ⟨q',h3,h4⟩:=Q3.1 hq;subst h4;exact ih j q' h3
 | tu l vs h1 _ ih=>
  obtain ⟨r1,r2⟩:=pZ ρ l;refine .tu _ vs (by omega) (λj q hq=>?_);rw [r2] at hq;obtain ⟨q',h3,h4⟩:=Q3.1 hq;subst h4;exact ih j q' h3
 | fnv f l vs h1 _ ih=>
  obtain ⟨r1,r2⟩:=pZ ρ l;refine .fnv f _ vs (by omega) (λj q hq=>?_);rw [r2] at hq;obtain ⟨q',h3,h4⟩:=Q3.1 hq;subst h4;exact ih j q' h3
 | own k n w l x h1 h2 h3 hs=>
  obtain ⟨r1,r2⟩:=pZ ρ l;exact .own _ n w _ x (hb _ _ h1).1 (by omega) (λe=>by rw [h3 (by omega),(hb _ _ h1).2]) hs
 | optr k n o w l x h1 h2 h3 hs=>
  obtain ⟨r1,r2⟩:=pZ ρ l;exact .optr _ n o w _ x (hb _ _ h1).1 (by omega) (λe=>by
   obtain ⟨b,g1,g2⟩:=h3 (by omega);exact ⟨b,hk _ _ g1,g2⟩) hs
 | osl k n o m w l x h1 h2 h3 hs=>
  obtain ⟨r1,r2⟩:=pZ ρ l;exact .osl _ n o m w _ x (hb _ _ h1).1 (by omega) (λe=>by
   obtain ⟨b,c,g1,g2⟩:=h3 (by omega);exact ⟨b,c,hk _ _ g1,g2⟩) hs
def Callable (P:Program) (f:FuncId):Prop:=∃ fn,P.funcs[f]? = some fn/\fn.body.isNone=false/\(fn.name == "runtime.NumGoroutine")=false
def Ok (P:Program) (f:FuncId) (na:Nat) (as rs:AS):Prop:=Callable P f /\
 ∀ (w:World) (M:Mem) (pk:PKs) (args:Array Value) (κ:Nat->Option Nat) (tip:Nat->Value),Inv ⟨w,M,pk,na,[]⟩ M κ tip as ⟨args,[]⟩ w->(∀ k∈pk,κ k.1=some k.2/\k.2<w.heap.size) ->
  Calls P f args w λe w'=>∃ v,e=.returned v/\SRel ⟨w,M,pk,1,[]⟩ rs ⟨#[v],[]⟩ w'
def argE (i:Nat):List PV->LV
 | []=>[]
 | p :: r=>(i,.p p) :: argE (i+1) r
theorem zIm:∀ (l:List PV) (i t:Nat) (v:AV),lk (argE i l) t=some v->∃ p,v=.p p/\i<=t/\l[t - i]? = some p
 | [],i,t,v,h=>by simp [argE,lk] at h
 | p :: r,i,t,v,h=>by
  simp only [argE,lk] at h;cases hb:Q2 t i with
  | true=>
   have:=Q0 hb;subst this;simp at h;exact ⟨p,h.symm,Q5 _,by simp⟩
  | false=>
   simp [hb] at h;obtain ⟨q,h1,h2,h3⟩:=zIm r (i+1) t v h;refine ⟨q,h1,by omega,?_⟩;have:t - i=(t - (i+1))+1:=by omega
   rw [this];simpa using h3
section
inductive mP (s:AS) (te:TE):List Operand->List TypeId->List PV->LV->LB->Prop where
 | nil:mP s te [] [] [] [] []
 | cons (x:Operand) (t:TypeId) (v:AV) (p:PV) (bs:LB) (xs:List Operand) (ts:List TypeId) (ps:List PV) (rs:LV) (bb:LB) :
   s.get te t x=some v->s.rd v=some (p,bs)->mP s te xs ts ps rs bb->mP s te (x :: xs) (t :: ts) (p :: ps) (opS x v++rs) (bs++bb)
theorem mP.reads {xs:List Operand} {ts:List TypeId} (h:mP s te xs ts ps rs bb):wN s rs/\∀ e∈bb,s.blk e.1=some e.2:=by
 induction h with
 | nil=>exact ⟨by intro e he;simp at he,by simp⟩
 | cons x t v p bs xs ts ps rs bb h1 h2 _ ih=>exact ⟨yM (zM h1) ih.1,λe he=>(Qq.1 he).elim (uM v p bs h2 e) (ih.2 e)⟩
theorem mP.rep {xs:List Operand} {ts:List TypeId} (h:mP s te xs ts ps rs bb) (hi:Inv cx M κ tip s' a w) :
  wN s' rs->(∀ e∈bb,s'.blk e.1=some e.2)->xs.length=ps.length/\∀ (j:Nat) (p:PV),ps[j]? = some p->Rep M p (((xs.map a.eval)[j]?).getD undef):=by
 induction h with
 | nil=>intro _ _;exact ⟨rfl,by simp⟩
 | cons x t v p bs xs ts ps rs bb h1 h2 _ ih=>
  intro hr hb;obtain ⟨e1,e2⟩:=ih (zZ hr) (λe he=>hb e (Qq.2 (.inr he)));refine ⟨by simp [e1],λj q hq=>?_⟩;cases j with
  | zero=>simp at hq;subst hq;simpa using kE hi h1 h2 (yI hr) (λe he=>hb e (Qq.2 (.inl he)))
  | succ j=>simpa using e2 j q (by simpa using hq)
def inS (s:AS) (ρ:Nat->Nat) (blks:LB):AS:={ s with blk:=λk=>(lk (blks.map λe=>(ρ e.1,e.2.ren ρ)) k).or (s.blk k) }
theorem zSu (ρ:Nat->Nat):∀ (blks:LB),(∀ e∈blks,∀ e'∈blks,ρ e.1=ρ e'.1->e.1=e'.1)->∀ (k:Nat) (b:ABlk),lk blks k=some b->lk (blks.map λe=>(ρ e.1,e.2.ren ρ)) (ρ k)=some (b.ren ρ)
 | [],_,k,b,h=>by simp [lk] at h
 | (j,c) :: rest,hinj,k,b,h=>by
  simp only [lk] at h;simp only [Qf,lk];cases hb:Q2 k j with
  | true=>
   have:=Q0 hb;subst this;simp [hb] at h;subst h;simp
  | false=>
   simp [hb] at h;have hmem:=tR rest k b h;have hne:ρ k≠ρ j:=λe=>by
    have:=hinj (k,b) (List.mem_cons_of_mem _ hmem) (j,c) (by simp) e;simp only at this;subst this;simp at hb
   have:Q2 (ρ k) (ρ j)=false:=by rw [Q8];intro e;exact hne (Q0 e)
   simp only [this,cond_false];exact zSu ρ rest (λe he e' he'=>hinj e (by simp [he]) e' (by simp [he'])) k b h
theorem zGi (ρ:Nat->Nat):∀ (blks:LB) (i:Nat) (b:ABlk),lk (blks.map λe=>(ρ e.1,e.2.ren ρ)) i=some b->∃ k∈blks.map (·.1),i=ρ k
 | [],i,b,h=>by simp [lk] at h
 | (j,c) :: rest,i,b,h=>by
  simp only [Qf,lk] at h;cases hb:Q2 i (ρ j) with
  | true=>exact ⟨j,by simp,Q0 hb⟩
  | false=>
   simp [hb] at h;obtain ⟨k,h1,h2⟩:=zGi ρ rest i b (by simpa using h);exact ⟨k,by simp at h1 ⊢;exact .inr h1,h2⟩
def fk (ρ:Nat->Nat) (D:List Nat) (i:Nat):Option Nat:=D.find? λj=>Q2 i (ρ j)
theorem zDq (hinj:∀ j∈D,∀ j'∈D,ρ j=ρ j'->j=j') (hj:j∈D):fk ρ D (ρ j)=some j:=by
 unfold fk;cases h:D.find? (λj'=>Q2 (ρ j) (ρ j')) with
 | none=>
  have:=List.find?_eq_none.1 h j hj;simp at this
 | some j'=>
  have h1:=List.find?_some h;have h2:=List.mem_of_find?_eq_some h;have:=hinj j hj j' h2 (Q0 h1);rw [this]
theorem qR {i:Nat} (h:fk ρ D i=some j):j∈D/\i=ρ j:=
 ⟨List.mem_of_find?_eq_some h,Q0 (by have:=List.find?_some (p:=λj=>Q2 i (ρ j)) h;exact this)⟩
theorem Inv.import (hi:Inv cx M κ tip s a w) {a':Act} (hM:M.le M')
  (hr:Inv ⟨w,M,pk,n,[]⟩ M' κ' tip' (mkS env blks) a' w') (ρ:Nat->Nat) (hinj:∀ j∈blks.map (·.1),∀ j'∈blks.map (·.1),ρ j=ρ j'->j=j')
  (hpk:∀ e∈pk,κ' e.1=some e.2/\κ (ρ e.1)=some e.2/\(∃ l,s.blk (ρ e.1)=some (.var l))/\∃ l',lk blks e.1=some (.var l'))
  (hfr:∀ j∈blks.map (·.1),(∃ b,(j,b)∈pk)∨s.blk (ρ j)=none) (hob:∀ b∈pk.ob,((∀ i,κ i≠some b)/\(cx.w0.heap.size<=b∨b∈cx.ob))/\∀ j∈blks.map (·.1),BIG<=j->BIG<=ρ j) :
  Inv cx M' (λi=>match fk ρ (blks.map (·.1)) i with | some j=>κ' j | none=>κ i) (λi=>match fk ρ (blks.map (·.1)) i with | some j=>tip' j | none=>tip i) (inS s ρ blks) a w' /\
  ∀ v x,RepA M' κ' tip' (mkS env blks).blk v x->RepA M' (λi=>match fk ρ (blks.map (·.1)) i with | some j=>κ' j | none=>κ i) (λi=>match fk ρ (blks.map (·.1)) i with | some j=>tip' j | none=>tip i) (inS s ρ blks).blk (v.ren ρ) x:=by
 generalize hκ2:(λi=>match fk ρ (blks.map (·.1)) i with | some j=>κ' j | none=>κ i)=κ2;generalize ht2:(λi=>match fk ρ (blks.map (·.1)) i with | some j=>tip' j | none=>tip i)=tip2;have kin:∀ j∈blks.map (·.1),κ2 (ρ j)=κ' j:=λj hj=>by rw [<- hκ2];simp only [zDq hinj hj]
 have tin:∀ j∈blks.map (·.1),tip2 (ρ j)=tip' j:=λj hj=>by rw [<- ht2];simp only [zDq hinj hj]
 have kout:∀ i,fk ρ (blks.map (·.1)) i=none->κ2 i=κ i/\tip2 i=tip i:=λi h=>by rw [<- hκ2,<- ht2];simp only [h,and_self]
 have bin:∀ j b,lk blks j=some b->(inS s ρ blks).blk (ρ j)=some (b.ren ρ):=λj b h=>by
  simp only [inS];rw [zSu ρ blks (λe he e' he' h=>hinj _ (Q4.2 ⟨e,he,rfl⟩) _ (Q4.2 ⟨e',he',rfl⟩) h) j b h];rfl
 have bout:∀ i,fk ρ (blks.map (·.1)) i=none->(inS s ρ blks).blk i=s.blk i:=λi h=>by
  simp only [inS];cases hl:lk (blks.map λe=>(ρ e.1,e.2.ren ρ)) i with
  | none=>rfl
  | some b=>
   obtain ⟨k,h1,h2⟩:=zGi ρ blks i b hl;subst h2;rw [zDq hinj h1] at h;cases h
 have lkin:∀ j∈blks.map (·.1),∃ b,lk blks j=some b:=by
  intro j hj;clear hr hinj hpk hfr hob kin tin kout bin bout hκ2 ht2;induction blks with
  | nil=>simp at hj
  | cons e rest ih=>
   obtain ⟨k,b⟩:=e;simp only [lk];cases hb:Q2 j k with
   | true=>exact ⟨b,by simp⟩
   | false=>
    simp only [cond_false];refine ih ?_;simp only [Qf,Qh] at hj;rcases hj with h | h
    ·subst h;simp at hb
    ·exact h
 have lkmem:∀ j b,lk blks j=some b->j∈blks.map (·.1):=λj b h=>Q4.2 ⟨(j,b),tR blks j b h,rfl⟩;have param:∀ j∈blks.map (·.1),s.blk (ρ j)≠none->∃ b,(j,b)∈pk:=λj hj h=>(hfr j hj).resolve_right h;have gle:GLe κ κ2 tip tip2 s.blk (inS s ρ blks).blk:={
  var:=λi b l h h'=>by
   cases hf:fk ρ (blks.map (·.1)) i with
   | none=>rw [(kout i hf).1,bout i hf];exact ⟨h,l,h'⟩
   | some j=>
    obtain ⟨hj,rfl⟩:=qR hf;obtain ⟨b',hb'⟩:=param j hj (by rw [h'];simp);obtain ⟨p1,p2,_,l',p4⟩:=hpk (j,b') hb';simp only at p1 p2 p4;rw [kin j hj];rw [p2] at h;cases h;exact ⟨p1,_,bin j _ p4⟩
  buf:=λi c h=>by
   cases hf:fk ρ (blks.map (·.1)) i with
   | none=>exact W0 (by rw [bout i hf];exact h) (kout i hf).2
   | some j=>
    obtain ⟨hj,rfl⟩:=qR hf;obtain ⟨b',hb'⟩:=param j hj (by rw [h];simp);obtain ⟨_,_,⟨l,p3⟩,_⟩:=hpk (j,b') hb';simp only at p3;rw [h] at p3;cases p3
  own:=λi c l1 h=>by
   cases hf:fk ρ (blks.map (·.1)) i with
   | none=>exact Qt (by rw [bout i hf];exact h) (kout i hf).1 (kout i hf).2
   | some j=>
    obtain ⟨hj,rfl⟩:=qR hf;obtain ⟨b',hb'⟩:=param j hj (by rw [h];simp);obtain ⟨_,_,⟨l,p3⟩,_⟩:=hpk (j,b') hb';simp only at p3;rw [h] at p3;cases p3 }
 have hold:∀ {v:AV} {x:Value},RepA M κ tip s.blk v x->RepA M' κ2 tip2 (inS s ρ blks).blk v x:=λh=>(h.mono hM).ghost gle;have hnew:∀ {v:AV} {x:Value},RepA M' κ' tip' (mkS env blks).blk v x->RepA M' κ2 tip2 (inS s ρ blks).blk (v.ren ρ) x:=λh=>
  h.ren (λk b hk=>by
   have:k∈blks.map (·.1):=by
    cases hb:lk blks k with
    | none=>rw [hr.dom k hb] at hk;cases hk
    | some b'=>exact lkmem k b' hb
   rw [kin k this];exact hk) (λk b hb=>⟨bin k b hb,tin k (lkmem k b hb)⟩)
 have hsz:w.heap.size<=w'.heap.size:=hr.fr.size;have hbase:cx.w0.heap.size<=w.heap.size:=hi.fr.size;have notp:∀ i b,κ i=some b->fk ρ (blks.map (·.1)) i=none->b∉Ctx.pb ⟨w,M,pk,n,[]⟩:=by
  intro i b h1 h2 h3;simp only [Ctx.pb,Q4] at h3;obtain ⟨e,he,rfl⟩:=h3;obtain ⟨_,p2,_,l',p4⟩:=hpk e he;have:=hi.inj i (ρ e.1) e.2 h1 p2;subst this;rw [zDq hinj (lkmem _ _ p4)] at h2;cases h2
 have noto:∀ i b,κ i=some b->b∉pk.ob:=λi b h1 h2=>(hob b h2).1.1 i h1;have newb:∀ j b,κ' j=some b->(∃ b,(j,b)∈pk)∨w.heap.size<=b∨b∈pk.ob/\∃ wd l,lk blks j=some (.own wd l):=by
  intro j b h;cases hb:lk blks j with
  | none=>rw [hr.dom j hb] at h;cases h
  | some bl=>
   cases bl with
   | var l=>
    obtain ⟨b',arr,e,fz,q1,q2,q3,q4,q5,q6,q7⟩:=hr.vars j l hb;rw [h] at q1;cases q1;rcases q7 with q7 | q7
    ·exact .inr (.inl q7)
    ·simp only [Ctx.pb,Q4] at q7;obtain ⟨e,he,he2⟩:=q7;have:=hr.inj j e.1 b h (by rw [(hpk e he).1,he2]);exact .inl ⟨e.2,by rw [this];exact he⟩
   | buf c=>
    obtain ⟨_,_,_,q4⟩:=hr.bufs j c hb;rcases q4 with ⟨_,q5⟩ | ⟨b',n',cap,arr,e,fz,_,q5,q6,_⟩
    ·rw [h] at q5;cases q5
    ·rw [h] at q5;cases q5;exact .inr (.inl q6)
   | own wd l=>
    rcases hr.owns j wd l hb with ⟨_,q5,_⟩ | ⟨_,⟨_,q5,_⟩ | ⟨b',n',cap,arr,e,fz,_,q5,q6,_⟩⟩
    ·rw [h] at q5;cases q5
    ·rw [h] at q5;cases q5
    ·rw [h] at q5;cases q5;exact .inr (q6.imp id λh=>⟨h.1,wd,l,rfl⟩)
 refine ⟨{
  defers:=hi.defers
  size:=hi.size
  fr:=⟨hr.fr.os.trans hi.fr.os,hr.fr.tape.trans hi.fr.tape,hr.fr.output.trans hi.fr.output,by omega,λb h1 h2 h2'=>by
   rw [hr.fr.block b (by simp only;omega) ?_ (λh=>(hob b h).1.2.elim (λh=>by omega) h2')]
   ·exact hi.fr.block b h1 h2 h2'
   ·intro h3;simp only [Ctx.pb,Q4] at h3;obtain ⟨e,he,rfl⟩:=h3;obtain ⟨_,p2,⟨l,p3⟩,_⟩:=hpk e he;obtain ⟨b',arr,e',fz,q1,_,_,_,_,_,q7⟩:=hi.vars _ l p3;rw [p2] at q1;cases q1;rcases q7 with q7 | q7
    ·omega
    ·exact h2 q7⟩
  mem:=hr.mem
  env:=λt v h=>let ⟨x,h1,h2⟩:=hi.env t v h;⟨x,h1,hold h2⟩
  vars:=λi l h=>by
   cases hf:fk ρ (blks.map (·.1)) i with
   | none=>
    rw [bout i hf] at h;obtain ⟨b,arr,e,fz,q1,q2,q3,q4,q5,q6,q7⟩:=hi.vars i l h;have hlt:=hi.lt q1;refine ⟨b,arr,e,fz,by rw [(kout i hf).1];exact q1,?_,q3,q4,λj q hq=>hold (q5 j q hq),λo=>?_,q7⟩
    ·rw [hr.fr.block b hlt (notp i b q1 hf) (noto i b q1)];exact q2
    ·have:=hr.old.1 b o hlt;simp only at this;rw [this];exact q6 o
   | some j=>
    obtain ⟨hj,rfl⟩:=qR hf;obtain ⟨bl,hbl⟩:=lkin j hj;rw [bin j bl hbl] at h;cases bl with
    | buf c=>cases h
    | own wd l0=>cases h
    | var l0=>
     cases h;obtain ⟨b,arr,e,fz,q1,q2,q3,q4,q5,q6,q7⟩:=hr.vars j l0 hbl;obtain ⟨r1,r2⟩:=pZ ρ l0;refine ⟨b,arr,e,fz,by rw [kin j hj];exact q1,q2,q3,by omega,λjj q hq=>?_,q6,?_⟩
     ·rw [r2] at hq;obtain ⟨q',h3,h4⟩:=Q3.1 hq;subst h4;exact hnew (q5 jj q' h3)
     ·rcases newb j b q1 with ⟨b',hp⟩ | hge
      ·obtain ⟨p1,p2,⟨l,p3⟩,_⟩:=hpk (j,b') hp;simp only at p1 p2 p3;rw [q1] at p1;cases p1;obtain ⟨b2,_,_,_,q1',_,_,_,_,_,q7'⟩:=hi.vars _ l p3;rw [p2] at q1';cases q1';exact q7'
      ·rcases hge with hge | ⟨_,wd,l9,hge⟩
       ·exact .inl (by omega)
       ·rw [hbl] at hge;cases hge
  bufs:=λi c h=>by
   cases hf:fk ρ (blks.map (·.1)) i with
   | none=>
    rw [bout i hf] at h;obtain ⟨q1,q2,q3,q4⟩:=hi.bufs i c h;rw [(kout i hf).1,(kout i hf).2];refine ⟨q1.mono hM,q2,q3,?_⟩;rcases q4 with q4 | ⟨b,n',cap,arr,e,fz,z1,z2,z3,z4,z5,z6,z7,z8⟩
    ·exact .inl q4
    ·have hlt:=hi.lt z2;refine .inr ⟨b,n',cap,arr,e,fz,z1,z2,z3,?_,z5,z6,z7,λj hj=>?_⟩
     ·rw [hr.fr.block b hlt (notp i b z2 hf) (noto i b z2)];exact z4
     ·have:=hr.old.1 b j hlt;simp only at this;rw [this];exact z8 j hj
   | some j=>
    obtain ⟨hj,rfl⟩:=qR hf;obtain ⟨bl,hbl⟩:=lkin j hj;rw [bin j bl hbl] at h;cases bl with
    | var l0=>cases h
    | own wd l0=>cases h
    | buf c0=>
     have hcc:c0=c:=by simpa [ABlk.ren] using h
     subst hcc;obtain ⟨q1,q2,q3,q4⟩:=hr.bufs j c0 hbl;rw [kin j hj,tin j hj];refine ⟨q1,q2,q3,?_⟩;rcases q4 with q4 | ⟨b,n',cap,arr,e,fz,z1,z2,z3,z4⟩
     ·exact .inl q4
     ·exact .inr ⟨b,n',cap,arr,e,fz,z1,z2,by simp only at z3;omega,z4⟩
  inj:=λi i' b h1 h2=>by
   cases hf:fk ρ (blks.map (·.1)) i with
   | none=>
    rw [(kout i hf).1] at h1;cases hf':fk ρ (blks.map (·.1)) i' with
    | none=>rw [(kout i' hf').1] at h2;exact hi.inj i i' b h1 h2
    | some j'=>
     obtain ⟨hj',rfl⟩:=qR hf';rw [kin j' hj'] at h2;rcases newb j' b h2 with ⟨b',hp⟩ | hge
     ·exact (notp i b h1 hf (by
       simp only [Ctx.pb,Q4];obtain ⟨p1,_⟩:=hpk (j',b') hp;simp only at p1;rw [h2] at p1;cases p1;exact ⟨(j',b),hp,rfl⟩)).elim
     ·rcases hge with hge | hge
      ·have:=hi.lt h1;omega
      ·exact (noto i b h1 hge.1).elim
   | some j=>
    obtain ⟨hj,rfl⟩:=qR hf;rw [kin j hj] at h1;cases hf':fk ρ (blks.map (·.1)) i' with
    | none=>
     rw [(kout i' hf').1] at h2;rcases newb j b h1 with ⟨b',hp⟩ | hge
     ·exact (notp i' b h2 hf' (by
       simp only [Ctx.pb,Q4];obtain ⟨p1,_⟩:=hpk (j,b') hp;simp only at p1;rw [h1] at p1;cases p1;exact ⟨(j,b),hp,rfl⟩)).elim
     ·rcases hge with hge | hge
      ·have:=hi.lt h2;omega
      ·exact (noto i' b h2 hge.1).elim
    | some j'=>
     obtain ⟨hj',rfl⟩:=qR hf';rw [kin j' hj'] at h2;rw [hr.inj j j' b h1 h2]
  dom:=λi h=>by
   cases hf:fk ρ (blks.map (·.1)) i with
   | none=>rw [bout i hf] at h;rw [(kout i hf).1];exact hi.dom i h
   | some j=>
    obtain ⟨hj,rfl⟩:=qR hf;obtain ⟨bl,hbl⟩:=lkin j hj;rw [bin j bl hbl] at h;cases h
  glob:=hi.glob.mono hM
  old:=⟨λb o hb=>by
   have:=hr.old.1 b o (by simp only;omega);simp only at this;rw [this];exact hi.old.1 b o hb,hi.old.2⟩
  owns:=λi wd l h=>by
   cases hf:fk ρ (blks.map (·.1)) i with
   | none=>
    rw [bout i hf] at h;rw [(kout i hf).1,(kout i hf).2];rcases hi.owns i wd l h with g0 | ⟨g1,g2⟩
    ·exact .inl g0
    refine .inr ⟨g1,?_⟩;rcases g2 with g2 | ⟨b,n',cap,arr,e,fz,z1,z2,z3,z4,z5,z6,z7,z8,z9,z10,z11⟩
    ·exact .inl g2
    ·have hlt:=hi.lt z2;refine .inr ⟨b,n',cap,arr,e,fz,z1,z2,z3,?_,z5,z6,z7,z8,z9,λj q hq=>hold (z10 j q hq),λo=>?_⟩
     ·rw [hr.fr.block b hlt (notp i b z2 hf) (noto i b z2)];exact z4
     ·have:=hr.old.1 b o hlt;simp only at this;rw [this];exact z11 o
   | some j=>
    obtain ⟨hj,rfl⟩:=qR hf;obtain ⟨bl,hbl⟩:=lkin j hj;rw [bin j bl hbl] at h;cases bl with
    | var l0=>cases h
    | buf c0=>cases h
    | own wd0 l0=>
     cases h;obtain ⟨r1,r2⟩:=pZ ρ l0;rw [kin j hj,tin j hj];rcases hr.owns j wd l0 hbl with ⟨g1,g2,rfl⟩ | ⟨g1,g2⟩
     ·exact .inl ⟨g1,g2,rfl⟩
     refine .inr ⟨g1,?_⟩;rcases g2 with ⟨y1,y2,rfl⟩ | ⟨b,n',cap,arr,e,fz,z1,z2,z3,z4,z5,z6,z7,z8,z9,z10,z11⟩
     ·exact .inl ⟨y1,y2,rfl⟩
     ·refine .inr ⟨b,n',cap,arr,e,fz,z1,z2,z3.elim (λh=>.inl (Qp hbase h)) (λh=>(hob b h.1).1.2.imp id λh'=>⟨h',(hob b h.1).2 j hj h.2⟩),z4,z5,by omega,z7,z8,z9,λjj q hq=>?_,z11⟩;rw [r2] at hq;obtain ⟨q',h3,h4⟩:=Q3.1 hq;subst h4;exact hnew (z10 jj q' h3) },λv x h=>hnew h⟩
end
def sh (d j:Nat):Nat:=j+1000*(d+1)
theorem zSt (d:Nat) (h:sh d j=sh d j'):j=j':=by unfold sh at h;omega
section
theorem zN1 (ho:o.op=.call { callee:=.value (.func f),args:=xs,argTypes:=ts }) (hc:Callable P f) :
  (execOp a.eval o).run P w=.ok (.enter f (xs.map a.eval)) w:=by
 obtain ⟨fn,h1,h2,h3⟩:=hc;have h2':fn.body≠none:=by intro e;simp [e] at h2
 have h3':fn.name ≠ "runtime.NumGoroutine":=by intro e;simp [e] at h3
 simp [execOp,ho,resolve,Act.eval,Deferred.ofValue,invoke,callFunc,h1,h2',h3']
theorem zRa (hg:GlobOk w M) (hm:∀ b o x,M b o=some x->w.cell? ⟨b,o,none⟩=some x) (hs:args.size=ps.length) (hr:∀ (j:Nat) (p:PV),ps[j]? = some p->Rep M p (args.getD j undef)) :
  Inv ⟨w,M,zU8,ps.length,[]⟩ M (λ_=>none) (λ_=>undef) (mkS (argE 0 ps) []) ⟨args,[]⟩ w where
 defers:=rfl
 size:=hs
 fr:=⟨rfl,rfl,rfl,Q5 _,λ_ _ _ _=>rfl⟩
 mem:=hm
 env:=λt v h=>by
  obtain ⟨p,rfl,_,h3⟩:=zIm ps 0 t v h;simp only [We] at h3;have hlt:t<ps.length:=(List.getElem?_eq_some_iff.1 h3).1;have hlt':t<args.size:=by omega
  refine ⟨args[t],by simp [hlt'],.p _ _ ?_⟩;have:=hr t p h3;simpa [hlt'] using this
 vars:=λk l h=>by simp [mkS,lk] at h
 bufs:=λk c h=>by simp [mkS,lk] at h
 inj:=λk k' b h=>by simp at h
 dom:=λ_ _=>rfl
 old:=⟨λ_ _ _=>rfl,λ_ h=>by cases h⟩
 glob:=hg
 owns:=λk wd l h=>by simp [mkS,lk] at h
theorem zHy:Qy ⟨rs,bb,fr,some (d,some v),blks.map λe=>(ρ e.1,e.2.ren ρ)⟩ s=(inS s ρ blks).put d v:=rfl
theorem zYq (hd:o.dst=some d) (ho:o.op=.call { callee:=.value (.func f),args:=xs,argTypes:=ts })
  (hok:Ok P f na (mkS (argE 0 ps) []) (mkS [(0,av)] blks)) (hxl:xs.toList=xl) (htl:ts.toList=tl) (ha:mP s te xl tl ps rs bb) (hn:na=ps.length) (hf:∀ k∈(blks.map λe=>sh d e.1),s.blk k=none) :
  SA P o s ⟨rs,bb,blks.map λe=>sh d e.1,some (d,some (av.ren (sh d))),blks.map λe=>(sh d e.1,e.2.ren (sh d))⟩:=by
 refine ⟨?_,ha.reads.1,ha.reads.2,hf⟩;intro cx s' a w K Q hm hs hws hk;obtain ⟨M,κ,tip,h0,hp,hi⟩:=hs;obtain ⟨hl,hrep⟩:=ha.rep hi hm.1 hm.2.1;have hsz:(xs.map a.eval).size=ps.length:=by rw [<- hl,<- hxl];simp
 have hinv:=zRa (w:=w) (hi.globw hp) hi.mem hsz (λj p hj=>by
  have:=hrep j p hj;rw [<- hxl] at this;rw [Q1];simpa using this)
 subst hn;unfold Oper.wp;rw [zN1 ho hok.1];show Calls P f _ w _;refine (hok.2 w M zU8 _ _ _ hinv (by simp)).mono ?_;rintro e w' ⟨v,rfl,M',κ',tip',h0',hp',hr⟩;show K (a.put o.dst v) w';rw [hd];refine hk _ _ ?_;rw [zHy];obtain ⟨i1,i2⟩:=hi.import h0' hr (sh d) (λj _ j' _ h=>zSt d h) (by simp) (hob:=by simp) (λj hj=>.inr (by
  refine hm.2.2 (sh d j) ?_;obtain ⟨e,he,rfl⟩:=Q4.1 hj;exact Q4.2 ⟨e,he,rfl⟩))
 obtain ⟨x,hx,hrx⟩:=hr.env 0 av (by simp [mkS,lk]);simp at hx;subst hx;refine ⟨M',_,_,h0.trans' h0',?_,i1.put (hws d (by simp [Qu])) (i2 av v hrx)⟩;intro k hk';obtain ⟨h1,h2⟩:=hp k hk';refine ⟨?_,h2⟩;have:fk (sh d) (blks.map (·.1)) k.1=none:=by
  cases hfk:fk (sh d) (blks.map (·.1)) k.1 with
  | none=>rfl
  | some j=>
   obtain ⟨hj,he⟩:=qR hfk;have:=hm.2.2 (sh d j) (by obtain ⟨e,he',rfl⟩:=Q4.1 hj;exact Q4.2 ⟨e,he',rfl⟩);rw [he,hi.dom _ this] at h1;cases h1
 simp only [this];exact h1
def shp (d k j:Nat):Nat:=bif Q2 j 0 then k else sh d j
theorem zUo (d k:Nat) (hD:∀ j∈D,j≠0->sh d j≠k) (hj:j∈D) (hj':j'∈D) (h:shp d k j=shp d k j'):j=j':=by
 have h0:∀ j:Nat,j≠0->Q2 j 0=false:=λj h=>by rw [Q8];intro e;exact h (Q0 e)
 unfold shp at h;by_cases a:j=0
 ·by_cases b:j'=0
  ·omega
  ·subst a;rw [h0 j' b] at h;simp at h;exact (hD j' hj' b h.symm).elim
 ·by_cases b:j'=0
  ·subst b;rw [h0 j a] at h;simp at h;exact (hD j hj a h).elim
  ·rw [h0 j a,h0 j' b] at h;exact zSt d h
theorem zAt {cs:List PV} (h:s.rdL l=some (cs,bs)) (hr:∀ (j:Nat) (q:AV),l[j]? = some q->RepA M κ tip s.blk q (arr.getD j undef)) :
  cs.length=l.length/\∀ (j:Nat) (q:PV),cs[j]? = some q->Rep M q (arr.getD j undef):=by
 obtain ⟨e1,e2⟩:=zMo l cs bs h;refine ⟨e1,λj q hq=>?_⟩;obtain ⟨v,b,h3,h4⟩:=e2 j q hq;exact zKl (hr j v h3) h4
theorem zPk (hg:GlobOk w M) (hm:∀ b o x,M b o=some x->w.cell? ⟨b,o,none⟩=some x) {cs:List PV} (hs:args.size=ps.length+1) (h0:args[0]? = some (.pointer (some ⟨b,0,none⟩)))
  (hr:∀ (j:Nat) (p:PV),ps[j]? = some p->Rep M p (args.getD (j+1) undef)) (hheap:w.heap[b]? = some (.cells arr e fz)) (hfree:zGs fz arr.size) (hsz:arr.size=cs.length) (hcs:∀ (j:Nat) (q:PV),cs[j]? = some q->Rep M q (arr.getD j undef)) (hM:∀ o,M b o=none) :
  Inv ⟨w,M,⟨[(0,b)],[],by simp [BIG]⟩,ps.length+1,[]⟩ M (λk=>bif Q2 k 0 then some b else none) (λ_=>undef) (mkS ((0,.ptr 0 0) :: argE 1 ps) [(0,.var (cs.map .p))]) ⟨args,[]⟩ w where
 defers:=rfl
 size:=hs
 fr:=⟨rfl,rfl,rfl,Q5 _,λ_ _ _ _=>rfl⟩
 mem:=hm
 env:=λt v h=>by
  simp only [mkS,lk] at h;cases hb:Q2 t 0 with
  | true=>
   have:=Q0 hb;subst this;simp at h;subst h;exact ⟨_,h0,.ptr 0 0 b (cs.map .p) (by simp) (by simp [mkS,lk])⟩
  | false=>
   simp [hb] at h;obtain ⟨p,rfl,h2,h3⟩:=zIm ps 1 t v h;have hlt:t - 1<ps.length:=(List.getElem?_eq_some_iff.1 h3).1;have hlt':t<args.size:=by omega
   refine ⟨args[t],by simp [hlt'],.p _ _ ?_⟩;have:=hr (t - 1) p h3;rw [show t - 1+1=t by omega] at this;simpa [hlt'] using this
 vars:=λk l h=>by
  simp only [mkS,lk] at h;cases hb:Q2 k 0 with
  | true=>
   have:=Q0 hb;subst this;simp at h;subst h;refine ⟨b,arr,e,fz,by simp,hheap,hfree,by simp [hsz],λj q hq=>?_,hM,.inr (by simp [Ctx.pb])⟩;rw [List.getElem?_map] at hq;obtain ⟨p,h1,h2⟩:=Q3.1 hq;subst h2;exact .p _ _ (hcs j p h1)
  | false=>simp [hb] at h
 bufs:=λk c h=>by
  simp only [mkS,lk] at h;cases hb:Q2 k 0 with
  | true=>simp [hb] at h
  | false=>simp [hb] at h
 inj:=λk k' b' h1 h2=>by
  cases hb:Q2 k 0 with
  | true=>
   cases hb':Q2 k' 0 with
   | true=>rw [Q0 hb,Q0 hb']
   | false=>simp [hb'] at h2
  | false=>simp [hb] at h1
 dom:=λk h=>by
  simp only [mkS,lk] at h;cases hb:Q2 k 0 with
  | true=>simp [hb] at h
  | false=>simp
 old:=⟨λ_ _ _=>rfl,λ_ h=>by cases h⟩
 glob:=hg
 owns:=λk wd l h=>by
  simp only [mkS,lk] at h;cases hb:Q2 k 0 with
  | true=>simp [hb] at h
  | false=>simp [hb] at h
theorem zXa {xa:Operand} {cs:List PV} {bs0:LB} (hd:o.dst=some d)
  (ho:o.op=.call { callee:=.value (.func f),args:=xs,argTypes:=ts }) (hok:Ok P f na (mkS ((0,.ptr 0 0) :: argE 1 ps) [(0,.var (cs.map .p))]) (mkS [(0,av)] ((0,.var l') :: blks))) (hxl:xs.toList=xa :: xl) (htl:ts.toList=ta :: tl) (hxa:s.get te ta xa=some (.ptr k 0)) (hbk:s.blk k=some (.var l)) (hcs:s.rdL l=some (cs,bs0))
  (ha:mP s te xl tl ps rs bb) (hn:na=ps.length+1) (hf:∀ j∈(blks.map λe=>sh d e.1),s.blk j=none) (hne:∀ e∈blks,e.1≠0) :
  SA P o s ⟨opS xa (.ptr k 0)++rs,(k,.var l) :: (bs0++bb),blks.map λe=>sh d e.1,some (d,some (av.ren (shp d k))),((0,.var l') :: blks).map λe=>(shp d k e.1,e.2.ren (shp d k))⟩:=by
 refine ⟨?_,yM (zM hxa) ha.reads.1,?_,hf⟩
 ·intro cx s' a w K Q hm hs hws hk;obtain ⟨M,κ,tip,h0,hp,hi⟩:=hs;have hb':∀ e∈bb,s'.blk e.1=some e.2:=λe he=>hm.2.1 e (by simp [he]);have hbs':∀ e∈bs0,s'.blk e.1=some e.2:=λe he=>hm.2.1 e (by simp [he]);have hbk':s'.blk k=some (.var l):=hm.2.1 (k,.var l) (by simp);obtain ⟨hl,hrep⟩:=ha.rep hi (zZ hm.1) hb';have hxa':=yF hi (yN hxa s' (yI hm.1));obtain ⟨b,arr,e,fz,q1,q2,q3,q4,q5,q6,q7⟩:=hi.vars k l hbk';have hev:a.eval xa=.pointer (some ⟨b,0,none⟩):=by
   generalize a.eval xa=z at hxa';cases hxa' with
   | ptr _ _ b' _ g1 g2=>rw [q1] at g1;cases g1;rfl
  obtain ⟨c1,c2⟩:=zAt (zCj l cs bs0 hcs hbs') q5;have hmap:(xs.map a.eval).toList=a.eval xa :: xl.map a.eval:=by simp [hxl]
  have hsz:(xs.map a.eval).size=ps.length+1:=by rw [<- hl,<- Qk,hmap];simp
  have hget0:(xs.map a.eval)[0]? = some (.pointer (some ⟨b,0,none⟩)):=by rw [<- Array.getElem?_toList,hmap,<- hev];rfl
  have hinv:=zPk (w:=w) (hi.globw hp) hi.mem hsz hget0 (λj p hj=>by
   have:=hrep j p hj;rw [Q1,<- Array.getElem?_toList,hmap];simpa using this) q2 q3 (by omega) c2 q6
  subst hn;unfold Oper.wp;rw [zN1 ho hok.1];show Calls P f _ w _;refine (hok.2 w M ⟨[(0,b)],[],by simp [BIG]⟩ _ _ _ hinv (by intro k' hk';simp at hk';subst hk';exact ⟨by simp,hi.lt q1⟩)).mono ?_;rintro e' w' ⟨v,rfl,M',κ',tip',h0',hp',hr⟩;show K (a.put o.dst v) w';rw [hd];refine hk _ _ ?_;rw [zHy];have hfresh:∀ j∈blks.map (·.1),s'.blk (sh d j)=none:=λj hj=>by
   refine hm.2.2 (sh d j) ?_;obtain ⟨e,he,rfl⟩:=Q4.1 hj;exact Q4.2 ⟨e,he,rfl⟩
  have hD:∀ j∈((0,ABlk.var l') :: blks).map (·.1),j≠0->sh d j≠k:=by
   intro j hj hj0 hk';simp only [Qf,Qh] at hj;rcases hj with hj | hj
   ·exact hj0 hj
   ·have:=hfresh j hj;rw [hk',hbk'] at this;cases this
  obtain ⟨i1,i2⟩:=hi.import h0' hr (hob:=by simp) (shp d k) (λj hj j' hj' h=>zUo d k hD hj hj' h)
   (by
    intro e' he';simp at he';subst he';exact ⟨(hp' (0,b) (by simp)).1,by simpa [shp] using q1,⟨l,by simpa [shp] using hbk'⟩,l',by simp [lk]⟩)
   (λj hj=>by
    simp only [Qf,Qh] at hj;by_cases hj0:j=0
    ·exact .inl ⟨b,by simp [hj0]⟩
    ·refine .inr ?_;have hb0:Q2 j 0=false:=by rw [Q8];intro e;exact hj0 (Q0 e)
     simp only [shp,hb0,cond_false];exact hfresh j (hj.resolve_left hj0))
  obtain ⟨x,hx,hrx⟩:=hr.env 0 av (by simp [mkS,lk]);simp at hx;subst hx;refine ⟨M',_,_,h0.trans' h0',?_,i1.put (hws d (by simp [Qu])) (i2 av v hrx)⟩;intro k' hk';obtain ⟨h1,h2⟩:=hp k' hk';refine ⟨?_,h2⟩;cases hfk:fk (shp d k) (((0,ABlk.var l') :: blks).map (·.1)) k'.1 with
  | none=>exact h1
  | some j=>
   obtain ⟨hj,he⟩:=qR hfk;simp only;by_cases hj0:j=0
   ·subst hj0;simp only [shp] at he;rw [he] at h1;simp at h1;rw [q1] at h1;cases h1;exact (hp' (0,k'.2) (by simp)).1
   ·have hb0:Q2 j 0=false:=by rw [Q8];intro e;exact hj0 (Q0 e)
    simp only [shp,hb0,cond_false] at he;simp only [Qf,Qh] at hj;have:=hfresh j (hj.resolve_left hj0);rw [he,hi.dom _ this] at h1;cases h1
 ·intro e he;simp only [Qh,Qq] at he;rcases he with he | he | he
  ·subst he;exact hbk
  ·exact zC3 l cs bs0 hcs e he
  ·exact ha.reads.2 e he
end
def PK (cx:Ctx) (ks:List Nat):Prop:=∀ k∈cx.pk,k.1∈ks
theorem Lep.mk' (hpk:PK cx ks) {blk:LB} (he:zTe s env) (hb:zTg s blk) (h1:jT (lk blk) env=true) (h2:sC (lk blk) blk=true) (h3:ks.all (λk=>(lk blk k).isSome)=true):Lep cx (mkS env blk) s:=
 ⟨Le.mk' he hb h1 h2,λk hk=>(Qo.1 h3) k.1 (hpk k hk)⟩
def tB (P:Program) (fn:Func) (cx:Ctx) (s rs:AS):Prop:=∀ a w,SRel cx s a w->∃ v,(results fn a.tmps).run P w=.ok v w/\SRel { cx with nt:=1,df:=[] } rs ⟨#[v],[]⟩ w
def yBe (P:Program) (fn:Func) (cx:Ctx) (rs:AS):Exit->AS->Prop:=λe s=>(e=.ret∨e=.normal)/\tB P fn cx s rs
theorem zO5 {body:Code} {as rs:AS} (hf:P.funcs[f]? = some fn) (hb:fn.body=some body) (hnm:(fn.name == "runtime.NumGoroutine")=false) (hnt:na<=fn.ntmps) (hks:∀ k,k<BIG->(as.blk k).isSome=true->k∈ks)
  (h:∀ cx:Ctx,cx.nt=fn.ntmps->PK cx ks->awp P cx body (yBe P fn cx rs) as):Ok P f na as rs:=by
 refine ⟨⟨fn,hf,by simp [hb],hnm⟩,?_⟩;intro w M pk args κ tip hi hpk;refine calls_of_wp hf hb ?_;have hsz:args.size=na:=hi.size;have hinv:Inv ⟨w,M,pk,fn.ntmps,[]⟩ M κ tip as { tmps:=args++Array.replicate (fn.ntmps - args.size) undef,defers:=[] } w:={
  defers:=rfl
  size:=by simp;omega
  fr:=⟨hi.fr.os,hi.fr.tape,hi.fr.output,hi.fr.size,hi.fr.block⟩
  mem:=hi.mem
  env:=λt v e=>by
   obtain ⟨x,h1,h2⟩:=hi.env t v e;refine ⟨x,?_,h2⟩;simp only at h1;have hlt:t<args.size:=(Array.getElem?_eq_some_iff.1 h1).1;rw [Array.getElem?_append_left hlt];exact h1
  vars:=hi.vars
  bufs:=hi.bufs
  inj:=hi.inj
  dom:=hi.dom
  glob:=hi.glob
  old:=hi.old
  owns:=hi.owns }
 have hPK:PK ⟨w,M,pk,fn.ntmps,[]⟩ ks:=λk hk=>hks k.1 (pk.nk k hk) (by
  cases hb:as.blk k.1 with
  | none=>have:=(hpk k hk).1;rw [hi.dom _ hb] at this;cases this
  | some b=>rfl)
 refine wp_mono (h ⟨w,M,pk,fn.ntmps,[]⟩ rfl hPK _ _ ⟨M,κ,tip,Mem.le_refl _,hpk,hinv⟩) ?_;rintro e a' w' ⟨s',hs',he,hres⟩;obtain ⟨v,hv,hr⟩:=hres a' w' hs';have hd:a'.defers=[]:=by obtain ⟨_,_,_,_,_,hi'⟩:=hs';exact hi'.defers
 rcases he with rfl | rfl
 ·exact ⟨hd,v,hv,v,rfl,hr⟩
 ·exact ⟨hd,v,hv,v,rfl,hr⟩
theorem SRel.result (h:SRel cx s a w) {v:Value} (hv:∀ M κ tip,Inv cx M κ tip s a w->RepA M κ tip s.blk av v):SRel { cx with nt:=1,df:=[] } { env:=lk [(0,av)],blk:=s.blk } ⟨#[v],[]⟩ w:=by
 obtain ⟨M,κ,tip,h0,hp,hi⟩:=h;refine ⟨M,κ,tip,h0,hp,{
  defers:=rfl
  size:=rfl
  fr:=⟨hi.fr.os,hi.fr.tape,hi.fr.output,hi.fr.size,hi.fr.block⟩
  mem:=hi.mem
  env:=λt u e=>by
   simp only [lk] at e;cases hb:Q2 t 0 with
   | true=>
    have:=Q0 hb;subst this;simp at e;subst e;exact ⟨v,rfl,hv M κ tip hi⟩
   | false=>simp [hb] at e
  vars:=hi.vars
  bufs:=hi.bufs
  inj:=hi.inj
  dom:=hi.dom
  glob:=hi.glob
  old:=hi.old
  owns:=hi.owns }⟩
def Imp (pk:PKs) (s s':AS):Prop:=∀ cx a w,cx.pk=pk->SRel cx s a w->SRel cx s' a w
theorem Imp.trans {s'':AS} (h:Imp pk s s') (k:Imp pk s' s''):Imp pk s s'':=λcx a w hp hs=>k cx a w hp (h cx a w hp hs)
theorem Imp.lep (h:Lep cx s' s):Imp cx.pk s s':=λcx' a w hp hs=>hs.less h.1 (by rw [hp];exact h.2)
theorem Imp.pure {t:Nat} (he:s.env t=some v) (hr:s.rd v=some (p,bs)):Imp pk s (s.put t (.p p)):=by
 intro cx a w _ hs;obtain ⟨M,κ,tip,h0,hp,hi⟩:=hs;refine ⟨M,κ,tip,h0,hp,{ hi with env:=λu y e=>?_ }⟩;simp only [AS.put] at e;cases hb:Q2 u t with
 | true=>
  have:=Q0 hb;subst this;simp at e;subst e;obtain ⟨x,h1,h2⟩:=hi.env u v he;exact ⟨x,h1,.p _ _ (zKl h2 hr)⟩
 | false=>
  simp [hb] at e;exact hi.env u y e
theorem Imp.promote {t:Nat} (he:s.env t=some (.nl c)) (hb:s.blk k=none) (hw:0<c.width):Imp pk s ((s.setb k (.buf c)).put t (.buf k 0)):=by
 intro cx a w _ hs;obtain ⟨M,κ,tip,h0,hp,hi⟩:=hs;obtain ⟨x,h1,h2⟩:=hi.env t _ he;cases h2 with
 | nl _ hn=>
 have hi2:=hi.bufNil hb hn hw;refine ⟨M,κ,_,h0,hp,{ hi2 with env:=λu y e=>?_ }⟩;simp only [AS.put] at e;cases hbq:Q2 u t with
 | true=>
  have:=Q0 hbq;subst this;simp at e;subst e;refine ⟨_,h1,.buf k 0 c _ (zW _ _ _) ?_ (Qs _) ?_ (λ_=>(xF _ _ _).symm)⟩
  ·unfold W8 at hn;split at hn<;>first | rfl | cases hn
  ·unfold W8 at hn;split at hn
   ·exact .bytes0
   ·exact .sl0 _
   ·cases hn
 | false=>
  simp [hbq] at e;exact hi2.env u y e
theorem Imp.ren (ρ:Nat->Nat) (hinj:∀ j∈blks.map (·.1),∀ j'∈blks.map (·.1),ρ j=ρ j'->j=j') (hpk:∀ e∈pk,ρ e.1=e.1/\e.1∈blks.map (·.1)) (hbg:∀ j∈blks.map (·.1),BIG<=j->BIG<=ρ j) :
  Imp pk (mkS env blks) (mkS (env.map λe=>(e.1,e.2.ren ρ)) (blks.map λe=>(ρ e.1,e.2.ren ρ))):=by
 intro cx a w hcx hs;obtain ⟨M,κ,tip,h0,hp,hi⟩:=hs;generalize hκ2:(λi=>match fk ρ (blks.map (·.1)) i with | some j=>κ j | none=>none)=κ2;generalize ht2:(λi=>match fk ρ (blks.map (·.1)) i with | some j=>tip j | none=>undef)=tip2;have kin:∀ j∈blks.map (·.1),κ2 (ρ j)=κ j:=λj hj=>by rw [<- hκ2];simp only [zDq hinj hj]
 have tin:∀ j∈blks.map (·.1),tip2 (ρ j)=tip j:=λj hj=>by rw [<- ht2];simp only [zDq hinj hj]
 have kout:∀ i,fk ρ (blks.map (·.1)) i=none->κ2 i=none:=λi h=>by rw [<- hκ2];simp only [h]
 have lkmem:∀ j b,lk blks j=some b->j∈blks.map (·.1):=λj b h=>Q4.2 ⟨(j,b),tR blks j b h,rfl⟩;have bin:∀ j b,lk blks j=some b->lk (blks.map λe=>(ρ e.1,e.2.ren ρ)) (ρ j)=some (b.ren ρ):=λj b h=>
  zSu ρ blks (λe he e' he' h=>hinj _ (Q4.2 ⟨e,he,rfl⟩) _ (Q4.2 ⟨e',he',rfl⟩) h) j b h
 have bout:∀ i b,lk (blks.map λe=>(ρ e.1,e.2.ren ρ)) i=some b->∃ j b',i=ρ j/\lk blks j=some b'/\b=b'.ren ρ:=λi b h=>by
  obtain ⟨k,h1,h2⟩:=zGi ρ blks i b h;subst h2;cases hl:lk blks k with
  | none=>
   exfalso;obtain ⟨e,he,rfl⟩:=Q4.1 h1;have:∀ (l:LB),e∈l->lk l e.1≠none:=by
    intro l;induction l with
    | nil=>intro h;simp at h
    | cons x l ih=>
     intro h;obtain ⟨xk,xb⟩:=x;simp only [lk];cases hb:Q2 e.1 xk with
     | true=>simp
     | false=>
      simp only [cond_false];rcases Qh.1 h with h | h
      ·subst h;simp at hb
      ·exact ih h
   exact this blks he hl
  | some b'=>
   have:=bin k b' hl;rw [h] at this;exact ⟨k,b',rfl,hl,by simpa using this⟩
 have hnew:∀ {v:AV} {x:Value},RepA M κ tip (mkS env blks).blk v x->RepA M κ2 tip2 (mkS (env.map λe=>(e.1,e.2.ren ρ)) (blks.map λe=>(ρ e.1,e.2.ren ρ))).blk (v.ren ρ) x:=λh=>
  h.ren (λk b hk=>by
   have:k∈blks.map (·.1):=by
    cases hb:lk blks k with
    | none=>rw [hi.dom k hb] at hk;cases hk
    | some b'=>exact lkmem k b' hb
   rw [kin k this];exact hk) (λk b hb=>⟨bin k b hb,tin k (lkmem k b hb)⟩)
 have lkE:∀ (l:LV) (t:Nat) (v:AV),lk (l.map λe=>(e.1,e.2.ren ρ)) t=some v->∃ u,lk l t=some u/\v=u.ren ρ:=by
  intro l;induction l with
  | nil=>intro t v h;simp [lk] at h
  | cons x l ih=>
   intro t v h;obtain ⟨xk,xv⟩:=x;simp only [Qf,lk] at h ⊢;cases hb:Q2 t xk with
   | true=>simp [hb] at h;exact ⟨xv,by simp,h.symm⟩
   | false=>simp [hb] at h;simpa using ih t v (by simpa using h)
 refine ⟨M,κ2,tip2,h0,λk hk=>?_,{
  defers:=hi.defers
  size:=hi.size
  fr:=hi.fr
  mem:=hi.mem
  env:=λt v h=>by
   obtain ⟨u,h1,rfl⟩:=lkE env t v h;obtain ⟨x,h2,h3⟩:=hi.env t u h1;exact ⟨x,h2,hnew h3⟩
  vars:=λi l h=>by
   obtain ⟨j,b',rfl,h2,h3⟩:=bout i _ h;cases b' with
   | buf c=>simp [ABlk.ren] at h3
   | own wd l0=>simp [ABlk.ren] at h3
   | var l0=>
    simp [ABlk.ren] at h3;subst h3;obtain ⟨b,arr,e,fz,q1,q2,q3,q4,q5,q6,q7⟩:=hi.vars j l0 h2;obtain ⟨r1,r2⟩:=pZ ρ l0;refine ⟨b,arr,e,fz,by rw [kin j (lkmem j _ h2)];exact q1,q2,q3,by omega,λjj q hq=>?_,q6,q7⟩;rw [r2] at hq;obtain ⟨q',h3,h4⟩:=Q3.1 hq;subst h4;exact hnew (q5 jj q' h3)
  bufs:=λi c h=>by
   obtain ⟨j,b',rfl,h2,h3⟩:=bout i _ h;cases b' with
   | var l=>simp [ABlk.ren] at h3
   | own wd l=>simp [ABlk.ren] at h3
   | buf c0=>
    simp [ABlk.ren] at h3;subst h3;rw [kin j (lkmem j _ h2),tin j (lkmem j _ h2)];exact hi.bufs j c h2
  inj:=λi i' b h1 h2=>by
   cases hf:fk ρ (blks.map (·.1)) i with
   | none=>rw [kout i hf] at h1;cases h1
   | some j=>
    obtain ⟨hj,rfl⟩:=qR hf;cases hf':fk ρ (blks.map (·.1)) i' with
    | none=>rw [kout i' hf'] at h2;cases h2
    | some j'=>
     obtain ⟨hj',rfl⟩:=qR hf';rw [kin j hj] at h1;rw [kin j' hj'] at h2;rw [hi.inj j j' b h1 h2]
  dom:=λi h=>by
   cases hf:fk ρ (blks.map (·.1)) i with
   | none=>exact kout i hf
   | some j=>
    obtain ⟨hj,rfl⟩:=qR hf;cases hl:lk blks j with
    | none=>rw [kin j hj];exact hi.dom j hl
    | some b=>
     have:=bin j b hl;have h':lk (blks.map λe=>(ρ e.1,e.2.ren ρ)) (ρ j)=none:=h;rw [this] at h';cases h'
  glob:=hi.glob
  old:=hi.old
  owns:=λi wd l h=>by
   obtain ⟨j,b',rfl,h2,h3⟩:=bout i _ h;cases b' with
   | var l=>simp [ABlk.ren] at h3
   | buf l=>simp [ABlk.ren] at h3
   | own wd0 l0=>
    simp only [ABlk.ren,ABlk.own.injEq] at h3;obtain ⟨rfl,rfl⟩:=h3;obtain ⟨r1,r2⟩:=pZ ρ l0;rw [kin j (lkmem j _ h2),tin j (lkmem j _ h2)];rcases hi.owns j wd l0 h2 with ⟨g1,g2,rfl⟩ | ⟨g1,g2⟩
    ·exact .inl ⟨g1,g2,rfl⟩
    refine .inr ⟨g1,?_⟩;rcases g2 with ⟨y1,y2,rfl⟩ | ⟨b,n',cap,arr,e,fz,z1,z2,z3,z4,z5,z6,z7,z8,z9,z10,z11⟩
    ·exact .inl ⟨y1,y2,rfl⟩
    ·refine .inr ⟨b,n',cap,arr,e,fz,z1,z2,z3.imp id (λh=>⟨h.1,hbg j (lkmem j _ h2) h.2⟩),z4,z5,by omega,z7,z8,z9,λjj q hq=>?_,z11⟩;rw [r2] at hq;obtain ⟨q',h3,h4⟩:=Q3.1 hq;subst h4;exact hnew (z10 jj q' h3) }⟩
 rw [hcx] at hk;obtain ⟨h1,h2⟩:=hpk k hk;have:=hp k (by rw [hcx];exact hk);refine ⟨?_,this.2⟩;have h3:=kin k.1 h2;rw [h1] at h3;rw [h3];exact this.1
section
variable {rs:AS}
theorem sM (hres:fn.results=#[]) (h:Imp cx.pk { env:=lk [(0,.tu [])],blk:=s.blk } rs):tB P fn cx s rs:=by
 intro a w hs;refine ⟨.tuple #[],by simp [results,hres],?_⟩;exact h { cx with nt:=1,df:=[] } _ _ rfl (hs.result λM κ tip hi=>.tu [] #[] rfl (by simp))
def zXn (tmps:Array Value):ResultVar->Sem Value
 | .tmp t=>pure (tmps.getD t undef)
 | .cell a t=>do loadVar t (<- asAddr (tmps.getD a undef))
theorem zAu (fn:Func) (tmps:Array Value):results fn tmps=(do let vs <- fn.results.mapM (zXn tmps);pure (if h:vs.size=1 then vs[0] else .tuple vs)):=by
 unfold results;congr 1
inductive RV (te:TE) (s:AS):ResultVar->AV->Prop where
 | tmp (t:Nat) (v:AV):s.env t=some v->RV te s (.tmp t) v
 | cell (t k off:Nat) (ty:TypeId) (l:List AV) (i:TI) (v:AV):s.env t=some (.ptr k off)->s.blk k=some (.var l)->te ty=some i->i.plain=true->l[off]? = some v->RV te s (.cell t ty) v
 | cellN (t k off:Nat) (ty:TypeId) (l:List AV) (i:TI):s.env t=some (.ptr k off)->s.blk k=some (.var l)->te ty=some i->i.isAgg=true->off+i.w<=l.length->RV te s (.cell t ty) (.ag ((l.drop off).take i.w))
theorem RV.run (hok:yX P te) (h:RV te s rv v) (hi:Inv cx M κ tip s a w) :
  ∃ x,(zXn a.tmps rv).run P w=.ok x w/\RepA M κ tip s.blk v x:=by
 cases h with
 | tmp t v he=>
  obtain ⟨x,h1,h2⟩:=hi.env t v he;exact ⟨x,by simp [zXn,Q1,h1],h2⟩
 | cell t k off ty l i v he hb ht hp hv=>
  obtain ⟨x,h1,h2⟩:=hi.env t _ he;obtain ⟨b,arr,e,fz,q1,q2,q3,q4,q5,q6⟩:=hi.vars k l hb;cases h2 with
  | ptr _ _ b' l' hk hl'=>
   rw [q1] at hk;cases hk;have hlt:off<l.length:=(List.getElem?_eq_some_iff.1 hv).1;have hlt':off<arr.size:=by omega
   have hcell:w.cell? ⟨b,off,none⟩=some arr[off]:=by simp [Qm,q2,hlt']
   refine ⟨arr[off],?_,?_⟩
   ·simp [zXn,Q1,h1,asAddr,gG hok ht hp hcell]
   ·have:=q5 off v hv;simpa [hlt'] using this
 | cellN t k off ty l i he hb ht hp hv=>
  obtain ⟨x,h1,h2⟩:=hi.env t _ he;obtain ⟨b,arr,e,fz,q1,q2,q3,q4,q5,q6⟩:=hi.vars k l hb;cases h2 with
  | ptr _ _ b' l' hk hl'=>
   rw [q1] at hk;cases hk;have hlen:((arr.toList.drop off).take i.w).length=i.w:=by simp;omega
   have hload:=zAp hok ht hp (w:=w) (a:=⟨b,off,none⟩) ((arr.toList.drop off).take i.w) hlen (by
    intro j u hu;rw [List.getElem?_take,List.getElem?_drop] at hu;split at hu
    ·rw [add_off];simp [Qm,q2];simpa using hu
    ·cases hu)
   refine ⟨.agg ((arr.toList.drop off).take i.w).toArray,?_,?_⟩
   ·simp [zXn,Q1,h1,asAddr,hload]
   ·refine .ag _ _ (by simp;omega) (λj q hq=>?_);rw [List.getElem?_take,List.getElem?_drop] at hq;split at hq
    ·rename_i hj;have:=q5 (off+j) q hq;have hlt:off+j<arr.size:=by omega
     simpa [hj,hlt,List.getElem?_take,List.getElem?_drop] using this
    ·cases hq
theorem vK (hok:yX P te) (hres:fn.results=#[rv]) (hv:RV te s rv av) (h:Imp cx.pk { env:=lk [(0,av)],blk:=s.blk } rs):tB P fn cx s rs:=by
 intro a w hs;have hs':=hs;obtain ⟨M,κ,tip,h0,hp,hi⟩:=hs';obtain ⟨x,hx,_⟩:=hv.run hok hi;refine ⟨x,?_,h { cx with nt:=1,df:=[] } _ _ rfl (hs.result λM κ tip hi=>?_)⟩
 ·simp [zAu,hres,hx]
 ·obtain ⟨x',hx',hr⟩:=hv.run hok hi;rw [hx] at hx';cases hx';exact hr
theorem yC (hok:yX P te) (hres:fn.results=#[rv1,rv2]) (h1:RV te s rv1 a1) (h2:RV te s rv2 a2) (h:Imp cx.pk { env:=lk [(0,.tu [a1,a2])],blk:=s.blk } rs):tB P fn cx s rs:=by
 intro a w hs;have hs':=hs;obtain ⟨M,κ,tip,h0,hp,hi⟩:=hs';obtain ⟨x1,hx1,_⟩:=h1.run hok hi;obtain ⟨x2,hx2,_⟩:=h2.run hok hi;refine ⟨.tuple #[x1,x2],?_,h { cx with nt:=1,df:=[] } _ _ rfl (hs.result λM κ tip hi=>?_)⟩
 ·simp [zAu,hres,hx1,hx2]
 ·obtain ⟨y1,hy1,r1⟩:=h1.run hok hi;obtain ⟨y2,hy2,r2⟩:=h2.run hok hi;rw [hx1] at hy1;rw [hx2] at hy2;cases hy1;cases hy2;refine .tu _ _ rfl (λj q hq=>?_)
  match j with
  | 0=>simp at hq;subst hq;exact r1
  | 1=>simp at hq;subst hq;exact r2
  | j+2=>simp at hq
theorem wV (hok:yX P te) {rv3:ResultVar} {a3:AV} (hres:fn.results=#[rv1,rv2,rv3]) (h1:RV te s rv1 a1) (h2:RV te s rv2 a2) (h3:RV te s rv3 a3) (h:Imp cx.pk { env:=lk [(0,.tu [a1,a2,a3])],blk:=s.blk } rs):tB P fn cx s rs:=by
 intro a w hs;have hs':=hs;obtain ⟨M,κ,tip,h0,hp,hi⟩:=hs';obtain ⟨x1,hx1,_⟩:=h1.run hok hi;obtain ⟨x2,hx2,_⟩:=h2.run hok hi;obtain ⟨x3,hx3,_⟩:=h3.run hok hi;refine ⟨.tuple #[x1,x2,x3],?_,h { cx with nt:=1,df:=[] } _ _ rfl (hs.result λM κ tip hi=>?_)⟩
 ·simp [zAu,hres,hx1,hx2,hx3]
 ·obtain ⟨y1,hy1,r1⟩:=h1.run hok hi;obtain ⟨y2,hy2,r2⟩:=h2.run hok hi;obtain ⟨y3,hy3,r3⟩:=h3.run hok hi;rw [hx1] at hy1;rw [hx2] at hy2;rw [hx3] at hy3;cases hy1;cases hy2;cases hy3;refine .tu _ _ rfl (λj q hq=>?_)
  match j with
  | 0=>simp at hq;subst hq;exact r1
  | 1=>simp at hq;subst hq;exact r2
  | 2=>simp at hq;subst hq;exact r3
  | j+3=>simp at hq
end
end Go.Sw
