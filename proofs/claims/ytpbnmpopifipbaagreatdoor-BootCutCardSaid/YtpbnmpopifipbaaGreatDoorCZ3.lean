/- what a loss of power at a start leaves -/
import Derived.Test.YtpbnmpopifipbaaGreatDoorCZ2
import Derived.Scope
import Derived.Laws.StructEq
import Derived.ChangeKeysEq
import Derived.Lib.Bytealg
set_option linter.all false
open Array renaming getD_eq_getD_getElem? -> Q0, size_append -> Qd, length_toList -> Qf
open Nat renaming eq_of_beq_eq_true -> Q1, le_of_ble_eq_true -> Q2, zero_add -> Q5, le_refl -> Q6, mul_le_mul_right -> Qa, beq -> Qb, blt -> Qi, eq_of_mul_eq_mul_right -> Qk, le_mul_of_pos_right -> Qp, add_mul -> Qr, le_trans -> Qw, zero_le -> Qy, mul_pos -> Qz, eq_zero_or_pos -> W2, add_zero -> We
open List renaming mem_cons -> Q3, size_toArray -> Q7, eq_nil_of_length_eq_zero -> Q8, all_eq_true -> Q9, replicate -> Qg, mem_map -> Qh, map_cons -> Qj, mem_append -> Qv, getElem_of_mem -> Qx, range -> W4, drop_eq_nil_of_le -> W7, singleton_append -> W8, replicate_succ -> Wb, length_append -> Wd, flatten_cons -> Wf, getElem_mem -> Wg, mem_filter -> Wj, length_map -> Wk, nil_append -> Wl, length_nil -> Wm, map_nil -> Wo
open Bool renaming and_eq_true -> Q4, eq_false_iff -> Qc, or_eq_true -> Wi
open Go.Builtin renaming zeroCells -> Qe, lenOf -> Wn, len_ -> Wp
open Go.Extern.Bytes renaming bytesOf -> Ql, loadBytes -> Qu, asByte -> Wc
open Go.World renaming cell? -> Qm
open Go.Extern.BytealgIndexByte renaming indexByte -> Qn
open Option renaming isSome_iff_exists -> Qo, map_eq_some_iff -> Qq, getD_some -> Wh
open Go.Sw.PV renaming len -> Qs, src -> W1, isSlice -> W9, width -> Wa
open Go.Sw.Mic renaming ws -> Qt
open Go.Sw.AV renaming oks -> W0
open Go.Value renaming pointer -> W3
open Go.Oper renaming wp -> W5
open Go.Deferred renaming ofValue -> W6
namespace Go.Sw
open Go
variable {B:NB}{J:Type}{K:AS->List Mic->Prop}{M:Mem}{P:Program}{Q:Exit->AS->Prop}{a:Act}{a0 a1:Int}{af:Array Edge}{av:AV}{ax:Operand}{b:Nat}{b0 b1:Int}{bb blk blks bs bs0 by':LB}{c:PV}{cap:Nat}{cs:List PV}{cx:Ctx}{d:Nat}{dd:TypeDesc}{e:TypeId}{ei:TI}{env:LV}{f:FuncId}{fn:Func}{fs:List PV}{fz:Nat×Nat}{i:TI}{k k0 k2:Nat}{kc kl:IntKind}{ks:List Nat}{l l' l2:List AV}{m n na:Nat}{o:Oper}{off:Nat}{ops:Array Oper}{p:PV}{pk:List (Nat×Nat)}{pos:String}{ps qs:List PV}{r:List Oper}{rr:PV}{rs:LV}{s s':AS}{t t' t2:TypeId}{te:TE}{tip:Nat->Value}{tl:List TypeId}{ts:Array TypeId}{tx ty tyy:TypeId}{v vx vy:AV}{w:World}{w0 wd:Nat}{x:Operand}{xl:List Operand}{xs:Array Operand}{y:Operand}{yl:List Operand}{ys:Array Operand}{z:PV}{α:Type}{κ:Nat->Option Nat}
def AS.unb (s:AS) (k:Nat):AS:={ s with blk:=wW s.blk k }
theorem tK {i:Nat} (h:i≠k):wW B k i=B i:=by
 unfold wW;have:Qb i k=false:=by rw [Qc];intro e;exact h (Q1 e)
 simp [this]
theorem bY:wW B k k=none:=by simp [wW]
theorem RepA.unb {x:Value} (hr:RepA M κ tip B v x):v.oks (wW B k)=true->RepA M (cJ κ k none) tip (wW B k) v x:=by
 have hne:∀ i,(wW B k i).isSome=true->i≠k:=by
  rintro i h rfl;rw [bY] at h;cases h
 induction hr with
 | p v x h1=>intro _;exact .p v x h1
 | nl c h1=>intro _;exact .nl c h1
 | ptr i o b l h1 h2=>intro h;simp only [W0] at h;exact .ptr i o b l (by rw [yJ (hne i h)];exact h1) (by rw [tK (hne i h)];exact h2)
 | ref i o n b l h1 h2=>intro h;simp only [W0] at h;exact .ref i o n b l (by rw [yJ (hne i h)];exact h1) (by rw [tK (hne i h)];exact h2)
 | buf i n c x h1 hs h2 h3 h4=>intro h;simp only [W0] at h;exact .buf i n c x (by rw [tK (hne i h)];exact h1) hs h2 h3 h4
 | ag l vs h1 _ ih=>intro h;simp only [W0] at h;exact .ag l vs h1 (λj q hq=>ih j q hq (vU l h j q hq))
 | tu l vs h1 _ ih=>intro h;simp only [W0] at h;exact .tu l vs h1 (λj q hq=>ih j q hq (vU l h j q hq))
 | fnv f l vs h1 _ ih=>intro h;simp only [W0] at h;exact .fnv f l vs h1 (λj q hq=>ih j q hq (vU l h j q hq))
 | own i n w l x h1 h2 h3 hs=>intro h;simp only [W0] at h;exact .own i n w l x (by rw [tK (hne i h)];exact h1) h2 h3 hs
 | optr i n o w l x h1 h2 h3 hs=>intro h;simp only [W0] at h;exact .optr i n o w l x (by rw [tK (hne i h)];exact h1) h2 (λe=>by rw [yJ (hne i h)];exact h3 e) hs
 | osl i n o m w l x h1 h2 h3 hs=>intro h;simp only [W0] at h;exact .osl i n o m w l x (by rw [tK (hne i h)];exact h1) h2 (λe=>by rw [yJ (hne i h)];exact h3 e) hs
theorem Imp.fixV {t:Nat} (he:s.env t=some (.ptr k 0)) (hb:s.blk k=some (.var l)) (hrd:s.rdL l=some (cs,bs)) (hc:c.cells=cs)
  (hpk:∀ e∈pk,e.1≠k) (hE:∀ u v,u≠t->s.env u=some v->v.oks (wW s.blk k)=true) (hV:∀ i li,i≠k->s.blk i=some (.var li)->pH (wW s.blk k) li=true) (hW:∀ i w li,s.blk i=some (.own w li)->pH (wW s.blk k) li=true):Imp pk s ((s.unb k).put t (.p (.cptr c))):=by
 intro cx a w hcx hs;obtain ⟨M,κ,tip,h0,hp,hi⟩:=hs;obtain ⟨b,arr,e,fz,q1,q2,q3,q4,q5,q6,q7⟩:=hi.vars k l hb;obtain ⟨x,hx1,hx2⟩:=hi.env t _ he;obtain ⟨r1,r2⟩:=fY hrd q5;cases hx2 with
 | ptr _ _ b' l' g1 g2=>
 rw [q1] at g1;cases g1;have hbase:cx.w0.heap.size<=b:=by
  rcases q7 with q7 | q7
  ·exact q7
  ·simp only [Ctx.pb,Qh] at q7;obtain ⟨e',he',rfl⟩:=q7;have h1:=(hp e' he').1;have:=hi.inj _ _ _ h1 q1;exact (hpk e' (hcx▸he') this).elim
 have hle:M.le (addM M b 0 arr.size (arr[·]?)):=addM_le λo _ _=>q6 o;have hother:∀ b' o,b'≠b->addM M b 0 arr.size (arr[·]?) b' o=M b' o:=by
  intro b' o hne;unfold addM;rw [if_neg (by intro h;exact hne h.1)]
 have hat:∀ j,j<arr.size->addM M b 0 arr.size (arr[·]?) b j=arr[j]?:=by
  intro j hj;unfold addM;rw [if_pos ⟨rfl,Qy _,hj⟩]
 have hmap:∀ {v:AV} {x:Value},RepA M κ tip s.blk v x->v.oks (wW s.blk k)=true->RepA (addM M b 0 arr.size (arr[·]?)) (cJ κ k none) tip (wW s.blk k) v x:=
  λh ho=>(h.unb ho).mono hle
 have hcj:∀ (j:Nat) (q:PV),c.cells[j]? = some q->j<arr.size:=λj q hq=>by
  have:=(List.getElem?_eq_some_iff.1 hq).1;rw [hc] at this;omega
 refine ⟨addM M b 0 arr.size (arr[·]?),cJ κ k none,tip,h0.trans' hle,λe' he'=>?_,{
  defers:=hi.defers
  size:=hi.size
  fr:=hi.fr
  mem:=λb' o y h=>by
   unfold addM at h;split at h
   ·rename_i hc';obtain ⟨rfl,_,hlt⟩:=hc';simp only [Qm,q2];simpa using h
   ·exact hi.mem b' o y h
  env:=λu v h=>by
   simp only [AS.put,AS.unb] at h;cases hbq:Qb u t with
   | true=>
    have:=Q1 hbq;subst this;simp at h;subst h;refine ⟨_,hx1,.p _ _ (.cptr c b 0 (λj q hq=>?_) (λj q hq=>?_))⟩
    ·have:=hcj j q hq;rw [Q5,hat j this];simp [this]
    ·have hlt:=hcj j q hq;rw [hc] at hq;have:=(r2 j q hq).mono hle;simp only [mget,Q5,hat j hlt];simpa [Q0] using this
   | false=>
    simp [hbq] at h;have hne:u≠t:=by rintro rfl;simp at hbq
    obtain ⟨y,h1,h2⟩:=hi.env u v h;exact ⟨y,h1,hmap h2 (hE u v hne h)⟩
  vars:=λi li h=>by
   have h':wW s.blk k i=some (.var li):=h;have hne:i≠k:=by rintro rfl;rw [bY] at h';cases h'
   rw [tK hne] at h';obtain ⟨b2,arr2,e2,fz2,z1,z2,z3,z4,z5,z6,z7⟩:=hi.vars i li h';have hnb:b2≠b:=λe=>hne (hi.inj i k b (e▸z1) q1);exact ⟨b2,arr2,e2,fz2,by rw [yJ hne];exact z1,z2,z3,z4,λj q hq=>hmap (z5 j q hq) (vU li (hV i li hne h') j q hq),λo=>by rw [hother b2 o hnb];exact z6 o,z7⟩
  bufs:=λi ci h=>by
   have h':wW s.blk k i=some (.buf ci):=h;have hne:i≠k:=by rintro rfl;rw [bY] at h';cases h'
   rw [tK hne] at h';obtain ⟨z1,z2,z3,z4⟩:=hi.bufs i ci h';refine ⟨z1.mono hle,z2,z3,?_⟩;rw [yJ hne];rcases z4 with z4 | ⟨b2,n2,cap2,arr2,e2,fz2,y1,y2,y3,y4,y5,y6,y7,y8⟩
   ·exact .inl z4
   ·have hnb:b2≠b:=λe=>hne (hi.inj i k b (e▸y2) q1);exact .inr ⟨b2,n2,cap2,arr2,e2,fz2,y1,y2,y3,y4,y5,y6,y7,λj hj=>by rw [hother b2 j hnb];exact y8 j hj⟩
  inj:=λi i' b' h1 h2=>by
   have e1:i≠k:=by rintro rfl;rw [uR] at h1;cases h1
   have e2:i'≠k:=by rintro rfl;rw [uR] at h2;cases h2
   rw [yJ e1] at h1;rw [yJ e2] at h2;exact hi.inj i i' b' h1 h2
  dom:=λi h=>by
   have h':wW s.blk k i=none:=h;by_cases hne:i=k
   ·subst hne;exact uR _ _ _
   ·rw [tK hne] at h';rw [yJ hne];exact hi.dom i h'
  glob:=hi.glob.mono hle
  old:=λb' o hb'=>by rw [hother b' o (by omega)];exact hi.old b' o hb'
  owns:=hi.owns.keep λi wd li h=>by
   have h':wW s.blk k i=some (.own wd li):=h;have hne:i≠k:=by rintro rfl;rw [bY] at h';cases h'
   rw [tK hne] at h';exact ⟨h',yJ hne,rfl,λb2 z=>⟨rfl,λo hm=>by rw [hother b2 o (λe=>hne (hi.inj i k b (e▸z) q1))];exact hm⟩,λj q x hq hr=>hmap hr (vU li (hW i wd li h') j q hq)⟩}⟩
 have hne:e'.1≠k:=hpk e' (hcx▸he');rw [yJ hne];exact hp e' he'
theorem Imp.pureT {t:Nat} (j:Nat) (he:s.env t=some (.tu l)) (hj:l[j]? = some v) (hr:s.rd v=some (p,bs)):Imp pk s (s.put t (.tu (l.set j (.p p)))):=by
 intro cx a w _ hs;obtain ⟨M,κ,tip,h0,hp,hi⟩:=hs;refine ⟨M,κ,tip,h0,hp,{ hi with env:=λu y e=>?_ }⟩;simp only [AS.put] at e;cases hb:Qb u t with
 | true=>
  have:=Q1 hb;subst this;simp at e;subst e;obtain ⟨x,h1,h2⟩:=hi.env u _ he;cases h2 with
  | tu _ vs g1 g2=>
  refine ⟨_,h1,.tu _ vs (by simpa using g1) (λi q hq=>?_)⟩;rw [List.getElem?_set] at hq;split at hq
  ·rename_i e;subst e;split at hq
   ·cases hq;exact .p _ _ (zE9 (g2 j v hj) hr)
   ·cases hq
  ·exact g2 i q hq
 | false=>
  simp [hb] at e;exact hi.env u y e
section
theorem zQ6 {c:Code} (h:awp P cx c Q s) (hq:∀ l s,¬ Q (.goto l) s):awp P cx (.scope c) Q s:=λa w hs=>wp_scope_straight (wp_mono (h a w hs) λe a' w' ⟨s',h1,h2⟩ =>by
 cases e with
 | goto l=>exact (hq l s' h2).elim
 | _=>exact ⟨s',h1,h2⟩)
theorem zQe {l:Nat} (h:Q .normal s):awp P cx (.label l) Q s:=λ_ _ hs=>wp_label ⟨s,hs,h⟩
end
theorem Imp.freezeC {j0:Nat} (he:s.blk k2=some (.var l2)) (hj0:l2[j0]? = some (.ref k 0 n)) (hkk:k2≠k) (hb:s.blk k=some (.var l)) (hrd:s.rdL l=some (cs,bs)) (hc:fJ w0 c cs) (hcn:c.len=n) (hw:0<w0) (hml:n<=maxLen)
  (hpk:∀ e∈pk,e.1≠k) (hE:∀ u v,s.env u=some v->v.oks (wW s.blk k)=true) (hV:∀ i li,i≠k->i≠k2->s.blk i=some (.var li)->pH (wW s.blk k) li=true) (hV2:pH (wW s.blk k) (l2.set j0 (.p .nilp))=true) (hW:∀ i w li,s.blk i=some (.own w li)->pH (wW s.blk k) li=true):Imp pk s ((s.setb k (.buf c)).setb k2 (.var (l2.set j0 (.buf k n)))):=by
 intro cx a w hcx hs;obtain ⟨M,κ,tip,h0,hp,hi⟩:=hs;obtain ⟨b,arr,e,fz,q1,q2,q3,q4,q5,q6,q7⟩:=hi.vars k l hb;obtain ⟨bb,arrb,eb,fzb,p1,p2,p3,p4,p5,p6,p7⟩:=hi.vars k2 l2 he;obtain ⟨r1,r2⟩:=fY hrd q5;obtain ⟨c1,c2,c3,c4⟩:=hc.cells r2;have hasz:arr.size=n*w0:=by rw [q4,<- r1,<- c4,hcn]
 have hx2:=p5 j0 _ hj0;generalize hx:arrb.getD j0 undef=xx at hx2;cases hx2 with
 | ref _ _ _ b' l' g1 g2=>
 rw [q1] at g1;cases g1;have hbase:cx.w0.heap.size<=b:=by
  rcases q7 with q7 | q7
  ·exact q7
  ·simp only [Ctx.pb,Qh] at q7;obtain ⟨e',he',rfl⟩:=q7;have h1:=(hp e' he').1;have:=hi.inj _ _ _ h1 q1;exact (hpk e' (hcx▸he') this).elim
 have hle:M.le (addM M b 0 (n*c.width) (arr[·]?)):=addM_le λo _ _=>q6 o;have hrep:Rep (addM M b 0 (n*c.width) (arr[·]?)) c (.slice (some ⟨b,0,none⟩) n n):=by
  have:=wV (M':=addM M b 0 (n*c.width) (arr[·]?)) (b:=b) (o:=0) (cap:=n) c1 c2 hle ?_ (by omega)
  ·rwa [hcn] at this
  intro j hj;rw [hcn] at hj;simp only [addM,Q5];rw [if_pos ⟨trivial,Qy _,hj⟩];rw [c3,<- hasz] at hj;simp [hj]
 have hother:∀ b' o,b'≠b->addM M b 0 (n*c.width) (arr[·]?) b' o=M b' o:=by
  intro b' o hne;unfold addM;rw [if_neg (by intro h;exact hne h.1)]
 generalize hS:(s.setb k (.buf c)).setb k2 (.var (l2.set j0 (.buf k n)))=S;have hSk:S.blk k=some (.buf c):=by rw [<- hS,zU (Ne.symm hkk)];exact zY _ _ _
 have hSk2:S.blk k2=some (.var (l2.set j0 (.buf k n))):=by rw [<- hS];exact zY _ _ _
 have hSo:∀ i,i≠k->i≠k2->S.blk i=s.blk i:=λi h1 h2=>by rw [<- hS,zU h2,zU h1]
 have hSe:S.env=s.env:=by rw [<- hS];rfl
 have hT:∀ i,i≠k->mW tip k (.slice (some ⟨b,0,none⟩) n n) i=tip i:=λi h=>yZ h;have hmap0:∀ {v:AV} {x:Value},RepA M κ tip s.blk v x->v.oks (wW s.blk k)=true->RepA M κ (mW tip k (.slice (some ⟨b,0,none⟩) n n)) (s.setb k (.buf c)).blk v x:=
  λh ho=>h.frz (λi h=>zU h) hT ho
 have gle:GLe κ κ (mW tip k (.slice (some ⟨b,0,none⟩) n n)) (mW tip k (.slice (some ⟨b,0,none⟩) n n)) (s.setb k (.buf c)).blk S.blk:=by
  rw [<- hS];exact zPc (by rw [zU hkk];exact he)
 have hmap:∀ {v:AV} {x:Value},RepA M κ tip s.blk v x->v.oks (wW s.blk k)=true->RepA (addM M b 0 (n*c.width) (arr[·]?)) κ (mW tip k (.slice (some ⟨b,0,none⟩) n n)) S.blk v x:=
  λh ho=>((hmap0 h ho).ghost gle).mono hle
 refine ⟨addM M b 0 (n*c.width) (arr[·]?),κ,mW tip k (.slice (some ⟨b,0,none⟩) n n),h0.trans' hle,hp,{
  defers:=hi.defers
  size:=hi.size
  fr:=hi.fr
  mem:=λb' o y h=>by
   unfold addM at h;split at h
   ·rename_i hc';obtain ⟨rfl,_,hlt⟩:=hc';simp only [Qm,q2];simpa using h
   ·exact hi.mem b' o y h
  env:=λu v h=>by
   rw [hSe] at h;obtain ⟨y,h1,h2⟩:=hi.env u v h;exact ⟨y,h1,hmap h2 (hE u v h)⟩
  vars:=λi li h=>by
   have hne:i≠k:=by rintro rfl;rw [hSk] at h;cases h
   by_cases h2:i=k2
   ·subst h2;rw [hSk2] at h;cases h;refine ⟨bb,arrb,eb,fzb,p1,p2,p3,by simpa using p4,λj q hq=>?_,λo=>by rw [hother bb o (λe=>hne (hi.inj i k b (e▸p1) q1))];exact p6 o,p7⟩;rw [List.getElem?_set] at hq;split at hq
    ·rename_i e;subst e;split at hq
     ·cases hq;rw [hx];refine .buf k n c _ hSk c2 (by omega) ?_ (λ_=>(yV _ _ _).symm);rw [<- hcn,sS c2,hcn];exact hrep
     ·cases hq
    ·rename_i hjn;refine hmap (p5 j q hq) (vU _ hV2 j q ?_);rw [List.getElem?_set_ne hjn];exact hq
   ·rw [hSo i hne h2] at h;obtain ⟨b2,arr2,e2,fz2,z1,z2,z3,z4,z5,z6,z7⟩:=hi.vars i li h;have hnb:b2≠b:=λe=>hne (hi.inj i k b (e▸z1) q1);exact ⟨b2,arr2,e2,fz2,z1,z2,z3,z4,λj q hq=>hmap (z5 j q hq) (vU li (hV i li hne h2 h) j q hq),λo=>by rw [hother b2 o hnb];exact z6 o,z7⟩
  bufs:=λi ci h=>by
   by_cases hne:i=k
   ·subst hne;rw [hSk] at h;cases h;rw [yV];refine ⟨hrep,c2,by omega,.inr ⟨b,n,n,arr,e,fz,rfl,q1,hbase,q2,q3,by rw [c3,hasz];exact Q6 _,hml,λj hj=>?_⟩⟩;unfold addM;rw [if_neg (by omega)];exact q6 j
   ·have h2:i≠k2:=by rintro rfl;rw [hSk2] at h;cases h
    rw [hSo i hne h2] at h;obtain ⟨z1,z2,z3,z4⟩:=hi.bufs i ci h;rw [hT i hne];refine ⟨z1.mono hle,z2,z3,?_⟩;rcases z4 with z4 | ⟨b2,n2,cap2,arr2,e2,fz2,y1,y2,y3,y4,y5,y6,y7,y8⟩
    ·exact .inl z4
    ·have hnb:b2≠b:=λe=>hne (hi.inj i k b (e▸y2) q1);exact .inr ⟨b2,n2,cap2,arr2,e2,fz2,y1,y2,y3,y4,y5,y6,y7,λj hj=>by rw [hother b2 j hnb];exact y8 j hj⟩
  inj:=hi.inj
  dom:=λi h=>by
   by_cases hne:i=k
   ·subst hne;rw [hSk] at h;cases h
   ·by_cases h2:i=k2
    ·subst h2;rw [hSk2] at h;cases h
    ·rw [hSo i hne h2] at h;exact hi.dom i h
  glob:=hi.glob.mono hle
  old:=λb' o hb'=>by rw [hother b' o (by omega)];exact hi.old b' o hb'
  owns:=hi.owns.keep λi wd li h=>by
   have hne:i≠k:=by rintro rfl;rw [hSk] at h;cases h
   have h2:i≠k2:=by rintro rfl;rw [hSk2] at h;cases h
   rw [hSo i hne h2] at h;exact ⟨h,rfl,hT i hne,λb2 z=>⟨rfl,λo hm=>by rw [hother b2 o (λe=>hne (hi.inj i k b (e▸z) q1))];exact hm⟩,λj q x hq hr=>hmap hr (vU li (hW i wd li h) j q hq)⟩}⟩
section
variable {ms:List Mic} 
theorem sa_callf (hd:o.dst=some d) (ho:o.op=.call { callee:=.value x,args:=xs,argTypes:=ts }) (hx:s.get te tx x=some (.p (.fn f fs cs)))
  (hok:Ok P f na (mkS (argE 0 (fs++(ps++cs))) []) (mkS [(0,av)] blks)) (hxl:xs.toList=xl) (htl:ts.toList=tl) (ha:mG s te xl tl ps rs bb) (hn:na=(fs++(ps++cs)).length) (hf:∀ k∈(blks.map λe=>sh d e.1),s.blk k=none) :
  SA P o s ⟨opS x (.p (.fn f fs cs))++rs,bb,blks.map λe=>sh d e.1,some (d,some (av.ren (sh d))),blks.map λe=>(sh d e.1,e.2.ren (sh d))⟩:=by
 refine ⟨?_,yH (zK hx) ha.reads.1,ha.reads.2,hf⟩;intro cx s' a w K Q hm hs hws hk;obtain ⟨M,κ,tip,h0,hp,hi⟩:=hs;obtain ⟨hl,hrep⟩:=ha.rep hi (zZ hm.1) hm.2.1;have hxr:=repA_pv (yC hi (yF hx s' (yD hm.1)));generalize hev:a.eval x=z at hxr;cases hxr with
 | fn _ _ _ vf vc e1 e2 e3 e4=>
 have hmap:(xs.map a.eval).toList=xl.map a.eval:=by simp [hxl]
 have hsz:(vf++xs.map a.eval++vc).size=(fs++(ps++cs)).length:=by
  have:(xs.map a.eval).size=ps.length:=by rw [<- hl,<- Qf,hmap];simp
  simp only [Qd,Wd,this,e1,e2];omega
 have hinv:=zL7 (w:=w) (hi.globw hp) hi.mem hsz (λj p hj=>by
  have hxsz:(xs.map a.eval).size=ps.length:=by rw [<- hl,<- Qf,hmap];simp
  rw [Q0];rw [List.getElem?_append] at hj;rw [Array.append_assoc,Array.getElem?_append];split at hj
  ·rename_i h1;rw [if_pos (by omega)];simpa [Q0] using e3 j p hj
  ·rename_i h1;rw [if_neg (by omega),Array.getElem?_append,hxsz];rw [List.getElem?_append] at hj;split at hj
   ·rename_i h2;rw [if_pos (by omega)];have:=hrep (j - fs.length) p hj;rw [e1,<- Array.getElem?_toList,hmap];exact this
   ·rename_i h2;rw [if_neg (by omega),e1];simpa [Q0] using e4 _ p hj)
 have hrun:(execOp a.eval o).run P w=.ok (.enter f (vf++xs.map a.eval++vc)) w:=by
  obtain ⟨fn,h1,h2,h3⟩:=hok.1;have h2':fn.body≠none:=by intro e;simp [e] at h2
  have h3':fn.name ≠ "runtime.NumGoroutine":=by intro e;simp [e] at h3
  simp [execOp,ho,resolve,hev,W6,invoke,callFunc,h1,h2',h3']
 subst hn;unfold W5;rw [hrun];show Calls P f _ w _;refine (hok.2 w M [] _ _ _ hinv (by simp)).mono ?_;rintro e w' ⟨v,rfl,M',κ',tip',h0',hp',hr⟩;show K (a.put o.dst v) w';rw [hd];refine hk _ _ ?_;rw [zAs];obtain ⟨i1,i2⟩:=hi.import h0' hr (sh d) (λj _ j' _ h=>zNz d h) (by simp) (λj hj=>.inr (by
  refine hm.2.2 (sh d j) ?_;obtain ⟨e,he,rfl⟩:=Qh.1 hj;exact Qh.2 ⟨e,he,rfl⟩))
 obtain ⟨x,hx,hrx⟩:=hr.env 0 av (by simp [mkS,lk]);simp at hx;subst hx;refine ⟨M',_,_,h0.trans' h0',?_,i1.put (hws d (by simp [Qt])) (i2 av v hrx)⟩;intro k hk';obtain ⟨h1,h2⟩:=hp k hk';refine ⟨?_,h2⟩;have:fk (sh d) (blks.map (·.1)) k.1=none:=by
  cases hfk:fk (sh d) (blks.map (·.1)) k.1 with
  | none=>rfl
  | some j=>
   obtain ⟨hj,he⟩:=qT hfk;have:=hm.2.2 (sh d j) (by obtain ⟨e,he',rfl⟩:=Qh.1 hj;exact Qh.2 ⟨e,he',rfl⟩);rw [he,hi.dom _ this] at h1;cases h1
 simp only [this];exact h1
theorem sa_callpf (hd:o.dst=some d)
  (ho:o.op=.call { callee:=.value x,args:=xs,argTypes:=ts }) (hxa:s.get te tx x=some (.fnv f [.ptr k 0])) (hok:Ok P f na (mkS ((0,.ptr 0 0) :: argE 1 ps) [(0,.var (cs.map .p))]) (mkS [(0,av)] ((0,.var l') :: blks))) (hxl:xs.toList=xl) (htl:ts.toList=tl) (hbk:s.blk k=some (.var l)) (hcs:s.rdL l=some (cs,bs0))
  (ha:mG s te xl tl ps rs bb) (hn:na=ps.length+1) (hf:∀ j∈(blks.map λe=>sh d e.1),s.blk j=none) (hne:∀ e∈blks,e.1≠0) (hlt:Qi f 1000000=true) :
  SA P o s ⟨opS x (.fnv f [.ptr k 0])++rs,(k,.var l) :: (bs0++bb),blks.map λe=>sh d e.1,some (d,some (av.ren (shp d k))),((0,.var l') :: blks).map λe=>(shp d k e.1,e.2.ren (shp d k))⟩:=by
 refine ⟨?_,yH (zK hxa) ha.reads.1,?_,hf⟩
 ·intro cx s' a w K Q hm hs hws hk;obtain ⟨M,κ,tip,h0,hp,hi⟩:=hs;have hb':∀ e∈bb,s'.blk e.1=some e.2:=λe he=>hm.2.1 e (by simp [he]);have hbs':∀ e∈bs0,s'.blk e.1=some e.2:=λe he=>hm.2.1 e (by simp [he]);have hbk':s'.blk k=some (.var l):=hm.2.1 (k,.var l) (by simp);obtain ⟨hl,hrep⟩:=ha.rep hi (zZ hm.1) hb';have hxa':=yC hi (yF hxa s' (yD hm.1));obtain ⟨b,arr,e,fz,q1,q2,q3,q4,q5,q6,q7⟩:=hi.vars k l hbk';have hev:a.eval x=.func (.func f) #[.pointer (some ⟨b,0,none⟩)] #[]:=by
   generalize a.eval x=z at hxa';cases hxa' with
   | fnv _ _ vs g1 g2=>
    have g3:=g2 0 (.ptr k 0) rfl;obtain ⟨y,hy⟩:∃ y,vs=#[y]:=by
     cases vs with
     | mk l=>
      match l with
      | [y]=>exact ⟨y,rfl⟩
      | []=>simp at g1
      | _ :: _ :: _=>simp at g1
    subst hy;have g4:(#[y]:Array Value).getD 0 undef=y:=rfl;rw [g4] at g3;cases g3 with
    | ptr _ _ b' _ g5 g6=>rw [q1] at g5;cases g5;simp only [mkF,hlt,cond_true]
  obtain ⟨c1,c2⟩:=fY (dP l cs bs0 hcs hbs') q5;have hmap:(#[W3 (some ⟨b,0,none⟩)]++xs.map a.eval++#[]).toList=.pointer (some ⟨b,0,none⟩) :: xl.map a.eval:=by simp [hxl]
  have hsz:(#[W3 (some ⟨b,0,none⟩)]++xs.map a.eval++#[]).size=ps.length+1:=by rw [<- hl,<- Qf,hmap];simp
  have hget0:(#[W3 (some ⟨b,0,none⟩)]++xs.map a.eval++#[])[0]? = some (.pointer (some ⟨b,0,none⟩)):=by rw [<- Array.getElem?_toList,hmap];rfl
  have hinv:=zJq (w:=w) (hi.globw hp) hi.mem hsz hget0 (λj p hj=>by
   have:=hrep j p hj;rw [Q0,<- Array.getElem?_toList,hmap];simpa using this) q2 q3 (by omega) c2 q6
  have hrun:(execOp a.eval o).run P w=.ok (.enter f (#[W3 (some ⟨b,0,none⟩)]++xs.map a.eval++#[])) w:=by
   obtain ⟨fn,h1,h2,h3⟩:=hok.1;have h2':fn.body≠none:=by intro e;simp [e] at h2
   have h3':fn.name ≠ "runtime.NumGoroutine":=by intro e;simp [e] at h3
   simp [execOp,ho,resolve,hev,W6,invoke,callFunc,h1,h2',h3']
  subst hn;unfold W5;rw [hrun];show Calls P f _ w _;refine (hok.2 w M [(0,b)] _ _ _ hinv (by intro k' hk';simp at hk';subst hk';exact ⟨by simp,hi.lt q1⟩)).mono ?_;rintro e' w' ⟨v,rfl,M',κ',tip',h0',hp',hr⟩;show K (a.put o.dst v) w';rw [hd];refine hk _ _ ?_;rw [zAs];have hfresh:∀ j∈blks.map (·.1),s'.blk (sh d j)=none:=λj hj=>by
   refine hm.2.2 (sh d j) ?_;obtain ⟨e,he,rfl⟩:=Qh.1 hj;exact Qh.2 ⟨e,he,rfl⟩
  have hD:∀ j∈((0,zG.var l') :: blks).map (·.1),j≠0->sh d j≠k:=by
   intro j hj hj0 hk';simp only [Qj,Q3] at hj;rcases hj with hj | hj
   ·exact hj0 hj
   ·have:=hfresh j hj;rw [hk',hbk'] at this;cases this
  obtain ⟨i1,i2⟩:=hi.import h0' hr (shp d k) (λj hj j' hj' h=>zPd d k hD hj hj' h)
   (by
    intro e' he';simp at he';subst he';exact ⟨(hp' (0,b) (by simp)).1,by simpa [shp] using q1,⟨l,by simpa [shp] using hbk'⟩,l',by simp [lk]⟩)
   (λj hj=>by
    simp only [Qj,Q3] at hj;by_cases hj0:j=0
    ·exact .inl ⟨b,by simp [hj0]⟩
    ·refine .inr ?_;have hb0:Qb j 0=false:=by rw [Qc];intro e;exact hj0 (Q1 e)
     simp only [shp,hb0,cond_false];exact hfresh j (hj.resolve_left hj0))
  obtain ⟨x,hx,hrx⟩:=hr.env 0 av (by simp [mkS,lk]);simp at hx;subst hx;refine ⟨M',_,_,h0.trans' h0',?_,i1.put (hws d (by simp [Qt])) (i2 av v hrx)⟩;intro k' hk';obtain ⟨h1,h2⟩:=hp k' hk';refine ⟨?_,h2⟩;cases hfk:fk (shp d k) (((0,zG.var l') :: blks).map (·.1)) k'.1 with
  | none=>exact h1
  | some j=>
   obtain ⟨hj,he⟩:=qT hfk;simp only;by_cases hj0:j=0
   ·subst hj0;simp only [shp] at he;rw [he] at h1;simp at h1;rw [q1] at h1;cases h1;exact (hp' (0,k'.2) (by simp)).1
   ·have hb0:Qb j 0=false:=by rw [Qc];intro e;exact hj0 (Q1 e)
    simp only [shp,hb0,cond_false] at he;simp only [Qj,Q3] at hj;have:=hfresh j (hj.resolve_left hj0);rw [he,hi.dom _ this] at h1;cases h1
 ·intro e he;simp only [Q3,Qv] at he;rcases he with he | he | he
  ·subst he;exact hbk
  ·exact dZ l cs bs0 hcs e he
  ·exact ha.reads.2 e he
theorem va_mkf {tl':List TypeId} {rs':LV} {bb':LB} (ho:o.op=.makeFunc (.func f) xs ys) (hxl:xs.toList=xl) (hyl:ys.toList=yl) (ha:mG s te xl tl ps rs bb) (hb:mG s te yl tl' qs rs' bb'):VA P o s (rs++rs') (bb++bb') (.p (.fn f ps qs)):=by
 refine ⟨?_,yH ha.reads.1 hb.reads.1,λe he=>(Qv.1 he).elim (ha.reads.2 e) (hb.reads.2 e)⟩;intro cx M κ tip s' a w hi hr hbb;obtain ⟨h1,h2⟩:=ha.rep hi (yD hr) (λe he=>hbb e (Qv.2 (.inl he)));obtain ⟨h3,h4⟩:=hb.rep hi (zZ hr) (λe he=>hbb e (Qv.2 (.inr he)));refine ⟨.func (.func f) (xs.map a.eval) (ys.map a.eval),by simp [execOp,ho,Instr.makeFunc],.p _ _ (.fn f ps qs _ _ (by rw [<- h1,<- hxl];simp) (by rw [<- h3,<- hyl];simp) (λj q hq=>?_) (λj q hq=>?_))⟩
 ·have:=h2 j q hq;rw [<- hxl] at this;rw [Q0];simpa using this
 ·have:=h4 j q hq;rw [<- hyl] at this;rw [Q0];simpa using this
theorem va_mkfA (ho:o.op=.makeFunc (.func f) #[x] #[]) (hx:s.get te tx x=some v) (hlt:Qi f 1000000=true):VA P o s (opS x v) [] (.fnv f [v]):=by
 refine ⟨?_,zK hx,by simp⟩;intro cx M κ tip s' a w hi hr _;have h1:=yC hi (yF hx s' hr);refine ⟨mkF f #[a.eval x],by simp [execOp,ho,Instr.makeFunc,mkF,hlt],.fnv f _ _ rfl (λj q hq=>?_)⟩;cases j with
 | zero=>simp at hq;subst hq;exact h1
 | succ j=>simp at hq
end
def gE (s:AS):LV->List (Option AV)
 | []=>[]
 | (t,_) :: r=>s.env t :: gE s r
def vE (ρ:AV->AV):LV->List (Option AV)
 | []=>[]
 | (_,v) :: r=>some (ρ v) :: vE ρ r
def gB (s:AS) (ρ:Nat->Nat):LB->List (Option zG)
 | []=>[]
 | (t,_) :: r=>s.blk (ρ t) :: gB s ρ r
def vB (ρ:zG->zG):LB->List (Option zG)
 | []=>[]
 | (_,v) :: r=>some (ρ v) :: vB ρ r
def rE (ρ:Nat->Nat):LV->LV
 | []=>[]
 | (t,v) :: r=>(t,v.ren ρ) :: rE ρ r
theorem zL4 (s:AS):∀ l,gE s l=l.map λe=>s.env e.1
 | []=>rfl
 | (_,_) :: r=>by simp [gE,zL4 s r]
theorem zL1 (ρ:AV->AV):∀ l,vE ρ l=l.map λe=>some (ρ e.2)
 | []=>rfl
 | (_,_) :: r=>by simp [vE,zL1 ρ r]
theorem zLd (s:AS) (ρ:Nat->Nat):∀ l,gB s ρ l=l.map λe=>s.blk (ρ e.1)
 | []=>rfl
 | (_,_) :: r=>by simp [gB,zLd s ρ r]
theorem zMc (ρ:zG->zG):∀ l,vB ρ l=l.map λe=>some (ρ e.2)
 | []=>rfl
 | (_,_) :: r=>by simp [vB,zMc ρ r]
theorem zSs (ρ:Nat->Nat):∀ l,rE ρ l=l.map λe=>(e.1,e.2.ren ρ)
 | []=>rfl
 | (_,_) :: r=>by simp [rE,zSs ρ r]
def swp:List (Nat×Nat)->List (Nat×Nat)
 | []=>[]
 | (a,b) :: r=>(b,a) :: swp r
theorem zK3:∀ (env:LV),env.map (λe=>s.env e.1)=env.map (λe=>some e.2)->zNy s env
 | [],_=>trivial
 | (t,v) :: r,h=>by
  simp only [Qj,List.cons.injEq] at h;exact ⟨h.1,zK3 r h.2⟩
theorem zKk:∀ (blk:LB),blk.map (λe=>s.blk e.1)=blk.map (λe=>some e.2)->zNx s blk
 | [],_=>trivial
 | (t,v) :: r,h=>by
  simp only [Qj,List.cons.injEq] at h;exact ⟨h.1,zKk r h.2⟩
theorem lp (hpk:PK cx ks) (he:gE s env=vE id env) (hb:gB s id blk=vB id blk) (h1:(fR (lk blk) env&&ks.all (λk=>(lk blk k).isSome))=true) (h2:rS (lk blk) blk=true):Imp cx.pk s (mkS env blk):=by
 simp only [Q4] at h1;rw [zL4,zL1] at he;rw [zLd,zMc] at hb;exact Imp.lep (Lep.mk' hpk (zK3 env he) (zKk blk hb) h1.1 h2 h1.2)
theorem cbv {r:LB} (h:pH B l=true) (k':rS B r=true):rS B ((k,.var l) :: r)=true:=by simp [rS,h,k']
theorem om {f:α->PV} {l:List α}:pH B (l.map λx=>AV.p (f x))=true:=zCk f l
theorem lr (hpk:PK cx ks) (m:List (Nat×Nat)) 
  (he:gE s env=vE (AV.ren (rho m)) env) (hb:gB s (rho m) blk=vB (zG.ren (rho m)) blk)
  (h1:(fR (lk (bR (rho m) blk)) (rE (rho m) env)&&(ks.all (λk=>(lk (bR (rho m) blk) k).isSome) &&
   (((kR (rho m) blk).all λj=>(kR (rho m) blk).all λj'=>!Nat.beq (rho (swp m) j) (rho (swp m) j')||Qb j j')&&ks.all λk=>Qb (rho (swp m) k) k)))=true)
  (h2:rS (lk (bR (rho m) blk)) (bR (rho m) blk)=true)
  (h3:rE (rho (swp m)) (rE (rho m) env)=env) (h4:bR (rho (swp m)) (bR (rho m) blk)=blk):Imp cx.pk s (mkS env blk):=by
 simp only [Q4] at h1;obtain ⟨g1,g2,g3,g4⟩:=h1;rw [zL4,zL1] at he;rw [zLd,zMc] at hb;have a1:=lp hpk (s:=s) (env:=rE (rho m) env) (blk:=bR (rho m) blk) (by rw [zL4,zL1,zSs];simpa using he) (by rw [zLd,zMc,zCg];simpa using hb) (by simp only [Q4];exact ⟨g1,g2⟩) h2;refine a1.trans ?_;rw [gI] at g3;have a2:=Imp.renK hpk (swp m) (env:=rE (rho m) env) (blks:=bR (rho m) blk) (by rw [zCg];simpa using g3) (by
  rw [Q9] at g4 g2 ⊢;intro k hk;simp only [Q4,List.any_eq_true];refine ⟨g4 k hk,k,?_,by simp⟩;obtain ⟨b,hb'⟩:=Qo.1 (g2 k hk);exact Qh.2 ⟨_,tU _ _ _ hb',rfl⟩)
 rw [<- zSs,<- zCg,h3,h4] at a2;exact a2
theorem rU {s:AS} {α:Type} {f:α->PV}:∀ {l:List α},s.rdL (l.map λx=>AV.p (f x))=some (l.map f,[])
 | []=>by simp [AS.rdL]
 | x :: r=>by simp [AS.rdL,AS.rd,rU (l:=r)]
theorem zM9 {f:α->PV} (hf:∀ a,(f a).cells=[f a]):∀ (l:List α),xG (l.map f)=l.map f
 | []=>rfl
 | x :: r=>by simp [xG,hf,zM9 hf r]
theorem zIl (l:By):fJ 1 (.bytes l) (l.map λx=>PV.int .u8 x.toNat):=.bytes l rfl
theorem aB {f:α->PV} (hf:∀ a,(f a).cells=[f a]) (l:List α):fJ 1 (.sl 1 (l.map f)) (l.map f):=by
 have:=zV8 (w:=1) (f:=f) l (λa=>by rw [hf a];rfl);rwa [zM9 hf] at this
def qC (B:NB) (k:Nat):LB->Bool
 | []=>true
 | (i,.var l) :: r=>(Qb i k||pH B l)&&qC B k r
 | (_,.buf _) :: r=>qC B k r
 | (_,.own _ l) :: r=>pH B l&&qC B k r
theorem cxv {i:Nat} {r:LB} (h:pH B l=true) (k':qC B k r=true):qC B k ((i,.var l) :: r)=true:=by simp [qC,h,k']
theorem cxk {r:LB} (k':qC B k r=true):qC B k ((k,.var l) :: r)=true:=by simp [qC,k']
theorem qC.mem:∀ {l:LB},qC B k l=true->∀ {t v},t≠k->(t,.var v)∈l->pH B v=true
 | (i,.var u) :: _,h,t,v,hne,hm=>by
  simp only [qC,Q4,Wi] at h;rcases Q3.1 hm with e | hm
  ·cases e;rcases h.1 with h1 | h1
   ·exact (hne (Q1 h1)).elim
   ·exact h1
  ·exact qC.mem h.2 hne hm
 | (i,.buf u) :: _,h,t,v,hne,hm=>by
  simp only [qC] at h;rcases Q3.1 hm with e | hm
  ·cases e
  ·exact qC.mem h hne hm
 | (i,.own w u) :: _,h,t,v,hne,hm=>by
  simp only [qC,Q4] at h;rcases Q3.1 hm with e | hm
  ·cases e
  ·exact qC.mem h.2 hne hm
theorem qC.memO:∀ {l:LB},qC B k l=true->∀ {t w v},(t,.own w v)∈l->pH B v=true
 | (i,.var u) :: _,h,t,w,v,hm=>by
  simp only [qC,Q4] at h;rcases Q3.1 hm with e | hm
  ·cases e
  ·exact qC.memO h.2 hm
 | (i,.buf u) :: _,h,t,w,v,hm=>by
  simp only [qC] at h;rcases Q3.1 hm with e | hm
  ·cases e
  ·exact qC.memO h hm
 | (i,.own w0 u) :: _,h,t,w,v,hm=>by
  simp only [qC,Q4] at h;rcases Q3.1 hm with e | hm
  ·cases e;exact h.1
  ·exact qC.memO h.2 hm
theorem cbo {i w:Nat} {r:LB} (h:pH B l=true) (k':rS B r=true):rS B ((i,.own w l) :: r)=true:=by simp [rS,h,k']
def zH5 (B:NB) (t:Nat):LV->Bool
 | []=>true
 | (u,v) :: r=>(Qb u t||v.oks B)&&zH5 B t r
theorem zH5.mem {t:Nat}:∀ {l:LV},zH5 B t l=true->∀ {u v},u≠t->(u,v)∈l->v.oks B=true
 | (i,x) :: _,h,u,v,hne,hm=>by
  simp only [zH5,Q4,Wi] at h;rcases Q3.1 hm with e | hm
  ·cases e;rcases h.1 with h1 | h1
   ·exact (hne (Q1 h1)).elim
   ·exact h1
  ·exact zH5.mem h.2 hne hm
section
theorem fzE (hpk:PK cx ks) (t:Nat) (he:lk env t=some (.ref k 0 n)) (hb:lk blk k=some (.var l)) (hrd:(mkS env blk).rdL l=some (cs,bs)) (hc:fJ w0 c cs) (hcn:c.len=n) (hw:Qi 0 w0=true) (hml:n<=140737488355328)
  (h1:(ks.all (λj=>!Nat.beq j k)&&zH5 (wW (lk blk) k) t env)=true) (h2:qC (wW (lk blk) k) k blk=true):Imp cx.pk (mkS env blk) (((mkS env blk).setb k (.buf c)).put t (.buf k n)):=by
 simp only [Q4] at h1;refine Imp.freeze (w0:=w0) he hb hrd hc hcn (by have:=Q2 hw;omega) (by simp only [maxLen];omega) (λe he' hk=>?_) (λu v hu h=>zH5.mem h1.2 hu (tU env u v h)) (λi li hi h=>qC.mem h2 hi (tU blk i _ h)) (λi w li h=>qC.memO h2 (tU blk i _ h));have:=(Q9.1 h1.1) e.1 (hpk e he');simp [hk] at this
theorem fzC (hpk:PK cx ks) (k2 j0:Nat) (he:lk blk k2=some (.var l2)) (hj0:l2[j0]? = some (.ref k 0 n)) (hb:lk blk k=some (.var l)) (hrd:(mkS env blk).rdL l=some (cs,bs)) (hc:fJ w0 c cs) (hcn:c.len=n) (hw:Qi 0 w0=true) (hml:n<=140737488355328)
  (h1:(ks.all (λj=>!Nat.beq j k)&&(!Nat.beq k2 k&&(fR (wW (lk blk) k) env&&pH (wW (lk blk) k) (l2.set j0 (.p .nilp)))))=true) (h2:qC (wW (lk blk) k) k (blk.filter λe=>!Nat.beq e.1 k2)=true):Imp cx.pk (mkS env blk) (((mkS env blk).setb k (.buf c)).setb k2 (.var (l2.set j0 (.buf k n)))):=by
 simp only [Q4] at h1;refine Imp.freezeC (w0:=w0) he hj0 (λe=>by have:=h1.2.1;simp [e] at this) hb hrd hc hcn (by have:=Q2 hw;omega) (by simp only [maxLen];omega) (λe he' hk=>?_) (λu v h=>fR.mem h1.2.2.1 (tU env u v h)) (λi li hi hi2 h=>qC.mem h2 hi (Wj.2 ⟨tU blk i _ h,?_⟩)) h1.2.2.2 (λi w li h=>qC.memO h2 (Wj.2 ⟨tU blk i _ h,?_⟩))
 ·have:=(Q9.1 h1.1) e.1 (hpk e he');simp [hk] at this
 ·have:Qb i k2=false:=by rw [Qc];intro e;exact hi2 (Q1 e)
  simp [this]
 ·have hne:i≠k2:=by rintro rfl;have h':lk blk i=some (.own w li):=h;rw [he] at h';cases h'
  have:Qb i k2=false:=by rw [Qc];intro e;exact hne (Q1 e)
  simp [this]
theorem zZq (hpk:PK cx ks) (t:Nat) (u:By) (hcn:u.length=n) (he:lk env t=some (.ref k 0 n)) (hb:lk blk k=some (.var l)) (hrd:(mkS env blk).rdL l=some (cs,bs)) (hc:fJ 1 (.bytes u) cs) (hml:n<=140737488355328)
  (h1:(ks.all (λj=>!Nat.beq j k)&&zH5 (wW (lk blk) k) t env)=true) (h2:qC (wW (lk blk) k) k blk=true):Imp cx.pk (mkS env blk) (((mkS env blk).setb k (.buf (.bytes u))).put t (.buf k u.length)):=by
 subst hcn;exact fzE hpk t he hb hrd hc rfl rfl hml h1 h2
theorem zXu (hpk:PK cx ks) (t:Nat) (f:α->PV) (u:List α) (hcn:u.length=n) (he:lk env t=some (.ref k 0 n)) (hb:lk blk k=some (.var l)) (hrd:(mkS env blk).rdL l=some (cs,bs)) (hc:fJ 1 (.sl 1 (u.map f)) cs) (hml:n<=140737488355328)
  (h1:(ks.all (λj=>!Nat.beq j k)&&zH5 (wW (lk blk) k) t env)=true) (h2:qC (wW (lk blk) k) k blk=true):Imp cx.pk (mkS env blk) (((mkS env blk).setb k (.buf (.sl 1 (u.map f)))).put t (.buf k u.length)):=by
 subst hcn;exact fzE hpk t he hb hrd hc (by simp [Qs]) rfl hml h1 h2
theorem fzCB (hpk:PK cx ks) (k2 j0:Nat) (u:By) (hcn:u.length=n) (he:lk blk k2=some (.var l2)) (hj0:l2[j0]? = some (.ref k 0 n)) (hb:lk blk k=some (.var l)) (hrd:(mkS env blk).rdL l=some (cs,bs)) (hc:fJ 1 (.bytes u) cs) (hml:n<=140737488355328)
  (h1:(ks.all (λj=>!Nat.beq j k)&&(!Nat.beq k2 k&&(fR (wW (lk blk) k) env&&pH (wW (lk blk) k) (l2.set j0 (.p .nilp)))))=true) (h2:qC (wW (lk blk) k) k (blk.filter λe=>!Nat.beq e.1 k2)=true):Imp cx.pk (mkS env blk) (((mkS env blk).setb k (.buf (.bytes u))).setb k2 (.var (l2.set j0 (.buf k u.length)))):=by
 subst hcn;exact fzC hpk k2 j0 he hj0 hb hrd hc rfl rfl hml h1 h2
theorem zQb (hpk:PK cx ks) (k2 j0:Nat) (f:α->PV) (u:List α) (hcn:u.length=n) (he:lk blk k2=some (.var l2)) (hj0:l2[j0]? = some (.ref k 0 n)) (hb:lk blk k=some (.var l)) (hrd:(mkS env blk).rdL l=some (cs,bs)) (hc:fJ 1 (.sl 1 (u.map f)) cs) (hml:n<=140737488355328)
  (h1:(ks.all (λj=>!Nat.beq j k)&&(!Nat.beq k2 k&&(fR (wW (lk blk) k) env&&pH (wW (lk blk) k) (l2.set j0 (.p .nilp)))))=true) (h2:qC (wW (lk blk) k) k (blk.filter λe=>!Nat.beq e.1 k2)=true):Imp cx.pk (mkS env blk) (((mkS env blk).setb k (.buf (.sl 1 (u.map f)))).setb k2 (.var (l2.set j0 (.buf k u.length)))):=by
 subst hcn;exact fzC hpk k2 j0 he hj0 hb hrd hc (by simp [Qs]) rfl hml h1 h2
theorem fxV (hpk:PK cx ks) (t:Nat) (c:PV) (he:lk env t=some (.ptr k 0)) (hb:lk blk k=some (.var l)) (hrd:(mkS env blk).rdL l=some (cs,bs)) (hc:c.cells=cs)
  (h1:(ks.all (λj=>!Nat.beq j k)&&zH5 (wW (lk blk) k) t env)=true) (h2:qC (wW (lk blk) k) k blk=true):Imp cx.pk (mkS env blk) (((mkS env blk).unb k).put t (.p (.cptr c))):=by
 simp only [Q4] at h1;refine Imp.fixV he hb hrd hc (λe he' hk=>?_) (λu v hu h=>zH5.mem h1.2 hu (tU env u v h)) (λi li hi h=>qC.mem h2 hi (tU blk i _ h)) (λi w li h=>qC.memO h2 (tU blk i _ h));have:=(Q9.1 h1.1) e.1 (hpk e he');simp [hk] at this
end
section
theorem va_cat {a b:By} (h:Nat.ble (a.length+b.length) 140737488355328=true) (ho:o.op=.binOp .add tx x y tyy) (hx:s.get te tx x=some (.p (.str a))) (hy:s.get te tyy y=some (.p (.str b))) :
  VA P o s (opS x (.p (.str a))++opS y (.p (.str b))) [] (.p (.str (a++b))):=by
 refine ⟨?_,yH (zK hx) (zK hy),by simp⟩;intro cx M κ tip s' ac w hi hr _;have h1:=iO (repA_pv (yC hi (yF hx s' (yD hr))));have h2:=iO (repA_pv (yC hi (yF hy s' (zZ hr))));refine ⟨.string ⟨(a++b).toArray⟩,?_,.p _ _ (.str _)⟩;have h3:=zN h;have h4:¬ ((9223372036854775807:Int)<((a.length:Int)+(b.length:Int))):=by omega
 simp [execOp,ho,h1,h2,eqGuard,binOp,Op.stringOp,zDe,h4];apply ByteArray.ext;simp [ByteArray.data_append]
theorem va_sliceC (hok:yR P te) {l:List PV} {w1:PV} (ho:o.op=.slice t x none none none) (ht:(te t).map (·.ty)=some (.arr n e)) (he:(te e).map (·.w)=some 1) (hx:s.get te t x=some (.p (.cptr (.agg l)))) (hn:l.length=n) (hn0:0<n) (hl:fJ 1 w1 l) (hwl:w1.len=n):VA P o s (opS x (.p (.cptr (.agg l)))) [] (.p w1):=by
 refine ⟨?_,zK hx,by simp⟩;intro cx M κ tip s' a w hi hr _;have h1:=repA_pv (yC hi (yF hx s' hr));generalize hev:a.eval x=z at h1;cases h1 with
 | cptr _ b off g1 g2=>
 obtain ⟨c1,c2,c3,c4⟩:=hl.cells (M:=M) (f:=λj=>mget M b (off+j)) (λj q hq=>g2 j q hq);obtain ⟨ei,he1,he2⟩:=Qq.1 he;have hu:=zD7 hok ht;refine ⟨.slice (some ⟨b,off,none⟩) n n,?_,.p _ _ ?_⟩
 ·have hn':¬ n=0:=by omega
  simp [execOp,ho,hev,Instr.sliceAt,Instr.sureAddr,Instr.sliceBounds,run_underlying hu,tA hok he1,Addr.add]
 ·have:=wV (M:=M) (M':=M) (b:=b) (o:=off) (cap:=n) c1 c2 (Mem.le_refl M) (λj hj=>?_) (by omega)
  ·rwa [hwl] at this
  ·rw [c3,Nat.mul_one,hwl,<- hn] at hj;have:=g1 j l[j] (by simp [PV.cells,hj]);obtain ⟨u,hu'⟩:=Qo.1 this;simp [mget,hu']
end
section
theorem zUu (hi:Inv cx M κ tip s' a w) {ww:Nat} (hy:s'.get te t' y=some (.ref k2 0 n)) (hk2:s'.blk k2=some (.var l2)) (hp:s'.rdL l2=some (cs,bs)) (hlit:fJ ww p cs) (hpn:p.len=n) (happ:c.app p=some rr) (hcw:c.width=ww) (hw0:0<ww) :
  ∃ news g,Src P w c.width p.src.len (a.eval y) news/\qV M p.src g/\∀ j,j<p.src.len*c.width->news[j]? = some (g j):=by
 have hr:=yC hi hy;obtain ⟨b,arr,e,fz,q1,q2,q3,q4,q5,q6,q7⟩:=hi.vars k2 l2 hk2;obtain ⟨r1,r2⟩:=fY hp q5;obtain ⟨c1,c2,c3,c4⟩:=hlit.cells r2;generalize hev:a.eval y=z at hr;cases hr with
 | ref _ _ _ b' l' g1 g2=>
 rw [q1] at g1;cases g1;have hps:p.src=p:=by cases p<;>simp [W9] at c2<;>rfl
 have hasz:arr.size=n*ww:=by rw [q4,<- r1,<- c4,hpn]
 rw [hps,hpn,hcw];refine ⟨arr.toList,λj=>arr.getD j undef,⟨λw'=>by simp [Wn],λw' hw'=>?_,by simp [hasz]⟩,c1,λj hj=>by
  rw [<- hasz] at hj;simp [hj]⟩
 refine run_firstCells_some (P:=P) w' ww n ⟨b,0,none⟩ n n _ (by simp [hasz]) ?_;intro j u hu;rw [add_off];refine hw' _ _ ?_;simp only [Qm,q2,Q5];simpa using hu
theorem sa_appR (hok:yR P te) (hd:o.dst=some d) (ho:o.op=.call { callee:=.builtin .append,args:=#[x,y],argTypes:=#[t,t'] })
  (ht:(te t).map (·.ty)=some (.slice e)) (he:te e=some ei) (ht':P.underlying t'=some dd) (hdd:bT dd) (hx:s.get te t x=some (.buf k c.len)) (hk:s.blk k=some (.buf c)) (hcw:c.width=ei.w) (hw0:0<ei.w) (hz:ei.z.length=ei.w) (hy:s.get te t' y=some (.ref k2 0 n)) (hk2:s.blk k2=some (.var l2)) (hp:s.rdL l2=some (cs,bs)) (hlit:fJ ei.w p cs) (hpn:p.len=n) (happ:c.app p=some rr)
  (hel:cM p=true) (hb:(c.len+p.src.len)*ei.b<=140737488355328) (hb1:0<ei.b) :
  SA P o s ⟨opS x (.buf k c.len)++opS y (.ref k2 0 n),(k,.buf c) :: (k2,.var l2) :: bs,[],some (d,some (.buf k rr.len)),[(k,.buf rr)]⟩:=by
 refine ⟨?_,yH (zK hx) (zK hy),?_,by intro k hk';simp at hk'⟩
 ·intro cx s' a w K Q hm hs hws hk';obtain ⟨M,κ,tip,h0,hpk,hi⟩:=hs;have hbk:=hm.2.1 (k,.buf c) (by simp);simp only at hbk;have hx':=yC hi (yF hx s' (yD hm.1));obtain ⟨q1,q2,q3,q4,q5,q6,q7⟩:=zEc happ;obtain ⟨b1,b2,b3,b4⟩:=hi.bufs k c hbk;have hevx:a.eval x=tip k:=by
   generalize a.eval x=zx at hx';cases hx' with
   | buf _ _ c' _ g1 g2 g3 g4 g5=>rw [hbk] at g1;cases g1;exact g5 rfl
  obtain ⟨news,g,n1,n2,n3⟩:=zUu (P:=P) hi (yF hy s' (zZ hm.1)) (hm.2.1 (k2,.var l2) (by simp)) (dP l2 cs bs hp (λe he=>hm.2.1 e (by simp [he]))) hlit hpn happ hcw hw0;obtain ⟨info,z,i1,i2,i3,i4,i5⟩:=(hok e ei he).info;have hu:=yS hok ht;have hlen:c.len+p.src.len<=140737488355328:=Qw (Qp _ hb1) hb;rw [hcw,<- i2] at n1;have hnl:news.length=p.src.len*ei.w:=by rw [n1.nl,i2]
  have hrw:rr.width=ei.w:=by omega
  have hzs:z.cells.size=ei.w:=by rw [<- Qf,i5];simpa using hz
  have hone:∀ u∈news,u.oneCell'=true:=by
   rcases zO6 happ with hsl | ⟨l,rfl⟩
   ·have hps:p.src=p:=by cases p<;>simp [W9] at hsl<;>rfl
    rw [hps] at n2 n3 hnl q5;exact zDf hsl (by omega) hw0 n2 hnl (λj hj=>n3 j (by rw [hcw];exact hj)) hel
   ·exact zDf (p:=.bytes l) rfl (by have h5:(1:Nat)=c.width:=q5;show (1:Nat)=ei.w;omega) hw0 n2 hnl (λj hj=>n3 j (by rw [hcw];exact hj)) rfl
  unfold W5;rcases b4 with ⟨hnil,hκ⟩ | ⟨b,n,cap,arr,e1,fz,htip,hκ,hbase,hheap,hfree,hcap,hml,hM⟩
  ·
   have hlen0:c.len=0:=by
    rw [hnil] at b1;rcases oM b1 b2 with ⟨_,h⟩ | ⟨b,o,n,cc,h,_⟩ | ⟨aa,h,_⟩
    ·exact h
    ·cases h
    ·cases h
   by_cases hm0:p.src.len=0
   ·rw [hm0] at n1;have hrun:=lG (P:=P) (ty:=o.type) hu ht' hdd i1 n1;rw [xJ ho (hevx.trans hnil) hrun];show K (a.put o.dst _) _;rw [hd];refine hk' _ _ ?_;rw [uH];have hrl:rr.len=0:=by omega
    have hrn:rr=c:=by
     have hps:p.src.len=0:=hm0;unfold PV.app at happ;split at happ
     ·rename_i aa bb;simp only [W1,Qs] at hps;have:bb=[]:=Q8 hps;subst this;simp at happ;exact happ.symm
     ·rename_i ww aa ww' bb;simp only [W1,Qs] at hps;have:bb=[]:=Q8 hps;subst this;cases hbq:Qb ww ww' with
      | false=>simp [hbq] at happ
      | true=>simp [hbq] at happ;exact happ.symm
     ·rename_i aa bb;simp only [W1,Qs] at hps;have:bb=[]:=Q8 hps;subst this;simp at happ;exact happ.symm
     ·cases happ
    subst hrn;have hset:s'.setb k (.buf rr)=s':=by
     cases s' with
     | mk env blk=>
      simp only [AS.setb];congr 1;funext t;by_cases ht:t=k
      ·subst ht;simp;exact hbk.symm
      ·have:Qb t k=false:=by rw [Qc];intro e;exact ht (Q1 e)
       simp [this]
    rw [hset];refine ⟨M,κ,tip,h0,hpk,hi.put (hws d (by simp [Qt])) ?_⟩;refine .buf k _ rr _ hbk b2 (Q6 _) ?_ (λ_=>hnil.symm);rw [sS b2,<- hnil];exact b1
   ·have hrun:=jJ (P:=P) (ty:=o.type) hu ht' hdd i1 i4 n1 (by omega) (by rw [i3];rw [hlen0,Q5] at hb;exact hb) (by omega);rw [xJ ho (hevx.trans hnil) hrun];show K (a.put o.dst _) _;rw [hd];refine hk' _ _ ?_;rw [uH];have hcells:=cG happ (nX q1 hlen0 (λ_=>undef)) n2;have hge:=grownCap_ge w p.src.len 0 e;have hrl:rr.len=p.src.len:=by omega
    have hsize:(news.toArray++Qe z.cells (grownCap w p.src.len 0 e - p.src.len)).size=grownCap w p.src.len 0 e*ei.w:=by
     simp only [Qd,Q7,size_zeroCells,hzs,hnl,<- Qr];congr 1;omega
    have hfit:p.src.len*ei.w<=grownCap w p.src.len 0 e*ei.w:=Qa _ hge;have hml:grownCap w p.src.len 0 e<=maxLen:=grownCap_le_maxLen w p.src.len 0 e (by simp only [maxLen];omega);have hrep:Rep (addM M w.heap.size 0 (p.src.len*rr.width) ((news.toArray++Qe z.cells (grownCap w p.src.len 0 e - p.src.len))[·]?)) rr (.slice (some ⟨w.heap.size,0,none⟩) p.src.len (grownCap w p.src.len 0 e)):=by
     have:=wV (M':=addM M w.heap.size 0 (p.src.len*rr.width) ((news.toArray++Qe z.cells (grownCap w p.src.len 0 e - p.src.len))[·]?)) (b:=w.heap.size) (o:=0) (cap:=grownCap w p.src.len 0 e) hcells q2 (addM_le λo _ _=>hi.mlt (Q6 _)) ?_ (by omega)
     ·rwa [hrl] at this
     intro j hj;rw [hrl] at hj;simp only [addM,Q5];rw [if_pos ⟨trivial,Qy _,hj⟩,hlen0];simp only [Nat.zero_mul,Nat.not_lt_zero,if_false,Nat.sub_zero];rw [hrw] at hj;have:=n3 j (by rw [hcw];exact hj);rw [Array.getElem?_append_left (by simp;omega)];simpa using this
    refine ⟨_,_,_,h0.trans' (addM_le λo _ _=>hi.mlt (Q6 _)),zGo hi hpk hbk _,(hi.bufNew (sL w _ e) (.inr ⟨c,hbk,by omega,q7⟩) q2 (by omega) ?_ ?_ hml hrep).put (hws d (by simp [Qt])) ?_⟩
    ·rw [hsize,hrw];exact hfit
    ·rw [hsize,hrw];exact Q6 _
    ·rw [hrl];refine .buf k _ rr _ (zY _ _ _) q2 (by omega) ?_ (λ_=>(yV _ _ _).symm);rw [<- hrl,sS q2,hrl];exact hrep
  ·rw [htip] at b1;have hn:n=c.len/\n<=cap:=by
    rcases oM b1 b2 with ⟨h,_⟩ | ⟨b',o',n',cc,h,h2,h3⟩ | ⟨aa,h,hpe⟩
    ·cases h
    ·cases h;exact ⟨h2,h3⟩
    ·cases h;rw [hpe];exact ⟨rfl,Q6 _⟩
   obtain ⟨hn,hcl⟩:=hn;subst hn;have hcells:=cG happ (zA6 b2 b1) n2;simp only [Q5] at hcells;have hsome:=zIp b2 b1 b3;simp only [Q5] at hsome;have hadd:(c.len+p.src.len)*ei.w=c.len*ei.w+p.src.len*ei.w:=Qr _ _ _;by_cases hroom:c.len+p.src.len<=cap
   ·have hfits:(c.len+p.src.len)*ei.w<=arr.size:=by rw [<- hcw];exact Qw (Qa _ hroom) hcap
    have hrun:=bL (P:=P) (ty:=o.type) hu ht' hdd i1 n1 (b:=b) (n:=c.len) (cap:=cap) hone hroom
     (by
       intro j hj;rw [i2];have:c.len*ei.w+j<arr.size:=by omega
       simp [Qm,hheap,this])
     (by intro j hj;rw [i2];exact rO hheap hfree (by omega))
    rw [xJ ho (hevx.trans htip) hrun];show K (a.put o.dst _) _;rw [hd];refine hk' _ _ ?_;rw [uH,i2,<- hcw];have hle:M.le (addM M b (c.len*c.width) ((c.len+p.src.len)*c.width) (λo=>news[o - c.len*c.width]?)):=addM_le λo h _=>hM o h;have hrep:Rep (addM M b (c.len*c.width) ((c.len+p.src.len)*c.width) (λo=>news[o - c.len*c.width]?)) rr (.slice (some ⟨b,0,none⟩) (c.len+p.src.len) cap):=by
     have:=wV (M':=addM M b (c.len*c.width) ((c.len+p.src.len)*c.width) (λo=>news[o - c.len*c.width]?)) (b:=b) (o:=0) (cap:=cap) hcells q2 hle ?_ (by omega)
     ·rwa [q6] at this
     intro j hj;rw [q6,q4] at hj;simp only [Q5];by_cases hjc:j<c.len*c.width
     ·rw [if_pos hjc];obtain ⟨u,hu⟩:=Qo.1 (hsome j hjc);rw [hle _ _ _ hu];simp [mget,hu]
     ·rw [if_neg hjc];simp only [addM];rw [if_pos ⟨trivial,by omega,hj⟩];exact n3 _ (by rw [hcw] at hj hjc ⊢;omega)
    refine ⟨_,_,_,h0.trans' hle,hpk,(hi.bufIn hbk htip hκ hbase hheap hfree hcap hml hM (by rw [hnl,hcw]) hroom q2 q4 (by omega) q7 (by omega) hrep).put (hws d (by simp [Qt])) ?_⟩;rw [q6];refine .buf k _ rr _ (zY _ _ _) q2 (by omega) ?_ (λ_=>(yV _ _ _).symm);rw [<- q6,sS q2,q6];exact hrep
   ·have hol:((W4 (c.len*ei.w)).map λj=>mget M b j).length=c.len*info.size:=by simp [i2]
    have hrun:=cQ (P:=P) (ty:=o.type) hu ht' hdd i1 i4 n1 (b:=b) (n:=c.len) (cap:=cap) (olds:=(W4 (c.len*ei.w)).map λj=>mget M b j) hol
     (by
      intro j u hu;rw [List.getElem?_map] at hu;obtain ⟨j',h1,h2⟩:=Qq.1 hu;have hj:j<c.len*ei.w:=by have:=(List.getElem?_eq_some_iff.1 h1).1;simpa using this
      have hjj:j'=j:=by have:=(List.getElem?_eq_some_iff.1 h1).2;simpa using this.symm
      subst hjj;obtain ⟨zz,hz⟩:=Qo.1 (hsome j' (by rw [hcw];exact hj));rw [hi.mem _ _ _ hz,<- h2];simp [mget,hz])
     (by omega) (by rw [i3];exact hb) (by omega)
    rw [xJ ho (hevx.trans htip) hrun];show K (a.put o.dst _) _;rw [hd];refine hk' _ _ ?_;rw [uH];have hge:=grownCap_ge w (c.len+p.src.len) cap e;have hml:grownCap w (c.len+p.src.len) cap e<=maxLen:=grownCap_le_maxLen w _ cap e (by simp only [maxLen];omega);generalize hA:(((W4 (c.len*ei.w)).map λj=>mget M b j).toArray++news.toArray++Qe z.cells (grownCap w (c.len+p.src.len) cap e - (c.len+p.src.len)))=A;have hsize:A.size=grownCap w (c.len+p.src.len) cap e*ei.w:=by
     rw [<- hA];simp only [Qd,Q7,Wk,List.length_range,size_zeroCells,hzs,hnl,<- Qr];congr 1;omega
    have hfit:(c.len+p.src.len)*ei.w<=grownCap w (c.len+p.src.len) cap e*ei.w:=Qa _ hge;have hget:∀ j,j<(c.len+p.src.len)*ei.w->A[j]? = some (if j<c.len*ei.w then mget M b j else g (j - c.len*ei.w)):=by
     intro j hj;rw [<- hA,Array.getElem?_append_left (by simp;omega)];by_cases hjc:j<c.len*ei.w
     ·rw [if_pos hjc,Array.getElem?_append_left (by simpa using hjc)];simp [hjc]
     ·rw [if_neg hjc,Array.getElem?_append_right (by simp;omega)];have:=n3 (j - c.len*ei.w) (by rw [hcw];omega);simpa using this
    have hle:M.le (addM M w.heap.size 0 ((c.len+p.src.len)*rr.width) (A[·]?)):=addM_le λo _ _=>hi.mlt (Q6 _);have hrep:Rep (addM M w.heap.size 0 ((c.len+p.src.len)*rr.width) (A[·]?)) rr (.slice (some ⟨w.heap.size,0,none⟩) (c.len+p.src.len) (grownCap w (c.len+p.src.len) cap e)):=by
     have:=wV (M':=addM M w.heap.size 0 ((c.len+p.src.len)*rr.width) (A[·]?)) (b:=w.heap.size) (o:=0) (cap:=grownCap w (c.len+p.src.len) cap e) hcells q2 hle ?_ (by omega)
     ·rwa [q6] at this
     intro j hj;rw [q6] at hj;simp only [addM,Q5];rw [if_pos ⟨trivial,Qy _,hj⟩];rw [hrw] at hj;rw [hget j hj,hcw]
    refine ⟨_,_,_,h0.trans' hle,zGo hi hpk hbk _,(hi.bufNew (sL w _ e) (.inr ⟨c,hbk,by omega,q7⟩) q2 (by omega) ?_ ?_ hml hrep).put (hws d (by simp [Qt])) ?_⟩
    ·rw [hsize,hrw];exact hfit
    ·rw [hsize,hrw];exact Q6 _
    ·rw [q6];refine .buf k _ rr _ (zY _ _ _) q2 (by omega) ?_ (λ_=>(yV _ _ _).symm);rw [<- q6,sS q2,q6];exact hrep
 ·intro e he;rcases Q3.1 he with he | he
  ·subst he;exact hk
  ·rcases Q3.1 he with he | he
   ·subst he;exact hk2
   ·exact dZ l2 cs bs hp e he
end
section
theorem sa_mkb {tl tc:TypeId} {n:Int} (hok:yR P te) (hd:o.dst=some d) (ho:o.op=.makeSlice t x y) (ht:(te t).map (·.ty)=some (.slice e)) (he:te e=some ei) (hz:ei.z.length=ei.w) (hw0:0<ei.w) (hx:s.get te tl x=some (.p (.int kl n))) (hy:s.get te tc y=some (.p (.int kc n)))
  (h0:0<=n) (hb:n.toNat*ei.b<=140737488355328) (hb1:0<ei.b) (hzs:∀ s:AS,s.rdL (sW ei.z n.toNat)=some (cs,[])) (hlit:fJ ei.w c cs) (hcl:c.len=n.toNat) (hk:s.blk d=none):SA P o s ⟨opS x (.p (.int kl n))++opS y (.p (.int kc n)),[],[d],some (d,some (.buf d n.toNat)),[(d,.buf c)]⟩:=by
 refine ⟨?_,yH (zK hx) (zK hy),by intro e he;simp at he,by intro k hk';simp at hk';subst hk';exact hk⟩;intro cx s' a w K Q hm hs hws hk';obtain ⟨M,κ,tip,h0',hp,hi⟩:=hs;have hbk:=hm.2.2 d (by simp);have h1:=rep_int (repA_pv (yC hi (yF hx s' (yD hm.1))));have h2:=rep_int (repA_pv (yC hi (yF hy s' (zZ hm.1))));obtain ⟨info,z,i1,i2,i3,i4,i5⟩:=(hok e ei he).info;have hu:=yS hok ht;have hlen:n.toNat<=n.toNat*ei.b:=Qp _ hb1;have hbi:(info.bytes:Int)*n<=281474976710656:=by
  rw [i3];have:((n.toNat*ei.b:Nat):Int)<=140737488355328:=by omega
  rw [Int.natCast_mul,Int.toNat_of_nonneg h0,Int.mul_comm] at this;omega
 have hrun:=run_make (P:=P) w t e info z hu i1 i4 kl kc n n h0 (Int.le_refl _) hbi (by omega);unfold W5;have:(execOp a.eval o).run P w=.ok (.value (.slice (some ⟨w.heap.size,0,none⟩) n.toNat n.toNat)) (w.alloc (.cells (madeCells z.cells (n.toNat*ei.w)) e)):=by
  rw [i2] at hrun;simp [execOp,ho,h1,h2,hrun]
 rw [this];show K (a.put o.dst _) _;rw [hd];refine hk' _ _ ?_;rw [uH];have hcr:=zBd hok he hz i1 i4 (M:=M) (κ:=κ) (tip:=tip) (B:=s'.blk) n.toNat;obtain ⟨r1,r2⟩:=fY (hzs s') hcr.2;obtain ⟨c1,c2,c3,c4⟩:=hlit.cells r2;have hle:M.le (addM M w.heap.size 0 (n.toNat*c.width) ((madeCells z.cells (n.toNat*ei.w))[·]?)):=addM_le λo _ _=>hi.mlt (Q6 _);have hrep:Rep (addM M w.heap.size 0 (n.toNat*c.width) ((madeCells z.cells (n.toNat*ei.w))[·]?)) c (.slice (some ⟨w.heap.size,0,none⟩) n.toNat n.toNat):=by
  have:=wV (M:=M) (M':=addM M w.heap.size 0 (n.toNat*c.width) ((madeCells z.cells (n.toNat*ei.w))[·]?)) (b:=w.heap.size) (o:=0) (cap:=n.toNat) c1 c2 hle ?_ (by omega)
  ·rwa [hcl] at this
  intro j hj;rw [hcl] at hj;simp only [addM,Q5];rw [if_pos ⟨trivial,Qy _,hj⟩];rw [c3] at hj;have:j<(madeCells z.cells (n.toNat*ei.w)).size:=by rw [size_madeCells];exact hj
  simp [this]
 refine ⟨_,_,_,h0'.trans' hle,zAt hi hp hbk _,(hi.bufNew (eS w _ e) (.inl hbk) c2 (by omega) (by rw [size_madeCells,c3];exact Q6 _) (by rw [size_madeCells,c3];exact Q6 _) (by simp only [maxLen];omega) hrep).put (hws d (by simp [Qt])) ?_⟩;refine .buf d _ c _ (zY _ _ _) c2 (by omega) ?_ (λ_=>(yV _ _ _).symm);rw [<- hcl,sS c2,hcl];exact hrep
theorem zSa {s:AS} {z:PV}:∀ (n:Nat),(z.nilOf=true->True)->s.rdL (sW [z] n)=some (Qg n z,[])
 | 0,_=>by simp [sW,AS.rdL]
 | n+1,h=>by
  have ih:=zSa (s:=s) (z:=z) n h;simp only [sW,Wb,Wf,Qj,Wo,W8] at ih ⊢;simp only [AS.rdL];have:s.rd (zA z)=some (z,[]):=by unfold zA;cases z.nilOf<;>simp [AS.rd]
  rw [this,ih];rfl
theorem zSn {f:α->PV} {x:α} (h:z=f x) (hn:z.nilOf=false):∀ (n:Nat),sW [z] n=(Qg n x).map λy=>AV.p (f y)
 | 0=>rfl
 | n+1=>by
  have ih:=zSn h hn n;simp only [sW,Wb,Wf,Qj,Wo,W8] at ih ⊢;rw [ih];have hz:zA z=AV.p (f x):=by unfold zA;rw [hn,h];rfl
  rw [hz]
def mkN (b:Nat) (n:Int):Option Nat:=if 0<=n/\n.toNat*b<=140737488355328 then some n.toNat else none
theorem zDi {n:Int} (h:mkN b n=some m):0<=n/\n.toNat*b<=140737488355328/\m=n.toNat:=by
 unfold mkN at h;split at h
 ·rename_i hc;cases h;exact ⟨hc.1,hc.2,rfl⟩
 ·cases h
def cpy (l m:List α):List α:=m.take l.length++l.drop m.length
theorem zQt {l m:By}:qM (l.map λx=>AV.p (.int .u8 x.toNat)) 0 ((m.take l.length).map λu=>AV.p (.int .u8 u.toNat))=(cpy l m).map λx=>AV.p (.int .u8 x.toNat):=by
 rw [jA (by simp;omega)];unfold cpy;simp only [List.take_zero,Wl,Q5,Wk,List.map_append,List.map_drop,List.length_take];congr 1;rcases Nat.le_total l.length m.length with h | h
 ·rw [Nat.min_eq_left h,W7 (by simp),W7 (by simp;omega)]
 ·rw [Nat.min_eq_right h]
end
section
variable [T:zAn P] 
theorem RK.cat {a b:By} (h:Nat.ble (a.length+b.length) 140737488355328=true) (hx0:(s.get T.te tx x,s.get T.te tyy y)=(some (.p (.str a)),some (.p (.str b)))) (k:VK P ops r s K d (opS x (.p (.str a))++opS y (.p (.str b))) ([]) (.p (.str (a++b)))):RK P ops (⟨some d,.binOp .add tx x y tyy,ty,pos,af,none⟩:: r) s K:=have ⟨hx,hy⟩:=pq hx0;RK.va rfl rfl (Go.Sw.va_cat h rfl hx hy) k
theorem RK.scB {l:By} (ht0:((T.te t).map (·.ty),(T.te e).map (·.w),s.get T.te t x)=(some (.arr n e),some 1,some (.p (.cptr (.agg (l.map λu=>PV.int .u8 u.toNat)))))) (hn:l.length=n) (hn0:Qi 0 n=true) (k:VK P ops r s K d (opS x (.p (.cptr (.agg (l.map λu=>PV.int .u8 u.toNat))))) ([]) (.p (.bytes l))):RK P ops (⟨some d,.slice t x none none none,ty,pos,af,none⟩:: r) s K:=have ⟨ht,ht0⟩:=pq ht0;have ⟨he,hx⟩:=pq ht0;RK.va rfl rfl (Go.Sw.va_sliceC T.ok rfl ht he hx (by simpa using hn) (by have:=Q2 hn0;omega) (zIl l) hn) k
theorem RK.scM (f:α->PV) {l:List α} (hf:∀ a,(f a).cells=[f a]) (ht0:((T.te t).map (·.ty),(T.te e).map (·.w),s.get T.te t x,l.length,Qi 0 n)=(some (.arr n e),some 1,some (.p (.cptr (.agg (l.map f)))),n,true)) (k:VK P ops r s K d (opS x (.p (.cptr (.agg (l.map f))))) ([]) (.p (.sl 1 (l.map f)))):RK P ops (⟨some d,.slice t x none none none,ty,pos,af,none⟩:: r) s K:=have ⟨ht,ht0⟩:=pq ht0;have ⟨he,ht0⟩:=pq ht0;have ⟨hx,ht0⟩:=pq ht0;have ⟨hn,hn0⟩:=pq ht0;RK.va rfl rfl (Go.Sw.va_sliceC T.ok rfl ht he hx (by simpa using hn) (by have:=Q2 hn0;omega) (aB hf l) (by simpa [Qs] using hn)) k
theorem RK.mr (f:α->PV) (u:α) {n:Int} (h:mkN b n=some m) (ht0:((T.te t).map (·.ty),T.te e,ei.b,Qi 0 b,ei.z.length,s.get T.te 0 x,s.get T.te 0 y,s.blk d,ei.z,(f u).nilOf)=(some (.slice e),some ei,b,true,ei.w,some (.p (.int kl n)),some (.p (.int kc n)),none,[f u],false)) (k:BK P ops r s K d (opS x (.p (.int kl n))++opS y (.p (.int kc n))) [] [d] d (.var ((Qg m u).map λy=>AV.p (f y))) (.ref d 0 m)):RK P ops (⟨some d,.makeSlice t x y,ty,pos,af,none⟩:: r) s K:=have ⟨ht,ht0⟩:=pq ht0;have ⟨he,ht0⟩:=pq ht0;have ⟨hb,ht0⟩:=pq ht0;have ⟨hb1,ht0⟩:=pq ht0;have ⟨hz,ht0⟩:=pq ht0;have ⟨hx,ht0⟩:=pq ht0;have ⟨hy,ht0⟩:=pq ht0;have ⟨hk,ht0⟩:=pq ht0;have ⟨hzz,hnil⟩:=pq ht0;by
 obtain ⟨h0,h1,rfl⟩:=zDi h;subst hb;have hb2:=Q2 hb1;have:=Go.Sw.sa_mkr (P:=P) (o:=⟨some d,.makeSlice t x y,ty,pos,af,none⟩) T.ok rfl rfl ht he hz hx hy h0 h1 (by omega) hk;rw [hzz,zSn rfl hnil] at this;exact RK.sb rfl this k
theorem RK.mrK (h:Nat.ble (m*b) 140737488355328=true) (ht:(T.te t).map (·.ty)=some (.slice e)) (he:T.te e=some ei) (hb:ei.b=b) (hb1:Qi 0 b=true) (hz:ei.z.length=ei.w) (hx:s.get T.te 0 x=some (.p (.int kl (m:Nat)))) (hy:s.get T.te 0 y=some (.p (.int kc (m:Nat)))) (hk:s.blk d=none) (k:BK P ops r s K d (opS x (.p (.int kl (m:Nat)))++opS y (.p (.int kc (m:Nat)))) [] [d] d (.var (sW ei.z m)) (.ref d 0 m)):RK P ops (⟨some d,.makeSlice t x y,ty,pos,af,none⟩:: r) s K:=by
 subst hb;have hb2:=Q2 hb1;exact RK.sb rfl (Go.Sw.sa_mkr (P:=P) (o:=⟨some d,.makeSlice t x y,ty,pos,af,none⟩) T.ok rfl rfl ht he hz hx hy (by omega) (by simpa using zN h) (by omega) hk) k
theorem RK.mk0 {n:Int} (h:mkN b n=some m) (ht0:((T.te t).map (·.ty),T.te e,ei.b,Qi 0 b,ei.z.length,s.get T.te 0 x,s.get T.te 0 y,s.blk d,ei.w,Qi 0 ei.w,c.nilOf)=(some (.slice e),some ei,b,true,ei.w,some (.p (.int kl 0)),some (.p (.int kc n)),none,c.width,true,true)) (k:BK P ops r s K d (opS x (.p (.int kl 0))++opS y (.p (.int kc n))) [] [d] d (.buf c) (.buf d 0)):RK P ops (⟨some d,.makeSlice t x y,ty,pos,af,none⟩:: r) s K:=have ⟨ht,ht0⟩:=pq ht0;have ⟨he,ht0⟩:=pq ht0;have ⟨hb,ht0⟩:=pq ht0;have ⟨hb1,ht0⟩:=pq ht0;have ⟨hz,ht0⟩:=pq ht0;have ⟨hx,ht0⟩:=pq ht0;have ⟨hy,ht0⟩:=pq ht0;have ⟨hk,ht0⟩:=pq ht0;have ⟨hw,ht0⟩:=pq ht0;have ⟨hw0,hc⟩:=pq ht0;by
 obtain ⟨h0,h1,rfl⟩:=zDi h;subst hb;have hb2:=Q2 hb1;have hw2:=Q2 hw0;exact RK.sb rfl (Go.Sw.sa_mk0 (P:=P) (o:=⟨some d,.makeSlice t x y,ty,pos,af,none⟩) T.ok rfl rfl ht he hz (by omega) hx hy h0 h1 (by omega) hc hw.symm hk) k
theorem RK.mbB {n:Int} (h:mkN b n=some m) (ht0:((T.te t).map (·.ty),T.te e,ei.b,Qi 0 b,ei.z.length,s.get T.te 0 x,s.get T.te 0 y,s.blk d,ei.z,ei.w)=(some (.slice e),some ei,b,true,ei.w,some (.p (.int kl n)),some (.p (.int kc n)),none,[.int .u8 0],1)) (k:BK P ops r s K d (opS x (.p (.int kl n))++opS y (.p (.int kc n))) [] [d] d (.buf (.bytes (Qg m 0))) (.buf d (Qg m (0:UInt8)).length)):RK P ops (⟨some d,.makeSlice t x y,ty,pos,af,none⟩:: r) s K:=have ⟨ht,ht0⟩:=pq ht0;have ⟨he,ht0⟩:=pq ht0;have ⟨hb,ht0⟩:=pq ht0;have ⟨hb1,ht0⟩:=pq ht0;have ⟨hz,ht0⟩:=pq ht0;have ⟨hx,ht0⟩:=pq ht0;have ⟨hy,ht0⟩:=pq ht0;have ⟨hk,ht0⟩:=pq ht0;have ⟨hzz,hw⟩:=pq ht0;by
 obtain ⟨h0,h1,rfl⟩:=zDi h;subst hb;have hb2:=Q2 hb1;rw [List.length_replicate] at k;have hl:fJ 1 (.bytes (Qg n.toNat (0:UInt8))) (Qg n.toNat (.int .u8 0)):=by
  have:=zIl (Qg n.toNat (0:UInt8));rw [List.map_replicate] at this;exact this
 exact RK.sb rfl (Go.Sw.sa_mkb (P:=P) (o:=⟨some d,.makeSlice t x y,ty,pos,af,none⟩) T.ok rfl rfl ht he hz (by omega) hx hy h0 h1 (by omega) (λs=>by rw [hzz];exact zSa _ (λ_=>trivial)) (by rw [hw];exact hl) (by simp [Qs]) hk) k
theorem RK.cpB {l m:By} (hn:l.length=n) (ht0:((T.te t).map (·.ty),T.te e,ei.w,s.get T.te t x,s.blk k0,s.get T.te t2 y,s.rd vy)=(some (.slice e),some ei,1,some (.ref k0 0 n),some (.var (l.map λx=>AV.p (.int .u8 x.toNat))),some vy,some (.bytes m,bs)))
  (k:BK P ops r s K d (opS x (.ref k0 0 n)++opS y vy) ((k0,.var (l.map λx=>AV.p (.int .u8 x.toNat))) :: bs) [] k0 (.var ((cpy l m).map λx=>AV.p (.int .u8 x.toNat))) (.p (.int .i64 (min m.length n:Nat)))):RK P ops (⟨some d,.call ⟨.builtin .copy,#[x,y],#[t,t2]⟩,ty,pos,af,none⟩:: r) s K:=have ⟨ht,ht0⟩:=pq ht0;have ⟨he,ht0⟩:=pq ht0;have ⟨hw,ht0⟩:=pq ht0;have ⟨hx,ht0⟩:=pq ht0;have ⟨hk,ht0⟩:=pq ht0;have ⟨hy,hp⟩:=pq ht0;by
 subst hn;have:=Go.Sw.sa_copy (P:=P) (o:=⟨some d,.call ⟨.builtin .copy,#[x,y],#[t,t2]⟩,ty,pos,af,none⟩) T.ok rfl rfl ht he hw hx hk (by simp) hy hp;rw [zQt] at this;exact RK.sb rfl this k
theorem RK.apR (f:α->PV) {e2:TypeId} {l m u:List α} (hf:∀ a,(f a).cells=[f a]) (h:yN b l m=some u) (ht0:((T.te t).map (·.ty),T.te e,(T.te t2).map (·.ty),s.get T.te t x,s.blk k0,1,ei.z.length,s.get T.te t2 y,s.blk k2)=(some (.slice e),some ei,some (.slice e2),some (.buf k0 l.length),some (.buf (.sl 1 (l.map f))),ei.w,ei.w,some (.ref k2 0 n),some (.var (m.map λx=>AV.p (f x))))) (hn:m.length=n) (hone:∀ a,(f a).cells.all PV.one=true) (hb0:(ei.b,Qi 0 b)=(b,true)) (k:BK P ops r s K d (opS x (.buf k0 (PV.sl 1 (l.map f)).len)++opS y (.ref k2 0 n)) ((k0,.buf (.sl 1 (l.map f))) :: (k2,.var (m.map λx=>AV.p (f x))) :: []) ([]) (k0) (.buf (.sl 1 (u.map f))) (.buf k0 (PV.sl 1 (u.map f)).len)):RK P ops (⟨some d,.call ⟨.builtin .append,#[x,y],#[t,t2]⟩,ty,pos,af,none⟩:: r) s K:=have ⟨ht,ht0⟩:=pq ht0;have ⟨he,ht0⟩:=pq ht0;have ⟨ht2,ht0⟩:=pq ht0;have ⟨hx,ht0⟩:=pq ht0;have ⟨hk,ht0⟩:=pq ht0;have ⟨hcw,ht0⟩:=pq ht0;have ⟨hz,ht0⟩:=pq ht0;have ⟨hy,hk2⟩:=pq ht0;have ⟨hb,hb1⟩:=pq hb0;RK.sb rfl (Go.Sw.sa_appR (c:=.sl 1 (l.map f)) T.ok rfl rfl ht he (yS T.ok ht2) (.inr ⟨_,rfl⟩) (by simpa [Qs] using hx) hk hcw (by omega) hz hy hk2 rU (by rw [<- hcw];exact aB hf m) (by simpa [Qs] using hn) (appM h) (oneM hone) (by subst hb;have:=zPf h;simpa [Qs,W1] using this) (by subst hb;have:=Q2 hb1;omega)) k
theorem RK.mf {tl2:List TypeId} {rs2:LV} {bb2:LB} (hxl0:(xs.toList,ys.toList)=(xl,yl)) (ha:mG s T.te xl tl ps rs bb) (hb:mG s T.te yl tl2 qs rs2 bb2) (k:VK P ops r s K d (rs++rs2) (bb++bb2) (.p (.fn f ps qs))):RK P ops (⟨some d,.makeFunc (.func f) xs ys,ty,pos,af,none⟩:: r) s K:=have ⟨hxl,hyl⟩:=pq hxl0;RK.va rfl rfl (Go.Sw.va_mkf rfl hxl hyl ha hb) k
theorem RK.mfA (hx0:(s.get T.te 0 x,Qi f 1000000)=(some v,true)) (k:VK P ops r s K d (opS x v) ([]) (.fnv f [v])):RK P ops (⟨some d,.makeFunc (.func f) #[x] #[],ty,pos,af,none⟩:: r) s K:=have ⟨hx,hlt⟩:=pq hx0;RK.va rfl rfl (Go.Sw.va_mkfA rfl hx hlt) k
theorem RK.cf {tx:TypeId} (h:Ok P f na (mkS (argE 0 (fs++(ps++cs))) []) (mkS [(0,av)] blks)) (hx0:(s.get T.te 0 x,xs.toList,ts.toList)=(some (.p (.fn f fs cs)),xl,tl)) (ha:mG s T.te xl tl ps rs bb) (hn0:(Qb na (fs++(ps++cs)).length,(kR (sh d) blks).all (λk=>(s.blk k).isNone))=(true,true))
  (k:RK P ops r (Mic.upd ⟨opS x (.p (.fn f fs cs))++rs,bb,kR (sh d) blks,some (d,some (av.ren (sh d))),bR (sh d) blks⟩ s) λs' ms=>K s' (⟨opS x (.p (.fn f fs cs))++rs,bb,kR (sh d) blks,some (d,some (av.ren (sh d))),bR (sh d) blks⟩:: ms)):RK P ops (⟨some d,.call ⟨.value x,xs,ts⟩,ty,pos,af,none⟩:: r) s K:=have ⟨hx,hx0⟩:=pq hx0;have ⟨hxl,htl⟩:=pq hx0;have ⟨hn,hf⟩:=pq hn0;
 by
 rw [gI,zCg] at k;rw [gI] at hf;exact RK.st rfl (Go.Sw.sa_callf rfl rfl hx h hxl htl ha (Q1 hn) (λk hk=>by simpa using (Q9.1 hf) k hk)) k
theorem RK.cpf {tx:TypeId} (h:Ok P f na (mkS ((0,.ptr 0 0) :: argE 1 ps) [(0,.var (cs.map .p))]) (mkS [(0,av)] ((0,.var l') :: blks))) (hx0:(s.get T.te 0 x,xs.toList,ts.toList,s.blk k0,s.rdL l)=(some (.fnv f [.ptr k0 0]),xl,tl,some (.var l),some (cs,bs0))) (ha:mG s T.te xl tl ps rs bb) (hn0:(Qb na (ps.length+1),(kR (sh d) blks).all (λk=>(s.blk k).isNone),blks.all (λe=>!Nat.beq e.1 0),Qi f 1000000)=(true,true,true,true))
  (k:RK P ops r (Mic.upd ⟨opS x (.fnv f [.ptr k0 0])++rs,(k0,.var l) :: (bs0++bb),kR (sh d) blks,some (d,some (av.ren (shp d k0))),bR (shp d k0) ((0,.var l') :: blks)⟩ s) λs' ms=>K s' (⟨opS x (.fnv f [.ptr k0 0])++rs,(k0,.var l) :: (bs0++bb),kR (sh d) blks,some (d,some (av.ren (shp d k0))),bR (shp d k0) ((0,.var l') :: blks)⟩:: ms)):RK P ops (⟨some d,.call ⟨.value x,xs,ts⟩,ty,pos,af,none⟩:: r) s K:=have ⟨hx,hx0⟩:=pq hx0;have ⟨hxl,hx0⟩:=pq hx0;have ⟨htl,hx0⟩:=pq hx0;have ⟨hbk,hcs⟩:=pq hx0;have ⟨hn,hn0⟩:=pq hn0;have ⟨hf,hn0⟩:=pq hn0;have ⟨hne,hlt⟩:=pq hn0;
 by
 rw [gI,zCg] at k;rw [gI] at hf;exact RK.st rfl (Go.Sw.sa_callpf rfl rfl hx h hxl htl hbk hcs ha (Q1 hn) (λk hk=>by simpa using (Q9.1 hf) k hk) (λe he h0=>by have:=(Q9.1 hne) e he;simp [h0] at this) hlt) k
end
abbrev qI (n:Int):AV:=.p (.int .i64 n)
abbrev qU (x:UInt8):AV:=.p (.int .u8 x.toNat)
abbrev qB (b:Bool):AV:=.p (.bool b)
abbrev qY (l:By):AV:=.p (.bytes l)
abbrev qZ (l:By):AV:=.p (.str l)
abbrev qL (w:Nat) (f:α->PV) (l:List α):AV:=.p (.sl w (l.map f))
abbrev qA (f:α->PV) (l:List α):zG:=.var (l.map λx=>AV.p (f x))
section
theorem jn {c:Code} (j:J) (f:J->Exit×AS) (h:awp P cx c (OQ cx f j) s) (k:Q (f j).1 (f j).2):awp P cx c Q s:=cR f j h k
theorem sq {x y:Code} (h:awp P cx x (zIj (awp P cx y Q) Q) s):awp P cx (.seq x y) Q s:=zOr h
theorem im {c:Code} (hl:Imp cx.pk s s') (h:awp P cx c Q s'):awp P cx c Q s:=zO2 hl h
end
def lA8:List α->Option (A8 α) | [a,b,c,d,e,f,g,h]=>some ⟨a,b,c,d,e,f,g,h⟩ | _=>none
theorem zSp {l:List α} {r:A8 α} (h:lA8 l=some r):l=[r.a0,r.a1,r.a2,r.a3,r.a4,r.a5,r.a6,r.a7]:=by unfold lA8 at h;split at h<;>cases h;rfl
theorem nz {b:Int} (h:(!(b==0))=true):(b==0)=false:=by simpa using h
theorem jH {l:List α} (h:Qb l.length n=true):l.length=n:=Q1 h
theorem xB {ρ:Nat->Nat} {α:Type} {f:α->PV}:∀ {l:List α},iF ρ (l.map λx=>AV.p (f x))=l.map λx=>AV.p (f x)
 | []=>rfl
 | x :: r=>by simp only [Qj,iF,AV.ren];rw [xB (l:=r)]
theorem tI {s'':AS} (h:Imp pk s s') (k:Imp pk s' s''):Imp pk s s'':=Imp.trans h k
section
def OR (cx:Ctx) (E:AS) (e:Exit) (s:AS):Prop:=(e=.ret∨e=.normal)/\Imp cx.pk s E
theorem zS7 {body:Code} {as rs:AS} (E:AS) (hf:P.funcs[f]? = some fn) (hb:fn.body=some body) (hnm:(fn.name == "runtime.NumGoroutine")=false) (hnt:na<=fn.ntmps) (hks:∀ k,(as.blk k).isSome=true->k∈ks)
  (hr:∀ cx:Ctx,PK cx ks->qH P fn cx E rs) (h:∀ cx:Ctx,cx.nt=fn.ntmps->PK cx ks->awp P cx body (OR cx E) as):Ok P f na as rs:=
 zJe hf hb hnm hnt hks λcx h1 h2 a w hs=>wp_mono (h cx h1 h2 a w hs) λe a' w' ⟨s',g1,g2,g3⟩ =>⟨E,g3 cx a' w' rfl g1,g2,hr cx h2⟩
end
section
variable {bx:LB} {k:IntKind}
end
section
variable [T:zAn P] {k0:IntKind} {bx:LB} 
end
theorem scq {c:Code} {f:J->Exit×AS} {j:J} (hne:∀ y l,(f y).1≠.goto l) (h:awp P cx c (OQ cx f j) s):awp P cx (.scope c) (OQ cx f j) s:=
 zQ6 h λl s hq=>hne j l hq.1.symm
section
theorem zQ4 {ta:TypeId} (hok:yR P te) (hd:o.dst=none) (ho:o.op=.store t ax x) (ht:te t=some i) (ha:s.get te ta ax=some (.ptr k off)) (hx:s.get te t x=some v) (hp0:s.rd v=some (p,bs)) (hb:s.blk k=some (.var l))
  (hw:(AV.p p).cells.length=i.w) (hl:off+i.w<=l.length) (hone:(AV.p p).cells.all AV.one=true):SA P o s ⟨opS ax (.ptr k off)++opS x v,(k,.var l) :: bs,[],none,[(k,.var (qM l off (AV.p p).cells))]⟩:=by
 refine ⟨?_,yH (zK ha) (zK hx),λe he=>(Q3.1 he).elim (λh=>by subst h;exact hb) (tD v p bs hp0 e),by intro e he;simp at he⟩;intro cx s' a w K Q hm hs hws hk;obtain ⟨M,κ,tip,h0,hp,hi⟩:=hs;have hbk:=hm.2.1 (k,.var l) (by simp);have hx':RepA M κ tip s'.blk (.p p) (a.eval x):=.p _ _ (hJ hi hx hp0 (zZ hm.1) (λe he=>hm.2.1 e (by simp [he])));have ha':=yC hi (yF ha s' (yD hm.1));obtain ⟨hc1,hc2⟩:=cE hx';obtain ⟨b,arr,e,fz,h1,h2,h3,h4,h5,h6,h7⟩:=hi.vars k l hbk;generalize hev:a.eval ax=z at ha';cases ha' with
 | ptr k o b' l' hk' hl'=>
  rw [h1] at hk';cases hk';have hsz:(a.eval x).cells.toList.length=(AV.p p).cells.length:=by simp [hc1]
  have hrun:=run_storeCells_cells (P:=P) b off (a.eval x).cells.toList 0 w
   (by
     intro j hj;rw [hsz] at hj;have:off+j<arr.size:=by omega
     simp [Qm,h2,this])
   (by intro j hj;rw [hsz] at hj;simp only [We];exact rO h2 h3 (by omega))
   (by
    intro u hu;obtain ⟨j,hj,hju⟩:=Qx hu;have hjl:j<(AV.p p).cells.length:=by omega
    have hq:=hc2 j (AV.p p).cells[j] (by simp);have hjs:j<(a.eval x).cells.size:=by omega
    have:(a.eval x).cells.getD j undef=u:=by simp [hjs];simpa using hju
    rw [this] at hq;exact zDh hq ((Q9.1 hone) _ (Wg _)))
  unfold W5;have:(execOp a.eval o).run P w=.ok .skip (w.setCells b off (a.eval x).cells.toList):=by
   simp only [We] at hrun;have hcs:¬ ((a.eval x).cells.size≠i.w):=by rw [hc1,hw];simp
   simp [execOp,ho,hev,Instr.storeAt,Instr.sureAddr,storeVar,tA hok ht,hcs,hrun]
  rw [this];show K (a.put o.dst undef) _;rw [hd];refine hk _ _ ?_;rw [zBa];refine ⟨M,κ,tip,h0,hp,hi.setVar hbk h1 (by omega) hsz ?_⟩;intro j q hq;have:=hc2 j q hq;rw [Q0] at this;simpa using this
end
section
variable [T:zAn P] 
theorem RK.stP {f:α->PV} {j:Nat} {l l':List α} {u:α} (h:sN l j u=some l') (ht0:(T.te t,s.get T.te 0 ax)=(some i,some (.ptr k0 off))) (hj:off=j) (hx:s.get T.te t x=some v) (hp:s.rd v=some (f u,bs)) (hb0:(s.blk k0,i.w,(AV.p (f u)).cells,(AV.p (f u)).one)=(some (.var (l.map λx=>AV.p (f x))),1,[AV.p (f u)],true)) (k:RK P ops r (s.setb k0 (.var (l'.map λx=>AV.p (f x)))) λs' ms=>K s' (⟨opS ax (.ptr k0 off)++opS x v,(k0,.var (l.map λx=>AV.p (f x))) :: bs,[],none,[(k0,.var (l'.map λx=>AV.p (f x)))]⟩:: ms)):RK P ops (⟨none,.store t ax x,ty,pos,af,none⟩:: r) s K:=have ⟨ht,ha⟩:=pq ht0;have ⟨hb,hb0⟩:=pq hb0;have ⟨hw,hb0⟩:=pq hb0;have ⟨hf,hone⟩:=pq hb0;by
 refine RK.so rfl ?_ k;subst hj;obtain ⟨h1,h2⟩:=zBn h;have:=zQ4 (P:=P) (o:=⟨none,.store t ax x,ty,pos,af,none⟩) T.ok rfl rfl ht ha hx hp hb (by simp [hf,hw]) (by rw [hw];simpa using Nat.succ_le_of_lt h1) (by simp [hf,hone]);rw [hf,zFa (by simpa using h1)] at this;have e:(l.map λx=>AV.p (f x)).set off (AV.p (f u))=l'.map λx=>AV.p (f x):=by rw [h2,List.map_set]
 rw [e] at this;exact this
theorem RK.iaE {i:Int} (j:Nat) (h:(i==(j:Int))=true) (ht0:((T.te t).map (·.ty),T.te e,s.get T.te t x,s.get T.te 0 y,Qi j n)=(some (.arr n e),some ei,some (.ptr k0 off),some (.p (.int .i64 i)),true))
  (k:VK P ops r s K d (opS x (.ptr k0 off)++opS y (.p (.int .i64 i))) [] (.ptr k0 (off+j*ei.w))):RK P ops (⟨some d,.indexAddr t x y,ty,pos,af,none⟩:: r) s K:=have ⟨ht,ht0⟩:=pq ht0;have ⟨he,ht0⟩:=pq ht0;have ⟨hx,ht0⟩:=pq ht0;have ⟨hy,h1⟩:=pq ht0;by
 have e:i=(j:Int):=by simpa using h
 subst e;exact RK.va rfl rfl (Go.Sw.iaK T.ok rfl ht he hx hy h1) k
theorem RK.stB {f:α->PV} {l0:List α} (hlen:l0.length=i.w) (ht0:(T.te t,s.get T.te 0 ax,s.get T.te t x,s.blk k0,i.w)=(some i,some (.ptr k0 0),some (.p (.agg (l0.map f))),some (.var l),l.length)) (hone:∀ a,(f a).one=true)
  (k:RK P ops r (s.setb k0 (.var (l0.map λx=>AV.p (f x)))) λs' ms=>K s' (⟨opS ax (.ptr k0 0)++opS x (.p (.agg (l0.map f))),[(k0,.var l)],[],none,[(k0,.var (l0.map λx=>AV.p (f x)))]⟩:: ms)):RK P ops (⟨none,.store t ax x,ty,pos,af,none⟩:: r) s K:=have ⟨ht,ht0⟩:=pq ht0;have ⟨ha,ht0⟩:=pq ht0;have ⟨hx,ht0⟩:=pq ht0;have ⟨hb,hl⟩:=pq ht0;by
 refine RK.so rfl ?_ k;have hc:(AV.p (.agg (l0.map f))).cells=l0.map λx=>AV.p (f x):=by simp [AV.cells]
 have:=Go.Sw.sa_store (P:=P) (o:=⟨none,.store t ax x,ty,pos,af,none⟩) T.ok rfl rfl ht ha hx hb (by simp [hc,hlen]) (by omega) (by simp [hc,AV.one,hone]);rw [hc] at this;have e:qM l 0 (l0.map λx=>AV.p (f x))=l0.map λx=>AV.p (f x):=by rw [jA (by simp;omega)];simp [hlen,hl]
 rw [e] at this;exact this
end
theorem zJx {P:Program} {w:World} {b:Nat}:∀ (l:By) (o:Nat) (r:ByteArray),(∀ (i:Nat) (x:UInt8),l[i]? = some x->w.cell? ⟨b,o+i,none⟩=some (.int .u8 x.toNat)) ->
  (Qu ⟨b,o,none⟩ l.length r).run P w=.ok ⟨r.data++l.toArray⟩ w
 | [],o,r,_=>by simp [Qu]
 | u :: l,o,r,h=>by
  have h0:=h 0 u rfl;simp only [We] at h0;have h1:=zJx (P:=P) (w:=w) (b:=b) l (o+1) (r.push u) (λi x hx=>by have:=h (i+1) x (by simpa using hx);rw [show o+1+i=o+(i+1) by omega];exact this);simp only [List.length_cons,Qu];rw [Sem.run_bind,run_load,h0];simp only [Result.andThen];have e:(u.toNat:Int).toNat.toUInt8=u:=by simp
  rw [e];have e2:(⟨b,o,none⟩:Addr).add 1=⟨b,o+1,none⟩:=by simp [Addr.add]
  rw [e2,h1];congr 1;apply ByteArray.ext;simp [ByteArray.push]
theorem zLs {l:By} {x:Value} (h:Rep M (.bytes l) x) (hm:∀ b o x,M b o=some x->w.cell? ⟨b,o,none⟩=some x) :
  (Ql x).run P w=.ok ⟨l.toArray⟩ w:=by
 cases h with
 | bytes0=>rfl
 | bytesE a=>rfl
 | bytes l b o n c h1 h2 h3=>
  subst h1;have:=zJx (P:=P) (w:=w) (b:=b) l o .empty (λi x hx=>hm _ _ _ (h3 i x hx));simp only [Ql];rw [this];have he:ByteArray.empty.data=#[]:=rfl;simp [he]
def PV.byl:PV->Option By
 | .str l=>some l
 | .bytes l=>some l
 | _=>none
theorem zKi {l:By} {x:Value} (hp:p.byl=some l) (h:Rep M p x) (hm:∀ b o x,M b o=some x->w.cell? ⟨b,o,none⟩=some x) :
  (Ql x).run P w=.ok ⟨l.toArray⟩ w:=by
 unfold PV.byl at hp;split at hp
 ·cases hp;rw [iO h];rfl
 ·cases hp;exact zLs h hm
 ·cases hp
theorem zRe {x:Value} {a:ByteArray} {c:Int} (hx:(Ql x).run P w=.ok a w) :
  (Qn #[x,.int .u8 c]).run P w=.ok (.int .i64 (Lib.indexByte a.data.toList c.toNat.toUInt8)) w:=by
 change Sem.run P (do
  let b <- Ql x;let c' <- Wc (.int .u8 c)
  match (W4 b.size).find? λi=>b[i]! == c' with
  | some i=>pure (goInt i)
  | none=>pure (goInt (-1))) w=_
 rw [<- Lib.firstIdx_eq];simp only [Wc,firstIdx,Sem.run_bind,hx,Sem.run_pure,Result.andThen];cases List.find? (λi=>a[i]! == c.toNat.toUInt8) (W4 a.size)<;>simp [goInt]
section
variable {v':AV} {p':PV} {bs':LB} {l l':By} 
theorem zXq {c:Int} (hf:P.funcs[f]? = some fn) (hname:(fn.name == "runtime.NumGoroutine")=false) (hb:fn.body.isNone=true) (hn:Extern.findNext fn=none) (he:Extern.find fn=some Qn)
  (ho:o.op=.call { callee:=.value (.func f),args:=#[x,y],argTypes:=#[t,t'] })
  (hx:s.get te t x=some v) (hp:s.rd v=some (p,bs)) (hl:p.byl=some l) (hy:s.get te t' y=some (.p (.int .u8 c))) :
  VA P o s (opS x v++opS y (.p (.int .u8 c))) bs (.p (.int .i64 (Lib.indexByte l c.toNat.toUInt8))):=by
 refine ⟨?_,yH (zK hx) (zK hy),tD v _ bs hp⟩;intro cx M κ tip s' a w hin hr hbk;have h1:=zKi (P:=P) hl (hJ hin hx hp (yD hr) hbk) hin.mem;have h2:=rep_int (repA_pv (yC hin (yF hy s' (zZ hr))));refine ⟨_,?_,.p _ _ (.int _ _)⟩;have h3:=run_callFunc_extern hf hname hb hn he #[a.eval x,a.eval y] w;rw [h2,zRe h1] at h3;rw [<- h2] at h3;simpa [execOp,ho,resolve,Act.eval,W6,invoke,Result.andThen] using h3
def Ext (P:Program) (f:FuncId) (e:Array Value->Sem Value):Prop:=∃ fn,P.funcs[f]? = some fn/\(fn.name == "runtime.NumGoroutine")=false/\fn.body.isNone=true/\Extern.findNext fn=none/\Extern.find fn=some e
variable [T:zAn P]
theorem RK.ibx {c:UInt8} (h:Ext P f Qn) (hx0:(s.get T.te t x,s.rd v,p.byl,s.get T.te t' y)=(some v,some (p,bs),some l,some (.p (.int .u8 c.toNat))))
  (k:VK P ops r s K d (opS x v++opS y (.p (.int .u8 c.toNat))) bs (.p (.int .i64 (Lib.indexByte l c)))):RK P ops (⟨some d,.call { callee:=.value (.func f),args:=#[x,y],argTypes:=#[t,t'] },ty,pos,af,none⟩:: r) s K:=have ⟨hx,hx0⟩:=pq hx0;have ⟨hp,hx0⟩:=pq hx0;have ⟨hl,hy⟩:=pq hx0;by
 obtain ⟨fn,h1,h2,h3,h4,h5⟩:=h;have:=zXq (o:=⟨some d,.call { callee:=.value (.func f),args:=#[x,y],argTypes:=#[t,t'] },ty,pos,af,none⟩) h1 h2 h3 h4 h5 rfl hx hp hl hy;rw [show ((c.toNat:Int).toNat.toUInt8)=c by simp] at this;exact RK.va rfl rfl this k
end
section
variable {w':World}
theorem zTt (hi:Inv cx M κ tip s a w) (hp:∀ k∈cx.pk,κ k.1=some k.2/\k.2<cx.w0.heap.size) (hb:s.blk k=some (.own wd l)) (b:Option Nat):∀ k'∈cx.pk,cJ κ k b k'.1=some k'.2/\k'.2<cx.w0.heap.size:=by
 intro k' hk';have h1:=hp k' hk';rw [yJ]
 ·exact h1
 ·intro e;obtain ⟨_,h4⟩:=hi.owns _ wd l hb;rw [<- e] at h4;rcases h4 with ⟨_,h5,_⟩ | ⟨b',n,cap,arr,e,fz,_,h5,h6,h7,_⟩
  ·rw [h1.1] at h5;cases h5
  ·rw [h1.1] at h5;cases h5;omega
theorem Inv.ownNew (hi:Inv cx M κ tip s a w) {arr:Array Value} (hw:zHe w w' arr e fz)
  (hk:s.blk k=none∨∃ l0,s.blk k=some (.own wd l0)/\l0.length<l.length) (hwd:0<wd) (hn:n*wd=l.length) (hcap:cap*wd<=arr.size) (hnc:n<=cap) (hml:cap<=maxLen)
  (hcs:∀ (j:Nat) (q:AV),l[j]? = some q->RepA M κ tip s.blk q (arr.getD j undef)) :
  Inv cx M (cJ κ k (some w.heap.size)) (mW tip k (.slice (some ⟨w.heap.size,0,none⟩) n cap)) (s.setb k (.own wd l)) a w':=by
 have gle:GLe κ (cJ κ k (some w.heap.size)) tip (mW tip k (.slice (some ⟨w.heap.size,0,none⟩) n cap)) s.blk (s.setb k (.own wd l)).blk:={
  var:=λi b l h h'=>by
   have e:i≠k:=by
    rintro rfl;rcases hk with hk | ⟨l0,hk,_⟩<;>(rw [hk] at h';cases h')
   rw [yJ e,zU e];exact ⟨h,l,h'⟩
  buf:=λi c1 h=>by
   have e:i≠k:=by
    rintro rfl;rcases hk with hk | ⟨l0,hk,_⟩<;>(rw [hk] at h;cases h)
   exact GLe.same (by rw [zU e];exact h) (yZ e)
  own:=λi w1 l1 h=>by
   by_cases e:i=k
   ·subst e;rcases hk with hk | ⟨l0,hk,hlt⟩
    ·rw [hk] at h;cases h
    ·rw [hk] at h;cases h;exact ⟨l,zY _ _ _,by omega,λe=>by omega⟩
   ·exact GLe.sameO (by rw [zU e];exact h) (yJ e) (yZ e) }
 have hmap:∀ {v:AV} {x:Value},RepA M κ tip s.blk v x->RepA M (cJ κ k (some w.heap.size)) (mW tip k (.slice (some ⟨w.heap.size,0,none⟩) n cap)) (s.setb k (.own wd l)).blk v x:=λh=>h.ghost gle;exact {
  defers:=hi.defers
  size:=hi.size
  fr:=⟨hw.os.trans hi.fr.os,hw.tape.trans hi.fr.tape,hw.output.trans hi.fr.output,by have:=hi.fr.size;rw [hw.size];omega,λb h1 h2=>by
   rw [hw.old b (by have:=hi.fr.size;omega)];exact hi.fr.block b h1 h2⟩
  mem:=λb o x h=>by
   have:=hi.mem b o x h;have hlt:=World.block_lt_of_cell? w _ this;rw [World.cell?_of_block (hw.old b hlt)];exact this
  env:=λt v h=>let ⟨x,h1,h2⟩:=hi.env t v h;⟨x,h1,hmap h2⟩
  vars:=λi l h=>by
   have e':i≠k:=by rintro rfl;rw [zY] at h;cases h
   rw [zU e'] at h;obtain ⟨b,arr',e1,fz',h1,h2,h3,h4,h5,h6,h7⟩:=hi.vars i l h;have hlt:=hi.lt h1;exact ⟨b,arr',e1,fz',by rw [yJ e'];exact h1,by rw [hw.old b hlt];exact h2,h3,h4,λj q hq=>hmap (h5 j q hq),h6,h7⟩
  bufs:=λi c1 h=>by
   have e':i≠k:=by rintro rfl;rw [zY] at h;cases h
   rw [zU e'] at h;obtain ⟨h1,h2,h3,h4⟩:=hi.bufs i c1 h;rw [yZ e',yJ e'];refine ⟨h1,h2,h3,?_⟩;rcases h4 with h4 | ⟨b,n1,cap1,arr1,e1,fz1,q1,q2,q3,q4,q5,q6,q7,q8⟩
   ·exact .inl h4
   ·have hlt:=hi.lt q2;exact .inr ⟨b,n1,cap1,arr1,e1,fz1,q1,q2,q3,by rw [hw.old b hlt];exact q4,q5,q6,q7,q8⟩
  inj:=λi j b h1 h2=>by
   by_cases e1:i=k
   ·subst e1;rw [uR] at h1;cases h1;by_cases e2:j=i
    ·exact e2.symm
    ·rw [yJ e2] at h2;have:=hi.lt h2;omega
   ·rw [yJ e1] at h1;by_cases e2:j=k
    ·subst e2;rw [uR] at h2;cases h2;have:=hi.lt h1;omega
    ·rw [yJ e2] at h2;exact hi.inj i j b h1 h2
  dom:=λi h=>by
   by_cases e':i=k
   ·subst e';rw [zY] at h;cases h
   ·rw [zU e'] at h;rw [yJ e'];exact hi.dom i h
  glob:=hi.glob
  old:=hi.old
  owns:=λi w1 l1 h=>by
   by_cases e':i=k
   ·subst e';rw [zY] at h;cases h;rw [yV,uR];exact ⟨hwd,.inr ⟨w.heap.size,n,cap,arr,e,fz,rfl,rfl,hi.fr.size,hw.new,hw.free,hn,hcap,hnc,hml,λj q hq=>hmap (hcs j q hq),λo=>hi.mlt (Q6 _)⟩⟩
   ·rw [zU e'] at h;obtain ⟨g1,g2⟩:=hi.owns i w1 l1 h;rw [yZ e',yJ e'];refine ⟨g1,?_⟩;rcases g2 with g2 | ⟨b,n1,cap1,arr1,e1,fz1,q1,q2,q3,q4,q5,q6,q7,q8,q9,q10,q11⟩
    ·exact .inl g2
    ·have hlt:=hi.lt q2;exact .inr ⟨b,n1,cap1,arr1,e1,fz1,q1,q2,q3,by rw [hw.old b hlt];exact q4,q5,q6,q7,q8,q9,λj q hq=>hmap (q10 j q hq),q11⟩}
theorem Inv.ownNil (hi:Inv cx M κ tip s a w) (hk:s.blk k=none) (hwd:0<wd) :
  Inv cx M κ (mW tip k (.slice none 0 0)) (s.setb k (.own wd [])) a w:=by
 have gle:GLe κ κ tip (mW tip k (.slice none 0 0)) s.blk (s.setb k (.own wd [])).blk:={
  var:=λi b l h h'=>by
   have e:i≠k:=by rintro rfl;rw [hk] at h';cases h'
   rw [zU e];exact ⟨h,l,h'⟩
  buf:=λi c1 h=>by
   have e:i≠k:=by rintro rfl;rw [hk] at h;cases h
   exact GLe.same (by rw [zU e];exact h) (yZ e)
  own:=λi c1 l1 h=>by
   have e:i≠k:=by rintro rfl;rw [hk] at h;cases h
   exact GLe.sameO (by rw [zU e];exact h) rfl (yZ e) }
 exact {
  defers:=hi.defers
  size:=hi.size
  fr:=hi.fr
  mem:=hi.mem
  env:=λt v h=>let ⟨x,h1,h2⟩:=hi.env t v h;⟨x,h1,h2.ghost gle⟩
  vars:=λi l h=>by
   have e':i≠k:=by rintro rfl;rw [zY] at h;cases h
   rw [zU e'] at h;obtain ⟨b,arr',e1,fz',h1,h2,h3,h4,h5,h6⟩:=hi.vars i l h;exact ⟨b,arr',e1,fz',h1,h2,h3,h4,λj q hq=>(h5 j q hq).ghost gle,h6⟩
  bufs:=λi c1 h=>by
   have e':i≠k:=by rintro rfl;rw [zY] at h;cases h
   rw [zU e'] at h;rw [yZ e'];exact hi.bufs i c1 h
  inj:=hi.inj
  dom:=λi h=>by
   by_cases e':i=k
   ·subst e';rw [zY] at h;cases h
   ·rw [zU e'] at h;exact hi.dom i h
  glob:=hi.glob
  old:=hi.old
  owns:=λi w1 l1 h=>by
   by_cases e':i=k
   ·subst e';rw [zY] at h;cases h;rw [yV];exact ⟨hwd,.inl ⟨rfl,hi.dom i hk,rfl⟩⟩
   ·rw [zU e'] at h;obtain ⟨g1,g2⟩:=hi.owns i w1 l1 h;rw [yZ e'];refine ⟨g1,?_⟩;rcases g2 with g2 | ⟨b,n1,cap1,arr1,e1,fz1,q1,q2,q3,q4,q5,q6,q7,q8,q9,q10,q11⟩
    ·exact .inl g2
    ·exact .inr ⟨b,n1,cap1,arr1,e1,fz1,q1,q2,q3,q4,q5,q6,q7,q8,q9,λj q hq=>(q10 j q hq).ghost gle,q11⟩}
theorem Inv.ownSet (hi:Inv cx M κ tip s a w) {n':Nat} {arr':Array Value} {vs:List Value} (hb:s.blk k=some (.own wd l)) (htip:tip k=.slice (some ⟨b,0,none⟩) n cap) (hkb:κ k=some b) (hbase:cx.w0.heap.size<=b)
  (hfree:zD9 fz arr'.size) (g1:(w.setCells b off vs).heap[b]? = some (.cells arr' e fz)) (hcap:cap*wd<=arr'.size) (hnc:n'<=cap) (hml:cap<=maxLen) (hwd:0<wd) (hM:∀ o,M b o=none) (hlen:n'*wd=l'.length) (hle:l.length<=l'.length) (hl0:n*wd=l.length)
  (hcs:∀ (j:Nat) (q:AV),l'[j]? = some q->RepA M κ tip s.blk q (arr'.getD j undef)) :
  Inv cx M κ (mW tip k (.slice (some ⟨b,0,none⟩) n' cap)) (s.setb k (.own wd l')) a (w.setCells b off vs):=by
 have hrest:=kG b vs off w;have gle:GLe κ κ tip (mW tip k (.slice (some ⟨b,0,none⟩) n' cap)) s.blk (s.setb k (.own wd l')).blk:={
  var:=λi b l h h'=>by
   have e:i≠k:=by rintro rfl;rw [hb] at h';cases h'
   rw [zU e];exact ⟨h,l,h'⟩
  buf:=λi c1 h=>by
   have e:i≠k:=by rintro rfl;rw [hb] at h;cases h
   exact GLe.same (by rw [zU e];exact h) (yZ e)
  own:=λi c1 l1 h=>by
   by_cases e:i=k
   ·subst e;rw [hb] at h;cases h;refine ⟨l',zY _ _ _,hle,λe=>⟨rfl,?_⟩⟩;rw [yV,htip];have:n'=n:=Qk hwd (by omega);rw [this]
   ·exact GLe.sameO (by rw [zU e];exact h) rfl (yZ e) }
 have hmap:∀ {v:AV} {x:Value},RepA M κ tip s.blk v x->RepA M κ (mW tip k (.slice (some ⟨b,0,none⟩) n' cap)) (s.setb k (.own wd l')).blk v x:=λh=>h.ghost gle;exact {
  defers:=hi.defers
  size:=hi.size
  fr:=⟨hrest.1.trans hi.fr.os,hrest.2.1.trans hi.fr.tape,hrest.2.2.trans hi.fr.output,by rw [kK];exact hi.fr.size,λi hi1 hi2=>by
   rw [wC b vs _ w i (by omega)];exact hi.fr.block i hi1 hi2⟩
  mem:=λi o x h=>by
   have hne:i≠b:=by rintro rfl;rw [hM] at h;cases h
   have:=hi.mem i o x h;rw [World.cell?_setCells_out b vs off w _ (λe=>(hne e).elim)];exact this
  env:=λt v h=>let ⟨x,h1,h2⟩:=hi.env t v h;⟨x,h1,hmap h2⟩
  vars:=λi l h=>by
   have e':i≠k:=by rintro rfl;rw [zY] at h;cases h
   rw [zU e'] at h;obtain ⟨b2,arr2,e2,fz2,k1,k2,k3,k4,k5,k6,k7⟩:=hi.vars i l h;have hne:b2≠b:=λe=>e' (hi.inj i k b (e▸k1) hkb);exact ⟨b2,arr2,e2,fz2,k1,by rw [wC b vs _ w b2 hne];exact k2,k3,k4,λj q hq=>hmap (k5 j q hq),k6,k7⟩
  bufs:=λi c1 h=>by
   have e':i≠k:=by rintro rfl;rw [zY] at h;cases h
   rw [zU e'] at h;obtain ⟨k1,k2,k3,k4⟩:=hi.bufs i c1 h;rw [yZ e'];refine ⟨k1,k2,k3,?_⟩;rcases k4 with k4 | ⟨b2,n2,cap2,arr2,e2,fz2,q1,q2,q3,q4,q5,q6,q7,q8⟩
   ·exact .inl k4
   ·have hne:b2≠b:=λe=>e' (hi.inj i k b (e▸q2) hkb);exact .inr ⟨b2,n2,cap2,arr2,e2,fz2,q1,q2,q3,by rw [wC b vs _ w b2 hne];exact q4,q5,q6,q7,q8⟩
  inj:=hi.inj
  dom:=λi h=>by
   by_cases e':i=k
   ·subst e';rw [zY] at h;cases h
   ·rw [zU e'] at h;exact hi.dom i h
  glob:=hi.glob
  old:=hi.old
  owns:=λi w1 l1 h=>by
   by_cases e':i=k
   ·subst e';rw [zY] at h;cases h;rw [yV];exact ⟨hwd,.inr ⟨b,n',cap,arr',e,fz,rfl,hkb,hbase,g1,hfree,hlen,hcap,hnc,hml,λj q hq=>hmap (hcs j q hq),hM⟩⟩
   ·rw [zU e'] at h;obtain ⟨g1',g2⟩:=hi.owns i w1 l1 h;rw [yZ e'];refine ⟨g1',?_⟩;rcases g2 with g2 | ⟨b2,n1,cap1,arr1,e1,fz1,q1,q2,q3,q4,q5,q6,q7,q8,q9,q10,q11⟩
    ·exact .inl g2
    ·have hne:b2≠b:=λe=>e' (hi.inj i k b (e▸q2) hkb);exact .inr ⟨b2,n1,cap1,arr1,e1,fz1,q1,q2,q3,by rw [wC b vs _ w b2 hne];exact q4,q5,q6,q7,q8,q9,λj q hq=>hmap (q10 j q hq),q11⟩}
end
section
theorem zKu {cx:Ctx} {z:Value} (hb:B k=some (.own wd l)) (hn:n*wd=l.length) (h:RepA M κ tip B (.own k n) z):z=tip k:=by
 cases h with
 | own _ _ w' l' _ h1 h2 h3 hs=>rw [hb] at h1;cases h1;exact h3 hn
theorem zPk {ity:TypeId} {i:Int} (hok:yR P te) (ho:o.op=.indexAddr t x y) (ht:(te t).map (·.ty)=some (.slice e)) (he:te e=some ei)
  (hx:s.get te t x=some (.own k n)) (hb:s.blk k=some (.own wd l)) (hn:n*wd=l.length) (hw:wd=ei.w) (hy:s.get te ity y=some (.p (.int .i64 i))) (h0:0<=i) (h1:i<n) :
  VA P o s (opS x (.own k n)++opS y (.p (.int .i64 i))) [(k,.own wd l)] (.optr k n (i.toNat*ei.w)):=by
 refine ⟨?_,yH (zK hx) (zK hy),by simpa using hb⟩;intro cx M κ tip s' a w hi hr hb';have hbk:=hb' (k,.own wd l) (by simp);simp only at hbk;have hx':=yC hi (yF hx s' (yD hr));have h2:=rep_int (repA_pv (yC hi (yF hy s' (zZ hr))));have hu:=yS hok ht;have hsz:=tA hok he w;have hev:=zKu (cx:=cx) hbk hn hx';obtain ⟨g1,g2⟩:=hi.owns k wd l hbk;rcases g2 with ⟨_,_,rfl⟩ | ⟨b,n1,cap,arr,e1,fz,q1,q2,q3,q4,q5,q6,q7,q8,q9,q10,q11⟩
 ·have hp:=Qz (show 0<n by omega) g1;simp only [Wm] at hn;omega
 ·have hnn:n1=n:=Qk g1 (by omega);subst hnn;rw [q1] at hev;exact ⟨.pointer (some ⟨b,0+i.toNat*ei.w,none⟩),by simp [execOp,ho,hev,h2,Instr.indexAt,asIntOf,run_underlying hu,h0,h1,hsz,add_off],.optr k n1 _ wd l _ hbk (by omega) (λ_=>⟨b,q2,by simp⟩) ⟨_,rfl⟩⟩
theorem zU0 (hok:yR P te) (ho:o.op=.call { callee:=.builtin .len,args:=#[x],argTypes:=#[t] }) (ht:(te t).map (·.ty)=some (.slice e)) (hx:s.get te t x=some (.own k n)) (hb:s.blk k=some (.own wd l)) (hn:n*wd=l.length):VA P o s (opS x (.own k n)) [(k,.own wd l)] (.p (.int .i64 n)):=by
 refine ⟨?_,zK hx,by simpa using hb⟩;intro cx M κ tip s' a w hi hr hb';have hbk:=hb' (k,.own wd l) (by simp);simp only at hbk;have hev:=zKu (cx:=cx) hbk hn (yC hi (yF hx s' hr));have hu:=yS hok ht;obtain ⟨g1,g2⟩:=hi.owns k wd l hbk;rcases g2 with ⟨y1,_,rfl⟩ | ⟨b,n1,cap,arr,e1,fz,q1,q2,q3,q4,q5,q6,q7,q8,q9,q10,q11⟩
 ·have:n=0:=by
            rcases W2 n with h | h
            ·exact h
            ·have:=Qz h g1;simp at hn;omega
  subst this;rw [y1] at hev;exact ⟨.int .i64 0,by simp [execOp,ho,hev,resolve,invoke,builtin,Wp,run_underlying hu,goInt],.p _ _ (.int _ _)⟩
 ·have hnn:n1=n:=Qk g1 (by omega);subst hnn;rw [q1] at hev;exact ⟨.int .i64 n1,by simp [execOp,ho,hev,resolve,invoke,builtin,Wp,run_underlying hu,goInt],.p _ _ (.int _ _)⟩
theorem zSj (hok:yR P te) (ho:o.op=.load t x) (ht:te t=some i) (hp:i.plain=true) (hx:s.get te ty x=some (.optr k n off)) (hb:s.blk k=some (.own wd l)) (hn:n*wd=l.length) (hv:l[off]? = some v) :
  VA P o s (opS x (.optr k n off)) [(k,.own wd l)] v:=by
 refine ⟨?_,zK hx,by simpa using hb⟩;intro cx M κ tip s' a w hi hr hb';have hx':=yC hi (yF hx s' hr);have hbk:=hb' (k,.own wd l) (by simp);simp only at hbk;obtain ⟨g1,g2⟩:=hi.owns k wd l hbk;generalize hev:a.eval x=z at hx';cases hx' with
 | optr _ _ _ w' l' _ h1 h2 h3 hs=>
  rw [hbk] at h1;cases h1;obtain ⟨b,hκ,rfl⟩:=h3 hn;rcases g2 with ⟨_,y2,_⟩ | ⟨b',n1,cap,arr,e1,fz,q1,q2,q3,q4,q5,q6,q7,q8,q9,q10,q11⟩
  ·rw [hκ] at y2;cases y2
  ·rw [hκ] at q2;cases q2;have hlt:off<l.length:=(List.getElem?_eq_some_iff.1 hv).1;have hfit:n1*wd<=cap*wd:=Qa _ q8;have hlt':off<arr.size:=by omega
   have hcell:w.cell? ⟨b,off,none⟩=some arr[off]:=by simp [Qm,q4,hlt']
   refine ⟨arr[off],?_,?_⟩
   ·simp [execOp,ho,hev,Instr.loadAt,Instr.sureAddr,iR hok ht hp hcell]
   ·have:=q10 off v hv;simpa [hlt'] using this
theorem zP8 {b:zG} (h:s.blk k=some b):s.setb k b=s:=by
 cases s with
 | mk env blk=>
  simp only [AS.setb];congr 1;funext t;by_cases ht:t=k
  ·subst ht;simp;exact h.symm
  ·have:Qb t k=false:=by rw [Qc];intro e;exact ht (Q1 e)
   simp [this]
end
section
def zUp (P:Program) (y:Operand) (rs:LV) (bs:LB) (size m:Nat) (cs:List AV):Prop:=
 ∀ (cx:Ctx) (M:Mem) (κ:Nat->Option Nat) (tip:Nat->Value) (s:AS) (a:Act) (w:World),Inv cx M κ tip s a w->wM s rs->(∀ e∈bs,s.blk e.1=some e.2) ->
  ∃ news,Src P w size m (a.eval y) news/\∀ (j:Nat) (q:AV),cs[j]? = some q->RepA M κ tip s.blk q ((news[j]?).getD undef)
theorem zK7 {cs:List AV} (hok:yR P te) (hd:o.dst=some d) (ho:o.op=.call { callee:=.builtin .append,args:=#[x,y],argTypes:=#[t,t'] })
  (ht:(te t).map (·.ty)=some (.slice e)) (he:te e=some ei) (ht':P.underlying t'=some dd) (hdd:bT dd) (hx:s.get te t x=some (.own k n)) (hk:s.blk k=some (.own wd l)) (hn:n*wd=l.length) (hcw:wd=ei.w) (hz:ei.z.length=ei.w) (hy:s.get te t' y=some vy) (hbs:∀ e∈bs,s.blk e.1=some e.2)
  (hsrc:zUp P y (opS y vy) bs ei.w m cs) (hm:cs.length=m*ei.w) (hone:cs.all AV.one=true) (hb:(n+m)*ei.b<=140737488355328) (hb1:0<ei.b) :
  SA P o s ⟨opS x (.own k n)++opS y vy,(k,.own wd l) :: bs,[],some (d,some (.own k (n+m))),[(k,.own wd (l++cs))]⟩:=by
 refine ⟨?_,yH (zK hx) (zK hy),?_,by intro k hk';simp at hk'⟩
 ·intro cx s' a w K Q hmm hs hws hk';obtain ⟨M,κ,tip,h0,hpk,hi⟩:=hs;have hbk:=hmm.2.1 (k,.own wd l) (by simp);simp only at hbk;have hevx:=zKu (cx:=cx) hbk hn (yC hi (yF hx s' (yD hmm.1)));obtain ⟨news,n1,n2⟩:=hsrc cx M κ tip s' a w hi (zZ hmm.1) (λe he=>hmm.2.1 e (by simp [he]));obtain ⟨g1,g2⟩:=hi.owns k wd l hbk;obtain ⟨info,z,i1,i2,i3,i4,i5⟩:=(hok e ei he).info;have hu:=yS hok ht;have hlen:n+m<=140737488355328:=Qw (Qp _ hb1) hb;have hnl:news.length=m*ei.w:=n1.nl;have hnc:news.length=cs.length:=by omega
  rw [<- i2] at n1;have hzs:z.cells.size=ei.w:=by rw [<- Qf,i5];simpa using hz
  have hlc:(l++cs).length=(n+m)*wd:=by rw [Wd,hm,<- hn,hcw,Qr]
  have honev:∀ u∈news,u.oneCell'=true:=by
   intro u hu;obtain ⟨j,hj,hju⟩:=Qx hu;have hq:=n2 j cs[j] (by simp);rw [List.getElem?_eq_getElem hj,hju] at hq;exact zDh hq ((Q9.1 hone) _ (Wg _))
  unfold W5;rcases g2 with ⟨hnil,hκ,rfl⟩ | ⟨b,n',cap,arr,e1,fz,q1,q2,q3,q4,q5,q6,q7,q8,q9,q10,q11⟩
  ·have hn0:n=0:=by
    rcases W2 n with h | h
    ·exact h
    ·have:=Qz h g1;simp only [Wm] at hn;omega
   subst hn0;simp only [Wl,Q5] at *;by_cases hm0:m=0
   ·subst hm0;have hcs:cs=[]:=Q8 (by omega);subst hcs;have hrun:=lG (P:=P) (ty:=o.type) hu ht' hdd i1 n1;rw [xJ ho (hevx.trans hnil) hrun];show K (a.put o.dst _) _;rw [hd];refine hk' _ _ ?_;rw [uH,zP8 hbk];exact ⟨M,κ,tip,h0,hpk,hi.put (hws d (by simp [Qt])) (.own k 0 wd [] _ hbk (by simp) (λ_=>hnil.symm) ⟨_,_,_,rfl⟩)⟩
   ·have hrun:=jJ (P:=P) (ty:=o.type) hu ht' hdd i1 i4 n1 (by omega) (by rw [i3];exact hb) (by omega);rw [xJ ho (hevx.trans hnil) hrun];show K (a.put o.dst _) _;rw [hd];refine hk' _ _ ?_;rw [uH];have hge:=grownCap_ge w m 0 e;have hsize:(news.toArray++Qe z.cells (grownCap w m 0 e - m)).size=grownCap w m 0 e*ei.w:=by
     simp only [Qd,Q7,size_zeroCells,hzs,hnl,<- Qr];congr 1;omega
    have hml:grownCap w m 0 e<=maxLen:=grownCap_le_maxLen w m 0 e (by simp only [maxLen];omega);have hpos:=Qz (show 0<m by omega) g1;refine ⟨M,_,_,h0,zTt hi hpk hbk _,(hi.ownNew (k:=k) (wd:=wd) (n:=m) (cap:=grownCap w m 0 e) (l:=cs) (sL w _ e) (.inr ⟨[],hbk,by simp;omega⟩) g1 (by omega) (by rw [hsize,hcw];exact Q6 _) hge hml ?_).put (hws d (by simp [Qt])) (.own k m wd cs _ (zY _ _ _) (by omega) (λ_=>(yV _ _ _).symm) ⟨_,_,_,rfl⟩)⟩;intro j q hq;have hlt:j<cs.length:=(List.getElem?_eq_some_iff.1 hq).1;rw [Q0,Array.getElem?_append_left (by simp;omega)];have:=n2 j q hq;simpa using this
  ·have hnn:n'=n:=Qk g1 (by omega);subst hnn;have hfit0:n'*wd<=cap*wd:=Qa _ q8;by_cases hroom:n'+m<=cap
   ·have hfits:(n'+m)*wd<=arr.size:=Qw (Qa _ hroom) q7;have hadd:(n'+m)*wd=n'*wd+m*wd:=Qr _ _ _;have hnw:news.length=m*wd:=by rw [hnl,hcw]
    have hrun:=bL (P:=P) (ty:=o.type) hu ht' hdd i1 n1 (b:=b) (n:=n') (cap:=cap) honev hroom
     (by
       intro j hj;rw [i2,<- hcw];have:n'*wd+j<arr.size:=by omega
       simp [Qm,q4,this])
     (by intro j hj;rw [i2,<- hcw];exact rO q4 q5 (by omega))
    rw [xJ ho (hevx.trans q1) hrun];show K (a.put o.dst _) _;rw [hd];refine hk' _ _ ?_;rw [uH,i2,<- hcw];obtain ⟨arr',z1,z2,z3⟩:=qR b news (n'*wd) w arr e1 fz q4 (by omega);refine ⟨M,κ,_,h0,hpk,(hi.ownSet (n':=n'+m) (l':=l++cs) hbk q1 q2 q3 (by rw [z2];exact q5) z1 (by rw [z2];exact q7) hroom q9 g1 q11 (by omega) (by simp) q6 ?_).put (hws d (by simp [Qt])) (.own k (n'+m) wd (l++cs) _ (zY _ _ _) (by omega) (λ_=>(yV _ _ _).symm) ⟨_,_,_,rfl⟩)⟩;intro j q hq;rw [Q0,z3 j];by_cases hj:j<l.length
    ·rw [List.getElem?_append_left hj] at hq;rw [if_neg (by omega)];have:=q10 j q hq;rw [Q0] at this;exact this
    ·rw [List.getElem?_append_right (by omega)] at hq;have hlt:j - l.length<cs.length:=(List.getElem?_eq_some_iff.1 hq).1;rw [if_pos (by omega)];have:=n2 _ q hq;rw [show j - n'*wd=j - l.length by omega];exact this
   ·have hol:(arr.toList.take (n'*wd)).length=n'*info.size:=by simp [i2,<- hcw];omega
    have hrun:=cQ (P:=P) (ty:=o.type) hu ht' hdd i1 i4 n1 (b:=b) (n:=n') (cap:=cap) (olds:=arr.toList.take (n'*wd)) hol
     (by
      intro j u hu;rw [List.getElem?_take] at hu;split at hu
      ·simp only [Qm,q4];simpa using hu
      ·cases hu)
     (by omega) (by rw [i3];exact hb) (by omega)
    rw [xJ ho (hevx.trans q1) hrun];show K (a.put o.dst _) _;rw [hd];refine hk' _ _ ?_;rw [uH];have hge:=grownCap_ge w (n'+m) cap e;have hml:grownCap w (n'+m) cap e<=maxLen:=grownCap_le_maxLen w _ cap e (by simp only [maxLen];omega);have hmp:0<m:=by omega
    have hmw:=Qz hmp g1;have hadd:(n'+m)*wd=n'*wd+m*wd:=Qr _ _ _;have htl:(arr.toList.take (n'*wd)).length=n'*wd:=by simp;omega
    generalize hA:((arr.toList.take (n'*wd)).toArray++news.toArray++Qe z.cells (grownCap w (n'+m) cap e - (n'+m)))=A;have hsize:A.size=grownCap w (n'+m) cap e*ei.w:=by
     rw [<- hA];have hsub:(grownCap w (n'+m) cap e - (n'+m))*ei.w=grownCap w (n'+m) cap e*ei.w - (n'+m)*ei.w:=Nat.sub_mul _ _ _;have hge2:(n'+m)*ei.w<=grownCap w (n'+m) cap e*ei.w:=Qa _ hge;simp only [Qd,Q7,htl,size_zeroCells,hzs,hnl];rw [hsub,hcw];rw [hcw] at hadd;omega
    refine ⟨M,_,_,h0,zTt hi hpk hbk _,(hi.ownNew (k:=k) (wd:=wd) (n:=n'+m) (cap:=grownCap w (n'+m) cap e) (l:=l++cs) (sL w A e) (.inr ⟨l,hbk,by omega⟩) g1 (by omega) (by rw [hsize,hcw];exact Q6 _) hge hml ?_).put (hws d (by simp [Qt])) (.own k (n'+m) wd (l++cs) _ (zY _ _ _) (by omega) (λ_=>(yV _ _ _).symm) ⟨_,_,_,rfl⟩)⟩;intro j q hq;have hnw:news.length=m*wd:=by rw [hnl,hcw]
    have hjt:j<(l++cs).length:=(List.getElem?_eq_some_iff.1 hq).1;rw [Q0,<- hA,Array.getElem?_append_left (by simp only [Qd,Q7,htl];omega)];by_cases hj:j<l.length
    ·rw [List.getElem?_append_left hj] at hq;rw [Array.getElem?_append_left (by simp only [Q7,htl];omega)];have:=q10 j q hq;rw [Q0] at this;simp only [List.getElem?_toArray,List.getElem?_take];rw [if_pos (by omega)];simpa using this
    ·rw [List.getElem?_append_right (by omega)] at hq;rw [Array.getElem?_append_right (by simp only [Q7,htl];omega)];have:=n2 _ q hq;simp only [Q7,htl,List.getElem?_toArray];rw [show j - n'*wd=j - l.length by omega];exact this
 ·intro e he;rcases Q3.1 he with he | he
  ·subst he;exact hk
  ·exact hbs e he
def PV.ecs:PV->List AV
 | .bytes l=>l.map λx=>.p (.int .u8 x.toNat)
 | .str l=>l.map λx=>.p (.int .u8 x.toNat)
 | .sl _ l=>(xG l).map .p
 | _=>[]
theorem zE5 {g:Nat->Value} {news:List Value} (hc:qV M p.src g) (hsl:p.src.isSlice=true) (hw:p.src.width=wd) (hn:∀ j,j<p.src.len*wd->news[j]? = some (g j)) :
  p.ecs.length=p.src.len*wd/\∀ (j:Nat) (q:AV),p.ecs[j]? = some q->RepA M κ tip B q ((news[j]?).getD undef):=by
 have hby:∀ (l:By),qV M (.bytes l) g->(∀ j,j<l.length*1->news[j]? = some (g j))->∀ (j:Nat) (q:AV),(l.map λx=>AV.p (.int .u8 x.toNat))[j]? = some q->RepA M κ tip B q ((news[j]?).getD undef):=by
  intro l hc hn j q hq;rw [List.getElem?_map] at hq;obtain ⟨u,h1,h2⟩:=Qq.1 hq;have hlt:j<l.length:=(List.getElem?_eq_some_iff.1 h1).1;rw [hn j (by omega),<- h2,Wh,hc j u h1];exact .p _ _ (.int _ _)
 cases p with
 | bytes l=>simp only [W1,Wa] at *;subst hw;exact ⟨by simp [PV.ecs,Qs],hby l hc hn⟩
 | str l=>simp only [W1,Wa] at *;subst hw;exact ⟨by simp [PV.ecs,Qs],hby l hc hn⟩
 | sl w' l=>
  simp only [W1,Wa] at *;subst hw;obtain ⟨c1,c2⟩:=hc;have hwf:∀ p∈l,p.cells.length=w':=λp hp=>by obtain ⟨i,hi,h⟩:=Qx hp;exact c1 i p (by simp [hi,h])
  obtain ⟨f1,f2⟩:=zDr l hwf;refine ⟨by simp [PV.ecs,Qs,f1],λj q hq=>?_⟩;simp only [PV.ecs] at hq;rw [List.getElem?_map] at hq;obtain ⟨u,h1,h2⟩:=Qq.1 hq;have hlt:j<(xG l).length:=(List.getElem?_eq_some_iff.1 h1).1;have hw0:0<w':=by
   rcases W2 w' with h | h
   ·subst h;omega
   ·exact h
  have hdm:w'*(j / w')+j % w'=j:=Nat.div_add_mod j w';have hi:j / w'<l.length:=Nat.div_lt_of_lt_mul (by rw [Nat.mul_comm];omega);have hp:l[j / w']? = some l[j / w']:=by simp
  have hcl:=c1 _ _ hp;have hr:j % w'<l[j / w'].cells.length:=by rw [hcl];exact Nat.mod_lt _ hw0
  have hqq:l[j / w'].cells[j % w']? = some l[j / w'].cells[j % w']:=by simp
  have e:j / w'*w'+j % w'=j:=by rw [Nat.mul_comm];exact hdm
  have h3:=f2 _ _ _ _ hp hqq;rw [e,h1] at h3;cases h3;have h4:=c2 _ _ _ _ hp hqq;rw [e] at h4;rw [hn j (by simp only [Qs];omega),<- h2,Wh];exact .p _ _ h4
 | _=>simp [W1,W9] at hsl
theorem zEe (hy:s.get te t' y=some vy) (hp:s.rd vy=some (p,bs)) (hsl:p.src.isSlice=true) (hw:p.src.width=wd) (hw0:0<wd):zUp P y (opS y vy) bs wd p.src.len p.ecs:=by
 intro cx M κ tip s' a w hi hr hb;have h:=hJ hi hy hp hr hb;cases p with
 | str l=>
  rw [iO h];obtain ⟨news,g,q1,q2,q3⟩:=zOu (P:=P) (M:=M) (w:=w) l;have hw1:wd=1:=by rw [<- hw];rfl
  subst hw1;exact ⟨news,q1,(zE5 (p:=.str l) q2 rfl rfl q3).2⟩
 | bytes l=>
  obtain ⟨news,g,q1,q2,q3⟩:=zBi (P:=P) hi.mem (p:=.bytes l) rfl h (by simp [Wa]);have hw1:wd=1:=by rw [<- hw];rfl
  subst hw1;exact ⟨news,q1,(zE5 (p:=.bytes l) q2 rfl rfl q3).2⟩
 | sl w' l=>
  have hw1:wd=w':=by rw [<- hw];rfl
  subst hw1;obtain ⟨news,g,q1,q2,q3⟩:=zBi (P:=P) hi.mem (p:=.sl wd l) rfl h (by simp [Wa];omega);exact ⟨news,q1,(zE5 (p:=.sl wd l) q2 rfl rfl q3).2⟩
 | _=>simp [W1,W9] at hsl
theorem zLt (hy:s.get te t' y=some (.ref k2 0 m)) (hl:l2.length=m*wd):zUp P y (opS y (.ref k2 0 m)) [(k2,.var l2)] wd m l2:=by
 intro cx M κ tip s' a w hi hr hb;have hbk:=hb (k2,.var l2) (by simp);simp only at hbk;have h:=yC hi (yF hy s' hr);obtain ⟨b,arr,e,fz,q1,q2,q3,q4,q5,q6,q7⟩:=hi.vars k2 l2 hbk;generalize hev:a.eval y=z at h;cases h with
 | ref _ _ _ b' l' g1 g2=>
 rw [q1] at g1;cases g1;refine ⟨arr.toList,⟨λw'=>by simp [Wn],λw' hw'=>?_,by simp;omega⟩,λj q hq=>?_⟩
 ·refine run_firstCells_some (P:=P) w' wd m ⟨b,0,none⟩ m m _ (by simp;omega) ?_;intro j u hu;rw [add_off];refine hw' _ _ ?_;simp only [Qm,q2,Q5];simpa using hu
 ·have:=q5 j q hq;rw [Q0] at this;simpa using this
theorem zLi {cs:List AV} (hok:yR P te) (hd:o.dst=some d) (ho:o.op=.call { callee:=.builtin .append,args:=#[x,y],argTypes:=#[t,t'] })
  (ht:(te t).map (·.ty)=some (.slice e)) (he:te e=some ei) (ht':P.underlying t'=some dd) (hdd:bT dd) (hx:s.get te t x=some (.nl c)) (hw0:0<ei.w) (hz:ei.z.length=ei.w) (hy:s.get te t' y=some vy) (hbs:∀ e∈bs,s.blk e.1=some e.2)
  (hsrc:zUp P y (opS y vy) bs ei.w m cs) (hm:cs.length=m*ei.w) (hb:m*ei.b<=140737488355328) (hb1:0<ei.b) (hk:s.blk d=none) :
  SA P o s ⟨opS x (.nl c)++opS y vy,bs,[d],some (d,some (.own d m)),[(d,.own ei.w cs)]⟩:=by
 refine ⟨?_,yH (zK hx) (zK hy),hbs,by intro k hk';simp at hk';subst hk';exact hk⟩;intro cx s' a w K Q hmm hs hws hk';obtain ⟨M,κ,tip,h0,hpk,hi⟩:=hs;have hbk:=hmm.2.2 d (by simp);have hevx:a.eval x=.slice none 0 0:=by
  have hx':=yC hi (yF hx s' (yD hmm.1));generalize a.eval x=z at hx';cases hx' with
  | nl _ _=>rfl
 obtain ⟨news,n1,n2⟩:=hsrc cx M κ tip s' a w hi (zZ hmm.1) hmm.2.1;obtain ⟨info,z,i1,i2,i3,i4,i5⟩:=(hok e ei he).info;have hu:=yS hok ht;have hlen:m<=140737488355328:=Qw (Qp _ hb1) hb;have hnl:news.length=m*ei.w:=n1.nl;rw [<- i2] at n1;have hzs:z.cells.size=ei.w:=by rw [<- Qf,i5];simpa using hz
 unfold W5;by_cases hm0:m=0
 ·subst hm0;have hcs:cs=[]:=Q8 (by omega);subst hcs;have hrun:=lG (P:=P) (ty:=o.type) hu ht' hdd i1 n1;rw [xJ ho hevx hrun];show K (a.put o.dst _) _;rw [hd];refine hk' _ _ ?_;rw [cS];exact ⟨M,κ,_,h0,hpk,(hi.ownNil hbk hw0).put (hws d (by simp [Qt])) (.own d 0 ei.w [] _ (zY _ _ _) (by simp) (λ_=>(yV _ _ _).symm) ⟨_,_,_,rfl⟩)⟩
 ·have hrun:=jJ (P:=P) (ty:=o.type) hu ht' hdd i1 i4 n1 (by omega) (by rw [i3];exact hb) (by omega);rw [xJ ho hevx hrun];show K (a.put o.dst _) _;rw [hd];refine hk' _ _ ?_;rw [cS];have hge:=grownCap_ge w m 0 e;have hsize:(news.toArray++Qe z.cells (grownCap w m 0 e - m)).size=grownCap w m 0 e*ei.w:=by
   simp only [Qd,Q7,size_zeroCells,hzs,hnl,<- Qr];congr 1;omega
  have hml:grownCap w m 0 e<=maxLen:=grownCap_le_maxLen w m 0 e (by simp only [maxLen];omega);refine ⟨M,_,_,h0,zAt hi hpk hbk _,(hi.ownNew (k:=d) (wd:=ei.w) (n:=m) (cap:=grownCap w m 0 e) (l:=cs) (sL w _ e) (.inl hbk) hw0 (by omega) (by rw [hsize];exact Q6 _) hge hml ?_).put (hws d (by simp [Qt])) (.own d m ei.w cs _ (zY _ _ _) (by omega) (λ_=>(yV _ _ _).symm) ⟨_,_,_,rfl⟩)⟩;intro j q hq;have hlt:j<cs.length:=(List.getElem?_eq_some_iff.1 hq).1;rw [Q0,Array.getElem?_append_left (by simp;omega)];have:=n2 j q hq;simpa using this
end
end Go.Sw
