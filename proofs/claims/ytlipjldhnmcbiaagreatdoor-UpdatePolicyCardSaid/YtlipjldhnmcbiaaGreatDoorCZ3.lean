/- UpdatePolicy holds for all inputs -/
import Derived.Test.YtlipjldhnmcbiaaGreatDoorCZ2
import Derived.Scope
import Derived.Laws.StructEq
import Derived.ChangeKeysEq
import Derived.Lib.Bytealg
set_option linter.all false
open Array renaming getD_eq_getD_getElem? -> Q0, size_append -> Qd, length_toList -> Qf
open List renaming mem_cons -> Q1, size_toArray -> Q7, eq_nil_of_length_eq_zero -> Q8, all_eq_true -> Q9, mem_map -> Qh, mem_append -> Qi, map_cons -> Qk, replicate -> Qu, getElem_of_mem -> W0, range -> W7, drop_eq_nil_of_le -> W9, singleton_append -> Wa, replicate_succ -> Wd, length_append -> Wf, flatten_cons -> Wh, getElem_mem -> Wi, mem_filter -> Wk, length_map -> Wl, nil_append -> Wm, length_nil -> Wn, map_nil -> Wp
open Nat renaming eq_of_beq_eq_true -> Q2, zero_add -> Q5, le_refl -> Q6, mul_le_mul_right -> Qa, beq -> Qb, blt -> Qg, le_of_ble_eq_true -> Qj, eq_of_mul_eq_mul_right -> Ql, le_mul_of_pos_right -> Qp, add_mul -> Qr, le_trans -> Qz, zero_le -> W1, mul_pos -> W2, eq_zero_or_pos -> W5, add_zero -> Wg, ble -> Wo
open Go.Extern.Bytes renaming bytesOf -> Q3, loadBytes -> Qx, asByte -> We
open Bool renaming and_eq_true -> Q4, eq_false_iff -> Qc
open Go.Builtin renaming zeroCells -> Qe, len_ -> Wq
open Go.World renaming cell? -> Qm
open Go.Extern.BytealgIndexByte renaming indexByte -> Qn
open Option renaming isSome_iff_exists -> Qo, map_eq_some_iff -> Qq, getD_some -> Wj
open Go.Extern.BytealgCompare renaming compare -> Qs
open Go.Sw.PV renaming len -> Qt, src -> W4, isSlice -> Wb, width -> Wc
open Go.Sw.Mic renaming ws -> Qv
open Go.Result renaming andThen -> Qw
open Go.Deferred renaming ofValue -> Qy
open Go.Sw.AV renaming oks -> W3
open Go.Value renaming pointer -> W6
open Go.Oper renaming wp -> W8
namespace Go.Sw
open Go
variable {B:NB}{K:AS->List Mic->Prop}{M:Mem}{P:Program}{Q:Exit->AS->Prop}{a:ByteArray}{a0 a1:Int}{af:Array Edge}{av:AV}{ax:Operand}{b:Nat}{b0 b1:Int}{bb blk blks bs bs0 by':LB}{c:PV}{cap:Nat}{cs:List PV}{cx:Ctx}{d:Nat}{dd:TypeDesc}{e:TypeId}{ei:TI}{env:LV}{f:FuncId}{fn:Func}{fs:List PV}{fz:Nat×Nat}{i k k0 k2:Nat}{kc kl:IntKind}{ks:List Nat}{l l' l2:List AV}{m n na:Nat}{o:Oper}{off:Nat}{ops:Array Oper}{p:PV}{pk:PKs}{pos:String}{ps qs:List PV}{r:List Oper}{rr:PV}{rs:LV}{s s':AS}{t t' t2:TypeId}{te:TE}{tip:Nat->Value}{tl:List TypeId}{ts:Array TypeId}{tx ty tyy:TypeId}{v vx vy:AV}{w:World}{w0 wd:Nat}{x:Operand}{xl:List Operand}{xs:Array Operand}{y:Operand}{yl:List Operand}{ys:Array Operand}{z:PV}{α:Type}{κ:Nat->Option Nat}
def AS.unb (s:AS) (k:Nat):AS:={ s with blk:=wP s.blk k }
theorem uR (h:i≠k):wP B k i=B i:=by
 unfold wP;have:Qb i k=false:=by rw [Qc];intro e;exact h (Q2 e)
 simp [this]
theorem zAc:wP B k k=none:=by simp [wP]
theorem RepA.unb {x:Value} (hr:RepA M κ tip B v x):v.oks (wP B k)=true->RepA M (gP κ k none) tip (wP B k) v x:=by
 have hne:∀ i,(wP B k i).isSome=true->i≠k:=by
  rintro i h rfl;rw [zAc] at h;cases h
 induction hr with
 | p v x h1=>intro _;exact .p v x h1
 | nl c h1=>intro _;exact .nl c h1
 | ptr i o b l h1 h2=>intro h;simp only [W3] at h;exact .ptr i o b l (by rw [yE (hne i h)];exact h1) (by rw [uR (hne i h)];exact h2)
 | ref i o n b l h1 h2=>intro h;simp only [W3] at h;exact .ref i o n b l (by rw [yE (hne i h)];exact h1) (by rw [uR (hne i h)];exact h2)
 | buf i n c x h1 hs h2 h3 h4=>intro h;simp only [W3] at h;exact .buf i n c x (by rw [uR (hne i h)];exact h1) hs h2 h3 h4
 | ag l vs h1 _ ih=>intro h;simp only [W3] at h;exact .ag l vs h1 (λj q hq=>ih j q hq (vO l h j q hq))
 | tu l vs h1 _ ih=>intro h;simp only [W3] at h;exact .tu l vs h1 (λj q hq=>ih j q hq (vO l h j q hq))
 | fnv f l vs h1 _ ih=>intro h;simp only [W3] at h;exact .fnv f l vs h1 (λj q hq=>ih j q hq (vO l h j q hq))
 | own i n w l x h1 h2 h3 hs=>intro h;simp only [W3] at h;exact .own i n w l x (by rw [uR (hne i h)];exact h1) h2 h3 hs
 | optr i n o w l x h1 h2 h3 hs=>intro h;simp only [W3] at h;exact .optr i n o w l x (by rw [uR (hne i h)];exact h1) h2 (λe=>by rw [yE (hne i h)];exact h3 e) hs
 | osl i n o m w l x h1 h2 h3 hs=>intro h;simp only [W3] at h;exact .osl i n o m w l x (by rw [uR (hne i h)];exact h1) h2 (λe=>by rw [yE (hne i h)];exact h3 e) hs
theorem Imp.fixV {t:Nat} (he:s.env t=some (.ptr k 0)) (hb:s.blk k=some (.var l)) (hrd:s.rdL l=some (cs,bs)) (hc:c.cells=cs)
  (hpk:∀ e∈pk,e.1≠k) (hE:∀ u v,u≠t->s.env u=some v->v.oks (wP s.blk k)=true) (hV:∀ i li,i≠k->s.blk i=some (.var li)->oL (wP s.blk k) li=true) (hW:∀ i w li,s.blk i=some (.own w li)->oL (wP s.blk k) li=true):Imp pk s ((s.unb k).put t (.p (.cptr c))):=by
 intro cx a w hcx hs;obtain ⟨M,κ,tip,h0,hp,hi⟩:=hs;obtain ⟨b,arr,e,fz,q1,q2,q3,q4,q5,q6,q7⟩:=hi.vars k l hb;obtain ⟨x,hx1,hx2⟩:=hi.env t _ he;obtain ⟨r1,r2⟩:=dU hrd q5;cases hx2 with
 | ptr _ _ b' l' g1 g2=>
 rw [q1] at g1;cases g1;have hbase:cx.w0.heap.size<=b:=by
  rcases q7 with q7 | q7
  ·exact q7
  ·simp only [Ctx.pb,Qh] at q7;obtain ⟨e',he',rfl⟩:=q7;have h1:=(hp e' he').1;have:=hi.inj _ _ _ h1 q1;exact (hpk e' (hcx▸he') this).elim
 have hle:M.le (addM M b 0 arr.size (arr[·]?)):=addM_le λo _ _=>q6 o;have hother:∀ b' o,b'≠b->addM M b 0 arr.size (arr[·]?) b' o=M b' o:=by
  intro b' o hne;unfold addM;rw [if_neg (by intro h;exact hne h.1)]
 have hat:∀ j,j<arr.size->addM M b 0 arr.size (arr[·]?) b j=arr[j]?:=by
  intro j hj;unfold addM;rw [if_pos ⟨rfl,W1 _,hj⟩]
 have hmap:∀ {v:AV} {x:Value},RepA M κ tip s.blk v x->v.oks (wP s.blk k)=true->RepA (addM M b 0 arr.size (arr[·]?)) (gP κ k none) tip (wP s.blk k) v x:=
  λh ho=>(h.unb ho).mono hle
 have hcj:∀ (j:Nat) (q:PV),c.cells[j]? = some q->j<arr.size:=λj q hq=>by
  have:=(List.getElem?_eq_some_iff.1 hq).1;rw [hc] at this;omega
 refine ⟨addM M b 0 arr.size (arr[·]?),gP κ k none,tip,h0.trans' hle,λe' he'=>?_,{
  defers:=hi.defers
  size:=hi.size
  fr:=hi.fr
  mem:=λb' o y h=>by
   unfold addM at h;split at h
   ·rename_i hc';obtain ⟨rfl,_,hlt⟩:=hc';simp only [Qm,q2];simpa using h
   ·exact hi.mem b' o y h
  env:=λu v h=>by
   simp only [AS.put,AS.unb] at h;cases hbq:Qb u t with
   | true=>
    have:=Q2 hbq;subst this;simp at h;subst h;refine ⟨_,hx1,.p _ _ (.cptr c b 0 (λj q hq=>?_) (λj q hq=>?_))⟩
    ·have:=hcj j q hq;rw [Q5,hat j this];simp [this]
    ·have hlt:=hcj j q hq;rw [hc] at hq;have:=(r2 j q hq).mono hle;simp only [mget,Q5,hat j hlt];simpa [Q0] using this
   | false=>
    simp [hbq] at h;have hne:u≠t:=by rintro rfl;simp at hbq
    obtain ⟨y,h1,h2⟩:=hi.env u v h;exact ⟨y,h1,hmap h2 (hE u v hne h)⟩
  vars:=λi li h=>by
   have h':wP s.blk k i=some (.var li):=h;have hne:i≠k:=by rintro rfl;rw [zAc] at h';cases h'
   rw [uR hne] at h';obtain ⟨b2,arr2,e2,fz2,z1,z2,z3,z4,z5,z6,z7⟩:=hi.vars i li h';have hnb:b2≠b:=λe=>hne (hi.inj i k b (e▸z1) q1);exact ⟨b2,arr2,e2,fz2,by rw [yE hne];exact z1,z2,z3,z4,λj q hq=>hmap (z5 j q hq) (vO li (hV i li hne h') j q hq),λo=>by rw [hother b2 o hnb];exact z6 o,z7⟩
  bufs:=λi ci h=>by
   have h':wP s.blk k i=some (.buf ci):=h;have hne:i≠k:=by rintro rfl;rw [zAc] at h';cases h'
   rw [uR hne] at h';obtain ⟨z1,z2,z3,z4⟩:=hi.bufs i ci h';refine ⟨z1.mono hle,z2,z3,?_⟩;rw [yE hne];rcases z4 with z4 | ⟨b2,n2,cap2,arr2,e2,fz2,y1,y2,y3,y4,y5,y6,y7,y8⟩
   ·exact .inl z4
   ·have hnb:b2≠b:=λe=>hne (hi.inj i k b (e▸y2) q1);exact .inr ⟨b2,n2,cap2,arr2,e2,fz2,y1,y2,y3,y4,y5,y6,y7,λj hj=>by rw [hother b2 j hnb];exact y8 j hj⟩
  inj:=λi i' b' h1 h2=>by
   have e1:i≠k:=by rintro rfl;rw [wT] at h1;cases h1
   have e2:i'≠k:=by rintro rfl;rw [wT] at h2;cases h2
   rw [yE e1] at h1;rw [yE e2] at h2;exact hi.inj i i' b' h1 h2
  dom:=λi h=>by
   have h':wP s.blk k i=none:=h;by_cases hne:i=k
   ·subst hne;exact wT _ _ _
   ·rw [uR hne] at h';rw [yE hne];exact hi.dom i h'
  glob:=hi.glob.mono hle
  old:=⟨λb' o hb'=>by rw [hother b' o (by omega)];exact hi.old.1 b' o hb',hi.old.2⟩
  owns:=hi.owns.keep λi wd li h=>by
   have h':wP s.blk k i=some (.own wd li):=h;have hne:i≠k:=by rintro rfl;rw [zAc] at h';cases h'
   rw [uR hne] at h';exact ⟨h',yE hne,rfl,λb2 z=>⟨rfl,λo hm=>by rw [hother b2 o (λe=>hne (hi.inj i k b (e▸z) q1))];exact hm⟩,λj q x hq hr=>hmap hr (vO li (hW i wd li h') j q hq)⟩}⟩
 have hne:e'.1≠k:=hpk e' (hcx▸he');rw [yE hne];exact hp e' he'
theorem Imp.pureT {t:Nat} (j:Nat) (he:s.env t=some (.tu l)) (hj:l[j]? = some v) (hr:s.rd v=some (p,bs)):Imp pk s (s.put t (.tu (l.set j (.p p)))):=by
 intro cx a w _ hs;obtain ⟨M,κ,tip,h0,hp,hi⟩:=hs;refine ⟨M,κ,tip,h0,hp,{ hi with env:=λu y e=>?_ }⟩;simp only [AS.put] at e;cases hb:Qb u t with
 | true=>
  have:=Q2 hb;subst this;simp at e;subst e;obtain ⟨x,h1,h2⟩:=hi.env u _ he;cases h2 with
  | tu _ vs g1 g2=>
  refine ⟨_,h1,.tu _ vs (by simpa using g1) (λi q hq=>?_)⟩;rw [List.getElem?_set] at hq;split at hq
  ·rename_i e;subst e;split at hq
   ·cases hq;exact .p _ _ (zGd (g2 j v hj) hr)
   ·cases hq
  ·exact g2 i q hq
 | false=>
  simp [hb] at e;exact hi.env u y e
section
theorem zS1 {l:Nat} (h:Q .normal s):awp P cx (.label l) Q s:=λ_ _ hs=>wp_label ⟨s,hs,h⟩
end
theorem Imp.freezeC {j0:Nat} (he:s.blk k2=some (.var l2)) (hj0:l2[j0]? = some (.ref k 0 n)) (hkk:k2≠k) (hb:s.blk k=some (.var l)) (hrd:s.rdL l=some (cs,bs)) (hc:dA w0 c cs) (hcn:c.len=n) (hw:0<w0) (hml:n<=maxLen)
  (hpk:∀ e∈pk,e.1≠k) (hE:∀ u v,s.env u=some v->v.oks (wP s.blk k)=true) (hV:∀ i li,i≠k->i≠k2->s.blk i=some (.var li)->oL (wP s.blk k) li=true) (hV2:oL (wP s.blk k) (l2.set j0 (.p .nilp))=true) (hW:∀ i w li,s.blk i=some (.own w li)->oL (wP s.blk k) li=true):Imp pk s ((s.setb k (.buf c)).setb k2 (.var (l2.set j0 (.buf k n)))):=by
 intro cx a w hcx hs;obtain ⟨M,κ,tip,h0,hp,hi⟩:=hs;obtain ⟨b,arr,e,fz,q1,q2,q3,q4,q5,q6,q7⟩:=hi.vars k l hb;obtain ⟨bb,arrb,eb,fzb,p1,p2,p3,p4,p5,p6,p7⟩:=hi.vars k2 l2 he;obtain ⟨r1,r2⟩:=dU hrd q5;obtain ⟨c1,c2,c3,c4⟩:=hc.cells r2;have hasz:arr.size=n*w0:=by rw [q4,<- r1,<- c4,hcn]
 have hx2:=p5 j0 _ hj0;generalize hx:arrb.getD j0 undef=xx at hx2;cases hx2 with
 | ref _ _ _ b' l' g1 g2=>
 rw [q1] at g1;cases g1;have hbase:cx.w0.heap.size<=b:=by
  rcases q7 with q7 | q7
  ·exact q7
  ·simp only [Ctx.pb,Qh] at q7;obtain ⟨e',he',rfl⟩:=q7;have h1:=(hp e' he').1;have:=hi.inj _ _ _ h1 q1;exact (hpk e' (hcx▸he') this).elim
 have hle:M.le (addM M b 0 (n*c.width) (arr[·]?)):=addM_le λo _ _=>q6 o;have hrep:Rep (addM M b 0 (n*c.width) (arr[·]?)) c (.slice (some ⟨b,0,none⟩) n n):=by
  have:=wL (M':=addM M b 0 (n*c.width) (arr[·]?)) (b:=b) (o:=0) (cap:=n) c1 c2 hle ?_ (by omega)
  ·rwa [hcn] at this
  intro j hj;rw [hcn] at hj;simp only [addM,Q5];rw [if_pos ⟨trivial,W1 _,hj⟩];rw [c3,<- hasz] at hj;simp [hj]
 have hother:∀ b' o,b'≠b->addM M b 0 (n*c.width) (arr[·]?) b' o=M b' o:=by
  intro b' o hne;unfold addM;rw [if_neg (by intro h;exact hne h.1)]
 generalize hS:(s.setb k (.buf c)).setb k2 (.var (l2.set j0 (.buf k n)))=S;have hSk:S.blk k=some (.buf c):=by rw [<- hS,zS (Ne.symm hkk)];exact zV _ _ _
 have hSk2:S.blk k2=some (.var (l2.set j0 (.buf k n))):=by rw [<- hS];exact zV _ _ _
 have hSo:∀ i,i≠k->i≠k2->S.blk i=s.blk i:=λi h1 h2=>by rw [<- hS,zS h2,zS h1]
 have hSe:S.env=s.env:=by rw [<- hS];rfl
 have hT:∀ i,i≠k->lG tip k (.slice (some ⟨b,0,none⟩) n n) i=tip i:=λi h=>xF h;have hmap0:∀ {v:AV} {x:Value},RepA M κ tip s.blk v x->v.oks (wP s.blk k)=true->RepA M κ (lG tip k (.slice (some ⟨b,0,none⟩) n n)) (s.setb k (.buf c)).blk v x:=
  λh ho=>h.frz (λi h=>zS h) hT ho
 have gle:GLe κ κ (lG tip k (.slice (some ⟨b,0,none⟩) n n)) (lG tip k (.slice (some ⟨b,0,none⟩) n n)) (s.setb k (.buf c)).blk S.blk:=by
  rw [<- hS];exact zSp (by rw [zS hkk];exact he)
 have hmap:∀ {v:AV} {x:Value},RepA M κ tip s.blk v x->v.oks (wP s.blk k)=true->RepA (addM M b 0 (n*c.width) (arr[·]?)) κ (lG tip k (.slice (some ⟨b,0,none⟩) n n)) S.blk v x:=
  λh ho=>((hmap0 h ho).ghost gle).mono hle
 refine ⟨addM M b 0 (n*c.width) (arr[·]?),κ,lG tip k (.slice (some ⟨b,0,none⟩) n n),h0.trans' hle,hp,{
  defers:=hi.defers
  size:=hi.size
  fr:=hi.fr
  mem:=λb' o y h=>by
   unfold addM at h;split at h
   ·rename_i hc';obtain ⟨rfl,_,hlt⟩:=hc';simp only [Qm,q2];simpa using h
   ·exact hi.mem b' o y h
  env:=λu v h=>by
   rw [hSe] at h;obtain ⟨y,h1,h2⟩:=hi.env u v h;exact ⟨y,h1,hmap h2 (hE u v h)⟩
  vars:=λi li h=>by
   have hne:i≠k:=by rintro rfl;rw [hSk] at h;cases h
   by_cases h2:i=k2
   ·subst h2;rw [hSk2] at h;cases h;refine ⟨bb,arrb,eb,fzb,p1,p2,p3,by simpa using p4,λj q hq=>?_,λo=>by rw [hother bb o (λe=>hne (hi.inj i k b (e▸p1) q1))];exact p6 o,p7⟩;rw [List.getElem?_set] at hq;split at hq
    ·rename_i e;subst e;split at hq
     ·cases hq;rw [hx];refine .buf k n c _ hSk c2 (by omega) ?_ (λ_=>(xA _ _ _).symm);rw [<- hcn,sB c2,hcn];exact hrep
     ·cases hq
    ·rename_i hjn;refine hmap (p5 j q hq) (vO _ hV2 j q ?_);rw [List.getElem?_set_ne hjn];exact hq
   ·rw [hSo i hne h2] at h;obtain ⟨b2,arr2,e2,fz2,z1,z2,z3,z4,z5,z6,z7⟩:=hi.vars i li h;have hnb:b2≠b:=λe=>hne (hi.inj i k b (e▸z1) q1);exact ⟨b2,arr2,e2,fz2,z1,z2,z3,z4,λj q hq=>hmap (z5 j q hq) (vO li (hV i li hne h2 h) j q hq),λo=>by rw [hother b2 o hnb];exact z6 o,z7⟩
  bufs:=λi ci h=>by
   by_cases hne:i=k
   ·subst hne;rw [hSk] at h;cases h;rw [xA];refine ⟨hrep,c2,by omega,.inr ⟨b,n,n,arr,e,fz,rfl,q1,hbase,q2,q3,by rw [c3,hasz];exact Q6 _,hml,λj hj=>?_⟩⟩;unfold addM;rw [if_neg (by omega)];exact q6 j
   ·have h2:i≠k2:=by rintro rfl;rw [hSk2] at h;cases h
    rw [hSo i hne h2] at h;obtain ⟨z1,z2,z3,z4⟩:=hi.bufs i ci h;rw [hT i hne];refine ⟨z1.mono hle,z2,z3,?_⟩;rcases z4 with z4 | ⟨b2,n2,cap2,arr2,e2,fz2,y1,y2,y3,y4,y5,y6,y7,y8⟩
    ·exact .inl z4
    ·have hnb:b2≠b:=λe=>hne (hi.inj i k b (e▸y2) q1);exact .inr ⟨b2,n2,cap2,arr2,e2,fz2,y1,y2,y3,y4,y5,y6,y7,λj hj=>by rw [hother b2 j hnb];exact y8 j hj⟩
  inj:=hi.inj
  dom:=λi h=>by
   by_cases hne:i=k
   ·subst hne;rw [hSk] at h;cases h
   ·by_cases h2:i=k2
    ·subst h2;rw [hSk2] at h;cases h
    ·rw [hSo i hne h2] at h;exact hi.dom i h
  glob:=hi.glob.mono hle
  old:=⟨λb' o hb'=>by rw [hother b' o (by omega)];exact hi.old.1 b' o hb',hi.old.2⟩
  owns:=hi.owns.keep λi wd li h=>by
   have hne:i≠k:=by rintro rfl;rw [hSk] at h;cases h
   have h2:i≠k2:=by rintro rfl;rw [hSk2] at h;cases h
   rw [hSo i hne h2] at h;exact ⟨h,rfl,hT i hne,λb2 z=>⟨rfl,λo hm=>by rw [hother b2 o (λe=>hne (hi.inj i k b (e▸z) q1))];exact hm⟩,λj q x hq hr=>hmap hr (vO li (hW i wd li h) j q hq)⟩}⟩
section
variable {ms:List Mic} 
theorem sa_callf (hd:o.dst=some d) (ho:o.op=.call { callee:=.value x,args:=xs,argTypes:=ts }) (hx:s.get te tx x=some (.p (.fn f fs cs)))
  (hok:Ok P f na (mkS (argE 0 (fs++(ps++cs))) []) (mkS [(0,av)] blks)) (hxl:xs.toList=xl) (htl:ts.toList=tl) (ha:mD s te xl tl ps rs bb) (hn:na=(fs++(ps++cs)).length) (hf:∀ k∈(blks.map λe=>sh d e.1),s.blk k=none) :
  SA P o s ⟨opS x (.p (.fn f fs cs))++rs,bb,blks.map λe=>sh d e.1,some (d,some (av.ren (sh d))),blks.map λe=>(sh d e.1,e.2.ren (sh d))⟩:=by
 refine ⟨?_,yI (zN hx) ha.reads.1,ha.reads.2,hf⟩;intro cx s' a w K Q hm hs hws hk;obtain ⟨M,κ,tip,h0,hp,hi⟩:=hs;obtain ⟨hl,hrep⟩:=ha.rep hi (zZ hm.1) hm.2.1;have hxr:=repA_pv (yD hi (yJ hx s' (yF hm.1)));generalize hev:a.eval x=z at hxr;cases hxr with
 | fn _ _ _ vf vc e1 e2 e3 e4=>
 have hmap:(xs.map a.eval).toList=xl.map a.eval:=by simp [hxl]
 have hsz:(vf++xs.map a.eval++vc).size=(fs++(ps++cs)).length:=by
  have:(xs.map a.eval).size=ps.length:=by rw [<- hl,<- Qf,hmap];simp
  simp only [Qd,Wf,this,e1,e2];omega
 have hinv:=zOz (w:=w) (hi.globw hp) hi.mem hsz (λj p hj=>by
  have hxsz:(xs.map a.eval).size=ps.length:=by rw [<- hl,<- Qf,hmap];simp
  rw [Q0];rw [List.getElem?_append] at hj;rw [Array.append_assoc,Array.getElem?_append];split at hj
  ·rename_i h1;rw [if_pos (by omega)];simpa [Q0] using e3 j p hj
  ·rename_i h1;rw [if_neg (by omega),Array.getElem?_append,hxsz];rw [List.getElem?_append] at hj;split at hj
   ·rename_i h2;rw [if_pos (by omega)];have:=hrep (j - fs.length) p hj;rw [e1,<- Array.getElem?_toList,hmap];exact this
   ·rename_i h2;rw [if_neg (by omega),e1];simpa [Q0] using e4 _ p hj)
 have hrun:(execOp a.eval o).run P w=.ok (.enter f (vf++xs.map a.eval++vc)) w:=by
  obtain ⟨fn,h1,h2,h3⟩:=hok.1;have h2':fn.body≠none:=by intro e;simp [e] at h2
  have h3':fn.name ≠ "runtime.NumGoroutine":=by intro e;simp [e] at h3
  simp [execOp,ho,resolve,hev,Qy,invoke,callFunc,h1,h2',h3']
 subst hn;unfold W8;rw [hrun];show Calls P f _ w _;refine (hok.2 w M zTd _ _ _ hinv (by simp)).mono ?_;rintro e w' ⟨v,rfl,M',κ',tip',h0',hp',hr⟩;show K (a.put o.dst v) w';rw [hd];refine hk _ _ ?_;rw [zF1];obtain ⟨i1,i2⟩:=hi.import h0' hr (sh d) (λj _ j' _ h=>zPw d h) (by simp) (hob:=by simp) (λj hj=>.inr (by
  refine hm.2.2 (sh d j) ?_;obtain ⟨e,he,rfl⟩:=Qh.1 hj;exact Qh.2 ⟨e,he,rfl⟩))
 obtain ⟨x,hx,hrx⟩:=hr.env 0 av (by simp [mkS,lk]);simp at hx;subst hx;refine ⟨M',_,_,h0.trans' h0',?_,i1.put (hws d (by simp [Qv])) (i2 av v hrx)⟩;intro k hk';obtain ⟨h1,h2⟩:=hp k hk';refine ⟨?_,h2⟩;have:fk (sh d) (blks.map (·.1)) k.1=none:=by
  cases hfk:fk (sh d) (blks.map (·.1)) k.1 with
  | none=>rfl
  | some j=>
   obtain ⟨hj,he⟩:=qG hfk;have:=hm.2.2 (sh d j) (by obtain ⟨e,he',rfl⟩:=Qh.1 hj;exact Qh.2 ⟨e,he',rfl⟩);rw [he,hi.dom _ this] at h1;cases h1
 simp only [this];exact h1
theorem sa_callpf (hd:o.dst=some d)
  (ho:o.op=.call { callee:=.value x,args:=xs,argTypes:=ts }) (hxa:s.get te tx x=some (.fnv f [.ptr k 0])) (hok:Ok P f na (mkS ((0,.ptr 0 0) :: argE 1 ps) [(0,.var (cs.map .p))]) (mkS [(0,av)] ((0,.var l') :: blks))) (hxl:xs.toList=xl) (htl:ts.toList=tl) (hbk:s.blk k=some (.var l)) (hcs:s.rdL l=some (cs,bs0))
  (ha:mD s te xl tl ps rs bb) (hn:na=ps.length+1) (hf:∀ j∈(blks.map λe=>sh d e.1),s.blk j=none) (hne:∀ e∈blks,e.1≠0) (hlt:Qg f 1000000=true) :
  SA P o s ⟨opS x (.fnv f [.ptr k 0])++rs,(k,.var l) :: (bs0++bb),blks.map λe=>sh d e.1,some (d,some (av.ren (shp d k))),((0,.var l') :: blks).map λe=>(shp d k e.1,e.2.ren (shp d k))⟩:=by
 refine ⟨?_,yI (zN hxa) ha.reads.1,?_,hf⟩
 ·intro cx s' a w K Q hm hs hws hk;obtain ⟨M,κ,tip,h0,hp,hi⟩:=hs;have hb':∀ e∈bb,s'.blk e.1=some e.2:=λe he=>hm.2.1 e (by simp [he]);have hbs':∀ e∈bs0,s'.blk e.1=some e.2:=λe he=>hm.2.1 e (by simp [he]);have hbk':s'.blk k=some (.var l):=hm.2.1 (k,.var l) (by simp);obtain ⟨hl,hrep⟩:=ha.rep hi (zZ hm.1) hb';have hxa':=yD hi (yJ hxa s' (yF hm.1));obtain ⟨b,arr,e,fz,q1,q2,q3,q4,q5,q6,q7⟩:=hi.vars k l hbk';have hev:a.eval x=.func (.func f) #[.pointer (some ⟨b,0,none⟩)] #[]:=by
   generalize a.eval x=z at hxa';cases hxa' with
   | fnv _ _ vs g1 g2=>
    have g3:=g2 0 (.ptr k 0) rfl;obtain ⟨y,hy⟩:∃ y,vs=#[y]:=by
     cases vs with
     | mk l=>
      match l with
      | [y]=>exact ⟨y,rfl⟩
      | []=>simp at g1
      | _ :: _ :: _=>simp at g1
    subst hy;have g4:(#[y]:Array Value).getD 0 undef=y:=rfl;rw [g4] at g3;cases g3 with
    | ptr _ _ b' _ g5 g6=>rw [q1] at g5;cases g5;simp only [mkF,hlt,cond_true]
  obtain ⟨c1,c2⟩:=dU (bY l cs bs0 hcs hbs') q5;have hmap:(#[W6 (some ⟨b,0,none⟩)]++xs.map a.eval++#[]).toList=.pointer (some ⟨b,0,none⟩) :: xl.map a.eval:=by simp [hxl]
  have hsz:(#[W6 (some ⟨b,0,none⟩)]++xs.map a.eval++#[]).size=ps.length+1:=by rw [<- hl,<- Qf,hmap];simp
  have hget0:(#[W6 (some ⟨b,0,none⟩)]++xs.map a.eval++#[])[0]? = some (.pointer (some ⟨b,0,none⟩)):=by rw [<- Array.getElem?_toList,hmap];rfl
  have hinv:=zLj (w:=w) (hi.globw hp) hi.mem hsz hget0 (λj p hj=>by
   have:=hrep j p hj;rw [Q0,<- Array.getElem?_toList,hmap];simpa using this) q2 q3 (by omega) c2 q6
  have hrun:(execOp a.eval o).run P w=.ok (.enter f (#[W6 (some ⟨b,0,none⟩)]++xs.map a.eval++#[])) w:=by
   obtain ⟨fn,h1,h2,h3⟩:=hok.1;have h2':fn.body≠none:=by intro e;simp [e] at h2
   have h3':fn.name ≠ "runtime.NumGoroutine":=by intro e;simp [e] at h3
   simp [execOp,ho,resolve,hev,Qy,invoke,callFunc,h1,h2',h3']
  subst hn;unfold W8;rw [hrun];show Calls P f _ w _;refine (hok.2 w M ⟨[(0,b)],[],by simp [BIG]⟩ _ _ _ hinv (by intro k' hk';simp at hk';subst hk';exact ⟨by simp,hi.lt q1⟩)).mono ?_;rintro e' w' ⟨v,rfl,M',κ',tip',h0',hp',hr⟩;show K (a.put o.dst v) w';rw [hd];refine hk _ _ ?_;rw [zF1];have hfresh:∀ j∈blks.map (·.1),s'.blk (sh d j)=none:=λj hj=>by
   refine hm.2.2 (sh d j) ?_;obtain ⟨e,he,rfl⟩:=Qh.1 hj;exact Qh.2 ⟨e,he,rfl⟩
  have hD:∀ j∈((0,ABlk.var l') :: blks).map (·.1),j≠0->sh d j≠k:=by
   intro j hj hj0 hk';simp only [Qk,Q1] at hj;rcases hj with hj | hj
   ·exact hj0 hj
   ·have:=hfresh j hj;rw [hk',hbk'] at this;cases this
  obtain ⟨i1,i2⟩:=hi.import h0' hr (hob:=by simp) (shp d k) (λj hj j' hj' h=>zSg d k hD hj hj' h)
   (by
    intro e' he';simp at he';subst he';exact ⟨(hp' (0,b) (by simp)).1,by simpa [shp] using q1,⟨l,by simpa [shp] using hbk'⟩,l',by simp [lk]⟩)
   (λj hj=>by
    simp only [Qk,Q1] at hj;by_cases hj0:j=0
    ·exact .inl ⟨b,by simp [hj0]⟩
    ·refine .inr ?_;have hb0:Qb j 0=false:=by rw [Qc];intro e;exact hj0 (Q2 e)
     simp only [shp,hb0,cond_false];exact hfresh j (hj.resolve_left hj0))
  obtain ⟨x,hx,hrx⟩:=hr.env 0 av (by simp [mkS,lk]);simp at hx;subst hx;refine ⟨M',_,_,h0.trans' h0',?_,i1.put (hws d (by simp [Qv])) (i2 av v hrx)⟩;intro k' hk';obtain ⟨h1,h2⟩:=hp k' hk';refine ⟨?_,h2⟩;cases hfk:fk (shp d k) (((0,ABlk.var l') :: blks).map (·.1)) k'.1 with
  | none=>exact h1
  | some j=>
   obtain ⟨hj,he⟩:=qG hfk;simp only;by_cases hj0:j=0
   ·subst hj0;simp only [shp] at he;rw [he] at h1;simp at h1;rw [q1] at h1;cases h1;exact (hp' (0,k'.2) (by simp)).1
   ·have hb0:Qb j 0=false:=by rw [Qc];intro e;exact hj0 (Q2 e)
    simp only [shp,hb0,cond_false] at he;simp only [Qk,Q1] at hj;have:=hfresh j (hj.resolve_left hj0);rw [he,hi.dom _ this] at h1;cases h1
 ·intro e he;simp only [Q1,Qi] at he;rcases he with he | he | he
  ·subst he;exact hbk
  ·exact cR l cs bs0 hcs e he
  ·exact ha.reads.2 e he
theorem va_mkf {tl':List TypeId} {rs':LV} {bb':LB} (ho:o.op=.makeFunc (.func f) xs ys) (hxl:xs.toList=xl) (hyl:ys.toList=yl) (ha:mD s te xl tl ps rs bb) (hb:mD s te yl tl' qs rs' bb'):VA P o s (rs++rs') (bb++bb') (.p (.fn f ps qs)):=by
 refine ⟨?_,yI ha.reads.1 hb.reads.1,λe he=>(Qi.1 he).elim (ha.reads.2 e) (hb.reads.2 e)⟩;intro cx M κ tip s' a w hi hr hbb;obtain ⟨h1,h2⟩:=ha.rep hi (yF hr) (λe he=>hbb e (Qi.2 (.inl he)));obtain ⟨h3,h4⟩:=hb.rep hi (zZ hr) (λe he=>hbb e (Qi.2 (.inr he)));refine ⟨.func (.func f) (xs.map a.eval) (ys.map a.eval),by simp [execOp,ho,Instr.makeFunc],.p _ _ (.fn f ps qs _ _ (by rw [<- h1,<- hxl];simp) (by rw [<- h3,<- hyl];simp) (λj q hq=>?_) (λj q hq=>?_))⟩
 ·have:=h2 j q hq;rw [<- hxl] at this;rw [Q0];simpa using this
 ·have:=h4 j q hq;rw [<- hyl] at this;rw [Q0];simpa using this
theorem va_mkfA (ho:o.op=.makeFunc (.func f) #[x] #[]) (hx:s.get te tx x=some v) (hlt:Qg f 1000000=true):VA P o s (opS x v) [] (.fnv f [v]):=by
 refine ⟨?_,zN hx,by simp⟩;intro cx M κ tip s' a w hi hr _;have h1:=yD hi (yJ hx s' hr);refine ⟨mkF f #[a.eval x],by simp [execOp,ho,Instr.makeFunc,mkF,hlt],.fnv f _ _ rfl (λj q hq=>?_)⟩;cases j with
 | zero=>simp at hq;subst hq;exact h1
 | succ j=>simp at hq
end
def gE (s:AS):LV->List (Option AV)
 | []=>[]
 | (t,_) :: r=>s.env t :: gE s r
def vE (ρ:AV->AV):LV->List (Option AV)
 | []=>[]
 | (_,v) :: r=>some (ρ v) :: vE ρ r
def gB (s:AS) (ρ:Nat->Nat):LB->List (Option ABlk)
 | []=>[]
 | (t,_) :: r=>s.blk (ρ t) :: gB s ρ r
def vB (ρ:ABlk->ABlk):LB->List (Option ABlk)
 | []=>[]
 | (_,v) :: r=>some (ρ v) :: vB ρ r
def rE (ρ:Nat->Nat):LV->LV
 | []=>[]
 | (t,v) :: r=>(t,v.ren ρ) :: rE ρ r
theorem zNs (s:AS):∀ l,gE s l=l.map λe=>s.env e.1
 | []=>rfl
 | (_,_) :: r=>by simp [gE,zNs s r]
theorem zNr (d:AV->AV):∀ l,vE d l=l.map λe=>some (d e.2)
 | []=>rfl
 | (_,_) :: r=>by simp [vE,zNr d r]
theorem zOc (s:AS) (h:Nat->Nat):∀ l,gB s h l=l.map λe=>s.blk (h e.1)
 | []=>rfl
 | (_,_) :: r=>by simp [gB,zOc s h r]
theorem zN7 (d:ABlk->ABlk):∀ l,vB d l=l.map λe=>some (d e.2)
 | []=>rfl
 | (_,_) :: r=>by simp [vB,zN7 d r]
theorem zYo (h:Nat->Nat):∀ l,rE h l=l.map λe=>(e.1,e.2.ren h)
 | []=>rfl
 | (_,_) :: r=>by simp [rE,zYo h r]
def swp:List (Nat×Nat)->List (Nat×Nat)
 | []=>[]
 | (a,b) :: r=>(b,a) :: swp r
theorem zMu:∀ (env:LV),env.map (λe=>s.env e.1)=env.map (λe=>some e.2)->zQj s env
 | [],_=>trivial
 | (t,v) :: r,h=>by
  simp only [Qk,List.cons.injEq] at h;exact ⟨h.1,zMu r h.2⟩
theorem zL2:∀ (blk:LB),blk.map (λe=>s.blk e.1)=blk.map (λe=>some e.2)->zP3 s blk
 | [],_=>trivial
 | (t,v) :: r,h=>by
  simp only [Qk,List.cons.injEq] at h;exact ⟨h.1,zL2 r h.2⟩
theorem lp (y:PK cx ks) (D:gE s env=vE id env) (A:gB s id blk=vB id blk) (v:(kC (lk blk) env&&ks.all (λk=>(lk blk k).isSome))=true) (E:uY (lk blk) blk=true):Imp cx.pk s (mkS env blk):=by
 simp only [Q4] at v;rw [zNs,zNr] at D;rw [zOc,zN7] at A;exact Imp.lep (Lep.mk' y (zMu _ D) (zL2 _ A) v.1 E v.2)
theorem cbv {r:LB} (h:oL B l=true) (v:uY B r=true):uY B ((k,.var l) :: r)=true:=by simp [uY,h,v]
theorem cbb {r:LB} (h:uY B r=true):uY B ((k,.buf c) :: r)=true:=by assumption
theorem om {f:α->PV} {l:List α}:oL B (l.map λx=>AV.p (f x))=true:=zEk f l
theorem lr (d:PK cx ks) (m:List (Nat×Nat)) 
  (K:gE s env=vE (AV.ren (rho m)) env) (F:gB s (rho m) blk=vB (ABlk.ren (rho m)) blk)
  (G:(kC (lk (bR (rho m) blk)) (rE (rho m) env)&&(ks.all (λk=>(lk (bR (rho m) blk) k).isSome) &&
   (((kR (rho m) blk).all λj=>(Qg j BIG||Wo BIG (rho (swp m) j))&&(kR (rho m) blk).all λN=>!Nat.beq (rho (swp m) j) (rho (swp m) N)||Qb j N)&&ks.all λk=>Qb (rho (swp m) k) k)))=true)
  (V:uY (lk (bR (rho m) blk)) (bR (rho m) blk)=true)
  (U:rE (rho (swp m)) (rE (rho m) env)=env) (T:bR (rho (swp m)) (bR (rho m) blk)=blk):Imp cx.pk s (mkS env blk):=by
 simp only [Q4] at G;obtain ⟨W,D,I,E⟩:=G;rw [zNs,zNr] at K;rw [zOc,zN7] at F;have S:=lp d (s:=s) (env:=rE (rho m) env) (blk:=bR (rho m) blk) (by rw [zNs,zNr,zYo];simpa using K) (by rw [zOc,zN7,zBn];simpa using F) (by simp_all) V;refine S.trans ?_;rw [kQ] at I;have J:=Imp.renK d (swp m) (env:=rE (rho m) env) (blks:=bR (rho m) blk) (by rw [zBn];simpa using I) (by
  rw [Q9] at E D ⊢;intro k L;simp only [Q4,List.any_eq_true];refine ⟨E k L,k,?_,by simp⟩;obtain ⟨b,y⟩:=Qo.1 (D k L);exact Qh.2 ⟨_,tG _ _ _ y,rfl⟩)
 rw [<- zYo,<- zBn,U,T] at J;exact J
theorem uM {f:α->PV}:∀ {l:List α},s.rdL (l.map λx=>AV.p (f x))=some (l.map f,[])
 | []=>by rfl
 | x :: r=>by simp [AS.rdL,AS.rd,uM]
theorem zO1 {f:α->PV} (y:∀ a,(f a).cells=[f a]):∀ (l:List α),flatCells (l.map f)=l.map f
 | []=>rfl
 | x :: r=>by simp [flatCells,y,zO1 y r]
theorem zBc (l:By):dA 1 (.bytes l) (l.map λx=>PV.int .u8 x.toNat):=.bytes l rfl
theorem zAp {f:α->PV} (v:∀ a,(f a).cells=[f a]) (l:List α):dA 1 (.sl 1 (l.map f)) (l.map f):=by
 have:=yDt l (λa=>by rw [v a];rfl);rwa [zO1 v] at this
def sY (B:NB) (k:Nat):LB->Bool
 | []=>true
 | (i,.var l) :: r=>(Qb i k||oL B l)&&sY B k r
 | (_,.buf _) :: r=>sY B k r
 | (_,.own _ l) :: r=>oL B l&&sY B k r
theorem cxv {r:LB} (h:oL B l=true) (v:sY B k r=true):sY B k ((i,.var l) :: r)=true:=by simp [sY,h,v]
theorem cxk {r:LB} (h:sY B k r=true):sY B k ((k,.var l) :: r)=true:=by simp [sY,h]
theorem sY.mem:∀ {l:LB},sY B k l=true->∀ {t v},t≠k->(t,.var v)∈l->oL B v=true
 | (i,.var u) :: _,h,t,v,d,y=>by
  simp only [sY,Q4] at h;rcases Q1.1 y with e | y
  ·simp_all
  ·exact sY.mem h.2 d y
 | (i,.buf u) :: _,h,t,v,d,y=>by
  simp only [sY] at h;rcases Q1.1 y with e | y
  ·cases e
  ·exact sY.mem h d y
 | (i,.own w u) :: _,h,t,v,d,y=>by
  simp only [sY,Q4] at h;rcases Q1.1 y with e | y
  ·cases e
  ·exact sY.mem h.2 d y
theorem sY.memO:∀ {l:LB},sY B k l=true->∀ {t w v},(t,.own w v)∈l->oL B v=true
 | (i,.var u) :: _,h,t,w,v,d=>by
  simp only [sY,Q4] at h;rcases Q1.1 d with e | d
  ·cases e
  ·exact sY.memO h.2 d
 | (i,.buf u) :: _,h,t,w,v,d=>by
  simp only [sY] at h;rcases Q1.1 d with e | d
  ·cases e
  ·exact sY.memO h d
 | (i,.own w0 u) :: _,h,t,w,v,d=>by
  simp only [sY,Q4] at h;rcases Q1.1 d with e | d
  ·simp_all
  ·exact sY.memO h.2 d
theorem cxo {w:Nat} {r:LB} (h:oL B l=true) (y:sY B k r=true):sY B k ((i,.own w l) :: r)=true:=by simp [sY,h,y]
theorem cbo {w:Nat} {r:LB} (h:oL B l=true) (y:uY B r=true):uY B ((i,.own w l) :: r)=true:=by simp [uY,h,y]
def zJ6 (B:NB) (t:Nat):LV->Bool
 | []=>true
 | (u,v) :: r=>(Qb u t||v.oks B)&&zJ6 B t r
theorem zJ6.mem {t:Nat}:∀ {l:LV},zJ6 B t l=true->∀ {u v},u≠t->(u,v)∈l->v.oks B=true
 | (i,x) :: _,h,u,v,y,A=>by
  simp only [zJ6,Q4] at h;rcases Q1.1 A with e | A
  ·simp_all
  ·exact zJ6.mem h.2 y A
section
theorem fzE (E:PK cx ks) (t:Nat) (he:lk env t=some (.ref k 0 n)) (N:lk blk k=some (.var l)) (D:(mkS env blk).rdL l=some (cs,bs)) (hc:dA w0 c cs) (I:c.len=n) (L:Qg 0 w0=true) (be:n<=140737488355328)
  (G:(ks.all (λj=>!Nat.beq j k)&&zJ6 (wP (lk blk) k) t env)=true) (K:sY (wP (lk blk) k) k blk=true):Imp cx.pk (mkS env blk) (((mkS env blk).setb k (.buf c)).put t (.buf k n)):=by
 simp only [Q4] at G;refine Imp.freeze he N D hc I (by simp_all) (by simp only [maxLen];omega) (λe F Z=>?_) (λu v hu h=>zJ6.mem G.2 hu (tG _ u v h)) (λi U Y h=>sY.mem K Y (tG _ i _ h)) (λi w U h=>sY.memO K (tG _ i _ h));have:=(Q9.1 G.1) _ (E e F);simp_all
theorem fzC (J:PK cx ks) (A K:Nat) (he:lk blk A=some (.var l2)) (U:l2[K]? = some (.ref k 0 n)) (hb:lk blk k=some (.var l)) (W:(mkS env blk).rdL l=some (cs,bs)) (hc:dA w0 c cs) (V:c.len=n) (hw:Qg 0 w0=true) (bh:n<=140737488355328)
  (G:(ks.all (λj=>!Nat.beq j k)&&(!Nat.beq A k&&(kC (wP (lk blk) k) env&&oL (wP (lk blk) k) (l2.set K (.p .nilp)))))=true) (h2:sY (wP (lk blk) k) k (blk.filter λe=>!Nat.beq e.1 A)=true):Imp cx.pk (mkS env blk) (((mkS env blk).setb k (.buf c)).setb A (.var (l2.set K (.buf k n)))):=by
 simp only [Q4] at G;refine Imp.freezeC (w0:=w0) he U (λe=>by have:=G.2.1;simp [e] at this) hb W hc V (by simp_all) (by simp only [maxLen];omega) (λe L hk=>?_) (λu v h=>kC.mem G.2.2.1 (tG env u v h)) (λi Y hi S h=>sY.mem h2 hi (Wk.2 ⟨tG blk i _ h,?_⟩)) G.2.2.2 (λi w Y h=>sY.memO h2 (Wk.2 ⟨tG blk i _ h,?_⟩))
 ·have:=(Q9.1 G.1) e.1 (J e L);simp [hk] at this
 ·have:Qb i A=false:=by rw [Qc];simp_all
  simp [this]
 ·have T:i≠A:=by rintro rfl;have h':lk blk i=some (.own w Y):=h;rw [he] at h';cases h'
  have:Qb i A=false:=by rw [Qc];simp_all
  simp [this]
theorem zTp (y:PK cx ks) (t:Nat) (u:By) (A:u.length=n) (N:lk env t=some (.ref k 0 n)) (G:lk blk k=some (.var l)) (E:(mkS env blk).rdL l=some (cs,bs)) (S:dA 1 (.bytes u) cs) (v:n<=140737488355328)
  (J:(ks.all (λj=>!Nat.beq j k)&&zJ6 (wP (lk blk) k) t env)=true) (T:sY (wP (lk blk) k) k blk=true):Imp cx.pk (mkS env blk) (((mkS env blk).setb k (.buf (.bytes u))).put t (.buf k u.length)):=by
 subst A;exact fzE y t N G E S rfl rfl v J T
theorem yEj (D:PK cx ks) (t:Nat) (f:α->PV) (u:List α) (A:u.length=n) (S:lk env t=some (.ref k 0 n)) (W:lk blk k=some (.var l)) (E:(mkS env blk).rdL l=some (cs,bs)) (T:dA 1 (.sl 1 (u.map f)) cs) (y:n<=140737488355328)
  (I:(ks.all (λj=>!Nat.beq j k)&&zJ6 (wP (lk blk) k) t env)=true) (U:sY (wP (lk blk) k) k blk=true):Imp cx.pk (mkS env blk) (((mkS env blk).setb k (.buf (.sl 1 (u.map f)))).put t (.buf k u.length)):=by
 subst A;exact fzE D t S W E T (by simp [Qt]) rfl y I U
theorem fzCB (I:PK cx ks) (h E:Nat) (u:By) (K:u.length=n) (W:lk blk h=some (.var l2)) (J:l2[E]? = some (.ref k 0 n)) (Z:lk blk k=some (.var l)) (L:(mkS env blk).rdL l=some (cs,bs)) (V:dA 1 (.bytes u) cs) (F:n<=140737488355328)
  (T:(ks.all (λj=>!Nat.beq j k)&&(!Nat.beq h k&&(kC (wP (lk blk) k) env&&oL (wP (lk blk) k) (l2.set E (.p .nilp)))))=true) (Y:sY (wP (lk blk) k) k (blk.filter λe=>!Nat.beq e.1 h)=true):Imp cx.pk (mkS env blk) (((mkS env blk).setb k (.buf (.bytes u))).setb h (.var (l2.set E (.buf k u.length)))):=by
 subst K;exact fzC I h E W J Z L V rfl rfl F T Y
theorem zTg (G:PK cx ks) (y D:Nat) (f:α->PV) (u:List α) (J:u.length=n) (Y:lk blk y=some (.var l2)) (K:l2[D]? = some (.ref k 0 n)) (hb:lk blk k=some (.var l)) (L:(mkS env blk).rdL l=some (cs,bs)) (hc:dA 1 (.sl 1 (u.map f)) cs) (I:n<=140737488355328)
  (U:(ks.all (λj=>!Nat.beq j k)&&(!Nat.beq y k&&(kC (wP (lk blk) k) env&&oL (wP (lk blk) k) (l2.set D (.p .nilp)))))=true) (Z:sY (wP (lk blk) k) k (blk.filter λe=>!Nat.beq e.1 y)=true):Imp cx.pk (mkS env blk) (((mkS env blk).setb k (.buf (.sl 1 (u.map f)))).setb y (.var (l2.set D (.buf k u.length)))):=by
 subst J;exact fzC G y D Y K hb L hc (by simp [Qt]) rfl I U Z
theorem fxV (D:PK cx ks) (t:Nat) (c:PV) (Y:lk env t=some (.ptr k 0)) (K:lk blk k=some (.var l)) (A:(mkS env blk).rdL l=some (cs,bs)) (U:c.cells=cs)
  (F:(ks.all (λj=>!Nat.beq j k)&&zJ6 (wP (lk blk) k) t env)=true) (I:sY (wP (lk blk) k) k blk=true):Imp cx.pk (mkS env blk) (((mkS env blk).unb k).put t (.p (.cptr c))):=by
 simp only [Q4] at F;refine Imp.fixV Y K A U (λe E V=>?_) (λu v Z h=>zJ6.mem F.2 Z (tG _ u v h)) (λi li T h=>sY.mem I T (tG _ i _ h)) (λi w li h=>sY.memO I (tG _ i _ h));have:=(Q9.1 F.1) _ (D e E);simp_all
end
section
theorem va_cat {a b:By} (h:Wo (a.length+b.length) 140737488355328=true) (S:o.op=.binOp .add tx x y tyy) (G:s.get te tx x=some (.p (.str a))) (K:s.get te tyy y=some (.p (.str b))) :
  VA P o s (opS x (.p (.str a))++opS y (.p (.str b))) [] (.p (.str (a++b))):=by
 refine ⟨?_,yI (zN G) (zN K),by simp⟩;intro cx M Y tip s' ac w I L _;have T:=gU (repA_pv (yD I (yJ G s' (yF L))));have U:=gU (repA_pv (yD I (yJ K s' (zZ L))));refine ⟨.string _,?_,.p _ _ (.str _)⟩;have W:=yW h;have N:¬ ((9223372036854775807:Int)<((a.length:Int)+(b.length))):=by omega
 simp [execOp,S,T,U,binOp,Op.stringOp,zFg,N];rfl
theorem va_sliceC (D:yV P te) {l:List PV} {w1:PV} (ho:o.op=.slice t x none none none) (ht:(te t).map (·.ty)=some (.arr n e)) (he:(te e).map (·.w)=some 1) (T:s.get te t x=some (.p (.cptr (.agg l)))) (Z:l.length=n) (U:0<n) (V:dA 1 w1 l) (E:w1.len=n):VA P o s (opS x (.p (.cptr (.agg l)))) [] (.p w1):=by
 refine ⟨?_,zN T,by simp⟩;intro cx M κ tip s' a w hi hr _;have S:=repA_pv (yD hi (yJ T s' hr));generalize F:a.eval x=z at S;cases S with
 | cptr _ b off g1 g2=>
 obtain ⟨c1,c2,c3,c4⟩:=V.cells (M:=M) (λj q Y=>g2 j q Y);obtain ⟨ei,I,bj⟩:=Qq.1 he;have hu:=zFl D ht;refine ⟨.slice (some ⟨b,off,none⟩) n n,?_,.p _ _ ?_⟩
 ·have W:¬ n=0:=by omega
  simp [execOp,ho,F,Instr.sliceAt,Instr.sureAddr,Instr.sliceBounds,run_underlying hu,uL D I,Addr.add]
 ·have:=wL (M:=M) (M':=M) (b:=b) (o:=off) (cap:=n) c1 c2 (Mem.le_refl M) (λj N=>?_) (by omega)
  ·rwa [E] at this
  ·rw [c3,Nat.mul_one,E,<- Z] at N;have:=g1 j l[j] (by simp [PV.cells,N]);obtain ⟨u,K⟩:=Qo.1 this;simp [mget,K]
end
section
theorem yCl {a:Act} (T:Inv cx M κ tip s' a w) {ww:Nat} (hy:s'.get te t' y=some (.ref k2 0 n)) (N:s'.blk k2=some (.var l2)) (hp:s'.rdL l2=some (cs,bs)) (D:dA ww p cs) (F:p.len=n) (Y:c.app p=some rr) (K:c.width=ww) (bm:0<ww) :
  ∃ v g,Src P w c.width p.src.len (a.eval y) v/\pE M p.src g/\∀ j,j<p.src.len*c.width->v[j]? = some (g j):=by
 have Z:=yD T hy;obtain ⟨b,A,e,fz,q1,q2,q3,q4,q5,q6,q7⟩:=T.vars k2 l2 N;obtain ⟨r1,r2⟩:=dU hp q5;obtain ⟨c1,c2,c3,c4⟩:=D.cells r2;generalize bl:a.eval y=z at Z;cases Z with
 | ref _ _ _ b' l' W g2=>
 rw [q1] at W;cases W;have I:p.src=p:=by cases p<;>simp [Wb] at c2<;>rfl
 have h:A.size=n*ww:=by simp_all
 rw [I,F,K];refine ⟨A.toList,λj=>A.getD j undef,⟨λw'=>by simp [Builtin.lenOf],λw' J=>?_,by simp [h]⟩,c1,λj U=>by
  simp_all⟩
 refine run_firstCells_some (P:=P) w' ww n ⟨b,0,none⟩ n n _ (by simp [h]) ?_;intro j u hu;rw [add_off];refine J _ _ ?_;simp only [Qm,q2,Q5];simpa using hu
theorem sa_appR (hok:yV P te) (hd:o.dst=some d) (ho:o.op=.call { callee:=.builtin .append,args:=#[x,y],argTypes:=#[t,t'] })
  (ht:(te t).map (·.ty)=some (.slice e)) (he:te e=some ei) (ht':P.underlying t'=some dd) (hdd:aJ dd) (hx:s.get te t x=some (.buf k c.len)) (hk:s.blk k=some (.buf c)) (J:c.width=ei.w) (hw0:0<ei.w) (hz:ei.z.length=ei.w) (hy:s.get te t' y=some (.ref k2 0 n)) (hk2:s.blk k2=some (.var l2)) (hp:s.rdL l2=some (cs,bs)) (hlit:dA ei.w p cs) (hpn:p.len=n) (v:c.app p=some rr)
  (hel:bK p=true) (hb:(c.len+p.src.len)*ei.b<=140737488355328) (hb1:0<ei.b) :
  SA P o s ⟨opS x (.buf k c.len)++opS y (.ref k2 0 n),(k,.buf c) :: (k2,.var l2) :: bs,[],some (d,some (.buf k rr.len)),[(k,.buf rr)]⟩:=by
 refine ⟨?_,yI (zN hx) (zN hy),?_,by intro k hk';simp at hk'⟩
 ·intro cx s' a w K Q hm hs hws hk';obtain ⟨M,κ,tip,h0,hpk,hi⟩:=hs;have hbk:=hm.2.1 (k,.buf c) (by simp);simp only at hbk;have hx':=yD hi (yJ hx s' (yF hm.1));obtain ⟨q1,q2,q3,q4,q5,q6,q7⟩:=zF7 v;obtain ⟨b1,b2,b3,b4⟩:=hi.bufs k c hbk;have hevx:a.eval x=tip k:=by
   generalize a.eval x=zx at hx';cases hx' with
   | buf _ _ c' _ g1 g2 g3 g4 g5=>rw [hbk] at g1;cases g1;exact g5 rfl
  obtain ⟨G,g,n1,n2,n3⟩:=yCl (P:=P) hi (yJ hy s' (zZ hm.1)) (hm.2.1 (k2,.var l2) (by simp)) (bY l2 cs bs hp (λe he=>hm.2.1 e (by simp [he]))) hlit hpn v J hw0;obtain ⟨info,z,i1,i2,i3,i4,i5⟩:=(hok e ei he).info;have hu:=yX hok ht;have hlen:c.len+p.src.len<=140737488355328:=Qz (Qp _ hb1) hb;rw [J,<- i2] at n1;have hnl:G.length=p.src.len*ei.w:=by rw [n1.nl,i2]
  have hrw:rr.width=ei.w:=by omega
  have hzs:z.cells.size=ei.w:=by rw [<- Qf,i5];simpa using hz
  have hone:∀ u∈G,u.oneCell'=true:=by
   rcases zSz v with hsl | ⟨l,rfl⟩
   ·have hps:p.src=p:=by cases p<;>simp [Wb] at hsl<;>rfl
    rw [hps] at n2 n3 hnl q5;exact zFc hsl (by omega) hw0 n2 hnl (λj hj=>n3 j (by rw [J];exact hj)) hel
   ·exact zFc (p:=.bytes l) rfl (by have h5:(1:Nat)=c.width:=q5;show (1:Nat)=ei.w;omega) hw0 n2 hnl (λj hj=>n3 j (by rw [J];exact hj)) rfl
  unfold W8;rcases b4 with ⟨hnil,hκ⟩ | ⟨b,n,cap,arr,e1,fz,htip,hκ,hbase,hheap,hfree,hcap,hml,hM⟩
  ·
   have hlen0:c.len=0:=by
    rw [hnil] at b1;rcases oH b1 b2 with ⟨_,h⟩ | ⟨b,o,n,cc,h,_⟩ | ⟨aa,h,_⟩
    ·exact h
    ·cases h
    ·cases h
   by_cases hm0:p.src.len=0
   ·rw [hm0] at n1;have hrun:=kD (P:=P) (ty:=o.type) hu ht' hdd i1 n1;rw [xM ho (hevx.trans hnil) hrun];show K (a.put o.dst _) _;rw [hd];refine hk' _ _ ?_;rw [vZ];have hrl:rr.len=0:=by omega
    have hrn:rr=c:=by
     have hps:p.src.len=0:=hm0;unfold PV.app at v;split at v
     ·rename_i aa bb;simp only [W4,Qt] at hps;have:bb=[]:=Q8 hps;subst this;simp at v;exact v.symm
     ·rename_i ww aa ww' bb;simp only [W4,Qt] at hps;have:bb=[]:=Q8 hps;subst this;cases hbq:Qb ww ww' with
      | false=>simp [hbq] at v
      | true=>simp [hbq] at v;exact v.symm
     ·rename_i aa bb;simp only [W4,Qt] at hps;have:bb=[]:=Q8 hps;subst this;simp at v;exact v.symm
     ·cases v
    subst hrn;have hset:s'.setb k (.buf rr)=s':=by
     cases s' with
     | mk env blk=>
      simp only [AS.setb];congr 1;funext t;by_cases ht:t=k
      ·subst ht;simp;exact hbk.symm
      ·have:Qb t k=false:=by rw [Qc];intro e;exact ht (Q2 e)
       simp [this]
    rw [hset];refine ⟨M,κ,tip,h0,hpk,hi.put (hws d (by simp [Qv])) ?_⟩;refine .buf k _ rr _ hbk b2 (Q6 _) ?_ (λ_=>hnil.symm);rw [sB b2,<- hnil];exact b1
   ·have hrun:=iI (P:=P) (ty:=o.type) hu ht' hdd i1 i4 n1 (by omega) (by rw [i3];rw [hlen0,Q5] at hb;exact hb) (by omega);rw [xM ho (hevx.trans hnil) hrun];show K (a.put o.dst _) _;rw [hd];refine hk' _ _ ?_;rw [vZ];have F:=bL v (mF q1 hlen0 (λ_=>undef)) n2;have hge:=grownCap_ge w p.src.len 0 e;have hrl:rr.len=p.src.len:=by omega
    have hsize:(G.toArray++Qe z.cells (grownCap w p.src.len 0 e - p.src.len)).size=grownCap w p.src.len 0 e*ei.w:=by
     simp only [Qd,Q7,size_zeroCells,hzs,hnl,<- Qr];congr 1;omega
    have hfit:p.src.len*ei.w<=grownCap w p.src.len 0 e*ei.w:=Qa _ hge;have hml:grownCap w p.src.len 0 e<=maxLen:=grownCap_le_maxLen w p.src.len 0 e (by simp only [maxLen];omega);have I:Rep (addM M w.heap.size 0 (p.src.len*rr.width) ((G.toArray++Qe z.cells (grownCap w p.src.len 0 e - p.src.len))[·]?)) rr (.slice (some ⟨w.heap.size,0,none⟩) p.src.len (grownCap w p.src.len 0 e)):=by
     have:=wL (M':=addM M w.heap.size 0 (p.src.len*rr.width) ((G.toArray++Qe z.cells (grownCap w p.src.len 0 e - p.src.len))[·]?)) (b:=w.heap.size) (o:=0) (cap:=grownCap w p.src.len 0 e) F q2 (addM_le λo _ _=>hi.mlt (Q6 _)) ?_ (by omega)
     ·rwa [hrl] at this
     intro j hj;rw [hrl] at hj;simp only [addM,Q5];rw [if_pos ⟨trivial,W1 _,hj⟩,hlen0];simp only [Nat.zero_mul,Nat.not_lt_zero,if_false,Nat.sub_zero];rw [hrw] at hj;have:=n3 j (by rw [J];exact hj);rw [Array.getElem?_append_left (by simp;omega)];simpa using this
    refine ⟨_,_,_,h0.trans' (addM_le λo _ _=>hi.mlt (Q6 _)),zI3 hi hpk hbk _,(hi.bufNew (tX w _ e) (.inr ⟨c,hbk,by omega,q7⟩) q2 (by omega) ?_ ?_ hml I).put (hws d (by simp [Qv])) ?_⟩
    ·rw [hsize,hrw];exact hfit
    ·rw [hsize,hrw];exact Q6 _
    ·rw [hrl];refine .buf k _ rr _ (zV _ _ _) q2 (by omega) ?_ (λ_=>(xA _ _ _).symm);rw [<- hrl,sB q2,hrl];exact I
  ·rw [htip] at b1;have hn:n=c.len/\n<=cap:=by
    rcases oH b1 b2 with ⟨h,_⟩ | ⟨b',o',n',cc,h,h2,h3⟩ | ⟨aa,h,hpe⟩
    ·cases h
    ·cases h;exact ⟨h2,h3⟩
    ·cases h;rcases hpe with hpe | hpe<;>(rw [hpe];exact ⟨rfl,Q6 _⟩)
   obtain ⟨hn,hcl⟩:=hn;subst hn;have F:=bL v (zBb b2 b1) n2;simp only [Q5] at F;have hsome:=zJv b2 b1 b3;simp only [Q5] at hsome;have hadd:(c.len+p.src.len)*ei.w=c.len*ei.w+p.src.len*ei.w:=Qr _ _ _;by_cases hroom:c.len+p.src.len<=cap
   ·have hfits:(c.len+p.src.len)*ei.w<=arr.size:=by rw [<- J];exact Qz (Qa _ hroom) hcap
    have hrun:=aT (P:=P) (ty:=o.type) hu ht' hdd i1 n1 (b:=b) (n:=c.len) (cap:=cap) hone hroom
     (by
       intro j hj;rw [i2];have:c.len*ei.w+j<arr.size:=by omega
       simp [Qm,hheap,this])
     (by intro j hj;rw [i2];exact rI hheap hfree (by omega))
    rw [xM ho (hevx.trans htip) hrun];show K (a.put o.dst _) _;rw [hd];refine hk' _ _ ?_;rw [vZ,i2,<- J];have hle:M.le (addM M b (c.len*c.width) ((c.len+p.src.len)*c.width) (λo=>G[o - c.len*c.width]?)):=addM_le λo h _=>hM o h;have I:Rep (addM M b (c.len*c.width) ((c.len+p.src.len)*c.width) (λo=>G[o - c.len*c.width]?)) rr (.slice (some ⟨b,0,none⟩) (c.len+p.src.len) cap):=by
     have:=wL (M':=addM M b (c.len*c.width) ((c.len+p.src.len)*c.width) (λo=>G[o - c.len*c.width]?)) (b:=b) (o:=0) (cap:=cap) F q2 hle ?_ (by omega)
     ·rwa [q6] at this
     intro j hj;rw [q6,q4] at hj;simp only [Q5];by_cases hjc:j<c.len*c.width
     ·rw [if_pos hjc];obtain ⟨u,hu⟩:=Qo.1 (hsome j hjc);rw [hle _ _ _ hu];simp [mget,hu]
     ·rw [if_neg hjc];simp only [addM];rw [if_pos ⟨trivial,by omega,hj⟩];exact n3 _ (by rw [J] at hj hjc ⊢;omega)
    refine ⟨_,_,_,h0.trans' hle,hpk,(hi.bufIn hbk htip hκ hbase hheap hfree hcap hml hM (by rw [hnl,J]) hroom q2 q4 (by omega) q7 (by omega) I).put (hws d (by simp [Qv])) ?_⟩;rw [q6];refine .buf k _ rr _ (zV _ _ _) q2 (by omega) ?_ (λ_=>(xA _ _ _).symm);rw [<- q6,sB q2,q6];exact I
   ·have hol:((W7 (c.len*ei.w)).map λj=>mget M b j).length=c.len*info.size:=by simp [i2]
    have hrun:=aE (P:=P) (ty:=o.type) hu ht' hdd i1 i4 n1 (b:=b) (n:=c.len) (cap:=cap) (olds:=(W7 (c.len*ei.w)).map λj=>mget M b j) hol
     (by
      intro j u hu;rw [List.getElem?_map] at hu;obtain ⟨j',h1,h2⟩:=Qq.1 hu;have hj:j<c.len*ei.w:=by have:=(List.getElem?_eq_some_iff.1 h1).1;simpa using this
      have hjj:j'=j:=by have:=(List.getElem?_eq_some_iff.1 h1).2;simpa using this.symm
      subst hjj;obtain ⟨zz,hz⟩:=Qo.1 (hsome j' (by rw [J];exact hj));rw [hi.mem _ _ _ hz,<- h2];simp [mget,hz])
     (by omega) (by rw [i3];exact hb) (by omega)
    rw [xM ho (hevx.trans htip) hrun];show K (a.put o.dst _) _;rw [hd];refine hk' _ _ ?_;rw [vZ];have hge:=grownCap_ge w (c.len+p.src.len) cap e;have hml:grownCap w (c.len+p.src.len) cap e<=maxLen:=grownCap_le_maxLen w _ cap e (by simp only [maxLen];omega);generalize hA:(((W7 (c.len*ei.w)).map λj=>mget M b j).toArray++G.toArray++Qe z.cells (grownCap w (c.len+p.src.len) cap e - (c.len+p.src.len)))=A;have hsize:A.size=grownCap w (c.len+p.src.len) cap e*ei.w:=by
     rw [<- hA];simp only [Qd,Q7,Wl,List.length_range,size_zeroCells,hzs,hnl,<- Qr];congr 1;omega
    have hfit:(c.len+p.src.len)*ei.w<=grownCap w (c.len+p.src.len) cap e*ei.w:=Qa _ hge;have hget:∀ j,j<(c.len+p.src.len)*ei.w->A[j]? = some (if j<c.len*ei.w then mget M b j else g (j - c.len*ei.w)):=by
     intro j hj;rw [<- hA,Array.getElem?_append_left (by simp;omega)];by_cases hjc:j<c.len*ei.w
     ·rw [if_pos hjc,Array.getElem?_append_left (by simpa using hjc)];simp [hjc]
     ·rw [if_neg hjc,Array.getElem?_append_right (by simp;omega)];have:=n3 (j - c.len*ei.w) (by rw [J];omega);simpa using this
    have hle:M.le (addM M w.heap.size 0 ((c.len+p.src.len)*rr.width) (A[·]?)):=addM_le λo _ _=>hi.mlt (Q6 _);have I:Rep (addM M w.heap.size 0 ((c.len+p.src.len)*rr.width) (A[·]?)) rr (.slice (some ⟨w.heap.size,0,none⟩) (c.len+p.src.len) (grownCap w (c.len+p.src.len) cap e)):=by
     have:=wL (M':=addM M w.heap.size 0 ((c.len+p.src.len)*rr.width) (A[·]?)) (b:=w.heap.size) (o:=0) (cap:=grownCap w (c.len+p.src.len) cap e) F q2 hle ?_ (by omega)
     ·rwa [q6] at this
     intro j hj;rw [q6] at hj;simp only [addM,Q5];rw [if_pos ⟨trivial,W1 _,hj⟩];rw [hrw] at hj;rw [hget j hj,J]
    refine ⟨_,_,_,h0.trans' hle,zI3 hi hpk hbk _,(hi.bufNew (tX w _ e) (.inr ⟨c,hbk,by omega,q7⟩) q2 (by omega) ?_ ?_ hml I).put (hws d (by simp [Qv])) ?_⟩
    ·rw [hsize,hrw];exact hfit
    ·rw [hsize,hrw];exact Q6 _
    ·rw [q6];refine .buf k _ rr _ (zV _ _ _) q2 (by omega) ?_ (λ_=>(xA _ _ _).symm);rw [<- q6,sB q2,q6];exact I
 ·intro e he;rcases Q1.1 he with he | he
  ·subst he;exact hk
  ·rcases Q1.1 he with he | he
   ·subst he;exact hk2
   ·exact cR l2 cs bs hp e he
end
section
theorem sa_mkb {tl tc:TypeId} {n:Int} (hok:yV P te) (hd:o.dst=some d) (ho:o.op=.makeSlice t x y) (ht:(te t).map (·.ty)=some (.slice e)) (he:te e=some ei) (hz:ei.z.length=ei.w) (hw0:0<ei.w) (hx:s.get te tl x=some (.p (.int kl n))) (hy:s.get te tc y=some (.p (.int kc n)))
  (h0:0<=n) (hb:n.toNat*ei.b<=140737488355328) (hb1:0<ei.b) (hzs:∀ s:AS,s.rdL (sQ ei.z n.toNat)=some (cs,[])) (hlit:dA ei.w c cs) (hcl:c.len=n.toNat) (hk:s.blk d=none):SA P o s ⟨opS x (.p (.int kl n))++opS y (.p (.int kc n)),[],[d],some (d,some (.buf d n.toNat)),[(d,.buf c)]⟩:=by
 refine ⟨?_,yI (zN hx) (zN hy),by intro e he;simp at he,by intro k hk';simp at hk';subst hk';exact hk⟩;intro cx s' a w K Q hm hs hws hk';obtain ⟨M,κ,tip,h0',hp,hi⟩:=hs;have hbk:=hm.2.2 d (by simp);have h1:=rep_int (repA_pv (yD hi (yJ hx s' (yF hm.1))));have h2:=rep_int (repA_pv (yD hi (yJ hy s' (zZ hm.1))));obtain ⟨info,z,i1,i2,i3,i4,i5⟩:=(hok e ei he).info;have hu:=yX hok ht;have hlen:n.toNat<=n.toNat*ei.b:=Qp _ hb1;have hbi:(info.bytes:Int)*n<=281474976710656:=by
  rw [i3];have:((n.toNat*ei.b:Nat):Int)<=140737488355328:=by omega
  rw [Int.natCast_mul,Int.toNat_of_nonneg h0,Int.mul_comm] at this;omega
 have hrun:=run_make (P:=P) w t e info z hu i1 i4 kl kc n n h0 (Int.le_refl _) hbi (by omega);unfold W8;have:(execOp a.eval o).run P w=.ok (.value (.slice (some ⟨w.heap.size,0,none⟩) n.toNat n.toNat)) (w.alloc (.cells (madeCells z.cells (n.toNat*ei.w)) e)):=by
  rw [i2] at hrun;simp [execOp,ho,h1,h2,hrun]
 rw [this];show K (a.put o.dst _) _;rw [hd];refine hk' _ _ ?_;rw [vZ];have hcr:=zCw hok he hz i1 i4 (M:=M) (κ:=κ) (tip:=tip) (B:=s'.blk) n.toNat;obtain ⟨r1,r2⟩:=dU (hzs s') hcr.2;obtain ⟨c1,c2,c3,c4⟩:=hlit.cells r2;have hle:M.le (addM M w.heap.size 0 (n.toNat*c.width) ((madeCells z.cells (n.toNat*ei.w))[·]?)):=addM_le λo _ _=>hi.mlt (Q6 _);have hrep:Rep (addM M w.heap.size 0 (n.toNat*c.width) ((madeCells z.cells (n.toNat*ei.w))[·]?)) c (.slice (some ⟨w.heap.size,0,none⟩) n.toNat n.toNat):=by
  have:=wL (M:=M) (M':=addM M w.heap.size 0 (n.toNat*c.width) ((madeCells z.cells (n.toNat*ei.w))[·]?)) (b:=w.heap.size) (o:=0) (cap:=n.toNat) c1 c2 hle ?_ (by omega)
  ·rwa [hcl] at this
  intro j hj;rw [hcl] at hj;simp only [addM,Q5];rw [if_pos ⟨trivial,W1 _,hj⟩];rw [c3] at hj;have:j<(madeCells z.cells (n.toNat*ei.w)).size:=by rw [size_madeCells];exact hj
  simp [this]
 refine ⟨_,_,_,h0'.trans' hle,zB4 hi hp hbk _,(hi.bufNew (cO w _ e) (.inl hbk) c2 (by omega) (by rw [size_madeCells,c3];exact Q6 _) (by rw [size_madeCells,c3];exact Q6 _) (by simp only [maxLen];omega) hrep).put (hws d (by simp [Qv])) ?_⟩;refine .buf d _ c _ (zV _ _ _) c2 (by omega) ?_ (λ_=>(xA _ _ _).symm);rw [<- hcl,sB c2,hcl];exact hrep
theorem zWo {s:AS} {z:PV}:∀ (n:Nat),(z.nilOf=true->True)->s.rdL (sQ [z] n)=some (Qu n z,[])
 | 0,_=>by simp [sQ,AS.rdL]
 | n+1,h=>by
  have ih:=zWo (s:=s) (z:=z) n h;simp only [sQ,Wd,Wh,Qk,Wp,Wa] at ih ⊢;simp only [AS.rdL];have:s.rd (zA z)=some (z,[]):=by unfold zA;cases z.nilOf<;>simp [AS.rd]
  rw [this,ih];rfl
theorem zWk {f:α->PV} {x:α} (h:z=f x) (hn:z.nilOf=false):∀ (n:Nat),sQ [z] n=(Qu n x).map λy=>AV.p (f y)
 | 0=>rfl
 | n+1=>by
  have ih:=zWk h hn n;simp only [sQ,Wd,Wh,Qk,Wp,Wa] at ih ⊢;rw [ih];have hz:zA z=AV.p (f x):=by unfold zA;rw [hn,h];rfl
  rw [hz]
def mkN (b:Nat) (n:Int):Option Nat:=if 0<=n/\n.toNat*b<=140737488355328 then some n.toNat else none
theorem zFo {n:Int} (h:mkN b n=some m):0<=n/\n.toNat*b<=140737488355328/\m=n.toNat:=by
 unfold mkN at h;split at h
 ·rename_i hc;cases h;exact ⟨hc.1,hc.2,rfl⟩
 ·cases h
def cpy (l m:List α):List α:=m.take l.length++l.drop m.length
theorem zS5 {l m:By}:sW (l.map λx=>AV.p (.int .u8 x.toNat)) 0 ((m.take l.length).map λu=>AV.p (.int .u8 u.toNat))=(cpy l m).map λx=>AV.p (.int .u8 x.toNat):=by
 rw [iF (by simp;omega)];unfold cpy;simp only [List.take_zero,Wm,Q5,Wl,List.map_append,List.map_drop,List.length_take];congr 1;rcases Nat.le_total l.length m.length with h | h
 ·rw [Nat.min_eq_left h,W9 (by simp),W9 (by simp;omega)]
 ·rw [Nat.min_eq_right h]
end
section
variable [T:nZ P] 
theorem RK.cat {a b:By} (h:Wo (a.length+b.length) 140737488355328=true) (E:(s.get T.te tx x,s.get T.te tyy y)=(some (.p (.str a)),some (.p (.str b)))) (k:VK P ops r s K d (opS x (.p (.str a))++opS y (.p (.str b))) ([]) (.p (.str (a++b)))):RK P ops (⟨some d,.binOp .add tx x y tyy,ty,pos,af,none⟩:: r) s K:=have ⟨N,L⟩:=pq E;RK.va rfl rfl (Go.Sw.va_cat h rfl N L) k
theorem RK.scB {l:By} (y:((T.te t).map (·.ty),(T.te e).map (·.w),s.get T.te t x)=(some (.arr n e),some 1,some (.p (.cptr (.agg (l.map λu=>PV.int .u8 u.toNat)))))) (I:l.length=n) (F:Qg 0 n=true) (k:VK P ops r s K d (opS x (.p (.cptr (.agg (l.map λu=>PV.int .u8 u.toNat))))) ([]) (.p (.bytes l))):RK P ops (⟨some d,.slice t x none none none,ty,pos,af,none⟩:: r) s K:=have ⟨L,y⟩:=pq y;have ⟨S,N⟩:=pq y;RK.va rfl rfl (Go.Sw.va_sliceC T.ok rfl L S N (by simp_all) (by simp_all) (zBc l) I) k
theorem RK.scM (f:α->PV) {l:List α} (S:∀ a,(f a).cells=[f a]) (h:((T.te t).map (·.ty),(T.te e).map (·.w),s.get T.te t x,l.length,Qg 0 n)=(some (.arr n e),some 1,some (.p (.cptr (.agg (l.map f)))),n,true)) (k:VK P ops r s K d (opS x (.p (.cptr (.agg (l.map f))))) ([]) (.p (.sl 1 (l.map f)))):RK P ops (⟨some d,.slice t x none none none,ty,pos,af,none⟩:: r) s K:=have ⟨V,h⟩:=pq h;have ⟨Y,h⟩:=pq h;have ⟨U,h⟩:=pq h;have ⟨N,E⟩:=pq h;RK.va rfl rfl (Go.Sw.va_sliceC T.ok rfl V Y U (by simp_all) (by simp_all) (zAp S l) (by simpa [Qt] using N)) k
theorem RK.mr (f:α->PV) (u:α) {n:Int} (h:mkN b n=some m) (v:((T.te t).map (·.ty),T.te e,ei.b,Qg 0 b,ei.z.length,s.get T.te 0 x,s.get T.te 0 y,s.blk d,ei.z,(f u).nilOf)=(some (.slice e),some ei,b,true,ei.w,some (.p (.int kl n)),some (.p (.int kc n)),none,[f u],false)) (k:BK P ops r s K d (opS x (.p (.int kl n))++opS y (.p (.int kc n))) [] [d] d (.var ((Qu m u).map λy=>AV.p (f y))) (.ref d 0 m)):RK P ops (⟨some d,.makeSlice t x y,ty,pos,af,none⟩:: r) s K:=have ⟨ht,v⟩:=pq v;have ⟨he,v⟩:=pq v;have ⟨hb,v⟩:=pq v;have ⟨S,v⟩:=pq v;have ⟨hz,v⟩:=pq v;have ⟨hx,v⟩:=pq v;have ⟨hy,v⟩:=pq v;have ⟨hk,v⟩:=pq v;have ⟨J,I⟩:=pq v;by
 obtain ⟨h0,h1,rfl⟩:=zFo h;subst hb;have be:=Qj S;have:=Go.Sw.sa_mkr (o:=⟨some d,.makeSlice t x y,ty,pos,af,none⟩) T.ok rfl rfl ht he hz hx hy h0 h1 (by omega) hk;rw [J,zWk rfl I] at this;exact RK.sb rfl this k
theorem RK.mrK (h:Wo (m*b) 140737488355328=true) (Z:(T.te t).map (·.ty)=some (.slice e)) (he:T.te e=some ei) (hb:ei.b=b) (L:Qg 0 b=true) (hz:ei.z.length=ei.w) (U:s.get T.te 0 x=some (.p (.int kl (m:Nat)))) (hy:s.get T.te 0 y=some (.p (.int kc (m:Nat)))) (hk:s.blk d=none) (k:BK P ops r s K d (opS x (.p (.int kl (m:Nat)))++opS y (.p (.int kc (m:Nat)))) [] [d] d (.var (sQ ei.z m)) (.ref d 0 m)):RK P ops (⟨some d,.makeSlice t x y,ty,pos,af,none⟩:: r) s K:=by
 have ba:=Qj L;exact RK.sb rfl (Go.Sw.sa_mkr T.ok rfl rfl Z he hz U hy (by omega) (by simp_all) (by omega) hk) k
theorem RK.mk0 {n:Int} (h:mkN b n=some m) (v:((T.te t).map (·.ty),T.te e,ei.b,Qg 0 b,ei.z.length,s.get T.te 0 x,s.get T.te 0 y,s.blk d,ei.w,Qg 0 ei.w,c.nilOf)=(some (.slice e),some ei,b,true,ei.w,some (.p (.int kl 0)),some (.p (.int kc n)),none,c.width,true,true)) (k:BK P ops r s K d (opS x (.p (.int kl 0))++opS y (.p (.int kc n))) [] [d] d (.buf c) (.buf d 0)):RK P ops (⟨some d,.makeSlice t x y,ty,pos,af,none⟩:: r) s K:=have ⟨ht,v⟩:=pq v;have ⟨he,v⟩:=pq v;have ⟨hb,v⟩:=pq v;have ⟨J,v⟩:=pq v;have ⟨hz,v⟩:=pq v;have ⟨hx,v⟩:=pq v;have ⟨hy,v⟩:=pq v;have ⟨hk,v⟩:=pq v;have ⟨Z,v⟩:=pq v;have ⟨U,hc⟩:=pq v;by
 obtain ⟨h0,h1,rfl⟩:=zFo h;subst hb;have Y:=Qj J;have bl:=Qj U;exact RK.sb rfl (Go.Sw.sa_mk0 T.ok rfl rfl ht he hz (by omega) hx hy h0 h1 (by omega) hc Z.symm hk) k
theorem RK.mbB {n:Int} (h:mkN b n=some m) (v:((T.te t).map (·.ty),T.te e,ei.b,Qg 0 b,ei.z.length,s.get T.te 0 x,s.get T.te 0 y,s.blk d,ei.z,ei.w)=(some (.slice e),some ei,b,true,ei.w,some (.p (.int kl n)),some (.p (.int kc n)),none,[.int .u8 0],1)) (k:BK P ops r s K d (opS x (.p (.int kl n))++opS y (.p (.int kc n))) [] [d] d (.buf (.bytes (Qu m 0))) (.buf d (Qu m (0:UInt8)).length)):RK P ops (⟨some d,.makeSlice t x y,ty,pos,af,none⟩:: r) s K:=have ⟨ht,v⟩:=pq v;have ⟨he,v⟩:=pq v;have ⟨hb,v⟩:=pq v;have ⟨L,v⟩:=pq v;have ⟨hz,v⟩:=pq v;have ⟨hx,v⟩:=pq v;have ⟨hy,v⟩:=pq v;have ⟨hk,v⟩:=pq v;have ⟨S,Z⟩:=pq v;by
 obtain ⟨h0,h1,rfl⟩:=zFo h;subst hb;have ba:=Qj L;rw [List.length_replicate] at k;have hl:=by
  have:=zBc (Qu n.toNat (0:UInt8));rw [List.map_replicate] at this;exact this
 exact RK.sb rfl (Go.Sw.sa_mkb T.ok rfl rfl ht he hz (by omega) hx hy h0 h1 (by omega) (λs=>by rw [S];exact zWo _ (λ_=>trivial)) (by rw [Z];exact hl) (by simp [Qt]) hk) k
theorem RK.cpB {l m:By} (hn:l.length=n) (h:((T.te t).map (·.ty),T.te e,ei.w,s.get T.te t x,s.blk k0,s.get T.te t2 y,s.rd vy)=(some (.slice e),some ei,1,some (.ref k0 0 n),some (.var (l.map λx=>AV.p (.int .u8 x.toNat))),some vy,some (.bytes m,bs)))
  (k:BK P ops r s K d (opS x (.ref k0 0 n)++opS y vy) ((k0,.var (l.map λx=>AV.p (.int .u8 x.toNat))) :: bs) [] k0 (.var ((cpy l m).map λx=>AV.p (.int .u8 x.toNat))) (.p (.int .i64 (min m.length n:Nat)))):RK P ops (⟨some d,.call ⟨.builtin .copy,#[x,y],#[t,t2]⟩,ty,pos,af,none⟩:: r) s K:=have ⟨ht,h⟩:=pq h;have ⟨he,h⟩:=pq h;have ⟨hw,h⟩:=pq h;have ⟨hx,h⟩:=pq h;have ⟨hk,h⟩:=pq h;have ⟨hy,Y⟩:=pq h;by
 subst hn;have:=Go.Sw.sa_copy (o:=⟨some d,.call _,ty,pos,af,none⟩) T.ok rfl rfl ht he hw hx hk (by simp) hy Y;rw [zS5] at this;exact RK.sb rfl this k
theorem RK.apR (f:α->PV) {e2:TypeId} {l m u:List α} (hf:∀ a,(f a).cells=[f a]) (h:yN b l m=some u) (v:((T.te t).map (·.ty),T.te e,(T.te t2).map (·.ty),s.get T.te t x,s.blk k0,1,ei.z.length,s.get T.te t2 y,s.blk k2)=(some (.slice e),some ei,some (.slice e2),some (.buf k0 l.length),some (.buf (.sl 1 (l.map f))),ei.w,ei.w,some (.ref k2 0 n),some (.var (m.map λx=>AV.p (f x))))) (hn:m.length=n) (L:∀ a,(f a).cells.all PV.one=true) (bf:(ei.b,Qg 0 b)=(b,true)) (k:BK P ops r s K d (opS x (.buf k0 (PV.sl 1 (l.map f)).len)++opS y (.ref k2 0 n)) ((k0,.buf (.sl 1 (l.map f))) :: (k2,.var (m.map λx=>AV.p (f x))) :: []) ([]) (k0) (.buf (.sl 1 (u.map f))) (.buf k0 (PV.sl 1 (u.map f)).len)):RK P ops (⟨some d,.call ⟨.builtin .append,#[x,y],#[t,t2]⟩,ty,pos,af,none⟩:: r) s K:=have ⟨ht,v⟩:=pq v;have ⟨he,v⟩:=pq v;have ⟨bd,v⟩:=pq v;have ⟨hx,v⟩:=pq v;have ⟨hk,v⟩:=pq v;have ⟨J,v⟩:=pq v;have ⟨hz,v⟩:=pq v;have ⟨hy,bg⟩:=pq v;have ⟨hb,Z⟩:=pq bf;RK.sb rfl (Go.Sw.sa_appR (c:=.sl 1 (l.map f)) T.ok rfl rfl ht he (yX T.ok bd) (.inr ⟨_,rfl⟩) (by simpa [Qt] using hx) hk J (by omega) hz hy bg uM (by rw [<- J];exact zAp hf m) (by simpa [Qt] using hn) (appM h) (oneM L) (by subst hb;have:=zSa h;simpa [Qt,W4] using this) (by simp_all)) k
theorem RK.mf {tl2:List TypeId} {rs2:LV} {bb2:LB} (v:(xs.toList,ys.toList)=(xl,yl)) (ha:mD s T.te xl tl ps rs bb) (Y:mD s T.te yl tl2 qs rs2 bb2) (k:VK P ops r s K d (rs++rs2) (bb++bb2) (.p (.fn f ps qs))):RK P ops (⟨some d,.makeFunc (.func f) xs ys,ty,pos,af,none⟩:: r) s K:=have ⟨E,D⟩:=pq v;RK.va rfl rfl (Go.Sw.va_mkf rfl E D ha Y) k
theorem RK.mfA (D:(s.get T.te 0 x,Qg f 1000000)=(some v,true)) (k:VK P ops r s K d (opS x v) ([]) (.fnv f [v])):RK P ops (⟨some d,.makeFunc (.func f) #[x] #[],ty,pos,af,none⟩:: r) s K:=have ⟨L,A⟩:=pq D;RK.va rfl rfl (Go.Sw.va_mkfA rfl L A) k
theorem RK.cf {tx:TypeId} (h:Ok P f na (mkS (argE 0 (fs++(ps++cs))) []) (mkS [(0,av)] blks)) (y:(s.get T.te 0 x,xs.toList,ts.toList)=(some (.p (.fn f fs cs)),xl,tl)) (ha:mD s T.te xl tl ps rs bb) (G:(Qb na (fs++(ps++cs)).length,(kR (sh d) blks).all (λk=>(s.blk k).isNone))=(true,true))
  (k:RK P ops r (Mic.upd ⟨opS x (.p (.fn f fs cs))++rs,bb,kR (sh d) blks,some (d,some (av.ren (sh d))),bR (sh d) blks⟩ s) λs' ms=>K s' (⟨opS x (.p (.fn f fs cs))++rs,bb,kR (sh d) blks,some (d,some (av.ren (sh d))),bR (sh d) blks⟩:: ms)):RK P ops (⟨some d,.call ⟨.value x,xs,ts⟩,ty,pos,af,none⟩:: r) s K:=have ⟨hx,y⟩:=pq y;have ⟨J,I⟩:=pq y;have ⟨hn,Z⟩:=pq G;
 by
 rw [kQ,zBn] at k;rw [kQ] at Z;exact RK.st rfl (Go.Sw.sa_callf rfl rfl hx h J I ha (Q2 hn) (λk hk=>by simpa using (Q9.1 Z) k hk)) k
theorem RK.cpf {tx:TypeId} (h:Ok P f na (mkS ((0,.ptr 0 0) :: argE 1 ps) [(0,.var (cs.map .p))]) (mkS [(0,av)] ((0,.var l') :: blks))) (y:(s.get T.te 0 x,xs.toList,ts.toList,s.blk k0,s.rdL l)=(some (.fnv f [.ptr k0 0]),xl,tl,some (.var l),some (cs,bs0))) (ha:mD s T.te xl tl ps rs bb) (D:(Qb na (ps.length+1),(kR (sh d) blks).all (λk=>(s.blk k).isNone),blks.all (λe=>!Nat.beq e.1 0),Qg f 1000000)=(true,true,true,true))
  (k:RK P ops r (Mic.upd ⟨opS x (.fnv f [.ptr k0 0])++rs,(k0,.var l) :: (bs0++bb),kR (sh d) blks,some (d,some (av.ren (shp d k0))),bR (shp d k0) ((0,.var l') :: blks)⟩ s) λs' ms=>K s' (⟨opS x (.fnv f [.ptr k0 0])++rs,(k0,.var l) :: (bs0++bb),kR (sh d) blks,some (d,some (av.ren (shp d k0))),bR (shp d k0) ((0,.var l') :: blks)⟩:: ms)):RK P ops (⟨some d,.call ⟨.value x,xs,ts⟩,ty,pos,af,none⟩:: r) s K:=have ⟨hx,y⟩:=pq y;have ⟨W,y⟩:=pq y;have ⟨N,y⟩:=pq y;have ⟨ba,S⟩:=pq y;have ⟨hn,D⟩:=pq D;have ⟨hf,D⟩:=pq D;have ⟨Y,U⟩:=pq D;
 by
 rw [kQ,zBn] at k;rw [kQ] at hf;exact RK.st rfl (Go.Sw.sa_callpf rfl rfl hx h W N ba S ha (Q2 hn) (λk hk=>by simpa using (Q9.1 hf) k hk) (λe he h0=>by have:=(Q9.1 Y) e he;simp_all) U) k
end
abbrev qI (n:Int):AV:=.p (.int .i64 n)
abbrev qU (x:UInt8):AV:=.p (.int .u8 x.toNat)
abbrev qB (b:Bool):AV:=.p (.bool b)
abbrev qY (l:By):AV:=.p (.bytes l)
abbrev qZ (l:By):AV:=.p (.str l)
abbrev qL (w:Nat) (f:α->PV) (l:List α):AV:=.p (.sl w (l.map f))
abbrev qA (f:α->PV) (l:List α):ABlk:=.var (l.map λx=>AV.p (f x))
section
theorem im {c:Code} (hl:Imp cx.pk s s') (h:awp P cx c Q s'):awp P cx c Q s:=zRw hl h
end
theorem toA2 {l:List α} {a:A2 α} (h:(match l with | [x,y]=>some (A2.mk x y) | _=>none)=some a):l=[a.a0,a.a1]:=by
 split at h
 ·cases h;rfl
 ·cases h
def lA2:List α->Option (A2 α) | [x,y]=>some ⟨x,y⟩ | _=>none
def lA8:List α->Option (A8 α) | [a,b,c,d,e,f,g,h]=>some ⟨a,b,c,d,e,f,g,h⟩ | _=>none
theorem zO3 {l:List α} {r:A2 α} (h:lA2 l=some r):l=[r.a0,r.a1]:=by unfold lA2 at h;split at h<;>cases h;rfl
theorem zZg {l:List α} {r:A8 α} (h:lA8 l=some r):l=[r.a0,r.a1,r.a2,r.a3,r.a4,r.a5,r.a6,r.a7]:=by unfold lA8 at h;split at h<;>cases h;rfl
theorem nz {b:Int} (h:(!(b==0))=true):(b==0)=false:=by simpa using h
theorem nE {l:List α} (h:Qb l.length n=true):l.length=n:=Q2 h
theorem zXo {ρ:Nat->Nat} {α:Type} {f:α->PV}:∀ {l:List α},kG ρ (l.map λx=>AV.p (f x))=l.map λx=>AV.p (f x)
 | []=>rfl
 | x :: r=>by simp only [Qk,kG,AV.ren];rw [zXo (l:=r)]
theorem tI {s'':AS} (h:Imp pk s s') (k:Imp pk s' s''):Imp pk s s'':=Imp.trans h k
section
def OR (cx:Ctx) (E:AS) (e:Exit) (s:AS):Prop:=(e=.ret∨e=.normal)/\Imp cx.pk s E
theorem zOb {body:Code} {as rs:AS} (E:AS) (hf:P.funcs[f]? = some fn) (hb:fn.body=some body) (hnm:(fn.name == "runtime.NumGoroutine")=false) (hnt:na<=fn.ntmps) (hks:∀ k,k<BIG->(as.blk k).isSome=true->k∈ks)
  (hr:∀ cx:Ctx,PK cx ks->vY P fn cx E rs) (h:∀ cx:Ctx,cx.nt=fn.ntmps->PK cx ks->awp P cx body (OR cx E) as):Ok P f na as rs:=
 zLh hf hb hnm hnt hks λcx h1 h2 a w hs=>wp_mono (h cx h1 h2 a w hs) λe a' w' ⟨s',g1,g2,g3⟩ =>⟨E,g3 cx a' w' rfl g1,g2,hr cx h2⟩
end
section
variable {bx:LB} {k:IntKind}
end
section
variable [T:nZ P] {k0:IntKind} {bx:LB} 
end
section
theorem zTq {ta:TypeId} {i:TI} (bi:yV P te) (hd:o.dst=none) (ho:o.op=.store t ax x) (ht:te t=some i) (ha:s.get te ta ax=some (.ptr k off)) (hx:s.get te t x=some v) (I:s.rd v=some (p,bs)) (hb:s.blk k=some (.var l))
  (hw:(AV.p p).cells.length=i.w) (hl:off+i.w<=l.length) (S:(AV.p p).cells.all AV.one=true):SA P o s ⟨opS ax (.ptr k off)++opS x v,(k,.var l) :: bs,[],none,[(k,.var (sW l off (AV.p p).cells))]⟩:=by
 refine ⟨?_,yI (zN ha) (zN hx),λe W=>(Q1.1 W).elim (λh=>by subst h;exact hb) (vU v p bs I e),by intro e W;simp at W⟩;intro cx s' a w K Q Z hs cn hk;obtain ⟨M,κ,tip,h0,hp,hi⟩:=hs;have T:=Z.2.1 (k,.var l) (by simp);have be:RepA M κ tip s'.blk (.p p) (a.eval x):=.p _ _ (kM hi hx I (zZ Z.1) (λe W=>Z.2.1 e (by simp [W])));have V:=yD hi (yJ ha s' (yF Z.1));obtain ⟨L,G⟩:=cX be;obtain ⟨b,bk,e,fz,h1,h2,h3,h4,h5,h6,h7⟩:=hi.vars k l T;generalize bh:a.eval ax=z at V;cases V with
 | ptr k o b' l' N ci=>
  rw [h1] at N;cases N;have E:(a.eval x).cells.toList.length=(AV.p p).cells.length:=by simp [L]
  have A:=run_storeCells_cells (P:=P) b off (a.eval x).cells.toList 0 w
   (by
     intro j hj;rw [E] at hj;have:off+j<bk.size:=by omega
     simp [Qm,h2,this])
   (by intro j hj;rw [E] at hj;simp only [Wg];exact rI h2 h3 (by omega))
   (by
    intro u hu;obtain ⟨j,hj,bj⟩:=W0 hu;have ca:j<(AV.p p).cells.length:=by omega
    have Y:=G j (AV.p p).cells[j] (by simp);have bg:j<(a.eval x).cells.size:=by omega
    have:(a.eval x).cells.getD j undef=u:=by simp [bg];simpa using bj
    rw [this] at Y;exact zFa Y ((Q9.1 S) _ (Wi _)))
  unfold W8;have:(execOp a.eval o).run P w=.ok .skip (w.setCells b off (a.eval x).cells.toList):=by
   simp only [Wg] at A;have bf:¬ ((a.eval x).cells.size≠i.w):=by rw [L,hw];simp
   simp [execOp,ho,bh,Instr.storeAt,Instr.sureAddr,storeVar,uL bi ht,bf,A]
  rw [this];show K (a.put o.dst undef) _;rw [hd];refine hk _ _ ?_;rw [zCm];refine ⟨M,κ,tip,h0,hp,hi.setVar T h1 (by omega) E ?_⟩;intro j q Y;have:=G j q Y;rw [Q0] at this;simpa using this
end
section
variable [T:nZ P] 
theorem RK.stP {f:α->PV} {i:TI} {j:Nat} {l l':List α} {u:α} (h:uA l j u=some l') (I:(T.te t,s.get T.te 0 ax)=(some i,some (.ptr k0 off))) (Z:off=j) (hx:s.get T.te t x=some v) (hp:s.rd v=some (f u,bs)) (A:(s.blk k0,i.w,(AV.p (f u)).cells,(AV.p (f u)).one)=(some (.var (l.map λx=>AV.p (f x))),1,[AV.p (f u)],true)) (k:RK P ops r (s.setb k0 (.var (l'.map λx=>AV.p (f x)))) λs' ms=>K s' (⟨opS ax (.ptr k0 off)++opS x v,(k0,.var (l.map λx=>AV.p (f x))) :: bs,[],none,[(k0,.var (l'.map λx=>AV.p (f x)))]⟩:: ms)):RK P ops (⟨none,.store t ax x,ty,pos,af,none⟩:: r) s K:=have ⟨ht,ha⟩:=pq I;have ⟨hb,A⟩:=pq A;have ⟨V,A⟩:=pq A;have ⟨U,F⟩:=pq A;by
 refine RK.so rfl ?_ k;subst Z;obtain ⟨Y,h2⟩:=zCu h;have:=zTq (o:=⟨none,.store t ax x,ty,pos,af,none⟩) T.ok rfl rfl ht ha hx hp hb (by simp [U,V]) (by rw [V];simpa using Nat.succ_le_of_lt Y) (by simp [U,F]);rw [U,zG7 (by simp_all)] at this;have e:(l.map λx=>AV.p (f x)).set off (AV.p (f u))=l'.map λx=>AV.p (f x):=by simp_all
 rw [e] at this;omega
theorem RK.iaE {i:Int} (j:Nat) (h:(i==(j:Int))=true) (v:((T.te t).map (·.ty),T.te e,s.get T.te t x,s.get T.te 0 y,Qg j n)=(some (.arr n e),some ei,some (.ptr k0 off),some (.p (.int .i64 i)),true))
  (k:VK P ops r s K d (opS x (.ptr k0 off)++opS y (.p (.int .i64 i))) [] (.ptr k0 (off+j*ei.w))):RK P ops (⟨some d,.indexAddr t x y,ty,pos,af,none⟩:: r) s K:=have ⟨Y,v⟩:=pq v;have ⟨he,v⟩:=pq v;have ⟨V,v⟩:=pq v;have ⟨W,Z⟩:=pq v;by
 have e:=by simpa using h
 subst e;exact RK.va rfl rfl (Go.Sw.iaK T.ok rfl Y he V W Z) k
theorem RK.stB {f:α->PV} {l0:List α} {i:TI} (A:l0.length=i.w) (d:(T.te t,s.get T.te 0 ax,s.get T.te t x,s.blk k0,i.w)=(some i,some (.ptr k0 0),some (.p (.agg (l0.map f))),some (.var l),l.length)) (G:∀ a,(f a).one=true)
  (k:RK P ops r (s.setb k0 (.var (l0.map λx=>AV.p (f x)))) λs' Y=>K s' (⟨opS ax (.ptr k0 0)++opS x (.p (.agg (l0.map f))),[(k0,.var l)],[],none,[(k0,.var (l0.map λx=>AV.p (f x)))]⟩:: Y)):RK P ops (⟨none,.store t ax x,ty,pos,af,none⟩:: r) s K:=have ⟨Z,d⟩:=pq d;have ⟨ha,d⟩:=pq d;have ⟨hx,d⟩:=pq d;have ⟨hb,hl⟩:=pq d;by
 refine RK.so rfl ?_ k;have L:(AV.p (.agg (l0.map f))).cells=l0.map λx=>AV.p (f x):=by simp [AV.cells]
 have:=Go.Sw.sa_store (o:=⟨none,.store t ax x,ty,pos,af,none⟩) T.ok rfl rfl Z ha hx hb (by simp [L,A]) (by omega) (by simp [L,AV.one,G]);have e:sW l 0 (l0.map λx=>AV.p (f x))=l0.map λx=>AV.p (f x):=by rw [iF (by simp_all)];simp_all
 simp_all
end
theorem zLb {P:Program} {w:World} {b:Nat}:∀ (l:By) (o:Nat) (r:ByteArray),(∀ (i:Nat) (x:UInt8),l[i]? = some x->w.cell? ⟨b,o+i,none⟩=some (.int .u8 x.toNat)) ->
  (Qx ⟨b,o,none⟩ l.length r).run P w=.ok ⟨r.data++l.toArray⟩ w
 | [],o,r,_=>by simp [Qx]
 | u :: l,o,r,h=>by
  have h0:=h 0 u rfl;simp only [Wg] at h0;have h1:=zLb (P:=P) (w:=w) (b:=b) l (o+1) (r.push u) (λi x hx=>by have:=h (i+1) x (by simpa using hx);rw [show o+1+i=o+(i+1) by omega];exact this);simp only [List.length_cons,Qx];rw [Sem.run_bind,run_load,h0];simp only [Qw];have e:(u.toNat:Int).toNat.toUInt8=u:=by simp
  rw [e];have e2:(⟨b,o,none⟩:Addr).add 1=⟨b,o+1,none⟩:=by simp [Addr.add]
  rw [e2,h1];congr 1;apply ByteArray.ext;simp [ByteArray.push]
theorem zM9 {l:By} {x:Value} (h:Rep M (.bytes l) x) (hm:∀ b o x,M b o=some x->w.cell? ⟨b,o,none⟩=some x) :
  (Q3 x).run P w=.ok ⟨l.toArray⟩ w:=by
 cases h with
 | bytes0=>rfl
 | bytesE a=>rfl
 | bytes l b o n c h1 h2 h3=>
  subst h1;have:=zLb (P:=P) (w:=w) (b:=b) l o .empty (λi x hx=>hm _ _ _ (h3 i x hx));simp only [Q3];rw [this];have he:ByteArray.empty.data=#[]:=rfl;simp [he]
def PV.byl:PV->Option By
 | .str l=>some l
 | .bytes l=>some l
 | _=>none
theorem aK {l:By} {x:Value} (hp:p.byl=some l) (h:Rep M p x) (hm:∀ b o x,M b o=some x->w.cell? ⟨b,o,none⟩=some x) :
  (Q3 x).run P w=.ok ⟨l.toArray⟩ w:=by
 unfold PV.byl at hp;split at hp
 ·cases hp;rw [gU h];rfl
 ·cases hp;exact zM9 h hm
 ·cases hp
theorem zUg {x y:Value} {b:ByteArray} (hx:(Q3 x).run P w=.ok a w) (hy:(Q3 y).run P w=.ok b w) :
  (Qs #[x,y]).run P w=.ok (.int .i64 (Lib.compareBytes a.data.toList b.data.toList)) w:=by
 change Sem.run P (do pure (goInt (Extern.BytealgCompare.cmp (<- Q3 x) (<- Q3 y)))) w=_;simp only [Sem.run_bind,hx,hy,Sem.run_pure,Qw];rw [Lib.cmp_eq];rfl
theorem zX5 {x:Value} {c:Int} (hx:(Q3 x).run P w=.ok a w) :
  (Qn #[x,.int .u8 c]).run P w=.ok (.int .i64 (Lib.indexByte a.data.toList c.toNat.toUInt8)) w:=by
 change Sem.run P (do
  let b <- Q3 x;let c' <- We (.int .u8 c)
  match (W7 b.size).find? λi=>b[i]! == c' with
  | some i=>pure (goInt i)
  | none=>pure (goInt (-1))) w=_
 rw [<- Lib.firstIdx_eq];simp only [We,firstIdx,Sem.run_bind,hx,Sem.run_pure,Qw];cases List.find? (λi=>a[i]! == c.toNat.toUInt8) (W7 a.size)<;>simp [goInt]
section
variable {v':AV} {p':PV} {bs':LB} {l l':By} 
theorem yBm (hf:P.funcs[f]? = some fn) (hname:(fn.name == "runtime.NumGoroutine")=false) (hb:fn.body.isNone=true) (hn:Extern.findNext fn=none) (he:Extern.find fn=some Qs)
  (ho:o.op=.call { callee:=.value (.func f),args:=#[x,y],argTypes:=#[t,t'] })
  (hx:s.get te t x=some v) (hp:s.rd v=some (p,bs)) (hl:p.byl=some l) (hy:s.get te t' y=some v') (hq:s.rd v'=some (p',bs')) (hl':p'.byl=some l') :
  VA P o s (opS x v++opS y v') (bs++bs') (.p (.int .i64 (Lib.compareBytes l l'))):=by
 refine ⟨?_,yI (zN hx) (zN hy),λe h=>(Qi.1 h).elim (vU v _ bs hp e) (vU v' _ bs' hq e)⟩;intro cx M κ tip s' a w hin hr hbk;have h1:=aK (P:=P) hl (kM hin hx hp (yF hr) (λe h=>hbk e (Qi.2 (.inl h)))) hin.mem;have h2:=aK (P:=P) hl' (kM hin hy hq (zZ hr) (λe h=>hbk e (Qi.2 (.inr h)))) hin.mem;refine ⟨_,?_,.p _ _ (.int _ _)⟩;have h3:=run_callFunc_extern hf hname hb hn he #[a.eval x,a.eval y] w;rw [zUg h1 h2] at h3;simpa [execOp,ho,resolve,Act.eval,Qy,invoke,Qw] using h3
theorem yEu {c:Int} (hf:P.funcs[f]? = some fn) (hname:(fn.name == "runtime.NumGoroutine")=false) (hb:fn.body.isNone=true) (hn:Extern.findNext fn=none) (he:Extern.find fn=some Qn)
  (ho:o.op=.call { callee:=.value (.func f),args:=#[x,y],argTypes:=#[t,t'] })
  (hx:s.get te t x=some v) (hp:s.rd v=some (p,bs)) (hl:p.byl=some l) (hy:s.get te t' y=some (.p (.int .u8 c))) :
  VA P o s (opS x v++opS y (.p (.int .u8 c))) bs (.p (.int .i64 (Lib.indexByte l c.toNat.toUInt8))):=by
 refine ⟨?_,yI (zN hx) (zN hy),vU v _ bs hp⟩;intro cx M κ tip s' a w hin hr hbk;have h1:=aK (P:=P) hl (kM hin hx hp (yF hr) hbk) hin.mem;have h2:=rep_int (repA_pv (yD hin (yJ hy s' (zZ hr))));refine ⟨_,?_,.p _ _ (.int _ _)⟩;have h3:=run_callFunc_extern hf hname hb hn he #[a.eval x,a.eval y] w;rw [h2,zX5 h1] at h3;rw [<- h2] at h3;simpa [execOp,ho,resolve,Act.eval,Qy,invoke,Qw] using h3
def Ext (P:Program) (f:FuncId) (e:Array Value->Sem Value):Prop:=∃ fn,P.funcs[f]? = some fn/\(fn.name == "runtime.NumGoroutine")=false/\fn.body.isNone=true/\Extern.findNext fn=none/\Extern.find fn=some e
variable [T:nZ P]
theorem RK.cpx (h:Ext P f Qs) (hx0:(s.get T.te t x,s.rd v,p.byl,s.get T.te t' y,s.rd v',p'.byl)=(some v,some (p,bs),some l,some v',some (p',bs'),some l'))
  (k:VK P ops r s K d (opS x v++opS y v') (bs++bs') (.p (.int .i64 (Lib.compareBytes l l')))):RK P ops (⟨some d,.call { callee:=.value (.func f),args:=#[x,y],argTypes:=#[t,t'] },ty,pos,af,none⟩:: r) s K:=have ⟨hx,hx0⟩:=pq hx0;have ⟨hp,hx0⟩:=pq hx0;have ⟨hl,hx0⟩:=pq hx0;have ⟨hy,hx0⟩:=pq hx0;have ⟨hq,hl'⟩:=pq hx0;by
 obtain ⟨fn,h1,h2,h3,h4,h5⟩:=h;exact RK.va rfl rfl (yBm h1 h2 h3 h4 h5 rfl hx hp hl hy hq hl') k
theorem RK.ibx {c:UInt8} (h:Ext P f Qn) (hx0:(s.get T.te t x,s.rd v,p.byl,s.get T.te t' y)=(some v,some (p,bs),some l,some (.p (.int .u8 c.toNat))))
  (k:VK P ops r s K d (opS x v++opS y (.p (.int .u8 c.toNat))) bs (.p (.int .i64 (Lib.indexByte l c)))):RK P ops (⟨some d,.call { callee:=.value (.func f),args:=#[x,y],argTypes:=#[t,t'] },ty,pos,af,none⟩:: r) s K:=have ⟨hx,hx0⟩:=pq hx0;have ⟨hp,hx0⟩:=pq hx0;have ⟨hl,hy⟩:=pq hx0;by
 obtain ⟨fn,h1,h2,h3,h4,h5⟩:=h;have:=yEu (o:=⟨some d,.call { callee:=.value (.func f),args:=#[x,y],argTypes:=#[t,t'] },ty,pos,af,none⟩) h1 h2 h3 h4 h5 rfl hx hp hl hy;rw [show ((c.toNat:Int).toNat.toUInt8)=c by simp] at this;exact RK.va rfl rfl this k
end
section
variable {a:Act} {w':World}
theorem zQ3 (L:Inv cx M κ tip s a w) (G:∀ k∈cx.pk,κ k.1=some k.2/\k.2<cx.w0.heap.size) (J:s.blk k=some (.own wd l)) (b:Option Nat):∀ v∈cx.pk,gP κ k b v.1=some v.2/\v.2<cx.w0.heap.size:=by
 intro v y;have A:=G v y;rw [yE]
 ·exact A
 ·intro e;have F:=L.owns _ wd l J;rw [<- e] at F;rcases F with ⟨_,d,_⟩ | ⟨_,⟨_,d,_⟩ | ⟨b',n,cap,I,e,S,_,d,D,N,_⟩⟩
  ·simp_all
  ·simp_all
  ·rw [A.1] at d;cases d;have:=cx.pk.nk v y;omega
theorem Inv.ownNew (d:Inv cx M κ tip s a w) {arr:Array Value} (S:zJl w w' arr e fz)
  (I:s.blk k=none∨∃ l0,s.blk k=some (.own wd l0)/\l0.length<l.length) (cb:0<wd) (hn:n*wd=l.length) (bc:cap*wd<=arr.size) (bv:n<=cap) (br:cap<=maxLen)
  (cd:∀ (j:Nat) (q:AV),l[j]? = some q->RepA M κ tip s.blk q (arr.getD j undef)) :
  Inv cx M (gP κ k (some w.heap.size)) (lG tip k (.slice (some ⟨w.heap.size,0,none⟩) n cap)) (s.setb k (.own wd l)) a w':=by
 have bt:GLe κ (gP κ k (some w.heap.size)) tip (lG tip k (.slice (some ⟨w.heap.size,0,none⟩) n cap)) s.blk (s.setb k (.own wd l)).blk:={
  var:=λi b l h h'=>by
   have e:i≠k:=by
    rintro rfl;rcases I with I | ⟨l0,I,_⟩<;>(rw [I] at h';cases h')
   rw [yE e,zS e];exact ⟨h,l,h'⟩
  buf:=λi c1 h=>by
   have e:i≠k:=by
    rintro rfl;rcases I with I | ⟨l0,I,_⟩<;>(rw [I] at h;cases h)
   exact GLe.same (by rw [zS e];exact h) (xF e)
  own:=λi w1 l1 h=>by
   by_cases e:i=k
   ·subst e;rcases I with I | ⟨l0,I,A⟩
    ·rw [I] at h;cases h
    ·rw [I] at h;cases h;exact ⟨wd,l,zV _ _ _,.inl ⟨rfl,by omega,λe=>by omega⟩⟩
   ·exact GLe.sameO (by rw [zS e];exact h) (yE e) (xF e) }
 have E:∀ {v:AV} {x:Value},RepA M κ tip s.blk v x->RepA M (gP κ k (some w.heap.size)) (lG tip k (.slice (some ⟨w.heap.size,0,none⟩) n cap)) (s.setb k (.own wd l)).blk v x:=λh=>h.ghost bt;exact {
  defers:=d.defers
  size:=d.size
  fr:=⟨S.os.trans d.fr.os,S.tape.trans d.fr.tape,S.output.trans d.fr.output,by have:=d.fr.size;rw [S.size];omega,λb G F h3=>by
   rw [S.old b (by have:=d.fr.size;omega)];exact d.fr.block b G F h3⟩
  mem:=λb o x h=>by
   have:=d.mem b o x h;have A:=World.block_lt_of_cell? w _ this;rw [World.cell?_of_block (S.old b A)];exact this
  env:=λt v h=>let ⟨x,G,F⟩:=d.env t v h;⟨x,G,E F⟩
  vars:=λi l h=>by
   have D:i≠k:=by rintro rfl;rw [zV] at h;cases h
   rw [zS D] at h;obtain ⟨b,bf,Y,bu,G,F,h3,h4,h5,h6,h7⟩:=d.vars i l h;have A:=d.lt G;exact ⟨b,bf,Y,bu,by rw [yE D];exact G,by rw [S.old b A];exact F,h3,h4,λj q hq=>E (h5 j q hq),h6,h7⟩
  bufs:=λi c1 h=>by
   have D:i≠k:=by rintro rfl;rw [zV] at h;cases h
   rw [zS D] at h;obtain ⟨G,F,h3,h4⟩:=d.bufs i c1 h;rw [xF D,yE D];refine ⟨G,F,h3,?_⟩;rcases h4 with h4 | ⟨b,n1,J,K,Y,Z,q1,q2,q3,q4,q5,q6,q7,q8⟩
   ·exact .inl h4
   ·have A:=d.lt q2;exact .inr ⟨b,n1,J,K,Y,Z,q1,q2,q3,by rw [S.old b A];exact q4,q5,q6,q7,q8⟩
  inj:=λi j b G F=>by
   by_cases Y:i=k
   ·subst Y;rw [wT] at G;cases G;by_cases e2:j=i
    ·exact e2.symm
    ·rw [yE e2] at F;have:=d.lt F;omega
   ·rw [yE Y] at G;by_cases e2:j=k
    ·subst e2;rw [wT] at F;cases F;have:=d.lt G;omega
    ·rw [yE e2] at F;exact d.inj i j b G F
  dom:=λi h=>by
   by_cases D:i=k
   ·subst D;rw [zV] at h;cases h
   ·rw [zS D] at h;rw [yE D];exact d.dom i h
  glob:=d.glob
  old:=d.old
  owns:=λi w1 l1 h=>by
   by_cases D:i=k
   ·subst D;rw [zV] at h;cases h;rw [xA,wT];exact .inr ⟨cb,.inr ⟨w.heap.size,n,cap,arr,e,fz,rfl,rfl,.inl d.fr.size,S.new,S.free,hn,bc,bv,br,λj q hq=>E (cd j q hq),λo=>d.mlt (Q6 _)⟩⟩
   ·rw [zS D] at h;rw [xF D,yE D];rcases d.owns i w1 l1 h with g0 | ⟨g1,g2⟩
    ·exact .inl g0
    refine .inr ⟨g1,?_⟩;rcases g2 with g2 | ⟨b,n1,J,K,Y,Z,q1,q2,q3,q4,q5,q6,q7,q8,q9,bw,bn⟩
    ·exact .inl g2
    ·have A:=d.lt q2;exact .inr ⟨b,n1,J,K,Y,Z,q1,q2,q3,by rw [S.old b A];exact q4,q5,q6,q7,q8,q9,λj q hq=>E (bw j q hq),bn⟩}
theorem Inv.ownNil (d:Inv cx M κ tip s a w) (S:s.blk k=none) (bi:0<wd) :
  Inv cx M κ (lG tip k (.slice none 0 0)) (s.setb k (.own wd [])) a w:=by
 have D:GLe κ κ tip (lG tip k (.slice none 0 0)) s.blk (s.setb k (.own wd [])).blk:={
  var:=λi b l h W=>by
   have e:i≠k:=by rintro rfl;rw [S] at W;cases W
   rw [zS e];exact ⟨h,l,W⟩
  buf:=λi c1 h=>by
   have e:i≠k:=by rintro rfl;rw [S] at h;cases h
   exact GLe.same (by rw [zS e];exact h) (xF e)
  own:=λi c1 l1 h=>by
   have e:i≠k:=by rintro rfl;rw [S] at h;cases h
   exact GLe.sameO (by rw [zS e];exact h) rfl (xF e) }
 exact {
  defers:=d.defers
  size:=d.size
  fr:=d.fr
  mem:=d.mem
  env:=λt v h=>let ⟨x,h1,h2⟩:=d.env t v h;⟨x,h1,h2.ghost D⟩
  vars:=λi l h=>by
   have y:i≠k:=by rintro rfl;rw [zV] at h;cases h
   rw [zS y] at h;obtain ⟨b,J,Y,bc,h1,h2,h3,h4,h5,h6⟩:=d.vars i l h;exact ⟨b,J,Y,bc,h1,h2,h3,h4,λj q hq=>(h5 j q hq).ghost D,h6⟩
  bufs:=λi c1 h=>by
   have y:i≠k:=by rintro rfl;rw [zV] at h;cases h
   rw [zS y] at h;rw [xF y];exact d.bufs i c1 h
  inj:=d.inj
  dom:=λi h=>by
   by_cases y:i=k
   ·subst y;rw [zV] at h;cases h
   ·rw [zS y] at h;exact d.dom i h
  glob:=d.glob
  old:=d.old
  owns:=λi w1 l1 h=>by
   by_cases y:i=k
   ·subst y;rw [zV] at h;cases h;rw [xA];exact .inr ⟨bi,.inl ⟨rfl,d.dom i S,rfl⟩⟩
   ·rw [zS y] at h;rw [xF y];rcases d.owns i w1 l1 h with g0 | ⟨g1,V⟩
    ·exact .inl g0
    refine .inr ⟨g1,?_⟩;rcases V with V | ⟨b,n1,I,K,Y,Z,q1,q2,q3,q4,q5,q6,q7,q8,q9,bd,bf⟩
    ·exact .inl V
    ·exact .inr ⟨b,n1,I,K,Y,Z,q1,q2,q3,q4,q5,q6,q7,q8,q9,λj q hq=>(bd j q hq).ghost D,bf⟩}
theorem Inv.ownSet (y:Inv cx M κ tip s a w) {n':Nat} {arr':Array Value} {vs:List Value} (hb:s.blk k=some (.own wd l)) (bk:tip k=.slice (some ⟨b,0,none⟩) n cap) (U:κ k=some b) (K:cx.w0.heap.size<=b∨b∈cx.ob/\BIG<=k)
  (Z:zD3 fz arr'.size) (g1:(w.setCells b off vs).heap[b]? = some (.cells arr' e fz)) (bh:cap*wd<=arr'.size) (cg:n'<=cap) (cb:cap<=maxLen) (be:0<wd) (hM:∀ o,M b o=none) (bj:n'*wd=l'.length) (cd:l.length<=l'.length) (hl0:n*wd=l.length)
  (cp:∀ (j:Nat) (q:AV),l'[j]? = some q->RepA M κ tip s.blk q (arr'.getD j undef)) :
  Inv cx M κ (lG tip k (.slice (some ⟨b,0,none⟩) n' cap)) (s.setb k (.own wd l')) a (w.setCells b off vs):=by
 have D:=jE b vs off w;have bv:GLe κ κ tip (lG tip k (.slice (some ⟨b,0,none⟩) n' cap)) s.blk (s.setb k (.own wd l')).blk:={
  var:=λi b l h h'=>by
   have e:i≠k:=by rintro rfl;rw [hb] at h';cases h'
   rw [zS e];exact ⟨h,l,h'⟩
  buf:=λi c1 h=>by
   have e:i≠k:=by rintro rfl;rw [hb] at h;cases h
   exact GLe.same (by rw [zS e];exact h) (xF e)
  own:=λi c1 l1 h=>by
   by_cases e:i=k
   ·subst e;rw [hb] at h;cases h;refine ⟨wd,l',zV _ _ _,.inl ⟨rfl,cd,λe=>⟨rfl,?_⟩⟩⟩;rw [xA,bk];have:n'=n:=Ql be (by omega);rw [this]
   ·exact GLe.sameO (by rw [zS e];exact h) rfl (xF e) }
 have J:∀ {v:AV} {x:Value},RepA M κ tip s.blk v x->RepA M κ (lG tip k (.slice (some ⟨b,0,none⟩) n' cap)) (s.setb k (.own wd l')).blk v x:=λh=>h.ghost bv;exact {
  defers:=y.defers
  size:=y.size
  fr:=⟨D.1.trans y.fr.os,D.2.1.trans y.fr.tape,D.2.2.trans y.fr.output,by rw [jH];exact y.fr.size,λi cv ce bn=>by
   rw [xY b vs _ w i (by rintro rfl;exact K.elim (λh=>by omega) λh=>bn h.1)];exact y.fr.block i cv ce bn⟩
  mem:=λi o x h=>by
   have F:i≠b:=by rintro rfl;rw [hM] at h;cases h
   have:=y.mem i o x h;rw [World.cell?_setCells_out b vs off w _ (λe=>(F e).elim)];exact this
  env:=λt v h=>let ⟨x,h1,h2⟩:=y.env t v h;⟨x,h1,J h2⟩
  vars:=λi l h=>by
   have I:i≠k:=by rintro rfl;rw [zV] at h;cases h
   rw [zS I] at h;obtain ⟨N,S,e2,bc,k1,k2,k3,k4,k5,k6,k7⟩:=y.vars i l h;have F:N≠b:=λe=>I (y.inj i k b (e▸k1) U);exact ⟨N,S,e2,bc,k1,by rw [xY b vs _ w N F];exact k2,k3,k4,λj q hq=>J (k5 j q hq),k6,k7⟩
  bufs:=λi c1 h=>by
   have I:i≠k:=by rintro rfl;rw [zV] at h;cases h
   rw [zS I] at h;obtain ⟨k1,k2,k3,k4⟩:=y.bufs i c1 h;rw [xF I];refine ⟨k1,k2,k3,?_⟩;rcases k4 with k4 | ⟨N,n2,bd,S,e2,bc,q1,q2,q3,q4,q5,q6,q7,q8⟩
   ·exact .inl k4
   ·have F:N≠b:=λe=>I (y.inj i k b (e▸q2) U);exact .inr ⟨N,n2,bd,S,e2,bc,q1,q2,q3,by rw [xY b vs _ w N F];exact q4,q5,q6,q7,q8⟩
  inj:=y.inj
  dom:=λi h=>by
   by_cases I:i=k
   ·subst I;rw [zV] at h;cases h
   ·rw [zS I] at h;exact y.dom i h
  glob:=y.glob
  old:=y.old
  owns:=λi w1 l1 h=>by
   by_cases I:i=k
   ·subst I;rw [zV] at h;cases h;rw [xA];exact .inr ⟨be,.inr ⟨b,n',cap,arr',e,fz,rfl,U,K,g1,Z,bj,bh,cg,cb,λj q hq=>J (cp j q hq),hM⟩⟩
   ·rw [zS I] at h;rw [xF I];rcases y.owns i w1 l1 h with g0 | ⟨cw,g2⟩
    ·exact .inl g0
    refine .inr ⟨cw,?_⟩;rcases g2 with g2 | ⟨N,n1,bl,bf,e1,bt,q1,q2,q3,q4,q5,q6,q7,q8,q9,cf,bz⟩
    ·exact .inl g2
    ·have F:N≠b:=λe=>I (y.inj i k b (e▸q2) U);exact .inr ⟨N,n1,bl,bf,e1,bt,q1,q2,q3,by rw [xY b vs _ w N F];exact q4,q5,q6,q7,q8,q9,λj q hq=>J (cf j q hq),bz⟩}
end
section
theorem zMe {cx:Ctx} {z:Value} (F:B k=some (.own wd l)) (E:n*wd=l.length) (h:RepA M κ tip B (.own k n) z):z=tip k:=by
 cases h with
 | own _ _ w' l' _ y G D I=>simp_all
theorem zR0 {ity:TypeId} {i:Int} (E:yV P te) (ho:o.op=.indexAddr t x y) (ht:(te t).map (·.ty)=some (.slice e)) (he:te e=some ei)
  (hx:s.get te t x=some (.own k n)) (hb:s.blk k=some (.own wd l)) (W:n*wd=l.length) (hw:wd=ei.w) (hy:s.get te ity y=some (.p (.int .i64 i))) (h0:0<=i) (h1:i<n) :
  VA P o s (opS x (.own k n)++opS y (.p (.int .i64 i))) [(k,.own wd l)] (.optr k n (i.toNat*ei.w)):=by
 refine ⟨?_,yI (zN hx) (zN hy),by simpa using hb⟩;intro cx M κ tip s' a w Y hr N;have v:=N (k,.own wd l) (by simp);simp only at v;have J:=yD Y (yJ hx s' (yF hr));have h2:=rep_int (repA_pv (yD Y (yJ hy s' (zZ hr))));have hu:=yX E ht;have V:=uL E he w;have D:=zMe (cx:=cx) v W J;obtain ⟨g1,g2⟩:=Y.owns.live v W;rcases g2 with ⟨_,_,rfl⟩ | ⟨b,n1,cap,bz,e1,fz,q1,q2,q3,q4,q5,q6,q7,q8,q9,bm,bl⟩
 ·have hp:=W2 (show 0<n by omega) g1;simp only [Wn] at W;omega
 ·have T:n1=n:=Ql g1 (by omega);subst T;rw [q1] at D;exact ⟨.pointer (some ⟨b,0+i.toNat*ei.w,none⟩),by simp [execOp,ho,D,h2,Instr.indexAt,asIntOf,run_underlying hu,h0,h1,V,add_off],.optr k n1 _ wd l _ v (by omega) (λ_=>⟨b,q2,by simp⟩) ⟨_,rfl⟩⟩
theorem yCm (N:yV P te) (ho:o.op=.call { callee:=.builtin .len,args:=#[x],argTypes:=#[t] }) (ht:(te t).map (·.ty)=some (.slice e)) (S:s.get te t x=some (.own k n)) (hb:s.blk k=some (.own wd l)) (I:n*wd=l.length):VA P o s (opS x (.own k n)) [(k,.own wd l)] (.p (.int .i64 n)):=by
 refine ⟨?_,zN S,by simpa using hb⟩;intro cx M κ tip s' a w hi hr L;have D:=L (k,.own wd l) (by simp);simp only at D;have y:=zMe (cx:=cx) D I (yD hi (yJ S s' hr));have hu:=yX N ht;obtain ⟨T,g2⟩:=hi.owns.live D I;rcases g2 with ⟨y1,_,rfl⟩ | ⟨b,n1,cap,arr,e1,fz,q1,q2,q3,q4,q5,q6,q7,q8,q9,q10,q11⟩
 ·have:n=0:=by
            rcases W5 n with h | h
            ·exact h
            ·have:=W2 h T;simp at I;omega
  subst this;rw [y1] at y;exact ⟨.int .i64 0,by simp [execOp,ho,y,resolve,invoke,builtin,Wq,run_underlying hu,goInt],.p _ _ (.int _ _)⟩
 ·have J:n1=n:=Ql T (by omega);subst J;rw [q1] at y;exact ⟨.int .i64 n1,by simp [execOp,ho,y,resolve,invoke,builtin,Wq,run_underlying hu,goInt],.p _ _ (.int _ _)⟩
theorem zNg {i:TI} (N:yV P te) (ho:o.op=.load t x) (ht:te t=some i) (hp:i.plain=true) (V:s.get te ty x=some (.optr k n off)) (hb:s.blk k=some (.own wd l)) (Z:n*wd=l.length) (Y:l[off]? = some v) :
  VA P o s (opS x (.optr k n off)) [(k,.own wd l)] v:=by
 refine ⟨?_,zN V,by simpa using hb⟩;intro cx M κ tip s' a w U hr S;have G:=yD U (yJ V s' hr);have E:=S (k,.own wd l) (by simp);obtain ⟨g1,g2⟩:=U.owns.live E Z;generalize K:a.eval x=z at G;cases G with
 | optr _ _ _ w' l' _ h1 h2 h3 hs=>
  rw [E] at h1;cases h1;obtain ⟨b,J,rfl⟩:=h3 Z;rcases g2 with ⟨_,T,_⟩ | ⟨b',n1,cap,F,e1,fz,q1,W,q3,q4,q5,q6,q7,q8,q9,L,bq⟩
  ·rw [J] at T;cases T
  ·rw [J] at W;cases W;have bm:off<l.length:=(List.getElem?_eq_some_iff.1 Y).1;have be:n1*wd<=cap*wd:=Qa _ q8;have h:off<F.size:=by omega
   have D:w.cell? ⟨b,off,none⟩=some F[off]:=by simp [Qm,q4,h]
   refine ⟨F[off],?_,?_⟩
   ·simp [execOp,ho,K,Instr.loadAt,Instr.sureAddr,fB N ht hp D]
   ·have:=L off v Y;simpa [h] using this
theorem zTy {b:ABlk} (h:s.blk k=some b):s.setb k b=s:=by
 cases s with
 | mk env blk=>
  simp only [AS.setb];congr 1;funext t;by_cases v:t=k
  ·simp_all
  ·have:Qb t k=false:=by rw [Qc];simp_all
   simp_all
end
section
def yCh (P:Program) (y:Operand) (rs:LV) (bs:LB) (size m:Nat) (cs:List AV):Prop:=
 ∀ (cx:Ctx) (M:Mem) (κ:Nat->Option Nat) (tip:Nat->Value) (s:AS) (a:Act) (w:World),Inv cx M κ tip s a w->wG s rs->(∀ e∈bs,s.blk e.1=some e.2) ->
  ∃ news,Src P w size m (a.eval y) news/\∀ (j:Nat) (q:AV),cs[j]? = some q->RepA M κ tip s.blk q ((news[j]?).getD undef)
theorem zMl {cs:List AV} (hok:yV P te) (hd:o.dst=some d) (ho:o.op=.call { callee:=.builtin .append,args:=#[x,y],argTypes:=#[t,t'] })
  (ht:(te t).map (·.ty)=some (.slice e)) (he:te e=some ei) (ht':P.underlying t'=some dd) (hdd:aJ dd) (hx:s.get te t x=some (.own k n)) (hk:s.blk k=some (.own wd l)) (hn:n*wd=l.length) (E:wd=ei.w) (hz:ei.z.length=ei.w) (hy:s.get te t' y=some vy) (hbs:∀ e∈bs,s.blk e.1=some e.2)
  (hsrc:yCh P y (opS y vy) bs ei.w m cs) (hm:cs.length=m*ei.w) (hone:cs.all AV.one=true) (hb:(n+m)*ei.b<=140737488355328) (hb1:0<ei.b) :
  SA P o s ⟨opS x (.own k n)++opS y vy,(k,.own wd l) :: bs,[],some (d,some (.own k (n+m))),[(k,.own wd (l++cs))]⟩:=by
 refine ⟨?_,yI (zN hx) (zN hy),?_,by intro k hk';simp at hk'⟩
 ·intro cx s' a w K Q hmm hs hws hk';obtain ⟨M,κ,tip,h0,hpk,hi⟩:=hs;have G:=hmm.2.1 (k,.own wd l) (by simp);simp only at G;have hevx:=zMe (cx:=cx) G hn (yD hi (yJ hx s' (yF hmm.1)));obtain ⟨D,n1,n2⟩:=hsrc cx M κ tip s' a w hi (zZ hmm.1) (λe he=>hmm.2.1 e (by simp [he]));obtain ⟨g1,g2⟩:=hi.owns.live G hn;obtain ⟨info,z,i1,i2,i3,i4,i5⟩:=(hok e ei he).info;have hu:=yX hok ht;have hlen:n+m<=140737488355328:=Qz (Qp _ hb1) hb;have hnl:D.length=m*ei.w:=n1.nl;have hnc:D.length=cs.length:=by omega
  rw [<- i2] at n1;have hzs:z.cells.size=ei.w:=by rw [<- Qf,i5];simpa using hz
  have hlc:(l++cs).length=(n+m)*wd:=by rw [Wf,hm,<- hn,E,Qr]
  have honev:∀ u∈D,u.oneCell'=true:=by
   intro u hu;obtain ⟨j,hj,hju⟩:=W0 hu;have hq:=n2 j cs[j] (by simp);rw [List.getElem?_eq_getElem hj,hju] at hq;exact zFa hq ((Q9.1 hone) _ (Wi _))
  unfold W8;rcases g2 with ⟨hnil,hκ,rfl⟩ | ⟨b,n',cap,arr,e1,fz,q1,q2,q3,q4,q5,q6,q7,q8,q9,q10,q11⟩
  ·have hn0:n=0:=by
    rcases W5 n with h | h
    ·exact h
    ·have:=W2 h g1;simp only [Wn] at hn;omega
   subst hn0;simp only [Wm,Q5] at *;by_cases hm0:m=0
   ·subst hm0;have hcs:cs=[]:=Q8 (by omega);subst hcs;have F:=kD (P:=P) (ty:=o.type) hu ht' hdd i1 n1;rw [xM ho (hevx.trans hnil) F];show K (a.put o.dst _) _;rw [hd];refine hk' _ _ ?_;rw [vZ,zTy G];exact ⟨M,κ,tip,h0,hpk,hi.put (hws d (by simp [Qv])) (.own k 0 wd [] _ G (by simp) (λ_=>hnil.symm) ⟨_,_,_,rfl⟩)⟩
   ·have F:=iI (P:=P) (ty:=o.type) hu ht' hdd i1 i4 n1 (by omega) (by rw [i3];exact hb) (by omega);rw [xM ho (hevx.trans hnil) F];show K (a.put o.dst _) _;rw [hd];refine hk' _ _ ?_;rw [vZ];have hge:=grownCap_ge w m 0 e;have hsize:(D.toArray++Qe z.cells (grownCap w m 0 e - m)).size=grownCap w m 0 e*ei.w:=by
     simp only [Qd,Q7,size_zeroCells,hzs,hnl,<- Qr];congr 1;omega
    have hml:grownCap w m 0 e<=maxLen:=grownCap_le_maxLen w m 0 e (by simp only [maxLen];omega);have hpos:=W2 (show 0<m by omega) g1;refine ⟨M,_,_,h0,zQ3 hi hpk G _,(hi.ownNew (k:=k) (wd:=wd) (n:=m) (cap:=grownCap w m 0 e) (l:=cs) (tX w _ e) (.inr ⟨[],G,by simp;omega⟩) g1 (by omega) (by rw [hsize,E];exact Q6 _) hge hml ?_).put (hws d (by simp [Qv])) (.own k m wd cs _ (zV _ _ _) (by omega) (λ_=>(xA _ _ _).symm) ⟨_,_,_,rfl⟩)⟩;intro j q hq;have hlt:j<cs.length:=(List.getElem?_eq_some_iff.1 hq).1;rw [Q0,Array.getElem?_append_left (by simp;omega)];have:=n2 j q hq;simpa using this
  ·have hnn:n'=n:=Ql g1 (by omega);subst hnn;have hfit0:n'*wd<=cap*wd:=Qa _ q8;by_cases hroom:n'+m<=cap
   ·have hfits:(n'+m)*wd<=arr.size:=Qz (Qa _ hroom) q7;have hadd:(n'+m)*wd=n'*wd+m*wd:=Qr _ _ _;have hnw:D.length=m*wd:=by rw [hnl,E]
    have F:=aT (P:=P) (ty:=o.type) hu ht' hdd i1 n1 (b:=b) (n:=n') (cap:=cap) honev hroom
     (by
       intro j hj;rw [i2,<- E];have:n'*wd+j<arr.size:=by omega
       simp [Qm,q4,this])
     (by intro j hj;rw [i2,<- E];exact rI q4 q5 (by omega))
    rw [xM ho (hevx.trans q1) F];show K (a.put o.dst _) _;rw [hd];refine hk' _ _ ?_;rw [vZ,i2,<- E];obtain ⟨arr',z1,z2,z3⟩:=qD b D (n'*wd) w arr e1 fz q4 (by omega);refine ⟨M,κ,_,h0,hpk,(hi.ownSet (n':=n'+m) (l':=l++cs) G q1 q2 q3 (by rw [z2];exact q5) z1 (by rw [z2];exact q7) hroom q9 g1 q11 (by omega) (by simp) q6 ?_).put (hws d (by simp [Qv])) (.own k (n'+m) wd (l++cs) _ (zV _ _ _) (by omega) (λ_=>(xA _ _ _).symm) ⟨_,_,_,rfl⟩)⟩;intro j q hq;rw [Q0,z3 j];by_cases hj:j<l.length
    ·rw [List.getElem?_append_left hj] at hq;rw [if_neg (by omega)];have:=q10 j q hq;rw [Q0] at this;exact this
    ·rw [List.getElem?_append_right (by omega)] at hq;have hlt:j - l.length<cs.length:=(List.getElem?_eq_some_iff.1 hq).1;rw [if_pos (by omega)];have:=n2 _ q hq;rw [show j - n'*wd=j - l.length by omega];exact this
   ·have hol:(arr.toList.take (n'*wd)).length=n'*info.size:=by simp [i2,<- E];omega
    have F:=aE (P:=P) (ty:=o.type) hu ht' hdd i1 i4 n1 (b:=b) (n:=n') (cap:=cap) (olds:=arr.toList.take (n'*wd)) hol
     (by
      intro j u hu;rw [List.getElem?_take] at hu;split at hu
      ·simp only [Qm,q4];simpa using hu
      ·cases hu)
     (by omega) (by rw [i3];exact hb) (by omega)
    rw [xM ho (hevx.trans q1) F];show K (a.put o.dst _) _;rw [hd];refine hk' _ _ ?_;rw [vZ];have hge:=grownCap_ge w (n'+m) cap e;have hml:grownCap w (n'+m) cap e<=maxLen:=grownCap_le_maxLen w _ cap e (by simp only [maxLen];omega);have hmp:0<m:=by omega
    have hmw:=W2 hmp g1;have hadd:(n'+m)*wd=n'*wd+m*wd:=Qr _ _ _;have htl:(arr.toList.take (n'*wd)).length=n'*wd:=by simp;omega
    generalize hA:((arr.toList.take (n'*wd)).toArray++D.toArray++Qe z.cells (grownCap w (n'+m) cap e - (n'+m)))=A;have hsize:A.size=grownCap w (n'+m) cap e*ei.w:=by
     rw [<- hA];have hsub:(grownCap w (n'+m) cap e - (n'+m))*ei.w=grownCap w (n'+m) cap e*ei.w - (n'+m)*ei.w:=Nat.sub_mul _ _ _;have hge2:(n'+m)*ei.w<=grownCap w (n'+m) cap e*ei.w:=Qa _ hge;simp only [Qd,Q7,htl,size_zeroCells,hzs,hnl];rw [hsub,E];rw [E] at hadd;omega
    refine ⟨M,_,_,h0,zQ3 hi hpk G _,(hi.ownNew (k:=k) (wd:=wd) (n:=n'+m) (cap:=grownCap w (n'+m) cap e) (l:=l++cs) (tX w A e) (.inr ⟨l,G,by omega⟩) g1 (by omega) (by rw [hsize,E];exact Q6 _) hge hml ?_).put (hws d (by simp [Qv])) (.own k (n'+m) wd (l++cs) _ (zV _ _ _) (by omega) (λ_=>(xA _ _ _).symm) ⟨_,_,_,rfl⟩)⟩;intro j q hq;have hnw:D.length=m*wd:=by rw [hnl,E]
    have hjt:j<(l++cs).length:=(List.getElem?_eq_some_iff.1 hq).1;rw [Q0,<- hA,Array.getElem?_append_left (by simp only [Qd,Q7,htl];omega)];by_cases hj:j<l.length
    ·rw [List.getElem?_append_left hj] at hq;rw [Array.getElem?_append_left (by simp only [Q7,htl];omega)];have:=q10 j q hq;rw [Q0] at this;simp only [List.getElem?_toArray,List.getElem?_take];rw [if_pos (by omega)];simpa using this
    ·rw [List.getElem?_append_right (by omega)] at hq;rw [Array.getElem?_append_right (by simp only [Q7,htl];omega)];have:=n2 _ q hq;simp only [Q7,htl,List.getElem?_toArray];rw [show j - n'*wd=j - l.length by omega];exact this
 ·intro e he;rcases Q1.1 he with he | he
  ·subst he;exact hk
  ·exact hbs e he
def PV.ecs:PV->List AV
 | .bytes l=>l.map λx=>.p (.int .u8 x.toNat)
 | .str l=>l.map λx=>.p (.int .u8 x.toNat)
 | .sl _ l=>(flatCells l).map .p
 | _=>[]
theorem zGp {g:Nat->Value} {news:List Value} (G:pE M p.src g) (U:p.src.isSlice=true) (W:p.src.width=wd) (F:∀ j,j<p.src.len*wd->news[j]? = some (g j)) :
  p.ecs.length=p.src.len*wd/\∀ (j:Nat) (q:AV),p.ecs[j]? = some q->RepA M κ tip B q ((news[j]?).getD undef):=by
 have I:∀ (l:By),pE M (.bytes l) g->(∀ j,j<l.length*1->news[j]? = some (g j))->∀ (j:Nat) (q:AV),(l.map λx=>AV.p (.int .u8 x.toNat))[j]? = some q->RepA M κ tip B q ((news[j]?).getD undef):=by
  intro l G F j q A;rw [List.getElem?_map] at A;obtain ⟨u,J,h2⟩:=Qq.1 A;have Y:j<l.length:=(List.getElem?_eq_some_iff.1 J).1;rw [F j (by omega),<- h2,Wj,G j u J];exact .p _ _ (.int _ _)
 cases p with
 | bytes l=>simp only [W4,Wc] at *;subst W;exact ⟨by simp [PV.ecs,Qt],I l G F⟩
 | str l=>simp only [W4,Wc] at *;subst W;exact ⟨by simp [PV.ecs,Qt],I l G F⟩
 | sl w' l=>
  simp only [W4,Wc] at *;subst W;obtain ⟨c1,c2⟩:=G;have N:∀ p∈l,p.cells.length=w':=λp D=>by obtain ⟨i,hi,h⟩:=W0 D;exact c1 i p (by simp [hi,h])
  obtain ⟨f1,f2⟩:=flat_get l N;refine ⟨by simp [PV.ecs,Qt,f1],λj q A=>?_⟩;simp only [PV.ecs] at A;rw [List.getElem?_map] at A;obtain ⟨u,J,h2⟩:=Qq.1 A;have Y:j<(flatCells l).length:=(List.getElem?_eq_some_iff.1 J).1;have Z:0<w':=by
   rcases W5 w' with h | h
   ·subst h;omega
   ·exact h
  have S:w'*(j / w')+j % w'=j:=Nat.div_add_mod j w';have hi:j / w'<l.length:=Nat.div_lt_of_lt_mul (by rw [Nat.mul_comm];omega);have D:l[j / w']? = some l[j / w']:=by simp
  have V:=c1 _ _ D;have hr:j % w'<l[j / w'].cells.length:=by rw [V];exact Nat.mod_lt _ Z
  have K:l[j / w'].cells[j % w']? = some l[j / w'].cells[j % w']:=by simp
  have e:j / w'*w'+j % w'=j:=by rw [Nat.mul_comm];exact S
  have h3:=f2 _ _ _ _ D K;rw [e,J] at h3;cases h3;have h4:=c2 _ _ _ _ D K;rw [e] at h4;rw [F j (by simp only [Qt];omega),<- h2,Wj];exact .p _ _ h4
 | _=>simp [W4,Wb] at U
theorem zG2 (Z:s.get te t' y=some vy) (Y:s.rd vy=some (p,bs)) (K:p.src.isSlice=true) (J:p.src.width=wd) (V:0<wd):yCh P y (opS y vy) bs wd p.src.len p.ecs:=by
 intro cx M κ tip s' a w G T W;have h:=kM G Z Y T W;cases p with
 | str l=>
  rw [gU h];obtain ⟨d,g,F,D,A⟩:=zRj (P:=P) (M:=M) (w:=w) l;have v:wd=1:=by rw [<- J];rfl
  subst v;exact ⟨d,F,(zGp (p:=.str l) D rfl rfl A).2⟩
 | bytes l=>
  obtain ⟨d,g,F,D,A⟩:=zCi (P:=P) G.mem rfl h (by simp [Wc]);have v:wd=1:=by rw [<- J];rfl
  subst v;exact ⟨d,F,(zGp (p:=.bytes l) D rfl rfl A).2⟩
 | sl w' l=>
  have v:wd=w':=by rw [<- J];rfl
  subst v;obtain ⟨d,g,F,D,A⟩:=zCi (P:=P) G.mem rfl h (by simp [Wc];omega);exact ⟨d,F,(zGp (p:=.sl wd l) D rfl rfl A).2⟩
 | _=>simp [W4,Wb] at K
theorem zNw (N:s.get te t' y=some (.ref k2 0 m)) (hl:l2.length=m*wd):yCh P y (opS y (.ref k2 0 m)) [(k2,.var l2)] wd m l2:=by
 intro cx M κ tip s' a w J U hb;have D:=hb (k2,.var l2) (by simp);have h:=yD J (yJ N s' U);obtain ⟨b,F,e,fz,Y,q2,q3,q4,Z,q6,q7⟩:=J.vars k2 l2 D;generalize S:a.eval y=z at h;cases h with
 | ref _ _ _ b' l' L g2=>
 rw [Y] at L;cases L;refine ⟨F.toList,⟨λw'=>by rfl,λw' G=>?_,by simp;omega⟩,λj q T=>?_⟩
 ·refine run_firstCells_some (P:=P) w' wd m ⟨b,0,none⟩ m m _ (by simp;omega) ?_;intro j u V;rw [add_off];refine G _ _ ?_;simp only [Qm,q2,Q5];simpa using V
 simp_all
theorem zOf {cs:List AV} (hok:yV P te) (hd:o.dst=some d) (ho:o.op=.call { callee:=.builtin .append,args:=#[x,y],argTypes:=#[t,t'] })
  (ht:(te t).map (·.ty)=some (.slice e)) (he:te e=some ei) (ht':P.underlying t'=some dd) (hdd:aJ dd) (hx:s.get te t x=some (.nl c)) (hw0:0<ei.w) (hz:ei.z.length=ei.w) (hy:s.get te t' y=some vy) (hbs:∀ e∈bs,s.blk e.1=some e.2)
  (T:yCh P y (opS y vy) bs ei.w m cs) (hm:cs.length=m*ei.w) (hb:m*ei.b<=140737488355328) (hb1:0<ei.b) (hk:s.blk d=none) :
  SA P o s ⟨opS x (.nl c)++opS y vy,bs,[d],some (d,some (.own d m)),[(d,.own ei.w cs)]⟩:=by
 refine ⟨?_,yI (zN hx) (zN hy),hbs,by intro k D;simp at D;subst D;exact hk⟩;intro cx s' a w K Q E hs hws D;obtain ⟨M,κ,tip,h0,hpk,hi⟩:=hs;have L:=E.2.2 d (by simp);have F:a.eval x=.slice none 0 0:=by
  have hx':=yD hi (yJ hx s' (yF E.1));generalize a.eval x=z at hx';cases hx' with
  | nl _ _=>rfl
 obtain ⟨G,n1,n2⟩:=T cx M κ tip s' a w hi (zZ E.1) E.2.1;obtain ⟨info,z,i1,i2,i3,i4,i5⟩:=(hok e ei he).info;have hu:=yX hok ht;have hlen:m<=140737488355328:=Qz (Qp _ hb1) hb;have hnl:G.length=m*ei.w:=n1.nl;rw [<- i2] at n1;have hzs:z.cells.size=ei.w:=by rw [<- Qf,i5];simpa using hz
 unfold W8;by_cases hm0:m=0
 ·subst hm0;have hcs:cs=[]:=Q8 (by omega);subst hcs;have A:=kD (P:=P) (ty:=o.type) hu ht' hdd i1 n1;rw [xM ho F A];show K (a.put o.dst _) _;rw [hd];refine D _ _ ?_;rw [aX];exact ⟨M,κ,_,h0,hpk,(hi.ownNil L hw0).put (hws d (by simp [Qv])) (.own d 0 ei.w [] _ (zV _ _ _) (by simp) (λ_=>(xA _ _ _).symm) ⟨_,_,_,rfl⟩)⟩
 ·have A:=iI (P:=P) (ty:=o.type) hu ht' hdd i1 i4 n1 (by omega) (by rw [i3];exact hb) (by omega);rw [xM ho F A];show K (a.put o.dst _) _;rw [hd];refine D _ _ ?_;rw [aX];have hge:=grownCap_ge w m 0 e;have N:(G.toArray++Qe z.cells (grownCap w m 0 e - m)).size=grownCap w m 0 e*ei.w:=by
   simp only [Qd,Q7,size_zeroCells,hzs,hnl,<- Qr];congr 1;omega
  have hml:grownCap w m 0 e<=maxLen:=grownCap_le_maxLen w m 0 e (by simp only [maxLen];omega);refine ⟨M,_,_,h0,zB4 hi hpk L _,(hi.ownNew (k:=d) (wd:=ei.w) (n:=m) (cap:=grownCap w m 0 e) (l:=cs) (tX w _ e) (.inl L) hw0 (by omega) (by rw [N];exact Q6 _) hge hml ?_).put (hws d (by simp [Qv])) (.own d m ei.w cs _ (zV _ _ _) (by omega) (λ_=>(xA _ _ _).symm) ⟨_,_,_,rfl⟩)⟩;intro j q hq;have hlt:j<cs.length:=(List.getElem?_eq_some_iff.1 hq).1;rw [Q0,Array.getElem?_append_left (by simp;omega)];have:=n2 j q hq;simpa using this
end
end Go.Sw
