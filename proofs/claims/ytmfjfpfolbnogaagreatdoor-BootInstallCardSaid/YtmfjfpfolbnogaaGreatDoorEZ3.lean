/- the slots after installing -/
import Derived.Test.YtmfjfpfolbnogaaGreatDoorEZ2
import Derived.Scope
import Derived.Laws.StructEq
import Derived.ChangeKeysEq
import Derived.Lib.Bytealg
set_option linter.all false
namespace Go.Sw
open Go
variable {B:NB}{J:Type}{K:AS->List Mic->Prop}{M:Mem}{P:Program}{Q:Exit->AS->Prop}{a:By}{a0 a1:Int}{af:Array Edge}{av:AV}{ax:Operand}{b:Nat}{b0 b1:Int}{bb blk blks bs bs0 by':LB}{c:PV}{cap:Nat}{cs:List PV}{cx:Ctx}{d:Nat}{dd:TypeDesc}{e:TypeId}{ei:TI}{env:LV}{f:FuncId}{fn:Func}{fs:List PV}{i k k0 k2:Nat}{kc kl:IntKind}{ks:List Nat}{l l' l2:List AV}{m n na:Nat}{o:Oper}{off:Nat}{ops:Array Oper}{p:PV}{pk:List (Nat×Nat)}{pos:String}{ps qs:List PV}{r:List Oper}{rs:LV}{s s':AS}{t t':TypeId}{te:TE}{tip:Nat->Value}{tl:List TypeId}{ts:Array TypeId}{tx ty tyy:TypeId}{v vx vy:AV}{w:World}{w0 wd:Nat}{x:Operand}{xl:List Operand}{xs:Array Operand}{y:Operand}{yl:List Operand}{ys:Array Operand}{z:PV}{α:Type}{κ:Nat->Option Nat}
def AS.unb (s:AS) (k:Nat):AS:={ s with blk:=wE s.blk k }
theorem uD (h:i≠k):wE B k i=B i:=by
 unfold wE;have:Nat.beq i k=false:=by rw [Bool.eq_false_iff];intro e;exact h (Nat.eq_of_beq_eq_true e)
 simp [this]
theorem fJ:wE B k k=none:=by simp [wE]
theorem RepA.unb {x:Value} (hr:RepA M κ tip B v x):v.oks (wE B k)=true->RepA M (gK κ k none) tip (wE B k) v x:=by
 have hne:∀ i,(wE B k i).isSome=true->i≠k:=by
  rintro i h rfl;rw [fJ] at h;cases h
 induction hr with
 | p v x h1=>intro _;exact .p v x h1
 | nl c h1=>intro _;exact .nl c h1
 | ptr i o b l h1 h2=>intro h;simp only [AV.oks] at h;exact .ptr i o b l (by rw [yG (hne i h)];exact h1) (by rw [uD (hne i h)];exact h2)
 | ref i o n b l h1 h2=>intro h;simp only [AV.oks] at h;exact .ref i o n b l (by rw [yG (hne i h)];exact h1) (by rw [uD (hne i h)];exact h2)
 | buf i n c x h1 hs h2 h3 h4=>intro h;simp only [AV.oks] at h;exact .buf i n c x (by rw [uD (hne i h)];exact h1) hs h2 h3 h4
 | ag l vs h1 _ ih=>intro h;simp only [AV.oks] at h;exact .ag l vs h1 (λj q hq=>ih j q hq (wW l h j q hq))
 | tu l vs h1 _ ih=>intro h;simp only [AV.oks] at h;exact .tu l vs h1 (λj q hq=>ih j q hq (wW l h j q hq))
 | fnv f l vs h1 _ ih=>intro h;simp only [AV.oks] at h;exact .fnv f l vs h1 (λj q hq=>ih j q hq (wW l h j q hq))
 | own i n w l x h1 h2 h3 hs=>intro h;simp only [AV.oks] at h;exact .own i n w l x (by rw [uD (hne i h)];exact h1) h2 h3 hs
 | optr i n o w l x h1 h2 h3 hs=>intro h;simp only [AV.oks] at h;exact .optr i n o w l x (by rw [uD (hne i h)];exact h1) h2 (λe=>by rw [yG (hne i h)];exact h3 e) hs
 | osl i n o m w l x h1 h2 h3 hs=>intro h;simp only [AV.oks] at h;exact .osl i n o m w l x (by rw [uD (hne i h)];exact h1) h2 (λe=>by rw [yG (hne i h)];exact h3 e) hs
theorem Imp.fixV {t:Nat} (he:s.env t=some (.ptr k 0)) (hb:s.blk k=some (.var l)) (hrd:s.rdL l=some (cs,bs)) (hc:c.cells=cs)
  (hpk:∀ e∈pk,e.1≠k) (hE:∀ u v,u≠t->s.env u=some v->v.oks (wE s.blk k)=true) (hV:∀ i li,i≠k->s.blk i=some (.var li)->rF (wE s.blk k) li=true) (hW:∀ i w li,s.blk i=some (.own w li)->rF (wE s.blk k) li=true):Imp pk s ((s.unb k).put t (.p (.cptr c))):=by
 intro cx a w hcx hs;obtain ⟨M,κ,tip,h0,hp,hi⟩:=hs;obtain ⟨b,arr,e,fz,q1,q2,q3,q4,q5,q6,q7⟩:=hi.vars k l hb;obtain ⟨x,hx1,hx2⟩:=hi.env t _ he;obtain ⟨r1,r2⟩:=gZ hrd q5;cases hx2 with
 | ptr _ _ b' l' g1 g2=>
 rw [q1] at g1;cases g1;have hbase:cx.w0.heap.size<=b:=by
  rcases q7 with q7 | q7
  ·exact q7
  ·simp only [Ctx.pb,List.mem_map] at q7;obtain ⟨e',he',rfl⟩:=q7;have h1:=(hp e' he').1;have:=hi.inj _ _ _ h1 q1;exact (hpk e' (hcx▸he') this).elim
 have hle:M.le (addM M b 0 arr.size (arr[·]?)):=addM_le λo _ _=>q6 o;have hother:∀ b' o,b'≠b->addM M b 0 arr.size (arr[·]?) b' o=M b' o:=by
  intro b' o hne;unfold addM;rw [if_neg (by intro h;exact hne h.1)]
 have hat:∀ j,j<arr.size->addM M b 0 arr.size (arr[·]?) b j=arr[j]?:=by
  intro j hj;unfold addM;rw [if_pos ⟨rfl,Nat.zero_le _,hj⟩]
 have hmap:∀ {v:AV} {x:Value},RepA M κ tip s.blk v x->v.oks (wE s.blk k)=true->RepA (addM M b 0 arr.size (arr[·]?)) (gK κ k none) tip (wE s.blk k) v x:=
  λh ho=>(h.unb ho).mono hle
 have hcj:∀ (j:Nat) (q:PV),c.cells[j]? = some q->j<arr.size:=λj q hq=>by
  have:=(List.getElem?_eq_some_iff.1 hq).1;rw [hc] at this;omega
 refine ⟨addM M b 0 arr.size (arr[·]?),gK κ k none,tip,h0.trans' hle,λe' he'=>?_,{
  defers:=hi.defers
  size:=hi.size
  fr:=hi.fr
  mem:=λb' o y h=>by
   unfold addM at h;split at h
   ·rename_i hc';obtain ⟨rfl,_,hlt⟩:=hc';simp only [World.cell?,q2];simpa using h
   ·exact hi.mem b' o y h
  env:=λu v h=>by
   simp only [AS.put,AS.unb] at h;cases hbq:Nat.beq u t with
   | true=>
    have:=Nat.eq_of_beq_eq_true hbq;subst this;simp at h;subst h;refine ⟨_,hx1,.p _ _ (.cptr c b 0 (λj q hq=>?_) (λj q hq=>?_))⟩
    ·have:=hcj j q hq;rw [Nat.zero_add,hat j this];simp [this]
    ·have hlt:=hcj j q hq;rw [hc] at hq;have:=(r2 j q hq).mono hle;simp only [mget,Nat.zero_add,hat j hlt];simpa [Array.getD_eq_getD_getElem?] using this
   | false=>
    simp [hbq] at h;have hne:u≠t:=by rintro rfl;simp at hbq
    obtain ⟨y,h1,h2⟩:=hi.env u v h;exact ⟨y,h1,hmap h2 (hE u v hne h)⟩
  vars:=λi li h=>by
   have h':wE s.blk k i=some (.var li):=h;have hne:i≠k:=by rintro rfl;rw [fJ] at h';cases h'
   rw [uD hne] at h';obtain ⟨b2,arr2,e2,fz2,z1,z2,z3,z4,z5,z6,z7⟩:=hi.vars i li h';have hnb:b2≠b:=λe=>hne (hi.inj i k b (e▸z1) q1);exact ⟨b2,arr2,e2,fz2,by rw [yG hne];exact z1,z2,z3,z4,λj q hq=>hmap (z5 j q hq) (wW li (hV i li hne h') j q hq),λo=>by rw [hother b2 o hnb];exact z6 o,z7⟩
  bufs:=λi ci h=>by
   have h':wE s.blk k i=some (.buf ci):=h;have hne:i≠k:=by rintro rfl;rw [fJ] at h';cases h'
   rw [uD hne] at h';obtain ⟨z1,z2,z3,z4⟩:=hi.bufs i ci h';refine ⟨z1.mono hle,z2,z3,?_⟩;rw [yG hne];rcases z4 with z4 | ⟨b2,n2,cap2,arr2,e2,fz2,y1,y2,y3,y4,y5,y6,y7,y8⟩
   ·exact .inl z4
   ·have hnb:b2≠b:=λe=>hne (hi.inj i k b (e▸y2) q1);exact .inr ⟨b2,n2,cap2,arr2,e2,fz2,y1,y2,y3,y4,y5,y6,y7,λj hj=>by rw [hother b2 j hnb];exact y8 j hj⟩
  inj:=λi i' b' h1 h2=>by
   have e1:i≠k:=by rintro rfl;rw [vP] at h1;cases h1
   have e2:i'≠k:=by rintro rfl;rw [vP] at h2;cases h2
   rw [yG e1] at h1;rw [yG e2] at h2;exact hi.inj i i' b' h1 h2
  dom:=λi h=>by
   have h':wE s.blk k i=none:=h;by_cases hne:i=k
   ·subst hne;exact vP _ _ _
   ·rw [uD hne] at h';rw [yG hne];exact hi.dom i h'
  glob:=hi.glob.mono hle
  old:=λb' o hb'=>by rw [hother b' o (by omega)];exact hi.old b' o hb'
  owns:=hi.owns.keep λi wd li h=>by
   have h':wE s.blk k i=some (.own wd li):=h;have hne:i≠k:=by rintro rfl;rw [fJ] at h';cases h'
   rw [uD hne] at h';exact ⟨h',yG hne,rfl,λb2 z=>⟨rfl,λo hm=>by rw [hother b2 o (λe=>hne (hi.inj i k b (e▸z) q1))];exact hm⟩,λj q x hq hr=>hmap hr (wW li (hW i wd li h') j q hq)⟩}⟩
 have hne:e'.1≠k:=hpk e' (hcx▸he');rw [yG hne];exact hp e' he'
theorem Imp.pureT {t:Nat} (j:Nat) (he:s.env t=some (.tu l)) (hj:l[j]? = some v) (hr:s.rd v=some (p,bs)):Imp pk s (s.put t (.tu (l.set j (.p p)))):=by
 intro cx a w _ hs;obtain ⟨M,κ,tip,h0,hp,hi⟩:=hs;refine ⟨M,κ,tip,h0,hp,{ hi with env:=λu y e=>?_ }⟩;simp only [AS.put] at e;cases hb:Nat.beq u t with
 | true=>
  have:=Nat.eq_of_beq_eq_true hb;subst this;simp at e;subst e;obtain ⟨x,h1,h2⟩:=hi.env u _ he;cases h2 with
  | tu _ vs g1 g2=>
  refine ⟨_,h1,.tu _ vs (by simpa using g1) (λi q hq=>?_)⟩;rw [List.getElem?_set] at hq;split at hq
  ·rename_i e;subst e;split at hq
   ·cases hq;exact .p _ _ (zBe (g2 j v hj) hr)
   ·cases hq
  ·exact g2 i q hq
 | false=>
  simp [hb] at e;exact hi.env u y e
section
theorem zLo {c:Code} (h:awp P cx c Q s) (hq:∀ l s,¬ Q (.goto l) s):awp P cx (.scope c) Q s:=λa w hs=>wp_scope_straight (wp_mono (h a w hs) λe a' w' ⟨s',h1,h2⟩ =>by
 cases e with
 | goto l=>exact (hq l s' h2).elim
 | _=>exact ⟨s',h1,h2⟩)
theorem zK6 {l:Nat} (h:Q .normal s):awp P cx (.label l) Q s:=λ_ _ hs=>wp_label ⟨s,hs,h⟩
end
theorem Imp.freezeC {j0:Nat} (he:s.blk k2=some (.var l2)) (hj0:l2[j0]? = some (.ref k 0 n)) (hkk:k2≠k) (hb:s.blk k=some (.var l)) (hrd:s.rdL l=some (cs,bs)) (hc:iK w0 c cs) (hcn:c.len=n) (hw:0<w0) (hml:n<=maxLen)
  (hpk:∀ e∈pk,e.1≠k) (hE:∀ u v,s.env u=some v->v.oks (wE s.blk k)=true) (hV:∀ i li,i≠k->i≠k2->s.blk i=some (.var li)->rF (wE s.blk k) li=true) (hV2:rF (wE s.blk k) (l2.set j0 (.p .nilp))=true) (hW:∀ i w li,s.blk i=some (.own w li)->rF (wE s.blk k) li=true):Imp pk s ((s.setb k (.buf c)).setb k2 (.var (l2.set j0 (.buf k n)))):=by
 intro cx a w hcx hs;obtain ⟨M,κ,tip,h0,hp,hi⟩:=hs;obtain ⟨b,arr,e,fz,q1,q2,q3,q4,q5,q6,q7⟩:=hi.vars k l hb;obtain ⟨bb,arrb,eb,fzb,p1,p2,p3,p4,p5,p6,p7⟩:=hi.vars k2 l2 he;obtain ⟨r1,r2⟩:=gZ hrd q5;obtain ⟨c1,c2,c3,c4⟩:=hc.cells r2;have hasz:arr.size=n*w0:=by rw [q4,<- r1,<- c4,hcn]
 have hx2:=p5 j0 _ hj0;generalize hx:arrb.getD j0 undef=xx at hx2;cases hx2 with
 | ref _ _ _ b' l' g1 g2=>
 rw [q1] at g1;cases g1;have hbase:cx.w0.heap.size<=b:=by
  rcases q7 with q7 | q7
  ·exact q7
  ·simp only [Ctx.pb,List.mem_map] at q7;obtain ⟨e',he',rfl⟩:=q7;have h1:=(hp e' he').1;have:=hi.inj _ _ _ h1 q1;exact (hpk e' (hcx▸he') this).elim
 have hle:M.le (addM M b 0 (n*c.width) (arr[·]?)):=addM_le λo _ _=>q6 o;have hrep:Rep (addM M b 0 (n*c.width) (arr[·]?)) c (.slice (some ⟨b,0,none⟩) n n):=by
  have:=wX (M':=addM M b 0 (n*c.width) (arr[·]?)) (b:=b) (o:=0) (cap:=n) c1 c2 hle ?_ (by omega)
  ·rwa [hcn] at this
  intro j hj;rw [hcn] at hj;simp only [addM,Nat.zero_add];rw [if_pos ⟨trivial,Nat.zero_le _,hj⟩];rw [c3,<- hasz] at hj;simp [hj]
 have hother:∀ b' o,b'≠b->addM M b 0 (n*c.width) (arr[·]?) b' o=M b' o:=by
  intro b' o hne;unfold addM;rw [if_neg (by intro h;exact hne h.1)]
 generalize hS:(s.setb k (.buf c)).setb k2 (.var (l2.set j0 (.buf k n)))=S;have hSk:S.blk k=some (.buf c):=by rw [<- hS,zQ (Ne.symm hkk)];exact zX _ _ _
 have hSk2:S.blk k2=some (.var (l2.set j0 (.buf k n))):=by rw [<- hS];exact zX _ _ _
 have hSo:∀ i,i≠k->i≠k2->S.blk i=s.blk i:=λi h1 h2=>by rw [<- hS,zQ h2,zQ h1]
 have hSe:S.env=s.env:=by rw [<- hS];rfl
 have hT:∀ i,i≠k->oK tip k (.slice (some ⟨b,0,none⟩) n n) i=tip i:=λi h=>yR h;have hmap0:∀ {v:AV} {x:Value},RepA M κ tip s.blk v x->v.oks (wE s.blk k)=true->RepA M κ (oK tip k (.slice (some ⟨b,0,none⟩) n n)) (s.setb k (.buf c)).blk v x:=
  λh ho=>h.frz (λi h=>zQ h) hT ho
 have gle:GLe κ κ (oK tip k (.slice (some ⟨b,0,none⟩) n n)) (oK tip k (.slice (some ⟨b,0,none⟩) n n)) (s.setb k (.buf c)).blk S.blk:=by
  rw [<- hS];exact zJ8 (by rw [zQ hkk];exact he)
 have hmap:∀ {v:AV} {x:Value},RepA M κ tip s.blk v x->v.oks (wE s.blk k)=true->RepA (addM M b 0 (n*c.width) (arr[·]?)) κ (oK tip k (.slice (some ⟨b,0,none⟩) n n)) S.blk v x:=
  λh ho=>((hmap0 h ho).ghost gle).mono hle
 refine ⟨addM M b 0 (n*c.width) (arr[·]?),κ,oK tip k (.slice (some ⟨b,0,none⟩) n n),h0.trans' hle,hp,{
  defers:=hi.defers
  size:=hi.size
  fr:=hi.fr
  mem:=λb' o y h=>by
   unfold addM at h;split at h
   ·rename_i hc';obtain ⟨rfl,_,hlt⟩:=hc';simp only [World.cell?,q2];simpa using h
   ·exact hi.mem b' o y h
  env:=λu v h=>by
   rw [hSe] at h;obtain ⟨y,h1,h2⟩:=hi.env u v h;exact ⟨y,h1,hmap h2 (hE u v h)⟩
  vars:=λi li h=>by
   have hne:i≠k:=by rintro rfl;rw [hSk] at h;cases h
   by_cases h2:i=k2
   ·subst h2;rw [hSk2] at h;cases h;refine ⟨bb,arrb,eb,fzb,p1,p2,p3,by simpa using p4,λj q hq=>?_,λo=>by rw [hother bb o (λe=>hne (hi.inj i k b (e▸p1) q1))];exact p6 o,p7⟩;rw [List.getElem?_set] at hq;split at hq
    ·rename_i e;subst e;split at hq
     ·cases hq;rw [hx];refine .buf k n c _ hSk c2 (by omega) ?_ (λ_=>(yU _ _ _).symm);rw [<- hcn,qM c2,hcn];exact hrep
     ·cases hq
    ·rename_i hjn;refine hmap (p5 j q hq) (wW _ hV2 j q ?_);rw [List.getElem?_set_ne hjn];exact hq
   ·rw [hSo i hne h2] at h;obtain ⟨b2,arr2,e2,fz2,z1,z2,z3,z4,z5,z6,z7⟩:=hi.vars i li h;have hnb:b2≠b:=λe=>hne (hi.inj i k b (e▸z1) q1);exact ⟨b2,arr2,e2,fz2,z1,z2,z3,z4,λj q hq=>hmap (z5 j q hq) (wW li (hV i li hne h2 h) j q hq),λo=>by rw [hother b2 o hnb];exact z6 o,z7⟩
  bufs:=λi ci h=>by
   by_cases hne:i=k
   ·subst hne;rw [hSk] at h;cases h;rw [yU];refine ⟨hrep,c2,by omega,.inr ⟨b,n,n,arr,e,fz,rfl,q1,hbase,q2,q3,by rw [c3,hasz];exact Nat.le_refl _,hml,λj hj=>?_⟩⟩;unfold addM;rw [if_neg (by omega)];exact q6 j
   ·have h2:i≠k2:=by rintro rfl;rw [hSk2] at h;cases h
    rw [hSo i hne h2] at h;obtain ⟨z1,z2,z3,z4⟩:=hi.bufs i ci h;rw [hT i hne];refine ⟨z1.mono hle,z2,z3,?_⟩;rcases z4 with z4 | ⟨b2,n2,cap2,arr2,e2,fz2,y1,y2,y3,y4,y5,y6,y7,y8⟩
    ·exact .inl z4
    ·have hnb:b2≠b:=λe=>hne (hi.inj i k b (e▸y2) q1);exact .inr ⟨b2,n2,cap2,arr2,e2,fz2,y1,y2,y3,y4,y5,y6,y7,λj hj=>by rw [hother b2 j hnb];exact y8 j hj⟩
  inj:=hi.inj
  dom:=λi h=>by
   by_cases hne:i=k
   ·subst hne;rw [hSk] at h;cases h
   ·by_cases h2:i=k2
    ·subst h2;rw [hSk2] at h;cases h
    ·rw [hSo i hne h2] at h;exact hi.dom i h
  glob:=hi.glob.mono hle
  old:=λb' o hb'=>by rw [hother b' o (by omega)];exact hi.old b' o hb'
  owns:=hi.owns.keep λi wd li h=>by
   have hne:i≠k:=by rintro rfl;rw [hSk] at h;cases h
   have h2:i≠k2:=by rintro rfl;rw [hSk2] at h;cases h
   rw [hSo i hne h2] at h;exact ⟨h,rfl,hT i hne,λb2 z=>⟨rfl,λo hm=>by rw [hother b2 o (λe=>hne (hi.inj i k b (e▸z) q1))];exact hm⟩,λj q x hq hr=>hmap hr (wW li (hW i wd li h) j q hq)⟩}⟩
section
variable {ms:List Mic} 
theorem sa_callf (hd:o.dst=some d) (ho:o.op=.call { callee:=.value x,args:=xs,argTypes:=ts }) (hx:s.get te tx x=some (.p (.fn f fs cs)))
  (hok:Ok P f na (mkS (argE 0 (fs++(ps++cs))) []) (mkS [(0,av)] blks)) (hxl:xs.toList=xl) (htl:ts.toList=tl) (ha:oO s te xl tl ps rs bb) (hn:na=(fs++(ps++cs)).length) (hf:∀ k∈(blks.map λe=>sh d e.1),s.blk k=none) :
  SA P o s ⟨opS x (.p (.fn f fs cs))++rs,bb,blks.map λe=>sh d e.1,some (d,some (av.ren (sh d))),blks.map λe=>(sh d e.1,e.2.ren (sh d))⟩:=by
 refine ⟨?_,yE (zJ hx) ha.reads.1,ha.reads.2,hf⟩;intro cx s' a w K Q hm hs hws hk;obtain ⟨M,κ,tip,h0,hp,hi⟩:=hs;obtain ⟨hl,hrep⟩:=ha.rep hi (zW hm.1) hm.2.1;have hxr:=repA_pv (zY hi (yD hx s' (yA hm.1)));generalize hev:a.eval x=z at hxr;cases hxr with
 | fn _ _ _ vf vc e1 e2 e3 e4=>
 have hmap:(xs.map a.eval).toList=xl.map a.eval:=by simp [hxl]
 have hsz:(vf++xs.map a.eval++vc).size=(fs++(ps++cs)).length:=by
  have:(xs.map a.eval).size=ps.length:=by rw [<- hl,<- Array.length_toList,hmap];simp
  simp only [Array.size_append,List.length_append,this,e1,e2];omega
 have hinv:=zHi (w:=w) (hi.globw hp) hi.mem hsz (λj p hj=>by
  have hxsz:(xs.map a.eval).size=ps.length:=by rw [<- hl,<- Array.length_toList,hmap];simp
  rw [Array.getD_eq_getD_getElem?];rw [List.getElem?_append] at hj;rw [Array.append_assoc,Array.getElem?_append];split at hj
  ·rename_i h1;rw [if_pos (by omega)];simpa [Array.getD_eq_getD_getElem?] using e3 j p hj
  ·rename_i h1;rw [if_neg (by omega),Array.getElem?_append,hxsz];rw [List.getElem?_append] at hj;split at hj
   ·rename_i h2;rw [if_pos (by omega)];have:=hrep (j - fs.length) p hj;rw [e1,<- Array.getElem?_toList,hmap];exact this
   ·rename_i h2;rw [if_neg (by omega),e1];simpa [Array.getD_eq_getD_getElem?] using e4 _ p hj)
 have hrun:(execOp a.eval o).run P w=.ok (.enter f (vf++xs.map a.eval++vc)) w:=by
  obtain ⟨fn,h1,h2,h3⟩:=hok.1;have h2':fn.body≠none:=by intro e;simp [e] at h2
  have h3':fn.name ≠ "runtime.NumGoroutine":=by intro e;simp [e] at h3
  simp [execOp,ho,resolve,hev,Deferred.ofValue,invoke,callFunc,h1,h2',h3']
 subst hn;unfold Oper.wp;rw [hrun];show Calls P f _ w _;refine (hok.2 w M [] _ _ _ hinv (by simp)).mono ?_;rintro e w' ⟨v,rfl,M',κ',tip',h0',hp',hr⟩;show K (a.put o.dst v) w';rw [hd];refine hk _ _ ?_;rw [dI];obtain ⟨i1,i2⟩:=hi.import h0' hr (sh d) (λj _ j' _ h=>zI9 d h) (by simp) (λj hj=>.inr (by
  refine hm.2.2 (sh d j) ?_;obtain ⟨e,he,rfl⟩:=List.mem_map.1 hj;exact List.mem_map.2 ⟨e,he,rfl⟩))
 obtain ⟨x,hx,hrx⟩:=hr.env 0 av (by simp [mkS,lk]);simp at hx;subst hx;refine ⟨M',_,_,h0.trans' h0',?_,i1.put (hws d (by simp [Mic.ws])) (i2 av v hrx)⟩;intro k hk';obtain ⟨h1,h2⟩:=hp k hk';refine ⟨?_,h2⟩;have:fk (sh d) (blks.map (·.1)) k.1=none:=by
  cases hfk:fk (sh d) (blks.map (·.1)) k.1 with
  | none=>rfl
  | some j=>
   obtain ⟨hj,he⟩:=sW hfk;have:=hm.2.2 (sh d j) (by obtain ⟨e,he',rfl⟩:=List.mem_map.1 hj;exact List.mem_map.2 ⟨e,he',rfl⟩);rw [he,hi.dom _ this] at h1;cases h1
 simp only [this];exact h1
theorem sa_callpf (hd:o.dst=some d)
  (ho:o.op=.call { callee:=.value x,args:=xs,argTypes:=ts }) (hxa:s.get te tx x=some (.fnv f [.ptr k 0])) (hok:Ok P f na (mkS ((0,.ptr 0 0) :: argE 1 ps) [(0,.var (cs.map .p))]) (mkS [(0,av)] ((0,.var l') :: blks))) (hxl:xs.toList=xl) (htl:ts.toList=tl) (hbk:s.blk k=some (.var l)) (hcs:s.rdL l=some (cs,bs0))
  (ha:oO s te xl tl ps rs bb) (hn:na=ps.length+1) (hf:∀ j∈(blks.map λe=>sh d e.1),s.blk j=none) (hne:∀ e∈blks,e.1≠0) (hlt:Nat.blt f 1000000=true) :
  SA P o s ⟨opS x (.fnv f [.ptr k 0])++rs,(k,.var l) :: (bs0++bb),blks.map λe=>sh d e.1,some (d,some (av.ren (shp d k))),((0,.var l') :: blks).map λe=>(shp d k e.1,e.2.ren (shp d k))⟩:=by
 refine ⟨?_,yE (zJ hxa) ha.reads.1,?_,hf⟩
 ·intro cx s' a w K Q hm hs hws hk;obtain ⟨M,κ,tip,h0,hp,hi⟩:=hs;have hb':∀ e∈bb,s'.blk e.1=some e.2:=λe he=>hm.2.1 e (by simp [he]);have hbs':∀ e∈bs0,s'.blk e.1=some e.2:=λe he=>hm.2.1 e (by simp [he]);have hbk':s'.blk k=some (.var l):=hm.2.1 (k,.var l) (by simp);obtain ⟨hl,hrep⟩:=ha.rep hi (zW hm.1) hb';have hxa':=zY hi (yD hxa s' (yA hm.1));obtain ⟨b,arr,e,fz,q1,q2,q3,q4,q5,q6,q7⟩:=hi.vars k l hbk';have hev:a.eval x=.func (.func f) #[.pointer (some ⟨b,0,none⟩)] #[]:=by
   generalize a.eval x=z at hxa';cases hxa' with
   | fnv _ _ vs g1 g2=>
    have g3:=g2 0 (.ptr k 0) rfl;obtain ⟨y,hy⟩:∃ y,vs=#[y]:=by
     cases vs with
     | mk l=>
      match l with
      | [y]=>exact ⟨y,rfl⟩
      | []=>simp at g1
      | _ :: _ :: _=>simp at g1
    subst hy;have g4:(#[y]:Array Value).getD 0 undef=y:=rfl;rw [g4] at g3;cases g3 with
    | ptr _ _ b' _ g5 g6=>rw [q1] at g5;cases g5;simp only [mkF,hlt,cond_true]
  obtain ⟨c1,c2⟩:=gZ (eY l cs bs0 hcs hbs') q5;have hmap:(#[Value.pointer (some ⟨b,0,none⟩)]++xs.map a.eval++#[]).toList=.pointer (some ⟨b,0,none⟩) :: xl.map a.eval:=by simp [hxl]
  have hsz:(#[Value.pointer (some ⟨b,0,none⟩)]++xs.map a.eval++#[]).size=ps.length+1:=by rw [<- hl,<- Array.length_toList,hmap];simp
  have hget0:(#[Value.pointer (some ⟨b,0,none⟩)]++xs.map a.eval++#[])[0]? = some (.pointer (some ⟨b,0,none⟩)):=by rw [<- Array.getElem?_toList,hmap];rfl
  have hinv:=zFg (w:=w) (hi.globw hp) hi.mem hsz hget0 (λj p hj=>by
   have:=hrep j p hj;rw [Array.getD_eq_getD_getElem?,<- Array.getElem?_toList,hmap];simpa using this) q2 q3 (by omega) c2 q6
  have hrun:(execOp a.eval o).run P w=.ok (.enter f (#[Value.pointer (some ⟨b,0,none⟩)]++xs.map a.eval++#[])) w:=by
   obtain ⟨fn,h1,h2,h3⟩:=hok.1;have h2':fn.body≠none:=by intro e;simp [e] at h2
   have h3':fn.name ≠ "runtime.NumGoroutine":=by intro e;simp [e] at h3
   simp [execOp,ho,resolve,hev,Deferred.ofValue,invoke,callFunc,h1,h2',h3']
  subst hn;unfold Oper.wp;rw [hrun];show Calls P f _ w _;refine (hok.2 w M [(0,b)] _ _ _ hinv (by intro k' hk';simp at hk';subst hk';exact ⟨by simp,hi.lt q1⟩)).mono ?_;rintro e' w' ⟨v,rfl,M',κ',tip',h0',hp',hr⟩;show K (a.put o.dst v) w';rw [hd];refine hk _ _ ?_;rw [dI];have hfresh:∀ j∈blks.map (·.1),s'.blk (sh d j)=none:=λj hj=>by
   refine hm.2.2 (sh d j) ?_;obtain ⟨e,he,rfl⟩:=List.mem_map.1 hj;exact List.mem_map.2 ⟨e,he,rfl⟩
  have hD:∀ j∈((0,zF.var l') :: blks).map (·.1),j≠0->sh d j≠k:=by
   intro j hj hj0 hk';simp only [List.map_cons,List.mem_cons] at hj;rcases hj with hj | hj
   ·exact hj0 hj
   ·have:=hfresh j hj;rw [hk',hbk'] at this;cases this
  obtain ⟨i1,i2⟩:=hi.import h0' hr (shp d k) (λj hj j' hj' h=>zJz d k hD hj hj' h)
   (by
    intro e' he';simp at he';subst he';exact ⟨(hp' (0,b) (by simp)).1,by simpa [shp] using q1,⟨l,by simpa [shp] using hbk'⟩,l',by simp [lk]⟩)
   (λj hj=>by
    simp only [List.map_cons,List.mem_cons] at hj;by_cases hj0:j=0
    ·exact .inl ⟨b,by simp [hj0]⟩
    ·refine .inr ?_;have hb0:Nat.beq j 0=false:=by rw [Bool.eq_false_iff];intro e;exact hj0 (Nat.eq_of_beq_eq_true e)
     simp only [shp,hb0,cond_false];exact hfresh j (hj.resolve_left hj0))
  obtain ⟨x,hx,hrx⟩:=hr.env 0 av (by simp [mkS,lk]);simp at hx;subst hx;refine ⟨M',_,_,h0.trans' h0',?_,i1.put (hws d (by simp [Mic.ws])) (i2 av v hrx)⟩;intro k' hk';obtain ⟨h1,h2⟩:=hp k' hk';refine ⟨?_,h2⟩;cases hfk:fk (shp d k) (((0,zF.var l') :: blks).map (·.1)) k'.1 with
  | none=>exact h1
  | some j=>
   obtain ⟨hj,he⟩:=sW hfk;simp only;by_cases hj0:j=0
   ·subst hj0;simp only [shp] at he;rw [he] at h1;simp at h1;rw [q1] at h1;cases h1;exact (hp' (0,k'.2) (by simp)).1
   ·have hb0:Nat.beq j 0=false:=by rw [Bool.eq_false_iff];intro e;exact hj0 (Nat.eq_of_beq_eq_true e)
    simp only [shp,hb0,cond_false] at he;simp only [List.map_cons,List.mem_cons] at hj;have:=hfresh j (hj.resolve_left hj0);rw [he,hi.dom _ this] at h1;cases h1
 ·intro e he;simp only [List.mem_cons,List.mem_append] at he;rcases he with he | he | he
  ·subst he;exact hbk
  ·exact eL l cs bs0 hcs e he
  ·exact ha.reads.2 e he
theorem va_mkf {tl':List TypeId} {rs':LV} {bb':LB} (ho:o.op=.makeFunc (.func f) xs ys) (hxl:xs.toList=xl) (hyl:ys.toList=yl) (ha:oO s te xl tl ps rs bb) (hb:oO s te yl tl' qs rs' bb'):VA P o s (rs++rs') (bb++bb') (.p (.fn f ps qs)):=by
 refine ⟨?_,yE ha.reads.1 hb.reads.1,λe he=>(List.mem_append.1 he).elim (ha.reads.2 e) (hb.reads.2 e)⟩;intro cx M κ tip s' a w hi hr hbb;obtain ⟨h1,h2⟩:=ha.rep hi (yA hr) (λe he=>hbb e (List.mem_append.2 (.inl he)));obtain ⟨h3,h4⟩:=hb.rep hi (zW hr) (λe he=>hbb e (List.mem_append.2 (.inr he)));refine ⟨.func (.func f) (xs.map a.eval) (ys.map a.eval),by simp [execOp,ho,Instr.makeFunc],.p _ _ (.fn f ps qs _ _ (by rw [<- h1,<- hxl];simp) (by rw [<- h3,<- hyl];simp) (λj q hq=>?_) (λj q hq=>?_))⟩
 ·have:=h2 j q hq;rw [<- hxl] at this;rw [Array.getD_eq_getD_getElem?];simpa using this
 ·have:=h4 j q hq;rw [<- hyl] at this;rw [Array.getD_eq_getD_getElem?];simpa using this
theorem va_mkfA (ho:o.op=.makeFunc (.func f) #[x] #[]) (hx:s.get te tx x=some v) (hlt:Nat.blt f 1000000=true):VA P o s (opS x v) [] (.fnv f [v]):=by
 refine ⟨?_,zJ hx,by simp⟩;intro cx M κ tip s' a w hi hr _;have h1:=zY hi (yD hx s' hr);refine ⟨mkF f #[a.eval x],by simp [execOp,ho,Instr.makeFunc,mkF,hlt],.fnv f _ _ rfl (λj q hq=>?_)⟩;cases j with
 | zero=>simp at hq;subst hq;exact h1
 | succ j=>simp at hq
end
def gE (s:AS):LV->List (Option AV)
 | []=>[]
 | (t,_) :: r=>s.env t :: gE s r
def vE (ρ:AV->AV):LV->List (Option AV)
 | []=>[]
 | (_,v) :: r=>some (ρ v) :: vE ρ r
def gB (s:AS) (ρ:Nat->Nat):LB->List (Option zF)
 | []=>[]
 | (t,_) :: r=>s.blk (ρ t) :: gB s ρ r
def vB (ρ:zF->zF):LB->List (Option zF)
 | []=>[]
 | (_,v) :: r=>some (ρ v) :: vB ρ r
def rE (ρ:Nat->Nat):LV->LV
 | []=>[]
 | (t,v) :: r=>(t,v.ren ρ) :: rE ρ r
theorem zHy (s:AS):∀ l,gE s l=l.map λe=>s.env e.1
 | []=>rfl
 | (_,_) :: r=>by simp [gE,zHy s r]
theorem zHx (ρ:AV->AV):∀ l,vE ρ l=l.map λe=>some (ρ e.2)
 | []=>rfl
 | (_,_) :: r=>by simp [vE,zHx ρ r]
theorem zG9 (s:AS) (ρ:Nat->Nat):∀ l,gB s ρ l=l.map λe=>s.blk (ρ e.1)
 | []=>rfl
 | (_,_) :: r=>by simp [gB,zG9 s ρ r]
theorem zG0 (ρ:zF->zF):∀ l,vB ρ l=l.map λe=>some (ρ e.2)
 | []=>rfl
 | (_,_) :: r=>by simp [vB,zG0 ρ r]
theorem zMj (ρ:Nat->Nat):∀ l,rE ρ l=l.map λe=>(e.1,e.2.ren ρ)
 | []=>rfl
 | (_,_) :: r=>by simp [rE,zMj ρ r]
def swp:List (Nat×Nat)->List (Nat×Nat)
 | []=>[]
 | (a,b) :: r=>(b,a) :: swp r
theorem zFq:∀ (env:LV),env.map (λe=>s.env e.1)=env.map (λe=>some e.2)->zIj s env
 | [],_=>trivial
 | (t,v) :: r,h=>by
  simp only [List.map_cons,List.cons.injEq] at h;exact ⟨h.1,zFq r h.2⟩
theorem zF1:∀ (blk:LB),blk.map (λe=>s.blk e.1)=blk.map (λe=>some e.2)->zI3 s blk
 | [],_=>trivial
 | (t,v) :: r,h=>by
  simp only [List.map_cons,List.cons.injEq] at h;exact ⟨h.1,zF1 r h.2⟩
theorem lp (hpk:PK cx ks) (he:gE s env=vE id env) (hb:gB s id blk=vB id blk) (h1:(jI (lk blk) env&&ks.all (λk=>(lk blk k).isSome))=true) (h2:sD (lk blk) blk=true):Imp cx.pk s (mkS env blk):=by
 simp only [Bool.and_eq_true] at h1;rw [zHy,zHx] at he;rw [zG9,zG0] at hb;exact Imp.lep (Lep.mk' hpk (zFq env he) (zF1 blk hb) h1.1 h2 h1.2)
theorem cbv {r:LB} (h:rF B l=true) (k':sD B r=true):sD B ((k,.var l) :: r)=true:=by simp [sD,h,k']
theorem om {f:α->PV} {l:List α}:rF B (l.map λx=>AV.p (f x))=true:=bW f l
theorem lr (hpk:PK cx ks) (m:List (Nat×Nat)) 
  (he:gE s env=vE (AV.ren (rho m)) env) (hb:gB s (rho m) blk=vB (zF.ren (rho m)) blk)
  (h1:(jI (lk (bR (rho m) blk)) (rE (rho m) env)&&(ks.all (λk=>(lk (bR (rho m) blk) k).isSome) &&
   (((kR (rho m) blk).all λj=>(kR (rho m) blk).all λj'=>!Nat.beq (rho (swp m) j) (rho (swp m) j')||Nat.beq j j')&&ks.all λk=>Nat.beq (rho (swp m) k) k)))=true)
  (h2:sD (lk (bR (rho m) blk)) (bR (rho m) blk)=true)
  (h3:rE (rho (swp m)) (rE (rho m) env)=env) (h4:bR (rho (swp m)) (bR (rho m) blk)=blk):Imp cx.pk s (mkS env blk):=by
 simp only [Bool.and_eq_true] at h1;obtain ⟨g1,g2,g3,g4⟩:=h1;rw [zHy,zHx] at he;rw [zG9,zG0] at hb;have a1:=lp hpk (s:=s) (env:=rE (rho m) env) (blk:=bR (rho m) blk) (by rw [zHy,zHx,zMj];simpa using he) (by rw [zG9,zG0,bG];simpa using hb) (by simp only [Bool.and_eq_true];exact ⟨g1,g2⟩) h2;refine a1.trans ?_;rw [kY] at g3;have a2:=Imp.renK hpk (swp m) (env:=rE (rho m) env) (blks:=bR (rho m) blk) (by rw [bG];simpa using g3) (by
  rw [List.all_eq_true] at g4 g2 ⊢;intro k hk;simp only [Bool.and_eq_true,List.any_eq_true];refine ⟨g4 k hk,k,?_,by simp⟩;obtain ⟨b,hb'⟩:=Option.isSome_iff_exists.1 (g2 k hk);exact List.mem_map.2 ⟨_,uK _ _ _ hb',rfl⟩)
 rw [<- zMj,<- bG,h3,h4] at a2;exact a2
theorem nR {s:AS} {α:Type} {f:α->PV}:∀ {l:List α},s.rdL (l.map λx=>AV.p (f x))=some (l.map f,[])
 | []=>by simp [AS.rdL]
 | x :: r=>by simp [AS.rdL,AS.rd,nR (l:=r)]
theorem zH8 {f:α->PV} (hf:∀ a,(f a).cells=[f a]):∀ (l:List α),yZ (l.map f)=l.map f
 | []=>rfl
 | x :: r=>by simp [yZ,hf,zH8 hf r]
theorem zFb (l:By):iK 1 (.bytes l) (l.map λx=>PV.int .u8 x.toNat):=.bytes l rfl
theorem zBv {f:α->PV} (hf:∀ a,(f a).cells=[f a]) (l:List α):iK 1 (.sl 1 (l.map f)) (l.map f):=by
 have:=zRr (w:=1) (f:=f) l (λa=>by rw [hf a];rfl);rwa [zH8 hf] at this
def sN (B:NB) (k:Nat):LB->Bool
 | []=>true
 | (i,.var l) :: r=>(Nat.beq i k||rF B l)&&sN B k r
 | (_,.buf _) :: r=>sN B k r
 | (_,.own _ l) :: r=>rF B l&&sN B k r
theorem cxv {r:LB} (h:rF B l=true) (k':sN B k r=true):sN B k ((i,.var l) :: r)=true:=by simp [sN,h,k']
theorem cxk {r:LB} (k':sN B k r=true):sN B k ((k,.var l) :: r)=true:=by simp [sN,k']
theorem sN.mem:∀ {l:LB},sN B k l=true->∀ {t v},t≠k->(t,.var v)∈l->rF B v=true
 | (i,.var u) :: _,h,t,v,hne,hm=>by
  simp only [sN,Bool.and_eq_true,Bool.or_eq_true] at h;rcases List.mem_cons.1 hm with e | hm
  ·cases e;rcases h.1 with h1 | h1
   ·exact (hne (Nat.eq_of_beq_eq_true h1)).elim
   ·exact h1
  ·exact sN.mem h.2 hne hm
 | (i,.buf u) :: _,h,t,v,hne,hm=>by
  simp only [sN] at h;rcases List.mem_cons.1 hm with e | hm
  ·cases e
  ·exact sN.mem h hne hm
 | (i,.own w u) :: _,h,t,v,hne,hm=>by
  simp only [sN,Bool.and_eq_true] at h;rcases List.mem_cons.1 hm with e | hm
  ·cases e
  ·exact sN.mem h.2 hne hm
theorem sN.memO:∀ {l:LB},sN B k l=true->∀ {t w v},(t,.own w v)∈l->rF B v=true
 | (i,.var u) :: _,h,t,w,v,hm=>by
  simp only [sN,Bool.and_eq_true] at h;rcases List.mem_cons.1 hm with e | hm
  ·cases e
  ·exact sN.memO h.2 hm
 | (i,.buf u) :: _,h,t,w,v,hm=>by
  simp only [sN] at h;rcases List.mem_cons.1 hm with e | hm
  ·cases e
  ·exact sN.memO h hm
 | (i,.own w0 u) :: _,h,t,w,v,hm=>by
  simp only [sN,Bool.and_eq_true] at h;rcases List.mem_cons.1 hm with e | hm
  ·cases e;exact h.1
  ·exact sN.memO h.2 hm
theorem cbo {w:Nat} {r:LB} (h:rF B l=true) (k':sD B r=true):sD B ((i,.own w l) :: r)=true:=by simp [sD,h,k']
def zDd (B:NB) (t:Nat):LV->Bool
 | []=>true
 | (u,v) :: r=>(Nat.beq u t||v.oks B)&&zDd B t r
theorem zDd.mem {t:Nat}:∀ {l:LV},zDd B t l=true->∀ {u v},u≠t->(u,v)∈l->v.oks B=true
 | (i,x) :: _,h,u,v,hne,hm=>by
  simp only [zDd,Bool.and_eq_true,Bool.or_eq_true] at h;rcases List.mem_cons.1 hm with e | hm
  ·cases e;rcases h.1 with h1 | h1
   ·exact (hne (Nat.eq_of_beq_eq_true h1)).elim
   ·exact h1
  ·exact zDd.mem h.2 hne hm
section
theorem fzE (hpk:PK cx ks) (t:Nat) (he:lk env t=some (.ref k 0 n)) (hb:lk blk k=some (.var l)) (hrd:(mkS env blk).rdL l=some (cs,bs)) (hc:iK w0 c cs) (hcn:c.len=n) (hw:Nat.blt 0 w0=true) (hml:n<=140737488355328)
  (h1:(ks.all (λj=>!Nat.beq j k)&&zDd (wE (lk blk) k) t env)=true) (h2:sN (wE (lk blk) k) k blk=true):Imp cx.pk (mkS env blk) (((mkS env blk).setb k (.buf c)).put t (.buf k n)):=by
 simp only [Bool.and_eq_true] at h1;refine Imp.freeze (w0:=w0) he hb hrd hc hcn (by have:=Nat.le_of_ble_eq_true hw;omega) (by simp only [maxLen];omega) (λe he' hk=>?_) (λu v hu h=>zDd.mem h1.2 hu (uK env u v h)) (λi li hi h=>sN.mem h2 hi (uK blk i _ h)) (λi w li h=>sN.memO h2 (uK blk i _ h));have:=(List.all_eq_true.1 h1.1) e.1 (hpk e he');simp [hk] at this
theorem fzC (hpk:PK cx ks) (k2 j0:Nat) (he:lk blk k2=some (.var l2)) (hj0:l2[j0]? = some (.ref k 0 n)) (hb:lk blk k=some (.var l)) (hrd:(mkS env blk).rdL l=some (cs,bs)) (hc:iK w0 c cs) (hcn:c.len=n) (hw:Nat.blt 0 w0=true) (hml:n<=140737488355328)
  (h1:(ks.all (λj=>!Nat.beq j k)&&(!Nat.beq k2 k&&(jI (wE (lk blk) k) env&&rF (wE (lk blk) k) (l2.set j0 (.p .nilp)))))=true) (h2:sN (wE (lk blk) k) k (blk.filter λe=>!Nat.beq e.1 k2)=true):Imp cx.pk (mkS env blk) (((mkS env blk).setb k (.buf c)).setb k2 (.var (l2.set j0 (.buf k n)))):=by
 simp only [Bool.and_eq_true] at h1;refine Imp.freezeC (w0:=w0) he hj0 (λe=>by have:=h1.2.1;simp [e] at this) hb hrd hc hcn (by have:=Nat.le_of_ble_eq_true hw;omega) (by simp only [maxLen];omega) (λe he' hk=>?_) (λu v h=>jI.mem h1.2.2.1 (uK env u v h)) (λi li hi hi2 h=>sN.mem h2 hi (List.mem_filter.2 ⟨uK blk i _ h,?_⟩)) h1.2.2.2 (λi w li h=>sN.memO h2 (List.mem_filter.2 ⟨uK blk i _ h,?_⟩))
 ·have:=(List.all_eq_true.1 h1.1) e.1 (hpk e he');simp [hk] at this
 ·have:Nat.beq i k2=false:=by rw [Bool.eq_false_iff];intro e;exact hi2 (Nat.eq_of_beq_eq_true e)
  simp [this]
 ·have hne:i≠k2:=by rintro rfl;have h':lk blk i=some (.own w li):=h;rw [he] at h';cases h'
  have:Nat.beq i k2=false:=by rw [Bool.eq_false_iff];intro e;exact hne (Nat.eq_of_beq_eq_true e)
  simp [this]
theorem fzEB (hpk:PK cx ks) (t:Nat) (u:By) (hcn:u.length=n) (he:lk env t=some (.ref k 0 n)) (hb:lk blk k=some (.var l)) (hrd:(mkS env blk).rdL l=some (cs,bs)) (hc:iK 1 (.bytes u) cs) (hml:n<=140737488355328)
  (h1:(ks.all (λj=>!Nat.beq j k)&&zDd (wE (lk blk) k) t env)=true) (h2:sN (wE (lk blk) k) k blk=true):Imp cx.pk (mkS env blk) (((mkS env blk).setb k (.buf (.bytes u))).put t (.buf k u.length)):=by
 subst hcn;exact fzE hpk t he hb hrd hc rfl rfl hml h1 h2
theorem fzEM (hpk:PK cx ks) (t:Nat) (f:α->PV) (u:List α) (hcn:u.length=n) (he:lk env t=some (.ref k 0 n)) (hb:lk blk k=some (.var l)) (hrd:(mkS env blk).rdL l=some (cs,bs)) (hc:iK 1 (.sl 1 (u.map f)) cs) (hml:n<=140737488355328)
  (h1:(ks.all (λj=>!Nat.beq j k)&&zDd (wE (lk blk) k) t env)=true) (h2:sN (wE (lk blk) k) k blk=true):Imp cx.pk (mkS env blk) (((mkS env blk).setb k (.buf (.sl 1 (u.map f)))).put t (.buf k u.length)):=by
 subst hcn;exact fzE hpk t he hb hrd hc (by simp [PV.len]) rfl hml h1 h2
theorem fzCB (hpk:PK cx ks) (k2 j0:Nat) (u:By) (hcn:u.length=n) (he:lk blk k2=some (.var l2)) (hj0:l2[j0]? = some (.ref k 0 n)) (hb:lk blk k=some (.var l)) (hrd:(mkS env blk).rdL l=some (cs,bs)) (hc:iK 1 (.bytes u) cs) (hml:n<=140737488355328)
  (h1:(ks.all (λj=>!Nat.beq j k)&&(!Nat.beq k2 k&&(jI (wE (lk blk) k) env&&rF (wE (lk blk) k) (l2.set j0 (.p .nilp)))))=true) (h2:sN (wE (lk blk) k) k (blk.filter λe=>!Nat.beq e.1 k2)=true):Imp cx.pk (mkS env blk) (((mkS env blk).setb k (.buf (.bytes u))).setb k2 (.var (l2.set j0 (.buf k u.length)))):=by
 subst hcn;exact fzC hpk k2 j0 he hj0 hb hrd hc rfl rfl hml h1 h2
theorem zL5 (hpk:PK cx ks) (k2 j0:Nat) (f:α->PV) (u:List α) (hcn:u.length=n) (he:lk blk k2=some (.var l2)) (hj0:l2[j0]? = some (.ref k 0 n)) (hb:lk blk k=some (.var l)) (hrd:(mkS env blk).rdL l=some (cs,bs)) (hc:iK 1 (.sl 1 (u.map f)) cs) (hml:n<=140737488355328)
  (h1:(ks.all (λj=>!Nat.beq j k)&&(!Nat.beq k2 k&&(jI (wE (lk blk) k) env&&rF (wE (lk blk) k) (l2.set j0 (.p .nilp)))))=true) (h2:sN (wE (lk blk) k) k (blk.filter λe=>!Nat.beq e.1 k2)=true):Imp cx.pk (mkS env blk) (((mkS env blk).setb k (.buf (.sl 1 (u.map f)))).setb k2 (.var (l2.set j0 (.buf k u.length)))):=by
 subst hcn;exact fzC hpk k2 j0 he hj0 hb hrd hc (by simp [PV.len]) rfl hml h1 h2
theorem fxV (hpk:PK cx ks) (t:Nat) (c:PV) (he:lk env t=some (.ptr k 0)) (hb:lk blk k=some (.var l)) (hrd:(mkS env blk).rdL l=some (cs,bs)) (hc:c.cells=cs)
  (h1:(ks.all (λj=>!Nat.beq j k)&&zDd (wE (lk blk) k) t env)=true) (h2:sN (wE (lk blk) k) k blk=true):Imp cx.pk (mkS env blk) (((mkS env blk).unb k).put t (.p (.cptr c))):=by
 simp only [Bool.and_eq_true] at h1;refine Imp.fixV he hb hrd hc (λe he' hk=>?_) (λu v hu h=>zDd.mem h1.2 hu (uK env u v h)) (λi li hi h=>sN.mem h2 hi (uK blk i _ h)) (λi w li h=>sN.memO h2 (uK blk i _ h));have:=(List.all_eq_true.1 h1.1) e.1 (hpk e he');simp [hk] at this
end
section
theorem va_cat {b:By} (h:Nat.ble (a.length+b.length) 140737488355328=true) (ho:o.op=.binOp .add tx x y tyy) (hx:s.get te tx x=some (.p (.str a))) (hy:s.get te tyy y=some (.p (.str b))) :
  VA P o s (opS x (.p (.str a))++opS y (.p (.str b))) [] (.p (.str (a++b))):=by
 refine ⟨?_,yE (zJ hx) (zJ hy),by simp⟩;intro cx M κ tip s' ac w hi hr _;have h1:=lI (repA_pv (zY hi (yD hx s' (yA hr))));have h2:=lI (repA_pv (zY hi (yD hy s' (zW hr))));refine ⟨.string ⟨(a++b).toArray⟩,?_,.p _ _ (.str _)⟩;have h3:=zO h;have h4:¬ ((9223372036854775807:Int)<((a.length:Int)+(b.length:Int))):=by omega
 simp [execOp,ho,h1,h2,eqGuard,binOp,Op.stringOp,zAm,h4];apply ByteArray.ext;simp [ByteArray.data_append]
theorem va_sliceC (hok:yK P te) {l:List PV} {w1:PV} (ho:o.op=.slice t x none none none) (ht:(te t).map (·.ty)=some (.arr n e)) (he:(te e).map (·.w)=some 1) (hx:s.get te t x=some (.p (.cptr (.agg l)))) (hn:l.length=n) (hn0:0<n) (hl:iK 1 w1 l) (hwl:w1.len=n):VA P o s (opS x (.p (.cptr (.agg l)))) [] (.p w1):=by
 refine ⟨?_,zJ hx,by simp⟩;intro cx M κ tip s' a w hi hr _;have h1:=repA_pv (zY hi (yD hx s' hr));generalize hev:a.eval x=z at h1;cases h1 with
 | cptr _ b off g1 g2=>
 obtain ⟨c1,c2,c3,c4⟩:=hl.cells (M:=M) (f:=λj=>mget M b (off+j)) (λj q hq=>g2 j q hq);obtain ⟨ei,he1,he2⟩:=Option.map_eq_some_iff.1 he;have hu:=aG hok ht;refine ⟨.slice (some ⟨b,off,none⟩) n n,?_,.p _ _ ?_⟩
 ·have hn':¬ n=0:=by omega
  simp [execOp,ho,hev,Instr.sliceAt,Instr.sureAddr,Instr.sliceBounds,run_underlying hu,vV hok he1,Addr.add]
 ·have:=wX (M:=M) (M':=M) (b:=b) (o:=off) (cap:=n) c1 c2 (Mem.le_refl M) (λj hj=>?_) (by omega)
  ·rwa [hwl] at this
  ·rw [c3,Nat.mul_one,hwl,<- hn] at hj;have:=g1 j l[j] (by simp [PV.cells,hj]);obtain ⟨u,hu'⟩:=Option.isSome_iff_exists.1 this;simp [mget,hu']
end
section
end
section
theorem sa_mkb {tl tc:TypeId} {n:Int} (hok:yK P te) (hd:o.dst=some d) (ho:o.op=.makeSlice t x y) (ht:(te t).map (·.ty)=some (.slice e)) (he:te e=some ei) (hz:ei.z.length=ei.w) (hw0:0<ei.w) (hx:s.get te tl x=some (.p (.int kl n))) (hy:s.get te tc y=some (.p (.int kc n)))
  (h0:0<=n) (hb:n.toNat*ei.b<=140737488355328) (hb1:0<ei.b) (hzs:∀ s:AS,s.rdL (tN ei.z n.toNat)=some (cs,[])) (hlit:iK ei.w c cs) (hcl:c.len=n.toNat) (hk:s.blk d=none):SA P o s ⟨opS x (.p (.int kl n))++opS y (.p (.int kc n)),[],[d],some (d,some (.buf d n.toNat)),[(d,.buf c)]⟩:=by
 refine ⟨?_,yE (zJ hx) (zJ hy),by intro e he;simp at he,by intro k hk';simp at hk';subst hk';exact hk⟩;intro cx s' a w K Q hm hs hws hk';obtain ⟨M,κ,tip,h0',hp,hi⟩:=hs;have hbk:=hm.2.2 d (by simp);have h1:=rep_int (repA_pv (zY hi (yD hx s' (yA hm.1))));have h2:=rep_int (repA_pv (zY hi (yD hy s' (zW hm.1))));obtain ⟨info,z,i1,i2,i3,i4,i5⟩:=(hok e ei he).info;have hu:=yN hok ht;have hlen:n.toNat<=n.toNat*ei.b:=Nat.le_mul_of_pos_right _ hb1;have hbi:(info.bytes:Int)*n<=281474976710656:=by
  rw [i3];have:((n.toNat*ei.b:Nat):Int)<=140737488355328:=by omega
  rw [Int.natCast_mul,Int.toNat_of_nonneg h0,Int.mul_comm] at this;omega
 have hrun:=run_make (P:=P) w t e info z hu i1 i4 kl kc n n h0 (Int.le_refl _) hbi (by omega);unfold Oper.wp;have:(execOp a.eval o).run P w=.ok (.value (.slice (some ⟨w.heap.size,0,none⟩) n.toNat n.toNat)) (w.alloc (.cells (madeCells z.cells (n.toNat*ei.w)) e)):=by
  rw [i2] at hrun;simp [execOp,ho,h1,h2,hrun]
 rw [this];show K (a.put o.dst _) _;rw [hd];refine hk' _ _ ?_;rw [tH];have hcr:=cB hok he hz i1 i4 (M:=M) (κ:=κ) (tip:=tip) (B:=s'.blk) n.toNat;obtain ⟨r1,r2⟩:=gZ (hzs s') hcr.2;obtain ⟨c1,c2,c3,c4⟩:=hlit.cells r2;have hle:M.le (addM M w.heap.size 0 (n.toNat*c.width) ((madeCells z.cells (n.toNat*ei.w))[·]?)):=addM_le λo _ _=>hi.mlt (Nat.le_refl _);have hrep:Rep (addM M w.heap.size 0 (n.toNat*c.width) ((madeCells z.cells (n.toNat*ei.w))[·]?)) c (.slice (some ⟨w.heap.size,0,none⟩) n.toNat n.toNat):=by
  have:=wX (M:=M) (M':=addM M w.heap.size 0 (n.toNat*c.width) ((madeCells z.cells (n.toNat*ei.w))[·]?)) (b:=w.heap.size) (o:=0) (cap:=n.toNat) c1 c2 hle ?_ (by omega)
  ·rwa [hcl] at this
  intro j hj;rw [hcl] at hj;simp only [addM,Nat.zero_add];rw [if_pos ⟨trivial,Nat.zero_le _,hj⟩];rw [c3] at hj;have:j<(madeCells z.cells (n.toNat*ei.w)).size:=by rw [size_madeCells];exact hj
  simp [this]
 refine ⟨_,_,_,h0'.trans' hle,eU hi hp hbk _,(hi.bufNew (iN w _ e) (.inl hbk) c2 (by omega) (by rw [size_madeCells,c3];exact Nat.le_refl _) (by rw [size_madeCells,c3];exact Nat.le_refl _) (by simp only [maxLen];omega) hrep).put (hws d (by simp [Mic.ws])) ?_⟩;refine .buf d _ c _ (zX _ _ _) c2 (by omega) ?_ (λ_=>(yU _ _ _).symm);rw [<- hcl,qM c2,hcl];exact hrep
theorem zNk {s:AS} {z:PV}:∀ (n:Nat),(z.nilOf=true->True)->s.rdL (tN [z] n)=some (List.replicate n z,[])
 | 0,_=>by simp [tN,AS.rdL]
 | n+1,h=>by
  have ih:=zNk (s:=s) (z:=z) n h;simp only [tN,List.replicate_succ,List.flatten_cons,List.map_cons,List.map_nil,List.singleton_append] at ih ⊢;simp only [AS.rdL];have:s.rd (zA z)=some (z,[]):=by unfold zA;cases z.nilOf<;>simp [AS.rd]
  rw [this,ih];rfl
theorem zNv {f:α->PV} {x:α} (h:z=f x) (hn:z.nilOf=false):∀ (n:Nat),tN [z] n=(List.replicate n x).map λy=>AV.p (f y)
 | 0=>rfl
 | n+1=>by
  have ih:=zNv h hn n;simp only [tN,List.replicate_succ,List.flatten_cons,List.map_cons,List.map_nil,List.singleton_append] at ih ⊢;rw [ih];have hz:zA z=AV.p (f x):=by unfold zA;rw [hn,h];rfl
  rw [hz]
def mkN (b:Nat) (n:Int):Option Nat:=if 0<=n/\n.toNat*b<=140737488355328 then some n.toNat else none
theorem aW {n:Int} (h:mkN b n=some m):0<=n/\n.toNat*b<=140737488355328/\m=n.toNat:=by
 unfold mkN at h;split at h
 ·rename_i hc;cases h;exact ⟨hc.1,hc.2,rfl⟩
 ·cases h
def cpy (l m:List α):List α:=m.take l.length++l.drop m.length
theorem zLh {l m:By}:rC (l.map λx=>AV.p (.int .u8 x.toNat)) 0 ((m.take l.length).map λu=>AV.p (.int .u8 u.toNat))=(cpy l m).map λx=>AV.p (.int .u8 x.toNat):=by
 rw [kA (by simp;omega)];unfold cpy;simp only [List.take_zero,List.nil_append,Nat.zero_add,List.length_map,List.map_append,List.map_drop,List.length_take];congr 1;rcases Nat.le_total l.length m.length with h | h
 ·rw [Nat.min_eq_left h,List.drop_eq_nil_of_le (by simp),List.drop_eq_nil_of_le (by simp;omega)]
 ·rw [Nat.min_eq_right h]
end
section
variable [T:eP P] 
theorem RK.cat {b:By} (h:Nat.ble (a.length+b.length) 140737488355328=true) (hx0:(s.get T.te tx x,s.get T.te tyy y)=(some (.p (.str a)),some (.p (.str b)))) (k:VK P ops r s K d (opS x (.p (.str a))++opS y (.p (.str b))) ([]) (.p (.str (a++b)))):RK P ops (⟨some d,.binOp .add tx x y tyy,ty,pos,af,none⟩:: r) s K:=have ⟨hx,hy⟩:=pq hx0;RK.va rfl rfl (Go.Sw.va_cat h rfl hx hy) k
theorem RK.scB {l:By} (ht0:((T.te t).map (·.ty),(T.te e).map (·.w),s.get T.te t x)=(some (.arr n e),some 1,some (.p (.cptr (.agg (l.map λu=>PV.int .u8 u.toNat)))))) (hn:l.length=n) (hn0:Nat.blt 0 n=true) (k:VK P ops r s K d (opS x (.p (.cptr (.agg (l.map λu=>PV.int .u8 u.toNat))))) ([]) (.p (.bytes l))):RK P ops (⟨some d,.slice t x none none none,ty,pos,af,none⟩:: r) s K:=have ⟨ht,ht0⟩:=pq ht0;have ⟨he,hx⟩:=pq ht0;RK.va rfl rfl (Go.Sw.va_sliceC T.ok rfl ht he hx (by simpa using hn) (by have:=Nat.le_of_ble_eq_true hn0;omega) (zFb l) hn) k
theorem RK.scM (f:α->PV) {l:List α} (hf:∀ a,(f a).cells=[f a]) (ht0:((T.te t).map (·.ty),(T.te e).map (·.w),s.get T.te t x,l.length,Nat.blt 0 n)=(some (.arr n e),some 1,some (.p (.cptr (.agg (l.map f)))),n,true)) (k:VK P ops r s K d (opS x (.p (.cptr (.agg (l.map f))))) ([]) (.p (.sl 1 (l.map f)))):RK P ops (⟨some d,.slice t x none none none,ty,pos,af,none⟩:: r) s K:=have ⟨ht,ht0⟩:=pq ht0;have ⟨he,ht0⟩:=pq ht0;have ⟨hx,ht0⟩:=pq ht0;have ⟨hn,hn0⟩:=pq ht0;RK.va rfl rfl (Go.Sw.va_sliceC T.ok rfl ht he hx (by simpa using hn) (by have:=Nat.le_of_ble_eq_true hn0;omega) (zBv hf l) (by simpa [PV.len] using hn)) k
theorem RK.mr (f:α->PV) (u:α) {n:Int} (h:mkN b n=some m) (ht0:((T.te t).map (·.ty),T.te e,ei.b,Nat.blt 0 b,ei.z.length,s.get T.te 0 x,s.get T.te 0 y,s.blk d,ei.z,(f u).nilOf)=(some (.slice e),some ei,b,true,ei.w,some (.p (.int kl n)),some (.p (.int kc n)),none,[f u],false)) (k:BK P ops r s K d (opS x (.p (.int kl n))++opS y (.p (.int kc n))) [] [d] d (.var ((List.replicate m u).map λy=>AV.p (f y))) (.ref d 0 m)):RK P ops (⟨some d,.makeSlice t x y,ty,pos,af,none⟩:: r) s K:=have ⟨ht,ht0⟩:=pq ht0;have ⟨he,ht0⟩:=pq ht0;have ⟨hb,ht0⟩:=pq ht0;have ⟨hb1,ht0⟩:=pq ht0;have ⟨hz,ht0⟩:=pq ht0;have ⟨hx,ht0⟩:=pq ht0;have ⟨hy,ht0⟩:=pq ht0;have ⟨hk,ht0⟩:=pq ht0;have ⟨hzz,hnil⟩:=pq ht0;by
 obtain ⟨h0,h1,rfl⟩:=aW h;subst hb;have hb2:=Nat.le_of_ble_eq_true hb1;have:=Go.Sw.sa_mkr (P:=P) (o:=⟨some d,.makeSlice t x y,ty,pos,af,none⟩) T.ok rfl rfl ht he hz hx hy h0 h1 (by omega) hk;rw [hzz,zNv rfl hnil] at this;exact RK.sb rfl this k
theorem RK.mrK (h:Nat.ble (m*b) 140737488355328=true) (ht:(T.te t).map (·.ty)=some (.slice e)) (he:T.te e=some ei) (hb:ei.b=b) (hb1:Nat.blt 0 b=true) (hz:ei.z.length=ei.w) (hx:s.get T.te 0 x=some (.p (.int kl (m:Nat)))) (hy:s.get T.te 0 y=some (.p (.int kc (m:Nat)))) (hk:s.blk d=none) (k:BK P ops r s K d (opS x (.p (.int kl (m:Nat)))++opS y (.p (.int kc (m:Nat)))) [] [d] d (.var (tN ei.z m)) (.ref d 0 m)):RK P ops (⟨some d,.makeSlice t x y,ty,pos,af,none⟩:: r) s K:=by
 subst hb;have hb2:=Nat.le_of_ble_eq_true hb1;exact RK.sb rfl (Go.Sw.sa_mkr (P:=P) (o:=⟨some d,.makeSlice t x y,ty,pos,af,none⟩) T.ok rfl rfl ht he hz hx hy (by omega) (by simpa using zO h) (by omega) hk) k
theorem RK.mk0 {n:Int} (h:mkN b n=some m) (ht0:((T.te t).map (·.ty),T.te e,ei.b,Nat.blt 0 b,ei.z.length,s.get T.te 0 x,s.get T.te 0 y,s.blk d,ei.w,Nat.blt 0 ei.w,c.nilOf)=(some (.slice e),some ei,b,true,ei.w,some (.p (.int kl 0)),some (.p (.int kc n)),none,c.width,true,true)) (k:BK P ops r s K d (opS x (.p (.int kl 0))++opS y (.p (.int kc n))) [] [d] d (.buf c) (.buf d 0)):RK P ops (⟨some d,.makeSlice t x y,ty,pos,af,none⟩:: r) s K:=have ⟨ht,ht0⟩:=pq ht0;have ⟨he,ht0⟩:=pq ht0;have ⟨hb,ht0⟩:=pq ht0;have ⟨hb1,ht0⟩:=pq ht0;have ⟨hz,ht0⟩:=pq ht0;have ⟨hx,ht0⟩:=pq ht0;have ⟨hy,ht0⟩:=pq ht0;have ⟨hk,ht0⟩:=pq ht0;have ⟨hw,ht0⟩:=pq ht0;have ⟨hw0,hc⟩:=pq ht0;by
 obtain ⟨h0,h1,rfl⟩:=aW h;subst hb;have hb2:=Nat.le_of_ble_eq_true hb1;have hw2:=Nat.le_of_ble_eq_true hw0;exact RK.sb rfl (Go.Sw.sa_mk0 (P:=P) (o:=⟨some d,.makeSlice t x y,ty,pos,af,none⟩) T.ok rfl rfl ht he hz (by omega) hx hy h0 h1 (by omega) hc hw.symm hk) k
theorem RK.mbB {n:Int} (h:mkN b n=some m) (ht0:((T.te t).map (·.ty),T.te e,ei.b,Nat.blt 0 b,ei.z.length,s.get T.te 0 x,s.get T.te 0 y,s.blk d,ei.z,ei.w)=(some (.slice e),some ei,b,true,ei.w,some (.p (.int kl n)),some (.p (.int kc n)),none,[.int .u8 0],1)) (k:BK P ops r s K d (opS x (.p (.int kl n))++opS y (.p (.int kc n))) [] [d] d (.buf (.bytes (List.replicate m 0))) (.buf d (List.replicate m (0:UInt8)).length)):RK P ops (⟨some d,.makeSlice t x y,ty,pos,af,none⟩:: r) s K:=have ⟨ht,ht0⟩:=pq ht0;have ⟨he,ht0⟩:=pq ht0;have ⟨hb,ht0⟩:=pq ht0;have ⟨hb1,ht0⟩:=pq ht0;have ⟨hz,ht0⟩:=pq ht0;have ⟨hx,ht0⟩:=pq ht0;have ⟨hy,ht0⟩:=pq ht0;have ⟨hk,ht0⟩:=pq ht0;have ⟨hzz,hw⟩:=pq ht0;by
 obtain ⟨h0,h1,rfl⟩:=aW h;subst hb;have hb2:=Nat.le_of_ble_eq_true hb1;rw [List.length_replicate] at k;have hl:iK 1 (.bytes (List.replicate n.toNat (0:UInt8))) (List.replicate n.toNat (.int .u8 0)):=by
  have:=zFb (List.replicate n.toNat (0:UInt8));rw [List.map_replicate] at this;exact this
 exact RK.sb rfl (Go.Sw.sa_mkb (P:=P) (o:=⟨some d,.makeSlice t x y,ty,pos,af,none⟩) T.ok rfl rfl ht he hz (by omega) hx hy h0 h1 (by omega) (λs=>by rw [hzz];exact zNk _ (λ_=>trivial)) (by rw [hw];exact hl) (by simp [PV.len]) hk) k
theorem RK.cpB {t2:TypeId} {l m:By} (hn:l.length=n) (ht0:((T.te t).map (·.ty),T.te e,ei.w,s.get T.te t x,s.blk k0,s.get T.te t2 y,s.rd vy)=(some (.slice e),some ei,1,some (.ref k0 0 n),some (.var (l.map λx=>AV.p (.int .u8 x.toNat))),some vy,some (.bytes m,bs)))
  (k:BK P ops r s K d (opS x (.ref k0 0 n)++opS y vy) ((k0,.var (l.map λx=>AV.p (.int .u8 x.toNat))) :: bs) [] k0 (.var ((cpy l m).map λx=>AV.p (.int .u8 x.toNat))) (.p (.int .i64 (min m.length n:Nat)))):RK P ops (⟨some d,.call ⟨.builtin .copy,#[x,y],#[t,t2]⟩,ty,pos,af,none⟩:: r) s K:=have ⟨ht,ht0⟩:=pq ht0;have ⟨he,ht0⟩:=pq ht0;have ⟨hw,ht0⟩:=pq ht0;have ⟨hx,ht0⟩:=pq ht0;have ⟨hk,ht0⟩:=pq ht0;have ⟨hy,hp⟩:=pq ht0;by
 subst hn;have:=Go.Sw.sa_copy (P:=P) (o:=⟨some d,.call ⟨.builtin .copy,#[x,y],#[t,t2]⟩,ty,pos,af,none⟩) T.ok rfl rfl ht he hw hx hk (by simp) hy hp;rw [zLh] at this;exact RK.sb rfl this k
theorem RK.mf {tl2:List TypeId} {rs2:LV} {bb2:LB} (hxl0:(xs.toList,ys.toList)=(xl,yl)) (ha:oO s T.te xl tl ps rs bb) (hb:oO s T.te yl tl2 qs rs2 bb2) (k:VK P ops r s K d (rs++rs2) (bb++bb2) (.p (.fn f ps qs))):RK P ops (⟨some d,.makeFunc (.func f) xs ys,ty,pos,af,none⟩:: r) s K:=have ⟨hxl,hyl⟩:=pq hxl0;RK.va rfl rfl (Go.Sw.va_mkf rfl hxl hyl ha hb) k
theorem RK.mfA (hx0:(s.get T.te 0 x,Nat.blt f 1000000)=(some v,true)) (k:VK P ops r s K d (opS x v) ([]) (.fnv f [v])):RK P ops (⟨some d,.makeFunc (.func f) #[x] #[],ty,pos,af,none⟩:: r) s K:=have ⟨hx,hlt⟩:=pq hx0;RK.va rfl rfl (Go.Sw.va_mkfA rfl hx hlt) k
theorem RK.cf {tx:TypeId} (h:Ok P f na (mkS (argE 0 (fs++(ps++cs))) []) (mkS [(0,av)] blks)) (hx0:(s.get T.te 0 x,xs.toList,ts.toList)=(some (.p (.fn f fs cs)),xl,tl)) (ha:oO s T.te xl tl ps rs bb) (hn0:(Nat.beq na (fs++(ps++cs)).length,(kR (sh d) blks).all (λk=>(s.blk k).isNone))=(true,true))
  (k:RK P ops r (Mic.upd ⟨opS x (.p (.fn f fs cs))++rs,bb,kR (sh d) blks,some (d,some (av.ren (sh d))),bR (sh d) blks⟩ s) λs' ms=>K s' (⟨opS x (.p (.fn f fs cs))++rs,bb,kR (sh d) blks,some (d,some (av.ren (sh d))),bR (sh d) blks⟩:: ms)):RK P ops (⟨some d,.call ⟨.value x,xs,ts⟩,ty,pos,af,none⟩:: r) s K:=have ⟨hx,hx0⟩:=pq hx0;have ⟨hxl,htl⟩:=pq hx0;have ⟨hn,hf⟩:=pq hn0;
 by
 rw [kY,bG] at k;rw [kY] at hf;exact RK.st rfl (Go.Sw.sa_callf rfl rfl hx h hxl htl ha (Nat.eq_of_beq_eq_true hn) (λk hk=>by simpa using (List.all_eq_true.1 hf) k hk)) k
theorem RK.cpf {tx:TypeId} (h:Ok P f na (mkS ((0,.ptr 0 0) :: argE 1 ps) [(0,.var (cs.map .p))]) (mkS [(0,av)] ((0,.var l') :: blks))) (hx0:(s.get T.te 0 x,xs.toList,ts.toList,s.blk k0,s.rdL l)=(some (.fnv f [.ptr k0 0]),xl,tl,some (.var l),some (cs,bs0))) (ha:oO s T.te xl tl ps rs bb) (hn0:(Nat.beq na (ps.length+1),(kR (sh d) blks).all (λk=>(s.blk k).isNone),blks.all (λe=>!Nat.beq e.1 0),Nat.blt f 1000000)=(true,true,true,true))
  (k:RK P ops r (Mic.upd ⟨opS x (.fnv f [.ptr k0 0])++rs,(k0,.var l) :: (bs0++bb),kR (sh d) blks,some (d,some (av.ren (shp d k0))),bR (shp d k0) ((0,.var l') :: blks)⟩ s) λs' ms=>K s' (⟨opS x (.fnv f [.ptr k0 0])++rs,(k0,.var l) :: (bs0++bb),kR (sh d) blks,some (d,some (av.ren (shp d k0))),bR (shp d k0) ((0,.var l') :: blks)⟩:: ms)):RK P ops (⟨some d,.call ⟨.value x,xs,ts⟩,ty,pos,af,none⟩:: r) s K:=have ⟨hx,hx0⟩:=pq hx0;have ⟨hxl,hx0⟩:=pq hx0;have ⟨htl,hx0⟩:=pq hx0;have ⟨hbk,hcs⟩:=pq hx0;have ⟨hn,hn0⟩:=pq hn0;have ⟨hf,hn0⟩:=pq hn0;have ⟨hne,hlt⟩:=pq hn0;
 by
 rw [kY,bG] at k;rw [kY] at hf;exact RK.st rfl (Go.Sw.sa_callpf rfl rfl hx h hxl htl hbk hcs ha (Nat.eq_of_beq_eq_true hn) (λk hk=>by simpa using (List.all_eq_true.1 hf) k hk) (λe he h0=>by have:=(List.all_eq_true.1 hne) e he;simp [h0] at this) hlt) k
end
abbrev qI (n:Int):AV:=.p (.int .i64 n)
abbrev qU (x:UInt8):AV:=.p (.int .u8 x.toNat)
abbrev qB (b:Bool):AV:=.p (.bool b)
abbrev qY (l:By):AV:=.p (.bytes l)
abbrev qZ (l:By):AV:=.p (.str l)
abbrev qL (w:Nat) (f:α->PV) (l:List α):AV:=.p (.sl w (l.map f))
abbrev qA (f:α->PV) (l:List α):zF:=.var (l.map λx=>AV.p (f x))
section
theorem jn {c:Code} (j:J) (f:J->Exit×AS) (h:awp P cx c (OQ cx f j) s) (k:Q (f j).1 (f j).2):awp P cx c Q s:=fA f j h k
theorem sq {x y:Code} (h:awp P cx x (zDs (awp P cx y Q) Q) s):awp P cx (.seq x y) Q s:=zKt h
theorem im {c:Code} (hl:Imp cx.pk s s') (h:awp P cx c Q s'):awp P cx c Q s:=zJ6 hl h
end
def lA8:List α->Option (A8 α) | [a,b,c,d,e,f,g,h]=>some ⟨a,b,c,d,e,f,g,h⟩ | _=>none
theorem zNr {l:List α} {r:A8 α} (h:lA8 l=some r):l=[r.a0,r.a1,r.a2,r.a3,r.a4,r.a5,r.a6,r.a7]:=by unfold lA8 at h;split at h<;>cases h;rfl
theorem nz {b:Int} (h:(!(b==0))=true):(b==0)=false:=by simpa using h
theorem dA {l:List α} (h:Nat.beq l.length n=true):l.length=n:=Nat.eq_of_beq_eq_true h
theorem wH {ρ:Nat->Nat} {α:Type} {f:α->PV}:∀ {l:List α},kH ρ (l.map λx=>AV.p (f x))=l.map λx=>AV.p (f x)
 | []=>rfl
 | x :: r=>by simp only [List.map_cons,kH,AV.ren];rw [wH (l:=r)]
theorem tI {s'':AS} (h:Imp pk s s') (k:Imp pk s' s''):Imp pk s s'':=Imp.trans h k
section
def OR (cx:Ctx) (E:AS) (e:Exit) (s:AS):Prop:=(e=.ret∨e=.normal)/\Imp cx.pk s E
theorem zOc {body:Code} {as rs:AS} (E:AS) (hf:P.funcs[f]? = some fn) (hb:fn.body=some body) (hnm:(fn.name == "runtime.NumGoroutine")=false) (hnt:na<=fn.ntmps) (hks:∀ k,(as.blk k).isSome=true->k∈ks)
  (hr:∀ cx:Ctx,PK cx ks->sP P fn cx E rs) (h:∀ cx:Ctx,cx.nt=fn.ntmps->PK cx ks->awp P cx body (OR cx E) as):Ok P f na as rs:=
 zE9 hf hb hnm hnt hks λcx h1 h2 a w hs=>wp_mono (h cx h1 h2 a w hs) λe a' w' ⟨s',g1,g2,g3⟩ =>⟨E,g3 cx a' w' rfl g1,g2,hr cx h2⟩
end
section
variable {bx:LB} {k:IntKind}
end
section
variable [T:eP P] {k0:IntKind} {bx:LB} 
end
theorem scq {c:Code} {f:J->Exit×AS} {j:J} (hne:∀ y l,(f y).1≠.goto l) (h:awp P cx c (OQ cx f j) s):awp P cx (.scope c) (OQ cx f j) s:=
 zLo h λl s hq=>hne j l hq.1.symm
section
theorem zKz {ta:TypeId} {i:TI} (hok:yK P te) (hd:o.dst=none) (ho:o.op=.store t ax x) (ht:te t=some i) (ha:s.get te ta ax=some (.ptr k off)) (hx:s.get te t x=some v) (hp0:s.rd v=some (p,bs)) (hb:s.blk k=some (.var l))
  (hw:(AV.p p).cells.length=i.w) (hl:off+i.w<=l.length) (hone:(AV.p p).cells.all AV.one=true):SA P o s ⟨opS ax (.ptr k off)++opS x v,(k,.var l) :: bs,[],none,[(k,.var (rC l off (AV.p p).cells))]⟩:=by
 refine ⟨?_,yE (zJ ha) (zJ hx),λe he=>(List.mem_cons.1 he).elim (λh=>by subst h;exact hb) (vW v p bs hp0 e),by intro e he;simp at he⟩;intro cx s' a w K Q hm hs hws hk;obtain ⟨M,κ,tip,h0,hp,hi⟩:=hs;have hbk:=hm.2.1 (k,.var l) (by simp);have hx':RepA M κ tip s'.blk (.p p) (a.eval x):=.p _ _ (lW hi hx hp0 (zW hm.1) (λe he=>hm.2.1 e (by simp [he])));have ha':=zY hi (yD ha s' (yA hm.1));obtain ⟨hc1,hc2⟩:=gC hx';obtain ⟨b,arr,e,fz,h1,h2,h3,h4,h5,h6,h7⟩:=hi.vars k l hbk;generalize hev:a.eval ax=z at ha';cases ha' with
 | ptr k o b' l' hk' hl'=>
  rw [h1] at hk';cases hk';have hsz:(a.eval x).cells.toList.length=(AV.p p).cells.length:=by simp [hc1]
  have hrun:=run_storeCells_cells (P:=P) b off (a.eval x).cells.toList 0 w
   (by
     intro j hj;rw [hsz] at hj;have:off+j<arr.size:=by omega
     simp [World.cell?,h2,this])
   (by intro j hj;rw [hsz] at hj;simp only [Nat.add_zero];exact rH h2 h3 (by omega))
   (by
    intro u hu;obtain ⟨j,hj,hju⟩:=List.getElem_of_mem hu;have hjl:j<(AV.p p).cells.length:=by omega
    have hq:=hc2 j (AV.p p).cells[j] (by simp);have hjs:j<(a.eval x).cells.size:=by omega
    have:(a.eval x).cells.getD j undef=u:=by simp [hjs];simpa using hju
    rw [this] at hq;exact zAe hq ((List.all_eq_true.1 hone) _ (List.getElem_mem _)))
  unfold Oper.wp;have:(execOp a.eval o).run P w=.ok .skip (w.setCells b off (a.eval x).cells.toList):=by
   simp only [Nat.add_zero] at hrun;have hcs:¬ ((a.eval x).cells.size≠i.w):=by rw [hc1,hw];simp
   simp [execOp,ho,hev,Instr.storeAt,Instr.sureAddr,storeVar,vV hok ht,hcs,hrun]
  rw [this];show K (a.put o.dst undef) _;rw [hd];refine hk _ _ ?_;rw [dY];refine ⟨M,κ,tip,h0,hp,hi.setVar hbk h1 (by omega) hsz ?_⟩;intro j q hq;have:=hc2 j q hq;rw [Array.getD_eq_getD_getElem?] at this;simpa using this
end
section
variable [T:eP P] 
theorem RK.stP {f:α->PV} {i:TI} {j:Nat} {l l':List α} {u:α} (h:rN l j u=some l') (ht0:(T.te t,s.get T.te 0 ax)=(some i,some (.ptr k0 off))) (hj:off=j) (hx:s.get T.te t x=some v) (hp:s.rd v=some (f u,bs)) (hb0:(s.blk k0,i.w,(AV.p (f u)).cells,(AV.p (f u)).one)=(some (.var (l.map λx=>AV.p (f x))),1,[AV.p (f u)],true)) (k:RK P ops r (s.setb k0 (.var (l'.map λx=>AV.p (f x)))) λs' ms=>K s' (⟨opS ax (.ptr k0 off)++opS x v,(k0,.var (l.map λx=>AV.p (f x))) :: bs,[],none,[(k0,.var (l'.map λx=>AV.p (f x)))]⟩:: ms)):RK P ops (⟨none,.store t ax x,ty,pos,af,none⟩:: r) s K:=have ⟨ht,ha⟩:=pq ht0;have ⟨hb,hb0⟩:=pq hb0;have ⟨hw,hb0⟩:=pq hb0;have ⟨hf,hone⟩:=pq hb0;by
 refine RK.so rfl ?_ k;subst hj;obtain ⟨h1,h2⟩:=cC h;have:=zKz (P:=P) (o:=⟨none,.store t ax x,ty,pos,af,none⟩) T.ok rfl rfl ht ha hx hp hb (by simp [hf,hw]) (by rw [hw];simpa using Nat.succ_le_of_lt h1) (by simp [hf,hone]);rw [hf,zAr (by simpa using h1)] at this;have e:(l.map λx=>AV.p (f x)).set off (AV.p (f u))=l'.map λx=>AV.p (f x):=by rw [h2,List.map_set]
 rw [e] at this;exact this
theorem RK.iaE {i:Int} (j:Nat) (h:(i==(j:Int))=true) (ht0:((T.te t).map (·.ty),T.te e,s.get T.te t x,s.get T.te 0 y,Nat.blt j n)=(some (.arr n e),some ei,some (.ptr k0 off),some (.p (.int .i64 i)),true))
  (k:VK P ops r s K d (opS x (.ptr k0 off)++opS y (.p (.int .i64 i))) [] (.ptr k0 (off+j*ei.w))):RK P ops (⟨some d,.indexAddr t x y,ty,pos,af,none⟩:: r) s K:=have ⟨ht,ht0⟩:=pq ht0;have ⟨he,ht0⟩:=pq ht0;have ⟨hx,ht0⟩:=pq ht0;have ⟨hy,h1⟩:=pq ht0;by
 have e:i=(j:Int):=by simpa using h
 subst e;exact RK.va rfl rfl (Go.Sw.iaK T.ok rfl ht he hx hy h1) k
end
theorem zE7 {P:Program} {w:World} {b:Nat}:∀ (l:By) (o:Nat) (r:ByteArray),(∀ (i:Nat) (x:UInt8),l[i]? = some x->w.cell? ⟨b,o+i,none⟩=some (.int .u8 x.toNat)) ->
  (Extern.Bytes.loadBytes ⟨b,o,none⟩ l.length r).run P w=.ok ⟨r.data++l.toArray⟩ w
 | [],o,r,_=>by simp [Extern.Bytes.loadBytes]
 | u :: l,o,r,h=>by
  have h0:=h 0 u rfl;simp only [Nat.add_zero] at h0;have h1:=zE7 (P:=P) (w:=w) (b:=b) l (o+1) (r.push u) (λi x hx=>by have:=h (i+1) x (by simpa using hx);rw [show o+1+i=o+(i+1) by omega];exact this);simp only [List.length_cons,Extern.Bytes.loadBytes];rw [Sem.run_bind,run_load,h0];simp only [Result.andThen];have e:(u.toNat:Int).toNat.toUInt8=u:=by simp
  rw [e];have e2:(⟨b,o,none⟩:Addr).add 1=⟨b,o+1,none⟩:=by simp [Addr.add]
  rw [e2,h1];congr 1;apply ByteArray.ext;simp [ByteArray.push]
theorem zGs {l:By} {x:Value} (h:Rep M (.bytes l) x) (hm:∀ b o x,M b o=some x->w.cell? ⟨b,o,none⟩=some x) :
  (Extern.Bytes.bytesOf x).run P w=.ok ⟨l.toArray⟩ w:=by
 cases h with
 | bytes0=>rfl
 | bytesE a=>rfl
 | bytes l b o n c h1 h2 h3=>
  subst h1;have:=zE7 (P:=P) (w:=w) (b:=b) l o .empty (λi x hx=>hm _ _ _ (h3 i x hx));simp only [Extern.Bytes.bytesOf];rw [this];have he:ByteArray.empty.data=#[]:=rfl;simp [he]
def PV.byl:PV->Option By
 | .str l=>some l
 | .bytes l=>some l
 | _=>none
theorem zFk {l:By} {x:Value} (hp:p.byl=some l) (h:Rep M p x) (hm:∀ b o x,M b o=some x->w.cell? ⟨b,o,none⟩=some x) :
  (Extern.Bytes.bytesOf x).run P w=.ok ⟨l.toArray⟩ w:=by
 unfold PV.byl at hp;split at hp
 ·cases hp;rw [lI h];rfl
 ·cases hp;exact zGs h hm
 ·cases hp
theorem zMh {x:Value} {a:ByteArray} {c:Int} (hx:(Extern.Bytes.bytesOf x).run P w=.ok a w) :
  (Extern.BytealgIndexByte.indexByte #[x,.int .u8 c]).run P w=.ok (.int .i64 (Lib.indexByte a.data.toList c.toNat.toUInt8)) w:=by
 change Sem.run P (do
  let b <- Extern.Bytes.bytesOf x;let c' <- Extern.Bytes.asByte (.int .u8 c)
  match (List.range b.size).find? λi=>b[i]! == c' with
  | some i=>pure (goInt i)
  | none=>pure (goInt (-1))) w=_
 rw [<- Lib.firstIdx_eq];simp only [Extern.Bytes.asByte,firstIdx,Sem.run_bind,hx,Sem.run_pure,Result.andThen];cases List.find? (λi=>a[i]! == c.toNat.toUInt8) (List.range a.size)<;>simp [goInt]
section
variable {v':AV} {p':PV} {bs':LB} {l l':By} 
theorem zUi {c:Int} (hf:P.funcs[f]? = some fn) (hname:(fn.name == "runtime.NumGoroutine")=false) (hb:fn.body.isNone=true) (hn:Extern.findNext fn=none) (he:Extern.find fn=some Extern.BytealgIndexByte.indexByte)
  (ho:o.op=.call { callee:=.value (.func f),args:=#[x,y],argTypes:=#[t,t'] })
  (hx:s.get te t x=some v) (hp:s.rd v=some (p,bs)) (hl:p.byl=some l) (hy:s.get te t' y=some (.p (.int .u8 c))) :
  VA P o s (opS x v++opS y (.p (.int .u8 c))) bs (.p (.int .i64 (Lib.indexByte l c.toNat.toUInt8))):=by
 refine ⟨?_,yE (zJ hx) (zJ hy),vW v _ bs hp⟩;intro cx M κ tip s' a w hin hr hbk;have h1:=zFk (P:=P) hl (lW hin hx hp (yA hr) hbk) hin.mem;have h2:=rep_int (repA_pv (zY hin (yD hy s' (zW hr))));refine ⟨_,?_,.p _ _ (.int _ _)⟩;have h3:=run_callFunc_extern hf hname hb hn he #[a.eval x,a.eval y] w;rw [h2,zMh h1] at h3;rw [<- h2] at h3;simpa [execOp,ho,resolve,Act.eval,Deferred.ofValue,invoke,Result.andThen] using h3
def Ext (P:Program) (f:FuncId) (e:Array Value->Sem Value):Prop:=∃ fn,P.funcs[f]? = some fn/\(fn.name == "runtime.NumGoroutine")=false/\fn.body.isNone=true/\Extern.findNext fn=none/\Extern.find fn=some e
variable [T:eP P]
theorem RK.ibx {c:UInt8} (h:Ext P f Extern.BytealgIndexByte.indexByte) (hx0:(s.get T.te t x,s.rd v,p.byl,s.get T.te t' y)=(some v,some (p,bs),some l,some (.p (.int .u8 c.toNat))))
  (k:VK P ops r s K d (opS x v++opS y (.p (.int .u8 c.toNat))) bs (.p (.int .i64 (Lib.indexByte l c)))):RK P ops (⟨some d,.call { callee:=.value (.func f),args:=#[x,y],argTypes:=#[t,t'] },ty,pos,af,none⟩:: r) s K:=have ⟨hx,hx0⟩:=pq hx0;have ⟨hp,hx0⟩:=pq hx0;have ⟨hl,hy⟩:=pq hx0;by
 obtain ⟨fn,h1,h2,h3,h4,h5⟩:=h;have:=zUi (o:=⟨some d,.call { callee:=.value (.func f),args:=#[x,y],argTypes:=#[t,t'] },ty,pos,af,none⟩) h1 h2 h3 h4 h5 rfl hx hp hl hy;rw [show ((c.toNat:Int).toNat.toUInt8)=c by simp] at this;exact RK.va rfl rfl this k
end
section
variable {a:Act} {w':World}
theorem zNa (hi:Inv cx M κ tip s a w) (hp:∀ k∈cx.pk,κ k.1=some k.2/\k.2<cx.w0.heap.size) (hb:s.blk k=some (.own wd l)) (b:Option Nat):∀ k'∈cx.pk,gK κ k b k'.1=some k'.2/\k'.2<cx.w0.heap.size:=by
 intro k' hk';have h1:=hp k' hk';rw [yG]
 ·exact h1
 ·intro e;obtain ⟨_,h4⟩:=hi.owns _ wd l hb;rw [<- e] at h4;rcases h4 with ⟨_,h5,_⟩ | ⟨b',n,cap,arr,e,fz,_,h5,h6,h7,_⟩
  ·rw [h1.1] at h5;cases h5
  ·rw [h1.1] at h5;cases h5;omega
theorem Inv.ownNew (hi:Inv cx M κ tip s a w) {arr:Array Value} {fz:Nat×Nat} (hw:zC6 w w' arr e fz)
  (hk:s.blk k=none∨∃ l0,s.blk k=some (.own wd l0)/\l0.length<l.length) (hwd:0<wd) (hn:n*wd=l.length) (hcap:cap*wd<=arr.size) (hnc:n<=cap) (hml:cap<=maxLen)
  (hcs:∀ (j:Nat) (q:AV),l[j]? = some q->RepA M κ tip s.blk q (arr.getD j undef)) :
  Inv cx M (gK κ k (some w.heap.size)) (oK tip k (.slice (some ⟨w.heap.size,0,none⟩) n cap)) (s.setb k (.own wd l)) a w':=by
 have gle:GLe κ (gK κ k (some w.heap.size)) tip (oK tip k (.slice (some ⟨w.heap.size,0,none⟩) n cap)) s.blk (s.setb k (.own wd l)).blk:={
  var:=λi b l h h'=>by
   have e:i≠k:=by
    rintro rfl;rcases hk with hk | ⟨l0,hk,_⟩<;>(rw [hk] at h';cases h')
   rw [yG e,zQ e];exact ⟨h,l,h'⟩
  buf:=λi c1 h=>by
   have e:i≠k:=by
    rintro rfl;rcases hk with hk | ⟨l0,hk,_⟩<;>(rw [hk] at h;cases h)
   exact GLe.same (by rw [zQ e];exact h) (yR e)
  own:=λi w1 l1 h=>by
   by_cases e:i=k
   ·subst e;rcases hk with hk | ⟨l0,hk,hlt⟩
    ·rw [hk] at h;cases h
    ·rw [hk] at h;cases h;exact ⟨l,zX _ _ _,by omega,λe=>by omega⟩
   ·exact GLe.sameO (by rw [zQ e];exact h) (yG e) (yR e) }
 have hmap:∀ {v:AV} {x:Value},RepA M κ tip s.blk v x->RepA M (gK κ k (some w.heap.size)) (oK tip k (.slice (some ⟨w.heap.size,0,none⟩) n cap)) (s.setb k (.own wd l)).blk v x:=λh=>h.ghost gle;exact {
  defers:=hi.defers
  size:=hi.size
  fr:=⟨hw.os.trans hi.fr.os,hw.tape.trans hi.fr.tape,hw.output.trans hi.fr.output,by have:=hi.fr.size;rw [hw.size];omega,λb h1 h2=>by
   rw [hw.old b (by have:=hi.fr.size;omega)];exact hi.fr.block b h1 h2⟩
  mem:=λb o x h=>by
   have:=hi.mem b o x h;have hlt:=World.block_lt_of_cell? w _ this;rw [World.cell?_of_block (hw.old b hlt)];exact this
  env:=λt v h=>let ⟨x,h1,h2⟩:=hi.env t v h;⟨x,h1,hmap h2⟩
  vars:=λi l h=>by
   have e':i≠k:=by rintro rfl;rw [zX] at h;cases h
   rw [zQ e'] at h;obtain ⟨b,arr',e1,fz',h1,h2,h3,h4,h5,h6,h7⟩:=hi.vars i l h;have hlt:=hi.lt h1;exact ⟨b,arr',e1,fz',by rw [yG e'];exact h1,by rw [hw.old b hlt];exact h2,h3,h4,λj q hq=>hmap (h5 j q hq),h6,h7⟩
  bufs:=λi c1 h=>by
   have e':i≠k:=by rintro rfl;rw [zX] at h;cases h
   rw [zQ e'] at h;obtain ⟨h1,h2,h3,h4⟩:=hi.bufs i c1 h;rw [yR e',yG e'];refine ⟨h1,h2,h3,?_⟩;rcases h4 with h4 | ⟨b,n1,cap1,arr1,e1,fz1,q1,q2,q3,q4,q5,q6,q7,q8⟩
   ·exact .inl h4
   ·have hlt:=hi.lt q2;exact .inr ⟨b,n1,cap1,arr1,e1,fz1,q1,q2,q3,by rw [hw.old b hlt];exact q4,q5,q6,q7,q8⟩
  inj:=λi j b h1 h2=>by
   by_cases e1:i=k
   ·subst e1;rw [vP] at h1;cases h1;by_cases e2:j=i
    ·exact e2.symm
    ·rw [yG e2] at h2;have:=hi.lt h2;omega
   ·rw [yG e1] at h1;by_cases e2:j=k
    ·subst e2;rw [vP] at h2;cases h2;have:=hi.lt h1;omega
    ·rw [yG e2] at h2;exact hi.inj i j b h1 h2
  dom:=λi h=>by
   by_cases e':i=k
   ·subst e';rw [zX] at h;cases h
   ·rw [zQ e'] at h;rw [yG e'];exact hi.dom i h
  glob:=hi.glob
  old:=hi.old
  owns:=λi w1 l1 h=>by
   by_cases e':i=k
   ·subst e';rw [zX] at h;cases h;rw [yU,vP];exact ⟨hwd,.inr ⟨w.heap.size,n,cap,arr,e,fz,rfl,rfl,hi.fr.size,hw.new,hw.free,hn,hcap,hnc,hml,λj q hq=>hmap (hcs j q hq),λo=>hi.mlt (Nat.le_refl _)⟩⟩
   ·rw [zQ e'] at h;obtain ⟨g1,g2⟩:=hi.owns i w1 l1 h;rw [yR e',yG e'];refine ⟨g1,?_⟩;rcases g2 with g2 | ⟨b,n1,cap1,arr1,e1,fz1,q1,q2,q3,q4,q5,q6,q7,q8,q9,q10,q11⟩
    ·exact .inl g2
    ·have hlt:=hi.lt q2;exact .inr ⟨b,n1,cap1,arr1,e1,fz1,q1,q2,q3,by rw [hw.old b hlt];exact q4,q5,q6,q7,q8,q9,λj q hq=>hmap (q10 j q hq),q11⟩}
theorem Inv.ownNil (hi:Inv cx M κ tip s a w) (hk:s.blk k=none) (hwd:0<wd) :
  Inv cx M κ (oK tip k (.slice none 0 0)) (s.setb k (.own wd [])) a w:=by
 have gle:GLe κ κ tip (oK tip k (.slice none 0 0)) s.blk (s.setb k (.own wd [])).blk:={
  var:=λi b l h h'=>by
   have e:i≠k:=by rintro rfl;rw [hk] at h';cases h'
   rw [zQ e];exact ⟨h,l,h'⟩
  buf:=λi c1 h=>by
   have e:i≠k:=by rintro rfl;rw [hk] at h;cases h
   exact GLe.same (by rw [zQ e];exact h) (yR e)
  own:=λi c1 l1 h=>by
   have e:i≠k:=by rintro rfl;rw [hk] at h;cases h
   exact GLe.sameO (by rw [zQ e];exact h) rfl (yR e) }
 exact {
  defers:=hi.defers
  size:=hi.size
  fr:=hi.fr
  mem:=hi.mem
  env:=λt v h=>let ⟨x,h1,h2⟩:=hi.env t v h;⟨x,h1,h2.ghost gle⟩
  vars:=λi l h=>by
   have e':i≠k:=by rintro rfl;rw [zX] at h;cases h
   rw [zQ e'] at h;obtain ⟨b,arr',e1,fz',h1,h2,h3,h4,h5,h6⟩:=hi.vars i l h;exact ⟨b,arr',e1,fz',h1,h2,h3,h4,λj q hq=>(h5 j q hq).ghost gle,h6⟩
  bufs:=λi c1 h=>by
   have e':i≠k:=by rintro rfl;rw [zX] at h;cases h
   rw [zQ e'] at h;rw [yR e'];exact hi.bufs i c1 h
  inj:=hi.inj
  dom:=λi h=>by
   by_cases e':i=k
   ·subst e';rw [zX] at h;cases h
   ·rw [zQ e'] at h;exact hi.dom i h
  glob:=hi.glob
  old:=hi.old
  owns:=λi w1 l1 h=>by
   by_cases e':i=k
   ·subst e';rw [zX] at h;cases h;rw [yU];exact ⟨hwd,.inl ⟨rfl,hi.dom i hk,rfl⟩⟩
   ·rw [zQ e'] at h;obtain ⟨g1,g2⟩:=hi.owns i w1 l1 h;rw [yR e'];refine ⟨g1,?_⟩;rcases g2 with g2 | ⟨b,n1,cap1,arr1,e1,fz1,q1,q2,q3,q4,q5,q6,q7,q8,q9,q10,q11⟩
    ·exact .inl g2
    ·exact .inr ⟨b,n1,cap1,arr1,e1,fz1,q1,q2,q3,q4,q5,q6,q7,q8,q9,λj q hq=>(q10 j q hq).ghost gle,q11⟩}
theorem Inv.ownSet (hi:Inv cx M κ tip s a w) {n':Nat} {arr':Array Value} {fz:Nat×Nat} {vs:List Value} (hb:s.blk k=some (.own wd l)) (htip:tip k=.slice (some ⟨b,0,none⟩) n cap) (hkb:κ k=some b) (hbase:cx.w0.heap.size<=b)
  (hfree:zAf fz arr'.size) (g1:(w.setCells b off vs).heap[b]? = some (.cells arr' e fz)) (hcap:cap*wd<=arr'.size) (hnc:n'<=cap) (hml:cap<=maxLen) (hwd:0<wd) (hM:∀ o,M b o=none) (hlen:n'*wd=l'.length) (hle:l.length<=l'.length) (hl0:n*wd=l.length)
  (hcs:∀ (j:Nat) (q:AV),l'[j]? = some q->RepA M κ tip s.blk q (arr'.getD j undef)) :
  Inv cx M κ (oK tip k (.slice (some ⟨b,0,none⟩) n' cap)) (s.setb k (.own wd l')) a (w.setCells b off vs):=by
 have hrest:=nW b vs off w;have gle:GLe κ κ tip (oK tip k (.slice (some ⟨b,0,none⟩) n' cap)) s.blk (s.setb k (.own wd l')).blk:={
  var:=λi b l h h'=>by
   have e:i≠k:=by rintro rfl;rw [hb] at h';cases h'
   rw [zQ e];exact ⟨h,l,h'⟩
  buf:=λi c1 h=>by
   have e:i≠k:=by rintro rfl;rw [hb] at h;cases h
   exact GLe.same (by rw [zQ e];exact h) (yR e)
  own:=λi c1 l1 h=>by
   by_cases e:i=k
   ·subst e;rw [hb] at h;cases h;refine ⟨l',zX _ _ _,hle,λe=>⟨rfl,?_⟩⟩;rw [yU,htip];have:n'=n:=Nat.eq_of_mul_eq_mul_right hwd (by omega);rw [this]
   ·exact GLe.sameO (by rw [zQ e];exact h) rfl (yR e) }
 have hmap:∀ {v:AV} {x:Value},RepA M κ tip s.blk v x->RepA M κ (oK tip k (.slice (some ⟨b,0,none⟩) n' cap)) (s.setb k (.own wd l')).blk v x:=λh=>h.ghost gle;exact {
  defers:=hi.defers
  size:=hi.size
  fr:=⟨hrest.1.trans hi.fr.os,hrest.2.1.trans hi.fr.tape,hrest.2.2.trans hi.fr.output,by rw [nX];exact hi.fr.size,λi hi1 hi2=>by
   rw [xN b vs _ w i (by omega)];exact hi.fr.block i hi1 hi2⟩
  mem:=λi o x h=>by
   have hne:i≠b:=by rintro rfl;rw [hM] at h;cases h
   have:=hi.mem i o x h;rw [World.cell?_setCells_out b vs off w _ (λe=>(hne e).elim)];exact this
  env:=λt v h=>let ⟨x,h1,h2⟩:=hi.env t v h;⟨x,h1,hmap h2⟩
  vars:=λi l h=>by
   have e':i≠k:=by rintro rfl;rw [zX] at h;cases h
   rw [zQ e'] at h;obtain ⟨b2,arr2,e2,fz2,k1,k2,k3,k4,k5,k6,k7⟩:=hi.vars i l h;have hne:b2≠b:=λe=>e' (hi.inj i k b (e▸k1) hkb);exact ⟨b2,arr2,e2,fz2,k1,by rw [xN b vs _ w b2 hne];exact k2,k3,k4,λj q hq=>hmap (k5 j q hq),k6,k7⟩
  bufs:=λi c1 h=>by
   have e':i≠k:=by rintro rfl;rw [zX] at h;cases h
   rw [zQ e'] at h;obtain ⟨k1,k2,k3,k4⟩:=hi.bufs i c1 h;rw [yR e'];refine ⟨k1,k2,k3,?_⟩;rcases k4 with k4 | ⟨b2,n2,cap2,arr2,e2,fz2,q1,q2,q3,q4,q5,q6,q7,q8⟩
   ·exact .inl k4
   ·have hne:b2≠b:=λe=>e' (hi.inj i k b (e▸q2) hkb);exact .inr ⟨b2,n2,cap2,arr2,e2,fz2,q1,q2,q3,by rw [xN b vs _ w b2 hne];exact q4,q5,q6,q7,q8⟩
  inj:=hi.inj
  dom:=λi h=>by
   by_cases e':i=k
   ·subst e';rw [zX] at h;cases h
   ·rw [zQ e'] at h;exact hi.dom i h
  glob:=hi.glob
  old:=hi.old
  owns:=λi w1 l1 h=>by
   by_cases e':i=k
   ·subst e';rw [zX] at h;cases h;rw [yU];exact ⟨hwd,.inr ⟨b,n',cap,arr',e,fz,rfl,hkb,hbase,g1,hfree,hlen,hcap,hnc,hml,λj q hq=>hmap (hcs j q hq),hM⟩⟩
   ·rw [zQ e'] at h;obtain ⟨g1',g2⟩:=hi.owns i w1 l1 h;rw [yR e'];refine ⟨g1',?_⟩;rcases g2 with g2 | ⟨b2,n1,cap1,arr1,e1,fz1,q1,q2,q3,q4,q5,q6,q7,q8,q9,q10,q11⟩
    ·exact .inl g2
    ·have hne:b2≠b:=λe=>e' (hi.inj i k b (e▸q2) hkb);exact .inr ⟨b2,n1,cap1,arr1,e1,fz1,q1,q2,q3,by rw [xN b vs _ w b2 hne];exact q4,q5,q6,q7,q8,q9,λj q hq=>hmap (q10 j q hq),q11⟩}
end
section
theorem zFy {cx:Ctx} {z:Value} (hb:B k=some (.own wd l)) (hn:n*wd=l.length) (h:RepA M κ tip B (.own k n) z):z=tip k:=by
 cases h with
 | own _ _ w' l' _ h1 h2 h3 hs=>rw [hb] at h1;cases h1;exact h3 hn
theorem zKc {ity:TypeId} {i:Int} (hok:yK P te) (ho:o.op=.indexAddr t x y) (ht:(te t).map (·.ty)=some (.slice e)) (he:te e=some ei)
  (hx:s.get te t x=some (.own k n)) (hb:s.blk k=some (.own wd l)) (hn:n*wd=l.length) (hw:wd=ei.w) (hy:s.get te ity y=some (.p (.int .i64 i))) (h0:0<=i) (h1:i<n) :
  VA P o s (opS x (.own k n)++opS y (.p (.int .i64 i))) [(k,.own wd l)] (.optr k n (i.toNat*ei.w)):=by
 refine ⟨?_,yE (zJ hx) (zJ hy),by simpa using hb⟩;intro cx M κ tip s' a w hi hr hb';have hbk:=hb' (k,.own wd l) (by simp);simp only at hbk;have hx':=zY hi (yD hx s' (yA hr));have h2:=rep_int (repA_pv (zY hi (yD hy s' (zW hr))));have hu:=yN hok ht;have hsz:=vV hok he w;have hev:=zFy (cx:=cx) hbk hn hx';obtain ⟨g1,g2⟩:=hi.owns k wd l hbk;rcases g2 with ⟨_,_,rfl⟩ | ⟨b,n1,cap,arr,e1,fz,q1,q2,q3,q4,q5,q6,q7,q8,q9,q10,q11⟩
 ·have hp:=Nat.mul_pos (show 0<n by omega) g1;simp only [List.length_nil] at hn;omega
 ·have hnn:n1=n:=Nat.eq_of_mul_eq_mul_right g1 (by omega);subst hnn;rw [q1] at hev;exact ⟨.pointer (some ⟨b,0+i.toNat*ei.w,none⟩),by simp [execOp,ho,hev,h2,Instr.indexAt,asIntOf,run_underlying hu,h0,h1,hsz,add_off],.optr k n1 _ wd l _ hbk (by omega) (λ_=>⟨b,q2,by simp⟩) ⟨_,rfl⟩⟩
theorem zO4 (hok:yK P te) (ho:o.op=.call { callee:=.builtin .len,args:=#[x],argTypes:=#[t] }) (ht:(te t).map (·.ty)=some (.slice e)) (hx:s.get te t x=some (.own k n)) (hb:s.blk k=some (.own wd l)) (hn:n*wd=l.length):VA P o s (opS x (.own k n)) [(k,.own wd l)] (.p (.int .i64 n)):=by
 refine ⟨?_,zJ hx,by simpa using hb⟩;intro cx M κ tip s' a w hi hr hb';have hbk:=hb' (k,.own wd l) (by simp);simp only at hbk;have hev:=zFy (cx:=cx) hbk hn (zY hi (yD hx s' hr));have hu:=yN hok ht;obtain ⟨g1,g2⟩:=hi.owns k wd l hbk;rcases g2 with ⟨y1,_,rfl⟩ | ⟨b,n1,cap,arr,e1,fz,q1,q2,q3,q4,q5,q6,q7,q8,q9,q10,q11⟩
 ·have:n=0:=by
            rcases Nat.eq_zero_or_pos n with h | h
            ·exact h
            ·have:=Nat.mul_pos h g1;simp at hn;omega
  subst this;rw [y1] at hev;exact ⟨.int .i64 0,by simp [execOp,ho,hev,resolve,invoke,builtin,Builtin.len_,run_underlying hu,goInt],.p _ _ (.int _ _)⟩
 ·have hnn:n1=n:=Nat.eq_of_mul_eq_mul_right g1 (by omega);subst hnn;rw [q1] at hev;exact ⟨.int .i64 n1,by simp [execOp,ho,hev,resolve,invoke,builtin,Builtin.len_,run_underlying hu,goInt],.p _ _ (.int _ _)⟩
theorem zMr {i:TI} (hok:yK P te) (ho:o.op=.load t x) (ht:te t=some i) (hp:i.plain=true) (hx:s.get te ty x=some (.optr k n off)) (hb:s.blk k=some (.own wd l)) (hn:n*wd=l.length) (hv:l[off]? = some v) :
  VA P o s (opS x (.optr k n off)) [(k,.own wd l)] v:=by
 refine ⟨?_,zJ hx,by simpa using hb⟩;intro cx M κ tip s' a w hi hr hb';have hx':=zY hi (yD hx s' hr);have hbk:=hb' (k,.own wd l) (by simp);simp only at hbk;obtain ⟨g1,g2⟩:=hi.owns k wd l hbk;generalize hev:a.eval x=z at hx';cases hx' with
 | optr _ _ _ w' l' _ h1 h2 h3 hs=>
  rw [hbk] at h1;cases h1;obtain ⟨b,hκ,rfl⟩:=h3 hn;rcases g2 with ⟨_,y2,_⟩ | ⟨b',n1,cap,arr,e1,fz,q1,q2,q3,q4,q5,q6,q7,q8,q9,q10,q11⟩
  ·rw [hκ] at y2;cases y2
  ·rw [hκ] at q2;cases q2;have hlt:off<l.length:=(List.getElem?_eq_some_iff.1 hv).1;have hfit:n1*wd<=cap*wd:=Nat.mul_le_mul_right _ q8;have hlt':off<arr.size:=by omega
   have hcell:w.cell? ⟨b,off,none⟩=some arr[off]:=by simp [World.cell?,q4,hlt']
   refine ⟨arr[off],?_,?_⟩
   ·simp [execOp,ho,hev,Instr.loadAt,Instr.sureAddr,lK hok ht hp hcell]
   ·have:=q10 off v hv;simpa [hlt'] using this
theorem zKy {b:zF} (h:s.blk k=some b):s.setb k b=s:=by
 cases s with
 | mk env blk=>
  simp only [AS.setb];congr 1;funext t;by_cases ht:t=k
  ·subst ht;simp;exact h.symm
  ·have:Nat.beq t k=false:=by rw [Bool.eq_false_iff];intro e;exact ht (Nat.eq_of_beq_eq_true e)
   simp [this]
end
section
def zPj (P:Program) (y:Operand) (rs:LV) (bs:LB) (size m:Nat) (cs:List AV):Prop:=
 ∀ (cx:Ctx) (M:Mem) (κ:Nat->Option Nat) (tip:Nat->Value) (s:AS) (a:Act) (w:World),Inv cx M κ tip s a w->xX s rs->(∀ e∈bs,s.blk e.1=some e.2) ->
  ∃ news,Src P w size m (a.eval y) news/\∀ (j:Nat) (q:AV),cs[j]? = some q->RepA M κ tip s.blk q ((news[j]?).getD undef)
theorem zGb {cs:List AV} (hok:yK P te) (hd:o.dst=some d) (ho:o.op=.call { callee:=.builtin .append,args:=#[x,y],argTypes:=#[t,t'] })
  (ht:(te t).map (·.ty)=some (.slice e)) (he:te e=some ei) (ht':P.underlying t'=some dd) (hdd:eS dd) (hx:s.get te t x=some (.own k n)) (hk:s.blk k=some (.own wd l)) (hn:n*wd=l.length) (hcw:wd=ei.w) (hz:ei.z.length=ei.w) (hy:s.get te t' y=some vy) (hbs:∀ e∈bs,s.blk e.1=some e.2)
  (hsrc:zPj P y (opS y vy) bs ei.w m cs) (hm:cs.length=m*ei.w) (hone:cs.all AV.one=true) (hb:(n+m)*ei.b<=140737488355328) (hb1:0<ei.b) :
  SA P o s ⟨opS x (.own k n)++opS y vy,(k,.own wd l) :: bs,[],some (d,some (.own k (n+m))),[(k,.own wd (l++cs))]⟩:=by
 refine ⟨?_,yE (zJ hx) (zJ hy),?_,by intro k hk';simp at hk'⟩
 ·intro cx s' a w K Q hmm hs hws hk';obtain ⟨M,κ,tip,h0,hpk,hi⟩:=hs;have hbk:=hmm.2.1 (k,.own wd l) (by simp);simp only at hbk;have hevx:=zFy (cx:=cx) hbk hn (zY hi (yD hx s' (yA hmm.1)));obtain ⟨news,n1,n2⟩:=hsrc cx M κ tip s' a w hi (zW hmm.1) (λe he=>hmm.2.1 e (by simp [he]));obtain ⟨g1,g2⟩:=hi.owns k wd l hbk;obtain ⟨info,z,i1,i2,i3,i4,i5⟩:=(hok e ei he).info;have hu:=yN hok ht;have hlen:n+m<=140737488355328:=Nat.le_trans (Nat.le_mul_of_pos_right _ hb1) hb;have hnl:news.length=m*ei.w:=n1.nl;have hnc:news.length=cs.length:=by omega
  rw [<- i2] at n1;have hzs:z.cells.size=ei.w:=by rw [<- Array.length_toList,i5];simpa using hz
  have hlc:(l++cs).length=(n+m)*wd:=by rw [List.length_append,hm,<- hn,hcw,Nat.add_mul]
  have honev:∀ u∈news,u.oneCell'=true:=by
   intro u hu;obtain ⟨j,hj,hju⟩:=List.getElem_of_mem hu;have hq:=n2 j cs[j] (by simp);rw [List.getElem?_eq_getElem hj,hju] at hq;exact zAe hq ((List.all_eq_true.1 hone) _ (List.getElem_mem _))
  unfold Oper.wp;rcases g2 with ⟨hnil,hκ,rfl⟩ | ⟨b,n',cap,arr,e1,fz,q1,q2,q3,q4,q5,q6,q7,q8,q9,q10,q11⟩
  ·have hn0:n=0:=by
    rcases Nat.eq_zero_or_pos n with h | h
    ·exact h
    ·have:=Nat.mul_pos h g1;simp only [List.length_nil] at hn;omega
   subst hn0;simp only [List.nil_append,Nat.zero_add] at *;by_cases hm0:m=0
   ·subst hm0;have hcs:cs=[]:=List.eq_nil_of_length_eq_zero (by omega);subst hcs;have hrun:=lM (P:=P) (ty:=o.type) hu ht' hdd i1 n1;rw [wF ho (hevx.trans hnil) hrun];show K (a.put o.dst _) _;rw [hd];refine hk' _ _ ?_;rw [tH,zKy hbk];exact ⟨M,κ,tip,h0,hpk,hi.put (hws d (by simp [Mic.ws])) (.own k 0 wd [] _ hbk (by simp) (λ_=>hnil.symm) ⟨_,_,_,rfl⟩)⟩
   ·have hrun:=jX (P:=P) (ty:=o.type) hu ht' hdd i1 i4 n1 (by omega) (by rw [i3];exact hb) (by omega);rw [wF ho (hevx.trans hnil) hrun];show K (a.put o.dst _) _;rw [hd];refine hk' _ _ ?_;rw [tH];have hge:=grownCap_ge w m 0 e;have hsize:(news.toArray++Builtin.zeroCells z.cells (grownCap w m 0 e - m)).size=grownCap w m 0 e*ei.w:=by
     simp only [Array.size_append,List.size_toArray,size_zeroCells,hzs,hnl,<- Nat.add_mul];congr 1;omega
    have hml:grownCap w m 0 e<=maxLen:=grownCap_le_maxLen w m 0 e (by simp only [maxLen];omega);have hpos:=Nat.mul_pos (show 0<m by omega) g1;refine ⟨M,_,_,h0,zNa hi hpk hbk _,(hi.ownNew (k:=k) (wd:=wd) (n:=m) (cap:=grownCap w m 0 e) (l:=cs) (rV w _ e) (.inr ⟨[],hbk,by simp;omega⟩) g1 (by omega) (by rw [hsize,hcw];exact Nat.le_refl _) hge hml ?_).put (hws d (by simp [Mic.ws])) (.own k m wd cs _ (zX _ _ _) (by omega) (λ_=>(yU _ _ _).symm) ⟨_,_,_,rfl⟩)⟩;intro j q hq;have hlt:j<cs.length:=(List.getElem?_eq_some_iff.1 hq).1;rw [Array.getD_eq_getD_getElem?,Array.getElem?_append_left (by simp;omega)];have:=n2 j q hq;simpa using this
  ·have hnn:n'=n:=Nat.eq_of_mul_eq_mul_right g1 (by omega);subst hnn;have hfit0:n'*wd<=cap*wd:=Nat.mul_le_mul_right _ q8;by_cases hroom:n'+m<=cap
   ·have hfits:(n'+m)*wd<=arr.size:=Nat.le_trans (Nat.mul_le_mul_right _ hroom) q7;have hadd:(n'+m)*wd=n'*wd+m*wd:=Nat.add_mul _ _ _;have hnw:news.length=m*wd:=by rw [hnl,hcw]
    have hrun:=aO (P:=P) (ty:=o.type) hu ht' hdd i1 n1 (b:=b) (n:=n') (cap:=cap) honev hroom
     (by
       intro j hj;rw [i2,<- hcw];have:n'*wd+j<arr.size:=by omega
       simp [World.cell?,q4,this])
     (by intro j hj;rw [i2,<- hcw];exact rH q4 q5 (by omega))
    rw [wF ho (hevx.trans q1) hrun];show K (a.put o.dst _) _;rw [hd];refine hk' _ _ ?_;rw [tH,i2,<- hcw];obtain ⟨arr',z1,z2,z3⟩:=sU b news (n'*wd) w arr e1 fz q4 (by omega);refine ⟨M,κ,_,h0,hpk,(hi.ownSet (n':=n'+m) (l':=l++cs) hbk q1 q2 q3 (by rw [z2];exact q5) z1 (by rw [z2];exact q7) hroom q9 g1 q11 (by omega) (by simp) q6 ?_).put (hws d (by simp [Mic.ws])) (.own k (n'+m) wd (l++cs) _ (zX _ _ _) (by omega) (λ_=>(yU _ _ _).symm) ⟨_,_,_,rfl⟩)⟩;intro j q hq;rw [Array.getD_eq_getD_getElem?,z3 j];by_cases hj:j<l.length
    ·rw [List.getElem?_append_left hj] at hq;rw [if_neg (by omega)];have:=q10 j q hq;rw [Array.getD_eq_getD_getElem?] at this;exact this
    ·rw [List.getElem?_append_right (by omega)] at hq;have hlt:j - l.length<cs.length:=(List.getElem?_eq_some_iff.1 hq).1;rw [if_pos (by omega)];have:=n2 _ q hq;rw [show j - n'*wd=j - l.length by omega];exact this
   ·have hol:(arr.toList.take (n'*wd)).length=n'*info.size:=by simp [i2,<- hcw];omega
    have hrun:=aI (P:=P) (ty:=o.type) hu ht' hdd i1 i4 n1 (b:=b) (n:=n') (cap:=cap) (olds:=arr.toList.take (n'*wd)) hol
     (by
      intro j u hu;rw [List.getElem?_take] at hu;split at hu
      ·simp only [World.cell?,q4];simpa using hu
      ·cases hu)
     (by omega) (by rw [i3];exact hb) (by omega)
    rw [wF ho (hevx.trans q1) hrun];show K (a.put o.dst _) _;rw [hd];refine hk' _ _ ?_;rw [tH];have hge:=grownCap_ge w (n'+m) cap e;have hml:grownCap w (n'+m) cap e<=maxLen:=grownCap_le_maxLen w _ cap e (by simp only [maxLen];omega);have hmp:0<m:=by omega
    have hmw:=Nat.mul_pos hmp g1;have hadd:(n'+m)*wd=n'*wd+m*wd:=Nat.add_mul _ _ _;have htl:(arr.toList.take (n'*wd)).length=n'*wd:=by simp;omega
    generalize hA:((arr.toList.take (n'*wd)).toArray++news.toArray++Builtin.zeroCells z.cells (grownCap w (n'+m) cap e - (n'+m)))=A;have hsize:A.size=grownCap w (n'+m) cap e*ei.w:=by
     rw [<- hA];have hsub:(grownCap w (n'+m) cap e - (n'+m))*ei.w=grownCap w (n'+m) cap e*ei.w - (n'+m)*ei.w:=Nat.sub_mul _ _ _;have hge2:(n'+m)*ei.w<=grownCap w (n'+m) cap e*ei.w:=Nat.mul_le_mul_right _ hge;simp only [Array.size_append,List.size_toArray,htl,size_zeroCells,hzs,hnl];rw [hsub,hcw];rw [hcw] at hadd;omega
    refine ⟨M,_,_,h0,zNa hi hpk hbk _,(hi.ownNew (k:=k) (wd:=wd) (n:=n'+m) (cap:=grownCap w (n'+m) cap e) (l:=l++cs) (rV w A e) (.inr ⟨l,hbk,by omega⟩) g1 (by omega) (by rw [hsize,hcw];exact Nat.le_refl _) hge hml ?_).put (hws d (by simp [Mic.ws])) (.own k (n'+m) wd (l++cs) _ (zX _ _ _) (by omega) (λ_=>(yU _ _ _).symm) ⟨_,_,_,rfl⟩)⟩;intro j q hq;have hnw:news.length=m*wd:=by rw [hnl,hcw]
    have hjt:j<(l++cs).length:=(List.getElem?_eq_some_iff.1 hq).1;rw [Array.getD_eq_getD_getElem?,<- hA,Array.getElem?_append_left (by simp only [Array.size_append,List.size_toArray,htl];omega)];by_cases hj:j<l.length
    ·rw [List.getElem?_append_left hj] at hq;rw [Array.getElem?_append_left (by simp only [List.size_toArray,htl];omega)];have:=q10 j q hq;rw [Array.getD_eq_getD_getElem?] at this;simp only [List.getElem?_toArray,List.getElem?_take];rw [if_pos (by omega)];simpa using this
    ·rw [List.getElem?_append_right (by omega)] at hq;rw [Array.getElem?_append_right (by simp only [List.size_toArray,htl];omega)];have:=n2 _ q hq;simp only [List.size_toArray,htl,List.getElem?_toArray];rw [show j - n'*wd=j - l.length by omega];exact this
 ·intro e he;rcases List.mem_cons.1 he with he | he
  ·subst he;exact hk
  ·exact hbs e he
def PV.ecs:PV->List AV
 | .bytes l=>l.map λx=>.p (.int .u8 x.toNat)
 | .str l=>l.map λx=>.p (.int .u8 x.toNat)
 | .sl _ l=>(yZ l).map .p
 | _=>[]
theorem zBi {g:Nat->Value} {news:List Value} (hc:rR M p.src g) (hsl:p.src.isSlice=true) (hw:p.src.width=wd) (hn:∀ j,j<p.src.len*wd->news[j]? = some (g j)) :
  p.ecs.length=p.src.len*wd/\∀ (j:Nat) (q:AV),p.ecs[j]? = some q->RepA M κ tip B q ((news[j]?).getD undef):=by
 have hby:∀ (l:By),rR M (.bytes l) g->(∀ j,j<l.length*1->news[j]? = some (g j))->∀ (j:Nat) (q:AV),(l.map λx=>AV.p (.int .u8 x.toNat))[j]? = some q->RepA M κ tip B q ((news[j]?).getD undef):=by
  intro l hc hn j q hq;rw [List.getElem?_map] at hq;obtain ⟨u,h1,h2⟩:=Option.map_eq_some_iff.1 hq;have hlt:j<l.length:=(List.getElem?_eq_some_iff.1 h1).1;rw [hn j (by omega),<- h2,Option.getD_some,hc j u h1];exact .p _ _ (.int _ _)
 cases p with
 | bytes l=>simp only [PV.src,PV.width] at *;subst hw;exact ⟨by simp [PV.ecs,PV.len],hby l hc hn⟩
 | str l=>simp only [PV.src,PV.width] at *;subst hw;exact ⟨by simp [PV.ecs,PV.len],hby l hc hn⟩
 | sl w' l=>
  simp only [PV.src,PV.width] at *;subst hw;obtain ⟨c1,c2⟩:=hc;have hwf:∀ p∈l,p.cells.length=w':=λp hp=>by obtain ⟨i,hi,h⟩:=List.getElem_of_mem hp;exact c1 i p (by simp [hi,h])
  obtain ⟨f1,f2⟩:=zAn l hwf;refine ⟨by simp [PV.ecs,PV.len,f1],λj q hq=>?_⟩;simp only [PV.ecs] at hq;rw [List.getElem?_map] at hq;obtain ⟨u,h1,h2⟩:=Option.map_eq_some_iff.1 hq;have hlt:j<(yZ l).length:=(List.getElem?_eq_some_iff.1 h1).1;have hw0:0<w':=by
   rcases Nat.eq_zero_or_pos w' with h | h
   ·subst h;omega
   ·exact h
  have hdm:w'*(j / w')+j % w'=j:=Nat.div_add_mod j w';have hi:j / w'<l.length:=Nat.div_lt_of_lt_mul (by rw [Nat.mul_comm];omega);have hp:l[j / w']? = some l[j / w']:=by simp
  have hcl:=c1 _ _ hp;have hr:j % w'<l[j / w'].cells.length:=by rw [hcl];exact Nat.mod_lt _ hw0
  have hqq:l[j / w'].cells[j % w']? = some l[j / w'].cells[j % w']:=by simp
  have e:j / w'*w'+j % w'=j:=by rw [Nat.mul_comm];exact hdm
  have h3:=f2 _ _ _ _ hp hqq;rw [e,h1] at h3;cases h3;have h4:=c2 _ _ _ _ hp hqq;rw [e] at h4;rw [hn j (by simp only [PV.len];omega),<- h2,Option.getD_some];exact .p _ _ h4
 | _=>simp [PV.src,PV.isSlice] at hsl
theorem zAx (hy:s.get te t' y=some vy) (hp:s.rd vy=some (p,bs)) (hsl:p.src.isSlice=true) (hw:p.src.width=wd) (hw0:0<wd):zPj P y (opS y vy) bs wd p.src.len p.ecs:=by
 intro cx M κ tip s' a w hi hr hb;have h:=lW hi hy hp hr hb;cases p with
 | str l=>
  rw [lI h];obtain ⟨news,g,q1,q2,q3⟩:=zKa (P:=P) (M:=M) (w:=w) l;have hw1:wd=1:=by rw [<- hw];rfl
  subst hw1;exact ⟨news,q1,(zBi (p:=.str l) q2 rfl rfl q3).2⟩
 | bytes l=>
  obtain ⟨news,g,q1,q2,q3⟩:=dQ (P:=P) hi.mem (p:=.bytes l) rfl h (by simp [PV.width]);have hw1:wd=1:=by rw [<- hw];rfl
  subst hw1;exact ⟨news,q1,(zBi (p:=.bytes l) q2 rfl rfl q3).2⟩
 | sl w' l=>
  have hw1:wd=w':=by rw [<- hw];rfl
  subst hw1;obtain ⟨news,g,q1,q2,q3⟩:=dQ (P:=P) hi.mem (p:=.sl wd l) rfl h (by simp [PV.width];omega);exact ⟨news,q1,(zBi (p:=.sl wd l) q2 rfl rfl q3).2⟩
 | _=>simp [PV.src,PV.isSlice] at hsl
theorem zGv (hy:s.get te t' y=some (.ref k2 0 m)) (hl:l2.length=m*wd):zPj P y (opS y (.ref k2 0 m)) [(k2,.var l2)] wd m l2:=by
 intro cx M κ tip s' a w hi hr hb;have hbk:=hb (k2,.var l2) (by simp);simp only at hbk;have h:=zY hi (yD hy s' hr);obtain ⟨b,arr,e,fz,q1,q2,q3,q4,q5,q6,q7⟩:=hi.vars k2 l2 hbk;generalize hev:a.eval y=z at h;cases h with
 | ref _ _ _ b' l' g1 g2=>
 rw [q1] at g1;cases g1;refine ⟨arr.toList,⟨λw'=>by simp [Builtin.lenOf],λw' hw'=>?_,by simp;omega⟩,λj q hq=>?_⟩
 ·refine run_firstCells_some (P:=P) w' wd m ⟨b,0,none⟩ m m _ (by simp;omega) ?_;intro j u hu;rw [add_off];refine hw' _ _ ?_;simp only [World.cell?,q2,Nat.zero_add];simpa using hu
 ·have:=q5 j q hq;rw [Array.getD_eq_getD_getElem?] at this;simpa using this
theorem zGp {cs:List AV} (hok:yK P te) (hd:o.dst=some d) (ho:o.op=.call { callee:=.builtin .append,args:=#[x,y],argTypes:=#[t,t'] })
  (ht:(te t).map (·.ty)=some (.slice e)) (he:te e=some ei) (ht':P.underlying t'=some dd) (hdd:eS dd) (hx:s.get te t x=some (.nl c)) (hw0:0<ei.w) (hz:ei.z.length=ei.w) (hy:s.get te t' y=some vy) (hbs:∀ e∈bs,s.blk e.1=some e.2)
  (hsrc:zPj P y (opS y vy) bs ei.w m cs) (hm:cs.length=m*ei.w) (hb:m*ei.b<=140737488355328) (hb1:0<ei.b) (hk:s.blk d=none) :
  SA P o s ⟨opS x (.nl c)++opS y vy,bs,[d],some (d,some (.own d m)),[(d,.own ei.w cs)]⟩:=by
 refine ⟨?_,yE (zJ hx) (zJ hy),hbs,by intro k hk';simp at hk';subst hk';exact hk⟩;intro cx s' a w K Q hmm hs hws hk';obtain ⟨M,κ,tip,h0,hpk,hi⟩:=hs;have hbk:=hmm.2.2 d (by simp);have hevx:a.eval x=.slice none 0 0:=by
  have hx':=zY hi (yD hx s' (yA hmm.1));generalize a.eval x=z at hx';cases hx' with
  | nl _ _=>rfl
 obtain ⟨news,n1,n2⟩:=hsrc cx M κ tip s' a w hi (zW hmm.1) hmm.2.1;obtain ⟨info,z,i1,i2,i3,i4,i5⟩:=(hok e ei he).info;have hu:=yN hok ht;have hlen:m<=140737488355328:=Nat.le_trans (Nat.le_mul_of_pos_right _ hb1) hb;have hnl:news.length=m*ei.w:=n1.nl;rw [<- i2] at n1;have hzs:z.cells.size=ei.w:=by rw [<- Array.length_toList,i5];simpa using hz
 unfold Oper.wp;by_cases hm0:m=0
 ·subst hm0;have hcs:cs=[]:=List.eq_nil_of_length_eq_zero (by omega);subst hcs;have hrun:=lM (P:=P) (ty:=o.type) hu ht' hdd i1 n1;rw [wF ho hevx hrun];show K (a.put o.dst _) _;rw [hd];refine hk' _ _ ?_;rw [fG];exact ⟨M,κ,_,h0,hpk,(hi.ownNil hbk hw0).put (hws d (by simp [Mic.ws])) (.own d 0 ei.w [] _ (zX _ _ _) (by simp) (λ_=>(yU _ _ _).symm) ⟨_,_,_,rfl⟩)⟩
 ·have hrun:=jX (P:=P) (ty:=o.type) hu ht' hdd i1 i4 n1 (by omega) (by rw [i3];exact hb) (by omega);rw [wF ho hevx hrun];show K (a.put o.dst _) _;rw [hd];refine hk' _ _ ?_;rw [fG];have hge:=grownCap_ge w m 0 e;have hsize:(news.toArray++Builtin.zeroCells z.cells (grownCap w m 0 e - m)).size=grownCap w m 0 e*ei.w:=by
   simp only [Array.size_append,List.size_toArray,size_zeroCells,hzs,hnl,<- Nat.add_mul];congr 1;omega
  have hml:grownCap w m 0 e<=maxLen:=grownCap_le_maxLen w m 0 e (by simp only [maxLen];omega);refine ⟨M,_,_,h0,eU hi hpk hbk _,(hi.ownNew (k:=d) (wd:=ei.w) (n:=m) (cap:=grownCap w m 0 e) (l:=cs) (rV w _ e) (.inl hbk) hw0 (by omega) (by rw [hsize];exact Nat.le_refl _) hge hml ?_).put (hws d (by simp [Mic.ws])) (.own d m ei.w cs _ (zX _ _ _) (by omega) (λ_=>(yU _ _ _).symm) ⟨_,_,_,rfl⟩)⟩;intro j q hq;have hlt:j<cs.length:=(List.getElem?_eq_some_iff.1 hq).1;rw [Array.getD_eq_getD_getElem?,Array.getElem?_append_left (by simp;omega)];have:=n2 j q hq;simpa using this
end
mutual
def fzV (k m:Nat):AV->AV
 | .own j n=>bif Nat.beq j k then .buf j m else .own j n
 | .ag l=>.ag (fzL k m l)
 | .tu l=>.tu (fzL k m l)
 | .fnv f l=>.fnv f (fzL k m l)
 | v=>v
def fzL (k m:Nat):List AV->List AV
 | []=>[]
 | v :: r=>fzV k m v :: fzL k m r
end
mutual
def nN (k n:Nat):AV->Bool
 | .own j m=>!Nat.beq j k||Nat.beq m n
 | .optr j _ _=>!Nat.beq j k
 | .osl j _ _ _=>!Nat.beq j k
 | .ag l=>qH k n l
 | .tu l=>qH k n l
 | .fnv _ l=>qH k n l
 | _=>true
def qH (k n:Nat):List AV->Bool
 | []=>true
 | v :: r=>nN k n v&&qH k n r
end
def fzB (k m:Nat):zF->zF
 | .var l=>.var (fzL k m l)
 | .own w l=>.own w (fzL k m l)
 | .buf c=>.buf c
def fyE (k m:Nat):LV->LV
 | []=>[]
 | (t,v) :: r=>(t,fzV k m v) :: fyE k m r
def bP (k m:Nat) (c:PV):LB->LB
 | []=>[]
 | (i,b) :: r=>(bif Nat.beq i k then (i,.buf c) else (i,fzB k m b)) :: bP k m c r
def eD (k n:Nat):LV->Bool
 | []=>true
 | (_,v) :: r=>nN k n v&&eD k n r
def mN (k n:Nat):LB->Bool
 | []=>true
 | (_,.var l) :: r=>qH k n l&&mN k n r
 | (_,.own _ l) :: r=>qH k n l&&mN k n r
 | (_,.buf _) :: r=>mN k n r
theorem nV (k m:Nat):∀ (l:List AV),(fzL k m l).length=l.length/\∀ (j:Nat),(fzL k m l)[j]? = (l[j]?).map (fzV k m)
 | []=>⟨rfl,by simp [fzL]⟩
 | v :: r=>by
  obtain ⟨h1,h2⟩:=nV k m r;refine ⟨by simp [fzL,h1],λj=>?_⟩;cases j with
  | zero=>simp [fzL]
  | succ j=>simp [fzL,h2 j]
theorem eJ:∀ (l:List AV),qH k n l=true->∀ (j:Nat) (q:AV),l[j]? = some q->nN k n q=true
 | [],_,_,_,h=>by simp at h
 | v :: r,h,0,q,hq=>by
  simp only [qH,Bool.and_eq_true] at h;simp at hq;rw [<- hq];exact h.1
 | v :: r,h,j+1,q,hq=>by
  simp only [qH,Bool.and_eq_true] at h;exact eJ r h.2 j q (by simpa using hq)
theorem zMz (f:α->PV):∀ (l:List α),fzL k m (l.map λx=>AV.p (f x))=l.map λx=>AV.p (f x)
 | []=>rfl
 | _ :: r=>by simp only [List.map_cons,fzL,fzV];rw [zMz f r]
theorem zNo:∀ (l:List PV),fzL k m (l.map AV.p)=l.map AV.p
 | []=>rfl
 | _ :: r=>by simp only [List.map_cons,fzL,fzV];rw [zNo r]
theorem iO (f:α->PV):∀ (l:List α),qH k n (l.map λx=>AV.p (f x))=true
 | []=>rfl
 | _ :: r=>by simp only [List.map_cons,qH,nN,Bool.true_and];exact iO f r
theorem iF:∀ (l:List PV),qH k n (l.map AV.p)=true
 | []=>rfl
 | _ :: r=>by simp only [List.map_cons,qH,nN,Bool.true_and];exact iF r
theorem eD.mem:∀ {l:LV},eD k n l=true->∀ {t v},(t,v)∈l->nN k n v=true
 | (_,_) :: _,h,_,_,hm=>by
  simp only [eD,Bool.and_eq_true] at h;rcases List.mem_cons.1 hm with e | hm
  ·cases e;exact h.1
  ·exact eD.mem h.2 hm
theorem mN.mem:∀ {l:LB},mN k n l=true->∀ {t b},(t,b)∈l->(∀ v,b=.var v->qH k n v=true)/\∀ w v,b=.own w v->qH k n v=true
 | (_,.var u) :: _,h,_,_,hm=>by
  simp only [mN,Bool.and_eq_true] at h;rcases List.mem_cons.1 hm with e | hm
  ·cases e;exact ⟨λv e=>(by cases e;exact h.1),λw v e=>(by cases e)⟩
  ·exact mN.mem h.2 hm
 | (_,.own w u) :: _,h,_,_,hm=>by
  simp only [mN,Bool.and_eq_true] at h;rcases List.mem_cons.1 hm with e | hm
  ·cases e;exact ⟨λv e=>(by cases e),λw v e=>(by cases e;exact h.1)⟩
  ·exact mN.mem h.2 hm
 | (_,.buf u) :: _,h,_,_,hm=>by
  simp only [mN] at h;rcases List.mem_cons.1 hm with e | hm
  ·cases e;exact ⟨λv e=>(by cases e),λw v e=>(by cases e)⟩
  ·exact mN.mem h hm
theorem zOs:∀ {l:LV} {t:Nat} {v:AV},lk (fyE k m l) t=some v->∃ u,lk l t=some u/\v=fzV k m u
 | [],_,_,h=>by simp [fyE,lk] at h
 | (i,x) :: r,t,v,h=>by
  simp only [fyE,lk] at h ⊢;cases hb:Nat.beq t i with
  | true=>simp [hb] at h;exact ⟨x,by simp,h.symm⟩
  | false=>simp [hb] at h;simpa using zOs h
theorem zAk:∀ {l:LB} {t:Nat},lk (bP k m c l) t=(lk l t).map (λb=>bif Nat.beq t k then .buf c else fzB k m b)
 | [],t=>by simp [bP,lk]
 | (i,x) :: r,t=>by
  simp only [bP,lk];cases hb:Nat.beq t i with
  | true=>
   have:=Nat.eq_of_beq_eq_true hb;subst this;cases hk:Nat.beq t k<;>simp [lk]
  | false=>
   cases hk:Nat.beq i k<;>simp [lk,hb,zAk]
theorem RepA.fz {M':Mem} {B':NB} (hM:M.le M') (hk:B k=some (.own wd l)) (hn:n*wd=l.length) (hB:∀ i b,i≠k->B i=some b->B' i=some (fzB k n b)) (hk':B' k=some (.buf c)) (hc:c.isSlice=true) (hcl:c.len=n) (hr':Rep M' c (tip k))
  {x:Value} (hr:RepA M κ tip B v x):nN k n v=true->RepA M' κ tip B' (fzV k n v) x:=by
 have nek:∀ {i:Nat} {b:zF},B i=some b->(∀ w l,b≠.own w l)->i≠k:=by
  rintro i b h1 h2 rfl;rw [hk] at h1;cases h1;exact h2 _ _ rfl
 induction hr with
 | p v x h1=>intro _;exact .p v x (h1.mono hM)
 | nl c h1=>intro _;exact .nl c h1
 | ptr i o b l h1 h2=>intro _;exact .ptr i o b _ h1 (hB i _ (nek h2 (by intros;simp)) h2)
 | ref i o n b l h1 h2=>intro _;exact .ref i o n b _ h1 (hB i _ (nek h2 (by intros;simp)) h2)
 | buf i n c x h1 hs h2 h3 h4=>intro _;exact .buf i n c x (hB i _ (nek h1 (by intros;simp)) h1) hs h2 (h3.mono hM) h4
 | ag l vs h1 _ ih=>
  intro h;obtain ⟨r1,r2⟩:=nV k n l;refine .ag _ vs (by omega) (λj q hq=>?_);rw [r2] at hq;obtain ⟨q',h3,h4⟩:=Option.map_eq_some_iff.1 hq;subst h4;exact ih j q' h3 (eJ l h j q' h3)
 | tu l vs h1 _ ih=>
  intro h;obtain ⟨r1,r2⟩:=nV k n l;refine .tu _ vs (by omega) (λj q hq=>?_);rw [r2] at hq;obtain ⟨q',h3,h4⟩:=Option.map_eq_some_iff.1 hq;subst h4;exact ih j q' h3 (eJ l h j q' h3)
 | fnv f l vs h1 _ ih=>
  intro h;obtain ⟨r1,r2⟩:=nV k n l;refine .fnv f _ vs (by omega) (λj q hq=>?_);rw [r2] at hq;obtain ⟨q',h3,h4⟩:=Option.map_eq_some_iff.1 hq;subst h4;exact ih j q' h3 (eJ l h j q' h3)
 | own i m w l0 x h1 h2 h3 hs=>
  intro h;simp only [nN] at h;cases hb:Nat.beq i k with
  | true=>
   have:=Nat.eq_of_beq_eq_true hb;subst this;simp [hb] at h;subst h;rw [hk] at h1;cases h1;simp only [fzV,hb,cond_true];have hx:=h3 hn;refine .buf i m c x hk' hc (by omega) ?_ (λ_=>hx);rw [<- hcl,qM hc,hx];exact hr'
  | false=>
   have hne:i≠k:=by rintro rfl;simp at hb
   simp only [fzV,hb,cond_false];obtain ⟨r1,r2⟩:=nV k n l0;exact .own i m w (fzL k n l0) x (hB i _ hne h1) (by omega) (λe=>h3 (by omega)) hs
 | optr i m o w l0 x h1 h2 h3 hs=>
  intro h;simp only [nN] at h;have hne:i≠k:=by rintro rfl;simp at h
  obtain ⟨r1,r2⟩:=nV k n l0;exact .optr i m o w (fzL k n l0) x (hB i _ hne h1) (by omega) (λe=>h3 (by omega)) hs
 | osl i m o q w l0 x h1 h2 h3 hs=>
  intro h;simp only [nN] at h;have hne:i≠k:=by rintro rfl;simp at h
  obtain ⟨r1,r2⟩:=nV k n l0;exact .osl i m o q w (fzL k n l0) x (hB i _ hne h1) (by omega) (λe=>h3 (by omega)) hs
theorem Imp.freezeO {env':LV} {blk':LB} (k:Nat) (hb:lk blk k=some (.own wd l)) (hn:n*wd=l.length) (hrd:(mkS env blk).rdL l=some (cs,bs)) (hc:iK wd c cs) (hcn:c.len=n) (hm:m=n)
  (h1:eD k n env=true) (h2:mN k n blk=true) (he:fyE k m env=env') (hbb:bP k m c blk=blk'):Imp pk (mkS env blk) (mkS env' blk'):=by
 subst he hbb hm;intro cx a w hcx hs;obtain ⟨M,κ,tip,h0,hp,hi⟩:=hs;obtain ⟨g1,g2⟩:=hi.owns k wd l hb;have key:∃ M',M.le M'/\Rep M' c (tip k)/\c.isSlice=true/\c.width=wd/\(∀ b o x,M' b o=some x->w.cell? ⟨b,o,none⟩=some x)/\(∀ b o,κ k≠some b->M' b o=M b o) /\
   ((tip k=.slice none 0 0/\κ k=none)∨∃ b n cap arr e fz,tip k=.slice (some ⟨b,0,none⟩) n cap/\κ k=some b/\cx.w0.heap.size<=b /\
    w.heap[b]? = some (.cells arr e fz)/\zAf fz arr.size/\cap*c.width<=arr.size/\cap<=maxLen/\∀ j,n*c.width<=j->M' b j=none):=by
  rcases g2 with ⟨y1,y2,rfl⟩ | ⟨b,n',cap,arr,e,fz,q1,q2,q3,q4,q5,q6,q7,q8,q9,q10,q11⟩
  ·simp [AS.rdL] at hrd;obtain ⟨rfl,rfl⟩:=hrd;obtain ⟨c1,c2,c3,c4⟩:=hc.cells (M:=M) (f:=λ_=>undef) (by simp);have hl0:c.len=0:=by
    rcases Nat.eq_zero_or_pos c.len with h | h
    ·exact h
    ·have:=Nat.mul_pos h g1;simp at c4;omega
   refine ⟨M,Mem.le_refl M,?_,c2,c3,hi.mem,λ_ _ _=>rfl,.inl ⟨y1,y2⟩⟩;rw [y1];cases c with
   | bytes l=>simp [PV.len] at hl0;subst hl0;exact .bytes0
   | sl w l=>simp [PV.len] at hl0;subst hl0;exact .sl0 w
   | _=>simp [PV.isSlice] at c2
  ·have hnn:n'=m:=Nat.eq_of_mul_eq_mul_right g1 (by omega);subst hnn;have hfit:n'*wd<=cap*wd:=Nat.mul_le_mul_right _ q8;obtain ⟨r1,r2⟩:=gZ hrd q10;obtain ⟨c1,c2,c3,c4⟩:=hc.cells r2;have hle:M.le (addM M b 0 (n'*wd) (arr[·]?)):=addM_le λo _ _=>q11 o;refine ⟨addM M b 0 (n'*wd) (arr[·]?),hle,?_,c2,c3,λb' o x h=>?_,λb' o hne=>?_,.inr ⟨b,n',cap,arr,e,fz,q1,q2,q3,q4,q5,by rw [c3];exact q7,q9,λj hj=>?_⟩⟩
   ·rw [q1];have:=wX (M':=addM M b 0 (n'*wd) (arr[·]?)) (b:=b) (o:=0) (cap:=cap) c1 c2 hle ?_ (by omega)
    ·rwa [hcn] at this
    intro j hj;rw [hcn,c3] at hj;simp only [addM,Nat.zero_add];rw [if_pos ⟨trivial,Nat.zero_le _,hj⟩];have:j<arr.size:=by omega
    simp [this]
   ·unfold addM at h;split at h
    ·rename_i hc';obtain ⟨rfl,_,hlt⟩:=hc';simp only [World.cell?,q4];simpa using h
    ·exact hi.mem b' o x h
   ·unfold addM;rw [if_neg (by intro h;exact hne (by rw [h.1];exact q2))]
   ·unfold addM;rw [c3] at hj;rw [if_neg (by omega)];exact q11 j
 obtain ⟨M',hle,hrep,hcs,hcw,hmem,hoth,hrow⟩:=key;have hB:∀ i b,i≠k->lk blk i=some b->lk (bP k m c blk) i=some (fzB k m b):=λi b hne h=>by
  have:Nat.beq i k=false:=by rw [Bool.eq_false_iff];intro e;exact hne (Nat.eq_of_beq_eq_true e)
  rw [zAk,h,this];rfl
 have hBk:lk (bP k m c blk) k=some (.buf c):=by rw [zAk,hb];simp
 have hBi:∀ i b',lk (bP k m c blk) i=some b'->(i=k/\b'=.buf c)∨(i≠k/\∃ b,lk blk i=some b/\b'=fzB k m b):=by
  intro i b' h;rw [zAk] at h;obtain ⟨b,h3,h4⟩:=Option.map_eq_some_iff.1 h;cases hq:Nat.beq i k with
  | true=>simp [hq] at h4;exact .inl ⟨Nat.eq_of_beq_eq_true hq,h4.symm⟩
  | false=>simp [hq] at h4;exact .inr ⟨by rintro rfl;simp at hq,b,h3,h4.symm⟩
 have hmap:∀ {v:AV} {x:Value},RepA M κ tip (lk blk) v x->nN k m v=true->RepA M' κ tip (lk (bP k m c blk)) (fzV k m v) x:=λh ho=>h.fz hle hb hn hB hBk hcs hcn hrep ho;have hcells:∀ (li:List AV),qH k m li=true->∀ {arr:Array Value},(∀ (j:Nat) (q:AV),li[j]? = some q->RepA M κ tip (lk blk) q (arr.getD j undef))->∀ (j:Nat) (q:AV),(fzL k m li)[j]? = some q->RepA M' κ tip (lk (bP k m c blk)) q (arr.getD j undef):=by
  intro li ho arr hr j q hq;rw [(nV k m li).2] at hq;obtain ⟨q',h3,h4⟩:=Option.map_eq_some_iff.1 hq;subst h4;exact hmap (hr j q' h3) (eJ li ho j q' h3)
 refine ⟨M',κ,tip,h0.trans' hle,hp,{
  defers:=hi.defers
  size:=hi.size
  fr:=hi.fr
  mem:=hmem
  env:=λu v h=>by
   obtain ⟨v',h3,rfl⟩:=zOs (show lk (fyE k m env) u=some v from h);obtain ⟨y,h4,h5⟩:=hi.env u v' h3;exact ⟨y,h4,hmap h5 (eD.mem h1 (uK env u v' h3))⟩
  vars:=λi li h=>by
   rcases hBi i _ h with ⟨_,h3⟩ | ⟨hne,b,h3,h4⟩
   ·cases h3
   ·cases b with
    | buf _=>simp [fzB] at h4
    | own _ _=>simp [fzB] at h4
    | var l0=>
     simp only [fzB,zF.var.injEq] at h4;subst h4;obtain ⟨b2,arr2,e2,fz2,z1,z2,z3,z4,z5,z6,z7⟩:=hi.vars i l0 h3;exact ⟨b2,arr2,e2,fz2,z1,z2,z3,by rw [(nV k m l0).1];exact z4,hcells l0 ((mN.mem h2 (uK blk i _ h3)).1 l0 rfl) z5,λo=>by rw [hoth b2 o (λe=>hne (hi.inj i k b2 z1 e))];exact z6 o,z7⟩
  bufs:=λi ci h=>by
   rcases hBi i _ h with ⟨rfl,h3⟩ | ⟨hne,b,h3,h4⟩
   ·cases h3;exact ⟨hrep,hcs,by omega,hrow⟩
   ·cases b with
    | own _ _=>simp [fzB] at h4
    | var _=>simp [fzB] at h4
    | buf c0=>
     simp only [fzB,zF.buf.injEq] at h4;subst h4;obtain ⟨z1,z2,z3,z4⟩:=hi.bufs i ci h3;refine ⟨z1.mono hle,z2,z3,?_⟩;rcases z4 with z4 | ⟨b2,n2,cap2,arr2,e2,fz2,y1,y2,y3,y4,y5,y6,y7,y8⟩
     ·exact .inl z4
     ·exact .inr ⟨b2,n2,cap2,arr2,e2,fz2,y1,y2,y3,y4,y5,y6,y7,λj hj=>by rw [hoth b2 j (λe=>hne (hi.inj i k b2 y2 e))];exact y8 j hj⟩
  inj:=hi.inj
  dom:=λi h=>by
   have h':lk (bP k m c blk) i=none:=h;rw [zAk] at h';exact hi.dom i (show lk blk i=none by simpa using h')
  glob:=hi.glob.mono hle
  old:=λb' o hb'=>by
   rw [hoth b' o (λe=>?_)]
   ·exact hi.old b' o hb'
   ·rcases hrow with ⟨_,y2⟩ | ⟨b,_,_,_,_,_,_,y2,y3,_⟩
    ·rw [y2] at e;cases e
    ·rw [y2] at e;cases e;omega
  owns:=λi wi li h=>by
   rcases hBi i _ h with ⟨_,h3⟩ | ⟨hne,b,h3,h4⟩
   ·cases h3
   ·cases b with
    | buf _=>simp [fzB] at h4
    | var _=>simp [fzB] at h4
    | own w0 l0=>
     simp only [fzB,zF.own.injEq] at h4;obtain ⟨rfl,rfl⟩:=h4;obtain ⟨z0,z⟩:=hi.owns i wi l0 h3;refine ⟨z0,?_⟩;rcases z with ⟨z1,z2,rfl⟩ | ⟨b2,n2,cap2,arr2,e2,fz2,y1,y2,y3,y4,y5,y6,y7,y8,y9,y10,y11⟩
     ·exact .inl ⟨z1,z2,rfl⟩
     ·exact .inr ⟨b2,n2,cap2,arr2,e2,fz2,y1,y2,y3,y4,y5,by rw [(nV k m l0).1];exact y6,y7,y8,y9,hcells l0 ((mN.mem h2 (uK blk i _ h3)).2 wi l0 rfl) y10,λo=>by rw [hoth b2 o (λe=>hne (hi.inj i k b2 y2 e))];exact y11 o⟩}⟩
theorem Imp.promO {t:Nat} (wd:Nat) (he:s.env t=some (.nl c)) (hk:s.blk k=none) (hw:Nat.blt 0 wd=true):Imp pk s ((s.setb k (.own wd [])).put t (.own k 0)):=by
 intro cx a w _ hs;obtain ⟨M,κ,tip,h0,hp,hi⟩:=hs;have hw':=Nat.le_of_ble_eq_true hw;have hinv:=hi.ownNil (k:=k) (wd:=wd) hk (by omega);obtain ⟨x,hx1,hx2⟩:=hi.env t _ he;cases hx2 with
 | nl _ hc=>
 refine ⟨M,κ,_,h0,hp,{ hinv with env:=λu v h=>?_ }⟩;simp only [AS.put] at h;cases hb:Nat.beq u t with
 | true=>
  have:=Nat.eq_of_beq_eq_true hb;subst this;simp at h;subst h;exact ⟨_,hx1,.own k 0 wd [] _ (zX _ _ _) (by simp) (λ_=>(yU _ _ _).symm) ⟨_,_,_,rfl⟩⟩
 | false=>
  simp [hb] at h;exact hinv.env u v h
end Go.Sw
