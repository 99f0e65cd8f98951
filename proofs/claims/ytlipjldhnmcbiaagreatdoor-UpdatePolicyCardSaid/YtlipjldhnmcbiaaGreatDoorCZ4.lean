/- UpdatePolicy holds for all inputs -/
import Derived.Test.YtlipjldhnmcbiaaGreatDoorCZ3
import Derived.Defers
set_option linter.all false
open Nat renaming le_of_ble_eq_true -> Q0, eq_of_beq_eq_true -> Q1, beq -> Q3, blt -> Q6, mul_le_mul_right -> Qd, add_mul -> Qe, ble -> Qh, le_refl -> Qm, eq_of_mul_eq_mul_right -> Qo, le_trans -> Qt, eq_zero_or_pos -> Qw, add_zero -> Qx, lt_of_lt_of_le -> Qy
open List renaming mem_map -> Q2, mem_append -> Q5, mem_cons -> Q8, all_eq_true -> Qb, map_cons -> Qc, replicate -> Qg, mem_cons_of_mem -> Qj, eq_nil_of_length_eq_zero -> Qk, length_append -> Qn, flatMap_cons -> Qp, length_cons -> Qq, cons_append -> Qr, length_map -> Qu, map_append -> W0, append_nil -> W1, range -> W3, map_map -> W4
open Array renaming getD_eq_getD_getElem? -> Q4, length_toList -> Ql
open Go.Sw.PV renaming ecs -> Q7, len -> Qi, src -> Qv, one -> Qz
open Bool renaming and_eq_true -> Q9, eq_false_iff -> Qf
open Option renaming map_eq_some_iff -> Qa, getD_some -> Qs, map_some -> W2
namespace Go.Sw
open Go
variable {B B2:List (Nat×List AV)}{D:List Nat}{K:AS->List Mic->Prop}{M:Mem}{N:Nat}{P:Program}{Q:Exit->AS->Prop}{X:Exit->Act->World->Prop}{a:Act}{af:Array Edge}{args:Array Value}{as:AS}{av:AV}{ax:Operand}{bB bb bc bl blk blk' bn:LB}{body:Code}{bout bs:LB}{c:PV}{cs:List AV}{cx:Ctx}{d:Nat}{e e2:TypeId}{ei:TI}{env env':LV}{f:FuncId}{fn:Func}{fr:List Nat}{hi:Operand}{i:TI}{j k k0 k2:Nat}{kc kh kl:IntKind}{ks:List Nat}{l l2:List AV}{lo:Operand}{m na nt off:Nat}{ops:Array Oper}{pk pk2:PKs}{pos:String}{ps:List PV}{q:PV}{qs:List AV}{r:List Oper}{rs:LV}{s s':AS}{t t' t2:TypeId}{te:TE}{tip tip':Nat->Value}{tl:List TypeId}{ts:Array TypeId}{ty:TypeId}{us vs:List AV}{vy:AV}{w wd:Nat}{x:Operand}{xl:List Operand}{xs:Array Operand}{y:Operand}{ys:Array Operand}{α:Type}{κ κ':Nat->Option Nat}{μ:List (Nat×Nat)}{ρ:Nat->Nat}{l':List α}{u:α}
mutual
def fzV (k m:Nat):AV->AV
 | .own j n=>bif Q3 j k then .buf j m else .own j n
 | .ag l=>.ag (fzL k m l)
 | .tu l=>.tu (fzL k m l)
 | .fnv f l=>.fnv f (fzL k m l)
 | v=>v
def fzL (k m:Nat):List AV->List AV
 | []=>[]
 | v :: r=>fzV k m v :: fzL k m r
end
mutual
def sR (k n:Nat):AV->Bool
 | .own j m=>!Nat.beq j k||Q3 m n
 | .optr j _ _=>!Nat.beq j k
 | .osl j _ _ _=>!Nat.beq j k
 | .ag l=>uZ k n l
 | .tu l=>uZ k n l
 | .fnv _ l=>uZ k n l
 | _=>true
def uZ (k n:Nat):List AV->Bool
 | []=>true
 | v :: r=>sR k n v&&uZ k n r
end
def fzB (k m:Nat):ABlk->ABlk
 | .var l=>.var (fzL k m l)
 | .own w l=>.own w (fzL k m l)
 | .buf c=>.buf c
def fyE (k m:Nat):LV->LV
 | []=>[]
 | (t,v) :: r=>(t,fzV k m v) :: fyE k m r
def zEj (k m:Nat) (c:PV):LB->LB
 | []=>[]
 | (i,b) :: r=>(bif Q3 i k then (i,.buf c) else (i,fzB k m b)) :: zEj k m c r
def jW (k n:Nat):LV->Bool
 | []=>true
 | (_,v) :: r=>sR k n v&&jW k n r
def oU (k n:Nat):LB->Bool
 | []=>true
 | (_,.var l) :: r=>uZ k n l&&oU k n r
 | (_,.own _ l) :: r=>uZ k n l&&oU k n r
 | (_,.buf _) :: r=>oU k n r
theorem jD (k m:Nat):∀ (l:List AV),(fzL k m l).length=l.length/\∀ (j:Nat),(fzL k m l)[j]? = (l[j]?).map (fzV k m)
 | []=>⟨rfl,by simp [fzL]⟩
 | v :: r=>by
  obtain ⟨F,E⟩:=jD k m r;refine ⟨by simp [fzL,F],λj=>?_⟩;cases j with
  | zero=>rfl
  | succ j=>simp [fzL,E j]
theorem zBj {n:Nat}:∀ (l:List AV),uZ k n l=true->∀ (j:Nat) (q:AV),l[j]? = some q->sR k n q=true
 | [],_,_,_,h=>by simp_all
 | v :: r,h,0,q,A=>by
  simp only [uZ] at h;simp_all
 | v :: r,h,j+1,q,A=>by
  simp only [uZ,Q9] at h;exact zBj r h.2 j q (by simp_all)
theorem zRr (f:α->PV):∀ (l:List α),fzL k m (l.map λx=>AV.p (f x))=l.map λx=>AV.p (f x)
 | []=>rfl
 | _ :: r=>by simp only [Qc,fzL,fzV];rw [zRr f r]
theorem zWy:∀ (l:List PV),fzL k m (l.map AV.p)=l.map AV.p
 | []=>rfl
 | _ :: r=>by simp only [Qc,fzL,fzV];rw [zWy r]
theorem qH {n:Nat} (f:α->PV):∀ (l:List α),uZ k n (l.map λx=>AV.p (f x))=true
 | []=>rfl
 | _ :: r=>by exact qH f r
theorem pQ {n:Nat}:∀ (l:List PV),uZ k n (l.map AV.p)=true
 | []=>rfl
 | _ :: r=>by simp only [Qc,uZ,sR,Bool.true_and];exact pQ r
theorem jW.mem {n:Nat}:∀ {l:LV},jW k n l=true->∀ {t v},(t,v)∈l->sR k n v=true
 | (_,_) :: _,h,_,_,y=>by
  simp only [jW,Q9] at h;rcases Q8.1 y with e | y
  ·simp_all
  ·exact jW.mem h.2 y
theorem oU.mem {n:Nat}:∀ {l:LB},oU k n l=true->∀ {t b},(t,b)∈l->(∀ v,b=.var v->uZ k n v=true)/\∀ w v,b=.own w v->uZ k n v=true
 | (_,.var u) :: _,h,_,_,d=>by
  simp only [oU,Q9] at h;rcases Q8.1 d with e | d
  ·simp_all
  ·exact oU.mem h.2 d
 | (_,.own w u) :: _,h,_,_,d=>by
  simp only [oU,Q9] at h;rcases Q8.1 d with e | d
  ·simp_all
  ·exact oU.mem h.2 d
 | (_,.buf u) :: _,h,_,_,d=>by
  simp only [oU] at h;rcases Q8.1 d with e | d
  ·simp_all
  ·exact oU.mem h d
theorem zWu:∀ {l:LV} {t:Nat} {v:AV},lk (fyE k m l) t=some v->∃ u,lk l t=some u/\v=fzV k m u
 | [],_,_,h=>by simp [fyE,lk] at h
 | (i,x) :: r,t,v,h=>by
  simp only [fyE,lk] at h ⊢;cases D:Q3 t i with
  | true=>simp_all
  | false=>simp [D] at h;simpa using zWu h
theorem zFq:∀ {l:LB} {t:Nat},lk (zEj k m c l) t=(lk l t).map (λb=>bif Q3 t k then .buf c else fzB k m b)
 | [],t=>by rfl
 | (i,x) :: r,t=>by
  simp only [zEj,lk];cases y:Q3 t i with
  | true=>
   have:=Q1 y;subst this;cases D:Q3 t k<;>simp [lk]
  | false=>
   cases D:Q3 i k<;>simp [y,zFq]
theorem RepA.fz {M':Mem} {B B':NB} {n:Nat} (hM:M.le M') (hk:B k=some (.own wd l)) (hn:n*wd=l.length) (V:∀ i b,i≠k->B i=some b->B' i=some (fzB k n b)) (bh:B' k=some (.buf c)) (hc:c.isSlice=true) (bd:c.len=n) (bf:Rep M' c (tip k))
  {v:AV} {x:Value} (hr:RepA M κ tip B v x):sR k n v=true->RepA M' κ tip B' (fzV k n v) x:=by
 have N:∀ {i:Nat} {b:ABlk},B i=some b->(∀ w l,b≠.own w l)->i≠k:=by
  rintro i b d D rfl;rw [hk] at d;cases d;exact D _ _ rfl
 induction hr with
 | p v x d=>intro _;exact .p v x (d.mono hM)
 | nl c d=>intro _;exact .nl c d
 | ptr i o b l d D=>intro _;exact .ptr i o b _ d (V i _ (N D (by intros;simp)) D)
 | ref i o n b l d D=>intro _;exact .ref i o n b _ d (V i _ (N D (by intros;simp)) D)
 | buf i n c x d L D y S=>intro _;exact .buf i n c x (V i _ (N d (by intros;simp)) d) L D (y.mono hM) S
 | ag l Y d _ ih=>
  intro h;obtain ⟨r1,G⟩:=jD k n l;refine .ag _ Y (by omega) (λj q F=>?_);rw [G] at F;obtain ⟨I,y,S⟩:=Qa.1 F;subst S;exact ih j I y (zBj l h j I y)
 | tu l Y d _ ih=>
  intro h;obtain ⟨r1,G⟩:=jD k n l;refine .tu _ Y (by omega) (λj q F=>?_);rw [G] at F;obtain ⟨I,y,S⟩:=Qa.1 F;subst S;exact ih j I y (zBj l h j I y)
 | fnv f l Y d _ ih=>
  intro h;obtain ⟨r1,G⟩:=jD k n l;refine .fnv f _ Y (by omega) (λj q F=>?_);rw [G] at F;obtain ⟨I,y,S⟩:=Qa.1 F;subst S;exact ih j I y (zBj l h j I y)
 | own i m w J x d D y L=>
  intro h;simp only [sR] at h;cases Z:Q3 i k with
  | true=>
   have:=Q1 Z;subst this;simp [Z] at h;subst h;rw [hk] at d;cases d;simp only [fzV,Z,cond_true];have hx:=y hn;refine .buf i m c x bh hc (by omega) ?_ (λ_=>hx);rw [<- bd,sB hc,hx];exact bf
  | false=>
   have E:i≠k:=by rintro rfl;simp at Z
   simp only [fzV,Z,cond_false];obtain ⟨r1,G⟩:=jD k n J;exact .own i m w (fzL k n J) x (V i _ E d) (by omega) (λe=>y (by omega)) L
 | optr i m o w J x d D y L=>
  intro h;simp only [sR] at h;have E:i≠k:=by rintro rfl;simp at h
  obtain ⟨r1,G⟩:=jD k n J;exact .optr i m o w (fzL k n J) x (V i _ E d) (by omega) (λe=>y (by omega)) L
 | osl i m o q w J x d D y L=>
  intro h;simp only [sR] at h;have E:i≠k:=by rintro rfl;simp at h
  obtain ⟨r1,G⟩:=jD k n J;exact .osl i m o q w (fzL k n J) x (V i _ E d) (by omega) (λe=>y (by omega)) L
theorem Imp.freezeO (k:Nat) {n:Nat} {cs:List PV} (hb:lk blk k=some (.own wd l)) (hn:n*wd=l.length) (hrd:(mkS env blk).rdL l=some (cs,bs)) (hc:dA wd c cs) (hcn:c.len=n) (hm:m=n)
  (h1:jW k n env=true) (h2:oU k n blk=true) (he:fyE k m env=env') (hbb:zEj k m c blk=blk') (bg:Q6 k BIG=true:=by rfl):Imp pk (mkS env blk) (mkS env' blk'):=by
 subst he hbb hm;intro cx a w hcx hs;obtain ⟨M,κ,tip,h0,hp,J⟩:=hs;have bg:=Q0 bg;obtain ⟨g1,g2⟩:=J.owns.live hb hn;have key:∃ M',M.le M'/\Rep M' c (tip k)/\c.isSlice=true/\c.width=wd/\(∀ b o x,M' b o=some x->w.cell? ⟨b,o,none⟩=some x)/\(∀ b o,κ k≠some b->M' b o=M b o) /\
   ((tip k=.slice none 0 0/\κ k=none)∨∃ b n cap A e fz,tip k=.slice (some ⟨b,0,none⟩) n cap/\κ k=some b/\cx.w0.heap.size<=b /\
    w.heap[b]? = some (.cells A e fz)/\zD3 fz A.size/\cap*c.width<=A.size/\cap<=maxLen/\∀ j,n*c.width<=j->M' b j=none):=by
  rcases g2 with ⟨y1,W,rfl⟩ | ⟨b,n',cap,A,e,fz,q1,q2,q3,q4,q5,q6,q7,q8,q9,q10,q11⟩
  ·simp [AS.rdL] at hrd;obtain ⟨rfl,rfl⟩:=hrd;obtain ⟨c1,c2,c3,c4⟩:=hc.cells (M:=M) (f:=λ_=>undef) (by simp);have bc:c.len=0:=by
    rcases Qw c.len with h | h
    ·exact h
    ·have:=Nat.mul_pos h g1;simp at c4;omega
   refine ⟨M,Mem.le_refl M,?_,c2,c3,J.mem,λ_ _ _=>rfl,.inl ⟨y1,W⟩⟩;rw [y1];cases c with
   | bytes l=>simp [Qi] at bc;subst bc;exact .bytes0
   | sl w l=>simp [Qi] at bc;subst bc;exact .sl0 w
   | _=>simp [PV.isSlice] at c2
  ·have hnn:n'=m:=Qo g1 (by omega);subst hnn;have hfit:n'*wd<=cap*wd:=Qd _ q8;obtain ⟨r1,r2⟩:=dU hrd q10;obtain ⟨c1,c2,c3,c4⟩:=hc.cells r2;have L:M.le (addM M b 0 (n'*wd) (A[·]?)):=addM_le λo _ _=>q11 o;refine ⟨addM M b 0 (n'*wd) (A[·]?),L,?_,c2,c3,λb' o x h=>?_,λb' o I=>?_,.inr ⟨b,n',cap,A,e,fz,q1,q2,q3.resolve_right (λh=>by omega),q4,q5,by rw [c3];exact q7,q9,λj hj=>?_⟩⟩
   ·rw [q1];have:=wL (M':=addM M b 0 (n'*wd) (A[·]?)) (b:=b) (o:=0) (cap:=cap) c1 c2 L ?_ (by omega)
    ·rwa [hcn] at this
    intro j hj;rw [hcn,c3] at hj;simp only [addM,Nat.zero_add];rw [if_pos ⟨trivial,Nat.zero_le _,hj⟩];have:j<A.size:=by omega
    simp [this]
   ·unfold addM at h;split at h
    ·rename_i hc';obtain ⟨rfl,_,hlt⟩:=hc';simp only [World.cell?,q4];simpa using h
    ·exact J.mem b' o x h
   ·unfold addM;rw [if_neg (by intro h;exact I (by rw [h.1];exact q2))]
   ·unfold addM;rw [c3] at hj;rw [if_neg (by omega)];exact q11 j
 obtain ⟨M',L,bi,hcs,hcw,hmem,S,hrow⟩:=key;have hB:∀ i b,i≠k->lk blk i=some b->lk (zEj k m c blk) i=some (fzB k m b):=λi b I h=>by
  have:Q3 i k=false:=by rw [Qf];intro e;exact I (Q1 e)
  rw [zFq,h,this];rfl
 have hBk:lk (zEj k m c blk) k=some (.buf c):=by rw [zFq,hb];simp
 have hBi:∀ i b',lk (zEj k m c blk) i=some b'->(i=k/\b'=.buf c)∨(i≠k/\∃ b,lk blk i=some b/\b'=fzB k m b):=by
  intro i b' h;rw [zFq] at h;obtain ⟨b,E,D⟩:=Qa.1 h;cases hq:Q3 i k with
  | true=>simp [hq] at D;exact .inl ⟨Q1 hq,D.symm⟩
  | false=>simp [hq] at D;exact .inr ⟨by rintro rfl;simp at hq,b,E,D.symm⟩
 have bh:∀ {v:AV} {x:Value},RepA M κ tip (lk blk) v x->sR k m v=true->RepA M' κ tip (lk (zEj k m c blk)) (fzV k m v) x:=λh ho=>h.fz L hb hn hB hBk hcs hcn bi ho;have N:∀ (li:List AV),uZ k m li=true->∀ {A:Array Value},(∀ (j:Nat) (q:AV),li[j]? = some q->RepA M κ tip (lk blk) q (A.getD j undef))->∀ (j:Nat) (q:AV),(fzL k m li)[j]? = some q->RepA M' κ tip (lk (zEj k m c blk)) q (A.getD j undef):=by
  intro li ho A hr j q hq;rw [(jD k m li).2] at hq;obtain ⟨q',E,D⟩:=Qa.1 hq;subst D;exact bh (hr j q' E) (zBj li ho j q' E)
 refine ⟨M',κ,tip,h0.trans' L,hp,{
  defers:=J.defers
  size:=J.size
  fr:=J.fr
  mem:=hmem
  env:=λu v h=>by
   obtain ⟨v',E,rfl⟩:=zWu (show lk (fyE k m env) u=some v from h);obtain ⟨y,D,h5⟩:=J.env u v' E;exact ⟨y,D,bh h5 (jW.mem h1 (tG env u v' E))⟩
  vars:=λi li h=>by
   rcases hBi i _ h with ⟨_,E⟩ | ⟨I,b,E,D⟩
   ·cases E
   ·cases b with
    | buf _=>simp [fzB] at D
    | own _ _=>simp [fzB] at D
    | var Z=>
     simp only [fzB,ABlk.var.injEq] at D;subst D;obtain ⟨U,K,e2,T,z1,z2,z3,z4,z5,z6,z7⟩:=J.vars i Z E;exact ⟨U,K,e2,T,z1,z2,z3,by rw [(jD k m Z).1];exact z4,N Z ((oU.mem h2 (tG blk i _ E)).1 Z rfl) z5,λo=>by rw [S U o (λe=>I (J.inj i k U z1 e))];exact z6 o,z7⟩
  bufs:=λi ci h=>by
   rcases hBi i _ h with ⟨rfl,E⟩ | ⟨I,b,E,D⟩
   ·cases E;exact ⟨bi,hcs,by omega,hrow⟩
   ·cases b with
    | own _ _=>simp [fzB] at D
    | var _=>simp [fzB] at D
    | buf c0=>
     simp only [fzB,ABlk.buf.injEq] at D;subst D;obtain ⟨z1,z2,z3,z4⟩:=J.bufs i ci E;refine ⟨z1.mono L,z2,z3,?_⟩;rcases z4 with z4 | ⟨U,n2,V,K,e2,T,y1,W,y3,y4,y5,y6,y7,y8⟩
     ·exact .inl z4
     ·exact .inr ⟨U,n2,V,K,e2,T,y1,W,y3,y4,y5,y6,y7,λj hj=>by rw [S U j (λe=>I (J.inj i k U W e))];exact y8 j hj⟩
  inj:=J.inj
  dom:=λi h=>by
   have h':lk (zEj k m c blk) i=none:=h;rw [zFq] at h';exact J.dom i (show lk blk i=none by simpa using h')
  glob:=J.glob.mono L
  old:=⟨λb' o hb'=>by
   rw [S b' o (λe=>?_)]
   ·exact J.old.1 b' o hb'
   ·rcases hrow with ⟨_,W⟩ | ⟨b,_,_,_,_,_,_,W,y3,_⟩
    ·rw [W] at e;cases e
    ·rw [W] at e;cases e;omega,J.old.2⟩
  owns:=λi wi li h=>by
   rcases hBi i _ h with ⟨_,E⟩ | ⟨I,b,E,D⟩
   ·cases E
   ·cases b with
    | buf _=>simp [fzB] at D
    | var _=>simp [fzB] at D
    | own w0 Z=>
     simp only [fzB,ABlk.own.injEq] at D;obtain ⟨rfl,rfl⟩:=D;rcases J.owns i wi Z E with ⟨z0,z1,rfl⟩ | ⟨z0,z⟩
     ·exact .inl ⟨z0,z1,rfl⟩
     refine .inr ⟨z0,?_⟩;rcases z with ⟨z1,z2,rfl⟩ | ⟨U,n2,V,K,e2,T,y1,W,y3,y4,y5,y6,y7,y8,y9,y10,y11⟩
     ·exact .inl ⟨z1,z2,rfl⟩
     ·exact .inr ⟨U,n2,V,K,e2,T,y1,W,y3,y4,y5,by rw [(jD k m Z).1];exact y6,y7,y8,y9,N Z ((oU.mem h2 (tG blk i _ E)).2 wi Z rfl) y10,λo=>by rw [S U o (λe=>I (J.inj i k U W e))];exact y11 o⟩}⟩
theorem Imp.promO {t:Nat} (wd:Nat) (Y:s.env t=some (.nl c)) (U:s.blk k=none) (hw:Q6 0 wd=true):Imp pk s ((s.setb k (.own wd [])).put t (.own k 0)):=by
 intro cx a w _ Z;obtain ⟨M,κ,tip,W,N,J⟩:=Z;have ba:=Q0 hw;have d:=J.ownNil (wd:=wd) U (by omega);obtain ⟨x,E,F⟩:=J.env t _ Y;cases F with
 | nl _ hc=>
 refine ⟨M,κ,_,W,N,{ d with env:=λu v h=>?_ }⟩;simp only [AS.put] at h;cases L:Q3 u t with
 | true=>
  have:=Q1 L;subst this;simp at h;subst h;exact ⟨_,E,.own k 0 wd [] _ (zV _ _ _) (by simp) (λ_=>(xA _ _ _).symm) ⟨_,_,_,rfl⟩⟩
 | false=>
  simp [L] at h;exact d.env u v h
theorem Imp.promOC (j wd:Nat) (he:s.blk k2=some (.var l)) (hj:l[j]? = some (.nl c)) (hk:s.blk k=none) (hw:Q6 0 wd=true):Imp pk s ((s.setb k (.own wd [])).setb k2 (.var (l.set j (.own k 0)))):=by
 intro cx a w _ hs;obtain ⟨M,κ,tip,h0,hp,hi⟩:=hs;have hw':=Q0 hw;have hinv:=hi.ownNil (k:=k) (wd:=wd) hk (by omega);have hne:k2≠k:=by rintro rfl;rw [hk] at he;cases he
 refine ⟨M,κ,_,h0,hp,hinv.reVar (k:=k2) (l:=l) (by rw [zS hne];exact he) (by simp) λi q x hq hx=>?_⟩;rw [List.getElem?_set] at hq;split at hq
 ·rename_i e;subst e;split at hq
  ·cases hq;have:=hx _ hj;cases this with
   | nl _ hc=>exact .own k 0 wd [] _ (zV _ _ _) (by simp) (λ_=>(xA _ _ _).symm) ⟨_,_,_,rfl⟩
  ·cases hq
 ·exact hx q hq
abbrev qO (c:PV):ABlk:=.own c.width c.ecs
theorem zHs:∀ (a b:List PV),flatCells (a++b)=flatCells a++flatCells b
 | [],_=>rfl
 | x :: r,b=>by simp [flatCells,zHs r b]
theorem zBz (l:By):l.length*1=(Q7 (.bytes l)).length:=by simp [Q7]
theorem flat_len {f:α->PV} (A:∀ a,(f a).cells.length=w):∀ (l:List α),(flatCells (l.map f)).length=l.length*w
 | []=>by simp [flatCells]
 | x :: r=>by simp only [Qc,flatCells,Qn,A,flat_len A r,Qq];rw [Qe];omega
theorem rY {f:α->PV} (y:∀ a,(f a).cells.length=w) (l:List α):l.length*w=(Q7 (.sl w (l.map f))).length:=by simp [Q7,flat_len y]
theorem yCz:∀ (l:List PV),s.rdL (l.map AV.p)=some (l,[])
 | []=>rfl
 | x :: r=>by simp [AS.rdL,AS.rd,yCz r]
theorem yB7 (l:By):s.rdL (Q7 (.bytes l))=some (l.map λx=>PV.int .u8 x.toNat,[]):=by
 exact uM
theorem yBg (l:List PV):s.rdL (Q7 (.sl w l))=some (flatCells l,[]):=by exact yCz _
theorem zIt {f:α->PV} (A:∀ a,(f a).cells.length=w) {l:List α} (h:l[j]? = some u) {o:Nat} (D:(f u).cells[o]? = some q):(Q7 (.sl w (l.map f)))[j*w+o]? = some (.p q):=by
 obtain ⟨_,E⟩:=flat_get (l.map f) (w:=w) (by simp_all);simp only [Q7];simp_all
theorem zZn {f:α->PV} (v:∀ a,(f a).cells.length=w) {l:List α} (u:α) (h:j<l.length):sW (Q7 (.sl w (l.map f))) (j*w) ((f u).cells.map AV.p)=Q7 (.sl w ((l.set j u).map f)):=by
 have ba:=rY v l;have V:(j+1)*w<=l.length*w:=Qd _ h;rw [Qe] at V;have F:((f u).cells.map AV.p).length=w:=by simp [v]
 have hw:∀ p∈(l.set j u).map f,p.cells.length=w:=by intro p Y;obtain ⟨a,_,rfl⟩:=Q2.1 Y;exact v a
 have be:∀ p∈l.map f,p.cells.length=w:=by intro p Y;obtain ⟨a,_,rfl⟩:=Q2.1 Y;exact v a
 apply List.ext_getElem?;intro o;rw [bD (by rw [F];omega),F];rcases Qw w with hz | y
 ·subst hz;have L:(Q7 (.sl 0 (l.map f)))=[]:=Qk (by omega);have K:(Q7 (.sl 0 ((l.set j u).map f)))=[]:=Qk (by have:=rY v (l.set j u);omega);rw [if_neg (by omega),L,K]
 ·by_cases ho:o<l.length*w
  ·have W:w*(o / w)+o % w=o:=Nat.div_add_mod o w;have G:o / w*w+o % w=o:=by rw [Nat.mul_comm];exact W
   have hi:o / w<l.length:=Nat.div_lt_of_lt_mul (by rw [Nat.mul_comm];exact ho);have Z:o % w<w:=Nat.mod_lt _ y;by_cases T:j*w<=o/\o<j*w+w
   ·rw [if_pos T];have A:o / w=j:=Nat.div_eq_of_lt_le (by omega) (by rw [Qe];omega);have I:o - j*w=o % w:=by rw [A] at G;omega
    have E:o % w<(f u).cells.length:=by rw [v];exact Z
    have:=zIt v (l:=l.set j u) (j:=j) (u:=u) (by simp [h]) (o:=o % w) (q:=(f u).cells[o % w]) (by simp);rw [A] at G;rw [G] at this;rw [this,I,List.getElem?_map];simp [E]
   ·rw [if_neg T];have U:o / w≠j:=by
     intro e;rw [e] at G;exact T ⟨by omega,by omega⟩
    have E:o % w<(f l[o / w]).cells.length:=by rw [v];exact Z
    have L:=zIt v (l:=l) (j:=o / w) (u:=l[o / w]) (by simp) (o:=o % w) (q:=(f l[o / w]).cells[o % w]) (by simp);have K:=zIt v (l:=l.set j u) (j:=o / w) (u:=l[o / w]) (by rw [List.getElem?_set_ne (Ne.symm U)];simp) (o:=o % w) (q:=(f l[o / w]).cells[o % w]) (by simp);rw [G] at L K;rw [L,K]
  ·rw [if_neg (by omega),List.getElem?_eq_none (by omega),List.getElem?_eq_none (by have:=rY v (l.set j u);rw [List.length_set] at this;omega)]
section
variable {v:AV} 
theorem zPq {o:Oper} {p:PV} {ta:TypeId} {n:Nat} (bf:yV P te) (hd:o.dst=none) (ho:o.op=.store t ax x) (ht:te t=some i) (ha:s.get te ta ax=some (.optr k n off)) (hx:s.get te t x=some v) (hp:s.rd v=some (p,bs)) (hb:s.blk k=some (.own wd l)) (hn:n*wd=l.length)
  (hw:p.cells.length=i.w) (hl:off+i.w<=l.length) (V:p.cells.all Qz=true):SA P o s ⟨opS ax (.optr k n off)++opS x v,(k,.own wd l) :: bs,[],none,[(k,.own wd (sW l off (p.cells.map AV.p)))]⟩:=by
 have hpc:(AV.p p).cells=p.cells.map AV.p:=by cases p<;>rfl
 refine ⟨?_,yI (zN ha) (zN hx),?_,by intro e D;simp at D⟩
 ·intro cx s' a w K Q hm hs hws hk;obtain ⟨M,κ,tip,h0,hpk,hi⟩:=hs;have A:=hm.2.1 (k,.own wd l) (by simp);simp only at A;have hr:=kM hi hx hp (zZ hm.1) (λe D=>hm.2.1 e (by simp [D]));have Y:=yD hi (yJ ha s' (yF hm.1));have hx':RepA M κ tip s'.blk (.p p) (a.eval x):=.p _ _ hr;obtain ⟨J,L⟩:=cX hx';rw [hpc] at J L;obtain ⟨g1,g2⟩:=hi.owns.live A hn;generalize hev:a.eval ax=z at Y;cases Y with
  | optr _ _ _ w' l' _ h1 h2 h3 hs=>
   rw [A] at h1;cases h1;obtain ⟨b,S,rfl⟩:=h3 hn;rcases g2 with ⟨_,y2,_⟩ | ⟨b',n1,cap,Z,e1,fz,q1,q2,q3,q4,q5,q6,q7,q8,q9,q10,be⟩
   ·rw [S] at y2;cases y2
   ·rw [S] at q2;cases q2;have hnn:n1=n:=Qo g1 (by omega);subst hnn;have hfit:n1*wd<=cap*wd:=Qd _ q8;have hpl:(p.cells.map AV.p).length=i.w:=by simp [hw]
    have T:(a.eval x).cells.toList.length=(p.cells.map AV.p).length:=by simp only [Ql,J]
    have F:=run_storeCells_cells (P:=P) b off (a.eval x).cells.toList 0 w
     (by
       intro j G;rw [T] at G;have:off+j<Z.size:=by omega
       simp [World.cell?,q4,this])
     (by intro j G;rw [T] at G;simp only [Qx];exact rI q4 q5 (by omega))
     (by
      intro u hu;obtain ⟨j,G,hju⟩:=List.getElem_of_mem hu;have bg:j<p.cells.length:=by simp only [Qu] at T;omega
      have I:=L j (.p p.cells[j]) (by simp [bg]);have hjs:j<(a.eval x).cells.size:=by simpa using G
      have:(a.eval x).cells.getD j undef=u:=by simp [hjs];simpa using hju
      rw [this] at I;exact zFa I ((Qb.1 V) _ (List.getElem_mem _)))
    unfold Oper.wp;have:(execOp a.eval o).run P w=.ok .skip (w.setCells b off (a.eval x).cells.toList):=by
     simp only [Qx] at F;have hcs:¬ ((a.eval x).cells.size≠i.w):=by rw [J,hpl];simp
     simp [execOp,ho,hev,Instr.storeAt,Instr.sureAddr,storeVar,uL bf ht,hcs,F]
    rw [this];show K (a.put o.dst undef) _;rw [hd];refine hk _ _ ?_;rw [zCm];obtain ⟨arr',z1,z2,z3⟩:=qD b (a.eval x).cells.toList off w Z e1 fz q4 (by omega);have hlen:=zCr (l:=l) (cs:=p.cells.map AV.p) (off:=off) (by omega);refine ⟨M,κ,_,h0,hpk,hi.ownSet (n':=n1) A q1 S q3 (by rw [z2];exact q5) z1 (by rw [z2];exact q7) q8 q9 g1 be (by omega) (by omega) q6 ?_⟩;intro j q I;rw [bD (by omega)] at I;rw [Q4,z3 j];by_cases G:off<=j/\j<off+(p.cells.map AV.p).length
    ·rw [if_pos G] at I;rw [if_pos (by omega)];have:=L (j - off) q I;rw [Q4] at this;simpa using this
    ·rw [if_neg G] at I;rw [if_neg (by omega)];have:=q10 j q I;rw [Q4] at this;exact this
 ·intro e D;rcases Q8.1 D with D | D
  ·subst D;exact hb
  ·exact vU v p bs hp e D
end
section
variable [T:nZ P] {v:AV} 
theorem RK.xoM (f:α->PV) {l:List α} {i:Int} {n:Nat} (hn:l.length=n) (h:ixN n i=some j) (hf:∀ a,(f a).cells.length=w) (ht:(T.te t).map (·.ty)=some (.slice e)) (he:T.te e=some ei) (W:w=ei.w) (Z:s.get T.te t x=some (.own k0 n)) (Y:s.blk k0=some (qO (.sl w (l.map f)))) (hy:s.get T.te 0 y=some (.p (.int .i64 i)))
  (k:VK P ops r s K d (opS x (.own k0 n)++opS y (.p (.int .i64 i))) [(k0,qO (.sl w (l.map f)))] (.optr k0 n (j*w))):RK P ops (⟨some d,.indexAddr t x y,ty,pos,af,none⟩:: r) s K:=by
 subst hn;obtain ⟨h0,h1,h2⟩:=zJz h;have:=zR0 (o:=⟨some d,.indexAddr t x y,ty,pos,af,none⟩) T.ok rfl ht he Z Y (rY hf l) W hy h0 h1;rw [<- h2,<- W] at this;exact RK.va rfl rfl this k
theorem RK.xoK {n:Nat} (i:Nat) (h:Q6 i n=true) (ht:(T.te t).map (·.ty)=some (.slice e)) (he:T.te e=some ei) (S:w=ei.w) (hx:s.get T.te t x=some (.own k0 n)) (W:s.blk k0=some (.own w l)) (hn:Q3 (n*w) l.length=true) (Y:s.get T.te 0 y=some (.p (.int .i64 (i:Nat))))
  (k:VK P ops r s K d (opS x (.own k0 n)++opS y (.p (.int .i64 (i:Nat)))) [(k0,.own w l)] (.optr k0 n (i*w))):RK P ops (⟨some d,.indexAddr t x y,ty,pos,af,none⟩:: r) s K:=by
 have hi:=Q0 h;have:=zR0 (o:=⟨some d,.indexAddr t x y,ty,pos,af,none⟩) T.ok rfl ht he hx W (Q1 hn) S Y (by omega) (by omega);rw [<- S] at this;exact RK.va rfl rfl this k
theorem RK.lnO {n:Nat} (W:n*w=l.length) (v:((T.te t).map (·.ty),s.get T.te t x,s.blk k0)=(some (.slice e),some (.own k0 n),some (.own w l))) (k:VK P ops r s K d (opS x (.own k0 n)) [(k0,.own w l)] (.p (.int .i64 n))):RK P ops (⟨some d,.call ⟨.builtin .len,#[x],#[t]⟩,ty,pos,af,none⟩:: r) s K:=have ⟨G,v⟩:=pq v;have ⟨L,J⟩:=pq v;RK.va rfl rfl (yCm T.ok rfl G L J W) k
theorem RK.ldoK {n:Nat} (S:T.te t=some i) (I:i.plain=true) (L:s.get T.te 0 x=some (.optr k0 n off)) (U:s.blk k0=some (.own w l)) (N:Q3 (n*w) l.length=true) (J:l[off]? = some v)
  (k:VK P ops r s K d (opS x (.optr k0 n off)) [(k0,.own w l)] v):RK P ops (⟨some d,.load t x,ty,pos,af,none⟩:: r) s K:=
 RK.va rfl rfl (zNg T.ok rfl S I L U (Q1 N) J) k
theorem RK.ldo1 (f:α->PV) {l:List α} {n:Nat} (S:l.length=n) (h:l[j]? = some u) (E:∀ a,(f a).cells=[f a]) (U:T.te t=some i) (W:i.plain=true) (N:s.get T.te 0 x=some (.optr k0 n (j*1))) (V:s.blk k0=some (qO (.sl 1 (l.map f))))
  (k:VK P ops r s K d (opS x (.optr k0 n (j*1))) [(k0,qO (.sl 1 (l.map f)))] (.p (f u))):RK P ops (⟨some d,.load t x,ty,pos,af,none⟩:: r) s K:=by
 subst S;exact RK.va rfl rfl (zNg T.ok rfl U W N V (rY (λa=>by rw [E a];rfl) l) (by have:=zIt (λa=>by rw [E a];rfl) h (o:=0) (by rw [E u];rfl);omega)) k
theorem RK.stoM (f:α->PV) {l:List α} {n:Nat} (hn:l.length=n) (h:uA l j u=some l') (I:∀ a,(f a).cells.length=w) (E:∀ a,(f a).cells.all Qz=true) (ht:T.te t=some i) (hw:w=i.w) (ha:s.get T.te 0 ax=some (.optr k0 n (j*w))) (hx:s.get T.te t x=some v) (hp:s.rd v=some (f u,bs)) (Z:s.blk k0=some (qO (.sl w (l.map f))))
  (k:RK P ops r (s.setb k0 (qO (.sl w (l'.map f)))) λs' ms=>K s' (⟨opS ax (.optr k0 n (j*w))++opS x v,(k0,qO (.sl w (l.map f))) :: bs,[],none,[(k0,qO (.sl w (l'.map f)))]⟩:: ms)):RK P ops (⟨none,.store t ax x,ty,pos,af,none⟩:: r) s K:=by
 subst hn;obtain ⟨V,h2⟩:=zCu h;have U:(j+1)*w<=l.length*w:=Qd _ V;rw [Qe] at U;have W:=rY I l;have:=zPq (o:=⟨none,.store t ax x,ty,pos,af,none⟩) T.ok rfl rfl ht ha hx hp Z (rY I l) (by simp_all) (by omega) (E u);rw [zZn I u V,<- h2] at this;exact RK.so rfl this k
theorem zXc (l:By):(Q7 (.bytes l)).all AV.one=true:=by simp [Q7,AV.one,Qz]
theorem zNx {α:Type} {f:α->PV} {w:Nat} (d:∀ a,(f a).cells.all Qz=true):∀ (l:List α),(Q7 (.sl w (l.map f))).all AV.one=true
 | []=>rfl
 | a :: r=>by
  have:=zNx d r (w:=w);simp only [Q7,Qc,flatCells,W0,List.all_append,Q9] at this ⊢;refine ⟨?_,this⟩;have D:=d a;simp only [Qb,Q2] at D ⊢;rintro q ⟨p,F,rfl⟩;exact D p F
theorem RK.aoB {b:Nat} {l m u:By} {n:Nat} (hn:l.length=n) (h:yN b l m=some u) (ht:(T.te t).map (·.ty)=some (.slice e)) (he:T.te e=some ei) (Z:(T.te t2).map (·.ty)=some (.slice e2)) (hx:s.get T.te t x=some (.own k0 n)) (hk:s.blk k0=some (qO (.bytes l))) (E:1=ei.w) (hz:ei.z.length=ei.w) (hy:s.get T.te t2 y=some vy) (hp:s.rd vy=some (.bytes m,bs)) (hb:ei.b=b) (V:Q6 0 b=true)
  (k:BK P ops r s K d (opS x (.own k0 n)++opS y vy) ((k0,qO (.bytes l)) :: bs) [] k0 (qO (.bytes u)) (.own k0 u.length)):RK P ops (⟨some d,.call ⟨.builtin .append,#[x,y],#[t,t2]⟩,ty,pos,af,none⟩:: r) s K:=by
 subst hn;obtain ⟨hu,U⟩:=fF h;subst hb;have br:=Q0 V;have:=zMl (o:=⟨some d,.call _,ty,pos,af,none⟩) T.ok rfl rfl ht he (yX T.ok Z) (.inr ⟨_,rfl⟩) hx hk (zBz l) E hz hy (vU vy _ bs hp) (zG2 hy hp rfl E (by omega)) (by rw [<- E];exact (zBz m).symm) (zXc m) (by assumption) (by omega);have e1:Q7 (.bytes l)++Q7 (.bytes m)=Q7 (.bytes u):=by rw [hu];simp [Q7]
 have e2:l.length+(Qv (.bytes m)).len=u.length:=by rw [hu];simp [Qv,Qi]
 rw [e1,e2] at this;exact RK.sb rfl this k
theorem RK.aoM (f:α->PV) {b:Nat} {l m u:List α} {n:Nat} (hn:l.length=n) (h:yN b l m=some u) (hf:∀ a,(f a).cells.length=w) (V:∀ a,(f a).cells.all Qz=true) (ht:(T.te t).map (·.ty)=some (.slice e)) (he:T.te e=some ei) (bf:(T.te t2).map (·.ty)=some (.slice e2)) (hx:s.get T.te t x=some (.own k0 n)) (hk:s.blk k0=some (qO (.sl w (l.map f)))) (G:w=ei.w) (bg:Q6 0 w=true) (hz:ei.z.length=ei.w) (hy:s.get T.te t2 y=some vy) (hp:s.rd vy=some (.sl w (m.map f),bs)) (hb:ei.b=b) (Z:Q6 0 b=true)
  (k:BK P ops r s K d (opS x (.own k0 n)++opS y vy) ((k0,qO (.sl w (l.map f))) :: bs) [] k0 (qO (.sl w (u.map f))) (.own k0 u.length)):RK P ops (⟨some d,.call ⟨.builtin .append,#[x,y],#[t,t2]⟩,ty,pos,af,none⟩:: r) s K:=by
 subst hn;obtain ⟨hu,bd⟩:=fF h;subst hb;have bn:=Q0 Z;have cb:=Q0 bg;have:=zMl (o:=⟨some d,.call _,ty,pos,af,none⟩) T.ok rfl rfl ht he (yX T.ok bf) (.inr ⟨_,rfl⟩) hx hk (rY hf l) G hz hy (vU vy _ bs hp) (zG2 hy hp rfl G (by omega)) (by rw [<- G];simp only [Qv,Qi,Qu];exact (rY hf m).symm) (zNx V m) (by simpa [Qv,Qi] using bd) (by omega);have e1:Q7 (.sl w (l.map f))++Q7 (.sl w (m.map f))=Q7 (.sl w (u.map f)):=by rw [hu];simp [Q7,zHs]
 have e2:l.length+(Qv (.sl w (m.map f))).len=u.length:=by rw [hu];simp [Qv,Qi]
 rw [e1,e2] at this;exact RK.sb rfl this k
theorem RK.aoR {b n:Nat} (ht:(T.te t).map (·.ty)=some (.slice e)) (V:T.te e=some ei) (bf:(T.te t2).map (·.ty)=some (.slice e2)) (hx:s.get T.te t x=some (.own k0 n)) (hk:s.blk k0=some (.own w l)) (hn:Q3 (n*w) l.length=true) (F:w=ei.w) (hz:ei.z.length=ei.w) (hy:s.get T.te t2 y=some (.ref k2 0 m)) (bh:s.blk k2=some (.var l2)) (hm:Q3 l2.length (m*w)=true) (L:l2.all AV.one=true) (hb:ei.b=b) (ba:Q6 0 b=true) (Z:Qh ((n+m)*b) 140737488355328=true)
  (k:BK P ops r s K d (opS x (.own k0 n)++opS y (.ref k2 0 m)) [(k0,.own w l),(k2,.var l2)] [] k0 (.own w (l++l2)) (.own k0 (n+m))):RK P ops (⟨some d,.call ⟨.builtin .append,#[x,y],#[t,t2]⟩,ty,pos,af,none⟩:: r) s K:=by
 subst hb;have bk:=Q0 ba;have U:=Q1 hm;exact RK.sb rfl (zMl T.ok rfl rfl ht V (yX T.ok bf) (.inr ⟨_,rfl⟩) hx hk (Q1 hn) F hz hy (by simp_all) (by rw [<- F];exact zNw hy U) (by simp_all) L (yW Z) (by omega)) k
theorem RK.anB {b:Nat} {m u:By} (h:yN b [] m=some u) (ht:(T.te t).map (·.ty)=some (.slice e)) (he:T.te e=some ei) (W:(T.te t2).map (·.ty)=some (.slice e2)) (hx:s.get T.te t x=some (.nl c)) (F:1=ei.w) (hz:ei.z.length=ei.w) (hy:s.get T.te t2 y=some vy) (Z:s.rd vy=some (.bytes m,bs)) (hb:ei.b=b) (U:Q6 0 b=true) (hk:s.blk d=none)
  (k:BK P ops r s K d (opS x (.nl c)++opS y vy) bs [d] d (qO (.bytes u)) (.own d u.length)):RK P ops (⟨some d,.call ⟨.builtin .append,#[x,y],#[t,t2]⟩,ty,pos,af,none⟩:: r) s K:=by
 obtain ⟨hu,N⟩:=fF h;subst hu;subst hb;have bk:=Q0 U;have:=zOf (o:=⟨some d,.call _,ty,pos,af,none⟩) T.ok rfl rfl ht he (yX T.ok W) (.inr ⟨_,rfl⟩) hx (by omega) hz hy (vU vy _ bs Z) (zG2 hy Z rfl F (by omega)) (by rw [<- F];exact (zBz u).symm) (by simpa [Qv,Qi] using N) (by omega) hk;rw [<- F] at this;exact RK.sb rfl this k
theorem RK.anR {b:Nat} (ht:(T.te t).map (·.ty)=some (.slice e)) (V:T.te e=some ei) (ba:(T.te t2).map (·.ty)=some (.slice e2)) (hx:s.get T.te t x=some (.nl c)) (F:w=ei.w) (be:Q6 0 w=true) (hz:ei.z.length=ei.w) (hy:s.get T.te t2 y=some (.ref k2 0 m)) (bf:s.blk k2=some (.var l2)) (hm:Q3 l2.length (m*w)=true) (hb:ei.b=b) (bd:Q6 0 b=true) (W:Qh (m*b) 140737488355328=true) (hk:s.blk d=none)
  (k:BK P ops r s K d (opS x (.nl c)++opS y (.ref k2 0 m)) [(k2,.var l2)] [d] d (.own w l2) (.own d m)):RK P ops (⟨some d,.call ⟨.builtin .append,#[x,y],#[t,t2]⟩,ty,pos,af,none⟩:: r) s K:=by
 subst hb;have bv:=Q0 bd;have bt:=Q0 be;have J:=Q1 hm;have:=zOf (bs:=[(k2,.var l2)]) (o:=⟨some d,.call _,ty,pos,af,none⟩) T.ok rfl rfl ht V (yX T.ok ba) (.inr ⟨_,rfl⟩) hx (by omega) hz hy (by simp_all) (by rw [<- F];exact zNw hy J) (by simp_all) (yW W) (by omega) hk;rw [<- F] at this;exact RK.sb rfl this k
theorem RK.clO {blks blks':LB} (h:Ok P f na (mkS (argE 0 ps) []) (mkS [(0,av)] blks)) (hB:bR (sh d) blks=blks') (hxl0:(xs.toList,ts.toList)=(xl,tl)) (ha:mD s T.te xl tl ps rs bb) (hn0:(Q3 na ps.length,(kR (sh d) blks).all (λk=>(s.blk k).isNone))=(true,true))
  (k:RK P ops r (Mic.upd ⟨rs,bb,kR (sh d) blks,some (d,some (av.ren (sh d))),blks'⟩ s) λs' ms=>K s' (⟨rs,bb,kR (sh d) blks,some (d,some (av.ren (sh d))),blks'⟩:: ms)):RK P ops (⟨some d,.call ⟨.value (.func f),xs,ts⟩,ty,pos,af,none⟩:: r) s K:=have ⟨hxl,htl⟩:=pq hxl0;have ⟨hn,hf⟩:=pq hn0;by
 subst hB;subst hxl htl;exact RK.cl h rfl ha (by rw [hn,hf]) k
end
theorem fxB (k:Nat) (u:By) {n:Nat} (hn:u.length=n) (hb:lk blk k=some (qO (.bytes u))) (h1:jW k n env=true) (h2:oU k n blk=true) (he:fyE k u.length env=env') (hbb:zEj k u.length (.bytes u) blk=blk') (hbig:Q6 k BIG=true:=by rfl):Imp cx.pk (mkS env blk) (mkS env' blk'):=
 Imp.freezeO k hb (by rw [<- hn];exact zBz u) (yB7 u) (zBc u) hn hn h1 h2 he hbb hbig
theorem fxM (k:Nat) (f:α->PV) (w:Nat) (u:List α) (hf:∀ a,(f a).cells.length=w) {n:Nat} (hn:u.length=n) (hb:lk blk k=some (qO (.sl w (u.map f)))) (h1:jW k n env=true) (h2:oU k n blk=true) (he:fyE k u.length env=env') (hbb:zEj k u.length (.sl w (u.map f)) blk=blk') (hbig:Q6 k BIG=true:=by rfl):Imp cx.pk (mkS env blk) (mkS env' blk'):=
 Imp.freezeO k hb (by rw [<- hn];exact rY hf u) (yBg (u.map f)) (yDt u hf) (by simp [Qi,hn]) hn h1 h2 he hbb hbig
theorem fxK (k:Nat) (f:α->PV) (u:List α) (hf:∀ a,(f a).cells=[f a]) (hb:lk blk k=some (.own 1 l)) {n:Nat} (hn:u.length=n) (hl:l.length=n) (hrd:(mkS env blk).rdL l=some (u.map f,bs)) (h1:jW k n env=true) (h2:oU k n blk=true) (he:fyE k u.length env=env') (hbb:zEj k u.length (.sl 1 (u.map f)) blk=blk') (hbig:Q6 k BIG=true:=by rfl):Imp cx.pk (mkS env blk) (mkS env' blk'):=
 Imp.freezeO k hb (by omega) hrd (zAp hf u) (by simp [Qi,hn]) hn h1 h2 he hbb hbig
theorem nK (a b:Nat):Q3 a b=decide (a=b):=by
 cases h:Q3 a b with
 | true=>simp_all
 | false=>symm;simp only [decide_eq_false_iff_not];rintro rfl;simp_all
theorem Imp.ofEq (h:s=s'):Imp pk s s':=by subst h;exact λ_ _ _ _ h=>h
theorem zBp {l:List α} {n:Nat} (h:uA l j u=some l') (y:l.length=n):l'.length=n:=by
 obtain ⟨_,A⟩:=zCu h;simp_all
theorem oE {B:NB} :oL B c.ecs=true:=by
 cases c<;>first | rfl | (exact zEk _ _)
theorem nA {n:Nat} :uZ k n c.ecs=true:=by
 cases c<;>first | rfl | (exact qH _ _)
theorem yDd:fzL k m c.ecs=c.ecs:=by
 cases c<;>first | rfl | (exact zRr _ _)
theorem zBx:kG ρ c.ecs=c.ecs:=by
 have h:∀ {d:Type} (f:d->PV) (l:List d),kG ρ (l.map λx=>AV.p (f x))=l.map λx=>AV.p (f x):=by
  intro d f l;induction l with
  | nil=>rfl
  | cons x r D=>simp only [Qc,kG,AV.ren,D]
 cases c<;>first | rfl | (exact h _ _)
def zFt (P:Program) (cx:Ctx) (body:Code) (Q:Exit->AS->Prop):Nat->AS->Prop
 | 0,_=>False
 | n+1,s=>awp P cx body (zK9 (zFt P cx body Q n) Q) s
theorem ar {n:Nat} (h:awp P cx body (zK9 (zFt P cx body Q n) Q) s):zFt P cx body Q (n+1) s:=h
theorem tH (n:Nat) (h:zFt P cx body Q n s):awp P cx (.loop body) Q s:=by
 intro a w J;refine wp_loop_rounds n ?_;induction n generalizing s a w with
 | zero=>assumption
 | succ n G=>
  refine wp_mono (h a w J) ?_;rintro e I w' ⟨s',E,y⟩;cases e with
  | normal=>exact G y I w' E
  | _=>exact ⟨s',E,y⟩
section
variable {o:Oper} {v:AV} 
end
section
variable [T:nZ P] {v:AV} 
end
abbrev GO:=Option (Nat×Nat×List PV)
variable {O:GO}
def oV:GO->LB
 | none=>[]
 | some (_,wd,cs)=>[(BIG,.own wd (cs.map .p))]
def oI:GO->LB
 | none=>[]
 | some (k,wd,cs)=>[(k,.own wd (cs.map .p))]
def zKu:ABlk:=.own 0 [.p (.tup [])]
def oD:GO->LB
 | none=>[]
 | some (k,_,_)=>[(k,zKu)]
def kill (s:AS):GO->AS
 | none=>s
 | some (k,_,_)=>s.setb k zKu
inductive GV0 (O:GO) (s:AS) (ρ:Nat->Nat) (D:List Nat):AV->AV->LB->Prop where
 | p {v:AV} {q:PV} {bs:LB}:s.rd v=some (q,bs)->GV0 O s ρ D v (.p q) bs
 | ptr {k j o:Nat}:ρ j=k->j∈D->GV0 O s ρ D (.ptr k o) (.ptr j o) []
 | ref {k j o n:Nat}:ρ j=k->j∈D->GV0 O s ρ D (.ref k o n) (.ref j o n) []
 | own {k n wd:Nat} {cs:List PV}:O=some (k,wd,cs)->GV0 O s ρ D (.own k n) (.own BIG n) []
inductive GVs (O:GO) (s:AS) (ρ:Nat->Nat) (D:List Nat):List AV->List AV->LB->Prop where
 | nil:GVs O s ρ D [] [] []
 | cons {v u:AV} {vs us:List AV} {b bs:LB}:GV0 O s ρ D v u b->GVs O s ρ D vs us bs->GVs O s ρ D (v :: vs) (u :: us) (b++bs)
inductive GV (O:GO) (s:AS) (ρ:Nat->Nat) (D:List Nat):AV->AV->LB->Prop where
 | f {v u:AV} {b:LB}:GV0 O s ρ D v u b->GV O s ρ D v u b
 | ag {l us:List AV} {b:LB}:GVs O s ρ D l us b->GV O s ρ D (.ag l) (.ag us) b
inductive GA (O:GO) (s:AS) (te:TE) (ρ:Nat->Nat) (D:List Nat):List Operand->List TypeId->List AV->LV->LB->Prop where
 | nil:GA O s te ρ D [] [] [] [] []
 | cons {x:Operand} {t:TypeId} {v u:AV} {xs:List Operand} {ts:List TypeId} {us:List AV} {rs:LV} {b bs:LB}:s.get te t x=some v->GV O s ρ D v u b->GA O s te ρ D xs ts us rs bs->GA O s te ρ D (x :: xs) (t :: ts) (u :: us) (opS x v++rs) (b++bs)
inductive GB (O:GO) (s:AS) (ρ:Nat->Nat) (D:List Nat):List (Nat×List AV)->LB->Prop where
 | nil:GB O s ρ D [] []
 | cons {j:Nat} {us as:List AV} {b bs:LB} {r:List (Nat×List AV)}:s.blk (ρ j)=some (.var as)->GVs O s ρ D as us b->GB O s ρ D r bs->GB O s ρ D ((j,us) :: r) ((ρ j,.var as) :: (b++bs))
def bV:List (Nat×List AV)->LB
 | []=>[]
 | (j,us) :: r=>(j,.var us) :: bV r
def argA (i:Nat):List AV->LV
 | []=>[]
 | v :: r=>(i,v) :: argA (i+1) r
theorem zNj:∀ (l:List AV) (i t:Nat) (v:AV),lk (argA i l) t=some v->i<=t/\l[t - i]? = some v
 | [],i,t,v,h=>by simp [argA,lk] at h
 | p :: r,i,t,v,h=>by
  simp only [argA,lk] at h;cases D:Q3 t i with
  | true=>
   simp_all
  | false=>
   simp [D] at h;obtain ⟨G,F⟩:=zNj r _ t v h;refine ⟨by omega,?_⟩;have:t - i=(t - (i+1))+1:=by omega
   simp_all
theorem zI2:∀ (B:List (Nat×List AV)),(bV B).map (·.1)=B.map (·.1)
 | []=>rfl
 | (j,v) :: r=>by simp [bV,zI2 r]
theorem zAb:∀ {B:List (Nat×List AV)} {j:Nat},j∈B.map (·.1)->∃ y,lk (bV B) j=some (.var y)
 | [],j,h=>by simp_all
 | (i,y) :: r,j,h=>by
  simp only [bV,lk];cases F:Q3 j i with
  | true=>simp
  | false=>
   simp only [Qc,Q8] at h;rcases h with h | h
   ·simp_all
   ·exact zAb h
theorem zEc:∀ {B:List (Nat×List AV)} {j:Nat} {b:ABlk},lk (bV B) j=some b->j∈B.map (·.1)/\∃ A,b=.var A
 | [],j,b,h=>by simp [bV,lk] at h
 | (i,A) :: r,j,b,h=>by
  simp only [bV,lk] at h;cases v:Q3 j i with
  | true=>simp [v] at h;exact ⟨by simp_all,A,h.symm⟩
  | false=>
   simp [v] at h;obtain ⟨I,G⟩:=zEc h;simp_all
section
theorem GV0.blks {v u:AV} {b:LB} (h:GV0 O s ρ D v u b):∀ e∈b,s.blk e.1=some e.2:=by
 cases h with
 | p h=>exact vU _ _ _ h
 | ptr _ _=>simp
 | ref _ _=>simp
 | own _=>simp
theorem GVs.blks {b:LB} (h:GVs O s ρ D vs us b):∀ e∈b,s.blk e.1=some e.2:=by
 induction h with
 | nil=>simp
 | cons h _ F=>exact λe I=>(Q5.1 I).elim (h.blks e) (F e)
theorem GVs.get {b:LB} (h:GVs O s ρ D vs us b):vs.length=us.length/\∀ (j:Nat) (u:AV),us[j]? = some u->∃ v b',vs[j]? = some v/\GV0 O s ρ D v u b'/\∀ e∈b',e∈b:=by
 induction h with
 | nil=>simp
 | cons h _ I=>
  refine ⟨by simp [I.1],λj u E=>?_⟩;cases j with
  | zero=>simp at E;subst E;exact ⟨_,_,rfl,h,λe y=>Q5.2 (.inl y)⟩
  | succ j=>
   obtain ⟨v,b',W,V,T⟩:=I.2 j u (by simp_all);exact ⟨v,b',by simp_all,V,λe y=>Q5.2 (.inr (T e y))⟩
theorem GV.blks {v u:AV} {b:LB} (h:GV O s ρ D v u b):∀ e∈b,s.blk e.1=some e.2:=by
 cases h with
 | f h=>exact h.blks
 | ag h=>exact h.blks
theorem GB.blks {b:LB} (h:GB O s ρ D B b):∀ e∈b,s.blk e.1=some e.2:=by
 induction h with
 | nil=>simp
 | cons h g _ E=>
  intro e d;simp only [Q8,Q5] at d;rcases d with rfl | d | d
  ·exact h
  ·exact g.blks e d
  ·exact E e d
theorem GB.get {b:LB} (h:GB O s ρ D B b):∀ {j:Nat} {v:List AV},lk (bV B) j=some (.var v)->∃ as b',(ρ j,ABlk.var as)∈b/\GVs O s ρ D as v b'/\∀ e∈b',e∈b:=by
 induction h with
 | nil=>intro j v h;simp [bV,lk] at h
 | @cons i v as b bs r h g _ W=>
  intro j T d;simp only [bV,lk] at d;cases K:Q3 j i with
  | true=>
   have:=Q1 K;subst this;simp at d;subst d;exact ⟨as,b,by simp,g,λe E=>by simp [E]⟩
  | false=>
   simp [K] at d;obtain ⟨A,b',L,U,N⟩:=W d;exact ⟨A,b',by simp [L],U,λe E=>by simp_all⟩
theorem GA.reads {xs:List Operand} {ts:List TypeId} {b:LB} (h:GA O s te ρ D xs ts us rs b):wG s rs/\∀ e∈b,s.blk e.1=some e.2:=by
 induction h with
 | nil=>exact ⟨by intro e d;simp_all,by simp⟩
 | cons h g _ A=>exact ⟨yI (zN h) A.1,λe d=>(Q5.1 d).elim (g.blks e) (A.2 e)⟩
theorem GV0.rep {v u:AV} {b:LB} (h:GV0 O s ρ D v u b) (hb:∀ e∈b,s'.blk e.1=some e.2) (hκ:∀ j∈D,κ' j=κ (ρ j)) (hD:∀ j∈D,∃ us,lk bl j=some (.var us))
  (hO:∀ k wd cs,O=some (k,wd,cs)->s'.blk k=some (.own wd (cs.map .p))/\lk bl BIG=some (.own wd (cs.map .p))/\tip' BIG=tip k) {x:Value} (hr:RepA M κ tip s'.blk v x):RepA M κ' tip' (lk bl) u x:=by
 cases h with
 | p h=>exact .p _ _ (zGd hr (zL1 _ _ _ h hb))
 | @ptr k j o h1 h2=>
  cases hr with
  | ptr _ _ b' l g1 g2=>
   obtain ⟨us,hus⟩:=hD j h2;exact .ptr j o b' us (by rw [hκ j h2,h1];exact g1) hus
 | @ref k j o n h1 h2=>
  cases hr with
  | ref _ _ _ b' l g1 g2=>
   obtain ⟨us,hus⟩:=hD j h2;exact .ref j o n b' us (by rw [hκ j h2,h1];exact g1) hus
 | @own k n wd cs h1=>
  obtain ⟨o1,o2,o3⟩:=hO k wd cs h1;cases hr with
  | own _ _ w' l' _ g1 g2 g3 g4=>
   rw [o1] at g1;cases g1;exact .own BIG n _ _ x o2 g2 (λe=>by rw [o3];exact g3 e) g4
theorem GV.rep {v u:AV} {b:LB} (h:GV O s ρ D v u b) (hb:∀ e∈b,s'.blk e.1=some e.2) (hκ:∀ j∈D,κ' j=κ (ρ j)) (hD:∀ j∈D,∃ us,lk bl j=some (.var us))
  (hO:∀ k wd cs,O=some (k,wd,cs)->s'.blk k=some (.own wd (cs.map .p))/\lk bl BIG=some (.own wd (cs.map .p))/\tip' BIG=tip k) {x:Value} (hr:RepA M κ tip s'.blk v x):RepA M κ' tip' (lk bl) u x:=by
 cases h with
 | f h=>exact h.rep hb hκ hD hO hr
 | ag h=>
  cases hr with
  | ag _ vs h1 h2=>
   obtain ⟨g1,g2⟩:=h.get;refine .ag _ vs (by omega) (λj q hq=>?_);obtain ⟨v',b',r1,r2,r3⟩:=g2 j q hq;exact r2.rep (λe he=>hb e (r3 e he)) hκ hD hO (h2 j v' r1)
def GR (O:GO) (s:AS) (ρ:Nat->Nat) (D:List Nat) (bb:LB) (M:Mem) (κ:Nat->Option Nat) (tip:Nat->Value) (B:NB) (us:List AV) (args:Array Value):Prop:=
 args.size=us.length/\∀ (j:Nat) (u:AV),us[j]? = some u->∃ v b,GV O s ρ D v u b/\(∀ e∈b,e∈bb)/\RepA M κ tip B v (args.getD j undef)
theorem GA.rep {xs:List Operand} {ts:List TypeId} {b:LB} (h:GA O s te ρ D xs ts us rs b) {w:World} (hi:Inv cx M κ tip s' a w):wG s' rs ->
  xs.length=us.length/\∀ (j:Nat) (u:AV),us[j]? = some u->∃ v b',GV O s ρ D v u b'/\(∀ e∈b',e∈b)/\RepA M κ tip s'.blk v (((xs.map a.eval)[j]?).getD undef):=by
 induction h with
 | nil=>intro _;exact ⟨rfl,by simp⟩
 | cons h g _ ih=>
  intro hr;obtain ⟨e1,e2⟩:=ih (zZ hr);refine ⟨by simp [e1],λj u hu=>?_⟩;cases j with
  | zero=>simp at hu;subst hu;exact ⟨_,_,g,λe he=>Q5.2 (.inl he),by simpa using yD hi (yJ h s' (yF hr))⟩
  | succ j=>
   obtain ⟨v,b',h1,h2,h3⟩:=e2 j u (by simpa using hu);exact ⟨v,b',h1,λe he=>Q5.2 (.inr (h2 e he)),by simpa using h3⟩
end
section
theorem Inv.kill {w:World} (y:Inv cx M κ tip s a w) (hb:s.blk k=some (.own wd l)):Inv cx M (gP κ k none) tip (s.setb k zKu) a w:=by
 have Y:GLe κ (gP κ k none) tip tip s.blk (s.setb k zKu).blk:={
  var:=λi b l h h'=>by
   have e:i≠k:=by rintro rfl;rw [hb] at h';cases h'
   rw [yE e,zS e];exact ⟨h,l,h'⟩
  buf:=λi c1 h=>by
   have e:i≠k:=by rintro rfl;rw [hb] at h;cases h
   exact GLe.same (by rw [zS e];exact h) rfl
  own:=λi w1 l1 h=>by
   by_cases e:i=k
   ·subst e;exact ⟨0,_,zV _ _ _,.inr ⟨rfl,by simp⟩⟩
   ·exact GLe.sameO (by rw [zS e];exact h) (yE e) rfl }
 have A:∀ {v:AV} {x:Value},RepA M κ tip s.blk v x->RepA M (gP κ k none) tip (s.setb k zKu).blk v x:=λh=>h.ghost Y;exact {
  defers:=y.defers
  size:=y.size
  fr:=y.fr
  mem:=y.mem
  env:=λt v h=>let ⟨x,D,F⟩:=y.env t v h;⟨x,D,A F⟩
  vars:=λi l h=>by
   have d:i≠k:=by rintro rfl;rw [zV] at h;cases h
   rw [zS d] at h;obtain ⟨b,K,L,Z,D,F,h3,h4,h5,h6,h7⟩:=y.vars i l h;exact ⟨b,K,L,Z,by rw [yE d];exact D,F,h3,h4,λj q W=>A (h5 j q W),h6,h7⟩
  bufs:=λi c1 h=>by
   have d:i≠k:=by rintro rfl;rw [zV] at h;cases h
   rw [zS d] at h;rw [yE d];exact y.bufs i c1 h
  inj:=λi i' b D F=>by
   have L:i≠k:=by rintro rfl;rw [wT] at D;cases D
   have e2:i'≠k:=by rintro rfl;rw [wT] at F;cases F
   rw [yE L] at D;rw [yE e2] at F;exact y.inj i i' b D F
  dom:=λi h=>by
   by_cases d:i=k
   ·subst d;exact wT ..
   ·rw [zS d] at h;rw [yE d];exact y.dom i h
  glob:=y.glob
  old:=y.old
  owns:=λi w1 l1 h=>by
   by_cases d:i=k
   ·subst d;rw [zV] at h;cases h;exact .inl ⟨rfl,wT ..,rfl⟩
   ·rw [zS d] at h;rw [yE d];rcases y.owns i w1 l1 h with g0 | ⟨g1,g2⟩
    ·exact .inl g0
    refine .inr ⟨g1,?_⟩;rcases g2 with g2 | ⟨b,n1,I,N,L,be,q1,q2,q3,q4,q5,q6,q7,q8,q9,ba,V⟩
    ·exact .inl g2
    ·exact .inr ⟨b,n1,I,N,L,be,q1,q2,q3,q4,q5,q6,q7,q8,q9,λj q W=>A (ba j q W),V⟩}
theorem zJ7 (a b:LB) (k:Nat):lk (a++b) k=(lk a k).or (lk b k):=by
 induction a with
 | nil=>rfl
 | cons e a y=>
  obtain ⟨i,x⟩:=e;simp only [Qr,lk];cases Q3 k i with
  | true=>rfl
  | false=>simp_all
theorem zYh (s:AS) (A:Nat->Nat) (h:LB) (O:GO) (d:Nat) (v:AV) (G:LV) (bb:LB) (fr:List Nat):Mic.upd ⟨G,bb,fr,some (d,some v),(h.map λe=>(A e.1,e.2.ren A))++oD O⟩ s=(inS (kill s O) A h).put d v:=by
 have:Mic.upd ⟨G,bb,fr,some (d,some v),(h.map λe=>(A e.1,e.2.ren A))++oD O⟩ s=({ s with blk:=λk=>(lk _ k).or _ }).put d v:=rfl;rw [this];congr 1;unfold inS;cases O with
 | none=>simp [oD,kill]
 | some o=>
  obtain ⟨k,wd,cs⟩:=o;simp only [oD,kill,AS.setb];congr 1;funext i;rw [zJ7];simp only [lk];cases Q3 i k<;>simp [Option.or_assoc]
theorem yC4 {w:World} 
  (hp:∀ k∈cx.pk,κ k.1=some k.2/\k.2<cx.w0.heap.size) (V:Inv cx M κ tip s' a w) (hb':∀ e∈bb,s'.blk e.1=some e.2) (hfr:∀ k∈fr,s'.blk k=none) (hg:GR O s ρ (B.map (·.1)) bb M κ tip s'.blk us args) (hB:GB O s ρ (B.map (·.1)) B bB) (hsub:∀ e∈bB,e∈bb) (hsubO:∀ e∈oI O,e∈bb)
  (hinj:∀ j∈bout.map (·.1),∀ j'∈bout.map (·.1),ρ j=ρ j'->j=j') (hout:∀ j∈B.map (·.1),∃ l',lk bout j=some (.var l')) (hnew:∀ j∈bout.map (·.1),j∈B.map (·.1)∨ρ j∈fr) (hDb:∀ j∈B.map (·.1),j<BIG) (hbg:O.isSome=true->∀ j∈bout.map (·.1),BIG<=j->BIG<=ρ j) :
  ∃ pk F S,Inv ⟨w,M,pk,us.length,[]⟩ M F S (mkS (argA 0 us) (bV B++oV O)) ⟨args,[]⟩ w/\(∀ k∈pk,F k.1=some k.2/\k.2<w.heap.size) /\
   ∀ v w',SRel ⟨w,M,pk,1,[]⟩ (mkS [(0,av)] bout) ⟨#[v],[]⟩ w'->∃ M' κ2 tip2,M.le M'/\(∀ k∈cx.pk,κ2 k.1=some k.2/\k.2<cx.w0.heap.size)/\Inv cx M' κ2 tip2 (inS (kill s' O) ρ bout) a w'/\RepA M' κ2 tip2 (inS (kill s' O) ρ bout).blk (av.ren ρ) v:=by
 obtain ⟨hsz,hargs⟩:=hg;generalize hD:B.map (·.1)=D at *;have lkmem:∀ j b,lk bout j=some b->j∈bout.map (·.1):=λj b h=>Q2.2 ⟨(j,b),tG bout j b h,rfl⟩;have hDout:∀ j∈D,j∈bout.map (·.1):=λj I=>let ⟨l',h⟩:=hout j I;lkmem j _ h;have hbig:∀ us,lk (bV B) BIG≠some us:=λus h=>by
  obtain ⟨E,_⟩:=zEc h;rw [hD] at E;exact Nat.lt_irrefl _ (hDb _ E)
 have hbv:∀ j b,lk (bV B) j=some b->lk (bV B++oV O) j=some b:=λj b h=>by rw [zJ7,h];rfl
 have hBs:∀ j∈D,∃ us,lk (bV B++oV O) j=some (.var us):=λj I=>let ⟨us,h⟩:=zAb (by rw [hD];exact I);⟨us,hbv _ _ h⟩;have hvo:∀ j b,lk (bV B++oV O) j=some b->lk (bV B) j=some b∨∃ k wd cs,O=some (k,wd,cs)/\j=BIG/\b=.own wd (cs.map .p):=λj b h=>by
  rw [zJ7] at h;cases E:lk (bV B) j with
  | some x=>rw [E] at h;exact .inl h
  | none=>
   rw [E] at h;cases O with
   | none=>simp [oV,lk] at h
   | some o=>
    obtain ⟨k,wd,cs⟩:=o;simp only [oV,lk,Option.none_or] at h;cases hq:Q3 j BIG with
    | true=>rw [hq] at h;simp at h;exact .inr ⟨k,wd,cs,rfl,Q1 hq,h.symm⟩
    | false=>rw [hq] at h;simp at h
 have U:∀ k wd cs,O=some (k,wd,cs)->s'.blk k=some (.own wd (cs.map .p))/\lk (bV B++oV O) BIG=some (.own wd (cs.map .p)):=λk wd cs h=>by
  subst h;refine ⟨hb' (k,.own wd (cs.map .p)) (hsubO _ (by simp [oI])),?_⟩;rw [zJ7];cases E:lk (bV B) BIG with
  | some x=>exact (hbig _ E).elim
  | none=>simp [oV,lk]
 have hkey:∀ j∈D,∃ b as,κ (ρ j)=some b/\b<w.heap.size/\s'.blk (ρ j)=some (.var as):=λj I=>by
  obtain ⟨us,hus⟩:=zAb (B:=B) (j:=j) (by rw [hD];exact I);obtain ⟨as,b',g1,_,_⟩:=hB.get hus;have E:s'.blk (ρ j)=some (.var as):=hb' _ (hsub _ g1);obtain ⟨b,_,_,_,q1,_⟩:=V.vars _ as E;exact ⟨b,as,q1,V.lt q1,E⟩
 let ko:Option Nat:=O.map (·.1);let J:Option Nat:=ko.bind κ;let F:Nat->Option Nat:=λj=>if j∈D then κ (ρ j) else if j=BIG then J else none
 let S:Nat->Value:=λ_=>match ko with | some k=>tip k | none=>undef
 let pk:PKs:=⟨D.map λj=>(j,(κ (ρ j)).getD 0),J.toList,λe T=>by
  obtain ⟨j,I,rfl⟩:=Q2.1 T;exact hDb j I⟩
 have K:∀ j∈D,F j=κ (ρ j):=λj I=>by simp [F,I]
 have hBD:BIG∉D:=λh=>Nat.lt_irrefl _ (hDb _ h);have hκB:F BIG=J:=by simp [F,hBD]
 have hκn:∀ j,j∉D->j≠BIG->F j=none:=λj E L=>by simp [F,E,L]
 have hpk:∀ e∈pk,e.1∈D/\κ (ρ e.1)=some e.2:=λe T=>by
  obtain ⟨j,I,rfl⟩:=Q2.1 T;obtain ⟨b,_,E,_⟩:=hkey j I;exact ⟨I,by simp [E]⟩
 have hOk:∀ k wd cs,O=some (k,wd,cs)->J=κ k/\S BIG=tip k:=λk wd cs h=>by subst h;exact ⟨rfl,rfl⟩
 have hrepv:∀ {v u:AV} {b:LB} {x:Value},GV O s ρ D v u b->(∀ e∈b,e∈bb)->RepA M κ tip s'.blk v x->RepA M F S (lk (bV B++oV O)) u x:=λh hb hr=>h.rep (λe T=>hb' e (hb e T)) K hBs (λk wd cs e=>⟨(U k wd cs e).1,(U k wd cs e).2,(hOk k wd cs e).2⟩) hr;have hob:∀ b∈pk.ob,∃ k wd cs,O=some (k,wd,cs)/\κ k=some b/\(∀ o,M b o=none)/\(cx.w0.heap.size<=b∨b∈cx.ob):=λb hb=>by
  cases hO:O with
  | none=>simp [pk,J,ko,hO] at hb
  | some o=>
   obtain ⟨k,wd,cs⟩:=o;have E:κ k=some b:=by simpa [pk,J,ko,hO] using hb
   rcases V.owns k wd _ (U k wd cs hO).1 with ⟨_,h,_⟩ | ⟨_,⟨_,h,_⟩ | ⟨b',_,_,_,_,_,_,h,h3,_,_,_,_,_,_,_,h4⟩⟩
   ·rw [h] at E;cases E
   ·rw [h] at E;cases E
   ·rw [h] at E;cases E;exact ⟨k,wd,cs,rfl,h,h4,h3.imp id (·.1)⟩
 refine ⟨pk,F,S,{
  defers:=rfl
  size:=by simp only;omega
  fr:=⟨rfl,rfl,rfl,Qm _,λ_ _ _ _=>rfl⟩
  mem:=V.mem
  env:=λt u h=>by
   obtain ⟨_,h3⟩:=zNj us 0 t u h;simp only [Nat.sub_zero] at h3;have hlt:t<us.length:=(List.getElem?_eq_some_iff.1 h3).1;have hlt':t<args.size:=by omega
   obtain ⟨v,b,g1,g2,g3⟩:=hargs t u h3;refine ⟨args[t],by simp [hlt'],?_⟩;have:=hrepv g1 g2 g3;rw [Q4,Array.getElem?_eq_getElem hlt'] at this;exact this
  vars:=λj us' h=>by
   rcases hvo j _ h with h | ⟨_,_,_,_,_,h⟩
   ·have I:j∈D:=by rw [<- hD];exact (zEc h).1
    obtain ⟨as,b',g1,g2,g3⟩:=hB.get h;obtain ⟨b,arr,e,fz,q1,q2,q3,q4,q5,q6,q7⟩:=V.vars (ρ j) as (hb' _ (hsub _ g1));refine ⟨b,arr,e,fz,by rw [K j I];exact q1,q2,q3,by rw [q4,g2.get.1],λi u hu=>?_,q6,.inr ?_⟩
    ·obtain ⟨v,b2,r1,r2,r3⟩:=g2.get.2 i u hu;exact hrepv (.f r2) (λe T=>hsub e (g3 e (r3 e T))) (q5 i v r1)
    ·simp only [Ctx.pb,Q2];exact ⟨(j,b),Q2.2 ⟨j,I,by simp [q1]⟩,rfl⟩
   ·cases h
  bufs:=λj c h=>by
   rcases hvo j _ h with h | ⟨_,_,_,_,_,h⟩
   ·obtain ⟨_,us',h'⟩:=zEc h;cases h'
   ·cases h
  inj:=λj j' b E L=>by
   have ho:∀ j∈D,J=some b->κ (ρ j)=some b->False:=λj I g1 g2=>by
    obtain ⟨k,wd,cs,e1,e2,_⟩:=hob b (by simp [pk,g1]);have e3:=V.inj _ _ b g2 e2;obtain ⟨_,as,_,_,e4⟩:=hkey j I;rw [e3,(U k wd cs e1).1] at e4;cases e4
   by_cases a1:j∈D
   ·rw [K j a1] at E;by_cases a2:j'∈D
    ·rw [K j' a2] at L;exact hinj j (hDout j a1) j' (hDout j' a2) (V.inj _ _ b E L)
    ·by_cases a3:j'=BIG
     ·subst a3;rw [hκB] at L;exact (ho j a1 L E).elim
     ·rw [hκn j' a2 a3] at L;cases L
   ·by_cases a3:j=BIG
    ·subst a3;rw [hκB] at E;by_cases a2:j'∈D
     ·rw [K j' a2] at L;exact (ho j' a2 E L).elim
     ·by_cases a4:j'=BIG
      ·exact a4.symm
      ·rw [hκn j' a2 a4] at L;cases L
    ·rw [hκn j a1 a3] at E;cases E
  dom:=λj h=>by
   by_cases a1:j∈D
   ·obtain ⟨us',h'⟩:=hBs j a1;have:lk (bV B++oV O) j=none:=h;rw [h'] at this;cases this
   ·by_cases a3:j=BIG
    ·subst a3;rw [hκB];cases hO:O with
     | none=>simp [J,ko,hO]
     | some o=>
      obtain ⟨k,wd,cs⟩:=o;have:lk (bV B++oV O) BIG=none:=h;rw [(U k wd cs hO).2] at this;cases this
    ·exact hκn j a1 a3
  old:=⟨λ_ _ _=>rfl,λb hb=>by
   obtain ⟨k,wd,cs,e1,e2,e3,_⟩:=hob b hb;exact ⟨V.lt e2,e3⟩⟩
  glob:=V.globw hp
  owns:=λj wd l h=>by
   rcases hvo j _ h with h9 | ⟨k,wd',cs,e1,rfl,h9⟩
   ·obtain ⟨_,us',h'⟩:=zEc h9;cases h'
   cases h9;obtain ⟨o1,o2⟩:=hOk k wd cs e1;rw [hκB,o1,o2];rcases V.owns k wd _ (U k wd cs e1).1 with g | ⟨g1,g | ⟨b,n,cap,arr,e,fz,q1,q2,q3,q4,q5,q6,q7,q8,q9,q10,q11⟩⟩
   ·exact .inl g
   ·exact .inr ⟨g1,.inl g⟩
   ·refine .inr ⟨g1,.inr ⟨b,n,cap,arr,e,fz,q1,q2,.inr ⟨by show b∈J.toList;rw [o1,q2];simp,Qm _⟩,q4,q5,q6,q7,q8,q9,λi q hq=>?_,q11⟩⟩;have hr:=q10 i q hq;rw [List.getElem?_map] at hq;obtain ⟨q',_,rfl⟩:=Qa.1 hq;cases hr with
    | p _ _ E=>exact .p _ _ E },λe T=>?_,?_⟩
 ·obtain ⟨E,L⟩:=hpk e T;obtain ⟨b,_,h3,h4,_⟩:=hkey e.1 E;rw [L] at h3;cases h3;exact ⟨by rw [K _ E];exact L,h4⟩
 rintro v w' ⟨M',κ2,tip2,h0',hp',hr⟩;obtain ⟨κk,hik,hpk2,hkk,hkn,hks⟩:∃ κk,Inv cx M κk tip (kill s' O) a w/\(∀ k∈cx.pk,κk k.1=some k.2/\k.2<cx.w0.heap.size)/\(∀ i b,κk i=some b->κ i=some b/\b∉pk.ob)/\(∀ i as,s'.blk i=some (.var as)->κk i=κ i/\(kill s' O).blk i=some (.var as))/\∀ i,s'.blk i=none->(kill s' O).blk i=none:=by
  cases hO:O with
  | none=>exact ⟨κ,V,hp,λi b h=>⟨h,by simp [pk,J,ko,hO]⟩,λi as h=>⟨rfl,h⟩,λi h=>h⟩
  | some o=>
   obtain ⟨k,wd,cs⟩:=o;have hbk:=(U k wd cs hO).1;refine ⟨gP κ k none,V.kill hbk,zQ3 V hp hbk none,λi b h=>?_,λi as h=>?_,λi h=>?_⟩
   ·have e:i≠k:=by rintro rfl;rw [wT] at h;cases h
    rw [yE e] at h;refine ⟨h,λhm=>?_⟩;obtain ⟨k',_,_,e1,e2,_⟩:=hob b hm;rw [hO] at e1;cases e1;exact e (V.inj _ _ b h e2)
   ·have e:i≠k:=by rintro rfl;rw [hbk] at h;cases h
    exact ⟨yE e,by simp only [kill];rw [zS e];exact h⟩
   ·have e:i≠k:=by rintro rfl;rw [hbk] at h;cases h
    simp only [kill];rw [zS e];exact h
 obtain ⟨i1,i2⟩:=hik.import h0' hr ρ hinj
  (λe T=>by
   obtain ⟨E,L⟩:=hpk e T;obtain ⟨b,as,h3,h4,h5⟩:=hkey e.1 E;exact ⟨(hp' e T).1,by rw [(hkn _ as h5).1];exact L,⟨as,(hkn _ as h5).2⟩,hout e.1 E⟩)
  (λj I=>(hnew j I).elim (λh=>.inl ⟨_,Q2.2 ⟨j,h,rfl⟩⟩) λh=>.inr (hks _ (hfr _ h)))
  (λb hb=>by
   obtain ⟨k,wd,cs,e1,e2,e3,e4⟩:=hob b hb;exact ⟨⟨λi h=>(hkk i b h).2 hb,e4⟩,hbg (by rw [e1];rfl)⟩)
 obtain ⟨x,hx,hrx⟩:=hr.env 0 av (by simp [mkS,lk]);simp at hx;subst hx;refine ⟨M',_,_,h0',?_,i1,i2 av v hrx⟩;intro k' hk';obtain ⟨E,L⟩:=hpk2 k' hk';refine ⟨?_,L⟩;cases hfk:fk ρ (bout.map (·.1)) k'.1 with
 | none=>exact E
 | some j=>
  obtain ⟨I,T⟩:=qG hfk;simp only;rcases hnew j I with h | h
  ·have h3:(j,(κ (ρ j)).getD 0)∈pk:=Q2.2 ⟨j,h,rfl⟩;have h4:=(hp' _ h3).1;have h1':=(hkk _ _ E).1;rw [T] at h1';simp only [h1',Qs] at h4;exact h4
  ·have:=V.dom _ (hfr _ h);rw [<- T] at this;rw [(hkk _ _ E).1] at this;cases this
theorem zOp {o:Oper} (hd:o.dst=some d)
  (bc:Ok P f na (mkS (argA 0 us) (bV B++oV O)) (mkS [(0,av)] bout)) (bh:wG s rs) (W:∀ e∈bb,s.blk e.1=some e.2) (be:∀ k∈fr,s.blk k=none)
  (A:∀ (cx:Ctx) (M:Mem) (T:Nat->Option Nat) (tip:Nat->Value) (s':AS) (a:Act) (w:World),Inv cx M T tip s' a w->wG s' rs->∃ args,(execOp a.eval o).run P w=.ok (.enter f args) w/\GR O s ρ (B.map (·.1)) bb M T tip s'.blk us args)
  (hn:na=us.length) (hB:GB O s ρ (B.map (·.1)) B bB) (S:∀ e∈bB,e∈bb) (F:∀ e∈oI O,e∈bb) (I:∀ j∈bout.map (·.1),∀ j'∈bout.map (·.1),ρ j=ρ j'->j=j') (N:∀ j∈B.map (·.1),∃ l',lk bout j=some (.var l')) (G:∀ j∈bout.map (·.1),j∈B.map (·.1)∨ρ j∈fr) (V:∀ j∈B.map (·.1),j<BIG) (Z:O.isSome=true->∀ j∈bout.map (·.1),BIG<=j->BIG<=ρ j) :
  SA P o s ⟨rs,bb,fr,some (d,some (av.ren ρ)),(bout.map λe=>(ρ e.1,e.2.ren ρ))++oD O⟩:=by
 refine ⟨?_,bh,W,be⟩;intro cx s' a w K Q U hs bf hk;obtain ⟨M,T,tip,h0,hp,hi⟩:=hs;obtain ⟨args,A,hg⟩:=A cx M T tip s' a w hi U.1;subst hn;obtain ⟨pk,cg,bl,J,bd,D⟩:=yC4 hp hi U.2.1 U.2.2 hg hB S F I N G V Z (av:=av);unfold Oper.wp;rw [A];show Calls P f _ w _;refine (bc.2 w M pk _ _ _ J bd).mono ?_;rintro e' w' ⟨v,rfl,hr⟩;show K (a.put o.dst v) w';rw [hd];refine hk _ _ ?_;rw [zYh];obtain ⟨M',bg,L,h1,h2,h3,h4⟩:=D v w' hr;exact ⟨M',bg,L,h0.trans' h1,h2,h3.put (bf d (by simp [Mic.ws])) h4⟩
theorem GR.of {xs:List Operand} {B:NB} (h:xs.length=us.length/\∀ (j:Nat) (u:AV),us[j]? = some u->∃ v b',GV O s ρ D v u b'/\(∀ e∈b',e∈bb)/\RepA M κ tip B v (((xs.map a.eval)[j]?).getD undef)) (ha:args.toList=xs.map a.eval):GR O s ρ D bb M κ tip B us args:=by
 refine ⟨by rw [<- Ql,ha,Qu,h.1],λj u hu=>?_⟩;obtain ⟨v,b,h1,h2,h3⟩:=h.2 j u hu;refine ⟨v,b,h1,h2,?_⟩;rw [Q4,<- Array.getElem?_toList,ha];exact h3
theorem zNn {o:Oper} (hd:o.dst=some d) (ho:o.op=.call { callee:=.value (.func f),args:=xs,argTypes:=ts })
  (F:Ok P f na (mkS (argA 0 us) (bV B++oV O)) (mkS [(0,av)] bout)) (V:xs.toList=xl) (ca:ts.toList=tl) (S:GA O s te ρ (B.map (·.1)) xl tl us rs bb) (hB:GB O s ρ (B.map (·.1)) B bB) (hO:∀ e∈oI O,s.blk e.1=some e.2) (Z:∀ k∈fr,s.blk k=none) (hn:na=us.length)
  (I:∀ j∈bout.map (·.1),∀ j'∈bout.map (·.1),ρ j=ρ j'->j=j') (J:∀ j∈B.map (·.1),∃ l',lk bout j=some (.var l')) (G:∀ j∈bout.map (·.1),j∈B.map (·.1)∨ρ j∈fr) (W:∀ j∈B.map (·.1),j<BIG) (L:O.isSome=true->∀ j∈bout.map (·.1),BIG<=j->BIG<=ρ j) :
  SA P o s ⟨rs,bb++(bB++oI O),fr,some (d,some (av.ren ρ)),(bout.map λe=>(ρ e.1,e.2.ren ρ))++oD O⟩:=by
 refine zOp (bb:=bb++(bB++oI O)) hd F S.reads.1 (λe y=>by
  simp only [Q5] at y;rcases y with y | y | y
  ·exact S.reads.2 e y
  ·exact hB.blks e y
  ·exact hO e y) Z (λcx M κ tip s' a w hi hr=>?_) hn hB (λe y=>by simp [y]) (λe y=>by simp [y]) I J G W L
 refine ⟨_,zKj ho F.1,?_⟩;obtain ⟨h1,h2⟩:=S.rep hi hr;refine GR.of (xs:=xl) (a:=a) ⟨h1,λj u hu=>?_⟩ (by simp [V]);obtain ⟨v,b,g1,g2,g3⟩:=h2 j u hu;exact ⟨v,b,g1,λe y=>Q5.2 (.inl (g2 e y)),g3⟩
theorem zU6 {o:Oper} {tx:TypeId} (hd:o.dst=some d) (ho:o.op=.call { callee:=.value x,args:=xs,argTypes:=ts })
  (hx:s.get te tx x=some (.fnv (f+1000000) cs)) (S:Ok P f na (mkS (argA 0 (us++qs)) (bV B++oV O)) (mkS [(0,av)] bout)) (E:xs.toList=xl) (htl:ts.toList=tl) (ha:GA O s te ρ (B.map (·.1)) xl tl us rs bb) (hc:GVs O s ρ (B.map (·.1)) cs qs bc) (hB:GB O s ρ (B.map (·.1)) B bB) (hO:∀ e∈oI O,s.blk e.1=some e.2) (hfr:∀ k∈fr,s.blk k=none) (hn:na=(us++qs).length)
  (J:∀ j∈bout.map (·.1),∀ j'∈bout.map (·.1),ρ j=ρ j'->j=j') (N:∀ j∈B.map (·.1),∃ l',lk bout j=some (.var l')) (T:∀ j∈bout.map (·.1),j∈B.map (·.1)∨ρ j∈fr) (hDb:∀ j∈B.map (·.1),j<BIG) (hbg:O.isSome=true->∀ j∈bout.map (·.1),BIG<=j->BIG<=ρ j) :
  SA P o s ⟨opS x (.fnv (f+1000000) cs)++rs,bb++(bc++(bB++oI O)),fr,some (d,some (av.ren ρ)),(bout.map λe=>(ρ e.1,e.2.ren ρ))++oD O⟩:=by
 refine zOp (bb:=bb++(bc++(bB++oI O))) hd S (yI (zN hx) ha.reads.1) (λe A=>?_) hfr (λcx M κ tip s' a w hi hr=>?_) hn hB (λe A=>by simp [A]) (λe A=>by simp [A]) J N T hDb hbg
 ·simp only [Q5] at A;rcases A with A | A | A | A
  ·exact ha.reads.2 e A
  ·exact hc.blks e A
  ·exact hB.blks e A
  ·exact hO e A
 ·have K:=yD hi (yJ hx s' (yF hr));obtain ⟨F,hev,g1,g2⟩:∃ F:Array Value,a.eval x=.func (.func f) #[] F/\F.size=cs.length/\∀ (j:Nat) (q:AV),cs[j]? = some q->RepA M κ tip s'.blk q (F.getD j undef):=by
   generalize a.eval x=z at K;cases K with
   | fnv _ _ F g1 g2=>
    refine ⟨F,?_,g1,g2⟩;have:Q6 (f+1000000) 1000000=false:=by rw [Qf];intro e;have:=Q0 e;omega
    simp [mkF,this]
  obtain ⟨h1,h2⟩:=ha.rep hi (zZ hr);obtain ⟨c1,c2⟩:=hc.get;obtain ⟨fn,k1,k2,k3⟩:=S.1;have k2':fn.body≠none:=by intro e;simp [e] at k2
  have k3':fn.name ≠ "runtime.NumGoroutine":=by intro e;simp [e] at k3
  refine ⟨#[]++xs.map a.eval++F,by simp [execOp,ho,resolve,hev,Deferred.ofValue,invoke,callFunc,k1,k2',k3'],?_,λj u hu=>?_⟩
  ·have:xs.size=xl.length:=by rw [<- E];simp
   simp [g1,c1,this,h1]
  ·have hsz:(xs.map a.eval).size=us.length:=by rw [<- h1,<- E];simp
   rw [List.getElem?_append] at hu;rw [Q4,Array.empty_append,Array.getElem?_append,hsz];split at hu
   ·rename_i G;rw [if_pos G];obtain ⟨v,b,g3,g4,g5⟩:=h2 j u hu;refine ⟨v,b,g3,λe A=>Q5.2 (.inl (g4 e A)),?_⟩;rw [<- E] at g5;simpa using g5
   ·rename_i G;rw [if_neg G];obtain ⟨v,b,g3,g4,g5⟩:=c2 _ u hu;refine ⟨v,b,.f g4,λe A=>by simp [g5 e A],?_⟩;rw [<- Q4];exact g2 _ v g3
end
def shm (d:Nat) (μ:List (Nat×Nat)) (j:Nat):Nat:=match lk μ j with | some k=>k | none=>sh d j
def zW0:List Nat->Bool
 | []=>true
 | a :: l=>l.all (λb=>!Nat.beq a b)&&zW0 l
theorem zI8:∀ {l:List Nat},zW0 (l.map ρ)=true->∀ j∈l,∀ A∈l,ρ j=ρ A->j=A
 | [],_,j,h,_,_,_=>by simp at h
 | a :: l,E,j,h,A,d,e=>by
  simp only [Qc,zW0,Q9] at E;have F:∀ i∈l,ρ a≠ρ i:=λi I J=>by
   have:=(Qb.1 E.1) (ρ i) (Q2.2 ⟨i,I,rfl⟩);simp_all
  simp only [Q8] at h d;rcases h with rfl | h
  ·rcases d with rfl | d
   ·rfl
   simp_all
  ·rcases d with rfl | d
   ·exact (F j h e.symm).elim
   ·exact zI8 E.2 j h A d e
def zYr:List Nat->List Nat->Bool
 | [],[]=>true
 | a :: l,b :: m=>Q3 a b&&zYr l m
 | _,_=>false
theorem zMh:∀ {l m:List Nat},zYr l m=true->l=m
 | [],[],_=>rfl
 | a :: l,b :: m,h=>by
  simp only [zYr,Q9] at h;rw [Q1 h.1,zMh h.2]
 | [],_ :: _,h=>by cases h
 | _ :: _,[],h=>by cases h
class zA2 (l:LB):Prop where
 h:∀ k w c,(k,ABlk.own w c)∈l->∃ e:PV,c=e.ecs
instance zA2.n:zA2 []:=⟨λ_ _ _ h=>by cases h⟩
instance zA2.o {k w:Nat} {e:PV} {r:LB} [h:zA2 r]:zA2 ((k,.own w e.ecs) :: r):=⟨λk w c m=>by
 rcases Q8.1 m with m | m
 ·cases m;exact ⟨_,rfl⟩
 ·exact h.h k w c m⟩
instance zA2.b {k:Nat} {e:PV} {r:LB} [h:zA2 r]:zA2 ((k,.buf e) :: r):=⟨λk w c m=>by
 rcases Q8.1 m with m | m
 ·cases m
 ·exact h.h k w c m⟩
instance zA2.v {k:Nat} {e:List AV} {r:LB} [h:zA2 r]:zA2 ((k,.var e) :: r):=⟨λk w c m=>by
 rcases Q8.1 m with m | m
 ·cases m
 ·exact h.h k w c m⟩
theorem zA2.bv {r:LB} [h:zA2 r] (B:List (Nat×List AV)):zA2 (bV B++r):=⟨λk w c m=>by
 have y:∀ B,(k,ABlk.own w c)∈bV B->False:=λB=>by
  induction B with
  | nil=>intro m;cases m
  | cons x B A=>
   intro m;rcases Q8.1 m with m | m
   ·cases m
   simp_all
 rcases Q5.1 m with m | m
 ·simp_all
 ·exact h.h k w c m⟩
def bRq (ρ:Nat->Nat):LB->LB
 | []=>[]
 | (k,.own w c) :: r=>(ρ k,.own w c) :: bRq ρ r
 | (k,.var l) :: r=>(ρ k,(ABlk.var l).ren ρ) :: bRq ρ r
 | (k,.buf l) :: r=>(ρ k,(ABlk.buf l).ren ρ) :: bRq ρ r
theorem zMf (v:Nat->Nat):∀ (l:LB),zA2 l->bRq v l=bR v l
 | [],_=>rfl
 | (k,.own w c) :: r,h=>by
  have A:=zMf v r ⟨λk w c m=>h.h k w c (Qj _ m)⟩;obtain ⟨e,rfl⟩:=h.h k w c List.mem_cons_self;simp only [bRq,bR,A,ABlk.ren,zBx]
 | (k,.var l) :: r,h=>by simp only [bRq,bR,zMf v r ⟨λk w c m=>h.h k w c (Qj _ m)⟩]
 | (k,.buf l) :: r,h=>by simp only [bRq,bR,zMf v r ⟨λk w c m=>h.h k w c (Qj _ m)⟩]
section
variable {v u:AV} {xs:List Operand} {ts:List TypeId} {as:List AV} {b:LB} {o:Nat} {r:List (Nat×List AV)}
theorem memD (h:D.any (Q3 j)=true):j∈D:=by simp_all
theorem ga0:GA O s te ρ D [] [] [] [] []:=.nil
theorem gap (h:s.get te t x=some v) (E:s.rd v=some (q,b)) (k:GA O s te ρ D xs ts us rs bs):GA O s te ρ D (x :: xs) (t :: ts) (.p q :: us) (opS x v++rs) (b++bs):=.cons h (.f (.p E)) k
theorem gat (h:s.get te t x=some (.ptr k o)) (e:ρ j=k) (F:D.any (Q3 j)=true) (K:GA O s te ρ D xs ts us rs bs):GA O s te ρ D (x :: xs) (t :: ts) (.ptr j o :: us) (opS x (.ptr k o)++rs) ([]++bs):=.cons h (.f (.ptr e (memD F))) K
theorem gao {n:Nat} {cs:List PV} (h:s.get te t x=some (.own k n)) (e:O=some (k,wd,cs)) (A:GA O s te ρ D xs ts us rs bs):GA O s te ρ D (x :: xs) (t :: ts) (.own BIG n :: us) (opS x (.own k n)++rs) ([]++bs):=.cons h (.f (.own e)) A
theorem gaa {ul:List AV} (h:s.get te t x=some (.ag l)) (g:GVs O s ρ D l ul b) (F:GA O s te ρ D xs ts us rs bs):GA O s te ρ D (x :: xs) (t :: ts) (.ag ul :: us) (opS x (.ag l)++rs) (b++bs):=.cons h (.ag g) F
theorem gl0:GVs O s ρ D [] [] []:=.nil
theorem glp (A:s.rd v=some (q,b)) (k:GVs O s ρ D vs us bs):GVs O s ρ D (v :: vs) (.p q :: us) (b++bs):=.cons (.p A) k
theorem glt (e:ρ j=k) (F:D.any (Q3 j)=true) (G:GVs O s ρ D vs us bs):GVs O s ρ D (.ptr k o :: vs) (.ptr j o :: us) ([]++bs):=.cons (.ptr e (memD F)) G
theorem glo {n:Nat} {cs:List PV} (e:O=some (k,wd,cs)) (F:GVs O s ρ D vs us bs):GVs O s ρ D (.own k n :: vs) (.own BIG n :: us) ([]++bs):=.cons (.own e) F
theorem gb0:GB O s ρ D [] []:=.nil
theorem gb (h:s.blk (ρ j)=some (.var as)) (g:GVs O s ρ D as us b) (k:GB O s ρ D r bs):GB O s ρ D ((j,us) :: r) ((ρ j,.var as) :: (b++bs)):=.cons h g k
inductive GS (s:AS) (te:TE) (t:TypeId):List Operand->List AV->LV->Prop where
 | nil:GS s te t [] [] []
 | cons {x:Operand} {v:AV} {xs:List Operand} {vs:List AV} {rs:LV}:s.get te t x=some v->GS s te t xs vs rs->GS s te t (x :: xs) (v :: vs) (opS x v++rs)
theorem gs0:GS s te t [] [] []:=.nil
theorem gs1 (h:s.get te t x=some v) (k:GS s te t xs vs rs):GS s te t (x :: xs) (v :: vs) (opS x v++rs):=.cons h k
theorem GS.reads (h:GS s te t xs vs rs):wG s rs:=by
 induction h with
 | nil=>intro e D;simp_all
 | cons h _ v=>exact yI (zN h) v
theorem GS.rep (h:GS s te t xs vs rs) {w:World} (hi:Inv cx M κ tip s' a w):wG s' rs->xs.length=vs.length/\∀ (j:Nat) (v:AV),vs[j]? = some v->RepA M κ tip s'.blk v (((xs.map a.eval)[j]?).getD undef):=by
 induction h with
 | nil=>intro _;exact ⟨rfl,by simp⟩
 | cons h _ ih=>
  intro hr;obtain ⟨e1,e2⟩:=ih (zZ hr);refine ⟨by simp [e1],λj v hv=>?_⟩;cases j with
  | zero=>simp at hv;subst hv;simpa using yD hi (yJ h s' (yF hr))
  | succ j=>simpa using e2 j v (by simpa using hv)
end
section
theorem yBk {o:Oper} {yl:List Operand} (S:o.op=.makeFunc (.func f) #[] ys) (y:ys.toList=yl) (h:GS s te 0 yl vs rs):VA P o s rs [] (.fnv (f+1000000) vs):=by
 refine ⟨?_,h.reads,by simp⟩;intro cx M Y tip s' a w V W _;obtain ⟨U,T⟩:=h.rep V W;have E:Q6 (f+1000000) 1000000=false:=by rw [Qf];intro e;have:=Q0 e;omega
 refine ⟨mkF _ (ys.map a.eval),by simp [execOp,S,Instr.makeFunc,mkF,E],.fnv _ _ _ (by rw [<- U,<- y];simp) (λj v N=>?_)⟩;have:=T j v N;rw [<- y] at this;simpa using this
end
section
variable [T:nZ P] 
theorem RK.mfC (h:GS s T.te 0 ys.toList vs rs) (k:VK P ops r s K d rs [] (.fnv (f+1000000) vs)):RK P ops (⟨some d,.makeFunc (.func f) #[] ys,ty,pos,af,none⟩:: r) s K:=RK.va rfl rfl (yBk rfl rfl h) k
def zQ5 (s:AS) (d na:Nat) (n:Nat) (μ:List (Nat×Nat)) (B B2:List (Nat×List AV)) (bn:LB):Bool:=
 Q3 na n&&(B.all (λe=>Q6 e.1 BIG)&&((kR (shm d μ) bn).all (λk=>(s.blk k).isNone)&&(zYr (B.map (·.1)) (B2.map (·.1))&&zW0 (kR (shm d μ) (bV B2++bn)))))
theorem zCq {n:Nat} (h:zQ5 s d na n μ B B2 bn=true):na=n/\(∀ k∈bn.map (λe=>shm d μ e.1),s.blk k=none) /\
  (∀ j∈(bV B2++bn).map (·.1),∀ V∈(bV B2++bn).map (·.1),shm d μ j=shm d μ V->j=V)/\(∀ j∈B.map (·.1),∃ l',lk (bV B2++bn) j=some (.var l'))/\(∀ j∈(bV B2++bn).map (·.1),j∈B.map (·.1)∨shm d μ j∈bn.map (λe=>shm d μ e.1))/\∀ j∈B.map (·.1),j<BIG:=by
 simp only [zQ5,Q9] at h;obtain ⟨S,h0,L,I,J⟩:=h;rw [kQ] at L J;have I:=zMh I;refine ⟨Q1 S,λk hk=>by simpa using (Qb.1 L) k hk,?_,λj y=>?_,λj y=>?_,λj y=>?_⟩
 ·have:(bV B2++bn).map (λe=>shm d μ e.1)=((bV B2++bn).map (·.1)).map (shm d μ):=by rw [W4];rfl
  rw [this] at J;exact zI8 J
 ·rw [I] at y;obtain ⟨us,v⟩:=zAb y;refine ⟨us,?_⟩;clear S L I J;revert v;generalize bV B2=l;intro v;induction l with
  | nil=>simp [lk] at v
  | cons e l ih=>
   obtain ⟨i,b⟩:=e;simp only [Qr,lk] at v ⊢;cases W:Q3 j i with
   | true=>simpa [W] using v
   | false=>simp_all
 ·rw [W0,Q5] at y;rcases y with y | y
  ·rw [zI2] at y;rw [I];exact .inl y
  ·obtain ⟨e,N,rfl⟩:=Q2.1 y;exact .inr (Q2.2 ⟨e,N,rfl⟩)
 ·obtain ⟨e,N,rfl⟩:=Q2.1 y;exact Q0 ((Qb.1 h0) e N)
theorem zRx {l:List Nat} (h:l.all (λj=>(lk μ j).isNone||Q6 j BIG)=true):∀ j∈l,BIG<=j->BIG<=shm d μ j:=λj G I=>by
 have:=(Qb.1 h) j G;unfold shm;cases F:lk μ j with
 | none=>simp only [sh];omega
 | some k=>have:=Q0 (show Q6 j BIG=true by simp_all);omega
theorem RK.cg (A:List (Nat×Nat)) (h:Ok P f na (mkS (argA 0 us) (bV B)) (mkS [(0,av)] (bV B2++bn))) (ha:GA none s T.te (shm d A) (B.map (·.1)) xs.toList ts.toList us rs bb) (hB:GB none s (shm d A) (B.map (·.1)) B bB) (hc:zQ5 s d na us.length A B B2 bn=true)
  (k:RK P ops r (Mic.upd ⟨rs,bb++bB,kR (shm d A) bn,some (d,some (av.ren (shm d A))),bR (shm d A) (bV B2++bn)⟩ s) λs' ms=>K s' (⟨rs,bb++bB,kR (shm d A) bn,some (d,some (av.ren (shm d A))),bR (shm d A) (bV B2++bn)⟩:: ms)):RK P ops (⟨some d,.call ⟨.value (.func f),xs,ts⟩,ty,pos,af,none⟩:: r) s K:=by
 obtain ⟨c1,Z,c3,c4,c5,c6⟩:=zCq hc;rw [kQ,zBn] at k;have V:=zNn (P:=P) (O:=none) (o:=⟨some d,.call ⟨.value (.func f),xs,ts⟩,ty,pos,af,none⟩) rfl rfl (by simpa [oV] using h) rfl rfl ha hB (by simp [oI]) Z c1 c3 c4 c5 c6 (by simp);simp only [oI,oD,W1] at V;exact RK.st rfl V k
theorem RK.cgo (μ:List (Nat×Nat)) {cs:List PV} [ow:zA2 bn] (h:Ok P f na (mkS (argA 0 us) (bV B++[(BIG,qO c)])) (mkS [(0,av)] (bV B2++bn))) (ho0:(s.blk k0,qO c)=(some (qO c),.own wd (cs.map .p))) (ha:GA (some (k0,wd,cs)) s T.te (shm d μ) (B.map (·.1)) xs.toList ts.toList us rs bb) (hB:GB (some (k0,wd,cs)) s (shm d μ) (B.map (·.1)) B bB) (hc0:(zQ5 s d na us.length μ B B2 bn,(kR id (bV B2++bn)).all (λj=>(lk μ j).isNone||Q6 j BIG))=(true,true))
  (k:RK P ops r (Mic.upd ⟨rs,bb++(bB++[(k0,qO c)]),kR (shm d μ) bn,some (d,some (av.ren (shm d μ))),bRq (shm d μ) (bV B2++bn)++[(k0,zKu)]⟩ s) λs' ms=>K s' (⟨rs,bb++(bB++[(k0,qO c)]),kR (shm d μ) bn,some (d,some (av.ren (shm d μ))),bRq (shm d μ) (bV B2++bn)++[(k0,zKu)]⟩:: ms)):RK P ops (⟨some d,.call ⟨.value (.func f),xs,ts⟩,ty,pos,af,none⟩:: r) s K:=have ⟨ho,hq⟩:=pq ho0;have ⟨hc,hg⟩:=pq hc0;by
 obtain ⟨c1,c2,c3,c4,c5,c6⟩:=zCq hc;rw [kQ,zMf _ _ (zA2.bv B2),zBn] at k;rw [kQ] at hg;rw [hq] at h ho k;exact RK.st rfl (zNn (O:=some (k0,wd,cs)) rfl rfl h rfl rfl ha hB (by simpa [oI] using ho) c2 c1 c3 c4 c5 c6 (λ_=>zRx (by simpa using hg))) k
theorem RK.cgc (A:List (Nat×Nat)) (h:Ok P f na (mkS (argA 0 (us++qs)) (bV B)) (mkS [(0,av)] (bV B2++bn))) (hx:s.get T.te 0 x=some (.fnv (f+1000000) cs)) (ha:GA none s T.te (shm d A) (B.map (·.1)) xs.toList ts.toList us rs bb) (hg:GVs none s (shm d A) (B.map (·.1)) cs qs bc) (hB:GB none s (shm d A) (B.map (·.1)) B bB) (hc:zQ5 s d na (us++qs).length A B B2 bn=true)
  (k:RK P ops r (Mic.upd ⟨opS x (.fnv (f+1000000) cs)++rs,bb++(bc++bB),kR (shm d A) bn,some (d,some (av.ren (shm d A))),bR (shm d A) (bV B2++bn)⟩ s) λs' ms=>K s' (⟨opS x (.fnv (f+1000000) cs)++rs,bb++(bc++bB),kR (shm d A) bn,some (d,some (av.ren (shm d A))),bR (shm d A) (bV B2++bn)⟩:: ms)):RK P ops (⟨some d,.call ⟨.value x,xs,ts⟩,ty,pos,af,none⟩:: r) s K:=by
 obtain ⟨c1,c2,c3,c4,c5,c6⟩:=zCq hc;rw [kQ,zBn] at k;have sa:=zU6 (P:=P) (O:=none) (o:=⟨some d,.call ⟨.value x,xs,ts⟩,ty,pos,af,none⟩) rfl rfl hx (by simpa [oV] using h) rfl rfl ha hg hB (by simp [oI]) c2 c1 c3 c4 c5 c6 (by simp);simp only [oI,oD,W1] at sa;exact RK.st rfl sa k
end
theorem zNl (h:as.blk=lk (bV B)) (d:kR id (bV B)=ks):∀ k,k<BIG->(as.blk k).isSome=true->k∈ks:=λk _ y=>by
 rw [h] at y;obtain ⟨b,D⟩:=Option.isSome_iff_exists.1 y;have:=(zEc D).1;rw [kQ] at d;rw [<- zI2] at this;simp_all
theorem vK {b:ABlk} (h:as.blk=lk (bV B++[(BIG,b)])) (A:kR id (bV B)=ks):∀ k,k<BIG->(as.blk k).isSome=true->k∈ks:=λk F y=>by
 rw [h,zJ7] at y;have e:lk [(BIG,b)] k=none:=by
  have:Q3 k BIG=false:=by rw [Qf];intro e;simp_all
  simp [lk,this]
 rw [e,Option.or_none] at y;exact zNl (as:=mkS [] _) rfl A k F y
section
theorem zT4 {o:Oper} {a b:Nat} {n:Nat} (J:yV P te) (ho:o.op=.slice t x (some lo) (some hi) none)
  (ht:(te t).map (·.ty)=some (.slice e)) (he:te e=some ei) (hw:ei.w=1) (hx:s.get te t x=some (.own k n)) (hb:s.blk k=some (.own 1 l)) (hn:n=l.length)
  (Z:s.get te 0 lo=some (.p (.int kl (a:Nat)))) (U:s.get te 0 hi=some (.p (.int kh (b:Nat)))) (h1:a<b) (h2:b<=n) :
  VA P o s (opS x (.own k n)++(opS lo (.p (.int kl (a:Nat)))++opS hi (.p (.int kh (b:Nat))))) [(k,.own 1 l)] (.osl k n a (b - a)):=by
 have bl:Bd s te (some lo) (some (a:Int)) _:=.some _ _ _ Z;have bh:Bd s te (some hi) (some (b:Int)) _:=.some _ _ _ U;refine ⟨?_,yI (zN hx) (yI bl.reads bh.reads),by simpa using hb⟩;intro cx M κ tip s' ac w y Y V;have v:=V (k,.own 1 l) (by simp);simp only at v;obtain ⟨fl,K⟩:=bl.eval y (yF (zZ Y));obtain ⟨fh,G⟩:=bh.eval y (zZ (zZ Y));have hu:=yX J ht;have ba:=uL J he w;have I:=zMe (cx:=cx) v (by omega) (yD y (yJ hx s' (yF Y)));obtain ⟨g1,g2⟩:=y.owns.live v (n:=n) (by omega);rcases g2 with ⟨_,_,rfl⟩ | ⟨b0,n1,cap,arr,e1,fz,q1,q2,q3,q4,q5,q6,q7,q8,q9,q10,q11⟩
 ·simp at hn;omega
 ·have W:n1=n:=by omega
  subst W;rw [q1] at I;have L:=aI P w true n1 cap (some (a:Int)) (some (b:Int)) none fl fh fl (by simp) (by simp) (by simp;omega) (by simp;omega) (by simp);have T:¬ cap=a:=by omega
  refine ⟨.slice (some ⟨b0,0+a,none⟩) (b - a) (cap - a),?_,.osl k n1 a (b - a) 1 l _ v (by omega) (λ_=>⟨b0,cap - a,q2,by simp,by omega⟩) ⟨_,_,_,rfl⟩⟩;simp only [W2,Option.map_none,Qs,Int.toNat_natCast,Option.getD_none] at L K G;simp [execOp,ho,I,Instr.sliceAt,Instr.slice,run_underlying hu,K,G,L,ba,hw,T,add_off]
theorem zYd {o:Oper} {n:Nat} {m:By} (hok:yV P te) (hd:o.dst=some d) (ho:o.op=.call { callee:=.builtin .copy,args:=#[x,y],argTypes:=#[t,t'] }) (ht:(te t).map (·.ty)=some (.slice e)) (he:te e=some ei) (hw:ei.w=1)
  (hx:s.get te t x=some (.osl k N off n)) (hk:s.blk k=some (.own 1 l)) (hN:N=l.length) (hl:off+n<=l.length) (hy:s.get te t' y=some vy) (hp:s.rd vy=some (.bytes m,bs)) :
  SA P o s ⟨opS x (.osl k N off n)++opS y vy,(k,.own 1 l) :: bs,[],some (d,some (.p (.int .i64 (min m.length n:Nat)))),[(k,.own 1 (sW l off ((m.take n).map λu=>.p (.int .u8 u.toNat))))]⟩:=by
 refine ⟨?_,yI (zN hx) (zN hy),λe he=>(Q8.1 he).elim (λh=>by subst h;exact hk) (vU vy _ bs hp e),by intro k hk';simp at hk'⟩;intro cx s' a w K Q hm hs' hws hk';obtain ⟨M,κ,tip,h0,hpk,hi⟩:=hs';have hbk:s'.blk k=some (.own 1 l):=hm.2.1 (k,.own 1 l) (by simp);have hx':=yD hi (yJ hx s' (yF hm.1));have hy':=kM hi hy hp (zZ hm.1) (λe he=>hm.2.1 e (by simp [he]));obtain ⟨info,z,i1,i2,i3,i4,i5⟩:=(hok e ei he).info;have hu:=yX hok ht;have F:(P.info? e).map (·.size)=some 1:=by rw [i1,W2,i2,hw]
 generalize hev:a.eval x=zx at hx';cases hx' with
 | osl _ _ _ _ w' l' _ g1 g2 g3 g4=>
 rw [hbk] at g1;cases g1;obtain ⟨b,c,hκ,rfl,hnc⟩:=g3 (by omega);obtain ⟨_,g5⟩:=hi.owns.live hbk (n:=N) (by omega);rcases g5 with ⟨_,y2,_⟩ | ⟨b',n1,cap,arr,e1,fz,q1,q2,q3,q4,q5,q6,q7,q8,q9,q10,q11⟩
 ·rw [hκ] at y2;cases y2
 rw [hκ] at q2;cases q2;have hnn:n1=N:=by omega
 subst hnn;have J:∀ (w':World) (U:List Value),(execOp a.eval o).run P w=.ok (.value (.int .i64 (min m.length n:Nat))) w'->w'=w.setCells b off U->U=(m.take n).map (λu=>.int .u8 u.toNat)->o.wp P a w K Q:=by
  intro w' U h1 h2 h3;subst h2;unfold Oper.wp;rw [h1];show K (a.put o.dst _) _;rw [hd];refine hk' _ _ ?_;rw [vZ];have hvl:U.length=((m.take n).map λu=>(AV.p (.int .u8 u.toNat))).length:=by simp [h3]
  have hvn:U.length<=n:=by rw [h3];simp;omega
  obtain ⟨arr',z1,z2,z3⟩:=qD b U off w arr e1 fz q4 (by omega);have hlen:=zCr (l:=l) (cs:=(m.take n).map λu=>(AV.p (.int .u8 u.toNat))) (off:=off) (by omega);refine ⟨M,κ,_,h0,hpk,(hi.ownSet (n':=n1) hbk q1 hκ q3 (by rw [z2];exact q5) z1 (by rw [z2];exact q7) q8 q9 (by omega) q11 (by omega) (by omega) q6 ?_).put (hws d (by simp [Mic.ws])) (.p _ _ (.int _ _))⟩;intro j q hq;rw [bD (by omega)] at hq;rw [Q4,z3 j];by_cases hj:off<=j/\j<off+U.length
  ·rw [if_pos (by omega)] at hq;rw [if_pos hj];rw [List.getElem?_map] at hq;obtain ⟨u,h4,h5⟩:=Qa.1 hq;subst h5;rw [h3,List.getElem?_map,h4];exact .p _ _ (.int _ _)
  ·rw [if_neg (by omega)] at hq;rw [if_neg hj];have:=q10 j q hq;rw [Q4] at this;exact this
 generalize I:a.eval y=zy at hy';cases hy' with
 | bytes0=>
  refine J w [] ?_ rfl (by simp);have:=run_copy_none (P:=P) w t t' o.type e (some ⟨b,off,none⟩) none n c 0 0 hu F (by simp [Nat.min_def]);simp [execOp,ho,hev,I,resolve,invoke,builtin,this,goInt]
 | bytesE aa=>
  refine J w [] ?_ rfl (by simp);have:=run_copy_none (P:=P) w t t' o.type e (some ⟨b,off,none⟩) (some aa) n c 0 0 hu F (by simp [Nat.min_def]);simp [execOp,ho,hev,I,resolve,invoke,builtin,this,goInt]
 | bytes _ b2 o2 n2 c2 e1' e2' e3'=>
  have hcs:((m.take n).map λu=>Value.int .u8 u.toNat).length=Nat.min n2 n:=by simp [e1',Nat.min_comm]
  have T:=run_copy_cells (P:=P) w t t' o.type e b off n c ⟨b2,o2,none⟩ n2 c2 ((m.take n).map λu=>Value.int .u8 u.toNat) hu F hcs
   (by
    intro j u S;rw [List.getElem?_map] at S;obtain ⟨u',h4,h5⟩:=Qa.1 S;rw [List.getElem?_take] at h4;split at h4
    ·rw [add_off,<- h5];exact hi.mem _ _ _ (e3' j u' h4)
    ·cases h4)
   (by
     intro j hj;simp at hj;have:off+j<arr.size:=by omega
     simp [World.cell?,q4,this])
   (by intro j hj;simp at hj;exact rI q4 q5 (by omega))
   (by intro u S;obtain ⟨u',_,rfl⟩:=Q2.1 S;rfl)
  refine J _ _ ?_ rfl rfl;have hmin:((m.take n).map λu=>Value.int .u8 u.toNat).length=min m.length n:=by simp [Nat.min_comm]
  rw [hmin] at T;simp [execOp,ho,hev,I,resolve,invoke,builtin,T,goInt]
end
def cpA (l:By) (o n:Nat) (m:By):By:=l.take o++(m.take n++l.drop (o+(m.take n).length))
theorem yBb {l m:By} {o n:Nat} (h:Qh (o+n) l.length=true) (y:l.length=k):(cpA l o n m).length=k:=by
 have:=Q0 h;simp only [cpA,Qn,List.length_take,List.length_drop];omega
section
variable [T:nZ P] 
theorem RK.slO {n:Nat} {l:By} (a b:Nat) (hn:l.length=n) (h:Qh b l.length=true) (v:((T.te t).map (·.ty),T.te e,ei.w,s.get T.te t x,s.blk k0,s.get T.te 0 lo,s.get T.te 0 hi,Q6 a b)=(some (.slice e),some ei,1,some (.own k0 n),some (qO (.bytes l)),some (.p (.int kl (a:Nat))),some (.p (.int kh (b:Nat))),true))
  (k:VK P ops r s K d (opS x (.own k0 n)++(opS lo (.p (.int kl (a:Nat)))++opS hi (.p (.int kh (b:Nat))))) [(k0,qO (.bytes l))] (.osl k0 n a (b - a))):RK P ops (⟨some d,.slice t x (some lo) (some hi) none,ty,pos,af,none⟩:: r) s K:=have ⟨ht,v⟩:=pq v;have ⟨he,v⟩:=pq v;have ⟨Y,v⟩:=pq v;have ⟨hx,v⟩:=pq v;have ⟨hb,v⟩:=pq v;have ⟨J,v⟩:=pq v;have ⟨N,h1⟩:=pq v;
 RK.va rfl rfl (zT4 T.ok rfl ht he Y hx hb (by simp [Q7,hn]) J N (Q0 h1) (by simp_all)) k
theorem RK.cpO {n:Nat} {l m:By} (hN:l.length=N) (h:Qh (off+n) l.length=true) (A:((T.te t).map (·.ty),T.te e,ei.w,s.get T.te t x,s.blk k0,s.get T.te t2 y)=(some (.slice e),some ei,1,some (.osl k0 N off n),some (qO (.bytes l)),some vy)) (hp:s.rd vy=some (.bytes m,bs))
  (k:BK P ops r s K d (opS x (.osl k0 N off n)++opS y vy) ((k0,qO (.bytes l)) :: bs) [] k0 (qO (.bytes (cpA l off n m))) (.p (.int .i64 (min m.length n:Nat)))):RK P ops (⟨some d,.call ⟨.builtin .copy,#[x,y],#[t,t2]⟩,ty,pos,af,none⟩:: r) s K:=have ⟨ht,A⟩:=pq A;have ⟨he,A⟩:=pq A;have ⟨hw,A⟩:=pq A;have ⟨hx,A⟩:=pq A;have ⟨hk,hy⟩:=pq A;by
 have bd:=Q0 h;have h2:=zYd (o:=⟨some d,.call _,ty,pos,af,none⟩) T.ok rfl rfl ht he hw hx hk (by simp [Q7,hN]) (by simp [Q7];omega) hy hp;have e1:sW (Q7 (.bytes l)) off ((m.take n).map λu=>AV.p (.int .u8 u.toNat))=Q7 (.bytes (cpA l off n m)):=by
  rw [iF (by simp [Q7];omega)];simp [Q7,cpA]
 rw [e1] at h2;exact RK.sb rfl h2 k
end
def OkW (P:Program) (f:FuncId) (na:Nat) (as rs:AS):Prop:=∃ fn body ks,P.funcs[f]? = some fn/\fn.body=some body/\(fn.name == "runtime.NumGoroutine")=false/\na<=fn.ntmps/\(∀ k,k<BIG->(as.blk k).isSome=true->k∈ks)/\∀ cx:Ctx,cx.nt=fn.ntmps->PK cx ks->awp P cx body (yEy P fn cx rs) as
theorem zGl {rs:AS} (E:AS) (Z:P.funcs[f]? = some fn) (hb:fn.body=some body) (F:(fn.name == "runtime.NumGoroutine")=false) (G:na<=fn.ntmps) (D:∀ k,k<BIG->(as.blk k).isSome=true->k∈ks)
  (Y:∀ cx:Ctx,PK cx ks->vY P fn cx E rs) (h:∀ cx:Ctx,cx.nt=fn.ntmps->PK cx ks->awp P cx body (OR cx E) as):OkW P f na as rs:=
 ⟨fn,body,ks,Z,hb,F,G,D,λcx V N a w T=>wp_mono (h cx V N a w T) λe W w' ⟨s',g1,U,S⟩ =>⟨E,S cx W w' rfl g1,U,Y cx N⟩⟩
section
theorem zK6 {w:World} (d:Inv ⟨w,M,pk,na,[]⟩ M κ tip as ⟨args,[]⟩ w) (U:na<=nt):Inv ⟨w,M,pk,nt,[]⟩ M κ tip as { tmps:=args++Array.replicate (nt - args.size) undef,defers:=[] } w:=by
 have S:=d.size;exact {
  defers:=rfl
  size:=by simp_all
  fr:=⟨d.fr.os,d.fr.tape,d.fr.output,d.fr.size,d.fr.block⟩
  mem:=d.mem
  env:=λt u e=>by
   obtain ⟨x,v,T⟩:=d.env t u e;refine ⟨x,?_,T⟩;have y:=(Array.getElem?_eq_some_iff.1 v).1;rw [Array.getElem?_append_left y];exact v
  vars:=d.vars
  bufs:=d.bufs
  inj:=d.inj
  dom:=d.dom
  glob:=d.glob
  old:=d.old
  owns:=d.owns }
theorem OkW.callsD {rs:AS} (h:OkW P f na as rs) {w:World} (hi:Inv ⟨w,M,pk,na,[]⟩ M κ tip as ⟨args,[]⟩ w) (E:∀ k∈pk,κ k.1=some k.2/\k.2<w.heap.size) (u:FrameMode) :
  CallsD P f args u w λe u' w'=>u'=u/\∃ v,e=.returned v/\SRel ⟨w,M,pk,1,[]⟩ rs ⟨#[v],[]⟩ w':=by
 obtain ⟨T,be,ks,hf,I,bf,J,L,h⟩:=h;refine callsD_of_wp hf I ?_;have K:=λk hk=>L k.1 (pk.nk k hk) (by
  cases I:as.blk _ with
  | none=>have:=(E k hk).1;rw [hi.dom _ I] at this;simp_all
  | some b=>rfl)
 refine wp_mono (h ⟨w,M,pk,T.ntmps,[]⟩ rfl K _ _ ⟨M,κ,tip,Mem.le_refl _,E,zK6 hi J⟩) ?_;rintro e Z w' ⟨s',F,he,A⟩;obtain ⟨v,W,V⟩:=A Z w' F;have hd:Z.defers=[]:=by obtain ⟨_,_,_,_,_,N⟩:=F;exact N.defers
 rcases he with rfl | rfl
 ·exact ⟨hd,v,W,v,rfl,V⟩
 ·exact ⟨hd,v,W,v,rfl,V⟩
theorem zQr {Q:Exit->Act->World->Prop} {is:List Nat} (I:∀ a w,SRel cx s' a w->wpOps P ops Q is a w) {l:List Oper} {ms:List Mic}
  (h:Run P ops l s s' ms):(∀ m∈ms,∀ d∈m.ws,d<cx.nt)->∀ (n:Nat),(∀ i,i<l.length->l[i]? = ops[n+i]?)->∀ (a:Act) (w:World),SRel cx s a w->wpOps P ops Q ((W3 l.length).map (n+·)++is) a w:=by
 induction h with
 | nil s=>simp_all
 | cons o r m s s' ms T Y _ W=>
  intro A n K a w G;have e:(W3 (o :: r).length).map (n+·)=n :: (W3 r.length).map (n+1+·):=by
   rw [Qq,List.range_succ_eq_map];simp only [Qc,W4,Qx];congr 1;refine List.map_congr_left (λx _=>?_);simp only [Function.comp];omega
  rw [e,Qr,wpOps_cons];have U:ops[n]? = some o:=by
   have:=K 0 (by simp);simpa using this.symm
  unfold wpOp;rw [U];refine T cx s a w _ Q Y G (A m (by simp)) ?_;intro V w' E;exact W I (λx N=>A x (by simp [N])) (n+1) (λi Z=>by have:=K (i+1) (by simp;omega);rw [show n+1+i=n+(i+1) by omega];simpa using this) V w' E
def zPj (P:Program) (cx:Ctx) (c:Code) (Q:Exit->AS->Prop) (X:Exit->Act->World->Prop) (s:AS):Prop:=
 ∀ a w,SRel cx s a w->c.wp P (λe a' w'=>(∃ s',SRel cx s' a' w'/\Q e s')∨X e a' w') a w
theorem xsq {x y:Code} (h:awp P cx x (zK9 (λs=>zPj P cx y Q X s) Q) s):zPj P cx (.seq x y) Q X s:=λa w F=>
 wp_seq (wp_mono (h a w F) λe D w' ⟨s',A,v⟩ =>by
  cases e with
  | normal=>exact v D w' A
  | _=>exact .inl ⟨s',A,v⟩)
def XQ (P:Program) (fn:Func) (cx:Ctx) (rs:AS):Exit->Act->World->Prop:=λe a w=>(e=.ret∨e=.normal)/\Leaves P fn a.tmps (λe w'=>∃ v,e=.returned v/\SRel { cx with nt:=1,df:=[] } rs ⟨#[v],[]⟩ w') a.defers .returning w
theorem yBd {rs:AS} (hf:P.funcs[f]? = some fn) (K:fn.body=some body) (Y:(fn.name == "runtime.NumGoroutine")=false) (W:na<=fn.ntmps) (U:∀ k,k<BIG->(as.blk k).isSome=true->k∈ks)
  (h:∀ cx:Ctx,cx.nt=fn.ntmps->PK cx ks->cx.df=[]->zPj P cx body (yEy P fn cx rs) (XQ P fn cx rs) as):Ok P f na as rs:=by
 refine ⟨⟨fn,hf,by simp [K],Y⟩,?_⟩;intro w M N args κ tip hi G;refine calls_of_wp_defers hf K ?_;have Z:=λk hk=>U k.1 (N.nk k hk) (by
  cases K:as.blk _ with
  | none=>have:=(G k hk).1;rw [hi.dom _ K] at this;cases this
  | some b=>rfl)
 refine wp_mono (h ⟨w,M,N,fn.ntmps,[]⟩ rfl Z rfl _ _ ⟨M,κ,tip,Mem.le_refl _,G,zK6 hi W⟩) ?_;rintro e S w' (⟨s',I,he,F⟩ | ⟨he,J⟩)
 ·obtain ⟨v,hv,hr⟩:=F S w' I;have hd:S.defers=[]:=by obtain ⟨_,_,_,_,_,bc⟩:=I;exact bc.defers
  have J:Leaves P fn S.tmps (λe w'=>∃ v,e=.returned v/\SRel ⟨w,M,N,1,[]⟩ rs ⟨#[v],[]⟩ w') S.defers .returning w':=by
   rw [hd];exact ⟨v,hv,v,rfl,hr⟩
  rcases he with rfl | rfl
  ·exact J
  ·exact J
 ·rcases he with rfl | rfl
  ·exact J
  ·exact J
theorem Inv.root {w:World} (y:Inv cx M κ tip s a w) (V:∀ k∈cx.pk,κ k.1=some k.2/\k.2<cx.w0.heap.size) 
  (F:∀ k b,s.blk k=some b->(∃ l,b=.var l)/\∃ b',(k,b')∈pk2) (A:∀ e∈pk2,κ e.1=some e.2) (hob:pk2.ob=[]) (J:List Deferred):Inv ⟨w,M,pk2,cx.nt,J⟩ M κ tip s { a with defers:=J } w where
 defers:=rfl
 size:=y.size
 fr:=⟨rfl,rfl,rfl,Qm _,λ_ _ _ _=>rfl⟩
 mem:=y.mem
 env:=y.env
 vars:=λk l h=>by
  obtain ⟨b,G,e,Z,N,q2,q3,q4,W,q6,q7⟩:=y.vars k l h;refine ⟨b,G,e,Z,N,q2,q3,q4,W,q6,.inr ?_⟩;obtain ⟨_,b',D⟩:=F k _ h;have:=A _ D;rw [N] at this;cases this;exact Q2.2 ⟨_,D,rfl⟩
 bufs:=λk c h=>by obtain ⟨⟨l,I⟩,_⟩:=F k _ h;cases I
 inj:=y.inj
 dom:=y.dom
 old:=⟨λ_ _ _=>rfl,λb T=>by rw [show (Ctx.mk w M _ _ J).ob=pk2.ob from rfl,hob] at T;cases T⟩
 glob:=y.globw V
 owns:=λk wd l h=>by obtain ⟨⟨l,I⟩,_⟩:=F k _ h;cases I
theorem SRel.unroot {rs:AS} {a':Act} {w w':World} {df:List Deferred} (A:Inv cx M κ tip s a w) (h0:cx.M0.le M) (J:cx.pk.l=[]) 
  (hv:∀ e∈pk2,κ e.1=some e.2/\∃ l,s.blk e.1=some (.var l)) (hob:pk2.ob=[]) (h:SRel ⟨w,M,pk2,nt,df⟩ rs a' w'):SRel ⟨cx.w0,cx.M0,cx.pk,nt,df⟩ rs a' w':=by
 obtain ⟨M',bf,U,bg,cc,d⟩:=h;have F:∀ b∈pk2.l.map (·.2),cx.w0.heap.size<=b:=λb D=>by
  obtain ⟨e,he,rfl⟩:=Q2.1 D;obtain ⟨L,l,Y⟩:=hv e he;obtain ⟨b,_,_,_,E,_,_,_,_,_,I⟩:=A.vars _ l Y;rw [L] at E;cases E;rcases I with I | I
  ·exact I
  ·simp [Ctx.pb,J] at I
 have v:=A.fr.size;refine ⟨M',bf,U,h0.trans' bg,by simp [J],{
  defers:=d.defers
  size:=d.size
  fr:=⟨d.fr.os.trans A.fr.os,d.fr.tape.trans A.fr.tape,d.fr.output.trans A.fr.output,Qt v d.fr.size,λb D be bd=>?_⟩
  mem:=d.mem
  env:=d.env
  vars:=λk l h=>?_
  bufs:=λk c h=>?_
  inj:=d.inj
  dom:=d.dom
  old:=⟨λb o D=>(d.old.1 b o (Qy D v)).trans (A.old.1 b o D),A.old.2⟩
  glob:=⟨d.glob.1,A.glob.2⟩
  owns:=λk wd l h=>?_ }⟩
 ·rw [d.fr.block b (Qy D v) (λG=>by have:=F b G;simp only at D;omega) (λG=>by rw [show (Ctx.mk w M pk2 nt df).ob=pk2.ob from rfl,hob] at G;cases G)];exact A.fr.block b D be bd
 ·obtain ⟨b,y,e,W,E,S,V,T,q5,q6,I⟩:=d.vars k l h;exact ⟨b,y,e,W,E,S,V,T,q5,q6,.inl (I.elim (λh=>Qt v h) (F b))⟩
 ·obtain ⟨L,Y,h3,h4⟩:=d.bufs k c h;refine ⟨L,Y,h3,h4.imp id ?_⟩;rintro ⟨b,n,cap,y,e,W,E,S,V,T⟩;exact ⟨b,n,cap,y,e,W,E,S,Qt v V,T⟩
 ·rcases d.owns k wd l h with h0 | ⟨L,Y⟩
  ·exact .inl h0
  refine .inr ⟨L,Y.imp id ?_⟩;rintro ⟨b,n,cap,y,e,W,E,S,V,T⟩;exact ⟨b,n,cap,y,e,W,E,S,.inl (V.elim (Qt v) λG=>by rw [show (Ctx.mk w M pk2 nt df).ob=pk2.ob from rfl,hob] at G;cases G.1),T⟩
def DfQ (P:Program) (fn:Func) (fc:FuncId) (cs:List AV) (rs:AS) (cx:Ctx):Exit->AS->Prop:=λe s=>(e=.ret∨e=.normal)/\∃ (E:AS) (av:AV) (us:List AV) (B:List (Nat×List AV)) (bout:LB) (ρ:Nat->Nat) (bc bB:LB) (O:GO) (fr:List Nat),
 Imp cx.pk s E/\OkW P fc us.length (mkS (argA 0 us) (bV B++oV O)) (mkS [(0,av)] bout)/\GVs O E ρ (B.map (·.1)) cs us bc/\GB O E ρ (B.map (·.1)) B bB/\((∀ e∈oI O,E.blk e.1=some e.2)/\(∀ k∈fr,E.blk k=none)/\(∀ j∈B.map (·.1),j<BIG)/\(O.isSome=true->∀ j∈bout.map (·.1),BIG<=j->BIG<=ρ j))/\(∀ j∈bout.map (·.1),∀ j'∈bout.map (·.1),ρ j=ρ j'->j=j') /\
  (∀ j∈B.map (·.1),∃ l',lk bout j=some (.var l'))/\(∀ j∈bout.map (·.1),j∈B.map (·.1)∨ρ j∈fr)/\∀ cx3:Ctx,PK cx3 []->vY P fn cx3 (inS (kill E O) ρ bout) rs
def DfK (P:Program) (te:TE) (fn:Func) (n:Nat) (rest:Code) (rs:AS) (x:Operand) (s1:AS):Prop:=∃ (env2:LV) (B0:List (Nat×List AV)) (fc:FuncId) (cs:List AV),
 s1.get te 0 x=some (.fnv (fc+1000000) cs)/\Le (mkS env2 (bV B0)) s1/\((∀ v∈cs,∃ k∈B0.map (·.1),v=.ptr k 0)/\∀ j∈B0.map (·.1),j<BIG) /\
  ∀ cx2:Ctx,cx2.nt=n->PK cx2 (B0.map (·.1))->awp P cx2 rest (DfQ P fn fc cs rs cx2) (mkS env2 (bV B0))
theorem zLq {rs:AS} {id n:Nat} {rest:Code} (hdf:cx.df=[]) (hpk:cx.pk.l=[]) (hnt:cx.nt=n)
  (K:ops.toList=ops.toList.dropLast++[⟨none,.defer ⟨.value x,#[],#[]⟩,ty,pos,af,none⟩]) (h:RK P ops ops.toList.dropLast s λs' ms=>fW n ms=true/\DfK P te fn n rest rs x s') :
  zPj P cx (.seq (.region id ops false) rest) Q (XQ P fn cx rs) s:=by
 intro a w hs;generalize ops.toList.dropLast=l at K h;obtain ⟨s1,ms,h1,h2,env2,B0,fc,cs,hx,hle,⟨hcs,hB0⟩,hrest⟩:=h;refine wp_seq (wp_region ?_);have hsz:ops.size=l.length+1:=by rw [<- Ql,K];simp
 rw [hsz,List.range_succ];have N:=zQr (ops:=ops) (cx:=cx) (is:=[l.length]) (Q:=Exit.then (rest.wp P λe W w'=>(∃ s',SRel cx s' W w'/\Q e s')∨XQ P fn cx rs e W w') λe W w'=>(∃ s',SRel cx s' W w'/\Q e s')∨XQ P fn cx rs e W w') (λa1 w1 hs1=>?_) h1 (by rw [hnt];exact zGn h2) 0 (λi hi=>by
  rw [Nat.zero_add,<- Array.getElem?_toList,K,List.getElem?_append_left hi]) a w hs
 ·simpa using N
 have ho:ops[l.length]? = some ⟨none,.defer ⟨.value x,#[],#[]⟩,ty,pos,af,none⟩:=by
  rw [<- Array.getElem?_toList,K];simp
 rw [wpOps_cons];unfold wpOp;rw [ho];show if Region.wanted _ _ then _ else _
 rw [if_pos (by simp [Region.wanted])];refine .inl ?_;obtain ⟨M,κ,tip,h0,hp,hi⟩:=hs1;have hx':=yD hi (yJ hx s1 (zN hx));obtain ⟨J,hev,g1,g2⟩:∃ J:Array Value,a1.eval x=.func (.func fc) #[] J/\J.size=cs.length/\∀ (j:Nat) (q:AV),cs[j]? = some q->RepA M κ tip s1.blk q (J.getD j undef):=by
  generalize a1.eval x=z at hx';cases hx' with
  | fnv _ _ J g1 g2=>
   refine ⟨J,?_,g1,g2⟩;have:Q6 (fc+1000000) 1000000=false:=by rw [Qf];intro e;have:=Q0 e;omega
   simp [mkF,this]
 have hrun:(execOp a1.eval ⟨none,.defer ⟨.value x,#[],#[]⟩,ty,pos,af,none⟩).run P w1=.ok (.defer ⟨.fn (.func fc) J,#[]⟩) w1:=by
  simp [execOp,resolve,hev,Deferred.ofValue]
 unfold Oper.wp;rw [hrun];have hd0:a1.defers=[]:=by rw [hi.defers,hdf]
 rw [Oper.upon_defer,hd0];show rest.wp P _ _ _;have T:=hi.less hle;generalize hκ2:(λk=>if ((mkS env2 (bV B0)).blk k).isSome then κ k else none)=L at T;have S:∀ j∈B0.map (·.1),∃ b Y,κ j=some b/\L j=some b/\b<w1.heap.size/\(mkS env2 (bV B0)).blk j=some (.var Y):=λj hj=>by
  obtain ⟨Y,hus⟩:=zAb hj;obtain ⟨b,_,_,_,V,_⟩:=T.vars j Y hus;refine ⟨b,Y,?_,V,T.lt V,hus⟩;rw [<- hκ2] at V;simp only at V;split at V
  ·exact V
  ·cases V
 let pk2:PKs:=⟨(B0.map (·.1)).map λj=>(j,(L j).getD 0),[],λe d=>by
  obtain ⟨j,hj,rfl⟩:=Q2.1 d;exact hB0 j hj⟩
 have D:∀ e∈pk2,L e.1=some e.2/\e.2<w1.heap.size/\e.1∈B0.map (·.1):=λe d=>by
  obtain ⟨j,hj,rfl⟩:=Q2.1 d;obtain ⟨b,_,_,h3,h4,_⟩:=S j hj;simp only [h3,Qs];exact ⟨trivial,h4,hj⟩
 have hroot:=T.root (by simp [hpk]) (pk2:=pk2) (λk b hb=>by
  obtain ⟨g3,Y,g4⟩:=zEc hb;exact ⟨⟨Y,g4⟩,_,Q2.2 ⟨k,g3,rfl⟩⟩) (λe d=>(D e d).1) rfl [⟨.fn (.func fc) J,#[]⟩]
 refine wp_mono (hrest ⟨w1,M,pk2,cx.nt,[⟨.fn (.func fc) J,#[]⟩]⟩ hnt (λe d=>(D e d).2.2) _ w1 ⟨M,L,tip,Mem.le_refl _,λe d=>⟨(D e d).1,(D e d).2.1⟩,hroot⟩) ?_;rintro e W w' ⟨sE,hsE,d,E,av,Y,B,bout,ρ,bc,bB,O,fr,himp,hokw,hgl,ba,⟨hoi,hfr,hDb,hbg⟩,hinj,hout,hnew,hres⟩;obtain ⟨M',κ',tip',h0',hp',hi'⟩:=himp _ W w' rfl hsE;refine .inr ⟨d,?_⟩;rw [show W.defers=[⟨.fn (.func fc) J,#[]⟩] from hi'.defers];have hokw':=hokw;obtain ⟨fn',body',_,k1,k2,k3,_⟩:=hokw';have k2':fn'.body≠none:=by intro e;simp [e] at k2
 have k3':fn'.name ≠ "runtime.NumGoroutine":=by intro e;simp [e] at k3
 refine leaves_cons (f:=fc) (args:=J) (by simp) (by simp [invoke,callFunc,k1,k2',k3']) ?_;obtain ⟨c1,c2⟩:=hgl.get;have hg:GR O E ρ (B.map (·.1)) (bc++(bB++oI O)) M' κ' tip' E.blk Y J:=by
  refine ⟨by rw [g1,c1],λj u hu=>?_⟩;obtain ⟨v,b,g3,g4,g5⟩:=c2 j u hu;refine ⟨v,b,.f g4,λe d=>Q5.2 (.inl (g5 e d)),?_⟩;obtain ⟨k,hk,rfl⟩:=hcs v (List.mem_of_getElem? g3);obtain ⟨b0,us0,V,q2,_⟩:=S k hk;have h5:=g2 j _ g3;generalize J.getD j undef=y at h5;cases h5 with
  | ptr _ _ b1 l1 q3 q4=>
  rw [V] at q3;cases q3;have hκ':κ' k=some b0:=by
   have:=(hp' (k,(L k).getD 0) (Q2.2 ⟨k,hk,rfl⟩)).1;simpa [q2] using this
  cases g4 with
  | p h=>simp [AS.rd] at h
  | ptr hρ hD=>
   obtain ⟨us',hus⟩:=zAb hD;obtain ⟨as,b'',r1,_⟩:=ba.get hus;have:=ba.blks _ r1;simp only [hρ] at this;exact .ptr k 0 b0 as hκ' this
 obtain ⟨pk,κ3,tip3,hinv,hpk3,hafter⟩:=yC4 (fr:=fr) (av:=av) hp' hi' (λe d=>by
  simp only [Q5] at d;rcases d with d | d | d
  ·exact hgl.blks e d
  ·exact ba.blks e d
  ·exact hoi e d) hfr hg ba (λe d=>by simp [d]) (λe d=>by simp [d]) hinj hout hnew hDb hbg
 refine (hokw.callsD hinv hpk3 _).mono ?_;rintro e2 u' w'' ⟨rfl,v,rfl,hr⟩;obtain ⟨M2,κ4,tip4,V,q2,q3,q4⟩:=hafter v w'' hr;have N:SRel ⟨w1,M,pk2,cx.nt,[⟨.fn (.func fc) J,#[]⟩]⟩ (inS (kill E O) ρ bout) W w'':=⟨M2,κ4,tip4,h0'.trans' V,q2,q3⟩;have hfin2:=N.unroot T h0 hpk (λe d=>⟨(D e d).1,let ⟨_,Y,_,_,_,h⟩:=S e.1 (D e d).2.2;⟨Y,h⟩⟩) rfl;obtain ⟨v2,hv2,hr2⟩:=hres _ (by intro k hk;simp [hpk] at hk) W w'' hfin2;exact ⟨v2,hv2,v2,rfl,hr2⟩
theorem zCn (h:PK cx []):cx.pk.l=[]:=List.eq_nil_iff_forall_not_mem.2 λk d=>by have:=h k d;simp_all
theorem vY.imp {rs:AS} (h:Imp cx.pk s s') (k:vY P fn cx s' rs):vY P fn cx s rs:=λa w y=>k a w (h cx a w rfl y)
theorem xoq {J:Type} {c:Code} (f:J->Exit×AS) (j:J) (h:zPj P cx c (OQ cx f j) X s) (k:Q (f j).1 (f j).2):zPj P cx c Q X s:=λa w A=>
 wp_mono (h a w A) λe y w' h=>h.imp (λ⟨s',v,d⟩ =>⟨(f j).2,d.snd cx y w' rfl v,by rw [d.fst];exact k⟩) id
theorem zHd {rs:AS} (E:AS) (U:P.funcs[f]? = some fn) (V:fn.body=some body) (G:(fn.name == "runtime.NumGoroutine")=false) (J:na<=fn.ntmps) (F:∀ k,k<BIG->(as.blk k).isSome=true->k∈ks)
  (T:∀ cx:Ctx,PK cx ks->vY P fn cx E rs) (h:∀ cx:Ctx,cx.nt=fn.ntmps->PK cx ks->cx.df=[]->zPj P cx body (OQ cx (λ_:Unit=>(.ret,E)) ()) (XQ P fn cx rs) as):Ok P f na as rs:=
 yBd U V G J F λcx S N Z=>xoq _ _ (h cx S N Z) ⟨.inl rfl,T cx N⟩
theorem zLk (v:gE s env=vE id env) (h:gB s id blk=vB id blk) (y:kC (lk blk) env=true) (A:uY (lk blk) blk=true):Le (mkS env blk) s:=by
 rw [zNs,zNr] at v;rw [zOc,zN7] at h;exact Le.mk' (zMu _ v) (zL2 _ h) y A
def zG8 (ks:List Nat):List AV->Bool
 | []=>ks.all (λk=>Q6 k BIG)
 | .ptr k o :: r=>Q3 o 0&&(ks.any (Q3 k)&&zG8 ks r)
 | _ :: _=>false
theorem zFi:∀ {cs:List AV},zG8 ks cs=true->∀ v∈cs,∃ k∈ks,v=.ptr k 0
 | [],_,v,h=>by simp_all
 | c :: r,h,v,y=>by
  cases c<;>simp only [zG8,Q9,reduceCtorEq] at h;obtain ⟨D,F,E⟩:=h;rcases Q8.1 y with rfl | y
  ·simp_all
  ·exact zFi E v y
theorem zF6:∀ {cs:List AV},zG8 ks cs=true->∀ k∈ks,k<BIG
 | [],h,k,v=>Q0 ((Qb.1 h) k v)
 | c :: r,h,k,v=>by
  cases c<;>simp only [zG8,Q9,reduceCtorEq] at h;exact zF6 h.2.2 k v
theorem mE (h:zG8 ks cs=true):(∀ v∈cs,∃ k∈ks,v=.ptr k 0)/\∀ k∈ks,k<BIG:=⟨zFi h,zF6 h⟩
theorem dfq {fc:FuncId} {rs:AS} {e:Exit} (E:AS) (h:List (Nat×Nat)) (L:e=.ret∨e=.normal) (hi:Imp cx.pk s E)
  (Y:OkW P fc na (mkS (argA 0 us) (bV B)) (mkS [(0,av)] (bV B2++[]))) (J:na=us.length) (hl:GVs none E (shm 0 h) (B.map (·.1)) cs us bc) (hB:GB none E (shm 0 h) (B.map (·.1)) B bB) (Z:(zYr (B.map (·.1)) (B2.map (·.1))&&(B.all (λe=>Q6 e.1 BIG)&&zW0 (kR (shm 0 h) (bV B2))))=true) (hr:∀ A:Ctx,PK A []->vY P fn A (inS E (shm 0 h) (bV B2)) rs):DfQ P fn fc cs rs cx e s:=by
 subst J;simp only [Q9] at Z;obtain ⟨G,h0,K⟩:=Z;rw [kQ] at K;have G:=zMh G;refine ⟨L,E,av,us,B,bV B2,shm 0 h,bc,bB,none,[],hi,by simpa [oV] using Y,hl,hB,⟨by simp [oI],by simp,λj v=>?_,by simp⟩,?_,λj v=>?_,λj v=>?_,hr⟩
 ·obtain ⟨e,L,rfl⟩:=Q2.1 v;exact Q0 ((Qb.1 h0) e L)
 ·have:(bV B2).map (λe=>shm 0 h e.1)=((bV B2).map (·.1)).map (shm 0 h):=by simp
  rw [this] at K;exact zI8 K
 ·rw [G] at v;exact zAb v
 ·rw [zI2] at v;rw [G];exact .inl v
theorem zXz {fc:FuncId} {rs:AS} {e:Exit} (E:AS) (μ:List (Nat×Nat)) (he:e=.ret∨e=.normal) (hi:Imp cx.pk s E)
  (hw:OkW P fc na (mkS (argA 0 us) (bV B++[(BIG,qO c)])) (mkS [(0,av)] (bV B2++bn))) (ho:E.blk k0=some (qO c)) (hq:qO c=.own wd (ps.map .p)) (hna:na=us.length) (hl:GVs (some (k0,wd,ps)) E (shm 0 μ) (B.map (·.1)) cs us bc) (hB:GB (some (k0,wd,ps)) E (shm 0 μ) (B.map (·.1)) B bB) (hc:zQ5 E 0 na us.length μ B B2 bn=true) (hg:(kR id (bV B2++bn)).all (λj=>(lk μ j).isNone||Q6 j BIG)=true) (hr:∀ cx3:Ctx,PK cx3 []->vY P fn cx3 (inS (E.setb k0 zKu) (shm 0 μ) (bV B2++bn)) rs):DfQ P fn fc cs rs cx e s:=by
 obtain ⟨c1,c2,c3,c4,c5,c6⟩:=zCq hc;subst hna;rw [kQ] at hg;rw [hq] at hw ho;exact ⟨he,E,av,us,B,bV B2++bn,shm 0 μ,bc,bB,some (k0,wd,ps),bn.map λe=>shm 0 μ e.1,hi,hw,hl,hB,⟨by simpa [oI] using ho,c2,c6,λ_=>zRx (by simpa using hg)⟩,c3,c4,c5,hr⟩
end
section
theorem zQs {Q:Exit->Act->World->Prop} {c:Code} (b:Frame) (k:List Item) (cs:List Frame):∀ n a w,Code.rounds P c Q n a w ->
   ∃ e Z w',Q e Z w'/\Arrives P (lone (b.at a (.code c :: .inLoop c :: k)) cs w) b k cs e Z w':=by
 intro n;induction n with
 | zero=>intro a w h;exact h.elim
 | succ n ih=>
  intro a w h;obtain ⟨e,A,v,I,y⟩:=h b (.inLoop c :: k) cs;cases e with
  | normal=>
   obtain ⟨L,S,N,G,E⟩:=ih A v I;exact ⟨L,S,N,G,.of_steps (Steps.trans y (.one step_inLoop)) E⟩
  | exit id=>exact ⟨_,A,v,I,.pass rfl (λ_ _=>.inl (by simp)) y⟩
  | goto l=>exact ⟨_,A,v,I,.pass (x:=.inLoop c) rfl (λ_ _=>.inl (by simp)) y⟩
  | ret=>exact ⟨_,A,v,I,.pass (x:=.inLoop c) rfl (λ_ _=>.inl (by simp)) y⟩
  | panic ch=>exact ⟨_,A,v,I,.pass rfl (λ_ _=>.inl (by simp)) y⟩
  | outgrown=>exact ⟨_,A,v,I,.pass rfl (λ_ _=>.inl (by simp)) y⟩
theorem yA6 {Q:Exit->Act->World->Prop} {w:World} {c:Code} (h:c.wp P (Exit.then (λa' w'=>∃ n,Code.rounds P c Q n a' w') Q) a w):(Code.loop c).wp P Q a w:=by
 intro b k cs;obtain ⟨e,D,y,K,A⟩:=h b (.inLoop c :: k) cs;cases e with
 | normal=>
  obtain ⟨n,hn⟩:=K;obtain ⟨S,N,T,J,G⟩:=zQs b k cs n D y hn;exact ⟨S,N,T,J,.of_steps (.head step_loop (Steps.trans A (.one step_inLoop))) G⟩
 | exit id=>exact ⟨_,D,y,K,.of_steps (.one step_loop) (.pass (x:=.inLoop c) rfl (λ_ _=>.inl (by simp)) A)⟩
 | goto l=>exact ⟨_,D,y,K,.of_steps (.one step_loop) (.pass rfl (λ_ _=>.inl (by simp)) A)⟩
 | ret=>exact ⟨_,D,y,K,.of_steps (.one step_loop) (.pass rfl (λ_ _=>.inl (by simp)) A)⟩
 | panic ch=>exact ⟨_,D,y,K,.of_steps (.one step_loop) (.pass rfl (λ_ _=>.inl (by simp)) A)⟩
 | outgrown=>exact ⟨_,D,y,K,.of_steps (.one step_loop) (.pass (x:=.inLoop c) rfl (λ_ _=>.inl (by simp)) A)⟩
def awl (P:Program) (cx:Ctx) (c:Code) (Q:Exit->AS->Prop) (s:AS):Prop:=∀ a w,SRel cx s a w->∃ n,Code.rounds P c (λe a' w'=>∃ s',SRel cx s' a' w'/\Q e s') n a w
theorem zXd {c:Code} (h:awp P cx c (zK9 (awl P cx c Q) Q) s):awp P cx (.loop c) Q s:=λa w D=>
 yA6 (wp_mono (h a w D) λe E w' ⟨s',y,v⟩ =>by
  cases e with
  | normal=>exact v E w' y
  | _=>assumption)
theorem zZi {X Y:Type} {step:X->Option (X ⊕ Y)} {n:Nat} {x0:X} {y:Y} (E:X->AS) (f:Y->Exit×AS) (D:zP step n x0=some y) (hi:Imp cx.pk s (E x0)) (K:∀ y,(f y).1≠.normal)
  (hb:∀ x r,step x=some r->awp P cx body (OQ cx (LF E f) r) (E x)) (k:Q (f y).1 (f y).2):awl P cx body Q s:=by
 have L:∀ (n:Nat) (x0:X),zP step n x0=some y->∀ a w,SRel cx (E x0) a w->Code.rounds P body (λe G w'=>∃ s',SRel cx s' G w'/\Q e s') n a w:=by
  intro n;induction n with
  | zero=>intro x0 D;simp [zP] at D
  | succ n ih=>
   intro x0 D a w N;simp only [zP] at D;cases F:step x0 with
   | none=>simp [F] at D
   | some r=>
    refine wp_mono (hb x0 r F a w N) ?_;rintro e G w' ⟨s',T,J⟩;cases r with
    | inl x'=>
     rw [F] at D;have I:e=.normal:=J.fst;subst I;exact ih x' D G w' (J.snd cx G w' rfl T)
    | inr y2=>
     rw [F] at D;cases D;have I:e=(f y).1:=J.fst;have Z:∃ s',SRel cx s' G w'/\Q e s':=⟨(f y).2,J.snd cx G w' rfl T,I▸k⟩;have S:=K y;rw [<- I] at S;cases e with
     | normal=>exact absurd rfl S
     | _=>exact Z
 exact λa w N=>⟨n,L n x0 D a w (hi cx a w rfl N)⟩
end
section
theorem yFc {o:Oper} {k:IntKind} {a b:Int} (S:o.op=.call { callee:=.builtin .max,args:=#[x,y],argTypes:=#[t,t'] }) (E:s.get te t x=some (.p (.int k a))) (F:s.get te t' y=some (.p (.int k b))) :
  VA P o s (opS x (.p (.int k a))++opS y (.p (.int k b))) [] (.p (.int k (if a<b then b else a))):=by
 refine ⟨?_,yI (zN E) (zN F),by simp⟩;intro cx M T tip s' ac w I G _;have K:=rep_int (repA_pv (yD I (yJ E s' (yF G))));have L:=rep_int (repA_pv (yD I (yJ F s' (zZ G))));refine ⟨.int k _,?_,.p _ _ (.int _ _)⟩;simp [execOp,S,K,L,resolve,invoke,builtin,Builtin.max_,Builtin.max2]
end
section
variable [T:nZ P] 
theorem RK.mx {kk:IntKind} {a b:Int} (D:(s.get T.te t x,s.get T.te t2 y)=(some (.p (.int kk a)),some (.p (.int kk b)))) (k:VK P ops r s K d (opS x (.p (.int kk a))++opS y (.p (.int kk b))) ([]) (.p (.int kk (if a<b then b else a)))):RK P ops (⟨some d,.call ⟨.builtin .max,#[x,y],#[t,t2]⟩,ty,pos,af,none⟩:: r) s K:=have ⟨N,L⟩:=pq D;RK.va rfl rfl (yFc rfl N L) k
end
section
theorem yEw {B:NB} {n:Nat} {arr:Array Value} (D:c.nilOf=true) (h:CR M κ tip B (sQ [c] n) arr):CR M κ tip B (Qg n (.p c)) arr:=by
 have K:Rep M c (.slice none 0 0):=by
  unfold PV.nilOf at D;split at D
  ·exact .bytes0
  ·exact .sl0 _
  ·cases D
 have L:sQ [c] n=Qg n (.nl c):=by
  have:zA c=.nl c:=by unfold zA;rw [D];rfl
  simp [sQ,this]
 rw [L] at h;refine ⟨by simpa using h.1,λj q A=>?_⟩;rw [List.getElem?_replicate] at A;split at A
 ·cases A;have:=h.2 j (.nl c) (by simp_all);generalize arr.getD j _=v at this ⊢;cases this;exact .p _ _ K
 ·cases A
theorem yBa {o:Oper} {tl tc:TypeId} {n:Int} (F:yV P te) (hd:o.dst=some d) (ho:o.op=.makeSlice t x y) (ht:(te t).map (·.ty)=some (.slice e)) (K:te e=some ei) (hz:ei.z.length=ei.w) (hx:s.get te tl x=some (.p (.int kl n))) (Z:s.get te tc y=some (.p (.int kc n)))
  (h0:0<=n) (hb:n.toNat*ei.b<=140737488355328) (N:0<ei.b) (hk:s.blk d=none) (T:ei.z=[c]) (hc:c.nilOf=true):SA P o s ⟨opS x (.p (.int kl n))++opS y (.p (.int kc n)),[],[d],some (d,some (.ref d 0 n.toNat)),[(d,.var (Qg n.toNat (.p c)))]⟩:=by
 refine ⟨zD6 hd ?_,yI (zN hx) (zN Z),by simp,by simp_all⟩;intro cx M κ tip s' a w W hr _;have h1:=rep_int (repA_pv (yD W (yJ hx s' (yF hr))));have h2:=rep_int (repA_pv (yD W (yJ Z s' (zZ hr))));obtain ⟨info,z,i1,i2,i3,i4,i5⟩:=(F e ei K).info;have hu:=yX F ht;have J:=zCw F K hz i1 i4 (M:=M) (κ:=κ) (tip:=tip) (B:=s'.blk) n.toNat;rw [T] at J;have bg:n.toNat<=n.toNat*ei.b:=Nat.le_mul_of_pos_right _ N;have S:(info.bytes:Int)*n<=281474976710656:=by
  rw [i3];have:((n.toNat*ei.b:Nat):Int)<=140737488355328:=by omega
  rw [Int.natCast_mul,Int.toNat_of_nonneg h0,Int.mul_comm] at this;omega
 have D:=run_make (P:=P) w t e info z hu i1 i4 kl kc n n h0 (Int.le_refl _) S (by omega);exact ⟨_,e,by rw [i2] at D;simp [execOp,ho,h1,h2,D],yEw hc J⟩
end
section
variable [T:nZ P] 
theorem RK.mrN (f:α->PV) (u:α) {b:Nat} {n:Int} (h:mkN b n=some m) (v:((T.te t).map (·.ty),T.te e,ei.b,Q6 0 b,ei.z.length,s.get T.te 0 x,s.get T.te 0 y,s.blk d,ei.z,(f u).nilOf)=(some (.slice e),some ei,b,true,ei.w,some (.p (.int kl n)),some (.p (.int kc n)),none,[f u],true)) (k:BK P ops r s K d (opS x (.p (.int kl n))++opS y (.p (.int kc n))) [] [d] d (.var ((Qg m u).map λy=>AV.p (f y))) (.ref d 0 m)):RK P ops (⟨some d,.makeSlice t x y,ty,pos,af,none⟩:: r) s K:=have ⟨ht,v⟩:=pq v;have ⟨he,v⟩:=pq v;have ⟨hb,v⟩:=pq v;have ⟨U,v⟩:=pq v;have ⟨hz,v⟩:=pq v;have ⟨hx,v⟩:=pq v;have ⟨hy,v⟩:=pq v;have ⟨hk,v⟩:=pq v;have ⟨N,L⟩:=pq v;by
 obtain ⟨h0,h1,rfl⟩:=zFo h;subst hb;have be:=Q0 U;have:=yBa (o:=⟨some d,.makeSlice t x y,ty,pos,af,none⟩) T.ok rfl rfl ht he hz hx hy h0 h1 (by omega) hk N L;rw [show Qg _ _=(Qg n.toNat u).map λy=>AV.p (f y) by simp] at this;exact RK.sb rfl this k
end
section
variable {v:AV} 
theorem zJ0 {c:α->List PV} (hc:∀ a,(c a).length=w):∀ (l:List α) (i:Nat) (u:α),l[i]? = some u->((l.flatMap c).drop (i*w)).take w=c u
 | [],i,u,h=>by simp at h
 | a :: r,0,u,h=>by
  simp at h;subst h;simp only [Qp,Nat.zero_mul,List.drop_zero];rw [List.take_append_of_le_length (by rw [hc];exact Qm _),List.take_of_length_le (by rw [hc];exact Qm _)]
 | a :: r,i+1,u,h=>by
  simp only [Qp];rw [List.drop_append,hc,List.drop_eq_nil_of_le (by rw [hc,Qe];omega),List.nil_append,show (i+1)*w - w=i*w by rw [Qe];omega];exact zJ0 hc r i u (by simpa using h)
theorem zK4 {c:α->List PV} (hc:∀ a,(c a).length=w):∀ (l:List α),(l.flatMap c).length=l.length*w
 | []=>by simp
 | a :: r=>by simp only [Qp,Qn,hc,zK4 hc r,Qq,Qe];omega
theorem ixF (hok:yV P te) {o:Oper} {c:α->List PV} {l:List α} {n:Nat} {i:Int} (h:idx l i=some u) (ho:o.op=.index t x y) (ht:(te t).map (·.ty)=some (.arr n e)) (he:te e=some ei) (hne:ei.known=true) (hx:s.get te t x=some v) (hp:s.rd v=some (.agg (l.flatMap c),bs)) (hy:s.get te 0 y=some (.p (.int .i64 i))) (hn:Qh l.length n=true) (hag:ei.isAgg=true) (hc:∀ a,(c a).length=ei.w) :
  VA P o s (opS x v++opS y (.p (.int .i64 i))) bs (.p (.agg (c u))):=by
 obtain ⟨h0,h1⟩:=fX h;have hlt:i.toNat<l.length:=(List.getElem?_eq_some_iff.1 h1).1;have hn':=yW hn;refine zN1 hok ho ht he (zOh hne) hx hp hy h0 (by omega) ?_;rw [hag];have hb:Qh (i.toNat*ei.w+ei.w) (l.flatMap c).length=true:=by
  refine Nat.ble_eq_true_of_le ?_;rw [zK4 hc];have:i.toNat*ei.w+ei.w=(i.toNat+1)*ei.w:=by rw [Qe];omega
  rw [this];exact Qd _ hlt
 simp only [iO,cond_true,zJ0 hc l _ u h1,hb];try rfl
end
section
variable [T:nZ P] {v:AV} 
theorem RK.ixF {c:α->List PV} {n:Nat} {l:List α} {i:Int} (h:idx l i=some u) (ht0:((T.te t).map (·.ty),T.te e,ei.known,s.get T.te t x,s.rd v,Qh l.length n,ei.isAgg)=(some (.arr n e),some ei,true,some v,some (.agg (l.flatMap c),bs),true,true)) (hc:∀ a,(c a).length=ei.w) (hy:s.get T.te 0 y=some (.p (.int .i64 i)))
  (k:VK P ops r s K d (opS x v++opS y (.p (.int .i64 i))) bs (.p (.agg (c u)))):RK P ops (⟨some d,.index t x y,ty,pos,af,none⟩:: r) s K:=have ⟨ht,ht0⟩:=pq ht0;have ⟨he,ht0⟩:=pq ht0;have ⟨hne,ht0⟩:=pq ht0;have ⟨hx,ht0⟩:=pq ht0;have ⟨hp,ht0⟩:=pq ht0;have ⟨hn,hag⟩:=pq ht0;RK.va rfl rfl (Go.Sw.ixF T.ok h rfl ht he hne hx hp hy hn hag hc) k
theorem RK.mbS (f:α->PV) (l:List α) {b n:Nat} (hlen:l.length=n) (hn:Qh (n*b) 140737488355328=true) (ht:(T.te t).map (·.ty)=some (.slice e)) (he:T.te e=some ei) (hbb:ei.b=b) (hb1:Q6 0 b=true) (hz:ei.z.length=ei.w) (hw0:Q6 0 ei.w=true) (hx:s.get T.te 0 x=some (.p (.int kl (n:Nat)))) (hy:s.get T.te 0 y=some (.p (.int kc (n:Nat)))) (hk:s.blk d=none)
  (hzs:∀ s:AS,s.rdL (sQ ei.z n)=some (flatCells (l.map f),[])) (hl:(l.map f).all (λp=>Q3 p.cells.length ei.w)=true) (k:BK P ops r s K d (opS x (.p (.int kl (n:Nat)))++opS y (.p (.int kc (n:Nat)))) [] [d] d (.buf (.sl ei.w (l.map f))) (.buf d l.length)):RK P ops (⟨some d,.makeSlice t x y,ty,pos,af,none⟩:: r) s K:=by
 have hb2:=Q0 hb1;have hw2:=Q0 hw0;have hl':dA ei.w (.sl ei.w (l.map f)) (flatCells (l.map f)):=.sl _ λp hp=>Q1 ((Qb.1 hl) p hp);rw [hlen] at k;have:=Go.Sw.sa_mkb (P:=P) (o:=⟨some d,.makeSlice t x y,ty,pos,af,none⟩) (n:=(n:Nat)) (c:=.sl ei.w (l.map f)) T.ok rfl rfl ht he hz hw2 hx hy (by omega) (by subst hbb;simpa using Q0 hn) (by omega) (λs=>by simpa using hzs s) hl' (by simp [Qi,hlen]) hk;simp only [Int.toNat_natCast] at this;exact RK.sb rfl this k
end
section
variable {rs:AS}
theorem zW5 (hok:yV P te) {rv1 rv2 rv3 rv4 rv5:ResultVar} {a1 a2 a3 a4 a5:AV} (hres:fn.results=#[rv1,rv2,rv3,rv4,rv5]) (h1:RV te s rv1 a1) (h2:RV te s rv2 a2) (h3:RV te s rv3 a3) (h4:RV te s rv4 a4) (h5:RV te s rv5 a5) (h:Imp cx.pk { env:=lk [(0,.tu [a1,a2,a3,a4,a5])],blk:=s.blk } rs):vY P fn cx s rs:=by
 intro a w hs;have hs':=hs;obtain ⟨M,κ,tip,h0,hp,hi⟩:=hs';obtain ⟨x1,hx1,_⟩:=h1.run hok hi;obtain ⟨x2,hx2,_⟩:=h2.run hok hi;obtain ⟨x3,hx3,_⟩:=h3.run hok hi;obtain ⟨x4,hx4,_⟩:=h4.run hok hi;obtain ⟨x5,hx5,_⟩:=h5.run hok hi;refine ⟨.tuple #[x1,x2,x3,x4,x5],?_,h { cx with nt:=1,df:=[] } _ _ rfl (hs.result λM κ tip hi=>?_)⟩
 ·simp [aU,hres,hx1,hx2,hx3,hx4,hx5]
 ·obtain ⟨y1,hy1,r1⟩:=h1.run hok hi;obtain ⟨y2,hy2,r2⟩:=h2.run hok hi;obtain ⟨y3,hy3,r3⟩:=h3.run hok hi;obtain ⟨y4,hy4,r4⟩:=h4.run hok hi;obtain ⟨y5,hy5,r5⟩:=h5.run hok hi;rw [hx1] at hy1;cases hy1;rw [hx2] at hy2;cases hy2;rw [hx3] at hy3;cases hy3;rw [hx4] at hy4;cases hy4;rw [hx5] at hy5;cases hy5;refine .tu _ _ rfl (λj q hq=>?_)
  match j,hq with
  | 0,hq=>cases hq;exact r1
  | 1,hq=>cases hq;exact r2
  | 2,hq=>cases hq;exact r3
  | 3,hq=>cases hq;exact r4
  | 4,hq=>cases hq;exact r5
  | j+5,hq=>simp at hq
end
end Go.Sw
