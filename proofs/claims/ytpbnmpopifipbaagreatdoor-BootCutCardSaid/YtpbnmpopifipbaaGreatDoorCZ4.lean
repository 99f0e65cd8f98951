/- what a loss of power at a start leaves -/
import Derived.Test.YtpbnmpopifipbaaGreatDoorCZ3
import Derived.Defers
set_option linter.all false
open Nat renaming le_of_ble_eq_true -> Q0, eq_of_beq_eq_true -> Q1, beq -> Q5, blt -> Qc, mul_le_mul_right -> Qd, add_mul -> Qf, ble -> Qh, le_refl -> Qm, eq_of_mul_eq_mul_right -> Qo, le_trans -> Qt, eq_zero_or_pos -> Qw, add_zero -> Qx, lt_of_lt_of_le -> Qz
open List renaming map -> Q2, mem_append -> Q4, mem_map -> Q6, map_cons -> Q9, mem_cons -> Qb, replicate -> Qe, all_eq_true -> Qg, eq_nil_of_length_eq_zero -> Qk, length_append -> Qn, flatMap_cons -> Qp, length_cons -> Qq, length_map -> Qu, map_map -> Qy, cons_append -> W0, length_set -> W1, map_append -> W3, nil_append -> W4, range -> W6
open Array renaming getD_eq_getD_getElem? -> Q3, length_toList -> Ql
open Go.Sw.PV renaming ecs -> Q7, len -> Qj, src -> Qr, one -> W2
open Bool renaming and_eq_true -> Q8, eq_false_iff -> Qi, true_and -> Qv
open Option renaming map_eq_some_iff -> Qa, getD_some -> Qs, map_some -> W5
namespace Go.Sw
open Go
variable {B B2:List (Nat×List AV)}{D:List Nat}{K:AS->List Mic->Prop}{M:Mem}{N:Nat}{P:Program}{Q:Exit->AS->Prop}{X:Exit->Act->World->Prop}{a:Act}{af:Array Edge}{args:Array Value}{as:AS}{av:AV}{ax:Operand}{b:Nat}{bB bb bc blk blk' bn:LB}{body:Code}{bout bs:LB}{c:PV}{cs:List AV}{cx:Ctx}{d:Nat}{e e2:TypeId}{ei:TI}{env env':LV}{f:FuncId}{fn:Func}{fr:List Nat}{hi:Operand}{i:Int}{j k k0 k2:Nat}{kc kh kl:IntKind}{ks:List Nat}{l l2:List AV}{lo:Operand}{m n na nt:Nat}{o:Oper}{off:Nat}{ops:Array Oper}{pk pk2:List (Nat×Nat)}{pos:String}{q:PV}{qs:List AV}{r:List Oper}{rs:LV}{s s':AS}{t t' t2:TypeId}{te:TE}{tip:Nat->Value}{tl:List TypeId}{ts:Array TypeId}{ty:TypeId}{us:List AV}{v:AV}{vs:List AV}{vy:AV}{w wd:Nat}{x:Operand}{xl:List Operand}{xs:Array Operand}{y:Operand}{ys:Array Operand}{α:Type}{κ:Nat->Option Nat}{ρ:Nat->Nat}{l':List α}{u:α}
mutual
def fzV (k m:Nat):AV->AV
 | .own j n=>bif Q5 j k then .buf j m else .own j n
 | .ag l=>.ag (fzL k m l)
 | .tu l=>.tu (fzL k m l)
 | .fnv f l=>.fnv f (fzL k m l)
 | v=>v
def fzL (k m:Nat):List AV->List AV
 | []=>[]
 | v :: r=>fzV k m v :: fzL k m r
end
mutual
def oO (k n:Nat):AV->Bool
 | .own j m=>!Nat.beq j k||Q5 m n
 | .optr j _ _=>!Nat.beq j k
 | .osl j _ _ _=>!Nat.beq j k
 | .ag l=>rW k n l
 | .tu l=>rW k n l
 | .fnv _ l=>rW k n l
 | _=>true
def rW (k n:Nat):List AV->Bool
 | []=>true
 | v :: r=>oO k n v&&rW k n r
end
def fzB (k m:Nat):zG->zG
 | .var l=>.var (fzL k m l)
 | .own w l=>.own w (fzL k m l)
 | .buf c=>.buf c
def fyE (k m:Nat):LV->LV
 | []=>[]
 | (t,v) :: r=>(t,fzV k m v) :: fyE k m r
def zBw (k m:Nat) (c:PV):LB->LB
 | []=>[]
 | (i,b) :: r=>(bif Q5 i k then (i,.buf c) else (i,fzB k m b)) :: zBw k m c r
def dB (k n:Nat):LV->Bool
 | []=>true
 | (_,v) :: r=>oO k n v&&dB k n r
def lH (k n:Nat):LB->Bool
 | []=>true
 | (_,.var l) :: r=>rW k n l&&lH k n r
 | (_,.own _ l) :: r=>rW k n l&&lH k n r
 | (_,.buf _) :: r=>lH k n r
theorem kN (k m:Nat):∀ (l:List AV),(fzL k m l).length=l.length/\∀ (j:Nat),(fzL k m l)[j]? = (l[j]?).map (fzV k m)
 | []=>⟨rfl,by simp [fzL]⟩
 | v :: r=>by
  obtain ⟨h1,h2⟩:=kN k m r;refine ⟨by simp [fzL,h1],λj=>?_⟩;cases j with
  | zero=>simp [fzL]
  | succ j=>simp [fzL,h2 j]
theorem zA5:∀ (l:List AV),rW k n l=true->∀ (j:Nat) (q:AV),l[j]? = some q->oO k n q=true
 | [],_,_,_,h=>by simp at h
 | v :: r,h,0,q,hq=>by
  simp only [rW,Q8] at h;simp at hq;rw [<- hq];exact h.1
 | v :: r,h,j+1,q,hq=>by
  simp only [rW,Q8] at h;exact zA5 r h.2 j q (by simpa using hq)
theorem zO1 (f:α->PV):∀ (l:List α),fzL k m (l.map λx=>AV.p (f x))=l.map λx=>AV.p (f x)
 | []=>rfl
 | _ :: r=>by simp only [Q9,fzL,fzV];rw [zO1 f r]
theorem zOw:∀ (l:List PV),fzL k m (l.map AV.p)=l.map AV.p
 | []=>rfl
 | _ :: r=>by simp only [Q9,fzL,fzV];rw [zOw r]
theorem kC (f:α->PV):∀ (l:List α),rW k n (l.map λx=>AV.p (f x))=true
 | []=>rfl
 | _ :: r=>by simp only [Q9,rW,oO,Qv];exact kC f r
theorem lQ:∀ (l:List PV),rW k n (l.map AV.p)=true
 | []=>rfl
 | _ :: r=>by simp only [Q9,rW,oO,Qv];exact lQ r
theorem dB.mem:∀ {l:LV},dB k n l=true->∀ {t v},(t,v)∈l->oO k n v=true
 | (_,_) :: _,h,_,_,hm=>by
  simp only [dB,Q8] at h;rcases Qb.1 hm with e | hm
  ·cases e;exact h.1
  ·exact dB.mem h.2 hm
theorem lH.mem:∀ {l:LB},lH k n l=true->∀ {t b},(t,b)∈l->(∀ v,b=.var v->rW k n v=true)/\∀ w v,b=.own w v->rW k n v=true
 | (_,.var u) :: _,h,_,_,hm=>by
  simp only [lH,Q8] at h;rcases Qb.1 hm with e | hm
  ·cases e;exact ⟨λv e=>(by cases e;exact h.1),λw v e=>(by cases e)⟩
  ·exact lH.mem h.2 hm
 | (_,.own w u) :: _,h,_,_,hm=>by
  simp only [lH,Q8] at h;rcases Qb.1 hm with e | hm
  ·cases e;exact ⟨λv e=>(by cases e),λw v e=>(by cases e;exact h.1)⟩
  ·exact lH.mem h.2 hm
 | (_,.buf u) :: _,h,_,_,hm=>by
  simp only [lH] at h;rcases Qb.1 hm with e | hm
  ·cases e;exact ⟨λv e=>(by cases e),λw v e=>(by cases e)⟩
  ·exact lH.mem h hm
theorem zSy:∀ {l:LV} {t:Nat} {v:AV},lk (fyE k m l) t=some v->∃ u,lk l t=some u/\v=fzV k m u
 | [],_,_,h=>by simp [fyE,lk] at h
 | (i,x) :: r,t,v,h=>by
  simp only [fyE,lk] at h ⊢;cases hb:Q5 t i with
  | true=>simp [hb] at h;exact ⟨x,by simp,h.symm⟩
  | false=>simp [hb] at h;simpa using zSy h
theorem zDs:∀ {l:LB} {t:Nat},lk (zBw k m c l) t=(lk l t).map (λb=>bif Q5 t k then .buf c else fzB k m b)
 | [],t=>by simp [zBw,lk]
 | (i,x) :: r,t=>by
  simp only [zBw,lk];cases hb:Q5 t i with
  | true=>
   have:=Q1 hb;subst this;cases hk:Q5 t k<;>simp [lk]
  | false=>
   cases hk:Q5 i k<;>simp [lk,hb,zDs]
theorem RepA.fz {M':Mem} {B B':NB} (hM:M.le M') (hk:B k=some (.own wd l)) (hn:n*wd=l.length) (hB:∀ i b,i≠k->B i=some b->B' i=some (fzB k n b)) (hk':B' k=some (.buf c)) (hc:c.isSlice=true) (hcl:c.len=n) (hr':Rep M' c (tip k))
  {x:Value} (hr:RepA M κ tip B v x):oO k n v=true->RepA M' κ tip B' (fzV k n v) x:=by
 have nek:∀ {i:Nat} {b:zG},B i=some b->(∀ w l,b≠.own w l)->i≠k:=by
  rintro i b h1 h2 rfl;rw [hk] at h1;cases h1;exact h2 _ _ rfl
 induction hr with
 | p v x h1=>intro _;exact .p v x (h1.mono hM)
 | nl c h1=>intro _;exact .nl c h1
 | ptr i o b l h1 h2=>intro _;exact .ptr i o b _ h1 (hB i _ (nek h2 (by intros;simp)) h2)
 | ref i o n b l h1 h2=>intro _;exact .ref i o n b _ h1 (hB i _ (nek h2 (by intros;simp)) h2)
 | buf i n c x h1 hs h2 h3 h4=>intro _;exact .buf i n c x (hB i _ (nek h1 (by intros;simp)) h1) hs h2 (h3.mono hM) h4
 | ag l vs h1 _ ih=>
  intro h;obtain ⟨r1,r2⟩:=kN k n l;refine .ag _ vs (by omega) (λj q hq=>?_);rw [r2] at hq;obtain ⟨q',h3,h4⟩:=Qa.1 hq;subst h4;exact ih j q' h3 (zA5 l h j q' h3)
 | tu l vs h1 _ ih=>
  intro h;obtain ⟨r1,r2⟩:=kN k n l;refine .tu _ vs (by omega) (λj q hq=>?_);rw [r2] at hq;obtain ⟨q',h3,h4⟩:=Qa.1 hq;subst h4;exact ih j q' h3 (zA5 l h j q' h3)
 | fnv f l vs h1 _ ih=>
  intro h;obtain ⟨r1,r2⟩:=kN k n l;refine .fnv f _ vs (by omega) (λj q hq=>?_);rw [r2] at hq;obtain ⟨q',h3,h4⟩:=Qa.1 hq;subst h4;exact ih j q' h3 (zA5 l h j q' h3)
 | own i m w l0 x h1 h2 h3 hs=>
  intro h;simp only [oO] at h;cases hb:Q5 i k with
  | true=>
   have:=Q1 hb;subst this;simp [hb] at h;subst h;rw [hk] at h1;cases h1;simp only [fzV,hb,cond_true];have hx:=h3 hn;refine .buf i m c x hk' hc (by omega) ?_ (λ_=>hx);rw [<- hcl,sS hc,hx];exact hr'
  | false=>
   have hne:i≠k:=by rintro rfl;simp at hb
   simp only [fzV,hb,cond_false];obtain ⟨r1,r2⟩:=kN k n l0;exact .own i m w (fzL k n l0) x (hB i _ hne h1) (by omega) (λe=>h3 (by omega)) hs
 | optr i m o w l0 x h1 h2 h3 hs=>
  intro h;simp only [oO] at h;have hne:i≠k:=by rintro rfl;simp at h
  obtain ⟨r1,r2⟩:=kN k n l0;exact .optr i m o w (fzL k n l0) x (hB i _ hne h1) (by omega) (λe=>h3 (by omega)) hs
 | osl i m o q w l0 x h1 h2 h3 hs=>
  intro h;simp only [oO] at h;have hne:i≠k:=by rintro rfl;simp at h
  obtain ⟨r1,r2⟩:=kN k n l0;exact .osl i m o q w (fzL k n l0) x (hB i _ hne h1) (by omega) (λe=>h3 (by omega)) hs
theorem Imp.freezeO (k:Nat) {cs:List PV} (hb:lk blk k=some (.own wd l)) (hn:n*wd=l.length) (hrd:(mkS env blk).rdL l=some (cs,bs)) (hc:fJ wd c cs) (hcn:c.len=n) (hm:m=n)
  (h1:dB k n env=true) (h2:lH k n blk=true) (he:fyE k m env=env') (hbb:zBw k m c blk=blk'):Imp pk (mkS env blk) (mkS env' blk'):=by
 subst he hbb hm;intro cx a w hcx hs;obtain ⟨M,κ,tip,h0,hp,hi⟩:=hs;obtain ⟨g1,g2⟩:=hi.owns k wd l hb;have key:∃ M',M.le M'/\Rep M' c (tip k)/\c.isSlice=true/\c.width=wd/\(∀ b o x,M' b o=some x->w.cell? ⟨b,o,none⟩=some x)/\(∀ b o,κ k≠some b->M' b o=M b o) /\
   ((tip k=.slice none 0 0/\κ k=none)∨∃ b n cap arr e fz,tip k=.slice (some ⟨b,0,none⟩) n cap/\κ k=some b/\cx.w0.heap.size<=b /\
    w.heap[b]? = some (.cells arr e fz)/\zD9 fz arr.size/\cap*c.width<=arr.size/\cap<=maxLen/\∀ j,n*c.width<=j->M' b j=none):=by
  rcases g2 with ⟨y1,y2,rfl⟩ | ⟨b,n',cap,arr,e,fz,q1,q2,q3,q4,q5,q6,q7,q8,q9,q10,q11⟩
  ·simp [AS.rdL] at hrd;obtain ⟨rfl,rfl⟩:=hrd;obtain ⟨c1,c2,c3,c4⟩:=hc.cells (M:=M) (f:=λ_=>undef) (by simp);have hl0:c.len=0:=by
    rcases Qw c.len with h | h
    ·exact h
    ·have:=Nat.mul_pos h g1;simp at c4;omega
   refine ⟨M,Mem.le_refl M,?_,c2,c3,hi.mem,λ_ _ _=>rfl,.inl ⟨y1,y2⟩⟩;rw [y1];cases c with
   | bytes l=>simp [Qj] at hl0;subst hl0;exact .bytes0
   | sl w l=>simp [Qj] at hl0;subst hl0;exact .sl0 w
   | _=>simp [PV.isSlice] at c2
  ·have hnn:n'=m:=Qo g1 (by omega);subst hnn;have hfit:n'*wd<=cap*wd:=Qd _ q8;obtain ⟨r1,r2⟩:=fY hrd q10;obtain ⟨c1,c2,c3,c4⟩:=hc.cells r2;have hle:M.le (addM M b 0 (n'*wd) (arr[·]?)):=addM_le λo _ _=>q11 o;refine ⟨addM M b 0 (n'*wd) (arr[·]?),hle,?_,c2,c3,λb' o x h=>?_,λb' o hne=>?_,.inr ⟨b,n',cap,arr,e,fz,q1,q2,q3,q4,q5,by rw [c3];exact q7,q9,λj hj=>?_⟩⟩
   ·rw [q1];have:=wV (M':=addM M b 0 (n'*wd) (arr[·]?)) (b:=b) (o:=0) (cap:=cap) c1 c2 hle ?_ (by omega)
    ·rwa [hcn] at this
    intro j hj;rw [hcn,c3] at hj;simp only [addM,Nat.zero_add];rw [if_pos ⟨trivial,Nat.zero_le _,hj⟩];have:j<arr.size:=by omega
    simp [this]
   ·unfold addM at h;split at h
    ·rename_i hc';obtain ⟨rfl,_,hlt⟩:=hc';simp only [World.cell?,q4];simpa using h
    ·exact hi.mem b' o x h
   ·unfold addM;rw [if_neg (by intro h;exact hne (by rw [h.1];exact q2))]
   ·unfold addM;rw [c3] at hj;rw [if_neg (by omega)];exact q11 j
 obtain ⟨M',hle,hrep,hcs,hcw,hmem,hoth,hrow⟩:=key;have hB:∀ i b,i≠k->lk blk i=some b->lk (zBw k m c blk) i=some (fzB k m b):=λi b hne h=>by
  have:Q5 i k=false:=by rw [Qi];intro e;exact hne (Q1 e)
  rw [zDs,h,this];rfl
 have hBk:lk (zBw k m c blk) k=some (.buf c):=by rw [zDs,hb];simp
 have hBi:∀ i b',lk (zBw k m c blk) i=some b'->(i=k/\b'=.buf c)∨(i≠k/\∃ b,lk blk i=some b/\b'=fzB k m b):=by
  intro i b' h;rw [zDs] at h;obtain ⟨b,h3,h4⟩:=Qa.1 h;cases hq:Q5 i k with
  | true=>simp [hq] at h4;exact .inl ⟨Q1 hq,h4.symm⟩
  | false=>simp [hq] at h4;exact .inr ⟨by rintro rfl;simp at hq,b,h3,h4.symm⟩
 have hmap:∀ {v:AV} {x:Value},RepA M κ tip (lk blk) v x->oO k m v=true->RepA M' κ tip (lk (zBw k m c blk)) (fzV k m v) x:=λh ho=>h.fz hle hb hn hB hBk hcs hcn hrep ho;have hcells:∀ (li:List AV),rW k m li=true->∀ {arr:Array Value},(∀ (j:Nat) (q:AV),li[j]? = some q->RepA M κ tip (lk blk) q (arr.getD j undef))->∀ (j:Nat) (q:AV),(fzL k m li)[j]? = some q->RepA M' κ tip (lk (zBw k m c blk)) q (arr.getD j undef):=by
  intro li ho arr hr j q hq;rw [(kN k m li).2] at hq;obtain ⟨q',h3,h4⟩:=Qa.1 hq;subst h4;exact hmap (hr j q' h3) (zA5 li ho j q' h3)
 refine ⟨M',κ,tip,h0.trans' hle,hp,{
  defers:=hi.defers
  size:=hi.size
  fr:=hi.fr
  mem:=hmem
  env:=λu v h=>by
   obtain ⟨v',h3,rfl⟩:=zSy (show lk (fyE k m env) u=some v from h);obtain ⟨y,h4,h5⟩:=hi.env u v' h3;exact ⟨y,h4,hmap h5 (dB.mem h1 (tU env u v' h3))⟩
  vars:=λi li h=>by
   rcases hBi i _ h with ⟨_,h3⟩ | ⟨hne,b,h3,h4⟩
   ·cases h3
   ·cases b with
    | buf _=>simp [fzB] at h4
    | own _ _=>simp [fzB] at h4
    | var l0=>
     simp only [fzB,zG.var.injEq] at h4;subst h4;obtain ⟨b2,arr2,e2,fz2,z1,z2,z3,z4,z5,z6,z7⟩:=hi.vars i l0 h3;exact ⟨b2,arr2,e2,fz2,z1,z2,z3,by rw [(kN k m l0).1];exact z4,hcells l0 ((lH.mem h2 (tU blk i _ h3)).1 l0 rfl) z5,λo=>by rw [hoth b2 o (λe=>hne (hi.inj i k b2 z1 e))];exact z6 o,z7⟩
  bufs:=λi ci h=>by
   rcases hBi i _ h with ⟨rfl,h3⟩ | ⟨hne,b,h3,h4⟩
   ·cases h3;exact ⟨hrep,hcs,by omega,hrow⟩
   ·cases b with
    | own _ _=>simp [fzB] at h4
    | var _=>simp [fzB] at h4
    | buf c0=>
     simp only [fzB,zG.buf.injEq] at h4;subst h4;obtain ⟨z1,z2,z3,z4⟩:=hi.bufs i ci h3;refine ⟨z1.mono hle,z2,z3,?_⟩;rcases z4 with z4 | ⟨b2,n2,cap2,arr2,e2,fz2,y1,y2,y3,y4,y5,y6,y7,y8⟩
     ·exact .inl z4
     ·exact .inr ⟨b2,n2,cap2,arr2,e2,fz2,y1,y2,y3,y4,y5,y6,y7,λj hj=>by rw [hoth b2 j (λe=>hne (hi.inj i k b2 y2 e))];exact y8 j hj⟩
  inj:=hi.inj
  dom:=λi h=>by
   have h':lk (zBw k m c blk) i=none:=h;rw [zDs] at h';exact hi.dom i (show lk blk i=none by simpa using h')
  glob:=hi.glob.mono hle
  old:=λb' o hb'=>by
   rw [hoth b' o (λe=>?_)]
   ·exact hi.old b' o hb'
   ·rcases hrow with ⟨_,y2⟩ | ⟨b,_,_,_,_,_,_,y2,y3,_⟩
    ·rw [y2] at e;cases e
    ·rw [y2] at e;cases e;omega
  owns:=λi wi li h=>by
   rcases hBi i _ h with ⟨_,h3⟩ | ⟨hne,b,h3,h4⟩
   ·cases h3
   ·cases b with
    | buf _=>simp [fzB] at h4
    | var _=>simp [fzB] at h4
    | own w0 l0=>
     simp only [fzB,zG.own.injEq] at h4;obtain ⟨rfl,rfl⟩:=h4;obtain ⟨z0,z⟩:=hi.owns i wi l0 h3;refine ⟨z0,?_⟩;rcases z with ⟨z1,z2,rfl⟩ | ⟨b2,n2,cap2,arr2,e2,fz2,y1,y2,y3,y4,y5,y6,y7,y8,y9,y10,y11⟩
     ·exact .inl ⟨z1,z2,rfl⟩
     ·exact .inr ⟨b2,n2,cap2,arr2,e2,fz2,y1,y2,y3,y4,y5,by rw [(kN k m l0).1];exact y6,y7,y8,y9,hcells l0 ((lH.mem h2 (tU blk i _ h3)).2 wi l0 rfl) y10,λo=>by rw [hoth b2 o (λe=>hne (hi.inj i k b2 y2 e))];exact y11 o⟩}⟩
theorem Imp.promO {t:Nat} (wd:Nat) (he:s.env t=some (.nl c)) (hk:s.blk k=none) (hw:Qc 0 wd=true):Imp pk s ((s.setb k (.own wd [])).put t (.own k 0)):=by
 intro cx a w _ hs;obtain ⟨M,κ,tip,h0,hp,hi⟩:=hs;have hw':=Q0 hw;have hinv:=hi.ownNil (k:=k) (wd:=wd) hk (by omega);obtain ⟨x,hx1,hx2⟩:=hi.env t _ he;cases hx2 with
 | nl _ hc=>
 refine ⟨M,κ,_,h0,hp,{ hinv with env:=λu v h=>?_ }⟩;simp only [AS.put] at h;cases hb:Q5 u t with
 | true=>
  have:=Q1 hb;subst this;simp at h;subst h;exact ⟨_,hx1,.own k 0 wd [] _ (zY _ _ _) (by simp) (λ_=>(yV _ _ _).symm) ⟨_,_,_,rfl⟩⟩
 | false=>
  simp [hb] at h;exact hinv.env u v h
abbrev qO (c:PV):zG:=.own c.width c.ecs
theorem zFb:∀ (a b:List PV),xG (a++b)=xG a++xG b
 | [],_=>rfl
 | x :: r,b=>by simp [xG,zFb r b]
theorem aT (l:By):l.length*1=(Q7 (.bytes l)).length:=by simp [Q7]
theorem cB {f:α->PV} (hf:∀ a,(f a).cells.length=w):∀ (l:List α),(xG (l.map f)).length=l.length*w
 | []=>by simp [xG]
 | x :: r=>by simp only [Q9,xG,Qn,hf,cB hf r,Qq];rw [Qf];omega
theorem mO {f:α->PV} (hf:∀ a,(f a).cells.length=w) (l:List α):l.length*w=(Q7 (.sl w (l.map f))).length:=by simp [Q7,cB hf]
theorem zVr:∀ (l:List PV),s.rdL (l.map AV.p)=some (l,[])
 | []=>rfl
 | x :: r=>by simp [AS.rdL,AS.rd,zVr r]
theorem zU9 (l:By):s.rdL (Q7 (.bytes l))=some (l.map λx=>PV.int .u8 x.toNat,[]):=by
 simp only [Q7];exact rU
theorem zT9 (l:List PV):s.rdL (Q7 (.sl w l))=some (xG l,[]):=by simp only [Q7];exact zVr _
theorem zKy {f:α->PV} (hf:∀ a,(f a).cells.length=w) {l:List α} (h:l[j]? = some u) {o:Nat} (hq:(f u).cells[o]? = some q):(Q7 (.sl w (l.map f)))[j*w+o]? = some (.p q):=by
 obtain ⟨_,h2⟩:=zDr (l.map f) (w:=w) (by intro p hp;obtain ⟨a,_,rfl⟩:=Q6.1 hp;exact hf a);simp only [Q7,List.getElem?_map];rw [h2 j (f u) o q (by simp [h]) hq];rfl
theorem zRw {f:α->PV} (hf:∀ a,(f a).cells.length=w) {l:List α} (u:α) (h:j<l.length):qM (Q7 (.sl w (l.map f))) (j*w) ((f u).cells.map AV.p)=Q7 (.sl w ((l.set j u).map f)):=by
 have hlen:=mO hf l;have hjw:(j+1)*w<=l.length*w:=Qd _ h;rw [Qf] at hjw;have hcl:((f u).cells.map AV.p).length=w:=by simp [hf]
 have hw:∀ p∈(l.set j u).map f,p.cells.length=w:=by intro p hp;obtain ⟨a,_,rfl⟩:=Q6.1 hp;exact hf a
 have hw0:∀ p∈l.map f,p.cells.length=w:=by intro p hp;obtain ⟨a,_,rfl⟩:=Q6.1 hp;exact hf a
 apply List.ext_getElem?;intro o;rw [dL (by rw [hcl];omega),hcl];rcases Qw w with hz | hpos
 ·subst hz;have h1:(Q7 (.sl 0 (l.map f)))=[]:=Qk (by omega);have h2:(Q7 (.sl 0 ((l.set j u).map f)))=[]:=Qk (by have:=mO hf (l.set j u);omega);rw [if_neg (by omega),h1,h2]
 ·by_cases ho:o<l.length*w
  ·have hdm:w*(o / w)+o % w=o:=Nat.div_add_mod o w;have he:o / w*w+o % w=o:=by rw [Nat.mul_comm];exact hdm
   have hi:o / w<l.length:=Nat.div_lt_of_lt_mul (by rw [Nat.mul_comm];exact ho);have hr:o % w<w:=Nat.mod_lt _ hpos;by_cases hj:j*w<=o/\o<j*w+w
   ·rw [if_pos hj];have hjj:o / w=j:=Nat.div_eq_of_lt_le (by omega) (by rw [Qf];omega);have hsub:o - j*w=o % w:=by rw [hjj] at he;omega
    have hlt:o % w<(f u).cells.length:=by rw [hf];exact hr
    have:=zKy hf (l:=l.set j u) (j:=j) (u:=u) (by simp [h]) (o:=o % w) (q:=(f u).cells[o % w]) (by simp);rw [hjj] at he;rw [he] at this;rw [this,hsub,List.getElem?_map];simp [hlt]
   ·rw [if_neg hj];have hne:o / w≠j:=by
     intro e;rw [e] at he;exact hj ⟨by omega,by omega⟩
    have hlt:o % w<(f l[o / w]).cells.length:=by rw [hf];exact hr
    have h1:=zKy hf (l:=l) (j:=o / w) (u:=l[o / w]) (by simp) (o:=o % w) (q:=(f l[o / w]).cells[o % w]) (by simp);have h2:=zKy hf (l:=l.set j u) (j:=o / w) (u:=l[o / w]) (by rw [List.getElem?_set_ne (Ne.symm hne)];simp) (o:=o % w) (q:=(f l[o / w]).cells[o % w]) (by simp);rw [he] at h1 h2;rw [h1,h2]
  ·rw [if_neg (by omega),List.getElem?_eq_none (by omega),List.getElem?_eq_none (by have:=mO hf (l.set j u);rw [W1] at this;omega)]
section
theorem zNk {p:PV} {ta:TypeId} {i:TI} (hok:yR P te) (hd:o.dst=none) (ho:o.op=.store t ax x) (ht:te t=some i) (ha:s.get te ta ax=some (.optr k n off)) (hx:s.get te t x=some v) (hp:s.rd v=some (p,bs)) (hb:s.blk k=some (.own wd l)) (hn:n*wd=l.length)
  (hw:p.cells.length=i.w) (hl:off+i.w<=l.length) (hone:p.cells.all W2=true):SA P o s ⟨opS ax (.optr k n off)++opS x v,(k,.own wd l) :: bs,[],none,[(k,.own wd (qM l off (p.cells.map AV.p)))]⟩:=by
 have hpc:(AV.p p).cells=p.cells.map AV.p:=by cases p<;>rfl
 refine ⟨?_,yH (zK ha) (zK hx),?_,by intro e he;simp at he⟩
 ·intro cx s' a w K Q hm hs hws hk;obtain ⟨M,κ,tip,h0,hpk,hi⟩:=hs;have hbk:=hm.2.1 (k,.own wd l) (by simp);simp only at hbk;have hr:=hJ hi hx hp (zZ hm.1) (λe he=>hm.2.1 e (by simp [he]));have ha':=yC hi (yF ha s' (yD hm.1));have hx':RepA M κ tip s'.blk (.p p) (a.eval x):=.p _ _ hr;obtain ⟨hc1,hc2⟩:=cE hx';rw [hpc] at hc1 hc2;obtain ⟨g1,g2⟩:=hi.owns k wd l hbk;generalize hev:a.eval ax=z at ha';cases ha' with
  | optr _ _ _ w' l' _ h1 h2 h3 hs=>
   rw [hbk] at h1;cases h1;obtain ⟨b,hκ,rfl⟩:=h3 hn;rcases g2 with ⟨_,y2,_⟩ | ⟨b',n1,cap,arr,e1,fz,q1,q2,q3,q4,q5,q6,q7,q8,q9,q10,q11⟩
   ·rw [hκ] at y2;cases y2
   ·rw [hκ] at q2;cases q2;have hnn:n1=n:=Qo g1 (by omega);subst hnn;have hfit:n1*wd<=cap*wd:=Qd _ q8;have hpl:(p.cells.map AV.p).length=i.w:=by simp [hw]
    have hsz:(a.eval x).cells.toList.length=(p.cells.map AV.p).length:=by simp only [Ql,hc1]
    have hrun:=run_storeCells_cells (P:=P) b off (a.eval x).cells.toList 0 w
     (by
       intro j hj;rw [hsz] at hj;have:off+j<arr.size:=by omega
       simp [World.cell?,q4,this])
     (by intro j hj;rw [hsz] at hj;simp only [Qx];exact rO q4 q5 (by omega))
     (by
      intro u hu;obtain ⟨j,hj,hju⟩:=List.getElem_of_mem hu;have hjl:j<p.cells.length:=by simp only [Qu] at hsz;omega
      have hq:=hc2 j (.p p.cells[j]) (by simp [hjl]);have hjs:j<(a.eval x).cells.size:=by simpa using hj
      have:(a.eval x).cells.getD j undef=u:=by simp [hjs];simpa using hju
      rw [this] at hq;exact zDh hq ((Qg.1 hone) _ (List.getElem_mem _)))
    unfold Oper.wp;have:(execOp a.eval o).run P w=.ok .skip (w.setCells b off (a.eval x).cells.toList):=by
     simp only [Qx] at hrun;have hcs:¬ ((a.eval x).cells.size≠i.w):=by rw [hc1,hpl];simp
     simp [execOp,ho,hev,Instr.storeAt,Instr.sureAddr,storeVar,tA hok ht,hcs,hrun]
    rw [this];show K (a.put o.dst undef) _;rw [hd];refine hk _ _ ?_;rw [zBa];obtain ⟨arr',z1,z2,z3⟩:=qR b (a.eval x).cells.toList off w arr e1 fz q4 (by omega);have hlen:=zBg (l:=l) (cs:=p.cells.map AV.p) (off:=off) (by omega);refine ⟨M,κ,_,h0,hpk,hi.ownSet (n':=n1) hbk q1 hκ q3 (by rw [z2];exact q5) z1 (by rw [z2];exact q7) q8 q9 g1 q11 (by omega) (by omega) q6 ?_⟩;intro j q hq;rw [dL (by omega)] at hq;rw [Q3,z3 j];by_cases hj:off<=j/\j<off+(p.cells.map AV.p).length
    ·rw [if_pos hj] at hq;rw [if_pos (by omega)];have:=hc2 (j - off) q hq;rw [Q3] at this;simpa using this
    ·rw [if_neg hj] at hq;rw [if_neg (by omega)];have:=q10 j q hq;rw [Q3] at this;exact this
 ·intro e he;rcases Qb.1 he with he | he
  ·subst he;exact hb
  ·exact tD v p bs hp e he
end
section
variable [T:zAn P] 
theorem RK.xoM (f:α->PV) {l:List α} (hn:l.length=n) (h:ixN n i=some j) (hf:∀ a,(f a).cells.length=w) (ht:(T.te t).map (·.ty)=some (.slice e)) (he:T.te e=some ei) (hw:w=ei.w) (hx:s.get T.te t x=some (.own k0 n)) (hb:s.blk k0=some (qO (.sl w (l.map f)))) (hy:s.get T.te 0 y=some (.p (.int .i64 i)))
  (k:VK P ops r s K d (opS x (.own k0 n)++opS y (.p (.int .i64 i))) [(k0,qO (.sl w (l.map f)))] (.optr k0 n (j*w))):RK P ops (⟨some d,.indexAddr t x y,ty,pos,af,none⟩:: r) s K:=by
 subst hn;obtain ⟨h0,h1,h2⟩:=zG2 h;have:=zPk (P:=P) (o:=⟨some d,.indexAddr t x y,ty,pos,af,none⟩) T.ok rfl ht he hx hb (mO hf l) hw hy h0 h1;rw [<- h2,<- hw] at this;exact RK.va rfl rfl this k
theorem RK.xoK (i:Nat) (h:Qc i n=true) (ht:(T.te t).map (·.ty)=some (.slice e)) (he:T.te e=some ei) (hw:w=ei.w) (hx:s.get T.te t x=some (.own k0 n)) (hb:s.blk k0=some (.own w l)) (hn:Q5 (n*w) l.length=true) (hy:s.get T.te 0 y=some (.p (.int .i64 (i:Nat))))
  (k:VK P ops r s K d (opS x (.own k0 n)++opS y (.p (.int .i64 (i:Nat)))) [(k0,.own w l)] (.optr k0 n (i*w))):RK P ops (⟨some d,.indexAddr t x y,ty,pos,af,none⟩:: r) s K:=by
 have hi:=Q0 h;have:=zPk (P:=P) (o:=⟨some d,.indexAddr t x y,ty,pos,af,none⟩) T.ok rfl ht he hx hb (Q1 hn) hw hy (by omega) (by omega);rw [<- hw,Int.toNat_natCast] at this;exact RK.va rfl rfl this k
theorem RK.lnO (hn:n*w=l.length) (ht0:((T.te t).map (·.ty),s.get T.te t x,s.blk k0)=(some (.slice e),some (.own k0 n),some (.own w l))) (k:VK P ops r s K d (opS x (.own k0 n)) [(k0,.own w l)] (.p (.int .i64 n))):RK P ops (⟨some d,.call ⟨.builtin .len,#[x],#[t]⟩,ty,pos,af,none⟩:: r) s K:=have ⟨ht,ht0⟩:=pq ht0;have ⟨hx,hb⟩:=pq ht0;RK.va rfl rfl (zU0 T.ok rfl ht hx hb hn) k
theorem RK.ldoK {i:TI} (ht:T.te t=some i) (hp:i.plain=true) (hx:s.get T.te 0 x=some (.optr k0 n off)) (hb:s.blk k0=some (.own w l)) (hn:Q5 (n*w) l.length=true) (hv:l[off]? = some v)
  (k:VK P ops r s K d (opS x (.optr k0 n off)) [(k0,.own w l)] v):RK P ops (⟨some d,.load t x,ty,pos,af,none⟩:: r) s K:=
 RK.va rfl rfl (zSj T.ok rfl ht hp hx hb (Q1 hn) hv) k
theorem RK.stoM (f:α->PV) {i:TI} {l:List α} (hn:l.length=n) (h:sN l j u=some l') (hf:∀ a,(f a).cells.length=w) (hone:∀ a,(f a).cells.all W2=true) (ht:T.te t=some i) (hw:w=i.w) (ha:s.get T.te 0 ax=some (.optr k0 n (j*w))) (hx:s.get T.te t x=some v) (hp:s.rd v=some (f u,bs)) (hb:s.blk k0=some (qO (.sl w (l.map f))))
  (k:RK P ops r (s.setb k0 (qO (.sl w (l'.map f)))) λs' ms=>K s' (⟨opS ax (.optr k0 n (j*w))++opS x v,(k0,qO (.sl w (l.map f))) :: bs,[],none,[(k0,qO (.sl w (l'.map f)))]⟩:: ms)):RK P ops (⟨none,.store t ax x,ty,pos,af,none⟩:: r) s K:=by
 subst hn;obtain ⟨h1,h2⟩:=zBn h;have hjw:(j+1)*w<=l.length*w:=Qd _ h1;rw [Qf] at hjw;have hlen:=mO hf l;have:=zNk (P:=P) (o:=⟨none,.store t ax x,ty,pos,af,none⟩) T.ok rfl rfl ht ha hx hp hb (mO hf l) (by rw [hf,hw]) (by omega) (hone u);rw [show (PV.sl w (l.map f)).width=w from rfl,zRw hf u h1,<- h2] at this;exact RK.so rfl this k
theorem zTz (l:By):(Q7 (.bytes l)).all AV.one=true:=by simp [Q7,AV.one,W2]
theorem zL5 {α:Type} {f:α->PV} {w:Nat} (hone:∀ a,(f a).cells.all W2=true):∀ (l:List α),(Q7 (.sl w (l.map f))).all AV.one=true
 | []=>rfl
 | a :: r=>by
  have:=zL5 hone r (w:=w);simp only [Q7,Q9,xG,W3,List.all_append,Q8] at this ⊢;refine ⟨?_,this⟩;have h2:=hone a;simp only [Qg,Q6] at h2 ⊢;rintro q ⟨p,hp,rfl⟩;exact h2 p hp
theorem RK.aoB {l m u:By} (hn:l.length=n) (h:yN b l m=some u) (ht:(T.te t).map (·.ty)=some (.slice e)) (he:T.te e=some ei) (ht2:(T.te t2).map (·.ty)=some (.slice e2)) (hx:s.get T.te t x=some (.own k0 n)) (hk:s.blk k0=some (qO (.bytes l))) (hcw:1=ei.w) (hz:ei.z.length=ei.w) (hy:s.get T.te t2 y=some vy) (hp:s.rd vy=some (.bytes m,bs)) (hb:ei.b=b) (hb1:Qc 0 b=true)
  (k:BK P ops r s K d (opS x (.own k0 n)++opS y vy) ((k0,qO (.bytes l)) :: bs) [] k0 (qO (.bytes u)) (.own k0 u.length)):RK P ops (⟨some d,.call ⟨.builtin .append,#[x,y],#[t,t2]⟩,ty,pos,af,none⟩:: r) s K:=by
 subst hn;obtain ⟨hu,hle⟩:=hC h;subst hb;have hb2:=Q0 hb1;have:=zK7 (P:=P) (o:=⟨some d,.call ⟨.builtin .append,#[x,y],#[t,t2]⟩,ty,pos,af,none⟩) T.ok rfl rfl ht he (yS T.ok ht2) (.inr ⟨_,rfl⟩) hx hk (aT l) hcw hz hy (tD vy _ bs hp) (zEe hy hp rfl hcw (by omega)) (by rw [<- hcw];exact (aT m).symm) (zTz m) (by simpa [Qr,Qj] using hle) (by omega);have e1:Q7 (.bytes l)++Q7 (.bytes m)=Q7 (.bytes u):=by rw [hu];simp [Q7]
 have e2:l.length+(Qr (.bytes m)).len=u.length:=by rw [hu];simp [Qr,Qj]
 rw [e1,e2] at this;exact RK.sb rfl this k
theorem RK.aoM (f:α->PV) {l m u:List α} (hn:l.length=n) (h:yN b l m=some u) (hf:∀ a,(f a).cells.length=w) (hone:∀ a,(f a).cells.all W2=true) (ht:(T.te t).map (·.ty)=some (.slice e)) (he:T.te e=some ei) (ht2:(T.te t2).map (·.ty)=some (.slice e2)) (hx:s.get T.te t x=some (.own k0 n)) (hk:s.blk k0=some (qO (.sl w (l.map f)))) (hcw:w=ei.w) (hw0:Qc 0 w=true) (hz:ei.z.length=ei.w) (hy:s.get T.te t2 y=some vy) (hp:s.rd vy=some (.sl w (m.map f),bs)) (hb:ei.b=b) (hb1:Qc 0 b=true)
  (k:BK P ops r s K d (opS x (.own k0 n)++opS y vy) ((k0,qO (.sl w (l.map f))) :: bs) [] k0 (qO (.sl w (u.map f))) (.own k0 u.length)):RK P ops (⟨some d,.call ⟨.builtin .append,#[x,y],#[t,t2]⟩,ty,pos,af,none⟩:: r) s K:=by
 subst hn;obtain ⟨hu,hle⟩:=hC h;subst hb;have hb2:=Q0 hb1;have hw2:=Q0 hw0;have:=zK7 (P:=P) (o:=⟨some d,.call ⟨.builtin .append,#[x,y],#[t,t2]⟩,ty,pos,af,none⟩) T.ok rfl rfl ht he (yS T.ok ht2) (.inr ⟨_,rfl⟩) hx hk (mO hf l) hcw hz hy (tD vy _ bs hp) (zEe hy hp rfl hcw (by omega)) (by rw [<- hcw];simp only [Qr,Qj,Qu];exact (mO hf m).symm) (zL5 hone m) (by simpa [Qr,Qj] using hle) (by omega);have e1:Q7 (.sl w (l.map f))++Q7 (.sl w (m.map f))=Q7 (.sl w (u.map f)):=by rw [hu];simp [Q7,zFb]
 have e2:l.length+(Qr (.sl w (m.map f))).len=u.length:=by rw [hu];simp [Qr,Qj]
 rw [e1,e2] at this;exact RK.sb rfl this k
theorem RK.aoR (ht:(T.te t).map (·.ty)=some (.slice e)) (he:T.te e=some ei) (ht2:(T.te t2).map (·.ty)=some (.slice e2)) (hx:s.get T.te t x=some (.own k0 n)) (hk:s.blk k0=some (.own w l)) (hn:Q5 (n*w) l.length=true) (hcw:w=ei.w) (hz:ei.z.length=ei.w) (hy:s.get T.te t2 y=some (.ref k2 0 m)) (hk2:s.blk k2=some (.var l2)) (hm:Q5 l2.length (m*w)=true) (hone:l2.all AV.one=true) (hb:ei.b=b) (hb1:Qc 0 b=true) (hle:Qh ((n+m)*b) 140737488355328=true)
  (k:BK P ops r s K d (opS x (.own k0 n)++opS y (.ref k2 0 m)) [(k0,.own w l),(k2,.var l2)] [] k0 (.own w (l++l2)) (.own k0 (n+m))):RK P ops (⟨some d,.call ⟨.builtin .append,#[x,y],#[t,t2]⟩,ty,pos,af,none⟩:: r) s K:=by
 subst hb;have hb2:=Q0 hb1;have hm2:=Q1 hm;exact RK.sb rfl (zK7 (P:=P) (o:=⟨some d,.call ⟨.builtin .append,#[x,y],#[t,t2]⟩,ty,pos,af,none⟩) T.ok rfl rfl ht he (yS T.ok ht2) (.inr ⟨_,rfl⟩) hx hk (Q1 hn) hcw hz hy (by intro e he;simp at he;subst he;exact hk2) (by rw [<- hcw];exact zLt hy hm2) (by rw [<- hcw];exact hm2) hone (zN hle) (by omega)) k
theorem RK.anB {m u:By} (h:yN b [] m=some u) (ht:(T.te t).map (·.ty)=some (.slice e)) (he:T.te e=some ei) (ht2:(T.te t2).map (·.ty)=some (.slice e2)) (hx:s.get T.te t x=some (.nl c)) (hcw:1=ei.w) (hz:ei.z.length=ei.w) (hy:s.get T.te t2 y=some vy) (hp:s.rd vy=some (.bytes m,bs)) (hb:ei.b=b) (hb1:Qc 0 b=true) (hk:s.blk d=none)
  (k:BK P ops r s K d (opS x (.nl c)++opS y vy) bs [d] d (qO (.bytes u)) (.own d u.length)):RK P ops (⟨some d,.call ⟨.builtin .append,#[x,y],#[t,t2]⟩,ty,pos,af,none⟩:: r) s K:=by
 obtain ⟨hu,hle⟩:=hC h;simp only [W4] at hu;subst hu;subst hb;have hb2:=Q0 hb1;have:=zLi (P:=P) (o:=⟨some d,.call ⟨.builtin .append,#[x,y],#[t,t2]⟩,ty,pos,af,none⟩) T.ok rfl rfl ht he (yS T.ok ht2) (.inr ⟨_,rfl⟩) hx (by omega) hz hy (tD vy _ bs hp) (zEe hy hp rfl hcw (by omega)) (by rw [<- hcw];exact (aT u).symm) (by simpa [Qr,Qj] using hle) (by omega) hk;rw [<- hcw] at this;exact RK.sb rfl this k
theorem RK.anR (ht:(T.te t).map (·.ty)=some (.slice e)) (he:T.te e=some ei) (ht2:(T.te t2).map (·.ty)=some (.slice e2)) (hx:s.get T.te t x=some (.nl c)) (hcw:w=ei.w) (hw0:Qc 0 w=true) (hz:ei.z.length=ei.w) (hy:s.get T.te t2 y=some (.ref k2 0 m)) (hk2:s.blk k2=some (.var l2)) (hm:Q5 l2.length (m*w)=true) (hb:ei.b=b) (hb1:Qc 0 b=true) (hle:Qh (m*b) 140737488355328=true) (hk:s.blk d=none)
  (k:BK P ops r s K d (opS x (.nl c)++opS y (.ref k2 0 m)) [(k2,.var l2)] [d] d (.own w l2) (.own d m)):RK P ops (⟨some d,.call ⟨.builtin .append,#[x,y],#[t,t2]⟩,ty,pos,af,none⟩:: r) s K:=by
 subst hb;have hb2:=Q0 hb1;have hw2:=Q0 hw0;have hm2:=Q1 hm;have:=zLi (P:=P) (bs:=[(k2,.var l2)]) (o:=⟨some d,.call ⟨.builtin .append,#[x,y],#[t,t2]⟩,ty,pos,af,none⟩) T.ok rfl rfl ht he (yS T.ok ht2) (.inr ⟨_,rfl⟩) hx (by omega) hz hy (by intro e he;simp at he;subst he;exact hk2) (by rw [<- hcw];exact zLt hy hm2) (by rw [<- hcw];exact hm2) (zN hle) (by omega) hk;rw [<- hcw] at this;exact RK.sb rfl this k
theorem RK.clO {ps:List PV} {blks blks':LB} (h:Ok P f na (mkS (argE 0 ps) []) (mkS [(0,av)] blks)) (hB:bR (sh d) blks=blks') (hxl0:(xs.toList,ts.toList)=(xl,tl)) (ha:mG s T.te xl tl ps rs bb) (hn0:(Q5 na ps.length,(kR (sh d) blks).all (λk=>(s.blk k).isNone))=(true,true))
  (k:RK P ops r (Mic.upd ⟨rs,bb,kR (sh d) blks,some (d,some (av.ren (sh d))),blks'⟩ s) λs' ms=>K s' (⟨rs,bb,kR (sh d) blks,some (d,some (av.ren (sh d))),blks'⟩:: ms)):RK P ops (⟨some d,.call ⟨.value (.func f),xs,ts⟩,ty,pos,af,none⟩:: r) s K:=have ⟨hxl,htl⟩:=pq hxl0;have ⟨hn,hf⟩:=pq hn0;by
 subst hB;subst hxl htl;exact RK.cl h rfl ha (by rw [hn,hf]) k
end
theorem fxB (k:Nat) (u:By) (hn:u.length=n) (hb:lk blk k=some (qO (.bytes u))) (h1:dB k n env=true) (h2:lH k n blk=true) (he:fyE k u.length env=env') (hbb:zBw k u.length (.bytes u) blk=blk'):Imp cx.pk (mkS env blk) (mkS env' blk'):=
 Imp.freezeO k hb (by rw [<- hn];exact aT u) (zU9 u) (zIl u) hn hn h1 h2 he hbb
theorem fxM (k:Nat) (f:α->PV) (w:Nat) (u:List α) (hf:∀ a,(f a).cells.length=w) (hn:u.length=n) (hb:lk blk k=some (qO (.sl w (u.map f)))) (h1:dB k n env=true) (h2:lH k n blk=true) (he:fyE k u.length env=env') (hbb:zBw k u.length (.sl w (u.map f)) blk=blk'):Imp cx.pk (mkS env blk) (mkS env' blk'):=
 Imp.freezeO k hb (by rw [<- hn];exact mO hf u) (zT9 (u.map f)) (zV8 u hf) (by simp [Qj,hn]) hn h1 h2 he hbb
theorem fxK (k:Nat) (f:α->PV) (u:List α) (hf:∀ a,(f a).cells=[f a]) (hb:lk blk k=some (.own 1 l)) (hn:u.length=n) (hl:l.length=n) (hrd:(mkS env blk).rdL l=some (u.map f,bs)) (h1:dB k n env=true) (h2:lH k n blk=true) (he:fyE k u.length env=env') (hbb:zBw k u.length (.sl 1 (u.map f)) blk=blk'):Imp cx.pk (mkS env blk) (mkS env' blk'):=
 Imp.freezeO k hb (by omega) hrd (aB hf u) (by simp [Qj,hn]) hn h1 h2 he hbb
theorem fV (a b:Nat):Q5 a b=decide (a=b):=by
 cases h:Q5 a b with
 | true=>have:=Q1 h;simp [this]
 | false=>symm;simp only [decide_eq_false_iff_not];rintro rfl;simp at h
theorem Imp.ofEq (h:s=s'):Imp pk s s':=by subst h;exact λ_ _ _ _ h=>h
theorem zKc {l:List α} (h:sN l j u=some l') (hn:l.length=n):l'.length=n:=by
 obtain ⟨_,h2⟩:=zBn h;rw [h2,W1,hn]
theorem oE {B:NB} :pH B c.ecs=true:=by
 have:∀ (l:List PV),pH B (l.map AV.p)=true:=by
  intro l;induction l with
  | nil=>rfl
  | cons x r ih=>simp only [Q9,pH,AV.oks,Qv];exact ih
 cases c<;>first | rfl | (exact zCk _ _) | (exact this _)
theorem fA:rW k n c.ecs=true:=by
 cases c<;>first | rfl | (exact kC _ _) | (exact lQ _)
theorem zV1:fzL k m c.ecs=c.ecs:=by
 cases c<;>first | rfl | (exact zO1 _ _) | (exact zOw _)
theorem xC:iF ρ c.ecs=c.ecs:=by
 have h:∀ {α:Type} (f:α->PV) (l:List α),iF ρ (l.map λx=>AV.p (f x))=l.map λx=>AV.p (f x):=by
  intro α f l;induction l with
  | nil=>rfl
  | cons x r ih=>simp only [Q9,iF,AV.ren,ih]
 cases c<;>first | rfl | (exact h _ _) | (exact h (λx=>x) _)
def zD3 (P:Program) (cx:Ctx) (body:Code) (Q:Exit->AS->Prop):Nat->AS->Prop
 | 0,_=>False
 | n+1,s=>awp P cx body (zIj (zD3 P cx body Q n) Q) s
theorem ar (h:awp P cx body (zIj (zD3 P cx body Q n) Q) s):zD3 P cx body Q (n+1) s:=h
theorem rY (n:Nat) (h:zD3 P cx body Q n s):awp P cx (.loop body) Q s:=by
 intro a w hs;refine wp_loop_rounds n ?_;induction n generalizing s a w with
 | zero=>exact h.elim
 | succ n ih=>
  rw [rounds_succ];refine wp_mono (h a w hs) ?_;rintro e a' w' ⟨s',h1,h2⟩;cases e with
  | normal=>exact ih h2 a' w' h1
  | _=>exact ⟨s',h1,h2⟩
section
end
section
variable [T:zAn P] 
end
inductive GV (s:AS) (ρ:Nat->Nat) (D:List Nat):AV->AV->LB->Prop where
 | p {v:AV} {q:PV} {bs:LB}:s.rd v=some (q,bs)->GV s ρ D v (.p q) bs
 | ptr {k j o:Nat}:ρ j=k->j∈D->GV s ρ D (.ptr k o) (.ptr j o) []
 | ref {k j o n:Nat}:ρ j=k->j∈D->GV s ρ D (.ref k o n) (.ref j o n) []
inductive GVs (s:AS) (ρ:Nat->Nat) (D:List Nat):List AV->List AV->LB->Prop where
 | nil:GVs s ρ D [] [] []
 | cons {v u:AV} {vs us:List AV} {b bs:LB}:GV s ρ D v u b->GVs s ρ D vs us bs->GVs s ρ D (v :: vs) (u :: us) (b++bs)
inductive GA (s:AS) (te:TE) (ρ:Nat->Nat) (D:List Nat):List Operand->List TypeId->List AV->LV->LB->Prop where
 | nil:GA s te ρ D [] [] [] [] []
 | cons {x:Operand} {t:TypeId} {v u:AV} {xs:List Operand} {ts:List TypeId} {us:List AV} {rs:LV} {b bs:LB}:s.get te t x=some v->GV s ρ D v u b->GA s te ρ D xs ts us rs bs->GA s te ρ D (x :: xs) (t :: ts) (u :: us) (opS x v++rs) (b++bs)
inductive GB (s:AS) (ρ:Nat->Nat) (D:List Nat):List (Nat×List AV)->LB->Prop where
 | nil:GB s ρ D [] []
 | cons {j:Nat} {us as:List AV} {b bs:LB} {r:List (Nat×List AV)}:s.blk (ρ j)=some (.var as)->GVs s ρ D as us b->GB s ρ D r bs->GB s ρ D ((j,us) :: r) ((ρ j,.var as) :: (b++bs))
def bV:List (Nat×List AV)->LB
 | []=>[]
 | (j,us) :: r=>(j,.var us) :: bV r
def fW (i:Nat):List AV->LV
 | []=>[]
 | v :: r=>(i,v) :: fW (i+1) r
theorem zL0:∀ (l:List AV) (i t:Nat) (v:AV),lk (fW i l) t=some v->i<=t/\l[t - i]? = some v
 | [],i,t,v,h=>by simp [fW,lk] at h
 | p :: r,i,t,v,h=>by
  simp only [fW,lk] at h;cases hb:Q5 t i with
  | true=>
   have:=Q1 hb;subst this;simp at h;exact ⟨Qm _,by simp [h]⟩
  | false=>
   simp [hb] at h;obtain ⟨h2,h3⟩:=zL0 r (i+1) t v h;refine ⟨by omega,?_⟩;have:t - i=(t - (i+1))+1:=by omega
   rw [this];simpa using h3
theorem zGm:∀ (B:List (Nat×List AV)),(bV B).map (·.1)=B.map (·.1)
 | []=>rfl
 | (j,us) :: r=>by simp [bV,zGm r]
theorem zBb:∀ {B:List (Nat×List AV)} {j:Nat},j∈B.map (·.1)->∃ us,lk (bV B) j=some (.var us)
 | [],j,h=>by simp at h
 | (i,us) :: r,j,h=>by
  simp only [bV,lk];cases hb:Q5 j i with
  | true=>exact ⟨us,rfl⟩
  | false=>
   simp only [Q9,Qb] at h;rcases h with h | h
   ·subst h;simp at hb
   ·exact zBb h
theorem zEh:∀ {B:List (Nat×List AV)} {j:Nat} {b:zG},lk (bV B) j=some b->j∈B.map (·.1)/\∃ us,b=.var us
 | [],j,b,h=>by simp [bV,lk] at h
 | (i,us) :: r,j,b,h=>by
  simp only [bV,lk] at h;cases hb:Q5 j i with
  | true=>simp [hb] at h;exact ⟨by simp [Q1 hb],us,h.symm⟩
  | false=>
   simp [hb] at h;obtain ⟨h1,h2⟩:=zEh h;exact ⟨by simp only [Q9,Qb];exact .inr h1,h2⟩
section
theorem GV.blks {u:AV} {b:LB} (h:GV s ρ D v u b):∀ e∈b,s.blk e.1=some e.2:=by
 cases h with
 | p h=>exact tD _ _ _ h
 | ptr _ _=>simp
 | ref _ _=>simp
theorem GVs.blks {b:LB} (h:GVs s ρ D vs us b):∀ e∈b,s.blk e.1=some e.2:=by
 induction h with
 | nil=>simp
 | cons h _ ih=>exact λe he=>(Q4.1 he).elim (h.blks e) (ih e)
theorem GVs.get {b:LB} (h:GVs s ρ D vs us b):vs.length=us.length/\∀ (j:Nat) (u:AV),us[j]? = some u->∃ v b',vs[j]? = some v/\GV s ρ D v u b'/\∀ e∈b',e∈b:=by
 induction h with
 | nil=>exact ⟨rfl,by simp⟩
 | cons h _ ih=>
  refine ⟨by simp [ih.1],λj u hu=>?_⟩;cases j with
  | zero=>simp at hu;subst hu;exact ⟨_,_,rfl,h,λe he=>Q4.2 (.inl he)⟩
  | succ j=>
   obtain ⟨v,b',h1,h2,h3⟩:=ih.2 j u (by simpa using hu);exact ⟨v,b',by simpa using h1,h2,λe he=>Q4.2 (.inr (h3 e he))⟩
theorem GB.blks {b:LB} (h:GB s ρ D B b):∀ e∈b,s.blk e.1=some e.2:=by
 induction h with
 | nil=>simp
 | cons h g _ ih=>
  intro e he;simp only [Qb,Q4] at he;rcases he with rfl | he | he
  ·exact h
  ·exact g.blks e he
  ·exact ih e he
theorem GB.get {b:LB} (h:GB s ρ D B b):∀ {j:Nat} {us:List AV},lk (bV B) j=some (.var us)->∃ as b',(ρ j,zG.var as)∈b/\GVs s ρ D as us b'/\∀ e∈b',e∈b:=by
 induction h with
 | nil=>intro j us h;simp [bV,lk] at h
 | @cons i us as b bs r h g _ ih=>
  intro j us' hl;simp only [bV,lk] at hl;cases hb:Q5 j i with
  | true=>
   have:=Q1 hb;subst this;simp at hl;subst hl;exact ⟨as,b,by simp,g,λe he=>by simp [he]⟩
  | false=>
   simp [hb] at hl;obtain ⟨as',b',h1,h2,h3⟩:=ih hl;exact ⟨as',b',by simp [h1],h2,λe he=>by simp [h3 e he]⟩
theorem GA.reads {xs:List Operand} {ts:List TypeId} {b:LB} (h:GA s te ρ D xs ts us rs b):wM s rs/\∀ e∈b,s.blk e.1=some e.2:=by
 induction h with
 | nil=>exact ⟨by intro e he;simp at he,by simp⟩
 | cons h g _ ih=>exact ⟨yH (zK h) ih.1,λe he=>(Q4.1 he).elim (g.blks e) (ih.2 e)⟩
theorem GV.rep {u:AV} {b:LB} (h:GV s ρ D v u b) (hb:∀ e∈b,s'.blk e.1=some e.2) {κ':Nat->Option Nat} {tip':Nat->Value} {bl:LB} (hκ:∀ j∈D,κ' j=κ (ρ j)) (hD:∀ j∈D,∃ us,lk bl j=some (.var us)) {x:Value} (hr:RepA M κ tip s'.blk v x):RepA M κ' tip' (lk bl) u x:=by
 cases h with
 | p h=>exact .p _ _ (zE9 hr (zKq _ _ _ h hb))
 | @ptr k j o h1 h2=>
  cases hr with
  | ptr _ _ b' l g1 g2=>
   obtain ⟨us,hus⟩:=hD j h2;exact .ptr j o b' us (by rw [hκ j h2,h1];exact g1) hus
 | @ref k j o n h1 h2=>
  cases hr with
  | ref _ _ _ b' l g1 g2=>
   obtain ⟨us,hus⟩:=hD j h2;exact .ref j o n b' us (by rw [hκ j h2,h1];exact g1) hus
def GR (s:AS) (ρ:Nat->Nat) (D:List Nat) (bb:LB) (M:Mem) (κ:Nat->Option Nat) (tip:Nat->Value) (B:NB) (us:List AV) (args:Array Value):Prop:=
 args.size=us.length/\∀ (j:Nat) (u:AV),us[j]? = some u->∃ v b,GV s ρ D v u b/\(∀ e∈b,e∈bb)/\RepA M κ tip B v (args.getD j undef)
theorem GA.rep {xs:List Operand} {ts:List TypeId} {b:LB} (h:GA s te ρ D xs ts us rs b) {w:World} (hi:Inv cx M κ tip s' a w):wM s' rs ->
  xs.length=us.length/\∀ (j:Nat) (u:AV),us[j]? = some u->∃ v b',GV s ρ D v u b'/\(∀ e∈b',e∈b)/\RepA M κ tip s'.blk v (((xs.map a.eval)[j]?).getD undef):=by
 induction h with
 | nil=>intro _;exact ⟨rfl,by simp⟩
 | cons h g _ ih=>
  intro hr;obtain ⟨e1,e2⟩:=ih (zZ hr);refine ⟨by simp [e1],λj u hu=>?_⟩;cases j with
  | zero=>simp at hu;subst hu;exact ⟨_,_,g,λe he=>Q4.2 (.inl he),by simpa using yC hi (yF h s' (yD hr))⟩
  | succ j=>
   obtain ⟨v,b',h1,h2,h3⟩:=e2 j u (by simpa using hu);exact ⟨v,b',h1,λe he=>Q4.2 (.inr (h2 e he)),by simpa using h3⟩
end
section
theorem zVu {w:World} 
  (hp:∀ k∈cx.pk,κ k.1=some k.2/\k.2<cx.w0.heap.size) (hi:Inv cx M κ tip s' a w) (hb':∀ e∈bb,s'.blk e.1=some e.2) (hfr:∀ k∈fr,s'.blk k=none) (hg:GR s ρ (B.map (·.1)) bb M κ tip s'.blk us args) (hB:GB s ρ (B.map (·.1)) B bB) (hsub:∀ e∈bB,e∈bb)
  (hinj:∀ j∈bout.map (·.1),∀ j'∈bout.map (·.1),ρ j=ρ j'->j=j') (hout:∀ j∈B.map (·.1),∃ l',lk bout j=some (.var l')) (hnew:∀ j∈bout.map (·.1),j∈B.map (·.1)∨ρ j∈fr) :
  ∃ pk κ',Inv ⟨w,M,pk,us.length,[]⟩ M κ' (λ_=>undef) (mkS (fW 0 us) (bV B)) ⟨args,[]⟩ w/\(∀ k∈pk,κ' k.1=some k.2/\k.2<w.heap.size) /\
   ∀ v w',tG ⟨w,M,pk,1,[]⟩ (mkS [(0,av)] bout) ⟨#[v],[]⟩ w'->∃ M' κ2 tip2,M.le M'/\(∀ k∈cx.pk,κ2 k.1=some k.2/\k.2<cx.w0.heap.size)/\Inv cx M' κ2 tip2 (inS s' ρ bout) a w'/\RepA M' κ2 tip2 (inS s' ρ bout).blk (av.ren ρ) v:=by
 obtain ⟨hsz,hargs⟩:=hg;generalize hD:B.map (·.1)=D at *;have lkmem:∀ j b,lk bout j=some b->j∈bout.map (·.1):=λj b h=>Q6.2 ⟨(j,b),tU bout j b h,rfl⟩;have hDout:∀ j∈D,j∈bout.map (·.1):=λj hj=>let ⟨l',h⟩:=hout j hj;lkmem j _ h;have hBs:∀ j∈D,∃ us,lk (bV B) j=some (.var us):=λj hj=>zBb (by rw [hD];exact hj);have hkey:∀ j∈D,∃ b as,κ (ρ j)=some b/\b<w.heap.size/\s'.blk (ρ j)=some (.var as):=λj hj=>by
  obtain ⟨us,hus⟩:=hBs j hj;obtain ⟨as,b',g1,_,_⟩:=hB.get hus;have h1:s'.blk (ρ j)=some (.var as):=hb' _ (hsub _ g1);obtain ⟨b,_,_,_,q1,_⟩:=hi.vars _ as h1;exact ⟨b,as,q1,hi.lt q1,h1⟩
 let κ':Nat->Option Nat:=λj=>if j∈D then κ (ρ j) else none
 let pk:List (Nat×Nat):=D.map λj=>(j,(κ (ρ j)).getD 0);have hκ':∀ j∈D,κ' j=κ (ρ j):=λj hj=>by simp [κ',hj]
 have hpk:∀ e∈pk,e.1∈D/\κ (ρ e.1)=some e.2:=λe he=>by
  obtain ⟨j,hj,rfl⟩:=Q6.1 he;obtain ⟨b,_,h1,_⟩:=hkey j hj;exact ⟨hj,by simp [h1]⟩
 have hrepv:∀ {v u:AV} {b:LB} {x:Value},GV s ρ D v u b->(∀ e∈b,e∈bb)->RepA M κ tip s'.blk v x->RepA M κ' (λ_=>undef) (lk (bV B)) u x:=λh hb hr=>h.rep (λe he=>hb' e (hb e he)) hκ' hBs hr;refine ⟨pk,κ',{
  defers:=rfl
  size:=by simp only;omega
  fr:=⟨rfl,rfl,rfl,Qm _,λ_ _ _=>rfl⟩
  mem:=hi.mem
  env:=λt u h=>by
   obtain ⟨_,h3⟩:=zL0 us 0 t u h;simp only [Nat.sub_zero] at h3;have hlt:t<us.length:=(List.getElem?_eq_some_iff.1 h3).1;have hlt':t<args.size:=by omega
   obtain ⟨v,b,g1,g2,g3⟩:=hargs t u h3;refine ⟨args[t],by simp [hlt'],?_⟩;have:=hrepv g1 g2 g3;rw [Q3,Array.getElem?_eq_getElem hlt'] at this;exact this
  vars:=λj us' h=>by
   have hj:j∈D:=by rw [<- hD];exact (zEh h).1
   obtain ⟨as,b',g1,g2,g3⟩:=hB.get h;obtain ⟨b,arr,e,fz,q1,q2,q3,q4,q5,q6,q7⟩:=hi.vars (ρ j) as (hb' _ (hsub _ g1));refine ⟨b,arr,e,fz,by rw [hκ' j hj];exact q1,q2,q3,by rw [q4,g2.get.1],λi u hu=>?_,q6,.inr ?_⟩
   ·obtain ⟨v,b2,r1,r2,r3⟩:=g2.get.2 i u hu;exact hrepv r2 (λe he=>hsub e (g3 e (r3 e he))) (q5 i v r1)
   ·simp only [Ctx.pb,Q6];exact ⟨(j,b),Q6.2 ⟨j,hj,by simp [q1]⟩,rfl⟩
  bufs:=λj c h=>by obtain ⟨_,us',h'⟩:=zEh h;cases h'
  inj:=λj j' b h1 h2=>by
   by_cases a1:j∈D
   ·by_cases a2:j'∈D
    ·rw [hκ' j a1] at h1;rw [hκ' j' a2] at h2;exact hinj j (hDout j a1) j' (hDout j' a2) (hi.inj _ _ b h1 h2)
    ·simp [κ',a2] at h2
   ·simp [κ',a1] at h1
  dom:=λj h=>by
   by_cases a1:j∈D
   ·obtain ⟨us',h'⟩:=hBs j a1;have:lk (bV B) j=none:=h;rw [h'] at this;cases this
   ·simp [κ',a1]
  old:=λ_ _ _=>rfl
  glob:=hi.globw hp
  owns:=λj wd l h=>by obtain ⟨_,us',h'⟩:=zEh h;cases h' },λe he=>?_,?_⟩
 ·obtain ⟨h1,h2⟩:=hpk e he;obtain ⟨b,_,h3,h4,_⟩:=hkey e.1 h1;rw [h2] at h3;cases h3;exact ⟨by rw [hκ' _ h1];exact h2,h4⟩
 rintro v w' ⟨M',κ2,tip',h0',hp',hr⟩;obtain ⟨i1,i2⟩:=hi.import h0' hr ρ hinj
  (λe he=>by
   obtain ⟨h1,h2⟩:=hpk e he;obtain ⟨b,as,h3,h4,h5⟩:=hkey e.1 h1;exact ⟨(hp' e he).1,h2,⟨as,h5⟩,hout e.1 h1⟩)
  (λj hj=>(hnew j hj).elim (λh=>.inl ⟨_,Q6.2 ⟨j,h,rfl⟩⟩) λh=>.inr (hfr _ h))
 obtain ⟨x,hx,hrx⟩:=hr.env 0 av (by simp [mkS,lk]);simp at hx;subst hx;refine ⟨M',_,_,h0',?_,i1,i2 av v hrx⟩;intro k' hk';obtain ⟨h1,h2⟩:=hp k' hk';refine ⟨?_,h2⟩;cases hfk:fk ρ (bout.map (·.1)) k'.1 with
 | none=>exact h1
 | some j=>
  obtain ⟨hj,he⟩:=qT hfk;simp only;rcases hnew j hj with h | h
  ·have h3:(j,(κ (ρ j)).getD 0)∈pk:=Q6.2 ⟨j,h,rfl⟩;have h4:=(hp' _ h3).1;rw [he] at h1;simp only [h1,Qs] at h4;exact h4
  ·have:=hi.dom _ (hfr _ h);rw [<- he] at this;rw [this] at h1;cases h1
theorem zMp (hd:o.dst=some d)
  (hok:Ok P f na (mkS (fW 0 us) (bV B)) (mkS [(0,av)] bout)) (hrs:wM s rs) (hbb:∀ e∈bb,s.blk e.1=some e.2) (hfr:∀ k∈fr,s.blk k=none)
  (hrun:∀ (cx:Ctx) (M:Mem) (κ:Nat->Option Nat) (tip:Nat->Value) (s':AS) (a:Act) (w:World),Inv cx M κ tip s' a w->wM s' rs->∃ args,(execOp a.eval o).run P w=.ok (.enter f args) w/\GR s ρ (B.map (·.1)) bb M κ tip s'.blk us args)
  (hn:na=us.length) (hB:GB s ρ (B.map (·.1)) B bB) (hsub:∀ e∈bB,e∈bb) (hinj:∀ j∈bout.map (·.1),∀ j'∈bout.map (·.1),ρ j=ρ j'->j=j') (hout:∀ j∈B.map (·.1),∃ l',lk bout j=some (.var l')) (hnew:∀ j∈bout.map (·.1),j∈B.map (·.1)∨ρ j∈fr) :
  SA P o s ⟨rs,bb,fr,some (d,some (av.ren ρ)),bout.map λe=>(ρ e.1,e.2.ren ρ)⟩:=by
 refine ⟨?_,hrs,hbb,hfr⟩;intro cx s' a w K Q hm hs hws hk;obtain ⟨M,κ,tip,h0,hp,hi⟩:=hs;obtain ⟨args,hrun,hg⟩:=hrun cx M κ tip s' a w hi hm.1;subst hn;obtain ⟨pk,κ',hinv,hpk,hafter⟩:=zVu hp hi hm.2.1 hm.2.2 hg hB hsub hinj hout hnew (av:=av);unfold Oper.wp;rw [hrun];show Calls P f _ w _;refine (hok.2 w M pk _ _ _ hinv hpk).mono ?_;rintro e' w' ⟨v,rfl,hr⟩;show K (a.put o.dst v) w';rw [hd];refine hk _ _ ?_;rw [zAs];obtain ⟨M',κ2,tip2,h1,h2,h3,h4⟩:=hafter v w' hr;exact ⟨M',κ2,tip2,h0.trans' h1,h2,h3.put (hws d (by simp [Mic.ws])) h4⟩
theorem GR.of {xs:List Operand} {B:NB} (h:xs.length=us.length/\∀ (j:Nat) (u:AV),us[j]? = some u->∃ v b',GV s ρ D v u b'/\(∀ e∈b',e∈bb)/\RepA M κ tip B v (((xs.map a.eval)[j]?).getD undef)) (ha:args.toList=xs.map a.eval):GR s ρ D bb M κ tip B us args:=by
 refine ⟨by rw [<- Ql,ha,Qu,h.1],λj u hu=>?_⟩;obtain ⟨v,b,h1,h2,h3⟩:=h.2 j u hu;refine ⟨v,b,h1,h2,?_⟩;rw [Q3,<- Array.getElem?_toList,ha];exact h3
theorem zTq (hd:o.dst=some d) (ho:o.op=.call { callee:=.value (.func f),args:=xs,argTypes:=ts })
  (hok:Ok P f na (mkS (fW 0 us) (bV B)) (mkS [(0,av)] bout)) (hxl:xs.toList=xl) (htl:ts.toList=tl) (ha:GA s te ρ (B.map (·.1)) xl tl us rs bb) (hB:GB s ρ (B.map (·.1)) B bB) (hfr:∀ k∈fr,s.blk k=none) (hn:na=us.length)
  (hinj:∀ j∈bout.map (·.1),∀ j'∈bout.map (·.1),ρ j=ρ j'->j=j') (hout:∀ j∈B.map (·.1),∃ l',lk bout j=some (.var l')) (hnew:∀ j∈bout.map (·.1),j∈B.map (·.1)∨ρ j∈fr) :
  SA P o s ⟨rs,bb++bB,fr,some (d,some (av.ren ρ)),bout.map λe=>(ρ e.1,e.2.ren ρ)⟩:=by
 refine zMp hd hok ha.reads.1 (λe he=>(Q4.1 he).elim (ha.reads.2 e) (hB.blks e)) hfr (λcx M κ tip s' a w hi hr=>?_) hn hB (λe he=>Q4.2 (.inr he)) hinj hout hnew;refine ⟨_,zHp ho hok.1,?_⟩;obtain ⟨h1,h2⟩:=ha.rep hi hr;refine GR.of (xs:=xl) (a:=a) ⟨h1,λj u hu=>?_⟩ (by simp [hxl]);obtain ⟨v,b,g1,g2,g3⟩:=h2 j u hu;exact ⟨v,b,g1,λe he=>Q4.2 (.inl (g2 e he)),g3⟩
theorem zQq {tx:TypeId} (hd:o.dst=some d) (ho:o.op=.call { callee:=.value x,args:=xs,argTypes:=ts })
  (hx:s.get te tx x=some (.fnv (f+1000000) cs)) (hok:Ok P f na (mkS (fW 0 (us++qs)) (bV B)) (mkS [(0,av)] bout)) (hxl:xs.toList=xl) (htl:ts.toList=tl) (ha:GA s te ρ (B.map (·.1)) xl tl us rs bb) (hc:GVs s ρ (B.map (·.1)) cs qs bc) (hB:GB s ρ (B.map (·.1)) B bB) (hfr:∀ k∈fr,s.blk k=none) (hn:na=(us++qs).length)
  (hinj:∀ j∈bout.map (·.1),∀ j'∈bout.map (·.1),ρ j=ρ j'->j=j') (hout:∀ j∈B.map (·.1),∃ l',lk bout j=some (.var l')) (hnew:∀ j∈bout.map (·.1),j∈B.map (·.1)∨ρ j∈fr) :
  SA P o s ⟨opS x (.fnv (f+1000000) cs)++rs,bb++(bc++bB),fr,some (d,some (av.ren ρ)),bout.map λe=>(ρ e.1,e.2.ren ρ)⟩:=by
 refine zMp hd hok (yH (zK hx) ha.reads.1) (λe he=>?_) hfr (λcx M κ tip s' a w hi hr=>?_) hn hB (λe he=>by simp [he]) hinj hout hnew
 ·simp only [Q4] at he;rcases he with he | he | he
  ·exact ha.reads.2 e he
  ·exact hc.blks e he
  ·exact hB.blks e he
 ·have hx':=yC hi (yF hx s' (yD hr));obtain ⟨vs,hev,g1,g2⟩:∃ vs:Array Value,a.eval x=.func (.func f) #[] vs/\vs.size=cs.length/\∀ (j:Nat) (q:AV),cs[j]? = some q->RepA M κ tip s'.blk q (vs.getD j undef):=by
   generalize a.eval x=z at hx';cases hx' with
   | fnv _ _ vs g1 g2=>
    refine ⟨vs,?_,g1,g2⟩;have:Qc (f+1000000) 1000000=false:=by rw [Qi];intro e;have:=Q0 e;omega
    simp [mkF,this]
  obtain ⟨h1,h2⟩:=ha.rep hi (zZ hr);obtain ⟨c1,c2⟩:=hc.get;obtain ⟨fn,k1,k2,k3⟩:=hok.1;have k2':fn.body≠none:=by intro e;simp [e] at k2
  have k3':fn.name ≠ "runtime.NumGoroutine":=by intro e;simp [e] at k3
  refine ⟨#[]++xs.map a.eval++vs,by simp [execOp,ho,resolve,hev,Deferred.ofValue,invoke,callFunc,k1,k2',k3'],?_,λj u hu=>?_⟩
  ·have:xs.size=xl.length:=by rw [<- hxl];simp
   simp [g1,c1,this,h1]
  ·have hsz:(xs.map a.eval).size=us.length:=by rw [<- h1,<- hxl];simp
   rw [List.getElem?_append] at hu;rw [Q3,Array.empty_append,Array.getElem?_append,hsz];split at hu
   ·rename_i hlt;rw [if_pos hlt];obtain ⟨v,b,g3,g4,g5⟩:=h2 j u hu;refine ⟨v,b,g3,λe he=>Q4.2 (.inl (g4 e he)),?_⟩;rw [<- hxl] at g5;simpa using g5
   ·rename_i hlt;rw [if_neg hlt];obtain ⟨v,b,g3,g4,g5⟩:=c2 _ u hu;refine ⟨v,b,g4,λe he=>by simp [g5 e he],?_⟩;rw [<- Q3];exact g2 _ v g3
end
def shm (d:Nat) (μ:List (Nat×Nat)) (j:Nat):Nat:=match lk μ j with | some k=>k | none=>sh d j
def zT5:List Nat->Bool
 | []=>true
 | a :: l=>l.all (λb=>!Nat.beq a b)&&zT5 l
theorem zG3:∀ {l:List Nat},zT5 (l.map ρ)=true->∀ j∈l,∀ j'∈l,ρ j=ρ j'->j=j'
 | [],_,j,h,_,_,_=>by simp at h
 | a :: l,hn,j,h,j',h',e=>by
  simp only [Q9,zT5,Q8] at hn;have hx:∀ i∈l,ρ a≠ρ i:=λi hi he=>by
   have:=(Qg.1 hn.1) (ρ i) (Q6.2 ⟨i,hi,rfl⟩);simp [he] at this
  simp only [Qb] at h h';rcases h with rfl | h
  ·rcases h' with rfl | h'
   ·rfl
   ·exact (hx j' h' e).elim
  ·rcases h' with rfl | h'
   ·exact (hx j h e.symm).elim
   ·exact zG3 hn.2 j h j' h' e
def zRl:List Nat->List Nat->Bool
 | [],[]=>true
 | a :: l,b :: m=>Q5 a b&&zRl l m
 | _,_=>false
theorem zKd:∀ {l m:List Nat},zRl l m=true->l=m
 | [],[],_=>rfl
 | a :: l,b :: m,h=>by
  simp only [zRl,Q8] at h;rw [Q1 h.1,zKd h.2]
 | [],_ :: _,h=>by cases h
 | _ :: _,[],h=>by cases h
section
variable {u:AV} {xs:List Operand} {ts:List TypeId} {as:List AV} {b:LB} {o:Nat} {r:List (Nat×List AV)}
theorem zYn (h:D.any (Q5 j)=true):j∈D:=by
 obtain ⟨i,h1,h2⟩:=List.any_eq_true.1 h;rw [Q1 h2];exact h1
theorem ga0:GA s te ρ D [] [] [] [] []:=.nil
theorem gap (h:s.get te t x=some v) (hr:s.rd v=some (q,b)) (k:GA s te ρ D xs ts us rs bs):GA s te ρ D (x :: xs) (t :: ts) (.p q :: us) (opS x v++rs) (b++bs):=.cons h (.p hr) k
theorem gat (h:s.get te t x=some (.ptr k o)) (e:ρ j=k) (hm:D.any (Q5 j)=true) (kk:GA s te ρ D xs ts us rs bs):GA s te ρ D (x :: xs) (t :: ts) (.ptr j o :: us) (opS x (.ptr k o)++rs) ([]++bs):=.cons h (.ptr e (zYn hm)) kk
theorem gl0:GVs s ρ D [] [] []:=.nil
theorem glp (hr:s.rd v=some (q,b)) (k:GVs s ρ D vs us bs):GVs s ρ D (v :: vs) (.p q :: us) (b++bs):=.cons (.p hr) k
theorem glt (e:ρ j=k) (hm:D.any (Q5 j)=true) (kk:GVs s ρ D vs us bs):GVs s ρ D (.ptr k o :: vs) (.ptr j o :: us) ([]++bs):=.cons (.ptr e (zYn hm)) kk
theorem gb0:GB s ρ D [] []:=.nil
theorem gb (h:s.blk (ρ j)=some (.var as)) (g:GVs s ρ D as us b) (k:GB s ρ D r bs):GB s ρ D ((j,us) :: r) ((ρ j,.var as) :: (b++bs)):=.cons h g k
inductive GS (s:AS) (te:TE) (t:TypeId):List Operand->List AV->LV->Prop where
 | nil:GS s te t [] [] []
 | cons {x:Operand} {v:AV} {xs:List Operand} {vs:List AV} {rs:LV}:s.get te t x=some v->GS s te t xs vs rs->GS s te t (x :: xs) (v :: vs) (opS x v++rs)
theorem gs0:GS s te t [] [] []:=.nil
theorem gs1 (h:s.get te t x=some v) (k:GS s te t xs vs rs):GS s te t (x :: xs) (v :: vs) (opS x v++rs):=.cons h k
theorem GS.reads (h:GS s te t xs vs rs):wM s rs:=by
 induction h with
 | nil=>intro e he;simp at he
 | cons h _ ih=>exact yH (zK h) ih
theorem GS.rep (h:GS s te t xs vs rs) {w:World} (hi:Inv cx M κ tip s' a w):wM s' rs->xs.length=vs.length/\∀ (j:Nat) (v:AV),vs[j]? = some v->RepA M κ tip s'.blk v (((xs.map a.eval)[j]?).getD undef):=by
 induction h with
 | nil=>intro _;exact ⟨rfl,by simp⟩
 | cons h _ ih=>
  intro hr;obtain ⟨e1,e2⟩:=ih (zZ hr);refine ⟨by simp [e1],λj v hv=>?_⟩;cases j with
  | zero=>simp at hv;subst hv;simpa using yC hi (yF h s' (yD hr))
  | succ j=>simpa using e2 j v (by simpa using hv)
end
section
theorem zUv {yl:List Operand} (ho:o.op=.makeFunc (.func f) #[] ys) (hyl:ys.toList=yl) (h:GS s te 0 yl vs rs):VA P o s rs [] (.fnv (f+1000000) vs):=by
 refine ⟨?_,h.reads,by simp⟩;intro cx M κ tip s' a w hi hr _;obtain ⟨h1,h2⟩:=h.rep hi hr;have hlt:Qc (f+1000000) 1000000=false:=by rw [Qi];intro e;have:=Q0 e;omega
 refine ⟨mkF (f+1000000) (ys.map a.eval),by simp [execOp,ho,Instr.makeFunc,mkF,hlt],.fnv _ _ _ (by rw [<- h1,<- hyl];simp) (λj v hv=>?_)⟩;have:=h2 j v hv;rw [<- hyl] at this;rw [Q3];simpa using this
end
section
variable [T:zAn P] 
theorem RK.mfC (h:GS s T.te 0 ys.toList vs rs) (k:VK P ops r s K d rs [] (.fnv (f+1000000) vs)):RK P ops (⟨some d,.makeFunc (.func f) #[] ys,ty,pos,af,none⟩:: r) s K:=RK.va rfl rfl (zUv rfl rfl h) k
def zUz (s:AS) (d na:Nat) (n:Nat) (μ:List (Nat×Nat)) (B B2:List (Nat×List AV)) (bn:LB):Bool:=
 Q5 na n&&((kR (shm d μ) bn).all (λk=>(s.blk k).isNone)&&(zRl (B.map (·.1)) (B2.map (·.1))&&zT5 (kR (shm d μ) (bV B2++bn))))
theorem zJw {μ:List (Nat×Nat)} (h:zUz s d na n μ B B2 bn=true):na=n/\(∀ k∈bn.map (λe=>shm d μ e.1),s.blk k=none) /\
  (∀ j∈(bV B2++bn).map (·.1),∀ j'∈(bV B2++bn).map (·.1),shm d μ j=shm d μ j'->j=j')/\(∀ j∈B.map (·.1),∃ l',lk (bV B2++bn) j=some (.var l'))/\(∀ j∈(bV B2++bn).map (·.1),j∈B.map (·.1)∨shm d μ j∈bn.map (λe=>shm d μ e.1)):=by
 simp only [zUz,Q8] at h;obtain ⟨h1,h2,h3,h4⟩:=h;rw [gI] at h2 h4;have h3:=zKd h3;refine ⟨Q1 h1,λk hk=>by simpa using (Qg.1 h2) k hk,?_,λj hj=>?_,λj hj=>?_⟩
 ·have:(bV B2++bn).map (λe=>shm d μ e.1)=((bV B2++bn).map (·.1)).map (shm d μ):=by rw [Qy];rfl
  rw [this] at h4;exact zG3 h4
 ·rw [h3] at hj;obtain ⟨us,hus⟩:=zBb hj;refine ⟨us,?_⟩;clear h1 h2 h3 h4;revert hus;generalize bV B2=l;intro hus;induction l with
  | nil=>simp [lk] at hus
  | cons e l ih=>
   obtain ⟨i,b⟩:=e;simp only [W0,lk] at hus ⊢;cases hb:Q5 j i with
   | true=>simpa [hb] using hus
   | false=>simp [hb] at hus ⊢;exact ih hus
 ·rw [W3,Q4] at hj;rcases hj with hj | hj
  ·rw [zGm] at hj;rw [h3];exact .inl hj
  ·obtain ⟨e,he,rfl⟩:=Q6.1 hj;exact .inr (Q6.2 ⟨e,he,rfl⟩)
theorem RK.cg (μ:List (Nat×Nat)) (h:Ok P f na (mkS (fW 0 us) (bV B)) (mkS [(0,av)] (bV B2++bn))) (ha:GA s T.te (shm d μ) (B.map (·.1)) xs.toList ts.toList us rs bb) (hB:GB s (shm d μ) (B.map (·.1)) B bB) (hc:zUz s d na us.length μ B B2 bn=true)
  (k:RK P ops r (Mic.upd ⟨rs,bb++bB,kR (shm d μ) bn,some (d,some (av.ren (shm d μ))),bR (shm d μ) (bV B2++bn)⟩ s) λs' ms=>K s' (⟨rs,bb++bB,kR (shm d μ) bn,some (d,some (av.ren (shm d μ))),bR (shm d μ) (bV B2++bn)⟩:: ms)):RK P ops (⟨some d,.call ⟨.value (.func f),xs,ts⟩,ty,pos,af,none⟩:: r) s K:=by
 obtain ⟨c1,c2,c3,c4,c5⟩:=zJw hc;rw [gI,zCg] at k;exact RK.st rfl (zTq rfl rfl h rfl rfl ha hB c2 c1 c3 c4 c5) k
theorem RK.cgc (μ:List (Nat×Nat)) (h:Ok P f na (mkS (fW 0 (us++qs)) (bV B)) (mkS [(0,av)] (bV B2++bn))) (hx:s.get T.te 0 x=some (.fnv (f+1000000) cs)) (ha:GA s T.te (shm d μ) (B.map (·.1)) xs.toList ts.toList us rs bb) (hg:GVs s (shm d μ) (B.map (·.1)) cs qs bc) (hB:GB s (shm d μ) (B.map (·.1)) B bB) (hc:zUz s d na (us++qs).length μ B B2 bn=true)
  (k:RK P ops r (Mic.upd ⟨opS x (.fnv (f+1000000) cs)++rs,bb++(bc++bB),kR (shm d μ) bn,some (d,some (av.ren (shm d μ))),bR (shm d μ) (bV B2++bn)⟩ s) λs' ms=>K s' (⟨opS x (.fnv (f+1000000) cs)++rs,bb++(bc++bB),kR (shm d μ) bn,some (d,some (av.ren (shm d μ))),bR (shm d μ) (bV B2++bn)⟩:: ms)):RK P ops (⟨some d,.call ⟨.value x,xs,ts⟩,ty,pos,af,none⟩:: r) s K:=by
 obtain ⟨c1,c2,c3,c4,c5⟩:=zJw hc;rw [gI,zCg] at k;exact RK.st rfl (zQq rfl rfl hx h rfl rfl ha hg hB c2 c1 c3 c4 c5) k
end
theorem zPp (h:as.blk=lk (bV B)) (hks:kR id (bV B)=ks):∀ k,(as.blk k).isSome=true->k∈ks:=λk hk=>by
 rw [h] at hk;obtain ⟨b,hb⟩:=Option.isSome_iff_exists.1 hk;have:=(zEh hb).1;rw [gI] at hks;rw [<- hks];rw [<- zGm] at this;simpa using this
section
theorem zQg {a:Nat} (hok:yR P te) (ho:o.op=.slice t x (some lo) (some hi) none)
  (ht:(te t).map (·.ty)=some (.slice e)) (he:te e=some ei) (hw:ei.w=1) (hx:s.get te t x=some (.own k n)) (hb:s.blk k=some (.own 1 l)) (hn:n=l.length)
  (hlo:s.get te 0 lo=some (.p (.int kl (a:Nat)))) (hhi:s.get te 0 hi=some (.p (.int kh (b:Nat)))) (h1:a<b) (h2:b<=n) :
  VA P o s (opS x (.own k n)++(opS lo (.p (.int kl (a:Nat)))++opS hi (.p (.int kh (b:Nat))))) [(k,.own 1 l)] (.osl k n a (b - a)):=by
 have bl:Bd s te (some lo) (some (a:Int)) _:=.some _ _ _ hlo;have bh:Bd s te (some hi) (some (b:Int)) _:=.some _ _ _ hhi;refine ⟨?_,yH (zK hx) (yH bl.reads bh.reads),by simpa using hb⟩;intro cx M κ tip s' ac w hin hr hb';have hbk:=hb' (k,.own 1 l) (by simp);simp only at hbk;obtain ⟨fl,hfl⟩:=bl.eval hin (yD (zZ hr));obtain ⟨fh,hfh⟩:=bh.eval hin (zZ (zZ hr));have hu:=yS hok ht;have hsz:=tA hok he w;have hev:=zKu (cx:=cx) hbk (by omega) (yC hin (yF hx s' (yD hr)));obtain ⟨g1,g2⟩:=hin.owns k 1 l hbk;rcases g2 with ⟨_,_,rfl⟩ | ⟨b0,n1,cap,arr,e1,fz,q1,q2,q3,q4,q5,q6,q7,q8,q9,q10,q11⟩
 ·simp at hn;omega
 ·have hnn:n1=n:=by omega
  subst hnn;rw [q1] at hev;have hb0:=bW P w true n1 cap (some (a:Int)) (some (b:Int)) none fl fh fl (by simp) (by simp) (by simp;omega) (by simp;omega) (by simp);have hml:¬ cap=a:=by omega
  refine ⟨.slice (some ⟨b0,0+a,none⟩) (b - a) (cap - a),?_,.osl k n1 a (b - a) 1 l _ hbk (by omega) (λ_=>⟨b0,cap - a,q2,by simp,by omega⟩) ⟨_,_,_,rfl⟩⟩;simp only [W5,Option.map_none,Qs,Int.toNat_natCast,Option.getD_none] at hb0 hfl hfh;simp [execOp,ho,hev,Instr.sliceAt,Instr.slice,run_underlying hu,hfl,hfh,hb0,hsz,hw,hml,add_off]
theorem zSx {m:By} (hok:yR P te) (hd:o.dst=some d) (ho:o.op=.call { callee:=.builtin .copy,args:=#[x,y],argTypes:=#[t,t'] }) (ht:(te t).map (·.ty)=some (.slice e)) (he:te e=some ei) (hw:ei.w=1)
  (hx:s.get te t x=some (.osl k N off n)) (hk:s.blk k=some (.own 1 l)) (hN:N=l.length) (hl:off+n<=l.length) (hy:s.get te t' y=some vy) (hp:s.rd vy=some (.bytes m,bs)) :
  SA P o s ⟨opS x (.osl k N off n)++opS y vy,(k,.own 1 l) :: bs,[],some (d,some (.p (.int .i64 (min m.length n:Nat)))),[(k,.own 1 (qM l off ((m.take n).map λu=>.p (.int .u8 u.toNat))))]⟩:=by
 refine ⟨?_,yH (zK hx) (zK hy),λe he=>(Qb.1 he).elim (λh=>by subst h;exact hk) (tD vy _ bs hp e),by intro k hk';simp at hk'⟩;intro cx s' a w K Q hm hs' hws hk';obtain ⟨M,κ,tip,h0,hpk,hi⟩:=hs';have hbk:s'.blk k=some (.own 1 l):=hm.2.1 (k,.own 1 l) (by simp);have hx':=yC hi (yF hx s' (yD hm.1));have hy':=hJ hi hy hp (zZ hm.1) (λe he=>hm.2.1 e (by simp [he]));obtain ⟨info,z,i1,i2,i3,i4,i5⟩:=(hok e ei he).info;have hu:=yS hok ht;have hsz1:(P.info? e).map (·.size)=some 1:=by rw [i1,W5,i2,hw]
 generalize hev:a.eval x=zx at hx';cases hx' with
 | osl _ _ _ _ w' l' _ g1 g2 g3 g4=>
 rw [hbk] at g1;cases g1;obtain ⟨b,c,hκ,rfl,hnc⟩:=g3 (by omega);obtain ⟨_,g5⟩:=hi.owns k 1 l hbk;rcases g5 with ⟨_,y2,_⟩ | ⟨b',n1,cap,arr,e1,fz,q1,q2,q3,q4,q5,q6,q7,q8,q9,q10,q11⟩
 ·rw [hκ] at y2;cases y2
 rw [hκ] at q2;cases q2;have hnn:n1=N:=by omega
 subst hnn;have hfin:∀ (w':World) (vs:List Value),(execOp a.eval o).run P w=.ok (.value (.int .i64 (min m.length n:Nat))) w'->w'=w.setCells b off vs->vs=(m.take n).map (λu=>.int .u8 u.toNat)->o.wp P a w K Q:=by
  intro w' vs h1 h2 h3;subst h2;unfold Oper.wp;rw [h1];show K (a.put o.dst _) _;rw [hd];refine hk' _ _ ?_;rw [uH];have hvl:vs.length=((m.take n).map λu=>(AV.p (.int .u8 u.toNat))).length:=by simp [h3]
  have hvn:vs.length<=n:=by rw [h3];simp;omega
  obtain ⟨arr',z1,z2,z3⟩:=qR b vs off w arr e1 fz q4 (by omega);have hlen:=zBg (l:=l) (cs:=(m.take n).map λu=>(AV.p (.int .u8 u.toNat))) (off:=off) (by omega);refine ⟨M,κ,_,h0,hpk,(hi.ownSet (n':=n1) hbk q1 hκ q3 (by rw [z2];exact q5) z1 (by rw [z2];exact q7) q8 q9 (by omega) q11 (by omega) (by omega) q6 ?_).put (hws d (by simp [Mic.ws])) (.p _ _ (.int _ _))⟩;intro j q hq;rw [dL (by omega)] at hq;rw [Q3,z3 j];by_cases hj:off<=j/\j<off+vs.length
  ·rw [if_pos (by omega)] at hq;rw [if_pos hj];rw [List.getElem?_map] at hq;obtain ⟨u,h4,h5⟩:=Qa.1 hq;subst h5;rw [h3,List.getElem?_map,h4];exact .p _ _ (.int _ _)
  ·rw [if_neg (by omega)] at hq;rw [if_neg hj];have:=q10 j q hq;rw [Q3] at this;exact this
 generalize hevy:a.eval y=zy at hy';cases hy' with
 | bytes0=>
  refine hfin w [] ?_ rfl (by simp);have:=run_copy_none (P:=P) w t t' o.type e (some ⟨b,off,none⟩) none n c 0 0 hu hsz1 (by simp [Nat.min_def]);simp [execOp,ho,hev,hevy,resolve,invoke,builtin,this,goInt]
 | bytesE aa=>
  refine hfin w [] ?_ rfl (by simp);have:=run_copy_none (P:=P) w t t' o.type e (some ⟨b,off,none⟩) (some aa) n c 0 0 hu hsz1 (by simp [Nat.min_def]);simp [execOp,ho,hev,hevy,resolve,invoke,builtin,this,goInt]
 | bytes _ b2 o2 n2 c2 e1' e2' e3'=>
  have hcs:((m.take n).map λu=>Value.int .u8 u.toNat).length=Nat.min n2 n:=by simp [e1',Nat.min_comm]
  have hrun:=run_copy_cells (P:=P) w t t' o.type e b off n c ⟨b2,o2,none⟩ n2 c2 ((m.take n).map λu=>Value.int .u8 u.toNat) hu hsz1 hcs
   (by
    intro j u hu';rw [List.getElem?_map] at hu';obtain ⟨u',h4,h5⟩:=Qa.1 hu';rw [List.getElem?_take] at h4;split at h4
    ·rw [add_off,<- h5];exact hi.mem _ _ _ (e3' j u' h4)
    ·cases h4)
   (by
     intro j hj;simp at hj;have:off+j<arr.size:=by omega
     simp [World.cell?,q4,this])
   (by intro j hj;simp at hj;exact rO q4 q5 (by omega))
   (by intro u hu';obtain ⟨u',_,rfl⟩:=Q6.1 hu';rfl)
  refine hfin _ _ ?_ rfl rfl;have hmin:((m.take n).map λu=>Value.int .u8 u.toNat).length=min m.length n:=by simp [Nat.min_comm]
  rw [hmin] at hrun;simp [execOp,ho,hev,hevy,resolve,invoke,builtin,hrun,goInt]
end
def cpA (l:By) (o n:Nat) (m:By):By:=l.take o++(m.take n++l.drop (o+(m.take n).length))
theorem zU3 {l m:By} {o:Nat} (h:Qh (o+n) l.length=true) (hk:l.length=k):(cpA l o n m).length=k:=by
 have:=Q0 h;simp only [cpA,Qn,List.length_take,List.length_drop];omega
section
variable [T:zAn P] 
theorem RK.slO {l:By} (a b:Nat) (hn:l.length=n) (h:Qh b l.length=true) (ht0:((T.te t).map (·.ty),T.te e,ei.w,s.get T.te t x,s.blk k0,s.get T.te 0 lo,s.get T.te 0 hi,Qc a b)=(some (.slice e),some ei,1,some (.own k0 n),some (qO (.bytes l)),some (.p (.int kl (a:Nat))),some (.p (.int kh (b:Nat))),true))
  (k:VK P ops r s K d (opS x (.own k0 n)++(opS lo (.p (.int kl (a:Nat)))++opS hi (.p (.int kh (b:Nat))))) [(k0,qO (.bytes l))] (.osl k0 n a (b - a))):RK P ops (⟨some d,.slice t x (some lo) (some hi) none,ty,pos,af,none⟩:: r) s K:=have ⟨ht,ht0⟩:=pq ht0;have ⟨he,ht0⟩:=pq ht0;have ⟨hw,ht0⟩:=pq ht0;have ⟨hx,ht0⟩:=pq ht0;have ⟨hb,ht0⟩:=pq ht0;have ⟨hlo,ht0⟩:=pq ht0;have ⟨hhi,h1⟩:=pq ht0;
 RK.va rfl rfl (zQg T.ok rfl ht he hw hx hb (by simp [Q7,hn]) hlo hhi (Q0 h1) (by have:=Q0 h;omega)) k
theorem RK.cpO {l m:By} (hN:l.length=N) (h:Qh (off+n) l.length=true) (ht0:((T.te t).map (·.ty),T.te e,ei.w,s.get T.te t x,s.blk k0,s.get T.te t2 y)=(some (.slice e),some ei,1,some (.osl k0 N off n),some (qO (.bytes l)),some vy)) (hp:s.rd vy=some (.bytes m,bs))
  (k:BK P ops r s K d (opS x (.osl k0 N off n)++opS y vy) ((k0,qO (.bytes l)) :: bs) [] k0 (qO (.bytes (cpA l off n m))) (.p (.int .i64 (min m.length n:Nat)))):RK P ops (⟨some d,.call ⟨.builtin .copy,#[x,y],#[t,t2]⟩,ty,pos,af,none⟩:: r) s K:=have ⟨ht,ht0⟩:=pq ht0;have ⟨he,ht0⟩:=pq ht0;have ⟨hw,ht0⟩:=pq ht0;have ⟨hx,ht0⟩:=pq ht0;have ⟨hk,hy⟩:=pq ht0;by
 have hle:=Q0 h;have h2:=zSx (P:=P) (o:=⟨some d,.call ⟨.builtin .copy,#[x,y],#[t,t2]⟩,ty,pos,af,none⟩) T.ok rfl rfl ht he hw hx hk (by simp [Q7,hN]) (by simp [Q7];omega) hy hp;have e1:qM (Q7 (.bytes l)) off ((m.take n).map λu=>AV.p (.int .u8 u.toNat))=Q7 (.bytes (cpA l off n m)):=by
  rw [jA (by simp [Q7];omega)];simp [Q7,cpA]
 rw [e1] at h2;exact RK.sb rfl h2 k
end
def OkW (P:Program) (f:FuncId) (na:Nat) (as rs:AS):Prop:=∃ fn body ks,P.funcs[f]? = some fn/\fn.body=some body/\(fn.name == "runtime.NumGoroutine")=false/\na<=fn.ntmps/\(∀ k,(as.blk k).isSome=true->k∈ks)/\∀ cx:Ctx,cx.nt=fn.ntmps->PK cx ks->awp P cx body (zYs P fn cx rs) as
theorem zTj {rs:AS} (E:AS) (hf:P.funcs[f]? = some fn) (hb:fn.body=some body) (hnm:(fn.name == "runtime.NumGoroutine")=false) (hnt:na<=fn.ntmps) (hks:∀ k,(as.blk k).isSome=true->k∈ks)
  (hr:∀ cx:Ctx,PK cx ks->qH P fn cx E rs) (h:∀ cx:Ctx,cx.nt=fn.ntmps->PK cx ks->awp P cx body (OR cx E) as):OkW P f na as rs:=
 ⟨fn,body,ks,hf,hb,hnm,hnt,hks,λcx h1 h2 a w hs=>wp_mono (h cx h1 h2 a w hs) λe a' w' ⟨s',g1,g2,g3⟩ =>⟨E,g3 cx a' w' rfl g1,g2,hr cx h2⟩⟩
section
theorem zJj {w:World} (hi:Inv ⟨w,M,pk,na,[]⟩ M κ tip as ⟨args,[]⟩ w) (hnt:na<=nt):Inv ⟨w,M,pk,nt,[]⟩ M κ tip as { tmps:=args++Array.replicate (nt - args.size) undef,defers:=[] } w:=by
 have hsz:args.size=na:=hi.size;exact {
  defers:=rfl
  size:=by simp;omega
  fr:=⟨hi.fr.os,hi.fr.tape,hi.fr.output,hi.fr.size,hi.fr.block⟩
  mem:=hi.mem
  env:=λt u e=>by
   obtain ⟨x,h1,h2⟩:=hi.env t u e;refine ⟨x,?_,h2⟩;simp only at h1;have hlt:t<args.size:=(Array.getElem?_eq_some_iff.1 h1).1;rw [Array.getElem?_append_left hlt];exact h1
  vars:=hi.vars
  bufs:=hi.bufs
  inj:=hi.inj
  dom:=hi.dom
  glob:=hi.glob
  old:=hi.old
  owns:=hi.owns }
theorem OkW.callsD {f:FuncId} {na:Nat} {as rs:AS} (h:OkW P f na as rs) {w:World} {M:Mem} {pk:List (Nat×Nat)} {args:Array Value} {κ:Nat->Option Nat} {tip:Nat->Value} (hi:Inv ⟨w,M,pk,na,[]⟩ M κ tip as ⟨args,[]⟩ w) (hpk:∀ k∈pk,κ k.1=some k.2/\k.2<w.heap.size) (u:FrameMode) :
  CallsD P f args u w λe u' w'=>u'=u/\∃ v,e=.returned v/\tG ⟨w,M,pk,1,[]⟩ rs ⟨#[v],[]⟩ w':=by
 obtain ⟨fn,body,ks,hf,hb,hnm,hnt,hks,h⟩:=h;refine callsD_of_wp (R:=λe w'=>∃ v,e=.returned v/\tG ⟨w,M,pk,1,[]⟩ rs ⟨#[v],[]⟩ w') hf hb ?_;have hPK:PK ⟨w,M,pk,fn.ntmps,[]⟩ ks:=λk hk=>hks k.1 (by
  cases hb:as.blk k.1 with
  | none=>have:=(hpk k hk).1;rw [hi.dom _ hb] at this;cases this
  | some b=>rfl)
 refine wp_mono (h ⟨w,M,pk,fn.ntmps,[]⟩ rfl hPK _ _ ⟨M,κ,tip,Mem.le_refl _,hpk,zJj hi hnt⟩) ?_;rintro e a' w' ⟨s',hs',he,hres⟩;obtain ⟨v,hv,hr⟩:=hres a' w' hs';have hd:a'.defers=[]:=by obtain ⟨_,_,_,_,_,hi'⟩:=hs';exact hi'.defers
 rcases he with rfl | rfl
 ·exact ⟨hd,v,hv,v,rfl,hr⟩
 ·exact ⟨hd,v,hv,v,rfl,hr⟩
theorem zNv {Q:Exit->Act->World->Prop} {is:List Nat} (hQ:∀ a w,tG cx s' a w->wpOps P ops Q is a w) {l:List Oper} {ms:List Mic}
  (h:Run P ops l s s' ms):(∀ m∈ms,∀ d∈m.ws,d<cx.nt)->∀ (n:Nat),(∀ i,i<l.length->l[i]? = ops[n+i]?)->∀ (a:Act) (w:World),tG cx s a w->wpOps P ops Q ((W6 l.length).map (n+·)++is) a w:=by
 induction h with
 | nil s=>intro _ n _ a w hs;exact hQ a w hs
 | cons o r m s s' ms h1 h2 _ ih=>
  intro hws n hl a w hs;have e:(W6 (o :: r).length).map (n+·)=n :: (W6 r.length).map (n+1+·):=by
   rw [Qq,List.range_succ_eq_map];simp only [Q9,Qy,Qx];congr 1;refine List.map_congr_left (λx _=>?_);simp only [Function.comp];omega
  rw [e,W0,wpOps_cons];have ho:ops[n]? = some o:=by
   have:=hl 0 (by simp);simpa using this.symm
  unfold wpOp;rw [ho];refine h1 cx s a w _ Q h2 hs (hws m (by simp)) ?_;intro a' w' hs';exact ih hQ (λx hx=>hws x (by simp [hx])) (n+1) (λi hi=>by have:=hl (i+1) (by simp;omega);rw [show n+1+i=n+(i+1) by omega];simpa using this) a' w' hs'
def zOi (P:Program) (cx:Ctx) (c:Code) (Q:Exit->AS->Prop) (X:Exit->Act->World->Prop) (s:AS):Prop:=
 ∀ a w,tG cx s a w->c.wp P (λe a' w'=>(∃ s',tG cx s' a' w'/\Q e s')∨X e a' w') a w
theorem xsq {x y:Code} (h:awp P cx x (zIj (λs=>zOi P cx y Q X s) Q) s):zOi P cx (.seq x y) Q X s:=λa w hs=>
 wp_seq (wp_mono (h a w hs) λe a' w' ⟨s',h1,h2⟩ =>by
  cases e with
  | normal=>exact h2 a' w' h1
  | _=>exact .inl ⟨s',h1,h2⟩)
def XQ (P:Program) (fn:Func) (cx:Ctx) (rs:AS):Exit->Act->World->Prop:=λe a w=>(e=.ret∨e=.normal)/\Leaves P fn a.tmps (λe w'=>∃ v,e=.returned v/\tG { cx with nt:=1,df:=[] } rs ⟨#[v],[]⟩ w') a.defers .returning w
theorem zU5 {rs:AS} (hf:P.funcs[f]? = some fn) (hb:fn.body=some body) (hnm:(fn.name == "runtime.NumGoroutine")=false) (hnt:na<=fn.ntmps) (hks:∀ k,(as.blk k).isSome=true->k∈ks)
  (h:∀ cx:Ctx,cx.nt=fn.ntmps->PK cx ks->cx.df=[]->zOi P cx body (zYs P fn cx rs) (XQ P fn cx rs) as):Ok P f na as rs:=by
 refine ⟨⟨fn,hf,by simp [hb],hnm⟩,?_⟩;intro w M pk args κ tip hi hpk;refine calls_of_wp_defers hf hb ?_;have hPK:PK ⟨w,M,pk,fn.ntmps,[]⟩ ks:=λk hk=>hks k.1 (by
  cases hb:as.blk k.1 with
  | none=>have:=(hpk k hk).1;rw [hi.dom _ hb] at this;cases this
  | some b=>rfl)
 refine wp_mono (h ⟨w,M,pk,fn.ntmps,[]⟩ rfl hPK rfl _ _ ⟨M,κ,tip,Mem.le_refl _,hpk,zJj hi hnt⟩) ?_;rintro e a' w' (⟨s',hs',he,hres⟩ | ⟨he,hl⟩)
 ·obtain ⟨v,hv,hr⟩:=hres a' w' hs';have hd:a'.defers=[]:=by obtain ⟨_,_,_,_,_,hi'⟩:=hs';exact hi'.defers
  have hl:Leaves P fn a'.tmps (λe w'=>∃ v,e=.returned v/\tG ⟨w,M,pk,1,[]⟩ rs ⟨#[v],[]⟩ w') a'.defers .returning w':=by
   rw [hd];exact ⟨v,hv,v,rfl,hr⟩
  rcases he with rfl | rfl
  ·exact hl
  ·exact hl
 ·rcases he with rfl | rfl
  ·exact hl
  ·exact hl
theorem Inv.root {w:World} (hi:Inv cx M κ tip s a w) (hp:∀ k∈cx.pk,κ k.1=some k.2/\k.2<cx.w0.heap.size) 
  (hv:∀ k b,s.blk k=some b->(∃ l,b=.var l)/\∃ b',(k,b')∈pk2) (hpk2:∀ e∈pk2,κ e.1=some e.2) (df:List Deferred):Inv ⟨w,M,pk2,cx.nt,df⟩ M κ tip s { a with defers:=df } w where
 defers:=rfl
 size:=hi.size
 fr:=⟨rfl,rfl,rfl,Qm _,λ_ _ _=>rfl⟩
 mem:=hi.mem
 env:=hi.env
 vars:=λk l h=>by
  obtain ⟨b,arr,e,fz,q1,q2,q3,q4,q5,q6,q7⟩:=hi.vars k l h;refine ⟨b,arr,e,fz,q1,q2,q3,q4,q5,q6,.inr ?_⟩;obtain ⟨_,b',hb'⟩:=hv k _ h;have:=hpk2 _ hb';rw [q1] at this;cases this;exact Q6.2 ⟨_,hb',rfl⟩
 bufs:=λk c h=>by obtain ⟨⟨l,h2⟩,_⟩:=hv k _ h;cases h2
 inj:=hi.inj
 dom:=hi.dom
 old:=λ_ _ _=>rfl
 glob:=hi.globw hp
 owns:=λk wd l h=>by obtain ⟨⟨l,h2⟩,_⟩:=hv k _ h;cases h2
theorem tG.unroot {rs:AS} {a':Act} {w w':World} {df:List Deferred} (hi:Inv cx M κ tip s a w) (h0:cx.M0.le M) (hpk:cx.pk=[]) 
  (hv:∀ e∈pk2,κ e.1=some e.2/\∃ l,s.blk e.1=some (.var l)) (h:tG ⟨w,M,pk2,nt,df⟩ rs a' w'):tG ⟨cx.w0,cx.M0,cx.pk,nt,df⟩ rs a' w':=by
 obtain ⟨M',κ',tip',h0',hp',hr⟩:=h;have hnew:∀ b∈pk2.map (·.2),cx.w0.heap.size<=b:=λb hb=>by
  obtain ⟨e,he,rfl⟩:=Q6.1 hb;obtain ⟨h1,l,h2⟩:=hv e he;obtain ⟨b,_,_,_,q1,_,_,_,_,_,q7⟩:=hi.vars _ l h2;rw [h1] at q1;cases q1;rcases q7 with q7 | q7
  ·exact q7
  ·simp [Ctx.pb,hpk] at q7
 have hsz:=hi.fr.size;refine ⟨M',κ',tip',h0.trans' h0',by simp [hpk],{
  defers:=hr.defers
  size:=hr.size
  fr:=⟨hr.fr.os.trans hi.fr.os,hr.fr.tape.trans hi.fr.tape,hr.fr.output.trans hi.fr.output,Qt hsz hr.fr.size,λb hb hb2=>?_⟩
  mem:=hr.mem
  env:=hr.env
  vars:=λk l h=>?_
  bufs:=λk c h=>?_
  inj:=hr.inj
  dom:=hr.dom
  old:=λb o hb=>(hr.old b o (Qz hb hsz)).trans (hi.old b o hb)
  glob:=⟨hr.glob.1,hi.glob.2⟩
  owns:=λk wd l h=>?_ }⟩
 ·rw [hr.fr.block b (Qz hb hsz) (λhm=>by have:=hnew b hm;simp only at hb;omega)];exact hi.fr.block b hb hb2
 ·obtain ⟨b,arr,e,fz,q1,q2,q3,q4,q5,q6,q7⟩:=hr.vars k l h;exact ⟨b,arr,e,fz,q1,q2,q3,q4,q5,q6,.inl (q7.elim (λh=>Qt hsz h) (hnew b))⟩
 ·obtain ⟨h1,h2,h3,h4⟩:=hr.bufs k c h;refine ⟨h1,h2,h3,h4.imp id ?_⟩;rintro ⟨b,n,cap,arr,e,fz,q1,q2,q3,q4⟩;exact ⟨b,n,cap,arr,e,fz,q1,q2,Qt hsz q3,q4⟩
 ·obtain ⟨h1,h2⟩:=hr.owns k wd l h;refine ⟨h1,h2.imp id ?_⟩;rintro ⟨b,n,cap,arr,e,fz,q1,q2,q3,q4⟩;exact ⟨b,n,cap,arr,e,fz,q1,q2,Qt hsz q3,q4⟩
def DfQ (P:Program) (fn:Func) (fc:FuncId) (cs:List AV) (rs:AS) (cx:Ctx):Exit->AS->Prop:=λe s=>(e=.ret∨e=.normal)/\∃ (E:AS) (av:AV) (us:List AV) (B:List (Nat×List AV)) (bout:LB) (ρ:Nat->Nat) (bc bB:LB),
 Imp cx.pk s E/\OkW P fc us.length (mkS (fW 0 us) (bV B)) (mkS [(0,av)] bout)/\GVs E ρ (B.map (·.1)) cs us bc/\GB E ρ (B.map (·.1)) B bB/\(∀ j∈bout.map (·.1),∀ j'∈bout.map (·.1),ρ j=ρ j'->j=j') /\
  (∀ j∈B.map (·.1),∃ l',lk bout j=some (.var l'))/\(∀ j∈bout.map (·.1),j∈B.map (·.1))/\∀ cx3:Ctx,PK cx3 []->qH P fn cx3 (inS E ρ bout) rs
def DfK (P:Program) (te:TE) (fn:Func) (n:Nat) (rest:Code) (rs:AS) (x:Operand) (s1:AS):Prop:=∃ (env2:LV) (B0:List (Nat×List AV)) (fc:FuncId) (cs:List AV),
 s1.get te 0 x=some (.fnv (fc+1000000) cs)/\Le (mkS env2 (bV B0)) s1/\(∀ v∈cs,∃ k∈B0.map (·.1),v=.ptr k 0) /\
  ∀ cx2:Ctx,cx2.nt=n->PK cx2 (B0.map (·.1))->awp P cx2 rest (DfQ P fn fc cs rs cx2) (mkS env2 (bV B0))
theorem zVp {rs:AS} {id:Nat} {rest:Code} (hdf:cx.df=[]) (hpk:cx.pk=[]) (hnt:cx.nt=n)
  (hops:ops.toList=ops.toList.dropLast++[⟨none,.defer ⟨.value x,#[],#[]⟩,ty,pos,af,none⟩]) (h:RK P ops ops.toList.dropLast s λs' ms=>zBz n ms=true/\DfK P te fn n rest rs x s') :
  zOi P cx (.seq (.region id ops false) rest) Q (XQ P fn cx rs) s:=by
 intro a w hs;generalize ops.toList.dropLast=l at hops h;obtain ⟨s1,ms,h1,h2,env2,B0,fc,cs,hx,hle,hcs,hrest⟩:=h;refine wp_seq (wp_region ?_);have hsz:ops.size=l.length+1:=by rw [<- Ql,hops];simp
 rw [hsz,List.range_succ];have hfin:=zNv (ops:=ops) (cx:=cx) (is:=[l.length]) (Q:=Exit.then (rest.wp P λe a' w'=>(∃ s',tG cx s' a' w'/\Q e s')∨XQ P fn cx rs e a' w') λe a' w'=>(∃ s',tG cx s' a' w'/\Q e s')∨XQ P fn cx rs e a' w') (λa1 w1 hs1=>?_) h1 (by rw [hnt];exact zEw h2) 0 (λi hi=>by
  rw [Nat.zero_add,<- Array.getElem?_toList,hops,List.getElem?_append_left hi]) a w hs
 ·simpa using hfin
 have ho:ops[l.length]? = some ⟨none,.defer ⟨.value x,#[],#[]⟩,ty,pos,af,none⟩:=by
  rw [<- Array.getElem?_toList,hops];simp
 rw [wpOps_cons];unfold wpOp;rw [ho];show if Region.wanted _ _ then _ else _
 rw [if_pos (by simp [Region.wanted])];refine .inl ?_;obtain ⟨M,κ,tip,h0,hp,hi⟩:=hs1;have hx':=yC hi (yF hx s1 (zK hx));obtain ⟨vs,hev,g1,g2⟩:∃ vs:Array Value,a1.eval x=.func (.func fc) #[] vs/\vs.size=cs.length/\∀ (j:Nat) (q:AV),cs[j]? = some q->RepA M κ tip s1.blk q (vs.getD j undef):=by
  generalize a1.eval x=z at hx';cases hx' with
  | fnv _ _ vs g1 g2=>
   refine ⟨vs,?_,g1,g2⟩;have:Qc (fc+1000000) 1000000=false:=by rw [Qi];intro e;have:=Q0 e;omega
   simp [mkF,this]
 have hrun:(execOp a1.eval ⟨none,.defer ⟨.value x,#[],#[]⟩,ty,pos,af,none⟩).run P w1=.ok (.defer ⟨.fn (.func fc) vs,#[]⟩) w1:=by
  simp [execOp,resolve,hev,Deferred.ofValue]
 unfold Oper.wp;rw [hrun];have hd0:a1.defers=[]:=by rw [hi.defers,hdf]
 rw [Oper.upon_defer,hd0];show rest.wp P _ _ _;have hi2:=hi.less hle;generalize hκ2:(λk=>if ((mkS env2 (bV B0)).blk k).isSome then κ k else none)=κ2 at hi2;have hkey:∀ j∈B0.map (·.1),∃ b us,κ j=some b/\κ2 j=some b/\b<w1.heap.size/\(mkS env2 (bV B0)).blk j=some (.var us):=λj hj=>by
  obtain ⟨us,hus⟩:=zBb hj;obtain ⟨b,_,_,_,q1,_⟩:=hi2.vars j us hus;refine ⟨b,us,?_,q1,hi2.lt q1,hus⟩;rw [<- hκ2] at q1;simp only at q1;split at q1
  ·exact q1
  ·cases q1
 let pk2:List (Nat×Nat):=(B0.map (·.1)).map λj=>(j,(κ2 j).getD 0);have hpk2:∀ e∈pk2,κ2 e.1=some e.2/\e.2<w1.heap.size/\e.1∈B0.map (·.1):=λe he=>by
  obtain ⟨j,hj,rfl⟩:=Q6.1 he;obtain ⟨b,_,_,h3,h4,_⟩:=hkey j hj;simp only [h3,Qs];exact ⟨trivial,h4,hj⟩
 have hroot:=hi2.root (by simp [hpk]) (pk2:=pk2) (λk b hb=>by
  obtain ⟨g3,us,g4⟩:=zEh hb;exact ⟨⟨us,g4⟩,_,Q6.2 ⟨k,g3,rfl⟩⟩) (λe he=>(hpk2 e he).1) [⟨.fn (.func fc) vs,#[]⟩]
 refine wp_mono (hrest ⟨w1,M,pk2,cx.nt,[⟨.fn (.func fc) vs,#[]⟩]⟩ hnt (λe he=>(hpk2 e he).2.2) _ w1 ⟨M,κ2,tip,Mem.le_refl _,λe he=>⟨(hpk2 e he).1,(hpk2 e he).2.1⟩,hroot⟩) ?_;rintro e a' w' ⟨sE,hsE,he,E,av,us,B,bout,ρ,bc,bB,himp,hokw,hgl,hgb,hinj,hout,hnew,hres⟩;obtain ⟨M',κ',tip',h0',hp',hi'⟩:=himp _ a' w' rfl hsE;refine .inr ⟨he,?_⟩;rw [show a'.defers=[⟨.fn (.func fc) vs,#[]⟩] from hi'.defers];have hokw':=hokw;obtain ⟨fn',body',_,k1,k2,k3,_⟩:=hokw';have k2':fn'.body≠none:=by intro e;simp [e] at k2
 have k3':fn'.name ≠ "runtime.NumGoroutine":=by intro e;simp [e] at k3
 refine leaves_cons (f:=fc) (args:=vs) (by simp) (by simp [invoke,callFunc,k1,k2',k3']) ?_;obtain ⟨c1,c2⟩:=hgl.get;have hg:GR E ρ (B.map (·.1)) (bc++bB) M' κ' tip' E.blk us vs:=by
  refine ⟨by rw [g1,c1],λj u hu=>?_⟩;obtain ⟨v,b,g3,g4,g5⟩:=c2 j u hu;refine ⟨v,b,g4,λe he=>Q4.2 (.inl (g5 e he)),?_⟩;obtain ⟨k,hk,rfl⟩:=hcs v (List.mem_of_getElem? g3);obtain ⟨b0,us0,q1,q2,_⟩:=hkey k hk;have h5:=g2 j _ g3;generalize vs.getD j undef=y at h5;cases h5 with
  | ptr _ _ b1 l1 q3 q4=>
  rw [q1] at q3;cases q3;have hκ':κ' k=some b0:=by
   have:=(hp' (k,(κ2 k).getD 0) (Q6.2 ⟨k,hk,rfl⟩)).1;simpa [q2] using this
  cases g4 with
  | p h=>simp [AS.rd] at h
  | ptr hρ hD=>
   obtain ⟨us',hus⟩:=zBb hD;obtain ⟨as,b'',r1,_⟩:=hgb.get hus;have:=hgb.blks _ r1;simp only [hρ] at this;exact .ptr k 0 b0 as hκ' this
 obtain ⟨pk,κ3,hinv,hpk3,hafter⟩:=zVu (fr:=[]) (av:=av) hp' hi' (λe he=>(Q4.1 he).elim (hgl.blks e) (hgb.blks e)) (by simp) hg hgb (λe he=>Q4.2 (.inr he)) hinj hout (λj hj=>.inl (hnew j hj));refine (hokw.callsD hinv hpk3 _).mono ?_;rintro e2 u' w'' ⟨rfl,v,rfl,hr⟩;obtain ⟨M2,κ4,tip4,q1,q2,q3,q4⟩:=hafter v w'' hr;have hfin:tG ⟨w1,M,pk2,cx.nt,[⟨.fn (.func fc) vs,#[]⟩]⟩ (inS E ρ bout) a' w'':=⟨M2,κ4,tip4,h0'.trans' q1,q2,q3⟩;have hfin2:=hfin.unroot hi2 h0 hpk (λe he=>⟨(hpk2 e he).1,let ⟨_,us,_,_,_,h⟩:=hkey e.1 (hpk2 e he).2.2;⟨us,h⟩⟩);obtain ⟨v2,hv2,hr2⟩:=hres _ (by intro k hk;simp [hpk] at hk) a' w'' hfin2;exact ⟨v2,hv2,v2,rfl,hr2⟩
theorem zO3 (h:PK cx []):cx.pk=[]:=List.eq_nil_iff_forall_not_mem.2 λk hk=>by have:=h k hk;simp at this
theorem qH.imp {rs:AS} (h:Imp cx.pk s s') (k:qH P fn cx s' rs):qH P fn cx s rs:=λa w hs=>k a w (h cx a w rfl hs)
theorem xoq {J:Type} {c:Code} (f:J->Exit×AS) (j:J) (h:zOi P cx c (OQ cx f j) X s) (k:Q (f j).1 (f j).2):zOi P cx c Q X s:=λa w hs=>
 wp_mono (h a w hs) λe a' w' h=>h.imp (λ⟨s',h1,h2⟩ =>⟨(f j).2,h2.snd cx a' w' rfl h1,by rw [h2.fst];exact k⟩) id
theorem zTs {rs:AS} (E:AS) (hf:P.funcs[f]? = some fn) (hb:fn.body=some body) (hnm:(fn.name == "runtime.NumGoroutine")=false) (hnt:na<=fn.ntmps) (hks:∀ k,(as.blk k).isSome=true->k∈ks)
  (hr:∀ cx:Ctx,PK cx ks->qH P fn cx E rs) (h:∀ cx:Ctx,cx.nt=fn.ntmps->PK cx ks->cx.df=[]->zOi P cx body (OQ cx (λ_:Unit=>(.ret,E)) ()) (XQ P fn cx rs) as):Ok P f na as rs:=
 zU5 hf hb hnm hnt hks λcx h1 h2 h3=>xoq _ _ (h cx h1 h2 h3) ⟨.inl rfl,hr cx h2⟩
theorem zVz (he:gE s env=vE id env) (hb:gB s id blk=vB id blk) (h1:fR (lk blk) env=true) (h2:rS (lk blk) blk=true):Le (mkS env blk) s:=by
 rw [zL4,zL1] at he;rw [zLd,zMc] at hb;exact Le.mk' (zK3 env he) (zKk blk hb) h1 h2
def zNp (ks:List Nat):List AV->Bool
 | []=>true
 | .ptr k o :: r=>Q5 o 0&&(ks.any (Q5 k)&&zNp ks r)
 | _ :: _=>false
theorem aR:∀ {cs:List AV},zNp ks cs=true->∀ v∈cs,∃ k∈ks,v=.ptr k 0
 | [],_,v,h=>by simp at h
 | c :: r,h,v,hv=>by
  cases c<;>simp only [zNp,Q8,reduceCtorEq] at h;obtain ⟨h1,h2,h3⟩:=h;rcases Qb.1 hv with rfl | hv
  ·exact ⟨_,zYn h2,by rw [Q1 h1]⟩
  ·exact aR h3 v hv
theorem dfq {fc:FuncId} {rs:AS} {e:Exit} (E:AS) (μ:List (Nat×Nat)) (he:e=.ret∨e=.normal) (hi:Imp cx.pk s E)
  (hw:OkW P fc na (mkS (fW 0 us) (bV B)) (mkS [(0,av)] (bV B2++[]))) (hna:na=us.length) (hl:GVs E (shm 0 μ) (B.map (·.1)) cs us bc) (hB:GB E (shm 0 μ) (B.map (·.1)) B bB) (hc:(zRl (B.map (·.1)) (B2.map (·.1))&&zT5 (kR (shm 0 μ) (bV B2)))=true) (hr:∀ cx3:Ctx,PK cx3 []->qH P fn cx3 (inS E (shm 0 μ) (bV B2)) rs):DfQ P fn fc cs rs cx e s:=by
 subst hna;rw [List.append_nil] at hw;simp only [Q8] at hc;obtain ⟨h3,h4⟩:=hc;rw [gI] at h4;have h3:=zKd h3;refine ⟨he,E,av,us,B,bV B2,shm 0 μ,bc,bB,hi,hw,hl,hB,?_,λj hj=>?_,λj hj=>?_,hr⟩
 ·have:(bV B2).map (λe=>shm 0 μ e.1)=((bV B2).map (·.1)).map (shm 0 μ):=by rw [Qy];rfl
  rw [this] at h4;exact zG3 h4
 ·rw [h3] at hj;exact zBb hj
 ·rw [zGm] at hj;rw [h3];exact hj
end
section
theorem zNg {Q:Exit->Act->World->Prop} {c:Code} (b:Frame) (k:List Item) (cs:List Frame):∀ n a w,Code.rounds P c Q n a w ->
   ∃ e a' w',Q e a' w'/\Arrives P (lone (b.at a (.code c :: .inLoop c :: k)) cs w) b k cs e a' w':=by
 intro n;induction n with
 | zero=>intro a w h;exact h.elim
 | succ n ih=>
  intro a w h;obtain ⟨e,a₁,w₁,hq,harr⟩:=h b (.inLoop c :: k) cs;cases e with
  | normal=>
   obtain ⟨e₂,a₂,w₂,hq₂,harr₂⟩:=ih a₁ w₁ hq;exact ⟨e₂,a₂,w₂,hq₂,.of_steps (Steps.trans harr (.one step_inLoop)) harr₂⟩
  | exit id=>exact ⟨_,a₁,w₁,hq,.pass (x:=.inLoop c) rfl (λ_ _=>.inl (by simp)) harr⟩
  | goto l=>exact ⟨_,a₁,w₁,hq,.pass (x:=.inLoop c) rfl (λ_ _=>.inl (by simp)) harr⟩
  | ret=>exact ⟨_,a₁,w₁,hq,.pass (x:=.inLoop c) rfl (λ_ _=>.inl (by simp)) harr⟩
  | panic ch=>exact ⟨_,a₁,w₁,hq,.pass (x:=.inLoop c) rfl (λ_ _=>.inl (by simp)) harr⟩
  | outgrown=>exact ⟨_,a₁,w₁,hq,.pass (x:=.inLoop c) rfl (λ_ _=>.inl (by simp)) harr⟩
theorem zUf {Q:Exit->Act->World->Prop} {w:World} {c:Code} (h:c.wp P (Exit.then (λa' w'=>∃ n,Code.rounds P c Q n a' w') Q) a w):(Code.loop c).wp P Q a w:=by
 intro b k cs;obtain ⟨e,a₁,w₁,hq,harr⟩:=h b (.inLoop c :: k) cs;cases e with
 | normal=>
  obtain ⟨n,hn⟩:=hq;obtain ⟨e₂,a₂,w₂,hq₂,harr₂⟩:=zNg b k cs n a₁ w₁ hn;exact ⟨e₂,a₂,w₂,hq₂,.of_steps (.head step_loop (Steps.trans harr (.one step_inLoop))) harr₂⟩
 | exit id=>exact ⟨_,a₁,w₁,hq,.of_steps (.one step_loop) (.pass (x:=.inLoop c) rfl (λ_ _=>.inl (by simp)) harr)⟩
 | goto l=>exact ⟨_,a₁,w₁,hq,.of_steps (.one step_loop) (.pass (x:=.inLoop c) rfl (λ_ _=>.inl (by simp)) harr)⟩
 | ret=>exact ⟨_,a₁,w₁,hq,.of_steps (.one step_loop) (.pass (x:=.inLoop c) rfl (λ_ _=>.inl (by simp)) harr)⟩
 | panic ch=>exact ⟨_,a₁,w₁,hq,.of_steps (.one step_loop) (.pass (x:=.inLoop c) rfl (λ_ _=>.inl (by simp)) harr)⟩
 | outgrown=>exact ⟨_,a₁,w₁,hq,.of_steps (.one step_loop) (.pass (x:=.inLoop c) rfl (λ_ _=>.inl (by simp)) harr)⟩
def awl (P:Program) (cx:Ctx) (c:Code) (Q:Exit->AS->Prop) (s:AS):Prop:=∀ a w,tG cx s a w->∃ n,Code.rounds P c (λe a' w'=>∃ s',tG cx s' a' w'/\Q e s') n a w
theorem zS9 {c:Code} (h:awp P cx c (zIj (awl P cx c Q) Q) s):awp P cx (.loop c) Q s:=λa w hs=>
 zUf (wp_mono (h a w hs) λe a' w' ⟨s',h1,h2⟩ =>by
  cases e with
  | normal=>exact h2 a' w' h1
  | _=>exact ⟨s',h1,h2⟩)
theorem zTa {X Y:Type} {step:X->Option (X ⊕ Y)} {x0:X} {y:Y} (E:X->AS) (f:Y->Exit×AS) (hl:zL step n x0=some y) (hi:Imp cx.pk s (E x0)) (hne:∀ y,(f y).1≠.normal)
  (hb:∀ x r,step x=some r->awp P cx body (OQ cx (LF E f) r) (E x)) (k:Q (f y).1 (f y).2):awl P cx body Q s:=by
 have key:∀ (n:Nat) (x0:X),zL step n x0=some y->∀ a w,tG cx (E x0) a w->Code.rounds P body (λe a' w'=>∃ s',tG cx s' a' w'/\Q e s') n a w:=by
  intro n;induction n with
  | zero=>intro x0 hl;simp [zL] at hl
  | succ n ih=>
   intro x0 hl a w hs;rw [rounds_succ];simp only [zL] at hl;cases hst:step x0 with
   | none=>simp [hst] at hl
   | some r=>
    refine wp_mono (hb x0 r hst a w hs) ?_;rintro e a' w' ⟨s',h1,h2⟩;cases r with
    | inl x'=>
     rw [hst] at hl;have he:e=.normal:=h2.fst;subst he;exact ih x' hl a' w' (h2.snd cx a' w' rfl h1)
    | inr y2=>
     rw [hst] at hl;cases hl;have he:e=(f y).1:=h2.fst;have hq:∃ s',tG cx s' a' w'/\Q e s':=⟨(f y).2,h2.snd cx a' w' rfl h1,he▸k⟩;have hn:=hne y;rw [<- he] at hn;cases e with
     | normal=>exact absurd rfl hn
     | _=>exact hq
 exact λa w hs=>⟨n,key n x0 hl a w (hi cx a w rfl hs)⟩
end
section
theorem zZu {k:IntKind} {a b:Int} (ho:o.op=.call { callee:=.builtin .max,args:=#[x,y],argTypes:=#[t,t'] }) (hx:s.get te t x=some (.p (.int k a))) (hy:s.get te t' y=some (.p (.int k b))) :
  VA P o s (opS x (.p (.int k a))++opS y (.p (.int k b))) [] (.p (.int k (if a<b then b else a))):=by
 refine ⟨?_,yH (zK hx) (zK hy),by simp⟩;intro cx M κ tip s' ac w hi hr _;have h1:=rep_int (repA_pv (yC hi (yF hx s' (yD hr))));have h2:=rep_int (repA_pv (yC hi (yF hy s' (zZ hr))));refine ⟨.int k (if a<b then b else a),?_,.p _ _ (.int _ _)⟩;simp [execOp,ho,h1,h2,resolve,invoke,builtin,Builtin.max_,Builtin.max2]
end
section
variable [T:zAn P] 
theorem RK.mx {kk:IntKind} {a b:Int} (hx0:(s.get T.te t x,s.get T.te t2 y)=(some (.p (.int kk a)),some (.p (.int kk b)))) (k:VK P ops r s K d (opS x (.p (.int kk a))++opS y (.p (.int kk b))) ([]) (.p (.int kk (if a<b then b else a)))):RK P ops (⟨some d,.call ⟨.builtin .max,#[x,y],#[t,t2]⟩,ty,pos,af,none⟩:: r) s K:=have ⟨hx,hy⟩:=pq hx0;RK.va rfl rfl (zZu rfl hx hy) k
end
section
theorem zWs {B:NB} {arr:Array Value} (hc:c.nilOf=true) (h:CR M κ tip B (sW [c] n) arr):CR M κ tip B (Qe n (.p c)) arr:=by
 have hr:Rep M c (.slice none 0 0):=by
  unfold PV.nilOf at hc;split at hc
  ·exact .bytes0
  ·exact .sl0 _
  ·cases hc
 have hz:sW [c] n=Qe n (.nl c):=by
  have:zA c=.nl c:=by unfold zA;rw [hc];rfl
  simp [sW,this]
 rw [hz] at h;refine ⟨by simpa using h.1,λj q hq=>?_⟩;rw [List.getElem?_replicate] at hq;split at hq
 ·cases hq;have:=h.2 j (.nl c) (by rw [List.getElem?_replicate,if_pos ‹_›]);generalize arr.getD j undef=v at this ⊢;cases this;exact .p _ _ hr
 ·cases hq
theorem zVl {tl tc:TypeId} {n:Int} (hok:yR P te) (hd:o.dst=some d) (ho:o.op=.makeSlice t x y) (ht:(te t).map (·.ty)=some (.slice e)) (he:te e=some ei) (hz:ei.z.length=ei.w) (hx:s.get te tl x=some (.p (.int kl n))) (hy:s.get te tc y=some (.p (.int kc n)))
  (h0:0<=n) (hb:n.toNat*ei.b<=140737488355328) (hb1:0<ei.b) (hk:s.blk d=none) (hzz:ei.z=[c]) (hc:c.nilOf=true):SA P o s ⟨opS x (.p (.int kl n))++opS y (.p (.int kc n)),[],[d],some (d,some (.ref d 0 n.toNat)),[(d,.var (Qe n.toNat (.p c)))]⟩:=by
 refine ⟨zCo hd ?_,yH (zK hx) (zK hy),by intro e he;simp at he,by intro k hk';simp at hk';subst hk';exact hk⟩;intro cx M κ tip s' a w hi hr _;have h1:=rep_int (repA_pv (yC hi (yF hx s' (yD hr))));have h2:=rep_int (repA_pv (yC hi (yF hy s' (zZ hr))));obtain ⟨info,z,i1,i2,i3,i4,i5⟩:=(hok e ei he).info;have hu:=yS hok ht;have hcr:=zBd hok he hz i1 i4 (M:=M) (κ:=κ) (tip:=tip) (B:=s'.blk) n.toNat;rw [hzz] at hcr;have hlen:n.toNat<=n.toNat*ei.b:=Nat.le_mul_of_pos_right _ hb1;have hbi:(info.bytes:Int)*n<=281474976710656:=by
  rw [i3];have:((n.toNat*ei.b:Nat):Int)<=140737488355328:=by omega
  rw [Int.natCast_mul,Int.toNat_of_nonneg h0,Int.mul_comm] at this;omega
 have hrun:=run_make (P:=P) w t e info z hu i1 i4 kl kc n n h0 (Int.le_refl _) hbi (by omega);exact ⟨_,e,by rw [i2] at hrun;simp [execOp,ho,h1,h2,hrun],zWs hc hcr⟩
end
section
variable [T:zAn P] 
theorem RK.mrN (f:α->PV) (u:α) {n:Int} (h:mkN b n=some m) (ht0:((T.te t).map (·.ty),T.te e,ei.b,Qc 0 b,ei.z.length,s.get T.te 0 x,s.get T.te 0 y,s.blk d,ei.z,(f u).nilOf)=(some (.slice e),some ei,b,true,ei.w,some (.p (.int kl n)),some (.p (.int kc n)),none,[f u],true)) (k:BK P ops r s K d (opS x (.p (.int kl n))++opS y (.p (.int kc n))) [] [d] d (.var ((Qe m u).map λy=>AV.p (f y))) (.ref d 0 m)):RK P ops (⟨some d,.makeSlice t x y,ty,pos,af,none⟩:: r) s K:=have ⟨ht,ht0⟩:=pq ht0;have ⟨he,ht0⟩:=pq ht0;have ⟨hb,ht0⟩:=pq ht0;have ⟨hb1,ht0⟩:=pq ht0;have ⟨hz,ht0⟩:=pq ht0;have ⟨hx,ht0⟩:=pq ht0;have ⟨hy,ht0⟩:=pq ht0;have ⟨hk,ht0⟩:=pq ht0;have ⟨hzz,hnil⟩:=pq ht0;by
 obtain ⟨h0,h1,rfl⟩:=zDi h;subst hb;have hb2:=Q0 hb1;have:=zVl (P:=P) (o:=⟨some d,.makeSlice t x y,ty,pos,af,none⟩) T.ok rfl rfl ht he hz hx hy h0 h1 (by omega) hk hzz hnil;rw [show Qe n.toNat (AV.p (f u))=(Qe n.toNat u).map λy=>AV.p (f y) by simp] at this;exact RK.sb rfl this k
end
section
theorem zH6 {c:α->List PV} (hc:∀ a,(c a).length=w):∀ (l:List α) (i:Nat) (u:α),l[i]? = some u->((l.flatMap c).drop (i*w)).take w=c u
 | [],i,u,h=>by simp at h
 | a :: r,0,u,h=>by
  simp at h;subst h;simp only [Qp,Nat.zero_mul,List.drop_zero];rw [List.take_append_of_le_length (by rw [hc];exact Qm _),List.take_of_length_le (by rw [hc];exact Qm _)]
 | a :: r,i+1,u,h=>by
  simp only [Qp];rw [List.drop_append,hc,List.drop_eq_nil_of_le (by rw [hc,Qf];omega),W4,show (i+1)*w - w=i*w by rw [Qf];omega];exact zH6 hc r i u (by simpa using h)
theorem zJl {c:α->List PV} (hc:∀ a,(c a).length=w):∀ (l:List α),(l.flatMap c).length=l.length*w
 | []=>by simp
 | a :: r=>by simp only [Qp,Qn,hc,zJl hc r,Qq,Qf];omega
theorem ixF (hok:yR P te) {c:α->List PV} {l:List α} (h:idx l i=some u) (ho:o.op=.index t x y) (ht:(te t).map (·.ty)=some (.arr n e)) (he:te e=some ei) (hne:ei.known=true) (hx:s.get te t x=some v) (hp:s.rd v=some (.agg (l.flatMap c),bs)) (hy:s.get te 0 y=some (.p (.int .i64 i))) (hn:Qh l.length n=true) (hag:ei.isAgg=true) (hc:∀ a,(c a).length=ei.w) :
  VA P o s (opS x v++opS y (.p (.int .i64 i))) bs (.p (.agg (c u))):=by
 obtain ⟨h0,h1⟩:=fD h;have hlt:i.toNat<l.length:=(List.getElem?_eq_some_iff.1 h1).1;have hn':=zN hn;refine zLx hok ho ht he (zM0 hne) hx hp hy h0 (by omega) ?_;rw [hag];have hb:Qh (i.toNat*ei.w+ei.w) (l.flatMap c).length=true:=by
  refine Nat.ble_eq_true_of_le ?_;rw [zJl hc];have:i.toNat*ei.w+ei.w=(i.toNat+1)*ei.w:=by rw [Qf];omega
  rw [this];exact Qd _ hlt
 simp only [jT,cond_true,zH6 hc l _ u h1,hb];try rfl
end
section
variable [T:zAn P] 
theorem RK.ixF {c:α->List PV} {l:List α} (h:idx l i=some u) (ht0:((T.te t).map (·.ty),T.te e,ei.known,s.get T.te t x,s.rd v,Qh l.length n,ei.isAgg)=(some (.arr n e),some ei,true,some v,some (.agg (l.flatMap c),bs),true,true)) (hc:∀ a,(c a).length=ei.w) (hy:s.get T.te 0 y=some (.p (.int .i64 i)))
  (k:VK P ops r s K d (opS x v++opS y (.p (.int .i64 i))) bs (.p (.agg (c u)))):RK P ops (⟨some d,.index t x y,ty,pos,af,none⟩:: r) s K:=have ⟨ht,ht0⟩:=pq ht0;have ⟨he,ht0⟩:=pq ht0;have ⟨hne,ht0⟩:=pq ht0;have ⟨hx,ht0⟩:=pq ht0;have ⟨hp,ht0⟩:=pq ht0;have ⟨hn,hag⟩:=pq ht0;RK.va rfl rfl (Go.Sw.ixF T.ok h rfl ht he hne hx hp hy hn hag hc) k
theorem RK.mbS (f:α->PV) (l:List α) (hlen:l.length=n) (hn:Qh (n*b) 140737488355328=true) (ht:(T.te t).map (·.ty)=some (.slice e)) (he:T.te e=some ei) (hbb:ei.b=b) (hb1:Qc 0 b=true) (hz:ei.z.length=ei.w) (hw0:Qc 0 ei.w=true) (hx:s.get T.te 0 x=some (.p (.int kl (n:Nat)))) (hy:s.get T.te 0 y=some (.p (.int kc (n:Nat)))) (hk:s.blk d=none)
  (hzs:∀ s:AS,s.rdL (sW ei.z n)=some (xG (l.map f),[])) (hl:(l.map f).all (λp=>Q5 p.cells.length ei.w)=true) (k:BK P ops r s K d (opS x (.p (.int kl (n:Nat)))++opS y (.p (.int kc (n:Nat)))) [] [d] d (.buf (.sl ei.w (l.map f))) (.buf d l.length)):RK P ops (⟨some d,.makeSlice t x y,ty,pos,af,none⟩:: r) s K:=by
 have hb2:=Q0 hb1;have hw2:=Q0 hw0;have hl':fJ ei.w (.sl ei.w (l.map f)) (xG (l.map f)):=.sl _ λp hp=>Q1 ((Qg.1 hl) p hp);rw [hlen] at k;have:=Go.Sw.sa_mkb (P:=P) (o:=⟨some d,.makeSlice t x y,ty,pos,af,none⟩) (n:=(n:Nat)) (c:=.sl ei.w (l.map f)) T.ok rfl rfl ht he hz hw2 hx hy (by omega) (by subst hbb;simpa using Q0 hn) (by omega) (λs=>by simpa using hzs s) hl' (by simp [Qj,hlen]) hk;simp only [Int.toNat_natCast] at this;exact RK.sb rfl this k
end
section
variable {rs:AS}
theorem zTd (hok:yR P te) {rv1 rv2 rv3 rv4 rv5:ResultVar} {a1 a2 a3 a4 a5:AV} (hres:fn.results=#[rv1,rv2,rv3,rv4,rv5]) (h1:RV te s rv1 a1) (h2:RV te s rv2 a2) (h3:RV te s rv3 a3) (h4:RV te s rv4 a4) (h5:RV te s rv5 a5) (h:Imp cx.pk { env:=lk [(0,.tu [a1,a2,a3,a4,a5])],blk:=s.blk } rs):qH P fn cx s rs:=by
 intro a w hs;have hs':=hs;obtain ⟨M,κ,tip,h0,hp,hi⟩:=hs';obtain ⟨x1,hx1,_⟩:=h1.run hok hi;obtain ⟨x2,hx2,_⟩:=h2.run hok hi;obtain ⟨x3,hx3,_⟩:=h3.run hok hi;obtain ⟨x4,hx4,_⟩:=h4.run hok hi;obtain ⟨x5,hx5,_⟩:=h5.run hok hi;refine ⟨.tuple #[x1,x2,x3,x4,x5],?_,h { cx with nt:=1,df:=[] } _ _ rfl (hs.result λM κ tip hi=>?_)⟩
 ·simp [bD,hres,hx1,hx2,hx3,hx4,hx5]
 ·obtain ⟨y1,hy1,r1⟩:=h1.run hok hi;obtain ⟨y2,hy2,r2⟩:=h2.run hok hi;obtain ⟨y3,hy3,r3⟩:=h3.run hok hi;obtain ⟨y4,hy4,r4⟩:=h4.run hok hi;obtain ⟨y5,hy5,r5⟩:=h5.run hok hi;rw [hx1] at hy1;cases hy1;rw [hx2] at hy2;cases hy2;rw [hx3] at hy3;cases hy3;rw [hx4] at hy4;cases hy4;rw [hx5] at hy5;cases hy5;refine .tu _ _ rfl (λj q hq=>?_)
  match j,hq with
  | 0,hq=>cases hq;exact r1
  | 1,hq=>cases hq;exact r2
  | 2,hq=>cases hq;exact r3
  | 3,hq=>cases hq;exact r4
  | 4,hq=>cases hq;exact r5
  | j+5,hq=>simp at hq
end
end Go.Sw
namespace Go.Proofs.TT
open Go Go.Sw
structure zT where
 Areas:List By
 Writes:Int
 CutAt:Int
 Torn:Int
 Off:Bool
 deriving DecidableEq,Inhabited
def zT.cs (x:zT):List PV:=[.sl 1 (Q2 PV.bytes x.Areas),.int .i64 x.Writes,.int .i64 x.CutAt,.int .i64 x.Torn,.bool x.Off]
def zT.pv (x:zT):PV:=.agg x.cs
structure zE where
 Banks:List (List By)
 Updates:Int
 deriving DecidableEq,Inhabited
def zE.cs (x:zE):List PV:=[.sl 1 (Q2 (eSl 1 PV.bytes) x.Banks),.int .i64 x.Updates]
def zE.pv (x:zE):PV:=.agg x.cs
structure sR where
 Failed:Int
 Max:Int
 Recovery:Int
 Since:Int
 Closed:Int
 Penalty:Int
 deriving DecidableEq,Inhabited
def sR.cs (x:sR):List PV:=[.int .i64 x.Failed,.int .i64 x.Max,.int .i64 x.Recovery,.int .i64 x.Since,.int .i64 x.Closed,.int .i64 x.Penalty]
def sR.pv (x:sR):PV:=.agg x.cs
structure zX where
 N:Int
 Kind:Int
 Attr:Int
 Size:Int
 Policy:By
 Auth:By
 Written:Bool
 Data:By
 deriving DecidableEq,Inhabited
def zX.cs (x:zX):List PV:=[.int .i64 x.N,.int .i64 x.Kind,.int .i64 x.Attr,.int .i64 x.Size,.bytes x.Policy,.bytes x.Auth,.bool x.Written,.bytes x.Data]
def zX.pv (x:zX):PV:=.agg x.cs
structure zI where
 Unique:By
 Used:Int
 deriving DecidableEq,Inhabited
def zI.cs (x:zI):List PV:=[.bytes x.Unique,.int .i64 x.Used]
def zI.pv (x:zI):PV:=.agg x.cs
structure zQ where
 Seeds:List By
 Auths:List By
 Entropy:By
 Active:Int
 Resets:Int
 Restarts:Int
 Clock:Int
 Orderly:Bool
 Saved:zE
 MaxCounter:Int
 Indices:List zX
 Lockout:sR
 Keys:List zI
 deriving DecidableEq,Inhabited
def zQ.cs (x:zQ):List PV:=[.sl 1 (Q2 PV.bytes x.Seeds),.sl 1 (Q2 PV.bytes x.Auths),.bytes x.Entropy,.int .i64 x.Active,.int .i64 x.Resets,.int .i64 x.Restarts,.int .i64 x.Clock,.bool x.Orderly,.sl 1 (Q2 (eSl 1 PV.bytes) x.Saved.Banks),.int .i64 x.Saved.Updates,.int .i64 x.MaxCounter,.sl 8 (Q2 zX.pv x.Indices),.int .i64 x.Lockout.Failed,.int .i64 x.Lockout.Max,.int .i64 x.Lockout.Recovery,.int .i64 x.Lockout.Since,.int .i64 x.Lockout.Closed,.int .i64 x.Lockout.Penalty,.sl 2 (Q2 zI.pv x.Keys)]
def zQ.pv (x:zQ):PV:=.agg x.cs
structure zO where
 Kind:Int
 Nonce:By
 Digest:By
 Updates:Int
 Localities:Int
 Command:Int
 Deadline:Int
 AuthValue:Bool
 deriving DecidableEq,Inhabited
def zO.cs (x:zO):List PV:=[.int .i64 x.Kind,.bytes x.Nonce,.bytes x.Digest,.int .i64 x.Updates,.int .i64 x.Localities,.int .i64 x.Command,.int .i64 x.Deadline,.bool x.AuthValue]
def zO.pv (x:zO):PV:=.agg x.cs
structure zN7 where
 Kind:Int
 Attr:Int
 Height:Int
 Policy:By
 Unique:By
 deriving DecidableEq,Inhabited
structure zI3 where
 Auth:By
 Seed:By
 Data:By
 deriving DecidableEq,Inhabited
structure zS where
 Public:zN7
 Sensitive:zI3
 Hierarchy:Int
 deriving DecidableEq,Inhabited
def zS.cs (x:zS):List PV:=[.int .i64 x.Public.Kind,.int .i64 x.Public.Attr,.int .i64 x.Public.Height,.bytes x.Public.Policy,.bytes x.Public.Unique,.bytes x.Sensitive.Auth,.bytes x.Sensitive.Seed,.bytes x.Sensitive.Data,.int .i64 x.Hierarchy]
def zS.pv (x:zS):PV:=.agg x.cs
structure yB where
 Started:Bool
 Stopped:Bool
 Registers:zE
 Clock:Int
 Safe:Bool
 Draws:Int
 Sessions:List zO
 Objects:List zS
 ReadLocks:List Int
 WriteLocks:List Int
 deriving DecidableEq,Inhabited
structure zW where
 Stable:zQ
 Volatile:yB
 deriving DecidableEq,Inhabited
def zW.cs (x:zW):List PV:=[.sl 1 (Q2 PV.bytes x.Stable.Seeds),.sl 1 (Q2 PV.bytes x.Stable.Auths),.bytes x.Stable.Entropy,.int .i64 x.Stable.Active,.int .i64 x.Stable.Resets,.int .i64 x.Stable.Restarts,.int .i64 x.Stable.Clock,.bool x.Stable.Orderly,.sl 1 (Q2 (eSl 1 PV.bytes) x.Stable.Saved.Banks),.int .i64 x.Stable.Saved.Updates,.int .i64 x.Stable.MaxCounter,.sl 8 (Q2 zX.pv x.Stable.Indices),.int .i64 x.Stable.Lockout.Failed,.int .i64 x.Stable.Lockout.Max,.int .i64 x.Stable.Lockout.Recovery,.int .i64 x.Stable.Lockout.Since,.int .i64 x.Stable.Lockout.Closed,.int .i64 x.Stable.Lockout.Penalty,.sl 2 (Q2 zI.pv x.Stable.Keys),.bool x.Volatile.Started,.bool x.Volatile.Stopped,.sl 1 (Q2 (eSl 1 PV.bytes) x.Volatile.Registers.Banks),.int .i64 x.Volatile.Registers.Updates,.int .i64 x.Volatile.Clock,.bool x.Volatile.Safe,.int .i64 x.Volatile.Draws,.sl 8 (Q2 zO.pv x.Volatile.Sessions),.sl 9 (Q2 zS.pv x.Volatile.Objects),.sl 1 (Q2 (PV.int .i64) x.Volatile.ReadLocks),.sl 1 (Q2 (PV.int .i64) x.Volatile.WriteLocks)]
def zW.pv (x:zW):PV:=.agg x.cs
structure zC where
 Disk:zT
 State:zW
 On:Bool
 Next:Int
 deriving DecidableEq,Inhabited
def zC.cs (x:zC):List PV:=[.sl 1 (Q2 PV.bytes x.Disk.Areas),.int .i64 x.Disk.Writes,.int .i64 x.Disk.CutAt,.int .i64 x.Disk.Torn,.bool x.Disk.Off,.sl 1 (Q2 PV.bytes x.State.Stable.Seeds),.sl 1 (Q2 PV.bytes x.State.Stable.Auths),.bytes x.State.Stable.Entropy,.int .i64 x.State.Stable.Active,.int .i64 x.State.Stable.Resets,.int .i64 x.State.Stable.Restarts,.int .i64 x.State.Stable.Clock,.bool x.State.Stable.Orderly,.sl 1 (Q2 (eSl 1 PV.bytes) x.State.Stable.Saved.Banks),.int .i64 x.State.Stable.Saved.Updates,.int .i64 x.State.Stable.MaxCounter,.sl 8 (Q2 zX.pv x.State.Stable.Indices),.int .i64 x.State.Stable.Lockout.Failed,.int .i64 x.State.Stable.Lockout.Max,.int .i64 x.State.Stable.Lockout.Recovery,.int .i64 x.State.Stable.Lockout.Since,.int .i64 x.State.Stable.Lockout.Closed,.int .i64 x.State.Stable.Lockout.Penalty,.sl 2 (Q2 zI.pv x.State.Stable.Keys),.bool x.State.Volatile.Started,.bool x.State.Volatile.Stopped,.sl 1 (Q2 (eSl 1 PV.bytes) x.State.Volatile.Registers.Banks),.int .i64 x.State.Volatile.Registers.Updates,.int .i64 x.State.Volatile.Clock,.bool x.State.Volatile.Safe,.int .i64 x.State.Volatile.Draws,.sl 8 (Q2 zO.pv x.State.Volatile.Sessions),.sl 9 (Q2 zS.pv x.State.Volatile.Objects),.sl 1 (Q2 (PV.int .i64) x.State.Volatile.ReadLocks),.sl 1 (Q2 (PV.int .i64) x.State.Volatile.WriteLocks),.bool x.On,.int .i64 x.Next]
def zC.pv (x:zC):PV:=.agg x.cs
structure zB where
 Register:Int
 Kind:Int
 Digests:List By
 Data:By
 deriving DecidableEq,Inhabited
def zB.cs (x:zB):List PV:=[.int .i64 x.Register,.int .i64 x.Kind,.sl 1 (Q2 PV.bytes x.Digests),.bytes x.Data]
def zB.pv (x:zB):PV:=.agg x.cs
structure yW where
 Active:Int
 Resets:Int
 Events:List zB
 deriving DecidableEq,Inhabited
def yW.cs (x:yW):List PV:=[.int .i64 x.Active,.int .i64 x.Resets,.sl 4 (Q2 zB.pv x.Events)]
def yW.pv (x:yW):PV:=.agg x.cs
structure zD where
 Role:Int
 Name:By
 Version:Int
 Payload:By
 deriving DecidableEq,Inhabited
def zD.cs (x:zD):List PV:=[.int .i64 x.Role,.str x.Name,.int .i64 x.Version,.bytes x.Payload]
def zD.pv (x:zD):PV:=.agg x.cs
structure zM where
 Device:zC
 opened_:List Int
 deriving DecidableEq,Inhabited
def zM.cs (x:zM):List PV:=[.sl 1 (Q2 PV.bytes x.Device.Disk.Areas),.int .i64 x.Device.Disk.Writes,.int .i64 x.Device.Disk.CutAt,.int .i64 x.Device.Disk.Torn,.bool x.Device.Disk.Off,.sl 1 (Q2 PV.bytes x.Device.State.Stable.Seeds),.sl 1 (Q2 PV.bytes x.Device.State.Stable.Auths),.bytes x.Device.State.Stable.Entropy,.int .i64 x.Device.State.Stable.Active,.int .i64 x.Device.State.Stable.Resets,.int .i64 x.Device.State.Stable.Restarts,.int .i64 x.Device.State.Stable.Clock,.bool x.Device.State.Stable.Orderly,.sl 1 (Q2 (eSl 1 PV.bytes) x.Device.State.Stable.Saved.Banks),.int .i64 x.Device.State.Stable.Saved.Updates,.int .i64 x.Device.State.Stable.MaxCounter,.sl 8 (Q2 zX.pv x.Device.State.Stable.Indices),.int .i64 x.Device.State.Stable.Lockout.Failed,.int .i64 x.Device.State.Stable.Lockout.Max,.int .i64 x.Device.State.Stable.Lockout.Recovery,.int .i64 x.Device.State.Stable.Lockout.Since,.int .i64 x.Device.State.Stable.Lockout.Closed,.int .i64 x.Device.State.Stable.Lockout.Penalty,.sl 2 (Q2 zI.pv x.Device.State.Stable.Keys),.bool x.Device.State.Volatile.Started,.bool x.Device.State.Volatile.Stopped,.sl 1 (Q2 (eSl 1 PV.bytes) x.Device.State.Volatile.Registers.Banks),.int .i64 x.Device.State.Volatile.Registers.Updates,.int .i64 x.Device.State.Volatile.Clock,.bool x.Device.State.Volatile.Safe,.int .i64 x.Device.State.Volatile.Draws,.sl 8 (Q2 zO.pv x.Device.State.Volatile.Sessions),.sl 9 (Q2 zS.pv x.Device.State.Volatile.Objects),.sl 1 (Q2 (PV.int .i64) x.Device.State.Volatile.ReadLocks),.sl 1 (Q2 (PV.int .i64) x.Device.State.Volatile.WriteLocks),.bool x.Device.On,.int .i64 x.Device.Next,.sl 1 (Q2 (PV.int .i64) x.opened_)]
structure zP where
 Err:Int
 Ints:List Int
 Blobs:List By
 Nonces:List By
 deriving DecidableEq,Inhabited
def zP.cs (x:zP):List PV:=[.int .i64 x.Err,.sl 1 (Q2 (PV.int .i64) x.Ints),.sl 1 (Q2 PV.bytes x.Blobs),.sl 1 (Q2 PV.bytes x.Nonces)]
def zP.pv (x:zP):PV:=.agg x.cs
structure zH where
 Session:Int
 Nonce:By
 Value:By
 deriving DecidableEq,Inhabited
def zH.cs (x:zH):List PV:=[.int .i64 x.Session,.bytes x.Nonce,.bytes x.Value]
def zH.pv (x:zH):PV:=.agg x.cs
structure yA where
 Code:Int
 Handles:List Int
 Auths:List zH
 Ints:List Int
 Blobs:List By
 deriving DecidableEq,Inhabited
def yA.cs (x:yA):List PV:=[.int .i64 x.Code,.sl 1 (Q2 (PV.int .i64) x.Handles),.sl 3 (Q2 zH.pv x.Auths),.sl 1 (Q2 (PV.int .i64) x.Ints),.sl 1 (Q2 PV.bytes x.Blobs)]
def yA.pv (x:yA):PV:=.agg x.cs
structure zJ where
 B:By
 At:Int
 deriving DecidableEq,Inhabited
def zJ.cs (x:zJ):List PV:=[.bytes x.B,.int .i64 x.At]
structure zF where
 b_:By
 at_:Int
 e_:Int
 deriving DecidableEq,Inhabited
def zF.cs (x:zF):List PV:=[.bytes x.b_,.int .i64 x.at_,.int .i64 x.e_]
structure mC where
 code_:Int
 handles_:Int
 auths_:Int
 ints_:Int
 blobs_:Int
 deriving DecidableEq,Inhabited
def mC.cs (x:mC):List PV:=[.int .i64 x.code_,.int .i64 x.handles_,.int .i64 x.auths_,.int .i64 x.ints_,.int .i64 x.blobs_]
def RF:Nat:=64
def nameByte (c:UInt8):Bool:=(decide (97<=c.toNat)&&decide (c.toNat<=122))||(decide (48<=c.toNat)&&decide (c.toNat<=57))||decide (c.toNat=45)
def zA4 (s:By):Option Bool:=some (decide (1<=s.length)&&decide (s.length<=12)&&s.all nameByte)
def bP (b:By) (n:Int):Option By:=
 match b with
 | [x]=>bif (n==20||n==32) then some (Qe n.toNat x) else none
 | _=>none
def bytes_Clone (b:By):Option By:=bif Qh b.length 140737488355328 then some b else none
def decF:Nat->Nat->By
 | 0,_=>[]
 | f+1,u=>bif Qc u 10 then [UInt8.ofNat (48+u)] else decF f (u / 10)++[UInt8.ofNat (48+u % 10)]
def strconv_Itoa (n:Int):Option By:=bif decide (0<=n)&&decide (n<=9223372036854775807) then some (decF 20 n.toNat) else none
end Go.Proofs.TT
