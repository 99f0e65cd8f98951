/- A part of the proof of what a start measures. -/
import Derived.Test.YtmfjfpfolbnogaaGreatDoorRZ12
set_option linter.all false
namespace Go.Proofs.TT
open Go Go.Sw
set_option maxRecDepth 100000
variable {a:Nat}{active:Int}{as:List By}{b:Bool}{d:zE}{e:zB}{es:List zB}{i k:Nat}{l:List zD}{l':By}{m:Nat}{most n:Int}{p:By}{r:RS}{rest:By}{role:Int}{seq:Nat}{st:zR}{vo:yD}{x:zD}{y:By}
theorem zVp {a:Int} (h1:1<=a) (h3:a<=3):a=1∨a=2∨a=3:=by omega
theorem zFl (n:Nat):(bnk n).length=16:=by simp [bnk]
theorem zJ5 (n:Nat) (h:n<=32):∀ x∈bnk n,x.length<=32:=by
 intro x hx;simp only [bnk,List.mem_append,List.mem_replicate] at hx;rcases hx with ⟨_,rfl⟩ | ⟨_,rfl⟩<;>simp [h]
def zO6 (active:Int):zC:=⟨[if xF active 0=true then bnk 20 else [],if xF active 1=true then bnk 32 else []],0⟩
theorem zVy (active:Int) (h1:1<=active) (h3:active<=3):eV active=some (zO6 active):=by
 rcases zVp h1 h3 with rfl | rfl | rfl
 ·exact new1
 ·exact new2
 ·exact new3
theorem zT5 (active:Int) (h1:1<=active) (h3:active<=3):zEu active (zO6 active):=by
 rcases zVp h1 h3 with rfl | rfl | rfl
 ·exact ⟨⟨_,_,rfl,zFl 20,rfl,zJ5 20 (by omega),(by intro x hx;cases hx)⟩⟩
 ·exact ⟨⟨_,_,rfl,rfl,zFl 32,(by intro x hx;cases hx),zJ5 32 (by omega)⟩⟩
 ·exact ⟨⟨_,_,rfl,zFl 20,zFl 32,zJ5 20 (by omega),zJ5 32 (by omega)⟩⟩
def rpl (active:Int) (es:List zB):zC:=es.foldl (λr e=>if e.Kind=5 then r else ext active e r) (zO6 active)
theorem zQj (active:Int) (h:a<es.length):rpl active (es.take (a+1))=if es[a].Kind=5 then rpl active (es.take a) else ext active es[a] (rpl active (es.take a)):=by
 unfold rpl;rw [List.take_add_one,List.foldl_append];simp [h]
theorem zOn (active:Int):∀ (es:List zB) (r:zC),zEu active r->zEu active (es.foldl (λr e=>if e.Kind=5 then r else ext active e r) r)
 | [],_,h=>h
 | e :: es,r,h=>by
  rw [List.foldl_cons];refine zOn active es _ ?_;split
  ·exact h
  ·exact zU9 h
theorem zM7 (active:Int) (es:List zB) (h1:1<=active) (h3:active<=3):zEu active (rpl active es):=zOn active es _ (zT5 active h1 h3)
theorem zM9 (l:xQ) (h:l.Events.length<2 ^ 20) (h1:1<=l.Active) (h3:l.Active<=3):Def (jM l) (λr=>(r.2=0->r.1=rpl l.Active l.Events)/\((∀ e∈l.Events,EvC e l.Active)->r.2=0)):=by
 unfold jM;refine Def.bd (P:=λb=>b=false) ?_ (λb hb=>?_)
 ·refine Def.c (λh=>by have:=dT h;omega) (λ_=>Def.s ?_);rw [decide_eq_false_iff_not];omega
 subst hb;refine Def.c (λh=>by cases h) (λ_=>?_);refine Def.bd (jV l.Events (oI l) (λi=>∀ h:i<l.Events.length,EvGood l.Events[i] l.Active) (λv=>v.2≠0/\¬ ∀ e∈l.Events,EvC e l.Active) (by omega) (λa ha=>?_) ?_) (λr hr=>?_)
 ·unfold oI;refine Def.c (λ_=>?_) (λh=>by have:=dF h;omega);refine Def.bd (Def.at' ha) (λe he=>?_);subst he;refine Def.bd (zYo _ _) (λr hr=>?_);refine Def.c (λhz=>Def.s ⟨by simpa using hz,λhall=>?_⟩) (λhz=>Def.s ⟨wM (by omega),λ_=>(hr.1 (by simpa using hz)).toEvGood⟩);have:=hr.2 (hall _ (List.getElem_mem ha));rw [this] at hz;cases hz
 ·unfold oI;exact cf (by simp) rfl
 cases r with
 | inl v=>exact Def.s ⟨λh=>absurd h hr.1,λh=>absurd h hr.2⟩
 | inr u=>
  have hr':∀ e∈l.Events,EvGood e l.Active:=by
   intro e he;obtain ⟨i,hi,rfl⟩:=List.mem_iff_getElem.mp he;exact hr i hi hi
  refine Def.bd (P:=λr=>r=zO6 l.Active) (Def.of (zVy _ h1 h3) rfl) (λrg hrg=>?_);subst hrg;refine Def.bd (P:=λr=>(⟨r.1,r.2⟩:zC)=rpl l.Active l.Events) ?_ (λr hr=>Def.s ⟨λ_=>hr,λ_=>rfl⟩);refine Def.loop (λs=>∃ a:Nat,s.1=(a:Int)/\a<=l.Events.length/\(⟨s.2.1,s.2.2⟩:zC)=rpl l.Active (l.Events.take a)) (λs=>l.Events.length - s.1.toNat) (λs hs=>?_) ⟨0,rfl,by omega,rfl⟩ (by simp;omega);obtain ⟨a',bs,up⟩:=s;obtain ⟨a,g1,g2,g3⟩:=hs;simp only at g1 g3;subst g1;unfold cQ;refine Def.c (λh=>?_) (λh=>Def.s ?_)
  ·have ha2:a<l.Events.length:=by have:=dT h;omega
   refine Def.bd (P:=λr=>(⟨r.1,r.2⟩:zC)=rpl l.Active (l.Events.take (a+1))) ?_ (λr hr=>Def.s ?_)
   ·rw [zQj _ ha2];refine Def.bd (Def.at' ha2) (λe he=>?_);subst he;refine Def.c (λhk=>?_) (λhk=>Def.s (by rw [if_pos (by simpa using hk)];exact g3));have hk':l.Events[a].Kind≠5:=by simpa using hk
    rw [if_neg hk'];refine Def.bd (Def.at' ha2) (λe he=>?_);subst he;refine Def.bd (Def.at' ha2) (λe he=>?_);subst he;rw [g3];exact Def.bd (zMf _ l.Active _ (zM7 _ _ h1 h3) (hr' _ (List.getElem_mem ha2)) hk') (λr hr=>Def.s (by subst hr;rfl))
   ·rw [wM (by omega)];exact ⟨⟨a+1,rfl,by omega,hr⟩,by simp only [Int.toNat_natCast];omega⟩
  ·have:=dF h;rw [List.take_of_length_le (by omega)] at g3;exact g3
theorem zNm {bk:List By} (h:∀ x∈bk,x.length<=32) (n:Nat):(bk.getD n []).length<=32:=by
 by_cases hn:n<bk.length
 ·have:bk.getD n []=bk[n]:=by simp [hn]
  rw [this];exact h _ (List.getElem_mem hn)
 ·have:bk.getD n []=[]:=by simp [List.getD,List.getElem?_eq_none (by omega:bk.length<=n)]
  rw [this];simp
set_option maxRecDepth 100000
theorem dH (a:Int):sR a=some (siz a):=zFk a
theorem zM1 (e:zB) (active:Int):Def (kD e active) (λr=>r=0↔EvC e active):=by
 unfold kD;refine Def.bd or6 (λb hb=>?_);have hb:=zOc hb;refine Def.c (λh=>Def.s ⟨λh=>(by cases h),λhc=>?_⟩) (λhbf=>?_)
 ·have:=hb.2 ⟨hc.a1,hc.a3,hc.r0,hc.r1,hc.k1,hc.k5⟩;rw [this] at h;cases h
 obtain ⟨h1,h2,h3,h4,h5,h6⟩:=hb.1 hbf;refine Def.c (λh=>Def.s ⟨λh=>(by cases h),λhc=>?_⟩) (λhd=>?_)
 ·have:=dT h;have:=hc.d;omega
 have hd':=dF hd;refine Def.c (λh=>Def.s ⟨λh=>(by cases h),λhc=>?_⟩) (λhl0=>?_)
 ·rw [hc.l] at h;cases h
 have hl:e.Digests.length=2:=by simp at hl0;omega
 refine Def.bd (jV e.Digests (nS e active) (λi=>Fit e active i) (λb=>b=27/\∃ i,i<2/\¬ Fit e active i) (by omega) (λa ha=>?_) ?_) (λr hr=>?_)
 ·unfold nS;refine Def.c (λ_=>?_) (λh=>by have:=dF h;omega);refine Def.bd (Def.at' ha) (λd hd=>?_);subst hd;refine Def.bd (zL1 (e:=e) (active:=active) (a:=a) ?_ (by rw [dH];rfl)) (λw hw=>?_)
  ·refine bd (ckT (by simp)) ?_;have hw:IntKind.u64.wrap (a:Int)=(a:Int):=bQ (by omega) (by omega);unfold xF;rw [hw]
  refine Def.c (λhne=>Def.s ⟨rfl,a,by omega,λhF=>?_⟩) (λhne=>Def.s ⟨wM (by omega),(zFf ha hw).1 hne⟩);rw [(zFf ha hw).2 hF] at hne;cases hne
 ·unfold nS;rw [hl];exact cf rfl rfl
 ·cases r with
  | inl b=>exact Def.s ⟨λh=>(by rw [hr.1] at h;cases h),λh=>absurd ⟨h.f0,h.f1⟩ (nf2 hr.2)⟩
  | inr u=>exact Def.s ⟨λ_=>⟨⟨h3,h4,by omega,hl,hr 0 (by omega),hr 1 (by omega)⟩,h1,h2,h5,h6⟩,λ_=>rfl⟩
theorem zU8 (h:EvC e active):Def (kD e active) (λr=>r=0):=(zM1 e active).mono λ_ hr=>hr.2 h
set_option maxRecDepth 100000
theorem zS9 (b:By) (h:b.length<2 ^ 40):sL b=some (RS.W ⟨b,0,0⟩):=by
 unfold sL;refine bd (yJ (by simp;omega)) ?_;rfl
set_option maxRecDepth 100000
structure LgGood (l:xQ):Prop where
 ev:∀ e∈l.Events,EvC e l.Active
 n:l.Events.length<=40
set_option maxRecDepth 100000
def mF (e:zB):By:=[u8 e.Register,u8 e.Kind]++((beN ((e.Digests.getD 0 []).length:Int) 2 2++e.Digests.getD 0 [])++((beN ((e.Digests.getD 1 []).length:Int) 2 2++e.Digests.getD 1 [])++(beN (e.Data.length:Int) 2 2++e.Data)))
theorem kQ (h:Fit e active a):(e.Digests.getD a []).length<=32:=by
 unfold Fit siz at h;split at h
 ·split at h
  ·omega
  ·split at h<;>omega
 ·omega
theorem zC0 (h:EvGood e active):1<=(mF e).length/\(mF e).length<=136:=by
 have h0:=kQ h.f0;have h1:=kQ h.f1;have h2:=h.d;unfold mF;simp only [List.length_append,xC,List.length_cons,List.length_nil];omega
theorem Rem.eqv {l:By} (h:Rem r l) (e:l'=l):Rem r l':=e▸h
theorem zUr (n:Int) (h0:0<=n) (h:n<256):((u8 n).toNat:Int)=n:=by
 obtain ⟨m,rfl⟩:=Int.eq_ofNat_of_zero_le h0;rw [iS];omega
theorem Rem.byte (h:Rem r (u8 n :: rest)) (h0:0<=n) (hn:n<256):rT r 1=(n,r.to 1)/\Rem (r.to 1) rest:=by
 have h':Rem r ([u8 n]++rest):=h;refine ⟨h'.uintV rfl ?_ h0 (by omega),h'.to rfl⟩;have hb:beV [u8 n] 1=ior .u64 (mG .u64 ((0:Nat):Int) 8) (IntKind.u64.wrap (((u8 n).toNat:Nat):Int)):=rfl;rw [hb,zJ7 0 _ (by omega) (by have:=(u8 n).toNat_lt;omega)];have:=zUr n h0 hn;omega
theorem zUe (e:zB) (active:Int) (h:EvC e active):wW e=some true:=by
 have r0:=h.r0;have r1:=h.r1;have k1:=h.k1;have k5:=h.k5;have h2:=h.d;have hl:=h.l;have h0:=kQ h.f0;have h1:=kQ h.f1;have hd:Def (wW e) (λb=>b=true):=by
  unfold wW;refine Def.bd (P:=λb=>b=false) (Def.of (cf (by simp;omega) (cf (by simp;omega) (cf (by simp;omega) (cf (by simp;omega) (cf (by simp [hl]) rfl))))) (by simp;omega)) (λb hb=>?_);subst hb;refine Def.c (λh=>by cases h) (λ_=>?_);refine Def.bd (jV e.Digests (vN e) (λ_=>True) (λ_=>False) (by omega) (λi hi=>?_) ?_) (λy hy=>?_)
  ·unfold vN;refine Def.c (λ_=>?_) (λh=>by have:=dF h;omega);refine Def.bd (Def.at' hi) (λd hd=>?_);refine Def.bd (P:=λw=>w=32) (Def.of (dH 1) rfl) (λw hw=>?_);subst hw;have:d.length<=32:=by
    have hi2:i=0∨i=1:=by omega
    rcases hi2 with rfl | rfl
    ·have:(e.Digests.getD 0 [])=d:=by simp [hd,hi]
     rw [<- this];exact h0
    ·have:(e.Digests.getD 1 [])=d:=by simp [hd,hi]
     rw [<- this];exact h1
   exact Def.c (λh=>by have:=dT h;omega) (λ_=>Def.s ⟨wM (by omega),trivial⟩)
  ·unfold vN;exact cf (by simp) rfl
  ·cases y with
   | inl b=>exact hy.elim
   | inr u=>exact Def.s rfl
 obtain ⟨b,hb,rfl⟩:=hd;exact hb
theorem zTb (e:zB) (active:Int) (h:EvC e active):jQ (mF e)=some (e,0):=by
 have hlen:=zC0 h.toEvGood;have h0:=kQ h.f0;have h1:=kQ h.f1;have h2:=h.d;have r0:=h.r0;have r1:=h.r1;have k1:=h.k1;have k5:=h.k5;have hD:e.Digests=[e.Digests.getD 0 [],e.Digests.getD 1 []]:=by
  have hl:=h.l
  match hx:e.Digests,hl with
  | [a,b],_=>rfl
 have henc:=zUe e active h;have q0:Rem ⟨mF e,0,0⟩ (mF e):=⟨rfl,Nat.zero_le _,rfl⟩;have ok0:(RS.mk (mF e) 0 0).Ok:=⟨Nat.zero_le _,by simp;omega⟩;have w0:=zS9 (mF e) (by omega);have b0:(RS.mk (mF e) 0 0).b.length<2 ^ 40:=by show (mF e).length<_;omega
 generalize (RS.mk (mF e) 0 0)=s0 at *;unfold mF at q0;obtain ⟨e1,q1⟩:=Rem.byte q0 r0 (by omega);obtain ⟨e2,q2⟩:=Rem.byte q1 (by omega) (by omega);replace q2:Rem ((s0.to 1).to 1) ((beN ((e.Digests.getD 0 []).length:Int) 2 2++e.Digests.getD 0 [])++((beN ((e.Digests.getD 1 []).length:Int) 2 2++e.Digests.getD 1 [])++(beN (e.Data.length:Int) 2 2++e.Data))):=q2;rw [List.append_assoc] at q2;obtain ⟨e3,q3⟩:=Rem.blobN (m:=32) q2 (by omega) (by omega);rw [List.append_assoc] at q3;obtain ⟨e4,q4⟩:=Rem.blobN (m:=32) q3 (by omega) (by omega);have q4':=q4.eqv (l':=beN (e.Data.length:Int) 2 2++(e.Data++[])) (by rw [List.append_nil]);obtain ⟨e5,q5⟩:=Rem.blobN (m:=64) q4' (by omega) (by omega);have ok1:(s0.to 1).Ok:=⟨q1.at',by show s0.b.length<_;omega⟩;have ok2:((s0.to 1).to 1).Ok:=⟨q2.at',by show s0.b.length<_;omega⟩;generalize hs2:(s0.to 1).to 1=s2 at *;generalize hs3:s2.to (2+(e.Digests.getD 0 []).length)=s3 at *;have ok3:s3.Ok:=⟨q3.at',by rw [<- hs3,<- hs2];show s0.b.length<_;omega⟩;generalize hs4:s3.to (2+(e.Digests.getD 1 []).length)=s4 at *;have ok4:s4.Ok:=⟨q4.at',by rw [<- hs4,<- hs3,<- hs2];show s0.b.length<_;omega⟩;generalize hs5:s4.to (2+e.Data.length)=s5 at *;have ok5:s5.Ok:=⟨q5.at',by rw [<- hs5,<- hs4,<- hs3,<- hs2];show s0.b.length<_;omega⟩;unfold jQ;refine bd w0 ?_;refine bd (a:=(e.Register,(s0.to 1).W)) ((rR s0 1 ok0 (by omega) (by omega)).trans (by rw [e1])) ?_;refine bd (a:=(e.Kind,s2.W)) ((rR (s0.to 1) 1 ok1 (by omega) (by omega)).trans (by rw [e2])) ?_;refine bd (a:=([e.Digests.getD 0 [],e.Digests.getD 1 []],s4.W.b_,s4.W.at_,s4.W.e_)) (two (b:=(1,[e.Digests.getD 0 []],s3.W.b_,s3.W.at_,s3.W.e_)) (c:=(2,[e.Digests.getD 0 [],e.Digests.getD 1 []],s4.W.b_,s4.W.at_,s4.W.e_)) ?_ ?_ rfl) ?_
 ·unfold kZ;refine ct rfl ?_;refine bd (a:=((32:Nat):Int)) (dH 1) ?_;refine bd (a:=(e.Digests.getD 0 [],s3.W)) ((pZ s2 32 ok2).trans (by rw [e3])) ?_;exact bd (yJ (by simp)) rfl
 ·unfold kZ;refine ct rfl ?_;refine bd (a:=((32:Nat):Int)) (dH 1) ?_;refine bd (a:=(e.Digests.getD 1 [],s4.W)) ((pZ s3 32 ok3).trans (by rw [e4])) ?_;exact bd (yJ (by simp)) rfl
 refine bd (a:=(e.Data,s5.W)) ((pZ s4 64 ok4).trans (by rw [e5])) ?_;have he:(⟨e.Register,e.Kind,[e.Digests.getD 0 [],e.Digests.getD 1 []],e.Data⟩:zB)=e:=by rw [<- hD]
 refine bd (a:=false) ?_ ?_
 ·refine bd (a:=(0,s5.W)) ((zEe s5 ok5).trans (by rw [q5.fin])) ?_;refine cf rfl ?_;refine bd (a:=true) ?_ rfl;show wW ⟨e.Register,e.Kind,[e.Digests.getD 0 [],e.Digests.getD 1 []],e.Data⟩=_;rw [he];exact henc
 refine cf rfl ?_;show some ((⟨e.Register,e.Kind,[e.Digests.getD 0 [],e.Digests.getD 1 []],e.Data⟩:zB),(0:Int))=_;rw [he]
set_option maxRecDepth 100000
def zBo (a r:Int):By:=[83,87,76,49]++(u8 a :: beN r 6 6)
def mY (es:List zB):By:=es.flatMap λe=>beN ((mF e).length:Int) 2 2++mF e
def tB (l:xQ):By:=zBo l.Active l.Resets++mY l.Events
structure LgF (l:xQ):Prop extends LgGood l where
 a1:1<=l.Active
 a3:l.Active<=3
 r0:0<=l.Resets
 r1:l.Resets<=1099511627776
theorem aW (a r:Int):(zBo a r).length=11:=by simp [zBo,xC]
theorem zG6:∀ es:List zB,(∀ e∈es,EvC e active)->(mY es).length<=138*es.length
 | [],_=>by simp [mY]
 | e :: es,h=>by
  have h1:=zG6 es (λx hx=>h x (List.mem_cons_of_mem _ hx));have h2:=zC0 (h e (List.mem_cons_self ..)).toEvGood;unfold mY at h1 ⊢;rw [List.flatMap_cons,List.length_append,List.length_append,xC,List.length_cons];omega
theorem zPg (h:i<es.length):mY (es.take (i+1))=mY (es.take i)++(beN ((mF es[i]).length:Int) 2 2++mF es[i]):=by
 unfold mY;rw [List.take_add_one,List.flatMap_append];simp [h]
theorem zPm (h:i<es.length):mY (es.drop i)=beN ((mF es[i]).length:Int) 2 2++(mF es[i]++mY (es.drop (i+1))):=by
 rw [List.drop_eq_getElem_cons h];unfold mY;rw [List.flatMap_cons,List.append_assoc]
theorem zRx (es:List zB) (i:Nat):mY es=mY (es.take i)++mY (es.drop i):=by
 unfold mY;rw [<- List.flatMap_append,List.take_append_drop]
theorem zQl (l:xQ) (h:LgGood l):11<=(tB l).length/\(tB l).length<=5531:=by
 have h1:=zG6 l.Events h.ev;have h2:=h.n;unfold tB;rw [List.length_append,aW];omega
theorem zMd (a r:Int) (h1:1<=a) (h3:a<=3) (h0:0<=r) (hr:r<=1099511627776):∃ b,vI a r=some b/\b.length=11:=by
 refine ⟨sN (sN [83,87,76,49] 1 a) 6 r,?_,by rw [vP,vP];rfl⟩;unfold vI;refine bd (a:=false) (cf (by simp;omega) (cf (by simp;omega) (cf (by simp;omega) (congrArg some (by simp;omega))))) ?_;refine cf rfl ?_;refine bd (qV _ 1 a (by omega) (by omega) (by simp)) ?_;exact bd (qV _ 6 r (by omega) (by omega) (by rw [vP];simp)) rfl
def atE (l:xQ) (i:Nat):Nat:=11+(mY (l.Events.take i)).length
theorem zO3 (l:xQ) (h:LgF l):nA (tB l)=some (l,0):=by
 have hn:=h.n;have hlen:=zQl l h.toLgGood;obtain ⟨hb,hh1,hh2⟩:=zMd l.Active l.Resets h.a1 h.a3 h.r0 h.r1;have a1:=h.a1;have a3:=h.a3;have r0:=h.r0;have r1:=h.r1;have S:∀ i,Rem ⟨tB l,atE l i,0⟩ (mY (l.Events.drop i)):=by
  intro i;have e:tB l=(zBo l.Active l.Resets++mY (l.Events.take i))++mY (l.Events.drop i):=by
   unfold tB;rw [List.append_assoc,<- zRx]
  have hl:(zBo l.Active l.Resets++mY (l.Events.take i)).length=atE l i:=by rw [List.length_append,aW];rfl
  refine ⟨rfl,?_,?_⟩
  ·show atE l i<=(tB l).length;rw [e,List.length_append,hl];omega
  ·show (tB l).drop (atE l i)=_;rw [e,<- hl,List.drop_left]
 have ok:∀ i,(RS.mk (tB l) (atE l i) 0).Ok:=λi=>⟨(S i).at',by show (tB l).length<_;omega⟩;have q0:Rem ⟨tB l,0,0⟩ ([83,87,76,49]++(u8 l.Active :: (beN l.Resets 6 6++mY l.Events))):=⟨rfl,Nat.zero_le _,by show (tB l).drop 0=_;unfold tB zBo;simp⟩;have e1:=Rem.raw (n:=4) q0 rfl;have q1:=Rem.to (n:=4) q0 rfl;obtain ⟨e2,q2⟩:=Rem.byte q1 (by omega) (by omega);obtain ⟨e3,q3⟩:=Rem.uintI q2 (by omega) r0 (by omega) (by omega);have ok0:(RS.mk (tB l) 0 0).Ok:=⟨Nat.zero_le _,by show (tB l).length<_;omega⟩;have ok1:((RS.mk (tB l) 0 0).to 4).Ok:=⟨q1.at',by show (tB l).length<_;omega⟩;have ok2:(((RS.mk (tB l) 0 0).to 4).to 1).Ok:=⟨q2.at',by show (tB l).length<_;omega⟩;have e4:((((RS.mk (tB l) 0 0).to 4).to 1).to 6)=⟨tB l,atE l 0,0⟩:=by
  show (⟨tB l,0+4+1+6,0⟩:RS)=_;unfold atE;simp [mY]
 rw [e4] at e3;unfold nA;refine cf (by simp;omega) ?_;refine bd (a:=(l,(atE l l.Events.length:Int),0)) ?_ (cf rfl rfl);unfold lQ;refine bd (a:=(l,(atE l l.Events.length:Int),0)) ?_ rfl;refine bd (zS9 _ (by omega)) ?_;refine bd (a:=([83,87,76,49],((RS.mk (tB l) 0 0).to 4).W)) ((zEa _ 4 ok0).trans (by rw [e1])) ?_;refine cf rfl ?_;refine bd (a:=(l.Active,(((RS.mk (tB l) 0 0).to 4).to 1).W)) ((rR _ 1 ok1 (by omega) (by omega)).trans (by rw [e2])) ?_;refine bd (a:=(l.Resets,(RS.mk (tB l) (atE l 0) 0).W)) ((rR _ 6 ok2 (by omega) (by omega)).trans (by rw [e3])) ?_;refine bd (a:=(false,tB l,(atE l 0:Int),0)) ?_ ?_
 ·refine bd (a:=(0,(RS.mk (tB l) (atE l 0) 0).W)) rfl ?_;refine cf rfl ?_;refine bd hh1 ?_;rw [hh2];rfl
 refine cf rfl ?_;refine bd (a:=((atE l l.Events.length:Int),0,l.Events)) ?_ rfl;refine yG l.Events.length (λi=>((atE l i:Int),l.Events.take i,tB l,(atE l i:Int),0)) ?_ (λi hi=>?_) ?_ (xO (by omega))
 ·simp [atE,mY]
 ·have hE:=h.ev _ (List.getElem_mem hi);have hel:=zC0 hE.toEvGood;have hS:=S i;rw [zPm hi] at hS;have hleft:=hS.left;rw [List.length_append,xC] at hleft;obtain ⟨f1,f2⟩:=Rem.blobN (m:=65535) hS (by omega) (by omega);have f3:(RS.mk (tB l) (atE l i) 0).to (2+(mF l.Events[i]).length)=⟨tB l,atE l (i+1),0⟩:=by
   show (⟨tB l,atE l i+(2+(mF l.Events[i]).length),0⟩:RS)=_;unfold atE;rw [zPg hi,List.length_append,List.length_append,xC,Nat.add_assoc]
  rw [f3] at f1;have lf:∀ k,IntKind.i64.wrap (((tB l).length:Int) - (atE l k:Int))=((RS.mk (tB l) (atE l k) 0).left:Int):=λk=>zJo _ (ok k);have hck:=zU8 hE;obtain ⟨c,hc1,rfl⟩:=hck;unfold qS;refine bd (a:=(((RS.mk (tB l) (atE l i) 0).left:Int),(RS.mk (tB l) (atE l i) 0).W)) (congrArg some (by rw [<- lf i];rfl)) ?_;refine ct (by simp;omega) ?_;refine bd (a:=(mF l.Events[i],(RS.mk (tB l) (atE l (i+1)) 0).W)) ((pZ _ 65535 (ok i)).trans (by rw [f1])) ?_;refine bd (zTb _ _ hE) ?_;refine cf (by simp;omega) ?_;refine bd (a:=(0,(RS.mk (tB l) (atE l (i+1)) 0).W)) rfl ?_;refine cf rfl ?_;refine bd (a:=false) (cf rfl (bd hc1 rfl)) ?_;refine cf rfl ?_;refine bd (yJ (by simp;omega)) ?_;refine bd (a:=(((RS.mk (tB l) (atE l (i+1)) 0).left:Int),(RS.mk (tB l) (atE l (i+1)) 0).W)) (congrArg some (by rw [<- lf (i+1)];rfl)) ?_;have hat:IntKind.i64.wrap (((tB l).length:Int) - ((RS.mk (tB l) (atE l (i+1)) 0).left:Int))=(atE l (i+1):Int):=by
   have:=(ok (i+1)).1;simp only [RS.left] at *;rw [yP (by omega) (by omega)];omega
  have ht:l.Events.take (i+1)=l.Events.take i++[l.Events[i]]:=by rw [List.take_add_one];simp [hi]
  rw [ht];show some (Sum.inl (IntKind.i64.wrap (((tB l).length:Int) - ((RS.mk (tB l) (atE l (i+1)) 0).left:Int)),_))=_;rw [hat];rfl
 ·have hS:=S l.Events.length;rw [List.drop_length] at hS;have hleft:=hS.left;unfold qS;refine bd (a:=(((RS.mk (tB l) (atE l l.Events.length) 0).left:Int),(RS.mk (tB l) (atE l l.Events.length) 0).W)) (congrArg some (by rw [<- zJo _ (ok l.Events.length)];rfl)) ?_;refine cf (by rw [hleft];rfl) ?_;rw [List.take_length]
set_option maxRecDepth 100000
structure zM8 (d:zW):Prop where
 n:d.Areas.length<=64
 w0:0<=d.Writes
 w1:d.Writes<2 ^ 60
theorem zHh (d:zW) (a:Nat) (h:a<d.Areas.length):mX d (a:Int)=some true:=by
 unfold mX;refine bd (ct (by simp) (congrArg some (by simp;omega))) rfl
theorem zH9 (d:zW) (h:d.Areas.length<=64):zL (oZ d d.Areas.length) FU (0,List.replicate d.Areas.length [])=some d.Areas:=by
 refine yG d.Areas.length (λi=>((i:Int),d.Areas.take i++List.replicate (d.Areas.length - i) [])) (by simp) (λi hi=>?_) ?_ (xO (by omega))
 ·unfold oZ;refine ct (dlt hi) ?_;refine bd (yN hi) ?_;refine bd (uE hi) ?_;have hl:(d.Areas.take i).length=i:=by simp;omega
  refine bd (dS (by simp;omega)) ?_;rw [wM (show i<2 ^ 40 by omega)];refine congrArg some (congrArg Sum.inl (congrArg (Prod.mk _) ?_));rw [List.set_append_right _ _ (by omega),hl,Nat.sub_self];rw [show d.Areas.length - i=(d.Areas.length - (i+1))+1 by omega,List.replicate_succ,List.set_cons_zero];rw [List.take_add_one,List.getElem?_eq_getElem hi];simp only [Option.toList_some,List.append_assoc,List.singleton_append]
 ·unfold oZ;refine cf (dge (Nat.le_refl _)) ?_;simp
theorem app0 {x:By} (h:x.length<2 ^ 40):yM 1 [] x=some x:=by simpa using yJ (b:=1) (l:=[]) (m:=x) (by simp;omega)
theorem zVf {d:zW} (h:a<d.Areas.length):idx d.Areas (a:Int)=some (d.Areas.getD a []):=by rw [yN h];simp [h]
theorem mk24 {n:Nat} (h:n<=64):mkN 24 (n:Int)=some n:=by
 unfold mkN;rw [if_pos (by simp;omega)];simp
theorem wr1 (h0:0<=n) (h:n<2 ^ 60):IntKind.i64.wrap (n+1)=n+1:=yP (by omega) (by omega)
def zA0 (d:zW) (len:Nat):Nat:=if d.Writes+1=d.CutAt then min d.Torn.toNat len else len
def isC (d:zW):Prop:=d.Writes+1=d.CutAt
instance (d:zW):Decidable (isC d):=by unfold isC;infer_instance
def zFv (d:zW):Int:=if isC d then 29 else 0
theorem zP7 (d:zW) (len:Nat) (h:zM8 d) (ho:d.Off=false):(bif ((IntKind.i64.wrap (d.Writes+1))==d.CutAt) then
  (some (if (len:Int)<if d.Torn<0 then 0 else d.Torn then (len:Int) else if d.Torn<0 then 0 else d.Torn,29,true))
 else some ((len:Int),0,d.Off):Option (Int×Int×Bool))=some ((zA0 d len:Int),zFv d,decide (isC d)):=by
 rw [wr1 h.w0 h.w1];by_cases hc:d.Writes+1=d.CutAt
 ·refine ct (by simpa using hc) (congrArg some ?_);rw [show zFv d=29 from if_pos hc,show decide (isC d)=true from decide_eq_true hc];refine congrArg (·,(29:Int),true) ?_;unfold zA0;rw [if_pos hc];by_cases ht:d.Torn<0
  ·rw [if_pos ht,if_neg (by omega)];have:d.Torn.toNat=0:=by omega
   simp [this]
  ·rw [if_neg ht];split<;>omega
 ·refine cf (by simpa using hc) (congrArg some ?_);rw [show zFv d=0 from if_neg hc,show decide (isC d)=false from decide_eq_false hc,ho];unfold zA0;rw [if_neg hc]
def zBe (d:zW) (a:Nat) (y:By):zW:=⟨d.Areas.set a y,d.Writes+1,d.CutAt,d.Torn,decide (isC d)⟩
theorem zWp (d:zW) (a:Nat) (data x y:By) (b:Bool) (h:zM8 d) (ho:d.Off=false) (ha:a<d.Areas.length) (hl:data.length<=65536) (hy:nD (d.Areas.getD a []) (zA0 d data.length:Int) x b=some y) :
  fM d (a:Int) data x b=some (zBe d a y,zFv d):=by
 unfold fM;refine cf ho ?_;refine bd (zHh d a ha) ?_;refine cf rfl ?_;refine cf (by simp;omega) ?_;refine bd (zP7 d data.length h ho) ?_;refine bd (mk24 h.n) ?_;refine bd (zH9 d h.n) ?_;refine bd (zVf ha) ?_;refine bd hy ?_;refine bd (uE ha) ?_;refine bd (dS ha) ?_;refine bd (ckT (by simp)) ?_;refine bd (ckT (by have:=h.n;simp [Nat.ble_eq];omega)) ?_;rw [wr1 h.w0 h.w1];rfl
theorem zTj (d:zW) (a:Nat) (data x y:By) (h:zM8 d) (ho:d.Off=false) (ha:a<d.Areas.length) (hl:data.length<=65536) (hy:nQ (d.Areas.getD a []) (zA0 d data.length:Int) x=some y) :
  jR d (a:Int) data x=some (zBe d a y,zFv d):=by
 unfold jR;refine cf ho ?_;refine bd (zHh d a ha) ?_;refine cf rfl ?_;refine cf (by simp;omega) ?_;refine bd (zP7 d data.length h ho) ?_;refine bd (mk24 h.n) ?_;refine bd (zH9 d h.n) ?_;refine bd (zVf ha) ?_;refine bd hy ?_;refine bd (uE ha) ?_;refine bd (dS ha) ?_;refine bd (ckT (by simp)) ?_;refine bd (ckT (by have:=h.n;simp [Nat.ble_eq];omega)) ?_;rw [wr1 h.w0 h.w1];rfl
theorem zOb (d:zW) (len:Nat):zA0 d len<=len:=by unfold zA0;split<;>omega
def wrC (d:zW) (old data:By):By:=data.take (zA0 d data.length)++(if isC d then old.drop (zA0 d data.length) else [])
def apC (d:zW) (old data:By):By:=old++data.take (zA0 d data.length)
theorem zG0 (d:zW) (a:Nat) (data:By) (h:zM8 d) (ho:d.Off=false) (ha:a<d.Areas.length) (hl:data.length<=65536) (hold:(d.Areas.getD a []).length<2 ^ 40) :
  mV d (a:Int) data=some (zBe d a (wrC d (d.Areas.getD a []) data),zFv d):=by
 unfold mV;refine bd (a:=decide (isC d)) (ct (by rw [ho];rfl) (congrArg some ?_)) ?_
 ·rw [wr1 h.w0 h.w1];simp [isC,BEq.beq]
 refine bd (zWp d a data data (wrC d (d.Areas.getD a []) data) _ h ho ha hl ?_) rfl;generalize d.Areas.getD a []=old at hold;have hn:=zOb d data.length;unfold nD wrC;generalize zA0 d data.length=n at hn;refine bd (a:=data.take n) (by have:=sF (l:=data) (Nat.zero_le n) hn;simpa using this) ?_;refine bd (a:=data.take n) (by simpa using yJ (b:=1) (l:=[]) (m:=data.take n) (by simp;omega)) ?_;by_cases hc:isC d
 ·rw [decide_eq_true hc,if_pos hc];by_cases hlt:n<old.length
  ·refine bd (a:=data.take n++old.drop n) ?_ rfl;refine bd (a:=true) (ct rfl (congrArg some (by simp;omega))) ?_;refine ct rfl ?_;refine bd (a:=old.drop n) (by have:=sF (l:=old) (Nat.le_of_lt hlt) (Nat.le_refl _);rw [this,List.take_of_length_le (by simp)]) ?_;exact bd (yJ (by simp;omega)) rfl
  ·refine bd (a:=data.take n) ?_ ?_
   ·refine bd (a:=false) (ct rfl (congrArg some (by simp;omega))) ?_;exact cf rfl rfl
   ·rw [List.drop_eq_nil_of_le (by omega),List.append_nil]
 ·rw [decide_eq_false hc,if_neg hc,List.append_nil];refine bd (a:=data.take n) ?_ rfl;refine bd (a:=false) (cf rfl rfl) ?_;exact cf rfl rfl
theorem zPt (d:zW) (a:Nat) (data:By) (h:zM8 d) (ho:d.Off=false) (ha:a<d.Areas.length) (hl:data.length<=65536) (hold:(d.Areas.getD a []).length<2 ^ 40) :
  fJ d (a:Int) data=some (zBe d a (apC d (d.Areas.getD a []) data),zFv d):=by
 unfold fJ;refine bd (zTj d a data data (apC d (d.Areas.getD a []) data) h ho ha hl ?_) rfl;generalize d.Areas.getD a []=old at hold;have hn:=zOb d data.length;unfold nQ apC;generalize zA0 d data.length=n at hn;refine bd (a:=old) (by simpa using yJ (b:=1) (l:=[]) (m:=old) (by simp;omega)) ?_;refine bd (a:=data.take n) (by have:=sF (l:=data) (Nat.zero_le n) hn;simpa using this) ?_;exact bd (yJ (by simp;omega)) rfl
theorem zCf (d:zW) (a:Nat) (ho:d.Off=false) (ha:a<d.Areas.length) (hold:(d.Areas.getD a []).length<2 ^ 40):sM d (a:Int)=some (d.Areas.getD a [],0):=by
 unfold sM;refine cf ho ?_;refine bd (zHh d a ha) ?_;refine cf rfl ?_;refine bd (zVf ha) ?_;exact bd (a:=d.Areas.getD a []) (app0 hold) rfl
set_option maxRecDepth 100000
theorem zJ9 (w:UInt8) (c:By):Def (hP w c) (λr=>r.1.length=64/\r.2=c):=by
 unfold hP;refine Def.bd (Def.mkN (by decide) (by decide)) (λn hn=>?_);have hn:n=64:=hn;subst hn;refine Def.bd (Def.ck (by simp)) (λ_ _=>?_);refine Def.lt ?_;refine Def.bd (P:=λr=>r.length=64) ?_ (λr hr=>?_)
 ·refine Def.loop (λs=>0<=s.1/\s.1<=64/\s.2.length=64) (λs=>(64 - s.1).toNat) (λs hs=>?_) ⟨Int.le_refl 0,by simp,by rw [zI3];simp⟩ (by simp);obtain ⟨i,l⟩:=s;obtain ⟨h1,h2,h3⟩:=hs;simp only at h1 h2 h3;unfold zA7;refine Def.c (λh=>?_) (λ_=>Def.s h3);rw [decide_eq_true_iff] at h;refine Def.bd (Def.ixN h1 (by omega)) (λj hj=>?_);refine Def.bd (Def.at (by omega)) (λu _=>?_);refine Def.bd (Def.ixN h1 (by omega)) (λj hj=>?_);refine Def.bd (Def.upd (by omega)) (λv hv=>Def.s ?_);rw [yP (by omega) (by omega)];exact ⟨⟨by simp only;omega,by simp only;omega,by simp only [hv,List.length_set];exact h3⟩,by simp only;omega⟩
 ·refine Def.bd (Def.ck (by simp [hr])) (λ_ _=>?_);refine Def.bd (Def.ck (by simp)) (λ_ _=>Def.s ⟨hr,rfl⟩)
theorem zG1 (b:By) (h:b.length<2 ^ 40):Def (xP 1 b) (λr=>r.length=32):=Def.of (zJb b h) (zFi b)
theorem zRz (key b:By) (hk:key.length<2 ^ 30) (hb:b.length<2 ^ 30):Def (zFc key b) (λr=>r.length=32):=by
 unfold zFc;refine Def.bd (P:=λr=>r.length<2 ^ 30) ?_ (λk hk2=>?_)
 ·refine Def.c (λ_=>Def.bd (zG1 key (by omega)) (λr hr=>Def.s (by omega))) (λ_=>Def.s hk)
 refine Def.bd (zJ9 54 k) (λr hr=>?_);obtain ⟨v,c⟩:=r;obtain ⟨h1,rfl⟩:=hr;simp only at h1;refine Def.bd (Def.app (by omega)) (λa ha=>?_);refine Def.bd (zG1 a (by rw [ha,List.length_append];omega)) (λd hd=>?_);refine Def.bd (zJ9 92 _) (λr hr=>?_);obtain ⟨v2,c2⟩:=r;obtain ⟨h2,_⟩:=hr;simp only at h2;refine Def.bd (Def.app (by omega)) (λa2 ha2=>?_);exact Def.bd (zG1 a2 (by rw [ha2,List.length_append];omega)) (λd hd=>Def.s hd)
theorem fQ (key label ctx:By) (hk:key.length<2 ^ 30) (hl:label.length<2 ^ 20) (hc:ctx.length<2 ^ 20):Def (iG key label ctx 32) (λr=>r.length=32):=by
 unfold iG;refine Def.bd (Def.of (a:=false) rfl (Q:=λr=>r=false) rfl) (λb hb=>?_);subst hb;refine Def.c (λh=>by cases h) (λ_=>?_);refine Def.bd (Def.ck (by simp [Nat.ble_eq];omega)) (λ_ _=>?_);refine Def.bd (Def.app (by simp;omega)) (λa ha=>?_);refine Def.bd (Def.app (by rw [ha];simp;omega)) (λa2 ha2=>?_);refine Def.bd (Def.of (Q:=λr=>r.length=4) rfl rfl) (λf hf=>?_);refine Def.bd (Def.app (by rw [ha2,ha];simp;omega)) (λa3 ha3=>?_);have h3:a3.length<2 ^ 22:=by rw [ha3,ha2,ha];simp;omega
 refine Def.bd (P:=λr=>r.length=32) ?_ (λr hr=>?_)
 ·refine Def.loop (λs=>s.1.length=0∨s.1.length=32) (λs=>32 - s.1.length) (λs hs=>?_) (.inl rfl) (by simp);obtain ⟨o,i⟩:=s;simp only at hs;unfold zBh;refine Def.c (λh=>?_) (λh=>Def.s ?_)
  ·rw [decide_eq_true_iff] at h;have h0:o.length=0:=by omega
   refine Def.bd (Def.of (Q:=λr=>r.length=4) rfl rfl) (λf2 hf2=>?_);refine Def.bd (Def.app (by omega)) (λa4 ha4=>?_);refine Def.bd (zRz key a4 hk (by rw [ha4,List.length_append];omega)) (λm hm=>?_);refine Def.bd (Def.app (by omega)) (λa5 ha5=>Def.s ?_);have h5:a5.length=32:=by rw [ha5,List.length_append];omega
   exact ⟨.inr h5,by simp only;omega⟩
  ·rw [decide_eq_false_iff_not] at h;omega
 ·refine Def.bd (Def.sub (by decide) (by decide) (by omega)) (λu hu=>Def.s ?_);rw [hu];simp [hr]
structure Sst (s:zR):Prop where
 sd:∃ a b c,s.Seeds=[a,b,c]/\a.length=32/\b.length=32/\c.length=32
 au:s.Auths=[[],[],[],[]]
 en:s.Entropy.length=32
 a0:1<=s.Active
 a3:s.Active<=3
 r0:0<=s.Resets
 r1:s.Resets<2 ^ 30
 st:s.Restarts=0
 ck:s.Clock=0
 sv:s.Saved=⟨[],0⟩
 mc:s.MaxCounter=0
 ix:s.Indices=[]
 lo:s.Lockout=⟨0,5,100,0,0,1000⟩
 ks:s.Keys=[]
theorem zPw (e:By) (active:Int) (he:e.length=32) (h1:1<=active) (h3:active<=3):Def (zAp e active) (λr=>r.2=0/\Sst r.1/\r.1.Active=active/\r.1.Resets=0/\r.1.Orderly=true):=by
 unfold zAp;refine Def.bd (Def.of (Q:=λr=>r=false) (a:=false) ?_ rfl) (λb hb=>?_)
 ·refine cf (by simp [he]) (cf (by simp;omega) (congrArg some (by simp;omega)))
 subst hb;refine Def.c (λh=>by cases h) (λ_=>?_);refine Def.bd (Def.of (Q:=λr=>r=⟨0,5,100,0,0,1000⟩) rfl rfl) (λlo hlo=>?_);refine Def.bd (P:=λr=>∃ a b c,r=[a,b,c]/\a.length=32/\b.length=32/\c.length=32) ?_ (λr hr=>?_)
 ·obtain ⟨a,e1,l1⟩:=fQ e [115,101,101,100] [u8 0] (by omega) (by decide) (by decide);obtain ⟨b,e2,l2⟩:=fQ e [115,101,101,100] [u8 1] (by omega) (by decide) (by decide);obtain ⟨c,e3,l3⟩:=fQ e [115,101,101,100] [u8 2] (by omega) (by decide) (by decide);refine Def.of (a:=[a,b,c]) ?_ ⟨a,b,c,rfl,l1,l2,l3⟩;refine yG 3 (λi=>((i:Int),[a,b,c].take i)) rfl (λi hi=>?_) ?_ (xO (by decide))
  ·have hi3:i=0∨i=1∨i=2:=by omega
   unfold dM;rcases hi3 with rfl | rfl | rfl
   ·exact ct rfl (bd e1 (bd (yJ (by simp)) rfl))
   ·exact ct rfl (bd e2 (bd (yJ (by simp)) rfl))
   ·exact ct rfl (bd e3 (bd (yJ (by simp)) rfl))
  ·unfold dM;exact cf rfl rfl
 ·refine Def.bd (fQ e _ _ (by omega) (by decide) (by decide)) (λen hen=>Def.s ?_);exact ⟨rfl,⟨hr,rfl,hen,h1,h3,Int.le_refl 0,by simp only;decide,rfl,rfl,rfl,rfl,rfl,hlo,rfl⟩,rfl,rfl,rfl⟩
set_option maxRecDepth 100000
def bl (x:By):By:=beN (x.length:Int) 2 2++x
theorem uY (x:By):(bl x).length=2+x.length:=by simp [bl,xC]
theorem wB (b x:By) (hb:b.length<2 ^ 30) (hx:x.length<=65535):wH b x=some (b++bl x):=by
 rw [dU b x (by omega),zFy b hx];rfl
theorem wU (b:By) (k:Nat) (n:Int) (h1:1<=k) (h8:k<=8) (hb:b.length<2 ^ 30):xW b (k:Int) n=some (b++beN n k k):=by
 rw [qV b k n h1 h8 (by omega)];rfl
def bits (b:Bool):UInt8:=if b=true then 1 else 0
def sO (s:zR):By:=
 [1,u8 s.Active]++(bl (s.Seeds.getD 0 [])++(bl (s.Seeds.getD 1 [])++(bl (s.Seeds.getD 2 [])++(bl []++(bl []++(bl []++(bl []++(bl s.Entropy++(beN s.Resets 8 8++(beN 0 8 8++(beN 0 8 8++([bits s.Orderly]++(bl (0 :: beN 0 8 8)++(beN 0 8 8++([0]++(beN 0 8 8++(beN 5 8 8++(beN 100 8 8++(beN 0 8 8++(beN 0 8 8++(beN 1000 8 8++([0]))))))))))))))))))))))
theorem wk1:IntKind.i64.wrap 1=1:=rfl
theorem wk2:IntKind.i64.wrap 2=2:=rfl
theorem wk3:IntKind.i64.wrap 3=3:=rfl
theorem wk4:IntKind.i64.wrap 4=4:=rfl
theorem wk5:IntKind.i64.wrap 5=5:=rfl
theorem wk6:IntKind.i64.wrap 6=6:=rfl
theorem uS {X Y:Type} {step:X->Option (X ⊕ Y)} {x:X} {y:Y} (h:step x=some (.inr y)):zL step FU x=some y:=yG 0 (λ_=>x) rfl (λ_ h=>absurd h (Nat.not_lt_zero _)) h (xO (by decide))
theorem zZc (a b c:Int) (x:By) (hx:x.length<2 ^ 20):wA [a,b,c] x=some (((x++beN a 8 8)++beN b 8 8)++beN c 8 8):=by
 unfold wA;refine ct rfl ?_;refine bd (a:=a) rfl ?_;refine bd (wU x 8 a (by decide) (by decide) (by omega)) ?_;refine bd (a:=((x++beN a 8 8)++beN b 8 8)++beN c 8 8) ?_ rfl;refine two (step:=xY [a,b,c]) (b:=(2,(x++beN a 8 8)++beN b 8 8)) (c:=(3,((x++beN a 8 8)++beN b 8 8)++beN c 8 8)) ?_ ?_ ?_
 ·unfold xY;exact ct rfl (bd (a:=b) rfl (bd (wU _ 8 b (by decide) (by decide) (by simp [xC];omega)) rfl))
 ·unfold xY;exact ct rfl (bd (a:=c) rfl (bd (wU _ 8 c (by decide) (by decide) (by simp [xC];omega)) rfl))
 ·unfold xY;exact cf rfl rfl
theorem yA1 (a:Int) (x:By) (hx:x.length<2 ^ 20):wA [a] x=some (x++beN a 8 8):=by
 unfold wA;refine ct rfl ?_;refine bd (a:=a) rfl ?_;refine bd (wU x 8 a (by decide) (by decide) (by omega)) ?_;exact bd (a:=x++beN a 8 8) (uS (by unfold xY;exact cf rfl rfl)) rfl
theorem zYx (a b c d e f:Int) (x:By) (hx:x.length<2 ^ 20):wA [a,b,c,d,e,f] x=some ((((((x++beN a 8 8)++beN b 8 8)++beN c 8 8)++beN d 8 8)++beN e 8 8)++beN f 8 8):=by
 unfold wA;refine ct rfl ?_;refine bd (a:=a) rfl ?_;refine bd (wU x 8 a (by decide) (by decide) (by omega)) ?_;refine bd (a:=(((((x++beN a 8 8)++beN b 8 8)++beN c 8 8)++beN d 8 8)++beN e 8 8)++beN f 8 8) ?_ rfl;refine yG 5 (λi=>(((i+1:Nat):Int),(x++beN a 8 8)++([b,c,d,e,f].take i).flatMap (λn=>beN n 8 8))) (by simp) (λi hi=>?_) ?_ (xO (by decide))
 ·have h5:i=0∨i=1∨i=2∨i=3∨i=4:=by omega
  unfold xY;rcases h5 with rfl | rfl | rfl | rfl | rfl <;>
   exact ct rfl (bd rfl (bd (wU _ 8 _ (by decide) (by decide) (by simp [xC];omega)) (by simp [wk2,wk3,wk4,wk5,wk6,List.append_assoc])))
 ·unfold xY;refine cf rfl ?_;simp [List.append_assoc]
theorem yCb:mU ⟨[],0⟩=some (0 :: beN 0 8 8):=by decide +kernel
theorem zFp (s:zR) (h:Sst s):sX s=some (sO s):=by
 obtain ⟨a,b,c,hs,la,lb,lc⟩:=h.sd;have hse:s.Seeds.getD 0 []=a/\s.Seeds.getD 1 []=b/\s.Seeds.getD 2 []=c:=by rw [hs];exact ⟨rfl,rfl,rfl⟩
 have hen:=h.en;unfold sX;refine bd (a:=(([1,u8 s.Active]++bl a)++bl b)++bl c) ?_ ?_
 ·refine yG 3 (λi=>((i:Int),[1,u8 s.Active]++([a,b,c].take i).flatMap bl)) (by simp) (λi hi=>?_) ?_ (xO (by decide))
  ·have h3:i=0∨i=1∨i=2:=by omega
   unfold kS;rw [hs];rcases h3 with rfl | rfl | rfl
   ·exact ct rfl (bd (a:=a) rfl (bd (wB _ a (by simp) (by omega)) (by simp [wk1])))
   ·exact ct rfl (bd (a:=b) rfl (bd (wB _ b (by simp [uY];omega) (by omega)) (by simp [wk2,wk3])))
   ·exact ct rfl (bd (a:=c) rfl (bd (wB _ c (by simp [uY];omega) (by omega)) (by simp [wk2,wk3])))
  ·unfold kS;refine cf rfl (by simp)
 refine bd (a:=((((([1,u8 s.Active]++bl a)++bl b)++bl c)++bl []++bl [])++bl [])++bl []) ?_ ?_
 ·generalize hX:(([1,u8 s.Active]++bl a)++bl b)++bl c=X;have lX:X.length<200:=by rw [<- hX];simp [uY];omega
  refine yG 4 (λi=>((i:Int),X++(List.replicate i ([]:By)).flatMap bl)) (by simp) (λi hi=>?_) ?_ (xO (by decide))
  ·have h3:i=0∨i=1∨i=2∨i=3:=by omega
   unfold kY;rw [h.au];rcases h3 with rfl | rfl | rfl | rfl <;>
    exact ct rfl (bd (a:=[]) rfl (bd (wB _ [] (by simp [uY];omega) (by decide)) (by simp [List.replicate,wk1,wk2,wk3,wk4])))
  ·unfold kY;refine cf rfl (by simp [List.replicate])
 generalize hX:((((([1,u8 s.Active]++bl a)++bl b)++bl c)++bl []++bl [])++bl [])++bl []=X;have lX:X.length<200:=by rw [<- hX];simp [uY];omega
 refine bd (wB X s.Entropy (by omega) (by omega)) ?_;rw [h.st,h.ck,h.mc,h.sv,h.ix,h.lo,h.ks];refine bd (zZc s.Resets 0 0 _ (by simp [uY];omega)) ?_;refine bd (a:=bits s.Orderly) (by unfold zAc bits;cases s.Orderly<;>rfl) ?_;refine bd (yJ (by simp [uY,xC];omega)) ?_;refine bd yCb ?_;refine bd (wB _ _ (by simp [uY,xC];omega) (by simp [xC])) ?_;refine bd (yA1 0 _ (by simp [uY,xC];omega)) ?_;refine bd (yJ (by simp [uY,xC];omega)) ?_;refine bd (uS (by unfold cS;rw [h.ix];exact cf rfl rfl)) ?_;refine bd (zYx 0 5 100 0 0 1000 _ (by simp [uY,xC];omega)) ?_;refine bd (yJ (by simp [uY,xC];omega)) ?_;refine bd (uS (by unfold cX;rw [h.ks];exact cf rfl rfl)) ?_;refine congrArg some ?_;rw [<- hX];unfold sO;rw [hse.1,hse.2.1,hse.2.2];simp only [List.append_assoc];rfl
set_option maxRecDepth 100000
structure Rd (r:RS) (l:By):Prop where
 m:Rem r l
 o:r.Ok
section
variable {x:By} 
theorem zKq (b:By) (hb:b.length<2 ^ 40):∃ r,Rd r b/\sL b=some r.W:=⟨⟨b,0,0⟩,⟨⟨rfl,Nat.zero_le _,rfl⟩,Nat.zero_le _,hb⟩,zS9 b hb⟩
theorem rdU (h:Rd r (beN n k k++rest)) (h1:1<=k) (h8:k<=8) (h0:0<=n) (hn:n<2 ^ 62) (hs:n.toNat<256 ^ k):∃ r',Rd r' rest/\yE r.W (k:Int)=some (n,r'.W):=by
 obtain ⟨e,m⟩:=Rem.uintI h.m h8 h0 hn hs;have ok:=zIa r k h.o;rw [e] at ok;exact ⟨r.to k,⟨m,ok⟩,by rw [rR r k h.o h1 h8,e]⟩
theorem rdBt (h:Rd r (u8 n :: rest)) (h0:0<=n) (hn:n<256):∃ r',Rd r' rest/\yE r.W 1=some (n,r'.W):=by
 obtain ⟨e,m⟩:=Rem.byte h.m h0 hn;have ok:=zIa r 1 h.o;rw [e] at ok;exact ⟨r.to 1,⟨m,ok⟩,by have:=rR r 1 h.o (by decide) (by decide);rw [e] at this;exact this⟩
theorem zQ8 (h:Rd r (bl x++rest)) (hx:x.length<=65535) (hk:x.length<=k):∃ r',Rd r' rest/\yR r.W (k:Int)=some (x,r'.W):=by
 have h':=h.m;unfold bl at h';rw [List.append_assoc] at h';obtain ⟨e,m⟩:=Rem.blobN h' hx hk;have ok:=zPs r k h.o;rw [e] at ok;exact ⟨_,⟨m,ok⟩,by rw [pZ r k h.o,e]⟩
theorem rdRw (h:Rd r (x++rest)) (hx:x.length=k):∃ r',Rd r' rest/\vJ r.W (k:Int)=some (x,r'.W):=by
 have e:=Rem.raw h.m hx;have ok:=zRg r k h.o;rw [e] at ok;exact ⟨_,⟨Rem.to h.m hx,ok⟩,by rw [zEa r k h.o,e]⟩
theorem rdE (h:Rd r []):wC r.W=some (0,r.W):=by rw [zEe r h.o,Rem.fin h.m]
theorem zMt {l:By} (h:Rd r l):xT r.W=some (0,r.W):=by unfold xT;exact congrArg some (congrArg (·,r.W) h.m.e)
theorem Rd.cast {l:By} (h:Rd r l) (e:l=l'):Rd r l':=e▸h
theorem numG (h:Rd r (beN n k k++rest)) (h1:1<=k) (h8:k<=8) (h0:0<=n) (hn:n<2 ^ 62) (hs:n.toNat<256 ^ k) (hm:n<=most):∃ r',Rd r' rest/\xH (k:Int) most 0 r.W=some (n,0,r'.W):=by
 obtain ⟨r',g,e⟩:=rdU h h1 h8 h0 hn hs;refine ⟨r',g,?_⟩;unfold xH;refine cf rfl ?_;refine bd e ?_;refine bd (zMt g) ?_;refine bd (a:=0) (bd (a:=false) (ct rfl (congrArg some (by simp;omega))) (cf rfl rfl)) ?_;exact cf rfl rfl
theorem zS0 (h:Rd r (u8 n :: rest)) (h0:0<=n) (hn:n<256) (hm:n<=most):∃ r',Rd r' rest/\xH 1 most 0 r.W=some (n,0,r'.W):=by
 obtain ⟨r',g,e⟩:=rdBt h h0 hn;refine ⟨r',g,?_⟩;unfold xH;refine cf rfl ?_;refine bd e ?_;refine bd (zMt g) ?_;refine bd (a:=0) (bd (a:=false) (ct rfl (congrArg some (by simp;omega))) (cf rfl rfl)) ?_;exact cf rfl rfl
theorem zHn (h:Rd r (beN n 8 8++rest)) (h0:0<=n) (hn:n<2 ^ 62):∃ r',Rd r' rest/\yU 8 0 r.W=some (n,0,r'.W):=by
 obtain ⟨r',g,e⟩:=numG (k:=8) (most:=9223372036854775807) h (by decide) (by decide) h0 hn (by omega) (by omega);exact ⟨r',g,bd e rfl⟩
theorem any1 (h:Rd r (u8 n :: rest)) (h0:0<=n) (hn:n<256):∃ r',Rd r' rest/\yU 1 0 r.W=some (n,0,r'.W):=by
 obtain ⟨r',g,e⟩:=zS0 (most:=9223372036854775807) h h0 hn (by omega);exact ⟨r',g,bd e rfl⟩
theorem zQi (h:Rd r (bl x++rest)) (hx:x.length<=4096):∃ r',Rd r' rest/\vF 0 r.W=some (x,0,r'.W):=by
 obtain ⟨r',g,e⟩:=zQ8 (k:=4096) h (by omega) hx;refine ⟨r',g,?_⟩;unfold vF;exact cf rfl (bd e (bd (zMt g) rfl))
theorem zLq:∀ (L:List By) (fuel:Nat) (acc:List By) (v n:Int) (r:RS),L.length<fuel->Rd r (L.flatMap bl++rest)->(∀ x∈L,x.length<=4096)->v+L.length=n->0<=v->n<=100->acc.length<=100->(acc.length:Int)<=v ->
  ∃ r',Rd r' rest/\zL (vO n) fuel (acc,v,0,r.b,(r.at':Int),r.e)=some (acc++L,0,r'.b,(r'.at':Int),r'.e)
 | [],f+1,acc,v,n,r,_,h,_,hv,_,_,_,_=>by
  refine ⟨r,h.cast (by simp),?_⟩;simp only [zL];have:vO n (acc,v,0,r.b,(r.at':Int),r.e)=some (.inr (acc,0,r.b,(r.at':Int),r.e)):=by
   unfold vO;exact cf (by simp at hv;simp;omega) rfl
  rw [this,List.append_nil]
 | x :: L,f+1,acc,v,n,r,hf,h,hL,hv,h0,hn,ha,hav=>by
  have hx:=hL x (List.mem_cons_self ..);simp only [List.length_cons] at hf hv;obtain ⟨r1,g1,e1⟩:=zQi (x:=x) (rest:=L.flatMap bl++rest) (h.cast (by simp)) hx;obtain ⟨r',g',e'⟩:=zLq L f (acc++[x]) (v+1) n r1 (by omega) g1 (λy hy=>hL y (List.mem_cons_of_mem _ hy)) (by omega) (by omega) hn (by simp;omega) (by simp;omega);refine ⟨r',g',?_⟩;simp only [zL];have:vO n (acc,v,0,r.b,(r.at':Int),r.e)=some (.inl (acc++[x],v+1,0,r1.b,(r1.at':Int),r1.e)):=by
   unfold vO;refine ct (by simp;omega) ?_;refine bd e1 ?_;refine bd (yJ (by simp;omega)) ?_;rw [yP (by omega) (by omega)];rfl
  rw [this];simp only [e',List.append_assoc,List.singleton_append]
theorem zSs (L:List By) (k:Int) (hk:(L.length:Int)=k) (h4:L.length<=4) (h:Rd r (L.flatMap bl++rest)) (hL:∀ x∈L,x.length<=4096):∃ r',Rd r' rest/\rO k 0 r.W=some (L,0,r'.W):=by
 obtain ⟨r',g,e⟩:=zLq L FU [] 0 k r (xO (by omega)) h hL (by omega) (Int.le_refl 0) (by omega) (by simp) (by simp);refine ⟨r',g,?_⟩;unfold rO;exact bd e rfl
theorem yAv (h:Rd r ([bits b]++rest)):∃ r',Rd r' rest/\nL 0 r.W=some (b,0,r'.W):=by
 have hb:bits b=u8 (if b=true then 1 else 0):=by cases b<;>rfl
 obtain ⟨r',g,e⟩:=zS0 (n:=if b=true then 1 else 0) (most:=1) (h.cast (by rw [hb];rfl)) (by split<;>decide) (by split<;>decide) (by split<;>decide);refine ⟨r',g,bd e ?_⟩;cases b<;>rfl
theorem yAt:mK (0 :: beN 0 8 8)=some (⟨[],0⟩,0):=by decide +kernel
theorem zWh (h:Rd r (bl (0 :: beN 0 8 8)++rest)):∃ r',Rd r' rest/\sU 0 r.W=some (⟨[],0⟩,0,r'.W):=by
 obtain ⟨r',g,e⟩:=zQi h (by simp [xC]);refine ⟨r',g,?_⟩;unfold sU;exact bd e (cf rfl (bd yAt rfl))
theorem yAu (s:zR) (h:Sst s):jF (sO s)=some (s,0):=by
 obtain ⟨a,b,c,hs,la,lb,lc⟩:=h.sd;have hse:s.Seeds.getD 0 []=a/\s.Seeds.getD 1 []=b/\s.Seeds.getD 2 []=c:=by rw [hs];exact ⟨rfl,rfl,rfl⟩
 have hen:=h.en;have hlen:(sO s).length<2 ^ 40:=by
  unfold sO;rw [hse.1,hse.2.1,hse.2.2];simp only [List.length_append,uY,xC,List.length_cons,List.length_nil];omega
 obtain ⟨r0,g0,e0⟩:=zKq (sO s) hlen;unfold sO at g0;rw [hse.1,hse.2.1,hse.2.2] at g0;unfold jF;refine bd e0 ?_;obtain ⟨r1,g1,e1⟩:=any1 (n:=1) (rest:=_) (g0.cast rfl) (by decide) (by decide);refine bd e1 ?_;refine bd (a:=0) (bd (a:=false) rfl (cf rfl rfl)) ?_;obtain ⟨r2,g2,e2⟩:=zS0 (n:=s.Active) (most:=3) (g1.cast rfl) (by have:=h.a0;omega) (by have:=h.a3;omega) h.a3;refine bd e2 ?_;obtain ⟨r3,g3,e3⟩:=zSs [a,b,c] 3 rfl (by simp) (rest:=_) (g2.cast (by simp only [List.flatMap_cons,List.flatMap_nil,List.append_nil,List.append_assoc,List.nil_append];rfl)) (by simp;omega);refine bd e3 ?_;obtain ⟨r4,g4,e4⟩:=zSs [[],[],[],[]] 4 rfl (by simp) (rest:=_) (g3.cast (by simp only [List.flatMap_cons,List.flatMap_nil,List.append_nil,List.append_assoc];rfl)) (by simp);refine bd e4 ?_;obtain ⟨r5,g5,e5⟩:=zQi g4 (by omega);refine bd e5 ?_;obtain ⟨r6,g6,e6⟩:=zHn g5 h.r0 (by have:=h.r1;omega);refine bd e6 ?_;obtain ⟨r7,g7,e7⟩:=zHn g6 (by decide) (by decide);refine bd e7 ?_;obtain ⟨r8,g8,e8⟩:=zHn g7 (by decide) (by decide);refine bd e8 ?_;obtain ⟨r9,g9,e9⟩:=yAv g8;refine bd e9 ?_;obtain ⟨r10,g10,e10⟩:=zWh g9;refine bd e10 ?_;obtain ⟨r11,g11,e11⟩:=zHn g10 (by decide) (by decide);refine bd e11 ?_;obtain ⟨r12,g12,e12⟩:=zS0 (n:=0) (most:=6) (g11.cast rfl) (by decide) (by decide) (by decide);refine bd e12 ?_;refine bd (uS (by unfold cO;exact cf rfl rfl)) ?_;obtain ⟨q1,k1,f1⟩:=zHn g12 (by decide) (by decide);refine bd f1 ?_;obtain ⟨q2,k2,f2⟩:=zHn k1 (by decide) (by decide);refine bd f2 ?_;obtain ⟨q3,k3,f3⟩:=zHn k2 (by decide) (by decide);refine bd f3 ?_;obtain ⟨q4,k4,f4⟩:=zHn k3 (by decide) (by decide);refine bd f4 ?_;obtain ⟨q5,k5,f5⟩:=zHn k4 (by decide) (by decide);refine bd f5 ?_;obtain ⟨q6,k6,f6⟩:=zHn k5 (by decide) (by decide);refine bd f6 ?_;obtain ⟨q7,k7,f7⟩:=zS0 (n:=0) (most:=8) (rest:=[]) (k6.cast rfl) (by decide) (by decide) (by decide);refine bd f7 ?_;refine bd (a:=([],0,q7.b,(q7.at':Int),q7.e)) (uS (by unfold bD;exact cf rfl rfl)) ?_;refine bd (a:=(0,q7.b,(q7.at':Int),q7.e)) (ct rfl (bd (rdE k7) rfl)) ?_;refine cf rfl ?_;refine congrArg (λz=>some (z,(0:Int))) ?_;have h2:=h.au;have h8:=h.st;have h9:=h.ck;have h10:=h.sv;have h11:=h.mc;have h12:=h.ix;have h13:=h.lo;have h14:=h.ks;clear h;cases s;simp only at hs h2 h8 h9 h10 h11 h12 h13 h14;subst h2 h8 h9 h10 h11 h12 h13 h14 hs;rfl
end
set_option maxRecDepth 100000
def mrk (seq:Int) (p:By):By:=hs 12 [beN seq 8 8,p]
theorem zI5 (seq:Int) (p:By):(mrk seq p).length=32:=zBn _ _
theorem zOh (seq:Int) (p:By) (hp:p.length<2 ^ 20):mB seq p=some (mrk seq p):=by
 unfold mB;refine bd (wU [] 8 seq (by decide) (by decide) (by decide)) ?_;refine bd (zFx 12 [[]++beN seq 8 8,p] (by simp [tot,xC];omega)) rfl
def jS (seq:Nat) (p:By):By:=mrk seq p++(beN (seq:Int) 8 8++(beN (p.length:Int) 4 4++p))
theorem zHb (seq:Nat) (p:By):(jS seq p).length=44+p.length:=by simp [jS,zI5,xC];omega
theorem zUu (seq:Nat):Int.tmod (seq:Int) 2=((seq % 2:Nat):Int):=by rw [Int.tmod_eq_emod_of_nonneg (by omega)];rfl
theorem zRa:kA 0=some true:=rfl
theorem zIk (d:zW) (seq:Nat) (p:By) (h1:1<=seq) (h2:seq<2 ^ 30) (hp:p.length<=60000) {r:zW×Int} (hw:mV d ((seq % 2:Nat):Int) (jS seq p)=some r):qH d 0 (seq:Int) p=some r:=by
 unfold qH;refine bd (a:=false) (cf (by simp;omega) (cf (by simp;omega) (bd zRa rfl))) ?_;refine cf rfl ?_;refine cf (by simp;omega) ?_;refine bd (zOh _ p (by omega)) ?_;have hm:=zI5 (seq:Int) p;refine bd (wU _ 8 _ (by decide) (by decide) (by omega)) ?_;refine bd (wU _ 4 _ (by decide) (by decide) (by simp [xC];omega)) ?_;refine bd (yJ (by simp [xC];omega)) ?_;rw [zUu];have e:IntKind.i64.wrap (0+((seq % 2:Nat):Int))=((seq % 2:Nat):Int):=by rw [yP (by omega) (by omega)];omega
 rw [e];refine bd (a:=r) ?_ rfl;rw [<- hw];simp only [jS,List.append_assoc]
theorem zG8 (seq:Nat) (p:By) (h1:1<=seq) (h2:seq<2 ^ 30) (hp:p.length<=60000):uI (jS seq p) ((seq % 2:Nat):Int)=some (p,(seq:Int),true):=by
 have hl:=zHb seq p;obtain ⟨r0,g0,e0⟩:=zKq (jS seq p) (by omega);unfold uI;refine bd e0 ?_;unfold jS at g0;obtain ⟨r1,g1,e1⟩:=rdRw (k:=32) g0 (zI5 _ _);refine bd e1 ?_;obtain ⟨r2,g2,e2⟩:=rdU (k:=8) g1 (by decide) (by decide) (by omega) (by omega) (by omega);refine bd e2 ?_;obtain ⟨r3,g3,e3⟩:=rdU (k:=4) g2 (by decide) (by decide) (by omega) (by omega) (by omega);refine bd e3 ?_;obtain ⟨r4,g4,e4⟩:=rdRw (k:=p.length) (x:=p) (rest:=[]) (g3.cast (by simp)) rfl;refine bd e4 ?_;refine bd (a:=false) (bd (zMt g4) (cf rfl (cf (by simp;omega) (cf (by rw [zUu];simp) (bd (zOh _ p (by omega)) (congrArg some (by simp))))))) ?_;exact cf rfl rfl
theorem zPz (w:Int):uI [] w=some ([],0,false):=by
 unfold uI;refine bd (zS9 [] (by decide)) ?_;refine bd (a:=([],RS.W ⟨[],0,2⟩)) rfl ?_;refine bd (a:=(0,RS.W ⟨[],0,2⟩)) rfl ?_;refine bd (a:=(0,RS.W ⟨[],0,2⟩)) rfl ?_;refine bd (a:=([],RS.W ⟨[],0,2⟩)) rfl ?_;exact bd (a:=true) rfl (ct rfl rfl)
structure Jr (as:List By) (seq:Nat) (p:By):Prop where
 a:as.getD (seq % 2) []=jS seq p
 b:∃ q s ok,uI (as.getD (1 - seq % 2) []) ((1 - seq % 2:Nat):Int)=some (q,s,ok)/\(ok=true->s<seq)
 s1:1<=seq
 s2:seq<2 ^ 29
 pl:p.length<=60000
theorem zMl (d:zW) (seq:Nat) (p:By) (ho:d.Off=false) (h2:2<=d.Areas.length) (hal:∀ i,(d.Areas.getD i []).length<2 ^ 40) (h:Jr d.Areas seq p):oK d 0=some (p,(seq:Int),0):=by
 obtain ⟨ha,⟨q,s,ok,hb,hs⟩,s1,s2,pl⟩:=h;have hp:=zG8 seq p s1 (by omega) pl;rw [<- ha] at hp;unfold oK;refine bd zRa ?_;refine cf rfl ?_;refine bd (zCf d 0 ho (by omega) (hal 0)) ?_;refine cf rfl ?_;refine bd (zCf d 1 ho (by omega) (hal 1)) ?_;refine cf rfl ?_;have h01:seq % 2=0∨seq % 2=1:=by omega
 rcases h01 with hm | hm
 ·rw [hm] at hp hb;refine bd (a:=(p,(seq:Int),true)) (bd (a:=d.Areas.getD 0 []) rfl (bd hp (bd (a:=true) (ct rfl (congrArg some (by simp;omega))) (ct rfl rfl)))) ?_;refine bd (a:=(p,(seq:Int),true)) (bd (a:=d.Areas.getD 1 []) rfl (bd hb (bd (a:=false) ?_ (cf rfl rfl)))) ?_
  ·cases ok
   ·exact cf rfl rfl
   ·exact ct rfl (congrArg some (by have:=hs rfl;simp;omega))
  ·exact cf rfl rfl
 ·rw [hm] at hp hb;cases ok
  ·refine bd (a:=([],0,false)) (bd (a:=d.Areas.getD 0 []) rfl (bd hb (bd (a:=false) (cf rfl rfl) (cf rfl rfl)))) ?_;refine bd (a:=(p,(seq:Int),true)) (bd (a:=d.Areas.getD 1 []) rfl (bd hp (bd (a:=true) (ct rfl (congrArg some (by simp;omega))) (ct rfl rfl)))) ?_;exact cf rfl rfl
  ·have hlt:=hs rfl;by_cases h0:0<s
   ·refine bd (a:=(q,s,true)) (bd (a:=d.Areas.getD 0 []) rfl (bd hb (bd (a:=true) (ct rfl (congrArg some (by simp [h0]))) (ct rfl rfl)))) ?_;refine bd (a:=(p,(seq:Int),true)) (bd (a:=d.Areas.getD 1 []) rfl (bd hp (bd (a:=true) (ct rfl (congrArg some (by simp [hlt]))) (ct rfl rfl)))) ?_;exact cf rfl rfl
   ·refine bd (a:=([],0,false)) (bd (a:=d.Areas.getD 0 []) rfl (bd hb (bd (a:=false) (ct rfl (congrArg some (by simp [h0]))) (cf rfl rfl)))) ?_;refine bd (a:=(p,(seq:Int),true)) (bd (a:=d.Areas.getD 1 []) rfl (bd hp (bd (a:=true) (ct rfl (congrArg some (by simp;omega))) (ct rfl rfl)))) ?_;exact cf rfl rfl
theorem uM (h:a<as.length):(as.set a y).getD a []=y:=by simp [List.getD_eq_getElem?_getD,h]
theorem getD_set_ne {b:Nat} (h:a≠b):(as.set a y).getD b []=as.getD b []:=by simp [List.getD_eq_getElem?_getD,List.getElem?_set_ne h]
theorem Jr.next {p':By} (h:Jr as seq p) (h2:2<=as.length) (hs:seq+1<2 ^ 29) (hp:p'.length<=60000):Jr (as.set ((seq+1) % 2) (jS (seq+1) p')) (seq+1) p':=by
 refine ⟨uM (by omega),⟨p,(seq:Int),true,?_,λ_=>by omega⟩,by omega,hs,hp⟩;rw [getD_set_ne (by omega)];have e:1 - (seq+1) % 2=seq % 2:=by omega
 rw [e,h.a];exact zG8 seq p h.s1 (by have:=h.s2;omega) h.pl
theorem Jr.other (h:Jr as seq p) (ha:2<=a):Jr (as.set a y) seq p:=by
 refine ⟨by rw [getD_set_ne (by omega)];exact h.a,?_,h.s1,h.s2,h.pl⟩;rw [getD_set_ne (by omega)];exact h.b
theorem Jr.first (n:Nat) (p:By) (hn:2<=n) (hp:p.length<=60000):Jr ((List.replicate n ([]:By)).set 1 (jS 1 p)) 1 p:=by
 refine ⟨uM (by simp;omega),⟨[],0,false,?_,λh=>by cases h⟩,by decide,by decide,hp⟩;rw [getD_set_ne (by decide)];have:(List.replicate n ([]:By)).getD (1 - 1 % 2) []=[]:=by simp [List.getD_eq_getElem?_getD,List.getElem?_replicate];split<;>rfl
 rw [this];exact zPz _
set_option maxRecDepth 100000
def zEx (d:zE):zE:=⟨⟨d.Disk.Areas,d.Disk.Writes,d.Disk.CutAt,d.Disk.Torn,true⟩,default,false,d.Next⟩
theorem zEc (d:zE):tC d=some (zEx d):=rfl
def zOy:yD:=⟨false,false,⟨[],0⟩,0,false,0,List.replicate 3 default,List.replicate 3 default,[],[]⟩
structure Dk (d:zW) (seq:Nat) (st:zR) (m:Nat):Prop where
 ok:zM8 d
 m0:d.Writes<=m
 m1:m<2 ^ 50
 n:d.Areas.length=8
 al:∀ i,(d.Areas.getD i []).length<2 ^ 39
 jr:Jr d.Areas seq (sO st)
 sst:Sst st
structure Dv (d:zE) (seq:Nat) (st:zR) (vo:yD) (m:Nat):Prop extends Dk d.Disk seq st m where
 on:d.On=true
 off:d.Disk.Off=false
 cut:d.Disk.CutAt=0
 s:d.State=⟨st,vo⟩
 nx:d.Next=(seq:Int)+1
theorem Dv.noC (h:Dv d seq st vo m):¬ isC d.Disk:=by
 have:=h.ok.w0;have h2:=h.cut;unfold isC;omega
theorem zKe (s:zR) (h:Sst s):(sO s).length<=400:=by
 obtain ⟨a,b,c,hs,la,lb,lc⟩:=h.sd;have hse:s.Seeds.getD 0 []=a/\s.Seeds.getD 1 []=b/\s.Seeds.getD 2 []=c:=by rw [hs];exact ⟨rfl,rfl,rfl⟩
 have hen:=h.en;unfold sO;rw [hse.1,hse.2.1,hse.2.2];simp only [List.length_append,uY,xC,List.length_cons,List.length_nil];omega
theorem zGd (h1:d.On=true) (h2:d.Disk.Off=false):vC d=some true:=by
 unfold vC;exact bd (a:=true) (ct h1 (by rw [h2];rfl)) rfl
theorem zKa (h1:d.On=false):vC d=some false:=by
 unfold vC;exact bd (a:=false) (cf h1 rfl) rfl
theorem zIv (h2:d.Disk.Off=true):vC d=some false:=by
 unfold vC;cases h:d.On
 ·exact bd (a:=false) (cf rfl rfl) rfl
 ·exact bd (a:=false) (ct rfl (by rw [h2];rfl)) rfl
def onD (d:zE) (seq:Nat) (st:zR):zE:=⟨⟨d.Disk.Areas,0,0,0,false⟩,⟨st,zOy⟩,true,(seq:Int)+1⟩
theorem zGx (d:zE) (seq:Nat) (st:zR) (hp:d.On=false∨d.Disk.Off=true) (h2:d.Disk.Areas.length=8) (hal:∀ i,(d.Disk.Areas.getD i []).length<2 ^ 39) (h:Jr d.Disk.Areas seq (sO st)) (hs:Sst st):uW d=some (onD d seq st,0):=by
 unfold uW;refine bd (a:=false) (hp.elim zKa zIv) ?_;refine cf rfl ?_;refine bd (a:=⟨d.Disk.Areas,0,0,0,false⟩) rfl ?_;refine bd (zMl ⟨d.Disk.Areas,0,0,0,false⟩ seq (sO st) rfl (by simp only;omega) (λi=>by have:=hal i;simp only;omega) h) ?_;refine cf rfl ?_;refine bd (yAu st hs) ?_;refine cf rfl ?_;refine bd rfl ?_;have:=h.s2;rw [yP (by omega) (by omega)];have e:(zR.mk st.Seeds st.Auths st.Entropy st.Active st.Resets st.Restarts st.Clock st.Orderly st.Saved st.MaxCounter [] st.Lockout st.Keys)=st:=by
  have:=hs.ix;cases st;simp only at this;rw [this]
 refine congrArg (λz=>some (z,(0:Int))) ?_;show (zE.mk _ (zU.mk (zR.mk st.Seeds st.Auths st.Entropy st.Active st.Resets st.Restarts st.Clock st.Orderly st.Saved st.MaxCounter [] st.Lockout st.Keys) _) _ _)=_;rw [e];rfl
theorem Dv.of_on (h2:d.Disk.Areas.length=8) (hal:∀ i,(d.Disk.Areas.getD i []).length<2 ^ 39) (h:Jr d.Disk.Areas seq (sO st)) (hs:Sst st) (m:Nat) (hm:m<2 ^ 50):Dv (onD d seq st) seq st zOy m:=
 ⟨⟨⟨by show d.Disk.Areas.length<=64;omega,Int.le_refl 0,by show (0:Int)<2 ^ 60;decide⟩,by show (0:Int)<=m;omega,hm,h2,hal,h,hs⟩,rfl,rfl,rfl,rfl,rfl⟩
theorem zQc (d:zE) (seq:Nat) (st:zR) (h2:d.Disk.Areas.length=8) (hal:∀ i,(d.Disk.Areas.getD i []).length<2 ^ 39) (h:Jr d.Disk.Areas seq (sO st)) (hs:Sst st):kE d=some (onD d seq st,true):=by
 unfold kE;refine bd (zEc d) ?_;refine bd (zGx (zEx d) seq st (.inl rfl) h2 hal h hs) ?_;rfl
theorem Dk.again (h:Dk d.Disk seq st m):kE d=some (onD d seq st,true)/\∀ m',m'<2 ^ 50->Dv (onD d seq st) seq st zOy m':=
 ⟨zQc d seq st h.n h.al h.jr h.sst,λm' hm=>Dv.of_on h.n h.al h.jr h.sst m' hm⟩
theorem zOm (n i:Nat):(List.replicate n ([]:By)).getD i []=[]:=by simp [List.getD_eq_getElem?_getD,List.getElem?_replicate];split<;>rfl
theorem new8:zGo 8=some ⟨List.replicate 8 [],0,0,0,false⟩:=by decide +kernel
theorem zPn (s:zR) (h:Sst s):sX (zR.mk s.Seeds s.Auths s.Entropy s.Active s.Resets s.Restarts s.Clock s.Orderly (zC.mk [] s.Saved.Updates) s.MaxCounter [] s.Lockout [])=some (sO s):=by
 rw [<- zFp s h];have h1:=h.sv;have h2:=h.ix;have h3:=h.ks;clear h;cases s;simp only at h1 h2 h3;subst h1 h2 h3;rfl
theorem zK1 (e:By) (active:Int) (he:e.length=32) (h1:1<=active) (h3:active<=3):Def (oU 8 e active) (λr=>r.2=0/\(∃ d0,r.1=zEx d0)/\∃ st,Dk r.1.Disk 1 st 1/\st.Active=active/\st.Resets=0/\∀ a,2<=a->r.1.Disk.Areas.getD a []=[]):=by
 unfold oU;refine Def.bd (Def.of (a:=false) (Q:=λr=>r=false) rfl rfl) (λb hb=>?_);subst hb;refine Def.c (λh=>by cases h) (λ_=>?_);refine Def.bd (zPw e active he h1 h3) (λr hr=>?_);obtain ⟨st,x⟩:=r;obtain ⟨hx,hs,ha,hr0,_⟩:=hr;simp only at hx hs ha hr0;subst hx;refine Def.c (λh=>by cases h) (λ_=>?_);have hl:=zKe st hs;have hrl:=zHb 1 (sO st);let dk:zW:=⟨List.replicate 8 [],0,0,0,false⟩;have hok:zM8 dk:=⟨by decide,by decide,by decide⟩;have hw:=zG0 dk 1 (jS 1 (sO st)) hok rfl (by decide) (by omega) (by decide);have hwc:wrC dk (dk.Areas.getD 1 []) (jS 1 (sO st))=jS 1 (sO st):=by
  unfold wrC zA0;rw [if_neg (show ¬ (dk.Writes+1=dk.CutAt) by decide),if_neg (show ¬ isC dk by unfold isC;decide),List.take_length,List.append_nil]
 rw [hwc,show zFv dk=0 from if_neg (show ¬ isC dk by unfold isC;decide)] at hw;have hcm:=zIk dk 1 (sO st) (by decide) (by decide) (by omega) hw;refine Def.bd (Def.of (Q:=λr=>r=dk) new8 rfl) (λr hr=>?_);subst hr;refine Def.bd (Def.of (Q:=λr=>r=sO st) (zPn st hs) rfl) (λp hp=>?_);subst hp;refine Def.bd (Def.of (Q:=λr=>r=(zBe dk 1 (jS 1 (sO st)),0)) hcm rfl) (λr hr=>?_);subst hr;refine Def.c (λh=>by cases h) (λ_=>?_);refine Def.of (a:=(zEx ⟨zBe dk 1 (jS 1 (sO st)),default,false,2⟩,0)) rfl ⟨rfl,⟨_,rfl⟩,st,?_,ha,hr0,λa ha=>(getD_set_ne (by omega)).trans (zOm 8 a)⟩;have hj:=Jr.first 8 (sO st) (by decide) (by omega);refine ⟨⟨by show ((List.replicate 8 ([]:By)).set 1 (jS 1 (sO st))).length<=64;simp,by show (0:Int)<=0+1;decide,by show (0:Int)+1<2 ^ 60;decide⟩,by show (0:Int)+1<=((1:Nat):Int);decide,by decide,by show ((List.replicate 8 ([]:By)).set 1 (jS 1 (sO st))).length=8;simp,λi=>?_,hj,hs⟩;show (((List.replicate 8 ([]:By)).set 1 (jS 1 (sO st))).getD i []).length<2 ^ 39;by_cases hi:1=i
 ·subst hi;rw [uM (by simp)];omega
 ·rw [getD_set_ne hi];rw [zOm];decide
def zE1 (d:zE) (a:Nat) (y:By):zE:=⟨zBe d.Disk a y,d.State,d.On,d.Next⟩
theorem zOs (d:zE) (x:zW):kL d x 0=some (⟨x,d.State,d.On,d.Next⟩,0):=rfl
theorem zSw (hal:∀ i,(as.getD i []).length<2 ^ 39) (hy:y.length<2 ^ 39) (ha:a<as.length):∀ i,((as.set a y).getD i []).length<2 ^ 39:=λi=>by
 by_cases hi:a=i
 ·subst hi;rw [uM ha];exact hy
 ·rw [getD_set_ne hi];exact hal i
theorem Dv.set (h:Dv d seq st vo m) (ha:2<=a) (h8:a<8) (hy:y.length<2 ^ 39) (hm:m+1<2 ^ 50):Dv (zE1 d a y) seq st vo (m+1):=by
 have hn:=h.n;have hok:=h.ok;have hm0:=h.m0;refine ⟨⟨⟨?_,?_,?_⟩,?_,hm,?_,?_,h.jr.other ha,h.sst⟩,h.on,?_,h.cut,h.s,h.nx⟩
 ·show (d.Disk.Areas.set a y).length<=64;simp;omega
 ·show 0<=d.Disk.Writes+1;have:=hok.w0;omega
 ·show d.Disk.Writes+1<2 ^ 60;omega
 ·show d.Disk.Writes+1<=((m+1:Nat):Int);omega
 ·show (d.Disk.Areas.set a y).length=8;simp [hn]
 ·exact zSw h.al hy (by omega)
 ·show decide (isC d.Disk)=false;exact decide_eq_false h.noC
theorem Dv.write (h:Dv d seq st vo m) (y:By) (h8:a<8) (hy:y.length<=65536):qQ d (a:Int) y=some (zE1 d a y,0):=by
 have hw:=zG0 d.Disk a y h.ok h.off (by rw [h.n];exact h8) hy (by have:=h.al a;omega);have hc:=h.noC;have e:wrC d.Disk (d.Disk.Areas.getD a []) y=y:=by
  unfold wrC zA0;rw [if_neg (show ¬ (d.Disk.Writes+1=d.Disk.CutAt) from hc),if_neg hc,List.take_length,List.append_nil]
 rw [e,show zFv d.Disk=0 from if_neg hc] at hw;unfold qQ;exact bd hw (bd (zOs d _) rfl)
theorem Dv.append (h:Dv d seq st vo m) (y:By) (h8:a<8) (hy:y.length<=65536):fP d (a:Int) y=some (zE1 d a (d.Disk.Areas.getD a []++y),0):=by
 have hw:=zPt d.Disk a y h.ok h.off (by rw [h.n];exact h8) hy (by have:=h.al a;omega);have hc:=h.noC;have e:apC d.Disk (d.Disk.Areas.getD a []) y=d.Disk.Areas.getD a []++y:=by
  unfold apC zA0;rw [if_neg (show ¬ (d.Disk.Writes+1=d.Disk.CutAt) from hc),List.take_length]
 rw [e,show zFv d.Disk=0 from if_neg hc] at hw;unfold fP;exact bd hw (bd (zOs d _) rfl)
theorem Dv.read (h:Dv d seq st vo m) (h8:a<8):sM d.Disk (a:Int)=some (d.Disk.Areas.getD a [],0):=
 zCf d.Disk a h.off (by rw [h.n];exact h8) (by have:=h.al a;omega)
set_option maxRecDepth 100000
def nmB (s:By):Bool:=decide (1<=s.length)&&decide (s.length<=12)&&s.all nameByte
def nameN (n:Nat):Bool:=(decide (97<=n)&&decide (n<=122))||(decide (48<=n)&&decide (n<=57))||decide (n=45)
theorem zP2:∀ n:Nat,n<256->(bif decide ((n:Int)<97) then (bif decide ((n:Int)<48) then (some ((n:Int) != 45)) else bif decide (57<(n:Int)) then (some ((n:Int) != 45)) else some false) else bif decide (122<(n:Int)) then (bif decide ((n:Int)<48) then (some ((n:Int) != 45)) else bif decide (57<(n:Int)) then (some ((n:Int) != 45)) else some false) else some false:Option Bool)=some (!nameN n):=by decide +kernel
theorem cB (s:By):oP s=some (nmB s):=by
 have hd:Def (oP s) (λr=>r=nmB s):=by
  unfold oP;refine Def.bd (P:=λb=>b=(decide (s.length<1)||decide (12<s.length))) ?_ (λb hb=>?_)
  ·refine Def.c (λh=>Def.s ?_) (λh=>Def.s ?_)
   ·have:=dT h;rw [show decide (s.length<1)=true by rw [decide_eq_true_iff];omega];rfl
   ·have:=dF h;rw [show decide (s.length<1)=false by rw [decide_eq_false_iff_not];omega,Bool.false_or];exact decide_eq_decide.2 (by omega)
  refine Def.c (λh=>Def.s ?_) (λh=>?_)
  ·rw [h] at hb;have hb':s.length<1∨12<s.length:=by
    have:=hb.symm;rw [Bool.or_eq_true,decide_eq_true_iff,decide_eq_true_iff] at this;exact this
   unfold nmB;rcases hb' with h1 | h1
   ·rw [show decide (1<=s.length)=false by rw [decide_eq_false_iff_not];omega];rfl
   ·rw [show decide (s.length<=12)=false by rw [decide_eq_false_iff_not];omega,Bool.and_false];rfl
  ·rw [h] at hb;have hb':1<=s.length/\s.length<=12:=by
    have:=hb.symm;rw [Bool.or_eq_false_iff,decide_eq_false_iff_not,decide_eq_false_iff_not] at this;omega
   have hn:nmB s=s.all nameByte:=by
    unfold nmB;rw [show decide (1<=s.length)=true by rw [decide_eq_true_iff];omega,show decide (s.length<=12)=true by rw [decide_eq_true_iff];omega];rfl
   rw [hn];refine Def.bd (jV s (lL s) (λi=>∀ h:i<s.length,nameByte s[i]=true) (λr=>r=false/\∃ i,∃ h:i<s.length,nameByte s[i]=false) (by omega) (λi hi=>?_) ?_) (λy hy=>?_)
   ·unfold lL;refine Def.c (λ_=>?_) (λh=>by have:=dF h;omega);refine Def.bd (Def.at' hi) (λc hc=>?_);subst hc;refine Def.bd (P:=λb=>b=!nameByte s[i]) (Def.of (zP2 s[i].toNat s[i].toNat_lt) rfl) (λb hb=>?_);refine Def.c (λh=>Def.s ⟨rfl,i,hi,?_⟩) (λh=>Def.s ⟨wM (by omega),λ_=>?_⟩)
    ·rw [h] at hb;simpa using hb.symm
    ·rw [h] at hb;simpa using hb.symm
   ·unfold lL;exact cf (by simp) rfl
   ·cases y with
    | inl r=>
     obtain ⟨rfl,i,hi,hn⟩:=hy;refine Def.s ?_;symm;rw [List.all_eq_false];exact ⟨_,List.getElem_mem hi,by simp [hn]⟩
    | inr u=>
     refine Def.s ?_;symm;rw [List.all_eq_true];intro c hc;obtain ⟨i,hi,rfl⟩:=List.mem_iff_getElem.mp hc;exact hy i hi hi
 obtain ⟨r,hr,rfl⟩:=hd;exact hr
theorem zP9 (s:By):bO s=some (nmB s):=rfl
def prB (c:UInt8):Bool:=decide (32<=c.toNat)&&decide (c.toNat<=126)
theorem zNs:∀ n:Nat,n<256->(bif decide ((n:Int)<32) then (some true) else some (decide (126<(n:Int))):Option Bool)=some (!(decide (32<=n)&&decide (n<=126))):=by decide +kernel
theorem zJ2 (s:By) (hs:s.length<2 ^ 40):vY s=some (s.all prB):=by
 have hd:Def (vY s) (λr=>r=s.all prB):=by
  unfold vY;refine Def.bd (jV s (sT s) (λi=>∀ h:i<s.length,prB s[i]=true) (λr=>r=false/\∃ i,∃ h:i<s.length,prB s[i]=false) hs (λi hi=>?_) ?_) (λy hy=>?_)
  ·unfold sT;refine Def.c (λ_=>?_) (λh=>by have:=dF h;omega);refine Def.bd (Def.at' hi) (λc hc=>?_);subst hc;refine Def.bd (P:=λb=>b=!prB s[i]) (Def.of (zNs s[i].toNat s[i].toNat_lt) rfl) (λb hb=>?_);refine Def.c (λh=>Def.s ⟨rfl,i,hi,?_⟩) (λh=>Def.s ⟨wM (by omega),λ_=>?_⟩)
   ·rw [h] at hb;simpa using hb.symm
   ·rw [h] at hb;simpa using hb.symm
  ·unfold sT;exact cf (by simp) rfl
  ·cases y with
   | inl r=>
    obtain ⟨rfl,i,hi,hn⟩:=hy;refine Def.s ?_;symm;rw [List.all_eq_false];exact ⟨_,List.getElem_mem hi,by simp [hn]⟩
   | inr u=>
    refine Def.s ?_;symm;rw [List.all_eq_true];intro c hc;obtain ⟨i,hi,rfl⟩:=List.mem_iff_getElem.mp hc;exact hy i hi hi
 obtain ⟨r,hr,rfl⟩:=hd;exact hr
def rf:By->List By->By->List By
 | [],out,line=>if line=[] then out else []
 | c :: r,out,line=>if c=10 then (if line=[]∨4<=out.length then [] else rf r (out++[line]) []) else if prB c=true then rf r out (line++[c]) else []
theorem c10 (c:UInt8):((c.toNat:Int)==10)=decide (c=10):=by
 by_cases h:c=10
 ·subst h;rfl
 ·rw [decide_eq_false h,beq_eq_false_iff_ne];intro e;exact h (UInt8.toNat_inj.1 (by
                  have:c.toNat=10:=by omega
                  rw [this];rfl))
theorem zJs (x:zD) (hx:x.Payload.length<2 ^ 20):∀ (rest:By) (fuel i:Nat) (out:List By) (line:By),rest.length<fuel->x.Payload.drop i=rest->i<=x.Payload.length->out.length<=4->line.length<=i ->
  ∃ y,zL (xM x) fuel (out,line,(i:Int))=some y/\(match y with | .inl r=>r=[]/\rf rest out line=[] | .inr (o,l)=>rf rest out line=if l=[] then o else [])
 | [],f+1,i,out,line,_,hd,hi,_,_=>by
  have hl:i=x.Payload.length:=by
   have:=congrArg List.length hd;simp at this;omega
  refine ⟨.inr (out,line),?_,rfl⟩;simp only [zL];have:xM x (out,line,(i:Int))=some (.inr (.inr (out,line))):=by
   unfold xM;exact cf (by simp;omega) rfl
  rw [this]
 | c :: r,f+1,i,out,line,hf,hd,hi,ho,hll=>by
  have hil:i<x.Payload.length:=by
   have:=congrArg List.length hd;simp at this;omega
  have hc:idx x.Payload (i:Int)=some c:=by
   rw [yN hil];have:=List.drop_eq_getElem_cons hil;rw [hd] at this;exact congrArg some (List.cons.inj this).1.symm
  have hr:x.Payload.drop (i+1)=r:=by
   have:=List.drop_eq_getElem_cons hil;rw [hd] at this;exact (List.cons.inj this).2.symm
  simp only [List.length_cons] at hf;simp only [zL];by_cases h10:c=10
  ·by_cases hb:line=[]∨4<=out.length
   ·refine ⟨.inl [],?_,rfl,by simp only [rf,if_pos h10,if_pos hb]⟩;have:xM x (out,line,(i:Int))=some (.inr (.inl [])):=by
     unfold xM;refine ct (dlt hil) (bd (a:=.inl []) (bd hc (ct (by rw [c10];simp [h10]) (bd (a:=true) ?_ (ct rfl rfl)))) rfl);by_cases h0:line=[]
     ·exact ct (by simp [h0]) rfl
     ·refine cf (by simp;exact h0) (congrArg some ?_);have:=hb.resolve_left h0;simp;omega
    rw [this]
   ·obtain ⟨y,hy,hy2⟩:=zJs x hx r f (i+1) (out++[line]) [] (by omega) hr (by omega) (by have:¬ 4<=out.length:=λh=>hb (.inr h);simp;omega) (by simp);refine ⟨y,?_,?_⟩
    ·have:xM x (out,line,(i:Int))=some (.inl (out++[line],[],((i+1:Nat):Int))):=by
      have hb1:line≠[]:=λh=>hb (.inl h);have hb2:¬ 4<=out.length:=λh=>hb (.inr h);unfold xM;refine ct (dlt hil) (bd (a:=.inr (out++[line],[])) (bd hc (ct (by rw [c10];simp [h10]) (bd (a:=false) (cf (by simp;exact hb1) (congrArg some (by simp;omega))) (cf rfl (bd (yJ (by simp;omega)) rfl))))) ?_);rw [wM (show i<2 ^ 40 by omega)]
     rw [this];exact hy
    ·cases y with
     | inl r'=>simp only [rf,if_pos h10,if_neg hb];exact hy2
     | inr p=>simp only [rf,if_pos h10,if_neg hb];exact hy2
  ·have hp:(bif decide ((c.toNat:Int)<32) then (some true) else some (decide (126<(c.toNat:Int))):Option Bool)=some (!prB c):=zNs c.toNat c.toNat_lt;cases hpr:prB c with
   | false=>
    refine ⟨.inl [],?_,rfl,by simp only [rf,if_neg h10,hpr];rfl⟩;have:xM x (out,line,(i:Int))=some (.inr (.inl [])):=by
     unfold xM;refine ct (dlt hil) (bd (a:=.inl []) (bd hc (cf (by rw [c10];simp [h10]) (bd hp (ct (by rw [hpr];rfl) rfl)))) rfl)
    rw [this]
   | true=>
    obtain ⟨y,hy,hy2⟩:=zJs x hx r f (i+1) out (line++[c]) (by omega) hr (by omega) ho (by simp;omega);refine ⟨y,?_,?_⟩
    ·have:xM x (out,line,(i:Int))=some (.inl (out,line++[c],((i+1:Nat):Int))):=by
      unfold xM;refine ct (dlt hil) (bd (a:=.inr (out,line++[c])) (bd hc (cf (by rw [c10];simp [h10]) (bd hp (cf (by rw [hpr];rfl) (bd (yJ (by simp;omega)) rfl))))) ?_);rw [wM (show i<2 ^ 40 by omega)]
     rw [this];exact hy
    ·cases y with
     | inl r'=>simp only [rf,if_neg h10,hpr,if_true];exact hy2
     | inr p=>simp only [rf,if_neg h10,hpr,if_true];exact hy2
theorem zEf (x:zD) (hx:x.Payload.length<2 ^ 20):vT x=some (rf x.Payload [] []):=by
 obtain ⟨y,hy,hy2⟩:=zJs x hx x.Payload FU 0 [] [] (xO (by omega)) rfl (by omega) (by simp) (by simp);unfold vT;refine bd hy ?_;cases y with
 | inl r=>obtain ⟨rfl,h⟩:=hy2;rw [h]
 | inr p=>
  obtain ⟨o,l⟩:=p;simp only at hy2 ⊢;by_cases hl:l=[]
  ·rw [if_pos hl] at hy2;exact cf (by simp [hl]) (by rw [hy2])
  ·rw [if_neg hl] at hy2;exact ct (by have:=List.length_pos_iff.2 hl;simp;omega) (by rw [hy2])
set_option maxRecDepth 100000
theorem zKd:∀ l:By,(Lib.indexByte l 10=-1/\(10:UInt8)∉l)∨∃ w r,l=w++10 :: r/\(10:UInt8)∉w/\Lib.indexByte l 10=(w.length:Int)
 | []=>.inl ⟨rfl,by simp⟩
 | b :: l=>by
  by_cases hb:b=10
  ·subst hb;exact .inr ⟨[],l,rfl,by simp,by simp [Lib.indexByte]⟩
  ·have hne:(b==10)=false:=by rw [beq_eq_false_iff_ne];exact hb
   rcases zKd l with ⟨h1,h2⟩ | ⟨w,r,h1,h2,h3⟩
   ·refine .inl ⟨by unfold Lib.indexByte;rw [hne,h1];rfl,?_⟩;simp only [List.mem_cons,not_or];exact ⟨λe=>hb e.symm,h2⟩
   ·refine .inr ⟨b :: w,r,by rw [h1];rfl,?_,?_⟩
    ·simp only [List.mem_cons,not_or];exact ⟨λe=>hb e.symm,h2⟩
    ·unfold Lib.indexByte;rw [hne,h3];have:((w.length:Int)==-1)=false:=by rw [beq_eq_false_iff_ne];omega
     simp only [this,List.length_cons];simp
theorem zOg:∀ (w r:By) (out:List By) (line:By),(10:UInt8)∉w->rf (w++10 :: r) out line=if w.all prB=true then (if line++w=[]∨4<=out.length then [] else rf r (out++[line++w]) []) else []
 | [],r,out,line,_=>by simp [rf]
 | c :: w,r,out,line,h=>by
  simp only [List.mem_cons,not_or] at h;have hc:¬ c=10:=λe=>h.1 e.symm;simp only [List.cons_append,rf,if_neg hc];rw [zOg w r out (line++[c]) h.2];cases hp:prB c with
  | false=>simp [hp]
  | true=>simp [hp]
theorem zR8:∀ (w:By) (out:List By) (line:By),(10:UInt8)∉w->(w≠[]∨line≠[])->rf w out line=[]
 | [],out,line,_,h=>by simp only [rf];rw [if_neg (by simpa using h)]
 | c :: w,out,line,h,_=>by
  simp only [List.mem_cons,not_or] at h;have hc:¬ c=10:=λe=>h.1 e.symm;simp only [rf,if_neg hc];split
  ·exact zR8 w out (line++[c]) h.2 (.inr (by simp))
  ·rfl
theorem zT7:∀ (n:Nat) (rest:By) (out:List By) (fuel:Nat),rest.length<=n->n<fuel->out.length<=4->rest.length<2 ^ 20 ->
  ∃ y,zL wV fuel (out,rest)=some y/\(match y with | .inl r=>r=[]/\rf rest out []=[] | .inr o=>rf rest out []=o):=by
 intro n;induction n with
 | zero=>
  intro rest out fuel hn hf ho hl;obtain ⟨f,rfl⟩:∃ f,fuel=f+1:=⟨fuel - 1,by omega⟩;have:rest=[]:=List.eq_nil_of_length_eq_zero (by omega);subst this;refine ⟨.inr out,?_,rfl⟩;simp only [zL];have:wV (out,[])=some (.inr (.inr out)):=by unfold wV;exact cf rfl rfl
  rw [this]
 | succ n ih=>
  intro rest out fuel hn hf ho hl;obtain ⟨f,rfl⟩:∃ f,fuel=f+1:=⟨fuel - 1,by omega⟩;by_cases h0:rest=[]
  ·subst h0;refine ⟨.inr out,?_,rfl⟩;simp only [zL];have:wV (out,[])=some (.inr (.inr out)):=by unfold wV;exact cf rfl rfl
   rw [this]
  have hpos:0<rest.length:=List.length_pos_iff.2 h0;simp only [zL];have bad:∀ (v:Int),tD rest 10=some v->((bif decide (v<1) then (some true) else bif ((out.length:Int)==4) then (some true) else (sub rest 0 v).bind λv_1130=>(vY v_1130).bind λv_1131=>some (!v_1131):Option Bool)=some true)->wV (out,rest)=some (.inr (.inl [])):=by
   intro v hv hc;unfold wV;exact ct (by simp;omega) (bd hv (bd hc (ct rfl rfl)))
  rcases zKd rest with ⟨h1,h2⟩ | ⟨w,r,h1,h2,h3⟩
  ·refine ⟨.inl [],?_,rfl,zR8 rest out [] h2 (.inl h0)⟩;rw [bad (-1) (by unfold tD;rw [h1]) (ct rfl rfl)]
  ·have hlen:rest.length=w.length+1+r.length:=by rw [h1];simp;omega
   have hib:tD rest 10=some (w.length:Int):=by unfold tD;rw [h3]
   have htk:(rest.drop 0).take (w.length - 0)=w:=by rw [h1];simp
   have hsub:sub rest 0 (w.length:Int)=some w:=by
    have:=sF (l:=rest) (a:=0) (b:=w.length) (Nat.zero_le _) (by omega);rw [htk] at this;exact this
   have hpr:=zJ2 w (by omega);have hrf:=zOg w r out [] h2;rw [<- h1,List.nil_append] at hrf;by_cases hw:w=[]
   ·refine ⟨.inl [],?_,rfl,?_⟩
    ·rw [bad _ hib (ct (by simp [hw]) rfl)]
    ·rw [hrf,if_pos (show w=[]∨4<=out.length from .inl hw)];simp
   have hw1:0<w.length:=List.length_pos_iff.2 hw;by_cases h4:out.length=4
   ·refine ⟨.inl [],?_,rfl,?_⟩
    ·rw [bad _ hib (cf (by simp;omega) (ct (by simp [h4]) rfl))]
    ·rw [hrf,if_pos (show w=[]∨4<=out.length from .inr (by omega))];simp
   have hstep:(sub rest 0 (w.length:Int)).bind (λv_1130=>(vY v_1130).bind λv_1131=>some (!v_1131))=some (!w.all prB):=bd hsub (bd hpr rfl);cases hp:w.all prB with
   | false=>
    refine ⟨.inl [],?_,rfl,by rw [hrf,hp];rfl⟩;rw [bad _ hib (cf (by simp;omega) (cf (by simp;omega) (hstep.trans (by rw [hp];rfl))))]
   | true=>
    obtain ⟨y,hy,hy2⟩:=ih r (out++[w]) f (by omega) (by omega) (by simp;omega) (by omega);have hr2:(rest.drop (w.length+1)).take (rest.length - (w.length+1))=r:=by
     rw [List.take_of_length_le (by simp)];rw [h1];simp
    have hsub2:sub rest (((w.length+1:Nat)):Int) (rest.length:Int)=some r:=by
     have:=sF (l:=rest) (a:=w.length+1) (b:=rest.length) (by omega) (Nat.le_refl _);rw [hr2] at this;exact this
    have:wV (out,rest)=some (.inl (out++[w],r)):=by
     unfold wV;refine ct (by simp;omega) (bd hib (bd (a:=false) (cf (by simp;omega) (cf (by simp;omega) (hstep.trans (by rw [hp];rfl)))) (cf rfl ?_)));refine bd hsub (bd (yJ (by simp;omega)) ?_);rw [wM (show w.length<2 ^ 40 by omega)];exact bd hsub2 rfl
    rw [this];refine ⟨y,hy,?_⟩;rw [hrf,hp,if_pos rfl,if_neg (show ¬ (w=[]∨4<=out.length) by rintro (h | h);exact hw h;omega)];exact hy2
theorem zFu (x:zD) (hx:x.Payload.length<2 ^ 20):kK x=vT x:=by
 rw [zEf x hx];obtain ⟨y,hy,hy2⟩:=zT7 x.Payload.length x.Payload [] FU (Nat.le_refl _) (xO (by omega)) (by simp) hx;unfold kK;refine bd hy ?_;cases y with
 | inl r=>obtain ⟨rfl,h⟩:=hy2;rw [h]
 | inr o=>simp only at hy2 ⊢;rw [hy2]
theorem dY (x:zD):tG x=vH x:=by
 unfold tG vH;rw [cB,zP9];refine congrArg _ (funext λv=>?_);cases v with
 | true=>rfl
 | false=>
  simp only [Option.bind_some,cond_false];cases nmB x.Name with
  | false=>rfl
  | true=>
   simp only [Bool.not_true,cond_false];cases h:decide (64<(x.Payload.length:Int)) with
   | true=>rfl
   | false=>
    rw [decide_eq_false_iff_not] at h;rw [zFu x (by omega)]
theorem zDl (x:zD):Def (vH x) (λr=>0<=r/\(r=0->1<=x.Role/\x.Role<=4/\0<=x.Version/\x.Version<=1000000/\x.Name.length<=12/\x.Payload.length<=64)):=by
 unfold vH;refine Def.bd (P:=λb=>b=(decide (x.Role<1)||decide (4<x.Role)||decide (x.Version<0)||decide (1000000<x.Version))) ?_ (λb hb=>?_)
 ·cases h1:decide (x.Role<1)<;>cases h2:decide (4<x.Role)<;>cases h3:decide (x.Version<0)<;>exact Def.s (by simp)
 refine Def.c (λh=>Def.s ⟨by decide,λh=>by cases h⟩) (λh=>?_);rw [h] at hb;have hb:=hb.symm;simp only [Bool.or_eq_false_iff,decide_eq_false_iff_not] at hb;refine Def.bd (Def.of (cB x.Name) (Q:=λr=>r=nmB x.Name) rfl) (λn hn=>?_);subst hn;refine Def.c (λh=>Def.s ⟨by decide,λh=>by cases h⟩) (λhn=>?_);refine Def.c (λh=>Def.s ⟨by decide,λh=>by cases h⟩) (λh=>?_);rw [decide_eq_false_iff_not] at h;refine Def.bd (P:=λ_=>True) ?_ (λb _=>?_)
 ·refine Def.c (λ_=>Def.bd (Def.of (zEf x (by omega)) (Q:=λ_=>True) trivial) (λ_ _=>Def.s trivial)) (λ_=>Def.s trivial)
 refine Def.c (λh=>Def.s ⟨by decide,λh=>by cases h⟩) (λ_=>Def.s ⟨by decide,λ_=>⟨by omega,by omega,by omega,by omega,?_,by omega⟩⟩);simp only [Bool.not_eq_false',nmB,Bool.and_eq_true,decide_eq_true_iff] at hn;exact hn.1.2
set_option maxRecDepth 100000
theorem zDu {X X' Y Y':Type} {f:X->Option (X ⊕ Y)} {g:X'->Option (X' ⊕ Y')} (R:X->X'->Prop) (S:Y->Y'->Prop)
  (h:∀ x x',R x x'->(f x=none/\g x'=none)∨(∃ y y',f x=some (.inl y)/\g x'=some (.inl y')/\R y y')∨∃ y y',f x=some (.inr y)/\g x'=some (.inr y')/\S y y') :
  ∀ (fuel:Nat) (x:X) (x':X'),R x x'->(zL f fuel x=none/\zL g fuel x'=none)∨∃ y y',zL f fuel x=some y/\zL g fuel x'=some y'/\S y y'
 | 0,_,_,_=>.inl ⟨rfl,rfl⟩
 | n+1,x,x',hr=>by
  simp only [zL];rcases h x x' hr with ⟨h1,h2⟩ | ⟨y,y',h1,h2,h3⟩ | ⟨y,y',h1,h2,h3⟩
  ·rw [h1,h2];exact .inl ⟨rfl,rfl⟩
  ·rw [h1,h2];exact zDu R S h n y y' h3
  ·rw [h1,h2];exact .inr ⟨y,y',rfl,rfl,h3⟩
def zAz (x:zD):Prop:=vH x=some 0
theorem tV.ok (h:tV x):zAz x:=dQ x h
theorem zAz.f (h:zAz x):1<=x.Role/\x.Role<=4/\0<=x.Version/\x.Version<=1000000/\x.Name.length<=12/\x.Payload.length<=64:=by
 obtain ⟨r,e,_,h2⟩:=zDl x;rw [h] at e;exact h2 (Option.some.inj e).symm
theorem zMc (l:List zD) (i:Nat) (hi:i<l.length) (h8:l.length<=8):zL (wJ l[i] (l.take i)) FU 0=zL (wE l (i:Int)) FU 0:=by
 have:=zDu (f:=wJ l[i] (l.take i)) (g:=wE l (i:Int)) (λa b=>a=b/\∃ k:Nat,a=(k:Int)) (λa b=>a=b) ?_ FU 0 0 ⟨rfl,0,rfl⟩
 ·rcases this with ⟨a,b⟩ | ⟨y,y',a,b,rfl⟩
  ·rw [a,b]
  ·rw [a,b]
 ·rintro a _ ⟨rfl,k,rfl⟩;right;have hlen:(l.take i).length=i:=by simp;omega
  by_cases hk:k<i
  ·have hkl:k<l.length:=by omega
   have hx:idx (l.take i) (k:Int)=some l[k]:=by rw [yN (by omega)];simp
   have hg:((l[k]).Role==(l[i]).Role&&(l[k]).Name==(l[i]).Name)=true->wJ l[i] (l.take i) (k:Int)=some (.inr (.inl 42))/\wE l (i:Int) (k:Int)=some (.inr (.inl 42)):=by
    intro hb;rw [Bool.and_eq_true] at hb;constructor
    ·unfold wJ;exact ct (by rw [hlen];simp;omega) (bd hx (bd (a:=true) (ct hb.1 (congrArg some hb.2)) (ct rfl rfl)))
    ·unfold wE;exact ct (by simp;omega) (bd (a:=true) (bd (yN hkl) (bd (yN hi) (ct hb.1 (bd (yN hkl) (bd (yN hi) (congrArg some hb.2)))))) (ct rfl rfl))
   have hn:((l[k]).Role==(l[i]).Role&&(l[k]).Name==(l[i]).Name)=false->wJ l[i] (l.take i) (k:Int)=some (.inl ((k+1:Nat):Int))/\wE l (i:Int) (k:Int)=some (.inl ((k+1:Nat):Int)):=by
    intro hb;have hw:IntKind.i64.wrap ((k:Int)+1)=((k+1:Nat):Int):=wM (by omega);constructor
    ·unfold wJ;refine ct (by rw [hlen];simp;omega) (bd hx (bd (a:=false) ?_ (cf rfl (by rw [hw]))));cases hr:(l[k]).Role==(l[i]).Role with
     | false=>rfl
     | true=>rw [hr] at hb;exact congrArg some hb
    ·unfold wE;refine ct (by simp;omega) (bd (a:=false) (bd (yN hkl) (bd (yN hi) ?_)) (cf rfl (by rw [hw])));cases hr:(l[k]).Role==(l[i]).Role with
     | false=>rfl
     | true=>rw [hr] at hb;exact ct rfl (bd (yN hkl) (bd (yN hi) (congrArg some hb)))
   cases hb:((l[k]).Role==(l[i]).Role&&(l[k]).Name==(l[i]).Name) with
   | true=>exact .inr ⟨_,_,(hg hb).1,(hg hb).2,rfl⟩
   | false=>exact .inl ⟨_,_,(hn hb).1,(hn hb).2,rfl,k+1,rfl⟩
  ·refine .inr ⟨.inr (),.inr (),?_,?_,rfl⟩
   ·unfold wJ;exact cf (by rw [hlen];simp;omega) rfl
   ·unfold wE;exact cf (by simp;omega) rfl
theorem zIe (l:List zD) (i:Nat) (hi:i<l.length) (h8:l.length<=8):Def (zL (wE l (i:Int)) FU 0) (λr=>r=.inr ()∨r=.inl 42):=by
 refine Def.loop (λs=>∃ k:Nat,s=(k:Int)/\k<=i) (λs=>i - s.toNat) (λs hs=>?_) ⟨0,rfl,by omega⟩ (by simp;omega);obtain ⟨k,rfl,hk⟩:=hs;unfold wE;refine Def.c (λh=>?_) (λh=>Def.s (.inl rfl));have hki:=dT h;refine Def.bd (P:=λ_=>True) ?_ (λb _=>?_)
 ·refine Def.bd (Def.at' (show k<l.length by omega)) (λy _=>?_);refine Def.bd (Def.at' hi) (λz _=>?_);refine Def.c (λ_=>?_) (λ_=>Def.s trivial);refine Def.bd (Def.at' (show k<l.length by omega)) (λy _=>?_);exact Def.bd (Def.at' hi) (λz _=>Def.s trivial)
 refine Def.c (λ_=>Def.s (.inr rfl)) (λ_=>Def.s ?_);rw [wM (by omega)];exact ⟨⟨k+1,rfl,by omega⟩,by simp only [Int.toNat_natCast];omega⟩
theorem zN5 {c:Bool} {o:Option Bool} (h:o=some b):(bif c then some true else o)=some (c||b):=by cases c<;>simp [h]
theorem zUv (l:List zD) (h8:l.length<=8) :
  ∃ y,xK l=xK l/\zL (xK l) FU (false,false,0)=some y/\(match y with
   | .inl r=>zL (xR l) FU (0,[false,false,false,false,false])=some (.inl r)/\0<r
   | .inr (fw,k)=>(∃ a b c,zL (xR l) FU (0,[false,false,false,false,false])=some (.inr [a,fw,b,k,c]))/\∀ x∈l,zAz x):=by
 have tot:Def (zL (xK l) FU (false,false,0)) (λy=>match y with | .inl r=>0<r | .inr _=>∀ x∈l,zAz x):=by
  refine Def.loop (λs=>∃ i:Nat,s.2.2=(i:Int)/\i<=l.length/\∀ x∈l.take i,zAz x) (λs=>l.length - s.2.2.toNat) (λs hs=>?_) ⟨0,rfl,by omega,by simp⟩ (by simp;omega);obtain ⟨f,k,i'⟩:=s;obtain ⟨i,g1,g2,g3⟩:=hs;simp only at g1;subst g1;unfold xK;refine Def.c (λh=>?_) (λh=>Def.s ?_)
  ·have hi:i<l.length:=by have:=dT h;omega
   refine Def.bd (Def.at' hi) (λy hy=>?_);subst hy;refine Def.bd ((zDl l[i]).get 0 |> λe=>(⟨_,e.1,⟨e.1,e.2.1⟩⟩:Def _ (λr=>vH l[i]=some r/\0<=r))) (λr hr=>?_);refine Def.c (λh=>Def.s ?_) (λh0=>?_)
   ·have:r≠0:=by simpa using h
    have:=hr.2;show 0<r;omega
   have h0':r=0:=by simpa using h0
   subst h0';refine Def.bd (P:=λ_=>True) ?_ (λb hb=>?_)
   ·refine Def.c (λh0=>?_) (λ_=>Def.s trivial);have h0':=dT h0;refine Def.bd (Def.at' hi) (λy hy=>?_);rw [yP (by omega) (by omega),show (i:Int) - 1=((i - 1:Nat):Int) by omega];exact Def.bd (Def.at' (show i - 1<l.length by omega)) (λy hy=>Def.s trivial)
   refine Def.c (λh=>Def.s (show (0:Int)<41 by decide)) (λ_=>?_);refine Def.bd (zIe l i hi h8) (λr' hr'=>?_);rcases hr' with rfl | rfl
   ·refine Def.bd (P:=λ_=>True) (Def.c (λ_=>Def.s trivial) (λ_=>Def.bd (Def.at' hi) (λy _=>Def.s trivial))) (λb1 _=>?_);refine Def.bd (P:=λ_=>True) (Def.c (λ_=>Def.s trivial) (λ_=>Def.bd (Def.at' hi) (λy _=>Def.s trivial))) (λb2 _=>Def.s ?_);rw [wM (by omega)];refine ⟨⟨i+1,rfl,by omega,λx hx=>?_⟩,by simp only [Int.toNat_natCast];omega⟩;rcases lJ hi hx with hx | rfl
    ·exact g3 x hx
    ·exact hr.1
   ·exact Def.s (show (0:Int)<42 by decide)
  ·have:=dF h;rw [List.take_of_length_le (by omega)] at g3;exact g3
 obtain ⟨y,hy,hy2⟩:=tot;have sim:=zDu (f:=xR l) (g:=xK l) (λs t=>∃ (i:Nat) (a b c:Bool),s=((i:Int),[a,t.1,b,t.2.1,c])/\t.2.2=(i:Int)/\i<=l.length)
  (λy z=>match y,z with | .inl r,.inl r'=>r=r' | .inr s,.inr t=>∃ a b c,s=[a,t.1,b,t.2,c] | _,_=>False) ?_ FU (0,[false,false,false,false,false]) (false,false,0) ⟨0,false,false,false,rfl,rfl,by omega⟩
 ·rcases sim with ⟨_,b⟩ | ⟨s,t,a,b,c⟩
  ·rw [hy] at b;cases b
  ·rw [hy] at b;obtain rfl:=Option.some.inj b;refine ⟨y,rfl,hy,?_⟩;cases y with
   | inl r=>
    cases s with
    | inl r'=>exact ⟨by rw [a,show r'=r from c],hy2⟩
    | inr _=>exact c.elim
   | inr t=>
    cases s with
    | inl _=>exact c.elim
    | inr s=>
     obtain ⟨x1,x2,x3,x4⟩:=c;exact ⟨⟨x1,x2,x3,by rw [a,x4]⟩,hy2⟩
 ·rintro ⟨s1,s2⟩ ⟨fw,k,i'⟩ ⟨i,a,b,c,e,rfl,hle⟩;obtain ⟨rfl,rfl⟩:=Prod.mk.inj e;right;by_cases hi:i<l.length
  ·have hd:decide ((i:Int)<(l.length:Int))=true:=by simp;omega
   obtain ⟨r,er,r0,hr⟩:=zDl l[i];have er':tG l[i]=some r:=(dY _).trans er;by_cases h0:r=0
   rotate_left
   ·refine .inr ⟨.inl r,.inl r,?_,?_,rfl⟩
    ·unfold xR;exact ct hd (bd (yN hi) (bd er' (ct (b1 h0) rfl)))
    ·unfold xK;exact ct hd (bd (yN hi) (bd er (ct (b1 h0) rfl)))
   obtain ⟨p1,p4,_⟩:=hr h0;subst h0;have ho:∃ o,(bif decide (0<(i:Int)) then (idx l (IntKind.i64.wrap ((i:Int) - 1))).bind λv_1235=>some (decide (l[i].Role<v_1235.Role)) else some false:Option Bool)=some o/\(bif decide (0<(i:Int)) then (idx l (i:Int)).bind λv_1313=>(idx l (IntKind.i64.wrap ((i:Int) - 1))).bind λv_1314=>some (decide (v_1313.Role<v_1314.Role)) else some false:Option Bool)=some o:=by
    cases hz:decide (0<(i:Int)) with
    | false=>exact ⟨false,rfl,rfl⟩
    | true=>
     have hz':0<(i:Int):=of_decide_eq_true hz;have hw:IntKind.i64.wrap ((i:Int) - 1)=((i - 1:Nat):Int):=by rw [yP (by omega) (by omega)];omega
     refine ⟨decide (l[i].Role<(l[i - 1]'(by omega)).Role),?_,?_⟩
     ·rw [hw];exact bd (yN (by omega)) rfl
     ·rw [hw];exact bd (yN hi) (bd (yN (by omega)) rfl)
   obtain ⟨o,o1,o2⟩:=ho;cases o with
   | true=>
    refine .inr ⟨.inl 41,.inl 41,?_,?_,rfl⟩
    ·unfold xR;exact ct hd (bd (yN hi) (bd er' (cf rfl (bd o1 (ct rfl rfl)))))
    ·unfold xK;exact ct hd (bd (yN hi) (bd er (cf rfl (bd o2 (ct rfl rfl)))))
   | false=>
    have hsub:sub l 0 (i:Int)=some (l.take i):=by
     have:=sF (l:=l) (a:=0) (b:=i) (Nat.zero_le _) (by omega);simpa using this
    obtain ⟨z,ez,hz⟩:=zIe l i hi h8;have ez':=(zMc l i hi h8).trans ez;rcases hz with rfl | rfl
    rotate_left
    ·refine .inr ⟨.inl 42,.inl 42,?_,?_,rfl⟩
     ·unfold xR;exact ct hd (bd (yN hi) (bd er' (cf rfl (bd o1 (cf rfl (bd hsub (bd ez' rfl)))))))
     ·unfold xK;exact ct hd (bd (yN hi) (bd er (cf rfl (bd o2 (cf rfl (bd ez rfl))))))
    have hw:IntKind.i64.wrap ((i:Int)+1)=((i+1:Nat):Int):=wM (by omega);obtain ⟨n,hn⟩:=Int.eq_ofNat_of_zero_le (show 0<=l[i].Role by omega);have hn4:1<=n/\n<=4:=by omega
    have hix:ixN 5 l[i].Role=some n:=by rw [hn];simp [ixN];omega
    refine .inl ⟨(((i+1:Nat):Int),[a,fw,b,k,c].set n true),(fw||(l[i].Role==1),k||(l[i].Role==3),((i+1:Nat):Int)),?_,?_,?_⟩
    ·unfold xR;refine ct hd (bd (yN hi) (bd er' (cf rfl (bd o1 (cf rfl (bd hsub (bd ez' ?_)))))));refine bd hix (bd (a:=[a,fw,b,k,c].set n true) ?_ (by rw [hw]));simp [tP];omega
    ·unfold xK;refine ct hd (bd (yN hi) (bd er (cf rfl (bd o2 (cf rfl (bd ez ?_))))));refine bd (zN5 (bd (yN hi) rfl)) (bd (zN5 (bd (yN hi) rfl)) (by rw [hw]))
    ·rw [hn];have:n=1∨n=2∨n=3∨n=4:=by omega
     rcases this with rfl | rfl | rfl | rfl
     ·exact ⟨i+1,a,b,c,by simp,rfl,by omega⟩
     ·exact ⟨i+1,a,true,c,by simp,rfl,by omega⟩
     ·exact ⟨i+1,a,b,c,by simp,rfl,by omega⟩
     ·exact ⟨i+1,a,b,true,by simp,rfl,by omega⟩
  ·have hd:decide ((i:Int)<(l.length:Int))=false:=by simp;omega
   refine .inr ⟨.inr [a,fw,b,k,c],.inr (fw,k),?_,?_,a,b,c,rfl⟩
   ·unfold xR;exact cf hd rfl
   ·unfold xK;exact cf hd rfl
theorem zOv (l:List zD) (hl:l.length<2 ^ 40):Def (vS l) (λr=>wG l=some r/\0<=r/\(r=0->1<=l.length/\l.length<=8/\∀ x∈l,zAz x)):=by
 by_cases hb:l.length=0∨8<l.length
 ·have hc:(bif ((l.length:Int)==0) then (some true) else some (decide (8<(l.length:Int))):Option Bool)=some true:=by
   rcases hb with hb | hb
   ·exact ct (by simp [hb]) rfl
   ·exact cf (by rw [beq_eq_false_iff_ne];omega) (congrArg some (by simp;omega))
  refine ⟨1,?_,?_,by decide,λe=>by cases e⟩
  ·unfold vS;exact bd hc (ct rfl rfl)
  ·unfold wG;exact bd hc (ct rfl rfl)
 ·have hc:(bif ((l.length:Int)==0) then (some true) else some (decide (8<(l.length:Int))):Option Bool)=some false:=cf (by rw [beq_eq_false_iff_ne];omega) (congrArg some (by simp;omega));obtain ⟨y,_,hy,hy2⟩:=zUv l (by omega);cases y with
  | inl r=>
   refine ⟨r,?_,?_,Int.le_of_lt hy2.2,λe=>absurd e (by have:=hy2.2;omega)⟩
   ·unfold vS;exact bd hc (cf rfl (bd hy rfl))
   ·unfold wG;exact bd hc (cf rfl (bd hy2.1 rfl))
  | inr t=>
   obtain ⟨fw,k⟩:=t;obtain ⟨⟨a,b,c,h1⟩,h2⟩:=hy2;refine ⟨if fw&&k then 0 else 40,?_,?_,by split<;>decide,λ_=>⟨by omega,by omega,h2⟩⟩
   ·unfold vS;refine bd hc (cf rfl (bd hy ?_));cases fw<;>cases k<;>rfl
   ·unfold wG;refine bd hc (cf rfl (bd h1 ?_));cases fw<;>cases k<;>rfl
set_option maxRecDepth 100000
theorem zNo (x:zD) (h:x.Name.length<=65535) (h2:x.Payload.length<=65535):pK x=beN x.Role 1 1++(beN x.Version 4 4++(bl x.Name++(bl x.Payload++[]))):=by
 unfold pK bl;rw [zFy _ h2,zFy _ h];simp [sN]
theorem zFm (h:zAz x):(pK x).length<=85:=by
 obtain ⟨_,_,_,_,h5,h6⟩:=h.f;rw [zNo x (by omega) (by omega)];simp only [List.length_append,xC,uY,List.length_nil];omega
theorem zUq (h:zAz x):nU x=some (pK x):=by
 obtain ⟨_,_,_,_,h5,h6⟩:=h.f;unfold nU;refine bd ((dY x).trans h) (cf rfl ?_);have h3:(sN (sN [] 1 x.Role) 4 x.Version).length=5:=by rw [vP,vP];rfl
 have h4:=zAb (sN (sN [] 1 x.Role) 4 x.Version) x.Name;refine bd (qV [] 1 _ (by omega) (by omega) (by simp)) ?_;refine bd (qV _ 4 _ (by omega) (by omega) (by rw [vP];simp)) ?_;refine bd (ckT (zEy (by omega))) ?_;refine bd (dU _ _ (by omega)) ?_;exact bd (dU _ _ (by omega)) rfl
def bX (l:List zD):By:=beN (l.length:Int) 1 1++l.flatMap λx=>bl (pK x)
structure zHr (l:List zD):Prop where
 r:vS l=some 0
 p:wG l=some 0
 h1:1<=l.length
 h8:l.length<=8
 im:∀ x∈l,zAz x
theorem chOk (hl:l.length<2 ^ 40) (h:vS l=some 0):zHr l:=by
 obtain ⟨r,e,h1,_,h2⟩:=zOv l hl;have:r=0:=Option.some.inj (e.symm.trans h);subst this;obtain ⟨a,b,c⟩:=h2 rfl;exact ⟨e,h1,a,b,c⟩
theorem nT.ok (h:nT l):zHr l:=chOk (by have:=h.len;omega) (zBt l h)
theorem zOl (l:List zD) (h:∀ x∈l,zAz x):(l.flatMap λx=>bl (pK x)).length<=87*l.length:=by
 induction l with
 | nil=>simp
 | cons x l ih=>
  have h1:=zFm (h x (by simp));have h2:=ih λy hy=>h y (by simp [hy]);simp only [List.flatMap_cons,List.length_append,uY,List.length_cons];omega
theorem aG (h:zHr l):8<=(bX l).length/\(bX l).length<=697:=by
 have h1:=zOl l h.im;have h8:=h.h8;refine ⟨?_,by unfold bX;rw [List.length_append,xC];omega⟩;obtain ⟨x,l',rfl⟩:∃ x l',l=x :: l':=by
  cases l with
  | nil=>exact absurd h.h1 (by decide)
  | cons x l'=>exact ⟨x,l',rfl⟩
 have:=(zGp x).1;unfold bX;simp only [List.flatMap_cons,List.length_append,uY,xC];omega
theorem zRk (hi:i<l.length):((l.take (i+1)).flatMap λx=>bl (pK x))=((l.take i).flatMap λx=>bl (pK x))++bl (pK l[i]):=by
 rw [List.take_add_one,List.flatMap_append];simp [hi]
theorem zTm (h:∀ x∈l,zAz x) (i:Nat):((l.take i).flatMap λx=>bl (pK x)).length<=87*l.length:=by
 have:=zOl (l.take i) λx hx=>h x (List.mem_of_mem_take hx);have h2:(l.take i).length<=l.length:=by simp;omega
 omega
theorem yBh (h:zHr l):qC l=some (bX l):=by
 have h8:=h.h8;unfold qC;refine bd h.p (cf rfl (bd (wU [] 1 _ (by omega) (by omega) (by simp)) ?_));refine bd (a:=bX l) (yG l.length (λi=>(beN (l.length:Int) 1 1++((l.take i).flatMap λx=>bl (pK x)),(i:Int))) (by simp) (λi hi=>?_) ?_ (xO (by omega))) ?_
 ·have hx:=h.im _ (List.getElem_mem hi);have ht:=zTm h.im i;unfold qM;refine ct (by simp;omega) (bd (yN hi) (bd (zUq hx) (bd (wB _ _ ?_ (by have:=zFm hx;omega)) ?_)))
  ·rw [List.length_append,xC];omega
  ·rw [wM (by omega),zRk hi,List.append_assoc]
 ·unfold qM;refine cf (by simp) ?_;rw [List.take_length];rfl
 ·rfl
theorem yBv (h:zAz x):jL (pK x)=some (x,0):=by
 obtain ⟨a1,a2,a3,a4,a5,a6⟩:=h.f;have hle:=zFm h;unfold jL;obtain ⟨r,g,e⟩:=zKq (pK x) (by omega);refine bd e ?_;rw [zNo x (by omega) (by omega)] at g;obtain ⟨r1,g,e⟩:=rdU (k:=1) g (by omega) (by omega) (by omega) (by omega) (by omega);refine bd e ?_;obtain ⟨r2,g,e⟩:=rdU (k:=4) g (by omega) (by omega) (by omega) (by omega) (by omega);refine bd e ?_;obtain ⟨r3,g,e⟩:=zQ8 (k:=12) g (by omega) (by omega);refine bd e ?_;obtain ⟨r4,g,e⟩:=zQ8 (k:=64) g (by omega) (by omega);refine bd e ?_;have hc:tG (zD.mk x.Role x.Name x.Version x.Payload)=some 0:=(dY x).trans h;exact bd (bd (rdE g) (cf rfl (bd hc rfl))) rfl
theorem zSj (b:By) (hb:b.length<2 ^ 30):∀ (m:List zD) (l:List zD) (r:RS) (fuel:Nat),m.length<fuel->(∀ x∈m,zAz x)->l.length+m.length<=8->87<=b.length∨(∀ x∈m,(pK x).length<=b.length)->Rd r (m.flatMap λx=>bl (pK x)) ->
  ∃ r',Rd r' []/\zL (wZ b) fuel (l,(m.length:Int),r.W.b_,r.W.at_,r.W.e_)=some (.inr (l++m,r'.W.b_,r'.W.at_,r'.W.e_))
 | [],l,r,f+1,_,_,_,_,g=>by
  refine ⟨r,g,?_⟩;simp only [zL];have:wZ b (l,(([]:List zD).length:Int),r.W.b_,r.W.at_,r.W.e_)=some (.inr (.inr (l,r.W.b_,r.W.at_,r.W.e_))):=by
   unfold wZ;exact bd (cf rfl rfl) (cf rfl rfl)
  rw [this,List.append_nil]
 | x :: m,l,r,f+1,hf,hm,h8,hb2,g=>by
  have hx:=hm x (by simp);have hle:=zFm hx;simp only [List.length_cons] at hf h8;have g':Rd r (bl (pK x)++(m.flatMap λx=>bl (pK x))):=g.cast (by simp);have hxb:(pK x).length<=b.length:=by
   rcases hb2 with h | h
   ·omega
   ·exact h x (by simp)
  obtain ⟨r1,g1,e1⟩:=zQ8 (k:=b.length) g' (by omega) hxb;obtain ⟨r2,g2,e2⟩:=zSj b hb m (l++[x]) r1 f (by omega) (λy hy=>hm y (by simp [hy])) (by simp;omega) (by
   rcases hb2 with h | h
   ·exact .inl h
   ·exact .inr λy hy=>h y (by simp [hy])) g1
  refine ⟨r2,g2,?_⟩;simp only [zL];have:wZ b (l,((x :: m).length:Int),r.W.b_,r.W.at_,r.W.e_)=some (.inl (l++[x],(m.length:Int),r1.W.b_,r1.W.at_,r1.W.e_)):=by
   unfold wZ;refine bd (a:=(true,r.W.b_,r.W.at_,r.W.e_)) (ct (by simp) (bd (zMt g) rfl)) (ct rfl ?_);refine bd e1 (bd (yBv hx) (cf rfl (bd (yJ (by simp;omega)) ?_)));rw [List.length_cons,yP (by omega) (by omega),show (((m.length+1:Nat):Int) - 1)=(m.length:Int) by omega]
  rw [this];simp only;rw [e2,List.append_assoc];rfl
theorem zPc:∀ x∈l,(pK x).length<=(bX l).length:=by
 intro x hx;unfold bX;rw [List.length_append];have:(bl (pK x)).length<=(l.flatMap λx=>bl (pK x)).length:=by
  induction l with
  | nil=>cases hx
  | cons y l ih=>
   rw [List.flatMap_cons,List.length_append];rcases List.mem_cons.1 hx with rfl | hx
   ·omega
   ·have:=ih hx;omega
 rw [uY] at this;omega
theorem zZy (h:zHr l):vU (bX l)=some (l,0):=by
 have hl:=aG h;have h8:=h.h8;unfold vU;obtain ⟨r,g,e⟩:=zKq (bX l) (by omega);refine bd e ?_;obtain ⟨r1,g,e⟩:=rdU (k:=1) (n:=(l.length:Int)) (r:=r) (rest:=l.flatMap λx=>bl (pK x)) g (by omega) (by omega) (by omega) (by omega) (by omega);refine bd e ?_;obtain ⟨r2,g2,e2⟩:=zSj (bX l) (by omega) l [] r1 FU (xO (by omega)) h.im (by simpa using h8) (.inr zPc) g;refine bd e2 ?_;exact bd (bd (rdE g2) (cf rfl (bd h.p rfl))) (cf rfl rfl)
set_option maxRecDepth 100000
theorem yBd:tW 1=some ⟨[bnk 20,[]],0⟩:=by decide +kernel
theorem yDd:tW 2=some ⟨[[],bnk 32],0⟩:=by decide +kernel
theorem yBj:tW 3=some ⟨[bnk 20,bnk 32],0⟩:=by decide +kernel
theorem zTq (active:Int) (h1:1<=active) (h3:active<=3):tW active=some (zO6 active):=by
 rcases zVp h1 h3 with rfl | rfl | rfl
 ·exact yBd
 ·exact yDd
 ·exact yBj
def sb (c0 c1:Bool):Int:=(if c0 then 1 else 0)+(if c1 then 2 else 0)
theorem ract (b0 b1:List By) (u:Int) (c0 c1:Bool) (h0:((b0.length:Int)==16)=c0) (h1:((b1.length:Int)==16)=c1):sD ⟨[b0,b1],u⟩=some (sb c0 c1):=by
 unfold sD;refine bd (a:=sb c0 c1) ?_ rfl;refine yG (x:=((0:Int),(0:Int))) 2 (λi=>match i with | 0=>((0:Int),(0:Int)) | 1=>(sb c0 false,1) | _=>(sb c0 c1,2)) rfl (λi hi=>?_) ?_ (xO (by omega))
 ·have:i=0∨i=1:=by omega
  rcases this with rfl | rfl
  ·show uA _ (0,0)=some (.inl (sb c0 false,1));unfold uA;refine ct rfl ?_;refine bd (a:=sb c0 false) (bd (a:=c0) (ct rfl (bd (a:=b0) rfl (by rw [h0]))) ?_) rfl;cases c0<;>rfl
  ·show uA _ (sb c0 false,1)=some (.inl (sb c0 c1,2));unfold uA;refine ct rfl ?_;refine bd (a:=sb c0 c1) (bd (a:=c1) (ct rfl (bd (a:=b1) rfl (by rw [h1]))) ?_) rfl;cases c0<;>cases c1<;>rfl
 ·rfl
theorem yBu (b0 b1:List By) (u:Int) (c0 c1:Bool) (h0:((b0.length:Int)==16)=c0) (h1:((b1.length:Int)==16)=c1):uF ⟨[b0,b1],u⟩ 0=some c0/\uF ⟨[b0,b1],u⟩ 1=some c1:=by
 have h:=ract b0 b1 u c0 c1 h0 h1;unfold uF;constructor
 ·refine bd h ?_;cases c0<;>cases c1<;>rfl
 ·refine bd h ?_;cases c0<;>cases c1<;>rfl
theorem zSy (r:zC) (b0 b1:List By) (hb:r.Banks=[b0,b1]) (l0:b0.length<=16) (l1:b1.length<=16) (h0:∀ x∈b0,x.length<=32) (h1:∀ x∈b1,x.length<=32):nP r=some (b0,b1,r.Updates):=by
 unfold nP;rw [hb];refine ct rfl ?_;refine bd (a:=b0) rfl ?_;refine bd (a:=b0) ?_ ?_
 ·refine yG b0.length (λi=>(b0.take i,(i:Int))) (by simp) (λi hi=>?_) ?_ (xO (by omega))
  ·unfold nJ;refine ct (dlt hi) ?_;refine bd (yN hi) ?_;refine bd (yJ (by have:=h0 _ (List.getElem_mem hi);simp;omega)) ?_;refine bd (yJ (by simp;omega)) ?_;rw [wM (show i<2 ^ 40 by omega),List.take_add_one];simp [hi]
  ·unfold nJ;refine cf (dge (Nat.le_refl _)) ?_;simp
 refine ct rfl ?_;refine bd (a:=b1) rfl ?_;refine bd (a:=(b1,b0)) ?_ ?_
 ·refine yG b1.length (λi=>(b1.take i,(i:Int),b0)) (by simp) (λi hi=>?_) ?_ (xO (by omega))
  ·unfold nW;refine ct (dlt hi) ?_;refine bd (yN hi) ?_;refine bd (yJ (by have:=h1 _ (List.getElem_mem hi);simp;omega)) ?_;refine bd (yJ (by simp;omega)) ?_;rw [wM (show i<2 ^ 40 by omega),List.take_add_one];simp [hi]
  ·unfold nW;refine cf (dge (Nat.le_refl _)) ?_;simp
 exact cf rfl rfl
set_option maxRecDepth 100000
theorem zKj (b:By) (hb:b.length<2 ^ 40):xP ((0:Nat):Int) b=some (lA b):=zS2 b hb
theorem zLt (b:By) (hb:b.length<2 ^ 40):xP ((1:Nat):Int) b=some (sha b):=zJb b hb
theorem zLc (r:zC) (active:Int) (e:zB) (hr:zEu active r) (he:EvGood e active) (hk:e.Kind≠5):Def (pI r 0 e.Register e.Digests) (λx=>x=(ext active e r,0)):=by
 obtain ⟨⟨b0,b1,hb,l0,l1,m0,m1⟩⟩:=hr;obtain ⟨r0,r1,_,dl,f0,f1⟩:=he;obtain ⟨bs,u⟩:=r;simp only at hb;subst hb;have l0':b0.length<=16:=by rw [l0];split<;>omega
 have l1':b1.length<=16:=by rw [l1];split<;>omega
 unfold Fit at f0 f1;have f0':((e.Digests.getD 0 []).length:Int)<=32:=by rw [f0];split<;>decide
 have f1':((e.Digests.getD 1 []).length:Int)<=32:=by rw [f1];split<;>decide
 have g0:∀ d∈e.Digests,d.length<=32:=by
  intro d hd;obtain ⟨i,hi,rfl⟩:=List.mem_iff_getElem.mp hd;have hi2:i=0∨i=1:=by omega
  rcases hi2 with rfl | rfl
  ·have:(e.Digests.getD 0 [])=e.Digests[0]:=by simp [hi]
   rw [<- this];omega
  ·have:(e.Digests.getD 1 [])=e.Digests[1]:=by simp [hi]
   rw [<- this];omega
 have i0:idx e.Digests 0=some (e.Digests.getD 0 []):=zKc (i:=0) (by omega);have i1:idx e.Digests 1=some (e.Digests.getD 1 []):=zKc (i:=1) (by omega);obtain ⟨a0,a1⟩:=yBu b0 b1 u (xF active 0) (xF active 1) (by rw [l0];cases xF active 0<;>rfl) (by rw [l1];cases xF active 1<;>rfl);unfold pI;refine Def.bd (P:=λb=>b=false) ?_ (λb hb=>?_)
 ·refine Def.c (λh=>by cases h) (λ_=>Def.c (λh=>by cases h) (λ_=>?_));refine Def.bd (P:=λb=>b=true) ?_ (λb hb=>?_)
  ·unfold oM;refine Def.bd (P:=λb=>b=true) ?_ (λb hb=>Def.s hb);refine Def.c (λ_=>Def.s ?_) (λh=>?_)
   ·rw [decide_eq_true_iff];omega
   ·have:=dF h;omega
  subst hb;refine Def.c (λh=>by cases h) (λ_=>Def.s ?_);simp;omega
 subst hb;refine Def.c (λh=>by cases h) (λ_=>?_);refine Def.bd (P:=λn=>n=0) ?_ (λn hn=>?_)
 ·unfold kT;refine Def.bd (P:=λb=>b=false) (Def.s rfl) (λb hb=>?_);subst hb;refine Def.c (λh=>by cases h) (λ_=>?_);have e14:(e.Register==14)=false:=by simp;omega
  have e15:(e.Register==15)=false:=by simp;omega
  rw [e14,e15];exact Def.s rfl
 subst hn;refine Def.c (λh=>by cases h) (λ_=>?_);refine Def.bd (P:=λr=>r=.inr ()) ?_ (λr hr=>?_)
 ·refine Def.loop (λs=>s=0∨s=1∨s=2) (λs=>2 - s.toNat) (λs hs=>?_) (.inl rfl) (by simp);unfold jD;refine Def.c (λh=>?_) (λh=>Def.s rfl);rcases hs with rfl | rfl | rfl
  ·refine Def.bd (P:=λd=>d=e.Digests.getD 0 []) (Def.of i0 rfl) (λd hd=>?_);refine Def.bd (P:=λb=>b=false) ?_ (λb hb=>?_)
   ·refine Def.bd (P:=λb=>b=xF active 0) (Def.of a0 rfl) (λb hb=>?_);subst hb;refine Def.c (λh=>Def.s ?_) (λ_=>Def.s rfl);have hh:xF active 0=false:=by simpa using h
    rw [if_neg (by show ¬ (e.Kind≠5/\xF active 0=true);rw [hh];simp)] at f0;rw [decide_eq_false_iff_not,hd];omega
   subst hb;exact Def.s ⟨.inr (.inl rfl),by decide⟩
  ·refine Def.bd (P:=λd=>d=e.Digests.getD 1 []) (Def.of i1 rfl) (λd hd=>?_);refine Def.bd (P:=λb=>b=false) ?_ (λb hb=>?_)
   ·refine Def.bd (P:=λb=>b=xF active 1) (Def.of a1 rfl) (λb hb=>?_);subst hb;refine Def.c (λh=>Def.s ?_) (λ_=>Def.s rfl);have hh:xF active 1=false:=by simpa using h
    rw [if_neg (by show ¬ (e.Kind≠5/\xF active 1=true);rw [hh];simp)] at f1;rw [decide_eq_false_iff_not,hd];omega
   subst hb;exact Def.s ⟨.inr (.inr rfl),by decide⟩
  ·have:=dT h;omega
 subst hr;refine Def.bd (P:=λr=>r=.inr ()) ?_ (λr hr=>?_)
 ·refine Def.loop (λs=>s=0∨s=1∨s=2) (λs=>2 - s.toNat) (λs hs=>?_) (.inl rfl) (by simp);unfold jC;refine Def.c (λh=>?_) (λh=>Def.s rfl);rcases hs with rfl | rfl | rfl
  ·refine Def.bd (P:=λd=>d=e.Digests.getD 0 []) (Def.of i0 rfl) (λd hd=>?_);refine Def.bd (P:=λb=>b=false) ?_ (λb hb=>?_)
   ·refine Def.bd (P:=λb=>b=xF active 0) (Def.of a0 rfl) (λb hb=>?_);subst hb;refine Def.c (λh=>?_) (λ_=>Def.s rfl);refine Def.bd (P:=λd=>d=siz 0) (Def.of (dH 0) rfl) (λz hz=>Def.s ?_);rw [if_pos ⟨hk,h⟩] at f0;rw [hd,hz];simp;exact f0
   subst hb;exact Def.s ⟨.inr (.inl rfl),by decide⟩
  ·refine Def.bd (P:=λd=>d=e.Digests.getD 1 []) (Def.of i1 rfl) (λd hd=>?_);refine Def.bd (P:=λb=>b=false) ?_ (λb hb=>?_)
   ·refine Def.bd (P:=λb=>b=xF active 1) (Def.of a1 rfl) (λb hb=>?_);subst hb;refine Def.c (λh=>?_) (λ_=>Def.s rfl);refine Def.bd (P:=λd=>d=siz 1) (Def.of (dH 1) rfl) (λz hz=>Def.s ?_);rw [if_pos ⟨hk,h⟩] at f1;rw [hd,hz];simp;exact f1
   subst hb;exact Def.s ⟨.inr (.inr rfl),by decide⟩
  ·have:=dT h;omega
 subst hr;refine Def.bd (P:=λx=>x=(b0,b1,u)) (Def.of (zSy _ b0 b1 rfl l0' l1' m0 m1) rfl) (λx hx=>?_);subst hx;obtain ⟨rn,hrn⟩:=Int.eq_ofNat_of_zero_le r0;have one:∀ (a:Nat) (bk:List By) (f:By->By) (hbk:idx [b0,b1] (a:Int)=some bk) (h2:a<2) (h16:bk.length=16) (mm:∀ x∈bk,x.length<=32) (hf:∀ z,z.length<2 ^ 40->xP (a:Int) z=some (f z)),
   Def ((idx [b0,b1] (a:Int)).bind λv=>(idx v e.Register).bind λw=>(yM 1 [] w).bind λw'=>(idx e.Digests (a:Int)).bind λd=>(yM 1 w' d).bind λz=>(xP (a:Int) z).bind λs=>(ixN bk.length e.Register).bind λj=>(tP bk j s).bind λl=>some l)
    (λb=>b=upR true bk e.Register (λx=>f (x++e.Digests.getD a []))):=by
  intro a bk f hbk h2 h16 mm hf;rw [hrn];refine Def.bd (P:=λv=>v=bk) (Def.of hbk rfl) (λv hv=>?_);subst hv;have:=zNm mm rn;refine Def.bd (P:=λx=>x=v.getD rn []) (Def.of (zKc (by omega)) rfl) (λx hx=>?_);subst hx;refine Def.bd (Def.app (by simp only [List.length_nil];omega)) (λy hy=>?_);rw [List.nil_append] at hy;subst hy;have:=zNm g0 a;refine Def.bd (P:=λd=>d=e.Digests.getD a []) (Def.of (zKc (by omega)) rfl) (λd hd=>?_);subst hd;refine Def.bd (Def.app (by omega)) (λz hz=>?_);have hzl:z.length<2 ^ 40:=by rw [hz,List.length_append];omega
  refine Def.bd (P:=λs=>s=f z) (Def.of (hf z hzl) rfl) (λs hs=>?_);refine Def.bd (Def.ixN (by omega) (by omega)) (λj hj=>?_);refine Def.bd (Def.upd hj.2) (λq hq=>Def.s ?_);rw [hq,hj.1,hs,hz];rfl
 refine Def.bd (P:=λb=>b=upR (xF active 0) b0 e.Register (λx=>lA (x++e.Digests.getD 0 []))) ?_ (λc0 hc0=>?_)
 ·refine Def.bd (P:=λb=>b=xF active 0) (Def.of a0 rfl) (λb hb=>?_);subst hb;refine Def.c (λh=>?_) (λh=>Def.s (by rw [h];rfl));rw [if_pos h] at l0;rw [h];exact one 0 b0 lA rfl (by omega) l0 m0 zKj
 refine Def.bd (P:=λb=>b=upR (xF active 1) b1 e.Register (λx=>sha (x++e.Digests.getD 1 []))) ?_ (λc1 hc1=>?_)
 ·refine Def.bd (P:=λb=>b=xF active 1) (Def.of a1 rfl) (λb hb=>?_);subst hb;refine Def.c (λh=>?_) (λh=>Def.s (by rw [h];rfl));rw [if_pos h] at l1;rw [h];exact one 1 b1 sha rfl (by omega) l1 m1 zLt
 exact Def.s (by rw [hc0,hc1];rfl)
set_option maxRecDepth 100000
theorem zLs (on:Bool) (active:Int) (data:By) (hd:data.length<2 ^ 40) (step:(Int×List By)->Option ((Int×List By) ⊕ List By))
  (h0:∀ v,step (0,v)=((bif (on&&xF active 0) then ((xP 0 data).bind λs=>(ixN 2 0).bind λj=>(tP v j s).bind λw=>some w) else some v:Option (List By)).bind λw=>some (.inl (1,w))))
  (h1:∀ v,step (1,v)=((bif (on&&xF active 1) then ((xP 1 data).bind λs=>(ixN 2 1).bind λj=>(tP v j s).bind λw=>some w) else some v:Option (List By)).bind λw=>some (.inl (2,w))))
  (h2:∀ v,step (2,v)=some (.inr v)):zL step FU (0,[[],[]])=some (dgE active on data):=by
 unfold dgE;refine two (b:=(1,[if (on&&xF active 0)=true then lA data else [],[]])) (c:=(2,[if (on&&xF active 0)=true then lA data else [],if (on&&xF active 1)=true then sha data else []])) ?_ ?_ (h2 _)
 ·rw [h0];refine bd (a:=[if (on&&xF active 0)=true then lA data else [],[]]) ?_ rfl;refine (zDx (a:=0) rfl (by omega) (zKj data hd)).trans ?_;cases (on&&xF active 0)<;>rfl
 ·rw [h1];refine bd (a:=[if (on&&xF active 0)=true then lA data else [],if (on&&xF active 1)=true then sha data else []]) ?_ rfl;refine (zDx (a:=1) rfl (by omega) (zLt data hd)).trans ?_;cases (on&&xF active 1)<;>rfl
theorem zB9 {α:Type} {a:Bool} {x:Option Bool} {f:Bool->Option α} {r:Option α} (hx:x=some b) (h:f (a&&b)=r):(bif a then x else some false).bind f=r:=by
 cases a
 ·exact h
 ·subst hx;exact h
theorem zGb (reg kind active:Int) (data:By) (hd:data.length<2 ^ 40):tU reg kind active data=some (mkE reg kind active data):=by
 unfold tU mkE;refine bd (a:=data) (by unfold bytes_Clone;exact ct (zEy (by omega)) rfl) ?_;refine bd (zLs (kind != 5) active data hd _ (λv=>?_) (λv=>?_) (λv=>?_)) (bd (ckT rfl) rfl)
 ·unfold lZ;refine ct rfl ?_;refine congrArg (λo:Option (List By)=>o.bind _) ?_;exact zB9 (bd (ckT rfl) rfl) rfl
 ·unfold lZ;refine ct rfl ?_;refine congrArg (λo:Option (List By)=>o.bind _) ?_;exact zB9 (bd (ckT rfl) rfl) rfl
 ·unfold lZ;exact cf rfl rfl
theorem zKi (x:zD) (active:Int) (h:zAz x):lK x active=some (dgE active true (pK x)):=by
 have hl:=zGp x;unfold lK;refine bd (zUq h) ?_;have hp:decide (0<((pK x).length:Int))=true:=by simp;omega
 refine bd (zLs true active (pK x) (by omega) _ (λv=>?_) (λv=>?_) (λv=>?_)) (bd (ckT rfl) rfl)
 ·unfold pG;refine ct rfl ?_;refine congrArg (λo:Option (List By)=>o.bind _) ?_;rw [hp];exact zB9 (bd (ckT rfl) rfl) rfl
 ·unfold pG;refine ct rfl ?_;refine congrArg (λo:Option (List By)=>o.bind _) ?_;rw [hp];exact zB9 (bd (ckT rfl) rfl) rfl
 ·unfold pG;exact cf rfl rfl
theorem zUp {r:Int} (h1:1<=r) (h4:r<=4):r=1∨r=2∨r=3∨r=4:=by omega
theorem zQy {r:Int} (h1:1<=r) (h4:r<=4):vA r=some (rgR r):=by
 rcases zUp h1 h4 with rfl | rfl | rfl | rfl<;>rfl
theorem aO (x:zD) (active:Int) (h:zAz x) (h4:x.Role≠4):uJ x active=some (imE active x):=by
 obtain ⟨a1,a2,a3,a4,a5,a6⟩:=h.f;have hd:=aE 20 x.Version.toNat;unfold uJ imE lbl;refine bd (a:=false) (bd ((dY x).trans h) (cf rfl (congrArg some (by rw [beq_eq_false_iff_ne];exact h4)))) (cf rfl ?_);refine bd (zQy a1 a2) (bd (zKi x active h) (bd (ckT (zEy (by simp;omega))) ?_));refine bd (a:=decF 20 x.Version.toNat) (by unfold strconv_Itoa;exact ct (by simp;omega) rfl) ?_;refine bd (ckT (zEy (by simp only [List.length_append,List.length_cons,List.length_nil];omega))) (bd (ckT (zEy (by simp only [List.length_append,List.length_cons,List.length_nil];omega))) rfl)
theorem zGj (hi:i<l.length):evR active role (l.take (i+1))=evR active role (l.take i)++(if l[i].Role=role then (if role=4 then (zE0 l[i]).map (mkE 9 3 active) else [imE active l[i]]) else []):=by
 unfold evR;rw [List.take_add_one,List.flatMap_append];simp [hi]
theorem rK (hi:i<l.length) (h:l[i].Role≠role):evR active role (l.take (i+1))=evR active role (l.take i):=by
 rw [zGj hi,if_neg h,List.append_nil]
theorem zJa (hi:i<l.length) (h:l[i].Role=role) (h4:role≠4):evR active role (l.take (i+1))=evR active role (l.take i)++[imE active l[i]]:=by
 rw [zGj hi,if_pos h,if_neg h4]
theorem zTe (hi:i<l.length) (h:l[i].Role=4):evR active 4 (l.take (i+1))=evR active 4 (l.take i)++(zE0 l[i]).map (mkE 9 3 active):=by
 rw [zGj hi,if_pos h,if_pos rfl]
theorem zMu (active:Int) (x:zD) (hx:x.Role=4) (L:List By) (hl:L.length<=4) (h8:∀ l∈L,l.length<=8) (a b c d e:List zB) (he:e.length<=100) :
  zL (rU active x L) FU (0,a,b,c,d,e)=some (a,b,c,d,e++L.map (mkE 9 3 active)):=by
 refine yG L.length (λi=>((i:Int),a,b,c,d,e++(L.map (mkE 9 3 active)).take i)) (by simp) (λi hi=>?_) ?_ (xO (by omega))
 ·have:=h8 _ (List.getElem_mem hi);have hreg:vA x.Role=some 9:=by rw [hx];rfl
  unfold rU;refine ct (dlt hi) (bd (yN hi) ?_);refine bd (a:=(a,b,c,d,e++(L.map (mkE 9 3 active)).take (i+1))) (cf (by rw [hx];rfl) (cf (by rw [hx];rfl) (cf (by rw [hx];rfl) (cf (by rw [hx];rfl) (ct (by rw [hx];rfl) ?_))))) (by rw [wM (by omega)]);refine bd hreg (bd (zGb _ 3 active _ (by omega)) (bd (yJ (by simp;omega)) ?_));rw [List.take_add_one,List.append_assoc];simp [hi]
 ·unfold rU;refine cf (dge (Nat.le_refl _)) ?_;rw [List.take_of_length_le (by simp)]
theorem zPv (active:Int) (out:List zB) (h:out.length<=100):zL (rY active) FU (out,0)=some (out++dI active):=by
 refine yG 8 (λi=>(out++(dI active).take i,(i:Int))) (by simp) (λi hi=>?_) ?_ (xO (by decide))
 ·unfold rY;refine ct (by simp;omega) ?_;refine bd (a:=4) rfl ?_;refine bd (zGb _ 2 active _ (by decide)) ?_;refine bd (yJ (by simp [dI];omega)) ?_;rw [wM (by omega),List.take_add_one,List.append_assoc];have:(dI active)[i]? = some (mkE (i:Int) 2 active [0,0,0,0]):=by simp [dI,hi]
  rw [this];rfl
 ·unfold rY;refine cf rfl ?_;rw [List.take_of_length_le (by rw [aX];omega)]
theorem zL3 (l:List zD) (active:Int) (hl:l.length<=8) (him:∀ x∈l,tV x):zL (rW l active) FU (0,[],[],[],[],[])=some ([],evR active 1 l,evR active 2 l,evR active 3 l,evR active 4 l):=by
 refine yG l.length (λi=>((i:Int),[],evR active 1 (l.take i),evR active 2 (l.take i),evR active 3 (l.take i),evR active 4 (l.take i))) (by simp [evR]) (λi hi=>?_) ?_ (xO (by omega))
 ·have hg:=him _ (List.getElem_mem hi);have hle:=λrole=>zOa active role (l.take i) (λx hx=>him x (List.mem_of_mem_take hx));have hlt:(l.take i).length<=8:=by simp;omega
  have e1:=hle 1;have e2:=hle 2;have e3:=hle 3;have e4:=hle 4;have hw:IntKind.i64.wrap ((i:Int)+1)=((i+1:Nat):Int):=wM (by omega);unfold rW;refine ct (dlt hi) ?_;rcases zUp hg.r1 hg.r4 with hr | hr | hr | hr
  ·rw [zJa hi hr (by decide),rK hi (show l[i].Role≠2 by omega),rK hi (show l[i].Role≠3 by omega),rK hi (show l[i].Role≠4 by omega)];refine bd (bd (yN hi) (ct (by rw [hr];rfl) (bd (cf (by rw [hr];rfl) (ct (by rw [hr];rfl) (bd (aO _ active hg.ok (by omega)) (bd (yJ (by simp only [List.length_singleton];omega)) rfl)))) rfl))) (by rw [hw])
  ·rw [zJa hi hr (by decide),rK hi (show l[i].Role≠1 by omega),rK hi (show l[i].Role≠3 by omega),rK hi (show l[i].Role≠4 by omega)];refine bd (bd (yN hi) (ct (by rw [hr];rfl) (bd (cf (by rw [hr];rfl) (cf (by rw [hr];rfl) (ct (by rw [hr];rfl) (bd (aO _ active hg.ok (by omega)) (bd (yJ (by simp only [List.length_singleton];omega)) rfl))))) rfl))) (by rw [hw])
  ·rw [zJa hi hr (by decide),rK hi (show l[i].Role≠1 by omega),rK hi (show l[i].Role≠2 by omega),rK hi (show l[i].Role≠4 by omega)];refine bd (bd (yN hi) (ct (by rw [hr];rfl) (bd (cf (by rw [hr];rfl) (cf (by rw [hr];rfl) (cf (by rw [hr];rfl) (ct (by rw [hr];rfl) (bd (aO _ active hg.ok (by omega)) (bd (yJ (by simp only [List.length_singleton];omega)) rfl)))))) rfl))) (by rw [hw])
  ·rw [zTe hi hr,rK hi (show l[i].Role≠1 by omega),rK hi (show l[i].Role≠2 by omega),rK hi (show l[i].Role≠3 by omega)];obtain ⟨q1,q2,q3⟩:=zIw _ hg hr;have hp:=hg.p;have q4:=(zFu l[i] (by omega)).trans q1;refine bd (bd (yN hi) (cf (by rw [hr];rfl) (bd q4 (bd (zMu active l[i] hr _ q2 (λl hl=>(q3 l hl).2.1) _ _ _ _ _ (by omega)) rfl)))) (by rw [hw])
 ·unfold rW;refine cf (dge (Nat.le_refl _)) ?_;simp
theorem zMy (l:List zD) (active:Int) (h:nT l) (h1:1<=active) (h3:active<=3):uQ l active=some (evs l active):=by
 have hl:=h.len;have hb:=zI9 active l h.im;have hsl:=aX active;unfold uQ;refine bd (a:=false) (cf (by simp;omega) (cf (by simp;omega) (bd h.ok.p rfl))) (cf rfl ?_);refine bd (zL3 l active hl h.im) ?_;refine bd (yJ (by omega)) (bd (zPv active _ (by rw [List.length_append];omega)) (bd (yJ (by simp only [List.length_append];omega)) (bd (yJ (by simp only [List.length_append];omega)) ?_)));unfold evs;simp only [List.append_assoc]
theorem zKl (active:Int):uQ [] active=some []:=by
 unfold uQ;refine bd (a:=true) ?_ (ct rfl rfl);cases decide (active<1)<;>cases decide (3<active)<;>rfl
end Go.Proofs.TT
