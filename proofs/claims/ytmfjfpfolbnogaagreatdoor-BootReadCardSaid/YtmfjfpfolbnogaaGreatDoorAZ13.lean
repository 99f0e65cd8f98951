/- what Read reports of a started chain -/
import Derived.Test.YtmfjfpfolbnogaaGreatDoorAZ12
set_option linter.all false
open Go.Sw.Def renaming bd -> Q0, s -> Q2, c -> Q4, of -> Q5, app -> Qp, loop -> Qs, ck -> W5
open List renaming length_append -> Q1, append_assoc -> Q3, replicate -> Q6, length_cons -> Q8, getElem_mem -> Q9, take_add_one -> Qa, append_nil -> Qb, take_of_length_le -> Qc, flatMap_cons -> Qe, length_nil -> Qg, mem_iff_getElem -> Qi, take_length -> Qj, flatMap_append -> Qk, drop_eq_getElem_cons -> Ql, mem_cons -> Qo, length_singleton -> Qq, length_pos_iff -> Qr, nil_append -> Qu, singleton_append -> Qx, mem_cons_of_mem -> Qy, mem_of_mem_take -> Qz, mem_cons_self -> W0, all_eq_false -> W1, flatMap_nil -> W2, all_eq_true -> W3
open Go.IntKind renaming i64 -> Q7, u64 -> W6
open Go.Proofs.TT.Def renaming at' -> Qd
open Nat renaming zero_le -> Qf, le_refl -> Qh, ble_eq -> W4
open Int renaming eq_ofNat_of_zero_le -> Qm, toNat_natCast -> Qt, le_refl -> Qw
open Go.Lib renaming indexByte -> Qn
open Option.some renaming inj -> Qv
namespace Go.Proofs.TT
open Go Go.Sw
set_option maxRecDepth 100000
variable {a:Nat}{active:Int}{as:List By}{b:Bool}{d:zF}{e:zB}{es:List zB}{i k:Nat}{l:List zC}{l':By}{m:Nat}{most n:Int}{p:By}{r:RS}{rest:By}{role:Int}{seq:Nat}{st:zU}{vo:yF}{x:zC}{y:By}
theorem zXd {a:Int} (h1:1<=a) (h3:a<=3):a=1∨a=2∨a=3:=by omega
theorem zEu (n:Nat):(bnk n).length=16:=by simp [bnk]
theorem zIy (n:Nat) (h:n<=32):∀ x∈bnk n,x.length<=32:=by
 intro x hx;simp only [bnk,List.mem_append,List.mem_replicate] at hx;rcases hx with ⟨_,rfl⟩ | ⟨_,rfl⟩<;>simp [h]
def zLe (active:Int):zD:=⟨[if xB active 0=true then bnk 20 else [],if xB active 1=true then bnk 32 else []],0⟩
theorem zUg (active:Int) (h1:1<=active) (h3:active<=3):eB active=some (zLe active):=by
 rcases zXd h1 h3 with rfl | rfl | rfl
 ·exact new1
 ·exact new2
 ·exact new3
theorem zTg (active:Int) (h1:1<=active) (h3:active<=3):zC1 active (zLe active):=by
 rcases zXd h1 h3 with rfl | rfl | rfl
 ·exact ⟨⟨_,_,rfl,zEu 20,rfl,zIy 20 (by omega),(by intro x hx;cases hx)⟩⟩
 ·exact ⟨⟨_,_,rfl,rfl,zEu 32,(by intro x hx;cases hx),zIy 32 (by omega)⟩⟩
 ·exact ⟨⟨_,_,rfl,zEu 20,zEu 32,zIy 20 (by omega),zIy 32 (by omega)⟩⟩
def rpl (active:Int) (es:List zB):zD:=es.foldl (λr e=>if e.Kind=5 then r else ext active e r) (zLe active)
theorem zQr (active:Int) (h:a<es.length):rpl active (es.take (a+1))=if es[a].Kind=5 then rpl active (es.take a) else ext active es[a] (rpl active (es.take a)):=by
 unfold rpl;rw [Qa,List.foldl_append];simp [h]
theorem zN5 (active:Int):∀ (es:List zB) (r:zD),zC1 active r->zC1 active (es.foldl (λr e=>if e.Kind=5 then r else ext active e r) r)
 | [],_,h=>h
 | e :: es,r,h=>by
  rw [List.foldl_cons];refine zN5 active es _ ?_;split
  ·exact h
  ·exact zVz h
theorem zH8 (active:Int) (es:List zB) (h1:1<=active) (h3:active<=3):zC1 active (rpl active es):=zN5 active es _ (zTg active h1 h3)
theorem zLv (l:xW) (h:l.Events.length<2 ^ 20) (h1:1<=l.Active) (h3:l.Active<=3):Def (jE l) (λr=>(r.2=0->r.1=rpl l.Active l.Events)/\((∀ e∈l.Events,EvC e l.Active)->r.2=0)):=by
 unfold jE;refine Q0 (P:=λb=>b=false) ?_ (λb hb=>?_)
 ·refine Q4 (λh=>by have:=dT h;omega) (λ_=>Q2 ?_);rw [decide_eq_false_iff_not];omega
 subst hb;refine Q4 (λh=>by cases h) (λ_=>?_);refine Q0 (jP l.Events (oJ l) (λi=>∀ h:i<l.Events.length,EvGood l.Events[i] l.Active) (λv=>v.2≠0/\¬ ∀ e∈l.Events,EvC e l.Active) (by omega) (λa ha=>?_) ?_) (λr hr=>?_)
 ·unfold oJ;refine Q4 (λ_=>?_) (λh=>by have:=dF h;omega);refine Q0 (Qd ha) (λe he=>?_);subst he;refine Q0 (zUy _ _) (λr hr=>?_);refine Q4 (λhz=>Q2 ⟨by simpa using hz,λhall=>?_⟩) (λhz=>Q2 ⟨wO (by omega),λ_=>(hr.1 (by simpa using hz)).toEvGood⟩);have:=hr.2 (hall _ (Q9 ha));rw [this] at hz;cases hz
 ·unfold oJ;exact cf (by simp) rfl
 cases r with
 | inl v=>exact Q2 ⟨λh=>absurd h hr.1,λh=>absurd h hr.2⟩
 | inr u=>
  have hr':∀ e∈l.Events,EvGood e l.Active:=by
   intro e he;obtain ⟨i,hi,rfl⟩:=Qi.mp he;exact hr i hi hi
  refine Q0 (P:=λr=>r=zLe l.Active) (Q5 (zUg _ h1 h3) rfl) (λrg hrg=>?_);subst hrg;refine Q0 (P:=λr=>(⟨r.1,r.2⟩:zD)=rpl l.Active l.Events) ?_ (λr hr=>Q2 ⟨λ_=>hr,λ_=>rfl⟩);refine Qs (λs=>∃ a:Nat,s.1=(a:Int)/\a<=l.Events.length/\(⟨s.2.1,s.2.2⟩:zD)=rpl l.Active (l.Events.take a)) (λs=>l.Events.length - s.1.toNat) (λs hs=>?_) ⟨0,rfl,by omega,rfl⟩ (by simp;omega);obtain ⟨a',bs,up⟩:=s;obtain ⟨a,g1,g2,g3⟩:=hs;simp only at g1 g3;subst g1;unfold cP;refine Q4 (λh=>?_) (λh=>Q2 ?_)
  ·have ha2:a<l.Events.length:=by have:=dT h;omega
   refine Q0 (P:=λr=>(⟨r.1,r.2⟩:zD)=rpl l.Active (l.Events.take (a+1))) ?_ (λr hr=>Q2 ?_)
   ·rw [zQr _ ha2];refine Q0 (Qd ha2) (λe he=>?_);subst he;refine Q4 (λhk=>?_) (λhk=>Q2 (by rw [if_pos (by simpa using hk)];exact g3));have hk':l.Events[a].Kind≠5:=by simpa using hk
    rw [if_neg hk'];refine Q0 (Qd ha2) (λe he=>?_);subst he;refine Q0 (Qd ha2) (λe he=>?_);subst he;rw [g3];exact Q0 (zMo _ l.Active _ (zH8 _ _ h1 h3) (hr' _ (Q9 ha2)) hk') (λr hr=>Q2 (by subst hr;rfl))
   ·rw [wO (by omega)];exact ⟨⟨a+1,rfl,by omega,hr⟩,by simp only [Qt];omega⟩
  ·have:=dF h;rw [Qc (by omega)] at g3;exact g3
theorem zMs {bk:List By} (h:∀ x∈bk,x.length<=32) (n:Nat):(bk.getD n []).length<=32:=by
 by_cases hn:n<bk.length
 ·have:bk.getD n []=bk[n]:=by simp [hn]
  rw [this];exact h _ (Q9 hn)
 ·have:bk.getD n []=[]:=by simp [List.getD,List.getElem?_eq_none (by omega:bk.length<=n)]
  rw [this];simp
set_option maxRecDepth 100000
theorem eT (a:Int):sV a=some (siz a):=zEx a
theorem zMr (e:zB) (active:Int):Def (kN e active) (λr=>r=0↔EvC e active):=by
 unfold kN;refine Q0 or6 (λb hb=>?_);have hb:=zNm hb;refine Q4 (λh=>Q2 ⟨λh=>(by cases h),λhc=>?_⟩) (λhbf=>?_)
 ·have:=hb.2 ⟨hc.a1,hc.a3,hc.r0,hc.r1,hc.k1,hc.k5⟩;rw [this] at h;cases h
 obtain ⟨h1,h2,h3,h4,h5,h6⟩:=hb.1 hbf;refine Q4 (λh=>Q2 ⟨λh=>(by cases h),λhc=>?_⟩) (λhd=>?_)
 ·have:=dT h;have:=hc.d;omega
 have hd':=dF hd;refine Q4 (λh=>Q2 ⟨λh=>(by cases h),λhc=>?_⟩) (λhl0=>?_)
 ·rw [hc.l] at h;cases h
 have hl:e.Digests.length=2:=by simp at hl0;omega
 refine Q0 (jP e.Digests (nY e active) (λi=>Fit e active i) (λb=>b=27/\∃ i,i<2/\¬ Fit e active i) (by omega) (λa ha=>?_) ?_) (λr hr=>?_)
 ·unfold nY;refine Q4 (λ_=>?_) (λh=>by have:=dF h;omega);refine Q0 (Qd ha) (λd hd=>?_);subst hd;refine Q0 (zKm (e:=e) (active:=active) (a:=a) ?_ (by rw [eT];rfl)) (λw hw=>?_)
  ·refine bd (ckT (by simp)) ?_;have hw:W6.wrap (a:Int)=(a:Int):=aN (by omega) (by omega);unfold xB;rw [hw]
  refine Q4 (λhne=>Q2 ⟨rfl,a,by omega,λhF=>?_⟩) (λhne=>Q2 ⟨wO (by omega),(zEw ha hw).1 hne⟩);rw [(zEw ha hw).2 hF] at hne;cases hne
 ·unfold nY;rw [hl];exact cf rfl rfl
 ·cases r with
  | inl b=>exact Q2 ⟨λh=>(by rw [hr.1] at h;cases h),λh=>absurd ⟨h.f0,h.f1⟩ (nf2 hr.2)⟩
  | inr u=>exact Q2 ⟨λ_=>⟨⟨h3,h4,by omega,hl,hr 0 (by omega),hr 1 (by omega)⟩,h1,h2,h5,h6⟩,λ_=>rfl⟩
theorem zV6 (h:EvC e active):Def (kN e active) (λr=>r=0):=(zMr e active).mono λ_ hr=>hr.2 h
set_option maxRecDepth 100000
theorem zS8 (b:By) (h:b.length<2 ^ 40):sK b=some (RS.W ⟨b,0,0⟩):=by
 unfold sK;refine bd (yG (by simp;omega)) ?_;rfl
set_option maxRecDepth 100000
structure LgGood (l:xW):Prop where
 ev:∀ e∈l.Events,EvC e l.Active
 n:l.Events.length<=40
set_option maxRecDepth 100000
def mJ (e:zB):By:=[u8 e.Register,u8 e.Kind]++((beN ((e.Digests.getD 0 []).length:Int) 2 2++e.Digests.getD 0 [])++((beN ((e.Digests.getD 1 []).length:Int) 2 2++e.Digests.getD 1 [])++(beN (e.Data.length:Int) 2 2++e.Data)))
theorem fN (h:Fit e active a):(e.Digests.getD a []).length<=32:=by
 unfold Fit siz at h;split at h
 ·split at h
  ·omega
  ·split at h<;>omega
 ·omega
theorem zB9 (h:EvGood e active):1<=(mJ e).length/\(mJ e).length<=136:=by
 have h0:=fN h.f0;have h1:=fN h.f1;have h2:=h.d;unfold mJ;simp only [Q1,xC,Q8,Qg];omega
theorem Rem.eqv {l:By} (h:Rem r l) (e:l'=l):Rem r l':=e▸h
theorem zT5 (n:Int) (h0:0<=n) (h:n<256):((u8 n).toNat:Int)=n:=by
 obtain ⟨m,rfl⟩:=Qm h0;rw [iV];omega
theorem Rem.byte (h:Rem r (u8 n :: rest)) (h0:0<=n) (hn:n<256):rU r 1=(n,r.to 1)/\Rem (r.to 1) rest:=by
 have h':Rem r ([u8 n]++rest):=h;refine ⟨h'.uintV rfl ?_ h0 (by omega),h'.to rfl⟩;have hb:beV [u8 n] 1=ior .u64 (mH .u64 ((0:Nat):Int) 8) (W6.wrap (((u8 n).toNat:Nat):Int)):=rfl;rw [hb,zJt 0 _ (by omega) (by have:=(u8 n).toNat_lt;omega)];have:=zT5 n h0 hn;omega
theorem zTp (e:zB) (active:Int) (h:EvC e active):wW e=some true:=by
 have r0:=h.r0;have r1:=h.r1;have k1:=h.k1;have k5:=h.k5;have h2:=h.d;have hl:=h.l;have h0:=fN h.f0;have h1:=fN h.f1;have hd:Def (wW e) (λb=>b=true):=by
  unfold wW;refine Q0 (P:=λb=>b=false) (Q5 (cf (by simp;omega) (cf (by simp;omega) (cf (by simp;omega) (cf (by simp;omega) (cf (by simp [hl]) rfl))))) (by simp;omega)) (λb hb=>?_);subst hb;refine Q4 (λh=>by cases h) (λ_=>?_);refine Q0 (jP e.Digests (vP e) (λ_=>True) (λ_=>False) (by omega) (λi hi=>?_) ?_) (λy hy=>?_)
  ·unfold vP;refine Q4 (λ_=>?_) (λh=>by have:=dF h;omega);refine Q0 (Qd hi) (λd hd=>?_);refine Q0 (P:=λw=>w=32) (Q5 (eT 1) rfl) (λw hw=>?_);subst hw;have:d.length<=32:=by
    have hi2:i=0∨i=1:=by omega
    rcases hi2 with rfl | rfl
    ·have:(e.Digests.getD 0 [])=d:=by simp [hd,hi]
     rw [<- this];exact h0
    ·have:(e.Digests.getD 1 [])=d:=by simp [hd,hi]
     rw [<- this];exact h1
   exact Q4 (λh=>by have:=dT h;omega) (λ_=>Q2 ⟨wO (by omega),trivial⟩)
  ·unfold vP;exact cf (by simp) rfl
  ·cases y with
   | inl b=>exact hy.elim
   | inr u=>exact Q2 rfl
 obtain ⟨b,hb,rfl⟩:=hd;exact hb
theorem zS7 (e:zB) (active:Int) (h:EvC e active):jJ (mJ e)=some (e,0):=by
 have hlen:=zB9 h.toEvGood;have h0:=fN h.f0;have h1:=fN h.f1;have h2:=h.d;have r0:=h.r0;have r1:=h.r1;have k1:=h.k1;have k5:=h.k5;have hD:e.Digests=[e.Digests.getD 0 [],e.Digests.getD 1 []]:=by
  have hl:=h.l
  match hx:e.Digests,hl with
  | [a,b],_=>rfl
 have henc:=zTp e active h;have q0:Rem ⟨mJ e,0,0⟩ (mJ e):=⟨rfl,Qf _,rfl⟩;have ok0:(RS.mk (mJ e) 0 0).Ok:=⟨Qf _,by simp;omega⟩;have w0:=zS8 (mJ e) (by omega);have b0:(RS.mk (mJ e) 0 0).b.length<2 ^ 40:=by show (mJ e).length<_;omega
 generalize (RS.mk (mJ e) 0 0)=s0 at *;unfold mJ at q0;obtain ⟨e1,q1⟩:=Rem.byte q0 r0 (by omega);obtain ⟨e2,q2⟩:=Rem.byte q1 (by omega) (by omega);replace q2:Rem ((s0.to 1).to 1) ((beN ((e.Digests.getD 0 []).length:Int) 2 2++e.Digests.getD 0 [])++((beN ((e.Digests.getD 1 []).length:Int) 2 2++e.Digests.getD 1 [])++(beN (e.Data.length:Int) 2 2++e.Data))):=q2;rw [Q3] at q2;obtain ⟨e3,q3⟩:=Rem.blobN (m:=32) q2 (by omega) (by omega);rw [Q3] at q3;obtain ⟨e4,q4⟩:=Rem.blobN (m:=32) q3 (by omega) (by omega);have q4':=q4.eqv (l':=beN (e.Data.length:Int) 2 2++(e.Data++[])) (by rw [Qb]);obtain ⟨e5,q5⟩:=Rem.blobN (m:=64) q4' (by omega) (by omega);have ok1:(s0.to 1).Ok:=⟨q1.at',by show s0.b.length<_;omega⟩;have ok2:((s0.to 1).to 1).Ok:=⟨q2.at',by show s0.b.length<_;omega⟩;generalize hs2:(s0.to 1).to 1=s2 at *;generalize hs3:s2.to (2+(e.Digests.getD 0 []).length)=s3 at *;have ok3:s3.Ok:=⟨q3.at',by rw [<- hs3,<- hs2];show s0.b.length<_;omega⟩;generalize hs4:s3.to (2+(e.Digests.getD 1 []).length)=s4 at *;have ok4:s4.Ok:=⟨q4.at',by rw [<- hs4,<- hs3,<- hs2];show s0.b.length<_;omega⟩;generalize hs5:s4.to (2+e.Data.length)=s5 at *;have ok5:s5.Ok:=⟨q5.at',by rw [<- hs5,<- hs4,<- hs3,<- hs2];show s0.b.length<_;omega⟩;unfold jJ;refine bd w0 ?_;refine bd (a:=(e.Register,(s0.to 1).W)) ((rS s0 1 ok0 (by omega) (by omega)).trans (by rw [e1])) ?_;refine bd (a:=(e.Kind,s2.W)) ((rS (s0.to 1) 1 ok1 (by omega) (by omega)).trans (by rw [e2])) ?_;refine bd (a:=([e.Digests.getD 0 [],e.Digests.getD 1 []],s4.W.b_,s4.W.at_,s4.W.e_)) (two (b:=(1,[e.Digests.getD 0 []],s3.W.b_,s3.W.at_,s3.W.e_)) (c:=(2,[e.Digests.getD 0 [],e.Digests.getD 1 []],s4.W.b_,s4.W.at_,s4.W.e_)) ?_ ?_ rfl) ?_
 ·unfold kV;refine ct rfl ?_;refine bd (a:=((32:Nat):Int)) (eT 1) ?_;refine bd (a:=(e.Digests.getD 0 [],s3.W)) ((oC s2 32 ok2).trans (by rw [e3])) ?_;exact bd (yG (by simp)) rfl
 ·unfold kV;refine ct rfl ?_;refine bd (a:=((32:Nat):Int)) (eT 1) ?_;refine bd (a:=(e.Digests.getD 1 [],s4.W)) ((oC s3 32 ok3).trans (by rw [e4])) ?_;exact bd (yG (by simp)) rfl
 refine bd (a:=(e.Data,s5.W)) ((oC s4 64 ok4).trans (by rw [e5])) ?_;have he:(⟨e.Register,e.Kind,[e.Digests.getD 0 [],e.Digests.getD 1 []],e.Data⟩:zB)=e:=by rw [<- hD]
 refine bd (a:=false) ?_ ?_
 ·refine bd (a:=(0,s5.W)) ((zDz s5 ok5).trans (by rw [q5.fin])) ?_;refine cf rfl ?_;refine bd (a:=true) ?_ rfl;show wW ⟨e.Register,e.Kind,[e.Digests.getD 0 [],e.Digests.getD 1 []],e.Data⟩=_;rw [he];exact henc
 refine cf rfl ?_;show some ((⟨e.Register,e.Kind,[e.Digests.getD 0 [],e.Digests.getD 1 []],e.Data⟩:zB),(0:Int))=_;rw [he]
set_option maxRecDepth 100000
def zBc (a r:Int):By:=[83,87,76,49]++(u8 a :: beN r 6 6)
def mY (es:List zB):By:=es.flatMap λe=>beN ((mJ e).length:Int) 2 2++mJ e
def tA (l:xW):By:=zBc l.Active l.Resets++mY l.Events
structure LgF (l:xW):Prop extends LgGood l where
 a1:1<=l.Active
 a3:l.Active<=3
 r0:0<=l.Resets
 r1:l.Resets<=1099511627776
theorem bE (a r:Int):(zBc a r).length=11:=by simp [zBc,xC]
theorem zFq:∀ es:List zB,(∀ e∈es,EvC e active)->(mY es).length<=138*es.length
 | [],_=>by simp [mY]
 | e :: es,h=>by
  have h1:=zFq es (λx hx=>h x (Qy _ hx));have h2:=zB9 (h e (W0 ..)).toEvGood;unfold mY at h1 ⊢;rw [Qe,Q1,Q1,xC,Q8];omega
theorem zOh (h:i<es.length):mY (es.take (i+1))=mY (es.take i)++(beN ((mJ es[i]).length:Int) 2 2++mJ es[i]):=by
 unfold mY;rw [Qa,Qk];simp [h]
theorem zO7 (h:i<es.length):mY (es.drop i)=beN ((mJ es[i]).length:Int) 2 2++(mJ es[i]++mY (es.drop (i+1))):=by
 rw [Ql h];unfold mY;rw [Qe,Q3]
theorem zSg (es:List zB) (i:Nat):mY es=mY (es.take i)++mY (es.drop i):=by
 unfold mY;rw [<- Qk,List.take_append_drop]
theorem zQk (l:xW) (h:LgGood l):11<=(tA l).length/\(tA l).length<=5531:=by
 have h1:=zFq l.Events h.ev;have h2:=h.n;unfold tA;rw [Q1,bE];omega
theorem zMl (a r:Int) (h1:1<=a) (h3:a<=3) (h0:0<=r) (hr:r<=1099511627776):∃ b,vI a r=some b/\b.length=11:=by
 refine ⟨sQ (sQ [83,87,76,49] 1 a) 6 r,?_,by rw [vN,vN];rfl⟩;unfold vI;refine bd (a:=false) (cf (by simp;omega) (cf (by simp;omega) (cf (by simp;omega) (congrArg some (by simp;omega))))) ?_;refine cf rfl ?_;refine bd (pG _ 1 a (by omega) (by omega) (by simp)) ?_;exact bd (pG _ 6 r (by omega) (by omega) (by rw [vN];simp)) rfl
def atE (l:xW) (i:Nat):Nat:=11+(mY (l.Events.take i)).length
theorem zO5 (l:xW) (h:LgF l):nS (tA l)=some (l,0):=by
 have hn:=h.n;have hlen:=zQk l h.toLgGood;obtain ⟨hb,hh1,hh2⟩:=zMl l.Active l.Resets h.a1 h.a3 h.r0 h.r1;have a1:=h.a1;have a3:=h.a3;have r0:=h.r0;have r1:=h.r1;have S:∀ i,Rem ⟨tA l,atE l i,0⟩ (mY (l.Events.drop i)):=by
  intro i;have e:tA l=(zBc l.Active l.Resets++mY (l.Events.take i))++mY (l.Events.drop i):=by
   unfold tA;rw [Q3,<- zSg]
  have hl:(zBc l.Active l.Resets++mY (l.Events.take i)).length=atE l i:=by rw [Q1,bE];rfl
  refine ⟨rfl,?_,?_⟩
  ·show atE l i<=(tA l).length;rw [e,Q1,hl];omega
  ·show (tA l).drop (atE l i)=_;rw [e,<- hl,List.drop_left]
 have ok:∀ i,(RS.mk (tA l) (atE l i) 0).Ok:=λi=>⟨(S i).at',by show (tA l).length<_;omega⟩;have q0:Rem ⟨tA l,0,0⟩ ([83,87,76,49]++(u8 l.Active :: (beN l.Resets 6 6++mY l.Events))):=⟨rfl,Qf _,by show (tA l).drop 0=_;unfold tA zBc;simp⟩;have e1:=Rem.raw (n:=4) q0 rfl;have q1:=Rem.to (n:=4) q0 rfl;obtain ⟨e2,q2⟩:=Rem.byte q1 (by omega) (by omega);obtain ⟨e3,q3⟩:=Rem.uintI q2 (by omega) r0 (by omega) (by omega);have ok0:(RS.mk (tA l) 0 0).Ok:=⟨Qf _,by show (tA l).length<_;omega⟩;have ok1:((RS.mk (tA l) 0 0).to 4).Ok:=⟨q1.at',by show (tA l).length<_;omega⟩;have ok2:(((RS.mk (tA l) 0 0).to 4).to 1).Ok:=⟨q2.at',by show (tA l).length<_;omega⟩;have e4:((((RS.mk (tA l) 0 0).to 4).to 1).to 6)=⟨tA l,atE l 0,0⟩:=by
  show (⟨tA l,0+4+1+6,0⟩:RS)=_;unfold atE;simp [mY]
 rw [e4] at e3;unfold nS;refine cf (by simp;omega) ?_;refine bd (a:=(l,(atE l l.Events.length:Int),0)) ?_ (cf rfl rfl);unfold lZ;refine bd (a:=(l,(atE l l.Events.length:Int),0)) ?_ rfl;refine bd (zS8 _ (by omega)) ?_;refine bd (a:=([83,87,76,49],((RS.mk (tA l) 0 0).to 4).W)) ((zD2 _ 4 ok0).trans (by rw [e1])) ?_;refine cf rfl ?_;refine bd (a:=(l.Active,(((RS.mk (tA l) 0 0).to 4).to 1).W)) ((rS _ 1 ok1 (by omega) (by omega)).trans (by rw [e2])) ?_;refine bd (a:=(l.Resets,(RS.mk (tA l) (atE l 0) 0).W)) ((rS _ 6 ok2 (by omega) (by omega)).trans (by rw [e3])) ?_;refine bd (a:=(false,tA l,(atE l 0:Int),0)) ?_ ?_
 ·refine bd (a:=(0,(RS.mk (tA l) (atE l 0) 0).W)) rfl ?_;refine cf rfl ?_;refine bd hh1 ?_;rw [hh2];rfl
 refine cf rfl ?_;refine bd (a:=((atE l l.Events.length:Int),0,l.Events)) ?_ rfl;refine yD l.Events.length (λi=>((atE l i:Int),l.Events.take i,tA l,(atE l i:Int),0)) ?_ (λi hi=>?_) ?_ (xK (by omega))
 ·simp [atE,mY]
 ·have hE:=h.ev _ (Q9 hi);have hel:=zB9 hE.toEvGood;have hS:=S i;rw [zO7 hi] at hS;have hleft:=hS.left;rw [Q1,xC] at hleft;obtain ⟨f1,f2⟩:=Rem.blobN (m:=65535) hS (by omega) (by omega);have f3:(RS.mk (tA l) (atE l i) 0).to (2+(mJ l.Events[i]).length)=⟨tA l,atE l (i+1),0⟩:=by
   show (⟨tA l,atE l i+(2+(mJ l.Events[i]).length),0⟩:RS)=_;unfold atE;rw [zOh hi,Q1,Q1,xC,Nat.add_assoc]
  rw [f3] at f1;have lf:∀ k,Q7.wrap (((tA l).length:Int) - (atE l k:Int))=((RS.mk (tA l) (atE l k) 0).left:Int):=λk=>zIr _ (ok k);have hck:=zV6 hE;obtain ⟨c,hc1,rfl⟩:=hck;unfold pB;refine bd (a:=(((RS.mk (tA l) (atE l i) 0).left:Int),(RS.mk (tA l) (atE l i) 0).W)) (congrArg some (by rw [<- lf i];rfl)) ?_;refine ct (by simp;omega) ?_;refine bd (a:=(mJ l.Events[i],(RS.mk (tA l) (atE l (i+1)) 0).W)) ((oC _ 65535 (ok i)).trans (by rw [f1])) ?_;refine bd (zS7 _ _ hE) ?_;refine cf (by simp;omega) ?_;refine bd (a:=(0,(RS.mk (tA l) (atE l (i+1)) 0).W)) rfl ?_;refine cf rfl ?_;refine bd (a:=false) (cf rfl (bd hc1 rfl)) ?_;refine cf rfl ?_;refine bd (yG (by simp;omega)) ?_;refine bd (a:=(((RS.mk (tA l) (atE l (i+1)) 0).left:Int),(RS.mk (tA l) (atE l (i+1)) 0).W)) (congrArg some (by rw [<- lf (i+1)];rfl)) ?_;have hat:Q7.wrap (((tA l).length:Int) - ((RS.mk (tA l) (atE l (i+1)) 0).left:Int))=(atE l (i+1):Int):=by
   have:=(ok (i+1)).1;simp only [RS.left] at *;rw [yR (by omega) (by omega)];omega
  have ht:l.Events.take (i+1)=l.Events.take i++[l.Events[i]]:=by rw [Qa];simp [hi]
  rw [ht];show some (Sum.inl (Q7.wrap (((tA l).length:Int) - ((RS.mk (tA l) (atE l (i+1)) 0).left:Int)),_))=_;rw [hat];rfl
 ·have hS:=S l.Events.length;rw [List.drop_length] at hS;have hleft:=hS.left;unfold pB;refine bd (a:=(((RS.mk (tA l) (atE l l.Events.length) 0).left:Int),(RS.mk (tA l) (atE l l.Events.length) 0).W)) (congrArg some (by rw [<- zIr _ (ok l.Events.length)];rfl)) ?_;refine cf (by rw [hleft];rfl) ?_;rw [Qj]
set_option maxRecDepth 100000
structure zMb (d:zW):Prop where
 n:d.Areas.length<=64
 w0:0<=d.Writes
 w1:d.Writes<2 ^ 60
theorem zF1 (d:zW) (a:Nat) (h:a<d.Areas.length):lA d (a:Int)=some true:=by
 unfold lA;refine bd (ct (by simp) (congrArg some (by simp;omega))) rfl
theorem zHl (d:zW) (h:d.Areas.length<=64):zN (nF d d.Areas.length) FU (0,Q6 d.Areas.length [])=some d.Areas:=by
 refine yD d.Areas.length (λi=>((i:Int),d.Areas.take i++Q6 (d.Areas.length - i) [])) (by simp) (λi hi=>?_) ?_ (xK (by omega))
 ·unfold nF;refine ct (dlt hi) ?_;refine bd (yO hi) ?_;refine bd (uH hi) ?_;have hl:(d.Areas.take i).length=i:=by simp;omega
  refine bd (dA (by simp;omega)) ?_;rw [wO (show i<2 ^ 40 by omega)];refine congrArg some (congrArg Sum.inl (congrArg (Prod.mk _) ?_));rw [List.set_append_right _ _ (by omega),hl,Nat.sub_self];rw [show d.Areas.length - i=(d.Areas.length - (i+1))+1 by omega,List.replicate_succ,List.set_cons_zero];rw [Qa,List.getElem?_eq_getElem hi];simp only [Option.toList_some,Q3,Qx]
 ·unfold nF;refine cf (dge (Qh _)) ?_;simp
theorem app0 {x:By} (h:x.length<2 ^ 40):yM 1 [] x=some x:=by simpa using yG (b:=1) (l:=[]) (m:=x) (by simp;omega)
theorem zV4 {d:zW} (h:a<d.Areas.length):idx d.Areas (a:Int)=some (d.Areas.getD a []):=by rw [yO h];simp [h]
theorem mk24 {n:Nat} (h:n<=64):mkN 24 (n:Int)=some n:=by
 unfold mkN;rw [if_pos (by simp;omega)];simp
theorem wr1 (h0:0<=n) (h:n<2 ^ 60):Q7.wrap (n+1)=n+1:=yR (by omega) (by omega)
def zAj (d:zW) (len:Nat):Nat:=if d.Writes+1=d.CutAt then min d.Torn.toNat len else len
def isC (d:zW):Prop:=d.Writes+1=d.CutAt
instance (d:zW):Decidable (isC d):=by unfold isC;infer_instance
def zFm (d:zW):Int:=if isC d then 29 else 0
theorem zPx (d:zW) (len:Nat) (h:zMb d) (ho:d.Off=false):(bif ((Q7.wrap (d.Writes+1))==d.CutAt) then
  (some (if (len:Int)<if d.Torn<0 then 0 else d.Torn then (len:Int) else if d.Torn<0 then 0 else d.Torn,29,true))
 else some ((len:Int),0,d.Off):Option (Int×Int×Bool))=some ((zAj d len:Int),zFm d,decide (isC d)):=by
 rw [wr1 h.w0 h.w1];by_cases hc:d.Writes+1=d.CutAt
 ·refine ct (by simpa using hc) (congrArg some ?_);rw [show zFm d=29 from if_pos hc,show decide (isC d)=true from decide_eq_true hc];refine congrArg (·,(29:Int),true) ?_;unfold zAj;rw [if_pos hc];by_cases ht:d.Torn<0
  ·rw [if_pos ht,if_neg (by omega)];have:d.Torn.toNat=0:=by omega
   simp [this]
  ·rw [if_neg ht];split<;>omega
 ·refine cf (by simpa using hc) (congrArg some ?_);rw [show zFm d=0 from if_neg hc,show decide (isC d)=false from decide_eq_false hc,ho];unfold zAj;rw [if_neg hc]
def zA5 (d:zW) (a:Nat) (y:By):zW:=⟨d.Areas.set a y,d.Writes+1,d.CutAt,d.Torn,decide (isC d)⟩
theorem zXe (d:zW) (a:Nat) (data x y:By) (b:Bool) (h:zMb d) (ho:d.Off=false) (ha:a<d.Areas.length) (hl:data.length<=65536) (hy:nK (d.Areas.getD a []) (zAj d data.length:Int) x b=some y) :
  gC d (a:Int) data x b=some (zA5 d a y,zFm d):=by
 unfold gC;refine cf ho ?_;refine bd (zF1 d a ha) ?_;refine cf rfl ?_;refine cf (by simp;omega) ?_;refine bd (zPx d data.length h ho) ?_;refine bd (mk24 h.n) ?_;refine bd (zHl d h.n) ?_;refine bd (zV4 ha) ?_;refine bd hy ?_;refine bd (uH ha) ?_;refine bd (dA ha) ?_;refine bd (ckT (by simp)) ?_;refine bd (ckT (by have:=h.n;simp [W4];omega)) ?_;rw [wr1 h.w0 h.w1];rfl
theorem zSw (d:zW) (a:Nat) (data x y:By) (h:zMb d) (ho:d.Off=false) (ha:a<d.Areas.length) (hl:data.length<=65536) (hy:nQ (d.Areas.getD a []) (zAj d data.length:Int) x=some y) :
  jH d (a:Int) data x=some (zA5 d a y,zFm d):=by
 unfold jH;refine cf ho ?_;refine bd (zF1 d a ha) ?_;refine cf rfl ?_;refine cf (by simp;omega) ?_;refine bd (zPx d data.length h ho) ?_;refine bd (mk24 h.n) ?_;refine bd (zHl d h.n) ?_;refine bd (zV4 ha) ?_;refine bd hy ?_;refine bd (uH ha) ?_;refine bd (dA ha) ?_;refine bd (ckT (by simp)) ?_;refine bd (ckT (by have:=h.n;simp [W4];omega)) ?_;rw [wr1 h.w0 h.w1];rfl
theorem zN3 (d:zW) (len:Nat):zAj d len<=len:=by unfold zAj;split<;>omega
def wrC (d:zW) (old data:By):By:=data.take (zAj d data.length)++(if isC d then old.drop (zAj d data.length) else [])
def apC (d:zW) (old data:By):By:=old++data.take (zAj d data.length)
theorem zGn (d:zW) (a:Nat) (data:By) (h:zMb d) (ho:d.Off=false) (ha:a<d.Areas.length) (hl:data.length<=65536) (hold:(d.Areas.getD a []).length<2 ^ 40) :
  mZ d (a:Int) data=some (zA5 d a (wrC d (d.Areas.getD a []) data),zFm d):=by
 unfold mZ;refine bd (a:=decide (isC d)) (ct (by rw [ho];rfl) (congrArg some ?_)) ?_
 ·rw [wr1 h.w0 h.w1];simp [isC,BEq.beq]
 refine bd (zXe d a data data (wrC d (d.Areas.getD a []) data) _ h ho ha hl ?_) rfl;generalize d.Areas.getD a []=old at hold;have hn:=zN3 d data.length;unfold nK wrC;generalize zAj d data.length=n at hn;refine bd (a:=data.take n) (by have:=sP (l:=data) (Qf n) hn;simpa using this) ?_;refine bd (a:=data.take n) (by simpa using yG (b:=1) (l:=[]) (m:=data.take n) (by simp;omega)) ?_;by_cases hc:isC d
 ·rw [decide_eq_true hc,if_pos hc];by_cases hlt:n<old.length
  ·refine bd (a:=data.take n++old.drop n) ?_ rfl;refine bd (a:=true) (ct rfl (congrArg some (by simp;omega))) ?_;refine ct rfl ?_;refine bd (a:=old.drop n) (by have:=sP (l:=old) (Nat.le_of_lt hlt) (Qh _);rw [this,Qc (by simp)]) ?_;exact bd (yG (by simp;omega)) rfl
  ·refine bd (a:=data.take n) ?_ ?_
   ·refine bd (a:=false) (ct rfl (congrArg some (by simp;omega))) ?_;exact cf rfl rfl
   ·rw [List.drop_eq_nil_of_le (by omega),Qb]
 ·rw [decide_eq_false hc,if_neg hc,Qb];refine bd (a:=data.take n) ?_ rfl;refine bd (a:=false) (cf rfl rfl) ?_;exact cf rfl rfl
theorem zOl (d:zW) (a:Nat) (data:By) (h:zMb d) (ho:d.Off=false) (ha:a<d.Areas.length) (hl:data.length<=65536) (hold:(d.Areas.getD a []).length<2 ^ 40) :
  gU d (a:Int) data=some (zA5 d a (apC d (d.Areas.getD a []) data),zFm d):=by
 unfold gU;refine bd (zSw d a data data (apC d (d.Areas.getD a []) data) h ho ha hl ?_) rfl;generalize d.Areas.getD a []=old at hold;have hn:=zN3 d data.length;unfold nQ apC;generalize zAj d data.length=n at hn;refine bd (a:=old) (by simpa using yG (b:=1) (l:=[]) (m:=old) (by simp;omega)) ?_;refine bd (a:=data.take n) (by have:=sP (l:=data) (Qf n) hn;simpa using this) ?_;exact bd (yG (by simp;omega)) rfl
theorem zCr (d:zW) (a:Nat) (ho:d.Off=false) (ha:a<d.Areas.length) (hold:(d.Areas.getD a []).length<2 ^ 40):sR d (a:Int)=some (d.Areas.getD a [],0):=by
 unfold sR;refine cf ho ?_;refine bd (zF1 d a ha) ?_;refine cf rfl ?_;refine bd (zV4 ha) ?_;exact bd (a:=d.Areas.getD a []) (app0 hold) rfl
set_option maxRecDepth 100000
theorem zK8 (w:UInt8) (c:By):Def (iS w c) (λr=>r.1.length=64/\r.2=c):=by
 unfold iS;refine Q0 (Def.mkN (by decide) (by decide)) (λn hn=>?_);have hn:n=64:=hn;subst hn;refine Q0 (W5 (by simp)) (λ_ _=>?_);refine Def.lt ?_;refine Q0 (P:=λr=>r.length=64) ?_ (λr hr=>?_)
 ·refine Qs (λs=>0<=s.1/\s.1<=64/\s.2.length=64) (λs=>(64 - s.1).toNat) (λs hs=>?_) ⟨Qw 0,by simp,by rw [zI0];simp⟩ (by simp);obtain ⟨i,l⟩:=s;obtain ⟨h1,h2,h3⟩:=hs;simp only at h1 h2 h3;unfold zAx;refine Q4 (λh=>?_) (λ_=>Q2 h3);rw [decide_eq_true_iff] at h;refine Q0 (Def.ixN h1 (by omega)) (λj hj=>?_);refine Q0 (Def.at (by omega)) (λu _=>?_);refine Q0 (Def.ixN h1 (by omega)) (λj hj=>?_);refine Q0 (Def.upd (by omega)) (λv hv=>Q2 ?_);rw [yR (by omega) (by omega)];exact ⟨⟨by simp only;omega,by simp only;omega,by simp only [hv,List.length_set];exact h3⟩,by simp only;omega⟩
 ·refine Q0 (W5 (by simp [hr])) (λ_ _=>?_);refine Q0 (W5 (by simp)) (λ_ _=>Q2 ⟨hr,rfl⟩)
theorem zG0 (b:By) (h:b.length<2 ^ 40):Def (xT 1 b) (λr=>r.length=32):=Q5 (zIg b h) (zE3 b)
theorem zQh (key b:By) (hk:key.length<2 ^ 30) (hb:b.length<2 ^ 30):Def (zE6 key b) (λr=>r.length=32):=by
 unfold zE6;refine Q0 (P:=λr=>r.length<2 ^ 30) ?_ (λk hk2=>?_)
 ·refine Q4 (λ_=>Q0 (zG0 key (by omega)) (λr hr=>Q2 (by omega))) (λ_=>Q2 hk)
 refine Q0 (zK8 54 k) (λr hr=>?_);obtain ⟨v,c⟩:=r;obtain ⟨h1,rfl⟩:=hr;simp only at h1;refine Q0 (Qp (by omega)) (λa ha=>?_);refine Q0 (zG0 a (by rw [ha,Q1];omega)) (λd hd=>?_);refine Q0 (zK8 92 _) (λr hr=>?_);obtain ⟨v2,c2⟩:=r;obtain ⟨h2,_⟩:=hr;simp only at h2;refine Q0 (Qp (by omega)) (λa2 ha2=>?_);exact Q0 (zG0 a2 (by rw [ha2,Q1];omega)) (λd hd=>Q2 hd)
theorem gG (key label ctx:By) (hk:key.length<2 ^ 30) (hl:label.length<2 ^ 20) (hc:ctx.length<2 ^ 20):Def (iT key label ctx 32) (λr=>r.length=32):=by
 unfold iT;refine Q0 (Q5 (a:=false) rfl (Q:=λr=>r=false) rfl) (λb hb=>?_);subst hb;refine Q4 (λh=>by cases h) (λ_=>?_);refine Q0 (W5 (by simp [W4];omega)) (λ_ _=>?_);refine Q0 (Qp (by simp;omega)) (λa ha=>?_);refine Q0 (Qp (by rw [ha];simp;omega)) (λa2 ha2=>?_);refine Q0 (Q5 (Q:=λr=>r.length=4) rfl rfl) (λf hf=>?_);refine Q0 (Qp (by rw [ha2,ha];simp;omega)) (λa3 ha3=>?_);have h3:a3.length<2 ^ 22:=by rw [ha3,ha2,ha];simp;omega
 refine Q0 (P:=λr=>r.length=32) ?_ (λr hr=>?_)
 ·refine Qs (λs=>s.1.length=0∨s.1.length=32) (λs=>32 - s.1.length) (λs hs=>?_) (.inl rfl) (by simp);obtain ⟨o,i⟩:=s;simp only at hs;unfold zAy;refine Q4 (λh=>?_) (λh=>Q2 ?_)
  ·rw [decide_eq_true_iff] at h;have h0:o.length=0:=by omega
   refine Q0 (Q5 (Q:=λr=>r.length=4) rfl rfl) (λf2 hf2=>?_);refine Q0 (Qp (by omega)) (λa4 ha4=>?_);refine Q0 (zQh key a4 hk (by rw [ha4,Q1];omega)) (λm hm=>?_);refine Q0 (Qp (by omega)) (λa5 ha5=>Q2 ?_);have h5:a5.length=32:=by rw [ha5,Q1];omega
   exact ⟨.inr h5,by simp only;omega⟩
  ·rw [decide_eq_false_iff_not] at h;omega
 ·refine Q0 (Def.sub (by decide) (by decide) (by omega)) (λu hu=>Q2 ?_);rw [hu];simp [hr]
structure Sst (s:zU):Prop where
 sd:∃ a b c,s.Seeds=[a,b,c]/\a.length=32/\b.length=32/\c.length=32
 au:s.Auths=[[],[],[],[]]
 en:s.Entropy.length=32
 a0:1<=s.Active
 a3:s.Active<=3
 r0:0<=s.Resets
 r1:s.Resets<2 ^ 30
 st:s.Restarts=0
 ck:s.Clock=0
 sv:s.Saved=⟨[],0⟩
 mc:s.MaxCounter=0
 ix:s.Indices=[]
 lo:s.Lockout=⟨0,5,100,0,0,1000⟩
 ks:s.Keys=[]
theorem zOr (e:By) (active:Int) (he:e.length=32) (h1:1<=active) (h3:active<=3):Def (aR e active) (λr=>r.2=0/\Sst r.1/\r.1.Active=active/\r.1.Resets=0/\r.1.Orderly=true):=by
 unfold aR;refine Q0 (Q5 (Q:=λr=>r=false) (a:=false) ?_ rfl) (λb hb=>?_)
 ·refine cf (by simp [he]) (cf (by simp;omega) (congrArg some (by simp;omega)))
 subst hb;refine Q4 (λh=>by cases h) (λ_=>?_);refine Q0 (Q5 (Q:=λr=>r=⟨0,5,100,0,0,1000⟩) rfl rfl) (λlo hlo=>?_);refine Q0 (P:=λr=>∃ a b c,r=[a,b,c]/\a.length=32/\b.length=32/\c.length=32) ?_ (λr hr=>?_)
 ·obtain ⟨a,e1,l1⟩:=gG e [115,101,101,100] [u8 0] (by omega) (by decide) (by decide);obtain ⟨b,e2,l2⟩:=gG e [115,101,101,100] [u8 1] (by omega) (by decide) (by decide);obtain ⟨c,e3,l3⟩:=gG e [115,101,101,100] [u8 2] (by omega) (by decide) (by decide);refine Q5 (a:=[a,b,c]) ?_ ⟨a,b,c,rfl,l1,l2,l3⟩;refine yD 3 (λi=>((i:Int),[a,b,c].take i)) rfl (λi hi=>?_) ?_ (xK (by decide))
  ·have hi3:i=0∨i=1∨i=2:=by omega
   unfold dD;rcases hi3 with rfl | rfl | rfl
   ·exact ct rfl (bd e1 (bd (yG (by simp)) rfl))
   ·exact ct rfl (bd e2 (bd (yG (by simp)) rfl))
   ·exact ct rfl (bd e3 (bd (yG (by simp)) rfl))
  ·unfold dD;exact cf rfl rfl
 ·refine Q0 (gG e _ _ (by omega) (by decide) (by decide)) (λen hen=>Q2 ?_);exact ⟨rfl,⟨hr,rfl,hen,h1,h3,Qw 0,by simp only;decide,rfl,rfl,rfl,rfl,rfl,hlo,rfl⟩,rfl,rfl,rfl⟩
set_option maxRecDepth 100000
def bl (x:By):By:=beN (x.length:Int) 2 2++x
theorem uB (x:By):(bl x).length=2+x.length:=by simp [bl,xC]
theorem wB (b x:By) (hb:b.length<2 ^ 30) (hx:x.length<=65535):wJ b x=some (b++bl x):=by
 rw [dU b x (by omega),zFd b hx];rfl
theorem wU (b:By) (k:Nat) (n:Int) (h1:1<=k) (h8:k<=8) (hb:b.length<2 ^ 30):xY b (k:Int) n=some (b++beN n k k):=by
 rw [pG b k n h1 h8 (by omega)];rfl
def bits (b:Bool):UInt8:=if b=true then 1 else 0
def sX (s:zU):By:=
 [1,u8 s.Active]++(bl (s.Seeds.getD 0 [])++(bl (s.Seeds.getD 1 [])++(bl (s.Seeds.getD 2 [])++(bl []++(bl []++(bl []++(bl []++(bl s.Entropy++(beN s.Resets 8 8++(beN 0 8 8++(beN 0 8 8++([bits s.Orderly]++(bl (0 :: beN 0 8 8)++(beN 0 8 8++([0]++(beN 0 8 8++(beN 5 8 8++(beN 100 8 8++(beN 0 8 8++(beN 0 8 8++(beN 1000 8 8++([0]))))))))))))))))))))))
theorem wk1:Q7.wrap 1=1:=rfl
theorem wk2:Q7.wrap 2=2:=rfl
theorem wk3:Q7.wrap 3=3:=rfl
theorem wk4:Q7.wrap 4=4:=rfl
theorem wk5:Q7.wrap 5=5:=rfl
theorem wk6:Q7.wrap 6=6:=rfl
theorem uD {X Y:Type} {step:X->Option (X ⊕ Y)} {x:X} {y:Y} (h:step x=some (.inr y)):zN step FU x=some y:=yD 0 (λ_=>x) rfl (λ_ h=>absurd h (Nat.not_lt_zero _)) h (xK (by decide))
theorem zY0 (a b c:Int) (x:By) (hx:x.length<2 ^ 20):wG [a,b,c] x=some (((x++beN a 8 8)++beN b 8 8)++beN c 8 8):=by
 unfold wG;refine ct rfl ?_;refine bd (a:=a) rfl ?_;refine bd (wU x 8 a (by decide) (by decide) (by omega)) ?_;refine bd (a:=((x++beN a 8 8)++beN b 8 8)++beN c 8 8) ?_ rfl;refine two (step:=wC [a,b,c]) (b:=(2,(x++beN a 8 8)++beN b 8 8)) (c:=(3,((x++beN a 8 8)++beN b 8 8)++beN c 8 8)) ?_ ?_ ?_
 ·unfold wC;exact ct rfl (bd (a:=b) rfl (bd (wU _ 8 b (by decide) (by decide) (by simp [xC];omega)) rfl))
 ·unfold wC;exact ct rfl (bd (a:=c) rfl (bd (wU _ 8 c (by decide) (by decide) (by simp [xC];omega)) rfl))
 ·unfold wC;exact cf rfl rfl
theorem zZ8 (a:Int) (x:By) (hx:x.length<2 ^ 20):wG [a] x=some (x++beN a 8 8):=by
 unfold wG;refine ct rfl ?_;refine bd (a:=a) rfl ?_;refine bd (wU x 8 a (by decide) (by decide) (by omega)) ?_;exact bd (a:=x++beN a 8 8) (uD (by unfold wC;exact cf rfl rfl)) rfl
theorem yDb (a b c d e f:Int) (x:By) (hx:x.length<2 ^ 20):wG [a,b,c,d,e,f] x=some ((((((x++beN a 8 8)++beN b 8 8)++beN c 8 8)++beN d 8 8)++beN e 8 8)++beN f 8 8):=by
 unfold wG;refine ct rfl ?_;refine bd (a:=a) rfl ?_;refine bd (wU x 8 a (by decide) (by decide) (by omega)) ?_;refine bd (a:=(((((x++beN a 8 8)++beN b 8 8)++beN c 8 8)++beN d 8 8)++beN e 8 8)++beN f 8 8) ?_ rfl;refine yD 5 (λi=>(((i+1:Nat):Int),(x++beN a 8 8)++([b,c,d,e,f].take i).flatMap (λn=>beN n 8 8))) (by simp) (λi hi=>?_) ?_ (xK (by decide))
 ·have h5:i=0∨i=1∨i=2∨i=3∨i=4:=by omega
  unfold wC;rcases h5 with rfl | rfl | rfl | rfl | rfl <;>
   exact ct rfl (bd rfl (bd (wU _ 8 _ (by decide) (by decide) (by simp [xC];omega)) (by simp [wk2,wk3,wk4,wk5,wk6,Q3])))
 ·unfold wC;refine cf rfl ?_;simp [Q3]
theorem zY4:lE ⟨[],0⟩=some (0 :: beN 0 8 8):=by decide +kernel
theorem zFe (s:zU) (h:Sst s):rF s=some (sX s):=by
 obtain ⟨a,b,c,hs,la,lb,lc⟩:=h.sd;have hse:s.Seeds.getD 0 []=a/\s.Seeds.getD 1 []=b/\s.Seeds.getD 2 []=c:=by rw [hs];exact ⟨rfl,rfl,rfl⟩
 have hen:=h.en;unfold rF;refine bd (a:=(([1,u8 s.Active]++bl a)++bl b)++bl c) ?_ ?_
 ·refine yD 3 (λi=>((i:Int),[1,u8 s.Active]++([a,b,c].take i).flatMap bl)) (by simp) (λi hi=>?_) ?_ (xK (by decide))
  ·have h3:i=0∨i=1∨i=2:=by omega
   unfold kU;rw [hs];rcases h3 with rfl | rfl | rfl
   ·exact ct rfl (bd (a:=a) rfl (bd (wB _ a (by simp) (by omega)) (by simp [wk1])))
   ·exact ct rfl (bd (a:=b) rfl (bd (wB _ b (by simp [uB];omega) (by omega)) (by simp [wk2,wk3])))
   ·exact ct rfl (bd (a:=c) rfl (bd (wB _ c (by simp [uB];omega) (by omega)) (by simp [wk2,wk3])))
  ·unfold kU;refine cf rfl (by simp)
 refine bd (a:=((((([1,u8 s.Active]++bl a)++bl b)++bl c)++bl []++bl [])++bl [])++bl []) ?_ ?_
 ·generalize hX:(([1,u8 s.Active]++bl a)++bl b)++bl c=X;have lX:X.length<200:=by rw [<- hX];simp [uB];omega
  refine yD 4 (λi=>((i:Int),X++(Q6 i ([]:By)).flatMap bl)) (by simp) (λi hi=>?_) ?_ (xK (by decide))
  ·have h3:i=0∨i=1∨i=2∨i=3:=by omega
   unfold kT;rw [h.au];rcases h3 with rfl | rfl | rfl | rfl <;>
    exact ct rfl (bd (a:=[]) rfl (bd (wB _ [] (by simp [uB];omega) (by decide)) (by simp [Q6,wk1,wk2,wk3,wk4])))
  ·unfold kT;refine cf rfl (by simp [Q6])
 generalize hX:((((([1,u8 s.Active]++bl a)++bl b)++bl c)++bl []++bl [])++bl [])++bl []=X;have lX:X.length<200:=by rw [<- hX];simp [uB];omega
 refine bd (wB X s.Entropy (by omega) (by omega)) ?_;rw [h.st,h.ck,h.mc,h.sv,h.ix,h.lo,h.ks];refine bd (zY0 s.Resets 0 0 _ (by simp [uB];omega)) ?_;refine bd (a:=bits s.Orderly) (by unfold aY bits;cases s.Orderly<;>rfl) ?_;refine bd (yG (by simp [uB,xC];omega)) ?_;refine bd zY4 ?_;refine bd (wB _ _ (by simp [uB,xC];omega) (by simp [xC])) ?_;refine bd (zZ8 0 _ (by simp [uB,xC];omega)) ?_;refine bd (yG (by simp [uB,xC];omega)) ?_;refine bd (uD (by unfold cJ;rw [h.ix];exact cf rfl rfl)) ?_;refine bd (yDb 0 5 100 0 0 1000 _ (by simp [uB,xC];omega)) ?_;refine bd (yG (by simp [uB,xC];omega)) ?_;refine bd (uD (by unfold cK;rw [h.ks];exact cf rfl rfl)) ?_;refine congrArg some ?_;rw [<- hX];unfold sX;rw [hse.1,hse.2.1,hse.2.2];simp only [Q3];rfl
set_option maxRecDepth 100000
structure Rd (r:RS) (l:By):Prop where
 m:Rem r l
 o:r.Ok
section
variable {x:By} 
theorem zH5 (b:By) (hb:b.length<2 ^ 40):∃ r,Rd r b/\sK b=some r.W:=⟨⟨b,0,0⟩,⟨⟨rfl,Qf _,rfl⟩,Qf _,hb⟩,zS8 b hb⟩
theorem rdU (h:Rd r (beN n k k++rest)) (h1:1<=k) (h8:k<=8) (h0:0<=n) (hn:n<2 ^ 62) (hs:n.toNat<256 ^ k):∃ r',Rd r' rest/\yC r.W (k:Int)=some (n,r'.W):=by
 obtain ⟨e,m⟩:=Rem.uintI h.m h8 h0 hn hs;have ok:=zH4 r k h.o;rw [e] at ok;exact ⟨r.to k,⟨m,ok⟩,by rw [rS r k h.o h1 h8,e]⟩
theorem zPa (h:Rd r (u8 n :: rest)) (h0:0<=n) (hn:n<256):∃ r',Rd r' rest/\yC r.W 1=some (n,r'.W):=by
 obtain ⟨e,m⟩:=Rem.byte h.m h0 hn;have ok:=zH4 r 1 h.o;rw [e] at ok;exact ⟨r.to 1,⟨m,ok⟩,by have:=rS r 1 h.o (by decide) (by decide);rw [e] at this;exact this⟩
theorem zOc (h:Rd r (bl x++rest)) (hx:x.length<=65535) (hk:x.length<=k):∃ r',Rd r' rest/\yQ r.W (k:Int)=some (x,r'.W):=by
 have h':=h.m;unfold bl at h';rw [Q3] at h';obtain ⟨e,m⟩:=Rem.blobN h' hx hk;have ok:=zPl r k h.o;rw [e] at ok;exact ⟨_,⟨m,ok⟩,by rw [oC r k h.o,e]⟩
theorem rdRw (h:Rd r (x++rest)) (hx:x.length=k):∃ r',Rd r' rest/\vJ r.W (k:Int)=some (x,r'.W):=by
 have e:=Rem.raw h.m hx;have ok:=zP6 r k h.o;rw [e] at ok;exact ⟨_,⟨Rem.to h.m hx,ok⟩,by rw [zD2 r k h.o,e]⟩
theorem rdE (h:Rd r []):wH r.W=some (0,r.W):=by rw [zDz r h.o,Rem.fin h.m]
theorem zLt {l:By} (h:Rd r l):xX r.W=some (0,r.W):=by unfold xX;exact congrArg some (congrArg (·,r.W) h.m.e)
theorem Rd.cast {l:By} (h:Rd r l) (e:l=l'):Rd r l':=e▸h
theorem numG (h:Rd r (beN n k k++rest)) (h1:1<=k) (h8:k<=8) (h0:0<=n) (hn:n<2 ^ 62) (hs:n.toNat<256 ^ k) (hm:n<=most):∃ r',Rd r' rest/\xJ (k:Int) most 0 r.W=some (n,0,r'.W):=by
 obtain ⟨r',g,e⟩:=rdU h h1 h8 h0 hn hs;refine ⟨r',g,?_⟩;unfold xJ;refine cf rfl ?_;refine bd e ?_;refine bd (zLt g) ?_;refine bd (a:=0) (bd (a:=false) (ct rfl (congrArg some (by simp;omega))) (cf rfl rfl)) ?_;exact cf rfl rfl
theorem zQy (h:Rd r (u8 n :: rest)) (h0:0<=n) (hn:n<256) (hm:n<=most):∃ r',Rd r' rest/\xJ 1 most 0 r.W=some (n,0,r'.W):=by
 obtain ⟨r',g,e⟩:=zPa h h0 hn;refine ⟨r',g,?_⟩;unfold xJ;refine cf rfl ?_;refine bd e ?_;refine bd (zLt g) ?_;refine bd (a:=0) (bd (a:=false) (ct rfl (congrArg some (by simp;omega))) (cf rfl rfl)) ?_;exact cf rfl rfl
theorem zHe (h:Rd r (beN n 8 8++rest)) (h0:0<=n) (hn:n<2 ^ 62):∃ r',Rd r' rest/\yU 8 0 r.W=some (n,0,r'.W):=by
 obtain ⟨r',g,e⟩:=numG (k:=8) (most:=9223372036854775807) h (by decide) (by decide) h0 hn (by omega) (by omega);exact ⟨r',g,bd e rfl⟩
theorem any1 (h:Rd r (u8 n :: rest)) (h0:0<=n) (hn:n<256):∃ r',Rd r' rest/\yU 1 0 r.W=some (n,0,r'.W):=by
 obtain ⟨r',g,e⟩:=zQy (most:=9223372036854775807) h h0 hn (by omega);exact ⟨r',g,bd e rfl⟩
theorem zQ0 (h:Rd r (bl x++rest)) (hx:x.length<=4096):∃ r',Rd r' rest/\vC 0 r.W=some (x,0,r'.W):=by
 obtain ⟨r',g,e⟩:=zOc (k:=4096) h (by omega) hx;refine ⟨r',g,?_⟩;unfold vC;exact cf rfl (bd e (bd (zLt g) rfl))
theorem zJz:∀ (L:List By) (fuel:Nat) (acc:List By) (v n:Int) (r:RS),L.length<fuel->Rd r (L.flatMap bl++rest)->(∀ x∈L,x.length<=4096)->v+L.length=n->0<=v->n<=100->acc.length<=100->(acc.length:Int)<=v ->
  ∃ r',Rd r' rest/\zN (vO n) fuel (acc,v,0,r.b,(r.at':Int),r.e)=some (acc++L,0,r'.b,(r'.at':Int),r'.e)
 | [],f+1,acc,v,n,r,_,h,_,hv,_,_,_,_=>by
  refine ⟨r,h.cast (by simp),?_⟩;simp only [zN];have:vO n (acc,v,0,r.b,(r.at':Int),r.e)=some (.inr (acc,0,r.b,(r.at':Int),r.e)):=by
   unfold vO;exact cf (by simp at hv;simp;omega) rfl
  rw [this,Qb]
 | x :: L,f+1,acc,v,n,r,hf,h,hL,hv,h0,hn,ha,hav=>by
  have hx:=hL x (W0 ..);simp only [Q8] at hf hv;obtain ⟨r1,g1,e1⟩:=zQ0 (x:=x) (rest:=L.flatMap bl++rest) (h.cast (by simp)) hx;obtain ⟨r',g',e'⟩:=zJz L f (acc++[x]) (v+1) n r1 (by omega) g1 (λy hy=>hL y (Qy _ hy)) (by omega) (by omega) hn (by simp;omega) (by simp;omega);refine ⟨r',g',?_⟩;simp only [zN];have:vO n (acc,v,0,r.b,(r.at':Int),r.e)=some (.inl (acc++[x],v+1,0,r1.b,(r1.at':Int),r1.e)):=by
   unfold vO;refine ct (by simp;omega) ?_;refine bd e1 ?_;refine bd (yG (by simp;omega)) ?_;rw [yR (by omega) (by omega)];rfl
  rw [this];simp only [e',Q3,Qx]
theorem zP7 (L:List By) (k:Int) (hk:(L.length:Int)=k) (h4:L.length<=4) (h:Rd r (L.flatMap bl++rest)) (hL:∀ x∈L,x.length<=4096):∃ r',Rd r' rest/\rM k 0 r.W=some (L,0,r'.W):=by
 obtain ⟨r',g,e⟩:=zJz L FU [] 0 k r (xK (by omega)) h hL (by omega) (Qw 0) (by omega) (by simp) (by simp);refine ⟨r',g,?_⟩;unfold rM;exact bd e rfl
theorem yAa (h:Rd r ([bits b]++rest)):∃ r',Rd r' rest/\nI 0 r.W=some (b,0,r'.W):=by
 have hb:bits b=u8 (if b=true then 1 else 0):=by cases b<;>rfl
 obtain ⟨r',g,e⟩:=zQy (n:=if b=true then 1 else 0) (most:=1) (h.cast (by rw [hb];rfl)) (by split<;>decide) (by split<;>decide) (by split<;>decide);refine ⟨r',g,bd e ?_⟩;cases b<;>rfl
theorem yA2:mP (0 :: beN 0 8 8)=some (⟨[],0⟩,0):=by decide +kernel
theorem zWw (h:Rd r (bl (0 :: beN 0 8 8)++rest)):∃ r',Rd r' rest/\rH 0 r.W=some (⟨[],0⟩,0,r'.W):=by
 obtain ⟨r',g,e⟩:=zQ0 h (by simp [xC]);refine ⟨r',g,?_⟩;unfold rH;exact bd e (cf rfl (bd yA2 rfl))
theorem yBi (s:zU) (h:Sst s):jF (sX s)=some (s,0):=by
 obtain ⟨a,b,c,hs,la,lb,lc⟩:=h.sd;have hse:s.Seeds.getD 0 []=a/\s.Seeds.getD 1 []=b/\s.Seeds.getD 2 []=c:=by rw [hs];exact ⟨rfl,rfl,rfl⟩
 have hen:=h.en;have hlen:(sX s).length<2 ^ 40:=by
  unfold sX;rw [hse.1,hse.2.1,hse.2.2];simp only [Q1,uB,xC,Q8,Qg];omega
 obtain ⟨r0,g0,e0⟩:=zH5 (sX s) hlen;unfold sX at g0;rw [hse.1,hse.2.1,hse.2.2] at g0;unfold jF;refine bd e0 ?_;obtain ⟨r1,g1,e1⟩:=any1 (n:=1) (rest:=_) (g0.cast rfl) (by decide) (by decide);refine bd e1 ?_;refine bd (a:=0) (bd (a:=false) rfl (cf rfl rfl)) ?_;obtain ⟨r2,g2,e2⟩:=zQy (n:=s.Active) (most:=3) (g1.cast rfl) (by have:=h.a0;omega) (by have:=h.a3;omega) h.a3;refine bd e2 ?_;obtain ⟨r3,g3,e3⟩:=zP7 [a,b,c] 3 rfl (by simp) (rest:=_) (g2.cast (by simp only [Qe,W2,Qb,Q3,Qu];rfl)) (by simp;omega);refine bd e3 ?_;obtain ⟨r4,g4,e4⟩:=zP7 [[],[],[],[]] 4 rfl (by simp) (rest:=_) (g3.cast (by simp only [Qe,W2,Qb,Q3];rfl)) (by simp);refine bd e4 ?_;obtain ⟨r5,g5,e5⟩:=zQ0 g4 (by omega);refine bd e5 ?_;obtain ⟨r6,g6,e6⟩:=zHe g5 h.r0 (by have:=h.r1;omega);refine bd e6 ?_;obtain ⟨r7,g7,e7⟩:=zHe g6 (by decide) (by decide);refine bd e7 ?_;obtain ⟨r8,g8,e8⟩:=zHe g7 (by decide) (by decide);refine bd e8 ?_;obtain ⟨r9,g9,e9⟩:=yAa g8;refine bd e9 ?_;obtain ⟨r10,g10,e10⟩:=zWw g9;refine bd e10 ?_;obtain ⟨r11,g11,e11⟩:=zHe g10 (by decide) (by decide);refine bd e11 ?_;obtain ⟨r12,g12,e12⟩:=zQy (n:=0) (most:=6) (g11.cast rfl) (by decide) (by decide) (by decide);refine bd e12 ?_;refine bd (uD (by unfold cG;exact cf rfl rfl)) ?_;obtain ⟨q1,k1,f1⟩:=zHe g12 (by decide) (by decide);refine bd f1 ?_;obtain ⟨q2,k2,f2⟩:=zHe k1 (by decide) (by decide);refine bd f2 ?_;obtain ⟨q3,k3,f3⟩:=zHe k2 (by decide) (by decide);refine bd f3 ?_;obtain ⟨q4,k4,f4⟩:=zHe k3 (by decide) (by decide);refine bd f4 ?_;obtain ⟨q5,k5,f5⟩:=zHe k4 (by decide) (by decide);refine bd f5 ?_;obtain ⟨q6,k6,f6⟩:=zHe k5 (by decide) (by decide);refine bd f6 ?_;obtain ⟨q7,k7,f7⟩:=zQy (n:=0) (most:=8) (rest:=[]) (k6.cast rfl) (by decide) (by decide) (by decide);refine bd f7 ?_;refine bd (a:=([],0,q7.b,(q7.at':Int),q7.e)) (uD (by unfold cL;exact cf rfl rfl)) ?_;refine bd (a:=(0,q7.b,(q7.at':Int),q7.e)) (ct rfl (bd (rdE k7) rfl)) ?_;refine cf rfl ?_;refine congrArg (λz=>some (z,(0:Int))) ?_;have h2:=h.au;have h8:=h.st;have h9:=h.ck;have h10:=h.sv;have h11:=h.mc;have h12:=h.ix;have h13:=h.lo;have h14:=h.ks;clear h;cases s;simp only at hs h2 h8 h9 h10 h11 h12 h13 h14;subst h2 h8 h9 h10 h11 h12 h13 h14 hs;rfl
end
set_option maxRecDepth 100000
def mrk (seq:Int) (p:By):By:=hs 12 [beN seq 8 8,p]
theorem zH9 (seq:Int) (p:By):(mrk seq p).length=32:=zBm _ _
theorem zNx (seq:Int) (p:By) (hp:p.length<2 ^ 20):mD seq p=some (mrk seq p):=by
 unfold mD;refine bd (wU [] 8 seq (by decide) (by decide) (by decide)) ?_;refine bd (zGh 12 [[]++beN seq 8 8,p] (by simp [tot,xC];omega)) rfl
def jB (seq:Nat) (p:By):By:=mrk seq p++(beN (seq:Int) 8 8++(beN (p.length:Int) 4 4++p))
theorem zGf (seq:Nat) (p:By):(jB seq p).length=44+p.length:=by simp [jB,zH9,xC];omega
theorem zUc (seq:Nat):Int.tmod (seq:Int) 2=((seq % 2:Nat):Int):=by rw [Int.tmod_eq_emod_of_nonneg (by omega)];rfl
theorem zQz:lY 0=some true:=rfl
theorem zHx (d:zW) (seq:Nat) (p:By) (h1:1<=seq) (h2:seq<2 ^ 30) (hp:p.length<=60000) {r:zW×Int} (hw:mZ d ((seq % 2:Nat):Int) (jB seq p)=some r):qK d 0 (seq:Int) p=some r:=by
 unfold qK;refine bd (a:=false) (cf (by simp;omega) (cf (by simp;omega) (bd zQz rfl))) ?_;refine cf rfl ?_;refine cf (by simp;omega) ?_;refine bd (zNx _ p (by omega)) ?_;have hm:=zH9 (seq:Int) p;refine bd (wU _ 8 _ (by decide) (by decide) (by omega)) ?_;refine bd (wU _ 4 _ (by decide) (by decide) (by simp [xC];omega)) ?_;refine bd (yG (by simp [xC];omega)) ?_;rw [zUc];have e:Q7.wrap (0+((seq % 2:Nat):Int))=((seq % 2:Nat):Int):=by rw [yR (by omega) (by omega)];omega
 rw [e];refine bd (a:=r) ?_ rfl;rw [<- hw];simp only [jB,Q3]
theorem zFk (seq:Nat) (p:By) (h1:1<=seq) (h2:seq<2 ^ 30) (hp:p.length<=60000):uP (jB seq p) ((seq % 2:Nat):Int)=some (p,(seq:Int),true):=by
 have hl:=zGf seq p;obtain ⟨r0,g0,e0⟩:=zH5 (jB seq p) (by omega);unfold uP;refine bd e0 ?_;unfold jB at g0;obtain ⟨r1,g1,e1⟩:=rdRw (k:=32) g0 (zH9 _ _);refine bd e1 ?_;obtain ⟨r2,g2,e2⟩:=rdU (k:=8) g1 (by decide) (by decide) (by omega) (by omega) (by omega);refine bd e2 ?_;obtain ⟨r3,g3,e3⟩:=rdU (k:=4) g2 (by decide) (by decide) (by omega) (by omega) (by omega);refine bd e3 ?_;obtain ⟨r4,g4,e4⟩:=rdRw (k:=p.length) (x:=p) (rest:=[]) (g3.cast (by simp)) rfl;refine bd e4 ?_;refine bd (a:=false) (bd (zLt g4) (cf rfl (cf (by simp;omega) (cf (by rw [zUc];simp) (bd (zNx _ p (by omega)) (congrArg some (by simp))))))) ?_;exact cf rfl rfl
theorem zOm (w:Int):uP [] w=some ([],0,false):=by
 unfold uP;refine bd (zS8 [] (by decide)) ?_;refine bd (a:=([],RS.W ⟨[],0,2⟩)) rfl ?_;refine bd (a:=(0,RS.W ⟨[],0,2⟩)) rfl ?_;refine bd (a:=(0,RS.W ⟨[],0,2⟩)) rfl ?_;refine bd (a:=([],RS.W ⟨[],0,2⟩)) rfl ?_;exact bd (a:=true) rfl (ct rfl rfl)
structure Jr (as:List By) (seq:Nat) (p:By):Prop where
 a:as.getD (seq % 2) []=jB seq p
 b:∃ q s ok,uP (as.getD (1 - seq % 2) []) ((1 - seq % 2:Nat):Int)=some (q,s,ok)/\(ok=true->s<seq)
 s1:1<=seq
 s2:seq<2 ^ 29
 pl:p.length<=60000
theorem zMn (d:zW) (seq:Nat) (p:By) (ho:d.Off=false) (h2:2<=d.Areas.length) (hal:∀ i,(d.Areas.getD i []).length<2 ^ 40) (h:Jr d.Areas seq p):oL d 0=some (p,(seq:Int),0):=by
 obtain ⟨ha,⟨q,s,ok,hb,hs⟩,s1,s2,pl⟩:=h;have hp:=zFk seq p s1 (by omega) pl;rw [<- ha] at hp;unfold oL;refine bd zQz ?_;refine cf rfl ?_;refine bd (zCr d 0 ho (by omega) (hal 0)) ?_;refine cf rfl ?_;refine bd (zCr d 1 ho (by omega) (hal 1)) ?_;refine cf rfl ?_;have h01:seq % 2=0∨seq % 2=1:=by omega
 rcases h01 with hm | hm
 ·rw [hm] at hp hb;refine bd (a:=(p,(seq:Int),true)) (bd (a:=d.Areas.getD 0 []) rfl (bd hp (bd (a:=true) (ct rfl (congrArg some (by simp;omega))) (ct rfl rfl)))) ?_;refine bd (a:=(p,(seq:Int),true)) (bd (a:=d.Areas.getD 1 []) rfl (bd hb (bd (a:=false) ?_ (cf rfl rfl)))) ?_
  ·cases ok
   ·exact cf rfl rfl
   ·exact ct rfl (congrArg some (by have:=hs rfl;simp;omega))
  ·exact cf rfl rfl
 ·rw [hm] at hp hb;cases ok
  ·refine bd (a:=([],0,false)) (bd (a:=d.Areas.getD 0 []) rfl (bd hb (bd (a:=false) (cf rfl rfl) (cf rfl rfl)))) ?_;refine bd (a:=(p,(seq:Int),true)) (bd (a:=d.Areas.getD 1 []) rfl (bd hp (bd (a:=true) (ct rfl (congrArg some (by simp;omega))) (ct rfl rfl)))) ?_;exact cf rfl rfl
  ·have hlt:=hs rfl;by_cases h0:0<s
   ·refine bd (a:=(q,s,true)) (bd (a:=d.Areas.getD 0 []) rfl (bd hb (bd (a:=true) (ct rfl (congrArg some (by simp [h0]))) (ct rfl rfl)))) ?_;refine bd (a:=(p,(seq:Int),true)) (bd (a:=d.Areas.getD 1 []) rfl (bd hp (bd (a:=true) (ct rfl (congrArg some (by simp [hlt]))) (ct rfl rfl)))) ?_;exact cf rfl rfl
   ·refine bd (a:=([],0,false)) (bd (a:=d.Areas.getD 0 []) rfl (bd hb (bd (a:=false) (ct rfl (congrArg some (by simp [h0]))) (cf rfl rfl)))) ?_;refine bd (a:=(p,(seq:Int),true)) (bd (a:=d.Areas.getD 1 []) rfl (bd hp (bd (a:=true) (ct rfl (congrArg some (by simp;omega))) (ct rfl rfl)))) ?_;exact cf rfl rfl
theorem uR (h:a<as.length):(as.set a y).getD a []=y:=by simp [List.getD_eq_getElem?_getD,h]
theorem getD_set_ne {b:Nat} (h:a≠b):(as.set a y).getD b []=as.getD b []:=by simp [List.getD_eq_getElem?_getD,List.getElem?_set_ne h]
theorem Jr.next {p':By} (h:Jr as seq p) (h2:2<=as.length) (hs:seq+1<2 ^ 29) (hp:p'.length<=60000):Jr (as.set ((seq+1) % 2) (jB (seq+1) p')) (seq+1) p':=by
 refine ⟨uR (by omega),⟨p,(seq:Int),true,?_,λ_=>by omega⟩,by omega,hs,hp⟩;rw [getD_set_ne (by omega)];have e:1 - (seq+1) % 2=seq % 2:=by omega
 rw [e,h.a];exact zFk seq p h.s1 (by have:=h.s2;omega) h.pl
theorem Jr.other (h:Jr as seq p) (ha:2<=a):Jr (as.set a y) seq p:=by
 refine ⟨by rw [getD_set_ne (by omega)];exact h.a,?_,h.s1,h.s2,h.pl⟩;rw [getD_set_ne (by omega)];exact h.b
theorem Jr.first (n:Nat) (p:By) (hn:2<=n) (hp:p.length<=60000):Jr ((Q6 n ([]:By)).set 1 (jB 1 p)) 1 p:=by
 refine ⟨uR (by simp;omega),⟨[],0,false,?_,λh=>by cases h⟩,by decide,by decide,hp⟩;rw [getD_set_ne (by decide)];have:(Q6 n ([]:By)).getD (1 - 1 % 2) []=[]:=by simp [List.getD_eq_getElem?_getD,List.getElem?_replicate];split<;>rfl
 rw [this];exact zOm _
set_option maxRecDepth 100000
def zFs (d:zF):zF:=⟨⟨d.Disk.Areas,d.Disk.Writes,d.Disk.CutAt,d.Disk.Torn,true⟩,default,false,d.Next⟩
def zP1:yF:=⟨false,false,⟨[],0⟩,0,false,0,Q6 3 default,Q6 3 default,[],[]⟩
structure Dk (d:zW) (seq:Nat) (st:zU) (m:Nat):Prop where
 ok:zMb d
 m0:d.Writes<=m
 m1:m<2 ^ 50
 n:d.Areas.length=8
 al:∀ i,(d.Areas.getD i []).length<2 ^ 39
 jr:Jr d.Areas seq (sX st)
 sst:Sst st
structure Dv (d:zF) (seq:Nat) (st:zU) (vo:yF) (m:Nat):Prop extends Dk d.Disk seq st m where
 on:d.On=true
 off:d.Disk.Off=false
 cut:d.Disk.CutAt=0
 s:d.State=⟨st,vo⟩
 nx:d.Next=(seq:Int)+1
theorem Dv.noC (h:Dv d seq st vo m):¬ isC d.Disk:=by
 have:=h.ok.w0;have h2:=h.cut;unfold isC;omega
theorem zJ8 (s:zU) (h:Sst s):(sX s).length<=400:=by
 obtain ⟨a,b,c,hs,la,lb,lc⟩:=h.sd;have hse:s.Seeds.getD 0 []=a/\s.Seeds.getD 1 []=b/\s.Seeds.getD 2 []=c:=by rw [hs];exact ⟨rfl,rfl,rfl⟩
 have hen:=h.en;unfold sX;rw [hse.1,hse.2.1,hse.2.2];simp only [Q1,uB,xC,Q8,Qg];omega
theorem zGj (h1:d.On=true) (h2:d.Disk.Off=false):vA d=some true:=by
 unfold vA;exact bd (a:=true) (ct h1 (by rw [h2];rfl)) rfl
theorem zJ6 (h1:d.On=false):vA d=some false:=by
 unfold vA;exact bd (a:=false) (cf h1 rfl) rfl
theorem zJh (h2:d.Disk.Off=true):vA d=some false:=by
 unfold vA;cases h:d.On
 ·exact bd (a:=false) (cf rfl rfl) rfl
 ·exact bd (a:=false) (ct rfl (by rw [h2];rfl)) rfl
def onD (d:zF) (seq:Nat) (st:zU):zF:=⟨⟨d.Disk.Areas,0,0,0,false⟩,⟨st,zP1⟩,true,(seq:Int)+1⟩
theorem zLl (d:zF) (seq:Nat) (st:zU) (hp:d.On=false∨d.Disk.Off=true) (h2:d.Disk.Areas.length=8) (hal:∀ i,(d.Disk.Areas.getD i []).length<2 ^ 39) (h:Jr d.Disk.Areas seq (sX st)) (hs:Sst st):sN d=some (onD d seq st,0):=by
 unfold sN;refine bd (a:=false) (hp.elim zJ6 zJh) ?_;refine cf rfl ?_;refine bd (a:=⟨d.Disk.Areas,0,0,0,false⟩) rfl ?_;refine bd (zMn ⟨d.Disk.Areas,0,0,0,false⟩ seq (sX st) rfl (by simp only;omega) (λi=>by have:=hal i;simp only;omega) h) ?_;refine cf rfl ?_;refine bd (yBi st hs) ?_;refine cf rfl ?_;refine bd rfl ?_;have:=h.s2;rw [yR (by omega) (by omega)];have e:(zU.mk st.Seeds st.Auths st.Entropy st.Active st.Resets st.Restarts st.Clock st.Orderly st.Saved st.MaxCounter [] st.Lockout st.Keys)=st:=by
  have:=hs.ix;cases st;simp only at this;rw [this]
 refine congrArg (λz=>some (z,(0:Int))) ?_;show (zF.mk _ (zV.mk (zU.mk st.Seeds st.Auths st.Entropy st.Active st.Resets st.Restarts st.Clock st.Orderly st.Saved st.MaxCounter [] st.Lockout st.Keys) _) _ _)=_;rw [e];rfl
theorem Dv.of_on (h2:d.Disk.Areas.length=8) (hal:∀ i,(d.Disk.Areas.getD i []).length<2 ^ 39) (h:Jr d.Disk.Areas seq (sX st)) (hs:Sst st) (m:Nat) (hm:m<2 ^ 50):Dv (onD d seq st) seq st zP1 m:=
 ⟨⟨⟨by show d.Disk.Areas.length<=64;omega,Qw 0,by show (0:Int)<2 ^ 60;decide⟩,by show (0:Int)<=m;omega,hm,h2,hal,h,hs⟩,rfl,rfl,rfl,rfl,rfl⟩
theorem zNb (n i:Nat):(Q6 n ([]:By)).getD i []=[]:=by simp [List.getD_eq_getElem?_getD,List.getElem?_replicate];split<;>rfl
theorem new8:zFc 8=some ⟨Q6 8 [],0,0,0,false⟩:=by decide +kernel
theorem zPb (s:zU) (h:Sst s):rF (zU.mk s.Seeds s.Auths s.Entropy s.Active s.Resets s.Restarts s.Clock s.Orderly (zD.mk [] s.Saved.Updates) s.MaxCounter [] s.Lockout [])=some (sX s):=by
 rw [<- zFe s h];have h1:=h.sv;have h2:=h.ix;have h3:=h.ks;clear h;cases s;simp only at h1 h2 h3;subst h1 h2 h3;rfl
theorem zKg (e:By) (active:Int) (he:e.length=32) (h1:1<=active) (h3:active<=3):Def (oY 8 e active) (λr=>r.2=0/\(∃ d0,r.1=zFs d0)/\∃ st,Dk r.1.Disk 1 st 1/\st.Active=active/\st.Resets=0/\∀ a,a≠1->r.1.Disk.Areas.getD a []=[]):=by
 unfold oY;refine Q0 (Q5 (a:=false) (Q:=λr=>r=false) rfl rfl) (λb hb=>?_);subst hb;refine Q4 (λh=>by cases h) (λ_=>?_);refine Q0 (zOr e active he h1 h3) (λr hr=>?_);obtain ⟨st,x⟩:=r;obtain ⟨hx,hs,ha,hr0,_⟩:=hr;simp only at hx hs ha hr0;subst hx;refine Q4 (λh=>by cases h) (λ_=>?_);have hl:=zJ8 st hs;have hrl:=zGf 1 (sX st);let dk:zW:=⟨Q6 8 [],0,0,0,false⟩;have hok:zMb dk:=⟨by decide,by decide,by decide⟩;have hw:=zGn dk 1 (jB 1 (sX st)) hok rfl (by decide) (by omega) (by decide);have hwc:wrC dk (dk.Areas.getD 1 []) (jB 1 (sX st))=jB 1 (sX st):=by
  unfold wrC zAj;rw [if_neg (show ¬ (dk.Writes+1=dk.CutAt) by decide),if_neg (show ¬ isC dk by unfold isC;decide),Qj,Qb]
 rw [hwc,show zFm dk=0 from if_neg (show ¬ isC dk by unfold isC;decide)] at hw;have hcm:=zHx dk 1 (sX st) (by decide) (by decide) (by omega) hw;refine Q0 (Q5 (Q:=λr=>r=dk) new8 rfl) (λr hr=>?_);subst hr;refine Q0 (Q5 (Q:=λr=>r=sX st) (zPb st hs) rfl) (λp hp=>?_);subst hp;refine Q0 (Q5 (Q:=λr=>r=(zA5 dk 1 (jB 1 (sX st)),0)) hcm rfl) (λr hr=>?_);subst hr;refine Q4 (λh=>by cases h) (λ_=>?_);refine Q5 (a:=(zFs ⟨zA5 dk 1 (jB 1 (sX st)),default,false,2⟩,0)) rfl ⟨rfl,⟨_,rfl⟩,st,?_,ha,hr0,λa ha=>(getD_set_ne (λh=>ha h.symm)).trans (zNb 8 a)⟩;have hj:=Jr.first 8 (sX st) (by decide) (by omega);refine ⟨⟨by show ((Q6 8 ([]:By)).set 1 (jB 1 (sX st))).length<=64;simp,by show (0:Int)<=0+1;decide,by show (0:Int)+1<2 ^ 60;decide⟩,by show (0:Int)+1<=((1:Nat):Int);decide,by decide,by show ((Q6 8 ([]:By)).set 1 (jB 1 (sX st))).length=8;simp,λi=>?_,hj,hs⟩;show (((Q6 8 ([]:By)).set 1 (jB 1 (sX st))).getD i []).length<2 ^ 39;by_cases hi:1=i
 ·subst hi;rw [uR (by simp)];omega
 ·rw [getD_set_ne hi];rw [zNb];decide
def zEc (d:zF) (a:Nat) (y:By):zF:=⟨zA5 d.Disk a y,d.State,d.On,d.Next⟩
theorem zNe (d:zF) (x:zW):kK d x 0=some (⟨x,d.State,d.On,d.Next⟩,0):=rfl
theorem zQn (hal:∀ i,(as.getD i []).length<2 ^ 39) (hy:y.length<2 ^ 39) (ha:a<as.length):∀ i,((as.set a y).getD i []).length<2 ^ 39:=λi=>by
 by_cases hi:a=i
 ·subst hi;rw [uR ha];exact hy
 ·rw [getD_set_ne hi];exact hal i
theorem Dv.set (h:Dv d seq st vo m) (ha:2<=a) (h8:a<8) (hy:y.length<2 ^ 39) (hm:m+1<2 ^ 50):Dv (zEc d a y) seq st vo (m+1):=by
 have hn:=h.n;have hok:=h.ok;have hm0:=h.m0;refine ⟨⟨⟨?_,?_,?_⟩,?_,hm,?_,?_,h.jr.other ha,h.sst⟩,h.on,?_,h.cut,h.s,h.nx⟩
 ·show (d.Disk.Areas.set a y).length<=64;simp;omega
 ·show 0<=d.Disk.Writes+1;have:=hok.w0;omega
 ·show d.Disk.Writes+1<2 ^ 60;omega
 ·show d.Disk.Writes+1<=((m+1:Nat):Int);omega
 ·show (d.Disk.Areas.set a y).length=8;simp [hn]
 ·exact zQn h.al hy (by omega)
 ·show decide (isC d.Disk)=false;exact decide_eq_false h.noC
theorem Dv.write (h:Dv d seq st vo m) (y:By) (h8:a<8) (hy:y.length<=65536):qR d (a:Int) y=some (zEc d a y,0):=by
 have hw:=zGn d.Disk a y h.ok h.off (by rw [h.n];exact h8) hy (by have:=h.al a;omega);have hc:=h.noC;have e:wrC d.Disk (d.Disk.Areas.getD a []) y=y:=by
  unfold wrC zAj;rw [if_neg (show ¬ (d.Disk.Writes+1=d.Disk.CutAt) from hc),if_neg hc,Qj,Qb]
 rw [e,show zFm d.Disk=0 from if_neg hc] at hw;unfold qR;exact bd hw (bd (zNe d _) rfl)
theorem Dv.append (h:Dv d seq st vo m) (y:By) (h8:a<8) (hy:y.length<=65536):gV d (a:Int) y=some (zEc d a (d.Disk.Areas.getD a []++y),0):=by
 have hw:=zOl d.Disk a y h.ok h.off (by rw [h.n];exact h8) hy (by have:=h.al a;omega);have hc:=h.noC;have e:apC d.Disk (d.Disk.Areas.getD a []) y=d.Disk.Areas.getD a []++y:=by
  unfold apC zAj;rw [if_neg (show ¬ (d.Disk.Writes+1=d.Disk.CutAt) from hc),Qj]
 rw [e,show zFm d.Disk=0 from if_neg hc] at hw;unfold gV;exact bd hw (bd (zNe d _) rfl)
theorem Dv.read (h:Dv d seq st vo m) (h8:a<8):sR d.Disk (a:Int)=some (d.Disk.Areas.getD a [],0):=
 zCr d.Disk a h.off (by rw [h.n];exact h8) (by have:=h.al a;omega)
set_option maxRecDepth 100000
def nmB (s:By):Bool:=decide (1<=s.length)&&decide (s.length<=12)&&s.all nameByte
def nameN (n:Nat):Bool:=(decide (97<=n)&&decide (n<=122))||(decide (48<=n)&&decide (n<=57))||decide (n=45)
theorem zOo:∀ n:Nat,n<256->(bif decide ((n:Int)<97) then (bif decide ((n:Int)<48) then (some ((n:Int) != 45)) else bif decide (57<(n:Int)) then (some ((n:Int) != 45)) else some false) else bif decide (122<(n:Int)) then (bif decide ((n:Int)<48) then (some ((n:Int) != 45)) else bif decide (57<(n:Int)) then (some ((n:Int) != 45)) else some false) else some false:Option Bool)=some (!nameN n):=by decide +kernel
theorem dN (s:By):oQ s=some (nmB s):=by
 have hd:Def (oQ s) (λr=>r=nmB s):=by
  unfold oQ;refine Q0 (P:=λb=>b=(decide (s.length<1)||decide (12<s.length))) ?_ (λb hb=>?_)
  ·refine Q4 (λh=>Q2 ?_) (λh=>Q2 ?_)
   ·have:=dT h;rw [show decide (s.length<1)=true by rw [decide_eq_true_iff];omega];rfl
   ·have:=dF h;rw [show decide (s.length<1)=false by rw [decide_eq_false_iff_not];omega,Bool.false_or];exact decide_eq_decide.2 (by omega)
  refine Q4 (λh=>Q2 ?_) (λh=>?_)
  ·rw [h] at hb;have hb':s.length<1∨12<s.length:=by
    have:=hb.symm;rw [Bool.or_eq_true,decide_eq_true_iff,decide_eq_true_iff] at this;exact this
   unfold nmB;rcases hb' with h1 | h1
   ·rw [show decide (1<=s.length)=false by rw [decide_eq_false_iff_not];omega];rfl
   ·rw [show decide (s.length<=12)=false by rw [decide_eq_false_iff_not];omega,Bool.and_false];rfl
  ·rw [h] at hb;have hb':1<=s.length/\s.length<=12:=by
    have:=hb.symm;rw [Bool.or_eq_false_iff,decide_eq_false_iff_not,decide_eq_false_iff_not] at this;omega
   have hn:nmB s=s.all nameByte:=by
    unfold nmB;rw [show decide (1<=s.length)=true by rw [decide_eq_true_iff];omega,show decide (s.length<=12)=true by rw [decide_eq_true_iff];omega];rfl
   rw [hn];refine Q0 (jP s (lG s) (λi=>∀ h:i<s.length,nameByte s[i]=true) (λr=>r=false/\∃ i,∃ h:i<s.length,nameByte s[i]=false) (by omega) (λi hi=>?_) ?_) (λy hy=>?_)
   ·unfold lG;refine Q4 (λ_=>?_) (λh=>by have:=dF h;omega);refine Q0 (Qd hi) (λc hc=>?_);subst hc;refine Q0 (P:=λb=>b=!nameByte s[i]) (Q5 (zOo s[i].toNat s[i].toNat_lt) rfl) (λb hb=>?_);refine Q4 (λh=>Q2 ⟨rfl,i,hi,?_⟩) (λh=>Q2 ⟨wO (by omega),λ_=>?_⟩)
    ·rw [h] at hb;simpa using hb.symm
    ·rw [h] at hb;simpa using hb.symm
   ·unfold lG;exact cf (by simp) rfl
   ·cases y with
    | inl r=>
     obtain ⟨rfl,i,hi,hn⟩:=hy;refine Q2 ?_;symm;rw [W1];exact ⟨_,Q9 hi,by simp [hn]⟩
    | inr u=>
     refine Q2 ?_;symm;rw [W3];intro c hc;obtain ⟨i,hi,rfl⟩:=Qi.mp hc;exact hy i hi hi
 obtain ⟨r,hr,rfl⟩:=hd;exact hr
theorem zR6 (s:By):cV s=some (nmB s):=rfl
def prB (c:UInt8):Bool:=decide (32<=c.toNat)&&decide (c.toNat<=126)
theorem zMy:∀ n:Nat,n<256->(bif decide ((n:Int)<32) then (some true) else some (decide (126<(n:Int))):Option Bool)=some (!(decide (32<=n)&&decide (n<=126))):=by decide +kernel
theorem zIi (s:By) (hs:s.length<2 ^ 40):uA s=some (s.all prB):=by
 have hd:Def (uA s) (λr=>r=s.all prB):=by
  unfold uA;refine Q0 (jP s (rA s) (λi=>∀ h:i<s.length,prB s[i]=true) (λr=>r=false/\∃ i,∃ h:i<s.length,prB s[i]=false) hs (λi hi=>?_) ?_) (λy hy=>?_)
  ·unfold rA;refine Q4 (λ_=>?_) (λh=>by have:=dF h;omega);refine Q0 (Qd hi) (λc hc=>?_);subst hc;refine Q0 (P:=λb=>b=!prB s[i]) (Q5 (zMy s[i].toNat s[i].toNat_lt) rfl) (λb hb=>?_);refine Q4 (λh=>Q2 ⟨rfl,i,hi,?_⟩) (λh=>Q2 ⟨wO (by omega),λ_=>?_⟩)
   ·rw [h] at hb;simpa using hb.symm
   ·rw [h] at hb;simpa using hb.symm
  ·unfold rA;exact cf (by simp) rfl
  ·cases y with
   | inl r=>
    obtain ⟨rfl,i,hi,hn⟩:=hy;refine Q2 ?_;symm;rw [W1];exact ⟨_,Q9 hi,by simp [hn]⟩
   | inr u=>
    refine Q2 ?_;symm;rw [W3];intro c hc;obtain ⟨i,hi,rfl⟩:=Qi.mp hc;exact hy i hi hi
 obtain ⟨r,hr,rfl⟩:=hd;exact hr
def rf:By->List By->By->List By
 | [],out,line=>if line=[] then out else []
 | c :: r,out,line=>if c=10 then (if line=[]∨4<=out.length then [] else rf r (out++[line]) []) else if prB c=true then rf r out (line++[c]) else []
theorem c10 (c:UInt8):((c.toNat:Int)==10)=decide (c=10):=by
 by_cases h:c=10
 ·subst h;rfl
 ·rw [decide_eq_false h,beq_eq_false_iff_ne];intro e;exact h (UInt8.toNat_inj.1 (by
                  have:c.toNat=10:=by omega
                  rw [this];rfl))
theorem zIx (x:zC) (hx:x.Payload.length<2 ^ 20):∀ (rest:By) (fuel i:Nat) (out:List By) (line:By),rest.length<fuel->x.Payload.drop i=rest->i<=x.Payload.length->out.length<=4->line.length<=i ->
  ∃ y,zN (xO x) fuel (out,line,(i:Int))=some y/\(match y with | .inl r=>r=[]/\rf rest out line=[] | .inr (o,l)=>rf rest out line=if l=[] then o else [])
 | [],f+1,i,out,line,_,hd,hi,_,_=>by
  have hl:i=x.Payload.length:=by
   have:=congrArg List.length hd;simp at this;omega
  refine ⟨.inr (out,line),?_,rfl⟩;simp only [zN];have:xO x (out,line,(i:Int))=some (.inr (.inr (out,line))):=by
   unfold xO;exact cf (by simp;omega) rfl
  rw [this]
 | c :: r,f+1,i,out,line,hf,hd,hi,ho,hll=>by
  have hil:i<x.Payload.length:=by
   have:=congrArg List.length hd;simp at this;omega
  have hc:idx x.Payload (i:Int)=some c:=by
   rw [yO hil];have:=Ql hil;rw [hd] at this;exact congrArg some (List.cons.inj this).1.symm
  have hr:x.Payload.drop (i+1)=r:=by
   have:=Ql hil;rw [hd] at this;exact (List.cons.inj this).2.symm
  simp only [Q8] at hf;simp only [zN];by_cases h10:c=10
  ·by_cases hb:line=[]∨4<=out.length
   ·refine ⟨.inl [],?_,rfl,by simp only [rf,if_pos h10,if_pos hb]⟩;have:xO x (out,line,(i:Int))=some (.inr (.inl [])):=by
     unfold xO;refine ct (dlt hil) (bd (a:=.inl []) (bd hc (ct (by rw [c10];simp [h10]) (bd (a:=true) ?_ (ct rfl rfl)))) rfl);by_cases h0:line=[]
     ·exact ct (by simp [h0]) rfl
     ·refine cf (by simp;exact h0) (congrArg some ?_);have:=hb.resolve_left h0;simp;omega
    rw [this]
   ·obtain ⟨y,hy,hy2⟩:=zIx x hx r f (i+1) (out++[line]) [] (by omega) hr (by omega) (by have:¬ 4<=out.length:=λh=>hb (.inr h);simp;omega) (by simp);refine ⟨y,?_,?_⟩
    ·have:xO x (out,line,(i:Int))=some (.inl (out++[line],[],((i+1:Nat):Int))):=by
      have hb1:line≠[]:=λh=>hb (.inl h);have hb2:¬ 4<=out.length:=λh=>hb (.inr h);unfold xO;refine ct (dlt hil) (bd (a:=.inr (out++[line],[])) (bd hc (ct (by rw [c10];simp [h10]) (bd (a:=false) (cf (by simp;exact hb1) (congrArg some (by simp;omega))) (cf rfl (bd (yG (by simp;omega)) rfl))))) ?_);rw [wO (show i<2 ^ 40 by omega)]
     rw [this];exact hy
    ·cases y with
     | inl r'=>simp only [rf,if_pos h10,if_neg hb];exact hy2
     | inr p=>simp only [rf,if_pos h10,if_neg hb];exact hy2
  ·have hp:(bif decide ((c.toNat:Int)<32) then (some true) else some (decide (126<(c.toNat:Int))):Option Bool)=some (!prB c):=zMy c.toNat c.toNat_lt;cases hpr:prB c with
   | false=>
    refine ⟨.inl [],?_,rfl,by simp only [rf,if_neg h10,hpr];rfl⟩;have:xO x (out,line,(i:Int))=some (.inr (.inl [])):=by
     unfold xO;refine ct (dlt hil) (bd (a:=.inl []) (bd hc (cf (by rw [c10];simp [h10]) (bd hp (ct (by rw [hpr];rfl) rfl)))) rfl)
    rw [this]
   | true=>
    obtain ⟨y,hy,hy2⟩:=zIx x hx r f (i+1) out (line++[c]) (by omega) hr (by omega) ho (by simp;omega);refine ⟨y,?_,?_⟩
    ·have:xO x (out,line,(i:Int))=some (.inl (out,line++[c],((i+1:Nat):Int))):=by
      unfold xO;refine ct (dlt hil) (bd (a:=.inr (out,line++[c])) (bd hc (cf (by rw [c10];simp [h10]) (bd hp (cf (by rw [hpr];rfl) (bd (yG (by simp;omega)) rfl))))) ?_);rw [wO (show i<2 ^ 40 by omega)]
     rw [this];exact hy
    ·cases y with
     | inl r'=>simp only [rf,if_neg h10,hpr,if_true];exact hy2
     | inr p=>simp only [rf,if_neg h10,hpr,if_true];exact hy2
theorem zD6 (x:zC) (hx:x.Payload.length<2 ^ 20):vV x=some (rf x.Payload [] []):=by
 obtain ⟨y,hy,hy2⟩:=zIx x hx x.Payload FU 0 [] [] (xK (by omega)) rfl (by omega) (by simp) (by simp);unfold vV;refine bd hy ?_;cases y with
 | inl r=>obtain ⟨rfl,h⟩:=hy2;rw [h]
 | inr p=>
  obtain ⟨o,l⟩:=p;simp only at hy2 ⊢;by_cases hl:l=[]
  ·rw [if_pos hl] at hy2;exact cf (by simp [hl]) (by rw [hy2])
  ·rw [if_neg hl] at hy2;exact ct (by have:=Qr.2 hl;simp;omega) (by rw [hy2])
set_option maxRecDepth 100000
theorem zKc:∀ l:By,(Qn l 10=-1/\(10:UInt8)∉l)∨∃ w r,l=w++10 :: r/\(10:UInt8)∉w/\Qn l 10=(w.length:Int)
 | []=>.inl ⟨rfl,by simp⟩
 | b :: l=>by
  by_cases hb:b=10
  ·subst hb;exact .inr ⟨[],l,rfl,by simp,by simp [Qn]⟩
  ·have hne:(b==10)=false:=by rw [beq_eq_false_iff_ne];exact hb
   rcases zKc l with ⟨h1,h2⟩ | ⟨w,r,h1,h2,h3⟩
   ·refine .inl ⟨by unfold Qn;rw [hne,h1];rfl,?_⟩;simp only [Qo,not_or];exact ⟨λe=>hb e.symm,h2⟩
   ·refine .inr ⟨b :: w,r,by rw [h1];rfl,?_,?_⟩
    ·simp only [Qo,not_or];exact ⟨λe=>hb e.symm,h2⟩
    ·unfold Qn;rw [hne,h3];have:((w.length:Int)==-1)=false:=by rw [beq_eq_false_iff_ne];omega
     simp only [this,Q8];simp
theorem zMw:∀ (w r:By) (out:List By) (line:By),(10:UInt8)∉w->rf (w++10 :: r) out line=if w.all prB=true then (if line++w=[]∨4<=out.length then [] else rf r (out++[line++w]) []) else []
 | [],r,out,line,_=>by simp [rf]
 | c :: w,r,out,line,h=>by
  simp only [Qo,not_or] at h;have hc:¬ c=10:=λe=>h.1 e.symm;simp only [List.cons_append,rf,if_neg hc];rw [zMw w r out (line++[c]) h.2];cases hp:prB c with
  | false=>simp [hp]
  | true=>simp [hp]
theorem zR9:∀ (w:By) (out:List By) (line:By),(10:UInt8)∉w->(w≠[]∨line≠[])->rf w out line=[]
 | [],out,line,_,h=>by simp only [rf];rw [if_neg (by simpa using h)]
 | c :: w,out,line,h,_=>by
  simp only [Qo,not_or] at h;have hc:¬ c=10:=λe=>h.1 e.symm;simp only [rf,if_neg hc];split
  ·exact zR9 w out (line++[c]) h.2 (.inr (by simp))
  ·rfl
theorem zTm:∀ (n:Nat) (rest:By) (out:List By) (fuel:Nat),rest.length<=n->n<fuel->out.length<=4->rest.length<2 ^ 20 ->
  ∃ y,zN wT fuel (out,rest)=some y/\(match y with | .inl r=>r=[]/\rf rest out []=[] | .inr o=>rf rest out []=o):=by
 intro n;induction n with
 | zero=>
  intro rest out fuel hn hf ho hl;obtain ⟨f,rfl⟩:∃ f,fuel=f+1:=⟨fuel - 1,by omega⟩;have:rest=[]:=List.eq_nil_of_length_eq_zero (by omega);subst this;refine ⟨.inr out,?_,rfl⟩;simp only [zN];have:wT (out,[])=some (.inr (.inr out)):=by unfold wT;exact cf rfl rfl
  rw [this]
 | succ n ih=>
  intro rest out fuel hn hf ho hl;obtain ⟨f,rfl⟩:∃ f,fuel=f+1:=⟨fuel - 1,by omega⟩;by_cases h0:rest=[]
  ·subst h0;refine ⟨.inr out,?_,rfl⟩;simp only [zN];have:wT (out,[])=some (.inr (.inr out)):=by unfold wT;exact cf rfl rfl
   rw [this]
  have hpos:0<rest.length:=Qr.2 h0;simp only [zN];have bad:∀ (v:Int),tJ rest 10=some v->((bif decide (v<1) then (some true) else bif ((out.length:Int)==4) then (some true) else (sub rest 0 v).bind λv_1130=>(uA v_1130).bind λv_1131=>some (!v_1131):Option Bool)=some true)->wT (out,rest)=some (.inr (.inl [])):=by
   intro v hv hc;unfold wT;exact ct (by simp;omega) (bd hv (bd hc (ct rfl rfl)))
  rcases zKc rest with ⟨h1,h2⟩ | ⟨w,r,h1,h2,h3⟩
  ·refine ⟨.inl [],?_,rfl,zR9 rest out [] h2 (.inl h0)⟩;rw [bad (-1) (by unfold tJ;rw [h1]) (ct rfl rfl)]
  ·have hlen:rest.length=w.length+1+r.length:=by rw [h1];simp;omega
   have hib:tJ rest 10=some (w.length:Int):=by unfold tJ;rw [h3]
   have htk:(rest.drop 0).take (w.length - 0)=w:=by rw [h1];simp
   have hsub:sub rest 0 (w.length:Int)=some w:=by
    have:=sP (l:=rest) (a:=0) (b:=w.length) (Qf _) (by omega);rw [htk] at this;exact this
   have hpr:=zIi w (by omega);have hrf:=zMw w r out [] h2;rw [<- h1,Qu] at hrf;by_cases hw:w=[]
   ·refine ⟨.inl [],?_,rfl,?_⟩
    ·rw [bad _ hib (ct (by simp [hw]) rfl)]
    ·rw [hrf,if_pos (show w=[]∨4<=out.length from .inl hw)];simp
   have hw1:0<w.length:=Qr.2 hw;by_cases h4:out.length=4
   ·refine ⟨.inl [],?_,rfl,?_⟩
    ·rw [bad _ hib (cf (by simp;omega) (ct (by simp [h4]) rfl))]
    ·rw [hrf,if_pos (show w=[]∨4<=out.length from .inr (by omega))];simp
   have hstep:(sub rest 0 (w.length:Int)).bind (λv_1130=>(uA v_1130).bind λv_1131=>some (!v_1131))=some (!w.all prB):=bd hsub (bd hpr rfl);cases hp:w.all prB with
   | false=>
    refine ⟨.inl [],?_,rfl,by rw [hrf,hp];rfl⟩;rw [bad _ hib (cf (by simp;omega) (cf (by simp;omega) (hstep.trans (by rw [hp];rfl))))]
   | true=>
    obtain ⟨y,hy,hy2⟩:=ih r (out++[w]) f (by omega) (by omega) (by simp;omega) (by omega);have hr2:(rest.drop (w.length+1)).take (rest.length - (w.length+1))=r:=by
     rw [Qc (by simp)];rw [h1];simp
    have hsub2:sub rest (((w.length+1:Nat)):Int) (rest.length:Int)=some r:=by
     have:=sP (l:=rest) (a:=w.length+1) (b:=rest.length) (by omega) (Qh _);rw [hr2] at this;exact this
    have:wT (out,rest)=some (.inl (out++[w],r)):=by
     unfold wT;refine ct (by simp;omega) (bd hib (bd (a:=false) (cf (by simp;omega) (cf (by simp;omega) (hstep.trans (by rw [hp];rfl)))) (cf rfl ?_)));refine bd hsub (bd (yG (by simp;omega)) ?_);rw [wO (show w.length<2 ^ 40 by omega)];exact bd hsub2 rfl
    rw [this];refine ⟨y,hy,?_⟩;rw [hrf,hp,if_pos rfl,if_neg (show ¬ (w=[]∨4<=out.length) by rintro (h | h);exact hw h;omega)];exact hy2
theorem zF3 (x:zC) (hx:x.Payload.length<2 ^ 20):kH x=vV x:=by
 rw [zD6 x hx];obtain ⟨y,hy,hy2⟩:=zTm x.Payload.length x.Payload [] FU (Qh _) (xK (by omega)) (by simp) hx;unfold kH;refine bd hy ?_;cases y with
 | inl r=>obtain ⟨rfl,h⟩:=hy2;rw [h]
 | inr o=>simp only at hy2 ⊢;rw [hy2]
theorem eZ (x:zC):tM x=vH x:=by
 unfold tM vH;rw [dN,zR6];refine congrArg _ (funext λv=>?_);cases v with
 | true=>rfl
 | false=>
  simp only [Option.bind_some,cond_false];cases nmB x.Name with
  | false=>rfl
  | true=>
   simp only [Bool.not_true,cond_false];cases h:decide (64<(x.Payload.length:Int)) with
   | true=>rfl
   | false=>
    rw [decide_eq_false_iff_not] at h;rw [zF3 x (by omega)]
theorem zDt (x:zC):Def (vH x) (λr=>0<=r/\(r=0->1<=x.Role/\x.Role<=4/\0<=x.Version/\x.Version<=1000000/\x.Name.length<=12/\x.Payload.length<=64)):=by
 unfold vH;refine Q0 (P:=λb=>b=(decide (x.Role<1)||decide (4<x.Role)||decide (x.Version<0)||decide (1000000<x.Version))) ?_ (λb hb=>?_)
 ·cases h1:decide (x.Role<1)<;>cases h2:decide (4<x.Role)<;>cases h3:decide (x.Version<0)<;>exact Q2 (by simp)
 refine Q4 (λh=>Q2 ⟨by decide,λh=>by cases h⟩) (λh=>?_);rw [h] at hb;have hb:=hb.symm;simp only [Bool.or_eq_false_iff,decide_eq_false_iff_not] at hb;refine Q0 (Q5 (dN x.Name) (Q:=λr=>r=nmB x.Name) rfl) (λn hn=>?_);subst hn;refine Q4 (λh=>Q2 ⟨by decide,λh=>by cases h⟩) (λhn=>?_);refine Q4 (λh=>Q2 ⟨by decide,λh=>by cases h⟩) (λh=>?_);rw [decide_eq_false_iff_not] at h;refine Q0 (P:=λ_=>True) ?_ (λb _=>?_)
 ·refine Q4 (λ_=>Q0 (Q5 (zD6 x (by omega)) (Q:=λ_=>True) trivial) (λ_ _=>Q2 trivial)) (λ_=>Q2 trivial)
 refine Q4 (λh=>Q2 ⟨by decide,λh=>by cases h⟩) (λ_=>Q2 ⟨by decide,λ_=>⟨by omega,by omega,by omega,by omega,?_,by omega⟩⟩);simp only [Bool.not_eq_false',nmB,Bool.and_eq_true,decide_eq_true_iff] at hn;exact hn.1.2
set_option maxRecDepth 100000
theorem zDc {X X' Y Y':Type} {f:X->Option (X ⊕ Y)} {g:X'->Option (X' ⊕ Y')} (R:X->X'->Prop) (S:Y->Y'->Prop)
  (h:∀ x x',R x x'->(f x=none/\g x'=none)∨(∃ y y',f x=some (.inl y)/\g x'=some (.inl y')/\R y y')∨∃ y y',f x=some (.inr y)/\g x'=some (.inr y')/\S y y') :
  ∀ (fuel:Nat) (x:X) (x':X'),R x x'->(zN f fuel x=none/\zN g fuel x'=none)∨∃ y y',zN f fuel x=some y/\zN g fuel x'=some y'/\S y y'
 | 0,_,_,_=>.inl ⟨rfl,rfl⟩
 | n+1,x,x',hr=>by
  simp only [zN];rcases h x x' hr with ⟨h1,h2⟩ | ⟨y,y',h1,h2,h3⟩ | ⟨y,y',h1,h2,h3⟩
  ·rw [h1,h2];exact .inl ⟨rfl,rfl⟩
  ·rw [h1,h2];exact zDc R S h n y y' h3
  ·rw [h1,h2];exact .inr ⟨y,y',rfl,rfl,h3⟩
def zAm (x:zC):Prop:=vH x=some 0
theorem sB.ok (h:sB x):zAm x:=cB x h
theorem zAm.f (h:zAm x):1<=x.Role/\x.Role<=4/\0<=x.Version/\x.Version<=1000000/\x.Name.length<=12/\x.Payload.length<=64:=by
 obtain ⟨r,e,_,h2⟩:=zDt x;rw [h] at e;exact h2 (Qv e).symm
theorem zLj (l:List zC) (i:Nat) (hi:i<l.length) (h8:l.length<=8):zN (wL l[i] (l.take i)) FU 0=zN (wF l (i:Int)) FU 0:=by
 have:=zDc (f:=wL l[i] (l.take i)) (g:=wF l (i:Int)) (λa b=>a=b/\∃ k:Nat,a=(k:Int)) (λa b=>a=b) ?_ FU 0 0 ⟨rfl,0,rfl⟩
 ·rcases this with ⟨a,b⟩ | ⟨y,y',a,b,rfl⟩
  ·rw [a,b]
  ·rw [a,b]
 ·rintro a _ ⟨rfl,k,rfl⟩;right;have hlen:(l.take i).length=i:=by simp;omega
  by_cases hk:k<i
  ·have hkl:k<l.length:=by omega
   have hx:idx (l.take i) (k:Int)=some l[k]:=by rw [yO (by omega)];simp
   have hg:((l[k]).Role==(l[i]).Role&&(l[k]).Name==(l[i]).Name)=true->wL l[i] (l.take i) (k:Int)=some (.inr (.inl 42))/\wF l (i:Int) (k:Int)=some (.inr (.inl 42)):=by
    intro hb;rw [Bool.and_eq_true] at hb;constructor
    ·unfold wL;exact ct (by rw [hlen];simp;omega) (bd hx (bd (a:=true) (ct hb.1 (congrArg some hb.2)) (ct rfl rfl)))
    ·unfold wF;exact ct (by simp;omega) (bd (a:=true) (bd (yO hkl) (bd (yO hi) (ct hb.1 (bd (yO hkl) (bd (yO hi) (congrArg some hb.2)))))) (ct rfl rfl))
   have hn:((l[k]).Role==(l[i]).Role&&(l[k]).Name==(l[i]).Name)=false->wL l[i] (l.take i) (k:Int)=some (.inl ((k+1:Nat):Int))/\wF l (i:Int) (k:Int)=some (.inl ((k+1:Nat):Int)):=by
    intro hb;have hw:Q7.wrap ((k:Int)+1)=((k+1:Nat):Int):=wO (by omega);constructor
    ·unfold wL;refine ct (by rw [hlen];simp;omega) (bd hx (bd (a:=false) ?_ (cf rfl (by rw [hw]))));cases hr:(l[k]).Role==(l[i]).Role with
     | false=>rfl
     | true=>rw [hr] at hb;exact congrArg some hb
    ·unfold wF;refine ct (by simp;omega) (bd (a:=false) (bd (yO hkl) (bd (yO hi) ?_)) (cf rfl (by rw [hw])));cases hr:(l[k]).Role==(l[i]).Role with
     | false=>rfl
     | true=>rw [hr] at hb;exact ct rfl (bd (yO hkl) (bd (yO hi) (congrArg some hb)))
   cases hb:((l[k]).Role==(l[i]).Role&&(l[k]).Name==(l[i]).Name) with
   | true=>exact .inr ⟨_,_,(hg hb).1,(hg hb).2,rfl⟩
   | false=>exact .inl ⟨_,_,(hn hb).1,(hn hb).2,rfl,k+1,rfl⟩
  ·refine .inr ⟨.inr (),.inr (),?_,?_,rfl⟩
   ·unfold wL;exact cf (by rw [hlen];simp;omega) rfl
   ·unfold wF;exact cf (by simp;omega) rfl
theorem zHw (l:List zC) (i:Nat) (hi:i<l.length) (h8:l.length<=8):Def (zN (wF l (i:Int)) FU 0) (λr=>r=.inr ()∨r=.inl 42):=by
 refine Qs (λs=>∃ k:Nat,s=(k:Int)/\k<=i) (λs=>i - s.toNat) (λs hs=>?_) ⟨0,rfl,by omega⟩ (by simp;omega);obtain ⟨k,rfl,hk⟩:=hs;unfold wF;refine Q4 (λh=>?_) (λh=>Q2 (.inl rfl));have hki:=dT h;refine Q0 (P:=λ_=>True) ?_ (λb _=>?_)
 ·refine Q0 (Qd (show k<l.length by omega)) (λy _=>?_);refine Q0 (Qd hi) (λz _=>?_);refine Q4 (λ_=>?_) (λ_=>Q2 trivial);refine Q0 (Qd (show k<l.length by omega)) (λy _=>?_);exact Q0 (Qd hi) (λz _=>Q2 trivial)
 refine Q4 (λ_=>Q2 (.inr rfl)) (λ_=>Q2 ?_);rw [wO (by omega)];exact ⟨⟨k+1,rfl,by omega⟩,by simp only [Qt];omega⟩
theorem zN0 {c:Bool} {o:Option Bool} (h:o=some b):(bif c then some true else o)=some (c||b):=by cases c<;>simp [h]
theorem zW0 (l:List zC) (h8:l.length<=8) :
  ∃ y,xR l=xR l/\zN (xR l) FU (false,false,0)=some y/\(match y with
   | .inl r=>zN (xU l) FU (0,[false,false,false,false,false])=some (.inl r)/\0<r
   | .inr (fw,k)=>(∃ a b c,zN (xU l) FU (0,[false,false,false,false,false])=some (.inr [a,fw,b,k,c]))/\∀ x∈l,zAm x):=by
 have tot:Def (zN (xR l) FU (false,false,0)) (λy=>match y with | .inl r=>0<r | .inr _=>∀ x∈l,zAm x):=by
  refine Qs (λs=>∃ i:Nat,s.2.2=(i:Int)/\i<=l.length/\∀ x∈l.take i,zAm x) (λs=>l.length - s.2.2.toNat) (λs hs=>?_) ⟨0,rfl,by omega,by simp⟩ (by simp;omega);obtain ⟨f,k,i'⟩:=s;obtain ⟨i,g1,g2,g3⟩:=hs;simp only at g1;subst g1;unfold xR;refine Q4 (λh=>?_) (λh=>Q2 ?_)
  ·have hi:i<l.length:=by have:=dT h;omega
   refine Q0 (Qd hi) (λy hy=>?_);subst hy;refine Q0 ((zDt l[i]).get 0 |> λe=>(⟨_,e.1,⟨e.1,e.2.1⟩⟩:Def _ (λr=>vH l[i]=some r/\0<=r))) (λr hr=>?_);refine Q4 (λh=>Q2 ?_) (λh0=>?_)
   ·have:r≠0:=by simpa using h
    have:=hr.2;show 0<r;omega
   have h0':r=0:=by simpa using h0
   subst h0';refine Q0 (P:=λ_=>True) ?_ (λb hb=>?_)
   ·refine Q4 (λh0=>?_) (λ_=>Q2 trivial);have h0':=dT h0;refine Q0 (Qd hi) (λy hy=>?_);rw [yR (by omega) (by omega),show (i:Int) - 1=((i - 1:Nat):Int) by omega];exact Q0 (Qd (show i - 1<l.length by omega)) (λy hy=>Q2 trivial)
   refine Q4 (λh=>Q2 (show (0:Int)<41 by decide)) (λ_=>?_);refine Q0 (zHw l i hi h8) (λr' hr'=>?_);rcases hr' with rfl | rfl
   ·refine Q0 (P:=λ_=>True) (Q4 (λ_=>Q2 trivial) (λ_=>Q0 (Qd hi) (λy _=>Q2 trivial))) (λb1 _=>?_);refine Q0 (P:=λ_=>True) (Q4 (λ_=>Q2 trivial) (λ_=>Q0 (Qd hi) (λy _=>Q2 trivial))) (λb2 _=>Q2 ?_);rw [wO (by omega)];refine ⟨⟨i+1,rfl,by omega,λx hx=>?_⟩,by simp only [Qt];omega⟩;rcases lT hi hx with hx | rfl
    ·exact g3 x hx
    ·exact hr.1
   ·exact Q2 (show (0:Int)<42 by decide)
  ·have:=dF h;rw [Qc (by omega)] at g3;exact g3
 obtain ⟨y,hy,hy2⟩:=tot;have sim:=zDc (f:=xU l) (g:=xR l) (λs t=>∃ (i:Nat) (a b c:Bool),s=((i:Int),[a,t.1,b,t.2.1,c])/\t.2.2=(i:Int)/\i<=l.length)
  (λy z=>match y,z with | .inl r,.inl r'=>r=r' | .inr s,.inr t=>∃ a b c,s=[a,t.1,b,t.2,c] | _,_=>False) ?_ FU (0,[false,false,false,false,false]) (false,false,0) ⟨0,false,false,false,rfl,rfl,by omega⟩
 ·rcases sim with ⟨_,b⟩ | ⟨s,t,a,b,c⟩
  ·rw [hy] at b;cases b
  ·rw [hy] at b;obtain rfl:=Qv b;refine ⟨y,rfl,hy,?_⟩;cases y with
   | inl r=>
    cases s with
    | inl r'=>exact ⟨by rw [a,show r'=r from c],hy2⟩
    | inr _=>exact c.elim
   | inr t=>
    cases s with
    | inl _=>exact c.elim
    | inr s=>
     obtain ⟨x1,x2,x3,x4⟩:=c;exact ⟨⟨x1,x2,x3,by rw [a,x4]⟩,hy2⟩
 ·rintro ⟨s1,s2⟩ ⟨fw,k,i'⟩ ⟨i,a,b,c,e,rfl,hle⟩;obtain ⟨rfl,rfl⟩:=Prod.mk.inj e;right;by_cases hi:i<l.length
  ·have hd:decide ((i:Int)<(l.length:Int))=true:=by simp;omega
   obtain ⟨r,er,r0,hr⟩:=zDt l[i];have er':tM l[i]=some r:=(eZ _).trans er;by_cases h0:r=0
   rotate_left
   ·refine .inr ⟨.inl r,.inl r,?_,?_,rfl⟩
    ·unfold xU;exact ct hd (bd (yO hi) (bd er' (ct (b1 h0) rfl)))
    ·unfold xR;exact ct hd (bd (yO hi) (bd er (ct (b1 h0) rfl)))
   obtain ⟨p1,p4,_⟩:=hr h0;subst h0;have ho:∃ o,(bif decide (0<(i:Int)) then (idx l (Q7.wrap ((i:Int) - 1))).bind λv_1235=>some (decide (l[i].Role<v_1235.Role)) else some false:Option Bool)=some o/\(bif decide (0<(i:Int)) then (idx l (i:Int)).bind λv_1313=>(idx l (Q7.wrap ((i:Int) - 1))).bind λv_1314=>some (decide (v_1313.Role<v_1314.Role)) else some false:Option Bool)=some o:=by
    cases hz:decide (0<(i:Int)) with
    | false=>exact ⟨false,rfl,rfl⟩
    | true=>
     have hz':0<(i:Int):=of_decide_eq_true hz;have hw:Q7.wrap ((i:Int) - 1)=((i - 1:Nat):Int):=by rw [yR (by omega) (by omega)];omega
     refine ⟨decide (l[i].Role<(l[i - 1]'(by omega)).Role),?_,?_⟩
     ·rw [hw];exact bd (yO (by omega)) rfl
     ·rw [hw];exact bd (yO hi) (bd (yO (by omega)) rfl)
   obtain ⟨o,o1,o2⟩:=ho;cases o with
   | true=>
    refine .inr ⟨.inl 41,.inl 41,?_,?_,rfl⟩
    ·unfold xU;exact ct hd (bd (yO hi) (bd er' (cf rfl (bd o1 (ct rfl rfl)))))
    ·unfold xR;exact ct hd (bd (yO hi) (bd er (cf rfl (bd o2 (ct rfl rfl)))))
   | false=>
    have hsub:sub l 0 (i:Int)=some (l.take i):=by
     have:=sP (l:=l) (a:=0) (b:=i) (Qf _) (by omega);simpa using this
    obtain ⟨z,ez,hz⟩:=zHw l i hi h8;have ez':=(zLj l i hi h8).trans ez;rcases hz with rfl | rfl
    rotate_left
    ·refine .inr ⟨.inl 42,.inl 42,?_,?_,rfl⟩
     ·unfold xU;exact ct hd (bd (yO hi) (bd er' (cf rfl (bd o1 (cf rfl (bd hsub (bd ez' rfl)))))))
     ·unfold xR;exact ct hd (bd (yO hi) (bd er (cf rfl (bd o2 (cf rfl (bd ez rfl))))))
    have hw:Q7.wrap ((i:Int)+1)=((i+1:Nat):Int):=wO (by omega);obtain ⟨n,hn⟩:=Qm (show 0<=l[i].Role by omega);have hn4:1<=n/\n<=4:=by omega
    have hix:ixN 5 l[i].Role=some n:=by rw [hn];simp [ixN];omega
    refine .inl ⟨(((i+1:Nat):Int),[a,fw,b,k,c].set n true),(fw||(l[i].Role==1),k||(l[i].Role==3),((i+1:Nat):Int)),?_,?_,?_⟩
    ·unfold xU;refine ct hd (bd (yO hi) (bd er' (cf rfl (bd o1 (cf rfl (bd hsub (bd ez' ?_)))))));refine bd hix (bd (a:=[a,fw,b,k,c].set n true) ?_ (by rw [hw]));simp [tQ];omega
    ·unfold xR;refine ct hd (bd (yO hi) (bd er (cf rfl (bd o2 (cf rfl (bd ez ?_))))));refine bd (zN0 (bd (yO hi) rfl)) (bd (zN0 (bd (yO hi) rfl)) (by rw [hw]))
    ·rw [hn];have:n=1∨n=2∨n=3∨n=4:=by omega
     rcases this with rfl | rfl | rfl | rfl
     ·exact ⟨i+1,a,b,c,by simp,rfl,by omega⟩
     ·exact ⟨i+1,a,true,c,by simp,rfl,by omega⟩
     ·exact ⟨i+1,a,b,c,by simp,rfl,by omega⟩
     ·exact ⟨i+1,a,b,true,by simp,rfl,by omega⟩
  ·have hd:decide ((i:Int)<(l.length:Int))=false:=by simp;omega
   refine .inr ⟨.inr [a,fw,b,k,c],.inr (fw,k),?_,?_,a,b,c,rfl⟩
   ·unfold xU;exact cf hd rfl
   ·unfold xR;exact cf hd rfl
theorem zOy (l:List zC) (hl:l.length<2 ^ 40):Def (vU l) (λr=>wK l=some r/\0<=r/\(r=0->1<=l.length/\l.length<=8/\∀ x∈l,zAm x)):=by
 by_cases hb:l.length=0∨8<l.length
 ·have hc:(bif ((l.length:Int)==0) then (some true) else some (decide (8<(l.length:Int))):Option Bool)=some true:=by
   rcases hb with hb | hb
   ·exact ct (by simp [hb]) rfl
   ·exact cf (by rw [beq_eq_false_iff_ne];omega) (congrArg some (by simp;omega))
  refine ⟨1,?_,?_,by decide,λe=>by cases e⟩
  ·unfold vU;exact bd hc (ct rfl rfl)
  ·unfold wK;exact bd hc (ct rfl rfl)
 ·have hc:(bif ((l.length:Int)==0) then (some true) else some (decide (8<(l.length:Int))):Option Bool)=some false:=cf (by rw [beq_eq_false_iff_ne];omega) (congrArg some (by simp;omega));obtain ⟨y,_,hy,hy2⟩:=zW0 l (by omega);cases y with
  | inl r=>
   refine ⟨r,?_,?_,Int.le_of_lt hy2.2,λe=>absurd e (by have:=hy2.2;omega)⟩
   ·unfold vU;exact bd hc (cf rfl (bd hy rfl))
   ·unfold wK;exact bd hc (cf rfl (bd hy2.1 rfl))
  | inr t=>
   obtain ⟨fw,k⟩:=t;obtain ⟨⟨a,b,c,h1⟩,h2⟩:=hy2;refine ⟨if fw&&k then 0 else 40,?_,?_,by split<;>decide,λ_=>⟨by omega,by omega,h2⟩⟩
   ·unfold vU;refine bd hc (cf rfl (bd hy ?_));cases fw<;>cases k<;>rfl
   ·unfold wK;refine bd hc (cf rfl (bd h1 ?_));cases fw<;>cases k<;>rfl
set_option maxRecDepth 100000
theorem zNu (x:zC) (h:x.Name.length<=65535) (h2:x.Payload.length<=65535):pI x=beN x.Role 1 1++(beN x.Version 4 4++(bl x.Name++(bl x.Payload++[]))):=by
 unfold pI bl;rw [zFd _ h2,zFd _ h];simp [sQ]
theorem zE7 (h:zAm x):(pI x).length<=85:=by
 obtain ⟨_,_,_,_,h5,h6⟩:=h.f;rw [zNu x (by omega) (by omega)];simp only [Q1,xC,uB,Qg];omega
theorem zT4 (h:zAm x):nT x=some (pI x):=by
 obtain ⟨_,_,_,_,h5,h6⟩:=h.f;unfold nT;refine bd ((eZ x).trans h) (cf rfl ?_);have h3:(sQ (sQ [] 1 x.Role) 4 x.Version).length=5:=by rw [vN,vN];rfl
 have h4:=aU (sQ (sQ [] 1 x.Role) 4 x.Version) x.Name;refine bd (pG [] 1 _ (by omega) (by omega) (by simp)) ?_;refine bd (pG _ 4 _ (by omega) (by omega) (by rw [vN];simp)) ?_;refine bd (ckT (zEd (by omega))) ?_;refine bd (dU _ _ (by omega)) ?_;exact bd (dU _ _ (by omega)) rfl
def aI (l:List zC):By:=beN (l.length:Int) 1 1++l.flatMap λx=>bl (pI x)
structure zGu (l:List zC):Prop where
 r:vU l=some 0
 p:wK l=some 0
 h1:1<=l.length
 h8:l.length<=8
 im:∀ x∈l,zAm x
theorem chOk (hl:l.length<2 ^ 40) (h:vU l=some 0):zGu l:=by
 obtain ⟨r,e,h1,_,h2⟩:=zOy l hl;have:r=0:=Qv (e.symm.trans h);subst this;obtain ⟨a,b,c⟩:=h2 rfl;exact ⟨e,h1,a,b,c⟩
theorem lB.ok (h:lB l):zGu l:=chOk (by have:=h.len;omega) (zBb l h)
theorem zNr (l:List zC) (h:∀ x∈l,zAm x):(l.flatMap λx=>bl (pI x)).length<=87*l.length:=by
 induction l with
 | nil=>simp
 | cons x l ih=>
  have h1:=zE7 (h x (by simp));have h2:=ih λy hy=>h y (by simp [hy]);simp only [Qe,Q1,uB,Q8];omega
theorem bW (h:zGu l):8<=(aI l).length/\(aI l).length<=697:=by
 have h1:=zNr l h.im;have h8:=h.h8;refine ⟨?_,by unfold aI;rw [Q1,xC];omega⟩;obtain ⟨x,l',rfl⟩:∃ x l',l=x :: l':=by
  cases l with
  | nil=>exact absurd h.h1 (by decide)
  | cons x l'=>exact ⟨x,l',rfl⟩
 have:=(zFu x).1;unfold aI;simp only [Qe,Q1,uB,xC];omega
theorem zPr (hi:i<l.length):((l.take (i+1)).flatMap λx=>bl (pI x))=((l.take i).flatMap λx=>bl (pI x))++bl (pI l[i]):=by
 rw [Qa,Qk];simp [hi]
theorem zSx (h:∀ x∈l,zAm x) (i:Nat):((l.take i).flatMap λx=>bl (pI x)).length<=87*l.length:=by
 have:=zNr (l.take i) λx hx=>h x (Qz hx);have h2:(l.take i).length<=l.length:=by simp;omega
 omega
theorem yB9 (h:zGu l):qC l=some (aI l):=by
 have h8:=h.h8;unfold qC;refine bd h.p (cf rfl (bd (wU [] 1 _ (by omega) (by omega) (by simp)) ?_));refine bd (a:=aI l) (yD l.length (λi=>(beN (l.length:Int) 1 1++((l.take i).flatMap λx=>bl (pI x)),(i:Int))) (by simp) (λi hi=>?_) ?_ (xK (by omega))) ?_
 ·have hx:=h.im _ (Q9 hi);have ht:=zSx h.im i;unfold qN;refine ct (by simp;omega) (bd (yO hi) (bd (zT4 hx) (bd (wB _ _ ?_ (by have:=zE7 hx;omega)) ?_)))
  ·rw [Q1,xC];omega
  ·rw [wO (by omega),zPr hi,Q3]
 ·unfold qN;refine cf (by simp) ?_;rw [Qj];rfl
 ·rfl
theorem yA1 (h:zAm x):jC (pI x)=some (x,0):=by
 obtain ⟨a1,a2,a3,a4,a5,a6⟩:=h.f;have hle:=zE7 h;unfold jC;obtain ⟨r,g,e⟩:=zH5 (pI x) (by omega);refine bd e ?_;rw [zNu x (by omega) (by omega)] at g;obtain ⟨r1,g,e⟩:=rdU (k:=1) g (by omega) (by omega) (by omega) (by omega) (by omega);refine bd e ?_;obtain ⟨r2,g,e⟩:=rdU (k:=4) g (by omega) (by omega) (by omega) (by omega) (by omega);refine bd e ?_;obtain ⟨r3,g,e⟩:=zOc (k:=12) g (by omega) (by omega);refine bd e ?_;obtain ⟨r4,g,e⟩:=zOc (k:=64) g (by omega) (by omega);refine bd e ?_;have hc:tM (zC.mk x.Role x.Name x.Version x.Payload)=some 0:=(eZ x).trans h;exact bd (bd (rdE g) (cf rfl (bd hc rfl))) rfl
theorem zP5 (b:By) (hb:b.length<2 ^ 30):∀ (m:List zC) (l:List zC) (r:RS) (fuel:Nat),m.length<fuel->(∀ x∈m,zAm x)->l.length+m.length<=8->87<=b.length∨(∀ x∈m,(pI x).length<=b.length)->Rd r (m.flatMap λx=>bl (pI x)) ->
  ∃ r',Rd r' []/\zN (wZ b) fuel (l,(m.length:Int),r.W.b_,r.W.at_,r.W.e_)=some (.inr (l++m,r'.W.b_,r'.W.at_,r'.W.e_))
 | [],l,r,f+1,_,_,_,_,g=>by
  refine ⟨r,g,?_⟩;simp only [zN];have:wZ b (l,(([]:List zC).length:Int),r.W.b_,r.W.at_,r.W.e_)=some (.inr (.inr (l,r.W.b_,r.W.at_,r.W.e_))):=by
   unfold wZ;exact bd (cf rfl rfl) (cf rfl rfl)
  rw [this,Qb]
 | x :: m,l,r,f+1,hf,hm,h8,hb2,g=>by
  have hx:=hm x (by simp);have hle:=zE7 hx;simp only [Q8] at hf h8;have g':Rd r (bl (pI x)++(m.flatMap λx=>bl (pI x))):=g.cast (by simp);have hxb:(pI x).length<=b.length:=by
   rcases hb2 with h | h
   ·omega
   ·exact h x (by simp)
  obtain ⟨r1,g1,e1⟩:=zOc (k:=b.length) g' (by omega) hxb;obtain ⟨r2,g2,e2⟩:=zP5 b hb m (l++[x]) r1 f (by omega) (λy hy=>hm y (by simp [hy])) (by simp;omega) (by
   rcases hb2 with h | h
   ·exact .inl h
   ·exact .inr λy hy=>h y (by simp [hy])) g1
  refine ⟨r2,g2,?_⟩;simp only [zN];have:wZ b (l,((x :: m).length:Int),r.W.b_,r.W.at_,r.W.e_)=some (.inl (l++[x],(m.length:Int),r1.W.b_,r1.W.at_,r1.W.e_)):=by
   unfold wZ;refine bd (a:=(true,r.W.b_,r.W.at_,r.W.e_)) (ct (by simp) (bd (zLt g) rfl)) (ct rfl ?_);refine bd e1 (bd (yA1 hx) (cf rfl (bd (yG (by simp;omega)) ?_)));rw [Q8,yR (by omega) (by omega),show (((m.length+1:Nat):Int) - 1)=(m.length:Int) by omega]
  rw [this];simp only;rw [e2,Q3];rfl
theorem zOs:∀ x∈l,(pI x).length<=(aI l).length:=by
 intro x hx;unfold aI;rw [Q1];have:(bl (pI x)).length<=(l.flatMap λx=>bl (pI x)).length:=by
  induction l with
  | nil=>cases hx
  | cons y l ih=>
   rw [Qe,Q1];rcases Qo.1 hx with rfl | hx
   ·omega
   ·have:=ih hx;omega
 rw [uB] at this;omega
theorem yC6 (h:zGu l):vX (aI l)=some (l,0):=by
 have hl:=bW h;have h8:=h.h8;unfold vX;obtain ⟨r,g,e⟩:=zH5 (aI l) (by omega);refine bd e ?_;obtain ⟨r1,g,e⟩:=rdU (k:=1) (n:=(l.length:Int)) (r:=r) (rest:=l.flatMap λx=>bl (pI x)) g (by omega) (by omega) (by omega) (by omega) (by omega);refine bd e ?_;obtain ⟨r2,g2,e2⟩:=zP5 (aI l) (by omega) l [] r1 FU (xK (by omega)) h.im (by simpa using h8) (.inr zOs) g;refine bd e2 ?_;exact bd (bd (rdE g2) (cf rfl (bd h.p rfl))) (cf rfl rfl)
set_option maxRecDepth 100000
theorem yBj:tZ 1=some ⟨[bnk 20,[]],0⟩:=by decide +kernel
theorem yC2:tZ 2=some ⟨[[],bnk 32],0⟩:=by decide +kernel
theorem yDa:tZ 3=some ⟨[bnk 20,bnk 32],0⟩:=by decide +kernel
theorem zTn (active:Int) (h1:1<=active) (h3:active<=3):tZ active=some (zLe active):=by
 rcases zXd h1 h3 with rfl | rfl | rfl
 ·exact yBj
 ·exact yC2
 ·exact yDa
def sb (c0 c1:Bool):Int:=(if c0 then 1 else 0)+(if c1 then 2 else 0)
theorem ract (b0 b1:List By) (u:Int) (c0 c1:Bool) (h0:((b0.length:Int)==16)=c0) (h1:((b1.length:Int)==16)=c1):sH ⟨[b0,b1],u⟩=some (sb c0 c1):=by
 unfold sH;refine bd (a:=sb c0 c1) ?_ rfl;refine yD (x:=((0:Int),(0:Int))) 2 (λi=>match i with | 0=>((0:Int),(0:Int)) | 1=>(sb c0 false,1) | _=>(sb c0 c1,2)) rfl (λi hi=>?_) ?_ (xK (by omega))
 ·have:i=0∨i=1:=by omega
  rcases this with rfl | rfl
  ·show uE _ (0,0)=some (.inl (sb c0 false,1));unfold uE;refine ct rfl ?_;refine bd (a:=sb c0 false) (bd (a:=c0) (ct rfl (bd (a:=b0) rfl (by rw [h0]))) ?_) rfl;cases c0<;>rfl
  ·show uE _ (sb c0 false,1)=some (.inl (sb c0 c1,2));unfold uE;refine ct rfl ?_;refine bd (a:=sb c0 c1) (bd (a:=c1) (ct rfl (bd (a:=b1) rfl (by rw [h1]))) ?_) rfl;cases c0<;>cases c1<;>rfl
 ·rfl
theorem zT8 (b0 b1:List By) (u:Int) (c0 c1:Bool) (h0:((b0.length:Int)==16)=c0) (h1:((b1.length:Int)==16)=c1):vR ⟨[b0,b1],u⟩ 0=some c0/\vR ⟨[b0,b1],u⟩ 1=some c1:=by
 have h:=ract b0 b1 u c0 c1 h0 h1;unfold vR;constructor
 ·refine bd h ?_;cases c0<;>cases c1<;>rfl
 ·refine bd h ?_;cases c0<;>cases c1<;>rfl
theorem zRw (r:zD) (b0 b1:List By) (hb:r.Banks=[b0,b1]) (l0:b0.length<=16) (l1:b1.length<=16) (h0:∀ x∈b0,x.length<=32) (h1:∀ x∈b1,x.length<=32):nV r=some (b0,b1,r.Updates):=by
 unfold nV;rw [hb];refine ct rfl ?_;refine bd (a:=b0) rfl ?_;refine bd (a:=b0) ?_ ?_
 ·refine yD b0.length (λi=>(b0.take i,(i:Int))) (by simp) (λi hi=>?_) ?_ (xK (by omega))
  ·unfold nM;refine ct (dlt hi) ?_;refine bd (yO hi) ?_;refine bd (yG (by have:=h0 _ (Q9 hi);simp;omega)) ?_;refine bd (yG (by simp;omega)) ?_;rw [wO (show i<2 ^ 40 by omega),Qa];simp [hi]
  ·unfold nM;refine cf (dge (Qh _)) ?_;simp
 refine ct rfl ?_;refine bd (a:=b1) rfl ?_;refine bd (a:=(b1,b0)) ?_ ?_
 ·refine yD b1.length (λi=>(b1.take i,(i:Int),b0)) (by simp) (λi hi=>?_) ?_ (xK (by omega))
  ·unfold nO;refine ct (dlt hi) ?_;refine bd (yO hi) ?_;refine bd (yG (by have:=h1 _ (Q9 hi);simp;omega)) ?_;refine bd (yG (by simp;omega)) ?_;rw [wO (show i<2 ^ 40 by omega),Qa];simp [hi]
  ·unfold nO;refine cf (dge (Qh _)) ?_;simp
 exact cf rfl rfl
set_option maxRecDepth 100000
theorem zLg (b:By) (hb:b.length<2 ^ 40):xT ((0:Nat):Int) b=some (mX b):=zRj b hb
theorem zJ3 (b:By) (hb:b.length<2 ^ 40):xT ((1:Nat):Int) b=some (sha b):=zIg b hb
theorem zKb (r:zD) (active:Int) (e:zB) (hr:zC1 active r) (he:EvGood e active) (hk:e.Kind≠5):Def (pL r 0 e.Register e.Digests) (λx=>x=(ext active e r,0)):=by
 obtain ⟨⟨b0,b1,hb,l0,l1,m0,m1⟩⟩:=hr;obtain ⟨r0,r1,_,dl,f0,f1⟩:=he;obtain ⟨bs,u⟩:=r;simp only at hb;subst hb;have l0':b0.length<=16:=by rw [l0];split<;>omega
 have l1':b1.length<=16:=by rw [l1];split<;>omega
 unfold Fit at f0 f1;have f0':((e.Digests.getD 0 []).length:Int)<=32:=by rw [f0];split<;>decide
 have f1':((e.Digests.getD 1 []).length:Int)<=32:=by rw [f1];split<;>decide
 have g0:∀ d∈e.Digests,d.length<=32:=by
  intro d hd;obtain ⟨i,hi,rfl⟩:=Qi.mp hd;have hi2:i=0∨i=1:=by omega
  rcases hi2 with rfl | rfl
  ·have:(e.Digests.getD 0 [])=e.Digests[0]:=by simp [hi]
   rw [<- this];omega
  ·have:(e.Digests.getD 1 [])=e.Digests[1]:=by simp [hi]
   rw [<- this];omega
 have i0:idx e.Digests 0=some (e.Digests.getD 0 []):=zKo (i:=0) (by omega);have i1:idx e.Digests 1=some (e.Digests.getD 1 []):=zKo (i:=1) (by omega);obtain ⟨a0,a1⟩:=zT8 b0 b1 u (xB active 0) (xB active 1) (by rw [l0];cases xB active 0<;>rfl) (by rw [l1];cases xB active 1<;>rfl);unfold pL;refine Q0 (P:=λb=>b=false) ?_ (λb hb=>?_)
 ·refine Q4 (λh=>by cases h) (λ_=>Q4 (λh=>by cases h) (λ_=>?_));refine Q0 (P:=λb=>b=true) ?_ (λb hb=>?_)
  ·unfold tK;refine Q0 (P:=λb=>b=true) ?_ (λb hb=>Q2 hb);refine Q4 (λ_=>Q2 ?_) (λh=>?_)
   ·rw [decide_eq_true_iff];omega
   ·have:=dF h;omega
  subst hb;refine Q4 (λh=>by cases h) (λ_=>Q2 ?_);simp;omega
 subst hb;refine Q4 (λh=>by cases h) (λ_=>?_);refine Q0 (P:=λn=>n=0) ?_ (λn hn=>?_)
 ·unfold kP;refine Q0 (P:=λb=>b=false) (Q2 rfl) (λb hb=>?_);subst hb;refine Q4 (λh=>by cases h) (λ_=>?_);have e14:(e.Register==14)=false:=by simp;omega
  have e15:(e.Register==15)=false:=by simp;omega
  rw [e14,e15];exact Q2 rfl
 subst hn;refine Q4 (λh=>by cases h) (λ_=>?_);refine Q0 (P:=λr=>r=.inr ()) ?_ (λr hr=>?_)
 ·refine Qs (λs=>s=0∨s=1∨s=2) (λs=>2 - s.toNat) (λs hs=>?_) (.inl rfl) (by simp);unfold kY;refine Q4 (λh=>?_) (λh=>Q2 rfl);rcases hs with rfl | rfl | rfl
  ·refine Q0 (P:=λd=>d=e.Digests.getD 0 []) (Q5 i0 rfl) (λd hd=>?_);refine Q0 (P:=λb=>b=false) ?_ (λb hb=>?_)
   ·refine Q0 (P:=λb=>b=xB active 0) (Q5 a0 rfl) (λb hb=>?_);subst hb;refine Q4 (λh=>Q2 ?_) (λ_=>Q2 rfl);have hh:xB active 0=false:=by simpa using h
    rw [if_neg (by show ¬ (e.Kind≠5/\xB active 0=true);rw [hh];simp)] at f0;rw [decide_eq_false_iff_not,hd];omega
   subst hb;exact Q2 ⟨.inr (.inl rfl),by decide⟩
  ·refine Q0 (P:=λd=>d=e.Digests.getD 1 []) (Q5 i1 rfl) (λd hd=>?_);refine Q0 (P:=λb=>b=false) ?_ (λb hb=>?_)
   ·refine Q0 (P:=λb=>b=xB active 1) (Q5 a1 rfl) (λb hb=>?_);subst hb;refine Q4 (λh=>Q2 ?_) (λ_=>Q2 rfl);have hh:xB active 1=false:=by simpa using h
    rw [if_neg (by show ¬ (e.Kind≠5/\xB active 1=true);rw [hh];simp)] at f1;rw [decide_eq_false_iff_not,hd];omega
   subst hb;exact Q2 ⟨.inr (.inr rfl),by decide⟩
  ·have:=dT h;omega
 subst hr;refine Q0 (P:=λr=>r=.inr ()) ?_ (λr hr=>?_)
 ·refine Qs (λs=>s=0∨s=1∨s=2) (λs=>2 - s.toNat) (λs hs=>?_) (.inl rfl) (by simp);unfold kZ;refine Q4 (λh=>?_) (λh=>Q2 rfl);rcases hs with rfl | rfl | rfl
  ·refine Q0 (P:=λd=>d=e.Digests.getD 0 []) (Q5 i0 rfl) (λd hd=>?_);refine Q0 (P:=λb=>b=false) ?_ (λb hb=>?_)
   ·refine Q0 (P:=λb=>b=xB active 0) (Q5 a0 rfl) (λb hb=>?_);subst hb;refine Q4 (λh=>?_) (λ_=>Q2 rfl);refine Q0 (P:=λd=>d=siz 0) (Q5 (eT 0) rfl) (λz hz=>Q2 ?_);rw [if_pos ⟨hk,h⟩] at f0;rw [hd,hz];simp;exact f0
   subst hb;exact Q2 ⟨.inr (.inl rfl),by decide⟩
  ·refine Q0 (P:=λd=>d=e.Digests.getD 1 []) (Q5 i1 rfl) (λd hd=>?_);refine Q0 (P:=λb=>b=false) ?_ (λb hb=>?_)
   ·refine Q0 (P:=λb=>b=xB active 1) (Q5 a1 rfl) (λb hb=>?_);subst hb;refine Q4 (λh=>?_) (λ_=>Q2 rfl);refine Q0 (P:=λd=>d=siz 1) (Q5 (eT 1) rfl) (λz hz=>Q2 ?_);rw [if_pos ⟨hk,h⟩] at f1;rw [hd,hz];simp;exact f1
   subst hb;exact Q2 ⟨.inr (.inr rfl),by decide⟩
  ·have:=dT h;omega
 subst hr;refine Q0 (P:=λx=>x=(b0,b1,u)) (Q5 (zRw _ b0 b1 rfl l0' l1' m0 m1) rfl) (λx hx=>?_);subst hx;obtain ⟨rn,hrn⟩:=Qm r0;have one:∀ (a:Nat) (bk:List By) (f:By->By) (hbk:idx [b0,b1] (a:Int)=some bk) (h2:a<2) (h16:bk.length=16) (mm:∀ x∈bk,x.length<=32) (hf:∀ z,z.length<2 ^ 40->xT (a:Int) z=some (f z)),
   Def ((idx [b0,b1] (a:Int)).bind λv=>(idx v e.Register).bind λw=>(yM 1 [] w).bind λw'=>(idx e.Digests (a:Int)).bind λd=>(yM 1 w' d).bind λz=>(xT (a:Int) z).bind λs=>(ixN bk.length e.Register).bind λj=>(tQ bk j s).bind λl=>some l)
    (λb=>b=upR true bk e.Register (λx=>f (x++e.Digests.getD a []))):=by
  intro a bk f hbk h2 h16 mm hf;rw [hrn];refine Q0 (P:=λv=>v=bk) (Q5 hbk rfl) (λv hv=>?_);subst hv;have:=zMs mm rn;refine Q0 (P:=λx=>x=v.getD rn []) (Q5 (zKo (by omega)) rfl) (λx hx=>?_);subst hx;refine Q0 (Qp (by simp only [Qg];omega)) (λy hy=>?_);rw [Qu] at hy;subst hy;have:=zMs g0 a;refine Q0 (P:=λd=>d=e.Digests.getD a []) (Q5 (zKo (by omega)) rfl) (λd hd=>?_);subst hd;refine Q0 (Qp (by omega)) (λz hz=>?_);have hzl:z.length<2 ^ 40:=by rw [hz,Q1];omega
  refine Q0 (P:=λs=>s=f z) (Q5 (hf z hzl) rfl) (λs hs=>?_);refine Q0 (Def.ixN (by omega) (by omega)) (λj hj=>?_);refine Q0 (Def.upd hj.2) (λq hq=>Q2 ?_);rw [hq,hj.1,hs,hz];rfl
 refine Q0 (P:=λb=>b=upR (xB active 0) b0 e.Register (λx=>mX (x++e.Digests.getD 0 []))) ?_ (λc0 hc0=>?_)
 ·refine Q0 (P:=λb=>b=xB active 0) (Q5 a0 rfl) (λb hb=>?_);subst hb;refine Q4 (λh=>?_) (λh=>Q2 (by rw [h];rfl));rw [if_pos h] at l0;rw [h];exact one 0 b0 mX rfl (by omega) l0 m0 zLg
 refine Q0 (P:=λb=>b=upR (xB active 1) b1 e.Register (λx=>sha (x++e.Digests.getD 1 []))) ?_ (λc1 hc1=>?_)
 ·refine Q0 (P:=λb=>b=xB active 1) (Q5 a1 rfl) (λb hb=>?_);subst hb;refine Q4 (λh=>?_) (λh=>Q2 (by rw [h];rfl));rw [if_pos h] at l1;rw [h];exact one 1 b1 sha rfl (by omega) l1 m1 zJ3
 exact Q2 (by rw [hc0,hc1];rfl)
set_option maxRecDepth 100000
theorem zK7 (on:Bool) (active:Int) (data:By) (hd:data.length<2 ^ 40) (step:(Int×List By)->Option ((Int×List By) ⊕ List By))
  (h0:∀ v,step (0,v)=((bif (on&&xB active 0) then ((xT 0 data).bind λs=>(ixN 2 0).bind λj=>(tQ v j s).bind λw=>some w) else some v:Option (List By)).bind λw=>some (.inl (1,w))))
  (h1:∀ v,step (1,v)=((bif (on&&xB active 1) then ((xT 1 data).bind λs=>(ixN 2 1).bind λj=>(tQ v j s).bind λw=>some w) else some v:Option (List By)).bind λw=>some (.inl (2,w))))
  (h2:∀ v,step (2,v)=some (.inr v)):zN step FU (0,[[],[]])=some (dgE active on data):=by
 unfold dgE;refine two (b:=(1,[if (on&&xB active 0)=true then mX data else [],[]])) (c:=(2,[if (on&&xB active 0)=true then mX data else [],if (on&&xB active 1)=true then sha data else []])) ?_ ?_ (h2 _)
 ·rw [h0];refine bd (a:=[if (on&&xB active 0)=true then mX data else [],[]]) ?_ rfl;refine (zC4 (a:=0) rfl (by omega) (zLg data hd)).trans ?_;cases (on&&xB active 0)<;>rfl
 ·rw [h1];refine bd (a:=[if (on&&xB active 0)=true then mX data else [],if (on&&xB active 1)=true then sha data else []]) ?_ rfl;refine (zC4 (a:=1) rfl (by omega) (zJ3 data hd)).trans ?_;cases (on&&xB active 1)<;>rfl
theorem zCy {α:Type} {a:Bool} {x:Option Bool} {f:Bool->Option α} {r:Option α} (hx:x=some b) (h:f (a&&b)=r):(bif a then x else some false).bind f=r:=by
 cases a
 ·exact h
 ·subst hx;exact h
theorem zF0 (reg kind active:Int) (data:By) (hd:data.length<2 ^ 40):sA reg kind active data=some (mkE reg kind active data):=by
 unfold sA mkE;refine bd (a:=data) (by unfold bytes_Clone;exact ct (zEd (by omega)) rfl) ?_;refine bd (zK7 (kind != 5) active data hd _ (λv=>?_) (λv=>?_) (λv=>?_)) (bd (ckT rfl) rfl)
 ·unfold kA;refine ct rfl ?_;refine congrArg (λo:Option (List By)=>o.bind _) ?_;exact zCy (bd (ckT rfl) rfl) rfl
 ·unfold kA;refine ct rfl ?_;refine congrArg (λo:Option (List By)=>o.bind _) ?_;exact zCy (bd (ckT rfl) rfl) rfl
 ·unfold kA;exact cf rfl rfl
theorem zJs (x:zC) (active:Int) (h:zAm x):lO x active=some (dgE active true (pI x)):=by
 have hl:=zFu x;unfold lO;refine bd (zT4 h) ?_;have hp:decide (0<((pI x).length:Int))=true:=by simp;omega
 refine bd (zK7 true active (pI x) (by omega) _ (λv=>?_) (λv=>?_) (λv=>?_)) (bd (ckT rfl) rfl)
 ·unfold qX;refine ct rfl ?_;refine congrArg (λo:Option (List By)=>o.bind _) ?_;rw [hp];exact zCy (bd (ckT rfl) rfl) rfl
 ·unfold qX;refine ct rfl ?_;refine congrArg (λo:Option (List By)=>o.bind _) ?_;rw [hp];exact zCy (bd (ckT rfl) rfl) rfl
 ·unfold qX;exact cf rfl rfl
theorem zT7 {r:Int} (h1:1<=r) (h4:r<=4):r=1∨r=2∨r=3∨r=4:=by omega
theorem zRr {r:Int} (h1:1<=r) (h4:r<=4):vF r=some (rgR r):=by
 rcases zT7 h1 h4 with rfl | rfl | rfl | rfl<;>rfl
theorem aO (x:zC) (active:Int) (h:zAm x) (h4:x.Role≠4):uO x active=some (imE active x):=by
 obtain ⟨a1,a2,a3,a4,a5,a6⟩:=h.f;have hd:=bZ 20 x.Version.toNat;unfold uO imE lbl;refine bd (a:=false) (bd ((eZ x).trans h) (cf rfl (congrArg some (by rw [beq_eq_false_iff_ne];exact h4)))) (cf rfl ?_);refine bd (zRr a1 a2) (bd (zJs x active h) (bd (ckT (zEd (by simp;omega))) ?_));refine bd (a:=decF 20 x.Version.toNat) (by unfold strconv_Itoa;exact ct (by simp;omega) rfl) ?_;refine bd (ckT (zEd (by simp only [Q1,Q8,Qg];omega))) (bd (ckT (zEd (by simp only [Q1,Q8,Qg];omega))) rfl)
theorem zGr (hi:i<l.length):evR active role (l.take (i+1))=evR active role (l.take i)++(if l[i].Role=role then (if role=4 then (zEq l[i]).map (mkE 9 3 active) else [imE active l[i]]) else []):=by
 unfold evR;rw [Qa,Qk];simp [hi]
theorem rN (hi:i<l.length) (h:l[i].Role≠role):evR active role (l.take (i+1))=evR active role (l.take i):=by
 rw [zGr hi,if_neg h,Qb]
theorem zIp (hi:i<l.length) (h:l[i].Role=role) (h4:role≠4):evR active role (l.take (i+1))=evR active role (l.take i)++[imE active l[i]]:=by
 rw [zGr hi,if_pos h,if_neg h4]
theorem zTq (hi:i<l.length) (h:l[i].Role=4):evR active 4 (l.take (i+1))=evR active 4 (l.take i)++(zEq l[i]).map (mkE 9 3 active):=by
 rw [zGr hi,if_pos h,if_pos rfl]
theorem zL3 (active:Int) (x:zC) (hx:x.Role=4) (L:List By) (hl:L.length<=4) (h8:∀ l∈L,l.length<=8) (a b c d e:List zB) (he:e.length<=100) :
  zN (qD active x L) FU (0,a,b,c,d,e)=some (a,b,c,d,e++L.map (mkE 9 3 active)):=by
 refine yD L.length (λi=>((i:Int),a,b,c,d,e++(L.map (mkE 9 3 active)).take i)) (by simp) (λi hi=>?_) ?_ (xK (by omega))
 ·have:=h8 _ (Q9 hi);have hreg:vF x.Role=some 9:=by rw [hx];rfl
  unfold qD;refine ct (dlt hi) (bd (yO hi) ?_);refine bd (a:=(a,b,c,d,e++(L.map (mkE 9 3 active)).take (i+1))) (cf (by rw [hx];rfl) (cf (by rw [hx];rfl) (cf (by rw [hx];rfl) (cf (by rw [hx];rfl) (ct (by rw [hx];rfl) ?_))))) (by rw [wO (by omega)]);refine bd hreg (bd (zF0 _ 3 active _ (by omega)) (bd (yG (by simp;omega)) ?_));rw [Qa,Q3];simp [hi]
 ·unfold qD;refine cf (dge (Qh _)) ?_;rw [Qc (by simp)]
theorem zO6 (active:Int) (out:List zB) (h:out.length<=100):zN (rZ active) FU (out,0)=some (out++fW active):=by
 refine yD 8 (λi=>(out++(fW active).take i,(i:Int))) (by simp) (λi hi=>?_) ?_ (xK (by decide))
 ·unfold rZ;refine ct (by simp;omega) ?_;refine bd (a:=4) rfl ?_;refine bd (zF0 _ 2 active _ (by decide)) ?_;refine bd (yG (by simp [fW];omega)) ?_;rw [wO (by omega),Qa,Q3];have:(fW active)[i]? = some (mkE (i:Int) 2 active [0,0,0,0]):=by simp [fW,hi]
  rw [this];rfl
 ·unfold rZ;refine cf rfl ?_;rw [Qc (by rw [bJ];omega)]
theorem zKi (l:List zC) (active:Int) (hl:l.length<=8) (him:∀ x∈l,sB x):zN (qE l active) FU (0,[],[],[],[],[])=some ([],evR active 1 l,evR active 2 l,evR active 3 l,evR active 4 l):=by
 refine yD l.length (λi=>((i:Int),[],evR active 1 (l.take i),evR active 2 (l.take i),evR active 3 (l.take i),evR active 4 (l.take i))) (by simp [evR]) (λi hi=>?_) ?_ (xK (by omega))
 ·have hg:=him _ (Q9 hi);have hle:=λrole=>zNl active role (l.take i) (λx hx=>him x (Qz hx));have hlt:(l.take i).length<=8:=by simp;omega
  have e1:=hle 1;have e2:=hle 2;have e3:=hle 3;have e4:=hle 4;have hw:Q7.wrap ((i:Int)+1)=((i+1:Nat):Int):=wO (by omega);unfold qE;refine ct (dlt hi) ?_;rcases zT7 hg.r1 hg.r4 with hr | hr | hr | hr
  ·rw [zIp hi hr (by decide),rN hi (show l[i].Role≠2 by omega),rN hi (show l[i].Role≠3 by omega),rN hi (show l[i].Role≠4 by omega)];refine bd (bd (yO hi) (ct (by rw [hr];rfl) (bd (cf (by rw [hr];rfl) (ct (by rw [hr];rfl) (bd (aO _ active hg.ok (by omega)) (bd (yG (by simp only [Qq];omega)) rfl)))) rfl))) (by rw [hw])
  ·rw [zIp hi hr (by decide),rN hi (show l[i].Role≠1 by omega),rN hi (show l[i].Role≠3 by omega),rN hi (show l[i].Role≠4 by omega)];refine bd (bd (yO hi) (ct (by rw [hr];rfl) (bd (cf (by rw [hr];rfl) (cf (by rw [hr];rfl) (ct (by rw [hr];rfl) (bd (aO _ active hg.ok (by omega)) (bd (yG (by simp only [Qq];omega)) rfl))))) rfl))) (by rw [hw])
  ·rw [zIp hi hr (by decide),rN hi (show l[i].Role≠1 by omega),rN hi (show l[i].Role≠2 by omega),rN hi (show l[i].Role≠4 by omega)];refine bd (bd (yO hi) (ct (by rw [hr];rfl) (bd (cf (by rw [hr];rfl) (cf (by rw [hr];rfl) (cf (by rw [hr];rfl) (ct (by rw [hr];rfl) (bd (aO _ active hg.ok (by omega)) (bd (yG (by simp only [Qq];omega)) rfl)))))) rfl))) (by rw [hw])
  ·rw [zTq hi hr,rN hi (show l[i].Role≠1 by omega),rN hi (show l[i].Role≠2 by omega),rN hi (show l[i].Role≠3 by omega)];obtain ⟨q1,q2,q3⟩:=zJd _ hg hr;have hp:=hg.p;have q4:=(zF3 l[i] (by omega)).trans q1;refine bd (bd (yO hi) (cf (by rw [hr];rfl) (bd q4 (bd (zL3 active l[i] hr _ q2 (λl hl=>(q3 l hl).2.1) _ _ _ _ _ (by omega)) rfl)))) (by rw [hw])
 ·unfold qE;refine cf (dge (Qh _)) ?_;simp
theorem zLn (l:List zC) (active:Int) (h:lB l) (h1:1<=active) (h3:active<=3):uV l active=some (evs l active):=by
 have hl:=h.len;have hb:=zI4 active l h.im;have hsl:=bJ active;unfold uV;refine bd (a:=false) (cf (by simp;omega) (cf (by simp;omega) (bd h.ok.p rfl))) (cf rfl ?_);refine bd (zKi l active hl h.im) ?_;refine bd (yG (by omega)) (bd (zO6 active _ (by rw [Q1];omega)) (bd (yG (by simp only [Q1];omega)) (bd (yG (by simp only [Q1];omega)) ?_)));unfold evs;simp only [Q3]
theorem zKt (active:Int):uV [] active=some []:=by
 unfold uV;refine bd (a:=true) ?_ (ct rfl rfl);cases decide (active<1)<;>cases decide (3<active)<;>rfl
end Go.Proofs.TT
