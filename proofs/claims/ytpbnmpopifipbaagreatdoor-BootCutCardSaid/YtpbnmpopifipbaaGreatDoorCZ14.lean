/- what a loss of power at a start leaves -/
import Derived.Test.YtpbnmpopifipbaaGreatDoorCZ13
set_option linter.all false
open Go.Sw.Def renaming bd -> Q0, s -> Q2, c -> Q5, of -> Q9, loop -> Qu, app -> Qv, ck -> We
open List renaming length_append -> Q1, append_assoc -> Q3, take_of_length_le -> Q4, replicate -> Q7, getElem_mem -> Q8, length_cons -> Qa, take_add_one -> Qd, append_nil -> Qe, flatMap_cons -> Qg, take_length -> Qh, take_append -> Qi, drop_eq_getElem_cons -> Qk, mem_cons -> Qm, length_take -> Qn, mem_iff_getElem -> Qo, length_nil -> Qp, take_append_of_le_length -> Qr, flatMap_append -> Qs, length_pos_iff -> Qt, take_add -> Qx, singleton_append -> W1, mem_cons_of_mem -> W2, mem_cons_self -> W4, all_eq_false -> W5, length -> W6, flatMap_nil -> W7, all_eq_true -> W8, nil_append -> Wb, drop_left -> Wc
open Go.IntKind renaming i64 -> Q6, u64 -> Wf
open Nat renaming le_refl -> Qb, zero_le -> Qc, pow_le_pow_right -> W3, ble_eq -> W9, not_lt_zero -> Wa
open Go.Proofs.TT.Def renaming at' -> Qf
open Int renaming toNat_natCast -> Qj, eq_ofNat_of_zero_le -> Qy, le_refl -> W0
open Go.Lib renaming indexByte -> Ql
open UInt8 renaming toNat_inj -> Qq
open Go.Proofs.TT.Rem renaming blobN -> Qw, uintI -> Wd
open Option.some renaming inj -> Qz
namespace Go.Proofs.TT
open Go Go.Sw
set_option maxRecDepth 100000
variable {a:Nat}{active:Int}{as:List By}{b c:Bool}{d:zC}{e:zB}{es:List zB}{i k:Nat}{l:List zD}{l':By}{m:Nat}{most n:Int}{p p':By}{r:RS}{rest:By}{seq:Nat}{st:zQ}{vo:yB}{x:zD}{y:By}{α:Type}
theorem zYy {a:Int} (h1:1<=a) (h3:a<=3):a=1∨a=2∨a=3:=by omega
theorem zGl (n:Nat):(bnk n).length=16:=by simp [bnk]
theorem zKl (n:Nat) (h:n<=32):∀ x∈bnk n,x.length<=32:=by
 intro x hx;simp only [bnk,List.mem_append,List.mem_replicate] at hx;rcases hx with ⟨_,rfl⟩ | ⟨_,rfl⟩<;>simp [h]
def zQa (active:Int):zE:=⟨[if xH active 0=true then bnk 20 else [],if xH active 1=true then bnk 32 else []],0⟩
theorem zZm (active:Int) (h1:1<=active) (h3:active<=3):dE active=some (zQa active):=by
 rcases zYy h1 h3 with rfl | rfl | rfl
 ·exact new1
 ·exact new2
 ·exact new3
theorem zVa (active:Int) (h1:1<=active) (h3:active<=3):zFy active (zQa active):=by
 rcases zYy h1 h3 with rfl | rfl | rfl
 ·exact ⟨⟨_,_,rfl,zGl 20,rfl,zKl 20 (by omega),(by intro x hx;cases hx)⟩⟩
 ·exact ⟨⟨_,_,rfl,rfl,zGl 32,(by intro x hx;cases hx),zKl 32 (by omega)⟩⟩
 ·exact ⟨⟨_,_,rfl,zGl 20,zGl 32,zKl 20 (by omega),zKl 32 (by omega)⟩⟩
def rpl (active:Int) (es:List zB):zE:=es.foldl (λr e=>if e.Kind=5 then r else ext active e r) (zQa active)
theorem zS6 (active:Int) (h:a<es.length):rpl active (es.take (a+1))=if es[a].Kind=5 then rpl active (es.take a) else ext active es[a] (rpl active (es.take a)):=by
 unfold rpl;rw [Qd,List.foldl_append];simp [h]
theorem zPt (active:Int):∀ (es:List zB) (r:zE),zFy active r->zFy active (es.foldl (λr e=>if e.Kind=5 then r else ext active e r) r)
 | [],_,h=>h
 | e :: es,r,h=>by
  rw [List.foldl_cons];refine zPt active es _ ?_;split
  ·exact h
  ·exact zWw h
theorem zIa (active:Int) (es:List zB) (h1:1<=active) (h3:active<=3):zFy active (rpl active es):=zPt active es _ (zVa active h1 h3)
theorem zNd (l:yW) (h:l.Events.length<2 ^ 20) (h1:1<=l.Active) (h3:l.Active<=3):Def (iJ l) (λr=>(r.2=0->r.1=rpl l.Active l.Events)/\((∀ e∈l.Events,EvC e l.Active)->r.2=0)):=by
 unfold iJ;refine Q0 (P:=λb=>b=false) ?_ (λb hb=>?_)
 ·refine Q5 (λh=>by have:=dT h;omega) (λ_=>Q2 ?_);rw [decide_eq_false_iff_not];omega
 subst hb;refine Q5 (λh=>by cases h) (λ_=>?_);refine Q0 (hH l.Events (nB l) (λi=>∀ h:i<l.Events.length,EvGood l.Events[i] l.Active) (λv=>v.2≠0/\¬ ∀ e∈l.Events,EvC e l.Active) (by omega) (λa ha=>?_) ?_) (λr hr=>?_)
 ·unfold nB;refine Q5 (λ_=>?_) (λh=>by have:=dF h;omega);refine Q0 (Qf ha) (λe he=>?_);subst he;refine Q0 (zYz _ _) (λr hr=>?_);refine Q5 (λhz=>Q2 ⟨by simpa using hz,λhall=>?_⟩) (λhz=>Q2 ⟨wS (by omega),λ_=>(hr.1 (by simpa using hz)).toEvGood⟩);have:=hr.2 (hall _ (Q8 ha));rw [this] at hz;cases hz
 ·unfold nB;exact cf (by simp) rfl
 cases r with
 | inl v=>exact Q2 ⟨λh=>absurd h hr.1,λh=>absurd h hr.2⟩
 | inr u=>
  have hr':∀ e∈l.Events,EvGood e l.Active:=by
   intro e he;obtain ⟨i,hi,rfl⟩:=Qo.mp he;exact hr i hi hi
  refine Q0 (P:=λr=>r=zQa l.Active) (Q9 (zZm _ h1 h3) rfl) (λrg hrg=>?_);subst hrg;refine Q0 (P:=λr=>(⟨r.1,r.2⟩:zE)=rpl l.Active l.Events) ?_ (λr hr=>Q2 ⟨λ_=>hr,λ_=>rfl⟩);refine Qu (λs=>∃ a:Nat,s.1=(a:Int)/\a<=l.Events.length/\(⟨s.2.1,s.2.2⟩:zE)=rpl l.Active (l.Events.take a)) (λs=>l.Events.length - s.1.toNat) (λs hs=>?_) ⟨0,rfl,by omega,rfl⟩ (by simp;omega);obtain ⟨a',bs,up⟩:=s;obtain ⟨a,g1,g2,g3⟩:=hs;simp only at g1 g3;subst g1;unfold aA;refine Q5 (λh=>?_) (λh=>Q2 ?_)
  ·have ha2:a<l.Events.length:=by have:=dT h;omega
   refine Q0 (P:=λr=>(⟨r.1,r.2⟩:zE)=rpl l.Active (l.Events.take (a+1))) ?_ (λr hr=>Q2 ?_)
   ·rw [zS6 _ ha2];refine Q0 (Qf ha2) (λe he=>?_);subst he;refine Q5 (λhk=>?_) (λhk=>Q2 (by rw [if_pos (by simpa using hk)];exact g3));have hk':l.Events[a].Kind≠5:=by simpa using hk
    rw [if_neg hk'];refine Q0 (Qf ha2) (λe he=>?_);subst he;refine Q0 (Qf ha2) (λe he=>?_);subst he;rw [g3];exact Q0 (zN4 _ l.Active _ (zIa _ _ h1 h3) (hr' _ (Q8 ha2)) hk') (λr hr=>Q2 (by subst hr;rfl))
   ·rw [wS (by omega)];exact ⟨⟨a+1,rfl,by omega,hr⟩,by simp only [Qj];omega⟩
  ·have:=dF h;rw [Q4 (by omega)] at g3;exact g3
theorem zPi {bk:List By} (h:∀ x∈bk,x.length<=32) (n:Nat):(bk.getD n []).length<=32:=by
 by_cases hn:n<bk.length
 ·have:bk.getD n []=bk[n]:=by simp [hn]
  rw [this];exact h _ (Q8 hn)
 ·have:bk.getD n []=[]:=by simp [List.getD,List.getElem?_eq_none (by omega:bk.length<=n)]
  rw [this];simp
set_option maxRecDepth 100000
theorem jC (a:Int):rN a=some (siz a):=zGc a
theorem zOg (e:zB) (active:Int):Def (jG e active) (λr=>r=0↔EvC e active):=by
 unfold jG;refine Q0 or6 (λb hb=>?_);have hb:=zPw hb;refine Q5 (λh=>Q2 ⟨λh=>(by cases h),λhc=>?_⟩) (λhbf=>?_)
 ·have:=hb.2 ⟨hc.a1,hc.a3,hc.r0,hc.r1,hc.k1,hc.k5⟩;rw [this] at h;cases h
 obtain ⟨h1,h2,h3,h4,h5,h6⟩:=hb.1 hbf;refine Q5 (λh=>Q2 ⟨λh=>(by cases h),λhc=>?_⟩) (λhd=>?_)
 ·have:=dT h;have:=hc.d;omega
 have hd':=dF hd;refine Q5 (λh=>Q2 ⟨λh=>(by cases h),λhc=>?_⟩) (λhl0=>?_)
 ·rw [hc.l] at h;cases h
 have hl:e.Digests.length=2:=by simp at hl0;omega
 refine Q0 (hH e.Digests (mE e active) (λi=>Fit e active i) (λb=>b=27/\∃ i,i<2/\¬ Fit e active i) (by omega) (λa ha=>?_) ?_) (λr hr=>?_)
 ·unfold mE;refine Q5 (λ_=>?_) (λh=>by have:=dF h;omega);refine Q0 (Qf ha) (λd hd=>?_);subst hd;refine Q0 (zLk (e:=e) (active:=active) (a:=a) ?_ (by rw [jC];rfl)) (λw hw=>?_)
  ·refine bd (ckT (by simp)) ?_;have hw:Wf.wrap (a:Int)=(a:Int):=aU (by omega) (by omega);unfold xH;rw [hw]
  refine Q5 (λhne=>Q2 ⟨rfl,a,by omega,λhF=>?_⟩) (λhne=>Q2 ⟨wS (by omega),(zGn ha hw).1 hne⟩);rw [(zGn ha hw).2 hF] at hne;cases hne
 ·unfold mE;rw [hl];exact cf rfl rfl
 ·cases r with
  | inl b=>exact Q2 ⟨λh=>(by rw [hr.1] at h;cases h),λh=>absurd ⟨h.f0,h.f1⟩ (nf2 hr.2)⟩
  | inr u=>exact Q2 ⟨λ_=>⟨⟨h3,h4,by omega,hl,hr 0 (by omega),hr 1 (by omega)⟩,h1,h2,h5,h6⟩,λ_=>rfl⟩
theorem zRq (h:EvC e active):Def (jG e active) (λr=>r=0):=(zOg e active).mono λ_ hr=>hr.2 h
set_option maxRecDepth 100000
theorem zM6 (b:By) (h:b.length<2 ^ 40):rF b=some (RS.W ⟨b,0,0⟩):=by
 unfold rF;refine bd (yI (by simp;omega)) ?_;rfl
theorem zTf (e:zB) (he:e.Digests.length<2 ^ 30):Def (wJ e) (λ_=>True):=by
 unfold wJ;refine Q0 (P:=λ_=>True) ?_ (λb _=>?_)
 ·exact Q5 (λ_=>Q2 trivial) (λ_=>Q5 (λ_=>Q2 trivial) (λ_=>Q5 (λ_=>Q2 trivial) (λ_=>Q5 (λ_=>Q2 trivial) (λ_=>Q5 (λ_=>Q2 trivial) (λ_=>Q2 trivial)))))
 refine Q5 (λ_=>Q2 trivial) (λ_=>?_);refine Q0 (P:=λ_=>True) ?_ (λr _=>?_)
 ·refine Qu (λs=>∃ a:Nat,s=(a:Int)/\a<=e.Digests.length) (λs=>e.Digests.length - s.toNat) (λs hs=>?_) ⟨0,rfl,by omega⟩ (by simp;omega);obtain ⟨a,rfl,ha⟩:=hs;unfold vH;refine Q5 (λh=>?_) (λh=>Q2 trivial);have ha2:a<e.Digests.length:=by have:=dT h;omega
  refine Q0 (Qf ha2) (λd hd=>?_);refine Q0 (P:=λ_=>True) (Q9 (jC _) trivial) (λw _=>?_);refine Q5 (λ_=>Q2 trivial) (λ_=>Q2 ?_);rw [wS (by omega)];exact ⟨⟨a+1,rfl,by omega⟩,by simp only [Qj];omega⟩
 ·cases r with
  | inl b=>exact Q2 trivial
  | inr u=>exact Q2 trivial
theorem zSe (b:By) (hb:b.length<2 ^ 40):Def (pS b) (λ_=>True):=by
 unfold pS;have ok0:(RS.mk b 0 0).Ok:=⟨by simp,hb⟩;refine Q0 (P:=λr=>r=RS.W ⟨b,0,0⟩) (Q9 (zM6 b hb) rfl) (λr hr=>?_);subst hr;refine Q0 (P:=λz=>∃ r:RS,r.Ok/\z.2=r.W) (Q9 (wF _ 1 ok0 (by omega) (by omega)) ⟨_,nW _ _ ok0,rfl⟩) (λz hz=>?_);obtain ⟨u,x⟩:=z;obtain ⟨r1,ok1,rfl⟩:=hz;refine Q0 (P:=λz=>∃ r:RS,r.Ok/\z.2=r.W) (Q9 (wF _ 1 ok1 (by omega) (by omega)) ⟨_,nW _ _ ok1,rfl⟩) (λz hz=>?_);obtain ⟨k,x⟩:=z;obtain ⟨r2,ok2,rfl⟩:=hz;refine Q0 (P:=λz=>z.1.length<=2/\∃ r:RS,r.Ok/\z.2=(r.W.b_,r.W.at_,r.W.e_)) ?_ (λz hz=>?_)
 ·refine Qu (λs=>∃ (a:Nat) (l:List By) (r:RS),s=((a:Int),l,r.W.b_,r.W.at_,r.W.e_)/\a<=2/\l.length=a/\r.Ok) (λs=>2 - s.1.toNat) (λs hs=>?_) ⟨0,[],r2,rfl,by omega,rfl,ok2⟩ (by simp);obtain ⟨a,l,r,rfl,ha,hl,ok⟩:=hs;unfold nK;refine Q5 (λh=>?_) (λh=>Q2 ⟨by simp;omega,r,ok,rfl⟩);have ha2:a<2:=by have:=dT h;omega
  refine Q0 (P:=λw=>w=((32:Nat):Int)) (Q9 (jC 1) rfl) (λw hw=>?_);subst hw;refine Q0 (P:=λz=>∃ r:RS,r.Ok/\z.2=r.W) (Q9 (uI r 32 ok) ⟨_,zBl _ _ ok,rfl⟩) (λz hz=>?_);obtain ⟨v,x⟩:=z;obtain ⟨r',ok',rfl⟩:=hz;refine Q0 (Qv (by simp;omega)) (λl' hl'=>Q2 ?_);rw [wS (by omega)];exact ⟨⟨a+1,l',r',rfl,by omega,by rw [hl'];simp [hl],ok'⟩,by simp only [Qj];omega⟩
 obtain ⟨l,b',a',e'⟩:=z;obtain ⟨hl,r3,ok3,h3⟩:=hz;obtain ⟨rfl,rfl,rfl⟩:b'=r3.W.b_/\a'=r3.W.at_/\e'=r3.W.e_:=by simpa using h3
 refine Q0 (P:=λz=>∃ r:RS,r.Ok/\z.2=r.W) (Q9 (uI r3 64 ok3) ⟨_,zBl _ _ ok3,rfl⟩) (λz hz=>?_);obtain ⟨v,x⟩:=z;obtain ⟨r4,ok4,rfl⟩:=hz;refine Q0 (P:=λ_=>True) ?_ (λbb _=>?_)
 ·refine Q0 (P:=λ_=>True) (Q9 (zA0 r4 ok4) trivial) (λz _=>?_);refine Q5 (λ_=>Q2 trivial) (λ_=>?_);exact Q0 (zTf _ (by simp at hl ⊢;omega)) (λ_ _=>Q2 trivial)
 ·exact Q5 (λ_=>Q2 trivial) (λ_=>Q2 trivial)
set_option maxRecDepth 100000
structure LgGood (l:yW):Prop where
 ev:∀ e∈l.Events,EvC e l.Active
 n:l.Events.length<=40
set_option maxRecDepth 100000
def sC (e:zB):By:=[u8 e.Register,u8 e.Kind]++((beN ((e.Digests.getD 0 []).length:Int) 2 2++e.Digests.getD 0 [])++((beN ((e.Digests.getD 1 []).length:Int) 2 2++e.Digests.getD 1 [])++(beN (e.Data.length:Int) 2 2++e.Data)))
theorem jL (h:Fit e active a):(e.Digests.getD a []).length<=32:=by
 unfold Fit siz at h;split at h
 ·split at h
  ·omega
  ·split at h<;>omega
 ·omega
theorem jE (h:EvGood e active):1<=(sC e).length/\(sC e).length<=136:=by
 have h0:=jL h.f0;have h1:=jL h.f1;have h2:=h.d;unfold sC;simp only [Q1,yO,Qa,Qp];omega
theorem Rem.eqv {l:By} (h:Rem r l) (e:l'=l):Rem r l':=e▸h
theorem zVw (n:Int) (h0:0<=n) (h:n<256):((u8 n).toNat:Int)=n:=by
 obtain ⟨m,rfl⟩:=Qy h0;rw [hP];omega
theorem Rem.byte (h:Rem r (u8 n :: rest)) (h0:0<=n) (hn:n<256):xU r 1=(n,r.to 1)/\Rem (r.to 1) rest:=by
 have h':Rem r ([u8 n]++rest):=h;refine ⟨h'.uintV rfl ?_ h0 (by omega),h'.to rfl⟩;have hb:beV [u8 n] 1=ior .u64 (lI .u64 ((0:Nat):Int) 8) (Wf.wrap (((u8 n).toNat:Nat):Int)):=rfl;rw [hb,zHn 0 _ (by omega) (by have:=(u8 n).toNat_lt;omega)];have:=zVw n h0 hn;omega
theorem zVi (e:zB) (active:Int) (h:EvC e active):wJ e=some true:=by
 have r0:=h.r0;have r1:=h.r1;have k1:=h.k1;have k5:=h.k5;have h2:=h.d;have hl:=h.l;have h0:=jL h.f0;have h1:=jL h.f1;have hd:Def (wJ e) (λb=>b=true):=by
  unfold wJ;refine Q0 (P:=λb=>b=false) (Q9 (cf (by simp;omega) (cf (by simp;omega) (cf (by simp;omega) (cf (by simp;omega) (cf (by simp [hl]) rfl))))) (by simp;omega)) (λb hb=>?_);subst hb;refine Q5 (λh=>by cases h) (λ_=>?_);refine Q0 (hH e.Digests (vH e) (λ_=>True) (λ_=>False) (by omega) (λi hi=>?_) ?_) (λy hy=>?_)
  ·unfold vH;refine Q5 (λ_=>?_) (λh=>by have:=dF h;omega);refine Q0 (Qf hi) (λd hd=>?_);refine Q0 (P:=λw=>w=32) (Q9 (jC 1) rfl) (λw hw=>?_);subst hw;have:d.length<=32:=by
    have hi2:i=0∨i=1:=by omega
    rcases hi2 with rfl | rfl
    ·have:(e.Digests.getD 0 [])=d:=by simp [hd,hi]
     rw [<- this];exact h0
    ·have:(e.Digests.getD 1 [])=d:=by simp [hd,hi]
     rw [<- this];exact h1
   exact Q5 (λh=>by have:=dT h;omega) (λ_=>Q2 ⟨wS (by omega),trivial⟩)
  ·unfold vH;exact cf (by simp) rfl
  ·cases y with
   | inl b=>exact hy.elim
   | inr u=>exact Q2 rfl
 obtain ⟨b,hb,rfl⟩:=hd;exact hb
theorem zO0 (e:zB) (active:Int) (h:EvC e active):pS (sC e)=some (e,0):=by
 have hlen:=jE h.toEvGood;have h0:=jL h.f0;have h1:=jL h.f1;have h2:=h.d;have r0:=h.r0;have r1:=h.r1;have k1:=h.k1;have k5:=h.k5;have hD:e.Digests=[e.Digests.getD 0 [],e.Digests.getD 1 []]:=by
  have hl:=h.l
  match hx:e.Digests,hl with
  | [a,b],_=>rfl
 have henc:=zVi e active h;have q0:Rem ⟨sC e,0,0⟩ (sC e):=⟨rfl,Qc _,rfl⟩;have ok0:(RS.mk (sC e) 0 0).Ok:=⟨Qc _,by simp;omega⟩;have w0:=zM6 (sC e) (by omega);have b0:(RS.mk (sC e) 0 0).b.length<2 ^ 40:=by show (sC e).length<_;omega
 generalize (RS.mk (sC e) 0 0)=s0 at *;unfold sC at q0;obtain ⟨e1,q1⟩:=Rem.byte q0 r0 (by omega);obtain ⟨e2,q2⟩:=Rem.byte q1 (by omega) (by omega);replace q2:Rem ((s0.to 1).to 1) ((beN ((e.Digests.getD 0 []).length:Int) 2 2++e.Digests.getD 0 [])++((beN ((e.Digests.getD 1 []).length:Int) 2 2++e.Digests.getD 1 [])++(beN (e.Data.length:Int) 2 2++e.Data))):=q2;rw [Q3] at q2;obtain ⟨e3,q3⟩:=Qw (m:=32) q2 (by omega) (by omega);rw [Q3] at q3;obtain ⟨e4,q4⟩:=Qw (m:=32) q3 (by omega) (by omega);have q4':=q4.eqv (l':=beN (e.Data.length:Int) 2 2++(e.Data++[])) (by rw [Qe]);obtain ⟨e5,q5⟩:=Qw (m:=64) q4' (by omega) (by omega);have ok1:(s0.to 1).Ok:=⟨q1.at',by show s0.b.length<_;omega⟩;have ok2:((s0.to 1).to 1).Ok:=⟨q2.at',by show s0.b.length<_;omega⟩;generalize hs2:(s0.to 1).to 1=s2 at *;generalize hs3:s2.to (2+(e.Digests.getD 0 []).length)=s3 at *;have ok3:s3.Ok:=⟨q3.at',by rw [<- hs3,<- hs2];show s0.b.length<_;omega⟩;generalize hs4:s3.to (2+(e.Digests.getD 1 []).length)=s4 at *;have ok4:s4.Ok:=⟨q4.at',by rw [<- hs4,<- hs3,<- hs2];show s0.b.length<_;omega⟩;generalize hs5:s4.to (2+e.Data.length)=s5 at *;have ok5:s5.Ok:=⟨q5.at',by rw [<- hs5,<- hs4,<- hs3,<- hs2];show s0.b.length<_;omega⟩;unfold pS;refine bd w0 ?_;refine bd (a:=(e.Register,(s0.to 1).W)) ((wF s0 1 ok0 (by omega) (by omega)).trans (by rw [e1])) ?_;refine bd (a:=(e.Kind,s2.W)) ((wF (s0.to 1) 1 ok1 (by omega) (by omega)).trans (by rw [e2])) ?_;refine bd (a:=([e.Digests.getD 0 [],e.Digests.getD 1 []],s4.W.b_,s4.W.at_,s4.W.e_)) (two (b:=(1,[e.Digests.getD 0 []],s3.W.b_,s3.W.at_,s3.W.e_)) (c:=(2,[e.Digests.getD 0 [],e.Digests.getD 1 []],s4.W.b_,s4.W.at_,s4.W.e_)) ?_ ?_ rfl) ?_
 ·unfold nK;refine ct rfl ?_;refine bd (a:=((32:Nat):Int)) (jC 1) ?_;refine bd (a:=(e.Digests.getD 0 [],s3.W)) ((uI s2 32 ok2).trans (by rw [e3])) ?_;exact bd (yI (by simp)) rfl
 ·unfold nK;refine ct rfl ?_;refine bd (a:=((32:Nat):Int)) (jC 1) ?_;refine bd (a:=(e.Digests.getD 1 [],s4.W)) ((uI s3 32 ok3).trans (by rw [e4])) ?_;exact bd (yI (by simp)) rfl
 refine bd (a:=(e.Data,s5.W)) ((uI s4 64 ok4).trans (by rw [e5])) ?_;have he:(⟨e.Register,e.Kind,[e.Digests.getD 0 [],e.Digests.getD 1 []],e.Data⟩:zB)=e:=by rw [<- hD]
 refine bd (a:=false) ?_ ?_
 ·refine bd (a:=(0,s5.W)) ((zA0 s5 ok5).trans (by rw [q5.fin])) ?_;refine cf rfl ?_;refine bd (a:=true) ?_ rfl;show wJ ⟨e.Register,e.Kind,[e.Digests.getD 0 [],e.Digests.getD 1 []],e.Data⟩=_;rw [he];exact henc
 refine cf rfl ?_;show some ((⟨e.Register,e.Kind,[e.Digests.getD 0 [],e.Digests.getD 1 []],e.Data⟩:zB),(0:Int))=_;rw [he]
set_option maxRecDepth 100000
def oW (a r:Int):By:=[83,87,76,49]++(u8 a :: beN r 6 6)
def tW (es:List zB):By:=es.flatMap λe=>beN ((sC e).length:Int) 2 2++sC e
def vV (l:yW):By:=oW l.Active l.Resets++tW l.Events
structure LgF (l:yW):Prop extends LgGood l where
 a1:1<=l.Active
 a3:l.Active<=3
 r0:0<=l.Resets
 r1:l.Resets<=1099511627776
theorem pO (a r:Int):(oW a r).length=11:=by simp [oW,yO]
theorem zD2:∀ es:List zB,(∀ e∈es,EvC e active)->(tW es).length<=138*es.length
 | [],_=>by simp [tW]
 | e :: es,h=>by
  have h1:=zD2 es (λx hx=>h x (W2 _ hx));have h2:=jE (h e (W4 ..)).toEvGood;unfold tW at h1 ⊢;rw [Qg,Q1,Q1,yO,Qa];omega
theorem zJm (h:i<es.length):tW (es.take (i+1))=tW (es.take i)++(beN ((sC es[i]).length:Int) 2 2++sC es[i]):=by
 unfold tW;rw [Qd,Qs];simp [h]
theorem zBp (h:i<es.length):tW (es.drop i)=beN ((sC es[i]).length:Int) 2 2++(sC es[i]++tW (es.drop (i+1))):=by
 rw [Qk h];unfold tW;rw [Qg,Q3]
theorem zHd (es:List zB) (i:Nat):tW es=tW (es.take i)++tW (es.drop i):=by
 unfold tW;rw [<- Qs,List.take_append_drop]
theorem zHz (l:yW) (h:LgGood l):11<=(vV l).length/\(vV l).length<=5531:=by
 have h1:=zD2 l.Events h.ev;have h2:=h.n;unfold vV;rw [Q1,pO];omega
theorem zIi (a r:Int) (h1:1<=a) (h3:a<=3) (h0:0<=r) (hr:r<=1099511627776):∃ b,xZ a r=some b/\b.length=11:=by
 refine ⟨rB (rB [83,87,76,49] 1 a) 6 r,?_,by rw [uE,uE];rfl⟩;unfold xZ;refine bd (a:=false) (cf (by simp;omega) (cf (by simp;omega) (cf (by simp;omega) (congrArg some (by simp;omega))))) ?_;refine cf rfl ?_;refine bd (oG _ 1 a (by omega) (by omega) (by simp)) ?_;exact bd (oG _ 6 r (by omega) (by omega) (by rw [uE];simp)) rfl
def atE (l:yW) (i:Nat):Nat:=11+(tW (l.Events.take i)).length
theorem zJz (l:yW) (h:LgF l):lC (vV l)=some (l,0):=by
 have hn:=h.n;have hlen:=zHz l h.toLgGood;obtain ⟨hb,hh1,hh2⟩:=zIi l.Active l.Resets h.a1 h.a3 h.r0 h.r1;have a1:=h.a1;have a3:=h.a3;have r0:=h.r0;have r1:=h.r1;have S:∀ i,Rem ⟨vV l,atE l i,0⟩ (tW (l.Events.drop i)):=by
  intro i;have e:vV l=(oW l.Active l.Resets++tW (l.Events.take i))++tW (l.Events.drop i):=by
   unfold vV;rw [Q3,<- zHd]
  have hl:(oW l.Active l.Resets++tW (l.Events.take i)).length=atE l i:=by rw [Q1,pO];rfl
  refine ⟨rfl,?_,?_⟩
  ·show atE l i<=(vV l).length;rw [e,Q1,hl];omega
  ·show (vV l).drop (atE l i)=_;rw [e,<- hl,Wc]
 have ok:∀ i,(RS.mk (vV l) (atE l i) 0).Ok:=λi=>⟨(S i).at',by show (vV l).length<_;omega⟩;have q0:Rem ⟨vV l,0,0⟩ ([83,87,76,49]++(u8 l.Active :: (beN l.Resets 6 6++tW l.Events))):=⟨rfl,Qc _,by show (vV l).drop 0=_;unfold vV oW;simp⟩;have e1:=Rem.raw (n:=4) q0 rfl;have q1:=Rem.to (n:=4) q0 rfl;obtain ⟨e2,q2⟩:=Rem.byte q1 (by omega) (by omega);obtain ⟨e3,q3⟩:=Wd q2 (by omega) r0 (by omega) (by omega);have ok0:(RS.mk (vV l) 0 0).Ok:=⟨Qc _,by show (vV l).length<_;omega⟩;have ok1:((RS.mk (vV l) 0 0).to 4).Ok:=⟨q1.at',by show (vV l).length<_;omega⟩;have ok2:(((RS.mk (vV l) 0 0).to 4).to 1).Ok:=⟨q2.at',by show (vV l).length<_;omega⟩;have e4:((((RS.mk (vV l) 0 0).to 4).to 1).to 6)=⟨vV l,atE l 0,0⟩:=by
  show (⟨vV l,0+4+1+6,0⟩:RS)=_;unfold atE;simp [tW]
 rw [e4] at e3;unfold lC;refine cf (by simp;omega) ?_;refine bd (a:=(l,(atE l l.Events.length:Int),0)) ?_ (cf rfl rfl);unfold uG;refine bd (a:=(l,(atE l l.Events.length:Int),0)) ?_ rfl;refine bd (zM6 _ (by omega)) ?_;refine bd (a:=([83,87,76,49],((RS.mk (vV l) 0 0).to 4).W)) ((pI _ 4 ok0).trans (by rw [e1])) ?_;refine cf rfl ?_;refine bd (a:=(l.Active,(((RS.mk (vV l) 0 0).to 4).to 1).W)) ((wF _ 1 ok1 (by omega) (by omega)).trans (by rw [e2])) ?_;refine bd (a:=(l.Resets,(RS.mk (vV l) (atE l 0) 0).W)) ((wF _ 6 ok2 (by omega) (by omega)).trans (by rw [e3])) ?_;refine bd (a:=(false,vV l,(atE l 0:Int),0)) ?_ ?_
 ·refine bd (a:=(0,(RS.mk (vV l) (atE l 0) 0).W)) rfl ?_;refine cf rfl ?_;refine bd hh1 ?_;rw [hh2];rfl
 refine cf rfl ?_;refine bd (a:=((atE l l.Events.length:Int),0,l.Events)) ?_ rfl;refine yG l.Events.length (λi=>((atE l i:Int),l.Events.take i,vV l,(atE l i:Int),0)) ?_ (λi hi=>?_) ?_ (xM (by omega))
 ·simp [atE,tW]
 ·have hE:=h.ev _ (Q8 hi);have hel:=jE hE.toEvGood;have hS:=S i;rw [zBp hi] at hS;have hleft:=hS.left;rw [Q1,yO] at hleft;obtain ⟨f1,f2⟩:=Qw (m:=65535) hS (by omega) (by omega);have f3:(RS.mk (vV l) (atE l i) 0).to (2+(sC l.Events[i]).length)=⟨vV l,atE l (i+1),0⟩:=by
   show (⟨vV l,atE l i+(2+(sC l.Events[i]).length),0⟩:RS)=_;unfold atE;rw [zJm hi,Q1,Q1,yO,Nat.add_assoc]
  rw [f3] at f1;have lf:∀ k,Q6.wrap (((vV l).length:Int) - (atE l k:Int))=((RS.mk (vV l) (atE l k) 0).left:Int):=λk=>zDz _ (ok k);have hck:=zRq hE;obtain ⟨c,hc1,rfl⟩:=hck;unfold wZ;refine bd (a:=(((RS.mk (vV l) (atE l i) 0).left:Int),(RS.mk (vV l) (atE l i) 0).W)) (congrArg some (by rw [<- lf i];rfl)) ?_;refine ct (by simp;omega) ?_;refine bd (a:=(sC l.Events[i],(RS.mk (vV l) (atE l (i+1)) 0).W)) ((uI _ 65535 (ok i)).trans (by rw [f1])) ?_;refine bd (zO0 _ _ hE) ?_;refine cf (by simp;omega) ?_;refine bd (a:=(0,(RS.mk (vV l) (atE l (i+1)) 0).W)) rfl ?_;refine cf rfl ?_;refine bd (a:=false) (cf rfl (bd hc1 rfl)) ?_;refine cf rfl ?_;refine bd (yI (by simp;omega)) ?_;refine bd (a:=(((RS.mk (vV l) (atE l (i+1)) 0).left:Int),(RS.mk (vV l) (atE l (i+1)) 0).W)) (congrArg some (by rw [<- lf (i+1)];rfl)) ?_;have hat:Q6.wrap (((vV l).length:Int) - ((RS.mk (vV l) (atE l (i+1)) 0).left:Int))=(atE l (i+1):Int):=by
   have:=(ok (i+1)).1;simp only [RS.left] at *;rw [yQ (by omega) (by omega)];omega
  have ht:l.Events.take (i+1)=l.Events.take i++[l.Events[i]]:=by rw [Qd];simp [hi]
  rw [ht];show some (Sum.inl (Q6.wrap (((vV l).length:Int) - ((RS.mk (vV l) (atE l (i+1)) 0).left:Int)),_))=_;rw [hat];rfl
 ·have hS:=S l.Events.length;rw [List.drop_length] at hS;have hleft:=hS.left;unfold wZ;refine bd (a:=(((RS.mk (vV l) (atE l l.Events.length) 0).left:Int),(RS.mk (vV l) (atE l l.Events.length) 0).W)) (congrArg some (by rw [<- zDz _ (ok l.Events.length)];rfl)) ?_;refine cf (by rw [hleft];rfl) ?_;rw [Qh]
set_option maxRecDepth 100000
structure zNi (d:zT):Prop where
 n:d.Areas.length<=64
 w0:0<=d.Writes
 w1:d.Writes<2 ^ 60
theorem zHo (d:zT) (a:Nat) (h:a<d.Areas.length):lO d (a:Int)=some true:=by
 unfold lO;refine bd (ct (by simp) (congrArg some (by simp;omega))) rfl
theorem zJb (d:zT) (h:d.Areas.length<=64):zL (nG d d.Areas.length) FU (0,Q7 d.Areas.length [])=some d.Areas:=by
 refine yG d.Areas.length (λi=>((i:Int),d.Areas.take i++Q7 (d.Areas.length - i) [])) (by simp) (λi hi=>?_) ?_ (xM (by omega))
 ·unfold nG;refine ct (dlt hi) ?_;refine bd (yM hi) ?_;refine bd (uY hi) ?_;have hl:(d.Areas.take i).length=i:=by simp;omega
  refine bd (cY (by simp;omega)) ?_;rw [wS (show i<2 ^ 40 by omega)];refine congrArg some (congrArg Sum.inl (congrArg (Prod.mk _) ?_));rw [List.set_append_right _ _ (by omega),hl,Nat.sub_self];rw [show d.Areas.length - i=(d.Areas.length - (i+1))+1 by omega,List.replicate_succ,List.set_cons_zero];rw [Qd,List.getElem?_eq_getElem hi];simp only [Option.toList_some,Q3,W1]
 ·unfold nG;refine cf (dge (Qb _)) ?_;simp
theorem app0 {x:By} (h:x.length<2 ^ 40):yN 1 [] x=some x:=by simpa using yI (b:=1) (l:=[]) (m:=x) (by simp;omega)
theorem zXo {d:zT} (h:a<d.Areas.length):idx d.Areas (a:Int)=some (d.Areas.getD a []):=by rw [yM h];simp [h]
theorem mk24 {n:Nat} (h:n<=64):mkN 24 (n:Int)=some n:=by
 unfold mkN;rw [if_pos (by simp;omega)];simp
theorem wr1 (h0:0<=n) (h:n<2 ^ 60):Q6.wrap (n+1)=n+1:=yQ (by omega) (by omega)
def eX (d:zT) (len:Nat):Nat:=if d.Writes+1=d.CutAt then min d.Torn.toNat len else len
def isC (d:zT):Prop:=d.Writes+1=d.CutAt
instance (d:zT):Decidable (isC d):=by unfold isC;infer_instance
def zAa (d:zT):Int:=if isC d then 29 else 0
theorem zS4 (d:zT) (len:Nat) (h:zNi d) (ho:d.Off=false):(bif ((Q6.wrap (d.Writes+1))==d.CutAt) then
  (some (if (len:Int)<if d.Torn<0 then 0 else d.Torn then (len:Int) else if d.Torn<0 then 0 else d.Torn,29,true))
 else some ((len:Int),0,d.Off):Option (Int×Int×Bool))=some ((eX d len:Int),zAa d,decide (isC d)):=by
 rw [wr1 h.w0 h.w1];by_cases hc:d.Writes+1=d.CutAt
 ·refine ct (by simpa using hc) (congrArg some ?_);rw [show zAa d=29 from if_pos hc,show decide (isC d)=true from decide_eq_true hc];refine congrArg (·,(29:Int),true) ?_;unfold eX;rw [if_pos hc];by_cases ht:d.Torn<0
  ·rw [if_pos ht,if_neg (by omega)];have:d.Torn.toNat=0:=by omega
   simp [this]
  ·rw [if_neg ht];split<;>omega
 ·refine cf (by simpa using hc) (congrArg some ?_);rw [show zAa d=0 from if_neg hc,show decide (isC d)=false from decide_eq_false hc,ho];unfold eX;rw [if_neg hc]
def jY (d:zT) (a:Nat) (y:By):zT:=⟨d.Areas.set a y,d.Writes+1,d.CutAt,d.Torn,decide (isC d)⟩
theorem zY5 (d:zT) (a:Nat) (data x y:By) (b:Bool) (h:zNi d) (ho:d.Off=false) (ha:a<d.Areas.length) (hl:data.length<=65536) (hy:mU (d.Areas.getD a []) (eX d data.length:Int) x b=some y) :
  iP d (a:Int) data x b=some (jY d a y,zAa d):=by
 unfold iP;refine cf ho ?_;refine bd (zHo d a ha) ?_;refine cf rfl ?_;refine cf (by simp;omega) ?_;refine bd (zS4 d data.length h ho) ?_;refine bd (mk24 h.n) ?_;refine bd (zJb d h.n) ?_;refine bd (zXo ha) ?_;refine bd hy ?_;refine bd (uY ha) ?_;refine bd (cY ha) ?_;refine bd (ckT (by simp)) ?_;refine bd (ckT (by have:=h.n;simp [W9];omega)) ?_;rw [wr1 h.w0 h.w1];rfl
theorem zVm (d:zT) (a:Nat) (data x y:By) (h:zNi d) (ho:d.Off=false) (ha:a<d.Areas.length) (hl:data.length<=65536) (hy:lF (d.Areas.getD a []) (eX d data.length:Int) x=some y) :
  iS d (a:Int) data x=some (jY d a y,zAa d):=by
 unfold iS;refine cf ho ?_;refine bd (zHo d a ha) ?_;refine cf rfl ?_;refine cf (by simp;omega) ?_;refine bd (zS4 d data.length h ho) ?_;refine bd (mk24 h.n) ?_;refine bd (zJb d h.n) ?_;refine bd (zXo ha) ?_;refine bd hy ?_;refine bd (uY ha) ?_;refine bd (cY ha) ?_;refine bd (ckT (by simp)) ?_;refine bd (ckT (by have:=h.n;simp [W9];omega)) ?_;rw [wr1 h.w0 h.w1];rfl
theorem zPe (d:zT) (len:Nat):eX d len<=len:=by unfold eX;split<;>omega
def wrC (d:zT) (old data:By):By:=data.take (eX d data.length)++(if isC d then old.drop (eX d data.length) else [])
def apC (d:zT) (old data:By):By:=old++data.take (eX d data.length)
theorem gG (d:zT) (a:Nat) (data:By) (h:zNi d) (ho:d.Off=false) (ha:a<d.Areas.length) (hl:data.length<=65536) (hold:(d.Areas.getD a []).length<2 ^ 40) :
  nQ d (a:Int) data=some (jY d a (wrC d (d.Areas.getD a []) data),zAa d):=by
 unfold nQ;refine bd (a:=decide (isC d)) (ct (by rw [ho];rfl) (congrArg some ?_)) ?_
 ·rw [wr1 h.w0 h.w1];simp [isC,BEq.beq]
 refine bd (zY5 d a data data (wrC d (d.Areas.getD a []) data) _ h ho ha hl ?_) rfl;generalize d.Areas.getD a []=old at hold;have hn:=zPe d data.length;unfold mU wrC;generalize eX d data.length=n at hn;refine bd (a:=data.take n) (by have:=sD (l:=data) (Qc n) hn;simpa using this) ?_;refine bd (a:=data.take n) (by simpa using yI (b:=1) (l:=[]) (m:=data.take n) (by simp;omega)) ?_;by_cases hc:isC d
 ·rw [decide_eq_true hc,if_pos hc];by_cases hlt:n<old.length
  ·refine bd (a:=data.take n++old.drop n) ?_ rfl;refine bd (a:=true) (ct rfl (congrArg some (by simp;omega))) ?_;refine ct rfl ?_;refine bd (a:=old.drop n) (by have:=sD (l:=old) (Nat.le_of_lt hlt) (Qb _);rw [this,Q4 (by simp)]) ?_;exact bd (yI (by simp;omega)) rfl
  ·refine bd (a:=data.take n) ?_ ?_
   ·refine bd (a:=false) (ct rfl (congrArg some (by simp;omega))) ?_;exact cf rfl rfl
   ·rw [List.drop_eq_nil_of_le (by omega),Qe]
 ·rw [decide_eq_false hc,if_neg hc,Qe];refine bd (a:=data.take n) ?_ rfl;refine bd (a:=false) (cf rfl rfl) ?_;exact cf rfl rfl
theorem zE7 (d:zT) (a:Nat) (data:By) (h:zNi d) (ho:d.Off=false) (ha:a<d.Areas.length) (hl:data.length<=65536) (hold:(d.Areas.getD a []).length<2 ^ 40) :
  eJ d (a:Int) data=some (jY d a (apC d (d.Areas.getD a []) data),zAa d):=by
 unfold eJ;refine bd (zVm d a data data (apC d (d.Areas.getD a []) data) h ho ha hl ?_) rfl;generalize d.Areas.getD a []=old at hold;have hn:=zPe d data.length;unfold lF apC;generalize eX d data.length=n at hn;refine bd (a:=old) (by simpa using yI (b:=1) (l:=[]) (m:=old) (by simp;omega)) ?_;refine bd (a:=data.take n) (by have:=sD (l:=data) (Qc n) hn;simpa using this) ?_;exact bd (yI (by simp;omega)) rfl
theorem zBc (d:zT) (a:Nat) (ho:d.Off=false) (ha:a<d.Areas.length) (hold:(d.Areas.getD a []).length<2 ^ 40):uO d (a:Int)=some (d.Areas.getD a [],0):=by
 unfold uO;refine cf ho ?_;refine bd (zHo d a ha) ?_;refine cf rfl ?_;refine bd (zXo ha) ?_;exact bd (a:=d.Areas.getD a []) (app0 hold) rfl
set_option maxRecDepth 100000
theorem zLl (w:UInt8) (c:By):Def (fC w c) (λr=>r.1.length=64/\r.2=c):=by
 unfold fC;refine Q0 (Def.mkN (by decide) (by decide)) (λn hn=>?_);have hn:n=64:=hn;subst hn;refine Q0 (We (by simp)) (λ_ _=>?_);refine Def.lt ?_;refine Q0 (P:=λr=>r.length=64) ?_ (λr hr=>?_)
 ·refine Qu (λs=>0<=s.1/\s.1<=64/\s.2.length=64) (λs=>(64 - s.1).toNat) (λs hs=>?_) ⟨W0 0,by simp,by rw [zKj];simp⟩ (by simp);obtain ⟨i,l⟩:=s;obtain ⟨h1,h2,h3⟩:=hs;simp only at h1 h2 h3;unfold zCa;refine Q5 (λh=>?_) (λ_=>Q2 h3);rw [decide_eq_true_iff] at h;refine Q0 (Def.ixN h1 (by omega)) (λj hj=>?_);refine Q0 (Def.at (by omega)) (λu _=>?_);refine Q0 (Def.ixN h1 (by omega)) (λj hj=>?_);refine Q0 (Def.upd (by omega)) (λv hv=>Q2 ?_);rw [yQ (by omega) (by omega)];exact ⟨⟨by simp only;omega,by simp only;omega,by simp only [hv,List.length_set];exact h3⟩,by simp only;omega⟩
 ·refine Q0 (We (by simp [hr])) (λ_ _=>?_);refine Q0 (We (by simp)) (λ_ _=>Q2 ⟨hr,rfl⟩)
theorem zG0 (b:By) (h:b.length<2 ^ 40):Def (xT 1 b) (λr=>r.length=32):=Q9 (zJ7 b h) (zGk b)
theorem zT4 (key b:By) (hk:key.length<2 ^ 30) (hb:b.length<2 ^ 30):Def (zGf key b) (λr=>r.length=32):=by
 unfold zGf;refine Q0 (P:=λr=>r.length<2 ^ 30) ?_ (λk hk2=>?_)
 ·refine Q5 (λ_=>Q0 (zG0 key (by omega)) (λr hr=>Q2 (by omega))) (λ_=>Q2 hk)
 refine Q0 (zLl 54 k) (λr hr=>?_);obtain ⟨v,c⟩:=r;obtain ⟨h1,rfl⟩:=hr;simp only at h1;refine Q0 (Qv (by omega)) (λa ha=>?_);refine Q0 (zG0 a (by rw [ha,Q1];omega)) (λd hd=>?_);refine Q0 (zLl 92 _) (λr hr=>?_);obtain ⟨v2,c2⟩:=r;obtain ⟨h2,_⟩:=hr;simp only at h2;refine Q0 (Qv (by omega)) (λa2 ha2=>?_);exact Q0 (zG0 a2 (by rw [ha2,Q1];omega)) (λd hd=>Q2 hd)
theorem fZ (key label ctx:By) (hk:key.length<2 ^ 30) (hl:label.length<2 ^ 20) (hc:ctx.length<2 ^ 20):Def (gC key label ctx 32) (λr=>r.length=32):=by
 unfold gC;refine Q0 (Q9 (a:=false) rfl (Q:=λr=>r=false) rfl) (λb hb=>?_);subst hb;refine Q5 (λh=>by cases h) (λ_=>?_);refine Q0 (We (by simp [W9];omega)) (λ_ _=>?_);refine Q0 (Qv (by simp;omega)) (λa ha=>?_);refine Q0 (Qv (by rw [ha];simp;omega)) (λa2 ha2=>?_);refine Q0 (Q9 (Q:=λr=>r.length=4) rfl rfl) (λf hf=>?_);refine Q0 (Qv (by rw [ha2,ha];simp;omega)) (λa3 ha3=>?_);have h3:a3.length<2 ^ 22:=by rw [ha3,ha2,ha];simp;omega
 refine Q0 (P:=λr=>r.length=32) ?_ (λr hr=>?_)
 ·refine Qu (λs=>s.1.length=0∨s.1.length=32) (λs=>32 - s.1.length) (λs hs=>?_) (.inl rfl) (by simp);obtain ⟨o,i⟩:=s;simp only at hs;unfold zCc;refine Q5 (λh=>?_) (λh=>Q2 ?_)
  ·rw [decide_eq_true_iff] at h;have h0:o.length=0:=by omega
   refine Q0 (Q9 (Q:=λr=>r.length=4) rfl rfl) (λf2 hf2=>?_);refine Q0 (Qv (by omega)) (λa4 ha4=>?_);refine Q0 (zT4 key a4 hk (by rw [ha4,Q1];omega)) (λm hm=>?_);refine Q0 (Qv (by omega)) (λa5 ha5=>Q2 ?_);have h5:a5.length=32:=by rw [ha5,Q1];omega
   exact ⟨.inr h5,by simp only;omega⟩
  ·rw [decide_eq_false_iff_not] at h;omega
 ·refine Q0 (Def.sub (by decide) (by decide) (by omega)) (λu hu=>Q2 ?_);rw [hu];simp [hr]
structure Sst (s:zQ):Prop where
 sd:∃ a b c,s.Seeds=[a,b,c]/\a.length=32/\b.length=32/\c.length=32
 au:s.Auths=[[],[],[],[]]
 en:s.Entropy.length=32
 a0:1<=s.Active
 a3:s.Active<=3
 r0:0<=s.Resets
 r1:s.Resets<2 ^ 30
 st:s.Restarts=0
 ck:s.Clock=0
 sv:s.Saved=⟨[],0⟩
 mc:s.MaxCounter=0
 ix:s.Indices=[]
 lo:s.Lockout=⟨0,5,100,0,0,1000⟩
 ks:s.Keys=[]
theorem zQ0 (e:By) (active:Int) (he:e.length=32) (h1:1<=active) (h3:active<=3):Def (zBo e active) (λr=>r.2=0/\Sst r.1/\r.1.Active=active/\r.1.Resets=0/\r.1.Orderly=true):=by
 unfold zBo;refine Q0 (Q9 (Q:=λr=>r=false) (a:=false) ?_ rfl) (λb hb=>?_)
 ·refine cf (by simp [he]) (cf (by simp;omega) (congrArg some (by simp;omega)))
 subst hb;refine Q5 (λh=>by cases h) (λ_=>?_);refine Q0 (Q9 (Q:=λr=>r=⟨0,5,100,0,0,1000⟩) rfl rfl) (λlo hlo=>?_);refine Q0 (P:=λr=>∃ a b c,r=[a,b,c]/\a.length=32/\b.length=32/\c.length=32) ?_ (λr hr=>?_)
 ·obtain ⟨a,e1,l1⟩:=fZ e [115,101,101,100] [u8 0] (by omega) (by decide) (by decide);obtain ⟨b,e2,l2⟩:=fZ e [115,101,101,100] [u8 1] (by omega) (by decide) (by decide);obtain ⟨c,e3,l3⟩:=fZ e [115,101,101,100] [u8 2] (by omega) (by decide) (by decide);refine Q9 (a:=[a,b,c]) ?_ ⟨a,b,c,rfl,l1,l2,l3⟩;refine yG 3 (λi=>((i:Int),[a,b,c].take i)) rfl (λi hi=>?_) ?_ (xM (by decide))
  ·have hi3:i=0∨i=1∨i=2:=by omega
   unfold cV;rcases hi3 with rfl | rfl | rfl
   ·exact ct rfl (bd e1 (bd (yI (by simp)) rfl))
   ·exact ct rfl (bd e2 (bd (yI (by simp)) rfl))
   ·exact ct rfl (bd e3 (bd (yI (by simp)) rfl))
  ·unfold cV;exact cf rfl rfl
 ·refine Q0 (fZ e _ _ (by omega) (by decide) (by decide)) (λen hen=>Q2 ?_);exact ⟨rfl,⟨hr,rfl,hen,h1,h3,W0 0,by simp only;decide,rfl,rfl,rfl,rfl,rfl,hlo,rfl⟩,rfl,rfl,rfl⟩
set_option maxRecDepth 100000
def bl (x:By):By:=beN (x.length:Int) 2 2++x
theorem uB (x:By):(bl x).length=2+x.length:=by simp [bl,yO]
theorem wB (b x:By) (hb:b.length<2 ^ 30) (hx:x.length<=65535):wQ b x=some (b++bl x):=by
 rw [bE b x (by omega),zHq b hx];rfl
theorem wU (b:By) (k:Nat) (n:Int) (h1:1<=k) (h8:k<=8) (hb:b.length<2 ^ 30):wE b (k:Int) n=some (b++beN n k k):=by
 rw [oG b k n h1 h8 (by omega)];rfl
def bits (b:Bool):UInt8:=if b=true then 1 else 0
def wT (s:zQ):By:=
 [1,u8 s.Active]++(bl (s.Seeds.getD 0 [])++(bl (s.Seeds.getD 1 [])++(bl (s.Seeds.getD 2 [])++(bl []++(bl []++(bl []++(bl []++(bl s.Entropy++(beN s.Resets 8 8++(beN 0 8 8++(beN 0 8 8++([bits s.Orderly]++(bl (0 :: beN 0 8 8)++(beN 0 8 8++([0]++(beN 0 8 8++(beN 5 8 8++(beN 100 8 8++(beN 0 8 8++(beN 0 8 8++(beN 1000 8 8++([0]))))))))))))))))))))))
theorem wk1:Q6.wrap 1=1:=rfl
theorem wk2:Q6.wrap 2=2:=rfl
theorem wk3:Q6.wrap 3=3:=rfl
theorem wk4:Q6.wrap 4=4:=rfl
theorem wk5:Q6.wrap 5=5:=rfl
theorem wk6:Q6.wrap 6=6:=rfl
theorem tX {X Y:Type} {step:X->Option (X ⊕ Y)} {x:X} {y:Y} (h:step x=some (.inr y)):zL step FU x=some y:=yG 0 (λ_=>x) rfl (λ_ h=>absurd h (Wa _)) h (xM (by decide))
theorem yEl (a b c:Int) (x:By) (hx:x.length<2 ^ 20):wK [a,b,c] x=some (((x++beN a 8 8)++beN b 8 8)++beN c 8 8):=by
 unfold wK;refine ct rfl ?_;refine bd (a:=a) rfl ?_;refine bd (wU x 8 a (by decide) (by decide) (by omega)) ?_;refine bd (a:=((x++beN a 8 8)++beN b 8 8)++beN c 8 8) ?_ rfl;refine two (step:=wG [a,b,c]) (b:=(2,(x++beN a 8 8)++beN b 8 8)) (c:=(3,((x++beN a 8 8)++beN b 8 8)++beN c 8 8)) ?_ ?_ ?_
 ·unfold wG;exact ct rfl (bd (a:=b) rfl (bd (wU _ 8 b (by decide) (by decide) (by simp [yO];omega)) rfl))
 ·unfold wG;exact ct rfl (bd (a:=c) rfl (bd (wU _ 8 c (by decide) (by decide) (by simp [yO];omega)) rfl))
 ·unfold wG;exact cf rfl rfl
theorem yDt (a:Int) (x:By) (hx:x.length<2 ^ 20):wK [a] x=some (x++beN a 8 8):=by
 unfold wK;refine ct rfl ?_;refine bd (a:=a) rfl ?_;refine bd (wU x 8 a (by decide) (by decide) (by omega)) ?_;exact bd (a:=x++beN a 8 8) (tX (by unfold wG;exact cf rfl rfl)) rfl
theorem yAg (a b c d e f:Int) (x:By) (hx:x.length<2 ^ 20):wK [a,b,c,d,e,f] x=some ((((((x++beN a 8 8)++beN b 8 8)++beN c 8 8)++beN d 8 8)++beN e 8 8)++beN f 8 8):=by
 unfold wK;refine ct rfl ?_;refine bd (a:=a) rfl ?_;refine bd (wU x 8 a (by decide) (by decide) (by omega)) ?_;refine bd (a:=(((((x++beN a 8 8)++beN b 8 8)++beN c 8 8)++beN d 8 8)++beN e 8 8)++beN f 8 8) ?_ rfl;refine yG 5 (λi=>(((i+1:Nat):Int),(x++beN a 8 8)++([b,c,d,e,f].take i).flatMap (λn=>beN n 8 8))) (by simp) (λi hi=>?_) ?_ (xM (by decide))
 ·have h5:i=0∨i=1∨i=2∨i=3∨i=4:=by omega
  unfold wG;rcases h5 with rfl | rfl | rfl | rfl | rfl <;>
   exact ct rfl (bd rfl (bd (wU _ 8 _ (by decide) (by decide) (by simp [yO];omega)) (by simp [wk2,wk3,wk4,wk5,wk6,Q3])))
 ·unfold wG;refine cf rfl ?_;simp [Q3]
theorem yB1:kD ⟨[],0⟩=some (0 :: beN 0 8 8):=by decide +kernel
theorem cD (s:zQ) (h:Sst s):rR s=some (wT s):=by
 obtain ⟨a,b,c,hs,la,lb,lc⟩:=h.sd;have hse:s.Seeds.getD 0 []=a/\s.Seeds.getD 1 []=b/\s.Seeds.getD 2 []=c:=by rw [hs];exact ⟨rfl,rfl,rfl⟩
 have hen:=h.en;unfold rR;refine bd (a:=(([1,u8 s.Active]++bl a)++bl b)++bl c) ?_ ?_
 ·refine yG 3 (λi=>((i:Int),[1,u8 s.Active]++([a,b,c].take i).flatMap bl)) (by simp) (λi hi=>?_) ?_ (xM (by decide))
  ·have h3:i=0∨i=1∨i=2:=by omega
   unfold jQ;rw [hs];rcases h3 with rfl | rfl | rfl
   ·exact ct rfl (bd (a:=a) rfl (bd (wB _ a (by simp) (by omega)) (by simp [wk1])))
   ·exact ct rfl (bd (a:=b) rfl (bd (wB _ b (by simp [uB];omega) (by omega)) (by simp [wk2,wk3])))
   ·exact ct rfl (bd (a:=c) rfl (bd (wB _ c (by simp [uB];omega) (by omega)) (by simp [wk2,wk3])))
  ·unfold jQ;refine cf rfl (by simp)
 refine bd (a:=((((([1,u8 s.Active]++bl a)++bl b)++bl c)++bl []++bl [])++bl [])++bl []) ?_ ?_
 ·generalize hX:(([1,u8 s.Active]++bl a)++bl b)++bl c=X;have lX:X.length<200:=by rw [<- hX];simp [uB];omega
  refine yG 4 (λi=>((i:Int),X++(Q7 i ([]:By)).flatMap bl)) (by simp) (λi hi=>?_) ?_ (xM (by decide))
  ·have h3:i=0∨i=1∨i=2∨i=3:=by omega
   unfold jR;rw [h.au];rcases h3 with rfl | rfl | rfl | rfl <;>
    exact ct rfl (bd (a:=[]) rfl (bd (wB _ [] (by simp [uB];omega) (by decide)) (by simp [Q7,wk1,wk2,wk3,wk4])))
  ·unfold jR;refine cf rfl (by simp [Q7])
 generalize hX:((((([1,u8 s.Active]++bl a)++bl b)++bl c)++bl []++bl [])++bl [])++bl []=X;have lX:X.length<200:=by rw [<- hX];simp [uB];omega
 refine bd (wB X s.Entropy (by omega) (by omega)) ?_;rw [h.st,h.ck,h.mc,h.sv,h.ix,h.lo,h.ks];refine bd (yEl s.Resets 0 0 _ (by simp [uB];omega)) ?_;refine bd (a:=bits s.Orderly) (by unfold zBm bits;cases s.Orderly<;>rfl) ?_;refine bd (yI (by simp [uB,yO];omega)) ?_;refine bd yB1 ?_;refine bd (wB _ _ (by simp [uB,yO];omega) (by simp [yO])) ?_;refine bd (yDt 0 _ (by simp [uB,yO];omega)) ?_;refine bd (yI (by simp [uB,yO];omega)) ?_;refine bd (tX (by unfold aL;rw [h.ix];exact cf rfl rfl)) ?_;refine bd (yAg 0 5 100 0 0 1000 _ (by simp [uB,yO];omega)) ?_;refine bd (yI (by simp [uB,yO];omega)) ?_;refine bd (tX (by unfold aM;rw [h.ks];exact cf rfl rfl)) ?_;refine congrArg some ?_;rw [<- hX];unfold wT;rw [hse.1,hse.2.1,hse.2.2];simp only [Q3];rfl
set_option maxRecDepth 100000
structure Rd (r:RS) (l:By):Prop where
 m:Rem r l
 o:r.Ok
section
variable {x:By} 
theorem zJi (b:By) (hb:b.length<2 ^ 40):∃ r,Rd r b/\rF b=some r.W:=⟨⟨b,0,0⟩,⟨⟨rfl,Qc _,rfl⟩,Qc _,hb⟩,zM6 b hb⟩
theorem rdU (h:Rd r (beN n k k++rest)) (h1:1<=k) (h8:k<=8) (h0:0<=n) (hn:n<2 ^ 62) (hs:n.toNat<256 ^ k):∃ r',Rd r' rest/\yE r.W (k:Int)=some (n,r'.W):=by
 obtain ⟨e,m⟩:=Wd h.m h8 h0 hn hs;have ok:=nW r k h.o;rw [e] at ok;exact ⟨r.to k,⟨m,ok⟩,by rw [wF r k h.o h1 h8,e]⟩
theorem rdBt (h:Rd r (u8 n :: rest)) (h0:0<=n) (hn:n<256):∃ r',Rd r' rest/\yE r.W 1=some (n,r'.W):=by
 obtain ⟨e,m⟩:=Rem.byte h.m h0 hn;have ok:=nW r 1 h.o;rw [e] at ok;exact ⟨r.to 1,⟨m,ok⟩,by have:=wF r 1 h.o (by decide) (by decide);rw [e] at this;exact this⟩
theorem zTr (h:Rd r (bl x++rest)) (hx:x.length<=65535) (hk:x.length<=k):∃ r',Rd r' rest/\yU r.W (k:Int)=some (x,r'.W):=by
 have h':=h.m;unfold bl at h';rw [Q3] at h';obtain ⟨e,m⟩:=Qw h' hx hk;have ok:=zBl r k h.o;rw [e] at ok;exact ⟨_,⟨m,ok⟩,by rw [uI r k h.o,e]⟩
theorem zWr (h:Rd r (x++rest)) (hx:x.length=k):∃ r',Rd r' rest/\vY r.W (k:Int)=some (x,r'.W):=by
 have e:=Rem.raw h.m hx;have ok:=zH9 r k h.o;rw [e] at ok;exact ⟨_,⟨Rem.to h.m hx,ok⟩,by rw [pI r k h.o,e]⟩
theorem rdE (h:Rd r []):wI r.W=some (0,r.W):=by rw [zA0 r h.o,Rem.fin h.m]
theorem zOj {l:By} (h:Rd r l):xY r.W=some (0,r.W):=by unfold xY;exact congrArg some (congrArg (·,r.W) h.m.e)
theorem Rd.cast {l:By} (h:Rd r l) (e:l=l'):Rd r l':=e▸h
theorem numG (h:Rd r (beN n k k++rest)) (h1:1<=k) (h8:k<=8) (h0:0<=n) (hn:n<2 ^ 62) (hs:n.toNat<256 ^ k) (hm:n<=most):∃ r',Rd r' rest/\xI (k:Int) most 0 r.W=some (n,0,r'.W):=by
 obtain ⟨r',g,e⟩:=rdU h h1 h8 h0 hn hs;refine ⟨r',g,?_⟩;unfold xI;refine cf rfl ?_;refine bd e ?_;refine bd (zOj g) ?_;refine bd (a:=0) (bd (a:=false) (ct rfl (congrArg some (by simp;omega))) (cf rfl rfl)) ?_;exact cf rfl rfl
theorem zTy (h:Rd r (u8 n :: rest)) (h0:0<=n) (hn:n<256) (hm:n<=most):∃ r',Rd r' rest/\xI 1 most 0 r.W=some (n,0,r'.W):=by
 obtain ⟨r',g,e⟩:=rdBt h h0 hn;refine ⟨r',g,?_⟩;unfold xI;refine cf rfl ?_;refine bd e ?_;refine bd (zOj g) ?_;refine bd (a:=0) (bd (a:=false) (ct rfl (congrArg some (by simp;omega))) (cf rfl rfl)) ?_;exact cf rfl rfl
theorem zI4 (h:Rd r (beN n 8 8++rest)) (h0:0<=n) (hn:n<2 ^ 62):∃ r',Rd r' rest/\yX 8 0 r.W=some (n,0,r'.W):=by
 obtain ⟨r',g,e⟩:=numG (k:=8) (most:=9223372036854775807) h (by decide) (by decide) h0 hn (by omega) (by omega);exact ⟨r',g,bd e rfl⟩
theorem any1 (h:Rd r (u8 n :: rest)) (h0:0<=n) (hn:n<256):∃ r',Rd r' rest/\yX 1 0 r.W=some (n,0,r'.W):=by
 obtain ⟨r',g,e⟩:=zTy (most:=9223372036854775807) h h0 hn (by omega);exact ⟨r',g,bd e rfl⟩
theorem zTl (h:Rd r (bl x++rest)) (hx:x.length<=4096):∃ r',Rd r' rest/\vL 0 r.W=some (x,0,r'.W):=by
 obtain ⟨r',g,e⟩:=zTr (k:=4096) h (by omega) hx;refine ⟨r',g,?_⟩;unfold vL;exact cf rfl (bd e (bd (zOj g) rfl))
theorem zLz:∀ (L:List By) (fuel:Nat) (acc:List By) (v n:Int) (r:RS),L.length<fuel->Rd r (L.flatMap bl++rest)->(∀ x∈L,x.length<=4096)->v+L.length=n->0<=v->n<=100->acc.length<=100->(acc.length:Int)<=v ->
  ∃ r',Rd r' rest/\zL (uC n) fuel (acc,v,0,r.b,(r.at':Int),r.e)=some (acc++L,0,r'.b,(r'.at':Int),r'.e)
 | [],f+1,acc,v,n,r,_,h,_,hv,_,_,_,_=>by
  refine ⟨r,h.cast (by simp),?_⟩;simp only [zL];have:uC n (acc,v,0,r.b,(r.at':Int),r.e)=some (.inr (acc,0,r.b,(r.at':Int),r.e)):=by
   unfold uC;exact cf (by simp at hv;simp;omega) rfl
  rw [this,Qe]
 | x :: L,f+1,acc,v,n,r,hf,h,hL,hv,h0,hn,ha,hav=>by
  have hx:=hL x (W4 ..);simp only [Qa] at hf hv;obtain ⟨r1,g1,e1⟩:=zTl (x:=x) (rest:=L.flatMap bl++rest) (h.cast (by simp)) hx;obtain ⟨r',g',e'⟩:=zLz L f (acc++[x]) (v+1) n r1 (by omega) g1 (λy hy=>hL y (W2 _ hy)) (by omega) (by omega) hn (by simp;omega) (by simp;omega);refine ⟨r',g',?_⟩;simp only [zL];have:uC n (acc,v,0,r.b,(r.at':Int),r.e)=some (.inl (acc++[x],v+1,0,r1.b,(r1.at':Int),r1.e)):=by
   unfold uC;refine ct (by simp;omega) ?_;refine bd e1 ?_;refine bd (yI (by simp;omega)) ?_;rw [yQ (by omega) (by omega)];rfl
  rw [this];simp only [e',Q3,W1]
theorem zRb (L:List By) (k:Int) (hk:(L.length:Int)=k) (h4:L.length<=4) (h:Rd r (L.flatMap bl++rest)) (hL:∀ x∈L,x.length<=4096):∃ r',Rd r' rest/\qD k 0 r.W=some (L,0,r'.W):=by
 obtain ⟨r',g,e⟩:=zLz L FU [] 0 k r (xM (by omega)) h hL (by omega) (W0 0) (by omega) (by simp) (by simp);refine ⟨r',g,?_⟩;unfold qD;exact bd e rfl
theorem yBi (h:Rd r ([bits b]++rest)):∃ r',Rd r' rest/\mM 0 r.W=some (b,0,r'.W):=by
 have hb:bits b=u8 (if b=true then 1 else 0):=by cases b<;>rfl
 obtain ⟨r',g,e⟩:=zTy (n:=if b=true then 1 else 0) (most:=1) (h.cast (by rw [hb];rfl)) (by split<;>decide) (by split<;>decide) (by split<;>decide);refine ⟨r',g,bd e ?_⟩;cases b<;>rfl
theorem zZ1:kB (0 :: beN 0 8 8)=some (⟨[],0⟩,0):=by decide +kernel
theorem zWd (h:Rd r (bl (0 :: beN 0 8 8)++rest)):∃ r',Rd r' rest/\rV 0 r.W=some (⟨[],0⟩,0,r'.W):=by
 obtain ⟨r',g,e⟩:=zTl h (by simp [yO]);refine ⟨r',g,?_⟩;unfold rV;exact bd e (cf rfl (bd zZ1 rfl))
theorem yB4 (s:zQ) (h:Sst s):iK (wT s)=some (s,0):=by
 obtain ⟨a,b,c,hs,la,lb,lc⟩:=h.sd;have hse:s.Seeds.getD 0 []=a/\s.Seeds.getD 1 []=b/\s.Seeds.getD 2 []=c:=by rw [hs];exact ⟨rfl,rfl,rfl⟩
 have hen:=h.en;have hlen:(wT s).length<2 ^ 40:=by
  unfold wT;rw [hse.1,hse.2.1,hse.2.2];simp only [Q1,uB,yO,Qa,Qp];omega
 obtain ⟨r0,g0,e0⟩:=zJi (wT s) hlen;unfold wT at g0;rw [hse.1,hse.2.1,hse.2.2] at g0;unfold iK;refine bd e0 ?_;obtain ⟨r1,g1,e1⟩:=any1 (n:=1) (rest:=_) (g0.cast rfl) (by decide) (by decide);refine bd e1 ?_;refine bd (a:=0) (bd (a:=false) rfl (cf rfl rfl)) ?_;obtain ⟨r2,g2,e2⟩:=zTy (n:=s.Active) (most:=3) (g1.cast rfl) (by have:=h.a0;omega) (by have:=h.a3;omega) h.a3;refine bd e2 ?_;obtain ⟨r3,g3,e3⟩:=zRb [a,b,c] 3 rfl (by simp) (rest:=_) (g2.cast (by simp only [Qg,W7,Qe,Q3,Wb];rfl)) (by simp;omega);refine bd e3 ?_;obtain ⟨r4,g4,e4⟩:=zRb [[],[],[],[]] 4 rfl (by simp) (rest:=_) (g3.cast (by simp only [Qg,W7,Qe,Q3];rfl)) (by simp);refine bd e4 ?_;obtain ⟨r5,g5,e5⟩:=zTl g4 (by omega);refine bd e5 ?_;obtain ⟨r6,g6,e6⟩:=zI4 g5 h.r0 (by have:=h.r1;omega);refine bd e6 ?_;obtain ⟨r7,g7,e7⟩:=zI4 g6 (by decide) (by decide);refine bd e7 ?_;obtain ⟨r8,g8,e8⟩:=zI4 g7 (by decide) (by decide);refine bd e8 ?_;obtain ⟨r9,g9,e9⟩:=yBi g8;refine bd e9 ?_;obtain ⟨r10,g10,e10⟩:=zWd g9;refine bd e10 ?_;obtain ⟨r11,g11,e11⟩:=zI4 g10 (by decide) (by decide);refine bd e11 ?_;obtain ⟨r12,g12,e12⟩:=zTy (n:=0) (most:=6) (g11.cast rfl) (by decide) (by decide) (by decide);refine bd e12 ?_;refine bd (tX (by unfold aG;exact cf rfl rfl)) ?_;obtain ⟨q1,k1,f1⟩:=zI4 g12 (by decide) (by decide);refine bd f1 ?_;obtain ⟨q2,k2,f2⟩:=zI4 k1 (by decide) (by decide);refine bd f2 ?_;obtain ⟨q3,k3,f3⟩:=zI4 k2 (by decide) (by decide);refine bd f3 ?_;obtain ⟨q4,k4,f4⟩:=zI4 k3 (by decide) (by decide);refine bd f4 ?_;obtain ⟨q5,k5,f5⟩:=zI4 k4 (by decide) (by decide);refine bd f5 ?_;obtain ⟨q6,k6,f6⟩:=zI4 k5 (by decide) (by decide);refine bd f6 ?_;obtain ⟨q7,k7,f7⟩:=zTy (n:=0) (most:=8) (rest:=[]) (k6.cast rfl) (by decide) (by decide) (by decide);refine bd f7 ?_;refine bd (a:=([],0,q7.b,(q7.at':Int),q7.e)) (tX (by unfold aK;exact cf rfl rfl)) ?_;refine bd (a:=(0,q7.b,(q7.at':Int),q7.e)) (ct rfl (bd (rdE k7) rfl)) ?_;refine cf rfl ?_;refine congrArg (λz=>some (z,(0:Int))) ?_;have h2:=h.au;have h8:=h.st;have h9:=h.ck;have h10:=h.sv;have h11:=h.mc;have h12:=h.ix;have h13:=h.lo;have h14:=h.ks;clear h;cases s;simp only at hs h2 h8 h9 h10 h11 h12 h13 h14;subst h2 h8 h9 h10 h11 h12 h13 h14 hs;rfl
end
set_option maxRecDepth 100000
def mrk (seq:Int) (p:By):By:=hs 12 [beN seq 8 8,p]
theorem eD (seq:Int) (p:By):(mrk seq p).length=32:=zCl _ _
theorem zPj (seq:Int) (p:By) (hp:p.length<2 ^ 20):mY seq p=some (mrk seq p):=by
 unfold mY;refine bd (wU [] 8 seq (by decide) (by decide) (by decide)) ?_;refine bd (zH3 12 [[]++beN seq 8 8,p] (by simp [tot,yO];omega)) rfl
def sB (seq:Nat) (p:By):By:=mrk seq p++(beN (seq:Int) 8 8++(beN (p.length:Int) 4 4++p))
theorem jD (seq:Nat) (p:By):(sB seq p).length=44+p.length:=by simp [sB,eD,yO];omega
theorem zVn (seq:Nat):Int.tmod (seq:Int) 2=((seq % 2:Nat):Int):=by rw [Int.tmod_eq_emod_of_nonneg (by omega)];rfl
theorem zSt:kQ 0=some true:=rfl
theorem zEm (d:zT) (seq:Nat) (p:By) (h1:1<=seq) (h2:seq<2 ^ 30) (hp:p.length<=60000) {r:zT×Int} (hw:nQ d ((seq % 2:Nat):Int) (sB seq p)=some r):rC d 0 (seq:Int) p=some r:=by
 unfold rC;refine bd (a:=false) (cf (by simp;omega) (cf (by simp;omega) (bd zSt rfl))) ?_;refine cf rfl ?_;refine cf (by simp;omega) ?_;refine bd (zPj _ p (by omega)) ?_;have hm:=eD (seq:Int) p;refine bd (wU _ 8 _ (by decide) (by decide) (by omega)) ?_;refine bd (wU _ 4 _ (by decide) (by decide) (by simp [yO];omega)) ?_;refine bd (yI (by simp [yO];omega)) ?_;rw [zVn];have e:Q6.wrap (0+((seq % 2:Nat):Int))=((seq % 2:Nat):Int):=by rw [yQ (by omega) (by omega)];omega
 rw [e];refine bd (a:=r) ?_ rfl;rw [<- hw];simp only [sB,Q3]
theorem zGv (seq:Nat) (p:By) (h1:1<=seq) (h2:seq<2 ^ 30) (hp:p.length<=60000):vK (sB seq p) ((seq % 2:Nat):Int)=some (p,(seq:Int),true):=by
 have hl:=jD seq p;obtain ⟨r0,g0,e0⟩:=zJi (sB seq p) (by omega);unfold vK;refine bd e0 ?_;unfold sB at g0;obtain ⟨r1,g1,e1⟩:=zWr (k:=32) g0 (eD _ _);refine bd e1 ?_;obtain ⟨r2,g2,e2⟩:=rdU (k:=8) g1 (by decide) (by decide) (by omega) (by omega) (by omega);refine bd e2 ?_;obtain ⟨r3,g3,e3⟩:=rdU (k:=4) g2 (by decide) (by decide) (by omega) (by omega) (by omega);refine bd e3 ?_;obtain ⟨r4,g4,e4⟩:=zWr (k:=p.length) (x:=p) (rest:=[]) (g3.cast (by simp)) rfl;refine bd e4 ?_;refine bd (a:=false) (bd (zOj g4) (cf rfl (cf (by simp;omega) (cf (by rw [zVn];simp) (bd (zPj _ p (by omega)) (congrArg some (by simp))))))) ?_;exact cf rfl rfl
theorem zQr (w:Int):vK [] w=some ([],0,false):=by
 unfold vK;refine bd (zM6 [] (by decide)) ?_;refine bd (a:=([],RS.W ⟨[],0,2⟩)) rfl ?_;refine bd (a:=(0,RS.W ⟨[],0,2⟩)) rfl ?_;refine bd (a:=(0,RS.W ⟨[],0,2⟩)) rfl ?_;refine bd (a:=([],RS.W ⟨[],0,2⟩)) rfl ?_;exact bd (a:=true) rfl (ct rfl rfl)
structure Jr (as:List By) (seq:Nat) (p:By):Prop where
 a:as.getD (seq % 2) []=sB seq p
 b:∃ q s ok,vK (as.getD (1 - seq % 2) []) ((1 - seq % 2:Nat):Int)=some (q,s,ok)/\(ok=true->s<seq)
 s1:1<=seq
 s2:seq<2 ^ 29
 pl:p.length<=60000
theorem zNc (d:zT) (seq:Nat) (p:By) (ho:d.Off=false) (h2:2<=d.Areas.length) (hal:∀ i,(d.Areas.getD i []).length<2 ^ 40) (h:Jr d.Areas seq p):nE d 0=some (p,(seq:Int),0):=by
 obtain ⟨ha,⟨q,s,ok,hb,hs⟩,s1,s2,pl⟩:=h;have hp:=zGv seq p s1 (by omega) pl;rw [<- ha] at hp;unfold nE;refine bd zSt ?_;refine cf rfl ?_;refine bd (zBc d 0 ho (by omega) (hal 0)) ?_;refine cf rfl ?_;refine bd (zBc d 1 ho (by omega) (hal 1)) ?_;refine cf rfl ?_;have h01:seq % 2=0∨seq % 2=1:=by omega
 rcases h01 with hm | hm
 ·rw [hm] at hp hb;refine bd (a:=(p,(seq:Int),true)) (bd (a:=d.Areas.getD 0 []) rfl (bd hp (bd (a:=true) (ct rfl (congrArg some (by simp;omega))) (ct rfl rfl)))) ?_;refine bd (a:=(p,(seq:Int),true)) (bd (a:=d.Areas.getD 1 []) rfl (bd hb (bd (a:=false) ?_ (cf rfl rfl)))) ?_
  ·cases ok
   ·exact cf rfl rfl
   ·exact ct rfl (congrArg some (by have:=hs rfl;simp;omega))
  ·exact cf rfl rfl
 ·rw [hm] at hp hb;cases ok
  ·refine bd (a:=([],0,false)) (bd (a:=d.Areas.getD 0 []) rfl (bd hb (bd (a:=false) (cf rfl rfl) (cf rfl rfl)))) ?_;refine bd (a:=(p,(seq:Int),true)) (bd (a:=d.Areas.getD 1 []) rfl (bd hp (bd (a:=true) (ct rfl (congrArg some (by simp;omega))) (ct rfl rfl)))) ?_;exact cf rfl rfl
  ·have hlt:=hs rfl;by_cases h0:0<s
   ·refine bd (a:=(q,s,true)) (bd (a:=d.Areas.getD 0 []) rfl (bd hb (bd (a:=true) (ct rfl (congrArg some (by simp [h0]))) (ct rfl rfl)))) ?_;refine bd (a:=(p,(seq:Int),true)) (bd (a:=d.Areas.getD 1 []) rfl (bd hp (bd (a:=true) (ct rfl (congrArg some (by simp [hlt]))) (ct rfl rfl)))) ?_;exact cf rfl rfl
   ·refine bd (a:=([],0,false)) (bd (a:=d.Areas.getD 0 []) rfl (bd hb (bd (a:=false) (ct rfl (congrArg some (by simp [h0]))) (cf rfl rfl)))) ?_;refine bd (a:=(p,(seq:Int),true)) (bd (a:=d.Areas.getD 1 []) rfl (bd hp (bd (a:=true) (ct rfl (congrArg some (by simp;omega))) (ct rfl rfl)))) ?_;exact cf rfl rfl
theorem wO (h:a<as.length):(as.set a y).getD a []=y:=by simp [List.getD_eq_getElem?_getD,h]
theorem getD_set_ne {b:Nat} (h:a≠b):(as.set a y).getD b []=as.getD b []:=by simp [List.getD_eq_getElem?_getD,List.getElem?_set_ne h]
theorem Jr.next (h:Jr as seq p) (h2:2<=as.length) (hs:seq+1<2 ^ 29) (hp:p'.length<=60000):Jr (as.set ((seq+1) % 2) (sB (seq+1) p')) (seq+1) p':=by
 refine ⟨wO (by omega),⟨p,(seq:Int),true,?_,λ_=>by omega⟩,by omega,hs,hp⟩;rw [getD_set_ne (by omega)];have e:1 - (seq+1) % 2=seq % 2:=by omega
 rw [e,h.a];exact zGv seq p h.s1 (by have:=h.s2;omega) h.pl
theorem Jr.other (h:Jr as seq p) (ha:2<=a):Jr (as.set a y) seq p:=by
 refine ⟨by rw [getD_set_ne (by omega)];exact h.a,?_,h.s1,h.s2,h.pl⟩;rw [getD_set_ne (by omega)];exact h.b
theorem Jr.first (n:Nat) (p:By) (hn:2<=n) (hp:p.length<=60000):Jr ((Q7 n ([]:By)).set 1 (sB 1 p)) 1 p:=by
 refine ⟨wO (by simp;omega),⟨[],0,false,?_,λh=>by cases h⟩,by decide,by decide,hp⟩;rw [getD_set_ne (by decide)];have:(Q7 n ([]:By)).getD (1 - 1 % 2) []=[]:=by simp [List.getD_eq_getElem?_getD,List.getElem?_replicate];split<;>rfl
 rw [this];exact zQr _
set_option maxRecDepth 100000
def jM (d:zC):zC:=⟨⟨d.Disk.Areas,d.Disk.Writes,d.Disk.CutAt,d.Disk.Torn,true⟩,default,false,d.Next⟩
theorem zFi (d:zC):qQ d=some (jM d):=rfl
theorem zUc (d:zC):mB d=some (jM d):=rfl
def zQ1:yB:=⟨false,false,⟨[],0⟩,0,false,0,Q7 3 default,Q7 3 default,[],[]⟩
structure Dk (d:zT) (seq:Nat) (st:zQ) (m:Nat):Prop where
 ok:zNi d
 m0:d.Writes<=m
 m1:m<2 ^ 50
 n:d.Areas.length=8
 al:∀ i,(d.Areas.getD i []).length<2 ^ 39
 jr:Jr d.Areas seq (wT st)
 sst:Sst st
structure Dv (d:zC) (seq:Nat) (st:zQ) (vo:yB) (m:Nat):Prop extends Dk d.Disk seq st m where
 on:d.On=true
 off:d.Disk.Off=false
 cut:d.Disk.CutAt=0
 s:d.State=⟨st,vo⟩
 nx:d.Next=(seq:Int)+1
theorem Dv.noC (h:Dv d seq st vo m):¬ isC d.Disk:=by
 have:=h.ok.w0;have h2:=h.cut;unfold isC;omega
theorem cI (s:zQ) (h:Sst s):(wT s).length<=400:=by
 obtain ⟨a,b,c,hs,la,lb,lc⟩:=h.sd;have hse:s.Seeds.getD 0 []=a/\s.Seeds.getD 1 []=b/\s.Seeds.getD 2 []=c:=by rw [hs];exact ⟨rfl,rfl,rfl⟩
 have hen:=h.en;unfold wT;rw [hse.1,hse.2.1,hse.2.2];simp only [Q1,uB,yO,Qa,Qp];omega
theorem bH (h1:d.On=true) (h2:d.Disk.Off=false):vM d=some true:=by
 unfold vM;exact bd (a:=true) (ct h1 (by rw [h2];rfl)) rfl
theorem zMs (h1:d.On=false):vM d=some false:=by
 unfold vM;exact bd (a:=false) (cf h1 rfl) rfl
theorem zKe (h2:d.Disk.Off=true):vM d=some false:=by
 unfold vM;cases h:d.On
 ·exact bd (a:=false) (cf rfl rfl) rfl
 ·exact bd (a:=false) (ct rfl (by rw [h2];rfl)) rfl
def onD (d:zC) (seq:Nat) (st:zQ):zC:=⟨⟨d.Disk.Areas,0,0,0,false⟩,⟨st,zQ1⟩,true,(seq:Int)+1⟩
theorem zIm (d:zC) (seq:Nat) (st:zQ) (hp:d.On=false∨d.Disk.Off=true) (h2:d.Disk.Areas.length=8) (hal:∀ i,(d.Disk.Areas.getD i []).length<2 ^ 39) (h:Jr d.Disk.Areas seq (wT st)) (hs:Sst st):tQ d=some (onD d seq st,0):=by
 unfold tQ;refine bd (a:=false) (hp.elim zMs zKe) ?_;refine cf rfl ?_;refine bd (a:=⟨d.Disk.Areas,0,0,0,false⟩) rfl ?_;refine bd (zNc ⟨d.Disk.Areas,0,0,0,false⟩ seq (wT st) rfl (by simp only;omega) (λi=>by have:=hal i;simp only;omega) h) ?_;refine cf rfl ?_;refine bd (yB4 st hs) ?_;refine cf rfl ?_;refine bd rfl ?_;have:=h.s2;rw [yQ (by omega) (by omega)];have e:(zQ.mk st.Seeds st.Auths st.Entropy st.Active st.Resets st.Restarts st.Clock st.Orderly st.Saved st.MaxCounter [] st.Lockout st.Keys)=st:=by
  have:=hs.ix;cases st;simp only at this;rw [this]
 refine congrArg (λz=>some (z,(0:Int))) ?_;show (zC.mk _ (zW.mk (zQ.mk st.Seeds st.Auths st.Entropy st.Active st.Resets st.Restarts st.Clock st.Orderly st.Saved st.MaxCounter [] st.Lockout st.Keys) _) _ _)=_;rw [e];rfl
theorem Dv.of_on (h2:d.Disk.Areas.length=8) (hal:∀ i,(d.Disk.Areas.getD i []).length<2 ^ 39) (h:Jr d.Disk.Areas seq (wT st)) (hs:Sst st) (m:Nat) (hm:m<2 ^ 50):Dv (onD d seq st) seq st zQ1 m:=
 ⟨⟨⟨by show d.Disk.Areas.length<=64;omega,W0 0,by show (0:Int)<2 ^ 60;decide⟩,by show (0:Int)<=m;omega,hm,h2,hal,h,hs⟩,rfl,rfl,rfl,rfl,rfl⟩
theorem zR1 (d:zC) (seq:Nat) (st:zQ) (h2:d.Disk.Areas.length=8) (hal:∀ i,(d.Disk.Areas.getD i []).length<2 ^ 39) (h:Jr d.Disk.Areas seq (wT st)) (hs:Sst st):nU d=some (onD d seq st,true):=by
 unfold nU;refine bd (zFi d) ?_;refine bd (zIm (jM d) seq st (.inl rfl) h2 hal h hs) ?_;rfl
theorem Dk.again (h:Dk d.Disk seq st m):nU d=some (onD d seq st,true)/\∀ m',m'<2 ^ 50->Dv (onD d seq st) seq st zQ1 m':=
 ⟨zR1 d seq st h.n h.al h.jr h.sst,λm' hm=>Dv.of_on h.n h.al h.jr h.sst m' hm⟩
theorem zPg (n i:Nat):(Q7 n ([]:By)).getD i []=[]:=by simp [List.getD_eq_getElem?_getD,List.getElem?_replicate];split<;>rfl
theorem new8:zH4 8=some ⟨Q7 8 [],0,0,0,false⟩:=by decide +kernel
theorem zQp (s:zQ) (h:Sst s):rR (zQ.mk s.Seeds s.Auths s.Entropy s.Active s.Resets s.Restarts s.Clock s.Orderly (zE.mk [] s.Saved.Updates) s.MaxCounter [] s.Lockout [])=some (wT s):=by
 rw [<- cD s h];have h1:=h.sv;have h2:=h.ix;have h3:=h.ks;clear h;cases s;simp only at h1 h2 h3;subst h1 h2 h3;rfl
theorem zMx (e:By) (active:Int) (he:e.length=32) (h1:1<=active) (h3:active<=3):Def (nT 8 e active) (λr=>r.2=0/\(∃ d0,r.1=jM d0)/\∃ st,Dk r.1.Disk 1 st 1/\st.Active=active/\st.Resets=0/\∀ a,a≠1->r.1.Disk.Areas.getD a []=[]):=by
 unfold nT;refine Q0 (Q9 (a:=false) (Q:=λr=>r=false) rfl rfl) (λb hb=>?_);subst hb;refine Q5 (λh=>by cases h) (λ_=>?_);refine Q0 (zQ0 e active he h1 h3) (λr hr=>?_);obtain ⟨st,x⟩:=r;obtain ⟨hx,hs,ha,hr0,_⟩:=hr;simp only at hx hs ha hr0;subst hx;refine Q5 (λh=>by cases h) (λ_=>?_);have hl:=cI st hs;have hrl:=jD 1 (wT st);let dk:zT:=⟨Q7 8 [],0,0,0,false⟩;have hok:zNi dk:=⟨by decide,by decide,by decide⟩;have hw:=gG dk 1 (sB 1 (wT st)) hok rfl (by decide) (by omega) (by decide);have hwc:wrC dk (dk.Areas.getD 1 []) (sB 1 (wT st))=sB 1 (wT st):=by
  unfold wrC eX;rw [if_neg (show ¬ (dk.Writes+1=dk.CutAt) by decide),if_neg (show ¬ isC dk by unfold isC;decide),Qh,Qe]
 rw [hwc,show zAa dk=0 from if_neg (show ¬ isC dk by unfold isC;decide)] at hw;have hcm:=zEm dk 1 (wT st) (by decide) (by decide) (by omega) hw;refine Q0 (Q9 (Q:=λr=>r=dk) new8 rfl) (λr hr=>?_);subst hr;refine Q0 (Q9 (Q:=λr=>r=wT st) (zQp st hs) rfl) (λp hp=>?_);subst hp;refine Q0 (Q9 (Q:=λr=>r=(jY dk 1 (sB 1 (wT st)),0)) hcm rfl) (λr hr=>?_);subst hr;refine Q5 (λh=>by cases h) (λ_=>?_);refine Q9 (a:=(jM ⟨jY dk 1 (sB 1 (wT st)),default,false,2⟩,0)) rfl ⟨rfl,⟨_,rfl⟩,st,?_,ha,hr0,λa ha=>(getD_set_ne (λh=>ha h.symm)).trans (zPg 8 a)⟩;have hj:=Jr.first 8 (wT st) (by decide) (by omega);refine ⟨⟨by show ((Q7 8 ([]:By)).set 1 (sB 1 (wT st))).length<=64;simp,by show (0:Int)<=0+1;decide,by show (0:Int)+1<2 ^ 60;decide⟩,by show (0:Int)+1<=((1:Nat):Int);decide,by decide,by show ((Q7 8 ([]:By)).set 1 (sB 1 (wT st))).length=8;simp,λi=>?_,hj,hs⟩;show (((Q7 8 ([]:By)).set 1 (sB 1 (wT st))).getD i []).length<2 ^ 39;by_cases hi:1=i
 ·subst hi;rw [wO (by simp)];omega
 ·rw [getD_set_ne hi];rw [zPg];decide
def gV (d:zC) (a:Nat) (y:By):zC:=⟨jY d.Disk a y,d.State,d.On,d.Next⟩
theorem zGp (d:zC) (x:zT):nY d x 0=some (⟨x,d.State,d.On,d.Next⟩,0):=rfl
theorem zL3 (d:zC) (x:zT):nY d x 29=some (jM ⟨x,d.State,d.On,d.Next⟩,29):=rfl
theorem zHc (hal:∀ i,(as.getD i []).length<2 ^ 39) (hy:y.length<2 ^ 39) (ha:a<as.length):∀ i,((as.set a y).getD i []).length<2 ^ 39:=λi=>by
 by_cases hi:a=i
 ·subst hi;rw [wO ha];exact hy
 ·rw [getD_set_ne hi];exact hal i
theorem Dv.set (h:Dv d seq st vo m) (ha:2<=a) (h8:a<8) (hy:y.length<2 ^ 39) (hm:m+1<2 ^ 50):Dv (gV d a y) seq st vo (m+1):=by
 have hn:=h.n;have hok:=h.ok;have hm0:=h.m0;refine ⟨⟨⟨?_,?_,?_⟩,?_,hm,?_,?_,h.jr.other ha,h.sst⟩,h.on,?_,h.cut,h.s,h.nx⟩
 ·show (d.Disk.Areas.set a y).length<=64;simp;omega
 ·show 0<=d.Disk.Writes+1;have:=hok.w0;omega
 ·show d.Disk.Writes+1<2 ^ 60;omega
 ·show d.Disk.Writes+1<=((m+1:Nat):Int);omega
 ·show (d.Disk.Areas.set a y).length=8;simp [hn]
 ·exact zHc h.al hy (by omega)
 ·show decide (isC d.Disk)=false;exact decide_eq_false h.noC
theorem Dv.write (h:Dv d seq st vo m) (y:By) (h8:a<8) (hy:y.length<=65536):vN d (a:Int) y=some (gV d a y,0):=by
 have hw:=gG d.Disk a y h.ok h.off (by rw [h.n];exact h8) hy (by have:=h.al a;omega);have hc:=h.noC;have e:wrC d.Disk (d.Disk.Areas.getD a []) y=y:=by
  unfold wrC eX;rw [if_neg (show ¬ (d.Disk.Writes+1=d.Disk.CutAt) from hc),if_neg hc,Qh,Qe]
 rw [e,show zAa d.Disk=0 from if_neg hc] at hw;unfold vN;exact bd hw (bd (zGp d _) rfl)
theorem Dv.append (h:Dv d seq st vo m) (y:By) (h8:a<8) (hy:y.length<=65536):rL d (a:Int) y=some (gV d a (d.Disk.Areas.getD a []++y),0):=by
 have hw:=zE7 d.Disk a y h.ok h.off (by rw [h.n];exact h8) hy (by have:=h.al a;omega);have hc:=h.noC;have e:apC d.Disk (d.Disk.Areas.getD a []) y=d.Disk.Areas.getD a []++y:=by
  unfold apC eX;rw [if_neg (show ¬ (d.Disk.Writes+1=d.Disk.CutAt) from hc),Qh]
 rw [e,show zAa d.Disk=0 from if_neg hc] at hw;unfold rL;exact bd hw (bd (zGp d _) rfl)
theorem Dv.read (h:Dv d seq st vo m) (h8:a<8):uO d.Disk (a:Int)=some (d.Disk.Areas.getD a [],0):=
 zBc d.Disk a h.off (by rw [h.n];exact h8) (by have:=h.al a;omega)
set_option maxRecDepth 100000
def nmB (s:By):Bool:=decide (1<=s.length)&&decide (s.length<=12)&&s.all nameByte
def nameN (n:Nat):Bool:=(decide (97<=n)&&decide (n<=122))||(decide (48<=n)&&decide (n<=57))||decide (n=45)
theorem zP9:∀ n:Nat,n<256->(bif decide ((n:Int)<97) then (bif decide ((n:Int)<48) then (some ((n:Int) != 45)) else bif decide (57<(n:Int)) then (some ((n:Int) != 45)) else some false) else bif decide (122<(n:Int)) then (bif decide ((n:Int)<48) then (some ((n:Int) != 45)) else bif decide (57<(n:Int)) then (some ((n:Int) != 45)) else some false) else some false:Option Bool)=some (!nameN n):=by decide +kernel
theorem bN (s:By):nP s=some (nmB s):=by
 have hd:Def (nP s) (λr=>r=nmB s):=by
  unfold nP;refine Q0 (P:=λb=>b=(decide (s.length<1)||decide (12<s.length))) ?_ (λb hb=>?_)
  ·refine Q5 (λh=>Q2 ?_) (λh=>Q2 ?_)
   ·have:=dT h;rw [show decide (s.length<1)=true by rw [decide_eq_true_iff];omega];rfl
   ·have:=dF h;rw [show decide (s.length<1)=false by rw [decide_eq_false_iff_not];omega,Bool.false_or];exact decide_eq_decide.2 (by omega)
  refine Q5 (λh=>Q2 ?_) (λh=>?_)
  ·rw [h] at hb;have hb':s.length<1∨12<s.length:=by
    have:=hb.symm;rw [Bool.or_eq_true,decide_eq_true_iff,decide_eq_true_iff] at this;exact this
   unfold nmB;rcases hb' with h1 | h1
   ·rw [show decide (1<=s.length)=false by rw [decide_eq_false_iff_not];omega];rfl
   ·rw [show decide (s.length<=12)=false by rw [decide_eq_false_iff_not];omega,Bool.and_false];rfl
  ·rw [h] at hb;have hb':1<=s.length/\s.length<=12:=by
    have:=hb.symm;rw [Bool.or_eq_false_iff,decide_eq_false_iff_not,decide_eq_false_iff_not] at this;omega
   have hn:nmB s=s.all nameByte:=by
    unfold nmB;rw [show decide (1<=s.length)=true by rw [decide_eq_true_iff];omega,show decide (s.length<=12)=true by rw [decide_eq_true_iff];omega];rfl
   rw [hn];refine Q0 (hH s (kL s) (λi=>∀ h:i<s.length,nameByte s[i]=true) (λr=>r=false/\∃ i,∃ h:i<s.length,nameByte s[i]=false) (by omega) (λi hi=>?_) ?_) (λy hy=>?_)
   ·unfold kL;refine Q5 (λ_=>?_) (λh=>by have:=dF h;omega);refine Q0 (Qf hi) (λc hc=>?_);subst hc;refine Q0 (P:=λb=>b=!nameByte s[i]) (Q9 (zP9 s[i].toNat s[i].toNat_lt) rfl) (λb hb=>?_);refine Q5 (λh=>Q2 ⟨rfl,i,hi,?_⟩) (λh=>Q2 ⟨wS (by omega),λ_=>?_⟩)
    ·rw [h] at hb;simpa using hb.symm
    ·rw [h] at hb;simpa using hb.symm
   ·unfold kL;exact cf (by simp) rfl
   ·cases y with
    | inl r=>
     obtain ⟨rfl,i,hi,hn⟩:=hy;refine Q2 ?_;symm;rw [W5];exact ⟨_,Q8 hi,by simp [hn]⟩
    | inr u=>
     refine Q2 ?_;symm;rw [W8];intro c hc;obtain ⟨i,hi,rfl⟩:=Qo.mp hc;exact hy i hi hi
 obtain ⟨r,hr,rfl⟩:=hd;exact hr
theorem zT3 (s:By):zA4 s=some (nmB s):=rfl
def prB (c:UInt8):Bool:=decide (32<=c.toNat)&&decide (c.toNat<=126)
theorem zPb:∀ n:Nat,n<256->(bif decide ((n:Int)<32) then (some true) else some (decide (126<(n:Int))):Option Bool)=some (!(decide (32<=n)&&decide (n<=126))):=by decide +kernel
theorem zKz (s:By) (hs:s.length<2 ^ 40):uS s=some (s.all prB):=by
 have hd:Def (uS s) (λr=>r=s.all prB):=by
  unfold uS;refine Q0 (hH s (rT s) (λi=>∀ h:i<s.length,prB s[i]=true) (λr=>r=false/\∃ i,∃ h:i<s.length,prB s[i]=false) hs (λi hi=>?_) ?_) (λy hy=>?_)
  ·unfold rT;refine Q5 (λ_=>?_) (λh=>by have:=dF h;omega);refine Q0 (Qf hi) (λc hc=>?_);subst hc;refine Q0 (P:=λb=>b=!prB s[i]) (Q9 (zPb s[i].toNat s[i].toNat_lt) rfl) (λb hb=>?_);refine Q5 (λh=>Q2 ⟨rfl,i,hi,?_⟩) (λh=>Q2 ⟨wS (by omega),λ_=>?_⟩)
   ·rw [h] at hb;simpa using hb.symm
   ·rw [h] at hb;simpa using hb.symm
  ·unfold rT;exact cf (by simp) rfl
  ·cases y with
   | inl r=>
    obtain ⟨rfl,i,hi,hn⟩:=hy;refine Q2 ?_;symm;rw [W5];exact ⟨_,Q8 hi,by simp [hn]⟩
   | inr u=>
    refine Q2 ?_;symm;rw [W8];intro c hc;obtain ⟨i,hi,rfl⟩:=Qo.mp hc;exact hy i hi hi
 obtain ⟨r,hr,rfl⟩:=hd;exact hr
def rf:By->List By->By->List By
 | [],out,line=>if line=[] then out else []
 | c :: r,out,line=>if c=10 then (if line=[]∨4<=out.length then [] else rf r (out++[line]) []) else if prB c=true then rf r out (line++[c]) else []
theorem c10 (c:UInt8):((c.toNat:Int)==10)=decide (c=10):=by
 by_cases h:c=10
 ·subst h;rfl
 ·rw [decide_eq_false h,beq_eq_false_iff_ne];intro e;exact h (Qq.1 (by
                  have:c.toNat=10:=by omega
                  rw [this];rfl))
theorem zJ3 (x:zD) (hx:x.Payload.length<2 ^ 20):∀ (rest:By) (fuel i:Nat) (out:List By) (line:By),rest.length<fuel->x.Payload.drop i=rest->i<=x.Payload.length->out.length<=4->line.length<=i ->
  ∃ y,zL (xP x) fuel (out,line,(i:Int))=some y/\(match y with | .inl r=>r=[]/\rf rest out line=[] | .inr (o,l)=>rf rest out line=if l=[] then o else [])
 | [],f+1,i,out,line,_,hd,hi,_,_=>by
  have hl:i=x.Payload.length:=by
   have:=congrArg W6 hd;simp at this;omega
  refine ⟨.inr (out,line),?_,rfl⟩;simp only [zL];have:xP x (out,line,(i:Int))=some (.inr (.inr (out,line))):=by
   unfold xP;exact cf (by simp;omega) rfl
  rw [this]
 | c :: r,f+1,i,out,line,hf,hd,hi,ho,hll=>by
  have hil:i<x.Payload.length:=by
   have:=congrArg W6 hd;simp at this;omega
  have hc:idx x.Payload (i:Int)=some c:=by
   rw [yM hil];have:=Qk hil;rw [hd] at this;exact congrArg some (List.cons.inj this).1.symm
  have hr:x.Payload.drop (i+1)=r:=by
   have:=Qk hil;rw [hd] at this;exact (List.cons.inj this).2.symm
  simp only [Qa] at hf;simp only [zL];by_cases h10:c=10
  ·by_cases hb:line=[]∨4<=out.length
   ·refine ⟨.inl [],?_,rfl,by simp only [rf,if_pos h10,if_pos hb]⟩;have:xP x (out,line,(i:Int))=some (.inr (.inl [])):=by
     unfold xP;refine ct (dlt hil) (bd (a:=.inl []) (bd hc (ct (by rw [c10];simp [h10]) (bd (a:=true) ?_ (ct rfl rfl)))) rfl);by_cases h0:line=[]
     ·exact ct (by simp [h0]) rfl
     ·refine cf (by simp;exact h0) (congrArg some ?_);have:=hb.resolve_left h0;simp;omega
    rw [this]
   ·obtain ⟨y,hy,hy2⟩:=zJ3 x hx r f (i+1) (out++[line]) [] (by omega) hr (by omega) (by have:¬ 4<=out.length:=λh=>hb (.inr h);simp;omega) (by simp);refine ⟨y,?_,?_⟩
    ·have:xP x (out,line,(i:Int))=some (.inl (out++[line],[],((i+1:Nat):Int))):=by
      have hb1:line≠[]:=λh=>hb (.inl h);have hb2:¬ 4<=out.length:=λh=>hb (.inr h);unfold xP;refine ct (dlt hil) (bd (a:=.inr (out++[line],[])) (bd hc (ct (by rw [c10];simp [h10]) (bd (a:=false) (cf (by simp;exact hb1) (congrArg some (by simp;omega))) (cf rfl (bd (yI (by simp;omega)) rfl))))) ?_);rw [wS (show i<2 ^ 40 by omega)]
     rw [this];exact hy
    ·cases y with
     | inl r'=>simp only [rf,if_pos h10,if_neg hb];exact hy2
     | inr p=>simp only [rf,if_pos h10,if_neg hb];exact hy2
  ·have hp:(bif decide ((c.toNat:Int)<32) then (some true) else some (decide (126<(c.toNat:Int))):Option Bool)=some (!prB c):=zPb c.toNat c.toNat_lt;cases hpr:prB c with
   | false=>
    refine ⟨.inl [],?_,rfl,by simp only [rf,if_neg h10,hpr];rfl⟩;have:xP x (out,line,(i:Int))=some (.inr (.inl [])):=by
     unfold xP;refine ct (dlt hil) (bd (a:=.inl []) (bd hc (cf (by rw [c10];simp [h10]) (bd hp (ct (by rw [hpr];rfl) rfl)))) rfl)
    rw [this]
   | true=>
    obtain ⟨y,hy,hy2⟩:=zJ3 x hx r f (i+1) out (line++[c]) (by omega) hr (by omega) ho (by simp;omega);refine ⟨y,?_,?_⟩
    ·have:xP x (out,line,(i:Int))=some (.inl (out,line++[c],((i+1:Nat):Int))):=by
      unfold xP;refine ct (dlt hil) (bd (a:=.inr (out,line++[c])) (bd hc (cf (by rw [c10];simp [h10]) (bd hp (cf (by rw [hpr];rfl) (bd (yI (by simp;omega)) rfl))))) ?_);rw [wS (show i<2 ^ 40 by omega)]
     rw [this];exact hy
    ·cases y with
     | inl r'=>simp only [rf,if_neg h10,hpr,if_true];exact hy2
     | inr p=>simp only [rf,if_neg h10,hpr,if_true];exact hy2
theorem zFd (x:zD) (hx:x.Payload.length<2 ^ 20):uM x=some (rf x.Payload [] []):=by
 obtain ⟨y,hy,hy2⟩:=zJ3 x hx x.Payload FU 0 [] [] (xM (by omega)) rfl (by omega) (by simp) (by simp);unfold uM;refine bd hy ?_;cases y with
 | inl r=>obtain ⟨rfl,h⟩:=hy2;rw [h]
 | inr p=>
  obtain ⟨o,l⟩:=p;simp only at hy2 ⊢;by_cases hl:l=[]
  ·rw [if_pos hl] at hy2;exact cf (by simp [hl]) (by rw [hy2])
  ·rw [if_neg hl] at hy2;exact ct (by have:=Qt.2 hl;simp;omega) (by rw [hy2])
set_option maxRecDepth 100000
theorem zMh:∀ l:By,(Ql l 10=-1/\(10:UInt8)∉l)∨∃ w r,l=w++10 :: r/\(10:UInt8)∉w/\Ql l 10=(w.length:Int)
 | []=>.inl ⟨rfl,by simp⟩
 | b :: l=>by
  by_cases hb:b=10
  ·subst hb;exact .inr ⟨[],l,rfl,by simp,by simp [Ql]⟩
  ·have hne:(b==10)=false:=by rw [beq_eq_false_iff_ne];exact hb
   rcases zMh l with ⟨h1,h2⟩ | ⟨w,r,h1,h2,h3⟩
   ·refine .inl ⟨by unfold Ql;rw [hne,h1];rfl,?_⟩;simp only [Qm,not_or];exact ⟨λe=>hb e.symm,h2⟩
   ·refine .inr ⟨b :: w,r,by rw [h1];rfl,?_,?_⟩
    ·simp only [Qm,not_or];exact ⟨λe=>hb e.symm,h2⟩
    ·unfold Ql;rw [hne,h3];have:((w.length:Int)==-1)=false:=by rw [beq_eq_false_iff_ne];omega
     simp only [this,Qa];simp
theorem zP2:∀ (w r:By) (out:List By) (line:By),(10:UInt8)∉w->rf (w++10 :: r) out line=if w.all prB=true then (if line++w=[]∨4<=out.length then [] else rf r (out++[line++w]) []) else []
 | [],r,out,line,_=>by simp [rf]
 | c :: w,r,out,line,h=>by
  simp only [Qm,not_or] at h;have hc:¬ c=10:=λe=>h.1 e.symm;simp only [List.cons_append,rf,if_neg hc];rw [zP2 w r out (line++[c]) h.2];cases hp:prB c with
  | false=>simp [hp]
  | true=>simp [hp]
theorem zTk:∀ (w:By) (out:List By) (line:By),(10:UInt8)∉w->(w≠[]∨line≠[])->rf w out line=[]
 | [],out,line,_,h=>by simp only [rf];rw [if_neg (by simpa using h)]
 | c :: w,out,line,h,_=>by
  simp only [Qm,not_or] at h;have hc:¬ c=10:=λe=>h.1 e.symm;simp only [rf,if_neg hc];split
  ·exact zTk w out (line++[c]) h.2 (.inr (by simp))
  ·rfl
theorem zUl:∀ (n:Nat) (rest:By) (out:List By) (fuel:Nat),rest.length<=n->n<fuel->out.length<=4->rest.length<2 ^ 20 ->
  ∃ y,zL vD fuel (out,rest)=some y/\(match y with | .inl r=>r=[]/\rf rest out []=[] | .inr o=>rf rest out []=o):=by
 intro n;induction n with
 | zero=>
  intro rest out fuel hn hf ho hl;obtain ⟨f,rfl⟩:∃ f,fuel=f+1:=⟨fuel - 1,by omega⟩;have:rest=[]:=List.eq_nil_of_length_eq_zero (by omega);subst this;refine ⟨.inr out,?_,rfl⟩;simp only [zL];have:vD (out,[])=some (.inr (.inr out)):=by unfold vD;exact cf rfl rfl
  rw [this]
 | succ n ih=>
  intro rest out fuel hn hf ho hl;obtain ⟨f,rfl⟩:∃ f,fuel=f+1:=⟨fuel - 1,by omega⟩;by_cases h0:rest=[]
  ·subst h0;refine ⟨.inr out,?_,rfl⟩;simp only [zL];have:vD (out,[])=some (.inr (.inr out)):=by unfold vD;exact cf rfl rfl
   rw [this]
  have hpos:0<rest.length:=Qt.2 h0;simp only [zL];have bad:∀ (v:Int),sF rest 10=some v->((bif decide (v<1) then (some true) else bif ((out.length:Int)==4) then (some true) else (sub rest 0 v).bind λv_1130=>(uS v_1130).bind λv_1131=>some (!v_1131):Option Bool)=some true)->vD (out,rest)=some (.inr (.inl [])):=by
   intro v hv hc;unfold vD;exact ct (by simp;omega) (bd hv (bd hc (ct rfl rfl)))
  rcases zMh rest with ⟨h1,h2⟩ | ⟨w,r,h1,h2,h3⟩
  ·refine ⟨.inl [],?_,rfl,zTk rest out [] h2 (.inl h0)⟩;rw [bad (-1) (by unfold sF;rw [h1]) (ct rfl rfl)]
  ·have hlen:rest.length=w.length+1+r.length:=by rw [h1];simp;omega
   have hib:sF rest 10=some (w.length:Int):=by unfold sF;rw [h3]
   have htk:(rest.drop 0).take (w.length - 0)=w:=by rw [h1];simp
   have hsub:sub rest 0 (w.length:Int)=some w:=by
    have:=sD (l:=rest) (a:=0) (b:=w.length) (Qc _) (by omega);rw [htk] at this;exact this
   have hpr:=zKz w (by omega);have hrf:=zP2 w r out [] h2;rw [<- h1,Wb] at hrf;by_cases hw:w=[]
   ·refine ⟨.inl [],?_,rfl,?_⟩
    ·rw [bad _ hib (ct (by simp [hw]) rfl)]
    ·rw [hrf,if_pos (show w=[]∨4<=out.length from .inl hw)];simp
   have hw1:0<w.length:=Qt.2 hw;by_cases h4:out.length=4
   ·refine ⟨.inl [],?_,rfl,?_⟩
    ·rw [bad _ hib (cf (by simp;omega) (ct (by simp [h4]) rfl))]
    ·rw [hrf,if_pos (show w=[]∨4<=out.length from .inr (by omega))];simp
   have hstep:(sub rest 0 (w.length:Int)).bind (λv_1130=>(uS v_1130).bind λv_1131=>some (!v_1131))=some (!w.all prB):=bd hsub (bd hpr rfl);cases hp:w.all prB with
   | false=>
    refine ⟨.inl [],?_,rfl,by rw [hrf,hp];rfl⟩;rw [bad _ hib (cf (by simp;omega) (cf (by simp;omega) (hstep.trans (by rw [hp];rfl))))]
   | true=>
    obtain ⟨y,hy,hy2⟩:=ih r (out++[w]) f (by omega) (by omega) (by simp;omega) (by omega);have hr2:(rest.drop (w.length+1)).take (rest.length - (w.length+1))=r:=by
     rw [Q4 (by simp)];rw [h1];simp
    have hsub2:sub rest (((w.length+1:Nat)):Int) (rest.length:Int)=some r:=by
     have:=sD (l:=rest) (a:=w.length+1) (b:=rest.length) (by omega) (Qb _);rw [hr2] at this;exact this
    have:vD (out,rest)=some (.inl (out++[w],r)):=by
     unfold vD;refine ct (by simp;omega) (bd hib (bd (a:=false) (cf (by simp;omega) (cf (by simp;omega) (hstep.trans (by rw [hp];rfl)))) (cf rfl ?_)));refine bd hsub (bd (yI (by simp;omega)) ?_);rw [wS (show w.length<2 ^ 40 by omega)];exact bd hsub2 rfl
    rw [this];refine ⟨y,hy,?_⟩;rw [hrf,hp,if_pos rfl,if_neg (show ¬ (w=[]∨4<=out.length) by rintro (h | h);exact hw h;omega)];exact hy2
theorem zIq (x:zD) (hx:x.Payload.length<2 ^ 20):jK x=uM x:=by
 rw [zFd x hx];obtain ⟨y,hy,hy2⟩:=zUl x.Payload.length x.Payload [] FU (Qb _) (xM (by omega)) (by simp) hx;unfold jK;refine bd hy ?_;cases y with
 | inl r=>obtain ⟨rfl,h⟩:=hy2;rw [h]
 | inr o=>simp only at hy2 ⊢;rw [hy2]
theorem cZ (x:zD):sP x=vW x:=by
 unfold sP vW;rw [bN,zT3];refine congrArg _ (funext λv=>?_);cases v with
 | true=>rfl
 | false=>
  simp only [Option.bind_some,cond_false];cases nmB x.Name with
  | false=>rfl
  | true=>
   simp only [Bool.not_true,cond_false];cases h:decide (64<(x.Payload.length:Int)) with
   | true=>rfl
   | false=>
    rw [decide_eq_false_iff_not] at h;rw [zIq x (by omega)]
theorem zEr (x:zD):Def (vW x) (λr=>0<=r/\(r=0->1<=x.Role/\x.Role<=4/\0<=x.Version/\x.Version<=1000000/\x.Name.length<=12/\x.Payload.length<=64)):=by
 unfold vW;refine Q0 (P:=λb=>b=(decide (x.Role<1)||decide (4<x.Role)||decide (x.Version<0)||decide (1000000<x.Version))) ?_ (λb hb=>?_)
 ·cases h1:decide (x.Role<1)<;>cases h2:decide (4<x.Role)<;>cases h3:decide (x.Version<0)<;>exact Q2 (by simp)
 refine Q5 (λh=>Q2 ⟨by decide,λh=>by cases h⟩) (λh=>?_);rw [h] at hb;have hb:=hb.symm;simp only [Bool.or_eq_false_iff,decide_eq_false_iff_not] at hb;refine Q0 (Q9 (bN x.Name) (Q:=λr=>r=nmB x.Name) rfl) (λn hn=>?_);subst hn;refine Q5 (λh=>Q2 ⟨by decide,λh=>by cases h⟩) (λhn=>?_);refine Q5 (λh=>Q2 ⟨by decide,λh=>by cases h⟩) (λh=>?_);rw [decide_eq_false_iff_not] at h;refine Q0 (P:=λ_=>True) ?_ (λb _=>?_)
 ·refine Q5 (λ_=>Q0 (Q9 (zFd x (by omega)) (Q:=λ_=>True) trivial) (λ_ _=>Q2 trivial)) (λ_=>Q2 trivial)
 refine Q5 (λh=>Q2 ⟨by decide,λh=>by cases h⟩) (λ_=>Q2 ⟨by decide,λ_=>⟨by omega,by omega,by omega,by omega,?_,by omega⟩⟩);simp only [Bool.not_eq_false',nmB,Bool.and_eq_true,decide_eq_true_iff] at hn;exact hn.1.2
set_option maxRecDepth 100000
theorem zE8 {X X' Y Y':Type} {f:X->Option (X ⊕ Y)} {g:X'->Option (X' ⊕ Y')} (R:X->X'->Prop) (S:Y->Y'->Prop)
  (h:∀ x x',R x x'->(f x=none/\g x'=none)∨(∃ y y',f x=some (.inl y)/\g x'=some (.inl y')/\R y y')∨∃ y y',f x=some (.inr y)/\g x'=some (.inr y')/\S y y') :
  ∀ (fuel:Nat) (x:X) (x':X'),R x x'->(zL f fuel x=none/\zL g fuel x'=none)∨∃ y y',zL f fuel x=some y/\zL g fuel x'=some y'/\S y y'
 | 0,_,_,_=>.inl ⟨rfl,rfl⟩
 | n+1,x,x',hr=>by
  simp only [zL];rcases h x x' hr with ⟨h1,h2⟩ | ⟨y,y',h1,h2,h3⟩ | ⟨y,y',h1,h2,h3⟩
  ·rw [h1,h2];exact .inl ⟨rfl,rfl⟩
  ·rw [h1,h2];exact zE8 R S h n y y' h3
  ·rw [h1,h2];exact .inr ⟨y,y',rfl,rfl,h3⟩
def zBy (x:zD):Prop:=vW x=some 0
theorem sV.ok (h:sV x):zBy x:=bZ x h
theorem zBy.f (h:zBy x):1<=x.Role/\x.Role<=4/\0<=x.Version/\x.Version<=1000000/\x.Name.length<=12/\x.Payload.length<=64:=by
 obtain ⟨r,e,_,h2⟩:=zEr x;rw [h] at e;exact h2 (Qz e).symm
theorem zN0 (l:List zD) (i:Nat) (hi:i<l.length) (h8:l.length<=8):zL (wR l[i] (l.take i)) FU 0=zL (wL l (i:Int)) FU 0:=by
 have:=zE8 (f:=wR l[i] (l.take i)) (g:=wL l (i:Int)) (λa b=>a=b/\∃ k:Nat,a=(k:Int)) (λa b=>a=b) ?_ FU 0 0 ⟨rfl,0,rfl⟩
 ·rcases this with ⟨a,b⟩ | ⟨y,y',a,b,rfl⟩
  ·rw [a,b]
  ·rw [a,b]
 ·rintro a _ ⟨rfl,k,rfl⟩;right;have hlen:(l.take i).length=i:=by simp;omega
  by_cases hk:k<i
  ·have hkl:k<l.length:=by omega
   have hx:idx (l.take i) (k:Int)=some l[k]:=by rw [yM (by omega)];simp
   have hg:((l[k]).Role==(l[i]).Role&&(l[k]).Name==(l[i]).Name)=true->wR l[i] (l.take i) (k:Int)=some (.inr (.inl 42))/\wL l (i:Int) (k:Int)=some (.inr (.inl 42)):=by
    intro hb;rw [Bool.and_eq_true] at hb;constructor
    ·unfold wR;exact ct (by rw [hlen];simp;omega) (bd hx (bd (a:=true) (ct hb.1 (congrArg some hb.2)) (ct rfl rfl)))
    ·unfold wL;exact ct (by simp;omega) (bd (a:=true) (bd (yM hkl) (bd (yM hi) (ct hb.1 (bd (yM hkl) (bd (yM hi) (congrArg some hb.2)))))) (ct rfl rfl))
   have hn:((l[k]).Role==(l[i]).Role&&(l[k]).Name==(l[i]).Name)=false->wR l[i] (l.take i) (k:Int)=some (.inl ((k+1:Nat):Int))/\wL l (i:Int) (k:Int)=some (.inl ((k+1:Nat):Int)):=by
    intro hb;have hw:Q6.wrap ((k:Int)+1)=((k+1:Nat):Int):=wS (by omega);constructor
    ·unfold wR;refine ct (by rw [hlen];simp;omega) (bd hx (bd (a:=false) ?_ (cf rfl (by rw [hw]))));cases hr:(l[k]).Role==(l[i]).Role with
     | false=>rfl
     | true=>rw [hr] at hb;exact congrArg some hb
    ·unfold wL;refine ct (by simp;omega) (bd (a:=false) (bd (yM hkl) (bd (yM hi) ?_)) (cf rfl (by rw [hw])));cases hr:(l[k]).Role==(l[i]).Role with
     | false=>rfl
     | true=>rw [hr] at hb;exact ct rfl (bd (yM hkl) (bd (yM hi) (congrArg some hb)))
   cases hb:((l[k]).Role==(l[i]).Role&&(l[k]).Name==(l[i]).Name) with
   | true=>exact .inr ⟨_,_,(hg hb).1,(hg hb).2,rfl⟩
   | false=>exact .inl ⟨_,_,(hn hb).1,(hn hb).2,rfl,k+1,rfl⟩
  ·refine .inr ⟨.inr (),.inr (),?_,?_,rfl⟩
   ·unfold wR;exact cf (by rw [hlen];simp;omega) rfl
   ·unfold wL;exact cf (by simp;omega) rfl
theorem zJd (l:List zD) (i:Nat) (hi:i<l.length) (h8:l.length<=8):Def (zL (wL l (i:Int)) FU 0) (λr=>r=.inr ()∨r=.inl 42):=by
 refine Qu (λs=>∃ k:Nat,s=(k:Int)/\k<=i) (λs=>i - s.toNat) (λs hs=>?_) ⟨0,rfl,by omega⟩ (by simp;omega);obtain ⟨k,rfl,hk⟩:=hs;unfold wL;refine Q5 (λh=>?_) (λh=>Q2 (.inl rfl));have hki:=dT h;refine Q0 (P:=λ_=>True) ?_ (λb _=>?_)
 ·refine Q0 (Qf (show k<l.length by omega)) (λy _=>?_);refine Q0 (Qf hi) (λz _=>?_);refine Q5 (λ_=>?_) (λ_=>Q2 trivial);refine Q0 (Qf (show k<l.length by omega)) (λy _=>?_);exact Q0 (Qf hi) (λz _=>Q2 trivial)
 refine Q5 (λ_=>Q2 (.inr rfl)) (λ_=>Q2 ?_);rw [wS (by omega)];exact ⟨⟨k+1,rfl,by omega⟩,by simp only [Qj];omega⟩
theorem zPx {o:Option Bool} (h:o=some b):(bif c then some true else o)=some (c||b):=by cases c<;>simp [h]
theorem zYr (l:List zD) (h8:l.length<=8) :
  ∃ y,xQ l=xQ l/\zL (xQ l) FU (false,false,0)=some y/\(match y with
   | .inl r=>zL (xX l) FU (0,[false,false,false,false,false])=some (.inl r)/\0<r
   | .inr (fw,k)=>(∃ a b c,zL (xX l) FU (0,[false,false,false,false,false])=some (.inr [a,fw,b,k,c]))/\∀ x∈l,zBy x):=by
 have tot:Def (zL (xQ l) FU (false,false,0)) (λy=>match y with | .inl r=>0<r | .inr _=>∀ x∈l,zBy x):=by
  refine Qu (λs=>∃ i:Nat,s.2.2=(i:Int)/\i<=l.length/\∀ x∈l.take i,zBy x) (λs=>l.length - s.2.2.toNat) (λs hs=>?_) ⟨0,rfl,by omega,by simp⟩ (by simp;omega);obtain ⟨f,k,i'⟩:=s;obtain ⟨i,g1,g2,g3⟩:=hs;simp only at g1;subst g1;unfold xQ;refine Q5 (λh=>?_) (λh=>Q2 ?_)
  ·have hi:i<l.length:=by have:=dT h;omega
   refine Q0 (Qf hi) (λy hy=>?_);subst hy;refine Q0 ((zEr l[i]).get 0 |> λe=>(⟨_,e.1,⟨e.1,e.2.1⟩⟩:Def _ (λr=>vW l[i]=some r/\0<=r))) (λr hr=>?_);refine Q5 (λh=>Q2 ?_) (λh0=>?_)
   ·have:r≠0:=by simpa using h
    have:=hr.2;show 0<r;omega
   have h0':r=0:=by simpa using h0
   subst h0';refine Q0 (P:=λ_=>True) ?_ (λb hb=>?_)
   ·refine Q5 (λh0=>?_) (λ_=>Q2 trivial);have h0':=dT h0;refine Q0 (Qf hi) (λy hy=>?_);rw [yQ (by omega) (by omega),show (i:Int) - 1=((i - 1:Nat):Int) by omega];exact Q0 (Qf (show i - 1<l.length by omega)) (λy hy=>Q2 trivial)
   refine Q5 (λh=>Q2 (show (0:Int)<41 by decide)) (λ_=>?_);refine Q0 (zJd l i hi h8) (λr' hr'=>?_);rcases hr' with rfl | rfl
   ·refine Q0 (P:=λ_=>True) (Q5 (λ_=>Q2 trivial) (λ_=>Q0 (Qf hi) (λy _=>Q2 trivial))) (λb1 _=>?_);refine Q0 (P:=λ_=>True) (Q5 (λ_=>Q2 trivial) (λ_=>Q0 (Qf hi) (λy _=>Q2 trivial))) (λb2 _=>Q2 ?_);rw [wS (by omega)];refine ⟨⟨i+1,rfl,by omega,λx hx=>?_⟩,by simp only [Qj];omega⟩;rcases kH hi hx with hx | rfl
    ·exact g3 x hx
    ·exact hr.1
   ·exact Q2 (show (0:Int)<42 by decide)
  ·have:=dF h;rw [Q4 (by omega)] at g3;exact g3
 obtain ⟨y,hy,hy2⟩:=tot;have sim:=zE8 (f:=xX l) (g:=xQ l) (λs t=>∃ (i:Nat) (a b c:Bool),s=((i:Int),[a,t.1,b,t.2.1,c])/\t.2.2=(i:Int)/\i<=l.length)
  (λy z=>match y,z with | .inl r,.inl r'=>r=r' | .inr s,.inr t=>∃ a b c,s=[a,t.1,b,t.2,c] | _,_=>False) ?_ FU (0,[false,false,false,false,false]) (false,false,0) ⟨0,false,false,false,rfl,rfl,by omega⟩
 ·rcases sim with ⟨_,b⟩ | ⟨s,t,a,b,c⟩
  ·rw [hy] at b;cases b
  ·rw [hy] at b;obtain rfl:=Qz b;refine ⟨y,rfl,hy,?_⟩;cases y with
   | inl r=>
    cases s with
    | inl r'=>exact ⟨by rw [a,show r'=r from c],hy2⟩
    | inr _=>exact c.elim
   | inr t=>
    cases s with
    | inl _=>exact c.elim
    | inr s=>
     obtain ⟨x1,x2,x3,x4⟩:=c;exact ⟨⟨x1,x2,x3,by rw [a,x4]⟩,hy2⟩
 ·rintro ⟨s1,s2⟩ ⟨fw,k,i'⟩ ⟨i,a,b,c,e,rfl,hle⟩;obtain ⟨rfl,rfl⟩:=Prod.mk.inj e;right;by_cases hi:i<l.length
  ·have hd:decide ((i:Int)<(l.length:Int))=true:=by simp;omega
   obtain ⟨r,er,r0,hr⟩:=zEr l[i];have er':sP l[i]=some r:=(cZ _).trans er;by_cases h0:r=0
   rotate_left
   ·refine .inr ⟨.inl r,.inl r,?_,?_,rfl⟩
    ·unfold xX;exact ct hd (bd (yM hi) (bd er' (ct (b1 h0) rfl)))
    ·unfold xQ;exact ct hd (bd (yM hi) (bd er (ct (b1 h0) rfl)))
   obtain ⟨p1,p4,_⟩:=hr h0;subst h0;have ho:∃ o,(bif decide (0<(i:Int)) then (idx l (Q6.wrap ((i:Int) - 1))).bind λv_1235=>some (decide (l[i].Role<v_1235.Role)) else some false:Option Bool)=some o/\(bif decide (0<(i:Int)) then (idx l (i:Int)).bind λv_1313=>(idx l (Q6.wrap ((i:Int) - 1))).bind λv_1314=>some (decide (v_1313.Role<v_1314.Role)) else some false:Option Bool)=some o:=by
    cases hz:decide (0<(i:Int)) with
    | false=>exact ⟨false,rfl,rfl⟩
    | true=>
     have hz':0<(i:Int):=of_decide_eq_true hz;have hw:Q6.wrap ((i:Int) - 1)=((i - 1:Nat):Int):=by rw [yQ (by omega) (by omega)];omega
     refine ⟨decide (l[i].Role<(l[i - 1]'(by omega)).Role),?_,?_⟩
     ·rw [hw];exact bd (yM (by omega)) rfl
     ·rw [hw];exact bd (yM hi) (bd (yM (by omega)) rfl)
   obtain ⟨o,o1,o2⟩:=ho;cases o with
   | true=>
    refine .inr ⟨.inl 41,.inl 41,?_,?_,rfl⟩
    ·unfold xX;exact ct hd (bd (yM hi) (bd er' (cf rfl (bd o1 (ct rfl rfl)))))
    ·unfold xQ;exact ct hd (bd (yM hi) (bd er (cf rfl (bd o2 (ct rfl rfl)))))
   | false=>
    have hsub:sub l 0 (i:Int)=some (l.take i):=by
     have:=sD (l:=l) (a:=0) (b:=i) (Qc _) (by omega);simpa using this
    obtain ⟨z,ez,hz⟩:=zJd l i hi h8;have ez':=(zN0 l i hi h8).trans ez;rcases hz with rfl | rfl
    rotate_left
    ·refine .inr ⟨.inl 42,.inl 42,?_,?_,rfl⟩
     ·unfold xX;exact ct hd (bd (yM hi) (bd er' (cf rfl (bd o1 (cf rfl (bd hsub (bd ez' rfl)))))))
     ·unfold xQ;exact ct hd (bd (yM hi) (bd er (cf rfl (bd o2 (cf rfl (bd ez rfl))))))
    have hw:Q6.wrap ((i:Int)+1)=((i+1:Nat):Int):=wS (by omega);obtain ⟨n,hn⟩:=Qy (show 0<=l[i].Role by omega);have hn4:1<=n/\n<=4:=by omega
    have hix:ixN 5 l[i].Role=some n:=by rw [hn];simp [ixN];omega
    refine .inl ⟨(((i+1:Nat):Int),[a,fw,b,k,c].set n true),(fw||(l[i].Role==1),k||(l[i].Role==3),((i+1:Nat):Int)),?_,?_,?_⟩
    ·unfold xX;refine ct hd (bd (yM hi) (bd er' (cf rfl (bd o1 (cf rfl (bd hsub (bd ez' ?_)))))));refine bd hix (bd (a:=[a,fw,b,k,c].set n true) ?_ (by rw [hw]));simp [sN];omega
    ·unfold xQ;refine ct hd (bd (yM hi) (bd er (cf rfl (bd o2 (cf rfl (bd ez ?_))))));refine bd (zPx (bd (yM hi) rfl)) (bd (zPx (bd (yM hi) rfl)) (by rw [hw]))
    ·rw [hn];have:n=1∨n=2∨n=3∨n=4:=by omega
     rcases this with rfl | rfl | rfl | rfl
     ·exact ⟨i+1,a,b,c,by simp,rfl,by omega⟩
     ·exact ⟨i+1,a,true,c,by simp,rfl,by omega⟩
     ·exact ⟨i+1,a,b,c,by simp,rfl,by omega⟩
     ·exact ⟨i+1,a,b,true,by simp,rfl,by omega⟩
  ·have hd:decide ((i:Int)<(l.length:Int))=false:=by simp;omega
   refine .inr ⟨.inr [a,fw,b,k,c],.inr (fw,k),?_,?_,a,b,c,rfl⟩
   ·unfold xX;exact cf hd rfl
   ·unfold xQ;exact cf hd rfl
theorem zQh (l:List zD) (hl:l.length<2 ^ 40):Def (uK l) (λr=>wN l=some r/\0<=r/\(r=0->1<=l.length/\l.length<=8/\∀ x∈l,zBy x)):=by
 by_cases hb:l.length=0∨8<l.length
 ·have hc:(bif ((l.length:Int)==0) then (some true) else some (decide (8<(l.length:Int))):Option Bool)=some true:=by
   rcases hb with hb | hb
   ·exact ct (by simp [hb]) rfl
   ·exact cf (by rw [beq_eq_false_iff_ne];omega) (congrArg some (by simp;omega))
  refine ⟨1,?_,?_,by decide,λe=>by cases e⟩
  ·unfold uK;exact bd hc (ct rfl rfl)
  ·unfold wN;exact bd hc (ct rfl rfl)
 ·have hc:(bif ((l.length:Int)==0) then (some true) else some (decide (8<(l.length:Int))):Option Bool)=some false:=cf (by rw [beq_eq_false_iff_ne];omega) (congrArg some (by simp;omega));obtain ⟨y,_,hy,hy2⟩:=zYr l (by omega);cases y with
  | inl r=>
   refine ⟨r,?_,?_,Int.le_of_lt hy2.2,λe=>absurd e (by have:=hy2.2;omega)⟩
   ·unfold uK;exact bd hc (cf rfl (bd hy rfl))
   ·unfold wN;exact bd hc (cf rfl (bd hy2.1 rfl))
  | inr t=>
   obtain ⟨fw,k⟩:=t;obtain ⟨⟨a,b,c,h1⟩,h2⟩:=hy2;refine ⟨if fw&&k then 0 else 40,?_,?_,by split<;>decide,λ_=>⟨by omega,by omega,h2⟩⟩
   ·unfold uK;refine bd hc (cf rfl (bd hy ?_));cases fw<;>cases k<;>rfl
   ·unfold wN;refine bd hc (cf rfl (bd h1 ?_));cases fw<;>cases k<;>rfl
set_option maxRecDepth 100000
theorem zOv (x:zD) (h:x.Name.length<=65535) (h2:x.Payload.length<=65535):pY x=beN x.Role 1 1++(beN x.Version 4 4++(bl x.Name++(bl x.Payload++[]))):=by
 unfold pY bl;rw [zHq _ h2,zHq _ h];simp [rB]
theorem zGe (h:zBy x):(pY x).length<=85:=by
 obtain ⟨_,_,_,_,h5,h6⟩:=h.f;rw [zOv x (by omega) (by omega)];simp only [Q1,yO,uB,Qp];omega
theorem zVt (h:zBy x):mX x=some (pY x):=by
 obtain ⟨_,_,_,_,h5,h6⟩:=h.f;unfold mX;refine bd ((cZ x).trans h) (cf rfl ?_);have h3:(rB (rB [] 1 x.Role) 4 x.Version).length=5:=by rw [uE,uE];rfl
 have h4:=zA8 (rB (rB [] 1 x.Role) 4 x.Version) x.Name;refine bd (oG [] 1 _ (by omega) (by omega) (by simp)) ?_;refine bd (oG _ 4 _ (by omega) (by omega) (by rw [uE];simp)) ?_;refine bd (ckT (zFl (by omega))) ?_;refine bd (bE _ _ (by omega)) ?_;exact bd (bE _ _ (by omega)) rfl
def zAp (l:List zD):By:=beN (l.length:Int) 1 1++l.flatMap λx=>bl (pY x)
structure zF2 (l:List zD):Prop where
 r:uK l=some 0
 p:wN l=some 0
 h1:1<=l.length
 h8:l.length<=8
 im:∀ x∈l,zBy x
theorem chOk (hl:l.length<2 ^ 40) (h:uK l=some 0):zF2 l:=by
 obtain ⟨r,e,h1,_,h2⟩:=zQh l hl;have:r=0:=Qz (e.symm.trans h);subst this;obtain ⟨a,b,c⟩:=h2 rfl;exact ⟨e,h1,a,b,c⟩
theorem pN.ok (h:pN l):zF2 l:=chOk (by have:=h.len;omega) (zC1 l h)
theorem zPq (l:List zD) (h:∀ x∈l,zBy x):(l.flatMap λx=>bl (pY x)).length<=87*l.length:=by
 induction l with
 | nil=>simp
 | cons x l ih=>
  have h1:=zGe (h x (by simp));have h2:=ih λy hy=>h y (by simp [hy]);simp only [Qg,Q1,uB,Qa];omega
theorem gA (h:zF2 l):8<=(zAp l).length/\(zAp l).length<=697:=by
 have h1:=zPq l h.im;have h8:=h.h8;refine ⟨?_,by unfold zAp;rw [Q1,yO];omega⟩;obtain ⟨x,l',rfl⟩:∃ x l',l=x :: l':=by
  cases l with
  | nil=>exact absurd h.h1 (by decide)
  | cons x l'=>exact ⟨x,l',rfl⟩
 have:=(zHg x).1;unfold zAp;simp only [Qg,Q1,uB,yO];omega
theorem zSb (hi:i<l.length):((l.take (i+1)).flatMap λx=>bl (pY x))=((l.take i).flatMap λx=>bl (pY x))++bl (pY l[i]):=by
 rw [Qd,Qs];simp [hi]
theorem zUh (h:∀ x∈l,zBy x) (i:Nat):((l.take i).flatMap λx=>bl (pY x)).length<=87*l.length:=by
 have:=zPq (l.take i) λx hx=>h x (List.mem_of_mem_take hx);have h2:(l.take i).length<=l.length:=by simp;omega
 omega
theorem yAw (h:zF2 l):pE l=some (zAp l):=by
 have h8:=h.h8;unfold pE;refine bd h.p (cf rfl (bd (wU [] 1 _ (by omega) (by omega) (by simp)) ?_));refine bd (a:=zAp l) (yG l.length (λi=>(beN (l.length:Int) 1 1++((l.take i).flatMap λx=>bl (pY x)),(i:Int))) (by simp) (λi hi=>?_) ?_ (xM (by omega))) ?_
 ·have hx:=h.im _ (Q8 hi);have ht:=zUh h.im i;unfold pP;refine ct (by simp;omega) (bd (yM hi) (bd (zVt hx) (bd (wB _ _ ?_ (by have:=zGe hx;omega)) ?_)))
  ·rw [Q1,yO];omega
  ·rw [wS (by omega),zSb hi,Q3]
 ·unfold pP;refine cf (by simp) ?_;rw [Qh];rfl
 ·rfl
theorem yCg (h:zBy x):iG (pY x)=some (x,0):=by
 obtain ⟨a1,a2,a3,a4,a5,a6⟩:=h.f;have hle:=zGe h;unfold iG;obtain ⟨r,g,e⟩:=zJi (pY x) (by omega);refine bd e ?_;rw [zOv x (by omega) (by omega)] at g;obtain ⟨r1,g,e⟩:=rdU (k:=1) g (by omega) (by omega) (by omega) (by omega) (by omega);refine bd e ?_;obtain ⟨r2,g,e⟩:=rdU (k:=4) g (by omega) (by omega) (by omega) (by omega) (by omega);refine bd e ?_;obtain ⟨r3,g,e⟩:=zTr (k:=12) g (by omega) (by omega);refine bd e ?_;obtain ⟨r4,g,e⟩:=zTr (k:=64) g (by omega) (by omega);refine bd e ?_;have hc:sP (zD.mk x.Role x.Name x.Version x.Payload)=some 0:=(cZ x).trans h;exact bd (bd (rdE g) (cf rfl (bd hc rfl))) rfl
theorem zTh (b:By) (hb:b.length<2 ^ 30):∀ (m:List zD) (l:List zD) (r:RS) (fuel:Nat),m.length<fuel->(∀ x∈m,zBy x)->l.length+m.length<=8->87<=b.length∨(∀ x∈m,(pY x).length<=b.length)->Rd r (m.flatMap λx=>bl (pY x)) ->
  ∃ r',Rd r' []/\zL (vJ b) fuel (l,(m.length:Int),r.W.b_,r.W.at_,r.W.e_)=some (.inr (l++m,r'.W.b_,r'.W.at_,r'.W.e_))
 | [],l,r,f+1,_,_,_,_,g=>by
  refine ⟨r,g,?_⟩;simp only [zL];have:vJ b (l,(([]:List zD).length:Int),r.W.b_,r.W.at_,r.W.e_)=some (.inr (.inr (l,r.W.b_,r.W.at_,r.W.e_))):=by
   unfold vJ;exact bd (cf rfl rfl) (cf rfl rfl)
  rw [this,Qe]
 | x :: m,l,r,f+1,hf,hm,h8,hb2,g=>by
  have hx:=hm x (by simp);have hle:=zGe hx;simp only [Qa] at hf h8;have g':Rd r (bl (pY x)++(m.flatMap λx=>bl (pY x))):=g.cast (by simp);have hxb:(pY x).length<=b.length:=by
   rcases hb2 with h | h
   ·omega
   ·exact h x (by simp)
  obtain ⟨r1,g1,e1⟩:=zTr (k:=b.length) g' (by omega) hxb;obtain ⟨r2,g2,e2⟩:=zTh b hb m (l++[x]) r1 f (by omega) (λy hy=>hm y (by simp [hy])) (by simp;omega) (by
   rcases hb2 with h | h
   ·exact .inl h
   ·exact .inr λy hy=>h y (by simp [hy])) g1
  refine ⟨r2,g2,?_⟩;simp only [zL];have:vJ b (l,((x :: m).length:Int),r.W.b_,r.W.at_,r.W.e_)=some (.inl (l++[x],(m.length:Int),r1.W.b_,r1.W.at_,r1.W.e_)):=by
   unfold vJ;refine bd (a:=(true,r.W.b_,r.W.at_,r.W.e_)) (ct (by simp) (bd (zOj g) rfl)) (ct rfl ?_);refine bd e1 (bd (yCg hx) (cf rfl (bd (yI (by simp;omega)) ?_)));rw [Qa,yQ (by omega) (by omega),show (((m.length+1:Nat):Int) - 1)=(m.length:Int) by omega]
  rw [this];simp only;rw [e2,Q3];rfl
theorem zQz:∀ x∈l,(pY x).length<=(zAp l).length:=by
 intro x hx;unfold zAp;rw [Q1];have:(bl (pY x)).length<=(l.flatMap λx=>bl (pY x)).length:=by
  induction l with
  | nil=>cases hx
  | cons y l ih=>
   rw [Qg,Q1];rcases Qm.1 hx with rfl | hx
   ·omega
   ·have:=ih hx;omega
 rw [uB] at this;omega
theorem yDd (h:zF2 l):uP (zAp l)=some (l,0):=by
 have hl:=gA h;have h8:=h.h8;unfold uP;obtain ⟨r,g,e⟩:=zJi (zAp l) (by omega);refine bd e ?_;obtain ⟨r1,g,e⟩:=rdU (k:=1) (n:=(l.length:Int)) (r:=r) (rest:=l.flatMap λx=>bl (pY x)) g (by omega) (by omega) (by omega) (by omega) (by omega);refine bd e ?_;obtain ⟨r2,g2,e2⟩:=zTh (zAp l) (by omega) l [] r1 FU (xM (by omega)) h.im (by simpa using h8) (.inr zQz) g;refine bd e2 ?_;exact bd (bd (rdE g2) (cf rfl (bd h.p rfl))) (cf rfl rfl)
set_option maxRecDepth 100000
theorem db {β:Type} {o:Option α} {a:α} {f:α->Option β} {Q:β->Prop} (h:o=some a) (k:Def (f a) Q):Def (o.bind f) Q:=by subst h;exact k
theorem dct {x y:Option α} {Q:α->Prop} (h:c=true) (k:Def x Q):Def (bif c then x else y) Q:=by subst h;exact k
theorem dcf {x y:Option α} {Q:α->Prop} (h:c=false) (k:Def y Q):Def (bif c then x else y) Q:=by subst h;exact k
theorem zKt (l:By):∀ k,k<=8->∃ n:Nat,beV l k=(n:Int)/\n<256 ^ k/\∀ j,j<k->n / 256 ^ (k - (j+1)) % 256=(l.getD j 0).toNat
 | 0,_=>⟨0,rfl,by decide,λj h=>absurd h (Wa j)⟩
 | k+1,hk=>by
  obtain ⟨n,e,hn,hj⟩:=zKt l k (by omega);have hb:=(l.getD k 0).toNat_lt;have hp:256 ^ k<=256 ^ 7:=W3 (by decide) (by omega);have h56:(256:Nat) ^ 7=2 ^ 56:=by decide
  refine ⟨n*256+(l.getD k 0).toNat,?_,?_,λj hj'=>?_⟩
  ·unfold beV;rw [e];exact zHn n _ (by omega) (by omega)
  ·rw [Nat.pow_succ];omega
  ·by_cases h:j=k
   ·subst h;rw [Nat.sub_self,Nat.pow_zero,Nat.div_one];omega
   ·rw [show k+1 - (j+1)=(k - (j+1))+1 by omega,Nat.pow_succ,Nat.mul_comm (256 ^ (k - (j+1))) 256,<- Nat.div_div_eq_div_mul,show (n*256+(l.getD k 0).toNat) / 256=n by omega];exact hj j (by omega)
theorem zU8 {l:By} {n:Nat} (h8:k<=8) (hl:l.length=k) (e:beV l k=(n:Int)):beN (n:Int) k k=l:=by
 obtain ⟨m,e',hm,hj⟩:=zKt l k h8;have hp:256 ^ k<=256 ^ 8:=W3 (by decide) (by omega);have h64:(256:Nat) ^ 8=2 ^ 64:=by decide
 have hmn:m=n:=by rw [e] at e';omega
 subst hmn;refine List.ext_getElem (by rw [yO,hl]) λj h1 h2=>?_;have g1:(beN (m:Int) k k)[j]=(beN (m:Int) k k).getD j 0:=by simp [h1]
 have g2:l[j]=l.getD j 0:=by simp [h2]
 rw [g1,g2];apply Qq.1;rw [zGd m k j (by omega) (by omega) h8,hj j (by omega)]
theorem zGb (h8:k<=8) (he:(xU r k).2.e=0):∃ n:Int,xU r k=(n,r.to k)/\r.e=0/\0<=n/\r.b.take (r.at'+k)=r.b.take r.at'++beN n k k:=by
 unfold xU at he ⊢;by_cases h1:r.e≠0
 ·rw [if_pos h1] at he;exact absurd he h1
 rw [if_neg h1] at he ⊢;by_cases h2:r.left<k
 ·rw [if_pos h2] at he;exact absurd (show (2:Int)=0 from he) (by decide)
 rw [if_neg h2] at he ⊢;by_cases h3:9223372036854775808<=beV (r.get k) k
 ·rw [if_pos h3] at he;exact absurd (show (4:Int)=0 from he) (by decide)
 rw [if_neg h3];obtain ⟨n,e,hn,hj⟩:=zKt (r.get k) k h8;have hlen:=r.get_len k (by omega);refine ⟨n,?_,by omega,by omega,?_⟩
 ·rw [yQ (by omega) (by omega),e]
 ·rw [Qx,zU8 h8 hlen e];rfl
theorem zZn {l:By} (h:2<=l.length):beN (((l.getD 0 0).toNat*256+(l.getD 1 0).toNat:Nat):Int) 2 2=l.take 2:=by
 match l,h with
 | a :: b :: l,_=>
  obtain ⟨x,y,e,h⟩:=be2 (a.toNat*256+b.toNat) (by have:=a.toNat_lt;have:=b.toNat_lt;omega);show beN ((a.toNat*256+b.toNat:Nat):Int) 2 2=[a,b];have:=a.toNat_lt;have:=b.toNat_lt;have:=x.toNat_lt;have:=y.toNat_lt;rw [e,Qq.1 (show x.toNat=a.toNat by omega),Qq.1 (show y.toNat=b.toNat by omega)]
theorem zVj (he:(uT r m).2.e=0):∃ x,uT r m=(x,r.to (2+x.length))/\r.e=0/\x.length<=m/\r.b.take (r.at'+(2+x.length))=r.b.take r.at'++bl x:=by
 unfold uT at he ⊢;by_cases h1:r.e≠0
 ·rw [if_pos h1] at he;exact absurd he h1
 rw [if_neg h1] at he ⊢;by_cases h2:r.left<2
 ·rw [if_pos h2] at he;exact absurd (show (2:Int)=0 from he) (by decide)
 rw [if_neg h2] at he ⊢;by_cases h3:m<v2 r
 ·rw [if_pos h3] at he;exact absurd (show (4:Int)=0 from he) (by decide)
 rw [if_neg h3] at he ⊢;by_cases h4:r.left<2+v2 r
 ·rw [if_pos h4] at he;exact absurd (show (2:Int)=0 from he) (by decide)
 rw [if_neg h4];unfold RS.left at h2 h4;have hx:((r.b.drop (r.at'+2)).take (v2 r)).length=v2 r:=by simp;omega
 refine ⟨(r.b.drop (r.at'+2)).take (v2 r),by rw [hx],by omega,by omega,?_⟩;rw [hx,Qx,Qx,List.drop_drop];unfold bl;rw [hx];have hv:=zZn (l:=r.b.drop r.at') (by simp;omega);have e0:(r.b.drop r.at').getD 0 0=r.b.getD r.at' 0:=by simp [List.getD_eq_getElem?_getD,List.getElem?_drop]
 have e1:(r.b.drop r.at').getD 1 0=r.b.getD (r.at'+1) 0:=by simp [List.getD_eq_getElem?_getD,List.getElem?_drop]
 rw [e0,e1] at hv;show _=r.b.take r.at'++(beN ((v2 r:Nat):Int) 2 2++_);unfold v2;rw [hv]
set_option maxRecDepth 100000
set_option maxRecDepth 100000
theorem zU7 {x y:Nat} (hx:x<65536) (hy:y<65536) (h:beN (x:Int) 2 2=beN (y:Int) 2 2):x=y:=by
 obtain ⟨a,b,e1,n1⟩:=be2 x hx;obtain ⟨c,d,e2,n2⟩:=be2 y hy;rw [e1,e2] at h;injection h with h1 h2;injection h2 with h2 _;rw [n1,n2,h1,h2]
theorem zNq {L:Nat} (hok:r.Ok) (hy:y.length<65536) (hd:r.b.drop r.at'=(bl y++rest).take L) (hL:L<2+y.length):(uT r m).2.e≠0:=by
 intro he;obtain ⟨x,q,e0,_,ht⟩:=zVj he;have hok':=zBl r m hok;rw [q] at hok';have h1:r.at'+(2+x.length)<=r.b.length:=hok'.1;have h2:(r.b.drop r.at').take (2+x.length)=bl x:=by
  rw [Qx] at ht;exact List.append_cancel_left ht
 have hl:=congrArg W6 hd;rw [List.length_drop,Qn] at hl;have hxL:2+x.length<=L:=by omega
 rw [hd] at h2;have h3:=congrArg (List.take 2) h2;rw [List.take_take,List.take_take,show min (min 2 (2+x.length)) L=2 from by omega] at h3;have e1:(bl y++rest).take 2=beN (y.length:Int) 2 2:=by
  unfold bl;rw [Q3,Qr (by rw [yO];decide),Q4 (by rw [yO];decide)]
 have e2:(bl x).take 2=beN (x.length:Int) 2 2:=by
  unfold bl;rw [Qr (by rw [yO];decide),Q4 (by rw [yO];decide)]
 rw [e1,e2] at h3;have:=zU7 hy (by omega) h3;omega
theorem zRh {n:Nat} (he:(tL r n).2.e=0):tL r n=(r.get n,r.to n)/\r.e=0:=by
 unfold tL at he ⊢;by_cases h1:r.e≠0
 ·rw [if_pos h1] at he;exact absurd he h1
 rw [if_neg h1] at he ⊢;by_cases h2:r.left<n
 ·rw [if_pos h2] at he;exact absurd (show (2:Int)=0 from he) (by decide)
 rw [if_neg h2];exact ⟨rfl,by simpa using h1⟩
theorem zP3 (f:Nat->Nat) (p:Nat):∀ n,f 0<=p->∃ k,k<=n/\f k<=p/\(k=n∨p<f (k+1))
 | 0,h=>⟨0,Qb _,h,.inl rfl⟩
 | n+1,h=>by
  obtain ⟨k,h1,h2,h3⟩:=zP3 f p n h;rcases h3 with rfl | h3
  ·by_cases hp:p<f (k+1)
   ·exact ⟨k,by omega,h2,.inr hp⟩
   ·exact ⟨k+1,Qb _,by omega,.inl rfl⟩
  ·exact ⟨k,by omega,h2,.inr h3⟩
theorem zGs (l:yW):atE l l.Events.length=(vV l).length:=by
 unfold atE vV;rw [Q1,pO,Qh]
theorem zG7 (l:yW) (hi:i<l.Events.length):atE l (i+1)=atE l i+(2+(sC l.Events[i]).length):=by
 unfold atE;rw [zJm hi,Q1,Q1,yO];omega
theorem zMm (l:yW) {j:Nat} (h:i<=j) (hj:j<=l.Events.length):atE l i<=atE l j:=by
 induction j with
 | zero=>
  obtain rfl:i=0:=by omega
  exact Qb _
 | succ j ih=>
  by_cases he:i=j+1
  ·rw [he];exact Qb _
  ·have:=ih (by omega) (by omega);rw [zG7 l (by omega)];omega
theorem zY8 (l:yW) (i p:Nat) (hp:atE l i<=p):((vV l).take p).drop (atE l i)=(tW (l.Events.drop i)).take (p - atE l i):=by
 have e:vV l=(oW l.Active l.Resets++tW (l.Events.take i))++tW (l.Events.drop i):=by
  unfold vV;rw [Q3,<- zHd]
 have hl:(oW l.Active l.Resets++tW (l.Events.take i)).length=atE l i:=by rw [Q1,pO];rfl
 rw [List.drop_take,e,<- hl,Wc]
theorem zSz (l:yW) (h:LgF l) (p:Nat):Def (uG ((vV l).take p)) (λr=>r.2.2=5∨∃ k,k<=l.Events.length/\r.1=⟨l.Active,l.Resets,l.Events.take k⟩):=by
 have hn:=h.n;have hlen:=zHz l h.toLgGood;have hbl:((vV l).take p).length=min p (vV l).length:=Qn;generalize hb':(vV l).take p=b at hbl;have hb40:b.length<2 ^ 40:=by omega
 have ok0:(RS.mk b 0 0).Ok:=⟨Qc _,hb40⟩;obtain ⟨hh,hh1,hh2⟩:=zIi l.Active l.Resets h.a1 h.a3 h.r0 h.r1;have a1:=h.a1;have a3:=h.a3;have r0:=h.r0;have r1:=h.r1;unfold uG;by_cases hp:11<=b.length
 ·have hp11:11<=p:=by omega
  have hat0:atE l 0=11:=by simp [atE,tW]
  have S:∀ i,i<=l.Events.length->atE l i<=b.length->Rem ⟨b,atE l i,0⟩ ((tW (l.Events.drop i)).take (p - atE l i)):=λi hi hle=>
   ⟨rfl,hle,by show b.drop (atE l i)=_;rw [<- hb'];exact zY8 l i p (by omega)⟩
  have q0:Rem ⟨b,0,0⟩ ([83,87,76,49]++(u8 l.Active :: (beN l.Resets 6 6++(tW l.Events).take (p - 11)))):=by
   refine ⟨rfl,Qc _,?_⟩;show b.drop 0=_;rw [List.drop_zero,<- hb'];unfold vV;rw [Qi,Q4 (by rw [pO];exact hp11),pO];unfold oW;simp
  have e1:=Rem.raw (n:=4) q0 rfl;have q1:=Rem.to (n:=4) q0 rfl;obtain ⟨e2,q2⟩:=Rem.byte q1 (by omega) (by omega);obtain ⟨e3,q3⟩:=Wd q2 (by omega) r0 (by omega) (by omega);have ok1:((RS.mk b 0 0).to 4).Ok:=⟨q1.at',hb40⟩;have ok2:(((RS.mk b 0 0).to 4).to 1).Ok:=⟨q2.at',hb40⟩;have e4:((((RS.mk b 0 0).to 4).to 1).to 6)=⟨b,atE l 0,0⟩:=by rw [hat0];rfl
  rw [e4] at e3;obtain ⟨k,hk,hkp,hkn⟩:=zP3 (atE l) b.length l.Events.length (by rw [hat0];exact hp);have hkle:∀ i,i<=k->atE l i<=b.length:=λi hi=>Nat.le_trans (zMm l hi hk) hkp;have ok:∀ i,i<=k->(RS.mk b (atE l i) 0).Ok:=λi hi=>⟨hkle i hi,hb40⟩;have hloop:∃ c,zL (wZ b l.Active) FU (11,[],b,(atE l 0:Int),0)=some ((atE l k:Int),c,l.Events.take k):=by
   have step:∀ i,i<k->wZ b l.Active ((atE l i:Int),l.Events.take i,b,(atE l i:Int),0)=some (.inl ((atE l (i+1):Int),l.Events.take (i+1),b,(atE l (i+1):Int),0)):=by
    intro i hi;have hin:i<l.Events.length:=by omega
    have hE:=h.ev _ (Q8 hin);have hel:=jE hE.toEvGood;have hS:=S i (by omega) (hkle i (by omega));have hnx:=hkle (i+1) (by omega);have hst:=zG7 l hin;have hsplit:(tW (l.Events.drop i)).take (p - atE l i)=beN ((sC l.Events[i]).length:Int) 2 2++(sC l.Events[i]++(tW (l.Events.drop (i+1))).take (p - atE l (i+1))):=by
     rw [zBp hin,Qi,Q4 (by rw [yO];omega),Qi,Q4 (by rw [yO];omega),yO];congr 3;omega
    rw [hsplit] at hS;have hleft:=hS.left;rw [Q1,yO] at hleft;obtain ⟨f1,f2⟩:=Qw (m:=65535) hS (by omega) (by omega);have f3:(RS.mk b (atE l i) 0).to (2+(sC l.Events[i]).length)=⟨b,atE l (i+1),0⟩:=by rw [hst];rfl
    rw [f3] at f1;have lf:∀ j,j<=k->Q6.wrap ((b.length:Int) - (atE l j:Int))=((RS.mk b (atE l j) 0).left:Int):=λj hj=>zDz _ (ok j hj);obtain ⟨c,hc1,rfl⟩:=zRq hE;unfold wZ;refine bd (a:=(((RS.mk b (atE l i) 0).left:Int),(RS.mk b (atE l i) 0).W)) (congrArg some (by rw [<- lf i (by omega)];rfl)) ?_;refine ct (by simp;omega) ?_;refine bd (a:=(sC l.Events[i],(RS.mk b (atE l (i+1)) 0).W)) ((uI _ 65535 (ok i (by omega))).trans (by rw [f1])) ?_;refine bd (zO0 _ _ hE) ?_;refine cf (by simp;omega) ?_;refine bd (a:=(0,(RS.mk b (atE l (i+1)) 0).W)) rfl ?_;refine cf rfl ?_;refine bd (a:=false) (cf rfl (bd hc1 rfl)) ?_;refine cf rfl ?_;refine bd (yI (by simp;omega)) ?_;refine bd (a:=(((RS.mk b (atE l (i+1)) 0).left:Int),(RS.mk b (atE l (i+1)) 0).W)) (congrArg some (by rw [<- lf (i+1) (by omega)];rfl)) ?_;have hat:Q6.wrap ((b.length:Int) - ((RS.mk b (atE l (i+1)) 0).left:Int))=(atE l (i+1):Int):=by
     simp only [RS.left];rw [yQ (by omega) (by omega)];omega
    have ht:l.Events.take (i+1)=l.Events.take i++[l.Events[i]]:=by rw [Qd];simp [hin]
    rw [ht];show some (Sum.inl (Q6.wrap ((b.length:Int) - ((RS.mk b (atE l (i+1)) 0).left:Int)),_))=_;rw [hat];rfl
   have hend:∃ c,wZ b l.Active ((atE l k:Int),l.Events.take k,b,(atE l k:Int),0)=some (.inr ((atE l k:Int),c,l.Events.take k)):=by
    have lf:=zDz _ (ok k (Qb _));unfold wZ;by_cases h0:(RS.mk b (atE l k) 0).left=0
    ·refine ⟨0,bd (a:=(((RS.mk b (atE l k) 0).left:Int),(RS.mk b (atE l k) 0).W)) (congrArg some (by rw [<- lf];rfl)) (cf (by rw [h0];rfl) rfl)⟩
    have hlt:k<l.Events.length:=by
     rcases hkn with rfl | hkn
     ·exfalso;apply h0;show b.length - atE l l.Events.length=0;rw [zGs];omega
     ·by_cases he:k=l.Events.length
      ·exfalso;apply h0;show b.length - atE l k=0;rw [he,zGs];omega
      ·omega
    have hpn:b.length<atE l (k+1):=by
     rcases hkn with h | h
     ·omega
     ·exact h
    have hst:=zG7 l hlt;have hE:=h.ev _ (Q8 hlt);have hel:=jE hE.toEvGood;have hlast:=zMm l (i:=k+1) (j:=l.Events.length) (by omega) (Qb _);rw [zGs] at hlast;have hbp:b.length=p:=by omega
    have hd:=(S k hk hkp).d;rw [zBp hlt,<- Q3] at hd;have hsh:=zNq (m:=65535) (ok k (Qb _)) (by omega) (y:=sC l.Events[k]) hd (by omega);obtain ⟨ev,hev,_⟩:=zSe (uT ⟨b,atE l k,0⟩ 65535).1 (by
     unfold uT;split
     ·simp
     split
     ·simp
     split
     ·simp
     split
     ·simp
     ·simp;omega)
    refine ⟨2,?_⟩;refine bd (a:=(((RS.mk b (atE l k) 0).left:Int),(RS.mk b (atE l k) 0).W)) (congrArg some (by rw [<- lf];rfl)) ?_;refine ct (by simp;omega) ?_;refine bd (uI _ 65535 (ok k (Qb _))) ?_;refine bd hev ?_;refine cf (by simp;omega) ?_;refine bd (a:=((uT ⟨b,atE l k,0⟩ 65535).2.e,(uT ⟨b,atE l k,0⟩ 65535).2.W)) rfl ?_;exact ct (b1 hsh) rfl
   obtain ⟨c,hc⟩:=hend;refine ⟨c,yG k (λi=>((atE l i:Int),l.Events.take i,b,(atE l i:Int),0)) ?_ step hc (xM (by omega))⟩;rw [hat0];rfl
  obtain ⟨c,hc⟩:=hloop;refine db (a:=(⟨l.Active,l.Resets,l.Events.take k⟩,(atE l k:Int),c)) ?_ (Q2 (.inr ⟨k,hk,rfl⟩));refine bd (zM6 _ hb40) ?_;refine bd (a:=([83,87,76,49],((RS.mk b 0 0).to 4).W)) ((pI _ 4 ok0).trans (by rw [e1])) ?_;refine cf rfl ?_;refine bd (a:=(l.Active,(((RS.mk b 0 0).to 4).to 1).W)) ((wF _ 1 ok1 (by omega) (by omega)).trans (by rw [e2])) ?_;refine bd (a:=(l.Resets,(RS.mk b (atE l 0) 0).W)) ((wF _ 6 ok2 (by omega) (by omega)).trans (by rw [e3])) ?_;refine bd (a:=(false,b,(atE l 0:Int),0)) ?_ ?_
  ·refine bd (a:=(0,(RS.mk b (atE l 0) 0).W)) rfl ?_;refine cf rfl ?_;refine bd hh1 ?_;rw [hh2];rfl
  refine cf rfl ?_;exact bd hc rfl
 ·have ok1:=zH9 ⟨b,0,0⟩ 4 ok0;have ok2:=nW (tL ⟨b,0,0⟩ 4).2 1 ok1;have ok3:=nW (xU (tL ⟨b,0,0⟩ 4).2 1).2 6 ok2;have he:(xU (xU (tL ⟨b,0,0⟩ 4).2 1).2 6).2.e≠0:=by
   intro he;obtain ⟨n3,q3,g3,_⟩:=zGb (by decide) he;obtain ⟨n2,q2,g2,_⟩:=zGb (by decide) g3;obtain ⟨q1,_⟩:=zRh g2;rw [q3,q2,q1] at ok3;have:=ok3.1;have:0+4+1+6<=b.length:=this;omega
  refine Q0 (P:=λr=>r.2.2=5) ?_ (λr hr=>Q2 (.inl hr));refine db (zM6 b hb40) ?_;refine db (pI _ 4 ok0) ?_;by_cases hm:(tL ⟨b,0,0⟩ 4).1=[83,87,76,49]
  ·refine dcf (by rw [hm];rfl) ?_;refine db (wF _ 1 ok1 (by decide) (by decide)) ?_;refine db (wF _ 6 ok2 (by decide) (by decide)) ?_;refine db (a:=(true,(xU (xU (tL ⟨b,0,0⟩ 4).2 1).2 6).2.W.b_,(xU (xU (tL ⟨b,0,0⟩ 4).2 1).2 6).2.W.at_,(xU (xU (tL ⟨b,0,0⟩ 4).2 1).2 6).2.W.e_)) ?_ (dct rfl (Q2 rfl));exact bd (a:=((xU (xU (tL ⟨b,0,0⟩ 4).2 1).2 6).2.e,(xU (xU (tL ⟨b,0,0⟩ 4).2 1).2 6).2.W)) rfl (ct (b1 he) rfl)
  ·exact dct (by simpa using hm) (Q2 rfl)
set_option maxRecDepth 100000
theorem zTo (h:(xU r k).2.e≠0):(xU r k).1=0:=by
 unfold xU at h ⊢;by_cases h1:r.e≠0
 ·rw [if_pos h1]
 rw [if_neg h1] at h ⊢;by_cases h2:r.left<k
 ·rw [if_pos h2]
 rw [if_neg h2] at h ⊢;by_cases h3:9223372036854775808<=beV (r.get k) k
 ·rw [if_pos h3]
 ·rw [if_neg h3] at h;exact absurd h (by simpa [RS.to] using h1)
theorem zQd (seq:Nat) (p:By) (n:Nat) (w:Int) (h2:seq<2 ^ 30) (hp:p.length<=60000) (hn:n<44+p.length):vK ((sB seq p).take n) w=some ([],0,false):=by
 have hl:=jD seq p;have hbl:((sB seq p).take n).length=n:=by rw [Qn];omega
 unfold vK;by_cases h44:44<=n
 ·have hb:(sB seq p).take n=mrk seq p++(beN (seq:Int) 8 8++(beN (p.length:Int) 4 4++p.take (n - 44))):=by
   unfold sB;rw [Qi,Q4 (by rw [eD];omega),Qi,Q4 (by rw [yO,eD];omega),Qi,Q4 (by rw [yO,eD,yO];omega),eD,yO,yO];congr 4
  rw [hb];obtain ⟨q0,g0,e0⟩:=zJi (mrk seq p++(beN (seq:Int) 8 8++(beN (p.length:Int) 4 4++p.take (n - 44)))) (by rw [<- hb];omega);obtain ⟨q1,g1,e1⟩:=zWr (k:=32) g0 (eD _ _);obtain ⟨q2,g2,e2⟩:=rdU (k:=8) g1 (by decide) (by decide) (by omega) (by omega) (by omega);obtain ⟨q3,g3,e3⟩:=rdU (k:=4) g2 (by decide) (by decide) (by omega) (by omega) (by omega);have hr:tL q3 p.length=([],q3.err 2):=by
   unfold tL;rw [if_neg (by rw [g3.m.e];simp),if_pos (by rw [g3.m.left,Qn];omega)]
  refine bd e0 (bd e1 (bd e2 (bd e3 ?_)));refine bd ((pI q3 p.length g3.o).trans (by rw [hr])) ?_;exact bd (a:=true) (bd (a:=(2,(q3.err 2).W)) rfl (ct rfl rfl)) (ct rfl rfl)
 ·generalize (sB seq p).take n=b at hbl;have ok0:(RS.mk b 0 0).Ok:=⟨Qc _,by show b.length<_;omega⟩;have ok1:=zH9 ⟨b,0,0⟩ 32 ok0;have ok2:=nW (tL ⟨b,0,0⟩ 32).2 8 ok1;have ok3:=nW (xU (tL ⟨b,0,0⟩ 32).2 8).2 4 ok2;have he:(xU (xU (tL ⟨b,0,0⟩ 32).2 8).2 4).2.e≠0:=by
   intro he;obtain ⟨n3,q3,g3,_⟩:=zGb (by decide) he;obtain ⟨n2,q2,g2,_⟩:=zGb (by decide) g3;obtain ⟨q1,_⟩:=zRh g2;rw [q3,q2,q1] at ok3;have:=ok3.1;have:0+32+8+4<=b.length:=this;omega
  have hv:=zTo he;generalize hq:xU (xU (tL ⟨b,0,0⟩ 32).2 8).2 4=q at he hv ok3;have hr:tL q.2 0=([],q.2):=by unfold tL;rw [if_pos he]
  refine bd (zM6 b (by omega)) ?_;refine bd (pI _ 32 ok0) ?_;refine bd (wF _ 8 ok1 (by decide) (by decide)) ?_;refine bd ((wF _ 4 ok2 (by decide) (by decide)).trans (by rw [hq,hv])) ?_;refine bd ((pI q.2 0 ok3).trans (by rw [hr])) ?_;exact bd (a:=true) (bd (a:=(q.2.e,q.2.W)) rfl (ct (b1 he) rfl)) (ct rfl rfl)
theorem Jr.torn (h:Jr as 1 p) (h2:2<=as.length) (hp:p'.length<=60000) (n:Nat):Jr (as.set 0 ((sB 2 p').take n)) 1 p∨Jr (as.set 0 ((sB 2 p').take n)) 2 p':=by
 have hl:=jD 2 p';by_cases hn:n<44+p'.length
 ·left;refine ⟨(getD_set_ne (by decide)).trans h.a,⟨[],0,false,?_,λh=>by cases h⟩,h.s1,h.s2,h.pl⟩;rw [wO (by omega)];exact zQd 2 p' n _ (by decide) hp hn
 ·right;rw [Q4 (by omega)];exact h.next h2 (by decide) hp
set_option maxRecDepth 100000
theorem yAc:sT 1=some ⟨[bnk 20,[]],0⟩:=by decide +kernel
theorem yD5:sT 2=some ⟨[[],bnk 32],0⟩:=by decide +kernel
theorem zZ4:sT 3=some ⟨[bnk 20,bnk 32],0⟩:=by decide +kernel
theorem zU2 (active:Int) (h1:1<=active) (h3:active<=3):sT active=some (zQa active):=by
 rcases zYy h1 h3 with rfl | rfl | rfl
 ·exact yAc
 ·exact yD5
 ·exact zZ4
def sb (c0 c1:Bool):Int:=(if c0 then 1 else 0)+(if c1 then 2 else 0)
theorem ract (b0 b1:List By) (u:Int) (c0 c1:Bool) (h0:((b0.length:Int)==16)=c0) (h1:((b1.length:Int)==16)=c1):rG ⟨[b0,b1],u⟩=some (sb c0 c1):=by
 unfold rG;refine bd (a:=sb c0 c1) ?_ rfl;refine yG (x:=((0:Int),(0:Int))) 2 (λi=>match i with | 0=>((0:Int),(0:Int)) | 1=>(sb c0 false,1) | _=>(sb c0 c1,2)) rfl (λi hi=>?_) ?_ (xM (by omega))
 ·have:i=0∨i=1:=by omega
  rcases this with rfl | rfl
  ·show uV _ (0,0)=some (.inl (sb c0 false,1));unfold uV;refine ct rfl ?_;refine bd (a:=sb c0 false) (bd (a:=c0) (ct rfl (bd (a:=b0) rfl (by rw [h0]))) ?_) rfl;cases c0<;>rfl
  ·show uV _ (sb c0 false,1)=some (.inl (sb c0 c1,2));unfold uV;refine ct rfl ?_;refine bd (a:=sb c0 c1) (bd (a:=c1) (ct rfl (bd (a:=b1) rfl (by rw [h1]))) ?_) rfl;cases c0<;>cases c1<;>rfl
 ·rfl
theorem yAn (b0 b1:List By) (u:Int) (c0 c1:Bool) (h0:((b0.length:Int)==16)=c0) (h1:((b1.length:Int)==16)=c1):uZ ⟨[b0,b1],u⟩ 0=some c0/\uZ ⟨[b0,b1],u⟩ 1=some c1:=by
 have h:=ract b0 b1 u c0 c1 h0 h1;unfold uZ;constructor
 ·refine bd h ?_;cases c0<;>cases c1<;>rfl
 ·refine bd h ?_;cases c0<;>cases c1<;>rfl
theorem zT6 (r:zE) (b0 b1:List By) (hb:r.Banks=[b0,b1]) (l0:b0.length<=16) (l1:b1.length<=16) (h0:∀ x∈b0,x.length<=32) (h1:∀ x∈b1,x.length<=32):mL r=some (b0,b1,r.Updates):=by
 unfold mL;rw [hb];refine ct rfl ?_;refine bd (a:=b0) rfl ?_;refine bd (a:=b0) ?_ ?_
 ·refine yG b0.length (λi=>(b0.take i,(i:Int))) (by simp) (λi hi=>?_) ?_ (xM (by omega))
  ·unfold mZ;refine ct (dlt hi) ?_;refine bd (yM hi) ?_;refine bd (yI (by have:=h0 _ (Q8 hi);simp;omega)) ?_;refine bd (yI (by simp;omega)) ?_;rw [wS (show i<2 ^ 40 by omega),Qd];simp [hi]
  ·unfold mZ;refine cf (dge (Qb _)) ?_;simp
 refine ct rfl ?_;refine bd (a:=b1) rfl ?_;refine bd (a:=(b1,b0)) ?_ ?_
 ·refine yG b1.length (λi=>(b1.take i,(i:Int),b0)) (by simp) (λi hi=>?_) ?_ (xM (by omega))
  ·unfold mV;refine ct (dlt hi) ?_;refine bd (yM hi) ?_;refine bd (yI (by have:=h1 _ (Q8 hi);simp;omega)) ?_;refine bd (yI (by simp;omega)) ?_;rw [wS (show i<2 ^ 40 by omega),Qd];simp [hi]
  ·unfold mV;refine cf (dge (Qb _)) ?_;simp
 exact cf rfl rfl
end Go.Proofs.TT
