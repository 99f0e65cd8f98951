/- what a machine does whose chosen slot has no chain -/
import Derived.Test.YtmfjfpfolbnogaaGreatDoorDZ12
set_option linter.all false
open List renaming length_append -> Q0, append_assoc -> Q2, length_cons -> Q4, replicate -> Q7, getElem_mem -> Q9, take_add_one -> Qa, append_nil -> Qb, flatMap_cons -> Qc, length_nil -> Qe, take_of_length_le -> Qf, take_length -> Qg, flatMap_append -> Qh, drop_eq_getElem_cons -> Qk, mem_cons -> Qn, length_singleton -> Qp, mem_iff_getElem -> Qq, mem_of_mem_take -> Qr, length_pos_iff -> Qs, nil_append -> Qu, singleton_append -> Qx, mem_cons_of_mem -> Qy, mem_cons_self -> Qz, all_eq_false -> W0, flatMap_nil -> W2, all_eq_true -> W3
open Go.Sw.Def renaming bd -> Q1, s -> Q3, c -> Q5, of -> Q6, app -> Qo, loop -> Qt, ck -> W5
open Go.IntKind renaming i64 -> Q8
open Nat renaming le_refl -> Qd, zero_le -> Qi, ble_eq -> W4
open Go.Proofs.TT.Def renaming at' -> Qj
open Int renaming eq_ofNat_of_zero_le -> Ql, le_refl -> Qw, toNat_natCast -> W1
open Go.Lib renaming indexByte -> Qm
open Option.some renaming inj -> Qv
namespace Go.Proofs.TT
open Go Go.Sw
set_option maxRecDepth 100000
variable {a:Nat}{active:Int}{as:List By}{b:Bool}{bs:List By}{c:Int}{d:zF}{e:zB}{es:List zB}{i:Nat}{is:List Int}{k:Nat}{l:List zD}{l':By}{m:Nat}{most n:Int}{p:By}{r:RS}{rest:By}{role:Int}{seq:Nat}{st:zU}{vo:yF}{x:zD}{y:By}
def mT (e:zB):By:=[u8 e.Register,u8 e.Kind]++((beN ((e.Digests.getD 0 []).length:Int) 2 2++e.Digests.getD 0 [])++((beN ((e.Digests.getD 1 []).length:Int) 2 2++e.Digests.getD 1 [])++(beN (e.Data.length:Int) 2 2++e.Data)))
theorem eF (h:Fit e active a):(e.Digests.getD a []).length<=32:=by
 unfold Fit siz at h;split at h
 ·split at h
  ·omega
  ·split at h<;>omega
 ·omega
theorem zCg (h:EvGood e active):1<=(mT e).length/\(mT e).length<=136:=by
 have h0:=eF h.f0;have h1:=eF h.f1;have h2:=h.d;unfold mT;simp only [Q0,xE,Q4,Qe];omega
theorem Rem.eqv {l:By} (h:Rem r l) (e:l'=l):Rem r l':=e▸h
theorem zUj (n:Int) (h0:0<=n) (h:n<256):((u8 n).toNat:Int)=n:=by
 obtain ⟨m,rfl⟩:=Ql h0;rw [eU];omega
theorem Rem.byte (h:Rem r (u8 n :: rest)) (h0:0<=n) (hn:n<256):wW r 1=(n,r.to 1)/\Rem (r.to 1) rest:=by
 have h':Rem r ([u8 n]++rest):=h;refine ⟨h'.uintV rfl ?_ h0 (by omega),h'.to rfl⟩;have hb:beV [u8 n] 1=ior .u64 (mS .u64 ((0:Nat):Int) 8) (IntKind.u64.wrap (((u8 n).toNat:Nat):Int)):=rfl;rw [hb,zF7 0 _ (by omega) (by have:=(u8 n).toNat_lt;omega)];have:=zUj n h0 hn;omega
theorem zT5 (e:zB) (active:Int) (h:EvC e active):wZ e=some true:=by
 have r0:=h.r0;have r1:=h.r1;have k1:=h.k1;have k5:=h.k5;have h2:=h.d;have hl:=h.l;have h0:=eF h.f0;have h1:=eF h.f1;have hd:Def (wZ e) (λb=>b=true):=by
  unfold wZ;refine Q1 (P:=λb=>b=false) (Q6 (cf (by simp;omega) (cf (by simp;omega) (cf (by simp;omega) (cf (by simp;omega) (cf (by simp [hl]) rfl))))) (by simp;omega)) (λb hb=>?_);subst hb;refine Q5 (λh=>by cases h) (λ_=>?_);refine Q1 (jZ e.Digests (vP e) (λ_=>True) (λ_=>False) (by omega) (λi hi=>?_) ?_) (λy hy=>?_)
  ·unfold vP;refine Q5 (λ_=>?_) (λh=>by have:=dF h;omega);refine Q1 (Qj hi) (λd hd=>?_);refine Q1 (P:=λw=>w=32) (Q6 (dJ 1) rfl) (λw hw=>?_);subst hw;have:d.length<=32:=by
    have hi2:i=0∨i=1:=by omega
    rcases hi2 with rfl | rfl
    ·have:(e.Digests.getD 0 [])=d:=by simp [hd,hi]
     rw [<- this];exact h0
    ·have:(e.Digests.getD 1 [])=d:=by simp [hd,hi]
     rw [<- this];exact h1
   exact Q5 (λh=>by have:=dT h;omega) (λ_=>Q3 ⟨wO (by omega),trivial⟩)
  ·unfold vP;exact cf (by simp) rfl
  ·cases y with
   | inl b=>exact hy.elim
   | inr u=>exact Q3 rfl
 obtain ⟨b,hb,rfl⟩:=hd;exact hb
theorem zTc (e:zB) (active:Int) (h:EvC e active):jI (mT e)=some (e,0):=by
 have hlen:=zCg h.toEvGood;have h0:=eF h.f0;have h1:=eF h.f1;have h2:=h.d;have r0:=h.r0;have r1:=h.r1;have k1:=h.k1;have k5:=h.k5;have hD:e.Digests=[e.Digests.getD 0 [],e.Digests.getD 1 []]:=by
  have hl:=h.l
  match hx:e.Digests,hl with
  | [a,b],_=>rfl
 have henc:=zT5 e active h;have q0:Rem ⟨mT e,0,0⟩ (mT e):=⟨rfl,Qi _,rfl⟩;have ok0:(RS.mk (mT e) 0 0).Ok:=⟨Qi _,by simp;omega⟩;have w0:=zPs (mT e) (by omega);have b0:(RS.mk (mT e) 0 0).b.length<2 ^ 40:=by show (mT e).length<_;omega
 generalize (RS.mk (mT e) 0 0)=s0 at *;unfold mT at q0;obtain ⟨e1,q1⟩:=Rem.byte q0 r0 (by omega);obtain ⟨e2,q2⟩:=Rem.byte q1 (by omega) (by omega);replace q2:Rem ((s0.to 1).to 1) ((beN ((e.Digests.getD 0 []).length:Int) 2 2++e.Digests.getD 0 [])++((beN ((e.Digests.getD 1 []).length:Int) 2 2++e.Digests.getD 1 [])++(beN (e.Data.length:Int) 2 2++e.Data))):=q2;rw [Q2] at q2;obtain ⟨e3,q3⟩:=Rem.blobN (m:=32) q2 (by omega) (by omega);rw [Q2] at q3;obtain ⟨e4,q4⟩:=Rem.blobN (m:=32) q3 (by omega) (by omega);have q4':=q4.eqv (l':=beN (e.Data.length:Int) 2 2++(e.Data++[])) (by rw [Qb]);obtain ⟨e5,q5⟩:=Rem.blobN (m:=64) q4' (by omega) (by omega);have ok1:(s0.to 1).Ok:=⟨q1.at',by show s0.b.length<_;omega⟩;have ok2:((s0.to 1).to 1).Ok:=⟨q2.at',by show s0.b.length<_;omega⟩;generalize hs2:(s0.to 1).to 1=s2 at *;generalize hs3:s2.to (2+(e.Digests.getD 0 []).length)=s3 at *;have ok3:s3.Ok:=⟨q3.at',by rw [<- hs3,<- hs2];show s0.b.length<_;omega⟩;generalize hs4:s3.to (2+(e.Digests.getD 1 []).length)=s4 at *;have ok4:s4.Ok:=⟨q4.at',by rw [<- hs4,<- hs3,<- hs2];show s0.b.length<_;omega⟩;generalize hs5:s4.to (2+e.Data.length)=s5 at *;have ok5:s5.Ok:=⟨q5.at',by rw [<- hs5,<- hs4,<- hs3,<- hs2];show s0.b.length<_;omega⟩;unfold jI;refine bd w0 ?_;refine bd (a:=(e.Register,(s0.to 1).W)) ((vV s0 1 ok0 (by omega) (by omega)).trans (by rw [e1])) ?_;refine bd (a:=(e.Kind,s2.W)) ((vV (s0.to 1) 1 ok1 (by omega) (by omega)).trans (by rw [e2])) ?_;refine bd (a:=([e.Digests.getD 0 [],e.Digests.getD 1 []],s4.W.b_,s4.W.at_,s4.W.e_)) (two (b:=(1,[e.Digests.getD 0 []],s3.W.b_,s3.W.at_,s3.W.e_)) (c:=(2,[e.Digests.getD 0 [],e.Digests.getD 1 []],s4.W.b_,s4.W.at_,s4.W.e_)) ?_ ?_ rfl) ?_
 ·unfold kV;refine ct rfl ?_;refine bd (a:=((32:Nat):Int)) (dJ 1) ?_;refine bd (a:=(e.Digests.getD 0 [],s3.W)) ((uQ s2 32 ok2).trans (by rw [e3])) ?_;exact bd (yI (by simp)) rfl
 ·unfold kV;refine ct rfl ?_;refine bd (a:=((32:Nat):Int)) (dJ 1) ?_;refine bd (a:=(e.Digests.getD 1 [],s4.W)) ((uQ s3 32 ok3).trans (by rw [e4])) ?_;exact bd (yI (by simp)) rfl
 refine bd (a:=(e.Data,s5.W)) ((uQ s4 64 ok4).trans (by rw [e5])) ?_;have he:(⟨e.Register,e.Kind,[e.Digests.getD 0 [],e.Digests.getD 1 []],e.Data⟩:zB)=e:=by rw [<- hD]
 refine bd (a:=false) ?_ ?_
 ·refine bd (a:=(0,s5.W)) ((sV s5 ok5).trans (by rw [q5.fin])) ?_;refine cf rfl ?_;refine bd (a:=true) ?_ rfl;show wZ ⟨e.Register,e.Kind,[e.Digests.getD 0 [],e.Digests.getD 1 []],e.Data⟩=_;rw [he];exact henc
 refine cf rfl ?_;show some ((⟨e.Register,e.Kind,[e.Digests.getD 0 [],e.Digests.getD 1 []],e.Data⟩:zB),(0:Int))=_;rw [he]
set_option maxRecDepth 100000
def zBu (a r:Int):By:=[83,87,76,49]++(u8 a :: beN r 6 6)
def lA (es:List zB):By:=es.flatMap λe=>beN ((mT e).length:Int) 2 2++mT e
def tL (l:yU):By:=zBu l.Active l.Resets++lA l.Events
structure LgF (l:yU):Prop extends LgGood l where
 a1:1<=l.Active
 a3:l.Active<=3
 r0:0<=l.Resets
 r1:l.Resets<=1099511627776
theorem aO (a r:Int):(zBu a r).length=11:=by simp [zBu,xE]
theorem zFw:∀ es:List zB,(∀ e∈es,EvC e active)->(lA es).length<=138*es.length
 | [],_=>by simp [lA]
 | e :: es,h=>by
  have h1:=zFw es (λx hx=>h x (Qy _ hx));have h2:=zCg (h e (Qz ..)).toEvGood;unfold lA at h1 ⊢;rw [Qc,Q0,Q0,xE,Q4];omega
theorem zPi (h:i<es.length):lA (es.take (i+1))=lA (es.take i)++(beN ((mT es[i]).length:Int) 2 2++mT es[i]):=by
 unfold lA;rw [Qa,Qh];simp [h]
theorem zPg (h:i<es.length):lA (es.drop i)=beN ((mT es[i]).length:Int) 2 2++(mT es[i]++lA (es.drop (i+1))):=by
 rw [Qk h];unfold lA;rw [Qc,Q2]
theorem zQy (es:List zB) (i:Nat):lA es=lA (es.take i)++lA (es.drop i):=by
 unfold lA;rw [<- Qh,List.take_append_drop]
theorem zRr (l:yU) (h:LgGood l):11<=(tL l).length/\(tL l).length<=5531:=by
 have h1:=zFw l.Events h.ev;have h2:=h.n;unfold tL;rw [Q0,aO];omega
theorem zMt (a r:Int) (h1:1<=a) (h3:a<=3) (h0:0<=r) (hr:r<=1099511627776):∃ b,vK a r=some b/\b.length=11:=by
 refine ⟨sQ (sQ [83,87,76,49] 1 a) 6 r,?_,by rw [vQ,vQ];rfl⟩;unfold vK;refine bd (a:=false) (cf (by simp;omega) (cf (by simp;omega) (cf (by simp;omega) (congrArg some (by simp;omega))))) ?_;refine cf rfl ?_;refine bd (pK _ 1 a (by omega) (by omega) (by simp)) ?_;exact bd (pK _ 6 r (by omega) (by omega) (by rw [vQ];simp)) rfl
def atE (l:yU) (i:Nat):Nat:=11+(lA (l.Events.take i)).length
theorem zPq (l:yU) (h:LgF l):mJ (tL l)=some (l,0):=by
 have hn:=h.n;have hlen:=zRr l h.toLgGood;obtain ⟨hb,hh1,hh2⟩:=zMt l.Active l.Resets h.a1 h.a3 h.r0 h.r1;have a1:=h.a1;have a3:=h.a3;have r0:=h.r0;have r1:=h.r1;have S:∀ i,Rem ⟨tL l,atE l i,0⟩ (lA (l.Events.drop i)):=by
  intro i;have e:tL l=(zBu l.Active l.Resets++lA (l.Events.take i))++lA (l.Events.drop i):=by
   unfold tL;rw [Q2,<- zQy]
  have hl:(zBu l.Active l.Resets++lA (l.Events.take i)).length=atE l i:=by rw [Q0,aO];rfl
  refine ⟨rfl,?_,?_⟩
  ·show atE l i<=(tL l).length;rw [e,Q0,hl];omega
  ·show (tL l).drop (atE l i)=_;rw [e,<- hl,List.drop_left]
 have ok:∀ i,(RS.mk (tL l) (atE l i) 0).Ok:=λi=>⟨(S i).at',by show (tL l).length<_;omega⟩;have q0:Rem ⟨tL l,0,0⟩ ([83,87,76,49]++(u8 l.Active :: (beN l.Resets 6 6++lA l.Events))):=⟨rfl,Qi _,by show (tL l).drop 0=_;unfold tL zBu;simp⟩;have e1:=Rem.raw (n:=4) q0 rfl;have q1:=Rem.to (n:=4) q0 rfl;obtain ⟨e2,q2⟩:=Rem.byte q1 (by omega) (by omega);obtain ⟨e3,q3⟩:=Rem.uintI q2 (by omega) r0 (by omega) (by omega);have ok0:(RS.mk (tL l) 0 0).Ok:=⟨Qi _,by show (tL l).length<_;omega⟩;have ok1:((RS.mk (tL l) 0 0).to 4).Ok:=⟨q1.at',by show (tL l).length<_;omega⟩;have ok2:(((RS.mk (tL l) 0 0).to 4).to 1).Ok:=⟨q2.at',by show (tL l).length<_;omega⟩;have e4:((((RS.mk (tL l) 0 0).to 4).to 1).to 6)=⟨tL l,atE l 0,0⟩:=by
  show (⟨tL l,0+4+1+6,0⟩:RS)=_;unfold atE;simp [lA]
 rw [e4] at e3;unfold mJ;refine cf (by simp;omega) ?_;refine bd (a:=(l,(atE l l.Events.length:Int),0)) ?_ (cf rfl rfl);unfold lH;refine bd (a:=(l,(atE l l.Events.length:Int),0)) ?_ rfl;refine bd (zPs _ (by omega)) ?_;refine bd (a:=([83,87,76,49],((RS.mk (tL l) 0 0).to 4).W)) ((zEk _ 4 ok0).trans (by rw [e1])) ?_;refine cf rfl ?_;refine bd (a:=(l.Active,(((RS.mk (tL l) 0 0).to 4).to 1).W)) ((vV _ 1 ok1 (by omega) (by omega)).trans (by rw [e2])) ?_;refine bd (a:=(l.Resets,(RS.mk (tL l) (atE l 0) 0).W)) ((vV _ 6 ok2 (by omega) (by omega)).trans (by rw [e3])) ?_;refine bd (a:=(false,tL l,(atE l 0:Int),0)) ?_ ?_
 ·refine bd (a:=(0,(RS.mk (tL l) (atE l 0) 0).W)) rfl ?_;refine cf rfl ?_;refine bd hh1 ?_;rw [hh2];rfl
 refine cf rfl ?_;refine bd (a:=((atE l l.Events.length:Int),0,l.Events)) ?_ rfl;refine yJ l.Events.length (λi=>((atE l i:Int),l.Events.take i,tL l,(atE l i:Int),0)) ?_ (λi hi=>?_) ?_ (xT (by omega))
 ·simp [atE,lA]
 ·have hE:=h.ev _ (Q9 hi);have hel:=zCg hE.toEvGood;have hS:=S i;rw [zPg hi] at hS;have hleft:=hS.left;rw [Q0,xE] at hleft;obtain ⟨f1,f2⟩:=Rem.blobN (m:=65535) hS (by omega) (by omega);have f3:(RS.mk (tL l) (atE l i) 0).to (2+(mT l.Events[i]).length)=⟨tL l,atE l (i+1),0⟩:=by
   show (⟨tL l,atE l i+(2+(mT l.Events[i]).length),0⟩:RS)=_;unfold atE;rw [zPi hi,Q0,Q0,xE,Nat.add_assoc]
  rw [f3] at f1;have lf:∀ k,Q8.wrap (((tL l).length:Int) - (atE l k:Int))=((RS.mk (tL l) (atE l k) 0).left:Int):=λk=>zJ2 _ (ok k);have hck:=zVs hE;obtain ⟨c,hc1,rfl⟩:=hck;unfold pX;refine bd (a:=(((RS.mk (tL l) (atE l i) 0).left:Int),(RS.mk (tL l) (atE l i) 0).W)) (congrArg some (by rw [<- lf i];rfl)) ?_;refine ct (by simp;omega) ?_;refine bd (a:=(mT l.Events[i],(RS.mk (tL l) (atE l (i+1)) 0).W)) ((uQ _ 65535 (ok i)).trans (by rw [f1])) ?_;refine bd (zTc _ _ hE) ?_;refine cf (by simp;omega) ?_;refine bd (a:=(0,(RS.mk (tL l) (atE l (i+1)) 0).W)) rfl ?_;refine cf rfl ?_;refine bd (a:=false) (cf rfl (bd hc1 rfl)) ?_;refine cf rfl ?_;refine bd (yI (by simp;omega)) ?_;refine bd (a:=(((RS.mk (tL l) (atE l (i+1)) 0).left:Int),(RS.mk (tL l) (atE l (i+1)) 0).W)) (congrArg some (by rw [<- lf (i+1)];rfl)) ?_;have hat:Q8.wrap (((tL l).length:Int) - ((RS.mk (tL l) (atE l (i+1)) 0).left:Int))=(atE l (i+1):Int):=by
   have:=(ok (i+1)).1;simp only [RS.left] at *;rw [yP (by omega) (by omega)];omega
  have ht:l.Events.take (i+1)=l.Events.take i++[l.Events[i]]:=by rw [Qa];simp [hi]
  rw [ht];show some (Sum.inl (Q8.wrap (((tL l).length:Int) - ((RS.mk (tL l) (atE l (i+1)) 0).left:Int)),_))=_;rw [hat];rfl
 ·have hS:=S l.Events.length;rw [List.drop_length] at hS;have hleft:=hS.left;unfold pX;refine bd (a:=(((RS.mk (tL l) (atE l l.Events.length) 0).left:Int),(RS.mk (tL l) (atE l l.Events.length) 0).W)) (congrArg some (by rw [<- zJ2 _ (ok l.Events.length)];rfl)) ?_;refine cf (by rw [hleft];rfl) ?_;rw [Qg]
set_option maxRecDepth 100000
structure zM8 (d:zW):Prop where
 n:d.Areas.length<=64
 w0:0<=d.Writes
 w1:d.Writes<2 ^ 60
theorem zFs (d:zW) (a:Nat) (h:a<d.Areas.length):lC d (a:Int)=some true:=by
 unfold lC;refine bd (ct (by simp) (congrArg some (by simp;omega))) rfl
theorem zH8 (d:zW) (h:d.Areas.length<=64):zM (nT d d.Areas.length) FU (0,Q7 d.Areas.length [])=some d.Areas:=by
 refine yJ d.Areas.length (λi=>((i:Int),d.Areas.take i++Q7 (d.Areas.length - i) [])) (by simp) (λi hi=>?_) ?_ (xT (by omega))
 ·unfold nT;refine ct (dlt hi) ?_;refine bd (yQ hi) ?_;refine bd (vY hi) ?_;have hl:(d.Areas.take i).length=i:=by simp;omega
  refine bd (cP (by simp;omega)) ?_;rw [wO (show i<2 ^ 40 by omega)];refine congrArg some (congrArg Sum.inl (congrArg (Prod.mk _) ?_));rw [List.set_append_right _ _ (by omega),hl,Nat.sub_self];rw [show d.Areas.length - i=(d.Areas.length - (i+1))+1 by omega,List.replicate_succ,List.set_cons_zero];rw [Qa,List.getElem?_eq_getElem hi];simp only [Option.toList_some,Q2,Qx]
 ·unfold nT;refine cf (dge (Qd _)) ?_;simp
theorem app0 {x:By} (h:x.length<2 ^ 40):yM 1 [] x=some x:=by simpa using yI (b:=1) (l:=[]) (m:=x) (by simp;omega)
theorem zXh {d:zW} (h:a<d.Areas.length):idx d.Areas (a:Int)=some (d.Areas.getD a []):=by rw [yQ h];simp [h]
theorem mk24 {n:Nat} (h:n<=64):mkN 24 (n:Int)=some n:=by
 unfold mkN;rw [if_pos (by simp;omega)];simp
theorem wr1 (h0:0<=n) (h:n<2 ^ 60):Q8.wrap (n+1)=n+1:=yP (by omega) (by omega)
def bZ (d:zW) (len:Nat):Nat:=if d.Writes+1=d.CutAt then min d.Torn.toNat len else len
def isC (d:zW):Prop:=d.Writes+1=d.CutAt
instance (d:zW):Decidable (isC d):=by unfold isC;infer_instance
def zEp (d:zW):Int:=if isC d then 29 else 0
theorem zQu (d:zW) (len:Nat) (h:zM8 d) (ho:d.Off=false):(bif ((Q8.wrap (d.Writes+1))==d.CutAt) then
  (some (if (len:Int)<if d.Torn<0 then 0 else d.Torn then (len:Int) else if d.Torn<0 then 0 else d.Torn,29,true))
 else some ((len:Int),0,d.Off):Option (Int×Int×Bool))=some ((bZ d len:Int),zEp d,decide (isC d)):=by
 rw [wr1 h.w0 h.w1];by_cases hc:d.Writes+1=d.CutAt
 ·refine ct (by simpa using hc) (congrArg some ?_);rw [show zEp d=29 from if_pos hc,show decide (isC d)=true from decide_eq_true hc];refine congrArg (·,(29:Int),true) ?_;unfold bZ;rw [if_pos hc];by_cases ht:d.Torn<0
  ·rw [if_pos ht,if_neg (by omega)];have:d.Torn.toNat=0:=by omega
   simp [this]
  ·rw [if_neg ht];split<;>omega
 ·refine cf (by simpa using hc) (congrArg some ?_);rw [show zEp d=0 from if_neg hc,show decide (isC d)=false from decide_eq_false hc,ho];unfold bZ;rw [if_neg hc]
def bU (d:zW) (a:Nat) (y:By):zW:=⟨d.Areas.set a y,d.Writes+1,d.CutAt,d.Torn,decide (isC d)⟩
theorem zU5 (d:zW) (a:Nat) (data x y:By) (b:Bool) (h:zM8 d) (ho:d.Off=false) (ha:a<d.Areas.length) (hl:data.length<=65536) (hy:nW (d.Areas.getD a []) (bZ d data.length:Int) x b=some y) :
  fQ d (a:Int) data x b=some (bU d a y,zEp d):=by
 unfold fQ;refine cf ho ?_;refine bd (zFs d a ha) ?_;refine cf rfl ?_;refine cf (by simp;omega) ?_;refine bd (zQu d data.length h ho) ?_;refine bd (mk24 h.n) ?_;refine bd (zH8 d h.n) ?_;refine bd (zXh ha) ?_;refine bd hy ?_;refine bd (vY ha) ?_;refine bd (cP ha) ?_;refine bd (ckT (by simp)) ?_;refine bd (ckT (by have:=h.n;simp [W4];omega)) ?_;rw [wr1 h.w0 h.w1];rfl
theorem zTl (d:zW) (a:Nat) (data x y:By) (h:zM8 d) (ho:d.Off=false) (ha:a<d.Areas.length) (hl:data.length<=65536) (hy:mQ (d.Areas.getD a []) (bZ d data.length:Int) x=some y) :
  jM d (a:Int) data x=some (bU d a y,zEp d):=by
 unfold jM;refine cf ho ?_;refine bd (zFs d a ha) ?_;refine cf rfl ?_;refine cf (by simp;omega) ?_;refine bd (zQu d data.length h ho) ?_;refine bd (mk24 h.n) ?_;refine bd (zH8 d h.n) ?_;refine bd (zXh ha) ?_;refine bd hy ?_;refine bd (vY ha) ?_;refine bd (cP ha) ?_;refine bd (ckT (by simp)) ?_;refine bd (ckT (by have:=h.n;simp [W4];omega)) ?_;rw [wr1 h.w0 h.w1];rfl
theorem zOb (d:zW) (len:Nat):bZ d len<=len:=by unfold bZ;split<;>omega
def wrC (d:zW) (old data:By):By:=data.take (bZ d data.length)++(if isC d then old.drop (bZ d data.length) else [])
def apC (d:zW) (old data:By):By:=old++data.take (bZ d data.length)
theorem zC2 (d:zW) (a:Nat) (data:By) (h:zM8 d) (ho:d.Off=false) (ha:a<d.Areas.length) (hl:data.length<=65536) (hold:(d.Areas.getD a []).length<2 ^ 40) :
  rG d (a:Int) data=some (bU d a (wrC d (d.Areas.getD a []) data),zEp d):=by
 unfold rG;refine bd (a:=decide (isC d)) (ct (by rw [ho];rfl) (congrArg some ?_)) ?_
 ·rw [wr1 h.w0 h.w1];simp [isC,BEq.beq]
 refine bd (zU5 d a data data (wrC d (d.Areas.getD a []) data) _ h ho ha hl ?_) rfl;generalize d.Areas.getD a []=old at hold;have hn:=zOb d data.length;unfold nW wrC;generalize bZ d data.length=n at hn;refine bd (a:=data.take n) (by have:=tH (l:=data) (Qi n) hn;simpa using this) ?_;refine bd (a:=data.take n) (by simpa using yI (b:=1) (l:=[]) (m:=data.take n) (by simp;omega)) ?_;by_cases hc:isC d
 ·rw [decide_eq_true hc,if_pos hc];by_cases hlt:n<old.length
  ·refine bd (a:=data.take n++old.drop n) ?_ rfl;refine bd (a:=true) (ct rfl (congrArg some (by simp;omega))) ?_;refine ct rfl ?_;refine bd (a:=old.drop n) (by have:=tH (l:=old) (Nat.le_of_lt hlt) (Qd _);rw [this,Qf (by simp)]) ?_;exact bd (yI (by simp;omega)) rfl
  ·refine bd (a:=data.take n) ?_ ?_
   ·refine bd (a:=false) (ct rfl (congrArg some (by simp;omega))) ?_;exact cf rfl rfl
   ·rw [List.drop_eq_nil_of_le (by omega),Qb]
 ·rw [decide_eq_false hc,if_neg hc,Qb];refine bd (a:=data.take n) ?_ rfl;refine bd (a:=false) (cf rfl rfl) ?_;exact cf rfl rfl
theorem zO7 (d:zW) (a:Nat) (data:By) (h:zM8 d) (ho:d.Off=false) (ha:a<d.Areas.length) (hl:data.length<=65536) (hold:(d.Areas.getD a []).length<2 ^ 40) :
  fK d (a:Int) data=some (bU d a (apC d (d.Areas.getD a []) data),zEp d):=by
 unfold fK;refine bd (zTl d a data data (apC d (d.Areas.getD a []) data) h ho ha hl ?_) rfl;generalize d.Areas.getD a []=old at hold;have hn:=zOb d data.length;unfold mQ apC;generalize bZ d data.length=n at hn;refine bd (a:=old) (by simpa using yI (b:=1) (l:=[]) (m:=old) (by simp;omega)) ?_;refine bd (a:=data.take n) (by have:=tH (l:=data) (Qi n) hn;simpa using this) ?_;exact bd (yI (by simp;omega)) rfl
theorem zCf (d:zW) (a:Nat) (ho:d.Off=false) (ha:a<d.Areas.length) (hold:(d.Areas.getD a []).length<2 ^ 40):uY d (a:Int)=some (d.Areas.getD a [],0):=by
 unfold uY;refine cf ho ?_;refine bd (zFs d a ha) ?_;refine cf rfl ?_;refine bd (zXh ha) ?_;exact bd (a:=d.Areas.getD a []) (app0 hold) rfl
set_option maxRecDepth 100000
theorem zK7 (w:UInt8) (c:By):Def (iD w c) (λr=>r.1.length=64/\r.2=c):=by
 unfold iD;refine Q1 (Def.mkN (by decide) (by decide)) (λn hn=>?_);have hn:n=64:=hn;subst hn;refine Q1 (W5 (by simp)) (λ_ _=>?_);refine Def.lt ?_;refine Q1 (P:=λr=>r.length=64) ?_ (λr hr=>?_)
 ·refine Qt (λs=>0<=s.1/\s.1<=64/\s.2.length=64) (λs=>(64 - s.1).toNat) (λs hs=>?_) ⟨Qw 0,by simp,by rw [zJt];simp⟩ (by simp);obtain ⟨i,l⟩:=s;obtain ⟨h1,h2,h3⟩:=hs;simp only at h1 h2 h3;unfold zBq;refine Q5 (λh=>?_) (λ_=>Q3 h3);rw [decide_eq_true_iff] at h;refine Q1 (Def.ixN h1 (by omega)) (λj hj=>?_);refine Q1 (Def.at (by omega)) (λu _=>?_);refine Q1 (Def.ixN h1 (by omega)) (λj hj=>?_);refine Q1 (Def.upd (by omega)) (λv hv=>Q3 ?_);rw [yP (by omega) (by omega)];exact ⟨⟨by simp only;omega,by simp only;omega,by simp only [hv,List.length_set];exact h3⟩,by simp only;omega⟩
 ·refine Q1 (W5 (by simp [hr])) (λ_ _=>?_);refine Q1 (W5 (by simp)) (λ_ _=>Q3 ⟨hr,rfl⟩)
theorem zG4 (b:By) (h:b.length<2 ^ 40):Def (xQ 1 b) (λr=>r.length=32):=Q6 (zI8 b h) (fP b)
theorem zQl (key b:By) (hk:key.length<2 ^ 30) (hb:b.length<2 ^ 30):Def (zFf key b) (λr=>r.length=32):=by
 unfold zFf;refine Q1 (P:=λr=>r.length<2 ^ 30) ?_ (λk hk2=>?_)
 ·refine Q5 (λ_=>Q1 (zG4 key (by omega)) (λr hr=>Q3 (by omega))) (λ_=>Q3 hk)
 refine Q1 (zK7 54 k) (λr hr=>?_);obtain ⟨v,c⟩:=r;obtain ⟨h1,rfl⟩:=hr;simp only at h1;refine Q1 (Qo (by omega)) (λa ha=>?_);refine Q1 (zG4 a (by rw [ha,Q0];omega)) (λd hd=>?_);refine Q1 (zK7 92 _) (λr hr=>?_);obtain ⟨v2,c2⟩:=r;obtain ⟨h2,_⟩:=hr;simp only at h2;refine Q1 (Qo (by omega)) (λa2 ha2=>?_);exact Q1 (zG4 a2 (by rw [ha2,Q0];omega)) (λd hd=>Q3 hd)
theorem fE (key label ctx:By) (hk:key.length<2 ^ 30) (hl:label.length<2 ^ 20) (hc:ctx.length<2 ^ 20):Def (iN key label ctx 32) (λr=>r.length=32):=by
 unfold iN;refine Q1 (Q6 (a:=false) rfl (Q:=λr=>r=false) rfl) (λb hb=>?_);subst hb;refine Q5 (λh=>by cases h) (λ_=>?_);refine Q1 (W5 (by simp [W4];omega)) (λ_ _=>?_);refine Q1 (Qo (by simp;omega)) (λa ha=>?_);refine Q1 (Qo (by rw [ha];simp;omega)) (λa2 ha2=>?_);refine Q1 (Q6 (Q:=λr=>r.length=4) rfl rfl) (λf hf=>?_);refine Q1 (Qo (by rw [ha2,ha];simp;omega)) (λa3 ha3=>?_);have h3:a3.length<2 ^ 22:=by rw [ha3,ha2,ha];simp;omega
 refine Q1 (P:=λr=>r.length=32) ?_ (λr hr=>?_)
 ·refine Qt (λs=>s.1.length=0∨s.1.length=32) (λs=>32 - s.1.length) (λs hs=>?_) (.inl rfl) (by simp);obtain ⟨o,i⟩:=s;simp only at hs;unfold zBm;refine Q5 (λh=>?_) (λh=>Q3 ?_)
  ·rw [decide_eq_true_iff] at h;have h0:o.length=0:=by omega
   refine Q1 (Q6 (Q:=λr=>r.length=4) rfl rfl) (λf2 hf2=>?_);refine Q1 (Qo (by omega)) (λa4 ha4=>?_);refine Q1 (zQl key a4 hk (by rw [ha4,Q0];omega)) (λm hm=>?_);refine Q1 (Qo (by omega)) (λa5 ha5=>Q3 ?_);have h5:a5.length=32:=by rw [ha5,Q0];omega
   exact ⟨.inr h5,by simp only;omega⟩
  ·rw [decide_eq_false_iff_not] at h;omega
 ·refine Q1 (Def.sub (by decide) (by decide) (by omega)) (λu hu=>Q3 ?_);rw [hu];simp [hr]
structure Sst (s:zU):Prop where
 sd:∃ a b c,s.Seeds=[a,b,c]/\a.length=32/\b.length=32/\c.length=32
 au:s.Auths=[[],[],[],[]]
 en:s.Entropy.length=32
 a0:1<=s.Active
 a3:s.Active<=3
 r0:0<=s.Resets
 r1:s.Resets<2 ^ 30
 st:s.Restarts=0
 ck:s.Clock=0
 sv:s.Saved=⟨[],0⟩
 mc:s.MaxCounter=0
 ix:s.Indices=[]
 lo:s.Lockout=⟨0,5,100,0,0,1000⟩
 ks:s.Keys=[]
theorem zPh (e:By) (active:Int) (he:e.length=32) (h1:1<=active) (h3:active<=3):Def (zAm e active) (λr=>r.2=0/\Sst r.1/\r.1.Active=active/\r.1.Resets=0/\r.1.Orderly=true):=by
 unfold zAm;refine Q1 (Q6 (Q:=λr=>r=false) (a:=false) ?_ rfl) (λb hb=>?_)
 ·refine cf (by simp [he]) (cf (by simp;omega) (congrArg some (by simp;omega)))
 subst hb;refine Q5 (λh=>by cases h) (λ_=>?_);refine Q1 (Q6 (Q:=λr=>r=⟨0,5,100,0,0,1000⟩) rfl rfl) (λlo hlo=>?_);refine Q1 (P:=λr=>∃ a b c,r=[a,b,c]/\a.length=32/\b.length=32/\c.length=32) ?_ (λr hr=>?_)
 ·obtain ⟨a,e1,l1⟩:=fE e [115,101,101,100] [u8 0] (by omega) (by decide) (by decide);obtain ⟨b,e2,l2⟩:=fE e [115,101,101,100] [u8 1] (by omega) (by decide) (by decide);obtain ⟨c,e3,l3⟩:=fE e [115,101,101,100] [u8 2] (by omega) (by decide) (by decide);refine Q6 (a:=[a,b,c]) ?_ ⟨a,b,c,rfl,l1,l2,l3⟩;refine yJ 3 (λi=>((i:Int),[a,b,c].take i)) rfl (λi hi=>?_) ?_ (xT (by decide))
  ·have hi3:i=0∨i=1∨i=2:=by omega
   unfold cS;rcases hi3 with rfl | rfl | rfl
   ·exact ct rfl (bd e1 (bd (yI (by simp)) rfl))
   ·exact ct rfl (bd e2 (bd (yI (by simp)) rfl))
   ·exact ct rfl (bd e3 (bd (yI (by simp)) rfl))
  ·unfold cS;exact cf rfl rfl
 ·refine Q1 (fE e _ _ (by omega) (by decide) (by decide)) (λen hen=>Q3 ?_);exact ⟨rfl,⟨hr,rfl,hen,h1,h3,Qw 0,by simp only;decide,rfl,rfl,rfl,rfl,rfl,hlo,rfl⟩,rfl,rfl,rfl⟩
set_option maxRecDepth 100000
def bl (x:By):By:=beN (x.length:Int) 2 2++x
theorem uZ (x:By):(bl x).length=2+x.length:=by simp [bl,xE]
theorem wB (b x:By) (hb:b.length<2 ^ 30) (hx:x.length<=65535):wI b x=some (b++bl x):=by
 rw [dX b x (by omega),zB9 b hx];rfl
theorem wU (b:By) (k:Nat) (n:Int) (h1:1<=k) (h8:k<=8) (hb:b.length<2 ^ 30):xW b (k:Int) n=some (b++beN n k k):=by
 rw [pK b k n h1 h8 (by omega)];rfl
def bits (b:Bool):UInt8:=if b=true then 1 else 0
def rH (s:zU):By:=
 [1,u8 s.Active]++(bl (s.Seeds.getD 0 [])++(bl (s.Seeds.getD 1 [])++(bl (s.Seeds.getD 2 [])++(bl []++(bl []++(bl []++(bl []++(bl s.Entropy++(beN s.Resets 8 8++(beN 0 8 8++(beN 0 8 8++([bits s.Orderly]++(bl (0 :: beN 0 8 8)++(beN 0 8 8++([0]++(beN 0 8 8++(beN 5 8 8++(beN 100 8 8++(beN 0 8 8++(beN 0 8 8++(beN 1000 8 8++([0]))))))))))))))))))))))
theorem wk1:Q8.wrap 1=1:=rfl
theorem wk2:Q8.wrap 2=2:=rfl
theorem wk3:Q8.wrap 3=3:=rfl
theorem wk4:Q8.wrap 4=4:=rfl
theorem wk5:Q8.wrap 5=5:=rfl
theorem wk6:Q8.wrap 6=6:=rfl
theorem tD {X Y:Type} {step:X->Option (X ⊕ Y)} {x:X} {y:Y} (h:step x=some (.inr y)):zM step FU x=some y:=yJ 0 (λ_=>x) rfl (λ_ h=>absurd h (Nat.not_lt_zero _)) h (xT (by decide))
theorem yA6 (a b c:Int) (x:By) (hx:x.length<2 ^ 20):wG [a,b,c] x=some (((x++beN a 8 8)++beN b 8 8)++beN c 8 8):=by
 unfold wG;refine ct rfl ?_;refine bd (a:=a) rfl ?_;refine bd (wU x 8 a (by decide) (by decide) (by omega)) ?_;refine bd (a:=((x++beN a 8 8)++beN b 8 8)++beN c 8 8) ?_ rfl;refine two (step:=wC [a,b,c]) (b:=(2,(x++beN a 8 8)++beN b 8 8)) (c:=(3,((x++beN a 8 8)++beN b 8 8)++beN c 8 8)) ?_ ?_ ?_
 ·unfold wC;exact ct rfl (bd (a:=b) rfl (bd (wU _ 8 b (by decide) (by decide) (by simp [xE];omega)) rfl))
 ·unfold wC;exact ct rfl (bd (a:=c) rfl (bd (wU _ 8 c (by decide) (by decide) (by simp [xE];omega)) rfl))
 ·unfold wC;exact cf rfl rfl
theorem yDe (a:Int) (x:By) (hx:x.length<2 ^ 20):wG [a] x=some (x++beN a 8 8):=by
 unfold wG;refine ct rfl ?_;refine bd (a:=a) rfl ?_;refine bd (wU x 8 a (by decide) (by decide) (by omega)) ?_;exact bd (a:=x++beN a 8 8) (tD (by unfold wC;exact cf rfl rfl)) rfl
theorem yA9 (a b c d e f:Int) (x:By) (hx:x.length<2 ^ 20):wG [a,b,c,d,e,f] x=some ((((((x++beN a 8 8)++beN b 8 8)++beN c 8 8)++beN d 8 8)++beN e 8 8)++beN f 8 8):=by
 unfold wG;refine ct rfl ?_;refine bd (a:=a) rfl ?_;refine bd (wU x 8 a (by decide) (by decide) (by omega)) ?_;refine bd (a:=(((((x++beN a 8 8)++beN b 8 8)++beN c 8 8)++beN d 8 8)++beN e 8 8)++beN f 8 8) ?_ rfl;refine yJ 5 (λi=>(((i+1:Nat):Int),(x++beN a 8 8)++([b,c,d,e,f].take i).flatMap (λn=>beN n 8 8))) (by simp) (λi hi=>?_) ?_ (xT (by decide))
 ·have h5:i=0∨i=1∨i=2∨i=3∨i=4:=by omega
  unfold wC;rcases h5 with rfl | rfl | rfl | rfl | rfl <;>
   exact ct rfl (bd rfl (bd (wU _ 8 _ (by decide) (by decide) (by simp [xE];omega)) (by simp [wk2,wk3,wk4,wk5,wk6,Q2])))
 ·unfold wC;refine cf rfl ?_;simp [Q2]
theorem zZv:lG ⟨[],0⟩=some (0 :: beN 0 8 8):=by decide +kernel
theorem zHf (s:zU) (h:Sst s):sY s=some (rH s):=by
 obtain ⟨a,b,c,hs,la,lb,lc⟩:=h.sd;have hse:s.Seeds.getD 0 []=a/\s.Seeds.getD 1 []=b/\s.Seeds.getD 2 []=c:=by rw [hs];exact ⟨rfl,rfl,rfl⟩
 have hen:=h.en;unfold sY;refine bd (a:=(([1,u8 s.Active]++bl a)++bl b)++bl c) ?_ ?_
 ·refine yJ 3 (λi=>((i:Int),[1,u8 s.Active]++([a,b,c].take i).flatMap bl)) (by simp) (λi hi=>?_) ?_ (xT (by decide))
  ·have h3:i=0∨i=1∨i=2:=by omega
   unfold kN;rw [hs];rcases h3 with rfl | rfl | rfl
   ·exact ct rfl (bd (a:=a) rfl (bd (wB _ a (by simp) (by omega)) (by simp [wk1])))
   ·exact ct rfl (bd (a:=b) rfl (bd (wB _ b (by simp [uZ];omega) (by omega)) (by simp [wk2,wk3])))
   ·exact ct rfl (bd (a:=c) rfl (bd (wB _ c (by simp [uZ];omega) (by omega)) (by simp [wk2,wk3])))
  ·unfold kN;refine cf rfl (by simp)
 refine bd (a:=((((([1,u8 s.Active]++bl a)++bl b)++bl c)++bl []++bl [])++bl [])++bl []) ?_ ?_
 ·generalize hX:(([1,u8 s.Active]++bl a)++bl b)++bl c=X;have lX:X.length<200:=by rw [<- hX];simp [uZ];omega
  refine yJ 4 (λi=>((i:Int),X++(Q7 i ([]:By)).flatMap bl)) (by simp) (λi hi=>?_) ?_ (xT (by decide))
  ·have h3:i=0∨i=1∨i=2∨i=3:=by omega
   unfold kY;rw [h.au];rcases h3 with rfl | rfl | rfl | rfl <;>
    exact ct rfl (bd (a:=[]) rfl (bd (wB _ [] (by simp [uZ];omega) (by decide)) (by simp [Q7,wk1,wk2,wk3,wk4])))
  ·unfold kY;refine cf rfl (by simp [Q7])
 generalize hX:((((([1,u8 s.Active]++bl a)++bl b)++bl c)++bl []++bl [])++bl [])++bl []=X;have lX:X.length<200:=by rw [<- hX];simp [uZ];omega
 refine bd (wB X s.Entropy (by omega) (by omega)) ?_;rw [h.st,h.ck,h.mc,h.sv,h.ix,h.lo,h.ks];refine bd (yA6 s.Resets 0 0 _ (by simp [uZ];omega)) ?_;refine bd (a:=bits s.Orderly) (by unfold zAx bits;cases s.Orderly<;>rfl) ?_;refine bd (yI (by simp [uZ,xE];omega)) ?_;refine bd zZv ?_;refine bd (wB _ _ (by simp [uZ,xE];omega) (by simp [xE])) ?_;refine bd (yDe 0 _ (by simp [uZ,xE];omega)) ?_;refine bd (yI (by simp [uZ,xE];omega)) ?_;refine bd (tD (by unfold cV;rw [h.ix];exact cf rfl rfl)) ?_;refine bd (yA9 0 5 100 0 0 1000 _ (by simp [uZ,xE];omega)) ?_;refine bd (yI (by simp [uZ,xE];omega)) ?_;refine bd (tD (by unfold bJ;rw [h.ks];exact cf rfl rfl)) ?_;refine congrArg some ?_;rw [<- hX];unfold rH;rw [hse.1,hse.2.1,hse.2.2];simp only [Q2];rfl
set_option maxRecDepth 100000
structure Rd (r:RS) (l:By):Prop where
 m:Rem r l
 o:r.Ok
section
variable {x:By} 
theorem zKx (b:By) (hb:b.length<2 ^ 40):∃ r,Rd r b/\sK b=some r.W:=⟨⟨b,0,0⟩,⟨⟨rfl,Qi _,rfl⟩,Qi _,hb⟩,zPs b hb⟩
theorem rdU (h:Rd r (beN n k k++rest)) (h1:1<=k) (h8:k<=8) (h0:0<=n) (hn:n<2 ^ 62) (hs:n.toNat<256 ^ k):∃ r',Rd r' rest/\yC r.W (k:Int)=some (n,r'.W):=by
 obtain ⟨e,m⟩:=Rem.uintI h.m h8 h0 hn hs;have ok:=dG r k h.o;rw [e] at ok;exact ⟨r.to k,⟨m,ok⟩,by rw [vV r k h.o h1 h8,e]⟩
theorem rdBt (h:Rd r (u8 n :: rest)) (h0:0<=n) (hn:n<256):∃ r',Rd r' rest/\yC r.W 1=some (n,r'.W):=by
 obtain ⟨e,m⟩:=Rem.byte h.m h0 hn;have ok:=dG r 1 h.o;rw [e] at ok;exact ⟨r.to 1,⟨m,ok⟩,by have:=vV r 1 h.o (by decide) (by decide);rw [e] at this;exact this⟩
theorem zR0 (h:Rd r (bl x++rest)) (hx:x.length<=65535) (hk:x.length<=k):∃ r',Rd r' rest/\yS r.W (k:Int)=some (x,r'.W):=by
 have h':=h.m;unfold bl at h';rw [Q2] at h';obtain ⟨e,m⟩:=Rem.blobN h' hx hk;have ok:=zAn r k h.o;rw [e] at ok;exact ⟨_,⟨m,ok⟩,by rw [uQ r k h.o,e]⟩
theorem rdRw (h:Rd r (x++rest)) (hx:x.length=k):∃ r',Rd r' rest/\vM r.W (k:Int)=some (x,r'.W):=by
 have e:=Rem.raw h.m hx;have ok:=zQ0 r k h.o;rw [e] at ok;exact ⟨_,⟨Rem.to h.m hx,ok⟩,by rw [zEk r k h.o,e]⟩
theorem rdE (h:Rd r []):wE r.W=some (0,r.W):=by rw [sV r h.o,Rem.fin h.m]
theorem zMd {l:By} (h:Rd r l):xM r.W=some (0,r.W):=by unfold xM;exact congrArg some (congrArg (·,r.W) h.m.e)
theorem Rd.cast {l:By} (h:Rd r l) (e:l=l'):Rd r l':=e▸h
theorem numG (h:Rd r (beN n k k++rest)) (h1:1<=k) (h8:k<=8) (h0:0<=n) (hn:n<2 ^ 62) (hs:n.toNat<256 ^ k) (hm:n<=most):∃ r',Rd r' rest/\xH (k:Int) most 0 r.W=some (n,0,r'.W):=by
 obtain ⟨r',g,e⟩:=rdU h h1 h8 h0 hn hs;refine ⟨r',g,?_⟩;unfold xH;refine cf rfl ?_;refine bd e ?_;refine bd (zMd g) ?_;refine bd (a:=0) (bd (a:=false) (ct rfl (congrArg some (by simp;omega))) (cf rfl rfl)) ?_;exact cf rfl rfl
theorem zSj (h:Rd r (u8 n :: rest)) (h0:0<=n) (hn:n<256) (hm:n<=most):∃ r',Rd r' rest/\xH 1 most 0 r.W=some (n,0,r'.W):=by
 obtain ⟨r',g,e⟩:=rdBt h h0 hn;refine ⟨r',g,?_⟩;unfold xH;refine cf rfl ?_;refine bd e ?_;refine bd (zMd g) ?_;refine bd (a:=0) (bd (a:=false) (ct rfl (congrArg some (by simp;omega))) (cf rfl rfl)) ?_;exact cf rfl rfl
theorem zHv (h:Rd r (beN n 8 8++rest)) (h0:0<=n) (hn:n<2 ^ 62):∃ r',Rd r' rest/\yV 8 0 r.W=some (n,0,r'.W):=by
 obtain ⟨r',g,e⟩:=numG (k:=8) (most:=9223372036854775807) h (by decide) (by decide) h0 hn (by omega) (by omega);exact ⟨r',g,bd e rfl⟩
theorem any1 (h:Rd r (u8 n :: rest)) (h0:0<=n) (hn:n<256):∃ r',Rd r' rest/\yV 1 0 r.W=some (n,0,r'.W):=by
 obtain ⟨r',g,e⟩:=zSj (most:=9223372036854775807) h h0 hn (by omega);exact ⟨r',g,bd e rfl⟩
theorem zSs (h:Rd r (bl x++rest)) (hx:x.length<=4096):∃ r',Rd r' rest/\vJ 0 r.W=some (x,0,r'.W):=by
 obtain ⟨r',g,e⟩:=zR0 (k:=4096) h (by omega) hx;refine ⟨r',g,?_⟩;unfold vJ;exact cf rfl (bd e (bd (zMd g) rfl))
theorem zJ6:∀ (L:List By) (fuel:Nat) (acc:List By) (v n:Int) (r:RS),L.length<fuel->Rd r (L.flatMap bl++rest)->(∀ x∈L,x.length<=4096)->v+L.length=n->0<=v->n<=100->acc.length<=100->(acc.length:Int)<=v ->
  ∃ r',Rd r' rest/\zM (vR n) fuel (acc,v,0,r.b,(r.at':Int),r.e)=some (acc++L,0,r'.b,(r'.at':Int),r'.e)
 | [],f+1,acc,v,n,r,_,h,_,hv,_,_,_,_=>by
  refine ⟨r,h.cast (by simp),?_⟩;simp only [zM];have:vR n (acc,v,0,r.b,(r.at':Int),r.e)=some (.inr (acc,0,r.b,(r.at':Int),r.e)):=by
   unfold vR;exact cf (by simp at hv;simp;omega) rfl
  rw [this,Qb]
 | x :: L,f+1,acc,v,n,r,hf,h,hL,hv,h0,hn,ha,hav=>by
  have hx:=hL x (Qz ..);simp only [Q4] at hf hv;obtain ⟨r1,g1,e1⟩:=zSs (x:=x) (rest:=L.flatMap bl++rest) (h.cast (by simp)) hx;obtain ⟨r',g',e'⟩:=zJ6 L f (acc++[x]) (v+1) n r1 (by omega) g1 (λy hy=>hL y (Qy _ hy)) (by omega) (by omega) hn (by simp;omega) (by simp;omega);refine ⟨r',g',?_⟩;simp only [zM];have:vR n (acc,v,0,r.b,(r.at':Int),r.e)=some (.inl (acc++[x],v+1,0,r1.b,(r1.at':Int),r1.e)):=by
   unfold vR;refine ct (by simp;omega) ?_;refine bd e1 ?_;refine bd (yI (by simp;omega)) ?_;rw [yP (by omega) (by omega)];rfl
  rw [this];simp only [e',Q2,Qx]
theorem zQq (L:List By) (k:Int) (hk:(L.length:Int)=k) (h4:L.length<=4) (h:Rd r (L.flatMap bl++rest)) (hL:∀ x∈L,x.length<=4096):∃ r',Rd r' rest/\rQ k 0 r.W=some (L,0,r'.W):=by
 obtain ⟨r',g,e⟩:=zJ6 L FU [] 0 k r (xT (by omega)) h hL (by omega) (Qw 0) (by omega) (by simp) (by simp);refine ⟨r',g,?_⟩;unfold rQ;exact bd e rfl
theorem yCk (h:Rd r ([bits b]++rest)):∃ r',Rd r' rest/\nP 0 r.W=some (b,0,r'.W):=by
 have hb:bits b=u8 (if b=true then 1 else 0):=by cases b<;>rfl
 obtain ⟨r',g,e⟩:=zSj (n:=if b=true then 1 else 0) (most:=1) (h.cast (by rw [hb];rfl)) (by split<;>decide) (by split<;>decide) (by split<;>decide);refine ⟨r',g,bd e ?_⟩;cases b<;>rfl
theorem yBh:lD (0 :: beN 0 8 8)=some (⟨[],0⟩,0):=by decide +kernel
theorem zYs (h:Rd r (bl (0 :: beN 0 8 8)++rest)):∃ r',Rd r' rest/\rK 0 r.W=some (⟨[],0⟩,0,r'.W):=by
 obtain ⟨r',g,e⟩:=zSs h (by simp [xE]);refine ⟨r',g,?_⟩;unfold rK;exact bd e (cf rfl (bd yBh rfl))
theorem yC4 (s:zU) (h:Sst s):jG (rH s)=some (s,0):=by
 obtain ⟨a,b,c,hs,la,lb,lc⟩:=h.sd;have hse:s.Seeds.getD 0 []=a/\s.Seeds.getD 1 []=b/\s.Seeds.getD 2 []=c:=by rw [hs];exact ⟨rfl,rfl,rfl⟩
 have hen:=h.en;have hlen:(rH s).length<2 ^ 40:=by
  unfold rH;rw [hse.1,hse.2.1,hse.2.2];simp only [Q0,uZ,xE,Q4,Qe];omega
 obtain ⟨r0,g0,e0⟩:=zKx (rH s) hlen;unfold rH at g0;rw [hse.1,hse.2.1,hse.2.2] at g0;unfold jG;refine bd e0 ?_;obtain ⟨r1,g1,e1⟩:=any1 (n:=1) (rest:=_) (g0.cast rfl) (by decide) (by decide);refine bd e1 ?_;refine bd (a:=0) (bd (a:=false) rfl (cf rfl rfl)) ?_;obtain ⟨r2,g2,e2⟩:=zSj (n:=s.Active) (most:=3) (g1.cast rfl) (by have:=h.a0;omega) (by have:=h.a3;omega) h.a3;refine bd e2 ?_;obtain ⟨r3,g3,e3⟩:=zQq [a,b,c] 3 rfl (by simp) (rest:=_) (g2.cast (by simp only [Qc,W2,Qb,Q2,Qu];rfl)) (by simp;omega);refine bd e3 ?_;obtain ⟨r4,g4,e4⟩:=zQq [[],[],[],[]] 4 rfl (by simp) (rest:=_) (g3.cast (by simp only [Qc,W2,Qb,Q2];rfl)) (by simp);refine bd e4 ?_;obtain ⟨r5,g5,e5⟩:=zSs g4 (by omega);refine bd e5 ?_;obtain ⟨r6,g6,e6⟩:=zHv g5 h.r0 (by have:=h.r1;omega);refine bd e6 ?_;obtain ⟨r7,g7,e7⟩:=zHv g6 (by decide) (by decide);refine bd e7 ?_;obtain ⟨r8,g8,e8⟩:=zHv g7 (by decide) (by decide);refine bd e8 ?_;obtain ⟨r9,g9,e9⟩:=yCk g8;refine bd e9 ?_;obtain ⟨r10,g10,e10⟩:=zYs g9;refine bd e10 ?_;obtain ⟨r11,g11,e11⟩:=zHv g10 (by decide) (by decide);refine bd e11 ?_;obtain ⟨r12,g12,e12⟩:=zSj (n:=0) (most:=6) (g11.cast rfl) (by decide) (by decide) (by decide);refine bd e12 ?_;refine bd (tD (by unfold bF;exact cf rfl rfl)) ?_;obtain ⟨q1,k1,f1⟩:=zHv g12 (by decide) (by decide);refine bd f1 ?_;obtain ⟨q2,k2,f2⟩:=zHv k1 (by decide) (by decide);refine bd f2 ?_;obtain ⟨q3,k3,f3⟩:=zHv k2 (by decide) (by decide);refine bd f3 ?_;obtain ⟨q4,k4,f4⟩:=zHv k3 (by decide) (by decide);refine bd f4 ?_;obtain ⟨q5,k5,f5⟩:=zHv k4 (by decide) (by decide);refine bd f5 ?_;obtain ⟨q6,k6,f6⟩:=zHv k5 (by decide) (by decide);refine bd f6 ?_;obtain ⟨q7,k7,f7⟩:=zSj (n:=0) (most:=8) (rest:=[]) (k6.cast rfl) (by decide) (by decide) (by decide);refine bd f7 ?_;refine bd (a:=([],0,q7.b,(q7.at':Int),q7.e)) (tD (by unfold bI;exact cf rfl rfl)) ?_;refine bd (a:=(0,q7.b,(q7.at':Int),q7.e)) (ct rfl (bd (rdE k7) rfl)) ?_;refine cf rfl ?_;refine congrArg (λz=>some (z,(0:Int))) ?_;have h2:=h.au;have h8:=h.st;have h9:=h.ck;have h10:=h.sv;have h11:=h.mc;have h12:=h.ix;have h13:=h.lo;have h14:=h.ks;clear h;cases s;simp only at hs h2 h8 h9 h10 h11 h12 h13 h14;subst h2 h8 h9 h10 h11 h12 h13 h14 hs;rfl
end
set_option maxRecDepth 100000
def mrk (seq:Int) (p:By):By:=hs 12 [beN seq 8 8,p]
theorem zJf (seq:Int) (p:By):(mrk seq p).length=32:=kU _ _
theorem zNp (seq:Int) (p:By) (hp:p.length<2 ^ 20):mP seq p=some (mrk seq p):=by
 unfold mP;refine bd (wU [] 8 seq (by decide) (by decide) (by decide)) ?_;refine bd (zHg 12 [[]++beN seq 8 8,p] (by simp [tot,xE];omega)) rfl
def jL (seq:Nat) (p:By):By:=mrk seq p++(beN (seq:Int) 8 8++(beN (p.length:Int) 4 4++p))
theorem zF6 (seq:Nat) (p:By):(jL seq p).length=44+p.length:=by simp [jL,zJf,xE];omega
theorem zUm (seq:Nat):Int.tmod (seq:Int) 2=((seq % 2:Nat):Int):=by rw [Int.tmod_eq_emod_of_nonneg (by omega)];rfl
theorem zRj:lM 0=some true:=rfl
theorem zH9 (d:zW) (seq:Nat) (p:By) (h1:1<=seq) (h2:seq<2 ^ 30) (hp:p.length<=60000) {r:zW×Int} (hw:rG d ((seq % 2:Nat):Int) (jL seq p)=some r):qQ d 0 (seq:Int) p=some r:=by
 unfold qQ;refine bd (a:=false) (cf (by simp;omega) (cf (by simp;omega) (bd zRj rfl))) ?_;refine cf rfl ?_;refine cf (by simp;omega) ?_;refine bd (zNp _ p (by omega)) ?_;have hm:=zJf (seq:Int) p;refine bd (wU _ 8 _ (by decide) (by decide) (by omega)) ?_;refine bd (wU _ 4 _ (by decide) (by decide) (by simp [xE];omega)) ?_;refine bd (yI (by simp [xE];omega)) ?_;rw [zUm];have e:Q8.wrap (0+((seq % 2:Nat):Int))=((seq % 2:Nat):Int):=by rw [yP (by omega) (by omega)];omega
 rw [e];refine bd (a:=r) ?_ rfl;rw [<- hw];simp only [jL,Q2]
theorem zGm (seq:Nat) (p:By) (h1:1<=seq) (h2:seq<2 ^ 30) (hp:p.length<=60000):uO (jL seq p) ((seq % 2:Nat):Int)=some (p,(seq:Int),true):=by
 have hl:=zF6 seq p;obtain ⟨r0,g0,e0⟩:=zKx (jL seq p) (by omega);unfold uO;refine bd e0 ?_;unfold jL at g0;obtain ⟨r1,g1,e1⟩:=rdRw (k:=32) g0 (zJf _ _);refine bd e1 ?_;obtain ⟨r2,g2,e2⟩:=rdU (k:=8) g1 (by decide) (by decide) (by omega) (by omega) (by omega);refine bd e2 ?_;obtain ⟨r3,g3,e3⟩:=rdU (k:=4) g2 (by decide) (by decide) (by omega) (by omega) (by omega);refine bd e3 ?_;obtain ⟨r4,g4,e4⟩:=rdRw (k:=p.length) (x:=p) (rest:=[]) (g3.cast (by simp)) rfl;refine bd e4 ?_;refine bd (a:=false) (bd (zMd g4) (cf rfl (cf (by simp;omega) (cf (by rw [zUm];simp) (bd (zNp _ p (by omega)) (congrArg some (by simp))))))) ?_;exact cf rfl rfl
theorem zPx (w:Int):uO [] w=some ([],0,false):=by
 unfold uO;refine bd (zPs [] (by decide)) ?_;refine bd (a:=([],RS.W ⟨[],0,2⟩)) rfl ?_;refine bd (a:=(0,RS.W ⟨[],0,2⟩)) rfl ?_;refine bd (a:=(0,RS.W ⟨[],0,2⟩)) rfl ?_;refine bd (a:=([],RS.W ⟨[],0,2⟩)) rfl ?_;exact bd (a:=true) rfl (ct rfl rfl)
structure Jr (as:List By) (seq:Nat) (p:By):Prop where
 a:as.getD (seq % 2) []=jL seq p
 b:∃ q s ok,uO (as.getD (1 - seq % 2) []) ((1 - seq % 2:Nat):Int)=some (q,s,ok)/\(ok=true->s<seq)
 s1:1<=seq
 s2:seq<2 ^ 29
 pl:p.length<=60000
theorem zNc (d:zW) (seq:Nat) (p:By) (ho:d.Off=false) (h2:2<=d.Areas.length) (hal:∀ i,(d.Areas.getD i []).length<2 ^ 40) (h:Jr d.Areas seq p):oR d 0=some (p,(seq:Int),0):=by
 obtain ⟨ha,⟨q,s,ok,hb,hs⟩,s1,s2,pl⟩:=h;have hp:=zGm seq p s1 (by omega) pl;rw [<- ha] at hp;unfold oR;refine bd zRj ?_;refine cf rfl ?_;refine bd (zCf d 0 ho (by omega) (hal 0)) ?_;refine cf rfl ?_;refine bd (zCf d 1 ho (by omega) (hal 1)) ?_;refine cf rfl ?_;have h01:seq % 2=0∨seq % 2=1:=by omega
 rcases h01 with hm | hm
 ·rw [hm] at hp hb;refine bd (a:=(p,(seq:Int),true)) (bd (a:=d.Areas.getD 0 []) rfl (bd hp (bd (a:=true) (ct rfl (congrArg some (by simp;omega))) (ct rfl rfl)))) ?_;refine bd (a:=(p,(seq:Int),true)) (bd (a:=d.Areas.getD 1 []) rfl (bd hb (bd (a:=false) ?_ (cf rfl rfl)))) ?_
  ·cases ok
   ·exact cf rfl rfl
   ·exact ct rfl (congrArg some (by have:=hs rfl;simp;omega))
  ·exact cf rfl rfl
 ·rw [hm] at hp hb;cases ok
  ·refine bd (a:=([],0,false)) (bd (a:=d.Areas.getD 0 []) rfl (bd hb (bd (a:=false) (cf rfl rfl) (cf rfl rfl)))) ?_;refine bd (a:=(p,(seq:Int),true)) (bd (a:=d.Areas.getD 1 []) rfl (bd hp (bd (a:=true) (ct rfl (congrArg some (by simp;omega))) (ct rfl rfl)))) ?_;exact cf rfl rfl
  ·have hlt:=hs rfl;by_cases h0:0<s
   ·refine bd (a:=(q,s,true)) (bd (a:=d.Areas.getD 0 []) rfl (bd hb (bd (a:=true) (ct rfl (congrArg some (by simp [h0]))) (ct rfl rfl)))) ?_;refine bd (a:=(p,(seq:Int),true)) (bd (a:=d.Areas.getD 1 []) rfl (bd hp (bd (a:=true) (ct rfl (congrArg some (by simp [hlt]))) (ct rfl rfl)))) ?_;exact cf rfl rfl
   ·refine bd (a:=([],0,false)) (bd (a:=d.Areas.getD 0 []) rfl (bd hb (bd (a:=false) (ct rfl (congrArg some (by simp [h0]))) (cf rfl rfl)))) ?_;refine bd (a:=(p,(seq:Int),true)) (bd (a:=d.Areas.getD 1 []) rfl (bd hp (bd (a:=true) (ct rfl (congrArg some (by simp;omega))) (ct rfl rfl)))) ?_;exact cf rfl rfl
theorem wY (h:a<as.length):(as.set a y).getD a []=y:=by simp [List.getD_eq_getElem?_getD,h]
theorem getD_set_ne {b:Nat} (h:a≠b):(as.set a y).getD b []=as.getD b []:=by simp [List.getD_eq_getElem?_getD,List.getElem?_set_ne h]
theorem Jr.next {p':By} (h:Jr as seq p) (h2:2<=as.length) (hs:seq+1<2 ^ 29) (hp:p'.length<=60000):Jr (as.set ((seq+1) % 2) (jL (seq+1) p')) (seq+1) p':=by
 refine ⟨wY (by omega),⟨p,(seq:Int),true,?_,λ_=>by omega⟩,by omega,hs,hp⟩;rw [getD_set_ne (by omega)];have e:1 - (seq+1) % 2=seq % 2:=by omega
 rw [e,h.a];exact zGm seq p h.s1 (by have:=h.s2;omega) h.pl
theorem Jr.other (h:Jr as seq p) (ha:2<=a):Jr (as.set a y) seq p:=by
 refine ⟨by rw [getD_set_ne (by omega)];exact h.a,?_,h.s1,h.s2,h.pl⟩;rw [getD_set_ne (by omega)];exact h.b
theorem Jr.first (n:Nat) (p:By) (hn:2<=n) (hp:p.length<=60000):Jr ((Q7 n ([]:By)).set 1 (jL 1 p)) 1 p:=by
 refine ⟨wY (by simp;omega),⟨[],0,false,?_,λh=>by cases h⟩,by decide,by decide,hp⟩;rw [getD_set_ne (by decide)];have:(Q7 n ([]:By)).getD (1 - 1 % 2) []=[]:=by simp [List.getD_eq_getElem?_getD,List.getElem?_replicate];split<;>rfl
 rw [this];exact zPx _
set_option maxRecDepth 100000
def zGv (d:zF):zF:=⟨⟨d.Disk.Areas,d.Disk.Writes,d.Disk.CutAt,d.Disk.Torn,true⟩,default,false,d.Next⟩
def zPt:yF:=⟨false,false,⟨[],0⟩,0,false,0,Q7 3 default,Q7 3 default,[],[]⟩
structure Dk (d:zW) (seq:Nat) (st:zU) (m:Nat):Prop where
 ok:zM8 d
 m0:d.Writes<=m
 m1:m<2 ^ 50
 n:d.Areas.length=8
 al:∀ i,(d.Areas.getD i []).length<2 ^ 39
 jr:Jr d.Areas seq (rH st)
 sst:Sst st
structure Dv (d:zF) (seq:Nat) (st:zU) (vo:yF) (m:Nat):Prop extends Dk d.Disk seq st m where
 on:d.On=true
 off:d.Disk.Off=false
 cut:d.Disk.CutAt=0
 s:d.State=⟨st,vo⟩
 nx:d.Next=(seq:Int)+1
theorem Dv.noC (h:Dv d seq st vo m):¬ isC d.Disk:=by
 have:=h.ok.w0;have h2:=h.cut;unfold isC;omega
theorem zK0 (s:zU) (h:Sst s):(rH s).length<=400:=by
 obtain ⟨a,b,c,hs,la,lb,lc⟩:=h.sd;have hse:s.Seeds.getD 0 []=a/\s.Seeds.getD 1 []=b/\s.Seeds.getD 2 []=c:=by rw [hs];exact ⟨rfl,rfl,rfl⟩
 have hen:=h.en;unfold rH;rw [hse.1,hse.2.1,hse.2.2];simp only [Q0,uZ,xE,Q4,Qe];omega
theorem zF5 (h1:d.On=true) (h2:d.Disk.Off=false):vD d=some true:=by
 unfold vD;exact bd (a:=true) (ct h1 (by rw [h2];rfl)) rfl
theorem zKv (h1:d.On=false):vD d=some false:=by
 unfold vD;exact bd (a:=false) (cf h1 rfl) rfl
theorem zJe (h2:d.Disk.Off=true):vD d=some false:=by
 unfold vD;cases h:d.On
 ·exact bd (a:=false) (cf rfl rfl) rfl
 ·exact bd (a:=false) (ct rfl (by rw [h2];rfl)) rfl
def onD (d:zF) (seq:Nat) (st:zU):zF:=⟨⟨d.Disk.Areas,0,0,0,false⟩,⟨st,zPt⟩,true,(seq:Int)+1⟩
theorem zNe (d:zF) (seq:Nat) (st:zU) (hp:d.On=false∨d.Disk.Off=true) (h2:d.Disk.Areas.length=8) (hal:∀ i,(d.Disk.Areas.getD i []).length<2 ^ 39) (h:Jr d.Disk.Areas seq (rH st)) (hs:Sst st):sR d=some (onD d seq st,0):=by
 unfold sR;refine bd (a:=false) (hp.elim zKv zJe) ?_;refine cf rfl ?_;refine bd (a:=⟨d.Disk.Areas,0,0,0,false⟩) rfl ?_;refine bd (zNc ⟨d.Disk.Areas,0,0,0,false⟩ seq (rH st) rfl (by simp only;omega) (λi=>by have:=hal i;simp only;omega) h) ?_;refine cf rfl ?_;refine bd (yC4 st hs) ?_;refine cf rfl ?_;refine bd rfl ?_;have:=h.s2;rw [yP (by omega) (by omega)];have e:(zU.mk st.Seeds st.Auths st.Entropy st.Active st.Resets st.Restarts st.Clock st.Orderly st.Saved st.MaxCounter [] st.Lockout st.Keys)=st:=by
  have:=hs.ix;cases st;simp only at this;rw [this]
 refine congrArg (λz=>some (z,(0:Int))) ?_;show (zF.mk _ (zV.mk (zU.mk st.Seeds st.Auths st.Entropy st.Active st.Resets st.Restarts st.Clock st.Orderly st.Saved st.MaxCounter [] st.Lockout st.Keys) _) _ _)=_;rw [e];rfl
theorem Dv.of_on (h2:d.Disk.Areas.length=8) (hal:∀ i,(d.Disk.Areas.getD i []).length<2 ^ 39) (h:Jr d.Disk.Areas seq (rH st)) (hs:Sst st) (m:Nat) (hm:m<2 ^ 50):Dv (onD d seq st) seq st zPt m:=
 ⟨⟨⟨by show d.Disk.Areas.length<=64;omega,Qw 0,by show (0:Int)<2 ^ 60;decide⟩,by show (0:Int)<=m;omega,hm,h2,hal,h,hs⟩,rfl,rfl,rfl,rfl,rfl⟩
theorem zOo (n i:Nat):(Q7 n ([]:By)).getD i []=[]:=by simp [List.getD_eq_getElem?_getD,List.getElem?_replicate];split<;>rfl
theorem new8:zG3 8=some ⟨Q7 8 [],0,0,0,false⟩:=by decide +kernel
theorem zPl (s:zU) (h:Sst s):sY (zU.mk s.Seeds s.Auths s.Entropy s.Active s.Resets s.Restarts s.Clock s.Orderly (zC.mk [] s.Saved.Updates) s.MaxCounter [] s.Lockout [])=some (rH s):=by
 rw [<- zHf s h];have h1:=h.sv;have h2:=h.ix;have h3:=h.ks;clear h;cases s;simp only at h1 h2 h3;subst h1 h2 h3;rfl
theorem zLn (e:By) (active:Int) (he:e.length=32) (h1:1<=active) (h3:active<=3):Def (nH 8 e active) (λr=>r.2=0/\(∃ d0,r.1=zGv d0)/\∃ st,Dk r.1.Disk 1 st 1/\st.Active=active/\st.Resets=0/\∀ a,a≠1->r.1.Disk.Areas.getD a []=[]):=by
 unfold nH;refine Q1 (Q6 (a:=false) (Q:=λr=>r=false) rfl rfl) (λb hb=>?_);subst hb;refine Q5 (λh=>by cases h) (λ_=>?_);refine Q1 (zPh e active he h1 h3) (λr hr=>?_);obtain ⟨st,x⟩:=r;obtain ⟨hx,hs,ha,hr0,_⟩:=hr;simp only at hx hs ha hr0;subst hx;refine Q5 (λh=>by cases h) (λ_=>?_);have hl:=zK0 st hs;have hrl:=zF6 1 (rH st);let dk:zW:=⟨Q7 8 [],0,0,0,false⟩;have hok:zM8 dk:=⟨by decide,by decide,by decide⟩;have hw:=zC2 dk 1 (jL 1 (rH st)) hok rfl (by decide) (by omega) (by decide);have hwc:wrC dk (dk.Areas.getD 1 []) (jL 1 (rH st))=jL 1 (rH st):=by
  unfold wrC bZ;rw [if_neg (show ¬ (dk.Writes+1=dk.CutAt) by decide),if_neg (show ¬ isC dk by unfold isC;decide),Qg,Qb]
 rw [hwc,show zEp dk=0 from if_neg (show ¬ isC dk by unfold isC;decide)] at hw;have hcm:=zH9 dk 1 (rH st) (by decide) (by decide) (by omega) hw;refine Q1 (Q6 (Q:=λr=>r=dk) new8 rfl) (λr hr=>?_);subst hr;refine Q1 (Q6 (Q:=λr=>r=rH st) (zPl st hs) rfl) (λp hp=>?_);subst hp;refine Q1 (Q6 (Q:=λr=>r=(bU dk 1 (jL 1 (rH st)),0)) hcm rfl) (λr hr=>?_);subst hr;refine Q5 (λh=>by cases h) (λ_=>?_);refine Q6 (a:=(zGv ⟨bU dk 1 (jL 1 (rH st)),default,false,2⟩,0)) rfl ⟨rfl,⟨_,rfl⟩,st,?_,ha,hr0,λa ha=>(getD_set_ne (λh=>ha h.symm)).trans (zOo 8 a)⟩;have hj:=Jr.first 8 (rH st) (by decide) (by omega);refine ⟨⟨by show ((Q7 8 ([]:By)).set 1 (jL 1 (rH st))).length<=64;simp,by show (0:Int)<=0+1;decide,by show (0:Int)+1<2 ^ 60;decide⟩,by show (0:Int)+1<=((1:Nat):Int);decide,by decide,by show ((Q7 8 ([]:By)).set 1 (jL 1 (rH st))).length=8;simp,λi=>?_,hj,hs⟩;show (((Q7 8 ([]:By)).set 1 (jL 1 (rH st))).getD i []).length<2 ^ 39;by_cases hi:1=i
 ·subst hi;rw [wY (by simp)];omega
 ·rw [getD_set_ne hi];rw [zOo];decide
def jF (d:zF) (a:Nat) (y:By):zF:=⟨bU d.Disk a y,d.State,d.On,d.Next⟩
theorem zNx (d:zF) (x:zW):kL d x 0=some (⟨x,d.State,d.On,d.Next⟩,0):=rfl
theorem zQ4 (hal:∀ i,(as.getD i []).length<2 ^ 39) (hy:y.length<2 ^ 39) (ha:a<as.length):∀ i,((as.set a y).getD i []).length<2 ^ 39:=λi=>by
 by_cases hi:a=i
 ·subst hi;rw [wY ha];exact hy
 ·rw [getD_set_ne hi];exact hal i
theorem Dv.set (h:Dv d seq st vo m) (ha:2<=a) (h8:a<8) (hy:y.length<2 ^ 39) (hm:m+1<2 ^ 50):Dv (jF d a y) seq st vo (m+1):=by
 have hn:=h.n;have hok:=h.ok;have hm0:=h.m0;refine ⟨⟨⟨?_,?_,?_⟩,?_,hm,?_,?_,h.jr.other ha,h.sst⟩,h.on,?_,h.cut,h.s,h.nx⟩
 ·show (d.Disk.Areas.set a y).length<=64;simp;omega
 ·show 0<=d.Disk.Writes+1;have:=hok.w0;omega
 ·show d.Disk.Writes+1<2 ^ 60;omega
 ·show d.Disk.Writes+1<=((m+1:Nat):Int);omega
 ·show (d.Disk.Areas.set a y).length=8;simp [hn]
 ·exact zQ4 h.al hy (by omega)
 ·show decide (isC d.Disk)=false;exact decide_eq_false h.noC
theorem Dv.write (h:Dv d seq st vo m) (y:By) (h8:a<8) (hy:y.length<=65536):qV d (a:Int) y=some (jF d a y,0):=by
 have hw:=zC2 d.Disk a y h.ok h.off (by rw [h.n];exact h8) hy (by have:=h.al a;omega);have hc:=h.noC;have e:wrC d.Disk (d.Disk.Areas.getD a []) y=y:=by
  unfold wrC bZ;rw [if_neg (show ¬ (d.Disk.Writes+1=d.Disk.CutAt) from hc),if_neg hc,Qg,Qb]
 rw [e,show zEp d.Disk=0 from if_neg hc] at hw;unfold qV;exact bd hw (bd (zNx d _) rfl)
theorem Dv.append (h:Dv d seq st vo m) (y:By) (h8:a<8) (hy:y.length<=65536):fF d (a:Int) y=some (jF d a (d.Disk.Areas.getD a []++y),0):=by
 have hw:=zO7 d.Disk a y h.ok h.off (by rw [h.n];exact h8) hy (by have:=h.al a;omega);have hc:=h.noC;have e:apC d.Disk (d.Disk.Areas.getD a []) y=d.Disk.Areas.getD a []++y:=by
  unfold apC bZ;rw [if_neg (show ¬ (d.Disk.Writes+1=d.Disk.CutAt) from hc),Qg]
 rw [e,show zEp d.Disk=0 from if_neg hc] at hw;unfold fF;exact bd hw (bd (zNx d _) rfl)
theorem Dv.read (h:Dv d seq st vo m) (h8:a<8):uY d.Disk (a:Int)=some (d.Disk.Areas.getD a [],0):=
 zCf d.Disk a h.off (by rw [h.n];exact h8) (by have:=h.al a;omega)
set_option maxRecDepth 100000
def nmB (s:By):Bool:=decide (1<=s.length)&&decide (s.length<=12)&&s.all nameByte
def nameN (n:Nat):Bool:=(decide (97<=n)&&decide (n<=122))||(decide (48<=n)&&decide (n<=57))||decide (n=45)
theorem zPu:∀ n:Nat,n<256->(bif decide ((n:Int)<97) then (bif decide ((n:Int)<48) then (some ((n:Int) != 45)) else bif decide (57<(n:Int)) then (some ((n:Int) != 45)) else some false) else bif decide (122<(n:Int)) then (bif decide ((n:Int)<48) then (some ((n:Int) != 45)) else bif decide (57<(n:Int)) then (some ((n:Int) != 45)) else some false) else some false:Option Bool)=some (!nameN n):=by decide +kernel
theorem dR (s:By):oW s=some (nmB s):=by
 have hd:Def (oW s) (λr=>r=nmB s):=by
  unfold oW;refine Q1 (P:=λb=>b=(decide (s.length<1)||decide (12<s.length))) ?_ (λb hb=>?_)
  ·refine Q5 (λh=>Q3 ?_) (λh=>Q3 ?_)
   ·have:=dT h;rw [show decide (s.length<1)=true by rw [decide_eq_true_iff];omega];rfl
   ·have:=dF h;rw [show decide (s.length<1)=false by rw [decide_eq_false_iff_not];omega,Bool.false_or];exact decide_eq_decide.2 (by omega)
  refine Q5 (λh=>Q3 ?_) (λh=>?_)
  ·rw [h] at hb;have hb':s.length<1∨12<s.length:=by
    have:=hb.symm;rw [Bool.or_eq_true,decide_eq_true_iff,decide_eq_true_iff] at this;exact this
   unfold nmB;rcases hb' with h1 | h1
   ·rw [show decide (1<=s.length)=false by rw [decide_eq_false_iff_not];omega];rfl
   ·rw [show decide (s.length<=12)=false by rw [decide_eq_false_iff_not];omega,Bool.and_false];rfl
  ·rw [h] at hb;have hb':1<=s.length/\s.length<=12:=by
    have:=hb.symm;rw [Bool.or_eq_false_iff,decide_eq_false_iff_not,decide_eq_false_iff_not] at this;omega
   have hn:nmB s=s.all nameByte:=by
    unfold nmB;rw [show decide (1<=s.length)=true by rw [decide_eq_true_iff];omega,show decide (s.length<=12)=true by rw [decide_eq_true_iff];omega];rfl
   rw [hn];refine Q1 (jZ s (lI s) (λi=>∀ h:i<s.length,nameByte s[i]=true) (λr=>r=false/\∃ i,∃ h:i<s.length,nameByte s[i]=false) (by omega) (λi hi=>?_) ?_) (λy hy=>?_)
   ·unfold lI;refine Q5 (λ_=>?_) (λh=>by have:=dF h;omega);refine Q1 (Qj hi) (λc hc=>?_);subst hc;refine Q1 (P:=λb=>b=!nameByte s[i]) (Q6 (zPu s[i].toNat s[i].toNat_lt) rfl) (λb hb=>?_);refine Q5 (λh=>Q3 ⟨rfl,i,hi,?_⟩) (λh=>Q3 ⟨wO (by omega),λ_=>?_⟩)
    ·rw [h] at hb;simpa using hb.symm
    ·rw [h] at hb;simpa using hb.symm
   ·unfold lI;exact cf (by simp) rfl
   ·cases y with
    | inl r=>
     obtain ⟨rfl,i,hi,hn⟩:=hy;refine Q3 ?_;symm;rw [W0];exact ⟨_,Q9 hi,by simp [hn]⟩
    | inr u=>
     refine Q3 ?_;symm;rw [W3];intro c hc;obtain ⟨i,hi,rfl⟩:=Qq.mp hc;exact hy i hi hi
 obtain ⟨r,hr,rfl⟩:=hd;exact hr
theorem zQ9 (s:By):aF s=some (nmB s):=rfl
def prB (c:UInt8):Bool:=decide (32<=c.toNat)&&decide (c.toNat<=126)
theorem zNo:∀ n:Nat,n<256->(bif decide ((n:Int)<32) then (some true) else some (decide (126<(n:Int))):Option Bool)=some (!(decide (32<=n)&&decide (n<=126))):=by decide +kernel
theorem zIr (s:By) (hs:s.length<2 ^ 40):uE s=some (s.all prB):=by
 have hd:Def (uE s) (λr=>r=s.all prB):=by
  unfold uE;refine Q1 (jZ s (rD s) (λi=>∀ h:i<s.length,prB s[i]=true) (λr=>r=false/\∃ i,∃ h:i<s.length,prB s[i]=false) hs (λi hi=>?_) ?_) (λy hy=>?_)
  ·unfold rD;refine Q5 (λ_=>?_) (λh=>by have:=dF h;omega);refine Q1 (Qj hi) (λc hc=>?_);subst hc;refine Q1 (P:=λb=>b=!prB s[i]) (Q6 (zNo s[i].toNat s[i].toNat_lt) rfl) (λb hb=>?_);refine Q5 (λh=>Q3 ⟨rfl,i,hi,?_⟩) (λh=>Q3 ⟨wO (by omega),λ_=>?_⟩)
   ·rw [h] at hb;simpa using hb.symm
   ·rw [h] at hb;simpa using hb.symm
  ·unfold rD;exact cf (by simp) rfl
  ·cases y with
   | inl r=>
    obtain ⟨rfl,i,hi,hn⟩:=hy;refine Q3 ?_;symm;rw [W0];exact ⟨_,Q9 hi,by simp [hn]⟩
   | inr u=>
    refine Q3 ?_;symm;rw [W3];intro c hc;obtain ⟨i,hi,rfl⟩:=Qq.mp hc;exact hy i hi hi
 obtain ⟨r,hr,rfl⟩:=hd;exact hr
def rf:By->List By->By->List By
 | [],out,line=>if line=[] then out else []
 | c :: r,out,line=>if c=10 then (if line=[]∨4<=out.length then [] else rf r (out++[line]) []) else if prB c=true then rf r out (line++[c]) else []
theorem c10 (c:UInt8):((c.toNat:Int)==10)=decide (c=10):=by
 by_cases h:c=10
 ·subst h;rfl
 ·rw [decide_eq_false h,beq_eq_false_iff_ne];intro e;exact h (UInt8.toNat_inj.1 (by
                  have:c.toNat=10:=by omega
                  rw [this];rfl))
theorem zJj (x:zD) (hx:x.Payload.length<2 ^ 20):∀ (rest:By) (fuel i:Nat) (out:List By) (line:By),rest.length<fuel->x.Payload.drop i=rest->i<=x.Payload.length->out.length<=4->line.length<=i ->
  ∃ y,zM (xO x) fuel (out,line,(i:Int))=some y/\(match y with | .inl r=>r=[]/\rf rest out line=[] | .inr (o,l)=>rf rest out line=if l=[] then o else [])
 | [],f+1,i,out,line,_,hd,hi,_,_=>by
  have hl:i=x.Payload.length:=by
   have:=congrArg List.length hd;simp at this;omega
  refine ⟨.inr (out,line),?_,rfl⟩;simp only [zM];have:xO x (out,line,(i:Int))=some (.inr (.inr (out,line))):=by
   unfold xO;exact cf (by simp;omega) rfl
  rw [this]
 | c :: r,f+1,i,out,line,hf,hd,hi,ho,hll=>by
  have hil:i<x.Payload.length:=by
   have:=congrArg List.length hd;simp at this;omega
  have hc:idx x.Payload (i:Int)=some c:=by
   rw [yQ hil];have:=Qk hil;rw [hd] at this;exact congrArg some (List.cons.inj this).1.symm
  have hr:x.Payload.drop (i+1)=r:=by
   have:=Qk hil;rw [hd] at this;exact (List.cons.inj this).2.symm
  simp only [Q4] at hf;simp only [zM];by_cases h10:c=10
  ·by_cases hb:line=[]∨4<=out.length
   ·refine ⟨.inl [],?_,rfl,by simp only [rf,if_pos h10,if_pos hb]⟩;have:xO x (out,line,(i:Int))=some (.inr (.inl [])):=by
     unfold xO;refine ct (dlt hil) (bd (a:=.inl []) (bd hc (ct (by rw [c10];simp [h10]) (bd (a:=true) ?_ (ct rfl rfl)))) rfl);by_cases h0:line=[]
     ·exact ct (by simp [h0]) rfl
     ·refine cf (by simp;exact h0) (congrArg some ?_);have:=hb.resolve_left h0;simp;omega
    rw [this]
   ·obtain ⟨y,hy,hy2⟩:=zJj x hx r f (i+1) (out++[line]) [] (by omega) hr (by omega) (by have:¬ 4<=out.length:=λh=>hb (.inr h);simp;omega) (by simp);refine ⟨y,?_,?_⟩
    ·have:xO x (out,line,(i:Int))=some (.inl (out++[line],[],((i+1:Nat):Int))):=by
      have hb1:line≠[]:=λh=>hb (.inl h);have hb2:¬ 4<=out.length:=λh=>hb (.inr h);unfold xO;refine ct (dlt hil) (bd (a:=.inr (out++[line],[])) (bd hc (ct (by rw [c10];simp [h10]) (bd (a:=false) (cf (by simp;exact hb1) (congrArg some (by simp;omega))) (cf rfl (bd (yI (by simp;omega)) rfl))))) ?_);rw [wO (show i<2 ^ 40 by omega)]
     rw [this];exact hy
    ·cases y with
     | inl r'=>simp only [rf,if_pos h10,if_neg hb];exact hy2
     | inr p=>simp only [rf,if_pos h10,if_neg hb];exact hy2
  ·have hp:(bif decide ((c.toNat:Int)<32) then (some true) else some (decide (126<(c.toNat:Int))):Option Bool)=some (!prB c):=zNo c.toNat c.toNat_lt;cases hpr:prB c with
   | false=>
    refine ⟨.inl [],?_,rfl,by simp only [rf,if_neg h10,hpr];rfl⟩;have:xO x (out,line,(i:Int))=some (.inr (.inl [])):=by
     unfold xO;refine ct (dlt hil) (bd (a:=.inl []) (bd hc (cf (by rw [c10];simp [h10]) (bd hp (ct (by rw [hpr];rfl) rfl)))) rfl)
    rw [this]
   | true=>
    obtain ⟨y,hy,hy2⟩:=zJj x hx r f (i+1) out (line++[c]) (by omega) hr (by omega) ho (by simp;omega);refine ⟨y,?_,?_⟩
    ·have:xO x (out,line,(i:Int))=some (.inl (out,line++[c],((i+1:Nat):Int))):=by
      unfold xO;refine ct (dlt hil) (bd (a:=.inr (out,line++[c])) (bd hc (cf (by rw [c10];simp [h10]) (bd hp (cf (by rw [hpr];rfl) (bd (yI (by simp;omega)) rfl))))) ?_);rw [wO (show i<2 ^ 40 by omega)]
     rw [this];exact hy
    ·cases y with
     | inl r'=>simp only [rf,if_neg h10,hpr,if_true];exact hy2
     | inr p=>simp only [rf,if_neg h10,hpr,if_true];exact hy2
theorem zEf (x:zD) (hx:x.Payload.length<2 ^ 20):uT x=some (rf x.Payload [] []):=by
 obtain ⟨y,hy,hy2⟩:=zJj x hx x.Payload FU 0 [] [] (xT (by omega)) rfl (by omega) (by simp) (by simp);unfold uT;refine bd hy ?_;cases y with
 | inl r=>obtain ⟨rfl,h⟩:=hy2;rw [h]
 | inr p=>
  obtain ⟨o,l⟩:=p;simp only at hy2 ⊢;by_cases hl:l=[]
  ·rw [if_pos hl] at hy2;exact cf (by simp [hl]) (by rw [hy2])
  ·rw [if_neg hl] at hy2;exact ct (by have:=Qs.2 hl;simp;omega) (by rw [hy2])
set_option maxRecDepth 100000
theorem zKo:∀ l:By,(Qm l 10=-1/\(10:UInt8)∉l)∨∃ w r,l=w++10 :: r/\(10:UInt8)∉w/\Qm l 10=(w.length:Int)
 | []=>.inl ⟨rfl,by simp⟩
 | b :: l=>by
  by_cases hb:b=10
  ·subst hb;exact .inr ⟨[],l,rfl,by simp,by simp [Qm]⟩
  ·have hne:(b==10)=false:=by rw [beq_eq_false_iff_ne];exact hb
   rcases zKo l with ⟨h1,h2⟩ | ⟨w,r,h1,h2,h3⟩
   ·refine .inl ⟨by unfold Qm;rw [hne,h1];rfl,?_⟩;simp only [Qn,not_or];exact ⟨λe=>hb e.symm,h2⟩
   ·refine .inr ⟨b :: w,r,by rw [h1];rfl,?_,?_⟩
    ·simp only [Qn,not_or];exact ⟨λe=>hb e.symm,h2⟩
    ·unfold Qm;rw [hne,h3];have:((w.length:Int)==-1)=false:=by rw [beq_eq_false_iff_ne];omega
     simp only [this,Q4];simp
theorem zOa:∀ (w r:By) (out:List By) (line:By),(10:UInt8)∉w->rf (w++10 :: r) out line=if w.all prB=true then (if line++w=[]∨4<=out.length then [] else rf r (out++[line++w]) []) else []
 | [],r,out,line,_=>by simp [rf]
 | c :: w,r,out,line,h=>by
  simp only [Qn,not_or] at h;have hc:¬ c=10:=λe=>h.1 e.symm;simp only [List.cons_append,rf,if_neg hc];rw [zOa w r out (line++[c]) h.2];cases hp:prB c with
  | false=>simp [hp]
  | true=>simp [hp]
theorem zQ6:∀ (w:By) (out:List By) (line:By),(10:UInt8)∉w->(w≠[]∨line≠[])->rf w out line=[]
 | [],out,line,_,h=>by simp only [rf];rw [if_neg (by simpa using h)]
 | c :: w,out,line,h,_=>by
  simp only [Qn,not_or] at h;have hc:¬ c=10:=λe=>h.1 e.symm;simp only [rf,if_neg hc];split
  ·exact zQ6 w out (line++[c]) h.2 (.inr (by simp))
  ·rfl
theorem zT0:∀ (n:Nat) (rest:By) (out:List By) (fuel:Nat),rest.length<=n->n<fuel->out.length<=4->rest.length<2 ^ 20 ->
  ∃ y,zM wX fuel (out,rest)=some y/\(match y with | .inl r=>r=[]/\rf rest out []=[] | .inr o=>rf rest out []=o):=by
 intro n;induction n with
 | zero=>
  intro rest out fuel hn hf ho hl;obtain ⟨f,rfl⟩:∃ f,fuel=f+1:=⟨fuel - 1,by omega⟩;have:rest=[]:=List.eq_nil_of_length_eq_zero (by omega);subst this;refine ⟨.inr out,?_,rfl⟩;simp only [zM];have:wX (out,[])=some (.inr (.inr out)):=by unfold wX;exact cf rfl rfl
  rw [this]
 | succ n ih=>
  intro rest out fuel hn hf ho hl;obtain ⟨f,rfl⟩:∃ f,fuel=f+1:=⟨fuel - 1,by omega⟩;by_cases h0:rest=[]
  ·subst h0;refine ⟨.inr out,?_,rfl⟩;simp only [zM];have:wX (out,[])=some (.inr (.inr out)):=by unfold wX;exact cf rfl rfl
   rw [this]
  have hpos:0<rest.length:=Qs.2 h0;simp only [zM];have bad:∀ (v:Int),tO rest 10=some v->((bif decide (v<1) then (some true) else bif ((out.length:Int)==4) then (some true) else (sub rest 0 v).bind λv_1130=>(uE v_1130).bind λv_1131=>some (!v_1131):Option Bool)=some true)->wX (out,rest)=some (.inr (.inl [])):=by
   intro v hv hc;unfold wX;exact ct (by simp;omega) (bd hv (bd hc (ct rfl rfl)))
  rcases zKo rest with ⟨h1,h2⟩ | ⟨w,r,h1,h2,h3⟩
  ·refine ⟨.inl [],?_,rfl,zQ6 rest out [] h2 (.inl h0)⟩;rw [bad (-1) (by unfold tO;rw [h1]) (ct rfl rfl)]
  ·have hlen:rest.length=w.length+1+r.length:=by rw [h1];simp;omega
   have hib:tO rest 10=some (w.length:Int):=by unfold tO;rw [h3]
   have htk:(rest.drop 0).take (w.length - 0)=w:=by rw [h1];simp
   have hsub:sub rest 0 (w.length:Int)=some w:=by
    have:=tH (l:=rest) (a:=0) (b:=w.length) (Qi _) (by omega);rw [htk] at this;exact this
   have hpr:=zIr w (by omega);have hrf:=zOa w r out [] h2;rw [<- h1,Qu] at hrf;by_cases hw:w=[]
   ·refine ⟨.inl [],?_,rfl,?_⟩
    ·rw [bad _ hib (ct (by simp [hw]) rfl)]
    ·rw [hrf,if_pos (show w=[]∨4<=out.length from .inl hw)];simp
   have hw1:0<w.length:=Qs.2 hw;by_cases h4:out.length=4
   ·refine ⟨.inl [],?_,rfl,?_⟩
    ·rw [bad _ hib (cf (by simp;omega) (ct (by simp [h4]) rfl))]
    ·rw [hrf,if_pos (show w=[]∨4<=out.length from .inr (by omega))];simp
   have hstep:(sub rest 0 (w.length:Int)).bind (λv_1130=>(uE v_1130).bind λv_1131=>some (!v_1131))=some (!w.all prB):=bd hsub (bd hpr rfl);cases hp:w.all prB with
   | false=>
    refine ⟨.inl [],?_,rfl,by rw [hrf,hp];rfl⟩;rw [bad _ hib (cf (by simp;omega) (cf (by simp;omega) (hstep.trans (by rw [hp];rfl))))]
   | true=>
    obtain ⟨y,hy,hy2⟩:=ih r (out++[w]) f (by omega) (by omega) (by simp;omega) (by omega);have hr2:(rest.drop (w.length+1)).take (rest.length - (w.length+1))=r:=by
     rw [Qf (by simp)];rw [h1];simp
    have hsub2:sub rest (((w.length+1:Nat)):Int) (rest.length:Int)=some r:=by
     have:=tH (l:=rest) (a:=w.length+1) (b:=rest.length) (by omega) (Qd _);rw [hr2] at this;exact this
    have:wX (out,rest)=some (.inl (out++[w],r)):=by
     unfold wX;refine ct (by simp;omega) (bd hib (bd (a:=false) (cf (by simp;omega) (cf (by simp;omega) (hstep.trans (by rw [hp];rfl)))) (cf rfl ?_)));refine bd hsub (bd (yI (by simp;omega)) ?_);rw [wO (show w.length<2 ^ 40 by omega)];exact bd hsub2 rfl
    rw [this];refine ⟨y,hy,?_⟩;rw [hrf,hp,if_pos rfl,if_neg (show ¬ (w=[]∨4<=out.length) by rintro (h | h);exact hw h;omega)];exact hy2
theorem zGp (x:zD) (hx:x.Payload.length<2 ^ 20):kG x=uT x:=by
 rw [zEf x hx];obtain ⟨y,hy,hy2⟩:=zT0 x.Payload.length x.Payload [] FU (Qd _) (xT (by omega)) (by simp) hx;unfold kG;refine bd hy ?_;cases y with
 | inl r=>obtain ⟨rfl,h⟩:=hy2;rw [h]
 | inr o=>simp only at hy2 ⊢;rw [hy2]
theorem iH (x:zD):tW x=uA x:=by
 unfold tW uA;rw [dR,zQ9];refine congrArg _ (funext λv=>?_);cases v with
 | true=>rfl
 | false=>
  simp only [Option.bind_some,cond_false];cases nmB x.Name with
  | false=>rfl
  | true=>
   simp only [Bool.not_true,cond_false];cases h:decide (64<(x.Payload.length:Int)) with
   | true=>rfl
   | false=>
    rw [decide_eq_false_iff_not] at h;rw [zGp x (by omega)]
theorem zAl (x:zD):Def (uA x) (λr=>0<=r/\(r=0->1<=x.Role/\x.Role<=4/\0<=x.Version/\x.Version<=1000000/\x.Name.length<=12/\x.Payload.length<=64)):=by
 unfold uA;refine Q1 (P:=λb=>b=(decide (x.Role<1)||decide (4<x.Role)||decide (x.Version<0)||decide (1000000<x.Version))) ?_ (λb hb=>?_)
 ·cases h1:decide (x.Role<1)<;>cases h2:decide (4<x.Role)<;>cases h3:decide (x.Version<0)<;>exact Q3 (by simp)
 refine Q5 (λh=>Q3 ⟨by decide,λh=>by cases h⟩) (λh=>?_);rw [h] at hb;have hb:=hb.symm;simp only [Bool.or_eq_false_iff,decide_eq_false_iff_not] at hb;refine Q1 (Q6 (dR x.Name) (Q:=λr=>r=nmB x.Name) rfl) (λn hn=>?_);subst hn;refine Q5 (λh=>Q3 ⟨by decide,λh=>by cases h⟩) (λhn=>?_);refine Q5 (λh=>Q3 ⟨by decide,λh=>by cases h⟩) (λh=>?_);rw [decide_eq_false_iff_not] at h;refine Q1 (P:=λ_=>True) ?_ (λb _=>?_)
 ·refine Q5 (λ_=>Q1 (Q6 (zEf x (by omega)) (Q:=λ_=>True) trivial) (λ_ _=>Q3 trivial)) (λ_=>Q3 trivial)
 refine Q5 (λh=>Q3 ⟨by decide,λh=>by cases h⟩) (λ_=>Q3 ⟨by decide,λ_=>⟨by omega,by omega,by omega,by omega,?_,by omega⟩⟩);simp only [Bool.not_eq_false',nmB,Bool.and_eq_true,decide_eq_true_iff] at hn;exact hn.1.2
set_option maxRecDepth 100000
theorem zDw {X X' Y Y':Type} {f:X->Option (X ⊕ Y)} {g:X'->Option (X' ⊕ Y')} (R:X->X'->Prop) (S:Y->Y'->Prop)
  (h:∀ x x',R x x'->(f x=none/\g x'=none)∨(∃ y y',f x=some (.inl y)/\g x'=some (.inl y')/\R y y')∨∃ y y',f x=some (.inr y)/\g x'=some (.inr y')/\S y y') :
  ∀ (fuel:Nat) (x:X) (x':X'),R x x'->(zM f fuel x=none/\zM g fuel x'=none)∨∃ y y',zM f fuel x=some y/\zM g fuel x'=some y'/\S y y'
 | 0,_,_,_=>.inl ⟨rfl,rfl⟩
 | n+1,x,x',hr=>by
  simp only [zM];rcases h x x' hr with ⟨h1,h2⟩ | ⟨y,y',h1,h2,h3⟩ | ⟨y,y',h1,h2,h3⟩
  ·rw [h1,h2];exact .inl ⟨rfl,rfl⟩
  ·rw [h1,h2];exact zDw R S h n y y' h3
  ·rw [h1,h2];exact .inr ⟨y,y',rfl,rfl,h3⟩
def fY (x:zD):Prop:=uA x=some 0
theorem oH.ok (h:oH x):fY x:=zGz x h
theorem fY.f (h:fY x):1<=x.Role/\x.Role<=4/\0<=x.Version/\x.Version<=1000000/\x.Name.length<=12/\x.Payload.length<=64:=by
 obtain ⟨r,e,_,h2⟩:=zAl x;rw [h] at e;exact h2 (Qv e).symm
theorem zM0 (l:List zD) (i:Nat) (hi:i<l.length) (h8:l.length<=8):zM (wK l[i] (l.take i)) FU 0=zM (wF l (i:Int)) FU 0:=by
 have:=zDw (f:=wK l[i] (l.take i)) (g:=wF l (i:Int)) (λa b=>a=b/\∃ k:Nat,a=(k:Int)) (λa b=>a=b) ?_ FU 0 0 ⟨rfl,0,rfl⟩
 ·rcases this with ⟨a,b⟩ | ⟨y,y',a,b,rfl⟩
  ·rw [a,b]
  ·rw [a,b]
 ·rintro a _ ⟨rfl,k,rfl⟩;right;have hlen:(l.take i).length=i:=by simp;omega
  by_cases hk:k<i
  ·have hkl:k<l.length:=by omega
   have hx:idx (l.take i) (k:Int)=some l[k]:=by rw [yQ (by omega)];simp
   have hg:((l[k]).Role==(l[i]).Role&&(l[k]).Name==(l[i]).Name)=true->wK l[i] (l.take i) (k:Int)=some (.inr (.inl 42))/\wF l (i:Int) (k:Int)=some (.inr (.inl 42)):=by
    intro hb;rw [Bool.and_eq_true] at hb;constructor
    ·unfold wK;exact ct (by rw [hlen];simp;omega) (bd hx (bd (a:=true) (ct hb.1 (congrArg some hb.2)) (ct rfl rfl)))
    ·unfold wF;exact ct (by simp;omega) (bd (a:=true) (bd (yQ hkl) (bd (yQ hi) (ct hb.1 (bd (yQ hkl) (bd (yQ hi) (congrArg some hb.2)))))) (ct rfl rfl))
   have hn:((l[k]).Role==(l[i]).Role&&(l[k]).Name==(l[i]).Name)=false->wK l[i] (l.take i) (k:Int)=some (.inl ((k+1:Nat):Int))/\wF l (i:Int) (k:Int)=some (.inl ((k+1:Nat):Int)):=by
    intro hb;have hw:Q8.wrap ((k:Int)+1)=((k+1:Nat):Int):=wO (by omega);constructor
    ·unfold wK;refine ct (by rw [hlen];simp;omega) (bd hx (bd (a:=false) ?_ (cf rfl (by rw [hw]))));cases hr:(l[k]).Role==(l[i]).Role with
     | false=>rfl
     | true=>rw [hr] at hb;exact congrArg some hb
    ·unfold wF;refine ct (by simp;omega) (bd (a:=false) (bd (yQ hkl) (bd (yQ hi) ?_)) (cf rfl (by rw [hw])));cases hr:(l[k]).Role==(l[i]).Role with
     | false=>rfl
     | true=>rw [hr] at hb;exact ct rfl (bd (yQ hkl) (bd (yQ hi) (congrArg some hb)))
   cases hb:((l[k]).Role==(l[i]).Role&&(l[k]).Name==(l[i]).Name) with
   | true=>exact .inr ⟨_,_,(hg hb).1,(hg hb).2,rfl⟩
   | false=>exact .inl ⟨_,_,(hn hb).1,(hn hb).2,rfl,k+1,rfl⟩
  ·refine .inr ⟨.inr (),.inr (),?_,?_,rfl⟩
   ·unfold wK;exact cf (by rw [hlen];simp;omega) rfl
   ·unfold wF;exact cf (by simp;omega) rfl
theorem zIm (l:List zD) (i:Nat) (hi:i<l.length) (h8:l.length<=8):Def (zM (wF l (i:Int)) FU 0) (λr=>r=.inr ()∨r=.inl 42):=by
 refine Qt (λs=>∃ k:Nat,s=(k:Int)/\k<=i) (λs=>i - s.toNat) (λs hs=>?_) ⟨0,rfl,by omega⟩ (by simp;omega);obtain ⟨k,rfl,hk⟩:=hs;unfold wF;refine Q5 (λh=>?_) (λh=>Q3 (.inl rfl));have hki:=dT h;refine Q1 (P:=λ_=>True) ?_ (λb _=>?_)
 ·refine Q1 (Qj (show k<l.length by omega)) (λy _=>?_);refine Q1 (Qj hi) (λz _=>?_);refine Q5 (λ_=>?_) (λ_=>Q3 trivial);refine Q1 (Qj (show k<l.length by omega)) (λy _=>?_);exact Q1 (Qj hi) (λz _=>Q3 trivial)
 refine Q5 (λ_=>Q3 (.inr rfl)) (λ_=>Q3 ?_);rw [wO (by omega)];exact ⟨⟨k+1,rfl,by omega⟩,by simp only [W1];omega⟩
theorem zOg {c:Bool} {o:Option Bool} (h:o=some b):(bif c then some true else o)=some (c||b):=by cases c<;>simp [h]
theorem zYh (l:List zD) (h8:l.length<=8) :
  ∃ y,xP l=xP l/\zM (xP l) FU (false,false,0)=some y/\(match y with
   | .inl r=>zM (xR l) FU (0,[false,false,false,false,false])=some (.inl r)/\0<r
   | .inr (fw,k)=>(∃ a b c,zM (xR l) FU (0,[false,false,false,false,false])=some (.inr [a,fw,b,k,c]))/\∀ x∈l,fY x):=by
 have tot:Def (zM (xP l) FU (false,false,0)) (λy=>match y with | .inl r=>0<r | .inr _=>∀ x∈l,fY x):=by
  refine Qt (λs=>∃ i:Nat,s.2.2=(i:Int)/\i<=l.length/\∀ x∈l.take i,fY x) (λs=>l.length - s.2.2.toNat) (λs hs=>?_) ⟨0,rfl,by omega,by simp⟩ (by simp;omega);obtain ⟨f,k,i'⟩:=s;obtain ⟨i,g1,g2,g3⟩:=hs;simp only at g1;subst g1;unfold xP;refine Q5 (λh=>?_) (λh=>Q3 ?_)
  ·have hi:i<l.length:=by have:=dT h;omega
   refine Q1 (Qj hi) (λy hy=>?_);subst hy;refine Q1 ((zAl l[i]).get 0 |> λe=>(⟨_,e.1,⟨e.1,e.2.1⟩⟩:Def _ (λr=>uA l[i]=some r/\0<=r))) (λr hr=>?_);refine Q5 (λh=>Q3 ?_) (λh0=>?_)
   ·have:r≠0:=by simpa using h
    have:=hr.2;show 0<r;omega
   have h0':r=0:=by simpa using h0
   subst h0';refine Q1 (P:=λ_=>True) ?_ (λb hb=>?_)
   ·refine Q5 (λh0=>?_) (λ_=>Q3 trivial);have h0':=dT h0;refine Q1 (Qj hi) (λy hy=>?_);rw [yP (by omega) (by omega),show (i:Int) - 1=((i - 1:Nat):Int) by omega];exact Q1 (Qj (show i - 1<l.length by omega)) (λy hy=>Q3 trivial)
   refine Q5 (λh=>Q3 (show (0:Int)<41 by decide)) (λ_=>?_);refine Q1 (zIm l i hi h8) (λr' hr'=>?_);rcases hr' with rfl | rfl
   ·refine Q1 (P:=λ_=>True) (Q5 (λ_=>Q3 trivial) (λ_=>Q1 (Qj hi) (λy _=>Q3 trivial))) (λb1 _=>?_);refine Q1 (P:=λ_=>True) (Q5 (λ_=>Q3 trivial) (λ_=>Q1 (Qj hi) (λy _=>Q3 trivial))) (λb2 _=>Q3 ?_);rw [wO (by omega)];refine ⟨⟨i+1,rfl,by omega,λx hx=>?_⟩,by simp only [W1];omega⟩;rcases lO hi hx with hx | rfl
    ·exact g3 x hx
    ·exact hr.1
   ·exact Q3 (show (0:Int)<42 by decide)
  ·have:=dF h;rw [Qf (by omega)] at g3;exact g3
 obtain ⟨y,hy,hy2⟩:=tot;have sim:=zDw (f:=xR l) (g:=xP l) (λs t=>∃ (i:Nat) (a b c:Bool),s=((i:Int),[a,t.1,b,t.2.1,c])/\t.2.2=(i:Int)/\i<=l.length)
  (λy z=>match y,z with | .inl r,.inl r'=>r=r' | .inr s,.inr t=>∃ a b c,s=[a,t.1,b,t.2,c] | _,_=>False) ?_ FU (0,[false,false,false,false,false]) (false,false,0) ⟨0,false,false,false,rfl,rfl,by omega⟩
 ·rcases sim with ⟨_,b⟩ | ⟨s,t,a,b,c⟩
  ·rw [hy] at b;cases b
  ·rw [hy] at b;obtain rfl:=Qv b;refine ⟨y,rfl,hy,?_⟩;cases y with
   | inl r=>
    cases s with
    | inl r'=>exact ⟨by rw [a,show r'=r from c],hy2⟩
    | inr _=>exact c.elim
   | inr t=>
    cases s with
    | inl _=>exact c.elim
    | inr s=>
     obtain ⟨x1,x2,x3,x4⟩:=c;exact ⟨⟨x1,x2,x3,by rw [a,x4]⟩,hy2⟩
 ·rintro ⟨s1,s2⟩ ⟨fw,k,i'⟩ ⟨i,a,b,c,e,rfl,hle⟩;obtain ⟨rfl,rfl⟩:=Prod.mk.inj e;right;by_cases hi:i<l.length
  ·have hd:decide ((i:Int)<(l.length:Int))=true:=by simp;omega
   obtain ⟨r,er,r0,hr⟩:=zAl l[i];have er':tW l[i]=some r:=(iH _).trans er;by_cases h0:r=0
   rotate_left
   ·refine .inr ⟨.inl r,.inl r,?_,?_,rfl⟩
    ·unfold xR;exact ct hd (bd (yQ hi) (bd er' (ct (b1 h0) rfl)))
    ·unfold xP;exact ct hd (bd (yQ hi) (bd er (ct (b1 h0) rfl)))
   obtain ⟨p1,p4,_⟩:=hr h0;subst h0;have ho:∃ o,(bif decide (0<(i:Int)) then (idx l (Q8.wrap ((i:Int) - 1))).bind λv_1235=>some (decide (l[i].Role<v_1235.Role)) else some false:Option Bool)=some o/\(bif decide (0<(i:Int)) then (idx l (i:Int)).bind λv_1313=>(idx l (Q8.wrap ((i:Int) - 1))).bind λv_1314=>some (decide (v_1313.Role<v_1314.Role)) else some false:Option Bool)=some o:=by
    cases hz:decide (0<(i:Int)) with
    | false=>exact ⟨false,rfl,rfl⟩
    | true=>
     have hz':0<(i:Int):=of_decide_eq_true hz;have hw:Q8.wrap ((i:Int) - 1)=((i - 1:Nat):Int):=by rw [yP (by omega) (by omega)];omega
     refine ⟨decide (l[i].Role<(l[i - 1]'(by omega)).Role),?_,?_⟩
     ·rw [hw];exact bd (yQ (by omega)) rfl
     ·rw [hw];exact bd (yQ hi) (bd (yQ (by omega)) rfl)
   obtain ⟨o,o1,o2⟩:=ho;cases o with
   | true=>
    refine .inr ⟨.inl 41,.inl 41,?_,?_,rfl⟩
    ·unfold xR;exact ct hd (bd (yQ hi) (bd er' (cf rfl (bd o1 (ct rfl rfl)))))
    ·unfold xP;exact ct hd (bd (yQ hi) (bd er (cf rfl (bd o2 (ct rfl rfl)))))
   | false=>
    have hsub:sub l 0 (i:Int)=some (l.take i):=by
     have:=tH (l:=l) (a:=0) (b:=i) (Qi _) (by omega);simpa using this
    obtain ⟨z,ez,hz⟩:=zIm l i hi h8;have ez':=(zM0 l i hi h8).trans ez;rcases hz with rfl | rfl
    rotate_left
    ·refine .inr ⟨.inl 42,.inl 42,?_,?_,rfl⟩
     ·unfold xR;exact ct hd (bd (yQ hi) (bd er' (cf rfl (bd o1 (cf rfl (bd hsub (bd ez' rfl)))))))
     ·unfold xP;exact ct hd (bd (yQ hi) (bd er (cf rfl (bd o2 (cf rfl (bd ez rfl))))))
    have hw:Q8.wrap ((i:Int)+1)=((i+1:Nat):Int):=wO (by omega);obtain ⟨n,hn⟩:=Ql (show 0<=l[i].Role by omega);have hn4:1<=n/\n<=4:=by omega
    have hix:ixN 5 l[i].Role=some n:=by rw [hn];simp [ixN];omega
    refine .inl ⟨(((i+1:Nat):Int),[a,fw,b,k,c].set n true),(fw||(l[i].Role==1),k||(l[i].Role==3),((i+1:Nat):Int)),?_,?_,?_⟩
    ·unfold xR;refine ct hd (bd (yQ hi) (bd er' (cf rfl (bd o1 (cf rfl (bd hsub (bd ez' ?_)))))));refine bd hix (bd (a:=[a,fw,b,k,c].set n true) ?_ (by rw [hw]));simp [uX];omega
    ·unfold xP;refine ct hd (bd (yQ hi) (bd er (cf rfl (bd o2 (cf rfl (bd ez ?_))))));refine bd (zOg (bd (yQ hi) rfl)) (bd (zOg (bd (yQ hi) rfl)) (by rw [hw]))
    ·rw [hn];have:n=1∨n=2∨n=3∨n=4:=by omega
     rcases this with rfl | rfl | rfl | rfl
     ·exact ⟨i+1,a,b,c,by simp,rfl,by omega⟩
     ·exact ⟨i+1,a,true,c,by simp,rfl,by omega⟩
     ·exact ⟨i+1,a,b,c,by simp,rfl,by omega⟩
     ·exact ⟨i+1,a,b,true,by simp,rfl,by omega⟩
  ·have hd:decide ((i:Int)<(l.length:Int))=false:=by simp;omega
   refine .inr ⟨.inr [a,fw,b,k,c],.inr (fw,k),?_,?_,a,b,c,rfl⟩
   ·unfold xR;exact cf hd rfl
   ·unfold xP;exact cf hd rfl
theorem zIe (l:List zD) (hl:l.length<2 ^ 40):Def (vL l) (λr=>wJ l=some r/\0<=r/\(r=0->1<=l.length/\l.length<=8/\∀ x∈l,fY x)):=by
 by_cases hb:l.length=0∨8<l.length
 ·have hc:(bif ((l.length:Int)==0) then (some true) else some (decide (8<(l.length:Int))):Option Bool)=some true:=by
   rcases hb with hb | hb
   ·exact ct (by simp [hb]) rfl
   ·exact cf (by rw [beq_eq_false_iff_ne];omega) (congrArg some (by simp;omega))
  refine ⟨1,?_,?_,by decide,λe=>by cases e⟩
  ·unfold vL;exact bd hc (ct rfl rfl)
  ·unfold wJ;exact bd hc (ct rfl rfl)
 ·have hc:(bif ((l.length:Int)==0) then (some true) else some (decide (8<(l.length:Int))):Option Bool)=some false:=cf (by rw [beq_eq_false_iff_ne];omega) (congrArg some (by simp;omega));obtain ⟨y,_,hy,hy2⟩:=zYh l (by omega);cases y with
  | inl r=>
   refine ⟨r,?_,?_,Int.le_of_lt hy2.2,λe=>absurd e (by have:=hy2.2;omega)⟩
   ·unfold vL;exact bd hc (cf rfl (bd hy rfl))
   ·unfold wJ;exact bd hc (cf rfl (bd hy2.1 rfl))
  | inr t=>
   obtain ⟨fw,k⟩:=t;obtain ⟨⟨a,b,c,h1⟩,h2⟩:=hy2;refine ⟨if fw&&k then 0 else 40,?_,?_,by split<;>decide,λ_=>⟨by omega,by omega,h2⟩⟩
   ·unfold vL;refine bd hc (cf rfl (bd hy ?_));cases fw<;>cases k<;>rfl
   ·unfold wJ;refine bd hc (cf rfl (bd h1 ?_));cases fw<;>cases k<;>rfl
set_option maxRecDepth 100000
theorem zIp (x:zD) (h:x.Name.length<=65535) (h2:x.Payload.length<=65535):qJ x=beN x.Role 1 1++(beN x.Version 4 4++(bl x.Name++(bl x.Payload++[]))):=by
 unfold qJ bl;rw [zB9 _ h2,zB9 _ h];simp [sQ]
theorem zCv (h:fY x):(qJ x).length<=85:=by
 obtain ⟨_,_,_,_,h5,h6⟩:=h.f;rw [zIp x (by omega) (by omega)];simp only [Q0,xE,uZ,Qe];omega
theorem zUv (h:fY x):mB x=some (qJ x):=by
 obtain ⟨_,_,_,_,h5,h6⟩:=h.f;unfold mB;refine bd ((iH x).trans h) (cf rfl ?_);have h3:(sQ (sQ [] 1 x.Role) 4 x.Version).length=5:=by rw [vQ,vQ];rfl
 have h4:=zAh (sQ (sQ [] 1 x.Role) 4 x.Version) x.Name;refine bd (pK [] 1 _ (by omega) (by omega) (by simp)) ?_;refine bd (pK _ 4 _ (by omega) (by omega) (by rw [vQ];simp)) ?_;refine bd (ckT (zGw (by omega))) ?_;refine bd (dX _ _ (by omega)) ?_;exact bd (dX _ _ (by omega)) rfl
theorem zYv (h:fY x):qD x=some (qJ x):=by
 obtain ⟨_,_,_,_,h5,h6⟩:=h.f;unfold qD;refine bd h (cf rfl ?_);have h3:(sQ (sQ [] 1 x.Role) 4 x.Version).length=5:=by rw [vQ,vQ];rfl
 have h4:=zAh (sQ (sQ [] 1 x.Role) 4 x.Version) x.Name;refine bd (zCt [] 1 _ (by omega) (by omega) (by simp)) ?_;refine bd (zCt _ 4 _ (by omega) (by omega) (by rw [vQ];simp)) ?_;refine bd (ckT (zGw (by omega))) ?_;refine bd (zGq _ _ (by omega)) ?_;exact bd (zGq _ _ (by omega)) rfl
def tN (l:List zD):By:=beN (l.length:Int) 1 1++l.flatMap λx=>bl (qJ x)
structure cM (l:List zD):Prop where
 r:vL l=some 0
 p:wJ l=some 0
 h1:1<=l.length
 h8:l.length<=8
 im:∀ x∈l,fY x
theorem chOk (hl:l.length<2 ^ 40) (h:vL l=some 0):cM l:=by
 obtain ⟨r,e,h1,_,h2⟩:=zIe l hl;have:r=0:=Qv (e.symm.trans h);subst this;obtain ⟨a,b,c⟩:=h2 rfl;exact ⟨e,h1,a,b,c⟩
theorem hU.ok (h:hU l):cM l:=chOk (by have:=h.len;omega) (zNb l h)
theorem zOd (l:List zD) (h:∀ x∈l,fY x):(l.flatMap λx=>bl (qJ x)).length<=87*l.length:=by
 induction l with
 | nil=>simp
 | cons x l ih=>
  have h1:=zCv (h x (by simp));have h2:=ih λy hy=>h y (by simp [hy]);simp only [Qc,Q0,uZ,Q4];omega
theorem kM (h:cM l):8<=(tN l).length/\(tN l).length<=697:=by
 have h1:=zOd l h.im;have h8:=h.h8;refine ⟨?_,by unfold tN;rw [Q0,xE];omega⟩;obtain ⟨x,l',rfl⟩:∃ x l',l=x :: l':=by
  cases l with
  | nil=>exact absurd h.h1 (by decide)
  | cons x l'=>exact ⟨x,l',rfl⟩
 have:=(zK4 x).1;unfold tN;simp only [Qc,Q0,uZ,xE];omega
theorem zK2 (hi:i<l.length):((l.take (i+1)).flatMap λx=>bl (qJ x))=((l.take i).flatMap λx=>bl (qJ x))++bl (qJ l[i]):=by
 rw [Qa,Qh];simp [hi]
theorem zNj (h:∀ x∈l,fY x) (i:Nat):((l.take i).flatMap λx=>bl (qJ x)).length<=87*l.length:=by
 have:=zOd (l.take i) λx hx=>h x (Qr hx);have h2:(l.take i).length<=l.length:=by simp;omega
 omega
theorem yCh (h:cM l):rY l=some (tN l):=by
 have h8:=h.h8;unfold rY;refine bd h.p (cf rfl (bd (wU [] 1 _ (by omega) (by omega) (by simp)) ?_));refine bd (a:=tN l) (yJ l.length (λi=>(beN (l.length:Int) 1 1++((l.take i).flatMap λx=>bl (qJ x)),(i:Int))) (by simp) (λi hi=>?_) ?_ (xT (by omega))) ?_
 ·have hx:=h.im _ (Q9 hi);have ht:=zNj h.im i;unfold qK;refine ct (by simp;omega) (bd (yQ hi) (bd (zUv hx) (bd (wB _ _ ?_ (by have:=zCv hx;omega)) ?_)))
  ·rw [Q0,xE];omega
  ·rw [wO (by omega),zK2 hi,Q2]
 ·unfold qK;refine cf (by simp) ?_;rw [Qg];rfl
 ·rfl
theorem zSv (h:cM l):tZ l=some (tN l):=by
 have h8:=h.h8;have rU:∀ (b:By) (k:Nat) (n:Int),1<=k->k<=8->b.length<2 ^ 30->nF b (k:Int) n=some (b++beN n k k):=λb k n h1 h2 h3=>zCt b k n h1 h2 (by omega);unfold tZ;refine bd h.r (cf rfl (bd (rU [] 1 _ (by omega) (by omega) (by simp)) ?_));refine bd (a:=tN l) (yJ l.length (λi=>(beN (l.length:Int) 1 1++((l.take i).flatMap λx=>bl (qJ x)),(i:Int))) (by simp) (λi hi=>?_) ?_ (xT (by omega))) ?_
 ·have hx:=h.im _ (Q9 hi);have ht:=zNj h.im i;unfold qW;refine ct (by simp;omega) (bd (yQ hi) (bd (zYv hx) (bd (zGq _ _ ?_) ?_)))
  ·rw [Q0,xE];omega
  ·rw [wO (by omega),zK2 hi,zB9 _ (by have:=zCv hx;omega),Q2];rfl
 ·unfold qW;refine cf (by simp) ?_;rw [Qg];rfl
 ·rfl
theorem yB3 (h:fY x):pR (qJ x)=some (x,0):=by
 obtain ⟨a1,a2,a3,a4,a5,a6⟩:=h.f;have hle:=zCv h;unfold pR;obtain ⟨r,g,e⟩:=zKx (qJ x) (by omega);refine bd e ?_;rw [zIp x (by omega) (by omega)] at g;obtain ⟨r1,g,e⟩:=rdU (k:=1) g (by omega) (by omega) (by omega) (by omega) (by omega);refine bd e ?_;obtain ⟨r2,g,e⟩:=rdU (k:=4) g (by omega) (by omega) (by omega) (by omega) (by omega);refine bd e ?_;obtain ⟨r3,g,e⟩:=zR0 (k:=12) g (by omega) (by omega);refine bd e ?_;obtain ⟨r4,g,e⟩:=zR0 (k:=64) g (by omega) (by omega);refine bd e ?_;have hc:tW (zD.mk x.Role x.Name x.Version x.Payload)=some 0:=(iH x).trans h;exact bd (bd (rdE g) (cf rfl (bd hc rfl))) rfl
theorem zP8 (b:By) (hb:b.length<2 ^ 30):∀ (m:List zD) (l:List zD) (r:RS) (fuel:Nat),m.length<fuel->(∀ x∈m,fY x)->l.length+m.length<=8->87<=b.length∨(∀ x∈m,(qJ x).length<=b.length)->Rd r (m.flatMap λx=>bl (qJ x)) ->
  ∃ r',Rd r' []/\zM (xZ b) fuel (l,(m.length:Int),r.W.b_,r.W.at_,r.W.e_)=some (.inr (l++m,r'.W.b_,r'.W.at_,r'.W.e_))
 | [],l,r,f+1,_,_,_,_,g=>by
  refine ⟨r,g,?_⟩;simp only [zM];have:xZ b (l,(([]:List zD).length:Int),r.W.b_,r.W.at_,r.W.e_)=some (.inr (.inr (l,r.W.b_,r.W.at_,r.W.e_))):=by
   unfold xZ;exact bd (cf rfl rfl) (cf rfl rfl)
  rw [this,Qb]
 | x :: m,l,r,f+1,hf,hm,h8,hb2,g=>by
  have hx:=hm x (by simp);have hle:=zCv hx;simp only [Q4] at hf h8;have g':Rd r (bl (qJ x)++(m.flatMap λx=>bl (qJ x))):=g.cast (by simp);have hxb:(qJ x).length<=b.length:=by
   rcases hb2 with h | h
   ·omega
   ·exact h x (by simp)
  obtain ⟨r1,g1,e1⟩:=zR0 (k:=b.length) g' (by omega) hxb;obtain ⟨r2,g2,e2⟩:=zP8 b hb m (l++[x]) r1 f (by omega) (λy hy=>hm y (by simp [hy])) (by simp;omega) (by
   rcases hb2 with h | h
   ·exact .inl h
   ·exact .inr λy hy=>h y (by simp [hy])) g1
  refine ⟨r2,g2,?_⟩;simp only [zM];have:xZ b (l,((x :: m).length:Int),r.W.b_,r.W.at_,r.W.e_)=some (.inl (l++[x],(m.length:Int),r1.W.b_,r1.W.at_,r1.W.e_)):=by
   unfold xZ;refine bd (a:=(true,r.W.b_,r.W.at_,r.W.e_)) (ct (by simp) (bd (zMd g) rfl)) (ct rfl ?_);refine bd e1 (bd (yB3 hx) (cf rfl (bd (yI (by simp;omega)) ?_)));rw [Q4,yP (by omega) (by omega),show (((m.length+1:Nat):Int) - 1)=(m.length:Int) by omega]
  rw [this];simp only;rw [e2,Q2];rfl
theorem zPj:∀ x∈l,(qJ x).length<=(tN l).length:=by
 intro x hx;unfold tN;rw [Q0];have:(bl (qJ x)).length<=(l.flatMap λx=>bl (qJ x)).length:=by
  induction l with
  | nil=>cases hx
  | cons y l ih=>
   rw [Qc,Q0];rcases Qn.1 hx with rfl | hx
   ·omega
   ·have:=ih hx;omega
 rw [uZ] at this;omega
theorem zP7 (h:cM l):wV (tN l)=some (l,0):=by
 have hl:=kM h;have h8:=h.h8;unfold wV;obtain ⟨r,g,e⟩:=zKx (tN l) (by omega);refine bd e ?_;obtain ⟨r1,g,e⟩:=rdU (k:=1) (n:=(l.length:Int)) (r:=r) (rest:=l.flatMap λx=>bl (qJ x)) g (by omega) (by omega) (by omega) (by omega) (by omega);refine bd e ?_;obtain ⟨r2,g2,e2⟩:=zP8 (tN l) (by omega) l [] r1 FU (xT (by omega)) h.im (by simpa using h8) (.inr zPj) g;refine bd e2 ?_;exact bd (bd (rdE g2) (cf rfl (bd h.p rfl))) (cf rfl rfl)
set_option maxRecDepth 100000
theorem yB1:vW 1=some ⟨[bnk 20,[]],0⟩:=by decide +kernel
theorem yCq:vW 2=some ⟨[[],bnk 32],0⟩:=by decide +kernel
theorem yDh:vW 3=some ⟨[bnk 20,bnk 32],0⟩:=by decide +kernel
theorem zTx (active:Int) (h1:1<=active) (h3:active<=3):vW active=some (zO5 active):=by
 rcases zTg h1 h3 with rfl | rfl | rfl
 ·exact yB1
 ·exact yCq
 ·exact yDh
def sb (c0 c1:Bool):Int:=(if c0 then 1 else 0)+(if c1 then 2 else 0)
theorem ract (b0 b1:List By) (u:Int) (c0 c1:Bool) (h0:((b0.length:Int)==16)=c0) (h1:((b1.length:Int)==16)=c1):sS ⟨[b0,b1],u⟩=some (sb c0 c1):=by
 unfold sS;refine bd (a:=sb c0 c1) ?_ rfl;refine yJ (x:=((0:Int),(0:Int))) 2 (λi=>match i with | 0=>((0:Int),(0:Int)) | 1=>(sb c0 false,1) | _=>(sb c0 c1,2)) rfl (λi hi=>?_) ?_ (xT (by omega))
 ·have:i=0∨i=1:=by omega
  rcases this with rfl | rfl
  ·show uH _ (0,0)=some (.inl (sb c0 false,1));unfold uH;refine ct rfl ?_;refine bd (a:=sb c0 false) (bd (a:=c0) (ct rfl (bd (a:=b0) rfl (by rw [h0]))) ?_) rfl;cases c0<;>rfl
  ·show uH _ (sb c0 false,1)=some (.inl (sb c0 c1,2));unfold uH;refine ct rfl ?_;refine bd (a:=sb c0 c1) (bd (a:=c1) (ct rfl (bd (a:=b1) rfl (by rw [h1]))) ?_) rfl;cases c0<;>cases c1<;>rfl
 ·rfl
theorem yAq (b0 b1:List By) (u:Int) (c0 c1:Bool) (h0:((b0.length:Int)==16)=c0) (h1:((b1.length:Int)==16)=c1):uL ⟨[b0,b1],u⟩ 0=some c0/\uL ⟨[b0,b1],u⟩ 1=some c1:=by
 have h:=ract b0 b1 u c0 c1 h0 h1;unfold uL;constructor
 ·refine bd h ?_;cases c0<;>cases c1<;>rfl
 ·refine bd h ?_;cases c0<;>cases c1<;>rfl
theorem zR6 (r:zC) (b0 b1:List By) (hb:r.Banks=[b0,b1]) (l0:b0.length<=16) (l1:b1.length<=16) (h0:∀ x∈b0,x.length<=32) (h1:∀ x∈b1,x.length<=32):mD r=some (b0,b1,r.Updates):=by
 unfold mD;rw [hb];refine ct rfl ?_;refine bd (a:=b0) rfl ?_;refine bd (a:=b0) ?_ ?_
 ·refine yJ b0.length (λi=>(b0.take i,(i:Int))) (by simp) (λi hi=>?_) ?_ (xT (by omega))
  ·unfold mE;refine ct (dlt hi) ?_;refine bd (yQ hi) ?_;refine bd (yI (by have:=h0 _ (Q9 hi);simp;omega)) ?_;refine bd (yI (by simp;omega)) ?_;rw [wO (show i<2 ^ 40 by omega),Qa];simp [hi]
  ·unfold mE;refine cf (dge (Qd _)) ?_;simp
 refine ct rfl ?_;refine bd (a:=b1) rfl ?_;refine bd (a:=(b1,b0)) ?_ ?_
 ·refine yJ b1.length (λi=>(b1.take i,(i:Int),b0)) (by simp) (λi hi=>?_) ?_ (xT (by omega))
  ·unfold mK;refine ct (dlt hi) ?_;refine bd (yQ hi) ?_;refine bd (yI (by have:=h1 _ (Q9 hi);simp;omega)) ?_;refine bd (yI (by simp;omega)) ?_;rw [wO (show i<2 ^ 40 by omega),Qa];simp [hi]
  ·unfold mK;refine cf (dge (Qd _)) ?_;simp
 exact cf rfl rfl
set_option maxRecDepth 100000
theorem zKw (b:By) (hb:b.length<2 ^ 40):xQ ((0:Nat):Int) b=some (gX b):=zSu b hb
theorem zKe (b:By) (hb:b.length<2 ^ 40):xQ ((1:Nat):Int) b=some (sha b):=zI8 b hb
theorem zLz (r:zC) (active:Int) (e:zB) (hr:zEy active r) (he:EvGood e active) (hk:e.Kind≠5):Def (uW r 0 e.Register e.Digests) (λx=>x=(ext active e r,0)):=by
 obtain ⟨⟨b0,b1,hb,l0,l1,m0,m1⟩⟩:=hr;obtain ⟨r0,r1,_,dl,f0,f1⟩:=he;obtain ⟨bs,u⟩:=r;simp only at hb;subst hb;have l0':b0.length<=16:=by rw [l0];split<;>omega
 have l1':b1.length<=16:=by rw [l1];split<;>omega
 unfold Fit at f0 f1;have f0':((e.Digests.getD 0 []).length:Int)<=32:=by rw [f0];split<;>decide
 have f1':((e.Digests.getD 1 []).length:Int)<=32:=by rw [f1];split<;>decide
 have g0:∀ d∈e.Digests,d.length<=32:=by
  intro d hd;obtain ⟨i,hi,rfl⟩:=Qq.mp hd;have hi2:i=0∨i=1:=by omega
  rcases hi2 with rfl | rfl
  ·have:(e.Digests.getD 0 [])=e.Digests[0]:=by simp [hi]
   rw [<- this];omega
  ·have:(e.Digests.getD 1 [])=e.Digests[1]:=by simp [hi]
   rw [<- this];omega
 have i0:idx e.Digests 0=some (e.Digests.getD 0 []):=zKn (i:=0) (by omega);have i1:idx e.Digests 1=some (e.Digests.getD 1 []):=zKn (i:=1) (by omega);obtain ⟨a0,a1⟩:=yAq b0 b1 u (xY active 0) (xY active 1) (by rw [l0];cases xY active 0<;>rfl) (by rw [l1];cases xY active 1<;>rfl);unfold uW;refine Q1 (P:=λb=>b=false) ?_ (λb hb=>?_)
 ·refine Q5 (λh=>by cases h) (λ_=>Q5 (λh=>by cases h) (λ_=>?_));refine Q1 (P:=λb=>b=true) ?_ (λb hb=>?_)
  ·unfold oS;refine Q1 (P:=λb=>b=true) ?_ (λb hb=>Q3 hb);refine Q5 (λ_=>Q3 ?_) (λh=>?_)
   ·rw [decide_eq_true_iff];omega
   ·have:=dF h;omega
  subst hb;refine Q5 (λh=>by cases h) (λ_=>Q3 ?_);simp;omega
 subst hb;refine Q5 (λh=>by cases h) (λ_=>?_);refine Q1 (P:=λn=>n=0) ?_ (λn hn=>?_)
 ·unfold kP;refine Q1 (P:=λb=>b=false) (Q3 rfl) (λb hb=>?_);subst hb;refine Q5 (λh=>by cases h) (λ_=>?_);have e14:(e.Register==14)=false:=by simp;omega
  have e15:(e.Register==15)=false:=by simp;omega
  rw [e14,e15];exact Q3 rfl
 subst hn;refine Q5 (λh=>by cases h) (λ_=>?_);refine Q1 (P:=λr=>r=.inr ()) ?_ (λr hr=>?_)
 ·refine Qt (λs=>s=0∨s=1∨s=2) (λs=>2 - s.toNat) (λs hs=>?_) (.inl rfl) (by simp);unfold jD;refine Q5 (λh=>?_) (λh=>Q3 rfl);rcases hs with rfl | rfl | rfl
  ·refine Q1 (P:=λd=>d=e.Digests.getD 0 []) (Q6 i0 rfl) (λd hd=>?_);refine Q1 (P:=λb=>b=false) ?_ (λb hb=>?_)
   ·refine Q1 (P:=λb=>b=xY active 0) (Q6 a0 rfl) (λb hb=>?_);subst hb;refine Q5 (λh=>Q3 ?_) (λ_=>Q3 rfl);have hh:xY active 0=false:=by simpa using h
    rw [if_neg (by show ¬ (e.Kind≠5/\xY active 0=true);rw [hh];simp)] at f0;rw [decide_eq_false_iff_not,hd];omega
   subst hb;exact Q3 ⟨.inr (.inl rfl),by decide⟩
  ·refine Q1 (P:=λd=>d=e.Digests.getD 1 []) (Q6 i1 rfl) (λd hd=>?_);refine Q1 (P:=λb=>b=false) ?_ (λb hb=>?_)
   ·refine Q1 (P:=λb=>b=xY active 1) (Q6 a1 rfl) (λb hb=>?_);subst hb;refine Q5 (λh=>Q3 ?_) (λ_=>Q3 rfl);have hh:xY active 1=false:=by simpa using h
    rw [if_neg (by show ¬ (e.Kind≠5/\xY active 1=true);rw [hh];simp)] at f1;rw [decide_eq_false_iff_not,hd];omega
   subst hb;exact Q3 ⟨.inr (.inr rfl),by decide⟩
  ·have:=dT h;omega
 subst hr;refine Q1 (P:=λr=>r=.inr ()) ?_ (λr hr=>?_)
 ·refine Qt (λs=>s=0∨s=1∨s=2) (λs=>2 - s.toNat) (λs hs=>?_) (.inl rfl) (by simp);unfold jB;refine Q5 (λh=>?_) (λh=>Q3 rfl);rcases hs with rfl | rfl | rfl
  ·refine Q1 (P:=λd=>d=e.Digests.getD 0 []) (Q6 i0 rfl) (λd hd=>?_);refine Q1 (P:=λb=>b=false) ?_ (λb hb=>?_)
   ·refine Q1 (P:=λb=>b=xY active 0) (Q6 a0 rfl) (λb hb=>?_);subst hb;refine Q5 (λh=>?_) (λ_=>Q3 rfl);refine Q1 (P:=λd=>d=siz 0) (Q6 (dJ 0) rfl) (λz hz=>Q3 ?_);rw [if_pos ⟨hk,h⟩] at f0;rw [hd,hz];simp;exact f0
   subst hb;exact Q3 ⟨.inr (.inl rfl),by decide⟩
  ·refine Q1 (P:=λd=>d=e.Digests.getD 1 []) (Q6 i1 rfl) (λd hd=>?_);refine Q1 (P:=λb=>b=false) ?_ (λb hb=>?_)
   ·refine Q1 (P:=λb=>b=xY active 1) (Q6 a1 rfl) (λb hb=>?_);subst hb;refine Q5 (λh=>?_) (λ_=>Q3 rfl);refine Q1 (P:=λd=>d=siz 1) (Q6 (dJ 1) rfl) (λz hz=>Q3 ?_);rw [if_pos ⟨hk,h⟩] at f1;rw [hd,hz];simp;exact f1
   subst hb;exact Q3 ⟨.inr (.inr rfl),by decide⟩
  ·have:=dT h;omega
 subst hr;refine Q1 (P:=λx=>x=(b0,b1,u)) (Q6 (zR6 _ b0 b1 rfl l0' l1' m0 m1) rfl) (λx hx=>?_);subst hx;obtain ⟨rn,hrn⟩:=Ql r0;have one:∀ (a:Nat) (bk:List By) (f:By->By) (hbk:idx [b0,b1] (a:Int)=some bk) (h2:a<2) (h16:bk.length=16) (mm:∀ x∈bk,x.length<=32) (hf:∀ z,z.length<2 ^ 40->xQ (a:Int) z=some (f z)),
   Def ((idx [b0,b1] (a:Int)).bind λv=>(idx v e.Register).bind λw=>(yM 1 [] w).bind λw'=>(idx e.Digests (a:Int)).bind λd=>(yM 1 w' d).bind λz=>(xQ (a:Int) z).bind λs=>(ixN bk.length e.Register).bind λj=>(uX bk j s).bind λl=>some l)
    (λb=>b=upR true bk e.Register (λx=>f (x++e.Digests.getD a []))):=by
  intro a bk f hbk h2 h16 mm hf;rw [hrn];refine Q1 (P:=λv=>v=bk) (Q6 hbk rfl) (λv hv=>?_);subst hv;have:=zOi mm rn;refine Q1 (P:=λx=>x=v.getD rn []) (Q6 (zKn (by omega)) rfl) (λx hx=>?_);subst hx;refine Q1 (Qo (by simp only [Qe];omega)) (λy hy=>?_);rw [Qu] at hy;subst hy;have:=zOi g0 a;refine Q1 (P:=λd=>d=e.Digests.getD a []) (Q6 (zKn (by omega)) rfl) (λd hd=>?_);subst hd;refine Q1 (Qo (by omega)) (λz hz=>?_);have hzl:z.length<2 ^ 40:=by rw [hz,Q0];omega
  refine Q1 (P:=λs=>s=f z) (Q6 (hf z hzl) rfl) (λs hs=>?_);refine Q1 (Def.ixN (by omega) (by omega)) (λj hj=>?_);refine Q1 (Def.upd hj.2) (λq hq=>Q3 ?_);rw [hq,hj.1,hs,hz];rfl
 refine Q1 (P:=λb=>b=upR (xY active 0) b0 e.Register (λx=>gX (x++e.Digests.getD 0 []))) ?_ (λc0 hc0=>?_)
 ·refine Q1 (P:=λb=>b=xY active 0) (Q6 a0 rfl) (λb hb=>?_);subst hb;refine Q5 (λh=>?_) (λh=>Q3 (by rw [h];rfl));rw [if_pos h] at l0;rw [h];exact one 0 b0 gX rfl (by omega) l0 m0 zKw
 refine Q1 (P:=λb=>b=upR (xY active 1) b1 e.Register (λx=>sha (x++e.Digests.getD 1 []))) ?_ (λc1 hc1=>?_)
 ·refine Q1 (P:=λb=>b=xY active 1) (Q6 a1 rfl) (λb hb=>?_);subst hb;refine Q5 (λh=>?_) (λh=>Q3 (by rw [h];rfl));rw [if_pos h] at l1;rw [h];exact one 1 b1 sha rfl (by omega) l1 m1 zKe
 exact Q3 (by rw [hc0,hc1];rfl)
set_option maxRecDepth 100000
theorem zL6 (on:Bool) (active:Int) (data:By) (hd:data.length<2 ^ 40) (step:(Int×List By)->Option ((Int×List By) ⊕ List By))
  (h0:∀ v,step (0,v)=((bif (on&&xY active 0) then ((xQ 0 data).bind λs=>(ixN 2 0).bind λj=>(uX v j s).bind λw=>some w) else some v:Option (List By)).bind λw=>some (.inl (1,w))))
  (h1:∀ v,step (1,v)=((bif (on&&xY active 1) then ((xQ 1 data).bind λs=>(ixN 2 1).bind λj=>(uX v j s).bind λw=>some w) else some v:Option (List By)).bind λw=>some (.inl (2,w))))
  (h2:∀ v,step (2,v)=some (.inr v)):zM step FU (0,[[],[]])=some (dgE active on data):=by
 unfold dgE;refine two (b:=(1,[if (on&&xY active 0)=true then gX data else [],[]])) (c:=(2,[if (on&&xY active 0)=true then gX data else [],if (on&&xY active 1)=true then sha data else []])) ?_ ?_ (h2 _)
 ·rw [h0];refine bd (a:=[if (on&&xY active 0)=true then gX data else [],[]]) ?_ rfl;refine (zJi (a:=0) rfl (by omega) (zKw data hd)).trans ?_;cases (on&&xY active 0)<;>rfl
 ·rw [h1];refine bd (a:=[if (on&&xY active 0)=true then gX data else [],if (on&&xY active 1)=true then sha data else []]) ?_ rfl;refine (zJi (a:=1) rfl (by omega) (zKe data hd)).trans ?_;cases (on&&xY active 1)<;>rfl
theorem zC0 {α:Type} {a:Bool} {x:Option Bool} {f:Bool->Option α} {r:Option α} (hx:x=some b) (h:f (a&&b)=r):(bif a then x else some false).bind f=r:=by
 cases a
 ·exact h
 ·subst hx;exact h
theorem zGj (reg kind active:Int) (data:By) (hd:data.length<2 ^ 40):sC reg kind active data=some (mkE reg kind active data):=by
 unfold sC mkE;refine bd (a:=data) (by unfold bytes_Clone;exact ct (zGw (by omega)) rfl) ?_;refine bd (zL6 (kind != 5) active data hd _ (λv=>?_) (λv=>?_) (λv=>?_)) (bd (ckT rfl) rfl)
 ·unfold lN;refine ct rfl ?_;refine congrArg (λo:Option (List By)=>o.bind _) ?_;exact zC0 (bd (ckT rfl) rfl) rfl
 ·unfold lN;refine ct rfl ?_;refine congrArg (λo:Option (List By)=>o.bind _) ?_;exact zC0 (bd (ckT rfl) rfl) rfl
 ·unfold lN;exact cf rfl rfl
theorem zLm (x:zD) (active:Int) (h:fY x):lS x active=some (dgE active true (qJ x)):=by
 have hl:=zK4 x;unfold lS;refine bd (zUv h) ?_;have hp:decide (0<((qJ x).length:Int))=true:=by simp;omega
 refine bd (zL6 true active (qJ x) (by omega) _ (λv=>?_) (λv=>?_) (λv=>?_)) (bd (ckT rfl) rfl)
 ·unfold pG;refine ct rfl ?_;refine congrArg (λo:Option (List By)=>o.bind _) ?_;rw [hp];exact zC0 (bd (ckT rfl) rfl) rfl
 ·unfold pG;refine ct rfl ?_;refine congrArg (λo:Option (List By)=>o.bind _) ?_;rw [hp];exact zC0 (bd (ckT rfl) rfl) rfl
 ·unfold pG;exact cf rfl rfl
theorem zUs {r:Int} (h1:1<=r) (h4:r<=4):r=1∨r=2∨r=3∨r=4:=by omega
theorem zQv {r:Int} (h1:1<=r) (h4:r<=4):vH r=some (rgR r):=by
 rcases zUs h1 h4 with rfl | rfl | rfl | rfl<;>rfl
theorem aA (x:zD) (active:Int) (h:fY x) (h4:x.Role≠4):uP x active=some (imE active x):=by
 obtain ⟨a1,a2,a3,a4,a5,a6⟩:=h.f;have hd:=zG8 20 x.Version.toNat;unfold uP imE lbl;refine bd (a:=false) (bd ((iH x).trans h) (cf rfl (congrArg some (by rw [beq_eq_false_iff_ne];exact h4)))) (cf rfl ?_);refine bd (zQv a1 a2) (bd (zLm x active h) (bd (ckT (zGw (by simp;omega))) ?_));refine bd (a:=decF 20 x.Version.toNat) (by unfold strconv_Itoa;exact ct (by simp;omega) rfl) ?_;refine bd (ckT (zGw (by simp only [Q0,Q4,Qe];omega))) (bd (ckT (zGw (by simp only [Q0,Q4,Qe];omega))) rfl)
theorem zG6 (hi:i<l.length):evR active role (l.take (i+1))=evR active role (l.take i)++(if l[i].Role=role then (if role=4 then (zHr l[i]).map (mkE 9 3 active) else [imE active l[i]]) else []):=by
 unfold evR;rw [Qa,Qh];simp [hi]
theorem rP (hi:i<l.length) (h:l[i].Role≠role):evR active role (l.take (i+1))=evR active role (l.take i):=by
 rw [zG6 hi,if_neg h,Qb]
theorem zJs (hi:i<l.length) (h:l[i].Role=role) (h4:role≠4):evR active role (l.take (i+1))=evR active role (l.take i)++[imE active l[i]]:=by
 rw [zG6 hi,if_pos h,if_neg h4]
theorem zTj (hi:i<l.length) (h:l[i].Role=4):evR active 4 (l.take (i+1))=evR active 4 (l.take i)++(zHr l[i]).map (mkE 9 3 active):=by
 rw [zG6 hi,if_pos h,if_pos rfl]
theorem zM2 (active:Int) (x:zD) (hx:x.Role=4) (L:List By) (hl:L.length<=4) (h8:∀ l∈L,l.length<=8) (a b c d e:List zB) (he:e.length<=100) :
  zM (qF active x L) FU (0,a,b,c,d,e)=some (a,b,c,d,e++L.map (mkE 9 3 active)):=by
 refine yJ L.length (λi=>((i:Int),a,b,c,d,e++(L.map (mkE 9 3 active)).take i)) (by simp) (λi hi=>?_) ?_ (xT (by omega))
 ·have:=h8 _ (Q9 hi);have hreg:vH x.Role=some 9:=by rw [hx];rfl
  unfold qF;refine ct (dlt hi) (bd (yQ hi) ?_);refine bd (a:=(a,b,c,d,e++(L.map (mkE 9 3 active)).take (i+1))) (cf (by rw [hx];rfl) (cf (by rw [hx];rfl) (cf (by rw [hx];rfl) (cf (by rw [hx];rfl) (ct (by rw [hx];rfl) ?_))))) (by rw [wO (by omega)]);refine bd hreg (bd (zGj _ 3 active _ (by omega)) (bd (yI (by simp;omega)) ?_));rw [Qa,Q2];simp [hi]
 ·unfold qF;refine cf (dge (Qd _)) ?_;rw [Qf (by simp)]
theorem zP4 (active:Int) (out:List zB) (h:out.length<=100):zM (qE active) FU (out,0)=some (out++zHi active):=by
 refine yJ 8 (λi=>(out++(zHi active).take i,(i:Int))) (by simp) (λi hi=>?_) ?_ (xT (by decide))
 ·unfold qE;refine ct (by simp;omega) ?_;refine bd (a:=4) rfl ?_;refine bd (zGj _ 2 active _ (by decide)) ?_;refine bd (yI (by simp [zHi];omega)) ?_;rw [wO (by omega),Qa,Q2];have:(zHi active)[i]? = some (mkE (i:Int) 2 active [0,0,0,0]):=by simp [zHi,hi]
  rw [this];rfl
 ·unfold qE;refine cf rfl ?_;rw [Qf (by rw [zGy];omega)]
theorem zLs (l:List zD) (active:Int) (hl:l.length<=8) (him:∀ x∈l,oH x):zM (rZ l active) FU (0,[],[],[],[],[])=some ([],evR active 1 l,evR active 2 l,evR active 3 l,evR active 4 l):=by
 refine yJ l.length (λi=>((i:Int),[],evR active 1 (l.take i),evR active 2 (l.take i),evR active 3 (l.take i),evR active 4 (l.take i))) (by simp [evR]) (λi hi=>?_) ?_ (xT (by omega))
 ·have hg:=him _ (Q9 hi);have hle:=λrole=>zT6 active role (l.take i) (λx hx=>him x (Qr hx));have hlt:(l.take i).length<=8:=by simp;omega
  have e1:=hle 1;have e2:=hle 2;have e3:=hle 3;have e4:=hle 4;have hw:Q8.wrap ((i:Int)+1)=((i+1:Nat):Int):=wO (by omega);unfold rZ;refine ct (dlt hi) ?_;rcases zUs hg.r1 hg.r4 with hr | hr | hr | hr
  ·rw [zJs hi hr (by decide),rP hi (show l[i].Role≠2 by omega),rP hi (show l[i].Role≠3 by omega),rP hi (show l[i].Role≠4 by omega)];refine bd (bd (yQ hi) (ct (by rw [hr];rfl) (bd (cf (by rw [hr];rfl) (ct (by rw [hr];rfl) (bd (aA _ active hg.ok (by omega)) (bd (yI (by simp only [Qp];omega)) rfl)))) rfl))) (by rw [hw])
  ·rw [zJs hi hr (by decide),rP hi (show l[i].Role≠1 by omega),rP hi (show l[i].Role≠3 by omega),rP hi (show l[i].Role≠4 by omega)];refine bd (bd (yQ hi) (ct (by rw [hr];rfl) (bd (cf (by rw [hr];rfl) (cf (by rw [hr];rfl) (ct (by rw [hr];rfl) (bd (aA _ active hg.ok (by omega)) (bd (yI (by simp only [Qp];omega)) rfl))))) rfl))) (by rw [hw])
  ·rw [zJs hi hr (by decide),rP hi (show l[i].Role≠1 by omega),rP hi (show l[i].Role≠2 by omega),rP hi (show l[i].Role≠4 by omega)];refine bd (bd (yQ hi) (ct (by rw [hr];rfl) (bd (cf (by rw [hr];rfl) (cf (by rw [hr];rfl) (cf (by rw [hr];rfl) (ct (by rw [hr];rfl) (bd (aA _ active hg.ok (by omega)) (bd (yI (by simp only [Qp];omega)) rfl)))))) rfl))) (by rw [hw])
  ·rw [zTj hi hr,rP hi (show l[i].Role≠1 by omega),rP hi (show l[i].Role≠2 by omega),rP hi (show l[i].Role≠3 by omega)];obtain ⟨q1,q2,q3⟩:=zMh _ hg hr;have hp:=hg.p;have q4:=(zGp l[i] (by omega)).trans q1;refine bd (bd (yQ hi) (cf (by rw [hr];rfl) (bd q4 (bd (zM2 active l[i] hr _ q2 (λl hl=>(q3 l hl).2.1) _ _ _ _ _ (by omega)) rfl)))) (by rw [hw])
 ·unfold rZ;refine cf (dge (Qd _)) ?_;simp
theorem zMn (l:List zD) (active:Int) (h:hU l) (h1:1<=active) (h3:active<=3):tA l active=some (evs l active):=by
 have hl:=h.len;have hb:=zN5 active l h.im;have hsl:=zGy active;unfold tA;refine bd (a:=false) (cf (by simp;omega) (cf (by simp;omega) (bd h.ok.p rfl))) (cf rfl ?_);refine bd (zLs l active hl h.im) ?_;refine bd (yI (by omega)) (bd (zP4 active _ (by rw [Q0];omega)) (bd (yI (by simp only [Q0];omega)) (bd (yI (by simp only [Q0];omega)) ?_)));unfold evs;simp only [Q2]
theorem zEe (active:Int):tA [] active=some []:=by
 unfold tA;refine bd (a:=true) ?_ (ct rfl rfl);cases decide (active<1)<;>cases decide (3<active)<;>rfl
set_option maxRecDepth 100000
theorem wUO:hH=xW:=rfl
theorem wBO:cH=wI:=rfl
structure zFu (c:Int) (is:List Int) (bs:List By):Prop where
 sh:rV c=some (0,0,(is.length:Int),(bs.length:Int),true)
 c0:0<=c
 c1:c<256
 il:is.length<=2
 bl':bs.length<=2
 i:∀ x∈is,0<=x/\x<=1099511627776
 b:∀ x∈bs,x.length<=32
def rq (c:Int) (is:List Int) (bs:List By):yA:=yA.mk c [] [] is bs
def rqB (c:Int) (is:List Int) (bs:List By):By:=u8 c :: (is.flatMap (λn=>beN n 8 8)++(u8 (bs.length:Int) :: bs.flatMap bl))
def rqW (c:Int) (is:List Int) (bs:List By):By:=[83,87]++(beN ((4+(rqB c is bs).length:Nat):Int) 2 2++rqB c is bs)
theorem zCr (is:List Int):(is.flatMap (λn=>beN n 8 8)).length=8*is.length:=by
 induction is with
 | nil=>rfl
 | cons x l ih=>simp only [Qc,Q0,xE,Q4,ih];omega
theorem zIj (bs:List By) (h:∀ x∈bs,x.length<=32):(bs.flatMap bl).length<=34*bs.length:=by
 induction bs with
 | nil=>simp
 | cons x l ih=>
  have h1:=h x (by simp);have h2:=ih λy hy=>h y (by simp [hy]);simp only [Qc,Q0,uZ,Q4];omega
theorem zFn (h:zFu c is bs):2<=(rqB c is bs).length/\(rqB c is bs).length<=100:=by
 have h1:=zCr is;have h2:=zIj bs h.b;have h3:=h.il;have h4:=h.bl';unfold rqB;simp only [Q4,Q0];omega
theorem zJc (h:zFu c is bs):(rqW c is bs).length=4+(rqB c is bs).length:=by
 unfold rqW;simp only [Q0,xE,Q4,Qe];omega
theorem zQ8 (hi:i<bs.length):(bs.take (i+1)).flatMap bl=(bs.take i).flatMap bl++bl bs[i]:=by
 rw [Qa,Qh];simp [hi]
theorem zSg (hi:i<is.length):(is.take (i+1)).flatMap (λn=>beN n 8 8)=(is.take i).flatMap (λn=>beN n 8 8)++beN is[i] 8 8:=by
 rw [Qa,Qh];simp [hi]
theorem wrt (h:zFu c is bs):oJ (rq c is bs)=some (rqW c is bs):=by
 have hB:=zFn h;have hil:=h.il;have hbl:=h.bl';unfold oJ;refine bd (ckT rfl) ?_;refine bd (a:=[83,87]) rfl ?_;refine bd (a:=[83,87,0,0,u8 c]) rfl ?_;refine bd (a:=[83,87,0,0,u8 c]) (tD (by unfold eS;exact cf rfl rfl)) ?_;refine bd (a:=[83,87,0,0,u8 c]) (tD (by unfold dA;exact cf rfl rfl)) ?_;refine bd (a:=[83,87,0,0,u8 c]++is.flatMap (λn=>beN n 8 8)) ?_ ?_
 ·refine yJ is.length (λi=>([83,87,0,0,u8 c]++(is.take i).flatMap (λn=>beN n 8 8),(i:Int))) (by simp) (λi hi=>?_) ?_ (xT (by omega))
  ·unfold lB;refine ct (dlt hi) (bd (yQ hi) ?_);rw [wUO];refine bd (wU _ 8 _ (by omega) (by omega) ?_) ?_
   ·rw [Q0,zCr];simp;omega
   ·rw [zSg hi,Q2,wO (by omega)]
  ·unfold lB;refine cf (dge (Qd _)) ?_;rw [Qg]
 refine bd (yI (by rw [Q0,zCr];simp;omega)) ?_;refine bd (a:=(([83,87,0,0,u8 c]++is.flatMap (λn=>beN n 8 8))++[u8 (bs.length:Int)])++bs.flatMap bl) ?_ ?_
 ·refine yJ bs.length (λi=>((([83,87,0,0,u8 c]++is.flatMap (λn=>beN n 8 8))++[u8 (bs.length:Int)])++(bs.take i).flatMap bl,(i:Int))) (by simp;rfl) (λi hi=>?_) ?_ (xT (by omega))
  ·have hx:=h.b _ (Q9 hi);have ht:=zIj (bs.take i) λx hx=>h.b x (Qr hx);have ht2:(bs.take i).length<=2:=by simp;omega
   unfold mY;refine ct (dlt hi) (bd (yQ hi) ?_);rw [wBO];refine bd (wB _ _ ?_ (by omega)) ?_
   ·simp only [Q0,zCr,Q4,Qe];omega
   ·rw [zQ8 hi,Q2,wO (by omega)]
  ·unfold mY;refine cf (dge (Qd _)) ?_;rw [Qg]
 have e:(([83,87,0,0,u8 c]++is.flatMap (λn=>beN n 8 8))++[u8 (bs.length:Int)])++bs.flatMap bl=[83,87,0,0]++rqB c is bs:=by
  unfold rqB;simp
 rw [e];have el:(([83,87,0,0]:By)++rqB c is bs).length=4+(rqB c is bs).length:=by simp;omega
 refine bd (ckT (zGw (by omega))) ?_;refine bd (wU [] 2 _ (by omega) (by omega) (by simp)) ?_;refine bd (ckT (zGw (by omega))) ?_;rw [el];unfold rqW cpA;obtain ⟨a,b,hab⟩:∃ a b,beN ((4+(rqB c is bs).length:Nat):Int) 2 2=[a,b]:=⟨_,_,rfl⟩;rw [hab];rfl
theorem chk (h:zFu c is bs):oK (rq c is bs)=some 0:=by
 have hB:=zFn h;have hil:=h.il;have hbl:=h.bl';unfold oK;refine bd h.sh (cf rfl ?_);refine bd (a:=true) (ct rfl (ct rfl (ct (by simp [rq]) (bd (a:=true) ?_ rfl)))) ?_
 ·unfold rO;exact bd (ct (by simp [rq]) rfl) rfl
 refine bd (a:=true) (tD (by unfold eK;exact cf rfl rfl)) ?_;refine bd (a:=true) (tD (by unfold dB;exact cf rfl rfl)) ?_;refine bd (a:=true) ?_ (cf rfl ?_)
 ·refine yJ is.length (λi=>(true,(i:Int))) rfl (λi hi=>?_) ?_ (xT (by omega))
  ·have hx:=h.i _ (Q9 hi);unfold lE;refine ct (dlt hi) (bd (yQ hi) ?_);refine bd (a:=true) (ct rfl (ct (by simp;exact hx.1) (congrArg some (by simp;exact hx.2)))) ?_;rw [wO (by omega)]
  ·unfold lE;exact cf (dge (Qd _)) rfl
 refine bd (a:=true) (tD (by unfold dD;exact cf rfl rfl)) ?_;refine bd (a:=true) ?_ ?_
 ·refine yJ bs.length (λi=>(true,(i:Int))) rfl (λi hi=>?_) ?_ (xT (by omega))
  ·have hx:=h.b _ (Q9 hi);unfold mW;refine ct (dlt hi) (bd (yQ hi) ?_);refine bd (a:=true) (ct rfl (congrArg some (by simp;omega))) ?_;rw [wO (by omega)]
  ·unfold mW;exact cf (dge (Qd _)) rfl
 have hw:=zJc h;exact bd (a:=false) (cf rfl (bd (wrt h) (congrArg some (by simp;omega)))) (cf rfl rfl)
theorem yB9 (h:zFu c is bs):nU (rq c is bs)=some (rqW c is bs,0):=by
 unfold nU;exact bd (chk h) (cf rfl (bd (wrt h) rfl))
theorem zW8 (h:zFu c is bs):lT (rqW c is bs)=some (c,0):=by
 have hB:=zFn h;have hw:=zJc h;obtain ⟨a,b,hab,hv⟩:=be2 (4+(rqB c is bs).length) (by omega);obtain ⟨t,ht⟩:∃ t,rqB c is bs=u8 c :: t:=⟨_,rfl⟩;have e:rqW c is bs=83 :: 87 :: a :: b :: u8 c :: t:=by unfold rqW;rw [hab,ht];rfl
 unfold lT;refine cf (by simp;omega) (cf (by simp;omega) ?_);rw [e];refine bd (a:=false) rfl (cf rfl ?_);refine bd (a:=a) rfl (bd (a:=b) rfl (ltk ?_));have hl2:((83 :: 87 :: a :: b :: u8 c :: t:By)).length=4+(rqB c is bs).length:=by rw [<- e];exact hw
 rw [zUh,<- hv,hl2];refine cf (by simp) (cf (by simp) ?_);refine bd (a:=u8 c) rfl ?_;have h0:=h.c0;have h1:=h.c1;rw [zUj c h0 h1,yP (by omega) (by omega)]
theorem yCm (h:zFu c is bs):nY (rqW c is bs)=some (rq c is bs,0):=by
 have hB:=zFn h;have hw:=zJc h;have hil:=h.il;have hbl:=h.bl';unfold nY;refine bd (zW8 h) (cf rfl (bd h.sh (cf rfl ?_)));let body:=is.flatMap (λn=>beN n 8 8)++(u8 (bs.length:Int) :: bs.flatMap bl);have e:(rqW c is bs).drop 5=body:=by
  unfold rqW rqB;obtain ⟨a,b,hab⟩:∃ a b,beN ((4+(u8 c :: (is.flatMap (λn=>beN n 8 8)++(u8 (bs.length:Int) :: bs.flatMap bl))).length:Nat):Int) 2 2=[a,b]:=⟨_,_,rfl⟩;rw [hab];rfl
 have hsub:sub (rqW c is bs) 5 ((rqW c is bs).length:Int)=some body:=by
  have:=tH (l:=rqW c is bs) (a:=5) (b:=(rqW c is bs).length) (by omega) (Qd _);rw [Qf (by simp),e] at this;exact this
 have hbody:body.length<2 ^ 40:=by rw [<- e,List.length_drop];omega
 refine bd hsub ?_;obtain ⟨r,g,e1⟩:=zKx body hbody;refine bd e1 ?_;refine bd (a:=([],r.W.b_,r.W.at_,r.W.e_)) (tD (by unfold fS;exact cf rfl rfl)) ?_;refine bd (a:=([],r.W.b_,r.W.at_,r.W.e_)) (tD (by unfold fD;exact cf rfl rfl)) ?_;have l3:∀ (m acc:List Int) (v:Int) (r:RS) (fuel:Nat) (rest:By),m.length<fuel->Rd r (m.flatMap (λn=>beN n 8 8)++rest)->(∀ x∈m,0<=x/\x<=1099511627776)->0<=v->v+m.length=(is.length:Int)->acc.length<=2->(acc.length:Int)+m.length<=2 ->
   ∃ r',Rd r' rest/\zM (uD (is.length:Int)) fuel (v,acc,r.W.b_,r.W.at_,r.W.e_)=some (.inr (acc++m,r'.W.b_,r'.W.at_,r'.W.e_)):=by
  intro m;induction m with
  | nil=>
   intro acc v r fuel rest hf g _ hv0 hv _ _;obtain ⟨f,rfl⟩:∃ f,fuel=f+1:=⟨fuel - 1,by simp at hf;omega⟩;refine ⟨r,g,?_⟩;simp only [zM];have:uD (is.length:Int) (v,acc,r.W.b_,r.W.at_,r.W.e_)=some (.inr (.inr (acc,r.W.b_,r.W.at_,r.W.e_))):=by
    unfold uD;exact cf (by simp at hv ⊢;omega) rfl
   rw [this,Qb]
  | cons x m ih=>
   intro acc v r fuel rest hf g hm hv0 hv ha hb;obtain ⟨f,rfl⟩:∃ f,fuel=f+1:=⟨fuel - 1,by simp at hf;omega⟩;simp only [Q4] at hf hv hb;have hx:=hm x (by simp);have g':Rd r (beN x 8 8++(m.flatMap (λn=>beN n 8 8)++rest)):=g.cast (by simp);obtain ⟨r1,g1,e1⟩:=rdU (k:=8) g' (by omega) (by omega) hx.1 (by omega) (by omega);obtain ⟨r2,g2,e2⟩:=ih (acc++[x]) (v+1) r1 f rest (by omega) g1 (λy hy=>hm y (by simp [hy])) (by omega) (by omega) (by simp;omega) (by simp;omega);refine ⟨r2,g2,?_⟩;simp only [zM];have:uD (is.length:Int) (v,acc,r.W.b_,r.W.at_,r.W.e_)=some (.inl (v+1,acc++[x],r1.W.b_,r1.W.at_,r1.W.e_)):=by
    unfold uD;refine ct (by simp;omega) (bd e1 ?_);refine bd (a:=(false,r1.W.b_,r1.W.at_,r1.W.e_)) (bd (zMd g1) (ct rfl ?_)) (cf rfl ?_)
    ·rw [show decide (1099511627776<x)=false by simp;omega]
    ·refine bd (yI (by simp;omega)) ?_;rw [yP (by omega) (by omega)]
   rw [this];simp only;rw [e2,Q2];rfl
 obtain ⟨r1,g1,e2⟩:=l3 is [] 0 r FU (u8 (bs.length:Int) :: bs.flatMap bl) (xT (by omega)) g h.i (by omega) (by omega) (by simp) (by simp;omega);refine bd e2 ?_;obtain ⟨r2,g2,e3⟩:=rdBt g1 (by omega) (by omega);refine bd e3 ?_;refine bd (a:=(false,r2.W.b_,r2.W.at_,r2.W.e_)) (bd (zMd g2) (ct rfl (bd (a:=true) ?_ rfl))) (cf rfl ?_)
 ·unfold rO;exact bd (ct (by simp) rfl) rfl
 have l4:∀ (m acc:List By) (v:Int) (r:RS) (fuel:Nat),m.length<fuel->Rd r (m.flatMap bl)->(∀ x∈m,x.length<=32)->0<=v->v+m.length=(bs.length:Int)->acc.length<=2->(acc.length:Int)+m.length<=2 ->
   ∃ r',Rd r' []/\zM (uB (bs.length:Int)) fuel (v,acc,r.W.b_,r.W.at_,r.W.e_)=some (acc++m,r'.W.b_,r'.W.at_,r'.W.e_):=by
  intro m;induction m with
  | nil=>
   intro acc v r fuel hf g _ hv0 hv _ _;obtain ⟨f,rfl⟩:∃ f,fuel=f+1:=⟨fuel - 1,by simp at hf;omega⟩;refine ⟨r,g,?_⟩;simp only [zM];have:uB (bs.length:Int) (v,acc,r.W.b_,r.W.at_,r.W.e_)=some (.inr (acc,r.W.b_,r.W.at_,r.W.e_)):=by
    unfold uB;exact cf (by simp at hv ⊢;omega) rfl
   rw [this,Qb]
  | cons x m ih=>
   intro acc v r fuel hf g hm hv0 hv ha hb;obtain ⟨f,rfl⟩:∃ f,fuel=f+1:=⟨fuel - 1,by simp at hf;omega⟩;simp only [Q4] at hf hv hb;have hx:=hm x (by simp);have g':Rd r (bl x++m.flatMap bl):=g.cast (by simp);obtain ⟨r1,g1,e1⟩:=zR0 (k:=1024) g' (by omega) (by omega);obtain ⟨r2,g2,e2⟩:=ih (acc++[x]) (v+1) r1 f (by omega) g1 (λy hy=>hm y (by simp [hy])) (by omega) (by omega) (by simp;omega) (by simp;omega);refine ⟨r2,g2,?_⟩;simp only [zM];have:uB (bs.length:Int) (v,acc,r.W.b_,r.W.at_,r.W.e_)=some (.inl (v+1,acc++[x],r1.W.b_,r1.W.at_,r1.W.e_)):=by
    unfold uB;refine ct (by simp;omega) (bd e1 (bd (yI (by simp;omega)) ?_));rw [yP (by omega) (by omega)]
   rw [this];simp only;rw [e2,Q2];rfl
 obtain ⟨r3,g3,e4⟩:=l4 bs [] 0 r2 FU (xT (by omega)) g2 h.b (by omega) (by omega) (by simp) (by simp;omega);refine bd e4 ?_;exact bd (rdE g3) (cf rfl rfl)
end Go.Proofs.TT
