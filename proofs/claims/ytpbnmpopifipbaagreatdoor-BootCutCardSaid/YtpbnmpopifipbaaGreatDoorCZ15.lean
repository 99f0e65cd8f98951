/- what a loss of power at a start leaves -/
import Derived.Test.YtpbnmpopifipbaaGreatDoorCZ14
set_option linter.all false
open List renaming length_append -> Q0, take_of_length_le -> Q2, getElem_mem -> Q3, append_assoc -> Q4, length_cons -> Q5, length_take -> Q7, take_add_one -> Qa, take_length -> Qb, append_nil -> Qc, mem_of_mem_take -> Qe, mem_singleton -> Qf, take_append_of_le_length -> Qg, length_singleton -> Qh, length_nil -> Qj, nil_append -> Qk, flatMap_append -> Ql, length_drop -> Qm, mem_cons -> Qn, flatMap_cons -> Qo, not_mem_nil -> Qp, mem_append -> Qs, drop_zero -> Qt, mem_map -> Qu
open Go.Sw.Def renaming bd -> Q1, s -> Q6, of -> Qd, c -> Qi
open Nat renaming le_refl -> Q8, min_le_right -> Qq, mod_lt -> Qr
open Go.IntKind renaming i64 -> Q9
namespace Go.Proofs.TT
open Go Go.Sw
set_option maxRecDepth 100000
variable {a:Nat}{active:Int}{b:By}{bs:List By}{c:Int}{d d':zC}{e:zB}{es:List zB}{i:Nat}{is:List Int}{l:List zD}{m:Nat}{out:By}{r:zE}{role:Int}{s seq:Nat}{st st':zQ}{vo vo':yB}{x:zB}{y:By}{z:zC}{α:Type}
theorem zLf (b:By) (hb:b.length<2 ^ 40):xT ((0:Nat):Int) b=some (lZ b):=zRs b hb
theorem zMa (b:By) (hb:b.length<2 ^ 40):xT ((1:Nat):Int) b=some (sha b):=zJ7 b hb
theorem zM8 (r:zE) (active:Int) (e:zB) (hr:zFy active r) (he:EvGood e active) (hk:e.Kind≠5):Def (oC r 0 e.Register e.Digests) (λx=>x=(ext active e r,0)):=by
 obtain ⟨⟨b0,b1,hb,l0,l1,m0,m1⟩⟩:=hr;obtain ⟨r0,r1,_,dl,f0,f1⟩:=he;obtain ⟨bs,u⟩:=r;simp only at hb;subst hb;have l0':b0.length<=16:=by rw [l0];split<;>omega
 have l1':b1.length<=16:=by rw [l1];split<;>omega
 unfold Fit at f0 f1;have f0':((e.Digests.getD 0 []).length:Int)<=32:=by rw [f0];split<;>decide
 have f1':((e.Digests.getD 1 []).length:Int)<=32:=by rw [f1];split<;>decide
 have g0:∀ d∈e.Digests,d.length<=32:=by
  intro d hd;obtain ⟨i,hi,rfl⟩:=List.mem_iff_getElem.mp hd;have hi2:i=0∨i=1:=by omega
  rcases hi2 with rfl | rfl
  ·have:(e.Digests.getD 0 [])=e.Digests[0]:=by simp [hi]
   rw [<- this];omega
  ·have:(e.Digests.getD 1 [])=e.Digests[1]:=by simp [hi]
   rw [<- this];omega
 have i0:idx e.Digests 0=some (e.Digests.getD 0 []):=zMk (i:=0) (by omega);have i1:idx e.Digests 1=some (e.Digests.getD 1 []):=zMk (i:=1) (by omega);obtain ⟨a0,a1⟩:=yAn b0 b1 u (xH active 0) (xH active 1) (by rw [l0];cases xH active 0<;>rfl) (by rw [l1];cases xH active 1<;>rfl);unfold oC;refine Q1 (P:=λb=>b=false) ?_ (λb hb=>?_)
 ·refine Qi (λh=>by cases h) (λ_=>Qi (λh=>by cases h) (λ_=>?_));refine Q1 (P:=λb=>b=true) ?_ (λb hb=>?_)
  ·unfold nM;refine Q1 (P:=λb=>b=true) ?_ (λb hb=>Q6 hb);refine Qi (λ_=>Q6 ?_) (λh=>?_)
   ·rw [decide_eq_true_iff];omega
   ·have:=dF h;omega
  subst hb;refine Qi (λh=>by cases h) (λ_=>Q6 ?_);simp;omega
 subst hb;refine Qi (λh=>by cases h) (λ_=>?_);refine Q1 (P:=λn=>n=0) ?_ (λn hn=>?_)
 ·unfold jU;refine Q1 (P:=λb=>b=false) (Q6 rfl) (λb hb=>?_);subst hb;refine Qi (λh=>by cases h) (λ_=>?_);have e14:(e.Register==14)=false:=by simp;omega
  have e15:(e.Register==15)=false:=by simp;omega
  rw [e14,e15];exact Q6 rfl
 subst hn;refine Qi (λh=>by cases h) (λ_=>?_);refine Q1 (P:=λr=>r=.inr ()) ?_ (λr hr=>?_)
 ·refine Def.loop (λs=>s=0∨s=1∨s=2) (λs=>2 - s.toNat) (λs hs=>?_) (.inl rfl) (by simp);unfold jW;refine Qi (λh=>?_) (λh=>Q6 rfl);rcases hs with rfl | rfl | rfl
  ·refine Q1 (P:=λd=>d=e.Digests.getD 0 []) (Qd i0 rfl) (λd hd=>?_);refine Q1 (P:=λb=>b=false) ?_ (λb hb=>?_)
   ·refine Q1 (P:=λb=>b=xH active 0) (Qd a0 rfl) (λb hb=>?_);subst hb;refine Qi (λh=>Q6 ?_) (λ_=>Q6 rfl);have hh:xH active 0=false:=by simpa using h
    rw [if_neg (by show ¬ (e.Kind≠5/\xH active 0=true);rw [hh];simp)] at f0;rw [decide_eq_false_iff_not,hd];omega
   subst hb;exact Q6 ⟨.inr (.inl rfl),by decide⟩
  ·refine Q1 (P:=λd=>d=e.Digests.getD 1 []) (Qd i1 rfl) (λd hd=>?_);refine Q1 (P:=λb=>b=false) ?_ (λb hb=>?_)
   ·refine Q1 (P:=λb=>b=xH active 1) (Qd a1 rfl) (λb hb=>?_);subst hb;refine Qi (λh=>Q6 ?_) (λ_=>Q6 rfl);have hh:xH active 1=false:=by simpa using h
    rw [if_neg (by show ¬ (e.Kind≠5/\xH active 1=true);rw [hh];simp)] at f1;rw [decide_eq_false_iff_not,hd];omega
   subst hb;exact Q6 ⟨.inr (.inr rfl),by decide⟩
  ·have:=dT h;omega
 subst hr;refine Q1 (P:=λr=>r=.inr ()) ?_ (λr hr=>?_)
 ·refine Def.loop (λs=>s=0∨s=1∨s=2) (λs=>2 - s.toNat) (λs hs=>?_) (.inl rfl) (by simp);unfold jX;refine Qi (λh=>?_) (λh=>Q6 rfl);rcases hs with rfl | rfl | rfl
  ·refine Q1 (P:=λd=>d=e.Digests.getD 0 []) (Qd i0 rfl) (λd hd=>?_);refine Q1 (P:=λb=>b=false) ?_ (λb hb=>?_)
   ·refine Q1 (P:=λb=>b=xH active 0) (Qd a0 rfl) (λb hb=>?_);subst hb;refine Qi (λh=>?_) (λ_=>Q6 rfl);refine Q1 (P:=λd=>d=siz 0) (Qd (jC 0) rfl) (λz hz=>Q6 ?_);rw [if_pos ⟨hk,h⟩] at f0;rw [hd,hz];simp;exact f0
   subst hb;exact Q6 ⟨.inr (.inl rfl),by decide⟩
  ·refine Q1 (P:=λd=>d=e.Digests.getD 1 []) (Qd i1 rfl) (λd hd=>?_);refine Q1 (P:=λb=>b=false) ?_ (λb hb=>?_)
   ·refine Q1 (P:=λb=>b=xH active 1) (Qd a1 rfl) (λb hb=>?_);subst hb;refine Qi (λh=>?_) (λ_=>Q6 rfl);refine Q1 (P:=λd=>d=siz 1) (Qd (jC 1) rfl) (λz hz=>Q6 ?_);rw [if_pos ⟨hk,h⟩] at f1;rw [hd,hz];simp;exact f1
   subst hb;exact Q6 ⟨.inr (.inr rfl),by decide⟩
  ·have:=dT h;omega
 subst hr;refine Q1 (P:=λx=>x=(b0,b1,u)) (Qd (zT6 _ b0 b1 rfl l0' l1' m0 m1) rfl) (λx hx=>?_);subst hx;obtain ⟨rn,hrn⟩:=Int.eq_ofNat_of_zero_le r0;have one:∀ (a:Nat) (bk:List By) (f:By->By) (hbk:idx [b0,b1] (a:Int)=some bk) (h2:a<2) (h16:bk.length=16) (mm:∀ x∈bk,x.length<=32) (hf:∀ z,z.length<2 ^ 40->xT (a:Int) z=some (f z)),
   Def ((idx [b0,b1] (a:Int)).bind λv=>(idx v e.Register).bind λw=>(yN 1 [] w).bind λw'=>(idx e.Digests (a:Int)).bind λd=>(yN 1 w' d).bind λz=>(xT (a:Int) z).bind λs=>(ixN bk.length e.Register).bind λj=>(sN bk j s).bind λl=>some l)
    (λb=>b=upR true bk e.Register (λx=>f (x++e.Digests.getD a []))):=by
  intro a bk f hbk h2 h16 mm hf;rw [hrn];refine Q1 (P:=λv=>v=bk) (Qd hbk rfl) (λv hv=>?_);subst hv;have:=zPi mm rn;refine Q1 (P:=λx=>x=v.getD rn []) (Qd (zMk (by omega)) rfl) (λx hx=>?_);subst hx;refine Q1 (Def.app (by simp only [Qj];omega)) (λy hy=>?_);rw [Qk] at hy;subst hy;have:=zPi g0 a;refine Q1 (P:=λd=>d=e.Digests.getD a []) (Qd (zMk (by omega)) rfl) (λd hd=>?_);subst hd;refine Q1 (Def.app (by omega)) (λz hz=>?_);have hzl:z.length<2 ^ 40:=by rw [hz,Q0];omega
  refine Q1 (P:=λs=>s=f z) (Qd (hf z hzl) rfl) (λs hs=>?_);refine Q1 (Def.ixN (by omega) (by omega)) (λj hj=>?_);refine Q1 (Def.upd hj.2) (λq hq=>Q6 ?_);rw [hq,hj.1,hs,hz];rfl
 refine Q1 (P:=λb=>b=upR (xH active 0) b0 e.Register (λx=>lZ (x++e.Digests.getD 0 []))) ?_ (λc0 hc0=>?_)
 ·refine Q1 (P:=λb=>b=xH active 0) (Qd a0 rfl) (λb hb=>?_);subst hb;refine Qi (λh=>?_) (λh=>Q6 (by rw [h];rfl));rw [if_pos h] at l0;rw [h];exact one 0 b0 lZ rfl (by omega) l0 m0 zLf
 refine Q1 (P:=λb=>b=upR (xH active 1) b1 e.Register (λx=>sha (x++e.Digests.getD 1 []))) ?_ (λc1 hc1=>?_)
 ·refine Q1 (P:=λb=>b=xH active 1) (Qd a1 rfl) (λb hb=>?_);subst hb;refine Qi (λh=>?_) (λh=>Q6 (by rw [h];rfl));rw [if_pos h] at l1;rw [h];exact one 1 b1 sha rfl (by omega) l1 m1 zMa
 exact Q6 (by rw [hc0,hc1];rfl)
set_option maxRecDepth 100000
theorem zMy (on:Bool) (active:Int) (data:By) (hd:data.length<2 ^ 40) (step:(Int×List By)->Option ((Int×List By) ⊕ List By))
  (h0:∀ v,step (0,v)=((bif (on&&xH active 0) then ((xT 0 data).bind λs=>(ixN 2 0).bind λj=>(sN v j s).bind λw=>some w) else some v:Option (List By)).bind λw=>some (.inl (1,w))))
  (h1:∀ v,step (1,v)=((bif (on&&xH active 1) then ((xT 1 data).bind λs=>(ixN 2 1).bind λj=>(sN v j s).bind λw=>some w) else some v:Option (List By)).bind λw=>some (.inl (2,w))))
  (h2:∀ v,step (2,v)=some (.inr v)):zL step FU (0,[[],[]])=some (dgE active on data):=by
 unfold dgE;refine two (b:=(1,[if (on&&xH active 0)=true then lZ data else [],[]])) (c:=(2,[if (on&&xH active 0)=true then lZ data else [],if (on&&xH active 1)=true then sha data else []])) ?_ ?_ (h2 _)
 ·rw [h0];refine bd (a:=[if (on&&xH active 0)=true then lZ data else [],[]]) ?_ rfl;refine (zE4 (a:=0) rfl (by omega) (zLf data hd)).trans ?_;cases (on&&xH active 0)<;>rfl
 ·rw [h1];refine bd (a:=[if (on&&xH active 0)=true then lZ data else [],if (on&&xH active 1)=true then sha data else []]) ?_ rfl;refine (zE4 (a:=1) rfl (by omega) (zMa data hd)).trans ?_;cases (on&&xH active 1)<;>rfl
theorem zDv {a b:Bool} {x:Option Bool} {f:Bool->Option α} {r:Option α} (hx:x=some b) (h:f (a&&b)=r):(bif a then x else some false).bind f=r:=by
 cases a
 ·exact h
 ·subst hx;exact h
theorem zHv (reg kind active:Int) (data:By) (hd:data.length<2 ^ 40):uU reg kind active data=some (mkE reg kind active data):=by
 unfold uU mkE;refine bd (a:=data) (by unfold bytes_Clone;exact ct (zFl (by omega)) rfl) ?_;refine bd (zMy (kind != 5) active data hd _ (λv=>?_) (λv=>?_) (λv=>?_)) (bd (ckT rfl) rfl)
 ·unfold kP;refine ct rfl ?_;refine congrArg (λo:Option (List By)=>o.bind _) ?_;exact zDv (bd (ckT rfl) rfl) rfl
 ·unfold kP;refine ct rfl ?_;refine congrArg (λo:Option (List By)=>o.bind _) ?_;exact zDv (bd (ckT rfl) rfl) rfl
 ·unfold kP;exact cf rfl rfl
theorem zMb (x:zD) (active:Int) (h:zBy x):kU x active=some (dgE active true (pY x)):=by
 have hl:=zHg x;unfold kU;refine bd (zVt h) ?_;have hp:decide (0<((pY x).length:Int))=true:=by simp;omega
 refine bd (zMy true active (pY x) (by omega) _ (λv=>?_) (λv=>?_) (λv=>?_)) (bd (ckT rfl) rfl)
 ·unfold oI;refine ct rfl ?_;refine congrArg (λo:Option (List By)=>o.bind _) ?_;rw [hp];exact zDv (bd (ckT rfl) rfl) rfl
 ·unfold oI;refine ct rfl ?_;refine congrArg (λo:Option (List By)=>o.bind _) ?_;rw [hp];exact zDv (bd (ckT rfl) rfl) rfl
 ·unfold oI;exact cf rfl rfl
theorem zV0 {r:Int} (h1:1<=r) (h4:r<=4):r=1∨r=2∨r=3∨r=4:=by omega
theorem zSo {r:Int} (h1:1<=r) (h4:r<=4):vS r=some (rgR r):=by
 rcases zV0 h1 h4 with rfl | rfl | rfl | rfl<;>rfl
theorem zAz (x:zD) (active:Int) (h:zBy x) (h4:x.Role≠4):tM x active=some (imE active x):=by
 obtain ⟨a1,a2,a3,a4,a5,a6⟩:=h.f;have hd:=aW 20 x.Version.toNat;unfold tM imE lbl;refine bd (a:=false) (bd ((cZ x).trans h) (cf rfl (congrArg some (by rw [beq_eq_false_iff_ne];exact h4)))) (cf rfl ?_);refine bd (zSo a1 a2) (bd (zMb x active h) (bd (ckT (zFl (by simp;omega))) ?_));refine bd (a:=decF 20 x.Version.toNat) (by unfold strconv_Itoa;exact ct (by simp;omega) rfl) ?_;refine bd (ckT (zFl (by simp only [Q0,Q5,Qj];omega))) (bd (ckT (zFl (by simp only [Q0,Q5,Qj];omega))) rfl)
theorem zIr (hi:i<l.length):evR active role (l.take (i+1))=evR active role (l.take i)++(if l[i].Role=role then (if role=4 then (zF3 l[i]).map (mkE 9 3 active) else [imE active l[i]]) else []):=by
 unfold evR;rw [Qa,Ql];simp [hi]
theorem qJ (hi:i<l.length) (h:l[i].Role≠role):evR active role (l.take (i+1))=evR active role (l.take i):=by
 rw [zIr hi,if_neg h,Qc]
theorem zK0 (hi:i<l.length) (h:l[i].Role=role) (h4:role≠4):evR active role (l.take (i+1))=evR active role (l.take i)++[imE active l[i]]:=by
 rw [zIr hi,if_pos h,if_neg h4]
theorem zVb (hi:i<l.length) (h:l[i].Role=4):evR active 4 (l.take (i+1))=evR active 4 (l.take i)++(zF3 l[i]).map (mkE 9 3 active):=by
 rw [zIr hi,if_pos h,if_pos rfl]
theorem zOc (active:Int) (x:zD) (hx:x.Role=4) (L:List By) (hl:L.length<=4) (h8:∀ l∈L,l.length<=8) (a b c d e:List zB) (he:e.length<=100) :
  zL (pB active x L) FU (0,a,b,c,d,e)=some (a,b,c,d,e++L.map (mkE 9 3 active)):=by
 refine yG L.length (λi=>((i:Int),a,b,c,d,e++(L.map (mkE 9 3 active)).take i)) (by simp) (λi hi=>?_) ?_ (xM (by omega))
 ·have:=h8 _ (Q3 hi);have hreg:vS x.Role=some 9:=by rw [hx];rfl
  unfold pB;refine ct (dlt hi) (bd (yM hi) ?_);refine bd (a:=(a,b,c,d,e++(L.map (mkE 9 3 active)).take (i+1))) (cf (by rw [hx];rfl) (cf (by rw [hx];rfl) (cf (by rw [hx];rfl) (cf (by rw [hx];rfl) (ct (by rw [hx];rfl) ?_))))) (by rw [wS (by omega)]);refine bd hreg (bd (zHv _ 3 active _ (by omega)) (bd (yI (by simp;omega)) ?_));rw [Qa,Q4];simp [hi]
 ·unfold pB;refine cf (dge (Q8 _)) ?_;rw [Q2 (by simp)]
theorem zQ2 (active:Int) (out:List zB) (h:out.length<=100):zL (pA active) FU (out,0)=some (out++dY active):=by
 refine yG 8 (λi=>(out++(dY active).take i,(i:Int))) (by simp) (λi hi=>?_) ?_ (xM (by decide))
 ·unfold pA;refine ct (by simp;omega) ?_;refine bd (a:=4) rfl ?_;refine bd (zHv _ 2 active _ (by decide)) ?_;refine bd (yI (by simp [dY];omega)) ?_;rw [wS (by omega),Qa,Q4];have:(dY active)[i]? = some (mkE (i:Int) 2 active [0,0,0,0]):=by simp [dY,hi]
  rw [this];rfl
 ·unfold pA;refine cf rfl ?_;rw [Q2 (by rw [zAv];omega)]
theorem zM2 (l:List zD) (active:Int) (hl:l.length<=8) (him:∀ x∈l,sV x):zL (qX l active) FU (0,[],[],[],[],[])=some ([],evR active 1 l,evR active 2 l,evR active 3 l,evR active 4 l):=by
 refine yG l.length (λi=>((i:Int),[],evR active 1 (l.take i),evR active 2 (l.take i),evR active 3 (l.take i),evR active 4 (l.take i))) (by simp [evR]) (λi hi=>?_) ?_ (xM (by omega))
 ·have hg:=him _ (Q3 hi);have hle:=λrole=>zOn active role (l.take i) (λx hx=>him x (Qe hx));have hlt:(l.take i).length<=8:=by simp;omega
  have e1:=hle 1;have e2:=hle 2;have e3:=hle 3;have e4:=hle 4;have hw:Q9.wrap ((i:Int)+1)=((i+1:Nat):Int):=wS (by omega);unfold qX;refine ct (dlt hi) ?_;rcases zV0 hg.r1 hg.r4 with hr | hr | hr | hr
  ·rw [zK0 hi hr (by decide),qJ hi (show l[i].Role≠2 by omega),qJ hi (show l[i].Role≠3 by omega),qJ hi (show l[i].Role≠4 by omega)];refine bd (bd (yM hi) (ct (by rw [hr];rfl) (bd (cf (by rw [hr];rfl) (ct (by rw [hr];rfl) (bd (zAz _ active hg.ok (by omega)) (bd (yI (by simp only [Qh];omega)) rfl)))) rfl))) (by rw [hw])
  ·rw [zK0 hi hr (by decide),qJ hi (show l[i].Role≠1 by omega),qJ hi (show l[i].Role≠3 by omega),qJ hi (show l[i].Role≠4 by omega)];refine bd (bd (yM hi) (ct (by rw [hr];rfl) (bd (cf (by rw [hr];rfl) (cf (by rw [hr];rfl) (ct (by rw [hr];rfl) (bd (zAz _ active hg.ok (by omega)) (bd (yI (by simp only [Qh];omega)) rfl))))) rfl))) (by rw [hw])
  ·rw [zK0 hi hr (by decide),qJ hi (show l[i].Role≠1 by omega),qJ hi (show l[i].Role≠2 by omega),qJ hi (show l[i].Role≠4 by omega)];refine bd (bd (yM hi) (ct (by rw [hr];rfl) (bd (cf (by rw [hr];rfl) (cf (by rw [hr];rfl) (cf (by rw [hr];rfl) (ct (by rw [hr];rfl) (bd (zAz _ active hg.ok (by omega)) (bd (yI (by simp only [Qh];omega)) rfl)))))) rfl))) (by rw [hw])
  ·rw [zVb hi hr,qJ hi (show l[i].Role≠1 by omega),qJ hi (show l[i].Role≠2 by omega),qJ hi (show l[i].Role≠3 by omega)];obtain ⟨q1,q2,q3⟩:=zKg _ hg hr;have hp:=hg.p;have q4:=(zIq l[i] (by omega)).trans q1;refine bd (bd (yM hi) (cf (by rw [hr];rfl) (bd q4 (bd (zOc active l[i] hr _ q2 (λl hl=>(q3 l hl).2.1) _ _ _ _ _ (by omega)) rfl)))) (by rw [hw])
 ·unfold qX;refine cf (dge (Q8 _)) ?_;simp
theorem zIf (l:List zD) (active:Int) (h:pN l) (h1:1<=active) (h3:active<=3):vR l active=some (evs l active):=by
 have hl:=h.len;have hb:=zKr active l h.im;have hsl:=zAv active;unfold vR;refine bd (a:=false) (cf (by simp;omega) (cf (by simp;omega) (bd h.ok.p rfl))) (cf rfl ?_);refine bd (zM2 l active hl h.im) ?_;refine bd (yI (by omega)) (bd (zQ2 active _ (by rw [Q0];omega)) (bd (yI (by simp only [Q0];omega)) (bd (yI (by simp only [Q0];omega)) ?_)));unfold evs;simp only [Q4]
theorem zLu (active:Int):vR [] active=some []:=by
 unfold vR;refine bd (a:=true) ?_ (ct rfl rfl);cases decide (active<1)<;>cases decide (3<active)<;>rfl
set_option maxRecDepth 100000
theorem wUO:hU=wE:=rfl
theorem wBO:bQ=wQ:=rfl
structure zFo (c:Int) (is:List Int) (bs:List By):Prop where
 sh:qS c=some (0,0,(is.length:Int),(bs.length:Int),true)
 c0:0<=c
 c1:c<256
 il:is.length<=2
 bl':bs.length<=2
 i:∀ x∈is,0<=x/\x<=1099511627776
 b:∀ x∈bs,x.length<=32
def rq (c:Int) (is:List Int) (bs:List By):yA:=yA.mk c [] [] is bs
def rqB (c:Int) (is:List Int) (bs:List By):By:=u8 c :: (is.flatMap (λn=>beN n 8 8)++(u8 (bs.length:Int) :: bs.flatMap bl))
def rqW (c:Int) (is:List Int) (bs:List By):By:=[83,87]++(beN ((4+(rqB c is bs).length:Nat):Int) 2 2++rqB c is bs)
theorem zDy (is:List Int):(is.flatMap (λn=>beN n 8 8)).length=8*is.length:=by
 induction is with
 | nil=>rfl
 | cons x l ih=>simp only [Qo,Q0,yO,Q5,ih];omega
theorem zJa (bs:List By) (h:∀ x∈bs,x.length<=32):(bs.flatMap bl).length<=34*bs.length:=by
 induction bs with
 | nil=>simp
 | cons x l ih=>
  have h1:=h x (by simp);have h2:=ih λy hy=>h y (by simp [hy]);simp only [Qo,Q0,uB,Q5];omega
theorem zGj (h:zFo c is bs):2<=(rqB c is bs).length/\(rqB c is bs).length<=100:=by
 have h1:=zDy is;have h2:=zJa bs h.b;have h3:=h.il;have h4:=h.bl';unfold rqB;simp only [Q5,Q0];omega
theorem zK6 (h:zFo c is bs):(rqW c is bs).length=4+(rqB c is bs).length:=by
 unfold rqW;simp only [Q0,yO,Q5,Qj];omega
theorem zSl (hi:i<bs.length):(bs.take (i+1)).flatMap bl=(bs.take i).flatMap bl++bl bs[i]:=by
 rw [Qa,Ql];simp [hi]
theorem zRc (hi:i<is.length):(is.take (i+1)).flatMap (λn=>beN n 8 8)=(is.take i).flatMap (λn=>beN n 8 8)++beN is[i] 8 8:=by
 rw [Qa,Ql];simp [hi]
theorem wrt (h:zFo c is bs):oS (rq c is bs)=some (rqW c is bs):=by
 have hB:=zGj h;have hil:=h.il;have hbl:=h.bl';unfold oS;refine bd (ckT rfl) ?_;refine bd (a:=[83,87]) rfl ?_;refine bd (a:=[83,87,0,0,u8 c]) rfl ?_;refine bd (a:=[83,87,0,0,u8 c]) (tX (by unfold dW;exact cf rfl rfl)) ?_;refine bd (a:=[83,87,0,0,u8 c]) (tX (by unfold dQ;exact cf rfl rfl)) ?_;refine bd (a:=[83,87,0,0,u8 c]++is.flatMap (λn=>beN n 8 8)) ?_ ?_
 ·refine yG is.length (λi=>([83,87,0,0,u8 c]++(is.take i).flatMap (λn=>beN n 8 8),(i:Int))) (by simp) (λi hi=>?_) ?_ (xM (by omega))
  ·unfold kE;refine ct (dlt hi) (bd (yM hi) ?_);rw [wUO];refine bd (wU _ 8 _ (by omega) (by omega) ?_) ?_
   ·rw [Q0,zDy];simp;omega
   ·rw [zRc hi,Q4,wS (by omega)]
  ·unfold kE;refine cf (dge (Q8 _)) ?_;rw [Qb]
 refine bd (yI (by rw [Q0,zDy];simp;omega)) ?_;refine bd (a:=(([83,87,0,0,u8 c]++is.flatMap (λn=>beN n 8 8))++[u8 (bs.length:Int)])++bs.flatMap bl) ?_ ?_
 ·refine yG bs.length (λi=>((([83,87,0,0,u8 c]++is.flatMap (λn=>beN n 8 8))++[u8 (bs.length:Int)])++(bs.take i).flatMap bl,(i:Int))) (by simp;rfl) (λi hi=>?_) ?_ (xM (by omega))
  ·have hx:=h.b _ (Q3 hi);have ht:=zJa (bs.take i) λx hx=>h.b x (Qe hx);have ht2:(bs.take i).length<=2:=by simp;omega
   unfold kF;refine ct (dlt hi) (bd (yM hi) ?_);rw [wBO];refine bd (wB _ _ ?_ (by omega)) ?_
   ·simp only [Q0,zDy,Q5,Qj];omega
   ·rw [zSl hi,Q4,wS (by omega)]
  ·unfold kF;refine cf (dge (Q8 _)) ?_;rw [Qb]
 have e:(([83,87,0,0,u8 c]++is.flatMap (λn=>beN n 8 8))++[u8 (bs.length:Int)])++bs.flatMap bl=[83,87,0,0]++rqB c is bs:=by
  unfold rqB;simp
 rw [e];have el:(([83,87,0,0]:By)++rqB c is bs).length=4+(rqB c is bs).length:=by simp;omega
 refine bd (ckT (zFl (by omega))) ?_;refine bd (wU [] 2 _ (by omega) (by omega) (by simp)) ?_;refine bd (ckT (zFl (by omega))) ?_;rw [el];unfold rqW cpA;obtain ⟨a,b,hab⟩:∃ a b,beN ((4+(rqB c is bs).length:Nat):Int) 2 2=[a,b]:=⟨_,_,rfl⟩;rw [hab];rfl
theorem chk (h:zFo c is bs):oZ (rq c is bs)=some 0:=by
 have hB:=zGj h;have hil:=h.il;have hbl:=h.bl';unfold oZ;refine bd h.sh (cf rfl ?_);refine bd (a:=true) (ct rfl (ct rfl (ct (by simp [rq]) (bd (a:=true) ?_ rfl)))) ?_
 ·unfold qF;exact bd (ct (by simp [rq]) rfl) rfl
 refine bd (a:=true) (tX (by unfold dG;exact cf rfl rfl)) ?_;refine bd (a:=true) (tX (by unfold dS;exact cf rfl rfl)) ?_;refine bd (a:=true) ?_ (cf rfl ?_)
 ·refine yG is.length (λi=>(true,(i:Int))) rfl (λi hi=>?_) ?_ (xM (by omega))
  ·have hx:=h.i _ (Q3 hi);unfold lM;refine ct (dlt hi) (bd (yM hi) ?_);refine bd (a:=true) (ct rfl (ct (by simp;exact hx.1) (congrArg some (by simp;exact hx.2)))) ?_;rw [wS (by omega)]
  ·unfold lM;exact cf (dge (Q8 _)) rfl
 refine bd (a:=true) (tX (by unfold cL;exact cf rfl rfl)) ?_;refine bd (a:=true) ?_ ?_
 ·refine yG bs.length (λi=>(true,(i:Int))) rfl (λi hi=>?_) ?_ (xM (by omega))
  ·have hx:=h.b _ (Q3 hi);unfold lS;refine ct (dlt hi) (bd (yM hi) ?_);refine bd (a:=true) (ct rfl (congrArg some (by simp;omega))) ?_;rw [wS (by omega)]
  ·unfold lS;exact cf (dge (Q8 _)) rfl
 have hw:=zK6 h;exact bd (a:=false) (cf rfl (bd (wrt h) (congrArg some (by simp;omega)))) (cf rfl rfl)
theorem zV2 (h:zFo c is bs):lE (rq c is bs)=some (rqW c is bs,0):=by
 unfold lE;exact bd (chk h) (cf rfl (bd (wrt h) rfl))
theorem zXk (h:zFo c is bs):kJ (rqW c is bs)=some (c,0):=by
 have hB:=zGj h;have hw:=zK6 h;obtain ⟨a,b,hab,hv⟩:=be2 (4+(rqB c is bs).length) (by omega);obtain ⟨t,ht⟩:∃ t,rqB c is bs=u8 c :: t:=⟨_,rfl⟩;have e:rqW c is bs=83 :: 87 :: a :: b :: u8 c :: t:=by unfold rqW;rw [hab,ht];rfl
 unfold kJ;refine cf (by simp;omega) (cf (by simp;omega) ?_);rw [e];refine bd (a:=false) rfl (cf rfl ?_);refine bd (a:=a) rfl (bd (a:=b) rfl (ltk ?_));have hl2:((83 :: 87 :: a :: b :: u8 c :: t:By)).length=4+(rqB c is bs).length:=by rw [<- e];exact hw
 rw [zVx,<- hv,hl2];refine cf (by simp) (cf (by simp) ?_);refine bd (a:=u8 c) rfl ?_;have h0:=h.c0;have h1:=h.c1;rw [zVw c h0 h1,yQ (by omega) (by omega)]
theorem yEe (h:zFo c is bs):mN (rqW c is bs)=some (rq c is bs,0):=by
 have hB:=zGj h;have hw:=zK6 h;have hil:=h.il;have hbl:=h.bl';unfold mN;refine bd (zXk h) (cf rfl (bd h.sh (cf rfl ?_)));let body:=is.flatMap (λn=>beN n 8 8)++(u8 (bs.length:Int) :: bs.flatMap bl);have e:(rqW c is bs).drop 5=body:=by
  unfold rqW rqB;obtain ⟨a,b,hab⟩:∃ a b,beN ((4+(u8 c :: (is.flatMap (λn=>beN n 8 8)++(u8 (bs.length:Int) :: bs.flatMap bl))).length:Nat):Int) 2 2=[a,b]:=⟨_,_,rfl⟩;rw [hab];rfl
 have hsub:sub (rqW c is bs) 5 ((rqW c is bs).length:Int)=some body:=by
  have:=sD (l:=rqW c is bs) (a:=5) (b:=(rqW c is bs).length) (by omega) (Q8 _);rw [Q2 (by simp),e] at this;exact this
 have hbody:body.length<2 ^ 40:=by rw [<- e,Qm];omega
 refine bd hsub ?_;obtain ⟨r,g,e1⟩:=zJi body hbody;refine bd e1 ?_;refine bd (a:=([],r.W.b_,r.W.at_,r.W.e_)) (tX (by unfold eP;exact cf rfl rfl)) ?_;refine bd (a:=([],r.W.b_,r.W.at_,r.W.e_)) (tX (by unfold fX;exact cf rfl rfl)) ?_;have l3:∀ (m acc:List Int) (v:Int) (r:RS) (fuel:Nat) (rest:By),m.length<fuel->Rd r (m.flatMap (λn=>beN n 8 8)++rest)->(∀ x∈m,0<=x/\x<=1099511627776)->0<=v->v+m.length=(is.length:Int)->acc.length<=2->(acc.length:Int)+m.length<=2 ->
   ∃ r',Rd r' rest/\zL (uN (is.length:Int)) fuel (v,acc,r.W.b_,r.W.at_,r.W.e_)=some (.inr (acc++m,r'.W.b_,r'.W.at_,r'.W.e_)):=by
  intro m;induction m with
  | nil=>
   intro acc v r fuel rest hf g _ hv0 hv _ _;obtain ⟨f,rfl⟩:∃ f,fuel=f+1:=⟨fuel - 1,by simp at hf;omega⟩;refine ⟨r,g,?_⟩;simp only [zL];have:uN (is.length:Int) (v,acc,r.W.b_,r.W.at_,r.W.e_)=some (.inr (.inr (acc,r.W.b_,r.W.at_,r.W.e_))):=by
    unfold uN;exact cf (by simp at hv ⊢;omega) rfl
   rw [this,Qc]
  | cons x m ih=>
   intro acc v r fuel rest hf g hm hv0 hv ha hb;obtain ⟨f,rfl⟩:∃ f,fuel=f+1:=⟨fuel - 1,by simp at hf;omega⟩;simp only [Q5] at hf hv hb;have hx:=hm x (by simp);have g':Rd r (beN x 8 8++(m.flatMap (λn=>beN n 8 8)++rest)):=g.cast (by simp);obtain ⟨r1,g1,e1⟩:=rdU (k:=8) g' (by omega) (by omega) hx.1 (by omega) (by omega);obtain ⟨r2,g2,e2⟩:=ih (acc++[x]) (v+1) r1 f rest (by omega) g1 (λy hy=>hm y (by simp [hy])) (by omega) (by omega) (by simp;omega) (by simp;omega);refine ⟨r2,g2,?_⟩;simp only [zL];have:uN (is.length:Int) (v,acc,r.W.b_,r.W.at_,r.W.e_)=some (.inl (v+1,acc++[x],r1.W.b_,r1.W.at_,r1.W.e_)):=by
    unfold uN;refine ct (by simp;omega) (bd e1 ?_);refine bd (a:=(false,r1.W.b_,r1.W.at_,r1.W.e_)) (bd (zOj g1) (ct rfl ?_)) (cf rfl ?_)
    ·rw [show decide (1099511627776<x)=false by simp;omega]
    ·refine bd (yI (by simp;omega)) ?_;rw [yQ (by omega) (by omega)]
   rw [this];simp only;rw [e2,Q4];rfl
 obtain ⟨r1,g1,e2⟩:=l3 is [] 0 r FU (u8 (bs.length:Int) :: bs.flatMap bl) (xM (by omega)) g h.i (by omega) (by omega) (by simp) (by simp;omega);refine bd e2 ?_;obtain ⟨r2,g2,e3⟩:=rdBt g1 (by omega) (by omega);refine bd e3 ?_;refine bd (a:=(false,r2.W.b_,r2.W.at_,r2.W.e_)) (bd (zOj g2) (ct rfl (bd (a:=true) ?_ rfl))) (cf rfl ?_)
 ·unfold qF;exact bd (ct (by simp) rfl) rfl
 have l4:∀ (m acc:List By) (v:Int) (r:RS) (fuel:Nat),m.length<fuel->Rd r (m.flatMap bl)->(∀ x∈m,x.length<=32)->0<=v->v+m.length=(bs.length:Int)->acc.length<=2->(acc.length:Int)+m.length<=2 ->
   ∃ r',Rd r' []/\zL (uQ (bs.length:Int)) fuel (v,acc,r.W.b_,r.W.at_,r.W.e_)=some (acc++m,r'.W.b_,r'.W.at_,r'.W.e_):=by
  intro m;induction m with
  | nil=>
   intro acc v r fuel hf g _ hv0 hv _ _;obtain ⟨f,rfl⟩:∃ f,fuel=f+1:=⟨fuel - 1,by simp at hf;omega⟩;refine ⟨r,g,?_⟩;simp only [zL];have:uQ (bs.length:Int) (v,acc,r.W.b_,r.W.at_,r.W.e_)=some (.inr (acc,r.W.b_,r.W.at_,r.W.e_)):=by
    unfold uQ;exact cf (by simp at hv ⊢;omega) rfl
   rw [this,Qc]
  | cons x m ih=>
   intro acc v r fuel hf g hm hv0 hv ha hb;obtain ⟨f,rfl⟩:∃ f,fuel=f+1:=⟨fuel - 1,by simp at hf;omega⟩;simp only [Q5] at hf hv hb;have hx:=hm x (by simp);have g':Rd r (bl x++m.flatMap bl):=g.cast (by simp);obtain ⟨r1,g1,e1⟩:=zTr (k:=1024) g' (by omega) (by omega);obtain ⟨r2,g2,e2⟩:=ih (acc++[x]) (v+1) r1 f (by omega) g1 (λy hy=>hm y (by simp [hy])) (by omega) (by omega) (by simp;omega) (by simp;omega);refine ⟨r2,g2,?_⟩;simp only [zL];have:uQ (bs.length:Int) (v,acc,r.W.b_,r.W.at_,r.W.e_)=some (.inl (v+1,acc++[x],r1.W.b_,r1.W.at_,r1.W.e_)):=by
    unfold uQ;refine ct (by simp;omega) (bd e1 (bd (yI (by simp;omega)) ?_));rw [yQ (by omega) (by omega)]
   rw [this];simp only;rw [e2,Q4];rfl
 obtain ⟨r3,g3,e4⟩:=l4 bs [] 0 r2 FU (xM (by omega)) g2 h.b (by omega) (by omega) (by simp) (by simp;omega);refine bd e4 ?_;exact bd (rdE g3) (cf rfl rfl)
set_option maxRecDepth 100000
theorem sh1:qS 1=some (0,0,1,0,true):=by decide +kernel
theorem sh6:qS 6=some (0,0,1,2,true):=by decide +kernel
theorem rqS:zFo 1 [0] []:=⟨sh1,by decide,by decide,by decide,by decide,by simp,by simp⟩
theorem rqE (h:EvGood e active):zFo 6 [e.Register] e.Digests:=by
 have hl:=h.l;refine ⟨by rw [sh6,hl];rfl,by decide,by decide,by simp,by omega,?_,?_⟩
 ·have:=h.r0;have:=h.r1;simp;omega
 ·intro x hx;have f0:=jL h.f0;have f1:=jL h.f1
  match hd:e.Digests,hl with
  | [a,b],_=>
   rw [hd] at hx f0 f1;simp only [Qn,Qp,or_false] at hx;rcases hx with rfl | rfl
   ·exact f0
   ·exact f1
theorem rsp0:vP (zP.mk 0 [] [] [])=some [0,0,0,0]:=by decide +kernel
theorem zRf:tB [0,0,0,0]=some (zP.mk 0 [] [] [],0):=by decide +kernel
def stS (s:zQ):zQ:=zQ.mk s.Seeds s.Auths s.Entropy s.Active (s.Resets+1) 0 s.Clock false (zE.mk [] 0) s.MaxCounter s.Indices s.Lockout s.Keys
def zG6 (s:zQ) (v:yB):yB:=⟨true,v.Stopped,zQa s.Active,s.Clock,s.Orderly,v.Draws,v.Sessions,v.Objects,v.ReadLocks,v.WriteLocks⟩
def zFp (r:zE) (v:yB):yB:=⟨v.Started,v.Stopped,r,v.Clock,v.Safe,v.Draws,v.Sessions,v.Objects,v.ReadLocks,v.WriteLocks⟩
theorem Sst.S {s:zQ} (h:Sst s) (hr:s.Resets+1<2 ^ 30):Sst (stS s):=by
 obtain ⟨a,b,c,d,e,r0,r1,f,g,i,j,k,l,m⟩:=h;exact ⟨a,b,c,d,e,by show 0<=s.Resets+1;omega,hr,rfl,g,rfl,j,k,l,m⟩
theorem zR3 (s:zW) (c:Int) (is:List Int) (bs:List By):mR s (rq c is bs)=some true:=by
 unfold mR;refine bd (a:=()) (tX (by unfold eM;exact cf rfl rfl)) ?_;exact ct rfl rfl
theorem zPs {s s':zW} {e:Int} {i:List Int} {b n:List By} (h:zFo c is bs) (hs:c=1∨s.Volatile.Started=true)
  (hp:mQ s 0 (rq c is bs)=some (s',zP.mk e i b n)) (ho:vP (zP.mk e i b [])=some out):vO s 0 (rqW c is bs)=some (s',out):=by
 unfold vO;refine bd (yEe h) (cf rfl ?_);refine bd (a:=(s',zP.mk e i b [])) ?_ (bd ho rfl);unfold gP;refine bd (chk h) (cf rfl (bd (a:=false) rfl (cf rfl (bd (a:=false) ?_ (cf rfl ?_)))))
 ·rcases hs with rfl | hs
  ·exact cf rfl rfl
  ·rw [hs];show (bif (c != 1) then some false else some false)=some false;cases (c != 1)<;>rfl
 refine bd (zR3 s c is bs) (cf rfl (ct rfl (bd hp rfl)))
theorem zJf (st:zQ) (v:yB) (hs:Sst st) (h1:v.Started=false) (h2:v.Stopped=false):vO ⟨st,v⟩ 0 (rqW 1 [0] [])=some (⟨stS st,zG6 st v⟩,[0,0,0,0]):=by
 have hr:=hs.r0;have hr1:=hs.r1;refine zPs rqS (.inl rfl) (b:=[]) (n:=[]) (i:=[]) (e:=0) ?_ rsp0;unfold mQ;refine ct rfl (bd (a:=0) rfl (bd (a:=(⟨stS st,zG6 st v⟩,0)) ?_ rfl));unfold dA;refine bd (a:=false) (cf h1 (congrArg some h2)) (cf rfl (bd (a:=false) rfl (cf rfl (bd (a:=false) rfl (cf rfl (ct rfl ?_))))));refine bd (zU2 st.Active hs.a0 hs.a3) ?_;rw [yQ (by simp only;omega) (by simp only;omega)];rfl
theorem zPy (st:zQ) (v:yB) (e:zB) (active:Int) (h1:v.Started=true) (hr:zFy active v.Registers) (he:EvGood e active) (hk:e.Kind≠5):vO ⟨st,v⟩ 0 (rqW 6 [e.Register] e.Digests)=some (⟨st,zFp (ext active e v.Registers) v⟩,[0,0,0,0]):=by
 refine zPs (rqE he) (.inr h1) (b:=[]) (n:=[]) (i:=[]) (e:=0) ?_ rsp0;unfold mQ;refine cf rfl (cf rfl (cf rfl (bd (a:=true) rfl (ct rfl (bd (a:=(⟨st,zFp (ext active e v.Registers) v⟩,zP.mk 0 [] [] [])) ?_ rfl)))));unfold jV;refine cf rfl (ct rfl (bd (a:=e.Register) rfl ?_));obtain ⟨x,hx,rfl⟩:=zM8 v.Registers active e hr he hk;exact bd hx (cf rfl rfl)
section
theorem Dv.commit_same (h:Dv d seq st vo m):xR d ⟨st,vo'⟩=some (⟨d.Disk,⟨st,vo'⟩,d.On,d.Next⟩,0):=by
 unfold xR;refine bd (cD st h.sst) ?_;refine bd (a:=.inr d) (bd (a:=wT st) (by rw [h.s];exact cD st h.sst) (cf (by simp) rfl)) rfl
theorem Dv.vol (h:Dv d seq st vo m):Dv ⟨d.Disk,⟨st,vo'⟩,d.On,d.Next⟩ seq st vo' m:=⟨h.toDk,h.on,h.off,h.cut,rfl,h.nx⟩
theorem Dv.commit_new (h:Dv d seq st vo m) (hs:Sst st') (hq:seq+1<2 ^ 29) (hm:m+1<2 ^ 50):∃ d' seq',xR d ⟨st',vo'⟩=some (d',0)/\Dv d' seq' st' vo' (m+1)/\seq'<=seq+1/\∀ a,2<=a->d'.Disk.Areas.getD a []=d.Disk.Areas.getD a []:=by
 have hn:=h.n;have hok:=h.ok;have hm0:=h.m0;by_cases he:wT st'=wT st
 ·have hk:Dk d.Disk seq st' (m+1):=by
   refine ⟨h.ok,?_,hm,h.n,h.al,?_,hs⟩
   ·rw [Int.natCast_add];exact Int.le_trans hm0 (by omega)
   ·rw [he];exact h.jr
  refine ⟨⟨d.Disk,⟨st',vo'⟩,d.On,d.Next⟩,seq,?_,⟨hk,h.on,h.off,h.cut,rfl,h.nx⟩,Nat.le_succ _,λ_ _=>rfl⟩;unfold xR;refine bd (cD st' hs) ?_;refine bd (a:=.inr d) (bd (a:=wT st) (by rw [h.s];exact cD st h.sst) (cf (by simp [he]) rfl)) rfl
 ·have hl:=cI st' hs;have hrl:=jD (seq+1) (wT st');have hlt:(seq+1) % 2<2:=Qr _ (by decide);have hw:=gG d.Disk ((seq+1) % 2) (sB (seq+1) (wT st')) h.ok h.off (by omega) (by omega) (by have:=h.al ((seq+1) % 2);omega);have hc:=h.noC;have e:wrC d.Disk (d.Disk.Areas.getD ((seq+1) % 2) []) (sB (seq+1) (wT st'))=sB (seq+1) (wT st'):=by
   unfold wrC eX;rw [if_neg (show ¬ (d.Disk.Writes+1=d.Disk.CutAt) from hc),if_neg hc,Qb,Qc]
  rw [e,show zAa d.Disk=0 from if_neg hc] at hw;have hcm:=zEm d.Disk (seq+1) (wT st') (by omega) (by omega) (by omega) hw;have hnx:=h.nx;refine ⟨⟨jY d.Disk ((seq+1) % 2) (sB (seq+1) (wT st')),⟨st',vo'⟩,d.On,d.Next+1⟩,seq+1,?_,⟨⟨⟨?_,?_,?_⟩,?_,hm,?_,?_,h.jr.next (by omega) hq (by omega),hs⟩,h.on,?_,h.cut,rfl,?_⟩,Q8 _,λa ha=>?_⟩
  ·unfold xR;refine bd (cD st' hs) ?_;refine bd (a:=.inr ⟨jY d.Disk ((seq+1) % 2) (sB (seq+1) (wT st')),d.State,d.On,d.Next+1⟩) (bd (a:=wT st) (by rw [h.s];exact cD st h.sst) (ct (by simp [he]) ?_)) rfl;refine bd (a:=(jY d.Disk ((seq+1) % 2) (sB (seq+1) (wT st')),0)) (by rw [hnx];exact hcm) (cf rfl ?_);rw [yQ (by omega) (by omega)]
  ·show (d.Disk.Areas.set _ _).length<=64;simp;omega
  ·show 0<=d.Disk.Writes+1;have:=hok.w0;omega
  ·show d.Disk.Writes+1<2 ^ 60;omega
  ·show d.Disk.Writes+1<=((m+1:Nat):Int);omega
  ·show (d.Disk.Areas.set _ _).length=8;simp [hn]
  ·exact zHc h.al (by omega) (by omega)
  ·show decide (isC d.Disk)=false;exact decide_eq_false h.noC
  ·show d.Next+1=((seq+1:Nat):Int)+1;omega
  ·exact getD_set_ne (by omega)
theorem Dv.send_same (h:Dv d seq st vo m) (hr:vO ⟨st,vo⟩ 0 b=some (⟨st,vo'⟩,out)):vX d 0 b=some (⟨d.Disk,⟨st,vo'⟩,d.On,d.Next⟩,out,0):=by
 have hr':vO d.State 0 b=some (⟨st,vo'⟩,out):=by rw [h.s];exact hr
 unfold vX;refine bd (bH h.on h.off) ?_;refine cf rfl ?_;refine bd hr' ?_;refine bd h.commit_same ?_;exact cf rfl rfl
theorem Dv.send_new (h:Dv d seq st vo m) (hs:Sst st') (hq:seq+1<2 ^ 29) (hm:m+1<2 ^ 50) (hr:vO ⟨st,vo⟩ 0 b=some (⟨st',vo'⟩,out)):∃ d' seq',vX d 0 b=some (d',out,0)/\Dv d' seq' st' vo' (m+1)/\seq'<=seq+1/\∀ a,2<=a->d'.Disk.Areas.getD a []=d.Disk.Areas.getD a []:=by
 obtain ⟨d',seq',e,h1,h2,h3⟩:=h.commit_new (vo':=vo') hs hq hm;refine ⟨d',seq',?_,h1,h2,h3⟩;have hr':vO d.State 0 b=some (⟨st',vo'⟩,out):=by rw [h.s];exact hr
 unfold vX;refine bd (bH h.on h.off) ?_;refine cf rfl ?_;refine bd hr' ?_;refine bd e ?_;exact cf rfl rfl
theorem zHh {r:zP} (h:zFo c is bs) (hs:vX d 0 (rqW c is bs)=some (d',out,0)) (hd:tB out=some (r,0)) (he:r.Err=0) (hc:(c==9)=false/\(c==11)=false/\(c==16)=false/\(c==12)=false) :
  ∀ L:zM,L.Device=d->vG L (rq c is bs)=some (r,0,zM.mk d' L.opened_):=by
 rintro L rfl;obtain ⟨c1,c2,c3,c4⟩:=hc;unfold vG;refine bd (a:=(rqW c is bs,0)) (zV2 h) ?_;refine cf rfl ?_;refine bd (a:=(d',out,0)) hs ?_;refine cf rfl ?_;refine bd (a:=(r,0)) hd ?_;refine bd (a:=0) (ct rfl (congrArg some he)) ?_;refine cf rfl ?_;refine bd (a:=false) (cf c1 (cf c2 (congrArg some c3))) ?_;refine cf rfl ?_;refine cf c4 ?_;refine bd (a:=()) (tX (by unfold aD;exact cf rfl rfl)) ?_;rfl
end
set_option maxRecDepth 100000
theorem zPz (h:e.Digests=dgE active (e.Kind != 5) b):Fit e active 0/\Fit e active 1:=by
 unfold Fit;rw [h];unfold dgE;constructor
 ·show (((if ((e.Kind != 5)&&xH active 0)=true then lZ b else []):By).length:Int)=if e.Kind≠5/\xH active 0=true then siz 0 else 0
  by_cases hk:e.Kind=5
  ·rw [if_neg (by simp [hk]),if_neg (λh=>h.1 hk)];rfl
  ·cases hb:xH active 0
   ·rw [if_neg (by simp),if_neg (λh=>by cases h.2)];rfl
   ·rw [if_pos (by simp [hk]),if_pos ⟨hk,rfl⟩,zLy];rfl
 ·show (((if ((e.Kind != 5)&&xH active 1)=true then sha b else []):By).length:Int)=if e.Kind≠5/\xH active 1=true then siz 1 else 0
  by_cases hk:e.Kind=5
  ·rw [if_neg (by simp [hk]),if_neg (λh=>h.1 hk)];rfl
  ·cases hb:xH active 1
   ·rw [if_neg (by simp),if_neg (λh=>by cases h.2)];rfl
   ·rw [if_pos (by simp [hk]),if_pos ⟨hk,rfl⟩,zGk];rfl
theorem zOl {reg kind:Int} {data:By} (h1:1<=active) (h3:active<=3) (r0:0<=reg) (r1:reg<=11) (k1:1<=kind) (k5:kind<=5) (hd:data.length<=64):EvC (mkE reg kind active data) active:=by
 obtain ⟨f0,f1⟩:=zPz (e:=mkE reg kind active data) (active:=active) (b:=data) rfl;exact ⟨⟨r0,r1,hd,rfl,f0,f1⟩,h1,h3,k1,k5⟩
theorem zWu (r:Int) (h1:1<=r) (h4:r<=4):0<=rgR r/\rgR r<=11:=by
 unfold rgR;split
 ·omega
 split
 ·omega
 split
 ·omega
 split<;>omega
theorem zUe (x:zD) (h:sV x):(lbl x).length<=33:=by
 have h1:=h.nl;have h2:=aW 20 x.Version.toNat;unfold lbl;rw [Q0,Q0,Qh];omega
theorem zW1 {x:zD} (h1:1<=active) (h3:active<=3) (h:sV x):EvC (imE active x) active:=by
 obtain ⟨f0,f1⟩:=zPz (e:=imE active x) (active:=active) (b:=pY x) rfl;have hr:=zWu x.Role h.r1 h.r4;have hl:=zUe x h;exact ⟨⟨hr.1,hr.2,by show (lbl x).length<=64;omega,rfl,f0,f1⟩,h1,h3,by show (1:Int)<=1;omega,by show (1:Int)<=5;omega⟩
theorem zPv (h:e∈evR active role l):∃ x∈l,x.Role=role/\((role=4/\∃ d∈zF3 x,e=mkE 9 3 active d)∨(role≠4/\e=imE active x)):=by
 unfold evR at h;obtain ⟨x,hx,he⟩:=List.mem_flatMap.1 h;by_cases hr:x.Role=role
 ·rw [if_pos hr] at he;by_cases h4:role=4
  ·rw [if_pos h4] at he;obtain ⟨d,hd,rfl⟩:=Qu.1 he;exact ⟨x,hx,hr,.inl ⟨h4,d,hd,rfl⟩⟩
  ·rw [if_neg h4] at he;exact ⟨x,hx,hr,.inr ⟨h4,by simpa using he⟩⟩
 ·rw [if_neg hr] at he;cases he
theorem zKm (h1:1<=active) (h3:active<=3) (hc:pN l):∀ e∈evR active role l,EvC e active:=by
 intro e he;obtain ⟨x,hx,hr,⟨h4,d,hd,rfl⟩ | ⟨_,rfl⟩⟩:=zPv he
 ·have:=((zKg x (hc.im x hx) (by omega)).2.2 d hd).2.1;exact zOl h1 h3 (by omega) (by omega) (by omega) (by omega) (by omega)
 ·exact zW1 h1 h3 (hc.im x hx)
theorem zMr (h:e∈dY active):∃ i:Nat,i<8/\e=mkE (i:Int) 2 active [0,0,0,0]:=by
 unfold dY at h;obtain ⟨i,hi,rfl⟩:=Qu.1 h;exact ⟨i,List.mem_range.1 hi,rfl⟩
theorem zAf (h1:1<=active) (h3:active<=3) (hc:pN l):∀ e∈evs l active,EvC e active:=by
 intro e he;unfold evs at he;simp only [Qs] at he;rcases he with ((he | he) | (he | he)) | he
 ·exact zKm h1 h3 hc e he
 ·exact zKm h1 h3 hc e he
 ·obtain ⟨i,hi,rfl⟩:=zMr he;exact zOl h1 h3 (by omega) (by omega) (by omega) (by omega) (by decide)
 ·exact zKm h1 h3 hc e he
 ·exact zKm h1 h3 hc e he
theorem zM7:∀ e∈evs l active,e.Kind≠5:=by
 have hR:∀ role,∀ e∈evR active role l,e.Kind≠5:=by
  intro role e he;obtain ⟨x,_,_,⟨_,d,_,rfl⟩ | ⟨_,rfl⟩⟩:=zPv he
  ·exact show (3:Int)≠5 by decide
  ·exact show (1:Int)≠5 by decide
 intro e he;unfold evs at he;simp only [Qs] at he;rcases he with ((he | he) | (he | he)) | he
 ·exact hR _ e he
 ·exact hR _ e he
 ·obtain ⟨i,_,rfl⟩:=zMr he;exact show (2:Int)≠5 by decide
 ·exact hR _ e he
 ·exact hR _ e he
def zUq (active:Int):zB:=mkE 0 4 active [99,104,97,105,110]
theorem zP1 (h1:1<=active) (h3:active<=3):EvC (zUq active) active:=zOl h1 h3 (by decide) (by decide) (by decide) (by decide) (by decide)
set_option maxRecDepth 100000
theorem zT8:∀ n:Nat,n<256->beN (n:Int) 1 1=[u8 (n:Int)]:=by decide +kernel
theorem zX9 {a:Int} (h0:0<=a) (h:a<256):beN a 1 1=[u8 a]:=by
 obtain ⟨n,rfl⟩:=Int.eq_ofNat_of_zero_le h0;exact zT8 n (by omega)
theorem zT0 (a r:Int) (h1:1<=a) (h3:a<=3) (h0:0<=r) (hr:r<=1099511627776):xZ a r=some (oW a r):=by
 unfold xZ;refine bd (a:=false) (cf (by simp;omega) (cf (by simp;omega) (cf (by simp;omega) (congrArg some (by simp;omega))))) ?_;refine cf rfl ?_;refine bd (wU _ 1 a (by omega) (by omega) (by simp)) ?_;refine bd (wU _ 6 r (by omega) (by omega) (by simp [yO])) ?_;rw [zX9 (by omega) (by omega)];rfl
theorem zEz (e:zB) (active:Int) (h:EvC e active):iQ e=some (sC e):=by
 have q0:=jL h.f0;have q1:=jL h.f1;have hd:=h.d;have hl:=h.l;have r0:=h.r0;have r1:=h.r1;have k1:=h.k1;have k5:=h.k5;obtain ⟨reg,kind,dg,data⟩:=e
 match dg,hl with
 | [x,y],_=>
 simp only at q0 q1 hd r0 r1 k1 k5;have q0:x.length<=32:=q0;have q1:y.length<=32:=q1;have hen:wJ ⟨reg,kind,[x,y],data⟩=some true:=by
  unfold wJ;refine bd (a:=false) (cf (decide_eq_false (by simp only;omega)) (cf (decide_eq_false (by simp only;omega)) (cf (decide_eq_false (by simp only;omega)) (cf (decide_eq_false (by simp only;omega)) (cf rfl (congrArg some (decide_eq_false (by simp only;omega)))))))) ?_;refine cf rfl ?_;refine bd (a:=.inr ()) (yG 2 (λi=>(i:Int)) rfl ?_ ?_ (xM (by omega))) rfl
  ·intro i hi;unfold vH;rcases (show i=0∨i=1 by omega) with rfl | rfl
   ·exact ct rfl (bd (a:=x) rfl (bd (a:=32) rfl (cf (decide_eq_false (by omega)) rfl)))
   ·exact ct rfl (bd (a:=y) rfl (bd (a:=32) rfl (cf (decide_eq_false (by omega)) rfl)))
  ·unfold vH;exact cf rfl rfl
 unfold iQ;refine bd hen (cf rfl ?_);refine bd (wU [] 1 reg (by omega) (by omega) (by simp)) ?_;refine bd (wU _ 1 kind (by omega) (by omega) (by simp [yO])) ?_;rw [zX9 (by omega) (by omega),zX9 (by omega) (by omega)];refine bd (a:=([u8 reg,u8 kind]++bl x)++bl y) (yG 2 (λi=>(if i=0 then [u8 reg,u8 kind] else if i=1 then [u8 reg,u8 kind]++bl x else ([u8 reg,u8 kind]++bl x)++bl y,(i:Int))) rfl ?_ ?_ (xM (by omega))) ?_
 ·intro i hi;unfold jO;rcases (show i=0∨i=1 by omega) with rfl | rfl
  ·exact ct rfl (bd (a:=x) rfl (bd (wB _ x (by simp) (by omega)) rfl))
  ·exact ct rfl (bd (a:=y) rfl (bd (wB _ y (by simp [uB];omega) (by omega)) rfl))
 ·unfold jO;exact cf rfl rfl
 refine bd (wB _ data (by simp [uB];omega) (by omega)) ?_;show some _=some _;unfold sC bl;simp
theorem zLj (active:Int) (es:List zB) (e:zB) (hk:e.Kind≠5):rpl active (es++[e])=ext active e (rpl active es):=by
 unfold rpl;rw [List.foldl_append];simp [hk]
theorem zJr (es:List zB) (e:zB):tW (es++[e])=tW es++bl (sC e):=by simp [tW,bl]
structure Mz (d:zC) (seq:Nat) (st:zQ) (vo:yB) (m:Nat) (es:List zB):Prop extends Dv d seq st vo m where
 v1:vo.Started=true
 v2:vo.Registers=rpl st.Active es
 lg:d.Disk.Areas.getD 2 []=oW st.Active st.Resets++tW es
section
theorem Mz.step (h:Mz d seq st vo m es) (hx:EvC x st.Active) (hk:x.Kind≠5) (hs:es.length<=40) (he:∀ e∈es,EvC e st.Active) (hm:m+1<2 ^ 50) :
  ∃ d' vo',sQ (zM.mk d []) x=some (0,zM.mk d' [])/\Mz d' seq st vo' (m+1) (es++[x])/\∀ a,3<=a->d'.Disk.Areas.getD a []=d.Disk.Areas.getD a []:=by
 have hr:=zPy st vo x st.Active h.v1 (by rw [h.v2];exact zIa _ _ h.sst.a0 h.sst.a3) hx.toEvGood hk;have h1:=h.toDv.send_same hr;have hv:=h.toDv.vol (vo':=zFp (ext st.Active x vo.Registers) vo);have hd:=zHh (rqE hx.toEvGood) h1 zRf rfl (by decide) (zM.mk d []) rfl;have hb:=jE hx.toEvGood;have hf:=zD2 es he;have hap:=hv.append (a:=2) (bl (sC x)) (by decide) (by rw [uB];omega);have hy:(d.Disk.Areas.getD 2 []++bl (sC x)).length<2 ^ 39:=by rw [Q0,h.lg,Q0,pO,uB];omega
 refine ⟨gV ⟨d.Disk,⟨st,zFp (ext st.Active x vo.Registers) vo⟩,d.On,d.Next⟩ 2 (d.Disk.Areas.getD 2 []++bl (sC x)),zFp (ext st.Active x vo.Registers) vo,?_,⟨hv.set (by decide) (by decide) hy hm,h.v1,?_,?_⟩,λa ha=>getD_set_ne (by omega)⟩
 ·unfold sQ;refine bd hd ?_;refine bd (a:=(0,zM.mk (gV ⟨d.Disk,⟨st,zFp (ext st.Active x vo.Registers) vo⟩,d.On,d.Next⟩ 2 (d.Disk.Areas.getD 2 []++bl (sC x))) [])) ?_ rfl;refine ct rfl ?_;refine bd (zEz x st.Active hx) ?_;refine bd (wB [] _ (by simp) (by omega)) ?_;rw [Qk];refine bd hap ?_;rfl
 ·show ext st.Active x vo.Registers=_;rw [zLj _ _ _ hk,h.v2]
 ·show (d.Disk.Areas.set 2 _).getD 2 []=_;rw [wO (by have:=h.n;omega),h.lg,zJr,Q4]
end
set_option maxRecDepth 100000
def oY (l:List zD):By:=hs 20 [zAp l]++zAp l
theorem iW (l:List zD):(oY l).length=32+(zAp l).length:=by simp [oY,zCl]
theorem zNr (h:s<2):(bif ((s:Int) != 0) then (some ((s:Int) != 1)) else some false:Option Bool)=some false:=by
 rcases (show s=0∨s=1 by omega) with rfl | rfl<;>rfl
theorem zVv (h:s<2):Q9.wrap (3+(s:Int))=((3+s:Nat):Int):=by rw [yQ (by omega) (by omega)];omega
theorem zMj (d:zC) (hs':s<2) (hc:zF2 l) {r:zC×Int} (hw:vN d ((3+s:Nat):Int) (oY l)=some r):mK d (s:Int) l=some r:=by
 have hl:=gA hc;unfold mK;refine bd (zNr hs') (cf rfl ?_);refine bd hc.p (cf rfl ?_);refine bd (yAw hc) ?_;refine bd (zH3 20 [zAp l] (by simp [tot];omega)) ?_;refine bd (yI (by rw [zCl];omega)) ?_;rw [zVv hs'];exact bd hw rfl
section
theorem Dv.install (h:Dv d seq st vo m) (hs':s<2) (hc:zF2 l):mK d (s:Int) l=some (gV d (3+s) (oY l),0):=by
 have hl:=gA hc;exact zMj d hs' hc (h.write _ (by omega) (by rw [iW];omega))
theorem zNf (d:zC) (hs':s<2) {r:zC×Int} (hw:vN d 5 [u8 (s:Int)]=some r):jF d (s:Int)=some r:=by
 unfold jF;refine bd (zNr hs') (cf rfl ?_);exact bd hw rfl
theorem Dv.choose (h:Dv d seq st vo m) (hs':s<2):jF d (s:Int)=some (gV d 5 [u8 (s:Int)],0):=
 zNf d hs' (h.write (a:=5) [u8 (s:Int)] (by decide) (by simp))
theorem zJo (d:zC) (ho:d.Disk.Off=false) (ha:5<d.Disk.Areas.length) (hold:(d.Disk.Areas.getD 5 []).length<2 ^ 40):uL d=some (if d.Disk.Areas.getD 5 []=[1] then 1 else 0):=by
 have hr:uO d.Disk 5=some (d.Disk.Areas.getD 5 [],0):=zBc d.Disk 5 ho ha hold;unfold uL;refine bd hr ?_;refine bd (a:=d.Disk.Areas.getD 5 []==[1]) (ct rfl (bd (zMo _ _) rfl)) ?_;by_cases h:d.Disk.Areas.getD 5 []=[1]
 ·rw [if_pos h];exact ct (by rw [h];rfl) rfl
 ·rw [if_neg h];exact cf (by simpa using h) rfl
def zC5 (c:By):Option (List zD×Int):=if 32<=c.length/\c.take 32=hs 20 [c.drop 32] then uP (c.drop 32) else some ([],30)
theorem zHm (d:zC) (hs':s<2) (ho:d.Disk.Off=false) (ha:3+s<d.Disk.Areas.length) (hold:(d.Disk.Areas.getD (3+s) []).length<2 ^ 30):sU d (s:Int)=zC5 (d.Disk.Areas.getD (3+s) []):=by
 have hr:uO d.Disk (Q9.wrap (3+(s:Int)))=some (d.Disk.Areas.getD (3+s) [],0):=by rw [zVv hs'];exact zBc d.Disk (3+s) ho ha (by omega)
 unfold sU;refine bd (zNr hs') (cf rfl ?_);refine bd hr (cf rfl ?_);generalize d.Disk.Areas.getD (3+s) []=c at hold;unfold zC5;by_cases h32:32<=c.length
 ·have h1:sub c 0 32=some (c.take 32):=sD (a:=0) (b:=32) (by decide) h32;have h2:sub c 32 c.length=some (c.drop 32):=by
   have:=sD (l:=c) (a:=32) (b:=c.length) h32 (Q8 _);rw [Q2 (by rw [Qm];omega)] at this;exact this
  refine bd (a:=!(c.take 32==hs 20 [c.drop 32])) (cf (decide_eq_false (by omega)) (bd h1 (bd h2 (bd (zH3 20 [c.drop 32] (by simp [tot];omega)) (bd (zMo _ _) rfl))))) ?_;by_cases he:c.take 32=hs 20 [c.drop 32]
  ·rw [if_pos ⟨h32,he⟩];refine cf (by simp [he]) ?_;refine bd h2 ?_;cases uP (c.drop 32)<;>rfl
  ·rw [if_neg (λh=>he h.2)];exact ct (by simp [he]) rfl
 ·rw [if_neg (λh=>h32 h.1)];exact bd (a:=true) (ct (decide_eq_true (by omega)) rfl) (ct rfl rfl)
theorem zAd (hc:zF2 l):zC5 (oY l)=some (l,0):=by
 have hd:(oY l).drop 32=zAp l:=by unfold oY;rw [List.drop_append_of_le_length (by rw [zCl];omega),List.drop_of_length_le (by rw [zCl];omega),Qk]
 have ht:(oY l).take 32=hs 20 [zAp l]:=by unfold oY;rw [Qg (by rw [zCl];omega),Q2 (by rw [zCl];omega)]
 unfold zC5;rw [if_pos ⟨by rw [iW];omega,by rw [ht,hd]⟩,hd];exact yDd hc
theorem zNs:zC5 []=some ([],30):=by
 unfold zC5;rw [if_neg (λh=>by have:=h.1;simp at this)]
theorem zRj (b:By):Def (zBh b) (λr=>r.length=32):=by
 unfold zBh;refine Q1 (Def.mkN (by decide) (by decide)) (λn hn=>?_);refine Q1 (Def.ck (by simp)) (λ_ _=>?_);refine Def.lt ?_;refine Q1 (Def.ck (by rw [zKj];simp)) (λ_ _=>?_);exact Q1 (Def.ck (zFl (by
                 have e:(32:Int).toNat=32:=rfl;omega))) (λ_ _=>Q6 (by rw [zKj,List.length_replicate,hn];rfl))
theorem zJy (e:By) (active:Int) (he:e.length=32) (h1:1<=active) (h3:active<=3):Def (nT 8 e active) (λr=>r.2=0/\(∃ d0,r.1=jM d0)/\∃ st,tQ r.1=some (onD r.1 1 st,0)/\(∀ m,m<2 ^ 50->Dv (onD r.1 1 st) 1 st zQ1 m)/\st.Active=active/\st.Resets=0/\∀ a,a≠1->r.1.Disk.Areas.getD a []=[]):=by
 refine (zMx e active he h1 h3).mono λr hr=>?_;obtain ⟨h0,⟨d0,hd⟩,st,hk,ha,hr0,hz⟩:=hr;refine ⟨h0,⟨d0,hd⟩,st,zIm r.1 1 st (.inl (by rw [hd];rfl)) hk.n hk.al hk.jr hk.sst,λm hm=>Dv.of_on hk.n hk.al hk.jr hk.sst m hm,ha,hr0,hz⟩
theorem zJk (en:By) (active:Int) (h1:1<=active) (h3:active<=3) (hc:zF2 l):Def (lU en active l) (λr=>r.2=true/\∃ st,Dv r.1 1 st zQ1 2/\st.Active=active/\st.Resets=0/\r.1.Disk.Areas.getD 3 []=oY l/\r.1.Disk.Areas.getD 4 []=[]/\r.1.Disk.Areas.getD 5 []=[0]/\r.1.Disk.Areas.getD 0 []=[]/\r.1.Disk.Areas.getD 2 []=[]):=by
 have hl:=gA hc;unfold lU;refine Q1 (zRj en) (λe he=>?_);refine Q1 (zJy e active he h1 h3) (λr hr=>?_);obtain ⟨x,c⟩:=r;obtain ⟨h0,⟨d0,rfl⟩,st,hp,hv,ha,hr0,hz⟩:=hr;simp only at h0 hp hv hz;subst h0;have hv0:=hv 0 (by decide);have hv1:=hv0.set (a:=3) (y:=oY l) (by decide) (by decide) (by rw [iW];omega) (by decide);have hv2:=hv1.set (a:=5) (y:=[u8 ((0:Nat):Int)]) (by decide) (by decide) (by simp) (by decide);refine db (a:=(onD (jM d0) 1 st,0)) hp ?_;refine db (hv0.install (s:=0) (by decide) hc) ?_;refine db (hv1.choose (s:=0) (by decide)) ?_;refine db (a:=true) rfl ?_;have hn:=hv0.n;refine Q6 ⟨rfl,st,hv2,ha,hr0,?_,?_,?_,?_,?_⟩
 ·show (((onD (jM d0) 1 st).Disk.Areas.set 3 (oY l)).set 5 _).getD 3 []=_;rw [getD_set_ne (by decide),wO (by omega)]
 ·show (((onD (jM d0) 1 st).Disk.Areas.set 3 (oY l)).set 5 _).getD 4 []=_;rw [getD_set_ne (by decide),getD_set_ne (by decide)];exact hz 4 (by decide)
 ·show (((onD (jM d0) 1 st).Disk.Areas.set 3 (oY l)).set 5 _).getD 5 []=_;rw [wO (by rw [List.length_set];omega)];rfl
 ·show (((onD (jM d0) 1 st).Disk.Areas.set 3 (oY l)).set 5 _).getD 0 []=_;rw [getD_set_ne (by decide),getD_set_ne (by decide)];exact hz 0 (by decide)
 ·show (((onD (jM d0) 1 st).Disk.Areas.set 3 (oY l)).set 5 _).getD 2 []=_;rw [getD_set_ne (by decide),getD_set_ne (by decide)];exact hz 2 (by decide)
theorem zR9 (en:By) (active:Int) (h1:1<=active) (h3:active<=3) (hc:zF2 l):Def (lU en active l) (λr=>r.2=true/\∃ st,Dv r.1 1 st zQ1 2/\st.Active=active/\st.Resets=0/\r.1.Disk.Areas.getD 3 []=oY l/\r.1.Disk.Areas.getD 4 []=[]/\r.1.Disk.Areas.getD 5 []=[0]):=
 (zJk en active h1 h3 hc).mono λ_ ⟨a,st,b,c,d,e,f,g,_⟩ =>⟨a,st,b,c,d,e,f,g⟩
end
set_option maxRecDepth 100000
theorem zTw (es:List zB) (h40:es.length<=40) (hE:∀ e∈es,EvC e st.Active) (hK:∀ e∈es,e.Kind≠5) (n:Nat):∀ (i fuel:Nat) (d:zC) (vo:yB) (m:Nat),i+n=es.length->n<fuel->Mz d seq st vo m (es.take i)->m+n<2 ^ 50 ->
  ∃ d' vo',zL (xW es) fuel ((i:Int),0,zM.mk d [])=some (.inr (0,zM.mk d' []))/\Mz d' seq st vo' (m+n) es/\∀ a,3<=a->d'.Disk.Areas.getD a []=d.Disk.Areas.getD a []:=by
 induction n with
 | zero=>
  intro i fuel d vo m hi hf h _;obtain ⟨f,rfl⟩:∃ f,fuel=f+1:=⟨fuel - 1,by omega⟩;have hi:i=es.length:=by omega
  subst hi;rw [Qb] at h;refine ⟨d,vo,?_,h,λ_ _=>rfl⟩;have:xW es ((es.length:Int),0,zM.mk d [])=some (.inr (.inr (0,zM.mk d []))):=by
   unfold xW;exact cf (decide_eq_false (by omega)) rfl
  simp only [zL,this]
 | succ n ih=>
  intro i fuel d vo m hi hf h hm;obtain ⟨f,rfl⟩:∃ f,fuel=f+1:=⟨fuel - 1,by omega⟩;have hl:i<es.length:=by omega
  have hmem:es[i]∈es:=Q3 _;obtain ⟨d1,vo1,e1,h1,s1⟩:=h.step (hE _ hmem) (hK _ hmem) (by rw [Q7];omega) (λe he=>hE e (Qe he)) (by omega);rw [show es.take i++[es[i]]=es.take (i+1) from by rw [Qa];simp [hl]] at h1;obtain ⟨d2,vo2,e2,h2,s2⟩:=ih (i+1) f d1 vo1 (m+1) (by omega) (by omega) h1 (by omega);refine ⟨d2,vo2,?_,by rw [show m+(n+1)=m+1+n from by omega];exact h2,λa ha=>(s2 a ha).trans (s1 a ha)⟩;have:xW es ((i:Int),0,zM.mk d [])=some (.inl (((i+1:Nat):Int),0,zM.mk d1 [])):=by
   unfold xW;refine ct (decide_eq_true (by omega)) (bd (yM hl) (bd e1 (cf rfl ?_)));rw [yQ (by omega) (by omega)];rfl
  simp only [zL,this];exact e2
section
theorem Dv.start (h:Dv d seq st vo m) (hs:vo.Started=false) (hp:vo.Stopped=false) (hR:st.Resets+1<2 ^ 30) (hq:seq+1<2 ^ 29) (hm:m+1<2 ^ 50):∃ d1 seq1,vG (zM.mk d []) (yA.mk 1 [] [] [0] [])=some (zP.mk 0 [] [] [],0,zM.mk d1 [])/\Dv d1 seq1 (stS st) (zG6 st vo) (m+1)/\seq1<=seq+1/\∀ a,2<=a->d1.Disk.Areas.getD a []=d.Disk.Areas.getD a []:=by
 obtain ⟨d1,seq1,e,h1,h2,h3⟩:=h.send_new (h.sst.S hR) hq hm (zJf st vo h.sst hs hp);exact ⟨d1,seq1,zHh rqS e zRf rfl (by decide) (zM.mk d []) rfl,h1,h2,h3⟩
def rK (d:zC):Nat:=if d.Disk.Areas.getD 5 []=[1] then 1 else 0
theorem zMq (d:zC):rK d<2:=by unfold rK;split<;>omega
theorem Dv.chosen (h:Dv d seq st vo m):uL d=some (rK d:Int):=by
 rw [zJo d h.off (by rw [h.n];decide) (by have:=h.al 5;omega)];unfold rK;split<;>rfl
def zEf (active c:Int) (pe:List zB):List zB:=if c=0 then pe else [zUq active]
theorem Dv.run (h:Dv d seq st vo m) (hs:vo.Started=false) (hp:vo.Stopped=false) (hR:st.Resets+1<2 ^ 30) (hq:seq+1<2 ^ 29) (hm:m+60<2 ^ 50)
  {ch:List zD} {pe:List zB} (hsm:(d.Disk.Areas.getD (3+rK d) []).length<2 ^ 30) (hch:zC5 (d.Disk.Areas.getD (3+rK d) [])=some (ch,c)) (hpe:vR ch st.Active=some pe)
  (h40:pe.length<=40) (hE:∀ e∈pe,EvC e st.Active) (hK:∀ e∈pe,e.Kind≠5) :
  ∃ d' seq' vo' m',uA d=some (d',if c=0 then 0 else 50)/\Mz d' seq' (stS st) vo' m' (zEf st.Active c pe)/\seq'<=seq+1/\m'<=m+43/\∀ a,3<=a->d'.Disk.Areas.getD a []=d.Disk.Areas.getD a []:=by
 obtain ⟨d1,seq1,e1,h1,hq1,s1⟩:=h.start hs hp hR hq (by omega);have hr0:=h.sst.r0;have hw:=h1.write (a:=2) (oW st.Active (st.Resets+1)) (by decide) (by rw [pO];decide);have h2:=h1.set (a:=2) (y:=oW st.Active (st.Resets+1)) (by decide) (by decide) (by rw [pO];decide) (by omega);have hge:∀ a,3<=a->(gV d1 2 (oW st.Active (st.Resets+1))).Disk.Areas.getD a []=d.Disk.Areas.getD a []:=λa ha=>(getD_set_ne (by omega)).trans (s1 a (by omega));have hn:rK (gV d1 2 (oW st.Active (st.Resets+1)))=rK d:=by unfold rK;rw [hge 5 (by decide)]
 have hlt:=zMq d;have hco:uL (gV d1 2 (oW st.Active (st.Resets+1)))=some (rK d:Int):=by rw [h2.chosen,hn]
 have hcc:sU (gV d1 2 (oW st.Active (st.Resets+1))) (rK d:Int)=some (ch,c):=by
  rw [zHm _ hlt h2.off (by rw [h2.n];omega) (by rw [hge _ (by omega)];exact hsm),hge _ (by omega),hch]
 have hz:Mz (gV d1 2 (oW st.Active (st.Resets+1))) seq1 (stS st) (zG6 st vo) (m+1+1) ((zEf st.Active c pe).take 0):=⟨h2,rfl,rfl,by
  show (d1.Disk.Areas.set 2 _).getD 2 []=_;rw [wO (by rw [h1.n];decide)];simp [tW,stS]⟩
 have hl40:(zEf st.Active c pe).length<=40:=by unfold zEf;split;exact h40;simp
 have hE':∀ e∈zEf st.Active c pe,EvC e (stS st).Active:=by
  intro e he;unfold zEf at he;split at he
  ·exact hE e he
  ·rw [Qf.1 he];exact zP1 h.sst.a0 h.sst.a3
 have hK':∀ e∈zEf st.Active c pe,e.Kind≠5:=by
  intro e he;unfold zEf at he;split at he
  ·exact hK e he
  ·rw [Qf.1 he];exact show (4:Int)≠5 by decide
 obtain ⟨d3,vo3,e3,h3,s3⟩:=zTw (seq:=seq1) (st:=stS st) (zEf st.Active c pe) hl40 hE' hK' (zEf st.Active c pe).length 0 FU _ _ (m+1+1) (by omega) (xM (by omega)) hz (by omega);refine ⟨d3,seq1,vo3,m+1+1+(zEf st.Active c pe).length,?_,h3,hq1,by omega,λa ha=>(s3 a ha).trans (hge a ha)⟩;have hst:d1.State=⟨stS st,zG6 st vo⟩:=h1.s;have hA:d1.State.Stable.Active=st.Active:=by rw [hst];rfl
 have hRs:d1.State.Stable.Resets=st.Resets+1:=by rw [hst];rfl
 unfold uA;refine cf (by rw [h.on];rfl) ?_;refine bd (a:=zM.mk d []) rfl ?_;refine bd (a:=(default,if c=0 then 0 else 50,zM.mk d3 [])) ?_ ?_
 ·refine bd e1 (cf rfl ?_);show (xZ d1.State.Stable.Active d1.State.Stable.Resets).bind _=_;rw [hA,hRs];refine bd (zT0 st.Active (st.Resets+1) h.sst.a0 h.sst.a3 (by omega) (by omega)) ?_;refine bd hw (cf rfl ?_);refine bd hco (bd hcc ?_);refine bd hpe ?_;refine bd (a:=zEf st.Active c pe) ?_ (bd e3 ?_)
  ·unfold zEf;by_cases hc:c=0
   ·rw [if_pos hc];exact cf (b0 hc) rfl
   ·rw [if_neg hc];exact ct (b1 hc) (bd (zHv 0 4 st.Active [99,104,97,105,110] (by decide)) rfl)
  ·show ((bif c != 0 then some 50 else some 0:Option Int).bind λe=>some ((default:zC),e,zM.mk d3 []))=_;by_cases hc:c=0
   ·rw [if_pos hc];exact bd (a:=0) (cf (b0 hc) rfl) rfl
   ·rw [if_neg hc];exact bd (a:=50) (ct (b1 hc) rfl) rfl
 ·refine bd (a:=(d3,if c=0 then 0 else 50,zM.mk d3 [])) ?_ rfl;unfold mA;refine cf ?_ rfl;split<;>rfl
end
set_option maxRecDepth 100000
def zEx:List zD:=[zD.mk 1 [102] 0 [],zD.mk 3 [107] 0 []]
theorem zTp:aX=some zEx:=rfl
theorem zJ6:pN zEx:=by
 have g1:sV (zD.mk 1 [102] 0 []):=⟨by decide,by decide,by decide,by decide,by rw [bN];decide +kernel,by decide,by decide,λh=>absurd h (by decide)⟩;have g3:sV (zD.mk 3 [107] 0 []):=⟨by decide,by decide,by decide,by decide,by rw [bN];decide +kernel,by decide,by decide,λh=>absurd h (by decide)⟩;refine ⟨by decide,?_,?_,⟨_,.head _,rfl⟩,⟨_,.tail _ (.head _),rfl⟩⟩
 ·intro x hx;rcases Qn.1 hx with rfl | hx
  ·exact g1
  ·rw [Qf.1 hx];exact g3
 ·refine .cons ?_ (.cons (by simp) .nil);intro y hy;rw [Qf.1 hy];exact ⟨by decide,by decide⟩
theorem zYi:zF2 zEx:=zJ6.ok
section
theorem Mz.log (h:Mz d seq st vo m es) (hE:∀ e∈es,EvC e st.Active) (h40:es.length<=40):jB d=some (⟨st.Active,st.Resets,es⟩,0):=by
 have hr0:=h.sst.r0;have hr1:=h.sst.r1;unfold jB;refine bd (h.toDv.read (a:=2) (by decide)) (cf rfl ?_);rw [h.lg];exact bd (zJz ⟨st.Active,st.Resets,es⟩ ⟨⟨hE,h40⟩,h.sst.a0,h.sst.a3,hr0,by show st.Resets<=1099511627776;omega⟩) rfl
theorem Dv.run_good (h:Dv d seq st vo m) (hs:vo.Started=false) (hp:vo.Stopped=false) (hR:st.Resets+1<2 ^ 30) (hq:seq+1<2 ^ 29) (hm:m+60<2 ^ 50) (hc:pN l) (hA:d.Disk.Areas.getD (3+rK d) []=oY l) :
  ∃ d' seq' vo' m',uA d=some (d',0)/\Mz d' seq' (stS st) vo' m' (evs l st.Active)/\seq'<=seq+1/\m'<=m+43/\∀ a,3<=a->d'.Disk.Areas.getD a []=d.Disk.Areas.getD a []:=by
 have hl:=gA hc.ok;have h1:=h.sst.a0;have h3:=h.sst.a3;obtain ⟨d',seq',vo',m',e,hz,r⟩:=h.run hs hp hR hq hm (ch:=l) (c:=0) (pe:=evs l st.Active) (by rw [hA,iW];omega) (by rw [hA];exact zAd hc.ok) (zIf l st.Active hc h1 h3) (aV l st.Active hc).2 (zAf h1 h3 hc) zM7;exact ⟨d',seq',vo',m',e,hz,r⟩
theorem Dv.run_none (h:Dv d seq st vo m) (hs:vo.Started=false) (hp:vo.Stopped=false) (hR:st.Resets+1<2 ^ 30) (hq:seq+1<2 ^ 29) (hm:m+60<2 ^ 50) (hA:d.Disk.Areas.getD (3+rK d) []=[]) :
  ∃ d' seq' vo' m',uA d=some (d',50)/\Mz d' seq' (stS st) vo' m' [zUq st.Active]:=by
 obtain ⟨d',seq',vo',m',e,hz,_⟩:=h.run hs hp hR hq hm (ch:=[]) (c:=30) (pe:=[]) (by rw [hA];decide) (by rw [hA];exact zNs) (zLu _) (by decide) (by simp) (by simp);exact ⟨d',seq',vo',m',e,hz⟩
theorem ev10:(evs zEx 2).length=10:=by decide +kernel
theorem zTg:eK=some true:=by
 obtain ⟨⟨x,ok⟩,em,hok,st,hv,ha,hr0,h3,h4,h5⟩:=zR9 [] 2 (by decide) (by decide) zYi;simp only at hok hv h3 h4 h5;subst hok;have hsl:rK x=0:=by unfold rK;rw [h5];rfl
 obtain ⟨d1,seq1,vo1,m1,e1,hz1,_⟩:=hv.run_good rfl rfl (by rw [hr0];decide) (by decide) (by decide) zJ6 (by rw [hsl];exact h3);have hact1:(stS st).Active=2:=ha;have hlog1:=hz1.log (by rw [ha];exact λe he=>by rw [hact1];exact zAf (by decide) (by decide) zJ6 e he) (by rw [ha];exact (aV zEx 2 zJ6).2);rw [ha] at hlog1;obtain ⟨⟨y,c⟩,ef,hc0,⟨d0,hd⟩,st2,hp2,hv2,ha2,hr2,hz2⟩:=zJy (List.replicate 32 0) 2 (by simp) (by decide) (by decide);simp only at hc0 hd hp2 hv2 hz2;subst hc0;subst hd;have hv2':=hv2 0 (by decide);have hA2:∀ a,2<=a->(onD (jM d0) 1 st2).Disk.Areas.getD a []=[]:=λa ha=>hz2 a (by omega);obtain ⟨d2,seq2,vo2,m2,e2,hzb⟩:=hv2'.run_none rfl rfl (by rw [hr2];decide) (by decide) (by decide) (hA2 _ (by omega));have hact2:(stS st2).Active=2:=ha2;have hlog2:=hzb.log (λe he=>by rw [Qf.1 he,hact2,ha2];exact zP1 (by decide) (by decide)) (by simp);unfold eK;refine bd zTp (bd em (cf rfl ?_));refine bd e1 (bd hlog1 ?_);refine bd (a:=32) rfl ?_;refine bd ef ?_;refine bd (a:=(onD (jM d0) 1 st2,0)) hp2 ?_;refine bd e2 (bd hlog2 ?_);refine bd (a:=true) ?_ rfl;refine ct rfl (ct rfl (ct ?_ (ct rfl (ct rfl (ct rfl (ct rfl (ct rfl ?_)))))))
 ·show (((evs zEx 2).length:Int)==10)=true;rw [ev10];rfl
 ·exact bd (a:=zUq st2.Active) rfl rfl
end
set_option maxRecDepth 100000
theorem zEi (a:List α) (f:α->α->Option Bool) (step:Int->Option (Int ⊕ (Bool ⊕ Unit))) (ha:a.length<2 ^ 40)
  (hs:∀ (i:Nat) (h:i<a.length),step (i:Int)=(f a[i] a[i]).bind λv=>bif !v then (some (.inr (.inl false))) else some (.inl (Q9.wrap ((i:Int)+1)))) (he:step (a.length:Int)=some (.inr (.inr ())))
  (hf:∀ x∈a,f x x=some true):zL step FU 0=some (.inr ()):=by
 refine yG a.length (λi=>(i:Int)) rfl (λi hi=>?_) he (xM (by omega));rw [hs i hi];refine bd (hf _ (Q3 _)) (cf rfl ?_);rw [yQ (by omega) (by omega)];rfl
theorem zN1 {a b:List zD} (hl:a.length=b.length) (i:Nat) (h:i<a.length):uF a b (i:Int)=(sG a[i] (b[i]'(hl▸h))).bind λv=>bif !v then (some (.inr (.inl false))) else some (.inl (Q9.wrap ((i:Int)+1))):=by
 unfold uF;exact ct (decide_eq_true (by omega)) (bd (yM h) (bd (yM (hl▸h)) rfl))
theorem zQk (a b:List zD):uF a b (a.length:Int)=some (.inr (.inr ())):=by
 unfold uF;exact cf (decide_eq_false (by omega)) rfl
theorem zQo (x y:zD) (h:x.Payload.length<2 ^ 40):sG x y=some (x.Role==y.Role&&(x.Name==y.Name&&(x.Version==y.Version&&x.Payload==y.Payload))):=by
 have hs:=zDp x.Payload y.Payload h;unfold sG;rw [hs];generalize (x.Role==y.Role)=a;generalize (x.Name==y.Name)=b;generalize (x.Version==y.Version)=c;cases a<;>cases b<;>cases c<;>rfl
theorem zHf {a:List zD} (h:zF2 a):nL a a=some true:=by
 have h8:=h.h8;unfold nL;refine cf (by simp) ?_;refine bd (zEi a sG (uF a a) (by omega) (λi hi=>zN1 rfl i hi) (zQk a a) (λx hx=>?_)) rfl;rw [zQo x x (by have:=(h.im x hx).f;omega)];simp
set_option maxRecDepth 100000
theorem zR8 (h:zFy active r) (a:Nat) (ha:a<2) (i:Nat) (hi:i<12) :
  (xH active (a:Int)=true->∃ x,lT r (a:Int) (i:Int)=some (x,0)/\x=(r.Banks.getD a []).getD i []/\x.length<=32)/\(xH active (a:Int)=false->lT r (a:Int) (i:Int)=some ([],27)):=by
 obtain ⟨bk,u⟩:=r;obtain ⟨b0,b1,hB,l0,l1,h0,h1⟩:=h.b;simp only at hB;subst hB;have hg:∀ a:Nat,a<2->(bif decide ((a:Int)<0) then some true else bif decide ((2:Int)<=a) then some true else bif decide ((i:Int)<0) then some true else some (decide ((16:Int)<=i)):Option Bool)=some false:=λa ha=>
  cf (decide_eq_false (by omega)) (cf (decide_eq_false (by omega)) (cf (decide_eq_false (by omega)) (congrArg some (decide_eq_false (by omega)))))
 unfold lT;rcases (show a=0∨a=1 by omega) with rfl | rfl
 ·constructor
  ·intro hb;have hb:xH active 0=true:=hb;rw [hb] at l0;have l0:b0.length=16:=l0;have hx:b0[i]∈b0:=Q3 _;refine ⟨b0[i],?_,by simp [List.getD,show i<b0.length by omega],h0 _ hx⟩;refine bd (hg 0 ha) (cf rfl ?_);refine bd (zE1 b0 b1 u).1 (cf (by rw [l0];rfl) ?_);refine bd (a:=b0) rfl (bd (yM (by omega)) (bd (zGq _ (by have:=h0 _ hx;omega)) rfl))
  ·intro hb;have hb:xH active 0=false:=hb;rw [hb] at l0;have l0:b0.length=0:=l0;refine bd (hg 0 ha) (cf rfl ?_);exact bd (zE1 b0 b1 u).1 (ct (by rw [l0];rfl) rfl)
 ·constructor
  ·intro hb;have hb:xH active 1=true:=hb;rw [hb] at l1;have l1:b1.length=16:=l1;have hx:b1[i]∈b1:=Q3 _;refine ⟨b1[i],?_,by simp [List.getD,show i<b1.length by omega],h1 _ hx⟩;refine bd (hg 1 ha) (cf rfl ?_);refine bd (zE1 b0 b1 u).2 (cf (by rw [l1];rfl) ?_);refine bd (a:=b1) rfl (bd (yM (by omega)) (bd (zGq _ (by have:=h1 _ hx;omega)) rfl))
  ·intro hb;have hb:xH active 1=false:=hb;rw [hb] at l1;have l1:b1.length=0:=l1;refine bd (hg 1 ha) (cf rfl ?_);exact bd (zE1 b0 b1 u).2 (ct (by rw [l1];rfl) rfl)
theorem zM1 (h:zFy active r) (a:Nat) (ha:a<2):zL (qK r r active (a:Int)) FU 0=some (.inr ()):=by
 cases hb:xH active (a:Int) with
 | false=>
  refine tX ?_;unfold qK;exact bd (a:=false) (ct rfl (congrArg some hb)) (cf rfl rfl)
 | true=>
  refine yG 12 (λi=>(i:Int)) rfl (λi hi=>?_) ?_ (xM (by omega))
  ·obtain ⟨x,hv,_,hx⟩:=(zR8 h a ha i hi).1 hb;unfold qK;refine bd (a:=true) (ct (decide_eq_true (by omega)) (congrArg some hb)) (ct rfl ?_);refine bd hv (bd hv ?_);refine bd (a:=false) (cf rfl (cf rfl (bd (zDp x x (by omega)) (by simp)))) (cf rfl ?_);rw [yQ (by omega) (by omega)];rfl
  ·unfold qK;exact bd (a:=false) (cf rfl rfl) (cf rfl rfl)
theorem zFc (h:zFy active r):iI r r active=some true:=by
 unfold iI;refine bd (a:=.inr ()) (yG 2 (λi=>(i:Int)) rfl (λi hi=>?_) ?_ (xM (by omega))) rfl
 ·unfold jP;refine ct (decide_eq_true (by omega)) (bd (zM1 h i hi) ?_);show (some (.inl (Q9.wrap ((i:Int)+1))):Option (Int ⊕ (Bool ⊕ Unit)))=_;rw [yQ (by omega) (by omega)];rfl
 ·unfold jP;exact cf rfl rfl
theorem zH8 (hc:pN l) (h1:1<=active) (h3:active<=3):kM l active=some (rpl active (evs l active),0):=by
 have hle:=aV l active hc;obtain ⟨⟨r,e⟩,er,hr,he⟩:=zNd ⟨active,0,evs l active⟩ (by show (evs l active).length<2 ^ 20;omega) h1 h3;have he:e=0:=he (zAf h1 h3 hc);subst he;have hr:r=rpl active (evs l active):=hr rfl;subst hr;unfold kM;refine bd (zC1 l hc) (cf rfl ?_);refine bd (a:=false) (cf (decide_eq_false (by omega)) (congrArg some (decide_eq_false (by omega)))) (cf rfl ?_);refine bd (dI l active hc h1 h3) ?_;exact bd er rfl
theorem zNw (a:List By) (ha:a.length<2 ^ 40) (hf:∀ x∈a,x.length<2 ^ 40):cP a a=some true:=by
 unfold cP;refine cf (by simp) ?_;refine bd (zEi a nV (kW a a) ha (λi hi=>?_) ?_ (λx hx=>?_)) rfl
 ·unfold kW;exact ct (decide_eq_true (by omega)) (bd (yM hi) (bd (yM hi) rfl))
 ·unfold kW;exact cf (decide_eq_false (by omega)) rfl
 ·rw [zDp x x (hf x hx)];simp
theorem zIg (h:EvC e active):qG e e=some true:=by
 have hl:=h.l;have hd:=h.d;have hq:∀ x∈e.Digests,x.length<2 ^ 40:=by
  intro x hx;have f0:=jL h.f0;have f1:=jL h.f1
  match hd:e.Digests,hl with
  | [a,b],_=>
   rw [hd] at hx f0 f1;have f0:a.length<=32:=f0;have f1:b.length<=32:=f1;simp only [Qn,Qp,or_false] at hx;rcases hx with rfl | rfl<;>omega
 unfold qG;refine bd (a:=true) (ct (by simp) (ct (by simp) (bd (zNw e.Digests (by omega) hq) (ct rfl (bd (zDp e.Data e.Data (by omega)) (by simp)))))) rfl
theorem jS (h:∀ e∈es,EvC e active) (hn:es.length<=40):tO es es=some true:=by
 unfold tO;refine cf (by simp) ?_;refine bd (zEi es qG (sY es es) (by omega) (λi hi=>?_) ?_ (λx hx=>zIg (h x hx))) rfl
 ·unfold sY;exact ct (decide_eq_true (by omega)) (bd (yM hi) (bd (yM hi) rfl))
 ·unfold sY;exact cf (decide_eq_false (by omega)) rfl
section
theorem Mz.started (h:Mz d seq st vo m (evs l st.Active)) (hc:pN l):tJ d l st.Active=some true:=by
 have h1:=h.sst.a0;have h3:=h.sst.a3;have hok:=zAf h1 h3 hc;have hn:=(aV l st.Active hc).2;have hs:d.State.Stable=st:=by rw [h.s]
 have hr:d.State.Volatile.Registers=rpl st.Active (evs l st.Active):=by rw [h.s];exact h.v2
 unfold tJ;refine bd (zH8 hc h1 h3) ?_;refine bd (h.log hok hn) ?_;refine bd (a:=true) ?_ rfl;refine ct rfl (ct rfl (ct h.on (ct (by rw [hs,h.sst.st];rfl) (ct (by simp) (ct (by rw [hs];simp) ?_)))));refine bd (dI l st.Active hc h1 h3) (bd (jS hok hn) (ct rfl ?_));rw [hr];exact bd (zFc (zIa _ _ h1 h3)) rfl
end
set_option maxRecDepth 100000
section
def eB (torn:Int) (old y:By):By:=y.take (min torn.toNat y.length)++old.drop (min torn.toNat y.length)
end
set_option maxRecDepth 100000
structure Dx (d:zC) (seq:Nat) (st:zQ) (vo:yB) (m:Nat):Prop extends Dk d.Disk seq st m where
 on:d.On=true
 off:d.Disk.Off=false
 s:d.State=⟨st,vo⟩
 nx:d.Next=(seq:Int)+1
structure Dl (z:zC) (seq:Nat) (st:zQ) (m:Nat):Prop extends Dk z.Disk seq st m where
 on:z.On=false
section
theorem Dx.vol (h:Dx d seq st vo m):Dx ⟨d.Disk,⟨st,vo'⟩,d.On,d.Next⟩ seq st vo' m:=⟨h.toDk,h.on,h.off,rfl,h.nx⟩
theorem Dk.set {x:zT} (h:Dk x seq st m) (ha:2<=a) (h8:a<8) (hy:y.length<2 ^ 39) (hm:m+1<2 ^ 50):Dk (jY x a y) seq st (m+1):=by
 have hn:=h.n;have hm0:=h.m0;have hm1:=h.m1;have hw0:=h.ok.w0;have hw1:=h.ok.w1;refine ⟨⟨?_,?_,?_⟩,?_,hm,?_,zHc h.al hy (by omega),h.jr.other ha,h.sst⟩
 ·show (x.Areas.set a y).length<=64;simp;omega
 ·show 0<=x.Writes+1;omega
 ·show x.Writes+1<2 ^ 60;omega
 ·show x.Writes+1<=((m+1:Nat):Int);omega
 ·show (x.Areas.set a y).length=8;simp [hn]
theorem Dx.set (h:Dx d seq st vo m) (hc:¬ isC d.Disk) (ha:2<=a) (h8:a<8) (hy:y.length<2 ^ 39) (hm:m+1<2 ^ 50):Dx (gV d a y) seq st vo (m+1):=
 ⟨h.toDk.set ha h8 hy hm,h.on,by show decide (isC d.Disk)=false;exact decide_eq_false hc,h.s,h.nx⟩
theorem zS2 {x:zT} (hc:¬ isC x) (old y:By):wrC x old y=y:=by
 unfold wrC eX;rw [if_neg (show ¬ (x.Writes+1=x.CutAt) from hc),if_neg hc,Qb,Qc]
theorem zO9 {x:zT} (hc:isC x) (old y:By):wrC x old y=eB x.Torn old y:=by
 unfold wrC eB eX;rw [if_pos (show x.Writes+1=x.CutAt from hc),if_pos hc]
theorem zQv (t:Int) (old y:By) (h1:old.length<2 ^ 39) (h2:y.length<2 ^ 39):(eB t old y).length<2 ^ 39:=by
 unfold eB;rw [Q0,Q7,Qm];by_cases hy0:old.length<=min t.toNat y.length<;>omega
theorem Dx.write (h:Dx d seq st vo m) (hc:¬ isC d.Disk) (y:By) (h8:a<8) (hy:y.length<=65536):vN d (a:Int) y=some (gV d a y,0):=by
 have hw:=gG d.Disk a y h.ok h.off (by rw [h.n];exact h8) hy (by have:=h.al a;omega);rw [zS2 hc,show zAa d.Disk=0 from if_neg hc] at hw;unfold vN;exact bd hw (bd (zGp d _) rfl)
theorem Dx.append (h:Dx d seq st vo m) (hc:¬ isC d.Disk) (y:By) (h8:a<8) (hy:y.length<=65536):rL d (a:Int) y=some (gV d a (d.Disk.Areas.getD a []++y),0):=by
 have hw:=zE7 d.Disk a y h.ok h.off (by rw [h.n];exact h8) hy (by have:=h.al a;omega);have e:apC d.Disk (d.Disk.Areas.getD a []) y=d.Disk.Areas.getD a []++y:=by
  unfold apC eX;rw [if_neg (show ¬ (d.Disk.Writes+1=d.Disk.CutAt) from hc),Qb]
 rw [e,show zAa d.Disk=0 from if_neg hc] at hw;unfold rL;exact bd hw (bd (zGp d _) rfl)
theorem Dx.writeC (h:Dx d seq st vo m) (hc:isC d.Disk) (hm:m+1<2 ^ 50) (h2:2<=a) (h8:a<8) (y:By) (hy:y.length<=65536) :
  ∃ z,vN d (a:Int) y=some (z,29)/\Dl z seq st (m+1)/\z.Disk.Areas=d.Disk.Areas.set a (eB d.Disk.Torn (d.Disk.Areas.getD a []) y):=by
 have hw:=gG d.Disk a y h.ok h.off (by rw [h.n];exact h8) hy (by have:=h.al a;omega);rw [zO9 hc,show zAa d.Disk=29 from if_pos hc] at hw;have hk:=h.toDk.set (y:=eB d.Disk.Torn (d.Disk.Areas.getD a []) y) h2 h8 (zQv _ _ _ (h.al a) (by omega)) hm;exact ⟨_,by unfold vN;exact bd hw (bd (zL3 _ _) rfl),⟨⟨⟨hk.ok.n,hk.ok.w0,hk.ok.w1⟩,hk.m0,hk.m1,hk.n,hk.al,hk.jr,hk.sst⟩,rfl⟩,rfl⟩
theorem Dx.appendC (h:Dx d seq st vo m) (hc:isC d.Disk) (hm:m+1<2 ^ 50) (h2:2<=a) (h8:a<8) (y:By) (hy:y.length<=65536) (hl:(d.Disk.Areas.getD a []).length+y.length<2 ^ 39) :
  ∃ z n,rL d (a:Int) y=some (z,29)/\Dl z seq st (m+1)/\z.Disk.Areas=d.Disk.Areas.set a (d.Disk.Areas.getD a []++y.take n):=by
 have hw:=zE7 d.Disk a y h.ok h.off (by rw [h.n];exact h8) hy (by have:=h.al a;omega);rw [show zAa d.Disk=29 from if_pos hc] at hw;have hk:=h.toDk.set (y:=d.Disk.Areas.getD a []++y.take (eX d.Disk y.length)) h2 h8 (by rw [Q0,Q7];omega) hm;exact ⟨_,eX d.Disk y.length,by unfold rL;exact bd hw (bd (zL3 _ _) rfl),⟨⟨⟨hk.ok.n,hk.ok.w0,hk.ok.w1⟩,hk.m0,hk.m1,hk.n,hk.al,hk.jr,hk.sst⟩,rfl⟩,rfl⟩
theorem Dx.commit_same (h:Dx d seq st vo m) (hs:Sst st') (he:wT st'=wT st):xR d ⟨st',vo'⟩=some (⟨d.Disk,⟨st',vo'⟩,d.On,d.Next⟩,0):=by
 unfold xR;refine bd (cD st' hs) ?_;exact bd (a:=.inr d) (bd (a:=wT st) (by rw [h.s];exact cD st h.sst) (cf (by simp [he]) rfl)) rfl
theorem Dx.same (h:Dx d seq st vo m) (hs:Sst st') (he:wT st'=wT st):Dx ⟨d.Disk,⟨st',vo'⟩,d.On,d.Next⟩ seq st' vo' m:=
 ⟨⟨h.ok,h.m0,h.m1,h.n,h.al,by rw [he];exact h.jr,hs⟩,h.on,h.off,rfl,h.nx⟩
theorem Dx.recd (h:Dx d seq st vo m) (hs:Sst st') (hq:seq+1<2 ^ 29) {r:zT×Int} (hw:nQ d.Disk (((seq+1) % 2:Nat):Int) (sB (seq+1) (wT st'))=some r):rC d.Disk 0 d.Next (wT st')=some r:=by
 have hl:=cI st' hs;have hcm:=zEm d.Disk (seq+1) (wT st') (by omega) (by omega) (by omega) hw;have e:d.Next=((seq+1:Nat):Int):=by rw [h.nx];omega
 rw [e];exact hcm
theorem Dx.commit_new (h:Dx d seq st vo m) (hc:¬ isC d.Disk) (hs:Sst st') (hq:seq+1<2 ^ 29) (hm:m+1<2 ^ 50) (he:wT st'≠wT st) :
  xR d ⟨st',vo'⟩=some (⟨jY d.Disk ((seq+1) % 2) (sB (seq+1) (wT st')),⟨st',vo'⟩,d.On,d.Next+1⟩,0)/\Dx ⟨jY d.Disk ((seq+1) % 2) (sB (seq+1) (wT st')),⟨st',vo'⟩,d.On,d.Next+1⟩ (seq+1) st' vo' (m+1):=by
 have hn:=h.n;have hm0:=h.m0;have hw0:=h.ok.w0;have hw1:=h.ok.w1;have hl:=cI st' hs;have hrl:=jD (seq+1) (wT st');have hlt:(seq+1) % 2<2:=Qr _ (by decide);have hnx:=h.nx;have hw:=gG d.Disk ((seq+1) % 2) (sB (seq+1) (wT st')) h.ok h.off (by omega) (by omega) (by have:=h.al ((seq+1) % 2);omega);rw [zS2 hc,show zAa d.Disk=0 from if_neg hc] at hw;have hcm:=h.recd hs hq hw;refine ⟨?_,⟨⟨⟨?_,?_,?_⟩,?_,hm,?_,?_,h.jr.next (by omega) hq (by omega),hs⟩,h.on,?_,rfl,?_⟩⟩
 ·unfold xR;refine bd (cD st' hs) ?_;refine bd (a:=.inr ⟨jY d.Disk ((seq+1) % 2) (sB (seq+1) (wT st')),d.State,d.On,d.Next+1⟩) (bd (a:=wT st) (by rw [h.s];exact cD st h.sst) (ct (by simp [he]) ?_)) rfl;refine bd hcm (cf rfl ?_);rw [yQ (by omega) (by omega)]
 ·show (d.Disk.Areas.set _ _).length<=64;simp;omega
 ·show 0<=d.Disk.Writes+1;omega
 ·show d.Disk.Writes+1<2 ^ 60;omega
 ·show d.Disk.Writes+1<=((m+1:Nat):Int);omega
 ·show (d.Disk.Areas.set _ _).length=8;simp [hn]
 ·exact zHc h.al (by omega) (by omega)
 ·show decide (isC d.Disk)=false;exact decide_eq_false hc
 ·show d.Next+1=((seq+1:Nat):Int)+1;omega
theorem Dx.commit_cut (h:Dx d seq st vo m) (hc:isC d.Disk) (hs:Sst st') (hq:seq+1<2 ^ 29) (he:wT st'≠wT st) :
  ∃ z,xR d ⟨st',vo'⟩=some (z,29)/\z=jM z/\z.Disk.Writes=d.Disk.Writes+1/\z.Disk.Areas=d.Disk.Areas.set ((seq+1) % 2) (eB d.Disk.Torn (d.Disk.Areas.getD ((seq+1) % 2) []) (sB (seq+1) (wT st'))):=by
 have hn:=h.n;have hl:=cI st' hs;have hrl:=jD (seq+1) (wT st');have hlt:(seq+1) % 2<2:=Qr _ (by decide);have hw:=gG d.Disk ((seq+1) % 2) (sB (seq+1) (wT st')) h.ok h.off (by omega) (by omega) (by have:=h.al ((seq+1) % 2);omega);rw [zO9 hc,show zAa d.Disk=29 from if_pos hc] at hw;have hcm:=h.recd hs hq hw;refine ⟨jM ⟨jY d.Disk ((seq+1) % 2) (eB d.Disk.Torn (d.Disk.Areas.getD ((seq+1) % 2) []) (sB (seq+1) (wT st'))),d.State,d.On,d.Next⟩,?_,rfl,rfl,rfl⟩;unfold xR;refine bd (cD st' hs) ?_;refine bd (a:=.inl (jM ⟨jY d.Disk ((seq+1) % 2) (eB d.Disk.Torn (d.Disk.Areas.getD ((seq+1) % 2) []) (sB (seq+1) (wT st'))),d.State,d.On,d.Next⟩,29)) (bd (a:=wT st) (by rw [h.s];exact cD st h.sst) (ct (by simp [he]) ?_)) rfl;refine bd hcm (ct rfl ?_);exact bd (zUc _) rfl
end
set_option maxRecDepth 100000
structure Mx (d:zC) (seq:Nat) (st:zQ) (vo:yB) (m:Nat) (es:List zB):Prop extends Dx d seq st vo m where
 v1:vo.Started=true
 v2:vo.Registers=rpl st.Active es
 lg:d.Disk.Areas.getD 2 []=oW st.Active st.Resets++tW es
theorem zXz (h:zFo c is bs) (hs:vX d 0 (rqW c is bs)=some (z,[],29)):vG (zM.mk d []) (rq c is bs)=some (zP.mk 0 [] [] [],29,zM.mk z []):=by
 unfold vG;refine bd (a:=(rqW c is bs,0)) (zV2 h) (cf rfl ?_);exact bd (a:=(z,[],29)) hs (ct rfl rfl)
section
theorem Dx.send (h:Dx d seq st vo m) (hr:vO ⟨st,vo⟩ 0 b=some (⟨st',vo'⟩,out)) (hc:xR d ⟨st',vo'⟩=some (d',0)):vX d 0 b=some (d',out,0):=by
 have hr':vO d.State 0 b=some (⟨st',vo'⟩,out):=by rw [h.s];exact hr
 unfold vX;refine bd (bH h.on h.off) ?_;refine cf rfl ?_;refine bd hr' ?_;refine bd hc ?_;exact cf rfl rfl
theorem Dx.send_cut (h:Dx d seq st vo m) (hr:vO ⟨st,vo⟩ 0 b=some (⟨st',vo'⟩,out)) (hc:xR d ⟨st',vo'⟩=some (z,29)):vX d 0 b=some (z,[],29):=by
 have hr':vO d.State 0 b=some (⟨st',vo'⟩,out):=by rw [h.s];exact hr
 unfold vX;refine bd (bH h.on h.off) ?_;refine cf rfl ?_;refine bd hr' ?_;refine bd hc ?_;exact ct rfl rfl
theorem Mx.send (h:Mx d seq st vo m es) (hx:EvC x st.Active) (hk:x.Kind≠5):vG (zM.mk d []) (yA.mk 6 [] [] [x.Register] x.Digests)=some (zP.mk 0 [] [] [],0,zM.mk ⟨d.Disk,⟨st,zFp (ext st.Active x vo.Registers) vo⟩,d.On,d.Next⟩ []):=by
 have hr:=zPy st vo x st.Active h.v1 (by rw [h.v2];exact zIa _ _ h.sst.a0 h.sst.a3) hx.toEvGood hk;have h1:=h.toDx.send hr (h.toDx.commit_same h.sst rfl);exact zHh (rqE hx.toEvGood) h1 zRf rfl (by decide) (zM.mk d []) rfl
theorem Mx.room (h:Mx d seq st vo m es) (hs:es.length<=40) (he:∀ e∈es,EvC e st.Active):(d.Disk.Areas.getD 2 []).length<=6000:=by
 have hf:=zD2 es he;rw [h.lg,Q0,pO];omega
theorem Mx.step (h:Mx d seq st vo m es) (hc:¬ isC d.Disk) (hx:EvC x st.Active) (hk:x.Kind≠5) (hs:es.length<=40) (he:∀ e∈es,EvC e st.Active) (hm:m+1<2 ^ 50) :
  ∃ d' vo',sQ (zM.mk d []) x=some (0,zM.mk d' [])/\Mx d' seq st vo' (m+1) (es++[x])/\(∀ a,3<=a->d'.Disk.Areas.getD a []=d.Disk.Areas.getD a [])/\d'.Disk.CutAt=d.Disk.CutAt/\d'.Disk.Writes=d.Disk.Writes+1:=by
 have hd:=h.send hx hk;have hv:=h.toDx.vol (vo':=zFp (ext st.Active x vo.Registers) vo);have hb:=jE hx.toEvGood;have hrm:=h.room hs he;have hap:=hv.append hc (a:=2) (bl (sC x)) (by decide) (by rw [uB];omega);have hy:(d.Disk.Areas.getD 2 []++bl (sC x)).length<2 ^ 39:=by rw [Q0,uB];omega
 refine ⟨gV ⟨d.Disk,⟨st,zFp (ext st.Active x vo.Registers) vo⟩,d.On,d.Next⟩ 2 (d.Disk.Areas.getD 2 []++bl (sC x)),zFp (ext st.Active x vo.Registers) vo,?_,⟨hv.set hc (by decide) (by decide) hy hm,h.v1,?_,?_⟩,λa ha=>getD_set_ne (by omega),rfl,rfl⟩
 ·unfold sQ;refine bd hd ?_;refine bd (a:=(0,zM.mk (gV ⟨d.Disk,⟨st,zFp (ext st.Active x vo.Registers) vo⟩,d.On,d.Next⟩ 2 (d.Disk.Areas.getD 2 []++bl (sC x))) [])) ?_ rfl;refine ct rfl ?_;refine bd (zEz x st.Active hx) ?_;refine bd (wB [] _ (by simp) (by omega)) ?_;rw [Qk];exact bd hap rfl
 ·show ext st.Active x vo.Registers=_;rw [zLj _ _ _ hk,h.v2]
 ·show (d.Disk.Areas.set 2 _).getD 2 []=_;rw [wO (by have:=h.n;omega),h.lg,zJr,Q4]
theorem Mx.stepC (h:Mx d seq st vo m es) (hc:isC d.Disk) (hx:EvC x st.Active) (hk:x.Kind≠5) (hs:es.length<=40) (he:∀ e∈es,EvC e st.Active) (hm:m+1<2 ^ 50) :
  ∃ z n,sQ (zM.mk d []) x=some (29,zM.mk z [])/\Dl z seq st (m+1)/\z.Disk.Areas.getD 2 []=(oW st.Active st.Resets++tW es)++(bl (sC x)).take n/\∀ a,3<=a->z.Disk.Areas.getD a []=d.Disk.Areas.getD a []:=by
 have hd:=h.send hx hk;have hv:=h.toDx.vol (vo':=zFp (ext st.Active x vo.Registers) vo);have hb:=jE hx.toEvGood;have hrm:=h.room hs he;obtain ⟨z,n,hz,hl,hA⟩:=hv.appendC hc hm (a:=2) (by decide) (by decide) (bl (sC x)) (by rw [uB];omega) (by show (d.Disk.Areas.getD 2 []).length+_<_;rw [uB];omega);have hA:z.Disk.Areas=d.Disk.Areas.set 2 (d.Disk.Areas.getD 2 []++(bl (sC x)).take n):=hA;refine ⟨z,n,?_,hl,?_,λa ha=>?_⟩
 ·unfold sQ;refine bd hd ?_;refine bd (a:=(29,zM.mk z [])) ?_ rfl;refine ct rfl ?_;refine bd (zEz x st.Active hx) ?_;refine bd (wB [] _ (by simp) (by omega)) ?_;rw [Qk];exact bd hz rfl
 ·rw [hA,wO (by have:=h.n;omega),h.lg]
 ·rw [hA];exact getD_set_ne (by omega)
end
theorem zUy (A:By) (es:List zB) (hi:i<es.length) (n:Nat):∃ p,(A++tW (es.take i))++(bl (sC es[i])).take n=(A++tW es).take p:=by
 have e:A++tW es=(A++tW (es.take i))++(bl (sC es[i])++tW (es.drop (i+1))):=by
  rw [zHd es i,zBp hi];unfold bl;simp
 refine ⟨(A++tW (es.take i)).length+min n (bl (sC es[i])).length,?_⟩;rw [e,List.take_append,Q2 (Nat.le_add_right _ _),Nat.add_sub_cancel_left,Qg (Qq _ _)];congr 1;by_cases h:n<=(bl (sC es[i])).length
 ·rw [Nat.min_eq_left h]
 ·rw [Nat.min_eq_right (by omega),Q2 (by omega),Q2 (Q8 _)]
theorem zSv (es:List zB) (h40:es.length<=40) (hE:∀ e∈es,EvC e st.Active) (hK:∀ e∈es,e.Kind≠5) (n:Nat):∀ (i fuel:Nat) (d:zC) (vo:yB) (m:Nat),i+n=es.length->n<fuel->Mx d seq st vo m (es.take i)->m+n<2 ^ 50 ->
  (∃ d' vo',zL (xW es) fuel ((i:Int),0,zM.mk d [])=some (.inr (0,zM.mk d' []))/\Mx d' seq st vo' (m+n) es/\∀ a,3<=a->d'.Disk.Areas.getD a []=d.Disk.Areas.getD a []) ∨
  (∃ z p m',zL (xW es) fuel ((i:Int),0,zM.mk d [])=some (.inl ((default:zC),29,zM.mk z []))/\Dl z seq st m'/\z.Disk.Areas.getD 2 []=(oW st.Active st.Resets++tW es).take p/\∀ a,3<=a->z.Disk.Areas.getD a []=d.Disk.Areas.getD a []):=by
 induction n with
 | zero=>
  intro i fuel d vo m hi hf h _;obtain ⟨f,rfl⟩:∃ f,fuel=f+1:=⟨fuel - 1,by omega⟩;have hi:i=es.length:=by omega
  subst hi;rw [Qb] at h;refine .inl ⟨d,vo,?_,h,λ_ _=>rfl⟩;have:xW es ((es.length:Int),0,zM.mk d [])=some (.inr (.inr (0,zM.mk d []))):=by
   unfold xW;exact cf (decide_eq_false (by omega)) rfl
  simp only [zL,this]
 | succ n ih=>
  intro i fuel d vo m hi hf h hm;obtain ⟨f,rfl⟩:∃ f,fuel=f+1:=⟨fuel - 1,by omega⟩;have hl:i<es.length:=by omega
  have hmem:es[i]∈es:=Q3 _;have htl:(es.take i).length<=40:=by rw [Q7];omega
  have hte:∀ e∈es.take i,EvC e st.Active:=λe he=>hE e (Qe he);by_cases hc:isC d.Disk
  ·right;obtain ⟨z,k,e1,hz,hA,hs⟩:=h.stepC hc (hE _ hmem) (hK _ hmem) htl hte (by omega);obtain ⟨p,hp⟩:=zUy (oW st.Active st.Resets) es hl k;refine ⟨z,p,m+1,?_,hz,hA.trans hp,hs⟩;have:xW es ((i:Int),0,zM.mk d [])=some (.inr (.inl ((default:zC),29,zM.mk z []))):=by
    unfold xW;exact ct (decide_eq_true (by omega)) (bd (yM hl) (bd e1 (ct rfl rfl)))
   simp only [zL,this]
  ·obtain ⟨d1,vo1,e1,h1,s1,_,_⟩:=h.step hc (hE _ hmem) (hK _ hmem) htl hte (by omega);rw [show es.take i++[es[i]]=es.take (i+1) from by rw [Qa];simp [hl]] at h1;have hst:xW es ((i:Int),0,zM.mk d [])=some (.inl (((i+1:Nat):Int),0,zM.mk d1 [])):=by
    unfold xW;refine ct (decide_eq_true (by omega)) (bd (yM hl) (bd e1 (cf rfl ?_)));rw [yQ (by omega) (by omega)];rfl
   rcases ih (i+1) f d1 vo1 (m+1) (by omega) (by omega) h1 (by omega) with ⟨d2,vo2,e2,h2,s2⟩ | ⟨z,p,m',e2,h2,hp,s2⟩
   ·refine .inl ⟨d2,vo2,?_,by rw [show m+(n+1)=m+1+n from by omega];exact h2,λa ha=>(s2 a ha).trans (s1 a ha)⟩;simp only [zL,hst];exact e2
   ·refine .inr ⟨z,p,m',?_,h2,hp,λa ha=>(s2 a ha).trans (s1 a ha)⟩;simp only [zL,hst];exact e2
set_option maxRecDepth 100000
theorem Dl.off (h:Dl z seq st m):Dl (jM z) seq st m:=⟨⟨⟨h.ok.n,h.ok.w0,h.ok.w1⟩,h.m0,h.m1,h.n,h.al,h.jr,h.sst⟩,rfl⟩
theorem zLb (h:Dx d seq st vo m)
  (hi:((vG (zM.mk d []) (yA.mk 1 [] [] ([0]:List Int) [])).bind λ((v_1019,v_1020,x_1021):zP×Int×zM)=>
   bif (v_1020 != 0) then (some ((default:zC),v_1020,x_1021)) else
   (xZ x_1021.Device.State.Stable.Active x_1021.Device.State.Stable.Resets).bind λv_1035=>
   (vN x_1021.Device 2 v_1035).bind λ((v_1037,v_1038):zC×Int)=>
   bif (v_1038 != 0) then (some ((default:zC),v_1038,zM.mk v_1037 x_1021.opened_)) else
   (uL v_1037).bind λv_1046=>
   (sU v_1037 v_1046).bind λ((v_1048,v_1049):(List zD)×Int)=>
   (vR v_1048 x_1021.Device.State.Stable.Active).bind λv_1053=>
   (bif (v_1049 != 0) then ((uU 0 4 x_1021.Device.State.Stable.Active ([99,104,97,105,110]:By)).bind λv_1060=>some [v_1060]) else some v_1053:Option (List zB)).bind λ(events_1058:List zB)=>
   (zL (xW events_1058) FU (0,v_1038,zM.mk v_1037 x_1021.opened_):Option ((zC×Int×zM) ⊕ (Int×zM))).bind λy_1137=>match y_1137 with
   | .inl r_1113=>(some r_1113)
   | .inr (e_1114,v_1115)=>((bif (v_1049 != 0) then (some 50) else some e_1114:Option (Int)).bind λ(e_1140:Int)=>some ((default:zC),e_1140,v_1115)):Option (zC×Int×zM))=some (default,29,zM.mk z [])) :
  uA d=some (jM z,29):=by
 unfold uA;refine cf (by rw [h.on];rfl) ?_;refine bd (a:=zM.mk d []) rfl ?_;refine bd hi ?_;refine bd (a:=(jM z,29,zM.mk z [])) ?_ rfl;unfold mA;exact ct rfl (bd (zFi z) rfl)
theorem zUw (A R:By) (t:Int):∃ p,eB t [] A=(A++R).take p:=by
 refine ⟨min t.toNat A.length,?_⟩;unfold eB;rw [List.drop_nil,Qc,Qg (Qq _ _)]
structure zX6 (z:zC) (st:zQ) (es:List zB) (d:zC):Prop where
 k:∃ seq st' m,Dl z seq st' m/\(st'=st∨st'=stS st)/\seq<=2
 p:∃ p,z.Disk.Areas.getD 2 []=(vV ⟨st.Active,st.Resets+1,es⟩).take p
 a:∀ a,3<=a->z.Disk.Areas.getD a []=d.Disk.Areas.getD a []
theorem zVe (h:Dx d 1 st vo m) (hs:vo.Started=false) (hp:vo.Stopped=false) (hR:st.Resets+1<2 ^ 30) (hm:m+60<2 ^ 50) (h0:d.Disk.Areas.getD 0 []=[]) (h2:d.Disk.Areas.getD 2 []=[])
  (hc:pN l) (hA:d.Disk.Areas.getD (3+rK d) []=oY l) :
  (∃ d' seq' vo' m',uA d=some (d',0)/\Mx d' seq' (stS st) vo' m' (evs l st.Active))∨∃ z,uA d=some (z,29)/\zX6 z st (evs l st.Active) d:=by
 have hr0:=h.sst.r0;have hS:=h.sst.S hR;have hrun:=zJf st vo h.sst hs hp;have ha0:=h.sst.a0;have ha3:=h.sst.a3;have hn:=h.n;have hok:=zAf ha0 ha3 hc;have hle:=(aV l st.Active hc).2;have hl:=gA hc.ok;have hlt:=zMq d;have key:∀ d1 seq1 m1,seq1<=2->m1<=m+1->vG (zM.mk d []) (yA.mk 1 [] [] ([0]:List Int) [])=some (zP.mk 0 [] [] [],0,zM.mk d1 [])->Dx d1 seq1 (stS st) (zG6 st vo) m1->(∀ a,2<=a->d1.Disk.Areas.getD a []=d.Disk.Areas.getD a []) ->
   (∃ d' seq' vo' m',uA d=some (d',0)/\Mx d' seq' (stS st) vo' m' (evs l st.Active))∨∃ z,uA d=some (z,29)/\zX6 z st (evs l st.Active) d:=by
  intro d1 seq1 m1 hq1 hm1 e1 h1 s1;have hst:d1.State=⟨stS st,zG6 st vo⟩:=h1.s;have hAc:d1.State.Stable.Active=st.Active:=by rw [hst];rfl
  have hRs:d1.State.Stable.Resets=st.Resets+1:=by rw [hst];rfl
  have hhd:=zT0 st.Active (st.Resets+1) ha0 ha3 (by omega) (by omega);have hl11:=pO st.Active (st.Resets+1);by_cases hc1:isC d1.Disk
  ·right;obtain ⟨z,ez,hz,hzA⟩:=h1.writeC hc1 (by omega) (a:=2) (by decide) (by decide) (oW st.Active (st.Resets+1)) (by omega);obtain ⟨p,hp⟩:=zUw (oW st.Active (st.Resets+1)) (tW (evs l st.Active)) d1.Disk.Torn;refine ⟨jM z,zLb h ?_,⟨⟨seq1,stS st,m1+1,hz.off,.inr rfl,hq1⟩,⟨p,?_⟩,λa ha=>?_⟩⟩
   ·refine bd e1 (cf rfl ?_);show (xZ d1.State.Stable.Active d1.State.Stable.Resets).bind _=_;rw [hAc,hRs];exact bd hhd (bd ez (ct rfl rfl))
   ·show z.Disk.Areas.getD 2 []=_;rw [hzA,wO (by have:=h1.n;omega),s1 2 (by decide),h2];exact hp
   ·show z.Disk.Areas.getD a []=_;rw [hzA,getD_set_ne (by omega)];exact s1 a (by omega)
  have hw:=h1.write hc1 (a:=2) (oW st.Active (st.Resets+1)) (by decide) (by omega);have h2':=h1.set hc1 (a:=2) (y:=oW st.Active (st.Resets+1)) (by decide) (by decide) (by omega) (by omega);have hge:∀ a,3<=a->(gV d1 2 (oW st.Active (st.Resets+1))).Disk.Areas.getD a []=d.Disk.Areas.getD a []:=λa ha=>(getD_set_ne (by omega)).trans (s1 a (by omega));have hsn:rK (gV d1 2 (oW st.Active (st.Resets+1)))=rK d:=by unfold rK;rw [hge 5 (by decide)]
  have hco:uL (gV d1 2 (oW st.Active (st.Resets+1)))=some (rK d:Int):=by
   rw [zJo _ h2'.off (by rw [h2'.n];decide) (by have:=h2'.al 5;omega),<- hsn];unfold rK;split<;>rfl
  have hcc:sU (gV d1 2 (oW st.Active (st.Resets+1))) (rK d:Int)=some (l,0):=by
   rw [zHm _ hlt h2'.off (by rw [h2'.n];omega) (by rw [hge _ (by omega),hA,iW];omega),hge _ (by omega),hA,zAd hc.ok]
  have hz:Mx (gV d1 2 (oW st.Active (st.Resets+1))) seq1 (stS st) (zG6 st vo) (m1+1) ((evs l st.Active).take 0):=⟨h2',rfl,rfl,by
   show (d1.Disk.Areas.set 2 _).getD 2 []=_;rw [wO (by rw [h1.n];decide)];simp [tW,stS]⟩
  have pre:∀ r,((zL (xW (evs l st.Active)) FU (0,0,zM.mk (gV d1 2 (oW st.Active (st.Resets+1))) []):Option ((zC×Int×zM) ⊕ (Int×zM))).bind λy_1137=>match y_1137 with
   | .inl r_1113=>(some r_1113)
   | .inr (e_1114,v_1115)=>((bif ((0:Int) != 0) then (some 50) else some e_1114:Option (Int)).bind λ(e_1140:Int)=>some ((default:zC),e_1140,v_1115)):Option (zC×Int×zM))=some r ->
    ((vG (zM.mk d []) (yA.mk 1 [] [] ([0]:List Int) [])).bind λ((v_1019,v_1020,x_1021):zP×Int×zM)=>
   bif (v_1020 != 0) then (some ((default:zC),v_1020,x_1021)) else
   (xZ x_1021.Device.State.Stable.Active x_1021.Device.State.Stable.Resets).bind λv_1035=>
   (vN x_1021.Device 2 v_1035).bind λ((v_1037,v_1038):zC×Int)=>
   bif (v_1038 != 0) then (some ((default:zC),v_1038,zM.mk v_1037 x_1021.opened_)) else
   (uL v_1037).bind λv_1046=>
   (sU v_1037 v_1046).bind λ((v_1048,v_1049):(List zD)×Int)=>
   (vR v_1048 x_1021.Device.State.Stable.Active).bind λv_1053=>
   (bif (v_1049 != 0) then ((uU 0 4 x_1021.Device.State.Stable.Active ([99,104,97,105,110]:By)).bind λv_1060=>some [v_1060]) else some v_1053:Option (List zB)).bind λ(events_1058:List zB)=>
   (zL (xW events_1058) FU (0,v_1038,zM.mk v_1037 x_1021.opened_):Option ((zC×Int×zM) ⊕ (Int×zM))).bind λy_1137=>match y_1137 with
   | .inl r_1113=>(some r_1113)
   | .inr (e_1114,v_1115)=>((bif (v_1049 != 0) then (some 50) else some e_1114:Option (Int)).bind λ(e_1140:Int)=>some ((default:zC),e_1140,v_1115)):Option (zC×Int×zM))=some r:=by
   intro r hr;refine bd e1 (cf rfl ?_);show (xZ d1.State.Stable.Active d1.State.Stable.Resets).bind _=_;rw [hAc,hRs];refine bd hhd (bd hw (cf rfl ?_));refine bd hco (bd hcc ?_);refine bd (zIf l st.Active hc ha0 ha3) ?_;refine bd (a:=evs l st.Active) (cf rfl rfl) hr
  rcases zSv (seq:=seq1) (st:=stS st) (evs l st.Active) hle hok zM7 (evs l st.Active).length 0 FU _ _ (m1+1) (by omega) (xM (by omega)) hz (by omega) with ⟨d3,vo3,e3,h3,s3⟩ | ⟨z,p,m',e3,h3,hp3,s3⟩
  ·left;refine ⟨d3,seq1,vo3,m1+1+(evs l st.Active).length,?_,h3⟩;unfold uA;refine cf (by rw [h.on];rfl) ?_;refine bd (a:=zM.mk d []) rfl ?_;refine bd (pre (default,0,zM.mk d3 []) (bd e3 rfl)) ?_;refine bd (a:=(d3,0,zM.mk d3 [])) ?_ rfl;unfold mA;exact cf rfl rfl
  ·right;refine ⟨jM z,zLb h (pre _ (bd e3 rfl)),⟨⟨seq1,stS st,m',h3.off,.inr rfl,hq1⟩,⟨p,hp3⟩,λa ha=>(s3 a ha).trans (hge a ha)⟩⟩
 by_cases he:wT (stS st)=wT st
 ·have hcs:=h.commit_same hS he (vo':=zG6 st vo);exact key _ 1 m (by decide) (by omega) (zHh rqS (h.send hrun hcs) zRf rfl (by decide) (zM.mk d []) rfl) (h.same hS he) (λ_ _=>rfl)
 by_cases hcc:isC d.Disk
 ·right;obtain ⟨z,ez,hoff,hzw,hzA⟩:=h.commit_cut (vo':=zG6 st vo) hcc hS (by decide) he;have hm0:=h.m0;have hw0:=h.ok.w0;have hzA:z.Disk.Areas=d.Disk.Areas.set 0 (eB d.Disk.Torn (d.Disk.Areas.getD 0 []) (sB 2 (wT (stS st)))):=hzA;have het:eB d.Disk.Torn (d.Disk.Areas.getD 0 []) (sB 2 (wT (stS st)))=(sB 2 (wT (stS st))).take (min d.Disk.Torn.toNat (sB 2 (wT (stS st))).length):=by
   unfold eB;rw [h0,List.drop_nil,Qc]
  rw [het] at hzA;have hel:=cI (stS st) hS;have hrl:=jD 2 (wT (stS st));have hbase:∀ sq s',Jr z.Disk.Areas sq (wT s')->Sst s'->Dl (jM z) sq s' (m+1):=λsq s' hj hss=>by
   refine ⟨⟨⟨?_,?_,?_⟩,?_,by omega,?_,?_,hj,hss⟩,rfl⟩
   ·show z.Disk.Areas.length<=64;rw [hzA];simp;omega
   ·show 0<=z.Disk.Writes;rw [hzw];omega
   ·show z.Disk.Writes<2 ^ 60;rw [hzw];omega
   ·show z.Disk.Writes<=((m+1:Nat):Int);rw [hzw];omega
   ·show z.Disk.Areas.length=8;rw [hzA];simp [hn]
   ·show ∀ i,(z.Disk.Areas.getD i []).length<2 ^ 39;rw [hzA];exact zHc h.al (by rw [Q7];omega) (by omega)
  refine ⟨jM z,zLb h (bd (zXz rqS (h.send_cut hrun ez)) (ct rfl rfl)),⟨?_,⟨0,?_⟩,λa ha=>?_⟩⟩
  ·rcases Jr.torn (p':=wT (stS st)) h.jr (by omega) (by omega) (min d.Disk.Torn.toNat (sB 2 (wT (stS st))).length) with hj | hj
   ·exact ⟨1,st,m+1,hbase 1 st (by rw [hzA];exact hj) h.sst,.inl rfl,by decide⟩
   ·exact ⟨2,stS st,m+1,hbase 2 (stS st) (by rw [hzA];exact hj) hS,.inr rfl,by decide⟩
  ·show z.Disk.Areas.getD 2 []=_;rw [hzA,getD_set_ne (by decide),h2,List.take_zero]
  ·show z.Disk.Areas.getD a []=_;rw [hzA,getD_set_ne (by omega)]
 ·obtain ⟨ec,h1⟩:=h.commit_new (vo':=zG6 st vo) hcc hS (by decide) (by omega) he;exact key _ 2 (m+1) (by decide) (by omega) (zHh rqS (h.send hrun ec) zRf rfl (by decide) (zM.mk d []) rfl) h1 (λa ha=>getD_set_ne (by omega))
set_option maxRecDepth 100000
section
theorem Dx.read (h:Dx d seq st vo m) (h8:a<8):uO d.Disk (a:Int)=some (d.Disk.Areas.getD a [],0):=zBc d.Disk a h.off (by rw [h.n];exact h8) (by have:=h.al a;omega)
theorem Mx.log (h:Mx d seq st vo m es) (hE:∀ e∈es,EvC e st.Active) (h40:es.length<=40):jB d=some (⟨st.Active,st.Resets,es⟩,0):=by
 have hr0:=h.sst.r0;have hr1:=h.sst.r1;unfold jB;refine bd (h.toDx.read (a:=2) (by decide)) (cf rfl ?_);rw [h.lg];exact bd (zJz ⟨st.Active,st.Resets,es⟩ ⟨⟨hE,h40⟩,h.sst.a0,h.sst.a3,hr0,by show st.Resets<=1099511627776;omega⟩) rfl
theorem Mx.started (h:Mx d seq st vo m (evs l st.Active)) (hc:pN l):tJ d l st.Active=some true:=by
 have h1:=h.sst.a0;have h3:=h.sst.a3;have hok:=zAf h1 h3 hc;have hn:=(aV l st.Active hc).2;have hs:d.State.Stable=st:=by rw [h.s]
 have hr:d.State.Volatile.Registers=rpl st.Active (evs l st.Active):=by rw [h.s];exact h.v2
 unfold tJ;refine bd (zH8 hc h1 h3) ?_;refine bd (h.log hok hn) ?_;refine bd (a:=true) ?_ rfl;refine ct rfl (ct rfl (ct h.on (ct (by rw [hs,h.sst.st];rfl) (ct (by simp) (ct (by rw [hs];simp) ?_)))));refine bd (dI l st.Active hc h1 h3) (bd (jS hok hn) (ct rfl ?_));rw [hr];exact bd (zFc (zIa _ _ h1 h3)) rfl
theorem Dv.cutX (h:Dv d seq st vo m) (c t:Int):Dx ⟨⟨d.Disk.Areas,d.Disk.Writes,c,t,d.Disk.Off⟩,d.State,d.On,d.Next⟩ seq st vo m:=⟨⟨⟨h.ok.n,h.ok.w0,h.ok.w1⟩,h.m0,h.m1,h.n,h.al,h.jr,h.sst⟩,h.on,h.off,h.s,h.nx⟩
end
theorem zFj (h:∀ e∈es,EvC e active) (hn:es.length<=40) (k:Nat):tO (es.take k) (es.take k)=some true:=
 jS (λe he=>h e (Qe he)) (by rw [Q7];omega)
theorem zNl (h:zX6 z st (evs l st.Active) d) (hR0:0<=st.Resets) (hR:st.Resets+2<2 ^ 30) (ha0:1<=st.Active) (ha3:st.Active<=3) (hc:pN l) (hA3:d.Disk.Areas.getD 3 []=oY l) (hA5:d.Disk.Areas.getD 5 []=[0]) :
  ∃ x,nU z=some (x,true)/\sU x 0=some (l,0)/\uL x=some 0 /\
   (∃ b,uO x.Disk 2=some (b,0)/\b.length<=5531/\Def (uG b) (λr=>r.2.2=5∨∃ k,k<=(evs l st.Active).length/\r.1.Events=(evs l st.Active).take k)) /\
   ∃ y,uA x=some (y,0)/\tJ y l st.Active=some true:=by
 obtain ⟨seq,st',m,hz,hst,hq⟩:=h.k;obtain ⟨hag,hdv⟩:=hz.toDk.again;have hv:=hdv 0 (by decide);have hl:=gA hc.ok;have hle:=(aV l st.Active hc).2;have hA3':(onD z seq st').Disk.Areas.getD 3 []=oY l:=(h.a 3 (by decide)).trans hA3;have hA5':(onD z seq st').Disk.Areas.getD 5 []=[0]:=(h.a 5 (by decide)).trans hA5;have hsl:rK (onD z seq st')=0:=by unfold rK;rw [hA5'];rfl
 have hact:st'.Active=st.Active:=by rcases hst with rfl | rfl<;>rfl
 have hRs:st'.Resets<=st.Resets+1:=by
  rcases hst with rfl | rfl
  ·omega
  ·exact Int.le_refl _
 obtain ⟨p,hp⟩:=h.p;have hlg:LgF ⟨st.Active,st.Resets+1,evs l st.Active⟩:=⟨⟨zAf ha0 ha3 hc,hle⟩,ha0,ha3,by show 0<=st.Resets+1;omega,by show st.Resets+1<=1099511627776;omega⟩;have hfl:=zHz _ hlg.toLgGood;obtain ⟨y,seq2,vo2,m2,ey,hy,_⟩:=hv.run_good rfl rfl (by omega) (by omega) (by decide) hc (by rw [hsl];exact hA3');refine ⟨onD z seq st',hag,?_,?_,⟨(vV ⟨st.Active,st.Resets+1,evs l st.Active⟩).take p,?_,?_,?_⟩,y,ey,?_⟩
 ·have:=zHm (onD z seq st') (s:=0) (by decide) hv.off (by rw [hv.n];decide) (by rw [hA3',iW];omega);rw [hA3',zAd hc.ok] at this;exact this
 ·rw [hv.chosen,hsl];rfl
 ·have:=hv.read (a:=2) (by decide);rw [show (onD z seq st').Disk.Areas.getD 2 []=z.Disk.Areas.getD 2 [] from rfl,hp] at this;exact this
 ·rw [Q7];omega
 ·refine (zSz _ hlg p).mono λr hr=>?_;rcases hr with hr | ⟨k,hk,e⟩
  ·exact .inl hr
  ·exact .inr ⟨k,hk,by rw [e]⟩
 ·have hact2:(stS st').Active=st.Active:=hact;have hy:Mz y seq2 (stS st') vo2 m2 (evs l (stS st').Active):=hy;have:=hy.started hc;rw [hact2] at this;exact this
set_option maxRecDepth 100000
theorem zN9 (b:By) (hb:b.length<=8192) {P:yW->Prop} (h:Def (uG b) (λr=>r.2.2=5∨P r.1)):Def (nF b) (λr=>r.2.2=0->P r.1):=by
 unfold nF;have hs:sub b 0 (if (8192:Int)<(b.length:Int) then 8192 else (b.length:Int))=some b:=by
  rw [if_neg (by omega)];have:=sD (l:=b) (a:=0) (b:=b.length) (by omega) (Q8 _);rw [Qt,Q2 (by omega)] at this;exact this
 refine db hs ?_;refine Q1 h (λr hr=>?_);obtain ⟨l,n,e⟩:=r;refine Qi (λh5=>?_) (λh5=>?_)
 ·have h5:e=5:=by simpa using h5
  exact Q6 (λh=>by rw [h5] at h;exact absurd (show (5:Int)=0 from h) (by decide))
 ·have h5:e≠5:=by simpa using h5
  exact Q6 (λ_=>hr.resolve_left h5)
theorem zLc (entropy codes:By) (active at' torn:Int):eT entropy codes active at' torn=some true:=by
 obtain ⟨ac,ea,ha1,ha3⟩:=zNe active;obtain ⟨l,el,hl⟩:=zQu codes;obtain ⟨⟨x,ok⟩,em,hok,st,hv,ha,hr0,h3,h4,h5,h0,h2⟩:=zJk entropy ac ha1 ha3 hl.ok;simp only at hok hv h3 h4 h5 h0 h2;subst hok;subst ha;have hle:=aV l st.Active hl;have hok:=zAf ha1 ha3 hl;obtain ⟨k,ek,hk0,hk1⟩:=zLa at' (Q9.wrap (((evs l st.Active).length:Int)+4)) (by rw [yQ (by omega) (by omega)];omega) (by rw [yQ (by omega) (by omega)];omega);obtain ⟨t,et,_⟩:=zLa torn 200 (by decide) (by decide);have hx:=hv.cutX (Q9.wrap (x.Disk.Writes+Q9.wrap (1+k))) t;generalize hd:(⟨⟨x.Disk.Areas,x.Disk.Writes,Q9.wrap (x.Disk.Writes+Q9.wrap (1+k)),t,x.Disk.Off⟩,x.State,x.On,x.Next⟩:zC)=d at hx;have hdA:d.Disk.Areas=x.Disk.Areas:=by rw [<- hd]
 have hsl:rK d=0:=by unfold rK;rw [hdA,h5];rfl
 unfold eT;refine bd zTg (cf rfl ?_);refine bd ea (bd el (bd em (cf rfl ?_)));refine bd (dI l st.Active hl ha1 ha3) (bd ek (ltk (bd et ?_)));refine bd (a:=d.Disk) (by rw [<- hd];rfl) ?_;rw [show zC.mk d.Disk x.State x.On x.Next=d from by rw [<- hd]];rcases zVe hx rfl rfl (by omega) (by decide) (by rw [hdA];exact h0) (by rw [hdA];exact h2) hl (by rw [hsl,hdA];exact h3) with ⟨y,seq,vo,m,ey,hy⟩ | ⟨z,ez,hz⟩
 ·have hy:Mx y seq (stS st) vo m (evs l (stS st).Active):=hy;exact bd ey (ct rfl (bd (hy.started hl) rfl))
 ·obtain ⟨w,hag,hch,hco,⟨b,hrd,hbl,hsc⟩,y,ey,hys⟩:=zNl hz (by omega) (by omega) ha1 ha3 hl (by rw [hdA];exact h3) (by rw [hdA];exact h5);obtain ⟨_,_,_,hzl,_⟩:=hz.k;obtain ⟨⟨lg,n,g⟩,ei,hi⟩:=zN9 b (by omega) (P:=λL=>∃ k,k<=(evs l st.Active).length/\L.Events=(evs l st.Active).take k) hsc;simp only at hi;refine bd ez (cf rfl ?_);refine bd (a:=false) (cf rfl (congrArg some hzl.on)) (cf rfl ?_);refine bd hag (bd hrd (bd ei (bd hch ?_)));refine bd (a:=false) (cf rfl (cf rfl (cf rfl (bd (zHf hl.ok) (cf rfl (bd hco rfl)))))) (cf rfl ?_);refine bd (dI l st.Active hl ha1 ha3) ?_;refine bd (a:=false) ?_ (cf rfl ?_)
  ·by_cases hg:g=0
   ·obtain ⟨j,hj,hL⟩:=hi hg;have hjl:lg.Events.length=j:=by rw [hL,Q7];omega
    refine ct (by simp [hg]) (cf (decide_eq_false (by omega)) ?_);have hsb:=sD (l:=evs l st.Active) (a:=0) (b:=lg.Events.length) (by omega) (by omega);rw [Qt,Nat.sub_zero,hjl] at hsb;rw [hjl];refine bd hsb ?_;rw [hL];exact bd (zFj hok hle.2 j) rfl
   ·exact cf (by simpa using hg) rfl
  ·exact bd ey (bd (a:=true) (ct rfl (bd hys rfl)) rfl)
end Go.Proofs.TT
