/- what Read reports of a started chain -/
import Derived.Test.YtmfjfpfolbnogaaGreatDoorAZ13
set_option linter.all false
open List renaming length_append -> Q0, length_cons -> Q1, getElem_mem -> Q2, mem_singleton -> Q3, append_assoc -> Q4, take_of_length_le -> Q6, take_length -> Q7, take_add_one -> Q9, append_nil -> Qa, mem_of_mem_take -> Qb, flatMap_append -> Qc, getD -> Qd, flatMap_cons -> Qe, length_drop -> Qf, length_nil -> Qg, mem_append -> Qh, nil_append -> Qi, mem_cons -> Qj, mem_map -> Qk
open Nat renaming le_refl -> Q5
open Go.IntKind renaming i64 -> Q8
namespace Go.Proofs.TT
open Go Go.Sw
set_option maxRecDepth 100000
variable {active:Int}{b:By}{bs:List By}{c:Int}{d:zF}{e:zB}{es:List zB}{i:Nat}{is:List Int}{l:List zC}{m:Nat}{out:By}{r:zF×Int}{role:Int}{s seq:Nat}{st:zU}{vo:yF}{α:Type}{x y:Option α}
theorem wUO:iD=xY:=rfl
theorem wBO:dM=wJ:=rfl
structure zEj (c:Int) (is:List Int) (bs:List By):Prop where
 sh:tX c=some (0,0,(is.length:Int),(bs.length:Int),true)
 c0:0<=c
 c1:c<256
 il:is.length<=2
 bl':bs.length<=2
 i:∀ x∈is,0<=x/\x<=1099511627776
 b:∀ x∈bs,x.length<=32
def rq (c:Int) (is:List Int) (bs:List By):yA:=yA.mk c [] [] is bs
def rqB (c:Int) (is:List Int) (bs:List By):By:=u8 c :: (is.flatMap (λn=>beN n 8 8)++(u8 (bs.length:Int) :: bs.flatMap bl))
def rqW (c:Int) (is:List Int) (bs:List By):By:=[83,87]++(beN ((4+(rqB c is bs).length:Nat):Int) 2 2++rqB c is bs)
theorem zB3 (is:List Int):(is.flatMap (λn=>beN n 8 8)).length=8*is.length:=by
 induction is with
 | nil=>rfl
 | cons x l ih=>simp only [Qe,Q0,xC,Q1,ih];omega
theorem zH6 (bs:List By) (h:∀ x∈bs,x.length<=32):(bs.flatMap bl).length<=34*bs.length:=by
 induction bs with
 | nil=>simp
 | cons x l ih=>
  have h1:=h x (by simp);have h2:=ih λy hy=>h y (by simp [hy]);simp only [Qe,Q0,uB,Q1];omega
theorem zE1 (h:zEj c is bs):2<=(rqB c is bs).length/\(rqB c is bs).length<=100:=by
 have h1:=zB3 is;have h2:=zH6 bs h.b;have h3:=h.il;have h4:=h.bl';unfold rqB;simp only [Q1,Q0];omega
theorem zIq (h:zEj c is bs):(rqW c is bs).length=4+(rqB c is bs).length:=by
 unfold rqW;simp only [Q0,xC,Q1,Qg];omega
theorem zRm (hi:i<bs.length):(bs.take (i+1)).flatMap bl=(bs.take i).flatMap bl++bl bs[i]:=by
 rw [Q9,Qc];simp [hi]
theorem zRg (hi:i<is.length):(is.take (i+1)).flatMap (λn=>beN n 8 8)=(is.take i).flatMap (λn=>beN n 8 8)++beN is[i] 8 8:=by
 rw [Q9,Qc];simp [hi]
theorem wrt (h:zEj c is bs):oG (rq c is bs)=some (rqW c is bs):=by
 have hB:=zE1 h;have hil:=h.il;have hbl:=h.bl';unfold oG;refine bd (ckT rfl) ?_;refine bd (a:=[83,87]) rfl ?_;refine bd (a:=[83,87,0,0,u8 c]) rfl ?_;refine bd (a:=[83,87,0,0,u8 c]) (uD (by unfold eH;exact cf rfl rfl)) ?_;refine bd (a:=[83,87,0,0,u8 c]) (uD (by unfold eR;exact cf rfl rfl)) ?_;refine bd (a:=[83,87,0,0,u8 c]++is.flatMap (λn=>beN n 8 8)) ?_ ?_
 ·refine yD is.length (λi=>([83,87,0,0,u8 c]++(is.take i).flatMap (λn=>beN n 8 8),(i:Int))) (by simp) (λi hi=>?_) ?_ (xK (by omega))
  ·unfold mS;refine ct (dlt hi) (bd (yO hi) ?_);rw [wUO];refine bd (wU _ 8 _ (by omega) (by omega) ?_) ?_
   ·rw [Q0,zB3];simp;omega
   ·rw [zRg hi,Q4,wO (by omega)]
  ·unfold mS;refine cf (dge (Q5 _)) ?_;rw [Q7]
 refine bd (yG (by rw [Q0,zB3];simp;omega)) ?_;refine bd (a:=(([83,87,0,0,u8 c]++is.flatMap (λn=>beN n 8 8))++[u8 (bs.length:Int)])++bs.flatMap bl) ?_ ?_
 ·refine yD bs.length (λi=>((([83,87,0,0,u8 c]++is.flatMap (λn=>beN n 8 8))++[u8 (bs.length:Int)])++(bs.take i).flatMap bl,(i:Int))) (by simp;rfl) (λi hi=>?_) ?_ (xK (by omega))
  ·have hx:=h.b _ (Q2 hi);have ht:=zH6 (bs.take i) λx hx=>h.b x (Qb hx);have ht2:(bs.take i).length<=2:=by simp;omega
   unfold mV;refine ct (dlt hi) (bd (yO hi) ?_);rw [wBO];refine bd (wB _ _ ?_ (by omega)) ?_
   ·simp only [Q0,zB3,Q1,Qg];omega
   ·rw [zRm hi,Q4,wO (by omega)]
  ·unfold mV;refine cf (dge (Q5 _)) ?_;rw [Q7]
 have e:(([83,87,0,0,u8 c]++is.flatMap (λn=>beN n 8 8))++[u8 (bs.length:Int)])++bs.flatMap bl=[83,87,0,0]++rqB c is bs:=by
  unfold rqB;simp
 rw [e];have el:(([83,87,0,0]:By)++rqB c is bs).length=4+(rqB c is bs).length:=by simp;omega
 refine bd (ckT (zEd (by omega))) ?_;refine bd (wU [] 2 _ (by omega) (by omega) (by simp)) ?_;refine bd (ckT (zEd (by omega))) ?_;rw [el];unfold rqW cpA;obtain ⟨a,b,hab⟩:∃ a b,beN ((4+(rqB c is bs).length:Nat):Int) 2 2=[a,b]:=⟨_,_,rfl⟩;rw [hab];rfl
theorem chk (h:zEj c is bs):oH (rq c is bs)=some 0:=by
 have hB:=zE1 h;have hil:=h.il;have hbl:=h.bl';unfold oH;refine bd h.sh (cf rfl ?_);refine bd (a:=true) (ct rfl (ct rfl (ct (by simp [rq]) (bd (a:=true) ?_ rfl)))) ?_
 ·unfold rJ;exact bd (ct (by simp [rq]) rfl) rfl
 refine bd (a:=true) (uD (by unfold fY;exact cf rfl rfl)) ?_;refine bd (a:=true) (uD (by unfold eN;exact cf rfl rfl)) ?_;refine bd (a:=true) ?_ (cf rfl ?_)
 ·refine yD is.length (λi=>(true,(i:Int))) rfl (λi hi=>?_) ?_ (xK (by omega))
  ·have hx:=h.i _ (Q2 hi);unfold mU;refine ct (dlt hi) (bd (yO hi) ?_);refine bd (a:=true) (ct rfl (ct (by simp;exact hx.1) (congrArg some (by simp;exact hx.2)))) ?_;rw [wO (by omega)]
  ·unfold mU;exact cf (dge (Q5 _)) rfl
 refine bd (a:=true) (uD (by unfold eC;exact cf rfl rfl)) ?_;refine bd (a:=true) ?_ ?_
 ·refine yD bs.length (λi=>(true,(i:Int))) rfl (λi hi=>?_) ?_ (xK (by omega))
  ·have hx:=h.b _ (Q2 hi);unfold lD;refine ct (dlt hi) (bd (yO hi) ?_);refine bd (a:=true) (ct rfl (congrArg some (by simp;omega))) ?_;rw [wO (by omega)]
  ·unfold lD;exact cf (dge (Q5 _)) rfl
 have hw:=zIq h;exact bd (a:=false) (cf rfl (bd (wrt h) (congrArg some (by simp;omega)))) (cf rfl rfl)
theorem zRb (h:zEj c is bs):qH (rq c is bs)=some (rqW c is bs,0):=by
 unfold qH;exact bd (chk h) (cf rfl (bd (wrt h) rfl))
theorem zXx (h:zEj c is bs):lJ (rqW c is bs)=some (c,0):=by
 have hB:=zE1 h;have hw:=zIq h;obtain ⟨a,b,hab,hv⟩:=be2 (4+(rqB c is bs).length) (by omega);obtain ⟨t,ht⟩:∃ t,rqB c is bs=u8 c :: t:=⟨_,rfl⟩;have e:rqW c is bs=83 :: 87 :: a :: b :: u8 c :: t:=by unfold rqW;rw [hab,ht];rfl
 unfold lJ;refine cf (by simp;omega) (cf (by simp;omega) ?_);rw [e];refine bd (a:=false) rfl (cf rfl ?_);refine bd (a:=a) rfl (bd (a:=b) rfl (ltk ?_));have hl2:((83 :: 87 :: a :: b :: u8 c :: t:By)).length=4+(rqB c is bs).length:=by rw [<- e];exact hw
 rw [zUb,<- hv,hl2];refine cf (by simp) (cf (by simp) ?_);refine bd (a:=u8 c) rfl ?_;have h0:=h.c0;have h1:=h.c1;rw [zT5 c h0 h1,yR (by omega) (by omega)]
theorem yA3 (h:zEj c is bs):mA (rqW c is bs)=some (rq c is bs,0):=by
 have hB:=zE1 h;have hw:=zIq h;have hil:=h.il;have hbl:=h.bl';unfold mA;refine bd (zXx h) (cf rfl (bd h.sh (cf rfl ?_)));let body:=is.flatMap (λn=>beN n 8 8)++(u8 (bs.length:Int) :: bs.flatMap bl);have e:(rqW c is bs).drop 5=body:=by
  unfold rqW rqB;obtain ⟨a,b,hab⟩:∃ a b,beN ((4+(u8 c :: (is.flatMap (λn=>beN n 8 8)++(u8 (bs.length:Int) :: bs.flatMap bl))).length:Nat):Int) 2 2=[a,b]:=⟨_,_,rfl⟩;rw [hab];rfl
 have hsub:sub (rqW c is bs) 5 ((rqW c is bs).length:Int)=some body:=by
  have:=sP (l:=rqW c is bs) (a:=5) (b:=(rqW c is bs).length) (by omega) (Q5 _);rw [Q6 (by simp),e] at this;exact this
 have hbody:body.length<2 ^ 40:=by rw [<- e,Qf];omega
 refine bd hsub ?_;obtain ⟨r,g,e1⟩:=zH5 body hbody;refine bd e1 ?_;refine bd (a:=([],r.W.b_,r.W.at_,r.W.e_)) (uD (by unfold gP;exact cf rfl rfl)) ?_;refine bd (a:=([],r.W.b_,r.W.at_,r.W.e_)) (uD (by unfold gY;exact cf rfl rfl)) ?_;have l3:∀ (m acc:List Int) (v:Int) (r:RS) (fuel:Nat) (rest:By),m.length<fuel->Rd r (m.flatMap (λn=>beN n 8 8)++rest)->(∀ x∈m,0<=x/\x<=1099511627776)->0<=v->v+m.length=(is.length:Int)->acc.length<=2->(acc.length:Int)+m.length<=2 ->
   ∃ r',Rd r' rest/\zN (vZ (is.length:Int)) fuel (v,acc,r.W.b_,r.W.at_,r.W.e_)=some (.inr (acc++m,r'.W.b_,r'.W.at_,r'.W.e_)):=by
  intro m;induction m with
  | nil=>
   intro acc v r fuel rest hf g _ hv0 hv _ _;obtain ⟨f,rfl⟩:∃ f,fuel=f+1:=⟨fuel - 1,by simp at hf;omega⟩;refine ⟨r,g,?_⟩;simp only [zN];have:vZ (is.length:Int) (v,acc,r.W.b_,r.W.at_,r.W.e_)=some (.inr (.inr (acc,r.W.b_,r.W.at_,r.W.e_))):=by
    unfold vZ;exact cf (by simp at hv ⊢;omega) rfl
   rw [this,Qa]
  | cons x m ih=>
   intro acc v r fuel rest hf g hm hv0 hv ha hb;obtain ⟨f,rfl⟩:∃ f,fuel=f+1:=⟨fuel - 1,by simp at hf;omega⟩;simp only [Q1] at hf hv hb;have hx:=hm x (by simp);have g':Rd r (beN x 8 8++(m.flatMap (λn=>beN n 8 8)++rest)):=g.cast (by simp);obtain ⟨r1,g1,e1⟩:=rdU (k:=8) g' (by omega) (by omega) hx.1 (by omega) (by omega);obtain ⟨r2,g2,e2⟩:=ih (acc++[x]) (v+1) r1 f rest (by omega) g1 (λy hy=>hm y (by simp [hy])) (by omega) (by omega) (by simp;omega) (by simp;omega);refine ⟨r2,g2,?_⟩;simp only [zN];have:vZ (is.length:Int) (v,acc,r.W.b_,r.W.at_,r.W.e_)=some (.inl (v+1,acc++[x],r1.W.b_,r1.W.at_,r1.W.e_)):=by
    unfold vZ;refine ct (by simp;omega) (bd e1 ?_);refine bd (a:=(false,r1.W.b_,r1.W.at_,r1.W.e_)) (bd (zLt g1) (ct rfl ?_)) (cf rfl ?_)
    ·rw [show decide (1099511627776<x)=false by simp;omega]
    ·refine bd (yG (by simp;omega)) ?_;rw [yR (by omega) (by omega)]
   rw [this];simp only;rw [e2,Q4];rfl
 obtain ⟨r1,g1,e2⟩:=l3 is [] 0 r FU (u8 (bs.length:Int) :: bs.flatMap bl) (xK (by omega)) g h.i (by omega) (by omega) (by simp) (by simp;omega);refine bd e2 ?_;obtain ⟨r2,g2,e3⟩:=zPa g1 (by omega) (by omega);refine bd e3 ?_;refine bd (a:=(false,r2.W.b_,r2.W.at_,r2.W.e_)) (bd (zLt g2) (ct rfl (bd (a:=true) ?_ rfl))) (cf rfl ?_)
 ·unfold rJ;exact bd (ct (by simp) rfl) rfl
 have l4:∀ (m acc:List By) (v:Int) (r:RS) (fuel:Nat),m.length<fuel->Rd r (m.flatMap bl)->(∀ x∈m,x.length<=32)->0<=v->v+m.length=(bs.length:Int)->acc.length<=2->(acc.length:Int)+m.length<=2 ->
   ∃ r',Rd r' []/\zN (vY (bs.length:Int)) fuel (v,acc,r.W.b_,r.W.at_,r.W.e_)=some (acc++m,r'.W.b_,r'.W.at_,r'.W.e_):=by
  intro m;induction m with
  | nil=>
   intro acc v r fuel hf g _ hv0 hv _ _;obtain ⟨f,rfl⟩:∃ f,fuel=f+1:=⟨fuel - 1,by simp at hf;omega⟩;refine ⟨r,g,?_⟩;simp only [zN];have:vY (bs.length:Int) (v,acc,r.W.b_,r.W.at_,r.W.e_)=some (.inr (acc,r.W.b_,r.W.at_,r.W.e_)):=by
    unfold vY;exact cf (by simp at hv ⊢;omega) rfl
   rw [this,Qa]
  | cons x m ih=>
   intro acc v r fuel hf g hm hv0 hv ha hb;obtain ⟨f,rfl⟩:∃ f,fuel=f+1:=⟨fuel - 1,by simp at hf;omega⟩;simp only [Q1] at hf hv hb;have hx:=hm x (by simp);have g':Rd r (bl x++m.flatMap bl):=g.cast (by simp);obtain ⟨r1,g1,e1⟩:=zOc (k:=1024) g' (by omega) (by omega);obtain ⟨r2,g2,e2⟩:=ih (acc++[x]) (v+1) r1 f (by omega) g1 (λy hy=>hm y (by simp [hy])) (by omega) (by omega) (by simp;omega) (by simp;omega);refine ⟨r2,g2,?_⟩;simp only [zN];have:vY (bs.length:Int) (v,acc,r.W.b_,r.W.at_,r.W.e_)=some (.inl (v+1,acc++[x],r1.W.b_,r1.W.at_,r1.W.e_)):=by
    unfold vY;refine ct (by simp;omega) (bd e1 (bd (yG (by simp;omega)) ?_));rw [yR (by omega) (by omega)]
   rw [this];simp only;rw [e2,Q4];rfl
 obtain ⟨r3,g3,e4⟩:=l4 bs [] 0 r2 FU (xK (by omega)) g2 h.b (by omega) (by omega) (by simp) (by simp;omega);refine bd e4 ?_;exact bd (rdE g3) (cf rfl rfl)
set_option maxRecDepth 100000
theorem sh1:tX 1=some (0,0,1,0,true):=by decide +kernel
theorem sh6:tX 6=some (0,0,1,2,true):=by decide +kernel
theorem sh5:tX 5=some (0,0,2,0,true):=by decide +kernel
theorem rqS:zEj 1 [0] []:=⟨sh1,by decide,by decide,by decide,by decide,by simp,by simp⟩
theorem rqE (h:EvGood e active):zEj 6 [e.Register] e.Digests:=by
 have hl:=h.l;refine ⟨by rw [sh6,hl];rfl,by decide,by decide,by simp,by omega,?_,?_⟩
 ·have:=h.r0;have:=h.r1;simp;omega
 ·intro x hx;have f0:=fN h.f0;have f1:=fN h.f1
  match hd:e.Digests,hl with
  | [a,b],_=>
   rw [hd] at hx f0 f1;simp only [Qj,List.not_mem_nil,or_false] at hx;rcases hx with rfl | rfl
   ·exact f0
   ·exact f1
theorem rsp0:xQ (zM.mk 0 [] [] [])=some [0,0,0,0]:=by decide +kernel
theorem rsd0:xP [0,0,0,0]=some (zM.mk 0 [] [] [],0):=by decide +kernel
def stS (s:zU):zU:=zU.mk s.Seeds s.Auths s.Entropy s.Active (s.Resets+1) 0 s.Clock false (zD.mk [] 0) s.MaxCounter s.Indices s.Lockout s.Keys
def zQ8 (s:zU) (v:yF):yF:=⟨true,v.Stopped,zLe s.Active,s.Clock,s.Orderly,v.Draws,v.Sessions,v.Objects,v.ReadLocks,v.WriteLocks⟩
def zOu (r:zD) (v:yF):yF:=⟨v.Started,v.Stopped,r,v.Clock,v.Safe,v.Draws,v.Sessions,v.Objects,v.ReadLocks,v.WriteLocks⟩
theorem Sst.S {s:zU} (h:Sst s) (hr:s.Resets+1<2 ^ 30):Sst (stS s):=by
 obtain ⟨a,b,c,d,e,r0,r1,f,g,i,j,k,l,m⟩:=h;exact ⟨a,b,c,d,e,by show 0<=s.Resets+1;omega,hr,rfl,g,rfl,j,k,l,m⟩
theorem zQm (s:zV) (c:Int) (is:List Int) (bs:List By):mF s (rq c is bs)=some true:=by
 unfold mF;refine bd (a:=()) (uD (by unfold gQ;exact cf rfl rfl)) ?_;exact ct rfl rfl
theorem zE5 {s s':zV} {e:Int} {i:List Int} {b n:List By} (h:zEj c is bs) (hs:c=1∨s.Volatile.Started=true)
  (hp:rD s 0 (rq c is bs)=some (s',zM.mk e i b n)) (ho:xQ (zM.mk e i b [])=some out):uC s 0 (rqW c is bs)=some (s',out):=by
 unfold uC;refine bd (yA3 h) (cf rfl ?_);refine bd (a:=(s',zM.mk e i b [])) ?_ (bd ho rfl);unfold iO;refine bd (chk h) (cf rfl (bd (a:=false) rfl (cf rfl (bd (a:=false) ?_ (cf rfl ?_)))))
 ·rcases hs with rfl | hs
  ·exact cf rfl rfl
  ·rw [hs];show (bif (c != 1) then some false else some false)=some false;cases (c != 1)<;>rfl
 refine bd (zQm s c is bs) (cf rfl (ct rfl (bd hp rfl)))
theorem zOf (st:zU) (v:yF) (hs:Sst st) (h1:v.Started=false) (h2:v.Stopped=false):uC ⟨st,v⟩ 0 (rqW 1 [0] [])=some (⟨stS st,zQ8 st v⟩,[0,0,0,0]):=by
 have hr:=hs.r0;have hr1:=hs.r1;refine zE5 rqS (.inl rfl) (b:=[]) (n:=[]) (i:=[]) (e:=0) ?_ rsp0;unfold rD;refine ct rfl (bd (a:=0) rfl (bd (a:=(⟨stS st,zQ8 st v⟩,0)) ?_ rfl));unfold fP;refine bd (a:=false) (cf h1 (congrArg some h2)) (cf rfl (bd (a:=false) rfl (cf rfl (bd (a:=false) rfl (cf rfl (ct rfl ?_))))));refine bd (zTn st.Active hs.a0 hs.a3) ?_;rw [yR (by simp only;omega) (by simp only;omega)];rfl
theorem zSo (st:zU) (v:yF) (e:zB) (active:Int) (h1:v.Started=true) (hr:zC1 active v.Registers) (he:EvGood e active) (hk:e.Kind≠5):uC ⟨st,v⟩ 0 (rqW 6 [e.Register] e.Digests)=some (⟨st,zOu (ext active e v.Registers) v⟩,[0,0,0,0]):=by
 refine zE5 (rqE he) (.inr h1) (b:=[]) (n:=[]) (i:=[]) (e:=0) ?_ rsp0;unfold rD;refine cf rfl (cf rfl (cf rfl (bd (a:=true) rfl (ct rfl (bd (a:=(⟨st,zOu (ext active e v.Registers) v⟩,zM.mk 0 [] [] [])) ?_ rfl)))));unfold rR;refine cf rfl (ct rfl (bd (a:=e.Register) rfl ?_));obtain ⟨x,hx,rfl⟩:=zKb v.Registers active e hr he hk;exact bd hx (cf rfl rfl)
section
variable {st':zU} {vo':yF}
theorem Dv.commit_same (h:Dv d seq st vo m):tY d ⟨st,vo'⟩=some (⟨d.Disk,⟨st,vo'⟩,d.On,d.Next⟩,0):=by
 unfold tY;refine bd (zFe st h.sst) ?_;refine bd (a:=.inr d) (bd (a:=sX st) (by rw [h.s];exact zFe st h.sst) (cf (by simp) rfl)) rfl
theorem Dv.vol (h:Dv d seq st vo m):Dv ⟨d.Disk,⟨st,vo'⟩,d.On,d.Next⟩ seq st vo' m:=⟨h.toDk,h.on,h.off,h.cut,rfl,h.nx⟩
theorem Dv.commit_new (h:Dv d seq st vo m) (hs:Sst st') (hq:seq+1<2 ^ 29) (hm:m+1<2 ^ 50):∃ d' seq',tY d ⟨st',vo'⟩=some (d',0)/\Dv d' seq' st' vo' (m+1)/\seq'<=seq+1/\∀ a,2<=a->d'.Disk.Areas.getD a []=d.Disk.Areas.getD a []:=by
 have hn:=h.n;have hok:=h.ok;have hm0:=h.m0;by_cases he:sX st'=sX st
 ·have hk:Dk d.Disk seq st' (m+1):=by
   refine ⟨h.ok,?_,hm,h.n,h.al,?_,hs⟩
   ·rw [Int.natCast_add];exact Int.le_trans hm0 (by omega)
   ·rw [he];exact h.jr
  refine ⟨⟨d.Disk,⟨st',vo'⟩,d.On,d.Next⟩,seq,?_,⟨hk,h.on,h.off,h.cut,rfl,h.nx⟩,Nat.le_succ _,λ_ _=>rfl⟩;unfold tY;refine bd (zFe st' hs) ?_;refine bd (a:=.inr d) (bd (a:=sX st) (by rw [h.s];exact zFe st h.sst) (cf (by simp [he]) rfl)) rfl
 ·have hl:=zJ8 st' hs;have hrl:=zGf (seq+1) (sX st');have hlt:(seq+1) % 2<2:=Nat.mod_lt _ (by decide);have hw:=zGn d.Disk ((seq+1) % 2) (jB (seq+1) (sX st')) h.ok h.off (by omega) (by omega) (by have:=h.al ((seq+1) % 2);omega);have hc:=h.noC;have e:wrC d.Disk (d.Disk.Areas.getD ((seq+1) % 2) []) (jB (seq+1) (sX st'))=jB (seq+1) (sX st'):=by
   unfold wrC zAj;rw [if_neg (show ¬ (d.Disk.Writes+1=d.Disk.CutAt) from hc),if_neg hc,Q7,Qa]
  rw [e,show zFm d.Disk=0 from if_neg hc] at hw;have hcm:=zHx d.Disk (seq+1) (sX st') (by omega) (by omega) (by omega) hw;have hnx:=h.nx;refine ⟨⟨zA5 d.Disk ((seq+1) % 2) (jB (seq+1) (sX st')),⟨st',vo'⟩,d.On,d.Next+1⟩,seq+1,?_,⟨⟨⟨?_,?_,?_⟩,?_,hm,?_,?_,h.jr.next (by omega) hq (by omega),hs⟩,h.on,?_,h.cut,rfl,?_⟩,Q5 _,λa ha=>?_⟩
  ·unfold tY;refine bd (zFe st' hs) ?_;refine bd (a:=.inr ⟨zA5 d.Disk ((seq+1) % 2) (jB (seq+1) (sX st')),d.State,d.On,d.Next+1⟩) (bd (a:=sX st) (by rw [h.s];exact zFe st h.sst) (ct (by simp [he]) ?_)) rfl;refine bd (a:=(zA5 d.Disk ((seq+1) % 2) (jB (seq+1) (sX st')),0)) (by rw [hnx];exact hcm) (cf rfl ?_);rw [yR (by omega) (by omega)]
  ·show (d.Disk.Areas.set _ _).length<=64;simp;omega
  ·show 0<=d.Disk.Writes+1;have:=hok.w0;omega
  ·show d.Disk.Writes+1<2 ^ 60;omega
  ·show d.Disk.Writes+1<=((m+1:Nat):Int);omega
  ·show (d.Disk.Areas.set _ _).length=8;simp [hn]
  ·exact zQn h.al (by omega) (by omega)
  ·show decide (isC d.Disk)=false;exact decide_eq_false h.noC
  ·show d.Next+1=((seq+1:Nat):Int)+1;omega
  ·exact getD_set_ne (by omega)
theorem Dv.send_same (h:Dv d seq st vo m) (hr:uC ⟨st,vo⟩ 0 b=some (⟨st,vo'⟩,out)):sS d 0 b=some (⟨d.Disk,⟨st,vo'⟩,d.On,d.Next⟩,out,0):=by
 have hr':uC d.State 0 b=some (⟨st,vo'⟩,out):=by rw [h.s];exact hr
 unfold sS;refine bd (zGj h.on h.off) ?_;refine cf rfl ?_;refine bd hr' ?_;refine bd h.commit_same ?_;exact cf rfl rfl
theorem Dv.send_new (h:Dv d seq st vo m) (hs:Sst st') (hq:seq+1<2 ^ 29) (hm:m+1<2 ^ 50) (hr:uC ⟨st,vo⟩ 0 b=some (⟨st',vo'⟩,out)):∃ d' seq',sS d 0 b=some (d',out,0)/\Dv d' seq' st' vo' (m+1)/\seq'<=seq+1/\∀ a,2<=a->d'.Disk.Areas.getD a []=d.Disk.Areas.getD a []:=by
 obtain ⟨d',seq',e,h1,h2,h3⟩:=h.commit_new (vo':=vo') hs hq hm;refine ⟨d',seq',?_,h1,h2,h3⟩;have hr':uC d.State 0 b=some (⟨st',vo'⟩,out):=by rw [h.s];exact hr
 unfold sS;refine bd (zGj h.on h.off) ?_;refine cf rfl ?_;refine bd hr' ?_;refine bd e ?_;exact cf rfl rfl
theorem zQe {d':zF} {r:zM} (h:zEj c is bs) (hs:sS d 0 (rqW c is bs)=some (d',out,0)) (hd:xP out=some (r,0)) (he:r.Err=0) (hc:(c==9)=false/\(c==11)=false/\(c==16)=false/\(c==12)=false) :
  ∀ L:yE,L.Device=d->pK L (rq c is bs)=some (r,0,yE.mk d' L.opened_):=by
 rintro L rfl;obtain ⟨c1,c2,c3,c4⟩:=hc;unfold pK;refine bd (a:=(rqW c is bs,0)) (zRb h) ?_;refine cf rfl ?_;refine bd (a:=(d',out,0)) hs ?_;refine cf rfl ?_;refine bd (a:=(r,0)) hd ?_;refine bd (a:=0) (ct rfl (congrArg some he)) ?_;refine cf rfl ?_;refine bd (a:=false) (cf c1 (cf c2 (congrArg some c3))) ?_;refine cf rfl ?_;refine cf c4 ?_;refine bd (a:=()) (uD (by unfold cE;exact cf rfl rfl)) ?_;rfl
end
set_option maxRecDepth 100000
theorem zNj (h:e.Digests=dgE active (e.Kind != 5) b):Fit e active 0/\Fit e active 1:=by
 unfold Fit;rw [h];unfold dgE;constructor
 ·show (((if ((e.Kind != 5)&&xB active 0)=true then mX b else []):By).length:Int)=if e.Kind≠5/\xB active 0=true then siz 0 else 0
  by_cases hk:e.Kind=5
  ·rw [if_neg (by simp [hk]),if_neg (λh=>h.1 hk)];rfl
  ·cases hb:xB active 0
   ·rw [if_neg (by simp),if_neg (λh=>by cases h.2)];rfl
   ·rw [if_pos (by simp [hk]),if_pos ⟨hk,rfl⟩,zJl];rfl
 ·show (((if ((e.Kind != 5)&&xB active 1)=true then sha b else []):By).length:Int)=if e.Kind≠5/\xB active 1=true then siz 1 else 0
  by_cases hk:e.Kind=5
  ·rw [if_neg (by simp [hk]),if_neg (λh=>h.1 hk)];rfl
  ·cases hb:xB active 1
   ·rw [if_neg (by simp),if_neg (λh=>by cases h.2)];rfl
   ·rw [if_pos (by simp [hk]),if_pos ⟨hk,rfl⟩,zE3];rfl
theorem zMj {reg kind:Int} {data:By} (h1:1<=active) (h3:active<=3) (r0:0<=reg) (r1:reg<=11) (k1:1<=kind) (k5:kind<=5) (hd:data.length<=64):EvC (mkE reg kind active data) active:=by
 obtain ⟨f0,f1⟩:=zNj (e:=mkE reg kind active data) (active:=active) (b:=data) rfl;exact ⟨⟨r0,r1,hd,rfl,f0,f1⟩,h1,h3,k1,k5⟩
theorem zUm (r:Int) (h1:1<=r) (h4:r<=4):0<=rgR r/\rgR r<=11:=by
 unfold rgR;split
 ·omega
 split
 ·omega
 split
 ·omega
 split<;>omega
theorem zSv (x:zC) (h:sB x):(lbl x).length<=33:=by
 have h1:=h.nl;have h2:=bZ 20 x.Version.toNat;unfold lbl;rw [Q0,Q0,List.length_singleton];omega
theorem zU8 {x:zC} (h1:1<=active) (h3:active<=3) (h:sB x):EvC (imE active x) active:=by
 obtain ⟨f0,f1⟩:=zNj (e:=imE active x) (active:=active) (b:=pI x) rfl;have hr:=zUm x.Role h.r1 h.r4;have hl:=zSv x h;exact ⟨⟨hr.1,hr.2,by show (lbl x).length<=64;omega,rfl,f0,f1⟩,h1,h3,by show (1:Int)<=1;omega,by show (1:Int)<=5;omega⟩
theorem zNy (h:e∈evR active role l):∃ x∈l,x.Role=role/\((role=4/\∃ d∈zEq x,e=mkE 9 3 active d)∨(role≠4/\e=imE active x)):=by
 unfold evR at h;obtain ⟨x,hx,he⟩:=List.mem_flatMap.1 h;by_cases hr:x.Role=role
 ·rw [if_pos hr] at he;by_cases h4:role=4
  ·rw [if_pos h4] at he;obtain ⟨d,hd,rfl⟩:=Qk.1 he;exact ⟨x,hx,hr,.inl ⟨h4,d,hd,rfl⟩⟩
  ·rw [if_neg h4] at he;exact ⟨x,hx,hr,.inr ⟨h4,by simpa using he⟩⟩
 ·rw [if_neg hr] at he;cases he
theorem zIa (h1:1<=active) (h3:active<=3) (hc:lB l):∀ e∈evR active role l,EvC e active:=by
 intro e he;obtain ⟨x,hx,hr,⟨h4,d,hd,rfl⟩ | ⟨_,rfl⟩⟩:=zNy he
 ·have:=((zJd x (hc.im x hx) (by omega)).2.2 d hd).2.1;exact zMj h1 h3 (by omega) (by omega) (by omega) (by omega) (by omega)
 ·exact zU8 h1 h3 (hc.im x hx)
theorem zLb (h:e∈fW active):∃ i:Nat,i<8/\e=mkE (i:Int) 2 active [0,0,0,0]:=by
 unfold fW at h;obtain ⟨i,hi,rfl⟩:=Qk.1 h;exact ⟨i,List.mem_range.1 hi,rfl⟩
theorem zL8 (h1:1<=active) (h3:active<=3) (hc:lB l):∀ e∈evs l active,EvC e active:=by
 intro e he;unfold evs at he;simp only [Qh] at he;rcases he with ((he | he) | (he | he)) | he
 ·exact zIa h1 h3 hc e he
 ·exact zIa h1 h3 hc e he
 ·obtain ⟨i,hi,rfl⟩:=zLb he;exact zMj h1 h3 (by omega) (by omega) (by omega) (by omega) (by decide)
 ·exact zIa h1 h3 hc e he
 ·exact zIa h1 h3 hc e he
theorem zQ1:∀ e∈evs l active,e.Kind≠5:=by
 have hR:∀ role,∀ e∈evR active role l,e.Kind≠5:=by
  intro role e he;obtain ⟨x,_,_,⟨_,d,_,rfl⟩ | ⟨_,rfl⟩⟩:=zNy he
  ·exact show (3:Int)≠5 by decide
  ·exact show (1:Int)≠5 by decide
 intro e he;unfold evs at he;simp only [Qh] at he;rcases he with ((he | he) | (he | he)) | he
 ·exact hR _ e he
 ·exact hR _ e he
 ·obtain ⟨i,_,rfl⟩:=zLb he;exact show (2:Int)≠5 by decide
 ·exact hR _ e he
 ·exact hR _ e he
def zTx (active:Int):zB:=mkE 0 4 active [99,104,97,105,110]
theorem zMt (h1:1<=active) (h3:active<=3):EvC (zTx active) active:=zMj h1 h3 (by decide) (by decide) (by decide) (by decide) (by decide)
set_option maxRecDepth 100000
theorem zRn:∀ n:Nat,n<256->beN (n:Int) 1 1=[u8 (n:Int)]:=by decide +kernel
theorem zX5 {a:Int} (h0:0<=a) (h:a<256):beN a 1 1=[u8 a]:=by
 obtain ⟨n,rfl⟩:=Int.eq_ofNat_of_zero_le h0;exact zRn n (by omega)
theorem zUu (a r:Int) (h1:1<=a) (h3:a<=3) (h0:0<=r) (hr:r<=1099511627776):vI a r=some (zBc a r):=by
 unfold vI;refine bd (a:=false) (cf (by simp;omega) (cf (by simp;omega) (cf (by simp;omega) (congrArg some (by simp;omega))))) ?_;refine cf rfl ?_;refine bd (wU _ 1 a (by omega) (by omega) (by simp)) ?_;refine bd (wU _ 6 r (by omega) (by omega) (by simp [xC])) ?_;rw [zX5 (by omega) (by omega)];rfl
theorem zOp (e:zB) (active:Int) (h:EvC e active):jD e=some (mJ e):=by
 have q0:=fN h.f0;have q1:=fN h.f1;have hd:=h.d;have hl:=h.l;have r0:=h.r0;have r1:=h.r1;have k1:=h.k1;have k5:=h.k5;obtain ⟨reg,kind,dg,data⟩:=e
 match dg,hl with
 | [x,y],_=>
 simp only at q0 q1 hd r0 r1 k1 k5;have q0:x.length<=32:=q0;have q1:y.length<=32:=q1;have hen:wW ⟨reg,kind,[x,y],data⟩=some true:=by
  unfold wW;refine bd (a:=false) (cf (decide_eq_false (by simp only;omega)) (cf (decide_eq_false (by simp only;omega)) (cf (decide_eq_false (by simp only;omega)) (cf (decide_eq_false (by simp only;omega)) (cf rfl (congrArg some (decide_eq_false (by simp only;omega)))))))) ?_;refine cf rfl ?_;refine bd (a:=.inr ()) (yD 2 (λi=>(i:Int)) rfl ?_ ?_ (xK (by omega))) rfl
  ·intro i hi;unfold vP;rcases (show i=0∨i=1 by omega) with rfl | rfl
   ·exact ct rfl (bd (a:=x) rfl (bd (a:=32) rfl (cf (decide_eq_false (by omega)) rfl)))
   ·exact ct rfl (bd (a:=y) rfl (bd (a:=32) rfl (cf (decide_eq_false (by omega)) rfl)))
  ·unfold vP;exact cf rfl rfl
 unfold jD;refine bd hen (cf rfl ?_);refine bd (wU [] 1 reg (by omega) (by omega) (by simp)) ?_;refine bd (wU _ 1 kind (by omega) (by omega) (by simp [xC])) ?_;rw [zX5 (by omega) (by omega),zX5 (by omega) (by omega)];refine bd (a:=([u8 reg,u8 kind]++bl x)++bl y) (yD 2 (λi=>(if i=0 then [u8 reg,u8 kind] else if i=1 then [u8 reg,u8 kind]++bl x else ([u8 reg,u8 kind]++bl x)++bl y,(i:Int))) rfl ?_ ?_ (xK (by omega))) ?_
 ·intro i hi;unfold kQ;rcases (show i=0∨i=1 by omega) with rfl | rfl
  ·exact ct rfl (bd (a:=x) rfl (bd (wB _ x (by simp) (by omega)) rfl))
  ·exact ct rfl (bd (a:=y) rfl (bd (wB _ y (by simp [uB];omega) (by omega)) rfl))
 ·unfold kQ;exact cf rfl rfl
 refine bd (wB _ data (by simp [uB];omega) (by omega)) ?_;show some _=some _;unfold mJ bl;simp
theorem zSf (active:Int) (es:List zB) (e:zB) (hk:e.Kind≠5):rpl active (es++[e])=ext active e (rpl active es):=by
 unfold rpl;rw [List.foldl_append];simp [hk]
theorem zPk (es:List zB) (e:zB):mY (es++[e])=mY es++bl (mJ e):=by simp [mY,bl]
structure Mz (d:zF) (seq:Nat) (st:zU) (vo:yF) (m:Nat) (es:List zB):Prop extends Dv d seq st vo m where
 v1:vo.Started=true
 v2:vo.Registers=rpl st.Active es
 lg:d.Disk.Areas.getD 2 []=zBc st.Active st.Resets++mY es
section
theorem Mz.step (h:Mz d seq st vo m es) {x:zB} (hx:EvC x st.Active) (hk:x.Kind≠5) (hs:es.length<=40) (he:∀ e∈es,EvC e st.Active) (hm:m+1<2 ^ 50) :
  ∃ d' vo',jA (yE.mk d []) x=some (0,yE.mk d' [])/\Mz d' seq st vo' (m+1) (es++[x])/\∀ a,3<=a->d'.Disk.Areas.getD a []=d.Disk.Areas.getD a []:=by
 have hr:=zSo st vo x st.Active h.v1 (by rw [h.v2];exact zH8 _ _ h.sst.a0 h.sst.a3) hx.toEvGood hk;have h1:=h.toDv.send_same hr;have hv:=h.toDv.vol (vo':=zOu (ext st.Active x vo.Registers) vo);have hd:=zQe (rqE hx.toEvGood) h1 rsd0 rfl (by decide) (yE.mk d []) rfl;have hb:=zB9 hx.toEvGood;have hf:=zFq es he;have hap:=hv.append (a:=2) (bl (mJ x)) (by decide) (by rw [uB];omega);have hy:(d.Disk.Areas.getD 2 []++bl (mJ x)).length<2 ^ 39:=by rw [Q0,h.lg,Q0,bE,uB];omega
 refine ⟨zEc ⟨d.Disk,⟨st,zOu (ext st.Active x vo.Registers) vo⟩,d.On,d.Next⟩ 2 (d.Disk.Areas.getD 2 []++bl (mJ x)),zOu (ext st.Active x vo.Registers) vo,?_,⟨hv.set (by decide) (by decide) hy hm,h.v1,?_,?_⟩,λa ha=>getD_set_ne (by omega)⟩
 ·unfold jA;refine bd hd ?_;refine bd (a:=(0,yE.mk (zEc ⟨d.Disk,⟨st,zOu (ext st.Active x vo.Registers) vo⟩,d.On,d.Next⟩ 2 (d.Disk.Areas.getD 2 []++bl (mJ x))) [])) ?_ rfl;refine ct rfl ?_;refine bd (zOp x st.Active hx) ?_;refine bd (wB [] _ (by simp) (by omega)) ?_;rw [Qi];refine bd hap ?_;rfl
 ·show ext st.Active x vo.Registers=_;rw [zSf _ _ _ hk,h.v2]
 ·show (d.Disk.Areas.set 2 _).getD 2 []=_;rw [uR (by have:=h.n;omega),h.lg,zPk,Q4]
end
set_option maxRecDepth 100000
theorem db {β:Type} {o:Option α} {a:α} {f:α->Option β} {Q:β->Prop} (h:o=some a) (k:Def (f a) Q):Def (o.bind f) Q:=by subst h;exact k
theorem dct {c:Bool} {Q:α->Prop} (h:c=true) (k:Def x Q):Def (bif c then x else y) Q:=by subst h;exact k
theorem dcf {c:Bool} {Q:α->Prop} (h:c=false) (k:Def y Q):Def (bif c then x else y) Q:=by subst h;exact k
set_option maxRecDepth 100000
set_option maxRecDepth 100000
def mN (l:List zC):By:=hs 20 [aI l]++aI l
theorem aQ (l:List zC):(mN l).length=32+(aI l).length:=by simp [mN,zBm]
theorem zL7 (h:s<2):(bif ((s:Int) != 0) then (some ((s:Int) != 1)) else some false:Option Bool)=some false:=by
 rcases (show s=0∨s=1 by omega) with rfl | rfl<;>rfl
theorem zTz (h:s<2):Q8.wrap (3+(s:Int))=((3+s:Nat):Int):=by rw [yR (by omega) (by omega)];omega
theorem zKv (d:zF) (hs':s<2) (hc:zGu l) (hw:qR d ((3+s:Nat):Int) (mN l)=some r):mG d (s:Int) l=some r:=by
 have hl:=bW hc;unfold mG;refine bd (zL7 hs') (cf rfl ?_);refine bd hc.p (cf rfl ?_);refine bd (yB9 hc) ?_;refine bd (zGh 20 [aI l] (by simp [tot];omega)) ?_;refine bd (yG (by rw [zBm];omega)) ?_;rw [zTz hs'];exact bd hw rfl
section
theorem Dv.install (h:Dv d seq st vo m) (hs':s<2) (hc:zGu l):mG d (s:Int) l=some (zEc d (3+s) (mN l),0):=by
 have hl:=bW hc;exact zKv d hs' hc (h.write _ (by omega) (by rw [aQ];omega))
theorem zLi (d:zF) (hs':s<2) (hw:qR d 5 [u8 (s:Int)]=some r):kC d (s:Int)=some r:=by
 unfold kC;refine bd (zL7 hs') (cf rfl ?_);exact bd hw rfl
theorem Dv.choose (h:Dv d seq st vo m) (hs':s<2):kC d (s:Int)=some (zEc d 5 [u8 (s:Int)],0):=
 zLi d hs' (h.write (a:=5) [u8 (s:Int)] (by decide) (by simp))
theorem zOi (d:zF) (ho:d.Disk.Off=false) (ha:5<d.Disk.Areas.length) (hold:(d.Disk.Areas.getD 5 []).length<2 ^ 40):oW d=some (if d.Disk.Areas.getD 5 []=[1] then 1 else 0):=by
 have hr:sR d.Disk 5=some (d.Disk.Areas.getD 5 [],0):=zCr d.Disk 5 ho ha hold;unfold oW;refine bd hr ?_;refine bd (a:=d.Disk.Areas.getD 5 []==[1]) (ct rfl (bd (zJy _ _) rfl)) ?_;by_cases h:d.Disk.Areas.getD 5 []=[1]
 ·rw [if_pos h];exact ct (by rw [h];rfl) rfl
 ·rw [if_neg h];exact cf (by simpa using h) rfl
def zBp (c:By):Option (List zC×Int):=if 32<=c.length/\c.take 32=hs 20 [c.drop 32] then vX (c.drop 32) else some ([],30)
theorem zR1 (d:zF) (hs':s<2) (ho:d.Disk.Off=false) (ha:3+s<d.Disk.Areas.length) (hold:(d.Disk.Areas.getD (3+s) []).length<2 ^ 30):iC d (s:Int)=zBp (d.Disk.Areas.getD (3+s) []):=by
 have hr:sR d.Disk (Q8.wrap (3+(s:Int)))=some (d.Disk.Areas.getD (3+s) [],0):=by rw [zTz hs'];exact zCr d.Disk (3+s) ho ha (by omega)
 unfold iC;refine bd (zL7 hs') (cf rfl ?_);refine bd hr (cf rfl ?_);generalize d.Disk.Areas.getD (3+s) []=c at hold;unfold zBp;by_cases h32:32<=c.length
 ·have h1:sub c 0 32=some (c.take 32):=sP (a:=0) (b:=32) (by decide) h32;have h2:sub c 32 c.length=some (c.drop 32):=by
   have:=sP (l:=c) (a:=32) (b:=c.length) h32 (Q5 _);rw [Q6 (by rw [Qf];omega)] at this;exact this
  refine bd (a:=!(c.take 32==hs 20 [c.drop 32])) (cf (decide_eq_false (by omega)) (bd h1 (bd h2 (bd (zGh 20 [c.drop 32] (by simp [tot];omega)) (bd (zJy _ _) rfl))))) ?_;by_cases he:c.take 32=hs 20 [c.drop 32]
  ·rw [if_pos ⟨h32,he⟩];refine cf (by simp [he]) ?_;refine bd h2 ?_;cases vX (c.drop 32)<;>rfl
  ·rw [if_neg (λh=>he h.2)];exact ct (by simp [he]) rfl
 ·rw [if_neg (λh=>h32 h.1)];exact bd (a:=true) (ct (decide_eq_true (by omega)) rfl) (ct rfl rfl)
theorem zJp (hc:zGu l):zBp (mN l)=some (l,0):=by
 have hd:(mN l).drop 32=aI l:=by unfold mN;rw [List.drop_append_of_le_length (by rw [zBm];omega),List.drop_of_length_le (by rw [zBm];omega),Qi]
 have ht:(mN l).take 32=hs 20 [aI l]:=by unfold mN;rw [List.take_append_of_le_length (by rw [zBm];omega),Q6 (by rw [zBm];omega)]
 unfold zBp;rw [if_pos ⟨by rw [aQ];omega,by rw [ht,hd]⟩,hd];exact yC6 hc
theorem zMi:zBp []=some ([],30):=by
 unfold zBp;rw [if_neg (λh=>by have:=h.1;simp at this)]
theorem zPp (b:By):Def (zAh b) (λr=>r.length=32):=by
 unfold zAh;refine Def.bd (Def.mkN (by decide) (by decide)) (λn hn=>?_);refine Def.bd (Def.ck (by simp)) (λ_ _=>?_);refine Def.lt ?_;refine Def.bd (Def.ck (by rw [zI0];simp)) (λ_ _=>?_);exact Def.bd (Def.ck (zEd (by
                 have e:(32:Int).toNat=32:=rfl;omega))) (λ_ _=>Def.s (by rw [zI0,List.length_replicate,hn];rfl))
theorem zHr (e:By) (active:Int) (he:e.length=32) (h1:1<=active) (h3:active<=3):Def (oY 8 e active) (λr=>r.2=0/\(∃ d0,r.1=zFs d0)/\∃ st,sN r.1=some (onD r.1 1 st,0)/\(∀ m,m<2 ^ 50->Dv (onD r.1 1 st) 1 st zP1 m)/\st.Active=active/\st.Resets=0/\∀ a,a≠1->r.1.Disk.Areas.getD a []=[]):=by
 refine (zKg e active he h1 h3).mono λr hr=>?_;obtain ⟨h0,⟨d0,hd⟩,st,hk,ha,hr0,hz⟩:=hr;refine ⟨h0,⟨d0,hd⟩,st,zLl r.1 1 st (.inl (by rw [hd];rfl)) hk.n hk.al hk.jr hk.sst,λm hm=>Dv.of_on hk.n hk.al hk.jr hk.sst m hm,ha,hr0,hz⟩
theorem zOw (en:By) (active:Int) (h1:1<=active) (h3:active<=3) (hc:zGu l):Def (lF en active l) (λr=>r.2=true/\∃ st,Dv r.1 1 st zP1 2/\st.Active=active/\st.Resets=0/\r.1.Disk.Areas.getD 3 []=mN l/\r.1.Disk.Areas.getD 4 []=[]/\r.1.Disk.Areas.getD 5 []=[0]/\r.1.Disk.Areas.getD 0 []=[]/\r.1.Disk.Areas.getD 2 []=[]):=by
 have hl:=bW hc;unfold lF;refine Def.bd (zPp en) (λe he=>?_);refine Def.bd (zHr e active he h1 h3) (λr hr=>?_);obtain ⟨x,c⟩:=r;obtain ⟨h0,⟨d0,rfl⟩,st,hp,hv,ha,hr0,hz⟩:=hr;simp only at h0 hp hv hz;subst h0;have hv0:=hv 0 (by decide);have hv1:=hv0.set (a:=3) (y:=mN l) (by decide) (by decide) (by rw [aQ];omega) (by decide);have hv2:=hv1.set (a:=5) (y:=[u8 ((0:Nat):Int)]) (by decide) (by decide) (by simp) (by decide);refine db (a:=(onD (zFs d0) 1 st,0)) hp ?_;refine db (hv0.install (s:=0) (by decide) hc) ?_;refine db (hv1.choose (s:=0) (by decide)) ?_;refine db (a:=true) rfl ?_;have hn:=hv0.n;refine Def.s ⟨rfl,st,hv2,ha,hr0,?_,?_,?_,?_,?_⟩
 ·show (((onD (zFs d0) 1 st).Disk.Areas.set 3 (mN l)).set 5 _).getD 3 []=_;rw [getD_set_ne (by decide),uR (by omega)]
 ·show (((onD (zFs d0) 1 st).Disk.Areas.set 3 (mN l)).set 5 _).getD 4 []=_;rw [getD_set_ne (by decide),getD_set_ne (by decide)];exact hz 4 (by decide)
 ·show (((onD (zFs d0) 1 st).Disk.Areas.set 3 (mN l)).set 5 _).getD 5 []=_;rw [uR (by rw [List.length_set];omega)];rfl
 ·show (((onD (zFs d0) 1 st).Disk.Areas.set 3 (mN l)).set 5 _).getD 0 []=_;rw [getD_set_ne (by decide),getD_set_ne (by decide)];exact hz 0 (by decide)
 ·show (((onD (zFs d0) 1 st).Disk.Areas.set 3 (mN l)).set 5 _).getD 2 []=_;rw [getD_set_ne (by decide),getD_set_ne (by decide)];exact hz 2 (by decide)
theorem zKw (en:By) (active:Int) (h1:1<=active) (h3:active<=3) (hc:zGu l):Def (lF en active l) (λr=>r.2=true/\∃ st,Dv r.1 1 st zP1 2/\st.Active=active/\st.Resets=0/\r.1.Disk.Areas.getD 3 []=mN l/\r.1.Disk.Areas.getD 4 []=[]/\r.1.Disk.Areas.getD 5 []=[0]):=
 (zOw en active h1 h3 hc).mono λ_ ⟨a,st,b,c,d,e,f,g,_⟩ =>⟨a,st,b,c,d,e,f,g⟩
end
set_option maxRecDepth 100000
theorem zQw (es:List zB) (h40:es.length<=40) (hE:∀ e∈es,EvC e st.Active) (hK:∀ e∈es,e.Kind≠5) (n:Nat):∀ (i fuel:Nat) (d:zF) (vo:yF) (m:Nat),i+n=es.length->n<fuel->Mz d seq st vo m (es.take i)->m+n<2 ^ 50 ->
  ∃ d' vo',zN (qM es) fuel ((i:Int),0,yE.mk d [])=some (.inr (0,yE.mk d' []))/\Mz d' seq st vo' (m+n) es/\∀ a,3<=a->d'.Disk.Areas.getD a []=d.Disk.Areas.getD a []:=by
 induction n with
 | zero=>
  intro i fuel d vo m hi hf h _;obtain ⟨f,rfl⟩:∃ f,fuel=f+1:=⟨fuel - 1,by omega⟩;have hi:i=es.length:=by omega
  subst hi;rw [Q7] at h;refine ⟨d,vo,?_,h,λ_ _=>rfl⟩;have:qM es ((es.length:Int),0,yE.mk d [])=some (.inr (.inr (0,yE.mk d []))):=by
   unfold qM;exact cf (decide_eq_false (by omega)) rfl
  simp only [zN,this]
 | succ n ih=>
  intro i fuel d vo m hi hf h hm;obtain ⟨f,rfl⟩:∃ f,fuel=f+1:=⟨fuel - 1,by omega⟩;have hl:i<es.length:=by omega
  have hmem:es[i]∈es:=Q2 _;obtain ⟨d1,vo1,e1,h1,s1⟩:=h.step (hE _ hmem) (hK _ hmem) (by rw [List.length_take];omega) (λe he=>hE e (Qb he)) (by omega);rw [show es.take i++[es[i]]=es.take (i+1) from by rw [Q9];simp [hl]] at h1;obtain ⟨d2,vo2,e2,h2,s2⟩:=ih (i+1) f d1 vo1 (m+1) (by omega) (by omega) h1 (by omega);refine ⟨d2,vo2,?_,by rw [show m+(n+1)=m+1+n from by omega];exact h2,λa ha=>(s2 a ha).trans (s1 a ha)⟩;have:qM es ((i:Int),0,yE.mk d [])=some (.inl (((i+1:Nat):Int),0,yE.mk d1 [])):=by
   unfold qM;refine ct (decide_eq_true (by omega)) (bd (yO hl) (bd e1 (cf rfl ?_)));rw [yR (by omega) (by omega)];rfl
  simp only [zN,this];exact e2
section
theorem Dv.start (h:Dv d seq st vo m) (hs:vo.Started=false) (hp:vo.Stopped=false) (hR:st.Resets+1<2 ^ 30) (hq:seq+1<2 ^ 29) (hm:m+1<2 ^ 50):∃ d1 seq1,pK (yE.mk d []) (yA.mk 1 [] [] [0] [])=some (zM.mk 0 [] [] [],0,yE.mk d1 [])/\Dv d1 seq1 (stS st) (zQ8 st vo) (m+1)/\seq1<=seq+1/\∀ a,2<=a->d1.Disk.Areas.getD a []=d.Disk.Areas.getD a []:=by
 obtain ⟨d1,seq1,e,h1,h2,h3⟩:=h.send_new (h.sst.S hR) hq hm (zOf st vo h.sst hs hp);exact ⟨d1,seq1,zQe rqS e rsd0 rfl (by decide) (yE.mk d []) rfl,h1,h2,h3⟩
def kE (d:zF):Nat:=if d.Disk.Areas.getD 5 []=[1] then 1 else 0
theorem zPs (d:zF):kE d<2:=by unfold kE;split<;>omega
theorem Dv.chosen (h:Dv d seq st vo m):oW d=some (kE d:Int):=by
 rw [zOi d h.off (by rw [h.n];decide) (by have:=h.al 5;omega)];unfold kE;split<;>rfl
def zC9 (active c:Int) (pe:List zB):List zB:=if c=0 then pe else [zTx active]
theorem Dv.run (h:Dv d seq st vo m) (hs:vo.Started=false) (hp:vo.Stopped=false) (hR:st.Resets+1<2 ^ 30) (hq:seq+1<2 ^ 29) (hm:m+60<2 ^ 50)
  {ch:List zC} {pe:List zB} (hsm:(d.Disk.Areas.getD (3+kE d) []).length<2 ^ 30) (hch:zBp (d.Disk.Areas.getD (3+kE d) [])=some (ch,c)) (hpe:uV ch st.Active=some pe)
  (h40:pe.length<=40) (hE:∀ e∈pe,EvC e st.Active) (hK:∀ e∈pe,e.Kind≠5) :
  ∃ d' seq' vo' m',mB d=some (d',if c=0 then 0 else 50)/\Mz d' seq' (stS st) vo' m' (zC9 st.Active c pe)/\seq'<=seq+1/\m'<=m+43/\∀ a,3<=a->d'.Disk.Areas.getD a []=d.Disk.Areas.getD a []:=by
 obtain ⟨d1,seq1,e1,h1,hq1,s1⟩:=h.start hs hp hR hq (by omega);have hr0:=h.sst.r0;have hw:=h1.write (a:=2) (zBc st.Active (st.Resets+1)) (by decide) (by rw [bE];decide);have h2:=h1.set (a:=2) (y:=zBc st.Active (st.Resets+1)) (by decide) (by decide) (by rw [bE];decide) (by omega);have hge:∀ a,3<=a->(zEc d1 2 (zBc st.Active (st.Resets+1))).Disk.Areas.getD a []=d.Disk.Areas.getD a []:=λa ha=>(getD_set_ne (by omega)).trans (s1 a (by omega));have hn:kE (zEc d1 2 (zBc st.Active (st.Resets+1)))=kE d:=by unfold kE;rw [hge 5 (by decide)]
 have hlt:=zPs d;have hco:oW (zEc d1 2 (zBc st.Active (st.Resets+1)))=some (kE d:Int):=by rw [h2.chosen,hn]
 have hcc:iC (zEc d1 2 (zBc st.Active (st.Resets+1))) (kE d:Int)=some (ch,c):=by
  rw [zR1 _ hlt h2.off (by rw [h2.n];omega) (by rw [hge _ (by omega)];exact hsm),hge _ (by omega),hch]
 have hz:Mz (zEc d1 2 (zBc st.Active (st.Resets+1))) seq1 (stS st) (zQ8 st vo) (m+1+1) ((zC9 st.Active c pe).take 0):=⟨h2,rfl,rfl,by
  show (d1.Disk.Areas.set 2 _).getD 2 []=_;rw [uR (by rw [h1.n];decide)];simp [mY,stS]⟩
 have hl40:(zC9 st.Active c pe).length<=40:=by unfold zC9;split;exact h40;simp
 have hE':∀ e∈zC9 st.Active c pe,EvC e (stS st).Active:=by
  intro e he;unfold zC9 at he;split at he
  ·exact hE e he
  ·rw [Q3.1 he];exact zMt h.sst.a0 h.sst.a3
 have hK':∀ e∈zC9 st.Active c pe,e.Kind≠5:=by
  intro e he;unfold zC9 at he;split at he
  ·exact hK e he
  ·rw [Q3.1 he];exact show (4:Int)≠5 by decide
 obtain ⟨d3,vo3,e3,h3,s3⟩:=zQw (seq:=seq1) (st:=stS st) (zC9 st.Active c pe) hl40 hE' hK' (zC9 st.Active c pe).length 0 FU _ _ (m+1+1) (by omega) (xK (by omega)) hz (by omega);refine ⟨d3,seq1,vo3,m+1+1+(zC9 st.Active c pe).length,?_,h3,hq1,by omega,λa ha=>(s3 a ha).trans (hge a ha)⟩;have hst:d1.State=⟨stS st,zQ8 st vo⟩:=h1.s;have hA:d1.State.Stable.Active=st.Active:=by rw [hst];rfl
 have hRs:d1.State.Stable.Resets=st.Resets+1:=by rw [hst];rfl
 unfold mB;refine cf (by rw [h.on];rfl) ?_;refine bd (a:=yE.mk d []) rfl ?_;refine bd (a:=(default,if c=0 then 0 else 50,yE.mk d3 [])) ?_ ?_
 ·refine bd e1 (cf rfl ?_);show (vI d1.State.Stable.Active d1.State.Stable.Resets).bind _=_;rw [hA,hRs];refine bd (zUu st.Active (st.Resets+1) h.sst.a0 h.sst.a3 (by omega) (by omega)) ?_;refine bd hw (cf rfl ?_);refine bd hco (bd hcc ?_);refine bd hpe ?_;refine bd (a:=zC9 st.Active c pe) ?_ (bd e3 ?_)
  ·unfold zC9;by_cases hc:c=0
   ·rw [if_pos hc];exact cf (b0 hc) rfl
   ·rw [if_neg hc];exact ct (b1 hc) (bd (zF0 0 4 st.Active [99,104,97,105,110] (by decide)) rfl)
  ·show ((bif c != 0 then some 50 else some 0:Option Int).bind λe=>some ((default:zF),e,yE.mk d3 []))=_;by_cases hc:c=0
   ·rw [if_pos hc];exact bd (a:=0) (cf (b0 hc) rfl) rfl
   ·rw [if_neg hc];exact bd (a:=50) (ct (b1 hc) rfl) rfl
 ·refine bd (a:=(d3,if c=0 then 0 else 50,yE.mk d3 [])) ?_ rfl;unfold fD;refine cf ?_ rfl;split<;>rfl
end
set_option maxRecDepth 100000
def zDb:List zC:=[zC.mk 1 [102] 0 [],zC.mk 3 [107] 0 []]
theorem zSk:aC=some zDb:=rfl
theorem zI6:lB zDb:=by
 have g1:sB (zC.mk 1 [102] 0 []):=⟨by decide,by decide,by decide,by decide,by rw [dN];decide +kernel,by decide,by decide,λh=>absurd h (by decide)⟩;have g3:sB (zC.mk 3 [107] 0 []):=⟨by decide,by decide,by decide,by decide,by rw [dN];decide +kernel,by decide,by decide,λh=>absurd h (by decide)⟩;refine ⟨by decide,?_,?_,⟨_,.head _,rfl⟩,⟨_,.tail _ (.head _),rfl⟩⟩
 ·intro x hx;rcases Qj.1 hx with rfl | hx
  ·exact g1
  ·rw [Q3.1 hx];exact g3
 ·refine .cons ?_ (.cons (by simp) .nil);intro y hy;rw [Q3.1 hy];exact ⟨by decide,by decide⟩
theorem zYb:zGu zDb:=zI6.ok
section
theorem Mz.log (h:Mz d seq st vo m es) (hE:∀ e∈es,EvC e st.Active) (h40:es.length<=40):bY d=some (⟨st.Active,st.Resets,es⟩,0):=by
 have hr0:=h.sst.r0;have hr1:=h.sst.r1;unfold bY;refine bd (h.toDv.read (a:=2) (by decide)) (cf rfl ?_);rw [h.lg];exact bd (zO5 ⟨st.Active,st.Resets,es⟩ ⟨⟨hE,h40⟩,h.sst.a0,h.sst.a3,hr0,by show st.Resets<=1099511627776;omega⟩) rfl
theorem Dv.run_good (h:Dv d seq st vo m) (hs:vo.Started=false) (hp:vo.Stopped=false) (hR:st.Resets+1<2 ^ 30) (hq:seq+1<2 ^ 29) (hm:m+60<2 ^ 50) (hc:lB l) (hA:d.Disk.Areas.getD (3+kE d) []=mN l) :
  ∃ d' seq' vo' m',mB d=some (d',0)/\Mz d' seq' (stS st) vo' m' (evs l st.Active)/\seq'<=seq+1/\m'<=m+43/\∀ a,3<=a->d'.Disk.Areas.getD a []=d.Disk.Areas.getD a []:=by
 have hl:=bW hc.ok;have h1:=h.sst.a0;have h3:=h.sst.a3;obtain ⟨d',seq',vo',m',e,hz,r⟩:=h.run hs hp hR hq hm (ch:=l) (c:=0) (pe:=evs l st.Active) (by rw [hA,aQ];omega) (by rw [hA];exact zJp hc.ok) (zLn l st.Active hc h1 h3) (zJi l st.Active hc).2 (zL8 h1 h3 hc) zQ1;exact ⟨d',seq',vo',m',e,hz,r⟩
theorem Dv.run_none (h:Dv d seq st vo m) (hs:vo.Started=false) (hp:vo.Stopped=false) (hR:st.Resets+1<2 ^ 30) (hq:seq+1<2 ^ 29) (hm:m+60<2 ^ 50) (hA:d.Disk.Areas.getD (3+kE d) []=[]) :
  ∃ d' seq' vo' m',mB d=some (d',50)/\Mz d' seq' (stS st) vo' m' [zTx st.Active]:=by
 obtain ⟨d',seq',vo',m',e,hz,_⟩:=h.run hs hp hR hq hm (ch:=[]) (c:=30) (pe:=[]) (by rw [hA];decide) (by rw [hA];exact zMi) (zKt _) (by decide) (by simp) (by simp);exact ⟨d',seq',vo',m',e,hz⟩
theorem ev10:(evs zDb 2).length=10:=by decide +kernel
theorem zQc:gI=some true:=by
 obtain ⟨⟨x,ok⟩,em,hok,st,hv,ha,hr0,h3,h4,h5⟩:=zKw [] 2 (by decide) (by decide) zYb;simp only at hok hv h3 h4 h5;subst hok;have hsl:kE x=0:=by unfold kE;rw [h5];rfl
 obtain ⟨d1,seq1,vo1,m1,e1,hz1,_⟩:=hv.run_good rfl rfl (by rw [hr0];decide) (by decide) (by decide) zI6 (by rw [hsl];exact h3);have hact1:(stS st).Active=2:=ha;have hlog1:=hz1.log (by rw [ha];exact λe he=>by rw [hact1];exact zL8 (by decide) (by decide) zI6 e he) (by rw [ha];exact (zJi zDb 2 zI6).2);rw [ha] at hlog1;obtain ⟨⟨y,c⟩,ef,hc0,⟨d0,hd⟩,st2,hp2,hv2,ha2,hr2,hz2⟩:=zHr (List.replicate 32 0) 2 (by simp) (by decide) (by decide);simp only at hc0 hd hp2 hv2 hz2;subst hc0;subst hd;have hv2':=hv2 0 (by decide);have hA2:∀ a,2<=a->(onD (zFs d0) 1 st2).Disk.Areas.getD a []=[]:=λa ha=>hz2 a (by omega);obtain ⟨d2,seq2,vo2,m2,e2,hzb⟩:=hv2'.run_none rfl rfl (by rw [hr2];decide) (by decide) (by decide) (hA2 _ (by omega));have hact2:(stS st2).Active=2:=ha2;have hlog2:=hzb.log (λe he=>by rw [Q3.1 he,hact2,ha2];exact zMt (by decide) (by decide)) (by simp);unfold gI;refine bd zSk (bd em (cf rfl ?_));refine bd e1 (bd hlog1 ?_);refine bd (a:=32) rfl ?_;refine bd ef ?_;refine bd (a:=(onD (zFs d0) 1 st2,0)) hp2 ?_;refine bd e2 (bd hlog2 ?_);refine bd (a:=true) ?_ rfl;refine ct rfl (ct rfl (ct ?_ (ct rfl (ct rfl (ct rfl (ct rfl (ct rfl ?_)))))))
 ·show (((evs zDb 2).length:Int)==10)=true;rw [ev10];rfl
 ·exact bd (a:=zTx st2.Active) rfl rfl
end
set_option maxRecDepth 100000
set_option maxRecDepth 100000
theorem zJn {r:zD} (h:zC1 active r) (a:Nat) (ha:a<2) (i:Nat) (hi:i<12) :
  (xB active (a:Int)=true->∃ x,oR r (a:Int) (i:Int)=some (x,0)/\x=(r.Banks.getD a []).getD i []/\x.length<=32)/\(xB active (a:Int)=false->oR r (a:Int) (i:Int)=some ([],27)):=by
 obtain ⟨bk,u⟩:=r;obtain ⟨b0,b1,hB,l0,l1,h0,h1⟩:=h.b;simp only at hB;subst hB;have hg:∀ a:Nat,a<2->(bif decide ((a:Int)<0) then some true else bif decide ((2:Int)<=a) then some true else bif decide ((i:Int)<0) then some true else some (decide ((16:Int)<=i)):Option Bool)=some false:=λa ha=>
  cf (decide_eq_false (by omega)) (cf (decide_eq_false (by omega)) (cf (decide_eq_false (by omega)) (congrArg some (decide_eq_false (by omega)))))
 unfold oR;rcases (show a=0∨a=1 by omega) with rfl | rfl
 ·constructor
  ·intro hb;have hb:xB active 0=true:=hb;rw [hb] at l0;have l0:b0.length=16:=l0;have hx:b0[i]∈b0:=Q2 _;refine ⟨b0[i],?_,by simp [Qd,show i<b0.length by omega],h0 _ hx⟩;refine bd (hg 0 ha) (cf rfl ?_);refine bd (zDw b0 b1 u).1 (cf (by rw [l0];rfl) ?_);refine bd (a:=b0) rfl (bd (yO (by omega)) (bd (zE2 _ (by have:=h0 _ hx;omega)) rfl))
  ·intro hb;have hb:xB active 0=false:=hb;rw [hb] at l0;have l0:b0.length=0:=l0;refine bd (hg 0 ha) (cf rfl ?_);exact bd (zDw b0 b1 u).1 (ct (by rw [l0];rfl) rfl)
 ·constructor
  ·intro hb;have hb:xB active 1=true:=hb;rw [hb] at l1;have l1:b1.length=16:=l1;have hx:b1[i]∈b1:=Q2 _;refine ⟨b1[i],?_,by simp [Qd,show i<b1.length by omega],h1 _ hx⟩;refine bd (hg 1 ha) (cf rfl ?_);refine bd (zDw b0 b1 u).2 (cf (by rw [l1];rfl) ?_);refine bd (a:=b1) rfl (bd (yO (by omega)) (bd (zE2 _ (by have:=h1 _ hx;omega)) rfl))
  ·intro hb;have hb:xB active 1=false:=hb;rw [hb] at l1;have l1:b1.length=0:=l1;refine bd (hg 1 ha) (cf rfl ?_);exact bd (zDw b0 b1 u).2 (ct (by rw [l1];rfl) rfl)
theorem zLz (hc:lB l) (h1:1<=active) (h3:active<=3):lI l active=some (rpl active (evs l active),0):=by
 have hle:=zJi l active hc;obtain ⟨⟨r,e⟩,er,hr,he⟩:=zLv ⟨active,0,evs l active⟩ (by show (evs l active).length<2 ^ 20;omega) h1 h3;have he:e=0:=he (zL8 h1 h3 hc);subst he;have hr:r=rpl active (evs l active):=hr rfl;subst hr;unfold lI;refine bd (zBb l hc) (cf rfl ?_);refine bd (a:=false) (cf (decide_eq_false (by omega)) (congrArg some (decide_eq_false (by omega)))) (cf rfl ?_);refine bd (zPm l active hc h1 h3) ?_;exact bd er rfl
section
end
set_option maxRecDepth 100000
theorem zN9 {r:zD} (h:zC1 active r) (a:Nat) (ha:a<2) (i:Nat) (hi:i<12) :
  (xB active (a:Int)=true->∃ x,tH r (a:Int) (i:Int)=some (x,0)/\oR r (a:Int) (i:Int)=some (x,0)/\x.length<=32)/\(xB active (a:Int)=false->tH r (a:Int) (i:Int)=some ([],27)):=by
 have hv:=zJn h a ha i hi;obtain ⟨bk,u⟩:=r;obtain ⟨b0,b1,hB,l0,l1,h0,h1⟩:=h.b;simp only at hB;subst hB;have hx:tK (i:Int)=some true:=bd (a:=true) (ct (decide_eq_true (by omega)) (congrArg some (decide_eq_true (by omega)))) rfl;have hg:(bif decide ((a:Int)<0) then some true else bif decide ((2:Int)<=a) then some true else (tK (i:Int)).bind λv=>some (!v):Option Bool)=some false:=
  cf (decide_eq_false (by omega)) (cf (decide_eq_false (by omega)) (bd hx rfl))
 have ho:=zT8 b0 b1 u (xB active 0) (xB active 1) (by rw [l0];cases xB active 0<;>rfl) (by rw [l1];cases xB active 1<;>rfl);have hon:vR ⟨[b0,b1],u⟩ (a:Int)=some (xB active (a:Int)):=by
  rcases (show a=0∨a=1 by omega) with rfl | rfl
  ·exact ho.1
  ·exact ho.2
 unfold tH;constructor
 ·intro hb;obtain ⟨x,e,hxe,hl⟩:=hv.1 hb;refine ⟨x,?_,e,hl⟩;refine bd hg (cf rfl (bd hon (cf (by rw [hb];rfl) ?_)));rcases (show a=0∨a=1 by omega) with rfl | rfl
  ·have hb:xB active 0=true:=hb;rw [hb] at l0;have l0:b0.length=16:=l0;have hxe:x=b0.getD i []:=hxe;have hi2:i<b0.length:=by omega
   have e2:b0[i]=x:=by rw [hxe];simp [Qd,hi2]
   refine bd (a:=b0) rfl (bd (yO hi2) ?_);rw [e2];exact bd (yG (by simp;omega)) rfl
  ·have hb:xB active 1=true:=hb;rw [hb] at l1;have l1:b1.length=16:=l1;have hxe:x=b1.getD i []:=hxe;have hi2:i<b1.length:=by omega
   have e2:b1[i]=x:=by rw [hxe];simp [Qd,hi2]
   refine bd (a:=b1) rfl (bd (yO hi2) ?_);rw [e2];exact bd (yG (by simp;omega)) rfl
 ·intro hb;exact bd hg (cf rfl (bd hon (ct (by rw [hb];rfl) rfl)))
theorem zMa (active:Int):∀ (es:List zB) (r:zD),0<=r.Updates->r.Updates+es.length<2 ^ 40->0<=(es.foldl (λr e=>if e.Kind=5 then r else ext active e r) r).Updates/\(es.foldl (λr e=>if e.Kind=5 then r else ext active e r) r).Updates<=r.Updates+es.length
 | [],r,h0,_=>⟨h0,by simp⟩
 | e :: es,r,h0,h1=>by
  rw [List.foldl_cons];have h1':r.Updates+(es.length+1:Nat)<2 ^ 40:=h1;by_cases hk:e.Kind=5
  ·rw [if_pos hk];have:=zMa active es r h0 (by omega);refine ⟨this.1,?_⟩;have h2:=this.2;rw [Q1];omega
  ·rw [if_neg hk];have hu:(ext active e r).Updates=r.Updates+1:=by
    show Q8.wrap (r.Updates+1)=_;rw [yR (by omega) (by omega)]
   have:=zMa active es (ext active e r) (by omega) (by omega);refine ⟨this.1,?_⟩;have h2:=this.2;rw [Q1];omega
theorem zTo (active:Int) (es:List zB) (h:es.length<=40):0<=(rpl active es).Updates/\(rpl active es).Updates<=40:=by
 have:=zMa active es (zLe active) (by show (0:Int)<=0;decide) (by show (0:Int)+_<_;omega);have h0:(zLe active).Updates=0:=rfl;unfold rpl;omega
def zN8 (u:Int) (x:By):By:=u8 0 :: u8 1 :: (beN u 8 8++(u8 1 :: (bl x++[u8 0])))
theorem zS2 (u:Int) (x:By) (hx:x.length<=32):xQ (zM.mk 0 [u] [x] [])=some (zN8 u x):=by
 unfold xQ;refine cf rfl ?_;refine bd (a:=[u8 0,u8 1]) rfl ?_;refine bd (a:=[u8 0,u8 1]++beN u 8 8) (yD 1 (λi=>(if i=0 then [u8 0,u8 1] else [u8 0,u8 1]++beN u 8 8,(i:Int))) rfl ?_ ?_ (xK (by omega))) ?_
 ·intro i hi;obtain rfl:i=0:=by omega
  unfold tB;exact ct rfl (bd (a:=u) rfl (bd (wU _ 8 u (by decide) (by decide) (by simp)) rfl))
 ·unfold tB;exact cf rfl rfl
 refine bd (a:=(([u8 0,u8 1]++beN u 8 8)++[u8 1]++bl x)++[u8 0]) (yD 2 (λi=>(if i=0 then [u8 0,u8 1]++beN u 8 8 else if i=1 then ([u8 0,u8 1]++beN u 8 8)++[u8 1]++bl x else (([u8 0,u8 1]++beN u 8 8)++[u8 1]++bl x)++[u8 0],(i:Int))) rfl ?_ ?_ (xK (by omega))) ?_
 ·intro i hi;unfold tD;rcases (show i=0∨i=1 by omega) with rfl | rfl
  ·refine ct rfl (bd (a:=[x]) rfl (bd (a:=([u8 0,u8 1]++beN u 8 8)++[u8 1]) (yG (by simp [xC])) ?_));refine bd (a:=([u8 0,u8 1]++beN u 8 8)++[u8 1]++bl x) (yD 1 (λi=>(if i=0 then ([u8 0,u8 1]++beN u 8 8)++[u8 1] else ([u8 0,u8 1]++beN u 8 8)++[u8 1]++bl x,(i:Int))) rfl ?_ ?_ (xK (by omega))) rfl
   ·intro j hj;obtain rfl:j=0:=by omega
    unfold vK;exact ct rfl (bd (a:=x) rfl (bd (wB _ x (by simp [xC]) (by omega)) rfl))
   ·unfold vK;exact cf rfl rfl
  ·refine ct rfl (bd (a:=[]) rfl (bd (a:=(([u8 0,u8 1]++beN u 8 8)++[u8 1]++bl x)++[u8 0]) (yG (by simp [xC,uB];omega)) ?_));refine bd (uD (by unfold vK;exact cf rfl rfl)) rfl
 ·unfold tD;exact cf rfl rfl
 show some _=some _;unfold zN8;simp
theorem zTv (u:Int) (x:By) (h0:0<=u) (h1:u<2 ^ 40) (hx:x.length<=32):xP (zN8 u x)=some (zM.mk 0 [u] [x] [],0):=by
 obtain ⟨r0,g0,e0⟩:=zH5 (zN8 u x) (by unfold zN8;simp [xC,uB];omega);obtain ⟨r1,g1,e1⟩:=zPa (n:=0) g0 (by decide) (by decide);obtain ⟨r2,g2,e2⟩:=zPa (n:=1) g1 (by decide) (by decide);obtain ⟨r3,g3,e3⟩:=rdU (k:=8) g2 (by decide) (by decide) h0 (by omega) (by omega);obtain ⟨r4,g4,e4⟩:=zPa (n:=1) g3 (by decide) (by decide);obtain ⟨r5,g5,e5⟩:=zOc (k:=1024) g4 (by omega) (by omega);obtain ⟨r6,g6,e6⟩:=zPa (n:=0) (rest:=[]) g5 (by decide) (by decide);unfold xP;refine bd e0 (bd e1 ?_);refine bd (a:=([u],[x],[],r6.W.b_,r6.W.at_,r6.W.e_)) (ct rfl ?_) ?_
 ·refine bd e2 ?_;refine bd (a:=([u],r3.W.b_,r3.W.at_,r3.W.e_)) (yD 1 (λi=>if i=0 then (0,[],r2.W.b_,r2.W.at_,r2.W.e_) else (1,[u],r3.W.b_,r3.W.at_,r3.W.e_)) rfl ?_ ?_ (xK (by omega))) ?_
  ·intro i hi;obtain rfl:i=0:=by omega
   unfold tC;exact ct rfl (bd e3 (bd (a:=[u]) rfl rfl))
  ·unfold tC;exact cf rfl rfl
  refine bd e4 ?_;refine bd (a:=([x],r5.W.b_,r5.W.at_,r5.W.e_)) (yD 1 (λi=>if i=0 then (0,[],r4.W.b_,r4.W.at_,r4.W.e_) else (1,[x],r5.W.b_,r5.W.at_,r5.W.e_)) rfl ?_ ?_ (xK (by omega))) ?_
  ·intro i hi;obtain rfl:i=0:=by omega
   unfold tG;exact ct rfl (bd e5 (bd (a:=[x]) rfl rfl))
  ·unfold tG;exact cf rfl rfl
  refine bd e6 ?_;exact bd (a:=([],r6.W.b_,r6.W.at_,r6.W.e_)) (uD (by unfold pQ;exact cf rfl rfl)) rfl
 ·exact bd (rdE g6) (cf rfl rfl)
theorem zZ5:xQ (zM.mk 27 [] [] [])=some [27]:=by decide +kernel
theorem zZv:xP [27]=some (zM.mk 27 [] [] [],0):=by decide +kernel
theorem rqR (a i:Nat) (ha:a<2) (hi:i<12):zEj 5 [(a:Int),(i:Int)] []:=⟨sh5,by decide,by decide,by simp,by simp,by simp;omega,by simp⟩
theorem zR3 {a:Nat} (ha:a<2) (hi:i<12) (hs:vo.Started=true) (h:zC1 active vo.Registers) (hu:0<=vo.Registers.Updates/\vo.Registers.Updates<=40) :
  (xB active (a:Int)=true->∃ x,uC ⟨st,vo⟩ 0 (rqW 5 [(a:Int),(i:Int)] [])=some (⟨st,vo⟩,zN8 vo.Registers.Updates x)/\oR vo.Registers (a:Int) (i:Int)=some (x,0)/\x.length<=32)/\(xB active (a:Int)=false->uC ⟨st,vo⟩ 0 (rqW 5 [(a:Int),(i:Int)] [])=some (⟨st,vo⟩,[27])):=by
 have hv:=zN9 h a ha i hi;constructor
 ·intro hb;obtain ⟨x,e,e2,hl⟩:=hv.1 hb;refine ⟨x,?_,e2,hl⟩;refine zE5 (rqR a i ha hi) (.inr hs) (e:=0) (i:=[vo.Registers.Updates]) (b:=[x]) (n:=[]) ?_ (zS2 _ x hl);unfold rD;refine cf rfl (cf rfl (cf rfl (bd (a:=true) rfl (ct rfl (bd (a:=(⟨st,vo⟩,zM.mk 0 [vo.Registers.Updates] [x] [])) ?_ rfl)))));unfold rR;exact ct rfl (bd (a:=(a:Int)) rfl (bd (a:=(i:Int)) rfl (bd e (cf rfl rfl))))
 ·intro hb;have e:=hv.2 hb;refine zE5 (rqR a i ha hi) (.inr hs) (e:=27) (i:=[]) (b:=[]) (n:=[]) ?_ zZ5;unfold rD;refine cf rfl (cf rfl (cf rfl (bd (a:=true) rfl (ct rfl (bd (a:=(⟨st,vo⟩,zM.mk 27 [] [] [])) ?_ rfl)))));unfold rR;exact ct rfl (bd (a:=(a:Int)) rfl (bd (a:=(i:Int)) rfl (bd e (ct rfl rfl))))
theorem zG3 (entropy codes:By) (active index:Int):hC entropy codes active index=some true:=by
 obtain ⟨ac,ea,ha1,ha3⟩:=zLs active;obtain ⟨iv,ei,hi0,hi12⟩:=zNg index 12 (by decide) (by decide);obtain ⟨i,rfl⟩:=Int.eq_ofNat_of_zero_le hi0;have hi12:i<12:=by omega
 obtain ⟨l,el,hl⟩:=zOq codes;obtain ⟨⟨x,ok⟩,em,hok,st,hv,ha,hr0,h3,h4,h5⟩:=zKw entropy ac ha1 ha3 hl.ok;simp only at hok hv h3 h4 h5;subst hok;subst ha;have hsl:kE x=0:=by unfold kE;rw [h5];rfl
 obtain ⟨d1,seq1,vo1,m1,e1,hz,_⟩:=hv.run_good rfl rfl (by omega) (by decide) (by decide) hl (by rw [hsl];exact h3);have hreg:vo1.Registers=rpl st.Active (evs l st.Active):=hz.v2;have hbk:zC1 st.Active vo1.Registers:=by rw [hreg];exact zH8 _ _ ha1 ha3
 have hup:0<=vo1.Registers.Updates/\vo1.Registers.Updates<=40:=by rw [hreg];exact zTo _ _ (zJi l st.Active hl).2
 unfold hC;refine bd zQc (cf rfl ?_);refine bd ea (bd ei (bd el (bd em (bd e1 (bd (zLz hl ha1 ha3) ?_)))));refine bd (a:=false) (cf rfl rfl) (cf rfl ?_);obtain ⟨y,ey,hy⟩:Def (zN (nG (i:Int) (rpl st.Active (evs l st.Active))) FU (0,d1)) (λr=>r=.inr ()):=by
  refine Def.loop (λs=>∃ a:Nat,s.1=(a:Int)/\a<=2/\Dv s.2 seq1 (stS st) vo1 m1) (λs=>2 - s.1.toNat) ?_ ⟨0,rfl,by decide,hz.toDv⟩ (show 2 - (0:Int).toNat<2 ^ 64 by decide);rintro ⟨n,d⟩ ⟨a,rfl,ha,hd⟩;simp only at hd;unfold nG;by_cases h2:a<2
  ·refine dct (decide_eq_true (by omega)) ?_;have hrun:=zR3 (st:=stS st) (vo:=vo1) h2 hi12 hz.v1 hbk hup;have hnext:∀ d':zF,Dv d' seq1 (stS st) vo1 m1->(∃ b:Nat,Q8.wrap ((a:Int)+1)=(b:Int)/\b<=2/\Dv d' seq1 (stS st) vo1 m1)/\2 - (Q8.wrap ((a:Int)+1)).toNat<2 - (a:Int).toNat:=by
    intro d' hd';rw [yR (by omega) (by omega)];exact ⟨⟨a+1,by omega,by omega,hd'⟩,by omega⟩
   cases hb:xB st.Active (a:Int) with
   | true=>
    obtain ⟨w,er,ev,hw⟩:=hrun.1 hb;have hsd:=hd.send_same er;rw [hreg] at ev;refine db (a:=(Sum.inr (zF.mk d.Disk ⟨stS st,vo1⟩ d.On d.Next):Bool ⊕ zF)) ?_ (Def.s (hnext _ hd.vol));refine bd (zRb (rqR a i h2 hi12)) (bd hsd (bd (zTv _ w hup.1 (by omega) hw) ?_));refine bd (a:=false) (cf rfl (cf rfl rfl)) (cf rfl ?_);refine bd ev (cf rfl ?_);exact bd (a:=false) (cf rfl (cf rfl (bd (a:=w) rfl (bd (zRt w w (by omega)) (by simp))))) (cf rfl rfl)
   | false=>
    have er:=hrun.2 hb;have hsd:=hd.send_same er;have ev:=(zJn (zH8 st.Active (evs l st.Active) ha1 ha3) a h2 i hi12).2 hb;refine db (a:=(Sum.inr (zF.mk d.Disk ⟨stS st,vo1⟩ d.On d.Next):Bool ⊕ zF)) ?_ (Def.s (hnext _ hd.vol));refine bd (zRb (rqR a i h2 hi12)) (bd hsd (bd zZv ?_));refine bd (a:=false) (cf rfl (cf rfl rfl)) (cf rfl ?_);exact bd ev (ct rfl (cf rfl rfl))
  ·exact dcf (decide_eq_false (by omega)) (Def.s rfl)
 subst hy;exact bd ey rfl
end Go.Proofs.TT
