/- A part of the proof of what a start measures. -/
import Derived.Test.YtmfjfpfolbnogaaGreatDoorRZ13
set_option linter.all false
namespace Go.Proofs.TT
open Go Go.Sw
set_option maxRecDepth 100000
variable {active:Int}{b:By}{bs:List By}{c:Int}{d d':zE}{e:zB}{es:List zB}{i:Nat}{is:List Int}{l:List zD}{m:Nat}{out:By}{r:zC}{role:Int}{s seq:Nat}{st:zR}{vo:yD}{α:Type}{x y:Option α}
theorem wUO:iE=xW:=rfl
theorem wBO:cI=wH:=rfl
structure zEn (c:Int) (is:List Int) (bs:List By):Prop where
 sh:rQ c=some (0,0,(is.length:Int),(bs.length:Int),true)
 c0:0<=c
 c1:c<256
 il:is.length<=2
 bl':bs.length<=2
 i:∀ x∈is,0<=x/\x<=1099511627776
 b:∀ x∈bs,x.length<=32
def rq (c:Int) (is:List Int) (bs:List By):yA:=yA.mk c [] [] is bs
def rqB (c:Int) (is:List Int) (bs:List By):By:=u8 c :: (is.flatMap (λn=>beN n 8 8)++(u8 (bs.length:Int) :: bs.flatMap bl))
def rqW (c:Int) (is:List Int) (bs:List By):By:=[83,87]++(beN ((4+(rqB c is bs).length:Nat):Int) 2 2++rqB c is bs)
theorem zCe (is:List Int):(is.flatMap (λn=>beN n 8 8)).length=8*is.length:=by
 induction is with
 | nil=>rfl
 | cons x l ih=>simp only [List.flatMap_cons,List.length_append,xC,List.length_cons,ih];omega
theorem zH6 (bs:List By) (h:∀ x∈bs,x.length<=32):(bs.flatMap bl).length<=34*bs.length:=by
 induction bs with
 | nil=>simp
 | cons x l ih=>
  have h1:=h x (by simp);have h2:=ih λy hy=>h y (by simp [hy]);simp only [List.flatMap_cons,List.length_append,uY,List.length_cons];omega
theorem zFb (h:zEn c is bs):2<=(rqB c is bs).length/\(rqB c is bs).length<=100:=by
 have h1:=zCe is;have h2:=zH6 bs h.b;have h3:=h.il;have h4:=h.bl';unfold rqB;simp only [List.length_cons,List.length_append];omega
theorem zJj (h:zEn c is bs):(rqW c is bs).length=4+(rqB c is bs).length:=by
 unfold rqW;simp only [List.length_append,xC,List.length_cons,List.length_nil];omega
theorem zQn (hi:i<bs.length):(bs.take (i+1)).flatMap bl=(bs.take i).flatMap bl++bl bs[i]:=by
 rw [List.take_add_one,List.flatMap_append];simp [hi]
theorem zRr (hi:i<is.length):(is.take (i+1)).flatMap (λn=>beN n 8 8)=(is.take i).flatMap (λn=>beN n 8 8)++beN is[i] 8 8:=by
 rw [List.take_add_one,List.flatMap_append];simp [hi]
theorem wrt (h:zEn c is bs):pY (rq c is bs)=some (rqW c is bs):=by
 have hB:=zFb h;have hil:=h.il;have hbl:=h.bl';unfold pY;refine bd (ckT rfl) ?_;refine bd (a:=[83,87]) rfl ?_;refine bd (a:=[83,87,0,0,u8 c]) rfl ?_;refine bd (a:=[83,87,0,0,u8 c]) (uS (by unfold eI;exact cf rfl rfl)) ?_;refine bd (a:=[83,87,0,0,u8 c]) (uS (by unfold eZ;exact cf rfl rfl)) ?_;refine bd (a:=[83,87,0,0,u8 c]++is.flatMap (λn=>beN n 8 8)) ?_ ?_
 ·refine yG is.length (λi=>([83,87,0,0,u8 c]++(is.take i).flatMap (λn=>beN n 8 8),(i:Int))) (by simp) (λi hi=>?_) ?_ (xO (by omega))
  ·unfold mL;refine ct (dlt hi) (bd (yN hi) ?_);rw [wUO];refine bd (wU _ 8 _ (by omega) (by omega) ?_) ?_
   ·rw [List.length_append,zCe];simp;omega
   ·rw [zRr hi,List.append_assoc,wM (by omega)]
  ·unfold mL;refine cf (dge (Nat.le_refl _)) ?_;rw [List.take_length]
 refine bd (yJ (by rw [List.length_append,zCe];simp;omega)) ?_;refine bd (a:=(([83,87,0,0,u8 c]++is.flatMap (λn=>beN n 8 8))++[u8 (bs.length:Int)])++bs.flatMap bl) ?_ ?_
 ·refine yG bs.length (λi=>((([83,87,0,0,u8 c]++is.flatMap (λn=>beN n 8 8))++[u8 (bs.length:Int)])++(bs.take i).flatMap bl,(i:Int))) (by simp;rfl) (λi hi=>?_) ?_ (xO (by omega))
  ·have hx:=h.b _ (List.getElem_mem hi);have ht:=zH6 (bs.take i) λx hx=>h.b x (List.mem_of_mem_take hx);have ht2:(bs.take i).length<=2:=by simp;omega
   unfold mR;refine ct (dlt hi) (bd (yN hi) ?_);rw [wBO];refine bd (wB _ _ ?_ (by omega)) ?_
   ·simp only [List.length_append,zCe,List.length_cons,List.length_nil];omega
   ·rw [zQn hi,List.append_assoc,wM (by omega)]
  ·unfold mR;refine cf (dge (Nat.le_refl _)) ?_;rw [List.take_length]
 have e:(([83,87,0,0,u8 c]++is.flatMap (λn=>beN n 8 8))++[u8 (bs.length:Int)])++bs.flatMap bl=[83,87,0,0]++rqB c is bs:=by
  unfold rqB;simp
 rw [e];have el:(([83,87,0,0]:By)++rqB c is bs).length=4+(rqB c is bs).length:=by simp;omega
 refine bd (ckT (zEy (by omega))) ?_;refine bd (wU [] 2 _ (by omega) (by omega) (by simp)) ?_;refine bd (ckT (zEy (by omega))) ?_;rw [el];unfold rqW cpA;obtain ⟨a,b,hab⟩:∃ a b,beN ((4+(rqB c is bs).length:Nat):Int) 2 2=[a,b]:=⟨_,_,rfl⟩;rw [hab];rfl
theorem chk (h:zEn c is bs):pW (rq c is bs)=some 0:=by
 have hB:=zFb h;have hil:=h.il;have hbl:=h.bl';unfold pW;refine bd h.sh (cf rfl ?_);refine bd (a:=true) (ct rfl (ct rfl (ct (by simp [rq]) (bd (a:=true) ?_ rfl)))) ?_
 ·unfold rM;exact bd (ct (by simp [rq]) rfl) rfl
 refine bd (a:=true) (uS (by unfold eU;exact cf rfl rfl)) ?_;refine bd (a:=true) (uS (by unfold dG;exact cf rfl rfl)) ?_;refine bd (a:=true) ?_ (cf rfl ?_)
 ·refine yG is.length (λi=>(true,(i:Int))) rfl (λi hi=>?_) ?_ (xO (by omega))
  ·have hx:=h.i _ (List.getElem_mem hi);unfold mM;refine ct (dlt hi) (bd (yN hi) ?_);refine bd (a:=true) (ct rfl (ct (by simp;exact hx.1) (congrArg some (by simp;exact hx.2)))) ?_;rw [wM (by omega)]
  ·unfold mM;exact cf (dge (Nat.le_refl _)) rfl
 refine bd (a:=true) (uS (by unfold eR;exact cf rfl rfl)) ?_;refine bd (a:=true) ?_ ?_
 ·refine yG bs.length (λi=>(true,(i:Int))) rfl (λi hi=>?_) ?_ (xO (by omega))
  ·have hx:=h.b _ (List.getElem_mem hi);unfold mP;refine ct (dlt hi) (bd (yN hi) ?_);refine bd (a:=true) (ct rfl (congrArg some (by simp;omega))) ?_;rw [wM (by omega)]
  ·unfold mP;exact cf (dge (Nat.le_refl _)) rfl
 have hw:=zJj h;exact bd (a:=false) (cf rfl (bd (wrt h) (congrArg some (by simp;omega)))) (cf rfl rfl)
theorem zUg (h:zEn c is bs):mA (rq c is bs)=some (rqW c is bs,0):=by
 unfold mA;exact bd (chk h) (cf rfl (bd (wrt h) rfl))
theorem zW9 (h:zEn c is bs):lF (rqW c is bs)=some (c,0):=by
 have hB:=zFb h;have hw:=zJj h;obtain ⟨a,b,hab,hv⟩:=be2 (4+(rqB c is bs).length) (by omega);obtain ⟨t,ht⟩:∃ t,rqB c is bs=u8 c :: t:=⟨_,rfl⟩;have e:rqW c is bs=83 :: 87 :: a :: b :: u8 c :: t:=by unfold rqW;rw [hab,ht];rfl
 unfold lF;refine cf (by simp;omega) (cf (by simp;omega) ?_);rw [e];refine bd (a:=false) rfl (cf rfl ?_);refine bd (a:=a) rfl (bd (a:=b) rfl (ltk ?_));have hl2:((83 :: 87 :: a :: b :: u8 c :: t:By)).length=4+(rqB c is bs).length:=by rw [<- e];exact hw
 rw [zUl,<- hv,hl2];refine cf (by simp) (cf (by simp) ?_);refine bd (a:=u8 c) rfl ?_;have h0:=h.c0;have h1:=h.c1;rw [zUr c h0 h1,yP (by omega) (by omega)]
theorem yAh (h:zEn c is bs):nK (rqW c is bs)=some (rq c is bs,0):=by
 have hB:=zFb h;have hw:=zJj h;have hil:=h.il;have hbl:=h.bl';unfold nK;refine bd (zW9 h) (cf rfl (bd h.sh (cf rfl ?_)));let body:=is.flatMap (λn=>beN n 8 8)++(u8 (bs.length:Int) :: bs.flatMap bl);have e:(rqW c is bs).drop 5=body:=by
  unfold rqW rqB;obtain ⟨a,b,hab⟩:∃ a b,beN ((4+(u8 c :: (is.flatMap (λn=>beN n 8 8)++(u8 (bs.length:Int) :: bs.flatMap bl))).length:Nat):Int) 2 2=[a,b]:=⟨_,_,rfl⟩;rw [hab];rfl
 have hsub:sub (rqW c is bs) 5 ((rqW c is bs).length:Int)=some body:=by
  have:=sF (l:=rqW c is bs) (a:=5) (b:=(rqW c is bs).length) (by omega) (Nat.le_refl _);rw [List.take_of_length_le (by simp),e] at this;exact this
 have hbody:body.length<2 ^ 40:=by rw [<- e,List.length_drop];omega
 refine bd hsub ?_;obtain ⟨r,g,e1⟩:=zKq body hbody;refine bd e1 ?_;refine bd (a:=([],r.W.b_,r.W.at_,r.W.e_)) (uS (by unfold fS;exact cf rfl rfl)) ?_;refine bd (a:=([],r.W.b_,r.W.at_,r.W.e_)) (uS (by unfold fL;exact cf rfl rfl)) ?_;have l3:∀ (m acc:List Int) (v:Int) (r:RS) (fuel:Nat) (rest:By),m.length<fuel->Rd r (m.flatMap (λn=>beN n 8 8)++rest)->(∀ x∈m,0<=x/\x<=1099511627776)->0<=v->v+m.length=(is.length:Int)->acc.length<=2->(acc.length:Int)+m.length<=2 ->
   ∃ r',Rd r' rest/\zL (vX (is.length:Int)) fuel (v,acc,r.W.b_,r.W.at_,r.W.e_)=some (.inr (acc++m,r'.W.b_,r'.W.at_,r'.W.e_)):=by
  intro m;induction m with
  | nil=>
   intro acc v r fuel rest hf g _ hv0 hv _ _;obtain ⟨f,rfl⟩:∃ f,fuel=f+1:=⟨fuel - 1,by simp at hf;omega⟩;refine ⟨r,g,?_⟩;simp only [zL];have:vX (is.length:Int) (v,acc,r.W.b_,r.W.at_,r.W.e_)=some (.inr (.inr (acc,r.W.b_,r.W.at_,r.W.e_))):=by
    unfold vX;exact cf (by simp at hv ⊢;omega) rfl
   rw [this,List.append_nil]
  | cons x m ih=>
   intro acc v r fuel rest hf g hm hv0 hv ha hb;obtain ⟨f,rfl⟩:∃ f,fuel=f+1:=⟨fuel - 1,by simp at hf;omega⟩;simp only [List.length_cons] at hf hv hb;have hx:=hm x (by simp);have g':Rd r (beN x 8 8++(m.flatMap (λn=>beN n 8 8)++rest)):=g.cast (by simp);obtain ⟨r1,g1,e1⟩:=rdU (k:=8) g' (by omega) (by omega) hx.1 (by omega) (by omega);obtain ⟨r2,g2,e2⟩:=ih (acc++[x]) (v+1) r1 f rest (by omega) g1 (λy hy=>hm y (by simp [hy])) (by omega) (by omega) (by simp;omega) (by simp;omega);refine ⟨r2,g2,?_⟩;simp only [zL];have:vX (is.length:Int) (v,acc,r.W.b_,r.W.at_,r.W.e_)=some (.inl (v+1,acc++[x],r1.W.b_,r1.W.at_,r1.W.e_)):=by
    unfold vX;refine ct (by simp;omega) (bd e1 ?_);refine bd (a:=(false,r1.W.b_,r1.W.at_,r1.W.e_)) (bd (zMt g1) (ct rfl ?_)) (cf rfl ?_)
    ·rw [show decide (1099511627776<x)=false by simp;omega]
    ·refine bd (yJ (by simp;omega)) ?_;rw [yP (by omega) (by omega)]
   rw [this];simp only;rw [e2,List.append_assoc];rfl
 obtain ⟨r1,g1,e2⟩:=l3 is [] 0 r FU (u8 (bs.length:Int) :: bs.flatMap bl) (xO (by omega)) g h.i (by omega) (by omega) (by simp) (by simp;omega);refine bd e2 ?_;obtain ⟨r2,g2,e3⟩:=rdBt g1 (by omega) (by omega);refine bd e3 ?_;refine bd (a:=(false,r2.W.b_,r2.W.at_,r2.W.e_)) (bd (zMt g2) (ct rfl (bd (a:=true) ?_ rfl))) (cf rfl ?_)
 ·unfold rM;exact bd (ct (by simp) rfl) rfl
 have l4:∀ (m acc:List By) (v:Int) (r:RS) (fuel:Nat),m.length<fuel->Rd r (m.flatMap bl)->(∀ x∈m,x.length<=32)->0<=v->v+m.length=(bs.length:Int)->acc.length<=2->(acc.length:Int)+m.length<=2 ->
   ∃ r',Rd r' []/\zL (vW (bs.length:Int)) fuel (v,acc,r.W.b_,r.W.at_,r.W.e_)=some (acc++m,r'.W.b_,r'.W.at_,r'.W.e_):=by
  intro m;induction m with
  | nil=>
   intro acc v r fuel hf g _ hv0 hv _ _;obtain ⟨f,rfl⟩:∃ f,fuel=f+1:=⟨fuel - 1,by simp at hf;omega⟩;refine ⟨r,g,?_⟩;simp only [zL];have:vW (bs.length:Int) (v,acc,r.W.b_,r.W.at_,r.W.e_)=some (.inr (acc,r.W.b_,r.W.at_,r.W.e_)):=by
    unfold vW;exact cf (by simp at hv ⊢;omega) rfl
   rw [this,List.append_nil]
  | cons x m ih=>
   intro acc v r fuel hf g hm hv0 hv ha hb;obtain ⟨f,rfl⟩:∃ f,fuel=f+1:=⟨fuel - 1,by simp at hf;omega⟩;simp only [List.length_cons] at hf hv hb;have hx:=hm x (by simp);have g':Rd r (bl x++m.flatMap bl):=g.cast (by simp);obtain ⟨r1,g1,e1⟩:=zQ8 (k:=1024) g' (by omega) (by omega);obtain ⟨r2,g2,e2⟩:=ih (acc++[x]) (v+1) r1 f (by omega) g1 (λy hy=>hm y (by simp [hy])) (by omega) (by omega) (by simp;omega) (by simp;omega);refine ⟨r2,g2,?_⟩;simp only [zL];have:vW (bs.length:Int) (v,acc,r.W.b_,r.W.at_,r.W.e_)=some (.inl (v+1,acc++[x],r1.W.b_,r1.W.at_,r1.W.e_)):=by
    unfold vW;refine ct (by simp;omega) (bd e1 (bd (yJ (by simp;omega)) ?_));rw [yP (by omega) (by omega)]
   rw [this];simp only;rw [e2,List.append_assoc];rfl
 obtain ⟨r3,g3,e4⟩:=l4 bs [] 0 r2 FU (xO (by omega)) g2 h.b (by omega) (by omega) (by simp) (by simp;omega);refine bd e4 ?_;exact bd (rdE g3) (cf rfl rfl)
set_option maxRecDepth 100000
theorem sh1:rQ 1=some (0,0,1,0,true):=by decide +kernel
theorem sh6:rQ 6=some (0,0,1,2,true):=by decide +kernel
theorem rqS:zEn 1 [0] []:=⟨sh1,by decide,by decide,by decide,by decide,by simp,by simp⟩
theorem rqE (h:EvGood e active):zEn 6 [e.Register] e.Digests:=by
 have hl:=h.l;refine ⟨by rw [sh6,hl];rfl,by decide,by decide,by simp,by omega,?_,?_⟩
 ·have:=h.r0;have:=h.r1;simp;omega
 ·intro x hx;have f0:=kQ h.f0;have f1:=kQ h.f1
  match hd:e.Digests,hl with
  | [a,b],_=>
   rw [hd] at hx f0 f1;simp only [List.mem_cons,List.not_mem_nil,or_false] at hx;rcases hx with rfl | rfl
   ·exact f0
   ·exact f1
theorem rsp0:wP (zM.mk 0 [] [] [])=some [0,0,0,0]:=by decide +kernel
theorem rsd0:wS [0,0,0,0]=some (zM.mk 0 [] [] [],0):=by decide +kernel
theorem yC2:wP (zM.mk 28 [] [] [])=some [28]:=by decide +kernel
theorem yAg:wS [28]=some (zM.mk 28 [] [] [],0):=by decide +kernel
def stS (s:zR):zR:=zR.mk s.Seeds s.Auths s.Entropy s.Active (s.Resets+1) 0 s.Clock false (zC.mk [] 0) s.MaxCounter s.Indices s.Lockout s.Keys
def zR2 (s:zR) (v:yD):yD:=⟨true,v.Stopped,zO6 s.Active,s.Clock,s.Orderly,v.Draws,v.Sessions,v.Objects,v.ReadLocks,v.WriteLocks⟩
def zP5 (r:zC) (v:yD):yD:=⟨v.Started,v.Stopped,r,v.Clock,v.Safe,v.Draws,v.Sessions,v.Objects,v.ReadLocks,v.WriteLocks⟩
theorem Sst.S {s:zR} (h:Sst s) (hr:s.Resets+1<2 ^ 30):Sst (stS s):=by
 obtain ⟨a,b,c,d,e,r0,r1,f,g,i,j,k,l,m⟩:=h;exact ⟨a,b,c,d,e,by show 0<=s.Resets+1;omega,hr,rfl,g,rfl,j,k,l,m⟩
theorem zSl (s:zU) (c:Int) (is:List Int) (bs:List By):oY s (rq c is bs)=some true:=by
 unfold oY;refine bd (a:=()) (uS (by unfold fG;exact cf rfl rfl)) ?_;exact ct rfl rfl
theorem zJ6 {s s':zU} {e:Int} {i:List Int} {b n:List By} (h:zEn c is bs) (hs:c=1∨s.Volatile.Started=true)
  (hp:pJ s 0 (rq c is bs)=some (s',zM.mk e i b n)) (ho:wP (zM.mk e i b [])=some out):uT s 0 (rqW c is bs)=some (s',out):=by
 unfold uT;refine bd (yAh h) (cf rfl ?_);refine bd (a:=(s',zM.mk e i b [])) ?_ (bd ho rfl);unfold hJ;refine bd (chk h) (cf rfl (bd (a:=false) rfl (cf rfl (bd (a:=false) ?_ (cf rfl ?_)))))
 ·rcases hs with rfl | hs
  ·exact cf rfl rfl
  ·rw [hs];show (bif (c != 1) then some false else some false)=some false;cases (c != 1)<;>rfl
 refine bd (zSl s c is bs) (cf rfl (ct rfl (bd hp rfl)))
theorem zOz (st:zR) (v:yD) (hs:Sst st) (h1:v.Started=false) (h2:v.Stopped=false):uT ⟨st,v⟩ 0 (rqW 1 [0] [])=some (⟨stS st,zR2 st v⟩,[0,0,0,0]):=by
 have hr:=hs.r0;have hr1:=hs.r1;refine zJ6 rqS (.inl rfl) (b:=[]) (n:=[]) (i:=[]) (e:=0) ?_ rsp0;unfold pJ;refine ct rfl (bd (a:=0) rfl (bd (a:=(⟨stS st,zR2 st v⟩,0)) ?_ rfl));unfold lW;refine bd (a:=false) (cf h1 (congrArg some h2)) (cf rfl (bd (a:=false) rfl (cf rfl (bd (a:=false) rfl (cf rfl (ct rfl ?_))))));refine bd (zTq st.Active hs.a0 hs.a3) ?_;rw [yP (by simp only;omega) (by simp only;omega)];rfl
theorem zPf (st:zR) (v:yD) (h1:v.Started=true):uT ⟨st,v⟩ 0 (rqW 1 [0] [])=some (⟨st,v⟩,[28]):=by
 refine zJ6 rqS (.inl rfl) (b:=[]) (n:=[]) (i:=[]) (e:=28) ?_ yC2;unfold pJ;refine ct rfl (bd (a:=0) rfl (bd (a:=(default,28)) ?_ rfl));unfold lW;exact bd (a:=true) (ct h1 rfl) (ct rfl rfl)
theorem zS5 (st:zR) (v:yD) (e:zB) (active:Int) (h1:v.Started=true) (hr:zEu active v.Registers) (he:EvGood e active) (hk:e.Kind≠5):uT ⟨st,v⟩ 0 (rqW 6 [e.Register] e.Digests)=some (⟨st,zP5 (ext active e v.Registers) v⟩,[0,0,0,0]):=by
 refine zJ6 (rqE he) (.inr h1) (b:=[]) (n:=[]) (i:=[]) (e:=0) ?_ rsp0;unfold pJ;refine cf rfl (cf rfl (cf rfl (bd (a:=true) rfl (ct rfl (bd (a:=(⟨st,zP5 (ext active e v.Registers) v⟩,zM.mk 0 [] [] [])) ?_ rfl)))));unfold kU;refine cf rfl (ct rfl (bd (a:=e.Register) rfl ?_));obtain ⟨x,hx,rfl⟩:=zLc v.Registers active e hr he hk;exact bd hx (cf rfl rfl)
section
variable {st':zR} {vo':yD}
theorem Dv.commit_same (h:Dv d seq st vo m):tX d ⟨st,vo'⟩=some (⟨d.Disk,⟨st,vo'⟩,d.On,d.Next⟩,0):=by
 unfold tX;refine bd (zFp st h.sst) ?_;refine bd (a:=.inr d) (bd (a:=sO st) (by rw [h.s];exact zFp st h.sst) (cf (by simp) rfl)) rfl
theorem Dv.vol (h:Dv d seq st vo m):Dv ⟨d.Disk,⟨st,vo'⟩,d.On,d.Next⟩ seq st vo' m:=⟨h.toDk,h.on,h.off,h.cut,rfl,h.nx⟩
theorem Dv.commit_new (h:Dv d seq st vo m) (hs:Sst st') (hq:seq+1<2 ^ 29) (hm:m+1<2 ^ 50):∃ d' seq',tX d ⟨st',vo'⟩=some (d',0)/\Dv d' seq' st' vo' (m+1)/\seq'<=seq+1/\∀ a,2<=a->d'.Disk.Areas.getD a []=d.Disk.Areas.getD a []:=by
 have hn:=h.n;have hok:=h.ok;have hm0:=h.m0;by_cases he:sO st'=sO st
 ·have hk:Dk d.Disk seq st' (m+1):=by
   refine ⟨h.ok,?_,hm,h.n,h.al,?_,hs⟩
   ·rw [Int.natCast_add];exact Int.le_trans hm0 (by omega)
   ·rw [he];exact h.jr
  refine ⟨⟨d.Disk,⟨st',vo'⟩,d.On,d.Next⟩,seq,?_,⟨hk,h.on,h.off,h.cut,rfl,h.nx⟩,Nat.le_succ _,λ_ _=>rfl⟩;unfold tX;refine bd (zFp st' hs) ?_;refine bd (a:=.inr d) (bd (a:=sO st) (by rw [h.s];exact zFp st h.sst) (cf (by simp [he]) rfl)) rfl
 ·have hl:=zKe st' hs;have hrl:=zHb (seq+1) (sO st');have hlt:(seq+1) % 2<2:=Nat.mod_lt _ (by decide);have hw:=zG0 d.Disk ((seq+1) % 2) (jS (seq+1) (sO st')) h.ok h.off (by omega) (by omega) (by have:=h.al ((seq+1) % 2);omega);have hc:=h.noC;have e:wrC d.Disk (d.Disk.Areas.getD ((seq+1) % 2) []) (jS (seq+1) (sO st'))=jS (seq+1) (sO st'):=by
   unfold wrC zA0;rw [if_neg (show ¬ (d.Disk.Writes+1=d.Disk.CutAt) from hc),if_neg hc,List.take_length,List.append_nil]
  rw [e,show zFv d.Disk=0 from if_neg hc] at hw;have hcm:=zIk d.Disk (seq+1) (sO st') (by omega) (by omega) (by omega) hw;have hnx:=h.nx;refine ⟨⟨zBe d.Disk ((seq+1) % 2) (jS (seq+1) (sO st')),⟨st',vo'⟩,d.On,d.Next+1⟩,seq+1,?_,⟨⟨⟨?_,?_,?_⟩,?_,hm,?_,?_,h.jr.next (by omega) hq (by omega),hs⟩,h.on,?_,h.cut,rfl,?_⟩,Nat.le_refl _,λa ha=>?_⟩
  ·unfold tX;refine bd (zFp st' hs) ?_;refine bd (a:=.inr ⟨zBe d.Disk ((seq+1) % 2) (jS (seq+1) (sO st')),d.State,d.On,d.Next+1⟩) (bd (a:=sO st) (by rw [h.s];exact zFp st h.sst) (ct (by simp [he]) ?_)) rfl;refine bd (a:=(zBe d.Disk ((seq+1) % 2) (jS (seq+1) (sO st')),0)) (by rw [hnx];exact hcm) (cf rfl ?_);rw [yP (by omega) (by omega)]
  ·show (d.Disk.Areas.set _ _).length<=64;simp;omega
  ·show 0<=d.Disk.Writes+1;have:=hok.w0;omega
  ·show d.Disk.Writes+1<2 ^ 60;omega
  ·show d.Disk.Writes+1<=((m+1:Nat):Int);omega
  ·show (d.Disk.Areas.set _ _).length=8;simp [hn]
  ·exact zSw h.al (by omega) (by omega)
  ·show decide (isC d.Disk)=false;exact decide_eq_false h.noC
  ·show d.Next+1=((seq+1:Nat):Int)+1;omega
  ·exact getD_set_ne (by omega)
theorem Dv.send_same (h:Dv d seq st vo m) (hr:uT ⟨st,vo⟩ 0 b=some (⟨st,vo'⟩,out)):sQ d 0 b=some (⟨d.Disk,⟨st,vo'⟩,d.On,d.Next⟩,out,0):=by
 have hr':uT d.State 0 b=some (⟨st,vo'⟩,out):=by rw [h.s];exact hr
 unfold sQ;refine bd (zGd h.on h.off) ?_;refine cf rfl ?_;refine bd hr' ?_;refine bd h.commit_same ?_;exact cf rfl rfl
theorem Dv.send_new (h:Dv d seq st vo m) (hs:Sst st') (hq:seq+1<2 ^ 29) (hm:m+1<2 ^ 50) (hr:uT ⟨st,vo⟩ 0 b=some (⟨st',vo'⟩,out)):∃ d' seq',sQ d 0 b=some (d',out,0)/\Dv d' seq' st' vo' (m+1)/\seq'<=seq+1/\∀ a,2<=a->d'.Disk.Areas.getD a []=d.Disk.Areas.getD a []:=by
 obtain ⟨d',seq',e,h1,h2,h3⟩:=h.commit_new (vo':=vo') hs hq hm;refine ⟨d',seq',?_,h1,h2,h3⟩;have hr':uT d.State 0 b=some (⟨st',vo'⟩,out):=by rw [h.s];exact hr
 unfold sQ;refine bd (zGd h.on h.off) ?_;refine cf rfl ?_;refine bd hr' ?_;refine bd e ?_;exact cf rfl rfl
theorem zR9 {r:zM} (h:zEn c is bs) (hs:sQ d 0 (rqW c is bs)=some (d',out,0)) (hd:wS out=some (r,0)) (he:r.Err=0) (hc:(c==9)=false/\(c==11)=false/\(c==16)=false/\(c==12)=false) :
  ∀ L:yB,L.Device=d->tK L (rq c is bs)=some (r,0,yB.mk d' L.opened_):=by
 rintro L rfl;obtain ⟨c1,c2,c3,c4⟩:=hc;unfold tK;refine bd (a:=(rqW c is bs,0)) (zUg h) ?_;refine cf rfl ?_;refine bd (a:=(d',out,0)) hs ?_;refine cf rfl ?_;refine bd (a:=(r,0)) hd ?_;refine bd (a:=0) (ct rfl (congrArg some he)) ?_;refine cf rfl ?_;refine bd (a:=false) (cf c1 (cf c2 (congrArg some c3))) ?_;refine cf rfl ?_;refine cf c4 ?_;refine bd (a:=()) (uS (by unfold cZ;exact cf rfl rfl)) ?_;rfl
theorem zYj {r:zM} (h:zEn c is bs) (hs:sQ d 0 (rqW c is bs)=some (d',out,0)) (hd:wS out=some (r,0)) (he:(r.Err != 0)=true) :
  ∀ L:yB,L.Device=d->tK L (rq c is bs)=some (zM.mk 0 [] [] [],r.Err,yB.mk d' L.opened_):=by
 rintro L rfl;unfold tK;refine bd (a:=(rqW c is bs,0)) (zUg h) ?_;refine cf rfl ?_;refine bd (a:=(d',out,0)) hs ?_;refine cf rfl ?_;refine bd (a:=(r,0)) hd ?_;refine bd (a:=r.Err) (ct rfl rfl) ?_;exact ct he rfl
end
set_option maxRecDepth 100000
theorem zOj (h:e.Digests=dgE active (e.Kind != 5) b):Fit e active 0/\Fit e active 1:=by
 unfold Fit;rw [h];unfold dgE;constructor
 ·show (((if ((e.Kind != 5)&&xF active 0)=true then lA b else []):By).length:Int)=if e.Kind≠5/\xF active 0=true then siz 0 else 0
  by_cases hk:e.Kind=5
  ·rw [if_neg (by simp [hk]),if_neg (λh=>h.1 hk)];rfl
  ·cases hb:xF active 0
   ·rw [if_neg (by simp),if_neg (λh=>by cases h.2)];rfl
   ·rw [if_pos (by simp [hk]),if_pos ⟨hk,rfl⟩,zK4];rfl
 ·show (((if ((e.Kind != 5)&&xF active 1)=true then sha b else []):By).length:Int)=if e.Kind≠5/\xF active 1=true then siz 1 else 0
  by_cases hk:e.Kind=5
  ·rw [if_neg (by simp [hk]),if_neg (λh=>h.1 hk)];rfl
  ·cases hb:xF active 1
   ·rw [if_neg (by simp),if_neg (λh=>by cases h.2)];rfl
   ·rw [if_pos (by simp [hk]),if_pos ⟨hk,rfl⟩,zFi];rfl
theorem zMr {reg kind:Int} {data:By} (h1:1<=active) (h3:active<=3) (r0:0<=reg) (r1:reg<=11) (k1:1<=kind) (k5:kind<=5) (hd:data.length<=64):EvC (mkE reg kind active data) active:=by
 obtain ⟨f0,f1⟩:=zOj (e:=mkE reg kind active data) (active:=active) (b:=data) rfl;exact ⟨⟨r0,r1,hd,rfl,f0,f1⟩,h1,h3,k1,k5⟩
theorem zYs (r:Int) (h1:1<=r) (h4:r<=4):0<=rgR r/\rgR r<=11:=by
 unfold rgR;split
 ·omega
 split
 ·omega
 split
 ·omega
 split<;>omega
theorem zS7 (x:zD) (h:tV x):(lbl x).length<=33:=by
 have h1:=h.nl;have h2:=aE 20 x.Version.toNat;unfold lbl;rw [List.length_append,List.length_append,List.length_singleton];omega
theorem zVn {x:zD} (h1:1<=active) (h3:active<=3) (h:tV x):EvC (imE active x) active:=by
 obtain ⟨f0,f1⟩:=zOj (e:=imE active x) (active:=active) (b:=pK x) rfl;have hr:=zYs x.Role h.r1 h.r4;have hl:=zS7 x h;exact ⟨⟨hr.1,hr.2,by show (lbl x).length<=64;omega,rfl,f0,f1⟩,h1,h3,by show (1:Int)<=1;omega,by show (1:Int)<=5;omega⟩
theorem zNt (h:e∈evR active role l):∃ x∈l,x.Role=role/\((role=4/\∃ d∈zE0 x,e=mkE 9 3 active d)∨(role≠4/\e=imE active x)):=by
 unfold evR at h;obtain ⟨x,hx,he⟩:=List.mem_flatMap.1 h;by_cases hr:x.Role=role
 ·rw [if_pos hr] at he;by_cases h4:role=4
  ·rw [if_pos h4] at he;obtain ⟨d,hd,rfl⟩:=List.mem_map.1 he;exact ⟨x,hx,hr,.inl ⟨h4,d,hd,rfl⟩⟩
  ·rw [if_neg h4] at he;exact ⟨x,hx,hr,.inr ⟨h4,by simpa using he⟩⟩
 ·rw [if_neg hr] at he;cases he
theorem zJ3 (h1:1<=active) (h3:active<=3) (hc:nT l):∀ e∈evR active role l,EvC e active:=by
 intro e he;obtain ⟨x,hx,hr,⟨h4,d,hd,rfl⟩ | ⟨_,rfl⟩⟩:=zNt he
 ·have:=((zIw x (hc.im x hx) (by omega)).2.2 d hd).2.1;exact zMr h1 h3 (by omega) (by omega) (by omega) (by omega) (by omega)
 ·exact zVn h1 h3 (hc.im x hx)
theorem zKy (h:e∈dI active):∃ i:Nat,i<8/\e=mkE (i:Int) 2 active [0,0,0,0]:=by
 unfold dI at h;obtain ⟨i,hi,rfl⟩:=List.mem_map.1 h;exact ⟨i,List.mem_range.1 hi,rfl⟩
theorem zJm (h1:1<=active) (h3:active<=3) (hc:nT l):∀ e∈evs l active,EvC e active:=by
 intro e he;unfold evs at he;simp only [List.mem_append] at he;rcases he with ((he | he) | (he | he)) | he
 ·exact zJ3 h1 h3 hc e he
 ·exact zJ3 h1 h3 hc e he
 ·obtain ⟨i,hi,rfl⟩:=zKy he;exact zMr h1 h3 (by omega) (by omega) (by omega) (by omega) (by decide)
 ·exact zJ3 h1 h3 hc e he
 ·exact zJ3 h1 h3 hc e he
theorem zQ1:∀ e∈evs l active,e.Kind≠5:=by
 have hR:∀ role,∀ e∈evR active role l,e.Kind≠5:=by
  intro role e he;obtain ⟨x,_,_,⟨_,d,_,rfl⟩ | ⟨_,rfl⟩⟩:=zNt he
  ·exact show (3:Int)≠5 by decide
  ·exact show (1:Int)≠5 by decide
 intro e he;unfold evs at he;simp only [List.mem_append] at he;rcases he with ((he | he) | (he | he)) | he
 ·exact hR _ e he
 ·exact hR _ e he
 ·obtain ⟨i,_,rfl⟩:=zKy he;exact show (2:Int)≠5 by decide
 ·exact hR _ e he
 ·exact hR _ e he
def zTn (active:Int):zB:=mkE 0 4 active [99,104,97,105,110]
theorem zNw (h1:1<=active) (h3:active<=3):EvC (zTn active) active:=zMr h1 h3 (by decide) (by decide) (by decide) (by decide) (by decide)
set_option maxRecDepth 100000
theorem zSe:∀ n:Nat,n<256->beN (n:Int) 1 1=[u8 (n:Int)]:=by decide +kernel
theorem zX1 {a:Int} (h0:0<=a) (h:a<256):beN a 1 1=[u8 a]:=by
 obtain ⟨n,rfl⟩:=Int.eq_ofNat_of_zero_le h0;exact zSe n (by omega)
theorem zWl (a r:Int) (h1:1<=a) (h3:a<=3) (h0:0<=r) (hr:r<=1099511627776):vI a r=some (zBo a r):=by
 unfold vI;refine bd (a:=false) (cf (by simp;omega) (cf (by simp;omega) (cf (by simp;omega) (congrArg some (by simp;omega))))) ?_;refine cf rfl ?_;refine bd (wU _ 1 a (by omega) (by omega) (by simp)) ?_;refine bd (wU _ 6 r (by omega) (by omega) (by simp [xC])) ?_;rw [zX1 (by omega) (by omega)];rfl
theorem zO1 (e:zB) (active:Int) (h:EvC e active):jG e=some (mF e):=by
 have q0:=kQ h.f0;have q1:=kQ h.f1;have hd:=h.d;have hl:=h.l;have r0:=h.r0;have r1:=h.r1;have k1:=h.k1;have k5:=h.k5;obtain ⟨reg,kind,dg,data⟩:=e
 match dg,hl with
 | [x,y],_=>
 simp only at q0 q1 hd r0 r1 k1 k5;have q0:x.length<=32:=q0;have q1:y.length<=32:=q1;have hen:wW ⟨reg,kind,[x,y],data⟩=some true:=by
  unfold wW;refine bd (a:=false) (cf (decide_eq_false (by simp only;omega)) (cf (decide_eq_false (by simp only;omega)) (cf (decide_eq_false (by simp only;omega)) (cf (decide_eq_false (by simp only;omega)) (cf rfl (congrArg some (decide_eq_false (by simp only;omega)))))))) ?_;refine cf rfl ?_;refine bd (a:=.inr ()) (yG 2 (λi=>(i:Int)) rfl ?_ ?_ (xO (by omega))) rfl
  ·intro i hi;unfold vN;rcases (show i=0∨i=1 by omega) with rfl | rfl
   ·exact ct rfl (bd (a:=x) rfl (bd (a:=32) rfl (cf (decide_eq_false (by omega)) rfl)))
   ·exact ct rfl (bd (a:=y) rfl (bd (a:=32) rfl (cf (decide_eq_false (by omega)) rfl)))
  ·unfold vN;exact cf rfl rfl
 unfold jG;refine bd hen (cf rfl ?_);refine bd (wU [] 1 reg (by omega) (by omega) (by simp)) ?_;refine bd (wU _ 1 kind (by omega) (by omega) (by simp [xC])) ?_;rw [zX1 (by omega) (by omega),zX1 (by omega) (by omega)];refine bd (a:=([u8 reg,u8 kind]++bl x)++bl y) (yG 2 (λi=>(if i=0 then [u8 reg,u8 kind] else if i=1 then [u8 reg,u8 kind]++bl x else ([u8 reg,u8 kind]++bl x)++bl y,(i:Int))) rfl ?_ ?_ (xO (by omega))) ?_
 ·intro i hi;unfold kX;rcases (show i=0∨i=1 by omega) with rfl | rfl
  ·exact ct rfl (bd (a:=x) rfl (bd (wB _ x (by simp) (by omega)) rfl))
  ·exact ct rfl (bd (a:=y) rfl (bd (wB _ y (by simp [uY];omega) (by omega)) rfl))
 ·unfold kX;exact cf rfl rfl
 refine bd (wB _ data (by simp [uY];omega) (by omega)) ?_;show some _=some _;unfold mF bl;simp
theorem zQb (active:Int) (es:List zB) (e:zB) (hk:e.Kind≠5):rpl active (es++[e])=ext active e (rpl active es):=by
 unfold rpl;rw [List.foldl_append];simp [hk]
theorem zPx (es:List zB) (e:zB):mY (es++[e])=mY es++bl (mF e):=by simp [mY,bl]
structure Mz (d:zE) (seq:Nat) (st:zR) (vo:yD) (m:Nat) (es:List zB):Prop extends Dv d seq st vo m where
 v1:vo.Started=true
 v2:vo.Registers=rpl st.Active es
 lg:d.Disk.Areas.getD 2 []=zBo st.Active st.Resets++mY es
section
theorem Mz.step (h:Mz d seq st vo m es) {x:zB} (hx:EvC x st.Active) (hk:x.Kind≠5) (hs:es.length<=40) (he:∀ e∈es,EvC e st.Active) (hm:m+1<2 ^ 50) :
  ∃ d' vo',jJ (yB.mk d []) x=some (0,yB.mk d' [])/\Mz d' seq st vo' (m+1) (es++[x])/\∀ a,3<=a->d'.Disk.Areas.getD a []=d.Disk.Areas.getD a []:=by
 have hr:=zS5 st vo x st.Active h.v1 (by rw [h.v2];exact zM7 _ _ h.sst.a0 h.sst.a3) hx.toEvGood hk;have h1:=h.toDv.send_same hr;have hv:=h.toDv.vol (vo':=zP5 (ext st.Active x vo.Registers) vo);have hd:=zR9 (rqE hx.toEvGood) h1 rsd0 rfl (by decide) (yB.mk d []) rfl;have hb:=zC0 hx.toEvGood;have hf:=zG6 es he;have hap:=hv.append (a:=2) (bl (mF x)) (by decide) (by rw [uY];omega);have hy:(d.Disk.Areas.getD 2 []++bl (mF x)).length<2 ^ 39:=by rw [List.length_append,h.lg,List.length_append,aW,uY];omega
 refine ⟨zE1 ⟨d.Disk,⟨st,zP5 (ext st.Active x vo.Registers) vo⟩,d.On,d.Next⟩ 2 (d.Disk.Areas.getD 2 []++bl (mF x)),zP5 (ext st.Active x vo.Registers) vo,?_,⟨hv.set (by decide) (by decide) hy hm,h.v1,?_,?_⟩,λa ha=>getD_set_ne (by omega)⟩
 ·unfold jJ;refine bd hd ?_;refine bd (a:=(0,yB.mk (zE1 ⟨d.Disk,⟨st,zP5 (ext st.Active x vo.Registers) vo⟩,d.On,d.Next⟩ 2 (d.Disk.Areas.getD 2 []++bl (mF x))) [])) ?_ rfl;refine ct rfl ?_;refine bd (zO1 x st.Active hx) ?_;refine bd (wB [] _ (by simp) (by omega)) ?_;rw [List.nil_append];refine bd hap ?_;rfl
 ·show ext st.Active x vo.Registers=_;rw [zQb _ _ _ hk,h.v2]
 ·show (d.Disk.Areas.set 2 _).getD 2 []=_;rw [uM (by have:=h.n;omega),h.lg,zPx,List.append_assoc]
end
set_option maxRecDepth 100000
theorem db {β:Type} {o:Option α} {a:α} {f:α->Option β} {Q:β->Prop} (h:o=some a) (k:Def (f a) Q):Def (o.bind f) Q:=by subst h;exact k
theorem dct {c:Bool} {Q:α->Prop} (h:c=true) (k:Def x Q):Def (bif c then x else y) Q:=by subst h;exact k
theorem dcf {c:Bool} {Q:α->Prop} (h:c=false) (k:Def y Q):Def (bif c then x else y) Q:=by subst h;exact k
set_option maxRecDepth 100000
set_option maxRecDepth 100000
def jA (l:List zD):By:=hs 20 [bX l]++bX l
theorem zAo (l:List zD):(jA l).length=32+(bX l).length:=by simp [jA,zBn]
theorem zL8 (h:s<2):(bif ((s:Int) != 0) then (some ((s:Int) != 1)) else some false:Option Bool)=some false:=by
 rcases (show s=0∨s=1 by omega) with rfl | rfl<;>rfl
theorem zUo (h:s<2):IntKind.i64.wrap (3+(s:Int))=((3+s:Nat):Int):=by rw [yP (by omega) (by omega)];omega
theorem zLj (d:zE) (hs':s<2) (hc:zHr l) {r:zE×Int} (hw:qQ d ((3+s:Nat):Int) (jA l)=some r):nG d (s:Int) l=some r:=by
 have hl:=aG hc;unfold nG;refine bd (zL8 hs') (cf rfl ?_);refine bd hc.p (cf rfl ?_);refine bd (yBh hc) ?_;refine bd (zFx 20 [bX l] (by simp [tot];omega)) ?_;refine bd (yJ (by rw [zBn];omega)) ?_;rw [zUo hs'];exact bd hw rfl
section
theorem Dv.install (h:Dv d seq st vo m) (hs':s<2) (hc:zHr l):nG d (s:Int) l=some (zE1 d (3+s) (jA l),0):=by
 have hl:=aG hc;exact zLj d hs' hc (h.write _ (by omega) (by rw [zAo];omega))
theorem zL4 (d:zE) (hs':s<2) {r:zE×Int} (hw:qQ d 5 [u8 (s:Int)]=some r):kH d (s:Int)=some r:=by
 unfold kH;refine bd (zL8 hs') (cf rfl ?_);exact bd hw rfl
theorem Dv.choose (h:Dv d seq st vo m) (hs':s<2):kH d (s:Int)=some (zE1 d 5 [u8 (s:Int)],0):=
 zL4 d hs' (h.write (a:=5) [u8 (s:Int)] (by decide) (by simp))
theorem zPj (d:zE) (ho:d.Disk.Off=false) (ha:5<d.Disk.Areas.length) (hold:(d.Disk.Areas.getD 5 []).length<2 ^ 40):oS d=some (if d.Disk.Areas.getD 5 []=[1] then 1 else 0):=by
 have hr:sM d.Disk 5=some (d.Disk.Areas.getD 5 [],0):=zCf d.Disk 5 ho ha hold;unfold oS;refine bd hr ?_;refine bd (a:=d.Disk.Areas.getD 5 []==[1]) (ct rfl (bd (zKb _ _) rfl)) ?_;by_cases h:d.Disk.Areas.getD 5 []=[1]
 ·rw [if_pos h];exact ct (by rw [h];rfl) rfl
 ·rw [if_neg h];exact cf (by simpa using h) rfl
def zB7 (c:By):Option (List zD×Int):=if 32<=c.length/\c.take 32=hs 20 [c.drop 32] then vU (c.drop 32) else some ([],30)
theorem zSa (d:zE) (hs':s<2) (ho:d.Disk.Off=false) (ha:3+s<d.Disk.Areas.length) (hold:(d.Disk.Areas.getD (3+s) []).length<2 ^ 30):iV d (s:Int)=zB7 (d.Disk.Areas.getD (3+s) []):=by
 have hr:sM d.Disk (IntKind.i64.wrap (3+(s:Int)))=some (d.Disk.Areas.getD (3+s) [],0):=by rw [zUo hs'];exact zCf d.Disk (3+s) ho ha (by omega)
 unfold iV;refine bd (zL8 hs') (cf rfl ?_);refine bd hr (cf rfl ?_);generalize d.Disk.Areas.getD (3+s) []=c at hold;unfold zB7;by_cases h32:32<=c.length
 ·have h1:sub c 0 32=some (c.take 32):=sF (a:=0) (b:=32) (by decide) h32;have h2:sub c 32 c.length=some (c.drop 32):=by
   have:=sF (l:=c) (a:=32) (b:=c.length) h32 (Nat.le_refl _);rw [List.take_of_length_le (by rw [List.length_drop];omega)] at this;exact this
  refine bd (a:=!(c.take 32==hs 20 [c.drop 32])) (cf (decide_eq_false (by omega)) (bd h1 (bd h2 (bd (zFx 20 [c.drop 32] (by simp [tot];omega)) (bd (zKb _ _) rfl))))) ?_;by_cases he:c.take 32=hs 20 [c.drop 32]
  ·rw [if_pos ⟨h32,he⟩];refine cf (by simp [he]) ?_;refine bd h2 ?_;cases vU (c.drop 32)<;>rfl
  ·rw [if_neg (λh=>he h.2)];exact ct (by simp [he]) rfl
 ·rw [if_neg (λh=>h32 h.1)];exact bd (a:=true) (ct (decide_eq_true (by omega)) rfl) (ct rfl rfl)
theorem zLg (hc:zHr l):zB7 (jA l)=some (l,0):=by
 have hd:(jA l).drop 32=bX l:=by unfold jA;rw [List.drop_append_of_le_length (by rw [zBn];omega),List.drop_of_length_le (by rw [zBn];omega),List.nil_append]
 have ht:(jA l).take 32=hs 20 [bX l]:=by unfold jA;rw [List.take_append_of_le_length (by rw [zBn];omega),List.take_of_length_le (by rw [zBn];omega)]
 unfold zB7;rw [if_pos ⟨by rw [zAo];omega,by rw [ht,hd]⟩,hd];exact zZy hc
theorem zMb:zB7 []=some ([],30):=by
 unfold zB7;rw [if_neg (λh=>by have:=h.1;simp at this)]
theorem zSt (b:By):Def (zAi b) (λr=>r.length=32):=by
 unfold zAi;refine Def.bd (Def.mkN (by decide) (by decide)) (λn hn=>?_);refine Def.bd (Def.ck (by simp)) (λ_ _=>?_);refine Def.lt ?_;refine Def.bd (Def.ck (by rw [zI3];simp)) (λ_ _=>?_);exact Def.bd (Def.ck (zEy (by
                 have e:(32:Int).toNat=32:=rfl;omega))) (λ_ _=>Def.s (by rw [zI3,List.length_replicate,hn];rfl))
theorem zIq (e:By) (active:Int) (he:e.length=32) (h1:1<=active) (h3:active<=3):Def (oU 8 e active) (λr=>r.2=0/\(∃ d0,r.1=zEx d0)/\∃ st,uW r.1=some (onD r.1 1 st,0)/\(∀ m,m<2 ^ 50->Dv (onD r.1 1 st) 1 st zOy m)/\st.Active=active/\st.Resets=0/\∀ a,2<=a->r.1.Disk.Areas.getD a []=[]):=by
 refine (zK1 e active he h1 h3).mono λr hr=>?_;obtain ⟨h0,⟨d0,hd⟩,st,hk,ha,hr0,hz⟩:=hr;refine ⟨h0,⟨d0,hd⟩,st,zGx r.1 1 st (.inl (by rw [hd];rfl)) hk.n hk.al hk.jr hk.sst,λm hm=>Dv.of_on hk.n hk.al hk.jr hk.sst m hm,ha,hr0,hz⟩
theorem zKh (en:By) (active:Int) (h1:1<=active) (h3:active<=3) (hc:zHr l):Def (hO en active l) (λr=>r.2=true/\∃ st,Dv r.1 1 st zOy 2/\st.Active=active/\st.Resets=0/\r.1.Disk.Areas.getD 3 []=jA l/\r.1.Disk.Areas.getD 4 []=[]/\r.1.Disk.Areas.getD 5 []=[0]):=by
 have hl:=aG hc;unfold hO;refine Def.bd (zSt en) (λe he=>?_);refine Def.bd (zIq e active he h1 h3) (λr hr=>?_);obtain ⟨x,c⟩:=r;obtain ⟨h0,⟨d0,rfl⟩,st,hp,hv,ha,hr0,hz⟩:=hr;simp only at h0 hp hv hz;subst h0;have hv0:=hv 0 (by decide);have hv1:=hv0.set (a:=3) (y:=jA l) (by decide) (by decide) (by rw [zAo];omega) (by decide);have hv2:=hv1.set (a:=5) (y:=[u8 ((0:Nat):Int)]) (by decide) (by decide) (by simp) (by decide);refine db (a:=(onD (zEx d0) 1 st,0)) hp ?_;refine db (hv0.install (s:=0) (by decide) hc) ?_;refine db (hv1.choose (s:=0) (by decide)) ?_;refine db (a:=true) rfl ?_;have hn:=hv0.n;refine Def.s ⟨rfl,st,hv2,ha,hr0,?_,?_,?_⟩
 ·show (((onD (zEx d0) 1 st).Disk.Areas.set 3 (jA l)).set 5 _).getD 3 []=_;rw [getD_set_ne (by decide),uM (by omega)]
 ·show (((onD (zEx d0) 1 st).Disk.Areas.set 3 (jA l)).set 5 _).getD 4 []=_;rw [getD_set_ne (by decide),getD_set_ne (by decide)];exact hz 4 (by decide)
 ·show (((onD (zEx d0) 1 st).Disk.Areas.set 3 (jA l)).set 5 _).getD 5 []=_;rw [uM (by rw [List.length_set];omega)];rfl
end
set_option maxRecDepth 100000
theorem zQt (es:List zB) (h40:es.length<=40) (hE:∀ e∈es,EvC e st.Active) (hK:∀ e∈es,e.Kind≠5) (n:Nat):∀ (i fuel:Nat) (d:zE) (vo:yD) (m:Nat),i+n=es.length->n<fuel->Mz d seq st vo m (es.take i)->m+n<2 ^ 50 ->
  ∃ d' vo',zL (qN es) fuel ((i:Int),0,yB.mk d [])=some (.inr (0,yB.mk d' []))/\Mz d' seq st vo' (m+n) es/\∀ a,3<=a->d'.Disk.Areas.getD a []=d.Disk.Areas.getD a []:=by
 induction n with
 | zero=>
  intro i fuel d vo m hi hf h _;obtain ⟨f,rfl⟩:∃ f,fuel=f+1:=⟨fuel - 1,by omega⟩;have hi:i=es.length:=by omega
  subst hi;rw [List.take_length] at h;refine ⟨d,vo,?_,h,λ_ _=>rfl⟩;have:qN es ((es.length:Int),0,yB.mk d [])=some (.inr (.inr (0,yB.mk d []))):=by
   unfold qN;exact cf (decide_eq_false (by omega)) rfl
  simp only [zL,this]
 | succ n ih=>
  intro i fuel d vo m hi hf h hm;obtain ⟨f,rfl⟩:∃ f,fuel=f+1:=⟨fuel - 1,by omega⟩;have hl:i<es.length:=by omega
  have hmem:es[i]∈es:=List.getElem_mem _;obtain ⟨d1,vo1,e1,h1,s1⟩:=h.step (hE _ hmem) (hK _ hmem) (by rw [List.length_take];omega) (λe he=>hE e (List.mem_of_mem_take he)) (by omega);rw [show es.take i++[es[i]]=es.take (i+1) from by rw [List.take_add_one];simp [hl]] at h1;obtain ⟨d2,vo2,e2,h2,s2⟩:=ih (i+1) f d1 vo1 (m+1) (by omega) (by omega) h1 (by omega);refine ⟨d2,vo2,?_,by rw [show m+(n+1)=m+1+n from by omega];exact h2,λa ha=>(s2 a ha).trans (s1 a ha)⟩;have:qN es ((i:Int),0,yB.mk d [])=some (.inl (((i+1:Nat):Int),0,yB.mk d1 [])):=by
   unfold qN;refine ct (decide_eq_true (by omega)) (bd (yN hl) (bd e1 (cf rfl ?_)));rw [yP (by omega) (by omega)];rfl
  simp only [zL,this];exact e2
section
theorem Dv.start (h:Dv d seq st vo m) (hs:vo.Started=false) (hp:vo.Stopped=false) (hR:st.Resets+1<2 ^ 30) (hq:seq+1<2 ^ 29) (hm:m+1<2 ^ 50):∃ d1 seq1,tK (yB.mk d []) (yA.mk 1 [] [] [0] [])=some (zM.mk 0 [] [] [],0,yB.mk d1 [])/\Dv d1 seq1 (stS st) (zR2 st vo) (m+1)/\seq1<=seq+1/\∀ a,2<=a->d1.Disk.Areas.getD a []=d.Disk.Areas.getD a []:=by
 obtain ⟨d1,seq1,e,h1,h2,h3⟩:=h.send_new (h.sst.S hR) hq hm (zOz st vo h.sst hs hp);exact ⟨d1,seq1,zR9 rqS e rsd0 rfl (by decide) (yB.mk d []) rfl,h1,h2,h3⟩
def kC (d:zE):Nat:=if d.Disk.Areas.getD 5 []=[1] then 1 else 0
theorem zSo (d:zE):kC d<2:=by unfold kC;split<;>omega
theorem Dv.chosen (h:Dv d seq st vo m):oS d=some (kC d:Int):=by
 rw [zPj d h.off (by rw [h.n];decide) (by have:=h.al 5;omega)];unfold kC;split<;>rfl
def zDt (active c:Int) (pe:List zB):List zB:=if c=0 then pe else [zTn active]
theorem Dv.run (h:Dv d seq st vo m) (hs:vo.Started=false) (hp:vo.Stopped=false) (hR:st.Resets+1<2 ^ 30) (hq:seq+1<2 ^ 29) (hm:m+60<2 ^ 50)
  {ch:List zD} {pe:List zB} (hsm:(d.Disk.Areas.getD (3+kC d) []).length<2 ^ 30) (hch:zB7 (d.Disk.Areas.getD (3+kC d) [])=some (ch,c)) (hpe:uQ ch st.Active=some pe)
  (h40:pe.length<=40) (hE:∀ e∈pe,EvC e st.Active) (hK:∀ e∈pe,e.Kind≠5) :
  ∃ d' seq' vo' m',uX d=some (d',if c=0 then 0 else 50)/\Mz d' seq' (stS st) vo' m' (zDt st.Active c pe)/\seq'<=seq+1/\m'<=m+43/\∀ a,3<=a->d'.Disk.Areas.getD a []=d.Disk.Areas.getD a []:=by
 obtain ⟨d1,seq1,e1,h1,hq1,s1⟩:=h.start hs hp hR hq (by omega);have hr0:=h.sst.r0;have hw:=h1.write (a:=2) (zBo st.Active (st.Resets+1)) (by decide) (by rw [aW];decide);have h2:=h1.set (a:=2) (y:=zBo st.Active (st.Resets+1)) (by decide) (by decide) (by rw [aW];decide) (by omega);have hge:∀ a,3<=a->(zE1 d1 2 (zBo st.Active (st.Resets+1))).Disk.Areas.getD a []=d.Disk.Areas.getD a []:=λa ha=>(getD_set_ne (by omega)).trans (s1 a (by omega));have hn:kC (zE1 d1 2 (zBo st.Active (st.Resets+1)))=kC d:=by unfold kC;rw [hge 5 (by decide)]
 have hlt:=zSo d;have hco:oS (zE1 d1 2 (zBo st.Active (st.Resets+1)))=some (kC d:Int):=by rw [h2.chosen,hn]
 have hcc:iV (zE1 d1 2 (zBo st.Active (st.Resets+1))) (kC d:Int)=some (ch,c):=by
  rw [zSa _ hlt h2.off (by rw [h2.n];omega) (by rw [hge _ (by omega)];exact hsm),hge _ (by omega),hch]
 have hz:Mz (zE1 d1 2 (zBo st.Active (st.Resets+1))) seq1 (stS st) (zR2 st vo) (m+1+1) ((zDt st.Active c pe).take 0):=⟨h2,rfl,rfl,by
  show (d1.Disk.Areas.set 2 _).getD 2 []=_;rw [uM (by rw [h1.n];decide)];simp [mY,stS]⟩
 have hl40:(zDt st.Active c pe).length<=40:=by unfold zDt;split;exact h40;simp
 have hE':∀ e∈zDt st.Active c pe,EvC e (stS st).Active:=by
  intro e he;unfold zDt at he;split at he
  ·exact hE e he
  ·rw [List.mem_singleton.1 he];exact zNw h.sst.a0 h.sst.a3
 have hK':∀ e∈zDt st.Active c pe,e.Kind≠5:=by
  intro e he;unfold zDt at he;split at he
  ·exact hK e he
  ·rw [List.mem_singleton.1 he];exact show (4:Int)≠5 by decide
 obtain ⟨d3,vo3,e3,h3,s3⟩:=zQt (seq:=seq1) (st:=stS st) (zDt st.Active c pe) hl40 hE' hK' (zDt st.Active c pe).length 0 FU _ _ (m+1+1) (by omega) (xO (by omega)) hz (by omega);refine ⟨d3,seq1,vo3,m+1+1+(zDt st.Active c pe).length,?_,h3,hq1,by omega,λa ha=>(s3 a ha).trans (hge a ha)⟩;have hst:d1.State=⟨stS st,zR2 st vo⟩:=h1.s;have hA:d1.State.Stable.Active=st.Active:=by rw [hst];rfl
 have hRs:d1.State.Stable.Resets=st.Resets+1:=by rw [hst];rfl
 unfold uX;refine cf (by rw [h.on];rfl) ?_;refine bd (a:=yB.mk d []) rfl ?_;refine bd (a:=(default,if c=0 then 0 else 50,yB.mk d3 [])) ?_ ?_
 ·refine bd e1 (cf rfl ?_);show (vI d1.State.Stable.Active d1.State.Stable.Resets).bind _=_;rw [hA,hRs];refine bd (zWl st.Active (st.Resets+1) h.sst.a0 h.sst.a3 (by omega) (by omega)) ?_;refine bd hw (cf rfl ?_);refine bd hco (bd hcc ?_);refine bd hpe ?_;refine bd (a:=zDt st.Active c pe) ?_ (bd e3 ?_)
  ·unfold zDt;by_cases hc:c=0
   ·rw [if_pos hc];exact cf (b0 hc) rfl
   ·rw [if_neg hc];exact ct (b1 hc) (bd (zGb 0 4 st.Active [99,104,97,105,110] (by decide)) rfl)
  ·show ((bif c != 0 then some 50 else some 0:Option Int).bind λe=>some ((default:zE),e,yB.mk d3 []))=_;by_cases hc:c=0
   ·rw [if_pos hc];exact bd (a:=0) (cf (b0 hc) rfl) rfl
   ·rw [if_neg hc];exact bd (a:=50) (ct (b1 hc) rfl) rfl
 ·refine bd (a:=(d3,if c=0 then 0 else 50,yB.mk d3 [])) ?_ rfl;unfold gX;refine cf ?_ rfl;split<;>rfl
theorem Dv.rerun (h:Dv d seq st vo m) (hs:vo.Started=true):∃ d',uX d=some (d',28):=by
 have e:=h.send_same (zPf st vo hs);have hd:=zYj rqS e yAg (by decide) (yB.mk d []) rfl;refine ⟨⟨d.Disk,⟨st,vo⟩,d.On,d.Next⟩,?_⟩;unfold uX;refine cf (by rw [h.on];rfl) ?_;refine bd (a:=yB.mk d []) rfl ?_;refine bd (a:=(default,28,yB.mk ⟨d.Disk,⟨st,vo⟩,d.On,d.Next⟩ [])) (bd hd (ct rfl rfl)) ?_;exact bd (a:=(⟨d.Disk,⟨st,vo⟩,d.On,d.Next⟩,28,yB.mk ⟨d.Disk,⟨st,vo⟩,d.On,d.Next⟩ [])) rfl rfl
theorem zTy (h:d.On=false):uX d=some (d,29):=by
 unfold uX;exact ct (by rw [h];rfl) rfl
end
set_option maxRecDepth 100000
def zD1:List zD:=[zD.mk 1 [102] 0 [],zD.mk 3 [107] 0 []]
theorem zRu:bW=some zD1:=rfl
theorem zJk:nT zD1:=by
 have g1:tV (zD.mk 1 [102] 0 []):=⟨by decide,by decide,by decide,by decide,by rw [cB];decide +kernel,by decide,by decide,λh=>absurd h (by decide)⟩;have g3:tV (zD.mk 3 [107] 0 []):=⟨by decide,by decide,by decide,by decide,by rw [cB];decide +kernel,by decide,by decide,λh=>absurd h (by decide)⟩;refine ⟨by decide,?_,?_,⟨_,.head _,rfl⟩,⟨_,.tail _ (.head _),rfl⟩⟩
 ·intro x hx;rcases List.mem_cons.1 hx with rfl | hx
  ·exact g1
  ·rw [List.mem_singleton.1 hx];exact g3
 ·refine .cons ?_ (.cons (by simp) .nil);intro y hy;rw [List.mem_singleton.1 hy];exact ⟨by decide,by decide⟩
theorem zWo:zHr zD1:=zJk.ok
section
theorem Mz.log (h:Mz d seq st vo m es) (hE:∀ e∈es,EvC e st.Active) (h40:es.length<=40):eO d=some (⟨st.Active,st.Resets,es⟩,0):=by
 have hr0:=h.sst.r0;have hr1:=h.sst.r1;unfold eO;refine bd (h.toDv.read (a:=2) (by decide)) (cf rfl ?_);rw [h.lg];exact bd (zO3 ⟨st.Active,st.Resets,es⟩ ⟨⟨hE,h40⟩,h.sst.a0,h.sst.a3,hr0,by show st.Resets<=1099511627776;omega⟩) rfl
theorem Dv.run_good (h:Dv d seq st vo m) (hs:vo.Started=false) (hp:vo.Stopped=false) (hR:st.Resets+1<2 ^ 30) (hq:seq+1<2 ^ 29) (hm:m+60<2 ^ 50) (hc:nT l) (hA:d.Disk.Areas.getD (3+kC d) []=jA l) :
  ∃ d' seq' vo' m',uX d=some (d',0)/\Mz d' seq' (stS st) vo' m' (evs l st.Active)/\seq'<=seq+1/\m'<=m+43/\∀ a,3<=a->d'.Disk.Areas.getD a []=d.Disk.Areas.getD a []:=by
 have hl:=aG hc.ok;have h1:=h.sst.a0;have h3:=h.sst.a3;obtain ⟨d',seq',vo',m',e,hz,r⟩:=h.run hs hp hR hq hm (ch:=l) (c:=0) (pe:=evs l st.Active) (by rw [hA,zAo];omega) (by rw [hA];exact zLg hc.ok) (zMy l st.Active hc h1 h3) (zJp l st.Active hc).2 (zJm h1 h3 hc) zQ1;exact ⟨d',seq',vo',m',e,hz,r⟩
theorem Dv.run_none (h:Dv d seq st vo m) (hs:vo.Started=false) (hp:vo.Stopped=false) (hR:st.Resets+1<2 ^ 30) (hq:seq+1<2 ^ 29) (hm:m+60<2 ^ 50) (hA:d.Disk.Areas.getD (3+kC d) []=[]) :
  ∃ d' seq' vo' m',uX d=some (d',50)/\Mz d' seq' (stS st) vo' m' [zTn st.Active]:=by
 obtain ⟨d',seq',vo',m',e,hz,_⟩:=h.run hs hp hR hq hm (ch:=[]) (c:=30) (pe:=[]) (by rw [hA];decide) (by rw [hA];exact zMb) (zKl _) (by decide) (by simp) (by simp);exact ⟨d',seq',vo',m',e,hz⟩
theorem ev10:(evs zD1 2).length=10:=by decide +kernel
theorem zQ9:fC=some true:=by
 obtain ⟨⟨x,ok⟩,em,hok,st,hv,ha,hr0,h3,h4,h5⟩:=zKh [] 2 (by decide) (by decide) zWo;simp only at hok hv h3 h4 h5;subst hok;have hsl:kC x=0:=by unfold kC;rw [h5];rfl
 obtain ⟨d1,seq1,vo1,m1,e1,hz1,_⟩:=hv.run_good rfl rfl (by rw [hr0];decide) (by decide) (by decide) zJk (by rw [hsl];exact h3);have hact1:(stS st).Active=2:=ha;have hlog1:=hz1.log (by rw [ha];exact λe he=>by rw [hact1];exact zJm (by decide) (by decide) zJk e he) (by rw [ha];exact (zJp zD1 2 zJk).2);rw [ha] at hlog1;obtain ⟨⟨y,c⟩,ef,hc0,⟨d0,hd⟩,st2,hp2,hv2,ha2,hr2,hz2⟩:=zIq (List.replicate 32 0) 2 (by simp) (by decide) (by decide);simp only at hc0 hd hp2 hv2 hz2;subst hc0;subst hd;have hv2':=hv2 0 (by decide);have hA2:∀ a,2<=a->(onD (zEx d0) 1 st2).Disk.Areas.getD a []=[]:=hz2;obtain ⟨d2,seq2,vo2,m2,e2,hzb⟩:=hv2'.run_none rfl rfl (by rw [hr2];decide) (by decide) (by decide) (hA2 _ (by omega));have hact2:(stS st2).Active=2:=ha2;have hlog2:=hzb.log (λe he=>by rw [List.mem_singleton.1 he,hact2,ha2];exact zNw (by decide) (by decide)) (by simp);unfold fC;refine bd zRu (bd em (cf rfl ?_));refine bd e1 (bd hlog1 ?_);refine bd (a:=32) rfl ?_;refine bd ef ?_;refine bd (a:=(onD (zEx d0) 1 st2,0)) hp2 ?_;refine bd e2 (bd hlog2 ?_);refine bd (a:=true) ?_ rfl;refine ct rfl (ct rfl (ct ?_ (ct rfl (ct rfl (ct rfl (ct rfl (ct rfl ?_)))))))
 ·show (((evs zD1 2).length:Int)==10)=true;rw [ev10];rfl
 ·exact bd (a:=zTn st2.Active) rfl rfl
end
set_option maxRecDepth 100000
theorem zH4 (a:List α) (f:α->α->Option Bool) (step:Int->Option (Int ⊕ (Bool ⊕ Unit))) (ha:a.length<2 ^ 40)
  (hs:∀ (i:Nat) (h:i<a.length),step (i:Int)=(f a[i] a[i]).bind λv=>bif !v then (some (.inr (.inl false))) else some (.inl (IntKind.i64.wrap ((i:Int)+1)))) (he:step (a.length:Int)=some (.inr (.inr ())))
  (hf:∀ x∈a,f x x=some true):zL step FU 0=some (.inr ()):=by
 refine yG a.length (λi=>(i:Int)) rfl (λi hi=>?_) he (xO (by omega));rw [hs i hi];refine bd (hf _ (List.getElem_mem _)) (cf rfl ?_);rw [yP (by omega) (by omega)];rfl
set_option maxRecDepth 100000
theorem zSn (h:zEu active r) (a:Nat) (ha:a<2) (i:Nat) (hi:i<12) :
  (xF active (a:Int)=true->∃ x,mN r (a:Int) (i:Int)=some (x,0)/\x=(r.Banks.getD a []).getD i []/\x.length<=32)/\(xF active (a:Int)=false->mN r (a:Int) (i:Int)=some ([],27)):=by
 obtain ⟨bk,u⟩:=r;obtain ⟨b0,b1,hB,l0,l1,h0,h1⟩:=h.b;simp only at hB;subst hB;have hg:∀ a:Nat,a<2->(bif decide ((a:Int)<0) then some true else bif decide ((2:Int)<=a) then some true else bif decide ((i:Int)<0) then some true else some (decide ((16:Int)<=i)):Option Bool)=some false:=λa ha=>
  cf (decide_eq_false (by omega)) (cf (decide_eq_false (by omega)) (cf (decide_eq_false (by omega)) (congrArg some (decide_eq_false (by omega)))))
 unfold mN;rcases (show a=0∨a=1 by omega) with rfl | rfl
 ·constructor
  ·intro hb;have hb:xF active 0=true:=hb;rw [hb] at l0;have l0:b0.length=16:=l0;have hx:b0[i]∈b0:=List.getElem_mem _;refine ⟨b0[i],?_,by simp [List.getD,show i<b0.length by omega],h0 _ hx⟩;refine bd (hg 0 ha) (cf rfl ?_);refine bd (zDs b0 b1 u).1 (cf (by rw [l0];rfl) ?_);refine bd (a:=b0) rfl (bd (yN (by omega)) (bd (zFa _ (by have:=h0 _ hx;omega)) rfl))
  ·intro hb;have hb:xF active 0=false:=hb;rw [hb] at l0;have l0:b0.length=0:=l0;refine bd (hg 0 ha) (cf rfl ?_);exact bd (zDs b0 b1 u).1 (ct (by rw [l0];rfl) rfl)
 ·constructor
  ·intro hb;have hb:xF active 1=true:=hb;rw [hb] at l1;have l1:b1.length=16:=l1;have hx:b1[i]∈b1:=List.getElem_mem _;refine ⟨b1[i],?_,by simp [List.getD,show i<b1.length by omega],h1 _ hx⟩;refine bd (hg 1 ha) (cf rfl ?_);refine bd (zDs b0 b1 u).2 (cf (by rw [l1];rfl) ?_);refine bd (a:=b1) rfl (bd (yN (by omega)) (bd (zFa _ (by have:=h1 _ hx;omega)) rfl))
  ·intro hb;have hb:xF active 1=false:=hb;rw [hb] at l1;have l1:b1.length=0:=l1;refine bd (hg 1 ha) (cf rfl ?_);exact bd (zDs b0 b1 u).2 (ct (by rw [l1];rfl) rfl)
theorem zLz (h:zEu active r) (a:Nat) (ha:a<2):zL (rL r r active (a:Int)) FU 0=some (.inr ()):=by
 cases hb:xF active (a:Int) with
 | false=>
  refine uS ?_;unfold rL;exact bd (a:=false) (ct rfl (congrArg some hb)) (cf rfl rfl)
 | true=>
  refine yG 12 (λi=>(i:Int)) rfl (λi hi=>?_) ?_ (xO (by omega))
  ·obtain ⟨x,hv,_,hx⟩:=(zSn h a ha i hi).1 hb;unfold rL;refine bd (a:=true) (ct (decide_eq_true (by omega)) (congrArg some hb)) (ct rfl ?_);refine bd hv (bd hv ?_);refine bd (a:=false) (cf rfl (cf rfl (bd (zGl x x (by omega)) (by simp)))) (cf rfl ?_);rw [yP (by omega) (by omega)];rfl
  ·unfold rL;exact bd (a:=false) (cf rfl rfl) (cf rfl rfl)
theorem zKk (h:zEu active r):jP r r active=some true:=by
 unfold jP;refine bd (a:=.inr ()) (yG 2 (λi=>(i:Int)) rfl (λi hi=>?_) ?_ (xO (by omega))) rfl
 ·unfold kW;refine ct (decide_eq_true (by omega)) (bd (zLz h i hi) ?_);show (some (.inl (IntKind.i64.wrap ((i:Int)+1))):Option (Int ⊕ (Bool ⊕ Unit)))=_;rw [yP (by omega) (by omega)];rfl
 ·unfold kW;exact cf rfl rfl
theorem zM0 (hc:nT l) (h1:1<=active) (h3:active<=3):lS l active=some (rpl active (evs l active),0):=by
 have hle:=zJp l active hc;obtain ⟨⟨r,e⟩,er,hr,he⟩:=zM9 ⟨active,0,evs l active⟩ (by show (evs l active).length<2 ^ 20;omega) h1 h3;have he:e=0:=he (zJm h1 h3 hc);subst he;have hr:r=rpl active (evs l active):=hr rfl;subst hr;unfold lS;refine bd (zBt l hc) (cf rfl ?_);refine bd (a:=false) (cf (decide_eq_false (by omega)) (congrArg some (decide_eq_false (by omega)))) (cf rfl ?_);refine bd (zIb l active hc h1 h3) ?_;exact bd er rfl
theorem zNb (a:List By) (ha:a.length<2 ^ 40) (hf:∀ x∈a,x.length<2 ^ 40):cC a a=some true:=by
 unfold cC;refine cf (by simp) ?_;refine bd (zH4 a mQ (lG a a) ha (λi hi=>?_) ?_ (λx hx=>?_)) rfl
 ·unfold lG;exact ct (decide_eq_true (by omega)) (bd (yN hi) (bd (yN hi) rfl))
 ·unfold lG;exact cf (decide_eq_false (by omega)) rfl
 ·rw [zGl x x (hf x hx)];simp
theorem zFr (h:EvC e active):rI e e=some true:=by
 have hl:=h.l;have hd:=h.d;have hq:∀ x∈e.Digests,x.length<2 ^ 40:=by
  intro x hx;have f0:=kQ h.f0;have f1:=kQ h.f1
  match hd:e.Digests,hl with
  | [a,b],_=>
   rw [hd] at hx f0 f1;have f0:a.length<=32:=f0;have f1:b.length<=32:=f1;simp only [List.mem_cons,List.not_mem_nil,or_false] at hx;rcases hx with rfl | rfl<;>omega
 unfold rI;refine bd (a:=true) (ct (by simp) (ct (by simp) (bd (zNb e.Digests (by omega) hq) (ct rfl (bd (zGl e.Data e.Data (by omega)) (by simp)))))) rfl
theorem zEp (h:∀ e∈es,EvC e active) (hn:es.length<=40):qW es es=some true:=by
 unfold qW;refine cf (by simp) ?_;refine bd (zH4 es rI (tZ es es) (by omega) (λi hi=>?_) ?_ (λx hx=>zFr (h x hx))) rfl
 ·unfold tZ;exact ct (decide_eq_true (by omega)) (bd (yN hi) (bd (yN hi) rfl))
 ·unfold tZ;exact cf (decide_eq_false (by omega)) rfl
section
theorem Mz.started (h:Mz d seq st vo m (evs l st.Active)) (hc:nT l):lE d l st.Active=some true:=by
 have h1:=h.sst.a0;have h3:=h.sst.a3;have hok:=zJm h1 h3 hc;have hn:=(zJp l st.Active hc).2;have hs:d.State.Stable=st:=by rw [h.s]
 have hr:d.State.Volatile.Registers=rpl st.Active (evs l st.Active):=by rw [h.s];exact h.v2
 unfold lE;refine bd (zM0 hc h1 h3) ?_;refine bd (h.log hok hn) ?_;refine bd (a:=true) ?_ rfl;refine ct rfl (ct rfl (ct h.on (ct (by rw [hs,h.sst.st];rfl) (ct (by simp) (ct (by rw [hs];simp) ?_)))));refine bd (zIb l st.Active hc h1 h3) (bd (zEp hok hn) (ct rfl ?_));rw [hr];exact bd (zKk (zM7 _ _ h1 h3)) rfl
theorem zJ0 (entropy codes:By) (active times:Int):eA entropy codes active times=some true:=by
 obtain ⟨ac,ea,ha1,ha3⟩:=zMo active;obtain ⟨l,el,hl⟩:=zPe codes;obtain ⟨⟨x,ok⟩,em,hok,st,hv,ha,hr0,h3,h4,h5⟩:=zKh entropy ac ha1 ha3 hl.ok;simp only at hok hv h3 h4 h5;subst hok;obtain ⟨tv,et,ht0,ht3⟩:=zN6 times 3 (by decide) (by decide);have hloop:Def (zL (lC times ac l) FU (0,x)) (λr=>∃ d,r=.inr d):=by
  refine Def.loop (λs=>∃ (k:Nat) (seq:Nat) (st:zR),s.1=(k:Int)/\k<=3/\Dv s.2 seq st zOy 2/\st.Active=ac/\st.Resets=(k:Int)/\seq<=1+k/\s.2.Disk.Areas.getD 3 []=jA l/\s.2.Disk.Areas.getD 5 []=[0]) (λs=>4 - s.1.toNat) ?_ ⟨0,1,st,rfl,by decide,hv,ha,hr0,by decide,h3,h5⟩ (show 4 - (0:Int).toNat<2 ^ 64 by decide);rintro ⟨n,d⟩ ⟨k,seq,st,rfl,hk,hv,ha,hr,hq,h3,h5⟩;simp only at hv h3 h5;unfold lC;refine db et ?_;by_cases hkv:(k:Int)<=tv
  ·have hsl:kC d=0:=by unfold kC;rw [h5];rfl
   obtain ⟨d1,seq1,vo1,m1,e1,hz,hq1,hm1,hA⟩:=hv.run_good rfl rfl (by omega) (by omega) (by decide) hl (by rw [hsl];exact h3);have hact:(stS st).Active=st.Active:=rfl;have hst:=hz.started (l:=l) hl;rw [hact,ha] at hst;have hR1:d1.State.Stable.Resets=st.Resets+1:=by rw [hz.s];rfl
   have hR0:d.State.Stable.Resets=st.Resets:=by rw [hv.s]
   obtain ⟨d2,e2⟩:=hz.toDv.rerun hz.v1;obtain ⟨hag,hdv⟩:=hz.toDv.toDk.again;refine dct (decide_eq_true hkv) ?_;refine db e1 ?_;refine db (a:=false) (cf rfl (bd hst (cf rfl (congrArg some ?_)))) (dcf rfl ?_)
   ·rw [hR1,hR0,yP (by omega) (by omega)];simp
   refine db e2 (dcf rfl ?_);refine db hag (dcf rfl ?_);refine Def.s ⟨⟨k+1,seq1,stS st,?_,by omega,hdv 2 (by decide),ha,?_,by omega,?_,?_⟩,?_⟩
   ·show IntKind.i64.wrap ((k:Int)+1)=_;rw [yP (by omega) (by omega)];rfl
   ·show st.Resets+1=_;rw [hr];rfl
   ·show d1.Disk.Areas.getD 3 []=_;rw [hA 3 (by decide)];exact h3
   ·show d1.Disk.Areas.getD 5 []=_;rw [hA 5 (by decide)];exact h5
   ·show 4 - (IntKind.i64.wrap ((k:Int)+1)).toNat<4 - (k:Int).toNat;rw [yP (by omega) (by omega)];omega
  ·exact dcf (decide_eq_false hkv) (Def.s ⟨d,rfl⟩)
 obtain ⟨_,elp,d,rfl⟩:=hloop;unfold eA;refine bd zQ9 (cf rfl ?_);refine bd ea (bd el (bd em (cf rfl ?_)));refine bd elp ?_;refine bd (zEc d) ?_;exact bd (zTy (d:=zEx d) rfl) rfl
end
end Go.Proofs.TT
