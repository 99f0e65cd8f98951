/- UpdateCodec holds for all inputs: part -/
import Derived.Test.YtlfmgnodhnccoaaGreatDoorBZ18
set_option linter.all false
open List renaming length_append -> Q0, append_assoc -> Q1, length_cons -> Q2, append_nil -> Q3, flatMap_cons -> Q4, length_nil -> Q5
namespace Go.Proofs.TT
open Go Go.Sw
set_option maxRecDepth 100000
variable {k:api_Kept}{p:api_Public}
def zAq (L:List (List api_Image)):By:=L.flatMap λc=>bl (bE c)
def zEr (k:api_Kept):By:=beN k.Epoch 8 8++(beN (k.Chains.length:Int) 1 1++(zAq k.Chains++(bl (zIl k.Public)++(bl k.Private++[]))))
structure KOk (k:api_Kept):Prop where
 e0:0<=k.Epoch
 e1:k.Epoch<1099511627776
 n:k.Chains.length=1∨k.Chains.length=2
 c:∀ c∈k.Chains,zNm c
 p:vY k.Public=some 0
 k0:0<=k.Public.Kind/\k.Public.Kind<256
 k1:0<=k.Public.Attr/\k.Public.Attr<256
 k2:0<=k.Public.Height/\k.Public.Height<256
 pl:k.Public.Policy.length<=32
 ul:k.Public.Unique.length<=32
 v:k.Private.length<=1024
theorem zSv (p:api_Public) (h:p.Policy.length<=32) (h2:p.Unique.length<=32):zIl p=u8 p.Kind :: u8 p.Attr :: u8 p.Height :: (bl p.Policy++(bl p.Unique++[])):=by
 unfold zIl;rw [cZ _ (by omega),cZ _ (by omega),Q3,Q1];rfl
theorem zGv (h:p.Policy.length<=32) (h2:p.Unique.length<=32):(zIl p).length<=71:=by
 rw [zSv p h h2];simp only [Q2,Q0,Q5,dP];omega
theorem zFt:∀ (L:List (List api_Image)),(∀ c∈L,zNm c)->(zAq L).length<=699*L.length
 | [],_=>by simp [zAq]
 | c :: L,h=>by
  have:=zFt L λx hx=>h x (by simp [hx]);have h1:=zBx (h c (by simp));unfold zAq at this ⊢;rw [Q4,Q0,dP,Q2];omega
theorem zQ8 (h:KOk k):9<=(zEr k).length/\(zEr k).length<=3000:=by
 have h1:=zFt k.Chains h.c;have h2:=zGv h.pl h.ul;have:=h.v;have:=h.n;unfold zEr;simp only [Q0,tL,dP,Q5];omega
theorem zR7 (h:KOk k):wX k=some (zEr k):=by
 have e0:=h.e0;have e1:=h.e1;have hv:=h.v;have hL:=zFt k.Chains h.c;have hn:k.Chains.length<=2:=by have:=h.n;omega
 have hP:=zGv h.pl h.ul;unfold wX;have w:(vY k.Public).bind (λv=>bif (v != 0) then some true else some (decide (1024<(k.Private.length:Int))))=some false:=
  bd h.p (cf rfl (congrArg some (decide_eq_false (by omega))))
 refine bd (a:=false) (cf (decide_eq_false (by omega)) (cf (decide_eq_false (by omega)) ?_)) (cf rfl ?_)
 ·rcases h.n with hn | hn
  ·rw [hn];exact cf rfl w
  ·rw [hn];exact ct rfl (cf rfl w)
 ·refine bd (wU [] 8 _ (by omega) (by omega) (by simp)) (bd (wU _ 1 _ (by omega) (by omega) (by simp [tL])) ?_);refine bd (a:=.inr (beN k.Epoch 8 8++(beN (k.Chains.length:Int) 1 1++zAq k.Chains))) ?_ ?_
  ·refine vG k.Chains.length (λi=>(beN k.Epoch 8 8++(beN (k.Chains.length:Int) 1 1++zAq (k.Chains.take i)),(i:Int))) (by simp [zAq]) (λi hi=>?_) ?_ (rS (by omega))
   ·have hc:=h.c _ (List.getElem_mem hi);have hl:=zBx hc;have hT:=zFt (k.Chains.take i) λc hc=>h.c c (List.mem_of_mem_take hc);rw [List.length_take] at hT;have hb:(beN k.Epoch 8 8++(beN (k.Chains.length:Int) 1 1++zAq (k.Chains.take i))).length<2 ^ 30:=by
     simp only [Q0,tL];omega
    unfold xB;refine ct (by simp;omega) (bd (xK hi) (bd hc.p (cf rfl (bd (zYc hc) (bd (wBl _ _ hb (by omega)) ?_)))));rw [sD (by omega)];have ht:zAq (k.Chains.take (i+1))=zAq (k.Chains.take i)++bl (bE k.Chains[i]):=by
     unfold zAq;rw [List.take_add_one,List.getElem?_eq_getElem hi,List.flatMap_append];simp
    rw [ht];simp only [Q1]
   ·unfold xB;refine cf (by simp) ?_;rw [List.take_length]
  ·have hb:(beN k.Epoch 8 8++(beN (k.Chains.length:Int) 1 1++zAq k.Chains)).length<=2000:=by
    simp only [Q0,tL];omega
   refine bd (zSj _) (bd (wBl _ _ (by omega) (by omega)) (bd (wBl _ _ (by rw [Q0,dP];omega) (by omega)) ?_));unfold zEr;simp only [Q1,Q3]
theorem zZm (h:vY p=some 0) (k0:0<=p.Kind/\p.Kind<256) (k1:0<=p.Attr/\p.Attr<256) (k2:0<=p.Height/\p.Height<256) (hp:p.Policy.length<=32) (hu:p.Unique.length<=32):qM (zIl p)=some (p,0):=by
 have hl:=zGv hp hu;unfold qM;obtain ⟨r,g,e⟩:=zSm (zIl p) (by omega);refine bd e ?_;rw [zSv p hp hu] at g;obtain ⟨r1,g,e⟩:=yAn g k0.1 k0.2;refine bd e ?_;obtain ⟨r2,g,e⟩:=yAn g k1.1 k1.2;refine bd e ?_;obtain ⟨r3,g,e⟩:=yAn g k2.1 k2.2;refine bd e ?_;obtain ⟨r4,g,e⟩:=zRb (k:=32) g (by omega) hp;refine bd e ?_;obtain ⟨r5,g,e⟩:=zRb (k:=32) g (by omega) hu;refine bd e ?_;exact bd (rdE g) (cf rfl (bd h (cf rfl rfl)))
theorem zSl (b:By) (hb:b.length<2 ^ 30) (rest:By):∀ (m:List (List api_Image)) (l:List (List api_Image)) (r:RS) (fuel:Nat),m.length<fuel->(∀ x∈m,zNm x)->l.length+m.length<=8->(∀ x∈m,(bE x).length<=b.length)->Rd r (zAq m++rest) ->
  ∃ r',Rd r' rest/\zR (uQ b) fuel ((m.length:Int),l,r.W.b_,r.W.at_,r.W.e_)=some (.inr (l++m,r'.W.b_,r'.W.at_,r'.W.e_))
 | [],l,r,f+1,_,_,_,_,g=>by
  refine ⟨r,g,?_⟩;simp only [zR];have:uQ b ((([]:List (List api_Image)).length:Int),l,r.W.b_,r.W.at_,r.W.e_)=some (.inr (.inr (l,r.W.b_,r.W.at_,r.W.e_))):=by
   unfold uQ;exact bd (cf rfl rfl) (cf rfl rfl)
  rw [this,Q3]
 | x :: m,l,r,f+1,hf,hm,h8,hb2,g=>by
  have hx:=hm x (by simp);have hle:=zBx hx;simp only [Q2] at hf h8;have g':Rd r (bl (bE x)++(zAq m++rest)):=g.cast (by simp [zAq]);obtain ⟨r1,g1,e1⟩:=zRb (k:=b.length) g' (by omega) (hb2 x (by simp));obtain ⟨r2,g2,e2⟩:=zSl b hb rest m (l++[x]) r1 f (by omega) (λy hy=>hm y (by simp [hy])) (by simp;omega) (λy hy=>hb2 y (by simp [hy])) g1;refine ⟨r2,g2,?_⟩;simp only [zR];have:uQ b (((x :: m).length:Int),l,r.W.b_,r.W.at_,r.W.e_)=some (.inl ((m.length:Int),l++[x],r1.W.b_,r1.W.at_,r1.W.e_)):=by
   unfold uQ;refine bd (a:=(true,r.W.b_,r.W.at_,r.W.e_)) (ct (by simp) (bd (rdEr g) rfl)) (ct rfl ?_);refine bd e1 (bd (yCn hx) (cf rfl (bd (wM (by simp;omega)) ?_)));rw [Q2,xZ (by omega) (by omega),show (((m.length+1:Nat):Int) - 1)=(m.length:Int) by omega]
  rw [this];simp only;rw [e2,Q1];rfl
theorem zXo {L:List (List api_Image)}:∀ c∈L,(bE c).length<=(zAq L).length:=by
 intro c hc;induction L with
 | nil=>cases hc
 | cons x L ih=>
  unfold zAq at ih ⊢;rw [Q4,Q0,dP];rcases List.mem_cons.1 hc with rfl | h
  ·omega
  ·have:=ih h;omega
theorem yA9 (h:KOk k):oL (zEr k)=some (k,0):=by
 have hl:=zQ8 h;have e0:=h.e0;have e1:=h.e1;have hn:=h.n;have hP:=zGv h.pl h.ul;have hb:∀ x∈k.Chains,(bE x).length<=(zEr k).length:=λx hx=>by
  have:=zXo x hx;unfold zEr;simp only [Q0];omega
 have hpb:(zIl k.Public).length<=(zEr k).length:=by
  unfold zEr;simp only [Q0,dP];omega
 unfold oL;obtain ⟨r,g,e⟩:=zSm (zEr k) (by omega);refine bd e ?_;obtain ⟨r1,g,e⟩:=rdU (k:=8) (n:=k.Epoch) (rest:=beN (k.Chains.length:Int) 1 1++(zAq k.Chains++(bl (zIl k.Public)++(bl k.Private++[])))) g (by omega) (by omega) e0 (by omega) (by omega);refine bd e ?_;obtain ⟨r2,g,e⟩:=rdU (k:=1) g (by omega) (by omega) (by omega) (by omega) (by omega);refine bd e ?_;obtain ⟨r3,g,e3⟩:=zSl (zEr k) (by omega) _ k.Chains [] r2 FU (rS (by omega)) h.c (by simp;omega) hb g;refine bd e3 ?_;obtain ⟨r4,g,e⟩:=zRb (k:=(zEr k).length) g (by omega) hpb;refine bd e (bd (zZm h.p h.k0 h.k1 h.k2 h.pl h.ul) ?_);obtain ⟨r5,g,e⟩:=zRb (k:=1024) g (by have:=h.v;omega) h.v;refine bd e ?_;refine bd (a:=false) (cf rfl (bd (rdE g) (cf rfl (bd (zR7 h) ?_)))) (cf rfl rfl);have hz:(((zEr k).length:Int)==0)=false:=by rw [beq_eq_false_iff_ne];omega
 exact congrArg some hz
end Go.Proofs.TT
