/- UpdateDecode holds for all inputs -/
import Derived.Test.YtegimnpiojonmaaGreatDoorBZ18
set_option linter.all false
open List renaming length_append -> Q0, append_assoc -> Q1, length_cons -> Q2, append_nil -> Q3, flatMap_cons -> Q4, length_nil -> Q5
namespace Go.Proofs.TT
open Go Go.Sw
set_option maxRecDepth 100000
variable {k:zS}{p:zI}
def oR (L:List (List zC)):By:=L.flatMap λc=>bl (kP c)
def eB (k:zS):By:=beN k.Epoch 8 8++(beN (k.Chains.length:Int) 1 1++(oR k.Chains++(bl (zB3 k.Public)++(bl k.Private++[]))))
structure KOk (k:zS):Prop where
 e0:0<=k.Epoch
 e1:k.Epoch<1099511627776
 n:k.Chains.length=1∨k.Chains.length=2
 c:∀ c∈k.Chains,zB0 c
 p:wT k.Public=some 0
 k0:0<=k.Public.Kind/\k.Public.Kind<256
 k1:0<=k.Public.Attr/\k.Public.Attr<256
 k2:0<=k.Public.Height/\k.Public.Height<256
 pl:k.Public.Policy.length<=32
 ul:k.Public.Unique.length<=32
 v:k.Private.length<=1024
theorem zHs (p:zI) (h:p.Policy.length<=32) (h2:p.Unique.length<=32):zB3 p=u8 p.Kind :: u8 p.Attr :: u8 p.Height :: (bl p.Policy++(bl p.Unique++[])):=by
 unfold zB3;rw [zAa _ (by omega),zAa _ (by omega),Q3,Q1];rfl
theorem zAh (h:p.Policy.length<=32) (h2:p.Unique.length<=32):(zB3 p).length<=71:=by
 rw [zHs p h h2];simp only [Q2,Q0,Q5,cS];omega
theorem zI2:∀ (L:List (List zC)),(∀ c∈L,zB0 c)->(oR L).length<=699*L.length
 | [],_=>by simp [oR]
 | c :: L,h=>by
  have:=zI2 L λx hx=>h x (by simp [hx]);have h1:=dB (h c (by simp));unfold oR at this ⊢;rw [Q4,Q0,cS,Q2];omega
theorem zMv (h:KOk k):9<=(eB k).length/\(eB k).length<=3000:=by
 have h1:=zI2 k.Chains h.c;have h2:=zAh h.pl h.ul;have:=h.v;have:=h.n;unfold eB;simp only [Q0,tG,cS,Q5];omega
theorem zS8 (h:KOk k):vN k=some (eB k):=by
 have e0:=h.e0;have e1:=h.e1;have hv:=h.v;have hL:=zI2 k.Chains h.c;have hn:k.Chains.length<=2:=by have:=h.n;omega
 have hP:=zAh h.pl h.ul;unfold vN;have w:(wT k.Public).bind (λv=>bif (v != 0) then some true else some (decide (1024<(k.Private.length:Int))))=some false:=
  bd h.p (cf rfl (congrArg some (decide_eq_false (by omega))))
 refine bd (a:=false) (cf (decide_eq_false (by omega)) (cf (decide_eq_false (by omega)) ?_)) (cf rfl ?_)
 ·rcases h.n with hn | hn
  ·rw [hn];exact cf rfl w
  ·rw [hn];exact ct rfl (cf rfl w)
 ·refine bd (wU [] 8 _ (by omega) (by omega) (by simp)) (bd (wU _ 1 _ (by omega) (by omega) (by simp [tG])) ?_);refine bd (a:=.inr (beN k.Epoch 8 8++(beN (k.Chains.length:Int) 1 1++oR k.Chains))) ?_ ?_
  ·refine vF k.Chains.length (λi=>(beN k.Epoch 8 8++(beN (k.Chains.length:Int) 1 1++oR (k.Chains.take i)),(i:Int))) (by simp [oR]) (λi hi=>?_) ?_ (sT (by omega))
   ·have hc:=h.c _ (List.getElem_mem hi);have hl:=dB hc;have hT:=zI2 (k.Chains.take i) λc hc=>h.c c (List.mem_of_mem_take hc);rw [List.length_take] at hT;have hb:(beN k.Epoch 8 8++(beN (k.Chains.length:Int) 1 1++oR (k.Chains.take i))).length<2 ^ 30:=by
     simp only [Q0,tG];omega
    unfold xC;refine ct (by simp;omega) (bd (xO hi) (bd hc.p (cf rfl (bd (zZn hc) (bd (wBl _ _ hb (by omega)) ?_)))));rw [uU (by omega)];have ht:oR (k.Chains.take (i+1))=oR (k.Chains.take i)++bl (kP k.Chains[i]):=by
     unfold oR;rw [List.take_add_one,List.getElem?_eq_getElem hi,List.flatMap_append];simp
    rw [ht];simp only [Q1]
   ·unfold xC;refine cf (by simp) ?_;rw [List.take_length]
  ·have hb:(beN k.Epoch 8 8++(beN (k.Chains.length:Int) 1 1++oR k.Chains)).length<=2000:=by
    simp only [Q0,tG];omega
   refine bd (zUc _) (bd (wBl _ _ (by omega) (by omega)) (bd (wBl _ _ (by rw [Q0,cS];omega) (by omega)) ?_));unfold eB;simp only [Q1,Q3]
theorem yB3 (h:wT p=some 0) (k0:0<=p.Kind/\p.Kind<256) (k1:0<=p.Attr/\p.Attr<256) (k2:0<=p.Height/\p.Height<256) (hp:p.Policy.length<=32) (hu:p.Unique.length<=32):sL (zB3 p)=some (p,0):=by
 have hl:=zAh hp hu;unfold sL;obtain ⟨r,g,e⟩:=zT6 (zB3 p) (by omega);refine bd e ?_;rw [zHs p hp hu] at g;obtain ⟨r1,g,e⟩:=zZ3 g k0.1 k0.2;refine bd e ?_;obtain ⟨r2,g,e⟩:=zZ3 g k1.1 k1.2;refine bd e ?_;obtain ⟨r3,g,e⟩:=zZ3 g k2.1 k2.2;refine bd e ?_;obtain ⟨r4,g,e⟩:=zRv (k:=32) g (by omega) hp;refine bd e ?_;obtain ⟨r5,g,e⟩:=zRv (k:=32) g (by omega) hu;refine bd e ?_;exact bd (rdE g) (cf rfl (bd h (cf rfl rfl)))
theorem zUg (b:By) (hb:b.length<2 ^ 30) (rest:By):∀ (m:List (List zC)) (l:List (List zC)) (r:RS) (fuel:Nat),m.length<fuel->(∀ x∈m,zB0 x)->l.length+m.length<=8->(∀ x∈m,(kP x).length<=b.length)->Rd r (oR m++rest) ->
  ∃ r',Rd r' rest/\zT (uT b) fuel ((m.length:Int),l,r.W.b_,r.W.at_,r.W.e_)=some (.inr (l++m,r'.W.b_,r'.W.at_,r'.W.e_))
 | [],l,r,f+1,_,_,_,_,g=>by
  refine ⟨r,g,?_⟩;simp only [zT];have:uT b ((([]:List (List zC)).length:Int),l,r.W.b_,r.W.at_,r.W.e_)=some (.inr (.inr (l,r.W.b_,r.W.at_,r.W.e_))):=by
   unfold uT;exact bd (cf rfl rfl) (cf rfl rfl)
  rw [this,Q3]
 | x :: m,l,r,f+1,hf,hm,h8,hb2,g=>by
  have hx:=hm x (by simp);have hle:=dB hx;simp only [Q2] at hf h8;have g':Rd r (bl (kP x)++(oR m++rest)):=g.cast (by simp [oR]);obtain ⟨r1,g1,e1⟩:=zRv (k:=b.length) g' (by omega) (hb2 x (by simp));obtain ⟨r2,g2,e2⟩:=zUg b hb rest m (l++[x]) r1 f (by omega) (λy hy=>hm y (by simp [hy])) (by simp;omega) (λy hy=>hb2 y (by simp [hy])) g1;refine ⟨r2,g2,?_⟩;simp only [zT];have:uT b (((x :: m).length:Int),l,r.W.b_,r.W.at_,r.W.e_)=some (.inl ((m.length:Int),l++[x],r1.W.b_,r1.W.at_,r1.W.e_)):=by
   unfold uT;refine bd (a:=(true,r.W.b_,r.W.at_,r.W.e_)) (ct (by simp) (bd (rdEr g) rfl)) (ct rfl ?_);refine bd e1 (bd (yEe hx) (cf rfl (bd (xZ (by simp;omega)) ?_)));rw [Q2,xU (by omega) (by omega),show (((m.length+1:Nat):Int) - 1)=(m.length:Int) by omega]
  rw [this];simp only;rw [e2,Q1];rfl
theorem zYo {L:List (List zC)}:∀ c∈L,(kP c).length<=(oR L).length:=by
 intro c hc;induction L with
 | nil=>cases hc
 | cons x L ih=>
  unfold oR at ih ⊢;rw [Q4,Q0,cS];rcases List.mem_cons.1 hc with rfl | h
  ·omega
  ·have:=ih h;omega
theorem zWe (h:KOk k):vV (eB k)=some (k,0):=by
 have hl:=zMv h;have e0:=h.e0;have e1:=h.e1;have hn:=h.n;have hP:=zAh h.pl h.ul;have hb:∀ x∈k.Chains,(kP x).length<=(eB k).length:=λx hx=>by
  have:=zYo x hx;unfold eB;simp only [Q0];omega
 have hpb:(zB3 k.Public).length<=(eB k).length:=by
  unfold eB;simp only [Q0,cS];omega
 unfold vV;obtain ⟨r,g,e⟩:=zT6 (eB k) (by omega);refine bd e ?_;obtain ⟨r1,g,e⟩:=rdU (k:=8) (n:=k.Epoch) (rest:=beN (k.Chains.length:Int) 1 1++(oR k.Chains++(bl (zB3 k.Public)++(bl k.Private++[])))) g (by omega) (by omega) e0 (by omega) (by omega);refine bd e ?_;obtain ⟨r2,g,e⟩:=rdU (k:=1) g (by omega) (by omega) (by omega) (by omega) (by omega);refine bd e ?_;obtain ⟨r3,g,e3⟩:=zUg (eB k) (by omega) _ k.Chains [] r2 FU (sT (by omega)) h.c (by simp;omega) hb g;refine bd e3 ?_;obtain ⟨r4,g,e⟩:=zRv (k:=(eB k).length) g (by omega) hpb;refine bd e (bd (yB3 h.p h.k0 h.k1 h.k2 h.pl h.ul) ?_);obtain ⟨r5,g,e⟩:=zRv (k:=1024) g (by have:=h.v;omega) h.v;refine bd e ?_;refine bd (a:=false) (cf rfl (bd (rdE g) (cf rfl (bd (zS8 h) ?_)))) (cf rfl rfl);have hz:(((eB k).length:Int)==0)=false:=by rw [beq_eq_false_iff_ne];omega
 exact congrArg some hz
end Go.Proofs.TT
