/- UpdateCodec holds for all inputs: part -/
import Derived.Test.YtlfmgnodhnccoaaGreatDoorBZ20
import Derived.Test.YtlfmgnodhnccoaaGreatDoorBZ21
import Derived.Test.YtlfmgnodhnccoaaGreatDoorBZ22
import Derived.Test.YtlfmgnodhnccoaaGreatDoorBZ23
import Derived.Test.YtlfmgnodhnccoaaGreatDoorBZ24
import Derived.Test.YtlfmgnodhnccoaaGreatDoorBZ25
import Derived.Test.YtlfmgnodhnccoaaGreatDoorBZ26
import Derived.Test.YtlfmgnodhnccoaaGreatDoorBZ9
import Derived.Test.YtlfmgnodhnccoaaGreatDoorBZ19
set_option linter.all false
namespace Go.Proofs.TT
open Go Go.Sw
set_option maxRecDepth 1000000
theorem aw_7:eG M6=some (M7,[115],0):=by decide +kernel
theorem zRs:eQ=some true:=by
 unfold eQ;refine bd (show mkN 1 32=some 32 from rfl) ?_;refine bd aw_0.1 ?_;refine bd aw_1 ?_;refine bd aw_2 ?_;refine bd aw_3 ?_;refine bd aw_0.2 ?_;refine bd aw_4 ?_;refine bd aw_5 ?_;refine bd aw_6 ?_;exact bd aw_7 rfl
set_option maxRecDepth 100000
theorem zO5 (n m:Int) (h1:1<=m) (h2:m<=2 ^ 60):∃ r,fF n m=some r/\0<=r/\r<m:=by
 have a:=Int.tmod_lt_of_pos n (show 0<m by omega);have b:-m<Int.tmod n m:=by
  have:=Int.lt_tmod_of_pos n (show 0<m by omega);omega
 unfold fF;refine ⟨if Int.tmod n m<0 then Int.tmod n m+m else Int.tmod n m,cf (decide_eq_false (by omega)) (bd (a:=()) ?_ ?_),?_⟩
 ·have:(m==0)=false:=by rw [beq_eq_false_iff_ne];omega
  rw [this];rfl
 ·by_cases h:Int.tmod n m<0
  ·rw [if_pos h];exact bd (ct (decide_eq_true h) (by rw [xZ (by omega) (by omega)])) rfl
  ·rw [if_neg h];exact bd (cf (decide_eq_false h) rfl) rfl
 ·split<;>omega
theorem zSs (b:By):∃ r,bI b=some r/\r.length=32:=by
 have hl:(cpy (List.replicate 32 (0:UInt8)) b).length=32:=by
  unfold cpy;simp only [List.length_append,List.length_take,List.length_drop,List.length_replicate];omega
 refine ⟨cpy (List.replicate 32 (0:UInt8)) b,?_,hl⟩;unfold bI;refine bd (show mkN 1 32=some 32 from rfl) (bd (a:=()) (by simp [ck]) ?_);show (ck (Nat.beq (cpy (List.replicate 32 (0:UInt8)) b).length 32)).bind _=_;rw [hl];rfl
theorem yBf (b:By):∃ r,zGi b 200=some r/\r.length<=200:=by
 unfold zGi;by_cases h:200<b.length
 ·refine ⟨b.take 200,ct (decide_eq_true (by omega)) ?_,by rw [List.length_take];omega⟩;rw [show (0:Int)=((0:Nat):Int) from rfl,show (200:Int)=((200:Nat):Int) from rfl];exact bd (jC (by omega) (by omega)) (by simp)
 ·exact ⟨b,cf (decide_eq_false (by omega)) rfl,by omega⟩
theorem pub0 {pol un:By} (hp:pol.length=32) (hu:un.length=32):vY (api_Public.mk 3 0 0 pol un)=some 0:=by
 unfold vY oR;simp only [hp,hu];rfl
theorem zT4 (codes more:By) (epoch:Int) (two:Bool) (priv:By):∃ k,jY codes more epoch two priv=some k/\KOk k:=by
 obtain ⟨e,h1,e0,e1⟩:=zO5 epoch 1099511627776 (by decide) (by decide);obtain ⟨c,h2,c1⟩:=zN3 codes;obtain ⟨d,h3,d1⟩:=zN3 more;obtain ⟨p,h4,p1⟩:=zSs priv;obtain ⟨u,h5,u1⟩:=zSs [117];obtain ⟨v,h6,v1⟩:=yBf priv;unfold jY;cases two with
 | true=>
  refine ⟨api_Kept.mk e [c,d] (api_Public.mk 3 0 0 p u) v,bd h1 (bd h2 (bd h4 (bd h5 (bd h6 (bd (ct rfl (bd h3 (bd (wM (by simp)) rfl))) rfl))))),?_⟩;exact ⟨e0,e1,.inr rfl,λx hx=>by rcases List.mem_cons.1 hx with rfl | hx;exact c1.ok;rw [List.mem_singleton.1 hx];exact d1.ok,pub0 p1 u1,⟨by simp only;omega,by simp only;omega⟩,⟨by simp only;omega,by simp only;omega⟩,⟨by simp only;omega,by simp only;omega⟩,by simp only;omega,by simp only;omega,by simp only;omega⟩
 | false=>
  refine ⟨api_Kept.mk e [c] (api_Public.mk 3 0 0 p u) v,bd h1 (bd h2 (bd h4 (bd h5 (bd h6 (bd (cf rfl rfl) rfl))))),?_⟩;exact ⟨e0,e1,.inl rfl,λx hx=>by rw [List.mem_singleton.1 hx];exact c1.ok,pub0 p1 u1,⟨by simp only;omega,by simp only;omega⟩,⟨by simp only;omega,by simp only;omega⟩,⟨by simp only;omega,by simp only;omega⟩,by simp only;omega,by simp only;omega,by simp only;omega⟩
theorem zXg {p:api_Public} (hp:p.Policy.length<=32) (hu:p.Unique.length<=32):aR p p=some true:=by
 unfold aR;rw [cM _ _ (by omega),cM _ _ (by omega)];simp
theorem zUq {k:api_Kept} (h:KOk k):nT k k=some true:=by
 have hn:k.Chains.length<=2:=by have:=h.n;omega
 have hv:=h.v;unfold nT;refine bd (a:=false) ?_ (cf rfl ?_)
 ·refine cf (by simp) (cf (by simp) (bd (zXg h.pl h.ul) (cf rfl (bd (cM _ _ (by omega)) (by simp)))))
 ·refine bd (zNv k.Chains rF (rZ k k) (by omega) (λi hi=>?_) ?_ λx hx=>zMk (h.c x hx)) rfl
  ·unfold rZ;exact ct (decide_eq_true (by omega)) (bd (xK hi) (bd (xK hi) rfl))
  ·unfold rZ;exact cf (decide_eq_false (by omega)) rfl
theorem zPr (k:api_Kept) (hk:∀ c∈k.Chains,c.length<2 ^ 40) (hn:k.Chains.length<2 ^ 40) (hp:k.Private.length<2 ^ 40):((wX k).bind λa=>(vW k).bind λb=>(sH a b).bind λc=>some c)=some true:=by
 obtain ⟨b,h1,h2,h3⟩:=zN8 k hk hn hp;refine bd h1 (bd h2 (bd (cM b b h3) ?_));simp
theorem zJf (raw:api_Kept) (codes more:By) (epoch:Int) (two:Bool) (priv:By) (which:Int):nS raw codes more epoch two priv which=some true:=by
 obtain ⟨k,hk,ho⟩:=zT4 codes more epoch two priv;have hl:=zQ8 ho;have hn:k.Chains.length<=2:=by have:=ho.n;omega
 have hv:=ho.v;have hkc:∀ c∈k.Chains,c.length<2 ^ 40:=λc hc=>by have:=(ho.c c hc).h8;omega
 unfold nS;refine bd zRs (cf rfl (bd hk (bd (zR7 ho) (bd (yA9 ho) ?_))));have hsame:=zPr k hkc (by omega) (by omega);refine bd (a:=false) (cf rfl (bd (zUq ho) (cf rfl ?_))) (cf rfl ?_)
 ·obtain ⟨b,h1,h2,h3⟩:=zN8 k hkc (by omega) (by omega);have hb:b=zEr k:=by rw [zR7 ho] at h1;cases h1;rfl
  subst hb;exact bd h2 (bd (cM _ _ h3) (by simp))
 ·
  have hraw:∃ L:List (List api_Image),L.length<=4/\(bif decide (4<(raw.Chains.length:Int)) then (sub raw.Chains 0 4).bind (λv=>some v) else some raw.Chains:Option (List (List api_Image)))=some L:=by
   by_cases h:4<raw.Chains.length
   ·refine ⟨raw.Chains.take 4,by rw [List.length_take];omega,ct (decide_eq_true (by omega)) ?_⟩;rw [show (0:Int)=((0:Nat):Int) from rfl,show (4:Int)=((4:Nat):Int) from rfl];exact bd (jC (by omega) (by omega)) (by simp)
   ·exact ⟨raw.Chains,by omega,cf (decide_eq_false (by omega)) rfl⟩
  obtain ⟨L,hL4,hL⟩:=hraw;refine bd hL ?_;obtain ⟨y,hy,hyP⟩:=zIt L (tP L) (λi=>∀ h:i<L.length,(L[i]'h).length<=10) (λb=>b=true) (by omega) (λi hi=>by
   unfold tP;by_cases h:10<L[i].length
   ·exact ⟨_,ct (decide_eq_true (by omega)) (bd (xK hi) (ct (decide_eq_true (by omega)) rfl)),rfl⟩
   ·refine ⟨_,ct (decide_eq_true (by omega)) (bd (xK hi) (cf (decide_eq_false (by omega)) rfl)),?_⟩;exact ⟨by rw [xZ (by omega) (by omega)];omega,λ_=>by omega⟩) (by
   unfold tP;exact cf (decide_eq_false (by omega)) rfl)
  refine bd hy ?_
  match y,hyP with
  | .inl b,hb=>exact congrArg some hb
  | .inr u,hg=>
   have hLc:∀ c∈L,c.length<2 ^ 40:=λc hc=>by
    obtain ⟨i,hi,rfl⟩:=List.mem_iff_getElem.1 hc;have:=hg i hi hi;omega
   obtain ⟨w,hw,w0,w1⟩:=zO5 which 5 (by decide) (by decide);refine bd hw ?_;have fin:∀ (e:Int) (C:List (List api_Image)) (kd:Int) (pv:By),(∀ c∈C,c.length<2 ^ 40)->C.length<2 ^ 40->pv.length<2 ^ 40 ->
     ((wX (api_Kept.mk e C (api_Public.mk kd k.Public.Attr k.Public.Height k.Public.Policy k.Public.Unique) pv)).bind λa=>(vW (api_Kept.mk e C (api_Public.mk kd k.Public.Attr k.Public.Height k.Public.Policy k.Public.Unique) pv)).bind λb=>(sH a b).bind λc=>some c)=some true:=λe C kd pv h1 h2 h3=>zPr _ h1 h2 h3
   have hw5:w=0∨w=1∨w=2∨w=3∨w=4:=by omega
   rcases hw5 with rfl | rfl | rfl | rfl | rfl
   ·exact bd (ct rfl rfl) (fin _ _ _ _ hkc (by omega) (by omega))
   ·exact bd (cf rfl (ct rfl rfl)) (fin _ _ _ _ hLc (by omega) (by omega))
   ·refine bd (cf rfl (cf rfl (ct rfl (bd (wM (by simp;omega)) (bd (wM (by simp;omega)) rfl))))) (fin _ _ _ _ ?_ ?_ (by omega))
    ·intro c hc;simp only [List.nil_append,List.mem_append,or_self] at hc;exact hkc c hc
    ·simp only [List.nil_append,List.length_append];omega
   ·obtain ⟨z,hz,_⟩:=zO5 raw.Epoch 5 (by decide) (by decide);exact bd (cf rfl (cf rfl (cf rfl (ct rfl (bd hz rfl))))) (fin _ _ _ _ hkc (by omega) (by omega))
   ·obtain ⟨z,hz,z0,z1⟩:=zO5 raw.Epoch 3 (by decide) (by decide);obtain ⟨n,rfl⟩:=Int.eq_ofNat_of_zero_le z0;have hm:mkN 1 (IntKind.i64.wrap (1023+(n:Int)))=some (1023+n):=by
     rw [xZ (by omega) (by omega)];have:n=0∨n=1∨n=2:=by omega
     rcases this with rfl | rfl | rfl<;>rfl
    exact bd (cf rfl (cf rfl (cf rfl (cf rfl (bd hz (bd hm rfl)))))) (fin _ _ _ _ hkc (by omega) (by simp;omega))
end Go.Proofs.TT
