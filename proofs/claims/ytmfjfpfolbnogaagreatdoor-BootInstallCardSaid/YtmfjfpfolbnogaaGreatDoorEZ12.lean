/- the slots after installing -/
import Derived.Test.YtmfjfpfolbnogaaGreatDoorEZ11
set_option linter.all false
namespace Go.Proofs.TT
open Go Go.Sw
set_option maxRecDepth 100000
variable {a:Nat}{active:Int}{as:List By}{b:Bool}{bs:List By}{c:Int}{d:zD}{e:zB}{i:Nat}{is:List Int}{k:Nat}{l:List api_Image}{m:Nat}{most:Int}{out p:By}{r:zD×Int}{role:Int}{s seq:Nat}{st:zT}{vo:yF}{x:api_Image}{y:By}{α:Type}
def bl (x:By):By:=beN (x.length:Int) 2 2++x
theorem uJ (x:By):(bl x).length=2+x.length:=by simp [bl,xB]
theorem wB (b x:By) (hb:b.length<2 ^ 30) (hx:x.length<=65535):xY b x=some (b++bl x):=by
 rw [fK b x (by omega),zD3 b hx];rfl
theorem wU (b:By) (k:Nat) (n:Int) (h1:1<=k) (h8:k<=8) (hb:b.length<2 ^ 30):xM b (k:Int) n=some (b++beN n k k):=by
 rw [qC b k n h1 h8 (by omega)];rfl
def bits (b:Bool):UInt8:=if b=true then 1 else 0
def sA (s:zT):By:=
 [1,u8 s.Active]++(bl (s.Seeds.getD 0 [])++(bl (s.Seeds.getD 1 [])++(bl (s.Seeds.getD 2 [])++(bl []++(bl []++(bl []++(bl []++(bl s.Entropy++(beN s.Resets 8 8++(beN 0 8 8++(beN 0 8 8++([bits s.Orderly]++(bl (0 :: beN 0 8 8)++(beN 0 8 8++([0]++(beN 0 8 8++(beN 5 8 8++(beN 100 8 8++(beN 0 8 8++(beN 0 8 8++(beN 1000 8 8++([0]))))))))))))))))))))))
theorem wk1:IntKind.i64.wrap 1=1:=rfl
theorem wk2:IntKind.i64.wrap 2=2:=rfl
theorem wk3:IntKind.i64.wrap 3=3:=rfl
theorem wk4:IntKind.i64.wrap 4=4:=rfl
theorem wk5:IntKind.i64.wrap 5=5:=rfl
theorem wk6:IntKind.i64.wrap 6=6:=rfl
theorem tA {X Y:Type} {step:X->Option (X ⊕ Y)} {x:X} {y:Y} (h:step x=some (.inr y)):zR step FU x=some y:=yM 0 (λ_=>x) rfl (λ_ h=>absurd h (Nat.not_lt_zero _)) h (wN (by decide))
theorem zX5 (a b c:Int) (x:By) (hx:x.length<2 ^ 20):xR [a,b,c] x=some (((x++beN a 8 8)++beN b 8 8)++beN c 8 8):=by
 unfold xR;refine ct rfl ?_;refine bd (a:=a) rfl ?_;refine bd (wU x 8 a (by decide) (by decide) (by omega)) ?_;refine bd (a:=((x++beN a 8 8)++beN b 8 8)++beN c 8 8) ?_ rfl;refine two (step:=xO [a,b,c]) (b:=(2,(x++beN a 8 8)++beN b 8 8)) (c:=(3,((x++beN a 8 8)++beN b 8 8)++beN c 8 8)) ?_ ?_ ?_
 ·unfold xO;exact ct rfl (bd (a:=b) rfl (bd (wU _ 8 b (by decide) (by decide) (by simp [xB];omega)) rfl))
 ·unfold xO;exact ct rfl (bd (a:=c) rfl (bd (wU _ 8 c (by decide) (by decide) (by simp [xB];omega)) rfl))
 ·unfold xO;exact cf rfl rfl
theorem zZk (a:Int) (x:By) (hx:x.length<2 ^ 20):xR [a] x=some (x++beN a 8 8):=by
 unfold xR;refine ct rfl ?_;refine bd (a:=a) rfl ?_;refine bd (wU x 8 a (by decide) (by decide) (by omega)) ?_;exact bd (a:=x++beN a 8 8) (tA (by unfold xO;exact cf rfl rfl)) rfl
theorem zVp (a b c d e f:Int) (x:By) (hx:x.length<2 ^ 20):xR [a,b,c,d,e,f] x=some ((((((x++beN a 8 8)++beN b 8 8)++beN c 8 8)++beN d 8 8)++beN e 8 8)++beN f 8 8):=by
 unfold xR;refine ct rfl ?_;refine bd (a:=a) rfl ?_;refine bd (wU x 8 a (by decide) (by decide) (by omega)) ?_;refine bd (a:=(((((x++beN a 8 8)++beN b 8 8)++beN c 8 8)++beN d 8 8)++beN e 8 8)++beN f 8 8) ?_ rfl;refine yM 5 (λi=>(((i+1:Nat):Int),(x++beN a 8 8)++([b,c,d,e,f].take i).flatMap (λn=>beN n 8 8))) (by simp) (λi hi=>?_) ?_ (wN (by decide))
 ·have h5:i=0∨i=1∨i=2∨i=3∨i=4:=by omega
  unfold xO;rcases h5 with rfl | rfl | rfl | rfl | rfl <;>
   exact ct rfl (bd rfl (bd (wU _ 8 _ (by decide) (by decide) (by simp [xB];omega)) (by simp [wk2,wk3,wk4,wk5,wk6,List.append_assoc])))
 ·unfold xO;refine cf rfl ?_;simp [List.append_assoc]
theorem zXq:nG ⟨[],0⟩=some (0 :: beN 0 8 8):=by decide +kernel
theorem zC1 (s:zT) (h:Sst s):sB s=some (sA s):=by
 obtain ⟨a,b,c,hs,la,lb,lc⟩:=h.sd;have hse:s.Seeds.getD 0 []=a/\s.Seeds.getD 1 []=b/\s.Seeds.getD 2 []=c:=by rw [hs];exact ⟨rfl,rfl,rfl⟩
 have hen:=h.en;unfold sB;refine bd (a:=(([1,u8 s.Active]++bl a)++bl b)++bl c) ?_ ?_
 ·refine yM 3 (λi=>((i:Int),[1,u8 s.Active]++([a,b,c].take i).flatMap bl)) (by simp) (λi hi=>?_) ?_ (wN (by decide))
  ·have h3:i=0∨i=1∨i=2:=by omega
   unfold mT;rw [hs];rcases h3 with rfl | rfl | rfl
   ·exact ct rfl (bd (a:=a) rfl (bd (wB _ a (by simp) (by omega)) (by simp [wk1])))
   ·exact ct rfl (bd (a:=b) rfl (bd (wB _ b (by simp [uJ];omega) (by omega)) (by simp [wk2,wk3])))
   ·exact ct rfl (bd (a:=c) rfl (bd (wB _ c (by simp [uJ];omega) (by omega)) (by simp [wk2,wk3])))
  ·unfold mT;refine cf rfl (by simp)
 refine bd (a:=((((([1,u8 s.Active]++bl a)++bl b)++bl c)++bl []++bl [])++bl [])++bl []) ?_ ?_
 ·generalize hX:(([1,u8 s.Active]++bl a)++bl b)++bl c=X;have lX:X.length<200:=by rw [<- hX];simp [uJ];omega
  refine yM 4 (λi=>((i:Int),X++(List.replicate i ([]:By)).flatMap bl)) (by simp) (λi hi=>?_) ?_ (wN (by decide))
  ·have h3:i=0∨i=1∨i=2∨i=3:=by omega
   unfold mV;rw [h.au];rcases h3 with rfl | rfl | rfl | rfl <;>
    exact ct rfl (bd (a:=[]) rfl (bd (wB _ [] (by simp [uJ];omega) (by decide)) (by simp [List.replicate,wk1,wk2,wk3,wk4])))
  ·unfold mV;refine cf rfl (by simp [List.replicate])
 generalize hX:((((([1,u8 s.Active]++bl a)++bl b)++bl c)++bl []++bl [])++bl [])++bl []=X;have lX:X.length<200:=by rw [<- hX];simp [uJ];omega
 refine bd (wB X s.Entropy (by omega) (by omega)) ?_;rw [h.st,h.ck,h.mc,h.sv,h.ix,h.lo,h.ks];refine bd (zX5 s.Resets 0 0 _ (by simp [uJ];omega)) ?_;refine bd (a:=bits s.Orderly) (by unfold dO bits;cases s.Orderly<;>rfl) ?_;refine bd (yJ (by simp [uJ,xB];omega)) ?_;refine bd zXq ?_;refine bd (wB _ _ (by simp [uJ,xB];omega) (by simp [xB])) ?_;refine bd (zZk 0 _ (by simp [uJ,xB];omega)) ?_;refine bd (yJ (by simp [uJ,xB];omega)) ?_;refine bd (tA (by unfold fO;rw [h.ix];exact cf rfl rfl)) ?_;refine bd (zVp 0 5 100 0 0 1000 _ (by simp [uJ,xB];omega)) ?_;refine bd (yJ (by simp [uJ,xB];omega)) ?_;refine bd (tA (by unfold fS;rw [h.ks];exact cf rfl rfl)) ?_;refine congrArg some ?_;rw [<- hX];unfold sA;rw [hse.1,hse.2.1,hse.2.2];simp only [List.append_assoc];rfl
set_option maxRecDepth 100000
structure Rd (r:RS) (l:By):Prop where
 m:Rem r l
 o:r.Ok
section
variable {r:RS} {x rest:By} {n:Int}
theorem zHu (b:By) (hb:b.length<2 ^ 40):∃ r,Rd r b/\tR b=some r.W:=⟨⟨b,0,0⟩,⟨⟨rfl,Nat.zero_le _,rfl⟩,Nat.zero_le _,hb⟩,zPe b hb⟩
theorem rdU (h:Rd r (beN n k k++rest)) (h1:1<=k) (h8:k<=8) (h0:0<=n) (hn:n<2 ^ 62) (hs:n.toNat<256 ^ k):∃ r',Rd r' rest/\yB r.W (k:Int)=some (n,r'.W):=by
 obtain ⟨e,m⟩:=Rem.uintI h.m h8 h0 hn hs;have ok:=zE2 r k h.o;rw [e] at ok;exact ⟨r.to k,⟨m,ok⟩,by rw [sT r k h.o h1 h8,e]⟩
theorem rdBt (h:Rd r (u8 n :: rest)) (h0:0<=n) (hn:n<256):∃ r',Rd r' rest/\yB r.W 1=some (n,r'.W):=by
 obtain ⟨e,m⟩:=Rem.byte h.m h0 hn;have ok:=zE2 r 1 h.o;rw [e] at ok;exact ⟨r.to 1,⟨m,ok⟩,by have:=sT r 1 h.o (by decide) (by decide);rw [e] at this;exact this⟩
theorem zM1 (h:Rd r (bl x++rest)) (hx:x.length<=65535) (hk:x.length<=k):∃ r',Rd r' rest/\yL r.W (k:Int)=some (x,r'.W):=by
 have h':=h.m;unfold bl at h';rw [List.append_assoc] at h';obtain ⟨e,m⟩:=Rem.blobN h' hx hk;have ok:=zK0 r k h.o;rw [e] at ok;exact ⟨_,⟨m,ok⟩,by rw [qT r k h.o,e]⟩
theorem rdRw (h:Rd r (x++rest)) (hx:x.length=k):∃ r',Rd r' rest/\wZ r.W (k:Int)=some (x,r'.W):=by
 have e:=Rem.raw h.m hx;have ok:=zM0 r k h.o;rw [e] at ok;exact ⟨_,⟨Rem.to h.m hx,ok⟩,by rw [zBn r k h.o,e]⟩
theorem rdE (h:Rd r []):xT r.W=some (0,r.W):=by rw [zBs r h.o,Rem.fin h.m]
theorem zIq {l:By} (h:Rd r l):xJ r.W=some (0,r.W):=by unfold xJ;exact congrArg some (congrArg (·,r.W) h.m.e)
theorem Rd.cast {l l':By} (h:Rd r l) (e:l=l'):Rd r l':=e▸h
theorem numG (h:Rd r (beN n k k++rest)) (h1:1<=k) (h8:k<=8) (h0:0<=n) (hn:n<2 ^ 62) (hs:n.toNat<256 ^ k) (hm:n<=most):∃ r',Rd r' rest/\xA (k:Int) most 0 r.W=some (n,0,r'.W):=by
 obtain ⟨r',g,e⟩:=rdU h h1 h8 h0 hn hs;refine ⟨r',g,?_⟩;unfold xA;refine cf rfl ?_;refine bd e ?_;refine bd (zIq g) ?_;refine bd (a:=0) (bd (a:=false) (ct rfl (congrArg some (by simp;omega))) (cf rfl rfl)) ?_;exact cf rfl rfl
theorem zMt (h:Rd r (u8 n :: rest)) (h0:0<=n) (hn:n<256) (hm:n<=most):∃ r',Rd r' rest/\xA 1 most 0 r.W=some (n,0,r'.W):=by
 obtain ⟨r',g,e⟩:=rdBt h h0 hn;refine ⟨r',g,?_⟩;unfold xA;refine cf rfl ?_;refine bd e ?_;refine bd (zIq g) ?_;refine bd (a:=0) (bd (a:=false) (ct rfl (congrArg some (by simp;omega))) (cf rfl rfl)) ?_;exact cf rfl rfl
theorem zEm (h:Rd r (beN n 8 8++rest)) (h0:0<=n) (hn:n<2 ^ 62):∃ r',Rd r' rest/\yO 8 0 r.W=some (n,0,r'.W):=by
 obtain ⟨r',g,e⟩:=numG (k:=8) (most:=9223372036854775807) h (by decide) (by decide) h0 hn (by omega) (by omega);exact ⟨r',g,bd e rfl⟩
theorem any1 (h:Rd r (u8 n :: rest)) (h0:0<=n) (hn:n<256):∃ r',Rd r' rest/\yO 1 0 r.W=some (n,0,r'.W):=by
 obtain ⟨r',g,e⟩:=zMt (most:=9223372036854775807) h h0 hn (by omega);exact ⟨r',g,bd e rfl⟩
theorem zN9 (h:Rd r (bl x++rest)) (hx:x.length<=4096):∃ r',Rd r' rest/\wT 0 r.W=some (x,0,r'.W):=by
 obtain ⟨r',g,e⟩:=zM1 (k:=4096) h (by omega) hx;refine ⟨r',g,?_⟩;unfold wT;exact cf rfl (bd e (bd (zIq g) rfl))
theorem zGm:∀ (L:List By) (fuel:Nat) (acc:List By) (v n:Int) (r:RS),L.length<fuel->Rd r (L.flatMap bl++rest)->(∀ x∈L,x.length<=4096)->v+L.length=n->0<=v->n<=100->acc.length<=100->(acc.length:Int)<=v ->
  ∃ r',Rd r' rest/\zR (vC n) fuel (acc,v,0,r.b,(r.at':Int),r.e)=some (acc++L,0,r'.b,(r'.at':Int),r'.e)
 | [],f+1,acc,v,n,r,_,h,_,hv,_,_,_,_=>by
  refine ⟨r,h.cast (by simp),?_⟩;simp only [zR];have:vC n (acc,v,0,r.b,(r.at':Int),r.e)=some (.inr (acc,0,r.b,(r.at':Int),r.e)):=by
   unfold vC;exact cf (by simp at hv;simp;omega) rfl
  rw [this,List.append_nil]
 | x :: L,f+1,acc,v,n,r,hf,h,hL,hv,h0,hn,ha,hav=>by
  have hx:=hL x (List.mem_cons_self ..);simp only [List.length_cons] at hf hv;obtain ⟨r1,g1,e1⟩:=zN9 (x:=x) (rest:=L.flatMap bl++rest) (h.cast (by simp)) hx;obtain ⟨r',g',e'⟩:=zGm L f (acc++[x]) (v+1) n r1 (by omega) g1 (λy hy=>hL y (List.mem_cons_of_mem _ hy)) (by omega) (by omega) hn (by simp;omega) (by simp;omega);refine ⟨r',g',?_⟩;simp only [zR];have:vC n (acc,v,0,r.b,(r.at':Int),r.e)=some (.inl (acc++[x],v+1,0,r1.b,(r1.at':Int),r1.e)):=by
   unfold vC;refine ct (by simp;omega) ?_;refine bd e1 ?_;refine bd (yJ (by simp;omega)) ?_;rw [yW (by omega) (by omega)];rfl
  rw [this];simp only [e',List.append_assoc,List.singleton_append]
theorem zN0 (L:List By) (k:Int) (hk:(L.length:Int)=k) (h4:L.length<=4) (h:Rd r (L.flatMap bl++rest)) (hL:∀ x∈L,x.length<=4096):∃ r',Rd r' rest/\sM k 0 r.W=some (L,0,r'.W):=by
 obtain ⟨r',g,e⟩:=zGm L FU [] 0 k r (wN (by omega)) h hL (by omega) (Int.le_refl 0) (by omega) (by simp) (by simp);refine ⟨r',g,?_⟩;unfold sM;exact bd e rfl
theorem zYu (h:Rd r ([bits b]++rest)):∃ r',Rd r' rest/\oU 0 r.W=some (b,0,r'.W):=by
 have hb:bits b=u8 (if b=true then 1 else 0):=by cases b<;>rfl
 obtain ⟨r',g,e⟩:=zMt (n:=if b=true then 1 else 0) (most:=1) (h.cast (by rw [hb];rfl)) (by split<;>decide) (by split<;>decide) (by split<;>decide);refine ⟨r',g,bd e ?_⟩;cases b<;>rfl
theorem zYm:nL (0 :: beN 0 8 8)=some (⟨[],0⟩,0):=by decide +kernel
theorem zR6 (h:Rd r (bl (0 :: beN 0 8 8)++rest)):∃ r',Rd r' rest/\sH 0 r.W=some (⟨[],0⟩,0,r'.W):=by
 obtain ⟨r',g,e⟩:=zN9 h (by simp [xB]);refine ⟨r',g,?_⟩;unfold sH;exact bd e (cf rfl (bd zYm rfl))
theorem zYx (s:zT) (h:Sst s):lO (sA s)=some (s,0):=by
 obtain ⟨a,b,c,hs,la,lb,lc⟩:=h.sd;have hse:s.Seeds.getD 0 []=a/\s.Seeds.getD 1 []=b/\s.Seeds.getD 2 []=c:=by rw [hs];exact ⟨rfl,rfl,rfl⟩
 have hen:=h.en;have hlen:(sA s).length<2 ^ 40:=by
  unfold sA;rw [hse.1,hse.2.1,hse.2.2];simp only [List.length_append,uJ,xB,List.length_cons,List.length_nil];omega
 obtain ⟨r0,g0,e0⟩:=zHu (sA s) hlen;unfold sA at g0;rw [hse.1,hse.2.1,hse.2.2] at g0;unfold lO;refine bd e0 ?_;obtain ⟨r1,g1,e1⟩:=any1 (n:=1) (rest:=_) (g0.cast rfl) (by decide) (by decide);refine bd e1 ?_;refine bd (a:=0) (bd (a:=false) rfl (cf rfl rfl)) ?_;obtain ⟨r2,g2,e2⟩:=zMt (n:=s.Active) (most:=3) (g1.cast rfl) (by have:=h.a0;omega) (by have:=h.a3;omega) h.a3;refine bd e2 ?_;obtain ⟨r3,g3,e3⟩:=zN0 [a,b,c] 3 rfl (by simp) (rest:=_) (g2.cast (by simp only [List.flatMap_cons,List.flatMap_nil,List.append_nil,List.append_assoc,List.nil_append];rfl)) (by simp;omega);refine bd e3 ?_;obtain ⟨r4,g4,e4⟩:=zN0 [[],[],[],[]] 4 rfl (by simp) (rest:=_) (g3.cast (by simp only [List.flatMap_cons,List.flatMap_nil,List.append_nil,List.append_assoc];rfl)) (by simp);refine bd e4 ?_;obtain ⟨r5,g5,e5⟩:=zN9 g4 (by omega);refine bd e5 ?_;obtain ⟨r6,g6,e6⟩:=zEm g5 h.r0 (by have:=h.r1;omega);refine bd e6 ?_;obtain ⟨r7,g7,e7⟩:=zEm g6 (by decide) (by decide);refine bd e7 ?_;obtain ⟨r8,g8,e8⟩:=zEm g7 (by decide) (by decide);refine bd e8 ?_;obtain ⟨r9,g9,e9⟩:=zYu g8;refine bd e9 ?_;obtain ⟨r10,g10,e10⟩:=zR6 g9;refine bd e10 ?_;obtain ⟨r11,g11,e11⟩:=zEm g10 (by decide) (by decide);refine bd e11 ?_;obtain ⟨r12,g12,e12⟩:=zMt (n:=0) (most:=6) (g11.cast rfl) (by decide) (by decide) (by decide);refine bd e12 ?_;refine bd (tA (by unfold fU;exact cf rfl rfl)) ?_;obtain ⟨q1,k1,f1⟩:=zEm g12 (by decide) (by decide);refine bd f1 ?_;obtain ⟨q2,k2,f2⟩:=zEm k1 (by decide) (by decide);refine bd f2 ?_;obtain ⟨q3,k3,f3⟩:=zEm k2 (by decide) (by decide);refine bd f3 ?_;obtain ⟨q4,k4,f4⟩:=zEm k3 (by decide) (by decide);refine bd f4 ?_;obtain ⟨q5,k5,f5⟩:=zEm k4 (by decide) (by decide);refine bd f5 ?_;obtain ⟨q6,k6,f6⟩:=zEm k5 (by decide) (by decide);refine bd f6 ?_;obtain ⟨q7,k7,f7⟩:=zMt (n:=0) (most:=8) (rest:=[]) (k6.cast rfl) (by decide) (by decide) (by decide);refine bd f7 ?_;refine bd (a:=([],0,q7.b,(q7.at':Int),q7.e)) (tA (by unfold fY;exact cf rfl rfl)) ?_;refine bd (a:=(0,q7.b,(q7.at':Int),q7.e)) (ct rfl (bd (rdE k7) rfl)) ?_;refine cf rfl ?_;refine congrArg (λz=>some (z,(0:Int))) ?_;have h2:=h.au;have h8:=h.st;have h9:=h.ck;have h10:=h.sv;have h11:=h.mc;have h12:=h.ix;have h13:=h.lo;have h14:=h.ks;clear h;cases s;simp only at hs h2 h8 h9 h10 h11 h12 h13 h14;subst h2 h8 h9 h10 h11 h12 h13 h14 hs;rfl
end
set_option maxRecDepth 100000
def mrk (seq:Int) (p:By):By:=hs 12 [beN seq 8 8,p]
theorem zGh (seq:Int) (p:By):(mrk seq p).length=32:=dC _ _
theorem zKg (seq:Int) (p:By) (hp:p.length<2 ^ 20):oV seq p=some (mrk seq p):=by
 unfold oV;refine bd (wU [] 8 seq (by decide) (by decide) (by decide)) ?_;refine bd (zAl 12 [[]++beN seq 8 8,p] (by simp [tot,xB];omega)) rfl
def lF (seq:Nat) (p:By):By:=mrk seq p++(beN (seq:Int) 8 8++(beN (p.length:Int) 4 4++p))
theorem zDg (seq:Nat) (p:By):(lF seq p).length=44+p.length:=by simp [lF,zGh,xB];omega
theorem zQv (seq:Nat):Int.tmod (seq:Int) 2=((seq % 2:Nat):Int):=by rw [Int.tmod_eq_emod_of_nonneg (by omega)];rfl
theorem zN4:nU 0=some true:=rfl
theorem zFd (d:zV) (seq:Nat) (p:By) (h1:1<=seq) (h2:seq<2 ^ 30) (hp:p.length<=60000) {r:zV×Int} (hw:nO d ((seq % 2:Nat):Int) (lF seq p)=some r):rJ d 0 (seq:Int) p=some r:=by
 unfold rJ;refine bd (a:=false) (cf (by simp;omega) (cf (by simp;omega) (bd zN4 rfl))) ?_;refine cf rfl ?_;refine cf (by simp;omega) ?_;refine bd (zKg _ p (by omega)) ?_;have hm:=zGh (seq:Int) p;refine bd (wU _ 8 _ (by decide) (by decide) (by omega)) ?_;refine bd (wU _ 4 _ (by decide) (by decide) (by simp [xB];omega)) ?_;refine bd (yJ (by simp [xB];omega)) ?_;rw [zQv];have e:IntKind.i64.wrap (0+((seq % 2:Nat):Int))=((seq % 2:Nat):Int):=by rw [yW (by omega) (by omega)];omega
 rw [e];refine bd (a:=r) ?_ rfl;rw [<- hw];simp only [lF,List.append_assoc]
theorem zC5 (seq:Nat) (p:By) (h1:1<=seq) (h2:seq<2 ^ 30) (hp:p.length<=60000):uA (lF seq p) ((seq % 2:Nat):Int)=some (p,(seq:Int),true):=by
 have hl:=zDg seq p;obtain ⟨r0,g0,e0⟩:=zHu (lF seq p) (by omega);unfold uA;refine bd e0 ?_;unfold lF at g0;obtain ⟨r1,g1,e1⟩:=rdRw (k:=32) g0 (zGh _ _);refine bd e1 ?_;obtain ⟨r2,g2,e2⟩:=rdU (k:=8) g1 (by decide) (by decide) (by omega) (by omega) (by omega);refine bd e2 ?_;obtain ⟨r3,g3,e3⟩:=rdU (k:=4) g2 (by decide) (by decide) (by omega) (by omega) (by omega);refine bd e3 ?_;obtain ⟨r4,g4,e4⟩:=rdRw (k:=p.length) (x:=p) (rest:=[]) (g3.cast (by simp)) rfl;refine bd e4 ?_;refine bd (a:=false) (bd (zIq g4) (cf rfl (cf (by simp;omega) (cf (by rw [zQv];simp) (bd (zKg _ p (by omega)) (congrArg some (by simp))))))) ?_;exact cf rfl rfl
theorem zLn (w:Int):uA [] w=some ([],0,false):=by
 unfold uA;refine bd (zPe [] (by decide)) ?_;refine bd (a:=([],RS.W ⟨[],0,2⟩)) rfl ?_;refine bd (a:=(0,RS.W ⟨[],0,2⟩)) rfl ?_;refine bd (a:=(0,RS.W ⟨[],0,2⟩)) rfl ?_;refine bd (a:=([],RS.W ⟨[],0,2⟩)) rfl ?_;exact bd (a:=true) rfl (ct rfl rfl)
structure Jr (as:List By) (seq:Nat) (p:By):Prop where
 a:as.getD (seq % 2) []=lF seq p
 b:∃ q s ok,uA (as.getD (1 - seq % 2) []) ((1 - seq % 2:Nat):Int)=some (q,s,ok)/\(ok=true->s<seq)
 s1:1<=seq
 s2:seq<2 ^ 29
 pl:p.length<=60000
theorem zJg (d:zV) (seq:Nat) (p:By) (ho:d.Off=false) (h2:2<=d.Areas.length) (hal:∀ i,(d.Areas.getD i []).length<2 ^ 40) (h:Jr d.Areas seq p):pA d 0=some (p,(seq:Int),0):=by
 obtain ⟨ha,⟨q,s,ok,hb,hs⟩,s1,s2,pl⟩:=h;have hp:=zC5 seq p s1 (by omega) pl;rw [<- ha] at hp;unfold pA;refine bd zN4 ?_;refine cf rfl ?_;refine bd (aX d 0 ho (by omega) (hal 0)) ?_;refine cf rfl ?_;refine bd (aX d 1 ho (by omega) (hal 1)) ?_;refine cf rfl ?_;have h01:seq % 2=0∨seq % 2=1:=by omega
 rcases h01 with hm | hm
 ·rw [hm] at hp hb;refine bd (a:=(p,(seq:Int),true)) (bd (a:=d.Areas.getD 0 []) rfl (bd hp (bd (a:=true) (ct rfl (congrArg some (by simp;omega))) (ct rfl rfl)))) ?_;refine bd (a:=(p,(seq:Int),true)) (bd (a:=d.Areas.getD 1 []) rfl (bd hb (bd (a:=false) ?_ (cf rfl rfl)))) ?_
  ·cases ok
   ·exact cf rfl rfl
   ·exact ct rfl (congrArg some (by have:=hs rfl;simp;omega))
  ·exact cf rfl rfl
 ·rw [hm] at hp hb;cases ok
  ·refine bd (a:=([],0,false)) (bd (a:=d.Areas.getD 0 []) rfl (bd hb (bd (a:=false) (cf rfl rfl) (cf rfl rfl)))) ?_;refine bd (a:=(p,(seq:Int),true)) (bd (a:=d.Areas.getD 1 []) rfl (bd hp (bd (a:=true) (ct rfl (congrArg some (by simp;omega))) (ct rfl rfl)))) ?_;exact cf rfl rfl
  ·have hlt:=hs rfl;by_cases h0:0<s
   ·refine bd (a:=(q,s,true)) (bd (a:=d.Areas.getD 0 []) rfl (bd hb (bd (a:=true) (ct rfl (congrArg some (by simp [h0]))) (ct rfl rfl)))) ?_;refine bd (a:=(p,(seq:Int),true)) (bd (a:=d.Areas.getD 1 []) rfl (bd hp (bd (a:=true) (ct rfl (congrArg some (by simp [hlt]))) (ct rfl rfl)))) ?_;exact cf rfl rfl
   ·refine bd (a:=([],0,false)) (bd (a:=d.Areas.getD 0 []) rfl (bd hb (bd (a:=false) (ct rfl (congrArg some (by simp [h0]))) (cf rfl rfl)))) ?_;refine bd (a:=(p,(seq:Int),true)) (bd (a:=d.Areas.getD 1 []) rfl (bd hp (bd (a:=true) (ct rfl (congrArg some (by simp;omega))) (ct rfl rfl)))) ?_;exact cf rfl rfl
theorem vK (h:a<as.length):(as.set a y).getD a []=y:=by simp [List.getD_eq_getElem?_getD,h]
theorem getD_set_ne {b:Nat} (h:a≠b):(as.set a y).getD b []=as.getD b []:=by simp [List.getD_eq_getElem?_getD,List.getElem?_set_ne h]
theorem Jr.next {p':By} (h:Jr as seq p) (h2:2<=as.length) (hs:seq+1<2 ^ 29) (hp:p'.length<=60000):Jr (as.set ((seq+1) % 2) (lF (seq+1) p')) (seq+1) p':=by
 refine ⟨vK (by omega),⟨p,(seq:Int),true,?_,λ_=>by omega⟩,by omega,hs,hp⟩;rw [getD_set_ne (by omega)];have e:1 - (seq+1) % 2=seq % 2:=by omega
 rw [e,h.a];exact zC5 seq p h.s1 (by have:=h.s2;omega) h.pl
theorem Jr.other (h:Jr as seq p) (ha:2<=a):Jr (as.set a y) seq p:=by
 refine ⟨by rw [getD_set_ne (by omega)];exact h.a,?_,h.s1,h.s2,h.pl⟩;rw [getD_set_ne (by omega)];exact h.b
theorem Jr.first (n:Nat) (p:By) (hn:2<=n) (hp:p.length<=60000):Jr ((List.replicate n ([]:By)).set 1 (lF 1 p)) 1 p:=by
 refine ⟨vK (by simp;omega),⟨[],0,false,?_,λh=>by cases h⟩,by decide,by decide,hp⟩;rw [getD_set_ne (by decide)];have:(List.replicate n ([]:By)).getD (1 - 1 % 2) []=[]:=by simp [List.getD_eq_getElem?_getD,List.getElem?_replicate];split<;>rfl
 rw [this];exact zLn _
set_option maxRecDepth 100000
def zDn (d:zD):zD:=⟨⟨d.Disk.Areas,d.Disk.Writes,d.Disk.CutAt,d.Disk.Torn,true⟩,default,false,d.Next⟩
def zOm:yF:=⟨false,false,⟨[],0⟩,0,false,0,List.replicate 3 default,List.replicate 3 default,[],[]⟩
structure Dk (d:zV) (seq:Nat) (st:zT) (m:Nat):Prop where
 ok:zI5 d
 m0:d.Writes<=m
 m1:m<2 ^ 50
 n:d.Areas.length=8
 al:∀ i,(d.Areas.getD i []).length<2 ^ 39
 jr:Jr d.Areas seq (sA st)
 sst:Sst st
structure Dv (d:zD) (seq:Nat) (st:zT) (vo:yF) (m:Nat):Prop extends Dk d.Disk seq st m where
 on:d.On=true
 off:d.Disk.Off=false
 cut:d.Disk.CutAt=0
 s:d.State=⟨st,vo⟩
 nx:d.Next=(seq:Int)+1
theorem Dv.noC (h:Dv d seq st vo m):¬ isC d.Disk:=by
 have:=h.ok.w0;have h2:=h.cut;unfold isC;omega
theorem zHe (s:zT) (h:Sst s):(sA s).length<=400:=by
 obtain ⟨a,b,c,hs,la,lb,lc⟩:=h.sd;have hse:s.Seeds.getD 0 []=a/\s.Seeds.getD 1 []=b/\s.Seeds.getD 2 []=c:=by rw [hs];exact ⟨rfl,rfl,rfl⟩
 have hen:=h.en;unfold sA;rw [hse.1,hse.2.1,hse.2.2];simp only [List.length_append,uJ,xB,List.length_cons,List.length_nil];omega
theorem zDf (h1:d.On=true) (h2:d.Disk.Off=false):wV d=some true:=by
 unfold wV;exact bd (a:=true) (ct h1 (by rw [h2];rfl)) rfl
theorem zH7 (h1:d.On=false):wV d=some false:=by
 unfold wV;exact bd (a:=false) (cf h1 rfl) rfl
theorem zFp (h2:d.Disk.Off=true):wV d=some false:=by
 unfold wV;cases h:d.On
 ·exact bd (a:=false) (cf rfl rfl) rfl
 ·exact bd (a:=false) (ct rfl (by rw [h2];rfl)) rfl
def onD (d:zD) (seq:Nat) (st:zT):zD:=⟨⟨d.Disk.Areas,0,0,0,false⟩,⟨st,zOm⟩,true,(seq:Int)+1⟩
theorem zIt (d:zD) (seq:Nat) (st:zT) (hp:d.On=false∨d.Disk.Off=true) (h2:d.Disk.Areas.length=8) (hal:∀ i,(d.Disk.Areas.getD i []).length<2 ^ 39) (h:Jr d.Disk.Areas seq (sA st)) (hs:Sst st):tX d=some (onD d seq st,0):=by
 unfold tX;refine bd (a:=false) (hp.elim zH7 zFp) ?_;refine cf rfl ?_;refine bd (a:=⟨d.Disk.Areas,0,0,0,false⟩) rfl ?_;refine bd (zJg ⟨d.Disk.Areas,0,0,0,false⟩ seq (sA st) rfl (by simp only;omega) (λi=>by have:=hal i;simp only;omega) h) ?_;refine cf rfl ?_;refine bd (zYx st hs) ?_;refine cf rfl ?_;refine bd rfl ?_;have:=h.s2;rw [yW (by omega) (by omega)];have e:(zT.mk st.Seeds st.Auths st.Entropy st.Active st.Resets st.Restarts st.Clock st.Orderly st.Saved st.MaxCounter [] st.Lockout st.Keys)=st:=by
  have:=hs.ix;cases st;simp only at this;rw [this]
 refine congrArg (λz=>some (z,(0:Int))) ?_;show (zD.mk _ (zU.mk (zT.mk st.Seeds st.Auths st.Entropy st.Active st.Resets st.Restarts st.Clock st.Orderly st.Saved st.MaxCounter [] st.Lockout st.Keys) _) _ _)=_;rw [e];rfl
theorem Dv.of_on (h2:d.Disk.Areas.length=8) (hal:∀ i,(d.Disk.Areas.getD i []).length<2 ^ 39) (h:Jr d.Disk.Areas seq (sA st)) (hs:Sst st) (m:Nat) (hm:m<2 ^ 50):Dv (onD d seq st) seq st zOm m:=
 ⟨⟨⟨by show d.Disk.Areas.length<=64;omega,Int.le_refl 0,by show (0:Int)<2 ^ 60;decide⟩,by show (0:Int)<=m;omega,hm,h2,hal,h,hs⟩,rfl,rfl,rfl,rfl,rfl⟩
theorem zKi (n i:Nat):(List.replicate n ([]:By)).getD i []=[]:=by simp [List.getD_eq_getElem?_getD,List.getElem?_replicate];split<;>rfl
theorem new8:zDb 8=some ⟨List.replicate 8 [],0,0,0,false⟩:=by decide +kernel
theorem zLa (s:zT) (h:Sst s):sB (zT.mk s.Seeds s.Auths s.Entropy s.Active s.Resets s.Restarts s.Clock s.Orderly (zE.mk [] s.Saved.Updates) s.MaxCounter [] s.Lockout [])=some (sA s):=by
 rw [<- zC1 s h];have h1:=h.sv;have h2:=h.ix;have h3:=h.ks;clear h;cases s;simp only at h1 h2 h3;subst h1 h2 h3;rfl
theorem zHl (e:By) (active:Int) (he:e.length=32) (h1:1<=active) (h3:active<=3):Def (pL 8 e active) (λr=>r.2=0/\(∃ d0,r.1=zDn d0)/\∃ st,Dk r.1.Disk 1 st 1/\st.Active=active/\st.Resets=0/\∀ a,a≠1->r.1.Disk.Areas.getD a []=[]):=by
 unfold pL;refine Def.bd (Def.of (a:=false) (Q:=λr=>r=false) rfl rfl) (λb hb=>?_);subst hb;refine Def.c (λh=>by cases h) (λ_=>?_);refine Def.bd (zK8 e active he h1 h3) (λr hr=>?_);obtain ⟨st,x⟩:=r;obtain ⟨hx,hs,ha,hr0,_⟩:=hr;simp only at hx hs ha hr0;subst hx;refine Def.c (λh=>by cases h) (λ_=>?_);have hl:=zHe st hs;have hrl:=zDg 1 (sA st);let dk:zV:=⟨List.replicate 8 [],0,0,0,false⟩;have hok:zI5 dk:=⟨by decide,by decide,by decide⟩;have hw:=zD9 dk 1 (lF 1 (sA st)) hok rfl (by decide) (by omega) (by decide);have hwc:wrC dk (dk.Areas.getD 1 []) (lF 1 (sA st))=lF 1 (sA st):=by
  unfold wrC cN;rw [if_neg (show ¬ (dk.Writes+1=dk.CutAt) by decide),if_neg (show ¬ isC dk by unfold isC;decide),List.take_length,List.append_nil]
 rw [hwc,show zDl dk=0 from if_neg (show ¬ isC dk by unfold isC;decide)] at hw;have hcm:=zFd dk 1 (sA st) (by decide) (by decide) (by omega) hw;refine Def.bd (Def.of (Q:=λr=>r=dk) new8 rfl) (λr hr=>?_);subst hr;refine Def.bd (Def.of (Q:=λr=>r=sA st) (zLa st hs) rfl) (λp hp=>?_);subst hp;refine Def.bd (Def.of (Q:=λr=>r=(cX dk 1 (lF 1 (sA st)),0)) hcm rfl) (λr hr=>?_);subst hr;refine Def.c (λh=>by cases h) (λ_=>?_);refine Def.of (a:=(zDn ⟨cX dk 1 (lF 1 (sA st)),default,false,2⟩,0)) rfl ⟨rfl,⟨_,rfl⟩,st,?_,ha,hr0,λa ha=>(getD_set_ne (λh=>ha h.symm)).trans (zKi 8 a)⟩;have hj:=Jr.first 8 (sA st) (by decide) (by omega);refine ⟨⟨by show ((List.replicate 8 ([]:By)).set 1 (lF 1 (sA st))).length<=64;simp,by show (0:Int)<=0+1;decide,by show (0:Int)+1<2 ^ 60;decide⟩,by show (0:Int)+1<=((1:Nat):Int);decide,by decide,by show ((List.replicate 8 ([]:By)).set 1 (lF 1 (sA st))).length=8;simp,λi=>?_,hj,hs⟩;show (((List.replicate 8 ([]:By)).set 1 (lF 1 (sA st))).getD i []).length<2 ^ 39;by_cases hi:1=i
 ·subst hi;rw [vK (by simp)];omega
 ·rw [getD_set_ne hi];rw [zKi];decide
def dE (d:zD) (a:Nat) (y:By):zD:=⟨cX d.Disk a y,d.State,d.On,d.Next⟩
theorem zJ9 (d:zD) (x:zV):mM d x 0=some (⟨x,d.State,d.On,d.Next⟩,0):=rfl
theorem zMe (hal:∀ i,(as.getD i []).length<2 ^ 39) (hy:y.length<2 ^ 39) (ha:a<as.length):∀ i,((as.set a y).getD i []).length<2 ^ 39:=λi=>by
 by_cases hi:a=i
 ·subst hi;rw [vK ha];exact hy
 ·rw [getD_set_ne hi];exact hal i
theorem Dv.set (h:Dv d seq st vo m) (ha:2<=a) (h8:a<8) (hy:y.length<2 ^ 39) (hm:m+1<2 ^ 50):Dv (dE d a y) seq st vo (m+1):=by
 have hn:=h.n;have hok:=h.ok;have hm0:=h.m0;refine ⟨⟨⟨?_,?_,?_⟩,?_,hm,?_,?_,h.jr.other ha,h.sst⟩,h.on,?_,h.cut,h.s,h.nx⟩
 ·show (d.Disk.Areas.set a y).length<=64;simp;omega
 ·show 0<=d.Disk.Writes+1;have:=hok.w0;omega
 ·show d.Disk.Writes+1<2 ^ 60;omega
 ·show d.Disk.Writes+1<=((m+1:Nat):Int);omega
 ·show (d.Disk.Areas.set a y).length=8;simp [hn]
 ·exact zMe h.al hy (by omega)
 ·show decide (isC d.Disk)=false;exact decide_eq_false h.noC
theorem Dv.write (h:Dv d seq st vo m) (y:By) (h8:a<8) (hy:y.length<=65536):rO d (a:Int) y=some (dE d a y,0):=by
 have hw:=zD9 d.Disk a y h.ok h.off (by rw [h.n];exact h8) hy (by have:=h.al a;omega);have hc:=h.noC;have e:wrC d.Disk (d.Disk.Areas.getD a []) y=y:=by
  unfold wrC cN;rw [if_neg (show ¬ (d.Disk.Writes+1=d.Disk.CutAt) from hc),if_neg hc,List.take_length,List.append_nil]
 rw [e,show zDl d.Disk=0 from if_neg hc] at hw;unfold rO;exact bd hw (bd (zJ9 d _) rfl)
theorem Dv.append (h:Dv d seq st vo m) (y:By) (h8:a<8) (hy:y.length<=65536):jR d (a:Int) y=some (dE d a (d.Disk.Areas.getD a []++y),0):=by
 have hw:=zL1 d.Disk a y h.ok h.off (by rw [h.n];exact h8) hy (by have:=h.al a;omega);have hc:=h.noC;have e:apC d.Disk (d.Disk.Areas.getD a []) y=d.Disk.Areas.getD a []++y:=by
  unfold apC cN;rw [if_neg (show ¬ (d.Disk.Writes+1=d.Disk.CutAt) from hc),List.take_length]
 rw [e,show zDl d.Disk=0 from if_neg hc] at hw;unfold jR;exact bd hw (bd (zJ9 d _) rfl)
theorem Dv.read (h:Dv d seq st vo m) (h8:a<8):uI d.Disk (a:Int)=some (d.Disk.Areas.getD a [],0):=
 aX d.Disk a h.off (by rw [h.n];exact h8) (by have:=h.al a;omega)
set_option maxRecDepth 100000
def nmB (s:By):Bool:=decide (1<=s.length)&&decide (s.length<=12)&&s.all nameByte
def nameN (n:Nat):Bool:=(decide (97<=n)&&decide (n<=122))||(decide (48<=n)&&decide (n<=57))||decide (n=45)
theorem zLi:∀ n:Nat,n<256->(bif decide ((n:Int)<97) then (bif decide ((n:Int)<48) then (some ((n:Int) != 45)) else bif decide (57<(n:Int)) then (some ((n:Int) != 45)) else some false) else bif decide (122<(n:Int)) then (bif decide ((n:Int)<48) then (some ((n:Int) != 45)) else bif decide (57<(n:Int)) then (some ((n:Int) != 45)) else some false) else some false:Option Bool)=some (!nameN n):=by decide +kernel
theorem fF (s:By):pE s=some (nmB s):=by
 have hd:Def (pE s) (λr=>r=nmB s):=by
  unfold pE;refine Def.bd (P:=λb=>b=(decide (s.length<1)||decide (12<s.length))) ?_ (λb hb=>?_)
  ·refine Def.c (λh=>Def.s ?_) (λh=>Def.s ?_)
   ·have:=dT h;rw [show decide (s.length<1)=true by rw [decide_eq_true_iff];omega];rfl
   ·have:=dF h;rw [show decide (s.length<1)=false by rw [decide_eq_false_iff_not];omega,Bool.false_or];exact decide_eq_decide.2 (by omega)
  refine Def.c (λh=>Def.s ?_) (λh=>?_)
  ·rw [h] at hb;have hb':s.length<1∨12<s.length:=by
    have:=hb.symm;rw [Bool.or_eq_true,decide_eq_true_iff,decide_eq_true_iff] at this;exact this
   unfold nmB;rcases hb' with h1 | h1
   ·rw [show decide (1<=s.length)=false by rw [decide_eq_false_iff_not];omega];rfl
   ·rw [show decide (s.length<=12)=false by rw [decide_eq_false_iff_not];omega,Bool.and_false];rfl
  ·rw [h] at hb;have hb':1<=s.length/\s.length<=12:=by
    have:=hb.symm;rw [Bool.or_eq_false_iff,decide_eq_false_iff_not,decide_eq_false_iff_not] at this;omega
   have hn:nmB s=s.all nameByte:=by
    unfold nmB;rw [show decide (1<=s.length)=true by rw [decide_eq_true_iff];omega,show decide (s.length<=12)=true by rw [decide_eq_true_iff];omega];rfl
   rw [hn];refine Def.bd (dN s (mB s) (λi=>∀ h:i<s.length,nameByte s[i]=true) (λr=>r=false/\∃ i,∃ h:i<s.length,nameByte s[i]=false) (by omega) (λi hi=>?_) ?_) (λy hy=>?_)
   ·unfold mB;refine Def.c (λ_=>?_) (λh=>by have:=dF h;omega);refine Def.bd (Def.at' hi) (λc hc=>?_);subst hc;refine Def.bd (P:=λb=>b=!nameByte s[i]) (Def.of (zLi s[i].toNat s[i].toNat_lt) rfl) (λb hb=>?_);refine Def.c (λh=>Def.s ⟨rfl,i,hi,?_⟩) (λh=>Def.s ⟨vI (by omega),λ_=>?_⟩)
    ·rw [h] at hb;simpa using hb.symm
    ·rw [h] at hb;simpa using hb.symm
   ·unfold mB;exact cf (by simp) rfl
   ·cases y with
    | inl r=>
     obtain ⟨rfl,i,hi,hn⟩:=hy;refine Def.s ?_;symm;rw [List.all_eq_false];exact ⟨_,List.getElem_mem hi,by simp [hn]⟩
    | inr u=>
     refine Def.s ?_;symm;rw [List.all_eq_true];intro c hc;obtain ⟨i,hi,rfl⟩:=List.mem_iff_getElem.mp hc;exact hy i hi hi
 obtain ⟨r,hr,rfl⟩:=hd;exact hr
theorem zNu (s:By):dG s=some (nmB s):=rfl
def prB (c:UInt8):Bool:=decide (32<=c.toNat)&&decide (c.toNat<=126)
theorem zJ4:∀ n:Nat,n<256->(bif decide ((n:Int)<32) then (some true) else some (decide (126<(n:Int))):Option Bool)=some (!(decide (32<=n)&&decide (n<=126))):=by decide +kernel
theorem zFt (s:By) (hs:s.length<2 ^ 40):vQ s=some (s.all prB):=by
 have hd:Def (vQ s) (λr=>r=s.all prB):=by
  unfold vQ;refine Def.bd (dN s (sJ s) (λi=>∀ h:i<s.length,prB s[i]=true) (λr=>r=false/\∃ i,∃ h:i<s.length,prB s[i]=false) hs (λi hi=>?_) ?_) (λy hy=>?_)
  ·unfold sJ;refine Def.c (λ_=>?_) (λh=>by have:=dF h;omega);refine Def.bd (Def.at' hi) (λc hc=>?_);subst hc;refine Def.bd (P:=λb=>b=!prB s[i]) (Def.of (zJ4 s[i].toNat s[i].toNat_lt) rfl) (λb hb=>?_);refine Def.c (λh=>Def.s ⟨rfl,i,hi,?_⟩) (λh=>Def.s ⟨vI (by omega),λ_=>?_⟩)
   ·rw [h] at hb;simpa using hb.symm
   ·rw [h] at hb;simpa using hb.symm
  ·unfold sJ;exact cf (by simp) rfl
  ·cases y with
   | inl r=>
    obtain ⟨rfl,i,hi,hn⟩:=hy;refine Def.s ?_;symm;rw [List.all_eq_false];exact ⟨_,List.getElem_mem hi,by simp [hn]⟩
   | inr u=>
    refine Def.s ?_;symm;rw [List.all_eq_true];intro c hc;obtain ⟨i,hi,rfl⟩:=List.mem_iff_getElem.mp hc;exact hy i hi hi
 obtain ⟨r,hr,rfl⟩:=hd;exact hr
def rf:By->List By->By->List By
 | [],out,line=>if line=[] then out else []
 | c :: r,out,line=>if c=10 then (if line=[]∨4<=out.length then [] else rf r (out++[line]) []) else if prB c=true then rf r out (line++[c]) else []
theorem c10 (c:UInt8):((c.toNat:Int)==10)=decide (c=10):=by
 by_cases h:c=10
 ·subst h;rfl
 ·rw [decide_eq_false h,beq_eq_false_iff_ne];intro e;exact h (UInt8.toNat_inj.1 (by
                  have:c.toNat=10:=by omega
                  rw [this];rfl))
theorem zF9 (x:api_Image) (hx:x.Payload.length<2 ^ 20):∀ (rest:By) (fuel i:Nat) (out:List By) (line:By),rest.length<fuel->x.Payload.drop i=rest->i<=x.Payload.length->out.length<=4->line.length<=i ->
  ∃ y,zR (xE x) fuel (out,line,(i:Int))=some y/\(match y with | .inl r=>r=[]/\rf rest out line=[] | .inr (o,l)=>rf rest out line=if l=[] then o else [])
 | [],f+1,i,out,line,_,hd,hi,_,_=>by
  have hl:i=x.Payload.length:=by
   have:=congrArg List.length hd;simp at this;omega
  refine ⟨.inr (out,line),?_,rfl⟩;simp only [zR];have:xE x (out,line,(i:Int))=some (.inr (.inr (out,line))):=by
   unfold xE;exact cf (by simp;omega) rfl
  rw [this]
 | c :: r,f+1,i,out,line,hf,hd,hi,ho,hll=>by
  have hil:i<x.Payload.length:=by
   have:=congrArg List.length hd;simp at this;omega
  have hc:idx x.Payload (i:Int)=some c:=by
   rw [yS hil];have:=List.drop_eq_getElem_cons hil;rw [hd] at this;exact congrArg some (List.cons.inj this).1.symm
  have hr:x.Payload.drop (i+1)=r:=by
   have:=List.drop_eq_getElem_cons hil;rw [hd] at this;exact (List.cons.inj this).2.symm
  simp only [List.length_cons] at hf;simp only [zR];by_cases h10:c=10
  ·by_cases hb:line=[]∨4<=out.length
   ·refine ⟨.inl [],?_,rfl,by simp only [rf,if_pos h10,if_pos hb]⟩;have:xE x (out,line,(i:Int))=some (.inr (.inl [])):=by
     unfold xE;refine ct (dlt hil) (bd (a:=.inl []) (bd hc (ct (by rw [c10];simp [h10]) (bd (a:=true) ?_ (ct rfl rfl)))) rfl);by_cases h0:line=[]
     ·exact ct (by simp [h0]) rfl
     ·refine cf (by simp;exact h0) (congrArg some ?_);have:=hb.resolve_left h0;simp;omega
    rw [this]
   ·obtain ⟨y,hy,hy2⟩:=zF9 x hx r f (i+1) (out++[line]) [] (by omega) hr (by omega) (by have:¬ 4<=out.length:=λh=>hb (.inr h);simp;omega) (by simp);refine ⟨y,?_,?_⟩
    ·have:xE x (out,line,(i:Int))=some (.inl (out++[line],[],((i+1:Nat):Int))):=by
      have hb1:line≠[]:=λh=>hb (.inl h);have hb2:¬ 4<=out.length:=λh=>hb (.inr h);unfold xE;refine ct (dlt hil) (bd (a:=.inr (out++[line],[])) (bd hc (ct (by rw [c10];simp [h10]) (bd (a:=false) (cf (by simp;exact hb1) (congrArg some (by simp;omega))) (cf rfl (bd (yJ (by simp;omega)) rfl))))) ?_);rw [vI (show i<2 ^ 40 by omega)]
     rw [this];exact hy
    ·cases y with
     | inl r'=>simp only [rf,if_pos h10,if_neg hb];exact hy2
     | inr p=>simp only [rf,if_pos h10,if_neg hb];exact hy2
  ·have hp:(bif decide ((c.toNat:Int)<32) then (some true) else some (decide (126<(c.toNat:Int))):Option Bool)=some (!prB c):=zJ4 c.toNat c.toNat_lt;cases hpr:prB c with
   | false=>
    refine ⟨.inl [],?_,rfl,by simp only [rf,if_neg h10,hpr];rfl⟩;have:xE x (out,line,(i:Int))=some (.inr (.inl [])):=by
     unfold xE;refine ct (dlt hil) (bd (a:=.inl []) (bd hc (cf (by rw [c10];simp [h10]) (bd hp (ct (by rw [hpr];rfl) rfl)))) rfl)
    rw [this]
   | true=>
    obtain ⟨y,hy,hy2⟩:=zF9 x hx r f (i+1) out (line++[c]) (by omega) hr (by omega) ho (by simp;omega);refine ⟨y,?_,?_⟩
    ·have:xE x (out,line,(i:Int))=some (.inl (out,line++[c],((i+1:Nat):Int))):=by
      unfold xE;refine ct (dlt hil) (bd (a:=.inr (out,line++[c])) (bd hc (cf (by rw [c10];simp [h10]) (bd hp (cf (by rw [hpr];rfl) (bd (yJ (by simp;omega)) rfl))))) ?_);rw [vI (show i<2 ^ 40 by omega)]
     rw [this];exact hy
    ·cases y with
     | inl r'=>simp only [rf,if_neg h10,hpr,if_true];exact hy2
     | inr p=>simp only [rf,if_neg h10,hpr,if_true];exact hy2
theorem zBo (x:api_Image) (hx:x.Payload.length<2 ^ 20):uE x=some (rf x.Payload [] []):=by
 obtain ⟨y,hy,hy2⟩:=zF9 x hx x.Payload FU 0 [] [] (wN (by omega)) rfl (by omega) (by simp) (by simp);unfold uE;refine bd hy ?_;cases y with
 | inl r=>obtain ⟨rfl,h⟩:=hy2;rw [h]
 | inr p=>
  obtain ⟨o,l⟩:=p;simp only at hy2 ⊢;by_cases hl:l=[]
  ·rw [if_pos hl] at hy2;exact cf (by simp [hl]) (by rw [hy2])
  ·rw [if_neg hl] at hy2;exact ct (by have:=List.length_pos_iff.2 hl;simp;omega) (by rw [hy2])
set_option maxRecDepth 100000
theorem zH2:∀ l:By,(Lib.indexByte l 10=-1/\(10:UInt8)∉l)∨∃ w r,l=w++10 :: r/\(10:UInt8)∉w/\Lib.indexByte l 10=(w.length:Int)
 | []=>.inl ⟨rfl,by simp⟩
 | b :: l=>by
  by_cases hb:b=10
  ·subst hb;exact .inr ⟨[],l,rfl,by simp,by simp [Lib.indexByte]⟩
  ·have hne:(b==10)=false:=by rw [beq_eq_false_iff_ne];exact hb
   rcases zH2 l with ⟨h1,h2⟩ | ⟨w,r,h1,h2,h3⟩
   ·refine .inl ⟨by unfold Lib.indexByte;rw [hne,h1];rfl,?_⟩;simp only [List.mem_cons,not_or];exact ⟨λe=>hb e.symm,h2⟩
   ·refine .inr ⟨b :: w,r,by rw [h1];rfl,?_,?_⟩
    ·simp only [List.mem_cons,not_or];exact ⟨λe=>hb e.symm,h2⟩
    ·unfold Lib.indexByte;rw [hne,h3];have:((w.length:Int)==-1)=false:=by rw [beq_eq_false_iff_ne];omega
     simp only [this,List.length_cons];simp
theorem zJ2:∀ (w r:By) (out:List By) (line:By),(10:UInt8)∉w->rf (w++10 :: r) out line=if w.all prB=true then (if line++w=[]∨4<=out.length then [] else rf r (out++[line++w]) []) else []
 | [],r,out,line,_=>by simp [rf]
 | c :: w,r,out,line,h=>by
  simp only [List.mem_cons,not_or] at h;have hc:¬ c=10:=λe=>h.1 e.symm;simp only [List.cons_append,rf,if_neg hc];rw [zJ2 w r out (line++[c]) h.2];cases hp:prB c with
  | false=>simp [hp]
  | true=>simp [hp]
theorem zOb:∀ (w:By) (out:List By) (line:By),(10:UInt8)∉w->(w≠[]∨line≠[])->rf w out line=[]
 | [],out,line,_,h=>by simp only [rf];rw [if_neg (by simpa using h)]
 | c :: w,out,line,h,_=>by
  simp only [List.mem_cons,not_or] at h;have hc:¬ c=10:=λe=>h.1 e.symm;simp only [rf,if_neg hc];split
  ·exact zOb w out (line++[c]) h.2 (.inr (by simp))
  ·rfl
theorem zPq:∀ (n:Nat) (rest:By) (out:List By) (fuel:Nat),rest.length<=n->n<fuel->out.length<=4->rest.length<2 ^ 20 ->
  ∃ y,zR wJ fuel (out,rest)=some y/\(match y with | .inl r=>r=[]/\rf rest out []=[] | .inr o=>rf rest out []=o):=by
 intro n;induction n with
 | zero=>
  intro rest out fuel hn hf ho hl;obtain ⟨f,rfl⟩:∃ f,fuel=f+1:=⟨fuel - 1,by omega⟩;have:rest=[]:=List.eq_nil_of_length_eq_zero (by omega);subst this;refine ⟨.inr out,?_,rfl⟩;simp only [zR];have:wJ (out,[])=some (.inr (.inr out)):=by unfold wJ;exact cf rfl rfl
  rw [this]
 | succ n ih=>
  intro rest out fuel hn hf ho hl;obtain ⟨f,rfl⟩:∃ f,fuel=f+1:=⟨fuel - 1,by omega⟩;by_cases h0:rest=[]
  ·subst h0;refine ⟨.inr out,?_,rfl⟩;simp only [zR];have:wJ (out,[])=some (.inr (.inr out)):=by unfold wJ;exact cf rfl rfl
   rw [this]
  have hpos:0<rest.length:=List.length_pos_iff.2 h0;simp only [zR];have bad:∀ (v:Int),uS rest 10=some v->((bif decide (v<1) then (some true) else bif ((out.length:Int)==4) then (some true) else (sub rest 0 v).bind λv_1130=>(vQ v_1130).bind λv_1131=>some (!v_1131):Option Bool)=some true)->wJ (out,rest)=some (.inr (.inl [])):=by
   intro v hv hc;unfold wJ;exact ct (by simp;omega) (bd hv (bd hc (ct rfl rfl)))
  rcases zH2 rest with ⟨h1,h2⟩ | ⟨w,r,h1,h2,h3⟩
  ·refine ⟨.inl [],?_,rfl,zOb rest out [] h2 (.inl h0)⟩;rw [bad (-1) (by unfold uS;rw [h1]) (ct rfl rfl)]
  ·have hlen:rest.length=w.length+1+r.length:=by rw [h1];simp;omega
   have hib:uS rest 10=some (w.length:Int):=by unfold uS;rw [h3]
   have htk:(rest.drop 0).take (w.length - 0)=w:=by rw [h1];simp
   have hsub:sub rest 0 (w.length:Int)=some w:=by
    have:=tZ (l:=rest) (a:=0) (b:=w.length) (Nat.zero_le _) (by omega);rw [htk] at this;exact this
   have hpr:=zFt w (by omega);have hrf:=zJ2 w r out [] h2;rw [<- h1,List.nil_append] at hrf;by_cases hw:w=[]
   ·refine ⟨.inl [],?_,rfl,?_⟩
    ·rw [bad _ hib (ct (by simp [hw]) rfl)]
    ·rw [hrf,if_pos (show w=[]∨4<=out.length from .inl hw)];simp
   have hw1:0<w.length:=List.length_pos_iff.2 hw;by_cases h4:out.length=4
   ·refine ⟨.inl [],?_,rfl,?_⟩
    ·rw [bad _ hib (cf (by simp;omega) (ct (by simp [h4]) rfl))]
    ·rw [hrf,if_pos (show w=[]∨4<=out.length from .inr (by omega))];simp
   have hstep:(sub rest 0 (w.length:Int)).bind (λv_1130=>(vQ v_1130).bind λv_1131=>some (!v_1131))=some (!w.all prB):=bd hsub (bd hpr rfl);cases hp:w.all prB with
   | false=>
    refine ⟨.inl [],?_,rfl,by rw [hrf,hp];rfl⟩;rw [bad _ hib (cf (by simp;omega) (cf (by simp;omega) (hstep.trans (by rw [hp];rfl))))]
   | true=>
    obtain ⟨y,hy,hy2⟩:=ih r (out++[w]) f (by omega) (by omega) (by simp;omega) (by omega);have hr2:(rest.drop (w.length+1)).take (rest.length - (w.length+1))=r:=by
     rw [List.take_of_length_le (by simp)];rw [h1];simp
    have hsub2:sub rest (((w.length+1:Nat)):Int) (rest.length:Int)=some r:=by
     have:=tZ (l:=rest) (a:=w.length+1) (b:=rest.length) (by omega) (Nat.le_refl _);rw [hr2] at this;exact this
    have:wJ (out,rest)=some (.inl (out++[w],r)):=by
     unfold wJ;refine ct (by simp;omega) (bd hib (bd (a:=false) (cf (by simp;omega) (cf (by simp;omega) (hstep.trans (by rw [hp];rfl)))) (cf rfl ?_)));refine bd hsub (bd (yJ (by simp;omega)) ?_);rw [vI (show w.length<2 ^ 40 by omega)];exact bd hsub2 rfl
    rw [this];refine ⟨y,hy,?_⟩;rw [hrf,hp,if_pos rfl,if_neg (show ¬ (w=[]∨4<=out.length) by rintro (h | h);exact hw h;omega)];exact hy2
theorem zDv (x:api_Image) (hx:x.Payload.length<2 ^ 20):mJ x=uE x:=by
 rw [zBo x hx];obtain ⟨y,hy,hy2⟩:=zPq x.Payload.length x.Payload [] FU (Nat.le_refl _) (wN (by omega)) (by simp) hx;unfold mJ;refine bd hy ?_;cases y with
 | inl r=>obtain ⟨rfl,h⟩:=hy2;rw [h]
 | inr o=>simp only at hy2 ⊢;rw [hy2]
theorem gR (x:api_Image):tB x=uC x:=by
 unfold tB uC;rw [fF,zNu];refine congrArg _ (funext λv=>?_);cases v with
 | true=>rfl
 | false=>
  simp only [Option.bind_some,cond_false];cases nmB x.Name with
  | false=>rfl
  | true=>
   simp only [Bool.not_true,cond_false];cases h:decide (64<(x.Payload.length:Int)) with
   | true=>rfl
   | false=>
    rw [decide_eq_false_iff_not] at h;rw [zDv x (by omega)]
theorem zAw (x:api_Image):Def (uC x) (λr=>0<=r/\(r=0->1<=x.Role/\x.Role<=4/\0<=x.Version/\x.Version<=1000000/\x.Name.length<=12/\x.Payload.length<=64)):=by
 unfold uC;refine Def.bd (P:=λb=>b=(decide (x.Role<1)||decide (4<x.Role)||decide (x.Version<0)||decide (1000000<x.Version))) ?_ (λb hb=>?_)
 ·cases h1:decide (x.Role<1)<;>cases h2:decide (4<x.Role)<;>cases h3:decide (x.Version<0)<;>exact Def.s (by simp)
 refine Def.c (λh=>Def.s ⟨by decide,λh=>by cases h⟩) (λh=>?_);rw [h] at hb;have hb:=hb.symm;simp only [Bool.or_eq_false_iff,decide_eq_false_iff_not] at hb;refine Def.bd (Def.of (fF x.Name) (Q:=λr=>r=nmB x.Name) rfl) (λn hn=>?_);subst hn;refine Def.c (λh=>Def.s ⟨by decide,λh=>by cases h⟩) (λhn=>?_);refine Def.c (λh=>Def.s ⟨by decide,λh=>by cases h⟩) (λh=>?_);rw [decide_eq_false_iff_not] at h;refine Def.bd (P:=λ_=>True) ?_ (λb _=>?_)
 ·refine Def.c (λ_=>Def.bd (Def.of (zBo x (by omega)) (Q:=λ_=>True) trivial) (λ_ _=>Def.s trivial)) (λ_=>Def.s trivial)
 refine Def.c (λh=>Def.s ⟨by decide,λh=>by cases h⟩) (λ_=>Def.s ⟨by decide,λ_=>⟨by omega,by omega,by omega,by omega,?_,by omega⟩⟩);simp only [Bool.not_eq_false',nmB,Bool.and_eq_true,decide_eq_true_iff] at hn;exact hn.1.2
set_option maxRecDepth 100000
theorem zA6 {X X' Y Y':Type} {f:X->Option (X ⊕ Y)} {g:X'->Option (X' ⊕ Y')} (R:X->X'->Prop) (S:Y->Y'->Prop)
  (h:∀ x x',R x x'->(f x=none/\g x'=none)∨(∃ y y',f x=some (.inl y)/\g x'=some (.inl y')/\R y y')∨∃ y y',f x=some (.inr y)/\g x'=some (.inr y')/\S y y') :
  ∀ (fuel:Nat) (x:X) (x':X'),R x x'->(zR f fuel x=none/\zR g fuel x'=none)∨∃ y y',zR f fuel x=some y/\zR g fuel x'=some y'/\S y y'
 | 0,_,_,_=>.inl ⟨rfl,rfl⟩
 | n+1,x,x',hr=>by
  simp only [zR];rcases h x x' hr with ⟨h1,h2⟩ | ⟨y,y',h1,h2,h3⟩ | ⟨y,y',h1,h2,h3⟩
  ·rw [h1,h2];exact .inl ⟨rfl,rfl⟩
  ·rw [h1,h2];exact zA6 R S h n y y' h3
  ·rw [h1,h2];exact .inr ⟨y,y',rfl,rfl,h3⟩
def cJ (x:api_Image):Prop:=uC x=some 0
theorem qF.ok (h:qF x):cJ x:=zEd x h
theorem cJ.f (h:cJ x):1<=x.Role/\x.Role<=4/\0<=x.Version/\x.Version<=1000000/\x.Name.length<=12/\x.Payload.length<=64:=by
 obtain ⟨r,e,_,h2⟩:=zAw x;rw [h] at e;exact h2 (Option.some.inj e).symm
theorem zIz (l:List api_Image) (i:Nat) (hi:i<l.length) (h8:l.length<=8):zR (xZ l[i] (l.take i)) FU 0=zR (xW l (i:Int)) FU 0:=by
 have:=zA6 (f:=xZ l[i] (l.take i)) (g:=xW l (i:Int)) (λa b=>a=b/\∃ k:Nat,a=(k:Int)) (λa b=>a=b) ?_ FU 0 0 ⟨rfl,0,rfl⟩
 ·rcases this with ⟨a,b⟩ | ⟨y,y',a,b,rfl⟩
  ·rw [a,b]
  ·rw [a,b]
 ·rintro a _ ⟨rfl,k,rfl⟩;right;have hlen:(l.take i).length=i:=by simp;omega
  by_cases hk:k<i
  ·have hkl:k<l.length:=by omega
   have hx:idx (l.take i) (k:Int)=some l[k]:=by rw [yS (by omega)];simp
   have hg:((l[k]).Role==(l[i]).Role&&(l[k]).Name==(l[i]).Name)=true->xZ l[i] (l.take i) (k:Int)=some (.inr (.inl 42))/\xW l (i:Int) (k:Int)=some (.inr (.inl 42)):=by
    intro hb;rw [Bool.and_eq_true] at hb;constructor
    ·unfold xZ;exact ct (by rw [hlen];simp;omega) (bd hx (bd (a:=true) (ct hb.1 (congrArg some hb.2)) (ct rfl rfl)))
    ·unfold xW;exact ct (by simp;omega) (bd (a:=true) (bd (yS hkl) (bd (yS hi) (ct hb.1 (bd (yS hkl) (bd (yS hi) (congrArg some hb.2)))))) (ct rfl rfl))
   have hn:((l[k]).Role==(l[i]).Role&&(l[k]).Name==(l[i]).Name)=false->xZ l[i] (l.take i) (k:Int)=some (.inl ((k+1:Nat):Int))/\xW l (i:Int) (k:Int)=some (.inl ((k+1:Nat):Int)):=by
    intro hb;have hw:IntKind.i64.wrap ((k:Int)+1)=((k+1:Nat):Int):=vI (by omega);constructor
    ·unfold xZ;refine ct (by rw [hlen];simp;omega) (bd hx (bd (a:=false) ?_ (cf rfl (by rw [hw]))));cases hr:(l[k]).Role==(l[i]).Role with
     | false=>rfl
     | true=>rw [hr] at hb;exact congrArg some hb
    ·unfold xW;refine ct (by simp;omega) (bd (a:=false) (bd (yS hkl) (bd (yS hi) ?_)) (cf rfl (by rw [hw])));cases hr:(l[k]).Role==(l[i]).Role with
     | false=>rfl
     | true=>rw [hr] at hb;exact ct rfl (bd (yS hkl) (bd (yS hi) (congrArg some hb)))
   cases hb:((l[k]).Role==(l[i]).Role&&(l[k]).Name==(l[i]).Name) with
   | true=>exact .inr ⟨_,_,(hg hb).1,(hg hb).2,rfl⟩
   | false=>exact .inl ⟨_,_,(hn hb).1,(hn hb).2,rfl,k+1,rfl⟩
  ·refine .inr ⟨.inr (),.inr (),?_,?_,rfl⟩
   ·unfold xZ;exact cf (by rw [hlen];simp;omega) rfl
   ·unfold xW;exact cf (by simp;omega) rfl
theorem zFi (l:List api_Image) (i:Nat) (hi:i<l.length) (h8:l.length<=8):Def (zR (xW l (i:Int)) FU 0) (λr=>r=.inr ()∨r=.inl 42):=by
 refine Def.loop (λs=>∃ k:Nat,s=(k:Int)/\k<=i) (λs=>i - s.toNat) (λs hs=>?_) ⟨0,rfl,by omega⟩ (by simp;omega);obtain ⟨k,rfl,hk⟩:=hs;unfold xW;refine Def.c (λh=>?_) (λh=>Def.s (.inl rfl));have hki:=dT h;refine Def.bd (P:=λ_=>True) ?_ (λb _=>?_)
 ·refine Def.bd (Def.at' (show k<l.length by omega)) (λy _=>?_);refine Def.bd (Def.at' hi) (λz _=>?_);refine Def.c (λ_=>?_) (λ_=>Def.s trivial);refine Def.bd (Def.at' (show k<l.length by omega)) (λy _=>?_);exact Def.bd (Def.at' hi) (λz _=>Def.s trivial)
 refine Def.c (λ_=>Def.s (.inr rfl)) (λ_=>Def.s ?_);rw [vI (by omega)];exact ⟨⟨k+1,rfl,by omega⟩,by simp only [Int.toNat_natCast];omega⟩
theorem zKp {c:Bool} {o:Option Bool} (h:o=some b):(bif c then some true else o)=some (c||b):=by cases c<;>simp [h]
theorem zRf (l:List api_Image) (h8:l.length<=8) :
  ∃ y,xF l=xF l/\zR (xF l) FU (false,false,0)=some y/\(match y with
   | .inl r=>zR (xI l) FU (0,[false,false,false,false,false])=some (.inl r)/\0<r
   | .inr (fw,k)=>(∃ a b c,zR (xI l) FU (0,[false,false,false,false,false])=some (.inr [a,fw,b,k,c]))/\∀ x∈l,cJ x):=by
 have tot:Def (zR (xF l) FU (false,false,0)) (λy=>match y with | .inl r=>0<r | .inr _=>∀ x∈l,cJ x):=by
  refine Def.loop (λs=>∃ i:Nat,s.2.2=(i:Int)/\i<=l.length/\∀ x∈l.take i,cJ x) (λs=>l.length - s.2.2.toNat) (λs hs=>?_) ⟨0,rfl,by omega,by simp⟩ (by simp;omega);obtain ⟨f,k,i'⟩:=s;obtain ⟨i,g1,g2,g3⟩:=hs;simp only at g1;subst g1;unfold xF;refine Def.c (λh=>?_) (λh=>Def.s ?_)
  ·have hi:i<l.length:=by have:=dT h;omega
   refine Def.bd (Def.at' hi) (λy hy=>?_);subst hy;refine Def.bd ((zAw l[i]).get 0 |> λe=>(⟨_,e.1,⟨e.1,e.2.1⟩⟩:Def _ (λr=>uC l[i]=some r/\0<=r))) (λr hr=>?_);refine Def.c (λh=>Def.s ?_) (λh0=>?_)
   ·have:r≠0:=by simpa using h
    have:=hr.2;show 0<r;omega
   have h0':r=0:=by simpa using h0
   subst h0';refine Def.bd (P:=λ_=>True) ?_ (λb hb=>?_)
   ·refine Def.c (λh0=>?_) (λ_=>Def.s trivial);have h0':=dT h0;refine Def.bd (Def.at' hi) (λy hy=>?_);rw [yW (by omega) (by omega),show (i:Int) - 1=((i - 1:Nat):Int) by omega];exact Def.bd (Def.at' (show i - 1<l.length by omega)) (λy hy=>Def.s trivial)
   refine Def.c (λh=>Def.s (show (0:Int)<41 by decide)) (λ_=>?_);refine Def.bd (zFi l i hi h8) (λr' hr'=>?_);rcases hr' with rfl | rfl
   ·refine Def.bd (P:=λ_=>True) (Def.c (λ_=>Def.s trivial) (λ_=>Def.bd (Def.at' hi) (λy _=>Def.s trivial))) (λb1 _=>?_);refine Def.bd (P:=λ_=>True) (Def.c (λ_=>Def.s trivial) (λ_=>Def.bd (Def.at' hi) (λy _=>Def.s trivial))) (λb2 _=>Def.s ?_);rw [vI (by omega)];refine ⟨⟨i+1,rfl,by omega,λx hx=>?_⟩,by simp only [Int.toNat_natCast];omega⟩;rcases mD hi hx with hx | rfl
    ·exact g3 x hx
    ·exact hr.1
   ·exact Def.s (show (0:Int)<42 by decide)
  ·have:=dF h;rw [List.take_of_length_le (by omega)] at g3;exact g3
 obtain ⟨y,hy,hy2⟩:=tot;have sim:=zA6 (f:=xI l) (g:=xF l) (λs t=>∃ (i:Nat) (a b c:Bool),s=((i:Int),[a,t.1,b,t.2.1,c])/\t.2.2=(i:Int)/\i<=l.length)
  (λy z=>match y,z with | .inl r,.inl r'=>r=r' | .inr s,.inr t=>∃ a b c,s=[a,t.1,b,t.2,c] | _,_=>False) ?_ FU (0,[false,false,false,false,false]) (false,false,0) ⟨0,false,false,false,rfl,rfl,by omega⟩
 ·rcases sim with ⟨_,b⟩ | ⟨s,t,a,b,c⟩
  ·rw [hy] at b;cases b
  ·rw [hy] at b;obtain rfl:=Option.some.inj b;refine ⟨y,rfl,hy,?_⟩;cases y with
   | inl r=>
    cases s with
    | inl r'=>exact ⟨by rw [a,show r'=r from c],hy2⟩
    | inr _=>exact c.elim
   | inr t=>
    cases s with
    | inl _=>exact c.elim
    | inr s=>
     obtain ⟨x1,x2,x3,x4⟩:=c;exact ⟨⟨x1,x2,x3,by rw [a,x4]⟩,hy2⟩
 ·rintro ⟨s1,s2⟩ ⟨fw,k,i'⟩ ⟨i,a,b,c,e,rfl,hle⟩;obtain ⟨rfl,rfl⟩:=Prod.mk.inj e;right;by_cases hi:i<l.length
  ·have hd:decide ((i:Int)<(l.length:Int))=true:=by simp;omega
   obtain ⟨r,er,r0,hr⟩:=zAw l[i];have er':tB l[i]=some r:=(gR _).trans er;by_cases h0:r=0
   rotate_left
   ·refine .inr ⟨.inl r,.inl r,?_,?_,rfl⟩
    ·unfold xI;exact ct hd (bd (yS hi) (bd er' (ct (b1 h0) rfl)))
    ·unfold xF;exact ct hd (bd (yS hi) (bd er (ct (b1 h0) rfl)))
   obtain ⟨p1,p4,_⟩:=hr h0;subst h0;have ho:∃ o,(bif decide (0<(i:Int)) then (idx l (IntKind.i64.wrap ((i:Int) - 1))).bind λv_1235=>some (decide (l[i].Role<v_1235.Role)) else some false:Option Bool)=some o/\(bif decide (0<(i:Int)) then (idx l (i:Int)).bind λv_1313=>(idx l (IntKind.i64.wrap ((i:Int) - 1))).bind λv_1314=>some (decide (v_1313.Role<v_1314.Role)) else some false:Option Bool)=some o:=by
    cases hz:decide (0<(i:Int)) with
    | false=>exact ⟨false,rfl,rfl⟩
    | true=>
     have hz':0<(i:Int):=of_decide_eq_true hz;have hw:IntKind.i64.wrap ((i:Int) - 1)=((i - 1:Nat):Int):=by rw [yW (by omega) (by omega)];omega
     refine ⟨decide (l[i].Role<(l[i - 1]'(by omega)).Role),?_,?_⟩
     ·rw [hw];exact bd (yS (by omega)) rfl
     ·rw [hw];exact bd (yS hi) (bd (yS (by omega)) rfl)
   obtain ⟨o,o1,o2⟩:=ho;cases o with
   | true=>
    refine .inr ⟨.inl 41,.inl 41,?_,?_,rfl⟩
    ·unfold xI;exact ct hd (bd (yS hi) (bd er' (cf rfl (bd o1 (ct rfl rfl)))))
    ·unfold xF;exact ct hd (bd (yS hi) (bd er (cf rfl (bd o2 (ct rfl rfl)))))
   | false=>
    have hsub:sub l 0 (i:Int)=some (l.take i):=by
     have:=tZ (l:=l) (a:=0) (b:=i) (Nat.zero_le _) (by omega);simpa using this
    obtain ⟨z,ez,hz⟩:=zFi l i hi h8;have ez':=(zIz l i hi h8).trans ez;rcases hz with rfl | rfl
    rotate_left
    ·refine .inr ⟨.inl 42,.inl 42,?_,?_,rfl⟩
     ·unfold xI;exact ct hd (bd (yS hi) (bd er' (cf rfl (bd o1 (cf rfl (bd hsub (bd ez' rfl)))))))
     ·unfold xF;exact ct hd (bd (yS hi) (bd er (cf rfl (bd o2 (cf rfl (bd ez rfl))))))
    have hw:IntKind.i64.wrap ((i:Int)+1)=((i+1:Nat):Int):=vI (by omega);obtain ⟨n,hn⟩:=Int.eq_ofNat_of_zero_le (show 0<=l[i].Role by omega);have hn4:1<=n/\n<=4:=by omega
    have hix:ixN 5 l[i].Role=some n:=by rw [hn];simp [ixN];omega
    refine .inl ⟨(((i+1:Nat):Int),[a,fw,b,k,c].set n true),(fw||(l[i].Role==1),k||(l[i].Role==3),((i+1:Nat):Int)),?_,?_,?_⟩
    ·unfold xI;refine ct hd (bd (yS hi) (bd er' (cf rfl (bd o1 (cf rfl (bd hsub (bd ez' ?_)))))));refine bd hix (bd (a:=[a,fw,b,k,c].set n true) ?_ (by rw [hw]));simp [rN];omega
    ·unfold xF;refine ct hd (bd (yS hi) (bd er (cf rfl (bd o2 (cf rfl (bd ez ?_))))));refine bd (zKp (bd (yS hi) rfl)) (bd (zKp (bd (yS hi) rfl)) (by rw [hw]))
    ·rw [hn];have:n=1∨n=2∨n=3∨n=4:=by omega
     rcases this with rfl | rfl | rfl | rfl
     ·exact ⟨i+1,a,b,c,by simp,rfl,by omega⟩
     ·exact ⟨i+1,a,true,c,by simp,rfl,by omega⟩
     ·exact ⟨i+1,a,b,c,by simp,rfl,by omega⟩
     ·exact ⟨i+1,a,b,true,by simp,rfl,by omega⟩
  ·have hd:decide ((i:Int)<(l.length:Int))=false:=by simp;omega
   refine .inr ⟨.inr [a,fw,b,k,c],.inr (fw,k),?_,?_,a,b,c,rfl⟩
   ·unfold xI;exact cf hd rfl
   ·unfold xF;exact cf hd rfl
theorem zEz (l:List api_Image) (hl:l.length<2 ^ 40):Def (uG l) (λr=>xK l=some r/\0<=r/\(r=0->1<=l.length/\l.length<=8/\∀ x∈l,cJ x)):=by
 by_cases hb:l.length=0∨8<l.length
 ·have hc:(bif ((l.length:Int)==0) then (some true) else some (decide (8<(l.length:Int))):Option Bool)=some true:=by
   rcases hb with hb | hb
   ·exact ct (by simp [hb]) rfl
   ·exact cf (by rw [beq_eq_false_iff_ne];omega) (congrArg some (by simp;omega))
  refine ⟨1,?_,?_,by decide,λe=>by cases e⟩
  ·unfold uG;exact bd hc (ct rfl rfl)
  ·unfold xK;exact bd hc (ct rfl rfl)
 ·have hc:(bif ((l.length:Int)==0) then (some true) else some (decide (8<(l.length:Int))):Option Bool)=some false:=cf (by rw [beq_eq_false_iff_ne];omega) (congrArg some (by simp;omega));obtain ⟨y,_,hy,hy2⟩:=zRf l (by omega);cases y with
  | inl r=>
   refine ⟨r,?_,?_,Int.le_of_lt hy2.2,λe=>absurd e (by have:=hy2.2;omega)⟩
   ·unfold uG;exact bd hc (cf rfl (bd hy rfl))
   ·unfold xK;exact bd hc (cf rfl (bd hy2.1 rfl))
  | inr t=>
   obtain ⟨fw,k⟩:=t;obtain ⟨⟨a,b,c,h1⟩,h2⟩:=hy2;refine ⟨if fw&&k then 0 else 40,?_,?_,by split<;>decide,λ_=>⟨by omega,by omega,h2⟩⟩
   ·unfold uG;refine bd hc (cf rfl (bd hy ?_));cases fw<;>cases k<;>rfl
   ·unfold xK;refine bd hc (cf rfl (bd h1 ?_));cases fw<;>cases k<;>rfl
set_option maxRecDepth 100000
theorem zKj (x:api_Image) (h:x.Name.length<=65535) (h2:x.Payload.length<=65535):pG x=beN x.Role 1 1++(beN x.Version 4 4++(bl x.Name++(bl x.Payload++[]))):=by
 unfold pG bl;rw [zD3 _ h2,zD3 _ h];simp [qV]
theorem zCf (h:cJ x):(pG x).length<=85:=by
 obtain ⟨_,_,_,_,h5,h6⟩:=h.f;rw [zKj x (by omega) (by omega)];simp only [List.length_append,xB,uJ,List.length_nil];omega
theorem zQu (h:cJ x):pZ x=some (pG x):=by
 obtain ⟨_,_,_,_,h5,h6⟩:=h.f;unfold pZ;refine bd ((gR x).trans h) (cf rfl ?_);have h3:(qV (qV [] 1 x.Role) 4 x.Version).length=5:=by rw [tV,tV];rfl
 have h4:=zA3 (qV (qV [] 1 x.Role) 4 x.Version) x.Name;refine bd (qC [] 1 _ (by omega) (by omega) (by simp)) ?_;refine bd (qC _ 4 _ (by omega) (by omega) (by rw [tV];simp)) ?_;refine bd (ckT (zEf (by omega))) ?_;refine bd (fK _ _ (by omega)) ?_;exact bd (fK _ _ (by omega)) rfl
def fZ (l:List api_Image):By:=beN (l.length:Int) 1 1++l.flatMap λx=>bl (pG x)
structure zB8 (l:List api_Image):Prop where
 r:uG l=some 0
 p:xK l=some 0
 h1:1<=l.length
 h8:l.length<=8
 im:∀ x∈l,cJ x
theorem chOk (hl:l.length<2 ^ 40) (h:uG l=some 0):zB8 l:=by
 obtain ⟨r,e,h1,_,h2⟩:=zEz l hl;have:r=0:=Option.some.inj (e.symm.trans h);subst this;obtain ⟨a,b,c⟩:=h2 rfl;exact ⟨e,h1,a,b,c⟩
theorem kF.ok (h:kF l):zB8 l:=chOk (by have:=h.len;omega) (zJc l h)
theorem zJs (l:List api_Image) (h:∀ x∈l,cJ x):(l.flatMap λx=>bl (pG x)).length<=87*l.length:=by
 induction l with
 | nil=>simp
 | cons x l ih=>
  have h1:=zCf (h x (by simp));have h2:=ih λy hy=>h y (by simp [hy]);simp only [List.flatMap_cons,List.length_append,uJ,List.length_cons];omega
theorem kC (h:zB8 l):8<=(fZ l).length/\(fZ l).length<=697:=by
 have h1:=zJs l h.im;have h8:=h.h8;refine ⟨?_,by unfold fZ;rw [List.length_append,xB];omega⟩;obtain ⟨x,l',rfl⟩:∃ x l',l=x :: l':=by
  cases l with
  | nil=>exact absurd h.h1 (by decide)
  | cons x l'=>exact ⟨x,l',rfl⟩
 have:=(zH9 x).1;unfold fZ;simp only [List.flatMap_cons,List.length_append,uJ,xB];omega
theorem zM8 (hi:i<l.length):((l.take (i+1)).flatMap λx=>bl (pG x))=((l.take i).flatMap λx=>bl (pG x))++bl (pG l[i]):=by
 rw [List.take_add_one,List.flatMap_append];simp [hi]
theorem zO8 (h:∀ x∈l,cJ x) (i:Nat):((l.take i).flatMap λx=>bl (pG x)).length<=87*l.length:=by
 have:=zJs (l.take i) λx hx=>h x (List.mem_of_mem_take hx);have h2:(l.take i).length<=l.length:=by simp;omega
 omega
theorem zQt (h:zB8 l):uV l=some (fZ l):=by
 have h8:=h.h8;unfold uV;refine bd h.p (cf rfl (bd (wU [] 1 _ (by omega) (by omega) (by simp)) ?_));refine bd (a:=fZ l) (yM l.length (λi=>(beN (l.length:Int) 1 1++((l.take i).flatMap λx=>bl (pG x)),(i:Int))) (by simp) (λi hi=>?_) ?_ (wN (by omega))) ?_
 ·have hx:=h.im _ (List.getElem_mem hi);have ht:=zO8 h.im i;unfold rP;refine ct (by simp;omega) (bd (yS hi) (bd (zQu hx) (bd (wB _ _ ?_ (by have:=zCf hx;omega)) ?_)))
  ·rw [List.length_append,xB];omega
  ·rw [vI (by omega),zM8 hi,List.append_assoc]
 ·unfold rP;refine cf (by simp) ?_;rw [List.take_length];rfl
 ·rfl
theorem zWs (h:cJ x):lN (pG x)=some (x,0):=by
 obtain ⟨a1,a2,a3,a4,a5,a6⟩:=h.f;have hle:=zCf h;unfold lN;obtain ⟨r,g,e⟩:=zHu (pG x) (by omega);refine bd e ?_;rw [zKj x (by omega) (by omega)] at g;obtain ⟨r1,g,e⟩:=rdU (k:=1) g (by omega) (by omega) (by omega) (by omega) (by omega);refine bd e ?_;obtain ⟨r2,g,e⟩:=rdU (k:=4) g (by omega) (by omega) (by omega) (by omega) (by omega);refine bd e ?_;obtain ⟨r3,g,e⟩:=zM1 (k:=12) g (by omega) (by omega);refine bd e ?_;obtain ⟨r4,g,e⟩:=zM1 (k:=64) g (by omega) (by omega);refine bd e ?_;have hc:tB (api_Image.mk x.Role x.Name x.Version x.Payload)=some 0:=(gR x).trans h;exact bd (bd (rdE g) (cf rfl (bd hc rfl))) rfl
theorem zNq (b:By) (hb:b.length<2 ^ 30):∀ (m:List api_Image) (l:List api_Image) (r:RS) (fuel:Nat),m.length<fuel->(∀ x∈m,cJ x)->l.length+m.length<=8->87<=b.length∨(∀ x∈m,(pG x).length<=b.length)->Rd r (m.flatMap λx=>bl (pG x)) ->
  ∃ r',Rd r' []/\zR (wP b) fuel (l,(m.length:Int),r.W.b_,r.W.at_,r.W.e_)=some (.inr (l++m,r'.W.b_,r'.W.at_,r'.W.e_))
 | [],l,r,f+1,_,_,_,_,g=>by
  refine ⟨r,g,?_⟩;simp only [zR];have:wP b (l,(([]:List api_Image).length:Int),r.W.b_,r.W.at_,r.W.e_)=some (.inr (.inr (l,r.W.b_,r.W.at_,r.W.e_))):=by
   unfold wP;exact bd (cf rfl rfl) (cf rfl rfl)
  rw [this,List.append_nil]
 | x :: m,l,r,f+1,hf,hm,h8,hb2,g=>by
  have hx:=hm x (by simp);have hle:=zCf hx;simp only [List.length_cons] at hf h8;have g':Rd r (bl (pG x)++(m.flatMap λx=>bl (pG x))):=g.cast (by simp);have hxb:(pG x).length<=b.length:=by
   rcases hb2 with h | h
   ·omega
   ·exact h x (by simp)
  obtain ⟨r1,g1,e1⟩:=zM1 (k:=b.length) g' (by omega) hxb;obtain ⟨r2,g2,e2⟩:=zNq b hb m (l++[x]) r1 f (by omega) (λy hy=>hm y (by simp [hy])) (by simp;omega) (by
   rcases hb2 with h | h
   ·exact .inl h
   ·exact .inr λy hy=>h y (by simp [hy])) g1
  refine ⟨r2,g2,?_⟩;simp only [zR];have:wP b (l,((x :: m).length:Int),r.W.b_,r.W.at_,r.W.e_)=some (.inl (l++[x],(m.length:Int),r1.W.b_,r1.W.at_,r1.W.e_)):=by
   unfold wP;refine bd (a:=(true,r.W.b_,r.W.at_,r.W.e_)) (ct (by simp) (bd (zIq g) rfl)) (ct rfl ?_);refine bd e1 (bd (zWs hx) (cf rfl (bd (yJ (by simp;omega)) ?_)));rw [List.length_cons,yW (by omega) (by omega),show (((m.length+1:Nat):Int) - 1)=(m.length:Int) by omega]
  rw [this];simp only;rw [e2,List.append_assoc];rfl
theorem zLr:∀ x∈l,(pG x).length<=(fZ l).length:=by
 intro x hx;unfold fZ;rw [List.length_append];have:(bl (pG x)).length<=(l.flatMap λx=>bl (pG x)).length:=by
  induction l with
  | nil=>cases hx
  | cons y l ih=>
   rw [List.flatMap_cons,List.length_append];rcases List.mem_cons.1 hx with rfl | hx
   ·omega
   ·have:=ih hx;omega
 rw [uJ] at this;omega
theorem zVo (h:zB8 l):vN (fZ l)=some (l,0):=by
 have hl:=kC h;have h8:=h.h8;unfold vN;obtain ⟨r,g,e⟩:=zHu (fZ l) (by omega);refine bd e ?_;obtain ⟨r1,g,e⟩:=rdU (k:=1) (n:=(l.length:Int)) (r:=r) (rest:=l.flatMap λx=>bl (pG x)) g (by omega) (by omega) (by omega) (by omega) (by omega);refine bd e ?_;obtain ⟨r2,g2,e2⟩:=zNq (fZ l) (by omega) l [] r1 FU (wN (by omega)) h.im (by simpa using h8) (.inr zLr) g;refine bd e2 ?_;exact bd (bd (rdE g2) (cf rfl (bd h.p rfl))) (cf rfl rfl)
set_option maxRecDepth 100000
theorem zWp:tK 1=some ⟨[bnk 20,[]],0⟩:=by decide +kernel
theorem zX6:tK 2=some ⟨[[],bnk 32],0⟩:=by decide +kernel
theorem zYy:tK 3=some ⟨[bnk 20,bnk 32],0⟩:=by decide +kernel
theorem zPk (active:Int) (h1:1<=active) (h3:active<=3):tK active=some (zPm active):=by
 rcases act3 h1 h3 with rfl | rfl | rfl
 ·exact zWp
 ·exact zX6
 ·exact zYy
def sb (c0 c1:Bool):Int:=(if c0 then 1 else 0)+(if c1 then 2 else 0)
theorem ract (b0 b1:List By) (u:Int) (c0 c1:Bool) (h0:((b0.length:Int)==16)=c0) (h1:((b1.length:Int)==16)=c1):tW ⟨[b0,b1],u⟩=some (sb c0 c1):=by
 unfold tW;refine bd (a:=sb c0 c1) ?_ rfl;refine yM (x:=((0:Int),(0:Int))) 2 (λi=>match i with | 0=>((0:Int),(0:Int)) | 1=>(sb c0 false,1) | _=>(sb c0 c1,2)) rfl (λi hi=>?_) ?_ (wN (by omega))
 ·have:i=0∨i=1:=by omega
  rcases this with rfl | rfl
  ·show vT _ (0,0)=some (.inl (sb c0 false,1));unfold vT;refine ct rfl ?_;refine bd (a:=sb c0 false) (bd (a:=c0) (ct rfl (bd (a:=b0) rfl (by rw [h0]))) ?_) rfl;cases c0<;>rfl
  ·show vT _ (sb c0 false,1)=some (.inl (sb c0 c1,2));unfold vT;refine ct rfl ?_;refine bd (a:=sb c0 c1) (bd (a:=c1) (ct rfl (bd (a:=b1) rfl (by rw [h1]))) ?_) rfl;cases c0<;>cases c1<;>rfl
 ·rfl
theorem zYs (b0 b1:List By) (u:Int) (c0 c1:Bool) (h0:((b0.length:Int)==16)=c0) (h1:((b1.length:Int)==16)=c1):vY ⟨[b0,b1],u⟩ 0=some c0/\vY ⟨[b0,b1],u⟩ 1=some c1:=by
 have h:=ract b0 b1 u c0 c1 h0 h1;unfold vY;constructor
 ·refine bd h ?_;cases c0<;>cases c1<;>rfl
 ·refine bd h ?_;cases c0<;>cases c1<;>rfl
theorem zM2 (r:zE) (b0 b1:List By) (hb:r.Banks=[b0,b1]) (l0:b0.length<=16) (l1:b1.length<=16) (h0:∀ x∈b0,x.length<=32) (h1:∀ x∈b1,x.length<=32):oL r=some (b0,b1,r.Updates):=by
 unfold oL;rw [hb];refine ct rfl ?_;refine bd (a:=b0) rfl ?_;refine bd (a:=b0) ?_ ?_
 ·refine yM b0.length (λi=>(b0.take i,(i:Int))) (by simp) (λi hi=>?_) ?_ (wN (by omega))
  ·unfold oP;refine ct (dlt hi) ?_;refine bd (yS hi) ?_;refine bd (yJ (by have:=h0 _ (List.getElem_mem hi);simp;omega)) ?_;refine bd (yJ (by simp;omega)) ?_;rw [vI (show i<2 ^ 40 by omega),List.take_add_one];simp [hi]
  ·unfold oP;refine cf (dge (Nat.le_refl _)) ?_;simp
 refine ct rfl ?_;refine bd (a:=b1) rfl ?_;refine bd (a:=(b1,b0)) ?_ ?_
 ·refine yM b1.length (λi=>(b1.take i,(i:Int),b0)) (by simp) (λi hi=>?_) ?_ (wN (by omega))
  ·unfold oS;refine ct (dlt hi) ?_;refine bd (yS hi) ?_;refine bd (yJ (by have:=h1 _ (List.getElem_mem hi);simp;omega)) ?_;refine bd (yJ (by simp;omega)) ?_;rw [vI (show i<2 ^ 40 by omega),List.take_add_one];simp [hi]
  ·unfold oS;refine cf (dge (Nat.le_refl _)) ?_;simp
 exact cf rfl rfl
set_option maxRecDepth 100000
theorem zHr (b:By) (hb:b.length<2 ^ 40):xH ((0:Nat):Int) b=some (zAs b):=zNn b hb
theorem zG6 (b:By) (hb:b.length<2 ^ 40):xH ((1:Nat):Int) b=some (sha b):=zFr b hb
theorem zG4 (r:zE) (active:Int) (e:zB) (hr:zG8 active r) (he:EvGood e active) (hk:e.Kind≠5):Def (rU r 0 e.Register e.Digests) (λx=>x=(ext active e r,0)):=by
 obtain ⟨⟨b0,b1,hb,l0,l1,m0,m1⟩⟩:=hr;obtain ⟨r0,r1,_,dl,f0,f1⟩:=he;obtain ⟨bs,u⟩:=r;simp only at hb;subst hb;have l0':b0.length<=16:=by rw [l0];split<;>omega
 have l1':b1.length<=16:=by rw [l1];split<;>omega
 unfold Fit at f0 f1;have f0':((e.Digests.getD 0 []).length:Int)<=32:=by rw [f0];split<;>decide
 have f1':((e.Digests.getD 1 []).length:Int)<=32:=by rw [f1];split<;>decide
 have g0:∀ d∈e.Digests,d.length<=32:=by
  intro d hd;obtain ⟨i,hi,rfl⟩:=List.mem_iff_getElem.mp hd;have hi2:i=0∨i=1:=by omega
  rcases hi2 with rfl | rfl
  ·have:(e.Digests.getD 0 [])=e.Digests[0]:=by simp [hi]
   rw [<- this];omega
  ·have:(e.Digests.getD 1 [])=e.Digests[1]:=by simp [hi]
   rw [<- this];omega
 have i0:idx e.Digests 0=some (e.Digests.getD 0 []):=zO5 (i:=0) (by omega);have i1:idx e.Digests 1=some (e.Digests.getD 1 []):=zO5 (i:=1) (by omega);obtain ⟨a0,a1⟩:=zYs b0 b1 u (uR active 0) (uR active 1) (by rw [l0];cases uR active 0<;>rfl) (by rw [l1];cases uR active 1<;>rfl);unfold rU;refine Def.bd (P:=λb=>b=false) ?_ (λb hb=>?_)
 ·refine Def.c (λh=>by cases h) (λ_=>Def.c (λh=>by cases h) (λ_=>?_));refine Def.bd (P:=λb=>b=true) ?_ (λb hb=>?_)
  ·unfold qW;refine Def.bd (P:=λb=>b=true) ?_ (λb hb=>Def.s hb);refine Def.c (λ_=>Def.s ?_) (λh=>?_)
   ·rw [decide_eq_true_iff];omega
   ·have:=dF h;omega
  subst hb;refine Def.c (λh=>by cases h) (λ_=>Def.s ?_);simp;omega
 subst hb;refine Def.c (λh=>by cases h) (λ_=>?_);refine Def.bd (P:=λn=>n=0) ?_ (λn hn=>?_)
 ·unfold mP;refine Def.bd (P:=λb=>b=false) (Def.s rfl) (λb hb=>?_);subst hb;refine Def.c (λh=>by cases h) (λ_=>?_);have e14:(e.Register==14)=false:=by simp;omega
  have e15:(e.Register==15)=false:=by simp;omega
  rw [e14,e15];exact Def.s rfl
 subst hn;refine Def.c (λh=>by cases h) (λ_=>?_);refine Def.bd (P:=λr=>r=.inr ()) ?_ (λr hr=>?_)
 ·refine Def.loop (λs=>s=0∨s=1∨s=2) (λs=>2 - s.toNat) (λs hs=>?_) (.inl rfl) (by simp);unfold lB;refine Def.c (λh=>?_) (λh=>Def.s rfl);rcases hs with rfl | rfl | rfl
  ·refine Def.bd (P:=λd=>d=e.Digests.getD 0 []) (Def.of i0 rfl) (λd hd=>?_);refine Def.bd (P:=λb=>b=false) ?_ (λb hb=>?_)
   ·refine Def.bd (P:=λb=>b=uR active 0) (Def.of a0 rfl) (λb hb=>?_);subst hb;refine Def.c (λh=>Def.s ?_) (λ_=>Def.s rfl);have hh:uR active 0=false:=by simpa using h
    rw [if_neg (by show ¬ (e.Kind≠5/\uR active 0=true);rw [hh];simp)] at f0;rw [decide_eq_false_iff_not,hd];omega
   subst hb;exact Def.s ⟨.inr (.inl rfl),by decide⟩
  ·refine Def.bd (P:=λd=>d=e.Digests.getD 1 []) (Def.of i1 rfl) (λd hd=>?_);refine Def.bd (P:=λb=>b=false) ?_ (λb hb=>?_)
   ·refine Def.bd (P:=λb=>b=uR active 1) (Def.of a1 rfl) (λb hb=>?_);subst hb;refine Def.c (λh=>Def.s ?_) (λ_=>Def.s rfl);have hh:uR active 1=false:=by simpa using h
    rw [if_neg (by show ¬ (e.Kind≠5/\uR active 1=true);rw [hh];simp)] at f1;rw [decide_eq_false_iff_not,hd];omega
   subst hb;exact Def.s ⟨.inr (.inr rfl),by decide⟩
  ·have:=dT h;omega
 subst hr;refine Def.bd (P:=λr=>r=.inr ()) ?_ (λr hr=>?_)
 ·refine Def.loop (λs=>s=0∨s=1∨s=2) (λs=>2 - s.toNat) (λs hs=>?_) (.inl rfl) (by simp);unfold mZ;refine Def.c (λh=>?_) (λh=>Def.s rfl);rcases hs with rfl | rfl | rfl
  ·refine Def.bd (P:=λd=>d=e.Digests.getD 0 []) (Def.of i0 rfl) (λd hd=>?_);refine Def.bd (P:=λb=>b=false) ?_ (λb hb=>?_)
   ·refine Def.bd (P:=λb=>b=uR active 0) (Def.of a0 rfl) (λb hb=>?_);subst hb;refine Def.c (λh=>?_) (λ_=>Def.s rfl);refine Def.bd (P:=λd=>d=siz 0) (Def.of (iV 0) rfl) (λz hz=>Def.s ?_);rw [if_pos ⟨hk,h⟩] at f0;rw [hd,hz];simp;exact f0
   subst hb;exact Def.s ⟨.inr (.inl rfl),by decide⟩
  ·refine Def.bd (P:=λd=>d=e.Digests.getD 1 []) (Def.of i1 rfl) (λd hd=>?_);refine Def.bd (P:=λb=>b=false) ?_ (λb hb=>?_)
   ·refine Def.bd (P:=λb=>b=uR active 1) (Def.of a1 rfl) (λb hb=>?_);subst hb;refine Def.c (λh=>?_) (λ_=>Def.s rfl);refine Def.bd (P:=λd=>d=siz 1) (Def.of (iV 1) rfl) (λz hz=>Def.s ?_);rw [if_pos ⟨hk,h⟩] at f1;rw [hd,hz];simp;exact f1
   subst hb;exact Def.s ⟨.inr (.inr rfl),by decide⟩
  ·have:=dT h;omega
 subst hr;refine Def.bd (P:=λx=>x=(b0,b1,u)) (Def.of (zM2 _ b0 b1 rfl l0' l1' m0 m1) rfl) (λx hx=>?_);subst hx;obtain ⟨rn,hrn⟩:=Int.eq_ofNat_of_zero_le r0;have one:∀ (a:Nat) (bk:List By) (f:By->By) (hbk:idx [b0,b1] (a:Int)=some bk) (h2:a<2) (h16:bk.length=16) (mm:∀ x∈bk,x.length<=32) (hf:∀ z,z.length<2 ^ 40->xH (a:Int) z=some (f z)),
   Def ((idx [b0,b1] (a:Int)).bind λv=>(idx v e.Register).bind λw=>(yP 1 [] w).bind λw'=>(idx e.Digests (a:Int)).bind λd=>(yP 1 w' d).bind λz=>(xH (a:Int) z).bind λs=>(ixN bk.length e.Register).bind λj=>(rN bk j s).bind λl=>some l)
    (λb=>b=upR true bk e.Register (λx=>f (x++e.Digests.getD a []))):=by
  intro a bk f hbk h2 h16 mm hf;rw [hrn];refine Def.bd (P:=λv=>v=bk) (Def.of hbk rfl) (λv hv=>?_);subst hv;have:=zJk mm rn;refine Def.bd (P:=λx=>x=v.getD rn []) (Def.of (zO5 (by omega)) rfl) (λx hx=>?_);subst hx;refine Def.bd (Def.app (by simp only [List.length_nil];omega)) (λy hy=>?_);rw [List.nil_append] at hy;subst hy;have:=zJk g0 a;refine Def.bd (P:=λd=>d=e.Digests.getD a []) (Def.of (zO5 (by omega)) rfl) (λd hd=>?_);subst hd;refine Def.bd (Def.app (by omega)) (λz hz=>?_);have hzl:z.length<2 ^ 40:=by rw [hz,List.length_append];omega
  refine Def.bd (P:=λs=>s=f z) (Def.of (hf z hzl) rfl) (λs hs=>?_);refine Def.bd (Def.ixN (by omega) (by omega)) (λj hj=>?_);refine Def.bd (Def.upd hj.2) (λq hq=>Def.s ?_);rw [hq,hj.1,hs,hz];rfl
 refine Def.bd (P:=λb=>b=upR (uR active 0) b0 e.Register (λx=>zAs (x++e.Digests.getD 0 []))) ?_ (λc0 hc0=>?_)
 ·refine Def.bd (P:=λb=>b=uR active 0) (Def.of a0 rfl) (λb hb=>?_);subst hb;refine Def.c (λh=>?_) (λh=>Def.s (by rw [h];rfl));rw [if_pos h] at l0;rw [h];exact one 0 b0 zAs rfl (by omega) l0 m0 zHr
 refine Def.bd (P:=λb=>b=upR (uR active 1) b1 e.Register (λx=>sha (x++e.Digests.getD 1 []))) ?_ (λc1 hc1=>?_)
 ·refine Def.bd (P:=λb=>b=uR active 1) (Def.of a1 rfl) (λb hb=>?_);subst hb;refine Def.c (λh=>?_) (λh=>Def.s (by rw [h];rfl));rw [if_pos h] at l1;rw [h];exact one 1 b1 sha rfl (by omega) l1 m1 zG6
 exact Def.s (by rw [hc0,hc1];rfl)
set_option maxRecDepth 100000
theorem zHh (on:Bool) (active:Int) (data:By) (hd:data.length<2 ^ 40) (step:(Int×List By)->Option ((Int×List By) ⊕ List By))
  (h0:∀ v,step (0,v)=((bif (on&&uR active 0) then ((xH 0 data).bind λs=>(ixN 2 0).bind λj=>(rN v j s).bind λw=>some w) else some v:Option (List By)).bind λw=>some (.inl (1,w))))
  (h1:∀ v,step (1,v)=((bif (on&&uR active 1) then ((xH 1 data).bind λs=>(ixN 2 1).bind λj=>(rN v j s).bind λw=>some w) else some v:Option (List By)).bind λw=>some (.inl (2,w))))
  (h2:∀ v,step (2,v)=some (.inr v)):zR step FU (0,[[],[]])=some (dgE active on data):=by
 unfold dgE;refine two (b:=(1,[if (on&&uR active 0)=true then zAs data else [],[]])) (c:=(2,[if (on&&uR active 0)=true then zAs data else [],if (on&&uR active 1)=true then sha data else []])) ?_ ?_ (h2 _)
 ·rw [h0];refine bd (a:=[if (on&&uR active 0)=true then zAs data else [],[]]) ?_ rfl;refine (zN8 (a:=0) rfl (by omega) (zHr data hd)).trans ?_;cases (on&&uR active 0)<;>rfl
 ·rw [h1];refine bd (a:=[if (on&&uR active 0)=true then zAs data else [],if (on&&uR active 1)=true then sha data else []]) ?_ rfl;refine (zN8 (a:=1) rfl (by omega) (zG6 data hd)).trans ?_;cases (on&&uR active 1)<;>rfl
theorem zAj {a:Bool} {x:Option Bool} {f:Bool->Option α} {r:Option α} (hx:x=some b) (h:f (a&&b)=r):(bif a then x else some false).bind f=r:=by
 cases a
 ·exact h
 ·subst hx;exact h
theorem zDc (reg kind active:Int) (data:By) (hd:data.length<2 ^ 40):tM reg kind active data=some (mkE reg kind active data):=by
 unfold tM mkE;refine bd (a:=data) (by unfold bytes_Clone;exact ct (zEf (by omega)) rfl) ?_;refine bd (zHh (kind != 5) active data hd _ (λv=>?_) (λv=>?_) (λv=>?_)) (bd (ckT rfl) rfl)
 ·unfold nY;refine ct rfl ?_;refine congrArg (λo:Option (List By)=>o.bind _) ?_;exact zAj (bd (ckT rfl) rfl) rfl
 ·unfold nY;refine ct rfl ?_;refine congrArg (λo:Option (List By)=>o.bind _) ?_;exact zAj (bd (ckT rfl) rfl) rfl
 ·unfold nY;exact cf rfl rfl
theorem zHc (x:api_Image) (active:Int) (h:cJ x):nS x active=some (dgE active true (pG x)):=by
 have hl:=zH9 x;unfold nS;refine bd (zQu h) ?_;have hp:decide (0<((pG x).length:Int))=true:=by simp;omega
 refine bd (zHh true active (pG x) (by omega) _ (λv=>?_) (λv=>?_) (λv=>?_)) (bd (ckT rfl) rfl)
 ·unfold rY;refine ct rfl ?_;refine congrArg (λo:Option (List By)=>o.bind _) ?_;rw [hp];exact zAj (bd (ckT rfl) rfl) rfl
 ·unfold rY;refine ct rfl ?_;refine congrArg (λo:Option (List By)=>o.bind _) ?_;rw [hp];exact zAj (bd (ckT rfl) rfl) rfl
 ·unfold rY;exact cf rfl rfl
theorem zQk {r:Int} (h1:1<=r) (h4:r<=4):r=1∨r=2∨r=3∨r=4:=by omega
theorem zOy {r:Int} (h1:1<=r) (h4:r<=4):wR r=some (rgR r):=by
 rcases zQk h1 h4 with rfl | rfl | rfl | rfl<;>rfl
theorem eX (x:api_Image) (active:Int) (h:cJ x) (h4:x.Role≠4):uB x active=some (imE active x):=by
 obtain ⟨a1,a2,a3,a4,a5,a6⟩:=h.f;have hd:=zD0 20 x.Version.toNat;unfold uB imE lbl;refine bd (a:=false) (bd ((gR x).trans h) (cf rfl (congrArg some (by rw [beq_eq_false_iff_ne];exact h4)))) (cf rfl ?_);refine bd (zOy a1 a2) (bd (zHc x active h) (bd (ckT (zEf (by simp;omega))) ?_));refine bd (a:=decF 20 x.Version.toNat) (by unfold strconv_Itoa;exact ct (by simp;omega) rfl) ?_;refine bd (ckT (zEf (by simp only [List.length_append,List.length_cons,List.length_nil];omega))) (bd (ckT (zEf (by simp only [List.length_append,List.length_cons,List.length_nil];omega))) rfl)
theorem zD5 (hi:i<l.length):evR active role (l.take (i+1))=evR active role (l.take i)++(if l[i].Role=role then (if role=4 then (zEh l[i]).map (mkE 9 3 active) else [imE active l[i]]) else []):=by
 unfold evR;rw [List.take_add_one,List.flatMap_append];simp [hi]
theorem sQ (hi:i<l.length) (h:l[i].Role≠role):evR active role (l.take (i+1))=evR active role (l.take i):=by
 rw [zD5 hi,if_neg h,List.append_nil]
theorem zF5 (hi:i<l.length) (h:l[i].Role=role) (h4:role≠4):evR active role (l.take (i+1))=evR active role (l.take i)++[imE active l[i]]:=by
 rw [zD5 hi,if_pos h,if_neg h4]
theorem zP6 (hi:i<l.length) (h:l[i].Role=4):evR active 4 (l.take (i+1))=evR active 4 (l.take i)++(zEh l[i]).map (mkE 9 3 active):=by
 rw [zD5 hi,if_pos h,if_pos rfl]
theorem zIy (active:Int) (x:api_Image) (hx:x.Role=4) (L:List By) (hl:L.length<=4) (h8:∀ l∈L,l.length<=8) (a b c d e:List zB) (he:e.length<=100) :
  zR (sZ active x L) FU (0,a,b,c,d,e)=some (a,b,c,d,e++L.map (mkE 9 3 active)):=by
 refine yM L.length (λi=>((i:Int),a,b,c,d,e++(L.map (mkE 9 3 active)).take i)) (by simp) (λi hi=>?_) ?_ (wN (by omega))
 ·have:=h8 _ (List.getElem_mem hi);have hreg:wR x.Role=some 9:=by rw [hx];rfl
  unfold sZ;refine ct (dlt hi) (bd (yS hi) ?_);refine bd (a:=(a,b,c,d,e++(L.map (mkE 9 3 active)).take (i+1))) (cf (by rw [hx];rfl) (cf (by rw [hx];rfl) (cf (by rw [hx];rfl) (cf (by rw [hx];rfl) (ct (by rw [hx];rfl) ?_))))) (by rw [vI (by omega)]);refine bd hreg (bd (zDc _ 3 active _ (by omega)) (bd (yJ (by simp;omega)) ?_));rw [List.take_add_one,List.append_assoc];simp [hi]
 ·unfold sZ;refine cf (dge (Nat.le_refl _)) ?_;rw [List.take_of_length_le (by simp)]
theorem zK7 (active:Int) (out:List zB) (h:out.length<=100):zR (rB active) FU (out,0)=some (out++zEp active):=by
 refine yM 8 (λi=>(out++(zEp active).take i,(i:Int))) (by simp) (λi hi=>?_) ?_ (wN (by decide))
 ·unfold rB;refine ct (by simp;omega) ?_;refine bd (a:=4) rfl ?_;refine bd (zDc _ 2 active _ (by decide)) ?_;refine bd (yJ (by simp [zEp];omega)) ?_;rw [vI (by omega),List.take_add_one,List.append_assoc];have:(zEp active)[i]? = some (mkE (i:Int) 2 active [0,0,0,0]):=by simp [zEp,hi]
  rw [this];rfl
 ·unfold rB;refine cf rfl ?_;rw [List.take_of_length_le (by rw [zDj];omega)]
theorem zHm (l:List api_Image) (active:Int) (hl:l.length<=8) (him:∀ x∈l,qF x):zR (rA l active) FU (0,[],[],[],[],[])=some ([],evR active 1 l,evR active 2 l,evR active 3 l,evR active 4 l):=by
 refine yM l.length (λi=>((i:Int),[],evR active 1 (l.take i),evR active 2 (l.take i),evR active 3 (l.take i),evR active 4 (l.take i))) (by simp [evR]) (λi hi=>?_) ?_ (wN (by omega))
 ·have hg:=him _ (List.getElem_mem hi);have hle:=λrole=>zPu active role (l.take i) (λx hx=>him x (List.mem_of_mem_take hx));have hlt:(l.take i).length<=8:=by simp;omega
  have e1:=hle 1;have e2:=hle 2;have e3:=hle 3;have e4:=hle 4;have hw:IntKind.i64.wrap ((i:Int)+1)=((i+1:Nat):Int):=vI (by omega);unfold rA;refine ct (dlt hi) ?_;rcases zQk hg.r1 hg.r4 with hr | hr | hr | hr
  ·rw [zF5 hi hr (by decide),sQ hi (show l[i].Role≠2 by omega),sQ hi (show l[i].Role≠3 by omega),sQ hi (show l[i].Role≠4 by omega)];refine bd (bd (yS hi) (ct (by rw [hr];rfl) (bd (cf (by rw [hr];rfl) (ct (by rw [hr];rfl) (bd (eX _ active hg.ok (by omega)) (bd (yJ (by simp only [List.length_singleton];omega)) rfl)))) rfl))) (by rw [hw])
  ·rw [zF5 hi hr (by decide),sQ hi (show l[i].Role≠1 by omega),sQ hi (show l[i].Role≠3 by omega),sQ hi (show l[i].Role≠4 by omega)];refine bd (bd (yS hi) (ct (by rw [hr];rfl) (bd (cf (by rw [hr];rfl) (cf (by rw [hr];rfl) (ct (by rw [hr];rfl) (bd (eX _ active hg.ok (by omega)) (bd (yJ (by simp only [List.length_singleton];omega)) rfl))))) rfl))) (by rw [hw])
  ·rw [zF5 hi hr (by decide),sQ hi (show l[i].Role≠1 by omega),sQ hi (show l[i].Role≠2 by omega),sQ hi (show l[i].Role≠4 by omega)];refine bd (bd (yS hi) (ct (by rw [hr];rfl) (bd (cf (by rw [hr];rfl) (cf (by rw [hr];rfl) (cf (by rw [hr];rfl) (ct (by rw [hr];rfl) (bd (eX _ active hg.ok (by omega)) (bd (yJ (by simp only [List.length_singleton];omega)) rfl)))))) rfl))) (by rw [hw])
  ·rw [zP6 hi hr,sQ hi (show l[i].Role≠1 by omega),sQ hi (show l[i].Role≠2 by omega),sQ hi (show l[i].Role≠3 by omega)];obtain ⟨q1,q2,q3⟩:=zIs _ hg hr;have hp:=hg.p;have q4:=(zDv l[i] (by omega)).trans q1;refine bd (bd (yS hi) (cf (by rw [hr];rfl) (bd q4 (bd (zIy active l[i] hr _ q2 (λl hl=>(q3 l hl).2.1) _ _ _ _ _ (by omega)) rfl)))) (by rw [hw])
 ·unfold rA;refine cf (dge (Nat.le_refl _)) ?_;simp
theorem zJa (l:List api_Image) (active:Int) (h:kF l) (h1:1<=active) (h3:active<=3):uL l active=some (evs l active):=by
 have hl:=h.len;have hb:=zKf active l h.im;have hsl:=zDj active;unfold uL;refine bd (a:=false) (cf (by simp;omega) (cf (by simp;omega) (bd h.ok.p rfl))) (cf rfl ?_);refine bd (zHm l active hl h.im) ?_;refine bd (yJ (by omega)) (bd (zK7 active _ (by rw [List.length_append];omega)) (bd (yJ (by simp only [List.length_append];omega)) (bd (yJ (by simp only [List.length_append];omega)) ?_)));unfold evs;simp only [List.append_assoc]
theorem zHp (active:Int):uL [] active=some []:=by
 unfold uL;refine bd (a:=true) ?_ (ct rfl rfl);cases decide (active<1)<;>cases decide (3<active)<;>rfl
set_option maxRecDepth 100000
theorem wUO:kQ=xM:=rfl
theorem wBO:gV=xY:=rfl
structure zDa (c:Int) (is:List Int) (bs:List By):Prop where
 sh:sV c=some (0,0,(is.length:Int),(bs.length:Int),true)
 c0:0<=c
 c1:c<256
 il:is.length<=2
 bl':bs.length<=2
 i:∀ x∈is,0<=x/\x<=1099511627776
 b:∀ x∈bs,x.length<=32
def rq (c:Int) (is:List Int) (bs:List By):zZ:=zZ.mk c [] [] is bs
def rqB (c:Int) (is:List Int) (bs:List By):By:=u8 c :: (is.flatMap (λn=>beN n 8 8)++(u8 (bs.length:Int) :: bs.flatMap bl))
def rqW (c:Int) (is:List Int) (bs:List By):By:=[83,87]++(beN ((4+(rqB c is bs).length:Nat):Int) 2 2++rqB c is bs)
theorem aV (is:List Int):(is.flatMap (λn=>beN n 8 8)).length=8*is.length:=by
 induction is with
 | nil=>rfl
 | cons x l ih=>simp only [List.flatMap_cons,List.length_append,xB,List.length_cons,ih];omega
theorem zE5 (bs:List By) (h:∀ x∈bs,x.length<=32):(bs.flatMap bl).length<=34*bs.length:=by
 induction bs with
 | nil=>simp
 | cons x l ih=>
  have h1:=h x (by simp);have h2:=ih λy hy=>h y (by simp [hy]);simp only [List.flatMap_cons,List.length_append,uJ,List.length_cons];omega
theorem zCk (h:zDa c is bs):2<=(rqB c is bs).length/\(rqB c is bs).length<=100:=by
 have h1:=aV is;have h2:=zE5 bs h.b;have h3:=h.il;have h4:=h.bl';unfold rqB;simp only [List.length_cons,List.length_append];omega
theorem zGd (h:zDa c is bs):(rqW c is bs).length=4+(rqB c is bs).length:=by
 unfold rqW;simp only [List.length_append,xB,List.length_cons,List.length_nil];omega
theorem zL9 (hi:i<bs.length):(bs.take (i+1)).flatMap bl=(bs.take i).flatMap bl++bl bs[i]:=by
 rw [List.take_add_one,List.flatMap_append];simp [hi]
theorem zL4 (hi:i<is.length):(is.take (i+1)).flatMap (λn=>beN n 8 8)=(is.take i).flatMap (λn=>beN n 8 8)++beN is[i] 8 8:=by
 rw [List.take_add_one,List.flatMap_append];simp [hi]
theorem wrt (h:zDa c is bs):qQ (rq c is bs)=some (rqW c is bs):=by
 have hB:=zCk h;have hil:=h.il;have hbl:=h.bl';unfold qQ;refine bd (ckT rfl) ?_;refine bd (a:=[83,87]) rfl ?_;refine bd (a:=[83,87,0,0,u8 c]) rfl ?_;refine bd (a:=[83,87,0,0,u8 c]) (tA (by unfold gG;exact cf rfl rfl)) ?_;refine bd (a:=[83,87,0,0,u8 c]) (tA (by unfold hP;exact cf rfl rfl)) ?_;refine bd (a:=[83,87,0,0,u8 c]++is.flatMap (λn=>beN n 8 8)) ?_ ?_
 ·refine yM is.length (λi=>([83,87,0,0,u8 c]++(is.take i).flatMap (λn=>beN n 8 8),(i:Int))) (by simp) (λi hi=>?_) ?_ (wN (by omega))
  ·unfold nI;refine ct (dlt hi) (bd (yS hi) ?_);rw [wUO];refine bd (wU _ 8 _ (by omega) (by omega) ?_) ?_
   ·rw [List.length_append,aV];simp;omega
   ·rw [zL4 hi,List.append_assoc,vI (by omega)]
  ·unfold nI;refine cf (dge (Nat.le_refl _)) ?_;rw [List.take_length]
 refine bd (yJ (by rw [List.length_append,aV];simp;omega)) ?_;refine bd (a:=(([83,87,0,0,u8 c]++is.flatMap (λn=>beN n 8 8))++[u8 (bs.length:Int)])++bs.flatMap bl) ?_ ?_
 ·refine yM bs.length (λi=>((([83,87,0,0,u8 c]++is.flatMap (λn=>beN n 8 8))++[u8 (bs.length:Int)])++(bs.take i).flatMap bl,(i:Int))) (by simp;rfl) (λi hi=>?_) ?_ (wN (by omega))
  ·have hx:=h.b _ (List.getElem_mem hi);have ht:=zE5 (bs.take i) λx hx=>h.b x (List.mem_of_mem_take hx);have ht2:(bs.take i).length<=2:=by simp;omega
   unfold nJ;refine ct (dlt hi) (bd (yS hi) ?_);rw [wBO];refine bd (wB _ _ ?_ (by omega)) ?_
   ·simp only [List.length_append,aV,List.length_cons,List.length_nil];omega
   ·rw [zL9 hi,List.append_assoc,vI (by omega)]
  ·unfold nJ;refine cf (dge (Nat.le_refl _)) ?_;rw [List.take_length]
 have e:(([83,87,0,0,u8 c]++is.flatMap (λn=>beN n 8 8))++[u8 (bs.length:Int)])++bs.flatMap bl=[83,87,0,0]++rqB c is bs:=by
  unfold rqB;simp
 rw [e];have el:(([83,87,0,0]:By)++rqB c is bs).length=4+(rqB c is bs).length:=by simp;omega
 refine bd (ckT (zEf (by omega))) ?_;refine bd (wU [] 2 _ (by omega) (by omega) (by simp)) ?_;refine bd (ckT (zEf (by omega))) ?_;rw [el];unfold rqW cpA;obtain ⟨a,b,hab⟩:∃ a b,beN ((4+(rqB c is bs).length:Nat):Int) 2 2=[a,b]:=⟨_,_,rfl⟩;rw [hab];rfl
theorem chk (h:zDa c is bs):qN (rq c is bs)=some 0:=by
 have hB:=zCk h;have hil:=h.il;have hbl:=h.bl';unfold qN;refine bd h.sh (cf rfl ?_);refine bd (a:=true) (ct rfl (ct rfl (ct (by simp [rq]) (bd (a:=true) ?_ rfl)))) ?_
 ·unfold sL;exact bd (ct (by simp [rq]) rfl) rfl
 refine bd (a:=true) (tA (by unfold gJ;exact cf rfl rfl)) ?_;refine bd (a:=true) (tA (by unfold iS;exact cf rfl rfl)) ?_;refine bd (a:=true) ?_ (cf rfl ?_)
 ·refine yM is.length (λi=>(true,(i:Int))) rfl (λi hi=>?_) ?_ (wN (by omega))
  ·have hx:=h.i _ (List.getElem_mem hi);unfold nC;refine ct (dlt hi) (bd (yS hi) ?_);refine bd (a:=true) (ct rfl (ct (by simp;exact hx.1) (congrArg some (by simp;exact hx.2)))) ?_;rw [vI (by omega)]
  ·unfold nC;exact cf (dge (Nat.le_refl _)) rfl
 refine bd (a:=true) (tA (by unfold hJ;exact cf rfl rfl)) ?_;refine bd (a:=true) ?_ ?_
 ·refine yM bs.length (λi=>(true,(i:Int))) rfl (λi hi=>?_) ?_ (wN (by omega))
  ·have hx:=h.b _ (List.getElem_mem hi);unfold nE;refine ct (dlt hi) (bd (yS hi) ?_);refine bd (a:=true) (ct rfl (congrArg some (by simp;omega))) ?_;rw [vI (by omega)]
  ·unfold nE;exact cf (dge (Nat.le_refl _)) rfl
 have hw:=zGd h;exact bd (a:=false) (cf rfl (bd (wrt h) (congrArg some (by simp;omega)))) (cf rfl rfl)
theorem zWk (h:zDa c is bs):oW (rq c is bs)=some (rqW c is bs,0):=by
 unfold oW;exact bd (chk h) (cf rfl (bd (wrt h) rfl))
theorem zS9 (h:zDa c is bs):nQ (rqW c is bs)=some (c,0):=by
 have hB:=zCk h;have hw:=zGd h;obtain ⟨a,b,hab,hv⟩:=be2 (4+(rqB c is bs).length) (by omega);obtain ⟨t,ht⟩:∃ t,rqB c is bs=u8 c :: t:=⟨_,rfl⟩;have e:rqW c is bs=83 :: 87 :: a :: b :: u8 c :: t:=by unfold rqW;rw [hab,ht];rfl
 unfold nQ;refine cf (by simp;omega) (cf (by simp;omega) ?_);rw [e];refine bd (a:=false) rfl (cf rfl ?_);refine bd (a:=a) rfl (bd (a:=b) rfl (ltk ?_));have hl2:((83 :: 87 :: a :: b :: u8 c :: t:By)).length=4+(rqB c is bs).length:=by rw [<- e];exact hw
 rw [zQp,<- hv,hl2];refine cf (by simp) (cf (by simp) ?_);refine bd (a:=u8 c) rfl ?_;have h0:=h.c0;have h1:=h.c1;rw [zQj c h0 h1,yW (by omega) (by omega)]
theorem zVh (h:zDa c is bs):pQ (rqW c is bs)=some (rq c is bs,0):=by
 have hB:=zCk h;have hw:=zGd h;have hil:=h.il;have hbl:=h.bl';unfold pQ;refine bd (zS9 h) (cf rfl (bd h.sh (cf rfl ?_)));let body:=is.flatMap (λn=>beN n 8 8)++(u8 (bs.length:Int) :: bs.flatMap bl);have e:(rqW c is bs).drop 5=body:=by
  unfold rqW rqB;obtain ⟨a,b,hab⟩:∃ a b,beN ((4+(u8 c :: (is.flatMap (λn=>beN n 8 8)++(u8 (bs.length:Int) :: bs.flatMap bl))).length:Nat):Int) 2 2=[a,b]:=⟨_,_,rfl⟩;rw [hab];rfl
 have hsub:sub (rqW c is bs) 5 ((rqW c is bs).length:Int)=some body:=by
  have:=tZ (l:=rqW c is bs) (a:=5) (b:=(rqW c is bs).length) (by omega) (Nat.le_refl _);rw [List.take_of_length_le (by simp),e] at this;exact this
 have hbody:body.length<2 ^ 40:=by rw [<- e,List.length_drop];omega
 refine bd hsub ?_;obtain ⟨r,g,e1⟩:=zHu body hbody;refine bd e1 ?_;refine bd (a:=([],r.W.b_,r.W.at_,r.W.e_)) (tA (by unfold jV;exact cf rfl rfl)) ?_;refine bd (a:=([],r.W.b_,r.W.at_,r.W.e_)) (tA (by unfold jO;exact cf rfl rfl)) ?_;have l3:∀ (m acc:List Int) (v:Int) (r:RS) (fuel:Nat) (rest:By),m.length<fuel->Rd r (m.flatMap (λn=>beN n 8 8)++rest)->(∀ x∈m,0<=x/\x<=1099511627776)->0<=v->v+m.length=(is.length:Int)->acc.length<=2->(acc.length:Int)+m.length<=2 ->
   ∃ r',Rd r' rest/\zR (vO (is.length:Int)) fuel (v,acc,r.W.b_,r.W.at_,r.W.e_)=some (.inr (acc++m,r'.W.b_,r'.W.at_,r'.W.e_)):=by
  intro m;induction m with
  | nil=>
   intro acc v r fuel rest hf g _ hv0 hv _ _;obtain ⟨f,rfl⟩:∃ f,fuel=f+1:=⟨fuel - 1,by simp at hf;omega⟩;refine ⟨r,g,?_⟩;simp only [zR];have:vO (is.length:Int) (v,acc,r.W.b_,r.W.at_,r.W.e_)=some (.inr (.inr (acc,r.W.b_,r.W.at_,r.W.e_))):=by
    unfold vO;exact cf (by simp at hv ⊢;omega) rfl
   rw [this,List.append_nil]
  | cons x m ih=>
   intro acc v r fuel rest hf g hm hv0 hv ha hb;obtain ⟨f,rfl⟩:∃ f,fuel=f+1:=⟨fuel - 1,by simp at hf;omega⟩;simp only [List.length_cons] at hf hv hb;have hx:=hm x (by simp);have g':Rd r (beN x 8 8++(m.flatMap (λn=>beN n 8 8)++rest)):=g.cast (by simp);obtain ⟨r1,g1,e1⟩:=rdU (k:=8) g' (by omega) (by omega) hx.1 (by omega) (by omega);obtain ⟨r2,g2,e2⟩:=ih (acc++[x]) (v+1) r1 f rest (by omega) g1 (λy hy=>hm y (by simp [hy])) (by omega) (by omega) (by simp;omega) (by simp;omega);refine ⟨r2,g2,?_⟩;simp only [zR];have:vO (is.length:Int) (v,acc,r.W.b_,r.W.at_,r.W.e_)=some (.inl (v+1,acc++[x],r1.W.b_,r1.W.at_,r1.W.e_)):=by
    unfold vO;refine ct (by simp;omega) (bd e1 ?_);refine bd (a:=(false,r1.W.b_,r1.W.at_,r1.W.e_)) (bd (zIq g1) (ct rfl ?_)) (cf rfl ?_)
    ·rw [show decide (1099511627776<x)=false by simp;omega]
    ·refine bd (yJ (by simp;omega)) ?_;rw [yW (by omega) (by omega)]
   rw [this];simp only;rw [e2,List.append_assoc];rfl
 obtain ⟨r1,g1,e2⟩:=l3 is [] 0 r FU (u8 (bs.length:Int) :: bs.flatMap bl) (wN (by omega)) g h.i (by omega) (by omega) (by simp) (by simp;omega);refine bd e2 ?_;obtain ⟨r2,g2,e3⟩:=rdBt g1 (by omega) (by omega);refine bd e3 ?_;refine bd (a:=(false,r2.W.b_,r2.W.at_,r2.W.e_)) (bd (zIq g2) (ct rfl (bd (a:=true) ?_ rfl))) (cf rfl ?_)
 ·unfold sL;exact bd (ct (by simp) rfl) rfl
 have l4:∀ (m acc:List By) (v:Int) (r:RS) (fuel:Nat),m.length<fuel->Rd r (m.flatMap bl)->(∀ x∈m,x.length<=32)->0<=v->v+m.length=(bs.length:Int)->acc.length<=2->(acc.length:Int)+m.length<=2 ->
   ∃ r',Rd r' []/\zR (vM (bs.length:Int)) fuel (v,acc,r.W.b_,r.W.at_,r.W.e_)=some (acc++m,r'.W.b_,r'.W.at_,r'.W.e_):=by
  intro m;induction m with
  | nil=>
   intro acc v r fuel hf g _ hv0 hv _ _;obtain ⟨f,rfl⟩:∃ f,fuel=f+1:=⟨fuel - 1,by simp at hf;omega⟩;refine ⟨r,g,?_⟩;simp only [zR];have:vM (bs.length:Int) (v,acc,r.W.b_,r.W.at_,r.W.e_)=some (.inr (acc,r.W.b_,r.W.at_,r.W.e_)):=by
    unfold vM;exact cf (by simp at hv ⊢;omega) rfl
   rw [this,List.append_nil]
  | cons x m ih=>
   intro acc v r fuel hf g hm hv0 hv ha hb;obtain ⟨f,rfl⟩:∃ f,fuel=f+1:=⟨fuel - 1,by simp at hf;omega⟩;simp only [List.length_cons] at hf hv hb;have hx:=hm x (by simp);have g':Rd r (bl x++m.flatMap bl):=g.cast (by simp);obtain ⟨r1,g1,e1⟩:=zM1 (k:=1024) g' (by omega) (by omega);obtain ⟨r2,g2,e2⟩:=ih (acc++[x]) (v+1) r1 f (by omega) g1 (λy hy=>hm y (by simp [hy])) (by omega) (by omega) (by simp;omega) (by simp;omega);refine ⟨r2,g2,?_⟩;simp only [zR];have:vM (bs.length:Int) (v,acc,r.W.b_,r.W.at_,r.W.e_)=some (.inl (v+1,acc++[x],r1.W.b_,r1.W.at_,r1.W.e_)):=by
    unfold vM;refine ct (by simp;omega) (bd e1 (bd (yJ (by simp;omega)) ?_));rw [yW (by omega) (by omega)]
   rw [this];simp only;rw [e2,List.append_assoc];rfl
 obtain ⟨r3,g3,e4⟩:=l4 bs [] 0 r2 FU (wN (by omega)) g2 h.b (by omega) (by omega) (by simp) (by simp;omega);refine bd e4 ?_;exact bd (rdE g3) (cf rfl rfl)
set_option maxRecDepth 100000
theorem sh1:sV 1=some (0,0,1,0,true):=by decide +kernel
theorem sh6:sV 6=some (0,0,1,2,true):=by decide +kernel
theorem rqS:zDa 1 [0] []:=⟨sh1,by decide,by decide,by decide,by decide,by simp,by simp⟩
theorem rqE (h:EvGood e active):zDa 6 [e.Register] e.Digests:=by
 have hl:=h.l;refine ⟨by rw [sh6,hl];rfl,by decide,by decide,by simp,by omega,?_,?_⟩
 ·have:=h.r0;have:=h.r1;simp;omega
 ·intro x hx;have f0:=iP h.f0;have f1:=iP h.f1
  match hd:e.Digests,hl with
  | [a,b],_=>
   rw [hd] at hx f0 f1;simp only [List.mem_cons,List.not_mem_nil,or_false] at hx;rcases hx with rfl | rfl
   ·exact f0
   ·exact f1
theorem rsp0:wS (zL.mk 0 [] [] [])=some [0,0,0,0]:=by decide +kernel
theorem rsd0:vU [0,0,0,0]=some (zL.mk 0 [] [] [],0):=by decide +kernel
def stS (s:zT):zT:=zT.mk s.Seeds s.Auths s.Entropy s.Active (s.Resets+1) 0 s.Clock false (zE.mk [] 0) s.MaxCounter s.Indices s.Lockout s.Keys
def zM7 (s:zT) (v:yF):yF:=⟨true,v.Stopped,zPm s.Active,s.Clock,s.Orderly,v.Draws,v.Sessions,v.Objects,v.ReadLocks,v.WriteLocks⟩
def zLj (r:zE) (v:yF):yF:=⟨v.Started,v.Stopped,r,v.Clock,v.Safe,v.Draws,v.Sessions,v.Objects,v.ReadLocks,v.WriteLocks⟩
theorem Sst.S {s:zT} (h:Sst s) (hr:s.Resets+1<2 ^ 30):Sst (stS s):=by
 obtain ⟨a,b,c,d,e,r0,r1,f,g,i,j,k,l,m⟩:=h;exact ⟨a,b,c,d,e,by show 0<=s.Resets+1;omega,hr,rfl,g,rfl,j,k,l,m⟩
theorem zOg (s:zU) (c:Int) (is:List Int) (bs:List By):oH s (rq c is bs)=some true:=by
 unfold oH;refine bd (a:=()) (tA (by unfold jL;exact cf rfl rfl)) ?_;exact ct rfl rfl
theorem zKb {s s':zU} {e:Int} {i:List Int} {b n:List By} (h:zDa c is bs) (hs:c=1∨s.Volatile.Started=true)
  (hp:pY s 0 (rq c is bs)=some (s',zL.mk e i b n)) (ho:wS (zL.mk e i b [])=some out):tJ s 0 (rqW c is bs)=some (s',out):=by
 unfold tJ;refine bd (zVh h) (cf rfl ?_);refine bd (a:=(s',zL.mk e i b [])) ?_ (bd ho rfl);unfold kU;refine bd (chk h) (cf rfl (bd (a:=false) rfl (cf rfl (bd (a:=false) ?_ (cf rfl ?_)))))
 ·rcases hs with rfl | hs
  ·exact cf rfl rfl
  ·rw [hs];show (bif (c != 1) then some false else some false)=some false;cases (c != 1)<;>rfl
 refine bd (zOg s c is bs) (cf rfl (ct rfl (bd hp rfl)))
theorem zLp (st:zT) (v:yF) (hs:Sst st) (h1:v.Started=false) (h2:v.Stopped=false):tJ ⟨st,v⟩ 0 (rqW 1 [0] [])=some (⟨stS st,zM7 st v⟩,[0,0,0,0]):=by
 have hr:=hs.r0;have hr1:=hs.r1;refine zKb rqS (.inl rfl) (b:=[]) (n:=[]) (i:=[]) (e:=0) ?_ rsp0;unfold pY;refine ct rfl (bd (a:=0) rfl (bd (a:=(⟨stS st,zM7 st v⟩,0)) ?_ rfl));unfold iE;refine bd (a:=false) (cf h1 (congrArg some h2)) (cf rfl (bd (a:=false) rfl (cf rfl (bd (a:=false) rfl (cf rfl (ct rfl ?_))))));refine bd (zPk st.Active hs.a0 hs.a3) ?_;rw [yW (by simp only;omega) (by simp only;omega)];rfl
theorem zQh (st:zT) (v:yF) (e:zB) (active:Int) (h1:v.Started=true) (hr:zG8 active v.Registers) (he:EvGood e active) (hk:e.Kind≠5):tJ ⟨st,v⟩ 0 (rqW 6 [e.Register] e.Digests)=some (⟨st,zLj (ext active e v.Registers) v⟩,[0,0,0,0]):=by
 refine zKb (rqE he) (.inr h1) (b:=[]) (n:=[]) (i:=[]) (e:=0) ?_ rsp0;unfold pY;refine cf rfl (cf rfl (cf rfl (bd (a:=true) rfl (ct rfl (bd (a:=(⟨st,zLj (ext active e v.Registers) v⟩,zL.mk 0 [] [] [])) ?_ rfl)))));unfold mQ;refine cf rfl (ct rfl (bd (a:=e.Register) rfl ?_));obtain ⟨x,hx,rfl⟩:=zG4 v.Registers active e hr he hk;exact bd hx (cf rfl rfl)
section
variable {st':zT} {vo':yF}
theorem Dv.commit_same (h:Dv d seq st vo m):tL d ⟨st,vo'⟩=some (⟨d.Disk,⟨st,vo'⟩,d.On,d.Next⟩,0):=by
 unfold tL;refine bd (zC1 st h.sst) ?_;refine bd (a:=.inr d) (bd (a:=sA st) (by rw [h.s];exact zC1 st h.sst) (cf (by simp) rfl)) rfl
theorem Dv.vol (h:Dv d seq st vo m):Dv ⟨d.Disk,⟨st,vo'⟩,d.On,d.Next⟩ seq st vo' m:=⟨h.toDk,h.on,h.off,h.cut,rfl,h.nx⟩
theorem Dv.commit_new (h:Dv d seq st vo m) (hs:Sst st') (hq:seq+1<2 ^ 29) (hm:m+1<2 ^ 50):∃ d' seq',tL d ⟨st',vo'⟩=some (d',0)/\Dv d' seq' st' vo' (m+1)/\seq'<=seq+1/\∀ a,2<=a->d'.Disk.Areas.getD a []=d.Disk.Areas.getD a []:=by
 have hn:=h.n;have hok:=h.ok;have hm0:=h.m0;by_cases he:sA st'=sA st
 ·have hk:Dk d.Disk seq st' (m+1):=by
   refine ⟨h.ok,?_,hm,h.n,h.al,?_,hs⟩
   ·rw [Int.natCast_add];exact Int.le_trans hm0 (by omega)
   ·rw [he];exact h.jr
  refine ⟨⟨d.Disk,⟨st',vo'⟩,d.On,d.Next⟩,seq,?_,⟨hk,h.on,h.off,h.cut,rfl,h.nx⟩,Nat.le_succ _,λ_ _=>rfl⟩;unfold tL;refine bd (zC1 st' hs) ?_;refine bd (a:=.inr d) (bd (a:=sA st) (by rw [h.s];exact zC1 st h.sst) (cf (by simp [he]) rfl)) rfl
 ·have hl:=zHe st' hs;have hrl:=zDg (seq+1) (sA st');have hlt:(seq+1) % 2<2:=Nat.mod_lt _ (by decide);have hw:=zD9 d.Disk ((seq+1) % 2) (lF (seq+1) (sA st')) h.ok h.off (by omega) (by omega) (by have:=h.al ((seq+1) % 2);omega);have hc:=h.noC;have e:wrC d.Disk (d.Disk.Areas.getD ((seq+1) % 2) []) (lF (seq+1) (sA st'))=lF (seq+1) (sA st'):=by
   unfold wrC cN;rw [if_neg (show ¬ (d.Disk.Writes+1=d.Disk.CutAt) from hc),if_neg hc,List.take_length,List.append_nil]
  rw [e,show zDl d.Disk=0 from if_neg hc] at hw;have hcm:=zFd d.Disk (seq+1) (sA st') (by omega) (by omega) (by omega) hw;have hnx:=h.nx;refine ⟨⟨cX d.Disk ((seq+1) % 2) (lF (seq+1) (sA st')),⟨st',vo'⟩,d.On,d.Next+1⟩,seq+1,?_,⟨⟨⟨?_,?_,?_⟩,?_,hm,?_,?_,h.jr.next (by omega) hq (by omega),hs⟩,h.on,?_,h.cut,rfl,?_⟩,Nat.le_refl _,λa ha=>?_⟩
  ·unfold tL;refine bd (zC1 st' hs) ?_;refine bd (a:=.inr ⟨cX d.Disk ((seq+1) % 2) (lF (seq+1) (sA st')),d.State,d.On,d.Next+1⟩) (bd (a:=sA st) (by rw [h.s];exact zC1 st h.sst) (ct (by simp [he]) ?_)) rfl;refine bd (a:=(cX d.Disk ((seq+1) % 2) (lF (seq+1) (sA st')),0)) (by rw [hnx];exact hcm) (cf rfl ?_);rw [yW (by omega) (by omega)]
  ·show (d.Disk.Areas.set _ _).length<=64;simp;omega
  ·show 0<=d.Disk.Writes+1;have:=hok.w0;omega
  ·show d.Disk.Writes+1<2 ^ 60;omega
  ·show d.Disk.Writes+1<=((m+1:Nat):Int);omega
  ·show (d.Disk.Areas.set _ _).length=8;simp [hn]
  ·exact zMe h.al (by omega) (by omega)
  ·show decide (isC d.Disk)=false;exact decide_eq_false h.noC
  ·show d.Next+1=((seq+1:Nat):Int)+1;omega
  ·exact getD_set_ne (by omega)
theorem Dv.send_same {b:By} (h:Dv d seq st vo m) (hr:tJ ⟨st,vo⟩ 0 b=some (⟨st,vo'⟩,out)):rG d 0 b=some (⟨d.Disk,⟨st,vo'⟩,d.On,d.Next⟩,out,0):=by
 have hr':tJ d.State 0 b=some (⟨st,vo'⟩,out):=by rw [h.s];exact hr
 unfold rG;refine bd (zDf h.on h.off) ?_;refine cf rfl ?_;refine bd hr' ?_;refine bd h.commit_same ?_;exact cf rfl rfl
theorem Dv.send_new {b:By} (h:Dv d seq st vo m) (hs:Sst st') (hq:seq+1<2 ^ 29) (hm:m+1<2 ^ 50) (hr:tJ ⟨st,vo⟩ 0 b=some (⟨st',vo'⟩,out)):∃ d' seq',rG d 0 b=some (d',out,0)/\Dv d' seq' st' vo' (m+1)/\seq'<=seq+1/\∀ a,2<=a->d'.Disk.Areas.getD a []=d.Disk.Areas.getD a []:=by
 obtain ⟨d',seq',e,h1,h2,h3⟩:=h.commit_new (vo':=vo') hs hq hm;refine ⟨d',seq',?_,h1,h2,h3⟩;have hr':tJ d.State 0 b=some (⟨st',vo'⟩,out):=by rw [h.s];exact hr
 unfold rG;refine bd (zDf h.on h.off) ?_;refine cf rfl ?_;refine bd hr' ?_;refine bd e ?_;exact cf rfl rfl
theorem zOv {d':zD} {r:zL} (h:zDa c is bs) (hs:rG d 0 (rqW c is bs)=some (d',out,0)) (hd:vU out=some (r,0)) (he:r.Err=0) (hc:(c==9)=false/\(c==11)=false/\(c==16)=false/\(c==12)=false) :
  ∀ L:yC,L.Device=d->rQ L (rq c is bs)=some (r,0,yC.mk d' L.opened_):=by
 rintro L rfl;obtain ⟨c1,c2,c3,c4⟩:=hc;unfold rQ;refine bd (a:=(rqW c is bs,0)) (zWk h) ?_;refine cf rfl ?_;refine bd (a:=(d',out,0)) hs ?_;refine cf rfl ?_;refine bd (a:=(r,0)) hd ?_;refine bd (a:=0) (ct rfl (congrArg some he)) ?_;refine cf rfl ?_;refine bd (a:=false) (cf c1 (cf c2 (congrArg some c3))) ?_;refine cf rfl ?_;refine cf c4 ?_;refine bd (a:=()) (tA (by unfold fW;exact cf rfl rfl)) ?_;rfl
end
set_option maxRecDepth 100000
theorem zKn {b:By} (h:e.Digests=dgE active (e.Kind != 5) b):Fit e active 0/\Fit e active 1:=by
 unfold Fit;rw [h];unfold dgE;constructor
 ·show (((if ((e.Kind != 5)&&uR active 0)=true then zAs b else []):By).length:Int)=if e.Kind≠5/\uR active 0=true then siz 0 else 0
  by_cases hk:e.Kind=5
  ·rw [if_neg (by simp [hk]),if_neg (λh=>h.1 hk)];rfl
  ·cases hb:uR active 0
   ·rw [if_neg (by simp),if_neg (λh=>by cases h.2)];rfl
   ·rw [if_pos (by simp [hk]),if_pos ⟨hk,rfl⟩,zG2];rfl
 ·show (((if ((e.Kind != 5)&&uR active 1)=true then sha b else []):By).length:Int)=if e.Kind≠5/\uR active 1=true then siz 1 else 0
  by_cases hk:e.Kind=5
  ·rw [if_neg (by simp [hk]),if_neg (λh=>h.1 hk)];rfl
  ·cases hb:uR active 1
   ·rw [if_neg (by simp),if_neg (λh=>by cases h.2)];rfl
   ·rw [if_pos (by simp [hk]),if_pos ⟨hk,rfl⟩,zCn];rfl
theorem zIv {reg kind:Int} {data:By} (h1:1<=active) (h3:active<=3) (r0:0<=reg) (r1:reg<=11) (k1:1<=kind) (k5:kind<=5) (hd:data.length<=64):EvC (mkE reg kind active data) active:=by
 obtain ⟨f0,f1⟩:=zKn (e:=mkE reg kind active data) (active:=active) (b:=data) rfl;exact ⟨⟨r0,r1,hd,rfl,f0,f1⟩,h1,h3,k1,k5⟩
theorem zRx (r:Int) (h1:1<=r) (h4:r<=4):0<=rgR r/\rgR r<=11:=by
 unfold rgR;split
 ·omega
 split
 ·omega
 split
 ·omega
 split<;>omega
theorem zPo (x:api_Image) (h:qF x):(lbl x).length<=33:=by
 have h1:=h.nl;have h2:=zD0 20 x.Version.toNat;unfold lbl;rw [List.length_append,List.length_append,List.length_singleton];omega
theorem zRz (h1:1<=active) (h3:active<=3) (h:qF x):EvC (imE active x) active:=by
 obtain ⟨f0,f1⟩:=zKn (e:=imE active x) (active:=active) (b:=pG x) rfl;have hr:=zRx x.Role h.r1 h.r4;have hl:=zPo x h;exact ⟨⟨hr.1,hr.2,by show (lbl x).length<=64;omega,rfl,f0,f1⟩,h1,h3,by show (1:Int)<=1;omega,by show (1:Int)<=5;omega⟩
theorem zJ5 (h:e∈evR active role l):∃ x∈l,x.Role=role/\((role=4/\∃ d∈zEh x,e=mkE 9 3 active d)∨(role≠4/\e=imE active x)):=by
 unfold evR at h;obtain ⟨x,hx,he⟩:=List.mem_flatMap.1 h;by_cases hr:x.Role=role
 ·rw [if_pos hr] at he;by_cases h4:role=4
  ·rw [if_pos h4] at he;obtain ⟨d,hd,rfl⟩:=List.mem_map.1 he;exact ⟨x,hx,hr,.inl ⟨h4,d,hd,rfl⟩⟩
  ·rw [if_neg h4] at he;exact ⟨x,hx,hr,.inr ⟨h4,by simpa using he⟩⟩
 ·rw [if_neg hr] at he;cases he
theorem zF2 (h1:1<=active) (h3:active<=3) (hc:kF l):∀ e∈evR active role l,EvC e active:=by
 intro e he;obtain ⟨x,hx,hr,⟨h4,d,hd,rfl⟩ | ⟨_,rfl⟩⟩:=zJ5 he
 ·have:=((zIs x (hc.im x hx) (by omega)).2.2 d hd).2.1;exact zIv h1 h3 (by omega) (by omega) (by omega) (by omega) (by omega)
 ·exact zRz h1 h3 (hc.im x hx)
theorem zIb (h:e∈zEp active):∃ i:Nat,i<8/\e=mkE (i:Int) 2 active [0,0,0,0]:=by
 unfold zEp at h;obtain ⟨i,hi,rfl⟩:=List.mem_map.1 h;exact ⟨i,List.mem_range.1 hi,rfl⟩
theorem zMw (h1:1<=active) (h3:active<=3) (hc:kF l):∀ e∈evs l active,EvC e active:=by
 intro e he;unfold evs at he;simp only [List.mem_append] at he;rcases he with ((he | he) | (he | he)) | he
 ·exact zF2 h1 h3 hc e he
 ·exact zF2 h1 h3 hc e he
 ·obtain ⟨i,hi,rfl⟩:=zIb he;exact zIv h1 h3 (by omega) (by omega) (by omega) (by omega) (by decide)
 ·exact zF2 h1 h3 hc e he
 ·exact zF2 h1 h3 hc e he
theorem zNz:∀ e∈evs l active,e.Kind≠5:=by
 have hR:∀ role,∀ e∈evR active role l,e.Kind≠5:=by
  intro role e he;obtain ⟨x,_,_,⟨_,d,_,rfl⟩ | ⟨_,rfl⟩⟩:=zJ5 he
  ·exact show (3:Int)≠5 by decide
  ·exact show (1:Int)≠5 by decide
 intro e he;unfold evs at he;simp only [List.mem_append] at he;rcases he with ((he | he) | (he | he)) | he
 ·exact hR _ e he
 ·exact hR _ e he
 ·obtain ⟨i,_,rfl⟩:=zIb he;exact show (2:Int)≠5 by decide
 ·exact hR _ e he
 ·exact hR _ e he
def zPz (active:Int):zB:=mkE 0 4 active [99,104,97,105,110]
theorem zKm (h1:1<=active) (h3:active<=3):EvC (zPz active) active:=zIv h1 h3 (by decide) (by decide) (by decide) (by decide) (by decide)
set_option maxRecDepth 100000
theorem zNi:∀ n:Nat,n<256->beN (n:Int) 1 1=[u8 (n:Int)]:=by decide +kernel
theorem zS3 {a:Int} (h0:0<=a) (h:a<256):beN a 1 1=[u8 a]:=by
 obtain ⟨n,rfl⟩:=Int.eq_ofNat_of_zero_le h0;exact zNi n (by omega)
theorem zTz (a r:Int) (h1:1<=a) (h3:a<=3) (h0:0<=r) (hr:r<=1099511627776):wY a r=some (bZ a r):=by
 unfold wY;refine bd (a:=false) (cf (by simp;omega) (cf (by simp;omega) (cf (by simp;omega) (congrArg some (by simp;omega))))) ?_;refine cf rfl ?_;refine bd (wU _ 1 a (by omega) (by omega) (by simp)) ?_;refine bd (wU _ 6 r (by omega) (by omega) (by simp [xB])) ?_;rw [zS3 (by omega) (by omega)];rfl
theorem zLy (e:zB) (active:Int) (h:EvC e active):lD e=some (oY e):=by
 have q0:=iP h.f0;have q1:=iP h.f1;have hd:=h.d;have hl:=h.l;have r0:=h.r0;have r1:=h.r1;have k1:=h.k1;have k5:=h.k5;obtain ⟨reg,kind,dg,data⟩:=e
 match dg,hl with
 | [x,y],_=>
 simp only at q0 q1 hd r0 r1 k1 k5;have q0:x.length<=32:=q0;have q1:y.length<=32:=q1;have hen:wL ⟨reg,kind,[x,y],data⟩=some true:=by
  unfold wL;refine bd (a:=false) (cf (decide_eq_false (by simp only;omega)) (cf (decide_eq_false (by simp only;omega)) (cf (decide_eq_false (by simp only;omega)) (cf (decide_eq_false (by simp only;omega)) (cf rfl (congrArg some (decide_eq_false (by simp only;omega)))))))) ?_;refine cf rfl ?_;refine bd (a:=.inr ()) (yM 2 (λi=>(i:Int)) rfl ?_ ?_ (wN (by omega))) rfl
  ·intro i hi;unfold vG;rcases (show i=0∨i=1 by omega) with rfl | rfl
   ·exact ct rfl (bd (a:=x) rfl (bd (a:=32) rfl (cf (decide_eq_false (by omega)) rfl)))
   ·exact ct rfl (bd (a:=y) rfl (bd (a:=32) rfl (cf (decide_eq_false (by omega)) rfl)))
  ·unfold vG;exact cf rfl rfl
 unfold lD;refine bd hen (cf rfl ?_);refine bd (wU [] 1 reg (by omega) (by omega) (by simp)) ?_;refine bd (wU _ 1 kind (by omega) (by omega) (by simp [xB])) ?_;rw [zS3 (by omega) (by omega),zS3 (by omega) (by omega)];refine bd (a:=([u8 reg,u8 kind]++bl x)++bl y) (yM 2 (λi=>(if i=0 then [u8 reg,u8 kind] else if i=1 then [u8 reg,u8 kind]++bl x else ([u8 reg,u8 kind]++bl x)++bl y,(i:Int))) rfl ?_ ?_ (wN (by omega))) ?_
 ·intro i hi;unfold mU;rcases (show i=0∨i=1 by omega) with rfl | rfl
  ·exact ct rfl (bd (a:=x) rfl (bd (wB _ x (by simp) (by omega)) rfl))
  ·exact ct rfl (bd (a:=y) rfl (bd (wB _ y (by simp [uJ];omega) (by omega)) rfl))
 ·unfold mU;exact cf rfl rfl
 refine bd (wB _ data (by simp [uJ];omega) (by omega)) ?_;show some _=some _;unfold oY bl;simp
theorem zMb (active:Int) (es:List zB) (e:zB) (hk:e.Kind≠5):rpl active (es++[e])=ext active e (rpl active es):=by
 unfold rpl;rw [List.foldl_append];simp [hk]
theorem zLl (es:List zB) (e:zB):nF (es++[e])=nF es++bl (oY e):=by simp [nF,bl]
structure Mz (d:zD) (seq:Nat) (st:zT) (vo:yF) (m:Nat) (es:List zB):Prop extends Dv d seq st vo m where
 v1:vo.Started=true
 v2:vo.Registers=rpl st.Active es
 lg:d.Disk.Areas.getD 2 []=bZ st.Active st.Resets++nF es
section
variable {es:List zB}
theorem Mz.step (h:Mz d seq st vo m es) {x:zB} (hx:EvC x st.Active) (hk:x.Kind≠5) (hs:es.length<=40) (he:∀ e∈es,EvC e st.Active) (hm:m+1<2 ^ 50) :
  ∃ d' vo',lH (yC.mk d []) x=some (0,yC.mk d' [])/\Mz d' seq st vo' (m+1) (es++[x])/\∀ a,3<=a->d'.Disk.Areas.getD a []=d.Disk.Areas.getD a []:=by
 have hr:=zQh st vo x st.Active h.v1 (by rw [h.v2];exact zTl _ _ h.sst.a0 h.sst.a3) hx.toEvGood hk;have h1:=h.toDv.send_same hr;have hv:=h.toDv.vol (vo':=zLj (ext st.Active x vo.Registers) vo);have hd:=zOv (rqE hx.toEvGood) h1 rsd0 rfl (by decide) (yC.mk d []) rfl;have hb:=zAg hx.toEvGood;have hf:=zDw es he;have hap:=hv.append (a:=2) (bl (oY x)) (by decide) (by rw [uJ];omega);have hy:(d.Disk.Areas.getD 2 []++bl (oY x)).length<2 ^ 39:=by rw [List.length_append,h.lg,List.length_append,eW,uJ];omega
 refine ⟨dE ⟨d.Disk,⟨st,zLj (ext st.Active x vo.Registers) vo⟩,d.On,d.Next⟩ 2 (d.Disk.Areas.getD 2 []++bl (oY x)),zLj (ext st.Active x vo.Registers) vo,?_,⟨hv.set (by decide) (by decide) hy hm,h.v1,?_,?_⟩,λa ha=>getD_set_ne (by omega)⟩
 ·unfold lH;refine bd hd ?_;refine bd (a:=(0,yC.mk (dE ⟨d.Disk,⟨st,zLj (ext st.Active x vo.Registers) vo⟩,d.On,d.Next⟩ 2 (d.Disk.Areas.getD 2 []++bl (oY x))) [])) ?_ rfl;refine ct rfl ?_;refine bd (zLy x st.Active hx) ?_;refine bd (wB [] _ (by simp) (by omega)) ?_;rw [List.nil_append];refine bd hap ?_;rfl
 ·show ext st.Active x vo.Registers=_;rw [zMb _ _ _ hk,h.v2]
 ·show (d.Disk.Areas.set 2 _).getD 2 []=_;rw [vK (by have:=h.n;omega),h.lg,zLl,List.append_assoc]
end
set_option maxRecDepth 100000
theorem db {β:Type} {o:Option α} {a:α} {f:α->Option β} {Q:β->Prop} (h:o=some a) (k:Def (f a) Q):Def (o.bind f) Q:=by subst h;exact k
set_option maxRecDepth 100000
set_option maxRecDepth 100000
def uY (l:List api_Image):By:=hs 20 [fZ l]++fZ l
theorem rZ (l:List api_Image):(uY l).length=32+(fZ l).length:=by simp [uY,dC]
theorem zCv (h:s<2):(bif ((s:Int) != 0) then (some ((s:Int) != 1)) else some false:Option Bool)=some false:=by
 rcases (show s=0∨s=1 by omega) with rfl | rfl<;>rfl
theorem zF4 {s:Int} (h:s≠0) (h1:s≠1):(bif (s != 0) then (some (s != 1)) else some false:Option Bool)=some true:=ct (b1 h) (congrArg some (by simp [h1]))
theorem zOr (h:s<2):IntKind.i64.wrap (3+(s:Int))=((3+s:Nat):Int):=by rw [yW (by omega) (by omega)];omega
theorem zH1 (d:zD) (hs':s<2) (hc:zB8 l) (hw:rO d ((3+s:Nat):Int) (uY l)=some r):wK d (s:Int) l=some r:=by
 have hl:=kC hc;unfold wK;refine bd (zCv hs') (cf rfl ?_);refine bd hc.p (cf rfl ?_);refine bd (zQt hc) ?_;refine bd (zAl 20 [fZ l] (by simp [tot];omega)) ?_;refine bd (yJ (by rw [dC];omega)) ?_;rw [zOr hs'];exact bd hw rfl
theorem zBq (d:zD) {s:Int} (h:s≠0) (h1:s≠1) (l:List api_Image):wK d s l=some (d,1):=by
 unfold wK;exact bd (zF4 h h1) (ct rfl rfl)
theorem zHd (d:zD) (hs':s<2) (h:xK l=some c) (hc:c≠0):wK d (s:Int) l=some (d,c):=by
 unfold wK;refine bd (zCv hs') (cf rfl ?_);exact bd h (ct (b1 hc) rfl)
section
theorem Dv.install (h:Dv d seq st vo m) (hs':s<2) (hc:zB8 l):wK d (s:Int) l=some (dE d (3+s) (uY l),0):=by
 have hl:=kC hc;exact zH1 d hs' hc (h.write _ (by omega) (by rw [rZ];omega))
theorem zJf (d:zD) (hs':s<2) (hw:rO d 5 [u8 (s:Int)]=some r):mK d (s:Int)=some r:=by
 unfold mK;refine bd (zCv hs') (cf rfl ?_);exact bd hw rfl
theorem Dv.choose (h:Dv d seq st vo m) (hs':s<2):mK d (s:Int)=some (dE d 5 [u8 (s:Int)],0):=
 zJf d hs' (h.write (a:=5) [u8 (s:Int)] (by decide) (by simp))
theorem zLc (d:zD) (ho:d.Disk.Off=false) (ha:5<d.Disk.Areas.length) (hold:(d.Disk.Areas.getD 5 []).length<2 ^ 40):pN d=some (if d.Disk.Areas.getD 5 []=[1] then 1 else 0):=by
 have hr:uI d.Disk 5=some (d.Disk.Areas.getD 5 [],0):=aX d.Disk 5 ho ha hold;unfold pN;refine bd hr ?_;refine bd (a:=d.Disk.Areas.getD 5 []==[1]) (ct rfl (bd (zGl _ _) rfl)) ?_;by_cases h:d.Disk.Areas.getD 5 []=[1]
 ·rw [if_pos h];exact ct (by rw [h];rfl) rfl
 ·rw [if_neg h];exact cf (by simpa using h) rfl
def bY (c:By):Option (List api_Image×Int):=if 32<=c.length/\c.take 32=hs 20 [c.drop 32] then vN (c.drop 32) else some ([],30)
theorem eF (d:zD) (hs':s<2) (ho:d.Disk.Off=false) (ha:3+s<d.Disk.Areas.length) (hold:(d.Disk.Areas.getD (3+s) []).length<2 ^ 30):vD d (s:Int)=bY (d.Disk.Areas.getD (3+s) []):=by
 have hr:uI d.Disk (IntKind.i64.wrap (3+(s:Int)))=some (d.Disk.Areas.getD (3+s) [],0):=by rw [zOr hs'];exact aX d.Disk (3+s) ho ha (by omega)
 unfold vD;refine bd (zCv hs') (cf rfl ?_);refine bd hr (cf rfl ?_);generalize d.Disk.Areas.getD (3+s) []=c at hold;unfold bY;by_cases h32:32<=c.length
 ·have h1:sub c 0 32=some (c.take 32):=tZ (a:=0) (b:=32) (by decide) h32;have h2:sub c 32 c.length=some (c.drop 32):=by
   have:=tZ (l:=c) (a:=32) (b:=c.length) h32 (Nat.le_refl _);rw [List.take_of_length_le (by rw [List.length_drop];omega)] at this;exact this
  refine bd (a:=!(c.take 32==hs 20 [c.drop 32])) (cf (decide_eq_false (by omega)) (bd h1 (bd h2 (bd (zAl 20 [c.drop 32] (by simp [tot];omega)) (bd (zGl _ _) rfl))))) ?_;by_cases he:c.take 32=hs 20 [c.drop 32]
  ·rw [if_pos ⟨h32,he⟩];refine cf (by simp [he]) ?_;refine bd h2 ?_;cases vN (c.drop 32)<;>rfl
  ·rw [if_neg (λh=>he h.2)];exact ct (by simp [he]) rfl
 ·rw [if_neg (λh=>h32 h.1)];exact bd (a:=true) (ct (decide_eq_true (by omega)) rfl) (ct rfl rfl)
theorem jS (hc:zB8 l):bY (uY l)=some (l,0):=by
 have hd:(uY l).drop 32=fZ l:=by unfold uY;rw [List.drop_append_of_le_length (by rw [dC];omega),List.drop_of_length_le (by rw [dC];omega),List.nil_append]
 have ht:(uY l).take 32=hs 20 [fZ l]:=by unfold uY;rw [List.take_append_of_le_length (by rw [dC];omega),List.take_of_length_le (by rw [dC];omega)]
 unfold bY;rw [if_pos ⟨by rw [rZ];omega,by rw [ht,hd]⟩,hd];exact zVo hc
theorem zC4:bY []=some ([],30):=by
 unfold bY;rw [if_neg (λh=>by have:=h.1;simp at this)]
theorem zN3 (b:By):Def (dX b) (λr=>r.length=32):=by
 unfold dX;refine Def.bd (Def.mkN (by decide) (by decide)) (λn hn=>?_);refine Def.bd (Def.ck (by simp)) (λ_ _=>?_);refine Def.lt ?_;refine Def.bd (Def.ck (by rw [zF0];simp)) (λ_ _=>?_);exact Def.bd (Def.ck (zEf (by
                 have e:(32:Int).toNat=32:=rfl;omega))) (λ_ _=>Def.s (by rw [zF0,List.length_replicate,hn];rfl))
theorem zFf (e:By) (active:Int) (he:e.length=32) (h1:1<=active) (h3:active<=3):Def (pL 8 e active) (λr=>r.2=0/\(∃ d0,r.1=zDn d0)/\∃ st,tX r.1=some (onD r.1 1 st,0)/\(∀ m,m<2 ^ 50->Dv (onD r.1 1 st) 1 st zOm m)/\st.Active=active/\st.Resets=0/\∀ a,a≠1->r.1.Disk.Areas.getD a []=[]):=by
 refine (zHl e active he h1 h3).mono λr hr=>?_;obtain ⟨h0,⟨d0,hd⟩,st,hk,ha,hr0,hz⟩:=hr;refine ⟨h0,⟨d0,hd⟩,st,zIt r.1 1 st (.inl (by rw [hd];rfl)) hk.n hk.al hk.jr hk.sst,λm hm=>Dv.of_on hk.n hk.al hk.jr hk.sst m hm,ha,hr0,hz⟩
theorem zK5 (en:By) (active:Int) (h1:1<=active) (h3:active<=3) (hc:zB8 l):Def (nD en active l) (λr=>r.2=true/\∃ st,Dv r.1 1 st zOm 2/\st.Active=active/\st.Resets=0/\r.1.Disk.Areas.getD 3 []=uY l/\r.1.Disk.Areas.getD 4 []=[]/\r.1.Disk.Areas.getD 5 []=[0]/\r.1.Disk.Areas.getD 0 []=[]/\r.1.Disk.Areas.getD 2 []=[]):=by
 have hl:=kC hc;unfold nD;refine Def.bd (zN3 en) (λe he=>?_);refine Def.bd (zFf e active he h1 h3) (λr hr=>?_);obtain ⟨x,c⟩:=r;obtain ⟨h0,⟨d0,rfl⟩,st,hp,hv,ha,hr0,hz⟩:=hr;simp only at h0 hp hv hz;subst h0;have hv0:=hv 0 (by decide);have hv1:=hv0.set (a:=3) (y:=uY l) (by decide) (by decide) (by rw [rZ];omega) (by decide);have hv2:=hv1.set (a:=5) (y:=[u8 ((0:Nat):Int)]) (by decide) (by decide) (by simp) (by decide);refine db (a:=(onD (zDn d0) 1 st,0)) hp ?_;refine db (hv0.install (s:=0) (by decide) hc) ?_;refine db (hv1.choose (s:=0) (by decide)) ?_;refine db (a:=true) rfl ?_;have hn:=hv0.n;refine Def.s ⟨rfl,st,hv2,ha,hr0,?_,?_,?_,?_,?_⟩
 ·show (((onD (zDn d0) 1 st).Disk.Areas.set 3 (uY l)).set 5 _).getD 3 []=_;rw [getD_set_ne (by decide),vK (by omega)]
 ·show (((onD (zDn d0) 1 st).Disk.Areas.set 3 (uY l)).set 5 _).getD 4 []=_;rw [getD_set_ne (by decide),getD_set_ne (by decide)];exact hz 4 (by decide)
 ·show (((onD (zDn d0) 1 st).Disk.Areas.set 3 (uY l)).set 5 _).getD 5 []=_;rw [vK (by rw [List.length_set];omega)];rfl
 ·show (((onD (zDn d0) 1 st).Disk.Areas.set 3 (uY l)).set 5 _).getD 0 []=_;rw [getD_set_ne (by decide),getD_set_ne (by decide)];exact hz 0 (by decide)
 ·show (((onD (zDn d0) 1 st).Disk.Areas.set 3 (uY l)).set 5 _).getD 2 []=_;rw [getD_set_ne (by decide),getD_set_ne (by decide)];exact hz 2 (by decide)
theorem zH4 (en:By) (active:Int) (h1:1<=active) (h3:active<=3) (hc:zB8 l):Def (nD en active l) (λr=>r.2=true/\∃ st,Dv r.1 1 st zOm 2/\st.Active=active/\st.Resets=0/\r.1.Disk.Areas.getD 3 []=uY l/\r.1.Disk.Areas.getD 4 []=[]/\r.1.Disk.Areas.getD 5 []=[0]):=
 (zK5 en active h1 h3 hc).mono λ_ ⟨a,st,b,c,d,e,f,g,_⟩ =>⟨a,st,b,c,d,e,f,g⟩
end
end Go.Proofs.TT
