/- the slots after installing -/
import Derived.Test.YtmfjfpfolbnogaaGreatDoorEZ3
import Derived.Test.YtmfjfpfolbnogaaGreatDoorEZ5
set_option linter.all false
namespace Go.Sw
open Go
variable {b:Nat}{c:Bool}{n:Int}{α β:Type}{a:α}{f:α->Option β}{l:List α}{r:Option β}
theorem zJi {X Y:Type} {step:X->Option (X ⊕ Y)} {r:Y} (n:Nat) (s:Nat->X) (h:∀ i,i<n->step (s i)=some (.inl (s (i+1)))) (he:step (s n)=some (.inr r)) :
  ∀ (d k fuel:Nat),k+d=n->d<fuel->zR step fuel (s k)=some r:=by
 intro d;induction d with
 | zero=>
  intro k fuel hk hf;obtain ⟨f,rfl⟩:∃ f,fuel=f+1:=⟨fuel - 1,by omega⟩;have:k=n:=by omega
  subst this;simp [zR,he]
 | succ d ih=>
  intro k fuel hk hf;obtain ⟨f,rfl⟩:∃ f,fuel=f+1:=⟨fuel - 1,by omega⟩;simp only [zR,h k (by omega)];exact ih (k+1) f (by omega) (by omega)
theorem yM {X Y:Type} {step:X->Option (X ⊕ Y)} {r:Y} {x:X} (n:Nat) (s:Nat->X) (h0:s 0=x) (h:∀ i,i<n->step (s i)=some (.inl (s (i+1)))) (he:step (s n)=some (.inr r)) {fuel:Nat} (hf:n<fuel) :
  zR step fuel x=some r:=by
 subst h0;exact zJi n s h he n 0 fuel (by omega) hf
theorem zFe {X Y:Type} {step:X->Option (X ⊕ Y)} (I:X->Prop) (m:X->Nat) (Q:Y->Prop)
  (h:∀ s,I s->(∃ s',step s=some (.inl s')/\I s'/\m s'<m s)∨(∃ r,step s=some (.inr r)/\Q r)) :
  ∀ (fuel:Nat) (s:X),I s->m s<fuel->∃ r,zR step fuel s=some r/\Q r:=by
 intro fuel;induction fuel with
 | zero=>intro s _ hm;omega
 | succ f ih=>
  intro s hs hm;rcases h s hs with ⟨s',h1,h2,h3⟩ | ⟨r,h1,h2⟩
  ·obtain ⟨r,h4,h5⟩:=ih s' h2 (by omega);exact ⟨r,by simp [zR,h1,h4],h5⟩
  ·exact ⟨r,by simp [zR,h1],h2⟩
theorem wN {n:Nat} (h:n<2 ^ 64):n<FU:=by
 have:(2:Nat) ^ 64<FU:=by decide
 omega
theorem yW (h1:-9223372036854775808<=n) (h2:n<=9223372036854775807):IntKind.i64.wrap n=n:=by rw [IntKind.wrap_i64];omega
theorem zVd (h1:0<=n) (h2:n<=4294967295):IntKind.u32.wrap n=n:=by rw [IntKind.wrap_u32];omega
theorem zDi (h1:0<=n) (h2:n<=18446744073709551615):IntKind.u64.wrap n=n:=by rw [IntKind.wrap_u64];omega
theorem yJ {m:List α} (h:(l.length+m.length)*b<=140737488355328):yP b l m=some (l++m):=by
 simp [yP,LIM,h]
theorem yS {i:Nat} (h:i<l.length):idx l (i:Int)=some l[i]:=by
 simp [idx,h]
theorem tZ {a:Nat} (h:a<=b) (h2:b<=l.length):sub l (a:Int) (b:Int)=some ((l.drop a).take (b - a)):=by
 have:(0:Int)<=a/\(a:Int)<=b/\(b:Int)<=l.length:=⟨by omega,by omega,by omega⟩;simp [sub,this]
theorem bd {o:Option α} (h:o=some a) (k:f a=r):o.bind f=r:=by subst h;exact k
theorem ltk {e:α} (k:f e=r):lt e f=r:=k
theorem ct {b r:α} (h:c=true) (k:a=r):(bif c then a else b)=r:=by subst h;exact k
theorem cf {b r:α} (h:c=false) (k:b=r):(bif c then a else b)=r:=by subst h;exact k
theorem ckT (h:c=true):ck c=some ():=by subst h;rfl
end Go.Sw
namespace Go.Proofs.TT
open Go Go.Sw
set_option maxRecDepth 100000
variable {a b:Nat}{e:Int}{i:Nat}{l:List Int}{n t:Nat}
def rr (x n:Int):Int:=ior .u32 (vL .u32 x n) (nM .u32 x (32 - n))
theorem zGt (k:IntKind) (a b:Int):ior k a b=ior k b a:=by simp [ior,BitVec.or_comm]
theorem oI (x:Int) (n m:Int) (h:sY .u64 (IntKind.u64.wrap n) 31=32 - m) (h0:0<=m) (h1:m<=32):zN x n=some (rr x m):=by
 have h2:IntKind.u64.wrap (32 - (32 - m))=m:=by rw [IntKind.wrap_u64];omega
 have h3:(0:Int)<=32 - m:=by omega
 have h4:decide ((0:Int)<=32 - m)=true:=by simpa using h3
 have h5:decide ((0:Int)<=m)=true:=by simpa using h0
 simp only [zN,ck,lt,h,h2,h4,h5,rr,cond_true,Option.bind_some];rw [zGt]
def K2:List Int:=wC
def a8 (s:A8 Int):List Int:=[s.a0,s.a1,s.a2,s.a3,s.a4,s.a5,s.a6,s.a7]
def t1 (s:A8 Int) (k w:Int):Int:=
 IntKind.u32.wrap (IntKind.u32.wrap (IntKind.u32.wrap (IntKind.u32.wrap (s.a7+vJ .u32 (vJ .u32 (rr s.a4 6) (rr s.a4 11)) (rr s.a4 25))+vJ .u32 (sY .u32 s.a4 s.a5) (sY .u32 (zFx .u32 s.a4) s.a6))+k)+w)
def t2 (s:A8 Int):Int:=IntKind.u32.wrap (vJ .u32 (vJ .u32 (rr s.a0 2) (rr s.a0 13)) (rr s.a0 22)+vJ .u32 (vJ .u32 (sY .u32 s.a0 s.a1) (sY .u32 s.a0 s.a2)) (sY .u32 s.a1 s.a2))
def rnd (s:A8 Int) (k w:Int):A8 Int:=⟨IntKind.u32.wrap (t1 s k w+t2 s),s.a0,s.a1,s.a2,IntKind.u32.wrap (s.a3+t1 s k w),s.a4,s.a5,s.a6⟩
def kP (w:List Int) (s:A8 Int):Nat->A8 Int
 | 0=>s
 | n+1=>rnd (kP w s n) (K2.getD n 0) (w.getD n 0)
theorem pW (h:t<n):ixN n (t:Int)=some t:=by
 have:(0:Int)<=t/\(t:Int)<n:=⟨by omega,by omega⟩;simp [ixN,this]
theorem bQ (h:t<l.length):l[t]? = some (l.getD t 0):=by simp [h]
theorem vI (h:t<2 ^ 40):IntKind.i64.wrap ((t:Int)+1)=((t+1:Nat):Int):=by rw [yW (by omega) (by omega)];simp
section
variable (a b c d e f g h:Int)
end
theorem dlt (h:a<b):decide ((a:Int)<(b:Int))=true:=by simp;exact h
theorem dge (h:b<=a):decide ((a:Int)<(b:Int))=false:=by simp;omega
theorem zO9 (w:List Int) (s:A8 Int) (i:Nat) (hi:i<64) (hw:w.length=64):uP w ((i:Int),s.a0,s.a1,s.a2,s.a3,s.a4,s.a5,s.a6,s.a7) =
  some (.inl (((i+1:Nat):Int),(rnd s (K2.getD i 0) (w.getD i 0)).a0,(rnd s (K2.getD i 0) (w.getD i 0)).a1,(rnd s (K2.getD i 0) (w.getD i 0)).a2,(rnd s (K2.getD i 0) (w.getD i 0)).a3,(rnd s (K2.getD i 0) (w.getD i 0)).a4,(rnd s (K2.getD i 0) (w.getD i 0)).a5,(rnd s (K2.getD i 0) (w.getD i 0)).a6,(rnd s (K2.getD i 0) (w.getD i 0)).a7)):=by
 have e1:decide ((i:Int)<64)=true:=dlt (b:=64) hi;have e2:∀ x,zN x (-6)=some (rr x 6):=λx=>oI x _ 6 (by decide) (by decide) (by decide);have e3:∀ x,zN x (-11)=some (rr x 11):=λx=>oI x _ 11 (by decide) (by decide) (by decide);have e4:∀ x,zN x (-25)=some (rr x 25):=λx=>oI x _ 25 (by decide) (by decide) (by decide);have e5:∀ x,zN x (-2)=some (rr x 2):=λx=>oI x _ 2 (by decide) (by decide) (by decide);have e6:∀ x,zN x (-13)=some (rr x 13):=λx=>oI x _ 13 (by decide) (by decide) (by decide);have e7:∀ x,zN x (-22)=some (rr x 22):=λx=>oI x _ 22 (by decide) (by decide) (by decide);have k1:idx wC (i:Int)=some (K2.getD i 0):=by rw [yS (show i<wC.length from hi)];simp [K2,show i<wC.length from hi]
 have k2:w[i]? = some (w.getD i 0):=bQ (by omega);unfold uP;refine ct e1 ?_;refine bd (e2 _) ?_;refine bd (e3 _) ?_;refine bd (e4 _) ?_;refine ltk ?_;refine ltk ?_;refine bd k1 ?_;refine ltk ?_;refine bd (pW hi) ?_;refine bd k2 ?_;refine bd (e5 _) ?_;refine bd (e6 _) ?_;refine bd (e7 _) ?_;refine ltk ?_;refine ltk ?_;refine ltk ?_;refine ltk ?_;rw [vI (show i<2 ^ 40 by omega)];rfl
theorem zTg (w:List Int) (hw:w.length=64) (s:A8 Int):zR (uP w) FU (0,s.a0,s.a1,s.a2,s.a3,s.a4,s.a5,s.a6,s.a7)=some ((kP w s 64).a0,(kP w s 64).a1,(kP w s 64).a2,(kP w s 64).a3,(kP w s 64).a4,(kP w s 64).a5,(kP w s 64).a6,(kP w s 64).a7):=by
 refine yM 64 (λi=>((i:Int),(kP w s i).a0,(kP w s i).a1,(kP w s i).a2,(kP w s i).a3,(kP w s i).a4,(kP w s i).a5,(kP w s i).a6,(kP w s i).a7)) rfl (λi hi=>zO9 w _ i hi hw) ?_ (wN (by decide));generalize kP w s 64=S;rfl
set_option maxRecDepth 100000
theorem zLv {l:By} {z:Int} (hz:z=(n:Int)) (h:n<l.length):idx l z=some (l.getD n 0):=by
 subst hz;simp [idx,h]
theorem zA2 {α:Type} {l:List α} {j:Nat} {u:α} (h:j<l.length):rN l j u=some (l.set j u):=by simp [rN,h]
def byt (b:By) (n:Nat):Int:=IntKind.u32.wrap (((b.getD n 0).toNat:Nat):Int)
def wd (b:By) (t:Nat):Int:=ior .u32 (ior .u32 (ior .u32 (nM .u32 (byt b (4*t)) 24) (nM .u32 (byt b (4*t+1)) 16)) (nM .u32 (byt b (4*t+2)) 8)) (byt b (4*t+3))
theorem zKd (b:By) (t:Nat) (h:4*t+3<b.length) (h2:t<2 ^ 20):dR b (t:Int)=some (wd b t):=by
 have e0:IntKind.i64.wrap (4*(t:Int))=((4*t:Nat):Int):=by rw [yW (by omega) (by omega)];simp
 unfold dR;rw [e0];refine bd (zLv rfl (by omega)) ?_;refine bd (zLv (n:=4*t+1) (by rw [yW (by omega) (by omega)];simp) (by omega)) ?_;refine ltk ?_;refine bd (zLv (n:=4*t+2) (by rw [yW (by omega) (by omega)];simp) (by omega)) ?_;refine ltk ?_;refine bd (zLv (n:=4*t+3) (by rw [yW (by omega) (by omega)];simp) (by omega)) ?_;rfl
theorem zHv:jK=dR:=rfl
def s0 (x:Int):Int:=vJ .u32 (vJ .u32 (rr x 7) (rr x 18)) (vL .u32 x 3)
def s1 (x:Int):Int:=vJ .u32 (vJ .u32 (rr x 17) (rr x 19)) (vL .u32 x 10)
def wv (b:By) (w:List Int) (t:Nat):Int:=
 if t<16 then wd b t else IntKind.u32.wrap (IntKind.u32.wrap (IntKind.u32.wrap (s1 (w.getD (t - 2) 0)+w.getD (t - 7) 0)+s0 (w.getD (t - 15) 0))+w.getD (t - 16) 0)
def zBp (b:By):Nat->List Int
 | 0=>List.replicate 64 0
 | t+1=>(zBp b t).set t (wv b (zBp b t) t)
theorem zAu (b:By):∀ t,(zBp b t).length=64
 | 0=>rfl
 | t+1=>by simp [zBp,zAu b t]
theorem zV7 (b:By) (w:List Int) (i:Nat) (hi:i<64) (hw:w.length=64) (hb:b.length=64):uO b ((i:Int),w)=some (.inl (((i+1:Nat):Int),w.set i (wv b w i))):=by
 have hiw:i<w.length:=by omega
 unfold uO;refine ct (dlt (b:=64) hi) ?_;refine bd (a:=w.set i (wv b w i)) ?_ (by rw [vI (show i<2 ^ 40 by omega)]);by_cases h:i<16
 ·refine ct (dlt (b:=16) h) ?_;rw [zHv];refine bd (zKd b i (by omega) (by omega)) ?_;refine bd (pW hi) ?_;refine bd (zA2 hiw) ?_;simp [wv,h]
 refine cf (dge (b:=16) (by omega)) ?_;have x15:ixN 64 (IntKind.i64.wrap ((i:Int) - 15))=some (i - 15):=by rw [yW (by omega) (by omega),show (i:Int) - 15=((i - 15:Nat):Int) by omega];exact pW (by omega)
 have x2:ixN 64 (IntKind.i64.wrap ((i:Int) - 2))=some (i - 2):=by rw [yW (by omega) (by omega),show (i:Int) - 2=((i - 2:Nat):Int) by omega];exact pW (by omega)
 have x7:ixN 64 (IntKind.i64.wrap ((i:Int) - 7))=some (i - 7):=by rw [yW (by omega) (by omega),show (i:Int) - 7=((i - 7:Nat):Int) by omega];exact pW (by omega)
 have x16:ixN 64 (IntKind.i64.wrap ((i:Int) - 16))=some (i - 16):=by rw [yW (by omega) (by omega),show (i:Int) - 16=((i - 16:Nat):Int) by omega];exact pW (by omega)
 have w15:w[i - 15]? = some (w.getD (i - 15) 0):=bQ (by omega);have w2:w[i - 2]? = some (w.getD (i - 2) 0):=bQ (by omega);have w7:w[i - 7]? = some (w.getD (i - 7) 0):=bQ (by omega);have w16:w[i - 16]? = some (w.getD (i - 16) 0):=bQ (by omega);have e7:∀ x,zN x (-7)=some (rr x 7):=λx=>oI x _ 7 (by decide) (by decide) (by decide);have e18:∀ x,zN x (-18)=some (rr x 18):=λx=>oI x _ 18 (by decide) (by decide) (by decide);have e17:∀ x,zN x (-17)=some (rr x 17):=λx=>oI x _ 17 (by decide) (by decide) (by decide);have e19:∀ x,zN x (-19)=some (rr x 19):=λx=>oI x _ 19 (by decide) (by decide) (by decide);refine bd (x15) ?_;refine bd (w15) ?_;refine bd (x2) ?_;refine bd (w2) ?_;refine bd (e7 _) ?_;refine bd (e18 _) ?_;refine bd (e17 _) ?_;refine bd (e19 _) ?_;refine bd (x7) ?_;refine bd (w7) ?_;refine ltk ?_;refine ltk ?_;refine bd (x16) ?_;refine bd (w16) ?_;refine bd (pW hi) ?_;refine bd (zA2 hiw) ?_;simp only [wv,h,if_false];rfl
theorem zR7 (b:By) (hb:b.length=64):zR (uO b) FU (0,List.replicate 64 0)=some (zBp b 64):=by
 refine yM 64 (λi=>((i:Int),zBp b i)) rfl (λi hi=>zV7 b _ i hi (zAu b i) hb) ?_ (wN (by decide));generalize zBp b 64=S;rfl
def mL (x:By) (n:Nat):By:=(x.drop n).take 64
set_option maxRecDepth 100000
def zPr (h s:A8 Int):A8 Int:=⟨IntKind.u32.wrap (h.a0+s.a0),IntKind.u32.wrap (h.a1+s.a1),IntKind.u32.wrap (h.a2+s.a2),IntKind.u32.wrap (h.a3+s.a3),IntKind.u32.wrap (h.a4+s.a4),IntKind.u32.wrap (h.a5+s.a5),IntKind.u32.wrap (h.a6+s.a6),IntKind.u32.wrap (h.a7+s.a7)⟩
def zHs (h s:List Int):Nat->List Int
 | 0=>h
 | i+1=>(zHs h s i).set i (IntKind.u32.wrap ((zHs h s i).getD i 0+s.getD i 0))
theorem zHa (h s:List Int):∀ i,(zHs h s i).length=h.length
 | 0=>rfl
 | i+1=>by simp [zHs,zHa h s i]
theorem zQ0 (h s:A8 Int):zHs (a8 h) (a8 s) 8=a8 (zPr h s):=rfl
def zHw (h:A8 Int) (b:By):A8 Int:=zPr h (kP (zBp b 64) h 64)
theorem zTq (h s:A8 Int):zR (vA s.a0 s.a1 s.a2 s.a3 s.a4 s.a5 s.a6 s.a7) FU (0,[h.a0,h.a1,h.a2,h.a3,h.a4,h.a5,h.a6,h.a7])=some (zPr h s):=by
 refine yM 8 (λi=>((i:Int),zHs (a8 h) (a8 s) i)) rfl (λi hi=>?_) ?_ (wN (by decide))
 ·have hl:(zHs (a8 h) (a8 s) i).length=8:=zHa _ _ _;unfold vA;refine ct (dlt (b:=8) hi) ?_;refine bd (pW hi) ?_;refine bd (bQ (by omega)) ?_;refine bd (pW hi) ?_;refine bd (a:=(a8 s).getD i 0) (bQ (l:=a8 s) hi) ?_;refine bd (pW hi) ?_;refine bd (zA2 (by omega)) ?_;rw [vI (show i<2 ^ 40 by omega)];rfl
 ·show vA s.a0 s.a1 s.a2 s.a3 s.a4 s.a5 s.a6 s.a7 (((8:Nat):Int),zHs (a8 h) (a8 s) 8)=_;rw [zQ0];unfold vA;refine cf rfl ?_;refine bd (a:=zPr h s) rfl rfl
theorem zHk (h:A8 Int) (b:By) (hb:b.length=64):sF h b=some (zHw h b):=by
 unfold sF;refine bd (zR7 b hb) ?_;refine bd (zTg _ (zAu b 64) h) ?_;refine bd (zTq h _) ?_;rfl
def zQn:A8 Int:=⟨1779033703,3144134277,1013904242,2773480762,1359893119,2600822924,528734635,1541459225⟩
def hsh (x:By):Nat->A8 Int
 | 0=>zQn
 | i+1=>zHw (hsh x i) (mL x (64*i))
def st8 (p:By) (h:A8 Int):By×Int×Int×Int×Int×Int×Int×Int×Int:=(p,h.a0,h.a1,h.a2,h.a3,h.a4,h.a5,h.a6,h.a7)
theorem zId (x:By) (n:Nat) (hx:x.length=64*n) (hl:x.length<2 ^ 48):zR nZ FU (st8 x zQn)=some ((hsh x n).a0,(hsh x n).a1,(hsh x n).a2,(hsh x n).a3,(hsh x n).a4,(hsh x n).a5,(hsh x n).a6,(hsh x n).a7):=by
 refine yM n (λi=>st8 (x.drop (64*i)) (hsh x i)) (by simp [hsh]) (λi hi=>?_) ?_ (wN (by omega))
 ·have hd:(x.drop (64*i)).length=x.length - 64*i:=by simp
  unfold nZ st8;refine ct (by simp;omega) ?_;refine bd (a:=mL x (64*i)) (by rw [show (0:Int)=((0:Nat):Int) from rfl,show (64:Int)=((64:Nat):Int) from rfl,tZ (by omega) (by omega)];simp [mL]) ?_;refine bd (zHk _ _ (by simp [mL];omega)) ?_;refine bd (a:=x.drop (64*(i+1))) (by rw [show (64:Int)=((64:Nat):Int) from rfl,tZ (by omega) (by omega)];rw [List.drop_drop,List.take_of_length_le (by simp;omega)];congr 2) ?_;rfl
 ·have hd:x.drop (64*n)=[]:=List.drop_eq_nil_of_le (by omega);show nZ (st8 (x.drop (64*n)) (hsh x n))=_;rw [hd];generalize hsh x n=S;rfl
def zs (n:Nat):Nat:=(119 - n % 64) % 64
def be8 (n:Int) (k:Nat):By:=(List.range k).map λ(j:Nat)=>u8 (vL .u64 n (56 - 8*(j:Int)))
theorem zJy (n:Int) (k:Nat):(be8 n k).length=k:=by simp [be8]
theorem zN2 (n:Int) (k:Nat):be8 n (k+1)=be8 n k++[u8 (vL .u64 n (56 - 8*(k:Int)))]:=by simp [be8,List.range_succ]
def zWj (b:By):Int:=IntKind.u64.wrap (IntKind.u64.wrap (b.length:Int)*8)
def zBx (b:By):By:=(b++[128]++List.replicate (zs b.length) 0)++be8 (zWj b) 8
theorem zDp (b:By):(zBx b).length=b.length+9+zs b.length:=by simp [zBx,zJy];omega
theorem zG3 (b:By):(zBx b).length % 64=0:=by rw [zDp];unfold zs;omega
theorem zKx (b:By) (hb:b.length<2 ^ 40):zR jZ FU (b++[128])=some (b++[128]++List.replicate (zs b.length) 0):=by
 have hz:zs b.length<64:=by unfold zs;omega
 refine yM (zs b.length) (λi=>b++[128]++List.replicate i 0) (by simp) (λi hi=>?_) ?_ (wN (by omega))
 ·have hl:(b++[128]++List.replicate i 0).length=b.length+1+i:=by simp;omega
  unfold jZ;refine ct ?_ ?_
  ·rw [hl];simp only [bne_iff_ne,ne_eq];rw [Int.tmod_eq_emod_of_nonneg (by omega)];unfold zs at hi;omega
  ·refine bd (yJ (by rw [hl];simp;omega)) ?_;rw [List.append_assoc,<- List.replicate_succ']
 ·have hl:(b++[128]++List.replicate (zs b.length) 0).length=b.length+1+zs b.length:=by simp;omega
  unfold jZ;refine cf ?_ rfl;rw [hl];simp only [bne_eq_false_iff_eq];rw [Int.tmod_eq_emod_of_nonneg (by omega)];unfold zs;omega
theorem zP1:cQ=jZ:=rfl
theorem zN1 (x:By) (n:Int) (hx:x.length<2 ^ 41):zR (iD n) FU (x,56)=some (x++be8 n 8):=by
 refine yM 8 (λi=>(x++be8 n i,56 - 8*(i:Int))) (by simp [be8]) (λi hi=>?_) ?_ (wN (by decide))
 ·unfold iD;refine ct (by simp;omega) ?_;rw [zDi (n:=56 - 8*(i:Int)) (by omega) (by omega)];refine bd (yJ (by simp [zJy];omega)) ?_;rw [yW (by omega) (by omega),List.append_assoc,<- zN2,show (56:Int) - 8*(i:Int) - 8=56 - 8*((i+1:Nat):Int) by omega]
 ·generalize be8 n 8=S;rfl
theorem zDm (b:By) (hb:b.length<2 ^ 40):kE b=some (zBx b):=by
 have hz:zs b.length<64:=by unfold zs;omega
 unfold kE;refine bd (a:=b.length+72) (by unfold mkN;rw [yW (by omega) (by omega),if_pos (by omega)];congr 1) ?_;refine bd (a:=b) (by rw [yJ (by simp;omega)];simp) ?_;refine bd (yJ (by simp;omega)) ?_;rw [zP1];refine bd (zKx b hb) ?_;refine ltk ?_;refine bd (zN1 _ _ (by simp;omega)) ?_;rfl
def be4 (w:Int):By:=[u8 (vL .u32 w 24),u8 (vL .u32 w 16),u8 (vL .u32 w 8),u8 w]
theorem zI1 (l:List Int):(l.flatMap be4).length=4*l.length:=by
 induction l with
 | nil=>rfl
 | cons a r ih=>simp [ih,be4];omega
theorem zPd (l:List Int) (i:Nat) (hi:i<l.length):(l.take (i+1)).flatMap be4=(l.take i).flatMap be4++be4 (l.getD i 0):=by
 rw [List.take_add_one,List.flatMap_append];congr 1;simp [hi]
theorem idxI (h:i<l.length):idx l (i:Int)=some (l.getD i 0):=by rw [yS h];simp [h]
theorem zE0 (l:List Int) (hl:l.length<2 ^ 20):qR l=some (l.flatMap be4):=by
 have:zR (rW l) FU ([],0)=some (l.flatMap be4):=by
  refine yM l.length (λi=>((l.take i).flatMap be4,(i:Int))) (by simp) (λi hi=>?_) ?_ (wN (by omega))
  ·unfold rW;refine ct (dlt hi) ?_;refine bd (idxI hi) ?_;refine bd (yJ (by rw [zI1];simp;omega)) ?_;rw [zPd l i hi,vI (show i<2 ^ 40 by omega)];rfl
  ·unfold rW;refine cf (dge (Nat.le_refl _)) ?_;simp
 unfold qR;refine bd (a:=4*l.length) (by unfold mkN;rw [yW (by omega) (by omega),if_pos (by omega)];congr 1) ?_;exact bd this rfl
def sha (b:By):By:=(a8 (hsh (zBx b) ((zBx b).length / 64))).flatMap be4
theorem zCn (b:By):(sha b).length=32:=by unfold sha;rw [zI1];rfl
theorem zFr (b:By) (hb:b.length<2 ^ 40):xH 1 b=some (sha b):=by
 have hz:zs b.length<64:=by unfold zs;omega
 have h1:=zDp b;have h2:=zG3 b;unfold xH;refine cf rfl ?_;refine ct rfl ?_;refine bd (zDm b hb) ?_;refine bd (zId (zBx b) ((zBx b).length / 64) (by omega) (by omega)) ?_;refine bd (zE0 _ (by simp)) ?_;rfl
set_option maxRecDepth 100000
def hd4 (n:Nat):By:=[u8 (vL .i64 (n:Int) 24),u8 (vL .i64 (n:Int) 16),u8 (vL .i64 (n:Int) 8),u8 (n:Int)]
theorem zW1 (n:Nat) (h:n<2 ^ 32):[u8 (vL .u32 (IntKind.u32.wrap (n:Int)) 24),u8 (vL .u32 (IntKind.u32.wrap (n:Int)) 16),u8 (vL .u32 (IntKind.u32.wrap (n:Int)) 8),u8 (IntKind.u32.wrap (n:Int))]=hd4 n:=by
 rw [zVd (by omega) (by omega)];rfl
def zOj (fs:List By):By:=fs.flatMap λf=>hd4 f.length++f
def frm (tag:Int) (fs:List By):By:=u8 tag :: zOj fs
def tot (fs:List By):Nat:=(fs.map λf=>4+f.length).sum
theorem zOq (fs:List By):(zOj fs).length=tot fs:=by
 induction fs with
 | nil=>rfl
 | cons f r ih=>simp only [zOj,tot,List.flatMap_cons,List.length_append,List.map_cons,List.sum_cons] at ih ⊢;rw [ih];simp [hd4]
theorem zJn (tag:Int) (fs:List By):(frm tag fs).length=1+tot fs:=by simp [frm,zOq];omega
theorem zNf (tag:Int) (fs:List By) (i:Nat) (hi:i<fs.length):frm tag (fs.take (i+1))=(frm tag (fs.take i)++hd4 (fs[i]).length)++fs[i]:=by
 unfold frm zOj;rw [List.take_add_one,List.flatMap_append];simp [hi]
theorem zO1 (fs:List By):∀ i,tot (fs.take i)<=tot fs:=by
 induction fs with
 | nil=>intro i;simp
 | cons f r ih=>
  intro i;cases i with
  | zero=>simp [tot]
  | succ j=>have:=ih j;simp only [tot,List.take_succ_cons,List.map_cons,List.sum_cons] at this ⊢;omega
theorem zP0 (fs:List By):fs.length<=tot fs:=by
 induction fs with
 | nil=>simp
 | cons f r ih=>simp only [tot,List.length_cons,List.map_cons,List.sum_cons] at ih ⊢;omega
theorem zPi (fs:List By) (i:Nat) (hi:i<fs.length):tot (fs.take i)+4+(fs[i]).length<=tot fs:=by
 have h:=zO1 fs (i+1);have e:tot (fs.take (i+1))=tot (fs.take i)+(4+(fs[i]).length):=by
  unfold tot;rw [List.take_add_one,List.map_append,List.sum_append];simp only [hi,List.getElem?_eq_getElem,Option.toList_some,List.map_cons,List.map_nil,List.sum_cons,List.sum_nil];omega
 omega
theorem zKv (tag:Int) (fs:List By) (h:tot fs<2 ^ 32):lG tag fs=some (frm tag fs):=by
 have h1:=zP0 fs;have:zR (qX fs) FU ([u8 tag],0)=some (frm tag fs):=by
  refine yM fs.length (λi=>(frm tag (fs.take i),(i:Int))) (by simp [frm,zOj]) (λi hi=>?_) ?_ (wN (by omega))
  ·have h2:=zPi fs i hi;have h3:=zJn tag (fs.take i);unfold qX;refine ct (dlt hi) ?_;refine bd (yS hi) ?_;rw [zW1 _ (by omega)];refine bd (yJ (by simp [hd4];omega)) ?_;refine bd (yJ (by simp [hd4];omega)) ?_;rw [zNf tag fs i hi,vI (show i<2 ^ 40 by omega)]
  ·unfold qX;refine cf (dge (Nat.le_refl _)) ?_;simp
 unfold lG;exact bd this rfl
def hs (tag:Int) (fs:List By):By:=sha (frm tag fs)
theorem dC (tag:Int) (fs:List By):(hs tag fs).length=32:=zCn _
theorem zAl (tag:Int) (fs:List By) (h:tot fs<2 ^ 32):rM tag fs=some (hs tag fs):=by
 unfold rM;refine bd (zKv tag fs h) ?_;exact bd (zFr _ (by rw [zJn];omega)) rfl
def beN (n:Int) (size k:Nat):By:=(List.range k).map λ(j:Nat)=>u8 (vL .u64 (IntKind.u64.wrap n) (8*((size:Int) - 1 - (j:Int))))
theorem xB (n:Int) (size k:Nat):(beN n size k).length=k:=by simp [beN]
theorem zMn (n:Int) (size k:Nat):beN n size (k+1)=beN n size k++[u8 (vL .u64 (IntKind.u64.wrap n) (8*((size:Int) - 1 - (k:Int))))]:=by simp [beN,List.range_succ]
def qV (b:By) (size:Nat) (n:Int):By:=b++beN n size size
theorem tV (b:By) (size:Nat) (n:Int):(qV b size n).length=b.length+size:=by simp [qV,xB]
theorem qC (b:By) (size:Nat) (n:Int) (h1:1<=size) (h8:size<=8) (hb:b.length<2 ^ 40):xM b (size:Int) n=some (qV b size n):=by
 have:zR (lE n) FU (b,(size:Int) - 1)=some (qV b size n):=by
  refine yM size (λi=>(b++beN n size i,(size:Int) - 1 - (i:Int))) (by simp [beN]) (λi hi=>?_) ?_ (wN (by omega))
  ·unfold lE;refine ct (by simp;omega) ?_;refine ltk ?_;rw [yW (n:=8*((size:Int) - 1 - (i:Int))) (by omega) (by omega),zDi (n:=8*((size:Int) - 1 - (i:Int))) (by omega) (by omega)];refine bd (yJ (by simp [xB];omega)) ?_;rw [yW (by omega) (by omega),List.append_assoc,<- zMn,show (size:Int) - 1 - (i:Int) - 1=(size:Int) - 1 - ((i+1:Nat):Int) by omega]
  ·unfold lE;refine cf (by simp;omega) rfl
 unfold xM;refine bd (a:=b) (by rw [yJ (by simp;omega)];simp) ?_;refine bd (a:=false) (cf (by simp;omega) (congrArg some (by simp;omega))) ?_;rw [yW (by omega) (by omega)];exact bd this rfl
def zAb (b x:By):By:=qV b 2 ((x.take 65535).length:Int)++x.take 65535
theorem zA3 (b x:By):(zAb b x).length<=b.length+65537:=by simp [zAb,tV];omega
theorem fK (b x:By) (hb:b.length<2 ^ 39):xY b x=some (zAb b x):=by
 unfold xY;refine bd (a:=x.take 65535) ?_ ?_
 ·by_cases h:65535<x.length
  ·rw [if_pos (by omega),show (0:Int)=((0:Nat):Int) from rfl,show (65535:Int)=((65535:Nat):Int) from rfl,tZ (by omega) (by omega)];simp
  ·rw [if_neg (by omega),show (0:Int)=((0:Nat):Int) from rfl,tZ (by omega) (by omega)];simp;rw [List.take_of_length_le (by omega)]
 ·refine bd (qC b 2 _ (by omega) (by omega) (by omega)) ?_;refine bd (yJ (by rw [tV];simp;omega)) ?_;rfl
theorem zGw (a b:By) (ha:a.length<2 ^ 40):iU a b=some (a==b):=by
 unfold iU;by_cases h:a.length=b.length
 ·refine cf (by simp;omega) ?_;have:∃ r,zR (oQ a b) FU 0=some r/\(match r with | .inl r=>r=false/\a≠b | .inr _=>a=b):=by
   refine zFe (λs=>∃ k:Nat,s=(k:Int)/\k<=a.length/\a.take k=b.take k) (λs=>a.length - s.toNat) _ (λs hs=>?_) FU 0 ⟨0,rfl,by omega,by simp⟩ (wN (by omega));obtain ⟨k,rfl,hk,he⟩:=hs;by_cases hk2:k<a.length
   ·by_cases hv:a[k]=b[k]
    ·refine .inl ⟨((k+1:Nat):Int),?_,⟨k+1,rfl,by omega,?_⟩,by simp;omega⟩
     ·unfold oQ;refine ct (dlt hk2) ?_;refine bd (yS hk2) ?_;refine bd (yS (h▸hk2)) ?_;refine cf (by rw [hv];simp) ?_;rw [vI (by omega)]
     ·rw [List.take_add_one,List.take_add_one,he];simp [hk2,hv,h▸hk2]
    ·refine .inr ⟨.inl false,?_,rfl,λe=>hv (by subst e;rfl)⟩;unfold oQ;refine ct (dlt hk2) ?_;refine bd (yS hk2) ?_;refine bd (yS (h▸hk2)) ?_;refine ct ?_ rfl;simp only [bne_iff_ne,ne_eq];intro e;exact hv (UInt8.toNat_inj.mp (by omega))
   ·refine .inr ⟨.inr (),?_,?_⟩
    ·unfold oQ;exact cf (dge (by omega)) rfl
    ·have e1:a.take k=a:=List.take_of_length_le (by omega);have e2:b.take k=b:=List.take_of_length_le (by omega);rw [e1,e2] at he;exact he
  obtain ⟨r,h1,h2⟩:=this;refine bd h1 ?_;cases r with
  | inl r=>obtain ⟨rfl,h3⟩:=h2;simp [h3]
  | inr u=>simp [h2]
 ·refine ct (by simp;omega) ?_;have:a≠b:=λe=>h (by rw [e]);simp [this]
theorem zGl (a b:By):jU a b=some (a==b):=rfl
set_option maxRecDepth 100000
structure RS where
 b:By
 at':Nat
 e:Int
def RS.W (r:RS):zC:=⟨r.b,(r.at':Int),r.e⟩
def RS.Ok (r:RS):Prop:=r.at'<=r.b.length/\r.b.length<2 ^ 40
def RS.err (r:RS) (e:Int):RS:=⟨r.b,r.at',e⟩
def RS.to (r:RS) (n:Nat):RS:=⟨r.b,r.at'+n,r.e⟩
def RS.left (r:RS):Nat:=r.b.length - r.at'
def RS.get (r:RS) (n:Nat):By:=(r.b.drop r.at').take n
theorem RS.get_len (r:RS) (n:Nat) (h:n<=r.left):(r.get n).length=n:=by simp [RS.get,RS.left] at *;omega
def fX (r:RS) (n:Nat):By×RS:=if r.e≠0 then ([],r) else if r.left<n then ([],r.err 2) else (r.get n,r.to n)
def beV (l:By):Nat->Int
 | 0=>0
 | k+1=>ior .u64 (nM .u64 (beV l k) 8) (IntKind.u64.wrap ((l.getD k 0).toNat:Int))
def sX (r:RS) (n:Nat):Int×RS:=
 if r.e≠0 then (0,r) else if r.left<n then (0,r.err 2) else if 9223372036854775808<=beV (r.get n) n then (0,r.err 4) else (IntKind.i64.wrap (beV (r.get n) n),r.to n)
def v2 (r:RS):Nat:=(r.b.getD r.at' 0).toNat*256+(r.b.getD (r.at'+1) 0).toNat
def rI (r:RS) (most:Nat):By×RS:=
 if r.e≠0 then ([],r) else if r.left<2 then ([],r.err 2) else if most<v2 r then ([],r.err 4) else if r.left<2+v2 r then ([],r.err 2) else ((r.b.drop (r.at'+2)).take (v2 r),r.to (2+v2 r))
def zFh (r:RS):Int:=if r.e=0/\0<r.left then 3 else r.e
theorem zM0 (r:RS) (n:Nat) (h:r.Ok):(fX r n).2.Ok:=by
 unfold fX;split
 ·exact h
 split
 ·exact h
 ·obtain ⟨h1,h2⟩:=h;exact ⟨by simp only [RS.to,RS.left] at *;omega,h2⟩
theorem zE2 (r:RS) (n:Nat) (h:r.Ok):(sX r n).2.Ok:=by
 unfold sX;split
 ·exact h
 split
 ·exact h
 split
 ·exact h
 ·obtain ⟨h1,h2⟩:=h;exact ⟨by simp only [RS.to,RS.left] at *;omega,h2⟩
theorem zK0 (r:RS) (n:Nat) (h:r.Ok):(rI r n).2.Ok:=by
 unfold rI;split
 ·exact h
 split
 ·exact h
 split
 ·exact h
 split
 ·exact h
 ·obtain ⟨h1,h2⟩:=h;exact ⟨by simp only [RS.to,RS.left] at *;omega,h2⟩
theorem zF3 (r:RS) (h:r.Ok):IntKind.i64.wrap ((r.b.length:Int) - (r.at':Int))=(r.left:Int):=by
 obtain ⟨h1,h2⟩:=h;rw [yW (by omega) (by omega)];simp only [RS.left];omega
theorem zHg (r:zC) (a n:Nat) (h1:a<=r.b_.length) (h2:r.b_.length<2 ^ 40) (hn:r.b_.length - a<n):yY r (a:Int) (n:Int)=some ([],2,r):=by
 unfold yY;refine ct ?_ rfl;rw [yW (by omega) (by omega)];simp;omega
theorem zEv (r:zC) (a n:Nat) (h2:r.b_.length<2 ^ 40) (hn:a+n<=r.b_.length):yY r (a:Int) (n:Int)=some ((r.b_.drop a).take n,0,r):=by
 unfold yY;refine cf ?_ ?_
 ·rw [yW (by omega) (by omega)];simp;omega
 ·refine bd (a:=(r.b_.drop a).take n) ?_ rfl;rw [yW (by omega) (by omega),show (a:Int)+(n:Int)=((a+n:Nat):Int) by omega,tZ (by omega) (by omega),Nat.add_sub_cancel_left]
theorem zFm (r:RS) (n:Nat) (h:r.Ok) (hn:r.left<n):yY r.W (r.at':Int) (n:Int)=some ([],2,r.W):=zHg r.W r.at' n h.1 h.2 hn
theorem zC9 (r:RS) (n:Nat) (h:r.Ok) (hn:n<=r.left):yY r.W (r.at':Int) (n:Int)=some (r.get n,0,r.W):=
 zEv r.W r.at' n h.2 (by have:=h.1;simp only [RS.left] at hn;show r.at'+n<=r.b.length;omega)
theorem b0 (h:e=0):(e != 0)=false:=by subst h;rfl
theorem b1 (h:e≠0):(e != 0)=true:=by simp [h]
theorem c0 (h:e=0):(e==0)=true:=by subst h;rfl
theorem c1 (h:e≠0):(e==0)=false:=by simp [h]
theorem nneg (n:Nat):decide ((n:Int)<0)=false:=by simp
theorem zBn (r:RS) (n:Nat) (h:r.Ok):wZ r.W (n:Int)=some ((fX r n).1,(fX r n).2.W):=by
 unfold wZ;by_cases he:r.e=0
 ·refine cf (b0 he) ?_;refine cf (nneg n) ?_;by_cases hn:r.left<n
  ·refine bd (zFm r n h hn) ?_;refine ct rfl ?_;rw [show fX r n=([],r.err 2) by simp [fX,he,hn]];rfl
  ·refine bd (zC9 r n h (by omega)) ?_;refine cf rfl ?_;have hl:=RS.get_len r n (by omega);obtain ⟨h1,h2⟩:=h;refine bd (a:=r.get n) (by rw [yJ (by simp;simp only [RS.left] at hn;omega)];simp) ?_;show some (r.get n,(⟨r.b,IntKind.i64.wrap ((r.at':Int)+(n:Int)),r.e⟩:zC))=_;have hn':=hn;simp only [RS.left] at hn';rw [yW (by omega) (by omega),show (r.at':Int)+(n:Int)=((r.at'+n:Nat):Int) by omega];rw [show fX r n=(r.get n,r.to n) by simp [fX,he,hn]];rfl
 ·refine ct (b1 he) ?_;rw [show fX r n=([],r) by simp [fX,he]]
theorem zXz (l:By) (hl:l.length<2 ^ 40):zR (tP l) FU (0,0)=some (beV l l.length):=by
 refine yM l.length (λi=>(beV l i,(i:Int))) rfl (λi hi=>?_) ?_ (wN (by omega))
 ·unfold tP;refine ct (dlt hi) ?_;refine bd (yS hi) ?_;refine ltk ?_;rw [vI (show i<2 ^ 40 by omega)];simp [beV,hi]
 ·unfold tP;exact cf (dge (Nat.le_refl _)) rfl
theorem sT (r:RS) (n:Nat) (h:r.Ok) (h1:1<=n) (h8:n<=8):yB r.W (n:Int)=some ((sX r n).1,(sX r n).2.W):=by
 unfold yB;by_cases he:r.e=0
 ·refine cf (b0 he) ?_;refine bd (a:=false) (cf (by simp;omega) (congrArg some (by simp;omega))) ?_;refine cf rfl ?_;by_cases hn:r.left<n
  ·refine bd (zFm r n h hn) ?_;refine ct rfl ?_;rw [show sX r n=(0,r.err 2) by simp [sX,he,hn]];rfl
  ·refine bd (zC9 r n h (by omega)) ?_;refine cf rfl ?_;have hl:=RS.get_len r n (by omega);refine bd (a:=beV (r.get n) n) ((zXz _ (by omega)).trans (by rw [hl])) ?_;by_cases hv:9223372036854775808<=beV (r.get n) n
   ·refine ct (by simp;omega) ?_;rw [show sX r n=(0,r.err 4) by simp [sX,he,hn,hv]];rfl
   ·refine cf (by simp;omega) ?_;obtain ⟨h1,h2⟩:=h;show some (_,(⟨r.b,IntKind.i64.wrap ((r.at':Int)+(n:Int)),r.e⟩:zC))=_;have hn':=hn;simp only [RS.left] at hn';rw [yW (n:=(r.at':Int)+(n:Int)) (by omega) (by omega),show (r.at':Int)+(n:Int)=((r.at'+n:Nat):Int) by omega];rw [show sX r n=(IntKind.i64.wrap (beV (r.get n) n),r.to n) by simp [sX,he,hn,hv]];rfl
 ·refine ct (b1 he) ?_;rw [show sX r n=(0,r) by simp [sX,he]]
theorem zQp (x y:UInt8):ior .i64 (nM .i64 (IntKind.i64.wrap (x.toNat:Int)) 8) (IntKind.i64.wrap (y.toNat:Int))=((x.toNat*256+y.toNat:Nat):Int):=by
 have hx:=x.toNat_lt;have hy:=y.toNat_lt;rw [yW (by omega) (by omega),yW (by omega) (by omega)];have e1:nM .i64 (x.toNat:Int) 8=((x.toNat*256:Nat):Int):=by
  show IntKind.i64.wrap ((x.toNat:Int)*256)=_;rw [yW (by omega) (by omega)];omega
 rw [e1];unfold ior;have e2:(BitVec.ofInt IntKind.i64.bits ((x.toNat*256:Nat):Int) ||| BitVec.ofInt IntKind.i64.bits (y.toNat:Int)).toNat=x.toNat*256+y.toNat:=by
  show (BitVec.ofInt 64 ((x.toNat*256:Nat):Int) ||| BitVec.ofInt 64 (y.toNat:Int)).toNat=_;rw [BitVec.ofInt_natCast,BitVec.ofInt_natCast,BitVec.toNat_or,BitVec.toNat_ofNat,BitVec.toNat_ofNat,Nat.mod_eq_of_lt (by omega),Nat.mod_eq_of_lt (by omega)];rw [Nat.mul_comm,show (256:Nat)=2 ^ 8 from rfl,<- Nat.two_pow_add_eq_or_of_lt (by omega)]
 rw [e2,yW (by omega) (by omega)]
theorem ig {l:By} (h:i<l.length):idx l (i:Int)=some (l.getD i 0):=by rw [yS h];simp [h]
theorem qT (r:RS) (m:Nat) (h:r.Ok):yL r.W (m:Int)=some ((rI r m).1,(rI r m).2.W):=by
 have hv:v2 r<65536:=by
  have h1:=(r.b.getD r.at' 0).toNat_lt;have h2:=(r.b.getD (r.at'+1) 0).toNat_lt;unfold v2;omega
 unfold yL;by_cases he:r.e=0
 ·refine cf (b0 he) ?_;by_cases hn:r.left<2
  ·refine bd (zFm r 2 h hn) ?_;refine ct rfl ?_;rw [show rI r m=([],r.err 2) by simp [rI,he,hn]];rfl
  ·refine bd (zC9 r 2 h (by omega)) ?_;refine cf rfl ?_;have hl:=RS.get_len r 2 (by omega);have hn':=hn;simp only [RS.left] at hn';refine bd (a:=r.b.getD r.at' 0) ?_ ?_
   ·refine (ig (l:=r.get 2) (i:=0) (by omega)).trans ?_;simp [RS.get]
   refine bd (a:=r.b.getD (r.at'+1) 0) ?_ ?_
   ·refine (ig (l:=r.get 2) (i:=1) (by omega)).trans ?_;simp [RS.get]
   refine ltk ?_;rw [zQp];show (bif decide ((m:Int)<(v2 r:Int)) then _ else _)=_;by_cases hm:m<v2 r
   ·refine ct (dlt hm) ?_;rw [show rI r m=([],r.err 4) by simp [rI,he,hn,hm]];rfl
   ·refine cf (dge (by omega)) ?_;obtain ⟨h1,h2⟩:=h;have hw:IntKind.i64.wrap ((r.at':Int)+2)=(((r.at'+2:Nat)):Int):=by rw [yW (by omega) (by omega)];omega
    show ((yY r.W (IntKind.i64.wrap ((r.at':Int)+2)) (v2 r:Int)).bind _)=_;rw [hw];by_cases hk:r.left<2+v2 r
    ·refine bd (a:=([],2,r.W)) ?_ ?_
     ·exact zHg r.W (r.at'+2) (v2 r) (by show r.at'+2<=r.b.length;omega) h2 (by simp only [RS.left] at hk;show r.b.length - (r.at'+2)<v2 r;omega)
     ·refine ct rfl ?_;rw [show rI r m=([],r.err 2) by simp [rI,he,hn,hm,hk]];rfl
    ·have hk':=hk;simp only [RS.left] at hk';refine bd (zEv r.W (r.at'+2) (v2 r) h2 (by show r.at'+2+v2 r<=r.b.length;omega)) ?_;refine cf rfl ?_;refine ltk ?_;refine bd (a:=(r.b.drop (r.at'+2)).take (v2 r)) ?_ ?_
     ·refine (yJ (by simp;omega)).trans ?_;rfl
     ·show some (_,(⟨r.b,IntKind.i64.wrap ((r.at':Int)+IntKind.i64.wrap (2+(v2 r:Int))),r.e⟩:zC))=_;rw [yW (n:=2+(v2 r:Int)) (by omega) (by omega),yW (by omega) (by omega),show (r.at':Int)+(2+(v2 r:Int))=((r.at'+(2+v2 r):Nat):Int) by omega];rw [show rI r m=((r.b.drop (r.at'+2)).take (v2 r),r.to (2+v2 r)) by simp [rI,he,hn,hm,hk]];rfl
 ·refine ct (b1 he) ?_;rw [show rI r m=([],r) by simp [rI,he]]
theorem zBs (r:RS) (h:r.Ok):xT r.W=some (zFh r,r.W):=by
 unfold xT;by_cases he:r.e=0
 ·refine bd (a:=(decide (0<(r.left:Int)),r.b,(r.at':Int),r.e)) (ct (c0 he) ?_) ?_
  ·show some (decide (0<IntKind.i64.wrap ((r.b.length:Int) - (r.at':Int))),r.b,(r.at':Int),r.e)=_;rw [zF3 r h]
  ·by_cases hl:0<r.left
   ·refine ct (by simp;omega) ?_;simp only [zFh,he,hl];rw [<- he];rfl
   ·refine cf (by simp;omega) ?_;simp only [zFh,he,hl];rw [<- he];simp [RS.W]
 ·refine bd (a:=(false,r.b,(r.at':Int),r.e)) (cf (c1 he) rfl) ?_;refine cf rfl ?_;simp only [zFh,he];simp [RS.W]
end Go.Proofs.TT
namespace Go.Sw
open Go
variable {a b:Nat}{i:Int}{j:Nat}{α β:Type}{P:α->Prop}{f:α->Option β}{l:List α}{o:Option α}
def Def (o:Option α) (P:α->Prop):Prop:=∃ a,o=some a/\P a
theorem Def.bd {Q:β->Prop} (h:Def o P) (k:∀ a,P a->Def (f a) Q):Def (o.bind f) Q:=by
 obtain ⟨a,rfl,h⟩:=h;exact k a h
theorem Def.s {a:α} {Q:α->Prop} (h:Q a):Def (some a) Q:=⟨a,rfl,h⟩
theorem Def.of {a:α} {Q:α->Prop} (e:o=some a) (h:Q a):Def o Q:=⟨a,e,h⟩
theorem Def.c {b:Bool} {x y:Option α} {Q:α->Prop} (h:b=true->Def x Q) (k:b=false->Def y Q):Def (bif b then x else y) Q:=by
 cases b
 ·exact k rfl
 ·exact h rfl
theorem Def.ck {b:Bool} (h:b=true):Def (Go.Sw.ck b) (λ_=>True):=⟨(),ckT h,trivial⟩
theorem Def.lt {e:α} {Q:β->Prop} (k:Def (f e) Q):Def (Go.Sw.lt e f) Q:=k
theorem Def.mono {Q:α->Prop} (h:Def o P) (k:∀ a,P a->Q a):Def o Q:=by
 obtain ⟨a,e,h⟩:=h;exact ⟨a,e,k a h⟩
theorem Def.get (d:α) (h:Def o P):o=some (o.getD d)/\P (o.getD d):=by
 obtain ⟨a,rfl,h⟩:=h;exact ⟨rfl,h⟩
theorem Def.loop {X Y:Type} {step:X->Option (X ⊕ Y)} {s:X} {Q:Y->Prop} (I:X->Prop) (m:X->Nat)
  (h:∀ s,I s->Def (step s) (λr=>match r with | .inl s'=>I s'/\m s'<m s | .inr r=>Q r)) (h0:I s) (hm:m s<2 ^ 64):Def (zR step FU s) Q:=by
 refine zFe I m Q (λs hs=>?_) FU s h0 (wN hm);obtain ⟨r,e,hr⟩:=h s hs;cases r with
 | inl s'=>exact .inl ⟨s',e,hr.1,hr.2⟩
 | inr r=>exact .inr ⟨r,e,hr⟩
theorem Def.app {m:List α} (h:(l.length+m.length)*b<=140737488355328):Def (yP b l m) (λr=>r=l++m):=⟨_,yJ h,rfl⟩
theorem Def.idx (h0:0<=i) (h:i<l.length):Def (Go.Sw.idx l i) (λr=>r∈l):=by
 obtain ⟨n,rfl⟩:=Int.eq_ofNat_of_zero_le h0;exact ⟨_,yS (by omega),List.getElem_mem _⟩
theorem Def.sub {a b:Int} (h0:0<=a) (h1:a<=b) (h2:b<=l.length):Def (Go.Sw.sub l a b) (λr=>r=(l.drop a.toNat).take (b.toNat - a.toNat)):=by
 obtain ⟨n,rfl⟩:=Int.eq_ofNat_of_zero_le h0;obtain ⟨m,rfl⟩:=Int.eq_ofNat_of_zero_le (by omega:0<=b);exact ⟨_,tZ (by omega) (by omega),rfl⟩
theorem Def.ixN {n:Nat} (h0:0<=i) (h:i<n):Def (Go.Sw.ixN n i) (λj=>j=i.toNat/\j<n):=by
 refine ⟨i.toNat,?_,rfl,by omega⟩;simp [Go.Sw.ixN,h0,h]
theorem Def.upd {u:α} (h:j<l.length):Def (rN l j u) (λr=>r=l.set j u):=⟨_,by simp [rN,h],rfl⟩
theorem Def.at (h:j<l.length):Def (l[j]?) (λr=>r∈l):=⟨l[j],by simp [h],List.getElem_mem _⟩
theorem Def.mkN {n:Int} (h0:0<=n) (h:n<2 ^ 40):Def (mkN 1 n) (λj=>j=n.toNat):=⟨n.toNat,by unfold Go.Sw.mkN;rw [if_pos ⟨h0,by omega⟩],rfl⟩
theorem beqT (h:a=b):Nat.beq a b=true:=by subst h;exact Nat.beq_refl a
theorem zEf (h:a<=b):Nat.ble a b=true:=Nat.ble_eq.mpr h
end Go.Sw
namespace Go.Proofs.TT
open Go Go.Sw
set_option maxRecDepth 100000
end Go.Proofs.TT
namespace Go.Sw
open Go
theorem eK {X Y:Type} {s1 s2:X->Option (X ⊕ Y)} (I:X->Prop) (h:∀ s,I s->s1 s=s2 s/\Def (s2 s) (λr=>∀ s',r=.inl s'->I s')):∀ (n:Nat) (s:X),I s->zR s1 n s=zR s2 n s
 | 0,_,_=>rfl
 | n+1,s,hs=>by
  obtain ⟨e,r,hr,hI⟩:=h s hs;simp only [zR];rw [e,hr];cases r with
  | inl s'=>exact eK I h n s' (hI s' rfl)
  | inr y=>rfl
end Go.Sw
namespace Go.Proofs.TT
open Go Go.Sw
set_option maxRecDepth 100000
variable {a:Nat}{active:Int}{b:Bool}{bk:List By}{c:Bool}{e:zB}{es:List zB}{i j k m n:Nat}{p:Prop}{r:RS}{rest x:By}{α:Type}{l:List α}
theorem dT [Decidable p] (h:decide p=true):p:=by simpa using h
theorem dF [Decidable p] (h:decide p=false):¬ p:=by simpa using h
theorem Def.at' (h:i<l.length):Def (idx l (i:Int)) (λr=>r=l[i]):=⟨_,yS h,rfl⟩
theorem dN {R:Type} (l:List α) (step:Int->Option (Int ⊕ (R ⊕ Unit))) (G:Nat->Prop) (B:R->Prop) (hl:l.length<2 ^ 40)
  (h:∀ i,i<l.length->Def (step (i:Int)) (λr=>match r with | .inl j=>j=((i+1:Nat):Int)/\G i | .inr (.inl b)=>B b | .inr (.inr _)=>False))
  (he:step (l.length:Int)=some (.inr (.inr ()))):Def (zR step FU 0) (λr=>match r with | .inl b=>B b | .inr _=>∀ i,i<l.length->G i):=by
 refine Def.loop (λs=>∃ i:Nat,s=(i:Int)/\i<=l.length/\∀ k,k<i->G k) (λs=>l.length - s.toNat) (λs hs=>?_) ⟨0,rfl,by omega,λk hk=>by omega⟩ (by simp;omega);obtain ⟨i,rfl,hi,hg⟩:=hs;by_cases h2:i<l.length
 ·refine (h i h2).mono λr hr=>?_
  match r,hr with
  | .inl j,hr=>
   refine ⟨⟨i+1,hr.1,h2,λk hk=>?_⟩,by rw [hr.1];simp only [Int.toNat_natCast];omega⟩;by_cases hk2:k<i
   ·exact hg k hk2
   ·have:k=i:=by omega
    subst this;exact hr.2
  | .inr (.inl b),hr=>exact hr
  | .inr (.inr u),hr=>exact hr.elim
 ·have:i=l.length:=by omega
  subst this;exact Def.of he hg
theorem two {X Y:Type} {step:X->Option (X ⊕ Y)} {a b c:X} {r:Y} (h0:step a=some (.inl b)) (h1:step b=some (.inl c)) (h2:step c=some (.inr r)):zR step FU a=some r:=by
 refine yM 2 (λi=>match i with | 0=>a | 1=>b | _=>c) rfl (λi hi=>?_) h2 (wN (by decide));have:i=0∨i=1:=by omega
 rcases this with rfl | rfl
 ·exact h0
 ·exact h1
theorem zSv (x n m:Int) (h:sY .u64 (IntKind.u64.wrap n) 31=32 - m) (hn:n=32 - m) (h0:0<=m) (h1:m<=32):zN x n=sS x n:=by
 rw [oI x n m h h0 h1];subst hn;have h2:IntKind.u64.wrap (32 - (32 - m))=m:=by rw [IntKind.wrap_u64];omega
 have h4:decide ((0:Int)<=32 - m)=true:=by simp;omega
 simp only [sS,ck,lt,h2,h4,rr,cond_true,Option.bind_some];rw [zGt]
theorem rot1 (x:Int):zN x 1=sS x 1:=zSv x 1 31 (by decide) (by decide) (by decide) (by decide)
theorem rot5 (x:Int):zN x 5=sS x 5:=zSv x 5 27 (by decide) (by decide) (by decide) (by decide)
theorem zXa (x:Int):zN x 30=sS x 30:=zSv x 30 2 (by decide) (by decide) (by decide) (by decide)
theorem zCu (x n:Int) (h0:0<=n):Def (sS x n) (λ_=>True):=by
 unfold sS;refine Def.bd (Def.ck (by simpa using h0)) (λ_ _=>?_);exact Def.lt (Def.s trivial)
theorem w80 {w:List Int} (hw:w.length=80) (hj:j<80):Def (w[j]?) (λ_=>True):=(Def.at (by omega)).mono λ_ _=>trivial
theorem ixw (hn:j<n) (z:Int) (hz:z=(j:Int)):Def (Go.Sw.ixN n z) (λr=>r=j):=by
 subst hz;exact (Def.ixN (by omega) (by omega)).mono λa h=>by rw [h.1];simp
theorem s1_s (x:By) (at' i:Nat) (w:List Int) (h:at'+64<=x.length) (hb:x.length<2 ^ 42) (hi:i<=80) (hw:w.length=80) :
  Def (uX x (at':Int) ((i:Int),w)) (λr=>match r with | .inl s=>∃ w',s=(((i+1:Nat):Int),w')/\i<80/\w'.length=80 | .inr w=>w.length=80):=by
 unfold uX;refine Def.c (λh=>?_) (λ_=>Def.s hw);have hi2:i<80:=by have:=dT h;omega
 have up:∀ v,Def ((Go.Sw.ixN 80 (i:Int)).bind λj=>(rN w j v).bind λw=>some w) (λw'=>w'.length=80):=λv=>by
  refine Def.bd (ixw hi2 _ rfl) (λj hj=>?_);subst hj;exact Def.bd (Def.upd (by omega)) (λr hr=>Def.s (by rw [hr];simpa using hw))
 refine Def.bd (P:=λw'=>w'.length=80) ?_ (λw' hw'=>Def.s ⟨w',by rw [vI (by omega)],hi2,hw'⟩);refine Def.c (λh16=>?_) (λh16=>?_)
 ·have h16':i<16:=by have:=dT h16;omega
  rw [yW (by omega) (by omega)];refine Def.bd (Def.sub (by omega) (by omega) (by omega)) (λy hy=>?_);have hyl:y.length=64:=by rw [hy];simp;omega
  exact Def.bd (P:=λ_=>True) (Def.of (zKd y i (by omega) (by omega)) trivial) (λv _=>up v)
 ·have h16':16<=i:=by have:=dF h16;omega
  have wr:∀ k:Nat,k<=16->IntKind.i64.wrap ((i:Int) - (k:Int))=((i - k:Nat):Int):=λk hk=>by rw [yW (by omega) (by omega)];omega
  refine Def.bd (ixw (show i - 3<80 by omega) _ (wr 3 (by omega))) (λj hj=>?_);refine Def.bd (w80 hw (by omega)) (λ_ _=>?_);refine Def.bd (ixw (show i - 8<80 by omega) _ (wr 8 (by omega))) (λj hj=>?_);refine Def.bd (w80 hw (by omega)) (λ_ _=>?_);refine Def.bd (ixw (show i - 14<80 by omega) _ (wr 14 (by omega))) (λj hj=>?_);refine Def.bd (w80 hw (by omega)) (λ_ _=>?_);refine Def.bd (ixw (show i - 16<80 by omega) _ (wr 16 (by omega))) (λj hj=>?_);refine Def.bd (w80 hw (by omega)) (λ_ _=>?_);refine Def.lt ?_;exact Def.bd (zCu _ _ (by decide)) (λv _=>up v)
theorem s1_e (x:By) (at' i:Nat) (w:List Int) (h:at'+64<=x.length) (hb:x.length<2 ^ 42):vS (mL x at') ((i:Int),w)=uX x (at':Int) ((i:Int),w):=by
 unfold vS uX;have hs:sub x (at':Int) (IntKind.i64.wrap ((at':Int)+64))=some (mL x at'):=by
  rw [yW (by omega) (by omega),show (at':Int)+64=((at'+64:Nat):Int) by omega,tZ (by omega) (by omega)];simp [mL]
 simp only [rot1,hs,zHv,Option.bind_some]
theorem zWe (x:By) (at':Nat) (h:at'+64<=x.length) (hb:x.length<2 ^ 42) :
  Def (zR (uX x (at':Int)) FU (0,List.replicate 80 0)) (λw=>w.length=80/\zR (vS (mL x at')) FU (0,List.replicate 80 0)=some w):=by
 have e:zR (vS (mL x at')) FU (0,List.replicate 80 0)=zR (uX x (at':Int)) FU (0,List.replicate 80 0):=by
  refine eK (λs=>∃ i:Nat,s.1=(i:Int)/\i<=80/\s.2.length=80) (λs hs=>?_) _ _ ⟨0,rfl,by omega,by simp⟩;obtain ⟨i',w⟩:=s;obtain ⟨i,h1,hi,hw⟩:=hs;have h1:i'=(i:Int):=h1;subst h1;refine ⟨s1_e x at' i w h hb,(s1_s x at' i w h hb hi hw).mono λr hr s' hs'=>?_⟩;subst hs';obtain ⟨w',rfl,h2,h3⟩:=hr;exact ⟨i+1,rfl,by omega,h3⟩
 rw [e];obtain ⟨w,h1,h2⟩:Def (zR (uX x (at':Int)) FU (0,List.replicate 80 0)) (λw=>w.length=80):=by
  refine Def.loop (λs=>∃ i:Nat,s.1=(i:Int)/\i<=80/\s.2.length=80) (λs=>80 - s.1.toNat) (λs hs=>?_) ⟨0,rfl,by omega,by simp⟩ (by simp);obtain ⟨i',w⟩:=s;obtain ⟨i,h1,hi,hw⟩:=hs;have h1:i'=(i:Int):=h1;subst h1;refine (s1_s x at' i w h hb hi hw).mono λr hr=>?_;cases r with
  | inl s'=>
   obtain ⟨w',rfl,h2,h3⟩:=hr;exact ⟨⟨i+1,rfl,by omega,h3⟩,by simp only [Int.toNat_natCast];omega⟩
  | inr w=>exact hr
 exact ⟨w,h1,h2,h1⟩
theorem r1_s (w:List Int) (hw:w.length=80) (a b c d e:Int) (i:Nat) (hi:i<=80) :
  Def (tG w (a,b,c,d,e,(i:Int))) (λr=>match r with | .inl s=>s.2.2.2.2.2=((i+1:Nat):Int)/\i<80 | .inr _=>True):=by
 unfold tG;refine Def.c (λh=>?_) (λ_=>Def.s trivial);have hi2:i<80:=by have:=dT h;omega
 refine Def.bd (P:=λ_=>True) ?_ (λx _=>?_)
 ·exact Def.c (λ_=>Def.lt (Def.s trivial)) (λ_=>Def.c (λ_=>Def.s trivial) (λ_=>Def.c (λ_=>Def.lt (Def.s trivial)) (λ_=>Def.s trivial)))
 obtain ⟨f,k⟩:=x;refine Def.bd (zCu _ _ (by decide)) (λ_ _=>?_);refine Def.lt ?_;refine Def.bd (ixw hi2 _ rfl) (λj hj=>?_);refine Def.bd (w80 hw (by omega)) (λ_ _=>?_);refine Def.lt ?_;refine Def.bd (zCu _ _ (by decide)) (λ_ _=>Def.s ?_);exact ⟨vI (by omega),hi2⟩
theorem r1_e (w:List Int) (a b c d e:Int) (i:Nat) (hi:i<=80):vR w (a,b,c,d,e,(i:Int))=tG w (a,b,c,d,e,(i:Int)):=by
 have hq:IntKind.i64.wrap (Int.tdiv (i:Int) 20)=((i / 20:Nat):Int):=by
  rw [show Int.tdiv (i:Int) 20=((i / 20:Nat):Int) from rfl];exact yW (by omega) (by omega)
 unfold vR tG;simp only [rot5,zXa,hq];by_cases h1:i<20
 ·rw [show (((i / 20:Nat):Int)==0)=true by simp;omega,show decide ((i:Int)<20)=true by simp;omega];rfl
 by_cases h2:i<40
 ·rw [show (((i / 20:Nat):Int)==0)=false by simp;omega,show decide ((i:Int)<20)=false by simp;omega,show (((i / 20:Nat):Int)==1)=true by simp;omega,show decide ((i:Int)<40)=true by simp;omega];rfl
 by_cases h3:i<60
 ·rw [show (((i / 20:Nat):Int)==0)=false by simp;omega,show decide ((i:Int)<20)=false by simp;omega,show (((i / 20:Nat):Int)==1)=false by simp;omega,show decide ((i:Int)<40)=false by simp;omega,show (((i / 20:Nat):Int)==2)=true by simp;omega,show decide ((i:Int)<60)=true by simp;omega]
 ·by_cases h4:i<80
  ·rw [show (((i / 20:Nat):Int)==0)=false by simp;omega,show decide ((i:Int)<20)=false by simp;omega,show (((i / 20:Nat):Int)==1)=false by simp;omega,show decide ((i:Int)<40)=false by simp;omega,show (((i / 20:Nat):Int)==2)=false by simp;omega,show decide ((i:Int)<60)=false by simp;omega]
  ·rw [show decide ((i:Int)<80)=false by simp;omega];rfl
theorem zVk (w:List Int) (hw:w.length=80) (a b c d e:Int):Def (zR (tG w) FU (a,b,c,d,e,0)) (λr=>zR (vR w) FU (a,b,c,d,e,0)=some r):=by
 have e1:zR (vR w) FU (a,b,c,d,e,0)=zR (tG w) FU (a,b,c,d,e,0):=by
  refine eK (λs=>∃ i:Nat,s.2.2.2.2.2=(i:Int)/\i<=80) (λs hs=>?_) _ _ ⟨0,rfl,by omega⟩;obtain ⟨a,b,c,d,e,v⟩:=s;obtain ⟨i,h1,hi⟩:=hs;have h1:v=(i:Int):=h1;subst h1;refine ⟨r1_e w a b c d e i hi,(r1_s w hw a b c d e i hi).mono λr hr s' hs'=>?_⟩;subst hs';exact ⟨i+1,hr.1,by have:=hr.2;omega⟩
 rw [e1];obtain ⟨r,h1,_⟩:Def (zR (tG w) FU (a,b,c,d,e,0)) (λ_=>True):=by
  refine Def.loop (λs=>∃ i:Nat,s.2.2.2.2.2=(i:Int)/\i<=80) (λs=>80 - s.2.2.2.2.2.toNat) (λs hs=>?_) ⟨0,rfl,by omega⟩ (by simp);obtain ⟨a,b,c,d,e,v⟩:=s;obtain ⟨i,h1,hi⟩:=hs;have h1:v=(i:Int):=h1;subst h1;refine (r1_s w hw a b c d e i hi).mono λr hr=>?_;cases r with
  | inl s'=>exact ⟨⟨i+1,hr.1,by have:=hr.2;omega⟩,by rw [hr.1];simp only [Int.toNat_natCast];have:=hr.2;omega⟩
  | inr r=>trivial
 exact ⟨r,h1,h1⟩
def a5 (s:A5 Int):List Int:=[s.a0,s.a1,s.a2,s.a3,s.a4]
def zNh (h:A5 Int) (b:By):A5 Int:=(uH h b).getD h
theorem blk1 (x:By) (at':Nat) (h:A5 Int) (hx:at'+64<=x.length) (hb:x.length<2 ^ 42) :
  uH h (mL x at')=some (zNh h (mL x at'))/\aZ x (a5 h,(at':Int))=some (.inl (a5 (zNh h (mL x at')),((at'+64:Nat):Int))):=by
 obtain ⟨w,hw1,hw2,hw3⟩:=zWe x at' hx hb;obtain ⟨⟨a,b,c,d,e⟩,hr1,hr2⟩:=zVk w hw2 h.a0 h.a1 h.a2 h.a3 h.a4;have e1:uH h (mL x at')=some ⟨IntKind.u32.wrap (h.a0+a),IntKind.u32.wrap (h.a1+b),IntKind.u32.wrap (h.a2+c),IntKind.u32.wrap (h.a3+d),IntKind.u32.wrap (h.a4+e)⟩:=by
  unfold uH;refine bd hw3 ?_;exact bd hr2 rfl
 have e2:zNh h (mL x at')=⟨IntKind.u32.wrap (h.a0+a),IntKind.u32.wrap (h.a1+b),IntKind.u32.wrap (h.a2+c),IntKind.u32.wrap (h.a3+d),IntKind.u32.wrap (h.a4+e)⟩:=by
  unfold zNh;rw [e1];rfl
 rw [e2];refine ⟨e1,?_⟩;unfold aZ;refine ct (dlt (by omega)) ?_;refine bd hw1 ?_;refine bd (a:=h.a0) rfl ?_;refine bd (a:=h.a1) rfl ?_;refine bd (a:=h.a2) rfl ?_;refine bd (a:=h.a3) rfl ?_;refine bd (a:=h.a4) rfl ?_;refine bd hr1 ?_;refine bd (a:=h.a0) rfl ?_;refine bd (a:=h.a1) rfl ?_;refine bd (a:=h.a2) rfl ?_;refine bd (a:=h.a3) rfl ?_;refine bd (a:=h.a4) rfl ?_;rw [yW (by omega) (by omega),show (at':Int)+64=((at'+64:Nat):Int) by omega];rfl
def zQi:A5 Int:=⟨1732584193,4023233417,2562383102,271733878,3285377520⟩
def zCd (x:By):Nat->A5 Int
 | 0=>zQi
 | i+1=>zNh (zCd x i) (mL x (64*i))
def st5 (p:By) (h:A5 Int):By×Int×Int×Int×Int×Int:=(p,h.a0,h.a1,h.a2,h.a3,h.a4)
theorem zHz (x:By) (n:Nat) (hx:x.length=64*n) (hl:x.length<2 ^ 42):zR nT FU (st5 x zQi)=some ((zCd x n).a0,(zCd x n).a1,(zCd x n).a2,(zCd x n).a3,(zCd x n).a4):=by
 refine yM n (λi=>st5 (x.drop (64*i)) (zCd x i)) (by simp [zCd]) (λi hi=>?_) ?_ (wN (by omega))
 ·have hd:(x.drop (64*i)).length=x.length - 64*i:=by simp
  unfold nT st5;refine ct (by simp;omega) ?_;refine bd (a:=mL x (64*i)) (by rw [show (0:Int)=((0:Nat):Int) from rfl,show (64:Int)=((64:Nat):Int) from rfl,tZ (by omega) (by omega)];simp [mL]) ?_;refine bd (blk1 x (64*i) (zCd x i) (by omega) hl).1 ?_;refine bd (a:=x.drop (64*(i+1))) (by rw [show (64:Int)=((64:Nat):Int) from rfl,tZ (by omega) (by omega)];rw [List.drop_drop,List.take_of_length_le (by simp;omega)];congr 2) ?_;rfl
 ·have hd:x.drop (64*n)=[]:=List.drop_eq_nil_of_le (by omega);show nT (st5 (x.drop (64*n)) (zCd x n))=_;rw [hd];generalize zCd x n=S;rfl
def zAs (b:By):By:=(a5 (zCd (zBx b) ((zBx b).length / 64))).flatMap be4
theorem zG2 (b:By):(zAs b).length=20:=by unfold zAs;rw [zI1];rfl
theorem zNn (b:By) (hb:b.length<2 ^ 40):xH 0 b=some (zAs b):=by
 have hz:zs b.length<64:=by unfold zs;omega
 have h1:=zDp b;have h2:=zG3 b;unfold xH;refine ct rfl ?_;refine bd (zDm b hb) ?_;refine bd (zHz (zBx b) ((zBx b).length / 64) (by omega) (by omega)) ?_;exact bd (zE0 _ (by simp)) rfl
theorem zL0 (h:k<l.length):l.drop k=l[k] :: l.drop (k+1):=List.drop_eq_getElem_cons h
theorem zZf (k:IntKind) (n j:Nat) (h:j<=k.bits):vL k (n:Int) (j:Int)=((n / 2 ^ j:Nat):Int):=by
 unfold vL;rw [Int.toNat_natCast,Nat.min_eq_left h,Int.fdiv_eq_ediv_of_nonneg _ (by have:(0:Int)<2 ^ j:=Int.pow_pos (by decide);omega)];rw [Int.natCast_ediv];simp
theorem wb (x:UInt8):IntKind.i64.wrap (x.toNat:Int)=(x.toNat:Int):=by
 have:=x.toNat_lt;rw [yW (by omega) (by omega)]
theorem gP (n:Nat):(u8 (n:Int)).toNat=n % 256:=by
 have:((n:Int) % 256).toNat=n % 256:=by omega
 rw [u8,this];simp
theorem zO5 {l:List By} (h:i<l.length):idx l (i:Int)=some (l.getD i []):=by rw [yS h];simp [h]
set_option maxRecDepth 100000
structure Rem (r:RS) (l:By):Prop where
 e:r.e=0
 at':r.at'<=r.b.length
 d:r.b.drop r.at'=l
theorem Rem.left {l:By} (h:Rem r l):r.left=l.length:=by
 have:=congrArg List.length h.d;simp at this;exact this
theorem Rem.to (h:Rem r (x++rest)) (hx:x.length=n):Rem (r.to n) rest:=by
 have hl:=h.left;have ha:=h.at';simp only [RS.left,List.length_append] at hl;refine ⟨h.e,by simp only [RS.to];omega,?_⟩;show r.b.drop (r.at'+n)=rest;rw [<- List.drop_drop,h.d,<- hx,List.drop_left]
theorem Rem.raw (h:Rem r (x++rest)) (hx:x.length=n):fX r n=(x,r.to n):=by
 have hl:=h.left;rw [List.length_append] at hl;unfold fX;rw [if_neg (by simp [h.e]),if_neg (by omega)];have:r.get n=x:=by
  unfold RS.get;rw [h.d,<- hx,List.take_left]
 rw [this]
theorem Rem.uint (h:Rem r (x++rest)) (hx:x.length=n) (hv:¬ 9223372036854775808<=beV x n):sX r n=(IntKind.i64.wrap (beV x n),r.to n):=by
 have hl:=h.left;rw [List.length_append] at hl;unfold sX;have:r.get n=x:=by
  unfold RS.get;rw [h.d,<- hx,List.take_left]
 rw [if_neg (by simp [h.e]),if_neg (by omega),this,if_neg hv]
theorem Rem.blob {a b:UInt8} (h:Rem r ([a,b]++(x++rest))) (hx:x.length=a.toNat*256+b.toNat) (hm:x.length<=m):rI r m=(x,r.to (2+x.length))/\Rem (r.to (2+x.length)) rest:=by
 have hl:=h.left;have ha:=h.at';simp only [List.length_append,List.length_cons,List.length_nil] at hl;have hd:=h.d;have e0:r.b.getD r.at' 0=a:=by
  have:=congrArg (λl=>l.getD 0 0) hd;simpa using this
 have e1:r.b.getD (r.at'+1) 0=b:=by
  have:=congrArg (λl=>l.getD 1 0) hd;simpa using this
 have ev:v2 r=x.length:=by unfold v2;rw [e0,e1,hx]
 have h2:Rem (r.to 2) (x++rest):=Rem.to (x:=[a,b]) h rfl;have hd2:r.b.drop (r.at'+2)=x++rest:=h2.d;constructor
 ·unfold rI;rw [if_neg (by simp [h.e]),if_neg (by omega),ev,if_neg (by omega),if_neg (by omega),hd2,List.take_left]
 ·have:=Rem.to h2 rfl;have e:(r.to 2).to x.length=r.to (2+x.length):=by simp [RS.to,Nat.add_assoc]
  rw [<- e];exact this
theorem Rem.uintV {v:Int} (h:Rem r (x++rest)) (hx:x.length=n) (hv:beV x n=v) (h0:0<=v) (h1:v<9223372036854775808):sX r n=(v,r.to n):=by
 rw [h.uint hx (by omega),hv,yW (by omega) (by omega)]
theorem zHb (a b:Nat) (ha:a<2 ^ 56) (hb:b<256):ior .u64 (nM .u64 (a:Int) 8) (IntKind.u64.wrap (b:Int))=((a*256+b:Nat):Int):=by
 rw [zDi (by omega) (by omega)];have e1:nM .u64 (a:Int) 8=((a*256:Nat):Int):=by
  show IntKind.u64.wrap ((a:Int)*256)=_;rw [zDi (by omega) (by omega)];omega
 rw [e1];unfold ior;have e2:(BitVec.ofInt IntKind.u64.bits ((a*256:Nat):Int) ||| BitVec.ofInt IntKind.u64.bits (b:Int)).toNat=a*256+b:=by
  show (BitVec.ofInt 64 ((a*256:Nat):Int) ||| BitVec.ofInt 64 (b:Int)).toNat=_;rw [BitVec.ofInt_natCast,BitVec.ofInt_natCast,BitVec.toNat_or,BitVec.toNat_ofNat,BitVec.toNat_ofNat,Nat.mod_eq_of_lt (by omega),Nat.mod_eq_of_lt (by omega)];rw [Nat.mul_comm,show (256:Nat)=2 ^ 8 from rfl,<- Nat.two_pow_add_eq_or_of_lt (by omega)]
 rw [e2,zDi (by omega) (by omega)]
theorem zFo (n size k:Nat) (hn:n<2 ^ 64) (hk:k<size) (h8:size<=8):((beN (n:Int) size size).getD k 0).toNat=n / 256 ^ (size - (k+1)) % 256:=by
 have e:(beN (n:Int) size size).getD k 0=u8 (vL .u64 (IntKind.u64.wrap (n:Int)) (8*((size:Int) - 1 - (k:Int)))):=by simp [beN,hk]
 rw [e,zDi (by omega) (by omega),show 8*((size:Int) - 1 - (k:Int))=((8*(size - (k+1)):Nat):Int) by omega,zZf .u64 n _ (by show _<=64;omega),gP,Nat.pow_mul]
theorem zKq (n size:Nat) (hn:n<2 ^ 64) (h8:size<=8) (hs:n<256 ^ size):∀ k,k<=size->beV (beN (n:Int) size size) k=((n / 256 ^ (size - k):Nat):Int)
 | 0,_=>by
  rw [Nat.sub_zero,Nat.div_eq_of_lt hs];rfl
 | k+1,hk=>by
  unfold beV;rw [zKq n size hn h8 hs k (by omega),zFo n size k hn (by omega) h8];have e:256 ^ (size - k)=256 ^ (size - (k+1))*256:=by
   rw [<- Nat.pow_succ];congr 1;omega
  rw [e,<- Nat.div_div_eq_div_mul];have hm:n / 256 ^ (size - (k+1))<=n:=Nat.div_le_self _ _;generalize n / 256 ^ (size - (k+1))=m at hm;rw [zHb _ _ (by omega) (by omega)];congr 1;omega
theorem Rem.uintN (h:Rem r (beN (n:Int) k k++rest)) (h8:k<=8) (hn:n<2 ^ 63) (hs:n<256 ^ k):sX r k=((n:Int),r.to k)/\Rem (r.to k) rest:=by
 have hb:=zKq n k (by omega) h8 hs k (Nat.le_refl _);rw [Nat.sub_self,Nat.pow_zero,Nat.div_one] at hb;exact ⟨h.uintV (xB _ _ _) hb (by omega) (by omega),h.to (xB _ _ _)⟩
theorem be2 (n:Nat) (hn:n<65536):∃ a b:UInt8,beN (n:Int) 2 2=[a,b]/\n=a.toNat*256+b.toNat:=by
 have h0:=zFo n 2 0 (by omega) (by omega) (by omega);have h1:=zFo n 2 1 (by omega) (by omega) (by omega);have hl:=xB (n:Int) 2 2
 match hx:beN (n:Int) 2 2,hl with
 | [a,b],_=>
  rw [hx] at h0 h1;refine ⟨a,b,rfl,?_⟩;have h0:a.toNat=n / 256 ^ 1 % 256:=h0;have h1:b.toNat=n / 256 ^ 0 % 256:=h1;rw [h0,h1];simp only [Nat.pow_one,Nat.pow_zero,Nat.div_one];omega
theorem zD3 (b:By) (h:x.length<=65535):zAb b x=b++(beN (x.length:Int) 2 2++x):=by
 unfold zAb qV;rw [List.take_of_length_le h,List.append_assoc]
theorem Rem.blobN (h:Rem r (beN (x.length:Int) 2 2++(x++rest))) (hx:x.length<=65535) (hm:x.length<=m):rI r m=(x,r.to (2+x.length))/\Rem (r.to (2+x.length)) rest:=by
 obtain ⟨a,b,h1,h2⟩:=be2 x.length (by omega);rw [h1] at h;exact Rem.blob h h2 hm
theorem Rem.fin (h:Rem r []):zFh r=0:=by
 have:=h.left;unfold zFh;rw [if_neg (by rw [this];simp)];exact h.e
theorem Rem.uintI {n:Int} (h:Rem r (beN n k k++rest)) (h8:k<=8) (h0:0<=n) (hn:n<2 ^ 62) (hs:n.toNat<256 ^ k):sX r k=(n,r.to k)/\Rem (r.to k) rest:=by
 obtain ⟨m,rfl⟩:=Int.eq_ofNat_of_zero_le h0;exact Rem.uintN h h8 (by omega) hs
set_option maxRecDepth 100000
def uR (active a:Int):Bool:=sY .i64 (vL .i64 active (IntKind.u64.wrap a)) 1==1
def dgE (active:Int) (on:Bool) (b:By):List By:=[if (on&&uR active 0)=true then zAs b else [],if (on&&uR active 1)=true then sha b else []]
theorem zN8 {v:List By} {o:Option By} {d:By} (hv:v.length=2) (ha:a<2) (ho:o=some d) :
  (bif c then (o.bind λs=>(ixN 2 (a:Int)).bind λj=>(rN v j s).bind λw=>some w) else some v)=some (if c=true then v.set a d else v):=by
 cases c
 ·rfl
 ·refine bd ho ?_;refine bd (pW ha) ?_;exact bd (by simp [rN,hv,ha]) rfl
def mkE (reg kind active:Int) (data:By):zB:=⟨reg,kind,dgE active (kind != 5) data,data⟩
set_option maxRecDepth 100000
def gA (c:zI):Prop:=c.B.length<=240/\0<=c.At/\c.At<=c.B.length
theorem zO7 (b:By) (n:Int) (h0:0<=n) (h:n<=240):Def (zAh b n) gA:=by
 unfold zAh;refine Def.bd (P:=λr=>r.length<=240) ?_ (λr hr=>Def.s ⟨hr,Int.le_refl 0,by simp⟩);refine Def.c (λhl=>?_) (λhl=>Def.s ?_)
 ·rw [decide_eq_true_iff] at hl;refine Def.bd (Def.sub (by decide) h0 (by omega)) (λx hx=>Def.s ?_);rw [hx];simp;omega
 ·rw [decide_eq_false_iff_not] at hl;omega
theorem qS (c:zI) (n:Int) (hc:gA c) (hn:0<n):Def (xC c n) (λr=>0<=r.1/\r.1<n/\gA r.2):=by
 obtain ⟨h1,h2,h3⟩:=hc;unfold xC;refine Def.c (λh=>Def.s ⟨Int.le_refl 0,hn,h1,h2,h3⟩) (λh=>?_);rw [decide_eq_false_iff_not] at h;rw [yW (n:=c.At+1) (by omega) (by omega),yW (n:=c.At+1 - 1) (by omega) (by omega)];refine Def.bd (Def.idx (by omega) (by omega)) (λv _=>?_);refine Def.bd (Def.ck (by simp;omega)) (λ_ _=>?_);refine Def.s ?_;rw [wb];refine ⟨?_,?_,h1,by simp only;omega,by simp only;omega⟩
 ·rw [Int.tmod_eq_emod_of_nonneg (by omega)];exact Int.emod_nonneg _ (by omega)
 ·rw [Int.tmod_eq_emod_of_nonneg (by omega)];exact Int.emod_lt_of_pos _ hn
def zEj (l:By):Prop:=1<=l.length/\l.length<=8/\∀ x∈l,32<=x.toNat/\x.toNat<=126
theorem zMx (c:zI) (hc:gA c):Def (pB c) (λr=>zEj r.1/\gA r.2):=by
 unfold pB;refine Def.bd (qS c 6 hc (by decide)) (λr hr=>?_);obtain ⟨v,x⟩:=r;obtain ⟨h0,h1,h2⟩:=hr;simp only at h0 h1 h2;refine Def.bd (Def.ixN h0 (by show _<((6:Nat):Int);omega)) (λj hj=>?_);refine Def.bd (Def.at (by have:=hj.2;simpa using this)) (λl hl=>?_);have hl':zEj l:=by
  simp only [List.mem_cons,List.not_mem_nil,or_false] at hl;rcases hl with rfl | rfl | rfl | rfl | rfl | rfl<;>(unfold zEj;decide)
 refine Def.bd (Def.ck (zEf (by have:=hl'.2.1;omega))) (λ_ _=>?_);exact Def.s ⟨hl',h2⟩
def zBm (L:List By):By:=L.flatMap λl=>l++[10]
theorem iR (L:List By) (h:∀ l∈L,zEj l):(zBm L).length<=9*L.length:=by
 induction L with
 | nil=>simp [zBm]
 | cons a r ih=>
  have h1:=(h a (by simp)).2.1;have h2:=ih (λl hl=>h l (by simp [hl]));simp only [zBm,List.flatMap_cons,List.length_append,List.length_cons,List.length_nil] at h2 ⊢;omega
theorem zGk (c:zI) (hc:gA c):Def (sC c) (λr=>(∃ L,r.1=zBm L/\1<=L.length/\L.length<=4/\∀ l∈L,zEj l)/\gA r.2):=by
 unfold sC;refine Def.bd (qS c 4 hc (by decide)) (λr hr=>?_);obtain ⟨v,x⟩:=r;obtain ⟨h0,h1,h2⟩:=hr;simp only at h0 h1 h2;refine Def.bd (P:=λr=>(∃ L,r.1=zBm L/\1<=L.length/\L.length<=4/\∀ l∈L,zEj l)/\gA ⟨r.2.1,r.2.2⟩) ?_ (λr hr=>Def.s hr);refine Def.loop (λs=>(∃ L,s.1=zBm L/\(L.length:Int)+s.2.1=1+v/\∀ l∈L,zEj l)/\0<=s.2.1/\gA ⟨s.2.2.1,s.2.2.2⟩) (λs=>s.2.1.toNat) (λs hs=>?_) ?_ ?_
 ·obtain ⟨b,n,B,A⟩:=s;obtain ⟨⟨L,g1,g2,g3⟩,g4,g5⟩:=hs;simp only at g1 g2 g4 g5;have hfl:=iR L g3;unfold oZ;refine Def.c (λh=>?_) (λh=>Def.s ?_)
  ·rw [decide_eq_true_iff] at h;refine Def.bd (zMx _ g5) (λr hr=>?_);obtain ⟨l,y⟩:=r;obtain ⟨k1,k2⟩:=hr;simp only at k1 k2;refine Def.bd (Def.app (by have:=k1.2.1;rw [g1];omega)) (λb1 hb1=>?_);refine Def.bd (Def.app (by have:=k1.2.1;rw [hb1,g1];simp;omega)) (λb2 hb2=>Def.s ?_);rw [yW (by omega) (by omega)];refine ⟨⟨⟨L++[l],?_,by simp only [List.length_append,List.length_cons,List.length_nil];omega,?_⟩,by simp only;omega,k2⟩,by simp only;omega⟩
   ·simp only [hb2,hb1,g1,zBm,List.flatMap_append,List.flatMap_cons,List.flatMap_nil,List.append_nil,List.append_assoc]
   ·intro z hz;rw [List.mem_append] at hz;rcases hz with hz | hz
    ·exact g3 z hz
    ·simp at hz;subst hz;exact k1
  ·rw [decide_eq_false_iff_not] at h;exact ⟨⟨L,g1,by omega,by omega,g3⟩,g5⟩
 ·refine ⟨⟨[],rfl,?_,by simp⟩,?_,h2⟩
  ·rw [yW (by omega) (by omega)];simp
  ·rw [yW (by omega) (by omega)];simp only;omega
 ·rw [yW (by omega) (by omega)];simp only;omega
theorem zJl {P:List α} {c:α} {t:List α} (h:P.drop i=c :: t):idx P (i:Int)=some c/\P.drop (i+1)=t/\i<P.length:=by
 have hi:i<P.length:=by
  apply Decidable.byContradiction;intro hn;rw [List.drop_eq_nil_of_le (by omega)] at h;cases h
 rw [zL0 hi] at h;injection h with h1 h2;exact ⟨by rw [yS hi,h1],h2,hi⟩
theorem zNs (x:api_Image) (L:List By) (hp:x.Payload=zBm L) (h4:L.length<=4) (hL:∀ l∈L,zEj l):uE x=some L:=by
 have hfl:=iR L hL;have hpl:x.Payload.length<=36:=by rw [hp];omega
 have hd:Def (zR (xE x) FU ([],[],0)) (λr=>r=.inr (L,[])):=by
  refine Def.loop (λs=>∃ i:Nat,s.2.2=(i:Int)/\i<=x.Payload.length/\((s.1=L/\s.2.1=[]/\x.Payload.drop i=[])∨∃ suf rest,L=s.1++(s.2.1++suf) :: rest/\x.Payload.drop i=suf++10 :: zBm rest)) (λs=>x.Payload.length - s.2.2.toNat) (λs hs=>?_) ?_ ?_
  ·obtain ⟨out,line,i'⟩:=s;obtain ⟨i,g1,g2,g3⟩:=hs;simp only at g1 g3;subst g1;unfold xE;rcases g3 with ⟨k1,k2,k3⟩ | ⟨suf,rest,k1,k2⟩
   ·refine Def.c (λh=>?_) (λ_=>Def.s (by rw [k1,k2]));rw [decide_eq_true_iff] at h;have:=congrArg List.length k3;simp at this;omega
   ·have hmem:line++suf∈L:=by rw [k1];simp
    have hln:=hL _ hmem;have hout:out.length<4:=by have:=congrArg List.length k1;simp at this;omega
    cases suf with
    | nil=>
     obtain ⟨j1,j2,j3⟩:=zJl (c:=10) (t:=zBm rest) k2;refine Def.c (λ_=>?_) (λh=>by rw [decide_eq_false_iff_not] at h;omega);refine Def.bd (P:=λr=>r=.inr (out++[line],[])) ?_ (λr hr=>?_)
     ·refine Def.bd (P:=λc=>c=10) (Def.of j1 rfl) (λc hc=>?_);subst hc;refine Def.c (λ_=>?_) (λh=>by simp at h);rw [List.append_nil] at hln;refine Def.bd (P:=λb=>b=false) (Def.c (λh=>?_) (λ_=>Def.s ?_)) (λb hb=>?_)
      ·have:=hln.1;simp at h;rw [h] at this;simp at this
      ·simp;omega
      subst hb;refine Def.bd (Def.app (by simp;omega)) (λo ho=>Def.s (by rw [ho]))
     ·subst hr;refine Def.s ?_;rw [vI (by omega)];refine ⟨⟨i+1,rfl,by omega,?_⟩,by simp only [Int.toNat_natCast];omega⟩;cases rest with
      | nil=>exact .inl ⟨by simp [k1],rfl,j2⟩
      | cons l r=>
       refine .inr ⟨l,r,?_,?_⟩
       ·simp [k1]
       ·rw [j2];simp [zBm]
    | cons c suf=>
     obtain ⟨j1,j2,j3⟩:=zJl (c:=c) (t:=suf++10 :: zBm rest) k2;have hc:=hln.2.2 c (by simp);refine Def.c (λ_=>?_) (λh=>by rw [decide_eq_false_iff_not] at h;omega);refine Def.bd (P:=λr=>r=.inr (out,line++[c])) ?_ (λr hr=>?_)
     ·refine Def.bd (P:=λd=>d=c) (Def.of j1 rfl) (λd hd=>?_);subst hd;refine Def.c (λh=>by simp at h;omega) (λ_=>?_);refine Def.bd (P:=λb=>b=false) (Def.c (λh=>?_) (λ_=>Def.s ?_)) (λb hb=>?_)
      ·simp at h;omega
      ·simp;omega
      subst hb;have:=hln.2.1;refine Def.bd (Def.app (by simp at this ⊢;omega)) (λo ho=>Def.s (by rw [ho]))
     ·subst hr;refine Def.s ?_;rw [vI (by omega)];refine ⟨⟨i+1,rfl,by omega,.inr ⟨suf,rest,by simp [k1],j2⟩⟩,by simp only [Int.toNat_natCast];omega⟩
  ·refine ⟨0,rfl,by omega,?_⟩;cases L with
   | nil=>exact .inl ⟨rfl,rfl,by rw [hp];rfl⟩
   | cons l r=>exact .inr ⟨l,r,by simp,by rw [hp];simp [zBm]⟩
  ·rw [hp];simp;omega
 obtain ⟨r,h1,h2⟩:=hd;subst h2;unfold uE;refine bd h1 ?_;rfl
structure qF (x:api_Image):Prop where
 r1:1<=x.Role
 r4:x.Role<=4
 v0:0<=x.Version
 v1:x.Version<=1000000
 n:pE x.Name=some true
 nl:x.Name.length<=12
 p:x.Payload.length<=64
 l:x.Role=4->∃ L,uE x=some L/\1<=L.length/\L.length<=4/\∀ l∈L,zEj l
theorem zEd (x:api_Image) (h:qF x):uC x=some 0:=by
 obtain ⟨h1,h2,h3,h4,h5,h6,h7,h8⟩:=h;unfold uC;refine bd (a:=false) (cf (by simp;omega) (cf (by simp;omega) (cf (by simp;omega) (congrArg some (by simp;omega))))) ?_;refine cf rfl ?_;refine bd h5 ?_;refine cf rfl ?_;refine cf (by simp;omega) ?_;refine bd (a:=false) ?_ rfl;by_cases h:x.Role=4
 ·refine ct (by simp [h]) ?_;obtain ⟨L,l1,l2,_⟩:=h8 h;refine bd l1 ?_;refine congrArg some ?_;rw [beq_eq_false_iff_ne];omega
 ·exact cf (by simp [h]) rfl
theorem zMy:∀ n∈[([97]:By),[103,114,117,98],[108,105,110,117,120],[110,101,116,45,48],[116,119,101,108,118,101,45,98,121,116,101,115]],pE n=some true/\n.length<=12:=by
 intro n hn;simp only [List.mem_cons,List.not_mem_nil,or_false] at hn;rcases hn with rfl | rfl | rfl | rfl | rfl<;>exact ⟨by decide +kernel,by decide⟩
theorem zLd (c:zI) (role:Int) (hc:gA c) (h1:1<=role) (h4:role<=4):Def (rS c role) (λr=>qF r.1/\r.1.Role=role/\gA r.2):=by
 unfold rS;refine Def.bd (P:=λa=>[a.a0,a.a1,a.a2,a.a3,a.a4]=[([97]:By),[103,114,117,98],[108,105,110,117,120],[110,101,116,45,48],[116,119,101,108,118,101,45,98,121,116,101,115]]) (Def.s rfl) (λa ha=>?_);rw [ha];refine Def.bd (qS c 5 hc (by decide)) (λr hr=>?_);obtain ⟨v1,c1⟩:=r;obtain ⟨p1,p2,p3⟩:=hr;simp only at p1 p2 p3;refine Def.bd (Def.idx p1 (by simpa using p2)) (λnme hn=>?_);obtain ⟨n1,n2⟩:=zMy nme hn;refine Def.bd (qS c1 5 p3 (by decide)) (λr hr=>?_);obtain ⟨v2,c2⟩:=r;obtain ⟨q1,q2,q3⟩:=hr;simp only at q1 q2 q3;refine Def.bd (P:=λr=>gA ⟨r.1,r.2.1⟩/\0<=r.2.2/\r.2.2<=1000000) ?_ (λr hr=>?_)
 ·refine Def.bd (qS c2 9 q3 (by decide)) (λr hr=>?_);obtain ⟨v3,c3⟩:=r;obtain ⟨s1,s2,s3⟩:=hr;simp only at s1 s2 s3;refine Def.c (λ_=>?_) (λ_=>Def.s ⟨s3,by simp only;omega,by simp only;omega⟩);refine Def.bd (qS c3 3 s3 (by decide)) (λr hr=>?_);obtain ⟨v4,c4⟩:=r;obtain ⟨u1,u2,u3⟩:=hr;simp only at u1 u2 u3;refine Def.s ⟨u3,?_,?_⟩<;>(simp only;rw [yW (by omega) (by omega)];omega)
 obtain ⟨B,A,ver⟩:=r;obtain ⟨w1,w2,w3⟩:=hr;simp only at w1 w2 w3;refine Def.c (λh=>?_) (λh=>?_)
 ·rw [beq_iff_eq] at h;refine Def.bd (zGk _ w1) (λr hr=>?_);obtain ⟨pl,c5⟩:=r;obtain ⟨⟨L,l1,l2,l3,l4⟩,z⟩:=hr;simp only at l1 z;have hfl:=iR L l4;refine Def.s ⟨⟨h1,h4,w2,w3,n1,n2,by simp only;rw [l1];omega,λ_=>⟨L,zNs _ L l1 l3 l4,l2,l3,l4⟩⟩,rfl,z⟩
 ·have hr4:role≠4:=by simpa using h
  refine Def.bd (qS _ 7 w1 (by decide)) (λr hr=>?_);obtain ⟨v5,c5⟩:=r;obtain ⟨x1,x2,x3⟩:=hr;simp only at x1 x2 x3;refine Def.bd (Def.mkN x1 (by omega)) (λn hn=>?_);refine Def.bd (P:=λr=>gA ⟨r.1,r.2.1⟩/\r.2.2.length=n) ?_ (λr hr=>?_)
  ·refine Def.loop (λs=>0<=s.1/\s.1<=n/\gA ⟨s.2.1,s.2.2.1⟩/\s.2.2.2.length=n) (λs=>((n:Int) - s.1).toNat) (λs hs=>?_) ⟨Int.le_refl 0,by simp,x3,by simp⟩ (by simp;omega);obtain ⟨i,B,A,v⟩:=s;obtain ⟨y1,y2,y3,y4⟩:=hs;simp only at y1 y2 y3 y4;unfold lA;refine Def.c (λh=>?_) (λ_=>Def.s ⟨y3,y4⟩);rw [decide_eq_true_iff] at h;refine Def.bd (qS _ 256 y3 (by decide)) (λr hr=>?_);obtain ⟨v6,c6⟩:=r;obtain ⟨_,_,z3⟩:=hr;refine Def.bd (Def.ixN y1 h) (λj hj=>?_);refine Def.bd (Def.upd (by omega)) (λu hu=>Def.s ?_);rw [yW (by omega) (by omega)];refine ⟨⟨by simp only;omega,by simp only;omega,z3,by simp only [hu,List.length_set];exact y4⟩,by simp only;omega⟩
  obtain ⟨B,A,v⟩:=r;obtain ⟨y1,y2⟩:=hr;simp only at y1 y2;refine Def.bd (Def.ck (beqT y2)) (λ_ _=>?_);refine Def.bd (Def.ck (zEf (by omega))) (λ_ _=>?_);refine Def.s ⟨⟨h1,h4,w2,w3,n1,n2,by simp only;omega,λe=>absurd e hr4⟩,rfl,y1⟩
set_option maxRecDepth 100000
def Bef (a b:api_Image):Prop:=a.Role<=b.Role/\¬ (a.Role=b.Role/\a.Name=b.Name)
structure kF (l:List api_Image):Prop where
 len:l.length<=8
 im:∀ x∈l,qF x
 prs:l.Pairwise Bef
 h1:∃ x∈l,x.Role=1
 h3:∃ x∈l,x.Role=3
theorem mD (h:i<l.length) {x:α} (hx:x∈l.take (i+1)):x∈l.take i∨x=l[i]:=by
 rw [List.take_add_one,List.mem_append] at hx;rcases hx with hx | hx
 ·exact .inl hx
 ·right;simpa [h] using hx
theorem zMi (l:List api_Image) (v:api_Image) (hl:l.length<=20):Def (zR (iQ l v) FU (false,0)) (λr=>(r=true->∃ x∈l,x.Role=v.Role)/\(r=false->∀ x∈l,¬ (x.Role=v.Role/\x.Name=v.Name))):=by
 refine Def.loop (λs=>∃ i:Nat,s.2=(i:Int)/\i<=l.length/\(s.1=true->∃ x∈l,x.Role=v.Role)/\(s.1=false->∀ x∈l.take i,¬ (x.Role=v.Role/\x.Name=v.Name))) (λs=>l.length - s.2.toNat) (λs hs=>?_) ⟨0,rfl,by omega,by simp,by simp⟩ (by simp;omega);obtain ⟨ag,i'⟩:=s;obtain ⟨i,g1,g2,g3,g4⟩:=hs;simp only at g1 g3 g4;subst g1;unfold iQ;refine Def.c (λh=>?_) (λh=>Def.s ⟨g3,λe=>?_⟩)
 ·have hi:i<l.length:=by have:=dT h;omega
  refine Def.bd (P:=λr=>(r=true->∃ x∈l,x.Role=v.Role)/\(r=false->ag=false/\¬ (l[i].Role=v.Role/\l[i].Name=v.Name))) ?_ (λr hr=>?_)
  ·refine Def.c (λha=>Def.s ⟨λ_=>g3 ha,λe=>by simp at e⟩) (λha=>?_);refine Def.bd (Def.at' hi) (λy hy=>?_);subst hy;refine Def.c (λhr=>?_) (λhr=>Def.s ⟨λe=>by simp at e,λ_=>⟨ha,λe=>by simp [e.1] at hr⟩⟩);rw [beq_iff_eq] at hr;refine Def.bd (Def.at' hi) (λy hy=>?_);subst hy;refine Def.s ⟨λ_=>⟨_,List.getElem_mem hi,hr⟩,λe=>⟨ha,λe2=>?_⟩⟩;simp [e2.2] at e
  ·refine Def.s ?_;rw [vI (by omega)];refine ⟨⟨i+1,rfl,by omega,hr.1,λe x hx=>?_⟩,by simp only [Int.toNat_natCast];omega⟩;obtain ⟨k1,k2⟩:=hr.2 e;rcases mD hi hx with hx | rfl
   ·exact g4 k1 x hx
   ·exact k2
 ·have:=dF h;rw [List.take_of_length_le (by omega)] at g4;exact g4 e
structure ChI (role:Int) (l:List api_Image):Prop where
 im:∀ x∈l,qF x/\x.Role<=role
 prs:l.Pairwise Bef
 h1:2<=role->∃ x∈l,x.Role=1
 h3:4<=role->∃ x∈l,x.Role=3
theorem zL6 (role:Int) (h1:1<=role) (h4:role<=4) (l:List api_Image) (n:Int) (c:zI) (hc:gA c) (hn:0<=n) (hl:(l.length:Int)+n<=2*role) (hI:ChI role l) (hk:role=1∨role=3->1<=n) :
  Def (zR (iH role) FU (l,n,c.B,c.At)) (λr=>(r.1.length:Int)<=2*role/\ChI role r.1/\(role=1∨role=3->∃ x∈r.1,x.Role=role)/\gA ⟨r.2.1,r.2.2⟩):=by
 refine Def.loop (λs=>0<=s.2.1/\(s.1.length:Int)+s.2.1<=2*role/\ChI role s.1/\(role=1∨role=3->1<=s.2.1∨∃ x∈s.1,x.Role=role)/\gA ⟨s.2.2.1,s.2.2.2⟩) (λs=>s.2.1.toNat) (λs hs=>?_) ⟨hn,hl,hI,λe=>.inl (hk e),hc⟩ (by simp only;omega);obtain ⟨l,n,B,A⟩:=s;obtain ⟨g1,g2,g3,g4,g5⟩:=hs;simp only at g1 g2 g3 g4 g5;unfold iH;refine Def.c (λh=>?_) (λh=>Def.s ?_)
 ·have hn:=dT h;refine Def.bd (P:=λr=>(r.1.length:Int)+(n - 1)<=2*role/\ChI role r.1/\(∃ x∈r.1,x.Role=role)/\gA ⟨r.2.1,r.2.2⟩) ?_ (λr hr=>?_)
  ·refine Def.bd (zLd _ role g5 h1 h4) (λr hr=>?_);obtain ⟨v,c⟩:=r;obtain ⟨k1,k2,k3⟩:=hr;simp only at k1 k2 k3;refine Def.bd (zMi l v (by omega)) (λag ha=>?_);refine Def.c (λhg=>?_) (λhg=>?_)
   ·have hgf:ag=false:=by simpa using hg
    refine Def.bd (Def.app (by simp;omega)) (λl' hl'=>Def.s ?_);subst hl';refine ⟨by simp;omega,⟨λx hx=>?_,?_,λe=>?_,λe=>?_⟩,⟨v,by simp,k2⟩,k3⟩
    ·rw [List.mem_append] at hx;rcases hx with hx | hx
     ·exact g3.im x hx
     ·simp at hx;subst hx;exact ⟨k1,by omega⟩
    ·rw [List.pairwise_append];refine ⟨g3.prs,by simp,λa ha' b hb=>?_⟩;simp at hb;subst hb;exact ⟨by have:=(g3.im a ha').2;omega,ha.2 hgf a ha'⟩
    ·obtain ⟨x,hx,e2⟩:=g3.h1 e;exact ⟨x,by simp [hx],e2⟩
    ·obtain ⟨x,hx,e2⟩:=g3.h3 e;exact ⟨x,by simp [hx],e2⟩
   ·have hgt:ag=true:=by simpa using hg
    obtain ⟨x,hx,e⟩:=ha.1 hgt;exact Def.s ⟨by simp only;omega,g3,⟨x,hx,by omega⟩,k3⟩
  ·obtain ⟨l',B',A'⟩:=r;obtain ⟨k1,k2,k3,k4⟩:=hr;simp only at k1 k2 k3 k4;refine Def.s ?_;rw [yW (by omega) (by omega)];exact ⟨⟨by simp only;omega,k1,k2,λ_=>.inr k3,k4⟩,by simp only;omega⟩
 ·have hn:=dF h;refine ⟨by simp only;omega,g3,λe=>?_,g5⟩;rcases g4 e with h | h
  ·omega
  ·exact h
theorem zE3 (codes:By):Def (kO codes) kF:=by
 unfold kO;refine Def.bd (zO7 codes 200 (by decide) (by decide)) (λc hc=>?_);refine Def.bd (P:=kF) ?_ (λr hr=>Def.s hr);refine Def.loop (λs=>1<=s.2.1/\s.2.1<=5/\(s.1.length:Int)<=2*(s.2.1 - 1)/\(∀ x∈s.1,qF x/\x.Role<s.2.1)/\s.1.Pairwise Bef/\(2<=s.2.1->∃ x∈s.1,x.Role=1)/\(4<=s.2.1->∃ x∈s.1,x.Role=3)/\gA ⟨s.2.2.1,s.2.2.2⟩) (λs=>(5 - s.2.1).toNat) (λs hs=>?_) ⟨Int.le_refl 1,by simp,by simp,by simp,by simp,by simp,by simp,hc⟩ (by simp);obtain ⟨l,role,B,A⟩:=s;obtain ⟨g1,g2,g3,g4,g5,g6,g7,g8⟩:=hs;simp only at g1 g2 g3 g4 g5 g6 g7 g8;unfold bE;refine Def.c (λh=>?_) (λh=>Def.s ?_)
 ·have hr:=dT h;refine Def.bd (qS _ 3 g8 (by decide)) (λr hr=>?_);obtain ⟨v,c1⟩:=r;obtain ⟨k1,k2,k3⟩:=hr;simp only at k1 k2 k3;refine Def.bd (P:=λr=>0<=r.1/\r.1<=2/\(role=1∨role=3->1<=r.1)/\gA ⟨r.2.1,r.2.2⟩) ?_ (λr hr=>?_)
  ·refine Def.bd (P:=λb=>b=false->¬ (role=1∨role=3)) ?_ (λb hb=>?_)
   ·refine Def.c (λh=>Def.s (λe=>by simp at e)) (λh=>Def.s (λe=>?_));simp at h e;omega
   refine Def.c (λ_=>?_) (λhf=>Def.s ⟨k1,by simp only;omega,λe=>absurd e (hb hf),k3⟩);refine Def.bd (qS _ 2 k3 (by decide)) (λr hr=>?_);obtain ⟨v2,c2⟩:=r;obtain ⟨j1,j2,j3⟩:=hr;simp only at j1 j2 j3;have e:IntKind.i64.wrap (1+v2)=1+v2:=yW (by omega) (by omega);exact Def.s ⟨by simp only [e];omega,by simp only [e];omega,λ_=>by simp only [e];omega,j3⟩
  obtain ⟨n,B1,A1⟩:=r;obtain ⟨j1,j2,j3,j4⟩:=hr;simp only at j1 j2 j3 j4;refine Def.bd (zL6 role g1 hr l n ⟨B1,A1⟩ j4 j1 (by omega) ⟨λx hx=>⟨(g4 x hx).1,by have:=(g4 x hx).2;omega⟩,g5,g6,g7⟩ j3) (λr hr=>?_);obtain ⟨l',B2,A2⟩:=r;obtain ⟨m1,m2,m3,m4⟩:=hr;simp only at m1 m2 m3 m4;refine Def.s ?_;rw [yW (by omega) (by omega)];refine ⟨⟨by simp only;omega,by simp only;omega,by simp only;omega,λx hx=>⟨(m2.im x hx).1,by have:=(m2.im x hx).2;simp only;omega⟩,m2.prs,λe=>?_,λe=>?_,m4⟩,by simp only;omega⟩
  ·simp only at e;by_cases h1:role=1
   ·obtain ⟨x,hx,e2⟩:=m3 (.inl h1);exact ⟨x,hx,by omega⟩
   ·exact m2.h1 (by omega)
  ·simp only at e;by_cases h3:role=3
   ·obtain ⟨x,hx,e2⟩:=m3 (.inr h3);exact ⟨x,hx,by omega⟩
   ·exact m2.h3 (by omega)
 ·have hr:=dF h;exact ⟨by omega,λx hx=>(g4 x hx).1,g5,g6 (by omega),g7 (by omega)⟩
theorem pw {l:List api_Image} (h:l.Pairwise Bef) (hj:j<l.length) (hij:i<j):Bef (l[i]'(by omega)) l[j]:=List.pairwise_iff_getElem.mp h i j (by omega) hj hij
theorem zJc (l:List api_Image) (h:kF l):uG l=some 0:=by
 obtain ⟨hlen,him,hp,h1,h3⟩:=h;have hne:l.length≠0:=by
  obtain ⟨x,hx,_⟩:=h1;intro e;rw [List.length_eq_zero_iff] at e;rw [e] at hx;simp at hx
 have hl1:∀ i:Nat,i<l.length->Def (zR (xW l (i:Int)) FU 0) (λr=>r=.inr ()):=by
  intro i hi;refine Def.loop (λs=>∃ k:Nat,s=(k:Int)/\k<=i) (λs=>i - s.toNat) (λs hs=>?_) ⟨0,rfl,by omega⟩ (by simp;omega);obtain ⟨k,rfl,hk⟩:=hs;unfold xW;refine Def.c (λh=>?_) (λh=>Def.s rfl);have hki:=dT h;have hb:=pw hp hi (show k<i by omega);refine Def.bd (P:=λb=>b=false) ?_ (λb hb'=>?_)
  ·refine Def.bd (Def.at' (show k<l.length by omega)) (λy hy=>?_);subst hy;refine Def.bd (Def.at' hi) (λy hy=>?_);subst hy;refine Def.c (λhr=>?_) (λ_=>Def.s rfl);rw [beq_iff_eq] at hr;refine Def.bd (Def.at' (show k<l.length by omega)) (λy hy=>?_);subst hy;refine Def.bd (Def.at' hi) (λy hy=>?_);subst hy;refine Def.s ?_;rw [beq_eq_false_iff_ne];exact λe=>hb.2 ⟨hr,e⟩
  subst hb';refine Def.s ?_;rw [vI (by omega)];exact ⟨⟨k+1,rfl,by omega⟩,by simp only [Int.toNat_natCast];omega⟩
 have hd:Def (zR (xF l) FU (false,false,0)) (λr=>r=.inr (true,true)):=by
  refine Def.loop (λs=>∃ i:Nat,s.2.2=(i:Int)/\i<=l.length/\((∃ x∈l.take i,x.Role=1)->s.1=true)/\((∃ x∈l.take i,x.Role=3)->s.2.1=true)) (λs=>l.length - s.2.2.toNat) (λs hs=>?_) ⟨0,rfl,by omega,by simp,by simp⟩ (by simp;omega);obtain ⟨f,k,i'⟩:=s;obtain ⟨i,g1,g2,g3,g4⟩:=hs;simp only at g1 g3 g4;subst g1;unfold xF;refine Def.c (λh=>?_) (λh=>Def.s ?_)
  ·have hi:i<l.length:=by have:=dT h;omega
   refine Def.bd (Def.at' hi) (λy hy=>?_);subst hy;refine Def.bd (P:=λr=>r=0) (Def.of (zEd _ (him _ (List.getElem_mem hi))) rfl) (λr hr=>?_);subst hr;refine Def.c (λh=>by simp at h) (λ_=>?_);refine Def.bd (P:=λb=>b=false) ?_ (λb hb=>?_)
   ·refine Def.c (λh0=>?_) (λ_=>Def.s rfl);have h0':=dT h0;refine Def.bd (Def.at' hi) (λy hy=>?_);subst hy;rw [yW (by omega) (by omega),show (i:Int) - 1=((i - 1:Nat):Int) by omega];refine Def.bd (Def.at' (show i - 1<l.length by omega)) (λy hy=>?_);subst hy;have hb:=(pw hp hi (show i - 1<i by omega)).1;refine Def.s ?_;rw [decide_eq_false_iff_not];omega
   subst hb;refine Def.c (λh=>by simp at h) (λ_=>?_);refine Def.bd (hl1 i hi) (λr hr=>?_);subst hr;refine Def.bd (P:=λb=>f=true∨l[i].Role=1->b=true) ?_ (λb1 hb1=>?_)
   ·refine Def.c (λ_=>Def.s (λ_=>rfl)) (λhf=>?_);refine Def.bd (Def.at' hi) (λy hy=>?_);subst hy;refine Def.s (λe=>?_);rcases e with e | e
    ·rw [hf] at e;cases e
    ·rw [e];rfl
   refine Def.bd (P:=λb=>k=true∨l[i].Role=3->b=true) ?_ (λb2 hb2=>?_)
   ·refine Def.c (λ_=>Def.s (λ_=>rfl)) (λhf=>?_);refine Def.bd (Def.at' hi) (λy hy=>?_);subst hy;refine Def.s (λe=>?_);rcases e with e | e
    ·rw [hf] at e;cases e
    ·rw [e];rfl
   refine Def.s ?_;rw [vI (by omega)];refine ⟨⟨i+1,rfl,by omega,λe=>?_,λe=>?_⟩,by simp only [Int.toNat_natCast];omega⟩
   ·obtain ⟨x,hx,e⟩:=e;rcases mD hi hx with hx | rfl
    ·exact hb1 (.inl (g3 ⟨x,hx,e⟩))
    ·exact hb1 (.inr e)
   ·obtain ⟨x,hx,e⟩:=e;rcases mD hi hx with hx | rfl
    ·exact hb2 (.inl (g4 ⟨x,hx,e⟩))
    ·exact hb2 (.inr e)
  ·have:=dF h;rw [List.take_of_length_le (by omega)] at g3 g4;rw [g3 h1,g4 h3]
 obtain ⟨r,e,rfl⟩:=hd;unfold uG;refine bd (a:=false) (cf ?_ (congrArg some ?_)) ?_
 ·rw [beq_eq_false_iff_ne];omega
 ·rw [decide_eq_false_iff_not];omega
 refine cf rfl ?_;refine bd e ?_;rfl
def pG (x:api_Image):By:=zAb (zAb (qV (qV [] 1 x.Role) 4 x.Version) x.Name) x.Payload
theorem zH9 (x:api_Image):5<=(pG x).length/\(pG x).length<2 ^ 20:=by
 have h1:=zA3 (qV (qV [] 1 x.Role) 4 x.Version) x.Name;have h2:=zA3 (zAb (qV (qV [] 1 x.Role) 4 x.Version) x.Name) x.Payload;have h3:(qV (qV [] 1 x.Role) 4 x.Version).length=5:=by rw [tV,tV];rfl
 refine ⟨?_,by unfold pG;omega⟩;unfold pG zAb;simp only [List.length_append,tV,h3];omega
theorem zD0:∀ f u,(decF f u).length<=f
 | 0,_=>Nat.le_refl _
 | f+1,u=>by
  unfold decF;cases Nat.blt u 10
  ·simp only [cond_false,List.length_append,List.length_singleton];have:=zD0 f (u / 10);omega
  ·simp only [cond_true,List.length_singleton];omega
def lbl (x:api_Image):By:=(x.Name++[32])++decF 20 x.Version.toNat
def rgR (role:Int):Int:=if role=1 then 0 else if role=2 then 4 else if role=3 then 8 else if role=4 then 9 else -1
def imE (active:Int) (x:api_Image):zB:=⟨rgR x.Role,1,dgE active true (pG x),lbl x⟩
def zEh (x:api_Image):List By:=(uE x).getD []
def evR (active role:Int) (l:List api_Image):List zB:=l.flatMap λx=>if x.Role=role then (if role=4 then (zEh x).map (mkE 9 3 active) else [imE active x]) else []
def zEp (active:Int):List zB:=(List.range 8).map λ(i:Nat)=>mkE (i:Int) 2 active [0,0,0,0]
def evs (l:List api_Image) (active:Int):List zB:=evR active 1 l++evR active 2 l++(zEp active++evR active 3 l)++evR active 4 l
theorem zIs (x:api_Image) (h:qF x) (h4:x.Role=4):uE x=some (zEh x)/\(zEh x).length<=4/\∀ l∈zEh x,zEj l:=by
 obtain ⟨L,h1,_,h2,h3⟩:=h.l h4;unfold zEh;rw [h1];exact ⟨rfl,h2,h3⟩
theorem aU (active role:Int) (x:api_Image) (h:qF x):(if x.Role=role then (if role=4 then (zEh x).map (mkE 9 3 active) else [imE active x]) else []).length<=4/\(x.Role=role∨(if x.Role=role then (if role=4 then (zEh x).map (mkE 9 3 active) else [imE active x]) else []).length=0):=by
 by_cases hr:x.Role=role
 ·rw [if_pos hr];refine ⟨?_,.inl hr⟩;by_cases h4:role=4
  ·rw [if_pos h4,List.length_map];exact (zIs x h (by omega)).2.1
  ·rw [if_neg h4];simp
 ·rw [if_neg hr];exact ⟨by simp,.inr rfl⟩
theorem zPu (active role:Int) (l:List api_Image) (h:∀ x∈l,qF x):(evR active role l).length<=4*l.length:=by
 induction l with
 | nil=>simp [evR]
 | cons x t ih=>
  have h1:=(aU active role x (h x (List.mem_cons_self ..))).1;have h2:=ih (λy hy=>h y (List.mem_cons_of_mem _ hy));unfold evR at h2 ⊢;rw [List.flatMap_cons,List.length_append,List.length_cons];omega
theorem zKf (active:Int) (l:List api_Image) (h:∀ x∈l,qF x):(evR active 1 l).length+(evR active 2 l).length+(evR active 3 l).length+(evR active 4 l).length<=4*l.length:=by
 induction l with
 | nil=>simp [evR]
 | cons x t ih=>
  have h0:=aU active 1 x (h x (List.mem_cons_self ..));have h1:=aU active 2 x (h x (List.mem_cons_self ..));have h2:=aU active 3 x (h x (List.mem_cons_self ..));have h3:=aU active 4 x (h x (List.mem_cons_self ..));have hi:=ih (λy hy=>h y (List.mem_cons_of_mem _ hy));unfold evR at hi ⊢;rw [List.flatMap_cons,List.flatMap_cons,List.flatMap_cons,List.flatMap_cons,List.length_append,List.length_append,List.length_append,List.length_append,List.length_cons];omega
theorem zDj (active:Int):(zEp active).length=8:=by simp [zEp]
theorem zNm (l:List api_Image) (active:Int) (h:kF l):8<=(evs l active).length/\(evs l active).length<=40:=by
 have h1:=zKf active l h.im;have h2:=h.len;have h3:=zDj active;unfold evs;simp only [List.length_append];omega
set_option maxRecDepth 100000
theorem zPh (n m:Int) (hm:1<=m) (hm2:m<2 ^ 40):Def (eV n m) (λr=>0<=r/\r<m):=by
 unfold eV;refine Def.c (λh=>by have:=dT h;omega) (λ_=>?_);refine Def.bd (Def.ck (by simp;omega)) (λ_ _=>?_);have h1:-m<Int.tmod n m:=by
  have:=Int.lt_tmod_of_pos n (by omega:0<m);omega
 have h2:Int.tmod n m<m:=Int.tmod_lt_of_pos n (by omega);refine Def.bd (P:=λr=>0<=r/\r<m) ?_ (λr hr=>Def.s hr);refine Def.c (λh=>Def.s ?_) (λh=>Def.s ?_)
 ·have:=dT h;rw [yW (by omega) (by omega)];omega
 ·have:=dF h;omega
theorem zF0 (a b:List α):(cpy a b).length=a.length:=by
 unfold cpy;simp;omega
set_option maxRecDepth 100000
def siz (a:Int):Int:=if a=0 then 20 else if a=1 then 32 else 0
theorem zP5 (a:Int):zEx a=some (siz a):=by
 unfold zEx siz;by_cases h0:a=0
 ·rw [if_pos h0];exact ct (by simp [h0]) rfl
 ·rw [if_neg h0];refine cf (by simp [h0]) ?_;by_cases h1:a=1
  ·rw [if_pos h1];exact ct (by simp [h1]) rfl
  ·rw [if_neg h1];exact cf (by simp [h1]) rfl
def Fit (e:zB) (active:Int) (a:Nat):Prop:=((e.Digests.getD a []).length:Int)=if e.Kind≠5/\uR active (a:Int)=true then siz (a:Int) else 0
theorem nf2 (h:∃ i,i<2/\¬ Fit e active i):¬ (Fit e active 0/\Fit e active 1):=by
 obtain ⟨i,hi,hn⟩:=h;intro ⟨h0,h1⟩;have:i=0∨i=1:=by omega
 rcases this with rfl | rfl
 ·exact hn h0
 ·exact hn h1
theorem zOl {has:Option Bool} {size:Option Int} (h1:has=some (uR active (a:Int))) (h2:size=some (siz (a:Int))) :
  Def ((bif (e.Kind != 5) then has else some false:Option Bool).bind λv=>bif v then size else some 0) (λw=>w=if e.Kind≠5/\uR active (a:Int)=true then siz (a:Int) else 0):=by
 subst h1 h2;by_cases hk:e.Kind=5
 ·rw [show (e.Kind != 5)=false by simp [hk]];exact Def.s (by rw [if_neg (λh=>h.1 hk)])
 ·rw [show (e.Kind != 5)=true by simp [hk]];cases hb:uR active (a:Int)
  ·exact Def.s (by rw [if_neg (λh=>by cases h.2)])
  ·exact Def.s (by rw [if_pos ⟨hk,rfl⟩])
theorem zKh {w:Int} (hl:a<e.Digests.length) (hw:w=if e.Kind≠5/\uR active (a:Int)=true then siz (a:Int) else 0):((e.Digests[a].length:Int) != w)=false↔Fit e active a:=by
 unfold Fit;rw [<- hw];simp [hl]
structure EvGood (e:zB) (active:Int):Prop where
 r0:0<=e.Register
 r1:e.Register<=11
 d:e.Data.length<=64
 l:e.Digests.length=2
 f0:Fit e active 0
 f1:Fit e active 1
structure EvC (e:zB) (active:Int):Prop extends EvGood e active where
 a1:1<=active
 a3:active<=3
 k1:1<=e.Kind
 k5:e.Kind<=5
theorem or6 {a d e f:Bool}:Def (bif a then some true else bif b then some true else bif c then some true else bif d then some true else bif e then some true else some f) (λr=>r=(a||b||c||d||e||f)):=by
 cases a<;>cases b<;>cases c<;>cases d<;>cases e<;>cases f<;>exact Def.s rfl
theorem zQa (h:b=(decide (active<1)||decide (3<active)||decide (e.Register<0)||decide (11<e.Register)||decide (e.Kind<1)||decide (5<e.Kind))) :
  b=false↔(1<=active/\active<=3/\0<=e.Register/\e.Register<=11/\1<=e.Kind/\e.Kind<=5):=by
 subst h;simp only [Bool.or_eq_false_iff,decide_eq_false_iff_not];omega
def bnk (n:Nat):List By:=List.replicate 12 (List.replicate n 0)++List.replicate 4 (List.replicate n 255)
structure zG8 (active:Int) (r:zE):Prop where
 b:∃ b0 b1,r.Banks=[b0,b1]/\b0.length=(if uR active 0=true then 16 else 0)/\b1.length=(if uR active 1=true then 16 else 0)/\(∀ x∈b0,x.length<=32)/\(∀ x∈b1,x.length<=32)
def upR (act:Bool) (bk:List By) (reg:Int) (f:By->By):List By:=if act=true then bk.set reg.toNat (f (bk.getD reg.toNat [])) else bk
def ext (active:Int) (e:zB) (r:zE):zE:=
 ⟨[upR (uR active 0) (r.Banks.getD 0 []) e.Register (λx=>zAs (x++e.Digests.getD 0 [])),upR (uR active 1) (r.Banks.getD 1 []) e.Register (λx=>sha (x++e.Digests.getD 1 []))],IntKind.i64.wrap (r.Updates+1)⟩
theorem zJ3 (act:Bool) (bk:List By) (reg:Int) (f:By->By):(upR act bk reg f).length=bk.length:=by unfold upR;split<;>simp
theorem zOk {act:Bool} {reg:Int} {f:By->By} (h:∀ x∈bk,x.length<=32) (hf:∀ x,(f x).length<=32):∀ x∈upR act bk reg f,x.length<=32:=by
 intro x hx;unfold upR at hx;split at hx
 ·rcases List.mem_or_eq_of_mem_set hx with hx | hx
  ·exact h x hx
  ·rw [hx];exact hf _
 ·exact h x hx
theorem zUd {r:zE} (h:zG8 active r):zG8 active (ext active e r):=by
 obtain ⟨⟨b0,b1,hb,l0,l1,m0,m1⟩⟩:=h;unfold ext;rw [hb];exact ⟨⟨_,_,rfl,by rw [zJ3];exact l0,by rw [zJ3];exact l1,zOk m0 (λx=>by rw [zG2];omega),zOk m1 (λx=>by rw [zCn];omega)⟩⟩
set_option maxRecDepth 100000
theorem act3 {a:Int} (h1:1<=a) (h3:a<=3):a=1∨a=2∨a=3:=by omega
theorem zCe (n:Nat):(bnk n).length=16:=by simp [bnk]
theorem zGg (n:Nat) (h:n<=32):∀ x∈bnk n,x.length<=32:=by
 intro x hx;simp only [bnk,List.mem_append,List.mem_replicate] at hx;rcases hx with ⟨_,rfl⟩ | ⟨_,rfl⟩<;>simp [h]
def zPm (active:Int):zE:=⟨[if uR active 0=true then bnk 20 else [],if uR active 1=true then bnk 32 else []],0⟩
theorem zQd (active:Int) (h1:1<=active) (h3:active<=3):zG8 active (zPm active):=by
 rcases act3 h1 h3 with rfl | rfl | rfl
 ·exact ⟨⟨_,_,rfl,zCe 20,rfl,zGg 20 (by omega),(by intro x hx;cases hx)⟩⟩
 ·exact ⟨⟨_,_,rfl,rfl,zCe 32,(by intro x hx;cases hx),zGg 32 (by omega)⟩⟩
 ·exact ⟨⟨_,_,rfl,zCe 20,zCe 32,zGg 20 (by omega),zGg 32 (by omega)⟩⟩
def rpl (active:Int) (es:List zB):zE:=es.foldl (λr e=>if e.Kind=5 then r else ext active e r) (zPm active)
theorem zJ1 (active:Int):∀ (es:List zB) (r:zE),zG8 active r->zG8 active (es.foldl (λr e=>if e.Kind=5 then r else ext active e r) r)
 | [],_,h=>h
 | e :: es,r,h=>by
  rw [List.foldl_cons];refine zJ1 active es _ ?_;split
  ·exact h
  ·exact zUd h
theorem zTl (active:Int) (es:List zB) (h1:1<=active) (h3:active<=3):zG8 active (rpl active es):=zJ1 active es _ (zQd active h1 h3)
theorem zJk (h:∀ x∈bk,x.length<=32) (n:Nat):(bk.getD n []).length<=32:=by
 by_cases hn:n<bk.length
 ·have:bk.getD n []=bk[n]:=by simp [hn]
  rw [this];exact h _ (List.getElem_mem hn)
 ·have:bk.getD n []=[]:=by simp [List.getD,List.getElem?_eq_none (by omega:bk.length<=n)]
  rw [this];simp
set_option maxRecDepth 100000
theorem iV (a:Int):tY a=some (siz a):=zP5 a
theorem zIe (e:zB) (active:Int):Def (mG e active) (λr=>r=0↔EvC e active):=by
 unfold mG;refine Def.bd or6 (λb hb=>?_);have hb:=zQa hb;refine Def.c (λh=>Def.s ⟨λh=>(by cases h),λhc=>?_⟩) (λhbf=>?_)
 ·have:=hb.2 ⟨hc.a1,hc.a3,hc.r0,hc.r1,hc.k1,hc.k5⟩;rw [this] at h;cases h
 obtain ⟨h1,h2,h3,h4,h5,h6⟩:=hb.1 hbf;refine Def.c (λh=>Def.s ⟨λh=>(by cases h),λhc=>?_⟩) (λhd=>?_)
 ·have:=dT h;have:=hc.d;omega
 have hd':=dF hd;refine Def.c (λh=>Def.s ⟨λh=>(by cases h),λhc=>?_⟩) (λhl0=>?_)
 ·rw [hc.l] at h;cases h
 have hl:e.Digests.length=2:=by simp at hl0;omega
 refine Def.bd (dN e.Digests (oJ e active) (λi=>Fit e active i) (λb=>b=27/\∃ i,i<2/\¬ Fit e active i) (by omega) (λa ha=>?_) ?_) (λr hr=>?_)
 ·unfold oJ;refine Def.c (λ_=>?_) (λh=>by have:=dF h;omega);refine Def.bd (Def.at' ha) (λd hd=>?_);subst hd;refine Def.bd (zOl (e:=e) (active:=active) (a:=a) ?_ (by rw [iV];rfl)) (λw hw=>?_)
  ·refine bd (ckT (by simp)) ?_;have hw:IntKind.u64.wrap (a:Int)=(a:Int):=zDi (by omega) (by omega);unfold uR;rw [hw]
  refine Def.c (λhne=>Def.s ⟨rfl,a,by omega,λhF=>?_⟩) (λhne=>Def.s ⟨vI (by omega),(zKh ha hw).1 hne⟩);rw [(zKh ha hw).2 hF] at hne;cases hne
 ·unfold oJ;rw [hl];exact cf rfl rfl
 ·cases r with
  | inl b=>exact Def.s ⟨λh=>(by rw [hr.1] at h;cases h),λh=>absurd ⟨h.f0,h.f1⟩ (nf2 hr.2)⟩
  | inr u=>exact Def.s ⟨λ_=>⟨⟨h3,h4,by omega,hl,hr 0 (by omega),hr 1 (by omega)⟩,h1,h2,h5,h6⟩,λ_=>rfl⟩
theorem zRk (h:EvC e active):Def (mG e active) (λr=>r=0):=(zIe e active).mono λ_ hr=>hr.2 h
set_option maxRecDepth 100000
theorem zPe (b:By) (h:b.length<2 ^ 40):tR b=some (RS.W ⟨b,0,0⟩):=by
 unfold tR;refine bd (yJ (by simp;omega)) ?_;rfl
set_option maxRecDepth 100000
structure LgGood (l:wG):Prop where
 ev:∀ e∈l.Events,EvC e l.Active
 n:l.Events.length<=40
set_option maxRecDepth 100000
def oY (e:zB):By:=[u8 e.Register,u8 e.Kind]++((beN ((e.Digests.getD 0 []).length:Int) 2 2++e.Digests.getD 0 [])++((beN ((e.Digests.getD 1 []).length:Int) 2 2++e.Digests.getD 1 [])++(beN (e.Data.length:Int) 2 2++e.Data)))
theorem iP (h:Fit e active a):(e.Digests.getD a []).length<=32:=by
 unfold Fit siz at h;split at h
 ·split at h
  ·omega
  ·split at h<;>omega
 ·omega
theorem zAg (h:EvGood e active):1<=(oY e).length/\(oY e).length<=136:=by
 have h0:=iP h.f0;have h1:=iP h.f1;have h2:=h.d;unfold oY;simp only [List.length_append,xB,List.length_cons,List.length_nil];omega
theorem Rem.eqv {l l':By} (h:Rem r l) (e:l'=l):Rem r l':=e▸h
theorem zQj (n:Int) (h0:0<=n) (h:n<256):((u8 n).toNat:Int)=n:=by
 obtain ⟨m,rfl⟩:=Int.eq_ofNat_of_zero_le h0;rw [gP];omega
theorem Rem.byte {n:Int} (h:Rem r (u8 n :: rest)) (h0:0<=n) (hn:n<256):sX r 1=(n,r.to 1)/\Rem (r.to 1) rest:=by
 have h':Rem r ([u8 n]++rest):=h;refine ⟨h'.uintV rfl ?_ h0 (by omega),h'.to rfl⟩;have hb:beV [u8 n] 1=ior .u64 (nM .u64 ((0:Nat):Int) 8) (IntKind.u64.wrap (((u8 n).toNat:Nat):Int)):=rfl;rw [hb,zHb 0 _ (by omega) (by have:=(u8 n).toNat_lt;omega)];have:=zQj n h0 hn;omega
theorem zPf (e:zB) (active:Int) (h:EvC e active):wL e=some true:=by
 have r0:=h.r0;have r1:=h.r1;have k1:=h.k1;have k5:=h.k5;have h2:=h.d;have hl:=h.l;have h0:=iP h.f0;have h1:=iP h.f1;have hd:Def (wL e) (λb=>b=true):=by
  unfold wL;refine Def.bd (P:=λb=>b=false) (Def.of (cf (by simp;omega) (cf (by simp;omega) (cf (by simp;omega) (cf (by simp;omega) (cf (by simp [hl]) rfl))))) (by simp;omega)) (λb hb=>?_);subst hb;refine Def.c (λh=>by cases h) (λ_=>?_);refine Def.bd (dN e.Digests (vG e) (λ_=>True) (λ_=>False) (by omega) (λi hi=>?_) ?_) (λy hy=>?_)
  ·unfold vG;refine Def.c (λ_=>?_) (λh=>by have:=dF h;omega);refine Def.bd (Def.at' hi) (λd hd=>?_);refine Def.bd (P:=λw=>w=32) (Def.of (iV 1) rfl) (λw hw=>?_);subst hw;have:d.length<=32:=by
    have hi2:i=0∨i=1:=by omega
    rcases hi2 with rfl | rfl
    ·have:(e.Digests.getD 0 [])=d:=by simp [hd,hi]
     rw [<- this];exact h0
    ·have:(e.Digests.getD 1 [])=d:=by simp [hd,hi]
     rw [<- this];exact h1
   exact Def.c (λh=>by have:=dT h;omega) (λ_=>Def.s ⟨vI (by omega),trivial⟩)
  ·unfold vG;exact cf (by simp) rfl
  ·cases y with
   | inl b=>exact hy.elim
   | inr u=>exact Def.s rfl
 obtain ⟨b,hb,rfl⟩:=hd;exact hb
theorem zP2 (e:zB) (active:Int) (h:EvC e active):lL (oY e)=some (e,0):=by
 have hlen:=zAg h.toEvGood;have h0:=iP h.f0;have h1:=iP h.f1;have h2:=h.d;have r0:=h.r0;have r1:=h.r1;have k1:=h.k1;have k5:=h.k5;have hD:e.Digests=[e.Digests.getD 0 [],e.Digests.getD 1 []]:=by
  have hl:=h.l
  match hx:e.Digests,hl with
  | [a,b],_=>rfl
 have henc:=zPf e active h;have q0:Rem ⟨oY e,0,0⟩ (oY e):=⟨rfl,Nat.zero_le _,rfl⟩;have ok0:(RS.mk (oY e) 0 0).Ok:=⟨Nat.zero_le _,by simp;omega⟩;have w0:=zPe (oY e) (by omega);have b0:(RS.mk (oY e) 0 0).b.length<2 ^ 40:=by show (oY e).length<_;omega
 generalize (RS.mk (oY e) 0 0)=s0 at *;unfold oY at q0;obtain ⟨e1,q1⟩:=Rem.byte q0 r0 (by omega);obtain ⟨e2,q2⟩:=Rem.byte q1 (by omega) (by omega);replace q2:Rem ((s0.to 1).to 1) ((beN ((e.Digests.getD 0 []).length:Int) 2 2++e.Digests.getD 0 [])++((beN ((e.Digests.getD 1 []).length:Int) 2 2++e.Digests.getD 1 [])++(beN (e.Data.length:Int) 2 2++e.Data))):=q2;rw [List.append_assoc] at q2;obtain ⟨e3,q3⟩:=Rem.blobN (m:=32) q2 (by omega) (by omega);rw [List.append_assoc] at q3;obtain ⟨e4,q4⟩:=Rem.blobN (m:=32) q3 (by omega) (by omega);have q4':=q4.eqv (l':=beN (e.Data.length:Int) 2 2++(e.Data++[])) (by rw [List.append_nil]);obtain ⟨e5,q5⟩:=Rem.blobN (m:=64) q4' (by omega) (by omega);have ok1:(s0.to 1).Ok:=⟨q1.at',by show s0.b.length<_;omega⟩;have ok2:((s0.to 1).to 1).Ok:=⟨q2.at',by show s0.b.length<_;omega⟩;generalize hs2:(s0.to 1).to 1=s2 at *;generalize hs3:s2.to (2+(e.Digests.getD 0 []).length)=s3 at *;have ok3:s3.Ok:=⟨q3.at',by rw [<- hs3,<- hs2];show s0.b.length<_;omega⟩;generalize hs4:s3.to (2+(e.Digests.getD 1 []).length)=s4 at *;have ok4:s4.Ok:=⟨q4.at',by rw [<- hs4,<- hs3,<- hs2];show s0.b.length<_;omega⟩;generalize hs5:s4.to (2+e.Data.length)=s5 at *;have ok5:s5.Ok:=⟨q5.at',by rw [<- hs5,<- hs4,<- hs3,<- hs2];show s0.b.length<_;omega⟩;unfold lL;refine bd w0 ?_;refine bd (a:=(e.Register,(s0.to 1).W)) ((sT s0 1 ok0 (by omega) (by omega)).trans (by rw [e1])) ?_;refine bd (a:=(e.Kind,s2.W)) ((sT (s0.to 1) 1 ok1 (by omega) (by omega)).trans (by rw [e2])) ?_;refine bd (a:=([e.Digests.getD 0 [],e.Digests.getD 1 []],s4.W.b_,s4.W.at_,s4.W.e_)) (two (b:=(1,[e.Digests.getD 0 []],s3.W.b_,s3.W.at_,s3.W.e_)) (c:=(2,[e.Digests.getD 0 [],e.Digests.getD 1 []],s4.W.b_,s4.W.at_,s4.W.e_)) ?_ ?_ rfl) ?_
 ·unfold mS;refine ct rfl ?_;refine bd (a:=((32:Nat):Int)) (iV 1) ?_;refine bd (a:=(e.Digests.getD 0 [],s3.W)) ((qT s2 32 ok2).trans (by rw [e3])) ?_;exact bd (yJ (by simp)) rfl
 ·unfold mS;refine ct rfl ?_;refine bd (a:=((32:Nat):Int)) (iV 1) ?_;refine bd (a:=(e.Digests.getD 1 [],s4.W)) ((qT s3 32 ok3).trans (by rw [e4])) ?_;exact bd (yJ (by simp)) rfl
 refine bd (a:=(e.Data,s5.W)) ((qT s4 64 ok4).trans (by rw [e5])) ?_;have he:(⟨e.Register,e.Kind,[e.Digests.getD 0 [],e.Digests.getD 1 []],e.Data⟩:zB)=e:=by rw [<- hD]
 refine bd (a:=false) ?_ ?_
 ·refine bd (a:=(0,s5.W)) ((zBs s5 ok5).trans (by rw [q5.fin])) ?_;refine cf rfl ?_;refine bd (a:=true) ?_ rfl;show wL ⟨e.Register,e.Kind,[e.Digests.getD 0 [],e.Digests.getD 1 []],e.Data⟩=_;rw [he];exact henc
 refine cf rfl ?_;show some ((⟨e.Register,e.Kind,[e.Digests.getD 0 [],e.Digests.getD 1 []],e.Data⟩:zB),(0:Int))=_;rw [he]
set_option maxRecDepth 100000
def bZ (a r:Int):By:=[83,87,76,49]++(u8 a :: beN r 6 6)
def nF (es:List zB):By:=es.flatMap λe=>beN ((oY e).length:Int) 2 2++oY e
def uQ (l:wG):By:=bZ l.Active l.Resets++nF l.Events
structure LgF (l:wG):Prop extends LgGood l where
 a1:1<=l.Active
 a3:l.Active<=3
 r0:0<=l.Resets
 r1:l.Resets<=1099511627776
theorem eW (a r:Int):(bZ a r).length=11:=by simp [bZ,xB]
theorem zDw:∀ es:List zB,(∀ e∈es,EvC e active)->(nF es).length<=138*es.length
 | [],_=>by simp [nF]
 | e :: es,h=>by
  have h1:=zDw es (λx hx=>h x (List.mem_cons_of_mem _ hx));have h2:=zAg (h e (List.mem_cons_self ..)).toEvGood;unfold nF at h1 ⊢;rw [List.flatMap_cons,List.length_append,List.length_append,xB,List.length_cons];omega
theorem zLu (h:i<es.length):nF (es.take (i+1))=nF (es.take i)++(beN ((oY es[i]).length:Int) 2 2++oY es[i]):=by
 unfold nF;rw [List.take_add_one,List.flatMap_append];simp [h]
theorem zK3 (h:i<es.length):nF (es.drop i)=beN ((oY es[i]).length:Int) 2 2++(oY es[i]++nF (es.drop (i+1))):=by
 rw [List.drop_eq_getElem_cons h];unfold nF;rw [List.flatMap_cons,List.append_assoc]
theorem zOi (es:List zB) (i:Nat):nF es=nF (es.take i)++nF (es.drop i):=by
 unfold nF;rw [<- List.flatMap_append,List.take_append_drop]
theorem zNp (l:wG) (h:LgGood l):11<=(uQ l).length/\(uQ l).length<=5531:=by
 have h1:=zDw l.Events h.ev;have h2:=h.n;unfold uQ;rw [List.length_append,eW];omega
theorem zI8 (a r:Int) (h1:1<=a) (h3:a<=3) (h0:0<=r) (hr:r<=1099511627776):∃ b,wY a r=some b/\b.length=11:=by
 refine ⟨qV (qV [83,87,76,49] 1 a) 6 r,?_,by rw [tV,tV];rfl⟩;unfold wY;refine bd (a:=false) (cf (by simp;omega) (cf (by simp;omega) (cf (by simp;omega) (congrArg some (by simp;omega))))) ?_;refine cf rfl ?_;refine bd (qC _ 1 a (by omega) (by omega) (by simp)) ?_;exact bd (qC _ 6 r (by omega) (by omega) (by rw [tV];simp)) rfl
def atE (l:wG) (i:Nat):Nat:=11+(nF (l.Events.take i)).length
theorem zLm (l:wG) (h:LgF l):pR (uQ l)=some (l,0):=by
 have hn:=h.n;have hlen:=zNp l h.toLgGood;obtain ⟨hb,hh1,hh2⟩:=zI8 l.Active l.Resets h.a1 h.a3 h.r0 h.r1;have a1:=h.a1;have a3:=h.a3;have r0:=h.r0;have r1:=h.r1;have S:∀ i,Rem ⟨uQ l,atE l i,0⟩ (nF (l.Events.drop i)):=by
  intro i;have e:uQ l=(bZ l.Active l.Resets++nF (l.Events.take i))++nF (l.Events.drop i):=by
   unfold uQ;rw [List.append_assoc,<- zOi]
  have hl:(bZ l.Active l.Resets++nF (l.Events.take i)).length=atE l i:=by rw [List.length_append,eW];rfl
  refine ⟨rfl,?_,?_⟩
  ·show atE l i<=(uQ l).length;rw [e,List.length_append,hl];omega
  ·show (uQ l).drop (atE l i)=_;rw [e,<- hl,List.drop_left]
 have ok:∀ i,(RS.mk (uQ l) (atE l i) 0).Ok:=λi=>⟨(S i).at',by show (uQ l).length<_;omega⟩;have q0:Rem ⟨uQ l,0,0⟩ ([83,87,76,49]++(u8 l.Active :: (beN l.Resets 6 6++nF l.Events))):=⟨rfl,Nat.zero_le _,by show (uQ l).drop 0=_;unfold uQ bZ;simp⟩;have e1:=Rem.raw (n:=4) q0 rfl;have q1:=Rem.to (n:=4) q0 rfl;obtain ⟨e2,q2⟩:=Rem.byte q1 (by omega) (by omega);obtain ⟨e3,q3⟩:=Rem.uintI q2 (by omega) r0 (by omega) (by omega);have ok0:(RS.mk (uQ l) 0 0).Ok:=⟨Nat.zero_le _,by show (uQ l).length<_;omega⟩;have ok1:((RS.mk (uQ l) 0 0).to 4).Ok:=⟨q1.at',by show (uQ l).length<_;omega⟩;have ok2:(((RS.mk (uQ l) 0 0).to 4).to 1).Ok:=⟨q2.at',by show (uQ l).length<_;omega⟩;have e4:((((RS.mk (uQ l) 0 0).to 4).to 1).to 6)=⟨uQ l,atE l 0,0⟩:=by
  show (⟨uQ l,0+4+1+6,0⟩:RS)=_;unfold atE;simp [nF]
 rw [e4] at e3;unfold pR;refine cf (by simp;omega) ?_;refine bd (a:=(l,(atE l l.Events.length:Int),0)) ?_ (cf rfl rfl);unfold mA;refine bd (a:=(l,(atE l l.Events.length:Int),0)) ?_ rfl;refine bd (zPe _ (by omega)) ?_;refine bd (a:=([83,87,76,49],((RS.mk (uQ l) 0 0).to 4).W)) ((zBn _ 4 ok0).trans (by rw [e1])) ?_;refine cf rfl ?_;refine bd (a:=(l.Active,(((RS.mk (uQ l) 0 0).to 4).to 1).W)) ((sT _ 1 ok1 (by omega) (by omega)).trans (by rw [e2])) ?_;refine bd (a:=(l.Resets,(RS.mk (uQ l) (atE l 0) 0).W)) ((sT _ 6 ok2 (by omega) (by omega)).trans (by rw [e3])) ?_;refine bd (a:=(false,uQ l,(atE l 0:Int),0)) ?_ ?_
 ·refine bd (a:=(0,(RS.mk (uQ l) (atE l 0) 0).W)) rfl ?_;refine cf rfl ?_;refine bd hh1 ?_;rw [hh2];rfl
 refine cf rfl ?_;refine bd (a:=((atE l l.Events.length:Int),0,l.Events)) ?_ rfl;refine yM l.Events.length (λi=>((atE l i:Int),l.Events.take i,uQ l,(atE l i:Int),0)) ?_ (λi hi=>?_) ?_ (wN (by omega))
 ·simp [atE,nF]
 ·have hE:=h.ev _ (List.getElem_mem hi);have hel:=zAg hE.toEvGood;have hS:=S i;rw [zK3 hi] at hS;have hleft:=hS.left;rw [List.length_append,xB] at hleft;obtain ⟨f1,f2⟩:=Rem.blobN (m:=65535) hS (by omega) (by omega);have f3:(RS.mk (uQ l) (atE l i) 0).to (2+(oY l.Events[i]).length)=⟨uQ l,atE l (i+1),0⟩:=by
   show (⟨uQ l,atE l i+(2+(oY l.Events[i]).length),0⟩:RS)=_;unfold atE;rw [zLu hi,List.length_append,List.length_append,xB,Nat.add_assoc]
  rw [f3] at f1;have lf:∀ k,IntKind.i64.wrap (((uQ l).length:Int) - (atE l k:Int))=((RS.mk (uQ l) (atE l k) 0).left:Int):=λk=>zF3 _ (ok k);have hck:=zRk hE;obtain ⟨c,hc1,rfl⟩:=hck;unfold qD;refine bd (a:=(((RS.mk (uQ l) (atE l i) 0).left:Int),(RS.mk (uQ l) (atE l i) 0).W)) (congrArg some (by rw [<- lf i];rfl)) ?_;refine ct (by simp;omega) ?_;refine bd (a:=(oY l.Events[i],(RS.mk (uQ l) (atE l (i+1)) 0).W)) ((qT _ 65535 (ok i)).trans (by rw [f1])) ?_;refine bd (zP2 _ _ hE) ?_;refine cf (by simp;omega) ?_;refine bd (a:=(0,(RS.mk (uQ l) (atE l (i+1)) 0).W)) rfl ?_;refine cf rfl ?_;refine bd (a:=false) (cf rfl (bd hc1 rfl)) ?_;refine cf rfl ?_;refine bd (yJ (by simp;omega)) ?_;refine bd (a:=(((RS.mk (uQ l) (atE l (i+1)) 0).left:Int),(RS.mk (uQ l) (atE l (i+1)) 0).W)) (congrArg some (by rw [<- lf (i+1)];rfl)) ?_;have hat:IntKind.i64.wrap (((uQ l).length:Int) - ((RS.mk (uQ l) (atE l (i+1)) 0).left:Int))=(atE l (i+1):Int):=by
   have:=(ok (i+1)).1;simp only [RS.left] at *;rw [yW (by omega) (by omega)];omega
  have ht:l.Events.take (i+1)=l.Events.take i++[l.Events[i]]:=by rw [List.take_add_one];simp [hi]
  rw [ht];show some (Sum.inl (IntKind.i64.wrap (((uQ l).length:Int) - ((RS.mk (uQ l) (atE l (i+1)) 0).left:Int)),_))=_;rw [hat];rfl
 ·have hS:=S l.Events.length;rw [List.drop_length] at hS;have hleft:=hS.left;unfold qD;refine bd (a:=(((RS.mk (uQ l) (atE l l.Events.length) 0).left:Int),(RS.mk (uQ l) (atE l l.Events.length) 0).W)) (congrArg some (by rw [<- zF3 _ (ok l.Events.length)];rfl)) ?_;refine cf (by rw [hleft];rfl) ?_;rw [List.take_length]
set_option maxRecDepth 100000
structure zI5 (d:zV):Prop where
 n:d.Areas.length<=64
 w0:0<=d.Writes
 w1:d.Writes<2 ^ 60
theorem zDh (d:zV) (a:Nat) (h:a<d.Areas.length):nP d (a:Int)=some true:=by
 unfold nP;refine bd (ct (by simp) (congrArg some (by simp;omega))) rfl
theorem zEy (d:zV) (h:d.Areas.length<=64):zR (oG d d.Areas.length) FU (0,List.replicate d.Areas.length [])=some d.Areas:=by
 refine yM d.Areas.length (λi=>((i:Int),d.Areas.take i++List.replicate (d.Areas.length - i) [])) (by simp) (λi hi=>?_) ?_ (wN (by omega))
 ·unfold oG;refine ct (dlt hi) ?_;refine bd (yS hi) ?_;refine bd (pW hi) ?_;have hl:(d.Areas.take i).length=i:=by simp;omega
  refine bd (zA2 (by simp;omega)) ?_;rw [vI (show i<2 ^ 40 by omega)];refine congrArg some (congrArg Sum.inl (congrArg (Prod.mk _) ?_));rw [List.set_append_right _ _ (by omega),hl,Nat.sub_self];rw [show d.Areas.length - i=(d.Areas.length - (i+1))+1 by omega,List.replicate_succ,List.set_cons_zero];rw [List.take_add_one,List.getElem?_eq_getElem hi];simp only [Option.toList_some,List.append_assoc,List.singleton_append]
 ·unfold oG;refine cf (dge (Nat.le_refl _)) ?_;simp
theorem app0 (h:x.length<2 ^ 40):yP 1 [] x=some x:=by simpa using yJ (b:=1) (l:=[]) (m:=x) (by simp;omega)
theorem zRs {d:zV} (h:a<d.Areas.length):idx d.Areas (a:Int)=some (d.Areas.getD a []):=by rw [yS h];simp [h]
theorem mk24 (h:n<=64):mkN 24 (n:Int)=some n:=by
 unfold mkN;rw [if_pos (by simp;omega)];simp
theorem wr1 {n:Int} (h0:0<=n) (h:n<2 ^ 60):IntKind.i64.wrap (n+1)=n+1:=yW (by omega) (by omega)
def cN (d:zV) (len:Nat):Nat:=if d.Writes+1=d.CutAt then min d.Torn.toNat len else len
def isC (d:zV):Prop:=d.Writes+1=d.CutAt
instance (d:zV):Decidable (isC d):=by unfold isC;infer_instance
def zDl (d:zV):Int:=if isC d then 29 else 0
theorem zM3 (d:zV) (len:Nat) (h:zI5 d) (ho:d.Off=false):(bif ((IntKind.i64.wrap (d.Writes+1))==d.CutAt) then
  (some (if (len:Int)<if d.Torn<0 then 0 else d.Torn then (len:Int) else if d.Torn<0 then 0 else d.Torn,29,true))
 else some ((len:Int),0,d.Off):Option (Int×Int×Bool))=some ((cN d len:Int),zDl d,decide (isC d)):=by
 rw [wr1 h.w0 h.w1];by_cases hc:d.Writes+1=d.CutAt
 ·refine ct (by simpa using hc) (congrArg some ?_);rw [show zDl d=29 from if_pos hc,show decide (isC d)=true from decide_eq_true hc];refine congrArg (·,(29:Int),true) ?_;unfold cN;rw [if_pos hc];by_cases ht:d.Torn<0
  ·rw [if_pos ht,if_neg (by omega)];have:d.Torn.toNat=0:=by omega
   simp [this]
  ·rw [if_neg ht];split<;>omega
 ·refine cf (by simpa using hc) (congrArg some ?_);rw [show zDl d=0 from if_neg hc,show decide (isC d)=false from decide_eq_false hc,ho];unfold cN;rw [if_neg hc]
def cX (d:zV) (a:Nat) (y:By):zV:=⟨d.Areas.set a y,d.Writes+1,d.CutAt,d.Torn,decide (isC d)⟩
theorem zQz (d:zV) (a:Nat) (data x y:By) (b:Bool) (h:zI5 d) (ho:d.Off=false) (ha:a<d.Areas.length) (hl:data.length<=65536) (hy:oM (d.Areas.getD a []) (cN d data.length:Int) x b=some y) :
  jW d (a:Int) data x b=some (cX d a y,zDl d):=by
 unfold jW;refine cf ho ?_;refine bd (zDh d a ha) ?_;refine cf rfl ?_;refine cf (by simp;omega) ?_;refine bd (zM3 d data.length h ho) ?_;refine bd (mk24 h.n) ?_;refine bd (zEy d h.n) ?_;refine bd (zRs ha) ?_;refine bd hy ?_;refine bd (pW ha) ?_;refine bd (zA2 ha) ?_;refine bd (ckT (by simp)) ?_;refine bd (ckT (by have:=h.n;simp [Nat.ble_eq];omega)) ?_;rw [wr1 h.w0 h.w1];rfl
theorem zQc (d:zV) (a:Nat) (data x y:By) (h:zI5 d) (ho:d.Off=false) (ha:a<d.Areas.length) (hl:data.length<=65536) (hy:oN (d.Areas.getD a []) (cN d data.length:Int) x=some y) :
  lJ d (a:Int) data x=some (cX d a y,zDl d):=by
 unfold lJ;refine cf ho ?_;refine bd (zDh d a ha) ?_;refine cf rfl ?_;refine cf (by simp;omega) ?_;refine bd (zM3 d data.length h ho) ?_;refine bd (mk24 h.n) ?_;refine bd (zEy d h.n) ?_;refine bd (zRs ha) ?_;refine bd hy ?_;refine bd (pW ha) ?_;refine bd (zA2 ha) ?_;refine bd (ckT (by simp)) ?_;refine bd (ckT (by have:=h.n;simp [Nat.ble_eq];omega)) ?_;rw [wr1 h.w0 h.w1];rfl
theorem zJw (d:zV) (len:Nat):cN d len<=len:=by unfold cN;split<;>omega
def wrC (d:zV) (old data:By):By:=data.take (cN d data.length)++(if isC d then old.drop (cN d data.length) else [])
def apC (d:zV) (old data:By):By:=old++data.take (cN d data.length)
theorem zD9 (d:zV) (a:Nat) (data:By) (h:zI5 d) (ho:d.Off=false) (ha:a<d.Areas.length) (hl:data.length<=65536) (hold:(d.Areas.getD a []).length<2 ^ 40) :
  nO d (a:Int) data=some (cX d a (wrC d (d.Areas.getD a []) data),zDl d):=by
 unfold nO;refine bd (a:=decide (isC d)) (ct (by rw [ho];rfl) (congrArg some ?_)) ?_
 ·rw [wr1 h.w0 h.w1];simp [isC,BEq.beq]
 refine bd (zQz d a data data (wrC d (d.Areas.getD a []) data) _ h ho ha hl ?_) rfl;generalize d.Areas.getD a []=old at hold;have hn:=zJw d data.length;unfold oM wrC;generalize cN d data.length=n at hn;refine bd (a:=data.take n) (by have:=tZ (l:=data) (Nat.zero_le n) hn;simpa using this) ?_;refine bd (a:=data.take n) (by simpa using yJ (b:=1) (l:=[]) (m:=data.take n) (by simp;omega)) ?_;by_cases hc:isC d
 ·rw [decide_eq_true hc,if_pos hc];by_cases hlt:n<old.length
  ·refine bd (a:=data.take n++old.drop n) ?_ rfl;refine bd (a:=true) (ct rfl (congrArg some (by simp;omega))) ?_;refine ct rfl ?_;refine bd (a:=old.drop n) (by have:=tZ (l:=old) (Nat.le_of_lt hlt) (Nat.le_refl _);rw [this,List.take_of_length_le (by simp)]) ?_;exact bd (yJ (by simp;omega)) rfl
  ·refine bd (a:=data.take n) ?_ ?_
   ·refine bd (a:=false) (ct rfl (congrArg some (by simp;omega))) ?_;exact cf rfl rfl
   ·rw [List.drop_eq_nil_of_le (by omega),List.append_nil]
 ·rw [decide_eq_false hc,if_neg hc,List.append_nil];refine bd (a:=data.take n) ?_ rfl;refine bd (a:=false) (cf rfl rfl) ?_;exact cf rfl rfl
theorem zL1 (d:zV) (a:Nat) (data:By) (h:zI5 d) (ho:d.Off=false) (ha:a<d.Areas.length) (hl:data.length<=65536) (hold:(d.Areas.getD a []).length<2 ^ 40) :
  jT d (a:Int) data=some (cX d a (apC d (d.Areas.getD a []) data),zDl d):=by
 unfold jT;refine bd (zQc d a data data (apC d (d.Areas.getD a []) data) h ho ha hl ?_) rfl;generalize d.Areas.getD a []=old at hold;have hn:=zJw d data.length;unfold oN apC;generalize cN d data.length=n at hn;refine bd (a:=old) (by simpa using yJ (b:=1) (l:=[]) (m:=old) (by simp;omega)) ?_;refine bd (a:=data.take n) (by have:=tZ (l:=data) (Nat.zero_le n) hn;simpa using this) ?_;exact bd (yJ (by simp;omega)) rfl
theorem aX (d:zV) (a:Nat) (ho:d.Off=false) (ha:a<d.Areas.length) (hold:(d.Areas.getD a []).length<2 ^ 40):uI d (a:Int)=some (d.Areas.getD a [],0):=by
 unfold uI;refine cf ho ?_;refine bd (zDh d a ha) ?_;refine cf rfl ?_;refine bd (zRs ha) ?_;exact bd (a:=d.Areas.getD a []) (app0 hold) rfl
set_option maxRecDepth 100000
theorem zGy (w:UInt8) (c:By):Def (lU w c) (λr=>r.1.length=64/\r.2=c):=by
 unfold lU;refine Def.bd (Def.mkN (by decide) (by decide)) (λn hn=>?_);have hn:n=64:=hn;subst hn;refine Def.bd (Def.ck (by simp)) (λ_ _=>?_);refine Def.lt ?_;refine Def.bd (P:=λr=>r.length=64) ?_ (λr hr=>?_)
 ·refine Def.loop (λs=>0<=s.1/\s.1<=64/\s.2.length=64) (λs=>(64 - s.1).toNat) (λs hs=>?_) ⟨Int.le_refl 0,by simp,by rw [zF0];simp⟩ (by simp);obtain ⟨i,l⟩:=s;obtain ⟨h1,h2,h3⟩:=hs;simp only at h1 h2 h3;unfold cZ;refine Def.c (λh=>?_) (λ_=>Def.s h3);rw [decide_eq_true_iff] at h;refine Def.bd (Def.ixN h1 (by omega)) (λj hj=>?_);refine Def.bd (Def.at (by omega)) (λu _=>?_);refine Def.bd (Def.ixN h1 (by omega)) (λj hj=>?_);refine Def.bd (Def.upd (by omega)) (λv hv=>Def.s ?_);rw [yW (by omega) (by omega)];exact ⟨⟨by simp only;omega,by simp only;omega,by simp only [hv,List.length_set];exact h3⟩,by simp only;omega⟩
 ·refine Def.bd (Def.ck (by simp [hr])) (λ_ _=>?_);refine Def.bd (Def.ck (by simp)) (λ_ _=>Def.s ⟨hr,rfl⟩)
theorem zCq (b:By) (h:b.length<2 ^ 40):Def (xH 1 b) (λr=>r.length=32):=Def.of (zFr b h) (zCn b)
theorem zNl (key b:By) (hk:key.length<2 ^ 30) (hb:b.length<2 ^ 30):Def (zCj key b) (λr=>r.length=32):=by
 unfold zCj;refine Def.bd (P:=λr=>r.length<2 ^ 30) ?_ (λk hk2=>?_)
 ·refine Def.c (λ_=>Def.bd (zCq key (by omega)) (λr hr=>Def.s (by omega))) (λ_=>Def.s hk)
 refine Def.bd (zGy 54 k) (λr hr=>?_);obtain ⟨v,c⟩:=r;obtain ⟨h1,rfl⟩:=hr;simp only at h1;refine Def.bd (Def.app (by omega)) (λa ha=>?_);refine Def.bd (zCq a (by rw [ha,List.length_append];omega)) (λd hd=>?_);refine Def.bd (zGy 92 _) (λr hr=>?_);obtain ⟨v2,c2⟩:=r;obtain ⟨h2,_⟩:=hr;simp only at h2;refine Def.bd (Def.app (by omega)) (λa2 ha2=>?_);exact Def.bd (zCq a2 (by rw [ha2,List.length_append];omega)) (λd hd=>Def.s hd)
theorem jN (key label ctx:By) (hk:key.length<2 ^ 30) (hl:label.length<2 ^ 20) (hc:ctx.length<2 ^ 20):Def (kK key label ctx 32) (λr=>r.length=32):=by
 unfold kK;refine Def.bd (Def.of (a:=false) rfl (Q:=λr=>r=false) rfl) (λb hb=>?_);subst hb;refine Def.c (λh=>by cases h) (λ_=>?_);refine Def.bd (Def.ck (by simp [Nat.ble_eq];omega)) (λ_ _=>?_);refine Def.bd (Def.app (by simp;omega)) (λa ha=>?_);refine Def.bd (Def.app (by rw [ha];simp;omega)) (λa2 ha2=>?_);refine Def.bd (Def.of (Q:=λr=>r.length=4) rfl rfl) (λf hf=>?_);refine Def.bd (Def.app (by rw [ha2,ha];simp;omega)) (λa3 ha3=>?_);have h3:a3.length<2 ^ 22:=by rw [ha3,ha2,ha];simp;omega
 refine Def.bd (P:=λr=>r.length=32) ?_ (λr hr=>?_)
 ·refine Def.loop (λs=>s.1.length=0∨s.1.length=32) (λs=>32 - s.1.length) (λs hs=>?_) (.inl rfl) (by simp);obtain ⟨o,i⟩:=s;simp only at hs;unfold cR;refine Def.c (λh=>?_) (λh=>Def.s ?_)
  ·rw [decide_eq_true_iff] at h;have h0:o.length=0:=by omega
   refine Def.bd (Def.of (Q:=λr=>r.length=4) rfl rfl) (λf2 hf2=>?_);refine Def.bd (Def.app (by omega)) (λa4 ha4=>?_);refine Def.bd (zNl key a4 hk (by rw [ha4,List.length_append];omega)) (λm hm=>?_);refine Def.bd (Def.app (by omega)) (λa5 ha5=>Def.s ?_);have h5:a5.length=32:=by rw [ha5,List.length_append];omega
   exact ⟨.inr h5,by simp only;omega⟩
  ·rw [decide_eq_false_iff_not] at h;omega
 ·refine Def.bd (Def.sub (by decide) (by decide) (by omega)) (λu hu=>Def.s ?_);rw [hu];simp [hr]
structure Sst (s:zT):Prop where
 sd:∃ a b c,s.Seeds=[a,b,c]/\a.length=32/\b.length=32/\c.length=32
 au:s.Auths=[[],[],[],[]]
 en:s.Entropy.length=32
 a0:1<=s.Active
 a3:s.Active<=3
 r0:0<=s.Resets
 r1:s.Resets<2 ^ 30
 st:s.Restarts=0
 ck:s.Clock=0
 sv:s.Saved=⟨[],0⟩
 mc:s.MaxCounter=0
 ix:s.Indices=[]
 lo:s.Lockout=⟨0,5,100,0,0,1000⟩
 ks:s.Keys=[]
theorem zK8 (e:By) (active:Int) (he:e.length=32) (h1:1<=active) (h3:active<=3):Def (dP e active) (λr=>r.2=0/\Sst r.1/\r.1.Active=active/\r.1.Resets=0/\r.1.Orderly=true):=by
 unfold dP;refine Def.bd (Def.of (Q:=λr=>r=false) (a:=false) ?_ rfl) (λb hb=>?_)
 ·refine cf (by simp [he]) (cf (by simp;omega) (congrArg some (by simp;omega)))
 subst hb;refine Def.c (λh=>by cases h) (λ_=>?_);refine Def.bd (Def.of (Q:=λr=>r=⟨0,5,100,0,0,1000⟩) rfl rfl) (λlo hlo=>?_);refine Def.bd (P:=λr=>∃ a b c,r=[a,b,c]/\a.length=32/\b.length=32/\c.length=32) ?_ (λr hr=>?_)
 ·obtain ⟨a,e1,l1⟩:=jN e [115,101,101,100] [u8 0] (by omega) (by decide) (by decide);obtain ⟨b,e2,l2⟩:=jN e [115,101,101,100] [u8 1] (by omega) (by decide) (by decide);obtain ⟨c,e3,l3⟩:=jN e [115,101,101,100] [u8 2] (by omega) (by decide) (by decide);refine Def.of (a:=[a,b,c]) ?_ ⟨a,b,c,rfl,l1,l2,l3⟩;refine yM 3 (λi=>((i:Int),[a,b,c].take i)) rfl (λi hi=>?_) ?_ (wN (by decide))
  ·have hi3:i=0∨i=1∨i=2:=by omega
   unfold fH;rcases hi3 with rfl | rfl | rfl
   ·exact ct rfl (bd e1 (bd (yJ (by simp)) rfl))
   ·exact ct rfl (bd e2 (bd (yJ (by simp)) rfl))
   ·exact ct rfl (bd e3 (bd (yJ (by simp)) rfl))
  ·unfold fH;exact cf rfl rfl
 ·refine Def.bd (jN e _ _ (by omega) (by decide) (by decide)) (λen hen=>Def.s ?_);exact ⟨rfl,⟨hr,rfl,hen,h1,h3,Int.le_refl 0,by simp only;decide,rfl,rfl,rfl,rfl,rfl,hlo,rfl⟩,rfl,rfl,rfl⟩
end Go.Proofs.TT
