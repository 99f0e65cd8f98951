/- A part of the proof of what an interrupted installation leaves. -/
import Derived.Test.YtmfjfpfolbnogaaGreatDoorIZ3
import Derived.Test.YtmfjfpfolbnogaaGreatDoorIZ5
set_option linter.all false
namespace Go.Sw
open Go
variable {b:Nat}{c:Bool}{n:Int}{α β:Type}{a:α}{f:α->Option β}{l:List α}{r:Option β}
theorem zKz {X Y:Type} {step:X->Option (X ⊕ Y)} {r:Y} (n:Nat) (s:Nat->X) (h:∀ i,i<n->step (s i)=some (.inl (s (i+1)))) (he:step (s n)=some (.inr r)) :
  ∀ (d k fuel:Nat),k+d=n->d<fuel->zN step fuel (s k)=some r:=by
 intro d;induction d with
 | zero=>
  intro k fuel hk hf;obtain ⟨f,rfl⟩:∃ f,fuel=f+1:=⟨fuel - 1,by omega⟩;have:k=n:=by omega
  subst this;simp [zN,he]
 | succ d ih=>
  intro k fuel hk hf;obtain ⟨f,rfl⟩:∃ f,fuel=f+1:=⟨fuel - 1,by omega⟩;simp only [zN,h k (by omega)];exact ih (k+1) f (by omega) (by omega)
theorem yK {X Y:Type} {step:X->Option (X ⊕ Y)} {r:Y} {x:X} (n:Nat) (s:Nat->X) (h0:s 0=x) (h:∀ i,i<n->step (s i)=some (.inl (s (i+1)))) (he:step (s n)=some (.inr r)) {fuel:Nat} (hf:n<fuel) :
  zN step fuel x=some r:=by
 subst h0;exact zKz n s h he n 0 fuel (by omega) hf
theorem zGv {X Y:Type} {step:X->Option (X ⊕ Y)} (I:X->Prop) (m:X->Nat) (Q:Y->Prop)
  (h:∀ s,I s->(∃ s',step s=some (.inl s')/\I s'/\m s'<m s)∨(∃ r,step s=some (.inr r)/\Q r)) :
  ∀ (fuel:Nat) (s:X),I s->m s<fuel->∃ r,zN step fuel s=some r/\Q r:=by
 intro fuel;induction fuel with
 | zero=>intro s _ hm;omega
 | succ f ih=>
  intro s hs hm;rcases h s hs with ⟨s',h1,h2,h3⟩ | ⟨r,h1,h2⟩
  ·obtain ⟨r,h4,h5⟩:=ih s' h2 (by omega);exact ⟨r,by simp [zN,h1,h4],h5⟩
  ·exact ⟨r,by simp [zN,h1],h2⟩
theorem xW {n:Nat} (h:n<2 ^ 64):n<FU:=by
 have:(2:Nat) ^ 64<FU:=by decide
 omega
theorem yN (h1:-9223372036854775808<=n) (h2:n<=9223372036854775807):IntKind.i64.wrap n=n:=by rw [IntKind.wrap_i64];omega
theorem zZc (h1:0<=n) (h2:n<=4294967295):IntKind.u32.wrap n=n:=by rw [IntKind.wrap_u32];omega
theorem cV (h1:0<=n) (h2:n<=18446744073709551615):IntKind.u64.wrap n=n:=by rw [IntKind.wrap_u64];omega
theorem yJ {m:List α} (h:(l.length+m.length)*b<=140737488355328):yO b l m=some (l++m):=by
 simp [yO,LIM,h]
theorem yR {i:Nat} (h:i<l.length):idx l (i:Int)=some l[i]:=by
 simp [idx,h]
theorem tJ {a:Nat} (h:a<=b) (h2:b<=l.length):sub l (a:Int) (b:Int)=some ((l.drop a).take (b - a)):=by
 have:(0:Int)<=a/\(a:Int)<=b/\(b:Int)<=l.length:=⟨by omega,by omega,by omega⟩;simp [sub,this]
theorem bd {o:Option α} (h:o=some a) (k:f a=r):o.bind f=r:=by subst h;exact k
theorem ltk {e:α} (k:f e=r):lt e f=r:=k
theorem ct {b r:α} (h:c=true) (k:a=r):(bif c then a else b)=r:=by subst h;exact k
theorem cf {b r:α} (h:c=false) (k:b=r):(bif c then a else b)=r:=by subst h;exact k
theorem ckT (h:c=true):ck c=some ():=by subst h;rfl
end Go.Sw
namespace Go.Proofs.TT
open Go Go.Sw
set_option maxRecDepth 100000
variable {a b:Nat}{e:Int}{i:Nat}{l:List Int}{n t:Nat}
def rr (x n:Int):Int:=ior .u32 (wS .u32 x n) (nZ .u32 x (32 - n))
theorem zI1 (k:IntKind) (a b:Int):ior k a b=ior k b a:=by simp [ior,BitVec.or_comm]
theorem mU (x n:Int) (h0:0<=n) (h1:n<=32):xQ x n=some (rr x n):=by
 have h2:IntKind.u64.wrap (32 - n)=32 - n:=by rw [IntKind.wrap_u64];omega
 have h3:decide (0<=n)=true:=by simpa using h0
 simp only [xQ,ck,lt,h2,h3,rr,cond_true,Option.bind_some]
theorem nW (x:Int) (n m:Int) (h:sD .u64 (IntKind.u64.wrap n) 31=32 - m) (h0:0<=m) (h1:m<=32):zO x n=some (rr x m):=by
 have h2:IntKind.u64.wrap (32 - (32 - m))=m:=by rw [IntKind.wrap_u64];omega
 have h3:(0:Int)<=32 - m:=by omega
 have h4:decide ((0:Int)<=32 - m)=true:=by simpa using h3
 have h5:decide ((0:Int)<=m)=true:=by simpa using h0
 simp only [zO,ck,lt,h,h2,h4,h5,rr,cond_true,Option.bind_some];rw [zI1]
def K2:List Int:=wK
theorem zVf:K2.length=64:=rfl
theorem zH3:nQ=some K2:=rfl
def a8 (s:A8 Int):List Int:=[s.a0,s.a1,s.a2,s.a3,s.a4,s.a5,s.a6,s.a7]
def t1 (s:A8 Int) (k w:Int):Int:=
 IntKind.u32.wrap (IntKind.u32.wrap (IntKind.u32.wrap (IntKind.u32.wrap (s.a7+wM .u32 (wM .u32 (rr s.a4 6) (rr s.a4 11)) (rr s.a4 25))+wM .u32 (sD .u32 s.a4 s.a5) (sD .u32 (zF5 .u32 s.a4) s.a6))+k)+w)
def t2 (s:A8 Int):Int:=IntKind.u32.wrap (wM .u32 (wM .u32 (rr s.a0 2) (rr s.a0 13)) (rr s.a0 22)+wM .u32 (wM .u32 (sD .u32 s.a0 s.a1) (sD .u32 s.a0 s.a2)) (sD .u32 s.a1 s.a2))
def rnd (s:A8 Int) (k w:Int):A8 Int:=⟨IntKind.u32.wrap (t1 s k w+t2 s),s.a0,s.a1,s.a2,IntKind.u32.wrap (s.a3+t1 s k w),s.a4,s.a5,s.a6⟩
def lD (w:List Int) (s:A8 Int):Nat->A8 Int
 | 0=>s
 | n+1=>rnd (lD w s n) (K2.getD n 0) (w.getD n 0)
theorem uI (h:t<n):ixN n (t:Int)=some t:=by
 have:(0:Int)<=t/\(t:Int)<n:=⟨by omega,by omega⟩;simp [ixN,this]
theorem nR (h:t<l.length):l[t]? = some (l.getD t 0):=by simp [h]
theorem wX (h:t<2 ^ 40):IntKind.i64.wrap ((t:Int)+1)=((t+1:Nat):Int):=by rw [yN (by omega) (by omega)];simp
section
variable (a b c d e f g h:Int)
theorem zZk:idx [a,b,c,d,e,f,g,h] 0=some a:=rfl
theorem zOw:idx [a,b,c,d,e,f,g,h] 1=some b:=rfl
theorem zQw:idx [a,b,c,d,e,f,g,h] 2=some c:=rfl
theorem zXk:idx [a,b,c,d,e,f,g,h] 3=some d:=rfl
theorem yAx:idx [a,b,c,d,e,f,g,h] 4=some e:=rfl
theorem zSm:idx [a,b,c,d,e,f,g,h] 5=some f:=rfl
theorem zSr:idx [a,b,c,d,e,f,g,h] 6=some g:=rfl
theorem yBj:idx [a,b,c,d,e,f,g,h] 7=some h:=rfl
end
theorem dlt (h:a<b):decide ((a:Int)<(b:Int))=true:=by simp;exact h
theorem dge (h:b<=a):decide ((a:Int)<(b:Int))=false:=by simp;omega
theorem zRz (w:List Int) (s:A8 Int) (i:Nat) (hi:i<64) (hw:w.length=64):nL K2 w (a8 s,(i:Int))=some (.inl (a8 (rnd s (K2.getD i 0) (w.getD i 0)),((i+1:Nat):Int))):=by
 have e1:decide ((i:Int)<64)=true:=dlt (b:=64) hi;have e2:∀ x,xQ x 6=some (rr x 6):=λx=>mU x 6 (by decide) (by decide);have e3:∀ x,xQ x 11=some (rr x 11):=λx=>mU x 11 (by decide) (by decide);have e4:∀ x,xQ x 25=some (rr x 25):=λx=>mU x 25 (by decide) (by decide);have e5:∀ x,xQ x 2=some (rr x 2):=λx=>mU x 2 (by decide) (by decide);have e6:∀ x,xQ x 13=some (rr x 13):=λx=>mU x 13 (by decide) (by decide);have e7:∀ x,xQ x 22=some (rr x 22):=λx=>mU x 22 (by decide) (by decide);have k1:K2[i]? = some (K2.getD i 0):=nR (by rw [zVf];exact hi);have k2:w[i]? = some (w.getD i 0):=nR (by omega);unfold nL a8;refine ct e1 ?_;refine bd (zZk _ _ _ _ _ _ _ _) ?_;refine bd (yAx _ _ _ _ _ _ _ _) ?_;refine bd (yBj _ _ _ _ _ _ _ _) ?_;refine bd (e2 _) ?_;refine bd (e3 _) ?_;refine bd (e4 _) ?_;refine ltk ?_;refine bd (zSm _ _ _ _ _ _ _ _) ?_;refine bd (zSr _ _ _ _ _ _ _ _) ?_;refine ltk ?_;refine bd (uI hi) ?_;refine bd k1 ?_;refine ltk ?_;refine bd (uI hi) ?_;refine bd k2 ?_;refine bd (e5 _) ?_;refine bd (e6 _) ?_;refine bd (e7 _) ?_;refine bd (zOw _ _ _ _ _ _ _ _) ?_;refine bd (zQw _ _ _ _ _ _ _ _) ?_;refine ltk ?_;refine bd (zOw _ _ _ _ _ _ _ _) ?_;refine bd (zQw _ _ _ _ _ _ _ _) ?_;refine ltk ?_;refine ltk ?_;refine bd (zOw _ _ _ _ _ _ _ _) ?_;refine bd (zQw _ _ _ _ _ _ _ _) ?_;refine bd (zXk _ _ _ _ _ _ _ _) ?_;refine ltk ?_;refine bd (zSm _ _ _ _ _ _ _ _) ?_;refine bd (zSr _ _ _ _ _ _ _ _) ?_;rw [wX (show i<2 ^ 40 by omega)];rfl
theorem zVk (w:List Int) (hw:w.length=64) (s:A8 Int):zN (nL K2 w) FU (a8 s,0)=some (a8 (lD w s 64)):=by
 refine yK 64 (λi=>(a8 (lD w s i),(i:Int))) rfl (λi hi=>zRz w _ i hi hw) ?_ (xW (by decide));generalize lD w s 64=S;rfl
theorem zRx (w:List Int) (s:A8 Int) (i:Nat) (hi:i<64) (hw:w.length=64):tD w ((i:Int),s.a0,s.a1,s.a2,s.a3,s.a4,s.a5,s.a6,s.a7) =
  some (.inl (((i+1:Nat):Int),(rnd s (K2.getD i 0) (w.getD i 0)).a0,(rnd s (K2.getD i 0) (w.getD i 0)).a1,(rnd s (K2.getD i 0) (w.getD i 0)).a2,(rnd s (K2.getD i 0) (w.getD i 0)).a3,(rnd s (K2.getD i 0) (w.getD i 0)).a4,(rnd s (K2.getD i 0) (w.getD i 0)).a5,(rnd s (K2.getD i 0) (w.getD i 0)).a6,(rnd s (K2.getD i 0) (w.getD i 0)).a7)):=by
 have e1:decide ((i:Int)<64)=true:=dlt (b:=64) hi;have e2:∀ x,zO x (-6)=some (rr x 6):=λx=>nW x _ 6 (by decide) (by decide) (by decide);have e3:∀ x,zO x (-11)=some (rr x 11):=λx=>nW x _ 11 (by decide) (by decide) (by decide);have e4:∀ x,zO x (-25)=some (rr x 25):=λx=>nW x _ 25 (by decide) (by decide) (by decide);have e5:∀ x,zO x (-2)=some (rr x 2):=λx=>nW x _ 2 (by decide) (by decide) (by decide);have e6:∀ x,zO x (-13)=some (rr x 13):=λx=>nW x _ 13 (by decide) (by decide) (by decide);have e7:∀ x,zO x (-22)=some (rr x 22):=λx=>nW x _ 22 (by decide) (by decide) (by decide);have k1:idx wK (i:Int)=some (K2.getD i 0):=by rw [yR (show i<wK.length from hi)];simp [K2,show i<wK.length from hi]
 have k2:w[i]? = some (w.getD i 0):=nR (by omega);unfold tD;refine ct e1 ?_;refine bd (e2 _) ?_;refine bd (e3 _) ?_;refine bd (e4 _) ?_;refine ltk ?_;refine ltk ?_;refine bd k1 ?_;refine ltk ?_;refine bd (uI hi) ?_;refine bd k2 ?_;refine bd (e5 _) ?_;refine bd (e6 _) ?_;refine bd (e7 _) ?_;refine ltk ?_;refine ltk ?_;refine ltk ?_;refine ltk ?_;rw [wX (show i<2 ^ 40 by omega)];rfl
theorem zUw (w:List Int) (hw:w.length=64) (s:A8 Int):zN (tD w) FU (0,s.a0,s.a1,s.a2,s.a3,s.a4,s.a5,s.a6,s.a7)=some ((lD w s 64).a0,(lD w s 64).a1,(lD w s 64).a2,(lD w s 64).a3,(lD w s 64).a4,(lD w s 64).a5,(lD w s 64).a6,(lD w s 64).a7):=by
 refine yK 64 (λi=>((i:Int),(lD w s i).a0,(lD w s i).a1,(lD w s i).a2,(lD w s i).a3,(lD w s i).a4,(lD w s i).a5,(lD w s i).a6,(lD w s i).a7)) rfl (λi hi=>zRx w _ i hi hw) ?_ (xW (by decide));generalize lD w s 64=S;rfl
set_option maxRecDepth 100000
theorem zNj {l:By} {z:Int} (hz:z=(n:Int)) (h:n<l.length):idx l z=some (l.getD n 0):=by
 subst hz;simp [idx,h]
theorem eZ {α:Type} {l:List α} {j:Nat} {u:α} (h:j<l.length):rF l j u=some (l.set j u):=by simp [rF,h]
def byt (b:By) (n:Nat):Int:=IntKind.u32.wrap (((b.getD n 0).toNat:Nat):Int)
def wd (b:By) (t:Nat):Int:=ior .u32 (ior .u32 (ior .u32 (nZ .u32 (byt b (4*t)) 24) (nZ .u32 (byt b (4*t+1)) 16)) (nZ .u32 (byt b (4*t+2)) 8)) (byt b (4*t+3))
theorem zHb (b:By) (t:Nat) (h:4*t+3<b.length) (h2:t<2 ^ 20):jB b (t:Int)=some (wd b t):=by
 have e0:IntKind.i64.wrap (4*(t:Int))=((4*t:Nat):Int):=by rw [yN (by omega) (by omega)];simp
 unfold jB;rw [e0];refine bd (zNj rfl (by omega)) ?_;refine bd (zNj (n:=4*t+1) (by rw [yN (by omega) (by omega)];simp) (by omega)) ?_;refine ltk ?_;refine bd (zNj (n:=4*t+2) (by rw [yN (by omega) (by omega)];simp) (by omega)) ?_;refine ltk ?_;refine bd (zNj (n:=4*t+3) (by rw [yN (by omega) (by omega)];simp) (by omega)) ?_;rfl
theorem zJr:iV=jB:=rfl
def s0 (x:Int):Int:=wM .u32 (wM .u32 (rr x 7) (rr x 18)) (wS .u32 x 3)
def s1 (x:Int):Int:=wM .u32 (wM .u32 (rr x 17) (rr x 19)) (wS .u32 x 10)
def wv (b:By) (w:List Int) (t:Nat):Int:=
 if t<16 then wd b t else IntKind.u32.wrap (IntKind.u32.wrap (IntKind.u32.wrap (s1 (w.getD (t - 2) 0)+w.getD (t - 7) 0)+s0 (w.getD (t - 15) 0))+w.getD (t - 16) 0)
def bD (b:By):Nat->List Int
 | 0=>List.replicate 64 0
 | t+1=>(bD b t).set t (wv b (bD b t) t)
theorem fO (b:By):∀ t,(bD b t).length=64
 | 0=>rfl
 | t+1=>by simp [bD,fO b t]
theorem zW5 (b:By) (w:List Int) (i:Nat) (hi:i<64) (hw:w.length=64) (hb:b.length=64):tC b ((i:Int),w)=some (.inl (((i+1:Nat):Int),w.set i (wv b w i))):=by
 have hiw:i<w.length:=by omega
 unfold tC;refine ct (dlt (b:=64) hi) ?_;refine bd (a:=w.set i (wv b w i)) ?_ (by rw [wX (show i<2 ^ 40 by omega)]);by_cases h:i<16
 ·refine ct (dlt (b:=16) h) ?_;rw [zJr];refine bd (zHb b i (by omega) (by omega)) ?_;refine bd (uI hi) ?_;refine bd (eZ hiw) ?_;simp [wv,h]
 refine cf (dge (b:=16) (by omega)) ?_;have x15:ixN 64 (IntKind.i64.wrap ((i:Int) - 15))=some (i - 15):=by rw [yN (by omega) (by omega),show (i:Int) - 15=((i - 15:Nat):Int) by omega];exact uI (by omega)
 have x2:ixN 64 (IntKind.i64.wrap ((i:Int) - 2))=some (i - 2):=by rw [yN (by omega) (by omega),show (i:Int) - 2=((i - 2:Nat):Int) by omega];exact uI (by omega)
 have x7:ixN 64 (IntKind.i64.wrap ((i:Int) - 7))=some (i - 7):=by rw [yN (by omega) (by omega),show (i:Int) - 7=((i - 7:Nat):Int) by omega];exact uI (by omega)
 have x16:ixN 64 (IntKind.i64.wrap ((i:Int) - 16))=some (i - 16):=by rw [yN (by omega) (by omega),show (i:Int) - 16=((i - 16:Nat):Int) by omega];exact uI (by omega)
 have w15:w[i - 15]? = some (w.getD (i - 15) 0):=nR (by omega);have w2:w[i - 2]? = some (w.getD (i - 2) 0):=nR (by omega);have w7:w[i - 7]? = some (w.getD (i - 7) 0):=nR (by omega);have w16:w[i - 16]? = some (w.getD (i - 16) 0):=nR (by omega);have e7:∀ x,zO x (-7)=some (rr x 7):=λx=>nW x _ 7 (by decide) (by decide) (by decide);have e18:∀ x,zO x (-18)=some (rr x 18):=λx=>nW x _ 18 (by decide) (by decide) (by decide);have e17:∀ x,zO x (-17)=some (rr x 17):=λx=>nW x _ 17 (by decide) (by decide) (by decide);have e19:∀ x,zO x (-19)=some (rr x 19):=λx=>nW x _ 19 (by decide) (by decide) (by decide);refine bd (x15) ?_;refine bd (w15) ?_;refine bd (x2) ?_;refine bd (w2) ?_;refine bd (e7 _) ?_;refine bd (e18 _) ?_;refine bd (e17 _) ?_;refine bd (e19 _) ?_;refine bd (x7) ?_;refine bd (w7) ?_;refine ltk ?_;refine ltk ?_;refine bd (x16) ?_;refine bd (w16) ?_;refine bd (uI hi) ?_;refine bd (eZ hiw) ?_;simp only [wv,h,if_false];rfl
theorem zS8 (b:By) (hb:b.length=64):zN (tC b) FU (0,List.replicate 64 0)=some (bD b 64):=by
 refine yK 64 (λi=>((i:Int),bD b i)) rfl (λi hi=>zW5 b _ i hi (fO b i) hb) ?_ (xW (by decide));generalize bD b 64=S;rfl
def sQ (x:By) (n:Nat):By:=(x.drop n).take 64
theorem zW2 (x:By) (at':Nat) (w:List Int) (i:Nat) (hi:i<64) (hw:w.length=64) (hx:at'+64<=x.length) (hl:x.length<2 ^ 48):oR x (at':Int) ((i:Int),w)=some (.inl (((i+1:Nat):Int),w.set i (wv (sQ x at') w i))):=by
 have hiw:i<w.length:=by omega
 have hbl:(sQ x at').length=64:=by simp [sQ];omega
 unfold oR;refine ct (dlt (b:=64) hi) ?_;refine bd (a:=w.set i (wv (sQ x at') w i)) ?_ (by rw [wX (show i<2 ^ 40 by omega)]);by_cases h:i<16
 ·refine ct (dlt (b:=16) h) ?_;have hs:sub x (at':Int) (IntKind.i64.wrap ((at':Int)+64))=some (sQ x at'):=by
   rw [yN (by omega) (by omega),show (at':Int)+64=((at'+64:Nat):Int) by simp,tJ (by omega) hx];simp [sQ]
  refine bd hs ?_;refine bd (zHb _ i (by omega) (by omega)) ?_;refine bd (uI hi) ?_;refine bd (eZ hiw) ?_;simp [wv,h]
 refine cf (dge (b:=16) (by omega)) ?_;have x15:ixN 64 (IntKind.i64.wrap ((i:Int) - 15))=some (i - 15):=by rw [yN (by omega) (by omega),show (i:Int) - 15=((i - 15:Nat):Int) by omega];exact uI (by omega)
 have x2:ixN 64 (IntKind.i64.wrap ((i:Int) - 2))=some (i - 2):=by rw [yN (by omega) (by omega),show (i:Int) - 2=((i - 2:Nat):Int) by omega];exact uI (by omega)
 have x7:ixN 64 (IntKind.i64.wrap ((i:Int) - 7))=some (i - 7):=by rw [yN (by omega) (by omega),show (i:Int) - 7=((i - 7:Nat):Int) by omega];exact uI (by omega)
 have x16:ixN 64 (IntKind.i64.wrap ((i:Int) - 16))=some (i - 16):=by rw [yN (by omega) (by omega),show (i:Int) - 16=((i - 16:Nat):Int) by omega];exact uI (by omega)
 have w15:w[i - 15]? = some (w.getD (i - 15) 0):=nR (by omega);have w2:w[i - 2]? = some (w.getD (i - 2) 0):=nR (by omega);have w7:w[i - 7]? = some (w.getD (i - 7) 0):=nR (by omega);have w16:w[i - 16]? = some (w.getD (i - 16) 0):=nR (by omega);have e7:∀ x,xQ x 7=some (rr x 7):=λx=>mU x 7 (by decide) (by decide);have e18:∀ x,xQ x 18=some (rr x 18):=λx=>mU x 18 (by decide) (by decide);have e17:∀ x,xQ x 17=some (rr x 17):=λx=>mU x 17 (by decide) (by decide);have e19:∀ x,xQ x 19=some (rr x 19):=λx=>mU x 19 (by decide) (by decide);refine bd (x15) ?_;refine bd (w15) ?_;refine bd (e7 _) ?_;refine bd (x15) ?_;refine bd (w15) ?_;refine bd (e18 _) ?_;refine bd (x15) ?_;refine bd (w15) ?_;refine bd (x2) ?_;refine bd (w2) ?_;refine bd (e17 _) ?_;refine bd (x2) ?_;refine bd (w2) ?_;refine bd (e19 _) ?_;refine bd (x2) ?_;refine bd (w2) ?_;refine bd (x7) ?_;refine bd (w7) ?_;refine ltk ?_;refine ltk ?_;refine bd (x16) ?_;refine bd (w16) ?_;refine bd (uI hi) ?_;refine bd (eZ hiw) ?_;simp only [wv,h,if_false];rfl
theorem zVr (x:By) (at':Nat) (hx:at'+64<=x.length) (hl:x.length<2 ^ 48):zN (oR x (at':Int)) FU (0,List.replicate 64 0)=some (bD (sQ x at') 64):=by
 refine yK 64 (λi=>((i:Int),bD (sQ x at') i)) rfl (λi hi=>zW2 x at' _ i hi (fO _ i) hx hl) ?_ (xW (by decide));generalize bD (sQ x at') 64=S;rfl
set_option maxRecDepth 100000
def zOg (h s:A8 Int):A8 Int:=⟨IntKind.u32.wrap (h.a0+s.a0),IntKind.u32.wrap (h.a1+s.a1),IntKind.u32.wrap (h.a2+s.a2),IntKind.u32.wrap (h.a3+s.a3),IntKind.u32.wrap (h.a4+s.a4),IntKind.u32.wrap (h.a5+s.a5),IntKind.u32.wrap (h.a6+s.a6),IntKind.u32.wrap (h.a7+s.a7)⟩
def zEt (h s:List Int):Nat->List Int
 | 0=>h
 | i+1=>(zEt h s i).set i (IntKind.u32.wrap ((zEt h s i).getD i 0+s.getD i 0))
theorem zEf (h s:List Int):∀ i,(zEt h s i).length=h.length
 | 0=>rfl
 | i+1=>by simp [zEt,zEf h s i]
theorem zQr (h s:A8 Int):zEt (a8 h) (a8 s) 8=a8 (zOg h s):=rfl
def zIp (h:A8 Int) (b:By):A8 Int:=zOg h (lD (bD b 64) h 64)
theorem zTa (h s:A8 Int):zN (jU (a8 s)) FU (0,a8 h)=some (a8 (zOg h s)):=by
 rw [<- zQr];refine yK 8 (λi=>((i:Int),zEt (a8 h) (a8 s) i)) rfl (λi hi=>?_) ?_ (xW (by decide))
 ·have hl:(zEt (a8 h) (a8 s) i).length=8:=zEf _ _ _;unfold jU;refine ct (dlt (b:=8) hi) ?_;refine bd (uI hi) ?_;refine bd (nR (by omega)) ?_;refine bd (a:=(a8 s).getD i 0) (by rw [yR (show i<(a8 s).length from hi)];simp [show i<(a8 s).length from hi]) ?_;refine bd (uI hi) ?_;refine bd (eZ (by omega)) ?_;rw [wX (show i<2 ^ 40 by omega)];rfl
 ·generalize zEt (a8 h) (a8 s) 8=S;rfl
theorem zU0 (h s:A8 Int):zN (vN s.a0 s.a1 s.a2 s.a3 s.a4 s.a5 s.a6 s.a7) FU (0,[h.a0,h.a1,h.a2,h.a3,h.a4,h.a5,h.a6,h.a7])=some (zOg h s):=by
 refine yK 8 (λi=>((i:Int),zEt (a8 h) (a8 s) i)) rfl (λi hi=>?_) ?_ (xW (by decide))
 ·have hl:(zEt (a8 h) (a8 s) i).length=8:=zEf _ _ _;unfold vN;refine ct (dlt (b:=8) hi) ?_;refine bd (uI hi) ?_;refine bd (nR (by omega)) ?_;refine bd (uI hi) ?_;refine bd (a:=(a8 s).getD i 0) (nR (l:=a8 s) hi) ?_;refine bd (uI hi) ?_;refine bd (eZ (by omega)) ?_;rw [wX (show i<2 ^ 40 by omega)];rfl
 ·show vN s.a0 s.a1 s.a2 s.a3 s.a4 s.a5 s.a6 s.a7 (((8:Nat):Int),zEt (a8 h) (a8 s) 8)=_;rw [zQr];unfold vN;refine cf rfl ?_;refine bd (a:=zOg h s) rfl rfl
theorem zIo (h:A8 Int) (b:By) (hb:b.length=64):sT h b=some (zIp h b):=by
 unfold sT;refine bd (zS8 b hb) ?_;refine bd (zUw _ (fO b 64) h) ?_;refine bd (zU0 h _) ?_;rfl
def zPw:A8 Int:=⟨1779033703,3144134277,1013904242,2773480762,1359893119,2600822924,528734635,1541459225⟩
def hsh (x:By):Nat->A8 Int
 | 0=>zPw
 | i+1=>zIp (hsh x i) (sQ x (64*i))
def st8 (p:By) (h:A8 Int):By×Int×Int×Int×Int×Int×Int×Int×Int:=(p,h.a0,h.a1,h.a2,h.a3,h.a4,h.a5,h.a6,h.a7)
theorem zK8 (x:By) (n:Nat) (hx:x.length=64*n) (hl:x.length<2 ^ 48):zN lC FU (st8 x zPw)=some ((hsh x n).a0,(hsh x n).a1,(hsh x n).a2,(hsh x n).a3,(hsh x n).a4,(hsh x n).a5,(hsh x n).a6,(hsh x n).a7):=by
 refine yK n (λi=>st8 (x.drop (64*i)) (hsh x i)) (by simp [hsh]) (λi hi=>?_) ?_ (xW (by omega))
 ·have hd:(x.drop (64*i)).length=x.length - 64*i:=by simp
  unfold lC st8;refine ct (by simp;omega) ?_;refine bd (a:=sQ x (64*i)) (by rw [show (0:Int)=((0:Nat):Int) from rfl,show (64:Int)=((64:Nat):Int) from rfl,tJ (by omega) (by omega)];simp [sQ]) ?_;refine bd (zIo _ _ (by simp [sQ];omega)) ?_;refine bd (a:=x.drop (64*(i+1))) (by rw [show (64:Int)=((64:Nat):Int) from rfl,tJ (by omega) (by omega)];rw [List.drop_drop,List.take_of_length_le (by simp;omega)];congr 2) ?_;rfl
 ·have hd:x.drop (64*n)=[]:=List.drop_eq_nil_of_le (by omega);show lC (st8 (x.drop (64*n)) (hsh x n))=_;rw [hd];generalize hsh x n=S;rfl
theorem zKr (x:By) (n:Nat) (hx:x.length=64*n) (hl:x.length<2 ^ 47):zN (qJ K2 x) FU (0,a8 zPw)=some (a8 (hsh x n)):=by
 refine yK n (λi=>(((64*i:Nat):Int),a8 (hsh x i))) rfl (λi hi=>?_) ?_ (xW (by omega))
 ·unfold qJ;refine ct (dlt (by omega)) ?_;refine bd (zVr x (64*i) (by omega) (by omega)) ?_;refine bd (ckT rfl) ?_;refine bd (a:=a8 (hsh x i)) (by rw [yJ (by simp [a8])];rfl) ?_;refine bd (zVk _ (fO _ 64) _) ?_;refine bd (zTa _ _) ?_;rw [yN (by omega) (by omega),show ((64*i:Nat):Int)+64=((64*(i+1):Nat):Int) by omega];rfl
 ·show qJ K2 x (((64*n:Nat):Int),a8 (hsh x n))=_;unfold qJ;exact cf (dge (by omega)) rfl
def zs (n:Nat):Nat:=(119 - n % 64) % 64
def be8 (n:Int) (k:Nat):By:=(List.range k).map λ(j:Nat)=>u8 (wS .u64 n (56 - 8*(j:Int)))
theorem zHl (n:Int) (k:Nat):(be8 n k).length=k:=by simp [be8]
theorem zI0 (n:Int) (k:Nat):be8 n (k+1)=be8 n k++[u8 (wS .u64 n (56 - 8*(k:Int)))]:=by simp [be8,List.range_succ]
def yA8 (b:By):Int:=IntKind.u64.wrap (IntKind.u64.wrap (b.length:Int)*8)
def zAn (b:By):By:=(b++[128]++List.replicate (zs b.length) 0)++be8 (yA8 b) 8
theorem zB4 (b:By):(zAn b).length=b.length+9+zs b.length:=by simp [zAn,zHl];omega
theorem zEx (b:By):(zAn b).length % 64=0:=by rw [zB4];unfold zs;omega
theorem zGw (b:By) (hb:b.length<2 ^ 40):zN lJ FU (b++[128])=some (b++[128]++List.replicate (zs b.length) 0):=by
 have hz:zs b.length<64:=by unfold zs;omega
 refine yK (zs b.length) (λi=>b++[128]++List.replicate i 0) (by simp) (λi hi=>?_) ?_ (xW (by omega))
 ·have hl:(b++[128]++List.replicate i 0).length=b.length+1+i:=by simp;omega
  unfold lJ;refine ct ?_ ?_
  ·rw [hl];simp only [bne_iff_ne,ne_eq];rw [Int.tmod_eq_emod_of_nonneg (by omega)];unfold zs at hi;omega
  ·refine bd (yJ (by rw [hl];simp;omega)) ?_;rw [List.append_assoc,<- List.replicate_succ']
 ·have hl:(b++[128]++List.replicate (zs b.length) 0).length=b.length+1+zs b.length:=by simp;omega
  unfold lJ;refine cf ?_ rfl;rw [hl];simp only [bne_eq_false_iff_eq];rw [Int.tmod_eq_emod_of_nonneg (by omega)];unfold zs;omega
theorem zQ4:zAg=lJ:=rfl
theorem zPq (x:By) (n:Int) (hx:x.length<2 ^ 41):zN (cH n) FU (x,7)=some (x++be8 n 8):=by
 refine yK 8 (λi=>(x++be8 n i,7 - (i:Int))) (by simp [be8]) (λi hi=>?_) ?_ (xW (by decide))
 ·unfold cH;refine ct (by simp;omega) ?_;refine ltk ?_;have e:IntKind.u64.wrap (8*IntKind.u64.wrap (7 - (i:Int)))=56 - 8*(i:Int):=by
   rw [cV (n:=7 - (i:Int)) (by omega) (by omega),cV (by omega) (by omega)];omega
  rw [e];refine bd (yJ (by simp [zHl];omega)) ?_;rw [yN (by omega) (by omega),List.append_assoc,<- zI0,show (7:Int) - (i:Int) - 1=7 - ((i+1:Nat):Int) by omega]
 ·generalize be8 n 8=S;rfl
theorem zP7 (x:By) (n:Int) (hx:x.length<2 ^ 41):zN (fA n) FU (x,56)=some (x++be8 n 8):=by
 refine yK 8 (λi=>(x++be8 n i,56 - 8*(i:Int))) (by simp [be8]) (λi hi=>?_) ?_ (xW (by decide))
 ·unfold fA;refine ct (by simp;omega) ?_;rw [cV (n:=56 - 8*(i:Int)) (by omega) (by omega)];refine bd (yJ (by simp [zHl];omega)) ?_;rw [yN (by omega) (by omega),List.append_assoc,<- zI0,show (56:Int) - 8*(i:Int) - 8=56 - 8*((i+1:Nat):Int) by omega]
 ·generalize be8 n 8=S;rfl
theorem zK2 (b:By) (hb:b.length<2 ^ 40):zA4 b=some (zAn b):=by
 have hz:zs b.length<64:=by unfold zs;omega
 unfold zA4;refine bd (a:=b) (by rw [yJ (by simp;omega)];simp) ?_;refine bd (yJ (by simp;omega)) ?_;refine bd (zGw b hb) ?_;refine ltk ?_;refine bd (zPq _ _ (by simp;omega)) ?_;rfl
theorem zEi (b:By) (hb:b.length<2 ^ 40):iJ b=some (zAn b):=by
 have hz:zs b.length<64:=by unfold zs;omega
 unfold iJ;refine bd (a:=b.length+72) (by unfold mkN;rw [yN (by omega) (by omega),if_pos (by omega)];congr 1) ?_;refine bd (a:=b) (by rw [yJ (by simp;omega)];simp) ?_;refine bd (yJ (by simp;omega)) ?_;rw [zQ4];refine bd (zGw b hb) ?_;refine ltk ?_;refine bd (zP7 _ _ (by simp;omega)) ?_;rfl
def be4 (w:Int):By:=[u8 (wS .u32 w 24),u8 (wS .u32 w 16),u8 (wS .u32 w 8),u8 w]
theorem zIb (l:List Int):(l.flatMap be4).length=4*l.length:=by
 induction l with
 | nil=>rfl
 | cons a r ih=>simp [ih,be4];omega
theorem zLj (l:List Int) (i:Nat) (hi:i<l.length):(l.take (i+1)).flatMap be4=(l.take i).flatMap be4++be4 (l.getD i 0):=by
 rw [List.take_add_one,List.flatMap_append];congr 1;simp [hi]
theorem zQi (h:i<l.length):idx l (i:Int)=some (l.getD i 0):=by rw [yR h];simp [h]
theorem zQx (l:List Int) (hl:l.length<2 ^ 20):eT l=some (l.flatMap be4):=by
 have:zN (mP l) FU ([],0)=some (l.flatMap be4):=by
  refine yK l.length (λi=>((l.take i).flatMap be4,(i:Int))) (by simp) (λi hi=>?_) ?_ (xW (by omega))
  ·unfold mP;refine ct (dlt hi) ?_;refine bd (zQi hi) ?_;refine bd (zQi hi) ?_;refine bd (zQi hi) ?_;refine bd (zQi hi) ?_;refine bd (yJ (by rw [zIb];simp;omega)) ?_;rw [zLj l i hi,wX (show i<2 ^ 40 by omega)];rfl
  ·unfold mP;refine cf (dge (Nat.le_refl _)) ?_;simp
 unfold eT;exact bd this rfl
theorem zG3 (l:List Int) (hl:l.length<2 ^ 20):pS l=some (l.flatMap be4):=by
 have:zN (pA l) FU ([],0)=some (l.flatMap be4):=by
  refine yK l.length (λi=>((l.take i).flatMap be4,(i:Int))) (by simp) (λi hi=>?_) ?_ (xW (by omega))
  ·unfold pA;refine ct (dlt hi) ?_;refine bd (zQi hi) ?_;refine bd (yJ (by rw [zIb];simp;omega)) ?_;rw [zLj l i hi,wX (show i<2 ^ 40 by omega)];rfl
  ·unfold pA;refine cf (dge (Nat.le_refl _)) ?_;simp
 unfold pS;refine bd (a:=4*l.length) (by unfold mkN;rw [yN (by omega) (by omega),if_pos (by omega)];congr 1) ?_;exact bd this rfl
def sha (b:By):By:=(a8 (hsh (zAn b) ((zAn b).length / 64))).flatMap be4
theorem gG (b:By):(sha b).length=32:=by unfold sha;rw [zIb];rfl
theorem zMs (b:By) (hb:b.length<2 ^ 40):lL b=some (sha b):=by
 have hz:zs b.length<64:=by unfold zs;omega
 have h1:=zB4 b;have h2:=zEx b;unfold lL;refine bd zH3 ?_;refine bd (ckT rfl) ?_;refine bd (zK2 b hb) ?_;refine bd (zKr (zAn b) ((zAn b).length / 64) (by omega) (by omega)) ?_;refine bd (ckT rfl) ?_;refine bd (zQx _ (by simp [a8])) ?_;rfl
theorem zHn (b:By) (hb:b.length<2 ^ 40):xK 1 b=some (sha b):=by
 have hz:zs b.length<64:=by unfold zs;omega
 have h1:=zB4 b;have h2:=zEx b;unfold xK;refine cf rfl ?_;refine ct rfl ?_;refine bd (zEi b hb) ?_;refine bd (zK8 (zAn b) ((zAn b).length / 64) (by omega) (by omega)) ?_;refine bd (zG3 _ (by simp)) ?_;rfl
set_option maxRecDepth 100000
def hd4 (n:Nat):By:=[u8 (wS .i64 (n:Int) 24),u8 (wS .i64 (n:Int) 16),u8 (wS .i64 (n:Int) 8),u8 (n:Int)]
theorem yA1 (n:Nat) (h:n<2 ^ 32):[u8 (wS .u32 (IntKind.u32.wrap (n:Int)) 24),u8 (wS .u32 (IntKind.u32.wrap (n:Int)) 16),u8 (wS .u32 (IntKind.u32.wrap (n:Int)) 8),u8 (IntKind.u32.wrap (n:Int))]=hd4 n:=by
 rw [zZc (by omega) (by omega)];rfl
def zKy (fs:List By):By:=fs.flatMap λf=>hd4 f.length++f
def frm (tag:Int) (fs:List By):By:=u8 tag :: zKy fs
def tot (fs:List By):Nat:=(fs.map λf=>4+f.length).sum
theorem zQs (fs:List By):(zKy fs).length=tot fs:=by
 induction fs with
 | nil=>rfl
 | cons f r ih=>simp only [zKy,tot,List.flatMap_cons,List.length_append,List.map_cons,List.sum_cons] at ih ⊢;rw [ih];simp [hd4]
theorem zBg (tag:Int) (fs:List By):(frm tag fs).length=1+tot fs:=by simp [frm,zQs];omega
theorem zIk (tag:Int) (fs:List By) (i:Nat) (hi:i<fs.length):frm tag (fs.take (i+1))=(frm tag (fs.take i)++hd4 (fs[i]).length)++fs[i]:=by
 unfold frm zKy;rw [List.take_add_one,List.flatMap_append];simp [hi]
theorem zQo (fs:List By):∀ i,tot (fs.take i)<=tot fs:=by
 induction fs with
 | nil=>intro i;simp
 | cons f r ih=>
  intro i;cases i with
  | zero=>simp [tot]
  | succ j=>have:=ih j;simp only [tot,List.take_succ_cons,List.map_cons,List.sum_cons] at this ⊢;omega
theorem zL7 (fs:List By):fs.length<=tot fs:=by
 induction fs with
 | nil=>simp
 | cons f r ih=>simp only [tot,List.length_cons,List.map_cons,List.sum_cons] at ih ⊢;omega
theorem zMq (fs:List By) (i:Nat) (hi:i<fs.length):tot (fs.take i)+4+(fs[i]).length<=tot fs:=by
 have h:=zQo fs (i+1);have e:tot (fs.take (i+1))=tot (fs.take i)+(4+(fs[i]).length):=by
  unfold tot;rw [List.take_add_one,List.map_append,List.sum_append];simp only [hi,List.getElem?_eq_getElem,Option.toList_some,List.map_cons,List.map_nil,List.sum_cons,List.sum_nil];omega
 omega
theorem zGj (tag:Int) (fs:List By) (h:tot fs<2 ^ 32):iF tag fs=some (frm tag fs):=by
 have h1:=zL7 fs;have:zN (mW fs) FU ([u8 tag],0)=some (frm tag fs):=by
  refine yK fs.length (λi=>(frm tag (fs.take i),(i:Int))) (by simp [frm,zKy]) (λi hi=>?_) ?_ (xW (by omega))
  ·have h2:=zMq fs i hi;have h3:=zBg tag (fs.take i);unfold mW;refine ct (dlt hi) ?_;refine bd (yR hi) ?_;refine bd (yJ (by simp;omega)) ?_;refine bd (yR hi) ?_;refine bd (yJ (by simp;omega)) ?_;rw [zIk tag fs i hi,wX (show i<2 ^ 40 by omega)];rfl
  ·unfold mW;refine cf (dge (Nat.le_refl _)) ?_;simp
 unfold iF;exact bd this rfl
theorem zNd (tag:Int) (fs:List By) (h:tot fs<2 ^ 32):kQ tag fs=some (frm tag fs):=by
 have h1:=zL7 fs;have:zN (pZ fs) FU ([u8 tag],0)=some (frm tag fs):=by
  refine yK fs.length (λi=>(frm tag (fs.take i),(i:Int))) (by simp [frm,zKy]) (λi hi=>?_) ?_ (xW (by omega))
  ·have h2:=zMq fs i hi;have h3:=zBg tag (fs.take i);unfold pZ;refine ct (dlt hi) ?_;refine bd (yR hi) ?_;rw [yA1 _ (by omega)];refine bd (yJ (by simp [hd4];omega)) ?_;refine bd (yJ (by simp [hd4];omega)) ?_;rw [zIk tag fs i hi,wX (show i<2 ^ 40 by omega)]
  ·unfold pZ;refine cf (dge (Nat.le_refl _)) ?_;simp
 unfold kQ;exact bd this rfl
def hs (tag:Int) (fs:List By):By:=sha (frm tag fs)
theorem lU (tag:Int) (fs:List By):(hs tag fs).length=32:=gG _
theorem zE6 (tag:Int) (fs:List By) (h:tot fs<2 ^ 32):oO tag fs=some (hs tag fs):=by
 unfold oO;refine bd (zNd tag fs h) ?_;exact bd (zHn _ (by rw [zBg];omega)) rfl
def beN (n:Int) (size k:Nat):By:=(List.range k).map λ(j:Nat)=>u8 (wS .u64 (IntKind.u64.wrap n) (8*((size:Int) - 1 - (j:Int))))
theorem yY (n:Int) (size k:Nat):(beN n size k).length=k:=by simp [beN]
theorem zIc (n:Int) (size k:Nat):beN n size (k+1)=beN n size k++[u8 (wS .u64 (IntKind.u64.wrap n) (8*((size:Int) - 1 - (k:Int))))]:=by simp [beN,List.range_succ]
def sK (b:By) (size:Nat) (n:Int):By:=b++beN n size size
theorem vQ (b:By) (size:Nat) (n:Int):(sK b size n).length=b.length+size:=by simp [sK,yY]
theorem zBf (b:By) (size:Nat) (n:Int) (h1:1<=size) (h8:size<=8) (hb:b.length<2 ^ 40):oP b (size:Int) n=some (sK b size n):=by
 have:zN (kN n) FU (b,(size:Int) - 1)=some (sK b size n):=by
  refine yK size (λi=>(b++beN n size i,(size:Int) - 1 - (i:Int))) (by simp [beN]) (λi hi=>?_) ?_ (xW (by omega))
  ·unfold kN;refine ct (by simp;omega) ?_;refine ltk ?_;rw [cV (n:=(size:Int) - 1 - (i:Int)) (by omega) (by omega),cV (n:=8*((size:Int) - 1 - (i:Int))) (by omega) (by omega)];refine bd (yJ (by simp [yY];omega)) ?_;rw [yN (by omega) (by omega),List.append_assoc,<- zIc,show (size:Int) - 1 - (i:Int) - 1=(size:Int) - 1 - ((i+1:Nat):Int) by omega]
  ·unfold kN;refine cf (by simp;omega) rfl
 unfold oP;refine bd (a:=b) (by rw [yJ (by simp;omega)];simp) ?_;refine bd (a:=false) (cf (by simp;omega) (congrArg some (by simp;omega))) ?_;rw [yN (by omega) (by omega)];exact bd this rfl
theorem qW (b:By) (size:Nat) (n:Int) (h1:1<=size) (h8:size<=8) (hb:b.length<2 ^ 40):xO b (size:Int) n=some (sK b size n):=by
 have:zN (kS n) FU (b,(size:Int) - 1)=some (sK b size n):=by
  refine yK size (λi=>(b++beN n size i,(size:Int) - 1 - (i:Int))) (by simp [beN]) (λi hi=>?_) ?_ (xW (by omega))
  ·unfold kS;refine ct (by simp;omega) ?_;refine ltk ?_;rw [yN (n:=8*((size:Int) - 1 - (i:Int))) (by omega) (by omega),cV (n:=8*((size:Int) - 1 - (i:Int))) (by omega) (by omega)];refine bd (yJ (by simp [yY];omega)) ?_;rw [yN (by omega) (by omega),List.append_assoc,<- zIc,show (size:Int) - 1 - (i:Int) - 1=(size:Int) - 1 - ((i+1:Nat):Int) by omega]
  ·unfold kS;refine cf (by simp;omega) rfl
 unfold xO;refine bd (a:=b) (by rw [yJ (by simp;omega)];simp) ?_;refine bd (a:=false) (cf (by simp;omega) (congrArg some (by simp;omega))) ?_;rw [yN (by omega) (by omega)];exact bd this rfl
def aT (b x:By):By:=sK b 2 ((x.take 65535).length:Int)++x.take 65535
theorem bM (b x:By):(aT b x).length<=b.length+65537:=by simp [aT,vQ];omega
theorem zFw (b x:By) (hb:b.length<2 ^ 39):jA b x=some (aT b x):=by
 unfold jA;refine bd (a:=x.take 65535) ?_ ?_
 ·by_cases h:65535<x.length
  ·refine ct (by simp;omega) ?_;exact bd (a:=x.take 65535) (by rw [show (0:Int)=((0:Nat):Int) from rfl,show (65535:Int)=((65535:Nat):Int) from rfl,tJ (by omega) (by omega)];simp) rfl
  ·refine cf (by simp;omega) ?_;rw [List.take_of_length_le (by omega)]
 ·refine bd (zBf b 2 _ (by omega) (by omega) (by omega)) ?_;refine bd (yJ (by rw [vQ];simp;omega)) ?_;rfl
theorem dC (b x:By) (hb:b.length<2 ^ 39):wE b x=some (aT b x):=by
 unfold wE;refine bd (a:=x.take 65535) ?_ ?_
 ·by_cases h:65535<x.length
  ·rw [if_pos (by omega),show (0:Int)=((0:Nat):Int) from rfl,show (65535:Int)=((65535:Nat):Int) from rfl,tJ (by omega) (by omega)];simp
  ·rw [if_neg (by omega),show (0:Int)=((0:Nat):Int) from rfl,tJ (by omega) (by omega)];simp;rw [List.take_of_length_le (by omega)]
 ·refine bd (qW b 2 _ (by omega) (by omega) (by omega)) ?_;refine bd (yJ (by rw [vQ];simp;omega)) ?_;rfl
theorem zBn (a b:By) (ha:a.length<2 ^ 40):kZ a b=some (a==b):=by
 unfold kZ;by_cases h:a.length=b.length
 ·refine cf (by simp;omega) ?_;have:∃ r,zN (nO a b) FU 0=some r/\(match r with | .inl r=>r=false/\a≠b | .inr _=>a=b):=by
   refine zGv (λs=>∃ k:Nat,s=(k:Int)/\k<=a.length/\a.take k=b.take k) (λs=>a.length - s.toNat) _ (λs hs=>?_) FU 0 ⟨0,rfl,by omega,by simp⟩ (xW (by omega));obtain ⟨k,rfl,hk,he⟩:=hs;by_cases hk2:k<a.length
   ·by_cases hv:a[k]=b[k]
    ·refine .inl ⟨((k+1:Nat):Int),?_,⟨k+1,rfl,by omega,?_⟩,by simp;omega⟩
     ·unfold nO;refine ct (dlt hk2) ?_;refine bd (yR hk2) ?_;refine bd (yR (h▸hk2)) ?_;refine cf (by rw [hv];simp) ?_;rw [wX (by omega)]
     ·rw [List.take_add_one,List.take_add_one,he];simp [hk2,hv,h▸hk2]
    ·refine .inr ⟨.inl false,?_,rfl,λe=>hv (by subst e;rfl)⟩;unfold nO;refine ct (dlt hk2) ?_;refine bd (yR hk2) ?_;refine bd (yR (h▸hk2)) ?_;refine ct ?_ rfl;simp only [bne_iff_ne,ne_eq];intro e;exact hv (UInt8.toNat_inj.mp (by omega))
   ·refine .inr ⟨.inr (),?_,?_⟩
    ·unfold nO;exact cf (dge (by omega)) rfl
    ·have e1:a.take k=a:=List.take_of_length_le (by omega);have e2:b.take k=b:=List.take_of_length_le (by omega);rw [e1,e2] at he;exact he
  obtain ⟨r,h1,h2⟩:=this;refine bd h1 ?_;cases r with
  | inl r=>obtain ⟨rfl,h3⟩:=h2;simp [h3]
  | inr u=>simp [h2]
 ·refine ct (by simp;omega) ?_;have:a≠b:=λe=>h (by rw [e]);simp [this]
theorem zI9 (a b:By):iY a b=some (a==b):=rfl
set_option maxRecDepth 100000
structure RS where
 b:By
 at':Nat
 e:Int
def RS.W (r:RS):zE:=⟨r.b,(r.at':Int),r.e⟩
def RS.Ok (r:RS):Prop:=r.at'<=r.b.length/\r.b.length<2 ^ 40
def RS.err (r:RS) (e:Int):RS:=⟨r.b,r.at',e⟩
def RS.to (r:RS) (n:Nat):RS:=⟨r.b,r.at'+n,r.e⟩
def RS.left (r:RS):Nat:=r.b.length - r.at'
def RS.get (r:RS) (n:Nat):By:=(r.b.drop r.at').take n
theorem RS.get_len (r:RS) (n:Nat) (h:n<=r.left):(r.get n).length=n:=by simp [RS.get,RS.left] at *;omega
def dI (r:RS) (n:Nat):By×RS:=if r.e≠0 then ([],r) else if r.left<n then ([],r.err 2) else (r.get n,r.to n)
def beV (l:By):Nat->Int
 | 0=>0
 | k+1=>ior .u64 (nZ .u64 (beV l k) 8) (IntKind.u64.wrap ((l.getD k 0).toNat:Int))
def wV (r:RS) (n:Nat):Int×RS:=
 if r.e≠0 then (0,r) else if r.left<n then (0,r.err 2) else if 9223372036854775808<=beV (r.get n) n then (0,r.err 4) else (IntKind.i64.wrap (beV (r.get n) n),r.to n)
def v2 (r:RS):Nat:=(r.b.getD r.at' 0).toNat*256+(r.b.getD (r.at'+1) 0).toNat
def vA (r:RS) (most:Nat):By×RS:=
 if r.e≠0 then ([],r) else if r.left<2 then ([],r.err 2) else if most<v2 r then ([],r.err 4) else if r.left<2+v2 r then ([],r.err 2) else ((r.b.drop (r.at'+2)).take (v2 r),r.to (2+v2 r))
def zAc (r:RS):Int:=if r.e=0/\0<r.left then 3 else r.e
theorem zPf (r:RS) (n:Nat) (h:r.Ok):(dI r n).2.Ok:=by
 unfold dI;split
 ·exact h
 split
 ·exact h
 ·obtain ⟨h1,h2⟩:=h;exact ⟨by simp only [RS.to,RS.left] at *;omega,h2⟩
theorem eA (r:RS) (n:Nat) (h:r.Ok):(wV r n).2.Ok:=by
 unfold wV;split
 ·exact h
 split
 ·exact h
 split
 ·exact h
 ·obtain ⟨h1,h2⟩:=h;exact ⟨by simp only [RS.to,RS.left] at *;omega,h2⟩
theorem aE (r:RS) (n:Nat) (h:r.Ok):(vA r n).2.Ok:=by
 unfold vA;split
 ·exact h
 split
 ·exact h
 split
 ·exact h
 split
 ·exact h
 ·obtain ⟨h1,h2⟩:=h;exact ⟨by simp only [RS.to,RS.left] at *;omega,h2⟩
theorem zHz (r:RS) (h:r.Ok):IntKind.i64.wrap ((r.b.length:Int) - (r.at':Int))=(r.left:Int):=by
 obtain ⟨h1,h2⟩:=h;rw [yN (by omega) (by omega)];simp only [RS.left];omega
theorem zJ5 (r:zE) (a n:Nat) (h1:a<=r.b_.length) (h2:r.b_.length<2 ^ 40) (hn:r.b_.length - a<n):yZ r (a:Int) (n:Int)=some ([],2,r):=by
 unfold yZ;refine ct ?_ rfl;rw [yN (by omega) (by omega)];simp;omega
theorem zGo (r:zE) (a n:Nat) (h2:r.b_.length<2 ^ 40) (hn:a+n<=r.b_.length):yZ r (a:Int) (n:Int)=some ((r.b_.drop a).take n,0,r):=by
 unfold yZ;refine cf ?_ ?_
 ·rw [yN (by omega) (by omega)];simp;omega
 ·refine bd (a:=(r.b_.drop a).take n) ?_ rfl;rw [yN (by omega) (by omega),show (a:Int)+(n:Int)=((a+n:Nat):Int) by omega,tJ (by omega) (by omega),Nat.add_sub_cancel_left]
theorem zH0 (r:RS) (n:Nat) (h:r.Ok) (hn:r.left<n):yZ r.W (r.at':Int) (n:Int)=some ([],2,r.W):=zJ5 r.W r.at' n h.1 h.2 hn
theorem zEd (r:RS) (n:Nat) (h:r.Ok) (hn:n<=r.left):yZ r.W (r.at':Int) (n:Int)=some (r.get n,0,r.W):=
 zGo r.W r.at' n h.2 (by have:=h.1;simp only [RS.left] at hn;show r.at'+n<=r.b.length;omega)
theorem b0 (h:e=0):(e != 0)=false:=by subst h;rfl
theorem b1 (h:e≠0):(e != 0)=true:=by simp [h]
theorem c0 (h:e=0):(e==0)=true:=by subst h;rfl
theorem c1 (h:e≠0):(e==0)=false:=by simp [h]
theorem nneg (n:Nat):decide ((n:Int)<0)=false:=by simp
theorem zC2 (r:RS) (n:Nat) (h:r.Ok):vM r.W (n:Int)=some ((dI r n).1,(dI r n).2.W):=by
 unfold vM;by_cases he:r.e=0
 ·refine cf (b0 he) ?_;refine cf (nneg n) ?_;by_cases hn:r.left<n
  ·refine bd (zH0 r n h hn) ?_;refine ct rfl ?_;rw [show dI r n=([],r.err 2) by simp [dI,he,hn]];rfl
  ·refine bd (zEd r n h (by omega)) ?_;refine cf rfl ?_;have hl:=RS.get_len r n (by omega);obtain ⟨h1,h2⟩:=h;refine bd (a:=r.get n) (by rw [yJ (by simp;simp only [RS.left] at hn;omega)];simp) ?_;show some (r.get n,(⟨r.b,IntKind.i64.wrap ((r.at':Int)+(n:Int)),r.e⟩:zE))=_;have hn':=hn;simp only [RS.left] at hn';rw [yN (by omega) (by omega),show (r.at':Int)+(n:Int)=((r.at'+n:Nat):Int) by omega];rw [show dI r n=(r.get n,r.to n) by simp [dI,he,hn]];rfl
 ·refine ct (b1 he) ?_;rw [show dI r n=([],r) by simp [dI,he]]
theorem yAv (l:By) (hl:l.length<2 ^ 40):zN (sG l) FU (0,0)=some (beV l l.length):=by
 refine yK l.length (λi=>(beV l i,(i:Int))) rfl (λi hi=>?_) ?_ (xW (by omega))
 ·unfold sG;refine ct (dlt hi) ?_;refine bd (yR hi) ?_;refine ltk ?_;rw [wX (show i<2 ^ 40 by omega)];simp [beV,hi]
 ·unfold sG;exact cf (dge (Nat.le_refl _)) rfl
theorem vU (r:RS) (n:Nat) (h:r.Ok) (h1:1<=n) (h8:n<=8):yC r.W (n:Int)=some ((wV r n).1,(wV r n).2.W):=by
 unfold yC;by_cases he:r.e=0
 ·refine cf (b0 he) ?_;refine bd (a:=false) (cf (by simp;omega) (congrArg some (by simp;omega))) ?_;refine cf rfl ?_;by_cases hn:r.left<n
  ·refine bd (zH0 r n h hn) ?_;refine ct rfl ?_;rw [show wV r n=(0,r.err 2) by simp [wV,he,hn]];rfl
  ·refine bd (zEd r n h (by omega)) ?_;refine cf rfl ?_;have hl:=RS.get_len r n (by omega);refine bd (a:=beV (r.get n) n) ((yAv _ (by omega)).trans (by rw [hl])) ?_;by_cases hv:9223372036854775808<=beV (r.get n) n
   ·refine ct (by simp;omega) ?_;rw [show wV r n=(0,r.err 4) by simp [wV,he,hn,hv]];rfl
   ·refine cf (by simp;omega) ?_;obtain ⟨h1,h2⟩:=h;show some (_,(⟨r.b,IntKind.i64.wrap ((r.at':Int)+(n:Int)),r.e⟩:zE))=_;have hn':=hn;simp only [RS.left] at hn';rw [yN (n:=(r.at':Int)+(n:Int)) (by omega) (by omega),show (r.at':Int)+(n:Int)=((r.at'+n:Nat):Int) by omega];rw [show wV r n=(IntKind.i64.wrap (beV (r.get n) n),r.to n) by simp [wV,he,hn,hv]];rfl
 ·refine ct (b1 he) ?_;rw [show wV r n=(0,r) by simp [wV,he]]
theorem zSs (x y:UInt8):ior .i64 (nZ .i64 (IntKind.i64.wrap (x.toNat:Int)) 8) (IntKind.i64.wrap (y.toNat:Int))=((x.toNat*256+y.toNat:Nat):Int):=by
 have hx:=x.toNat_lt;have hy:=y.toNat_lt;rw [yN (by omega) (by omega),yN (by omega) (by omega)];have e1:nZ .i64 (x.toNat:Int) 8=((x.toNat*256:Nat):Int):=by
  show IntKind.i64.wrap ((x.toNat:Int)*256)=_;rw [yN (by omega) (by omega)];omega
 rw [e1];unfold ior;have e2:(BitVec.ofInt IntKind.i64.bits ((x.toNat*256:Nat):Int) ||| BitVec.ofInt IntKind.i64.bits (y.toNat:Int)).toNat=x.toNat*256+y.toNat:=by
  show (BitVec.ofInt 64 ((x.toNat*256:Nat):Int) ||| BitVec.ofInt 64 (y.toNat:Int)).toNat=_;rw [BitVec.ofInt_natCast,BitVec.ofInt_natCast,BitVec.toNat_or,BitVec.toNat_ofNat,BitVec.toNat_ofNat,Nat.mod_eq_of_lt (by omega),Nat.mod_eq_of_lt (by omega)];rw [Nat.mul_comm,show (256:Nat)=2 ^ 8 from rfl,<- Nat.two_pow_add_eq_or_of_lt (by omega)]
 rw [e2,yN (by omega) (by omega)]
theorem ig {l:By} (h:i<l.length):idx l (i:Int)=some (l.getD i 0):=by rw [yR h];simp [h]
theorem uO (r:RS) (m:Nat) (h:r.Ok):yQ r.W (m:Int)=some ((vA r m).1,(vA r m).2.W):=by
 have hv:v2 r<65536:=by
  have h1:=(r.b.getD r.at' 0).toNat_lt;have h2:=(r.b.getD (r.at'+1) 0).toNat_lt;unfold v2;omega
 unfold yQ;by_cases he:r.e=0
 ·refine cf (b0 he) ?_;by_cases hn:r.left<2
  ·refine bd (zH0 r 2 h hn) ?_;refine ct rfl ?_;rw [show vA r m=([],r.err 2) by simp [vA,he,hn]];rfl
  ·refine bd (zEd r 2 h (by omega)) ?_;refine cf rfl ?_;have hl:=RS.get_len r 2 (by omega);have hn':=hn;simp only [RS.left] at hn';refine bd (a:=r.b.getD r.at' 0) ?_ ?_
   ·refine (ig (l:=r.get 2) (i:=0) (by omega)).trans ?_;simp [RS.get]
   refine bd (a:=r.b.getD (r.at'+1) 0) ?_ ?_
   ·refine (ig (l:=r.get 2) (i:=1) (by omega)).trans ?_;simp [RS.get]
   refine ltk ?_;rw [zSs];show (bif decide ((m:Int)<(v2 r:Int)) then _ else _)=_;by_cases hm:m<v2 r
   ·refine ct (dlt hm) ?_;rw [show vA r m=([],r.err 4) by simp [vA,he,hn,hm]];rfl
   ·refine cf (dge (by omega)) ?_;obtain ⟨h1,h2⟩:=h;have hw:IntKind.i64.wrap ((r.at':Int)+2)=(((r.at'+2:Nat)):Int):=by rw [yN (by omega) (by omega)];omega
    show ((yZ r.W (IntKind.i64.wrap ((r.at':Int)+2)) (v2 r:Int)).bind _)=_;rw [hw];by_cases hk:r.left<2+v2 r
    ·refine bd (a:=([],2,r.W)) ?_ ?_
     ·exact zJ5 r.W (r.at'+2) (v2 r) (by show r.at'+2<=r.b.length;omega) h2 (by simp only [RS.left] at hk;show r.b.length - (r.at'+2)<v2 r;omega)
     ·refine ct rfl ?_;rw [show vA r m=([],r.err 2) by simp [vA,he,hn,hm,hk]];rfl
    ·have hk':=hk;simp only [RS.left] at hk';refine bd (zGo r.W (r.at'+2) (v2 r) h2 (by show r.at'+2+v2 r<=r.b.length;omega)) ?_;refine cf rfl ?_;refine ltk ?_;refine bd (a:=(r.b.drop (r.at'+2)).take (v2 r)) ?_ ?_
     ·refine (yJ (by simp;omega)).trans ?_;rfl
     ·show some (_,(⟨r.b,IntKind.i64.wrap ((r.at':Int)+IntKind.i64.wrap (2+(v2 r:Int))),r.e⟩:zE))=_;rw [yN (n:=2+(v2 r:Int)) (by omega) (by omega),yN (by omega) (by omega),show (r.at':Int)+(2+(v2 r:Int))=((r.at'+(2+v2 r):Nat):Int) by omega];rw [show vA r m=((r.b.drop (r.at'+2)).take (v2 r),r.to (2+v2 r)) by simp [vA,he,hn,hm,hk]];rfl
 ·refine ct (b1 he) ?_;rw [show vA r m=([],r) by simp [vA,he]]
theorem sR (r:RS) (h:r.Ok):xX r.W=some (zAc r,r.W):=by
 unfold xX;by_cases he:r.e=0
 ·refine bd (a:=(decide (0<(r.left:Int)),r.b,(r.at':Int),r.e)) (ct (c0 he) ?_) ?_
  ·show some (decide (0<IntKind.i64.wrap ((r.b.length:Int) - (r.at':Int))),r.b,(r.at':Int),r.e)=_;rw [zHz r h]
  ·by_cases hl:0<r.left
   ·refine ct (by simp;omega) ?_;simp only [zAc,he,hl];rw [<- he];rfl
   ·refine cf (by simp;omega) ?_;simp only [zAc,he,hl];rw [<- he];simp [RS.W]
 ·refine bd (a:=(false,r.b,(r.at':Int),r.e)) (cf (c1 he) rfl) ?_;refine cf rfl ?_;simp only [zAc,he];simp [RS.W]
end Go.Proofs.TT
namespace Go.Sw
open Go
variable {a b:Nat}{i:Int}{j:Nat}{α β:Type}{P:α->Prop}{f:α->Option β}{l:List α}{o:Option α}
def Def (o:Option α) (P:α->Prop):Prop:=∃ a,o=some a/\P a
theorem Def.bd {Q:β->Prop} (h:Def o P) (k:∀ a,P a->Def (f a) Q):Def (o.bind f) Q:=by
 obtain ⟨a,rfl,h⟩:=h;exact k a h
theorem Def.s {a:α} {Q:α->Prop} (h:Q a):Def (some a) Q:=⟨a,rfl,h⟩
theorem Def.of {a:α} {Q:α->Prop} (e:o=some a) (h:Q a):Def o Q:=⟨a,e,h⟩
theorem Def.c {b:Bool} {x y:Option α} {Q:α->Prop} (h:b=true->Def x Q) (k:b=false->Def y Q):Def (bif b then x else y) Q:=by
 cases b
 ·exact k rfl
 ·exact h rfl
theorem Def.ck {b:Bool} (h:b=true):Def (Go.Sw.ck b) (λ_=>True):=⟨(),ckT h,trivial⟩
theorem Def.lt {e:α} {Q:β->Prop} (k:Def (f e) Q):Def (Go.Sw.lt e f) Q:=k
theorem Def.mono {Q:α->Prop} (h:Def o P) (k:∀ a,P a->Q a):Def o Q:=by
 obtain ⟨a,e,h⟩:=h;exact ⟨a,e,k a h⟩
theorem Def.get (d:α) (h:Def o P):o=some (o.getD d)/\P (o.getD d):=by
 obtain ⟨a,rfl,h⟩:=h;exact ⟨rfl,h⟩
theorem Def.loop {X Y:Type} {step:X->Option (X ⊕ Y)} {s:X} {Q:Y->Prop} (I:X->Prop) (m:X->Nat)
  (h:∀ s,I s->Def (step s) (λr=>match r with | .inl s'=>I s'/\m s'<m s | .inr r=>Q r)) (h0:I s) (hm:m s<2 ^ 64):Def (zN step FU s) Q:=by
 refine zGv I m Q (λs hs=>?_) FU s h0 (xW hm);obtain ⟨r,e,hr⟩:=h s hs;cases r with
 | inl s'=>exact .inl ⟨s',e,hr.1,hr.2⟩
 | inr r=>exact .inr ⟨r,e,hr⟩
theorem Def.app {m:List α} (h:(l.length+m.length)*b<=140737488355328):Def (yO b l m) (λr=>r=l++m):=⟨_,yJ h,rfl⟩
theorem Def.idx (h0:0<=i) (h:i<l.length):Def (Go.Sw.idx l i) (λr=>r∈l):=by
 obtain ⟨n,rfl⟩:=Int.eq_ofNat_of_zero_le h0;exact ⟨_,yR (by omega),List.getElem_mem _⟩
theorem Def.sub {a b:Int} (h0:0<=a) (h1:a<=b) (h2:b<=l.length):Def (Go.Sw.sub l a b) (λr=>r=(l.drop a.toNat).take (b.toNat - a.toNat)):=by
 obtain ⟨n,rfl⟩:=Int.eq_ofNat_of_zero_le h0;obtain ⟨m,rfl⟩:=Int.eq_ofNat_of_zero_le (by omega:0<=b);exact ⟨_,tJ (by omega) (by omega),rfl⟩
theorem Def.ixN {n:Nat} (h0:0<=i) (h:i<n):Def (Go.Sw.ixN n i) (λj=>j=i.toNat/\j<n):=by
 refine ⟨i.toNat,?_,rfl,by omega⟩;simp [Go.Sw.ixN,h0,h]
theorem Def.upd {u:α} (h:j<l.length):Def (rF l j u) (λr=>r=l.set j u):=⟨_,by simp [rF,h],rfl⟩
theorem Def.at (h:j<l.length):Def (l[j]?) (λr=>r∈l):=⟨l[j],by simp [h],List.getElem_mem _⟩
theorem Def.mkN {n:Int} (h0:0<=n) (h:n<2 ^ 40):Def (mkN 1 n) (λj=>j=n.toNat):=⟨n.toNat,by unfold Go.Sw.mkN;rw [if_pos ⟨h0,by omega⟩],rfl⟩
theorem beqT (h:a=b):Nat.beq a b=true:=by subst h;exact Nat.beq_refl a
theorem zEo (h:a<=b):Nat.ble a b=true:=Nat.ble_eq.mpr h
end Go.Sw
namespace Go.Proofs.TT
open Go Go.Sw
set_option maxRecDepth 100000
end Go.Proofs.TT
namespace Go.Sw
open Go
theorem bE {X Y:Type} {s1 s2:X->Option (X ⊕ Y)} (I:X->Prop) (h:∀ s,I s->s1 s=s2 s/\Def (s2 s) (λr=>∀ s',r=.inl s'->I s')):∀ (n:Nat) (s:X),I s->zN s1 n s=zN s2 n s
 | 0,_,_=>rfl
 | n+1,s,hs=>by
  obtain ⟨e,r,hr,hI⟩:=h s hs;simp only [zN];rw [e,hr];cases r with
  | inl s'=>exact bE I h n s' (hI s' rfl)
  | inr y=>rfl
end Go.Sw
namespace Go.Proofs.TT
open Go Go.Sw
set_option maxRecDepth 100000
variable {a:Nat}{active:Int}{b:Bool}{bk:List By}{c:Bool}{e:zC}{es:List zC}{i j k m n:Nat}{p:Prop}{r:RS}{rest x:By}{α:Type}{l:List α}
theorem dT [Decidable p] (h:decide p=true):p:=by simpa using h
theorem dF [Decidable p] (h:decide p=false):¬ p:=by simpa using h
theorem Def.at' (h:i<l.length):Def (idx l (i:Int)) (λr=>r=l[i]):=⟨_,yR h,rfl⟩
theorem aC {R:Type} (l:List α) (step:Int->Option (Int ⊕ (R ⊕ Unit))) (G:Nat->Prop) (B:R->Prop) (hl:l.length<2 ^ 40)
  (h:∀ i,i<l.length->Def (step (i:Int)) (λr=>match r with | .inl j=>j=((i+1:Nat):Int)/\G i | .inr (.inl b)=>B b | .inr (.inr _)=>False))
  (he:step (l.length:Int)=some (.inr (.inr ()))):Def (zN step FU 0) (λr=>match r with | .inl b=>B b | .inr _=>∀ i,i<l.length->G i):=by
 refine Def.loop (λs=>∃ i:Nat,s=(i:Int)/\i<=l.length/\∀ k,k<i->G k) (λs=>l.length - s.toNat) (λs hs=>?_) ⟨0,rfl,by omega,λk hk=>by omega⟩ (by simp;omega);obtain ⟨i,rfl,hi,hg⟩:=hs;by_cases h2:i<l.length
 ·refine (h i h2).mono λr hr=>?_
  match r,hr with
  | .inl j,hr=>
   refine ⟨⟨i+1,hr.1,h2,λk hk=>?_⟩,by rw [hr.1];simp only [Int.toNat_natCast];omega⟩;by_cases hk2:k<i
   ·exact hg k hk2
   ·have:k=i:=by omega
    subst this;exact hr.2
  | .inr (.inl b),hr=>exact hr
  | .inr (.inr u),hr=>exact hr.elim
 ·have:i=l.length:=by omega
  subst this;exact Def.of he hg
theorem two {X Y:Type} {step:X->Option (X ⊕ Y)} {a b c:X} {r:Y} (h0:step a=some (.inl b)) (h1:step b=some (.inl c)) (h2:step c=some (.inr r)):zN step FU a=some r:=by
 refine yK 2 (λi=>match i with | 0=>a | 1=>b | _=>c) rfl (λi hi=>?_) h2 (xW (by decide));have:i=0∨i=1:=by omega
 rcases this with rfl | rfl
 ·exact h0
 ·exact h1
theorem zWb (x n m:Int) (h:sD .u64 (IntKind.u64.wrap n) 31=32 - m) (hn:n=32 - m) (h0:0<=m) (h1:m<=32):zO x n=rO x n:=by
 rw [nW x n m h h0 h1];subst hn;have h2:IntKind.u64.wrap (32 - (32 - m))=m:=by rw [IntKind.wrap_u64];omega
 have h4:decide ((0:Int)<=32 - m)=true:=by simp;omega
 simp only [rO,ck,lt,h2,h4,rr,cond_true,Option.bind_some];rw [zI1]
theorem rot1 (x:Int):zO x 1=rO x 1:=zWb x 1 31 (by decide) (by decide) (by decide) (by decide)
theorem rot5 (x:Int):zO x 5=rO x 5:=zWb x 5 27 (by decide) (by decide) (by decide) (by decide)
theorem zY0 (x:Int):zO x 30=rO x 30:=zWb x 30 2 (by decide) (by decide) (by decide) (by decide)
theorem zEg (x n:Int) (h0:0<=n):Def (rO x n) (λ_=>True):=by
 unfold rO;refine Def.bd (Def.ck (by simpa using h0)) (λ_ _=>?_);exact Def.lt (Def.s trivial)
theorem w80 {w:List Int} (hw:w.length=80) (hj:j<80):Def (w[j]?) (λ_=>True):=(Def.at (by omega)).mono λ_ _=>trivial
theorem ixw (hn:j<n) (z:Int) (hz:z=(j:Int)):Def (Go.Sw.ixN n z) (λr=>r=j):=by
 subst hz;exact (Def.ixN (by omega) (by omega)).mono λa h=>by rw [h.1];simp
theorem s1_s (x:By) (at' i:Nat) (w:List Int) (h:at'+64<=x.length) (hb:x.length<2 ^ 42) (hi:i<=80) (hw:w.length=80) :
  Def (tL x (at':Int) ((i:Int),w)) (λr=>match r with | .inl s=>∃ w',s=(((i+1:Nat):Int),w')/\i<80/\w'.length=80 | .inr w=>w.length=80):=by
 unfold tL;refine Def.c (λh=>?_) (λ_=>Def.s hw);have hi2:i<80:=by have:=dT h;omega
 have up:∀ v,Def ((Go.Sw.ixN 80 (i:Int)).bind λj=>(rF w j v).bind λw=>some w) (λw'=>w'.length=80):=λv=>by
  refine Def.bd (ixw hi2 _ rfl) (λj hj=>?_);subst hj;exact Def.bd (Def.upd (by omega)) (λr hr=>Def.s (by rw [hr];simpa using hw))
 refine Def.bd (P:=λw'=>w'.length=80) ?_ (λw' hw'=>Def.s ⟨w',by rw [wX (by omega)],hi2,hw'⟩);refine Def.c (λh16=>?_) (λh16=>?_)
 ·have h16':i<16:=by have:=dT h16;omega
  rw [yN (by omega) (by omega)];refine Def.bd (Def.sub (by omega) (by omega) (by omega)) (λy hy=>?_);have hyl:y.length=64:=by rw [hy];simp;omega
  exact Def.bd (P:=λ_=>True) (Def.of (zHb y i (by omega) (by omega)) trivial) (λv _=>up v)
 ·have h16':16<=i:=by have:=dF h16;omega
  have wr:∀ k:Nat,k<=16->IntKind.i64.wrap ((i:Int) - (k:Int))=((i - k:Nat):Int):=λk hk=>by rw [yN (by omega) (by omega)];omega
  refine Def.bd (ixw (show i - 3<80 by omega) _ (wr 3 (by omega))) (λj hj=>?_);refine Def.bd (w80 hw (by omega)) (λ_ _=>?_);refine Def.bd (ixw (show i - 8<80 by omega) _ (wr 8 (by omega))) (λj hj=>?_);refine Def.bd (w80 hw (by omega)) (λ_ _=>?_);refine Def.bd (ixw (show i - 14<80 by omega) _ (wr 14 (by omega))) (λj hj=>?_);refine Def.bd (w80 hw (by omega)) (λ_ _=>?_);refine Def.bd (ixw (show i - 16<80 by omega) _ (wr 16 (by omega))) (λj hj=>?_);refine Def.bd (w80 hw (by omega)) (λ_ _=>?_);refine Def.lt ?_;exact Def.bd (zEg _ _ (by decide)) (λv _=>up v)
theorem s1_e (x:By) (at' i:Nat) (w:List Int) (h:at'+64<=x.length) (hb:x.length<2 ^ 42):uE (sQ x at') ((i:Int),w)=tL x (at':Int) ((i:Int),w):=by
 unfold uE tL;have hs:sub x (at':Int) (IntKind.i64.wrap ((at':Int)+64))=some (sQ x at'):=by
  rw [yN (by omega) (by omega),show (at':Int)+64=((at'+64:Nat):Int) by omega,tJ (by omega) (by omega)];simp [sQ]
 simp only [rot1,hs,zJr,Option.bind_some]
theorem zX9 (x:By) (at':Nat) (h:at'+64<=x.length) (hb:x.length<2 ^ 42) :
  Def (zN (tL x (at':Int)) FU (0,List.replicate 80 0)) (λw=>w.length=80/\zN (uE (sQ x at')) FU (0,List.replicate 80 0)=some w):=by
 have e:zN (uE (sQ x at')) FU (0,List.replicate 80 0)=zN (tL x (at':Int)) FU (0,List.replicate 80 0):=by
  refine bE (λs=>∃ i:Nat,s.1=(i:Int)/\i<=80/\s.2.length=80) (λs hs=>?_) _ _ ⟨0,rfl,by omega,by simp⟩;obtain ⟨i',w⟩:=s;obtain ⟨i,h1,hi,hw⟩:=hs;have h1:i'=(i:Int):=h1;subst h1;refine ⟨s1_e x at' i w h hb,(s1_s x at' i w h hb hi hw).mono λr hr s' hs'=>?_⟩;subst hs';obtain ⟨w',rfl,h2,h3⟩:=hr;exact ⟨i+1,rfl,by omega,h3⟩
 rw [e];obtain ⟨w,h1,h2⟩:Def (zN (tL x (at':Int)) FU (0,List.replicate 80 0)) (λw=>w.length=80):=by
  refine Def.loop (λs=>∃ i:Nat,s.1=(i:Int)/\i<=80/\s.2.length=80) (λs=>80 - s.1.toNat) (λs hs=>?_) ⟨0,rfl,by omega,by simp⟩ (by simp);obtain ⟨i',w⟩:=s;obtain ⟨i,h1,hi,hw⟩:=hs;have h1:i'=(i:Int):=h1;subst h1;refine (s1_s x at' i w h hb hi hw).mono λr hr=>?_;cases r with
  | inl s'=>
   obtain ⟨w',rfl,h2,h3⟩:=hr;exact ⟨⟨i+1,rfl,by omega,h3⟩,by simp only [Int.toNat_natCast];omega⟩
  | inr w=>exact hr
 exact ⟨w,h1,h2,h1⟩
theorem r1_s (w:List Int) (hw:w.length=80) (a b c d e:Int) (i:Nat) (hi:i<=80) :
  Def (tQ w (a,b,c,d,e,(i:Int))) (λr=>match r with | .inl s=>s.2.2.2.2.2=((i+1:Nat):Int)/\i<80 | .inr _=>True):=by
 unfold tQ;refine Def.c (λh=>?_) (λ_=>Def.s trivial);have hi2:i<80:=by have:=dT h;omega
 refine Def.bd (P:=λ_=>True) ?_ (λx _=>?_)
 ·exact Def.c (λ_=>Def.lt (Def.s trivial)) (λ_=>Def.c (λ_=>Def.s trivial) (λ_=>Def.c (λ_=>Def.lt (Def.s trivial)) (λ_=>Def.s trivial)))
 obtain ⟨f,k⟩:=x;refine Def.bd (zEg _ _ (by decide)) (λ_ _=>?_);refine Def.lt ?_;refine Def.bd (ixw hi2 _ rfl) (λj hj=>?_);refine Def.bd (w80 hw (by omega)) (λ_ _=>?_);refine Def.lt ?_;refine Def.bd (zEg _ _ (by decide)) (λ_ _=>Def.s ?_);exact ⟨wX (by omega),hi2⟩
theorem r1_e (w:List Int) (a b c d e:Int) (i:Nat) (hi:i<=80):uC w (a,b,c,d,e,(i:Int))=tQ w (a,b,c,d,e,(i:Int)):=by
 have hq:IntKind.i64.wrap (Int.tdiv (i:Int) 20)=((i / 20:Nat):Int):=by
  rw [show Int.tdiv (i:Int) 20=((i / 20:Nat):Int) from rfl];exact yN (by omega) (by omega)
 unfold uC tQ;simp only [rot5,zY0,hq];by_cases h1:i<20
 ·rw [show (((i / 20:Nat):Int)==0)=true by simp;omega,show decide ((i:Int)<20)=true by simp;omega];rfl
 by_cases h2:i<40
 ·rw [show (((i / 20:Nat):Int)==0)=false by simp;omega,show decide ((i:Int)<20)=false by simp;omega,show (((i / 20:Nat):Int)==1)=true by simp;omega,show decide ((i:Int)<40)=true by simp;omega];rfl
 by_cases h3:i<60
 ·rw [show (((i / 20:Nat):Int)==0)=false by simp;omega,show decide ((i:Int)<20)=false by simp;omega,show (((i / 20:Nat):Int)==1)=false by simp;omega,show decide ((i:Int)<40)=false by simp;omega,show (((i / 20:Nat):Int)==2)=true by simp;omega,show decide ((i:Int)<60)=true by simp;omega]
 ·by_cases h4:i<80
  ·rw [show (((i / 20:Nat):Int)==0)=false by simp;omega,show decide ((i:Int)<20)=false by simp;omega,show (((i / 20:Nat):Int)==1)=false by simp;omega,show decide ((i:Int)<40)=false by simp;omega,show (((i / 20:Nat):Int)==2)=false by simp;omega,show decide ((i:Int)<60)=false by simp;omega]
  ·rw [show decide ((i:Int)<80)=false by simp;omega];rfl
theorem zYp (w:List Int) (hw:w.length=80) (a b c d e:Int):Def (zN (tQ w) FU (a,b,c,d,e,0)) (λr=>zN (uC w) FU (a,b,c,d,e,0)=some r):=by
 have e1:zN (uC w) FU (a,b,c,d,e,0)=zN (tQ w) FU (a,b,c,d,e,0):=by
  refine bE (λs=>∃ i:Nat,s.2.2.2.2.2=(i:Int)/\i<=80) (λs hs=>?_) _ _ ⟨0,rfl,by omega⟩;obtain ⟨a,b,c,d,e,v⟩:=s;obtain ⟨i,h1,hi⟩:=hs;have h1:v=(i:Int):=h1;subst h1;refine ⟨r1_e w a b c d e i hi,(r1_s w hw a b c d e i hi).mono λr hr s' hs'=>?_⟩;subst hs';exact ⟨i+1,hr.1,by have:=hr.2;omega⟩
 rw [e1];obtain ⟨r,h1,_⟩:Def (zN (tQ w) FU (a,b,c,d,e,0)) (λ_=>True):=by
  refine Def.loop (λs=>∃ i:Nat,s.2.2.2.2.2=(i:Int)/\i<=80) (λs=>80 - s.2.2.2.2.2.toNat) (λs hs=>?_) ⟨0,rfl,by omega⟩ (by simp);obtain ⟨a,b,c,d,e,v⟩:=s;obtain ⟨i,h1,hi⟩:=hs;have h1:v=(i:Int):=h1;subst h1;refine (r1_s w hw a b c d e i hi).mono λr hr=>?_;cases r with
  | inl s'=>exact ⟨⟨i+1,hr.1,by have:=hr.2;omega⟩,by rw [hr.1];simp only [Int.toNat_natCast];have:=hr.2;omega⟩
  | inr r=>trivial
 exact ⟨r,h1,h1⟩
def a5 (s:A5 Int):List Int:=[s.a0,s.a1,s.a2,s.a3,s.a4]
def zO1 (h:A5 Int) (b:By):A5 Int:=(uV h b).getD h
theorem blk1 (x:By) (at':Nat) (h:A5 Int) (hx:at'+64<=x.length) (hb:x.length<2 ^ 42) :
  uV h (sQ x at')=some (zO1 h (sQ x at'))/\zA7 x (a5 h,(at':Int))=some (.inl (a5 (zO1 h (sQ x at')),((at'+64:Nat):Int))):=by
 obtain ⟨w,hw1,hw2,hw3⟩:=zX9 x at' hx hb;obtain ⟨⟨a,b,c,d,e⟩,hr1,hr2⟩:=zYp w hw2 h.a0 h.a1 h.a2 h.a3 h.a4;have e1:uV h (sQ x at')=some ⟨IntKind.u32.wrap (h.a0+a),IntKind.u32.wrap (h.a1+b),IntKind.u32.wrap (h.a2+c),IntKind.u32.wrap (h.a3+d),IntKind.u32.wrap (h.a4+e)⟩:=by
  unfold uV;refine bd hw3 ?_;exact bd hr2 rfl
 have e2:zO1 h (sQ x at')=⟨IntKind.u32.wrap (h.a0+a),IntKind.u32.wrap (h.a1+b),IntKind.u32.wrap (h.a2+c),IntKind.u32.wrap (h.a3+d),IntKind.u32.wrap (h.a4+e)⟩:=by
  unfold zO1;rw [e1];rfl
 rw [e2];refine ⟨e1,?_⟩;unfold zA7;refine ct (dlt (by omega)) ?_;refine bd hw1 ?_;refine bd (a:=h.a0) rfl ?_;refine bd (a:=h.a1) rfl ?_;refine bd (a:=h.a2) rfl ?_;refine bd (a:=h.a3) rfl ?_;refine bd (a:=h.a4) rfl ?_;refine bd hr1 ?_;refine bd (a:=h.a0) rfl ?_;refine bd (a:=h.a1) rfl ?_;refine bd (a:=h.a2) rfl ?_;refine bd (a:=h.a3) rfl ?_;refine bd (a:=h.a4) rfl ?_;rw [yN (by omega) (by omega),show (at':Int)+64=((at'+64:Nat):Int) by omega];rfl
def zSk:A5 Int:=⟨1732584193,4023233417,2562383102,271733878,3285377520⟩
def zDg (x:By):Nat->A5 Int
 | 0=>zSk
 | i+1=>zO1 (zDg x i) (sQ x (64*i))
def st5 (p:By) (h:A5 Int):By×Int×Int×Int×Int×Int:=(p,h.a0,h.a1,h.a2,h.a3,h.a4)
theorem zIl (x:By) (n:Nat) (hx:x.length=64*n) (hl:x.length<2 ^ 42):zN mX FU (st5 x zSk)=some ((zDg x n).a0,(zDg x n).a1,(zDg x n).a2,(zDg x n).a3,(zDg x n).a4):=by
 refine yK n (λi=>st5 (x.drop (64*i)) (zDg x i)) (by simp [zDg]) (λi hi=>?_) ?_ (xW (by omega))
 ·have hd:(x.drop (64*i)).length=x.length - 64*i:=by simp
  unfold mX st5;refine ct (by simp;omega) ?_;refine bd (a:=sQ x (64*i)) (by rw [show (0:Int)=((0:Nat):Int) from rfl,show (64:Int)=((64:Nat):Int) from rfl,tJ (by omega) (by omega)];simp [sQ]) ?_;refine bd (blk1 x (64*i) (zDg x i) (by omega) hl).1 ?_;refine bd (a:=x.drop (64*(i+1))) (by rw [show (64:Int)=((64:Nat):Int) from rfl,tJ (by omega) (by omega)];rw [List.drop_drop,List.take_of_length_le (by simp;omega)];congr 2) ?_;rfl
 ·have hd:x.drop (64*n)=[]:=List.drop_eq_nil_of_le (by omega);show mX (st5 (x.drop (64*n)) (zDg x n))=_;rw [hd];generalize zDg x n=S;rfl
def zCp (b:By):By:=(a5 (zDg (zAn b) ((zAn b).length / 64))).flatMap be4
theorem zIr (b:By):(zCp b).length=20:=by unfold zCp;rw [zIb];rfl
theorem zO6 (b:By) (hb:b.length<2 ^ 40):xK 0 b=some (zCp b):=by
 have hz:zs b.length<64:=by unfold zs;omega
 have h1:=zB4 b;have h2:=zEx b;unfold xK;refine ct rfl ?_;refine bd (zEi b hb) ?_;refine bd (zIl (zAn b) ((zAn b).length / 64) (by omega) (by omega)) ?_;exact bd (zG3 _ (by simp)) rfl
theorem zNm (h:k<l.length):l.drop k=l[k] :: l.drop (k+1):=List.drop_eq_getElem_cons h
theorem zYu (k:IntKind) (n j:Nat) (h:j<=k.bits):wS k (n:Int) (j:Int)=((n / 2 ^ j:Nat):Int):=by
 unfold wS;rw [Int.toNat_natCast,Nat.min_eq_left h,Int.fdiv_eq_ediv_of_nonneg _ (by have:(0:Int)<2 ^ j:=Int.pow_pos (by decide);omega)];rw [Int.natCast_ediv];simp
theorem wb (x:UInt8):IntKind.i64.wrap (x.toNat:Int)=(x.toNat:Int):=by
 have:=x.toNat_lt;rw [yN (by omega) (by omega)]
theorem fQ (n:Nat):(u8 (n:Int)).toNat=n % 256:=by
 have:((n:Int) % 256).toNat=n % 256:=by omega
 rw [u8,this];simp
theorem zQ9 {l:List By} (h:i<l.length):idx l (i:Int)=some (l.getD i []):=by rw [yR h];simp [h]
theorem zQd (r:RS) (n:Nat):(vA r n).2.b=r.b:=by unfold vA;split<;>(try split)<;>(try split)<;>(try split)<;>rfl
theorem zOd (r:RS) (n:Nat):(vA r n).1.length<=r.b.length:=by
 unfold vA;split
 ·simp
 split
 ·simp
 split
 ·simp
 split
 ·simp
 ·simp;omega
set_option maxRecDepth 100000
structure Rem (r:RS) (l:By):Prop where
 e:r.e=0
 at':r.at'<=r.b.length
 d:r.b.drop r.at'=l
theorem Rem.left {l:By} (h:Rem r l):r.left=l.length:=by
 have:=congrArg List.length h.d;simp at this;exact this
theorem Rem.to (h:Rem r (x++rest)) (hx:x.length=n):Rem (r.to n) rest:=by
 have hl:=h.left;have ha:=h.at';simp only [RS.left,List.length_append] at hl;refine ⟨h.e,by simp only [RS.to];omega,?_⟩;show r.b.drop (r.at'+n)=rest;rw [<- List.drop_drop,h.d,<- hx,List.drop_left]
theorem Rem.raw (h:Rem r (x++rest)) (hx:x.length=n):dI r n=(x,r.to n):=by
 have hl:=h.left;rw [List.length_append] at hl;unfold dI;rw [if_neg (by simp [h.e]),if_neg (by omega)];have:r.get n=x:=by
  unfold RS.get;rw [h.d,<- hx,List.take_left]
 rw [this]
theorem Rem.uint (h:Rem r (x++rest)) (hx:x.length=n) (hv:¬ 9223372036854775808<=beV x n):wV r n=(IntKind.i64.wrap (beV x n),r.to n):=by
 have hl:=h.left;rw [List.length_append] at hl;unfold wV;have:r.get n=x:=by
  unfold RS.get;rw [h.d,<- hx,List.take_left]
 rw [if_neg (by simp [h.e]),if_neg (by omega),this,if_neg hv]
theorem Rem.blob {a b:UInt8} (h:Rem r ([a,b]++(x++rest))) (hx:x.length=a.toNat*256+b.toNat) (hm:x.length<=m):vA r m=(x,r.to (2+x.length))/\Rem (r.to (2+x.length)) rest:=by
 have hl:=h.left;have ha:=h.at';simp only [List.length_append,List.length_cons,List.length_nil] at hl;have hd:=h.d;have e0:r.b.getD r.at' 0=a:=by
  have:=congrArg (λl=>l.getD 0 0) hd;simpa using this
 have e1:r.b.getD (r.at'+1) 0=b:=by
  have:=congrArg (λl=>l.getD 1 0) hd;simpa using this
 have ev:v2 r=x.length:=by unfold v2;rw [e0,e1,hx]
 have h2:Rem (r.to 2) (x++rest):=Rem.to (x:=[a,b]) h rfl;have hd2:r.b.drop (r.at'+2)=x++rest:=h2.d;constructor
 ·unfold vA;rw [if_neg (by simp [h.e]),if_neg (by omega),ev,if_neg (by omega),if_neg (by omega),hd2,List.take_left]
 ·have:=Rem.to h2 rfl;have e:(r.to 2).to x.length=r.to (2+x.length):=by simp [RS.to,Nat.add_assoc]
  rw [<- e];exact this
theorem Rem.uintV {v:Int} (h:Rem r (x++rest)) (hx:x.length=n) (hv:beV x n=v) (h0:0<=v) (h1:v<9223372036854775808):wV r n=(v,r.to n):=by
 rw [h.uint hx (by omega),hv,yN (by omega) (by omega)]
theorem zFc (a b:Nat) (ha:a<2 ^ 56) (hb:b<256):ior .u64 (nZ .u64 (a:Int) 8) (IntKind.u64.wrap (b:Int))=((a*256+b:Nat):Int):=by
 rw [cV (by omega) (by omega)];have e1:nZ .u64 (a:Int) 8=((a*256:Nat):Int):=by
  show IntKind.u64.wrap ((a:Int)*256)=_;rw [cV (by omega) (by omega)];omega
 rw [e1];unfold ior;have e2:(BitVec.ofInt IntKind.u64.bits ((a*256:Nat):Int) ||| BitVec.ofInt IntKind.u64.bits (b:Int)).toNat=a*256+b:=by
  show (BitVec.ofInt 64 ((a*256:Nat):Int) ||| BitVec.ofInt 64 (b:Int)).toNat=_;rw [BitVec.ofInt_natCast,BitVec.ofInt_natCast,BitVec.toNat_or,BitVec.toNat_ofNat,BitVec.toNat_ofNat,Nat.mod_eq_of_lt (by omega),Nat.mod_eq_of_lt (by omega)];rw [Nat.mul_comm,show (256:Nat)=2 ^ 8 from rfl,<- Nat.two_pow_add_eq_or_of_lt (by omega)]
 rw [e2,cV (by omega) (by omega)]
theorem zDu (n size k:Nat) (hn:n<2 ^ 64) (hk:k<size) (h8:size<=8):((beN (n:Int) size size).getD k 0).toNat=n / 256 ^ (size - (k+1)) % 256:=by
 have e:(beN (n:Int) size size).getD k 0=u8 (wS .u64 (IntKind.u64.wrap (n:Int)) (8*((size:Int) - 1 - (k:Int)))):=by simp [beN,hk]
 rw [e,cV (by omega) (by omega),show 8*((size:Int) - 1 - (k:Int))=((8*(size - (k+1)):Nat):Int) by omega,zYu .u64 n _ (by show _<=64;omega),fQ,Nat.pow_mul]
theorem zMg (n size:Nat) (hn:n<2 ^ 64) (h8:size<=8) (hs:n<256 ^ size):∀ k,k<=size->beV (beN (n:Int) size size) k=((n / 256 ^ (size - k):Nat):Int)
 | 0,_=>by
  rw [Nat.sub_zero,Nat.div_eq_of_lt hs];rfl
 | k+1,hk=>by
  unfold beV;rw [zMg n size hn h8 hs k (by omega),zDu n size k hn (by omega) h8];have e:256 ^ (size - k)=256 ^ (size - (k+1))*256:=by
   rw [<- Nat.pow_succ];congr 1;omega
  rw [e,<- Nat.div_div_eq_div_mul];have hm:n / 256 ^ (size - (k+1))<=n:=Nat.div_le_self _ _;generalize n / 256 ^ (size - (k+1))=m at hm;rw [zFc _ _ (by omega) (by omega)];congr 1;omega
theorem Rem.uintN (h:Rem r (beN (n:Int) k k++rest)) (h8:k<=8) (hn:n<2 ^ 63) (hs:n<256 ^ k):wV r k=((n:Int),r.to k)/\Rem (r.to k) rest:=by
 have hb:=zMg n k (by omega) h8 hs k (Nat.le_refl _);rw [Nat.sub_self,Nat.pow_zero,Nat.div_one] at hb;exact ⟨h.uintV (yY _ _ _) hb (by omega) (by omega),h.to (yY _ _ _)⟩
theorem be2 (n:Nat) (hn:n<65536):∃ a b:UInt8,beN (n:Int) 2 2=[a,b]/\n=a.toNat*256+b.toNat:=by
 have h0:=zDu n 2 0 (by omega) (by omega) (by omega);have h1:=zDu n 2 1 (by omega) (by omega) (by omega);have hl:=yY (n:Int) 2 2
 match hx:beN (n:Int) 2 2,hl with
 | [a,b],_=>
  rw [hx] at h0 h1;refine ⟨a,b,rfl,?_⟩;have h0:a.toNat=n / 256 ^ 1 % 256:=h0;have h1:b.toNat=n / 256 ^ 0 % 256:=h1;rw [h0,h1];simp only [Nat.pow_one,Nat.pow_zero,Nat.div_one];omega
theorem zBh (b:By) (h:x.length<=65535):aT b x=b++(beN (x.length:Int) 2 2++x):=by
 unfold aT sK;rw [List.take_of_length_le h,List.append_assoc]
theorem Rem.blobN (h:Rem r (beN (x.length:Int) 2 2++(x++rest))) (hx:x.length<=65535) (hm:x.length<=m):vA r m=(x,r.to (2+x.length))/\Rem (r.to (2+x.length)) rest:=by
 obtain ⟨a,b,h1,h2⟩:=be2 x.length (by omega);rw [h1] at h;exact Rem.blob h h2 hm
theorem Rem.fin (h:Rem r []):zAc r=0:=by
 have:=h.left;unfold zAc;rw [if_neg (by rw [this];simp)];exact h.e
theorem Rem.uintI {n:Int} (h:Rem r (beN n k k++rest)) (h8:k<=8) (h0:0<=n) (hn:n<2 ^ 62) (hs:n.toNat<256 ^ k):wV r k=(n,r.to k)/\Rem (r.to k) rest:=by
 obtain ⟨m,rfl⟩:=Int.eq_ofNat_of_zero_le h0;exact Rem.uintN h h8 (by omega) hs
set_option maxRecDepth 100000
def tH (active a:Int):Bool:=sD .i64 (wS .i64 active (IntKind.u64.wrap a)) 1==1
def dgE (active:Int) (on:Bool) (b:By):List By:=[if (on&&tH active 0)=true then zCp b else [],if (on&&tH active 1)=true then sha b else []]
theorem zPy {v:List By} {o:Option By} {d:By} (hv:v.length=2) (ha:a<2) (ho:o=some d) :
  (bif c then (o.bind λs=>(ixN 2 (a:Int)).bind λj=>(rF v j s).bind λw=>some w) else some v)=some (if c=true then v.set a d else v):=by
 cases c
 ·rfl
 ·refine bd ho ?_;refine bd (uI ha) ?_;exact bd (by simp [rF,hv,ha]) rfl
def mkE (reg kind active:Int) (data:By):zC:=⟨reg,kind,dgE active (kind != 5) data,data⟩
set_option maxRecDepth 100000
def fJ (c:zI):Prop:=c.B.length<=240/\0<=c.At/\c.At<=c.B.length
theorem zR2 (b:By) (n:Int) (h0:0<=n) (h:n<=240):Def (zBe b n) fJ:=by
 unfold zBe;refine Def.bd (P:=λr=>r.length<=240) ?_ (λr hr=>Def.s ⟨hr,Int.le_refl 0,by simp⟩);refine Def.c (λhl=>?_) (λhl=>Def.s ?_)
 ·rw [decide_eq_true_iff] at hl;refine Def.bd (Def.sub (by decide) h0 (by omega)) (λx hx=>Def.s ?_);rw [hx];simp;omega
 ·rw [decide_eq_false_iff_not] at hl;omega
theorem pQ (c:zI) (n:Int) (hc:fJ c) (hn:0<n):Def (xF c n) (λr=>0<=r.1/\r.1<n/\fJ r.2):=by
 obtain ⟨h1,h2,h3⟩:=hc;unfold xF;refine Def.c (λh=>Def.s ⟨Int.le_refl 0,hn,h1,h2,h3⟩) (λh=>?_);rw [decide_eq_false_iff_not] at h;rw [yN (n:=c.At+1) (by omega) (by omega),yN (n:=c.At+1 - 1) (by omega) (by omega)];refine Def.bd (Def.idx (by omega) (by omega)) (λv _=>?_);refine Def.bd (Def.ck (by simp;omega)) (λ_ _=>?_);refine Def.s ?_;rw [wb];refine ⟨?_,?_,h1,by simp only;omega,by simp only;omega⟩
 ·rw [Int.tmod_eq_emod_of_nonneg (by omega)];exact Int.emod_nonneg _ (by omega)
 ·rw [Int.tmod_eq_emod_of_nonneg (by omega)];exact Int.emod_lt_of_pos _ hn
def zFx (l:By):Prop:=1<=l.length/\l.length<=8/\∀ x∈l,32<=x.toNat/\x.toNat<=126
theorem zPi (c:zI) (hc:fJ c):Def (pX c) (λr=>zFx r.1/\fJ r.2):=by
 unfold pX;refine Def.bd (pQ c 6 hc (by decide)) (λr hr=>?_);obtain ⟨v,x⟩:=r;obtain ⟨h0,h1,h2⟩:=hr;simp only at h0 h1 h2;refine Def.bd (Def.ixN h0 (by show _<((6:Nat):Int);omega)) (λj hj=>?_);refine Def.bd (Def.at (by have:=hj.2;simpa using this)) (λl hl=>?_);have hl':zFx l:=by
  simp only [List.mem_cons,List.not_mem_nil,or_false] at hl;rcases hl with rfl | rfl | rfl | rfl | rfl | rfl<;>(unfold zFx;decide)
 refine Def.bd (Def.ck (zEo (by have:=hl'.2.1;omega))) (λ_ _=>?_);exact Def.s ⟨hl',h2⟩
def zCt (L:List By):By:=L.flatMap λl=>l++[10]
theorem fK (L:List By) (h:∀ l∈L,zFx l):(zCt L).length<=9*L.length:=by
 induction L with
 | nil=>simp [zCt]
 | cons a r ih=>
  have h1:=(h a (by simp)).2.1;have h2:=ih (λl hl=>h l (by simp [hl]));simp only [zCt,List.flatMap_cons,List.length_append,List.length_cons,List.length_nil] at h2 ⊢;omega
theorem zJc (c:zI) (hc:fJ c):Def (rA c) (λr=>(∃ L,r.1=zCt L/\1<=L.length/\L.length<=4/\∀ l∈L,zFx l)/\fJ r.2):=by
 unfold rA;refine Def.bd (pQ c 4 hc (by decide)) (λr hr=>?_);obtain ⟨v,x⟩:=r;obtain ⟨h0,h1,h2⟩:=hr;simp only at h0 h1 h2;refine Def.bd (P:=λr=>(∃ L,r.1=zCt L/\1<=L.length/\L.length<=4/\∀ l∈L,zFx l)/\fJ ⟨r.2.1,r.2.2⟩) ?_ (λr hr=>Def.s hr);refine Def.loop (λs=>(∃ L,s.1=zCt L/\(L.length:Int)+s.2.1=1+v/\∀ l∈L,zFx l)/\0<=s.2.1/\fJ ⟨s.2.2.1,s.2.2.2⟩) (λs=>s.2.1.toNat) (λs hs=>?_) ?_ ?_
 ·obtain ⟨b,n,B,A⟩:=s;obtain ⟨⟨L,g1,g2,g3⟩,g4,g5⟩:=hs;simp only at g1 g2 g4 g5;have hfl:=fK L g3;unfold mA;refine Def.c (λh=>?_) (λh=>Def.s ?_)
  ·rw [decide_eq_true_iff] at h;refine Def.bd (zPi _ g5) (λr hr=>?_);obtain ⟨l,y⟩:=r;obtain ⟨k1,k2⟩:=hr;simp only at k1 k2;refine Def.bd (Def.app (by have:=k1.2.1;rw [g1];omega)) (λb1 hb1=>?_);refine Def.bd (Def.app (by have:=k1.2.1;rw [hb1,g1];simp;omega)) (λb2 hb2=>Def.s ?_);rw [yN (by omega) (by omega)];refine ⟨⟨⟨L++[l],?_,by simp only [List.length_append,List.length_cons,List.length_nil];omega,?_⟩,by simp only;omega,k2⟩,by simp only;omega⟩
   ·simp only [hb2,hb1,g1,zCt,List.flatMap_append,List.flatMap_cons,List.flatMap_nil,List.append_nil,List.append_assoc]
   ·intro z hz;rw [List.mem_append] at hz;rcases hz with hz | hz
    ·exact g3 z hz
    ·simp at hz;subst hz;exact k1
  ·rw [decide_eq_false_iff_not] at h;exact ⟨⟨L,g1,by omega,by omega,g3⟩,g5⟩
 ·refine ⟨⟨[],rfl,?_,by simp⟩,?_,h2⟩
  ·rw [yN (by omega) (by omega)];simp
  ·rw [yN (by omega) (by omega)];simp only;omega
 ·rw [yN (by omega) (by omega)];simp only;omega
theorem zLp {P:List α} {c:α} {t:List α} (h:P.drop i=c :: t):idx P (i:Int)=some c/\P.drop (i+1)=t/\i<P.length:=by
 have hi:i<P.length:=by
  apply Decidable.byContradiction;intro hn;rw [List.drop_eq_nil_of_le (by omega)] at h;cases h
 rw [zNm hi] at h;injection h with h1 h2;exact ⟨by rw [yR hi,h1],h2,hi⟩
theorem zOi (x:zB) (L:List By) (hp:x.Payload=zCt L) (h4:L.length<=4) (hL:∀ l∈L,zFx l):uR x=some L:=by
 have hfl:=fK L hL;have hpl:x.Payload.length<=36:=by rw [hp];omega
 have hd:Def (zN (xJ x) FU ([],[],0)) (λr=>r=.inr (L,[])):=by
  refine Def.loop (λs=>∃ i:Nat,s.2.2=(i:Int)/\i<=x.Payload.length/\((s.1=L/\s.2.1=[]/\x.Payload.drop i=[])∨∃ suf rest,L=s.1++(s.2.1++suf) :: rest/\x.Payload.drop i=suf++10 :: zCt rest)) (λs=>x.Payload.length - s.2.2.toNat) (λs hs=>?_) ?_ ?_
  ·obtain ⟨out,line,i'⟩:=s;obtain ⟨i,g1,g2,g3⟩:=hs;simp only at g1 g3;subst g1;unfold xJ;rcases g3 with ⟨k1,k2,k3⟩ | ⟨suf,rest,k1,k2⟩
   ·refine Def.c (λh=>?_) (λ_=>Def.s (by rw [k1,k2]));rw [decide_eq_true_iff] at h;have:=congrArg List.length k3;simp at this;omega
   ·have hmem:line++suf∈L:=by rw [k1];simp
    have hln:=hL _ hmem;have hout:out.length<4:=by have:=congrArg List.length k1;simp at this;omega
    cases suf with
    | nil=>
     obtain ⟨j1,j2,j3⟩:=zLp (c:=10) (t:=zCt rest) k2;refine Def.c (λ_=>?_) (λh=>by rw [decide_eq_false_iff_not] at h;omega);refine Def.bd (P:=λr=>r=.inr (out++[line],[])) ?_ (λr hr=>?_)
     ·refine Def.bd (P:=λc=>c=10) (Def.of j1 rfl) (λc hc=>?_);subst hc;refine Def.c (λ_=>?_) (λh=>by simp at h);rw [List.append_nil] at hln;refine Def.bd (P:=λb=>b=false) (Def.c (λh=>?_) (λ_=>Def.s ?_)) (λb hb=>?_)
      ·have:=hln.1;simp at h;rw [h] at this;simp at this
      ·simp;omega
      subst hb;refine Def.bd (Def.app (by simp;omega)) (λo ho=>Def.s (by rw [ho]))
     ·subst hr;refine Def.s ?_;rw [wX (by omega)];refine ⟨⟨i+1,rfl,by omega,?_⟩,by simp only [Int.toNat_natCast];omega⟩;cases rest with
      | nil=>exact .inl ⟨by simp [k1],rfl,j2⟩
      | cons l r=>
       refine .inr ⟨l,r,?_,?_⟩
       ·simp [k1]
       ·rw [j2];simp [zCt]
    | cons c suf=>
     obtain ⟨j1,j2,j3⟩:=zLp (c:=c) (t:=suf++10 :: zCt rest) k2;have hc:=hln.2.2 c (by simp);refine Def.c (λ_=>?_) (λh=>by rw [decide_eq_false_iff_not] at h;omega);refine Def.bd (P:=λr=>r=.inr (out,line++[c])) ?_ (λr hr=>?_)
     ·refine Def.bd (P:=λd=>d=c) (Def.of j1 rfl) (λd hd=>?_);subst hd;refine Def.c (λh=>by simp at h;omega) (λ_=>?_);refine Def.bd (P:=λb=>b=false) (Def.c (λh=>?_) (λ_=>Def.s ?_)) (λb hb=>?_)
      ·simp at h;omega
      ·simp;omega
      subst hb;have:=hln.2.1;refine Def.bd (Def.app (by simp at this ⊢;omega)) (λo ho=>Def.s (by rw [ho]))
     ·subst hr;refine Def.s ?_;rw [wX (by omega)];refine ⟨⟨i+1,rfl,by omega,.inr ⟨suf,rest,by simp [k1],j2⟩⟩,by simp only [Int.toNat_natCast];omega⟩
  ·refine ⟨0,rfl,by omega,?_⟩;cases L with
   | nil=>exact .inl ⟨rfl,rfl,by rw [hp];rfl⟩
   | cons l r=>exact .inr ⟨l,r,by simp,by rw [hp];simp [zCt]⟩
  ·rw [hp];simp;omega
 obtain ⟨r,h1,h2⟩:=hd;subst h2;unfold uR;refine bd h1 ?_;rfl
structure pP (x:zB):Prop where
 r1:1<=x.Role
 r4:x.Role<=4
 v0:0<=x.Version
 v1:x.Version<=1000000
 n:oK x.Name=some true
 nl:x.Name.length<=12
 p:x.Payload.length<=64
 l:x.Role=4->∃ L,uR x=some L/\1<=L.length/\L.length<=4/\∀ l∈L,zFx l
theorem zD6 (x:zB) (h:pP x):vV x=some 0:=by
 obtain ⟨h1,h2,h3,h4,h5,h6,h7,h8⟩:=h;unfold vV;refine bd (a:=false) (cf (by simp;omega) (cf (by simp;omega) (cf (by simp;omega) (congrArg some (by simp;omega))))) ?_;refine cf rfl ?_;refine bd h5 ?_;refine cf rfl ?_;refine cf (by simp;omega) ?_;refine bd (a:=false) ?_ rfl;by_cases h:x.Role=4
 ·refine ct (by simp [h]) ?_;obtain ⟨L,l1,l2,_⟩:=h8 h;refine bd l1 ?_;refine congrArg some ?_;rw [beq_eq_false_iff_ne];omega
 ·exact cf (by simp [h]) rfl
theorem zOn:∀ n∈[([97]:By),[103,114,117,98],[108,105,110,117,120],[110,101,116,45,48],[116,119,101,108,118,101,45,98,121,116,101,115]],oK n=some true/\n.length<=12:=by
 intro n hn;simp only [List.mem_cons,List.not_mem_nil,or_false] at hn;rcases hn with rfl | rfl | rfl | rfl | rfl<;>exact ⟨by decide +kernel,by decide⟩
theorem zM7 (c:zI) (role:Int) (hc:fJ c) (h1:1<=role) (h4:role<=4):Def (qV c role) (λr=>pP r.1/\r.1.Role=role/\fJ r.2):=by
 unfold qV;refine Def.bd (P:=λa=>[a.a0,a.a1,a.a2,a.a3,a.a4]=[([97]:By),[103,114,117,98],[108,105,110,117,120],[110,101,116,45,48],[116,119,101,108,118,101,45,98,121,116,101,115]]) (Def.s rfl) (λa ha=>?_);rw [ha];refine Def.bd (pQ c 5 hc (by decide)) (λr hr=>?_);obtain ⟨v1,c1⟩:=r;obtain ⟨p1,p2,p3⟩:=hr;simp only at p1 p2 p3;refine Def.bd (Def.idx p1 (by simpa using p2)) (λnme hn=>?_);obtain ⟨n1,n2⟩:=zOn nme hn;refine Def.bd (pQ c1 5 p3 (by decide)) (λr hr=>?_);obtain ⟨v2,c2⟩:=r;obtain ⟨q1,q2,q3⟩:=hr;simp only at q1 q2 q3;refine Def.bd (P:=λr=>fJ ⟨r.1,r.2.1⟩/\0<=r.2.2/\r.2.2<=1000000) ?_ (λr hr=>?_)
 ·refine Def.bd (pQ c2 9 q3 (by decide)) (λr hr=>?_);obtain ⟨v3,c3⟩:=r;obtain ⟨s1,s2,s3⟩:=hr;simp only at s1 s2 s3;refine Def.c (λ_=>?_) (λ_=>Def.s ⟨s3,by simp only;omega,by simp only;omega⟩);refine Def.bd (pQ c3 3 s3 (by decide)) (λr hr=>?_);obtain ⟨v4,c4⟩:=r;obtain ⟨u1,u2,u3⟩:=hr;simp only at u1 u2 u3;refine Def.s ⟨u3,?_,?_⟩<;>(simp only;rw [yN (by omega) (by omega)];omega)
 obtain ⟨B,A,ver⟩:=r;obtain ⟨w1,w2,w3⟩:=hr;simp only at w1 w2 w3;refine Def.c (λh=>?_) (λh=>?_)
 ·rw [beq_iff_eq] at h;refine Def.bd (zJc _ w1) (λr hr=>?_);obtain ⟨pl,c5⟩:=r;obtain ⟨⟨L,l1,l2,l3,l4⟩,z⟩:=hr;simp only at l1 z;have hfl:=fK L l4;refine Def.s ⟨⟨h1,h4,w2,w3,n1,n2,by simp only;rw [l1];omega,λ_=>⟨L,zOi _ L l1 l3 l4,l2,l3,l4⟩⟩,rfl,z⟩
 ·have hr4:role≠4:=by simpa using h
  refine Def.bd (pQ _ 7 w1 (by decide)) (λr hr=>?_);obtain ⟨v5,c5⟩:=r;obtain ⟨x1,x2,x3⟩:=hr;simp only at x1 x2 x3;refine Def.bd (Def.mkN x1 (by omega)) (λn hn=>?_);refine Def.bd (P:=λr=>fJ ⟨r.1,r.2.1⟩/\r.2.2.length=n) ?_ (λr hr=>?_)
  ·refine Def.loop (λs=>0<=s.1/\s.1<=n/\fJ ⟨s.2.1,s.2.2.1⟩/\s.2.2.2.length=n) (λs=>((n:Int) - s.1).toNat) (λs hs=>?_) ⟨Int.le_refl 0,by simp,x3,by simp⟩ (by simp;omega);obtain ⟨i,B,A,v⟩:=s;obtain ⟨y1,y2,y3,y4⟩:=hs;simp only at y1 y2 y3 y4;unfold kF;refine Def.c (λh=>?_) (λ_=>Def.s ⟨y3,y4⟩);rw [decide_eq_true_iff] at h;refine Def.bd (pQ _ 256 y3 (by decide)) (λr hr=>?_);obtain ⟨v6,c6⟩:=r;obtain ⟨_,_,z3⟩:=hr;refine Def.bd (Def.ixN y1 h) (λj hj=>?_);refine Def.bd (Def.upd (by omega)) (λu hu=>Def.s ?_);rw [yN (by omega) (by omega)];refine ⟨⟨by simp only;omega,by simp only;omega,z3,by simp only [hu,List.length_set];exact y4⟩,by simp only;omega⟩
  obtain ⟨B,A,v⟩:=r;obtain ⟨y1,y2⟩:=hr;simp only at y1 y2;refine Def.bd (Def.ck (beqT y2)) (λ_ _=>?_);refine Def.bd (Def.ck (zEo (by omega))) (λ_ _=>?_);refine Def.s ⟨⟨h1,h4,w2,w3,n1,n2,by simp only;omega,λe=>absurd e hr4⟩,rfl,y1⟩
set_option maxRecDepth 100000
def Bef (a b:zB):Prop:=a.Role<=b.Role/\¬ (a.Role=b.Role/\a.Name=b.Name)
structure jI (l:List zB):Prop where
 len:l.length<=8
 im:∀ x∈l,pP x
 prs:l.Pairwise Bef
 h1:∃ x∈l,x.Role=1
 h3:∃ x∈l,x.Role=3
theorem mS (h:i<l.length) {x:α} (hx:x∈l.take (i+1)):x∈l.take i∨x=l[i]:=by
 rw [List.take_add_one,List.mem_append] at hx;rcases hx with hx | hx
 ·exact .inl hx
 ·right;simpa [h] using hx
theorem zQ2 (l:List zB) (v:zB) (hl:l.length<=20):Def (zN (fB l v) FU (false,0)) (λr=>(r=true->∃ x∈l,x.Role=v.Role)/\(r=false->∀ x∈l,¬ (x.Role=v.Role/\x.Name=v.Name))):=by
 refine Def.loop (λs=>∃ i:Nat,s.2=(i:Int)/\i<=l.length/\(s.1=true->∃ x∈l,x.Role=v.Role)/\(s.1=false->∀ x∈l.take i,¬ (x.Role=v.Role/\x.Name=v.Name))) (λs=>l.length - s.2.toNat) (λs hs=>?_) ⟨0,rfl,by omega,by simp,by simp⟩ (by simp;omega);obtain ⟨ag,i'⟩:=s;obtain ⟨i,g1,g2,g3,g4⟩:=hs;simp only at g1 g3 g4;subst g1;unfold fB;refine Def.c (λh=>?_) (λh=>Def.s ⟨g3,λe=>?_⟩)
 ·have hi:i<l.length:=by have:=dT h;omega
  refine Def.bd (P:=λr=>(r=true->∃ x∈l,x.Role=v.Role)/\(r=false->ag=false/\¬ (l[i].Role=v.Role/\l[i].Name=v.Name))) ?_ (λr hr=>?_)
  ·refine Def.c (λha=>Def.s ⟨λ_=>g3 ha,λe=>by simp at e⟩) (λha=>?_);refine Def.bd (Def.at' hi) (λy hy=>?_);subst hy;refine Def.c (λhr=>?_) (λhr=>Def.s ⟨λe=>by simp at e,λ_=>⟨ha,λe=>by simp [e.1] at hr⟩⟩);rw [beq_iff_eq] at hr;refine Def.bd (Def.at' hi) (λy hy=>?_);subst hy;refine Def.s ⟨λ_=>⟨_,List.getElem_mem hi,hr⟩,λe=>⟨ha,λe2=>?_⟩⟩;simp [e2.2] at e
  ·refine Def.s ?_;rw [wX (by omega)];refine ⟨⟨i+1,rfl,by omega,hr.1,λe x hx=>?_⟩,by simp only [Int.toNat_natCast];omega⟩;obtain ⟨k1,k2⟩:=hr.2 e;rcases mS hi hx with hx | rfl
   ·exact g4 k1 x hx
   ·exact k2
 ·have:=dF h;rw [List.take_of_length_le (by omega)] at g4;exact g4 e
structure ChI (role:Int) (l:List zB):Prop where
 im:∀ x∈l,pP x/\x.Role<=role
 prs:l.Pairwise Bef
 h1:2<=role->∃ x∈l,x.Role=1
 h3:4<=role->∃ x∈l,x.Role=3
theorem zOe (role:Int) (h1:1<=role) (h4:role<=4) (l:List zB) (n:Int) (c:zI) (hc:fJ c) (hn:0<=n) (hl:(l.length:Int)+n<=2*role) (hI:ChI role l) (hk:role=1∨role=3->1<=n) :
  Def (zN (gZ role) FU (l,n,c.B,c.At)) (λr=>(r.1.length:Int)<=2*role/\ChI role r.1/\(role=1∨role=3->∃ x∈r.1,x.Role=role)/\fJ ⟨r.2.1,r.2.2⟩):=by
 refine Def.loop (λs=>0<=s.2.1/\(s.1.length:Int)+s.2.1<=2*role/\ChI role s.1/\(role=1∨role=3->1<=s.2.1∨∃ x∈s.1,x.Role=role)/\fJ ⟨s.2.2.1,s.2.2.2⟩) (λs=>s.2.1.toNat) (λs hs=>?_) ⟨hn,hl,hI,λe=>.inl (hk e),hc⟩ (by simp only;omega);obtain ⟨l,n,B,A⟩:=s;obtain ⟨g1,g2,g3,g4,g5⟩:=hs;simp only at g1 g2 g3 g4 g5;unfold gZ;refine Def.c (λh=>?_) (λh=>Def.s ?_)
 ·have hn:=dT h;refine Def.bd (P:=λr=>(r.1.length:Int)+(n - 1)<=2*role/\ChI role r.1/\(∃ x∈r.1,x.Role=role)/\fJ ⟨r.2.1,r.2.2⟩) ?_ (λr hr=>?_)
  ·refine Def.bd (zM7 _ role g5 h1 h4) (λr hr=>?_);obtain ⟨v,c⟩:=r;obtain ⟨k1,k2,k3⟩:=hr;simp only at k1 k2 k3;refine Def.bd (zQ2 l v (by omega)) (λag ha=>?_);refine Def.c (λhg=>?_) (λhg=>?_)
   ·have hgf:ag=false:=by simpa using hg
    refine Def.bd (Def.app (by simp;omega)) (λl' hl'=>Def.s ?_);subst hl';refine ⟨by simp;omega,⟨λx hx=>?_,?_,λe=>?_,λe=>?_⟩,⟨v,by simp,k2⟩,k3⟩
    ·rw [List.mem_append] at hx;rcases hx with hx | hx
     ·exact g3.im x hx
     ·simp at hx;subst hx;exact ⟨k1,by omega⟩
    ·rw [List.pairwise_append];refine ⟨g3.prs,by simp,λa ha' b hb=>?_⟩;simp at hb;subst hb;exact ⟨by have:=(g3.im a ha').2;omega,ha.2 hgf a ha'⟩
    ·obtain ⟨x,hx,e2⟩:=g3.h1 e;exact ⟨x,by simp [hx],e2⟩
    ·obtain ⟨x,hx,e2⟩:=g3.h3 e;exact ⟨x,by simp [hx],e2⟩
   ·have hgt:ag=true:=by simpa using hg
    obtain ⟨x,hx,e⟩:=ha.1 hgt;exact Def.s ⟨by simp only;omega,g3,⟨x,hx,by omega⟩,k3⟩
  ·obtain ⟨l',B',A'⟩:=r;obtain ⟨k1,k2,k3,k4⟩:=hr;simp only at k1 k2 k3 k4;refine Def.s ?_;rw [yN (by omega) (by omega)];exact ⟨⟨by simp only;omega,k1,k2,λ_=>.inr k3,k4⟩,by simp only;omega⟩
 ·have hn:=dF h;refine ⟨by simp only;omega,g3,λe=>?_,g5⟩;rcases g4 e with h | h
  ·omega
  ·exact h
theorem zGy (codes:By):Def (jW codes) jI:=by
 unfold jW;refine Def.bd (zR2 codes 200 (by decide) (by decide)) (λc hc=>?_);refine Def.bd (P:=jI) ?_ (λr hr=>Def.s hr);refine Def.loop (λs=>1<=s.2.1/\s.2.1<=5/\(s.1.length:Int)<=2*(s.2.1 - 1)/\(∀ x∈s.1,pP x/\x.Role<s.2.1)/\s.1.Pairwise Bef/\(2<=s.2.1->∃ x∈s.1,x.Role=1)/\(4<=s.2.1->∃ x∈s.1,x.Role=3)/\fJ ⟨s.2.2.1,s.2.2.2⟩) (λs=>(5 - s.2.1).toNat) (λs hs=>?_) ⟨Int.le_refl 1,by simp,by simp,by simp,by simp,by simp,by simp,hc⟩ (by simp);obtain ⟨l,role,B,A⟩:=s;obtain ⟨g1,g2,g3,g4,g5,g6,g7,g8⟩:=hs;simp only at g1 g2 g3 g4 g5 g6 g7 g8;unfold zAf;refine Def.c (λh=>?_) (λh=>Def.s ?_)
 ·have hr:=dT h;refine Def.bd (pQ _ 3 g8 (by decide)) (λr hr=>?_);obtain ⟨v,c1⟩:=r;obtain ⟨k1,k2,k3⟩:=hr;simp only at k1 k2 k3;refine Def.bd (P:=λr=>0<=r.1/\r.1<=2/\(role=1∨role=3->1<=r.1)/\fJ ⟨r.2.1,r.2.2⟩) ?_ (λr hr=>?_)
  ·refine Def.bd (P:=λb=>b=false->¬ (role=1∨role=3)) ?_ (λb hb=>?_)
   ·refine Def.c (λh=>Def.s (λe=>by simp at e)) (λh=>Def.s (λe=>?_));simp at h e;omega
   refine Def.c (λ_=>?_) (λhf=>Def.s ⟨k1,by simp only;omega,λe=>absurd e (hb hf),k3⟩);refine Def.bd (pQ _ 2 k3 (by decide)) (λr hr=>?_);obtain ⟨v2,c2⟩:=r;obtain ⟨j1,j2,j3⟩:=hr;simp only at j1 j2 j3;have e:IntKind.i64.wrap (1+v2)=1+v2:=yN (by omega) (by omega);exact Def.s ⟨by simp only [e];omega,by simp only [e];omega,λ_=>by simp only [e];omega,j3⟩
  obtain ⟨n,B1,A1⟩:=r;obtain ⟨j1,j2,j3,j4⟩:=hr;simp only at j1 j2 j3 j4;refine Def.bd (zOe role g1 hr l n ⟨B1,A1⟩ j4 j1 (by omega) ⟨λx hx=>⟨(g4 x hx).1,by have:=(g4 x hx).2;omega⟩,g5,g6,g7⟩ j3) (λr hr=>?_);obtain ⟨l',B2,A2⟩:=r;obtain ⟨m1,m2,m3,m4⟩:=hr;simp only at m1 m2 m3 m4;refine Def.s ?_;rw [yN (by omega) (by omega)];refine ⟨⟨by simp only;omega,by simp only;omega,by simp only;omega,λx hx=>⟨(m2.im x hx).1,by have:=(m2.im x hx).2;simp only;omega⟩,m2.prs,λe=>?_,λe=>?_,m4⟩,by simp only;omega⟩
  ·simp only at e;by_cases h1:role=1
   ·obtain ⟨x,hx,e2⟩:=m3 (.inl h1);exact ⟨x,hx,by omega⟩
   ·exact m2.h1 (by omega)
  ·simp only at e;by_cases h3:role=3
   ·obtain ⟨x,hx,e2⟩:=m3 (.inr h3);exact ⟨x,hx,by omega⟩
   ·exact m2.h3 (by omega)
 ·have hr:=dF h;exact ⟨by omega,λx hx=>(g4 x hx).1,g5,g6 (by omega),g7 (by omega)⟩
theorem pw {l:List zB} (h:l.Pairwise Bef) (hj:j<l.length) (hij:i<j):Bef (l[i]'(by omega)) l[j]:=List.pairwise_iff_getElem.mp h i j (by omega) hj hij
theorem zK1 (l:List zB) (h:jI l):uQ l=some 0:=by
 obtain ⟨hlen,him,hp,h1,h3⟩:=h;have hne:l.length≠0:=by
  obtain ⟨x,hx,_⟩:=h1;intro e;rw [List.length_eq_zero_iff] at e;rw [e] at hx;simp at hx
 have hl1:∀ i:Nat,i<l.length->Def (zN (xY l (i:Int)) FU 0) (λr=>r=.inr ()):=by
  intro i hi;refine Def.loop (λs=>∃ k:Nat,s=(k:Int)/\k<=i) (λs=>i - s.toNat) (λs hs=>?_) ⟨0,rfl,by omega⟩ (by simp;omega);obtain ⟨k,rfl,hk⟩:=hs;unfold xY;refine Def.c (λh=>?_) (λh=>Def.s rfl);have hki:=dT h;have hb:=pw hp hi (show k<i by omega);refine Def.bd (P:=λb=>b=false) ?_ (λb hb'=>?_)
  ·refine Def.bd (Def.at' (show k<l.length by omega)) (λy hy=>?_);subst hy;refine Def.bd (Def.at' hi) (λy hy=>?_);subst hy;refine Def.c (λhr=>?_) (λ_=>Def.s rfl);rw [beq_iff_eq] at hr;refine Def.bd (Def.at' (show k<l.length by omega)) (λy hy=>?_);subst hy;refine Def.bd (Def.at' hi) (λy hy=>?_);subst hy;refine Def.s ?_;rw [beq_eq_false_iff_ne];exact λe=>hb.2 ⟨hr,e⟩
  subst hb';refine Def.s ?_;rw [wX (by omega)];exact ⟨⟨k+1,rfl,by omega⟩,by simp only [Int.toNat_natCast];omega⟩
 have hd:Def (zN (xH l) FU (false,false,0)) (λr=>r=.inr (true,true)):=by
  refine Def.loop (λs=>∃ i:Nat,s.2.2=(i:Int)/\i<=l.length/\((∃ x∈l.take i,x.Role=1)->s.1=true)/\((∃ x∈l.take i,x.Role=3)->s.2.1=true)) (λs=>l.length - s.2.2.toNat) (λs hs=>?_) ⟨0,rfl,by omega,by simp,by simp⟩ (by simp;omega);obtain ⟨f,k,i'⟩:=s;obtain ⟨i,g1,g2,g3,g4⟩:=hs;simp only at g1 g3 g4;subst g1;unfold xH;refine Def.c (λh=>?_) (λh=>Def.s ?_)
  ·have hi:i<l.length:=by have:=dT h;omega
   refine Def.bd (Def.at' hi) (λy hy=>?_);subst hy;refine Def.bd (P:=λr=>r=0) (Def.of (zD6 _ (him _ (List.getElem_mem hi))) rfl) (λr hr=>?_);subst hr;refine Def.c (λh=>by simp at h) (λ_=>?_);refine Def.bd (P:=λb=>b=false) ?_ (λb hb=>?_)
   ·refine Def.c (λh0=>?_) (λ_=>Def.s rfl);have h0':=dT h0;refine Def.bd (Def.at' hi) (λy hy=>?_);subst hy;rw [yN (by omega) (by omega),show (i:Int) - 1=((i - 1:Nat):Int) by omega];refine Def.bd (Def.at' (show i - 1<l.length by omega)) (λy hy=>?_);subst hy;have hb:=(pw hp hi (show i - 1<i by omega)).1;refine Def.s ?_;rw [decide_eq_false_iff_not];omega
   subst hb;refine Def.c (λh=>by simp at h) (λ_=>?_);refine Def.bd (hl1 i hi) (λr hr=>?_);subst hr;refine Def.bd (P:=λb=>f=true∨l[i].Role=1->b=true) ?_ (λb1 hb1=>?_)
   ·refine Def.c (λ_=>Def.s (λ_=>rfl)) (λhf=>?_);refine Def.bd (Def.at' hi) (λy hy=>?_);subst hy;refine Def.s (λe=>?_);rcases e with e | e
    ·rw [hf] at e;cases e
    ·rw [e];rfl
   refine Def.bd (P:=λb=>k=true∨l[i].Role=3->b=true) ?_ (λb2 hb2=>?_)
   ·refine Def.c (λ_=>Def.s (λ_=>rfl)) (λhf=>?_);refine Def.bd (Def.at' hi) (λy hy=>?_);subst hy;refine Def.s (λe=>?_);rcases e with e | e
    ·rw [hf] at e;cases e
    ·rw [e];rfl
   refine Def.s ?_;rw [wX (by omega)];refine ⟨⟨i+1,rfl,by omega,λe=>?_,λe=>?_⟩,by simp only [Int.toNat_natCast];omega⟩
   ·obtain ⟨x,hx,e⟩:=e;rcases mS hi hx with hx | rfl
    ·exact hb1 (.inl (g3 ⟨x,hx,e⟩))
    ·exact hb1 (.inr e)
   ·obtain ⟨x,hx,e⟩:=e;rcases mS hi hx with hx | rfl
    ·exact hb2 (.inl (g4 ⟨x,hx,e⟩))
    ·exact hb2 (.inr e)
  ·have:=dF h;rw [List.take_of_length_le (by omega)] at g3 g4;rw [g3 h1,g4 h3]
 obtain ⟨r,e,rfl⟩:=hd;unfold uQ;refine bd (a:=false) (cf ?_ (congrArg some ?_)) ?_
 ·rw [beq_eq_false_iff_ne];omega
 ·rw [decide_eq_false_iff_not];omega
 refine cf rfl ?_;refine bd e ?_;rfl
def qD (x:zB):By:=aT (aT (sK (sK [] 1 x.Role) 4 x.Version) x.Name) x.Payload
theorem zJu (x:zB):5<=(qD x).length/\(qD x).length<2 ^ 20:=by
 have h1:=bM (sK (sK [] 1 x.Role) 4 x.Version) x.Name;have h2:=bM (aT (sK (sK [] 1 x.Role) 4 x.Version) x.Name) x.Payload;have h3:(sK (sK [] 1 x.Role) 4 x.Version).length=5:=by rw [vQ,vQ];rfl
 refine ⟨?_,by unfold qD;omega⟩;unfold qD aT;simp only [List.length_append,vQ,h3];omega
theorem zEz:∀ f u,(decF f u).length<=f
 | 0,_=>Nat.le_refl _
 | f+1,u=>by
  unfold decF;cases Nat.blt u 10
  ·simp only [cond_false,List.length_append,List.length_singleton];have:=zEz f (u / 10);omega
  ·simp only [cond_true,List.length_singleton];omega
def lbl (x:zB):By:=(x.Name++[32])++decF 20 x.Version.toNat
def rgR (role:Int):Int:=if role=1 then 0 else if role=2 then 4 else if role=3 then 8 else if role=4 then 9 else -1
def imE (active:Int) (x:zB):zC:=⟨rgR x.Role,1,dgE active true (qD x),lbl x⟩
def zFy (x:zB):List By:=(uR x).getD []
def evR (active role:Int) (l:List zB):List zC:=l.flatMap λx=>if x.Role=role then (if role=4 then (zFy x).map (mkE 9 3 active) else [imE active x]) else []
def zF8 (active:Int):List zC:=(List.range 8).map λ(i:Nat)=>mkE (i:Int) 2 active [0,0,0,0]
def evs (l:List zB) (active:Int):List zC:=evR active 1 l++evR active 2 l++(zF8 active++evR active 3 l)++evR active 4 l
theorem zKs (x:zB) (h:pP x) (h4:x.Role=4):uR x=some (zFy x)/\(zFy x).length<=4/\∀ l∈zFy x,zFx l:=by
 obtain ⟨L,h1,_,h2,h3⟩:=h.l h4;unfold zFy;rw [h1];exact ⟨rfl,h2,h3⟩
theorem zCc (active role:Int) (x:zB) (h:pP x):(if x.Role=role then (if role=4 then (zFy x).map (mkE 9 3 active) else [imE active x]) else []).length<=4/\(x.Role=role∨(if x.Role=role then (if role=4 then (zFy x).map (mkE 9 3 active) else [imE active x]) else []).length=0):=by
 by_cases hr:x.Role=role
 ·rw [if_pos hr];refine ⟨?_,.inl hr⟩;by_cases h4:role=4
  ·rw [if_pos h4,List.length_map];exact (zKs x h (by omega)).2.1
  ·rw [if_neg h4];simp
 ·rw [if_neg hr];exact ⟨by simp,.inr rfl⟩
theorem zRv (active role:Int) (l:List zB) (h:∀ x∈l,pP x):(evR active role l).length<=4*l.length:=by
 induction l with
 | nil=>simp [evR]
 | cons x t ih=>
  have h1:=(zCc active role x (h x (List.mem_cons_self ..))).1;have h2:=ih (λy hy=>h y (List.mem_cons_of_mem _ hy));unfold evR at h2 ⊢;rw [List.flatMap_cons,List.length_append,List.length_cons];omega
theorem zMa (active:Int) (l:List zB) (h:∀ x∈l,pP x):(evR active 1 l).length+(evR active 2 l).length+(evR active 3 l).length+(evR active 4 l).length<=4*l.length:=by
 induction l with
 | nil=>simp [evR]
 | cons x t ih=>
  have h0:=zCc active 1 x (h x (List.mem_cons_self ..));have h1:=zCc active 2 x (h x (List.mem_cons_self ..));have h2:=zCc active 3 x (h x (List.mem_cons_self ..));have h3:=zCc active 4 x (h x (List.mem_cons_self ..));have hi:=ih (λy hy=>h y (List.mem_cons_of_mem _ hy));unfold evR at hi ⊢;rw [List.flatMap_cons,List.flatMap_cons,List.flatMap_cons,List.flatMap_cons,List.length_append,List.length_append,List.length_append,List.length_append,List.length_cons];omega
theorem zEh (active:Int):(zF8 active).length=8:=by simp [zF8]
theorem zQe (l:List zB) (active:Int) (h:jI l):8<=(evs l active).length/\(evs l active).length<=40:=by
 have h1:=zMa active l h.im;have h2:=h.len;have h3:=zEh active;unfold evs;simp only [List.length_append];omega
set_option maxRecDepth 100000
theorem zL0 (n m:Int) (hm:1<=m) (hm2:m<2 ^ 40):Def (cI n m) (λr=>0<=r/\r<m):=by
 unfold cI;refine Def.c (λh=>by have:=dT h;omega) (λ_=>?_);refine Def.bd (Def.ck (by simp;omega)) (λ_ _=>?_);have h1:-m<Int.tmod n m:=by
  have:=Int.lt_tmod_of_pos n (by omega:0<m);omega
 have h2:Int.tmod n m<m:=Int.tmod_lt_of_pos n (by omega);refine Def.bd (P:=λr=>0<=r/\r<m) ?_ (λr hr=>Def.s hr);refine Def.c (λh=>Def.s ?_) (λh=>Def.s ?_)
 ·have:=dT h;rw [yN (by omega) (by omega)];omega
 ·have:=dF h;omega
theorem zHj (a b:List α):(cpy a b).length=a.length:=by
 unfold cpy;simp;omega
set_option maxRecDepth 100000
def siz (a:Int):Int:=if a=0 then 20 else if a=1 then 32 else 0
theorem zRm (a:Int):zGm a=some (siz a):=by
 unfold zGm siz;by_cases h0:a=0
 ·rw [if_pos h0];exact ct (by simp [h0]) rfl
 ·rw [if_neg h0];refine cf (by simp [h0]) ?_;by_cases h1:a=1
  ·rw [if_pos h1];exact ct (by simp [h1]) rfl
  ·rw [if_neg h1];exact cf (by simp [h1]) rfl
def Fit (e:zC) (active:Int) (a:Nat):Prop:=((e.Digests.getD a []).length:Int)=if e.Kind≠5/\tH active (a:Int)=true then siz (a:Int) else 0
theorem nf2 (h:∃ i,i<2/\¬ Fit e active i):¬ (Fit e active 0/\Fit e active 1):=by
 obtain ⟨i,hi,hn⟩:=h;intro ⟨h0,h1⟩;have:i=0∨i=1:=by omega
 rcases this with rfl | rfl
 ·exact hn h0
 ·exact hn h1
theorem zOk {has:Option Bool} {size:Option Int} (h1:has=some (tH active (a:Int))) (h2:size=some (siz (a:Int))) :
  Def ((bif (e.Kind != 5) then has else some false:Option Bool).bind λv=>bif v then size else some 0) (λw=>w=if e.Kind≠5/\tH active (a:Int)=true then siz (a:Int) else 0):=by
 subst h1 h2;by_cases hk:e.Kind=5
 ·rw [show (e.Kind != 5)=false by simp [hk]];exact Def.s (by rw [if_neg (λh=>h.1 hk)])
 ·rw [show (e.Kind != 5)=true by simp [hk]];cases hb:tH active (a:Int)
  ·exact Def.s (by rw [if_neg (λh=>by cases h.2)])
  ·exact Def.s (by rw [if_pos ⟨hk,rfl⟩])
theorem zLn {w:Int} (hl:a<e.Digests.length) (hw:w=if e.Kind≠5/\tH active (a:Int)=true then siz (a:Int) else 0):((e.Digests[a].length:Int) != w)=false↔Fit e active a:=by
 unfold Fit;rw [<- hw];simp [hl]
structure EvGood (e:zC) (active:Int):Prop where
 r0:0<=e.Register
 r1:e.Register<=11
 d:e.Data.length<=64
 l:e.Digests.length=2
 f0:Fit e active 0
 f1:Fit e active 1
structure EvC (e:zC) (active:Int):Prop extends EvGood e active where
 a1:1<=active
 a3:active<=3
 k1:1<=e.Kind
 k5:e.Kind<=5
theorem or6 {a d e f:Bool}:Def (bif a then some true else bif b then some true else bif c then some true else bif d then some true else bif e then some true else some f) (λr=>r=(a||b||c||d||e||f)):=by
 cases a<;>cases b<;>cases c<;>cases d<;>cases e<;>cases f<;>exact Def.s rfl
theorem zRd (h:b=(decide (active<1)||decide (3<active)||decide (e.Register<0)||decide (11<e.Register)||decide (e.Kind<1)||decide (5<e.Kind))) :
  b=false↔(1<=active/\active<=3/\0<=e.Register/\e.Register<=11/\1<=e.Kind/\e.Kind<=5):=by
 subst h;simp only [Bool.or_eq_false_iff,decide_eq_false_iff_not];omega
def bnk (n:Nat):List By:=List.replicate 12 (List.replicate n 0)++List.replicate 4 (List.replicate n 255)
structure zIs (active:Int) (r:zF):Prop where
 b:∃ b0 b1,r.Banks=[b0,b1]/\b0.length=(if tH active 0=true then 16 else 0)/\b1.length=(if tH active 1=true then 16 else 0)/\(∀ x∈b0,x.length<=32)/\(∀ x∈b1,x.length<=32)
def upR (act:Bool) (bk:List By) (reg:Int) (f:By->By):List By:=if act=true then bk.set reg.toNat (f (bk.getD reg.toNat [])) else bk
def ext (active:Int) (e:zC) (r:zF):zF:=
 ⟨[upR (tH active 0) (r.Banks.getD 0 []) e.Register (λx=>zCp (x++e.Digests.getD 0 [])),upR (tH active 1) (r.Banks.getD 1 []) e.Register (λx=>sha (x++e.Digests.getD 1 []))],IntKind.i64.wrap (r.Updates+1)⟩
theorem zMh (act:Bool) (bk:List By) (reg:Int) (f:By->By):(upR act bk reg f).length=bk.length:=by unfold upR;split<;>simp
theorem zO7 {act:Bool} {reg:Int} {f:By->By} (h:∀ x∈bk,x.length<=32) (hf:∀ x,(f x).length<=32):∀ x∈upR act bk reg f,x.length<=32:=by
 intro x hx;unfold upR at hx;split at hx
 ·rcases List.mem_or_eq_of_mem_set hx with hx | hx
  ·exact h x hx
  ·rw [hx];exact hf _
 ·exact h x hx
theorem zVw {r:zF} (h:zIs active r):zIs active (ext active e r):=by
 obtain ⟨⟨b0,b1,hb,l0,l1,m0,m1⟩⟩:=h;unfold ext;rw [hb];exact ⟨⟨_,_,rfl,by rw [zMh];exact l0,by rw [zMh];exact l1,zO7 m0 (λx=>by rw [zIr];omega),zO7 m1 (λx=>by rw [gG];omega)⟩⟩
set_option maxRecDepth 100000
theorem act3 {a:Int} (h1:1<=a) (h3:a<=3):a=1∨a=2∨a=3:=by omega
theorem zDv (n:Nat):(bnk n).length=16:=by simp [bnk]
theorem zHu (n:Nat) (h:n<=32):∀ x∈bnk n,x.length<=32:=by
 intro x hx;simp only [bnk,List.mem_append,List.mem_replicate] at hx;rcases hx with ⟨_,rfl⟩ | ⟨_,rfl⟩<;>simp [h]
def zRk (active:Int):zF:=⟨[if tH active 0=true then bnk 20 else [],if tH active 1=true then bnk 32 else []],0⟩
theorem zRc (active:Int) (h1:1<=active) (h3:active<=3):zIs active (zRk active):=by
 rcases act3 h1 h3 with rfl | rfl | rfl
 ·exact ⟨⟨_,_,rfl,zDv 20,rfl,zHu 20 (by omega),(by intro x hx;cases hx)⟩⟩
 ·exact ⟨⟨_,_,rfl,rfl,zDv 32,(by intro x hx;cases hx),zHu 32 (by omega)⟩⟩
 ·exact ⟨⟨_,_,rfl,zDv 20,zDv 32,zHu 20 (by omega),zHu 32 (by omega)⟩⟩
def rpl (active:Int) (es:List zC):zF:=es.foldl (λr e=>if e.Kind=5 then r else ext active e r) (zRk active)
theorem zL2 (active:Int):∀ (es:List zC) (r:zF),zIs active r->zIs active (es.foldl (λr e=>if e.Kind=5 then r else ext active e r) r)
 | [],_,h=>h
 | e :: es,r,h=>by
  rw [List.foldl_cons];refine zL2 active es _ ?_;split
  ·exact h
  ·exact zVw h
theorem zVb (active:Int) (es:List zC) (h1:1<=active) (h3:active<=3):zIs active (rpl active es):=zL2 active es _ (zRc active h1 h3)
theorem zLr (h:∀ x∈bk,x.length<=32) (n:Nat):(bk.getD n []).length<=32:=by
 by_cases hn:n<bk.length
 ·have:bk.getD n []=bk[n]:=by simp [hn]
  rw [this];exact h _ (List.getElem_mem hn)
 ·have:bk.getD n []=[]:=by simp [List.getD,List.getElem?_eq_none (by omega:bk.length<=n)]
  rw [this];simp
set_option maxRecDepth 100000
theorem eG (a:Int):sS a=some (siz a):=zRm a
theorem zLa (e:zC) (active:Int):Def (lN e active) (λr=>r=0↔EvC e active):=by
 unfold lN;refine Def.bd or6 (λb hb=>?_);have hb:=zRd hb;refine Def.c (λh=>Def.s ⟨λh=>(by cases h),λhc=>?_⟩) (λhbf=>?_)
 ·have:=hb.2 ⟨hc.a1,hc.a3,hc.r0,hc.r1,hc.k1,hc.k5⟩;rw [this] at h;cases h
 obtain ⟨h1,h2,h3,h4,h5,h6⟩:=hb.1 hbf;refine Def.c (λh=>Def.s ⟨λh=>(by cases h),λhc=>?_⟩) (λhd=>?_)
 ·have:=dT h;have:=hc.d;omega
 have hd':=dF hd;refine Def.c (λh=>Def.s ⟨λh=>(by cases h),λhc=>?_⟩) (λhl0=>?_)
 ·rw [hc.l] at h;cases h
 have hl:e.Digests.length=2:=by simp at hl0;omega
 refine Def.bd (aC e.Digests (nI e active) (λi=>Fit e active i) (λb=>b=27/\∃ i,i<2/\¬ Fit e active i) (by omega) (λa ha=>?_) ?_) (λr hr=>?_)
 ·unfold nI;refine Def.c (λ_=>?_) (λh=>by have:=dF h;omega);refine Def.bd (Def.at' ha) (λd hd=>?_);subst hd;refine Def.bd (zOk (e:=e) (active:=active) (a:=a) ?_ (by rw [eG];rfl)) (λw hw=>?_)
  ·refine bd (ckT (by simp)) ?_;have hw:IntKind.u64.wrap (a:Int)=(a:Int):=cV (by omega) (by omega);unfold tH;rw [hw]
  refine Def.c (λhne=>Def.s ⟨rfl,a,by omega,λhF=>?_⟩) (λhne=>Def.s ⟨wX (by omega),(zLn ha hw).1 hne⟩);rw [(zLn ha hw).2 hF] at hne;cases hne
 ·unfold nI;rw [hl];exact cf rfl rfl
 ·cases r with
  | inl b=>exact Def.s ⟨λh=>(by rw [hr.1] at h;cases h),λh=>absurd ⟨h.f0,h.f1⟩ (nf2 hr.2)⟩
  | inr u=>exact Def.s ⟨λ_=>⟨⟨h3,h4,by omega,hl,hr 0 (by omega),hr 1 (by omega)⟩,h1,h2,h5,h6⟩,λ_=>rfl⟩
theorem zTe (h:EvC e active):Def (lN e active) (λr=>r=0):=(zLa e active).mono λ_ hr=>hr.2 h
set_option maxRecDepth 100000
theorem zM8 (b:By) (h:b.length<2 ^ 40):sH b=some (RS.W ⟨b,0,0⟩):=by
 unfold sH;refine bd (yJ (by simp;omega)) ?_;rfl
set_option maxRecDepth 100000
structure LgGood (l:wN):Prop where
 ev:∀ e∈l.Events,EvC e l.Active
 n:l.Events.length<=40
set_option maxRecDepth 100000
def nY (e:zC):By:=[u8 e.Register,u8 e.Kind]++((beN ((e.Digests.getD 0 []).length:Int) 2 2++e.Digests.getD 0 [])++((beN ((e.Digests.getD 1 []).length:Int) 2 2++e.Digests.getD 1 [])++(beN (e.Data.length:Int) 2 2++e.Data)))
theorem gU (h:Fit e active a):(e.Digests.getD a []).length<=32:=by
 unfold Fit siz at h;split at h
 ·split at h
  ·omega
  ·split at h<;>omega
 ·omega
theorem zCb (h:EvGood e active):1<=(nY e).length/\(nY e).length<=136:=by
 have h0:=gU h.f0;have h1:=gU h.f1;have h2:=h.d;unfold nY;simp only [List.length_append,yY,List.length_cons,List.length_nil];omega
theorem Rem.eqv {l l':By} (h:Rem r l) (e:l'=l):Rem r l':=e▸h
theorem zSh (n:Int) (h0:0<=n) (h:n<256):((u8 n).toNat:Int)=n:=by
 obtain ⟨m,rfl⟩:=Int.eq_ofNat_of_zero_le h0;rw [fQ];omega
theorem Rem.byte {n:Int} (h:Rem r (u8 n :: rest)) (h0:0<=n) (hn:n<256):wV r 1=(n,r.to 1)/\Rem (r.to 1) rest:=by
 have h':Rem r ([u8 n]++rest):=h;refine ⟨h'.uintV rfl ?_ h0 (by omega),h'.to rfl⟩;have hb:beV [u8 n] 1=ior .u64 (nZ .u64 ((0:Nat):Int) 8) (IntKind.u64.wrap (((u8 n).toNat:Nat):Int)):=rfl;rw [hb,zFc 0 _ (by omega) (by have:=(u8 n).toNat_lt;omega)];have:=zSh n h0 hn;omega
theorem zSd (e:zC) (active:Int) (h:EvC e active):wW e=some true:=by
 have r0:=h.r0;have r1:=h.r1;have k1:=h.k1;have k5:=h.k5;have h2:=h.d;have hl:=h.l;have h0:=gU h.f0;have h1:=gU h.f1;have hd:Def (wW e) (λb=>b=true):=by
  unfold wW;refine Def.bd (P:=λb=>b=false) (Def.of (cf (by simp;omega) (cf (by simp;omega) (cf (by simp;omega) (cf (by simp;omega) (cf (by simp [hl]) rfl))))) (by simp;omega)) (λb hb=>?_);subst hb;refine Def.c (λh=>by cases h) (λ_=>?_);refine Def.bd (aC e.Digests (vO e) (λ_=>True) (λ_=>False) (by omega) (λi hi=>?_) ?_) (λy hy=>?_)
  ·unfold vO;refine Def.c (λ_=>?_) (λh=>by have:=dF h;omega);refine Def.bd (Def.at' hi) (λd hd=>?_);refine Def.bd (P:=λw=>w=32) (Def.of (eG 1) rfl) (λw hw=>?_);subst hw;have:d.length<=32:=by
    have hi2:i=0∨i=1:=by omega
    rcases hi2 with rfl | rfl
    ·have:(e.Digests.getD 0 [])=d:=by simp [hd,hi]
     rw [<- this];exact h0
    ·have:(e.Digests.getD 1 [])=d:=by simp [hd,hi]
     rw [<- this];exact h1
   exact Def.c (λh=>by have:=dT h;omega) (λ_=>Def.s ⟨wX (by omega),trivial⟩)
  ·unfold vO;exact cf (by simp) rfl
  ·cases y with
   | inl b=>exact hy.elim
   | inr u=>exact Def.s rfl
 obtain ⟨b,hb,rfl⟩:=hd;exact hb
theorem zRt (e:zC) (active:Int) (h:EvC e active):kW (nY e)=some (e,0):=by
 have hlen:=zCb h.toEvGood;have h0:=gU h.f0;have h1:=gU h.f1;have h2:=h.d;have r0:=h.r0;have r1:=h.r1;have k1:=h.k1;have k5:=h.k5;have hD:e.Digests=[e.Digests.getD 0 [],e.Digests.getD 1 []]:=by
  have hl:=h.l
  match hx:e.Digests,hl with
  | [a,b],_=>rfl
 have henc:=zSd e active h;have q0:Rem ⟨nY e,0,0⟩ (nY e):=⟨rfl,Nat.zero_le _,rfl⟩;have ok0:(RS.mk (nY e) 0 0).Ok:=⟨Nat.zero_le _,by simp;omega⟩;have w0:=zM8 (nY e) (by omega);have b0:(RS.mk (nY e) 0 0).b.length<2 ^ 40:=by show (nY e).length<_;omega
 generalize (RS.mk (nY e) 0 0)=s0 at *;unfold nY at q0;obtain ⟨e1,q1⟩:=Rem.byte q0 r0 (by omega);obtain ⟨e2,q2⟩:=Rem.byte q1 (by omega) (by omega);replace q2:Rem ((s0.to 1).to 1) ((beN ((e.Digests.getD 0 []).length:Int) 2 2++e.Digests.getD 0 [])++((beN ((e.Digests.getD 1 []).length:Int) 2 2++e.Digests.getD 1 [])++(beN (e.Data.length:Int) 2 2++e.Data))):=q2;rw [List.append_assoc] at q2;obtain ⟨e3,q3⟩:=Rem.blobN (m:=32) q2 (by omega) (by omega);rw [List.append_assoc] at q3;obtain ⟨e4,q4⟩:=Rem.blobN (m:=32) q3 (by omega) (by omega);have q4':=q4.eqv (l':=beN (e.Data.length:Int) 2 2++(e.Data++[])) (by rw [List.append_nil]);obtain ⟨e5,q5⟩:=Rem.blobN (m:=64) q4' (by omega) (by omega);have ok1:(s0.to 1).Ok:=⟨q1.at',by show s0.b.length<_;omega⟩;have ok2:((s0.to 1).to 1).Ok:=⟨q2.at',by show s0.b.length<_;omega⟩;generalize hs2:(s0.to 1).to 1=s2 at *;generalize hs3:s2.to (2+(e.Digests.getD 0 []).length)=s3 at *;have ok3:s3.Ok:=⟨q3.at',by rw [<- hs3,<- hs2];show s0.b.length<_;omega⟩;generalize hs4:s3.to (2+(e.Digests.getD 1 []).length)=s4 at *;have ok4:s4.Ok:=⟨q4.at',by rw [<- hs4,<- hs3,<- hs2];show s0.b.length<_;omega⟩;generalize hs5:s4.to (2+e.Data.length)=s5 at *;have ok5:s5.Ok:=⟨q5.at',by rw [<- hs5,<- hs4,<- hs3,<- hs2];show s0.b.length<_;omega⟩;unfold kW;refine bd w0 ?_;refine bd (a:=(e.Register,(s0.to 1).W)) ((vU s0 1 ok0 (by omega) (by omega)).trans (by rw [e1])) ?_;refine bd (a:=(e.Kind,s2.W)) ((vU (s0.to 1) 1 ok1 (by omega) (by omega)).trans (by rw [e2])) ?_;refine bd (a:=([e.Digests.getD 0 [],e.Digests.getD 1 []],s4.W.b_,s4.W.at_,s4.W.e_)) (two (b:=(1,[e.Digests.getD 0 []],s3.W.b_,s3.W.at_,s3.W.e_)) (c:=(2,[e.Digests.getD 0 [],e.Digests.getD 1 []],s4.W.b_,s4.W.at_,s4.W.e_)) ?_ ?_ rfl) ?_
 ·unfold lT;refine ct rfl ?_;refine bd (a:=((32:Nat):Int)) (eG 1) ?_;refine bd (a:=(e.Digests.getD 0 [],s3.W)) ((uO s2 32 ok2).trans (by rw [e3])) ?_;exact bd (yJ (by simp)) rfl
 ·unfold lT;refine ct rfl ?_;refine bd (a:=((32:Nat):Int)) (eG 1) ?_;refine bd (a:=(e.Digests.getD 1 [],s4.W)) ((uO s3 32 ok3).trans (by rw [e4])) ?_;exact bd (yJ (by simp)) rfl
 refine bd (a:=(e.Data,s5.W)) ((uO s4 64 ok4).trans (by rw [e5])) ?_;have he:(⟨e.Register,e.Kind,[e.Digests.getD 0 [],e.Digests.getD 1 []],e.Data⟩:zC)=e:=by rw [<- hD]
 refine bd (a:=false) ?_ ?_
 ·refine bd (a:=(0,s5.W)) ((sR s5 ok5).trans (by rw [q5.fin])) ?_;refine cf rfl ?_;refine bd (a:=true) ?_ rfl;show wW ⟨e.Register,e.Kind,[e.Digests.getD 0 [],e.Digests.getD 1 []],e.Data⟩=_;rw [he];exact henc
 refine cf rfl ?_;show some ((⟨e.Register,e.Kind,[e.Digests.getD 0 [],e.Digests.getD 1 []],e.Data⟩:zC),(0:Int))=_;rw [he]
set_option maxRecDepth 100000
def zAq (a r:Int):By:=[83,87,76,49]++(u8 a :: beN r 6 6)
def mD (es:List zC):By:=es.flatMap λe=>beN ((nY e).length:Int) 2 2++nY e
def tG (l:wN):By:=zAq l.Active l.Resets++mD l.Events
structure LgF (l:wN):Prop extends LgGood l where
 a1:1<=l.Active
 a3:l.Active<=3
 r0:0<=l.Resets
 r1:l.Resets<=1099511627776
theorem dZ (a r:Int):(zAq a r).length=11:=by simp [zAq,yY]
theorem zE3:∀ es:List zC,(∀ e∈es,EvC e active)->(mD es).length<=138*es.length
 | [],_=>by simp [mD]
 | e :: es,h=>by
  have h1:=zE3 es (λx hx=>h x (List.mem_cons_of_mem _ hx));have h2:=zCb (h e (List.mem_cons_self ..)).toEvGood;unfold mD at h1 ⊢;rw [List.flatMap_cons,List.length_append,List.length_append,yY,List.length_cons];omega
theorem zM9 (h:i<es.length):mD (es.take (i+1))=mD (es.take i)++(beN ((nY es[i]).length:Int) 2 2++nY es[i]):=by
 unfold mD;rw [List.take_add_one,List.flatMap_append];simp [h]
theorem zM1 (h:i<es.length):mD (es.drop i)=beN ((nY es[i]).length:Int) 2 2++(nY es[i]++mD (es.drop (i+1))):=by
 rw [List.drop_eq_getElem_cons h];unfold mD;rw [List.flatMap_cons,List.append_assoc]
theorem zN4 (es:List zC) (i:Nat):mD es=mD (es.take i)++mD (es.drop i):=by
 unfold mD;rw [<- List.flatMap_append,List.take_append_drop]
theorem zQy (l:wN) (h:LgGood l):11<=(tG l).length/\(tG l).length<=5531:=by
 have h1:=zE3 l.Events h.ev;have h2:=h.n;unfold tG;rw [List.length_append,dZ];omega
theorem zKq (a r:Int) (h1:1<=a) (h3:a<=3) (h0:0<=r) (hr:r<=1099511627776):∃ b,vK a r=some b/\b.length=11:=by
 refine ⟨sK (sK [83,87,76,49] 1 a) 6 r,?_,by rw [vQ,vQ];rfl⟩;unfold vK;refine bd (a:=false) (cf (by simp;omega) (cf (by simp;omega) (cf (by simp;omega) (congrArg some (by simp;omega))))) ?_;refine cf rfl ?_;refine bd (qW _ 1 a (by omega) (by omega) (by simp)) ?_;exact bd (qW _ 6 r (by omega) (by omega) (by rw [vQ];simp)) rfl
def atE (l:wN) (i:Nat):Nat:=11+(mD (l.Events.take i)).length
theorem zNy (l:wN) (h:LgF l):nC (tG l)=some (l,0):=by
 have hn:=h.n;have hlen:=zQy l h.toLgGood;obtain ⟨hb,hh1,hh2⟩:=zKq l.Active l.Resets h.a1 h.a3 h.r0 h.r1;have a1:=h.a1;have a3:=h.a3;have r0:=h.r0;have r1:=h.r1;have S:∀ i,Rem ⟨tG l,atE l i,0⟩ (mD (l.Events.drop i)):=by
  intro i;have e:tG l=(zAq l.Active l.Resets++mD (l.Events.take i))++mD (l.Events.drop i):=by
   unfold tG;rw [List.append_assoc,<- zN4]
  have hl:(zAq l.Active l.Resets++mD (l.Events.take i)).length=atE l i:=by rw [List.length_append,dZ];rfl
  refine ⟨rfl,?_,?_⟩
  ·show atE l i<=(tG l).length;rw [e,List.length_append,hl];omega
  ·show (tG l).drop (atE l i)=_;rw [e,<- hl,List.drop_left]
 have ok:∀ i,(RS.mk (tG l) (atE l i) 0).Ok:=λi=>⟨(S i).at',by show (tG l).length<_;omega⟩;have q0:Rem ⟨tG l,0,0⟩ ([83,87,76,49]++(u8 l.Active :: (beN l.Resets 6 6++mD l.Events))):=⟨rfl,Nat.zero_le _,by show (tG l).drop 0=_;unfold tG zAq;simp⟩;have e1:=Rem.raw (n:=4) q0 rfl;have q1:=Rem.to (n:=4) q0 rfl;obtain ⟨e2,q2⟩:=Rem.byte q1 (by omega) (by omega);obtain ⟨e3,q3⟩:=Rem.uintI q2 (by omega) r0 (by omega) (by omega);have ok0:(RS.mk (tG l) 0 0).Ok:=⟨Nat.zero_le _,by show (tG l).length<_;omega⟩;have ok1:((RS.mk (tG l) 0 0).to 4).Ok:=⟨q1.at',by show (tG l).length<_;omega⟩;have ok2:(((RS.mk (tG l) 0 0).to 4).to 1).Ok:=⟨q2.at',by show (tG l).length<_;omega⟩;have e4:((((RS.mk (tG l) 0 0).to 4).to 1).to 6)=⟨tG l,atE l 0,0⟩:=by
  show (⟨tG l,0+4+1+6,0⟩:RS)=_;unfold atE;simp [mD]
 rw [e4] at e3;unfold nC;refine cf (by simp;omega) ?_;refine bd (a:=(l,(atE l l.Events.length:Int),0)) ?_ (cf rfl rfl);unfold mO;refine bd (a:=(l,(atE l l.Events.length:Int),0)) ?_ rfl;refine bd (zM8 _ (by omega)) ?_;refine bd (a:=([83,87,76,49],((RS.mk (tG l) 0 0).to 4).W)) ((zC2 _ 4 ok0).trans (by rw [e1])) ?_;refine cf rfl ?_;refine bd (a:=(l.Active,(((RS.mk (tG l) 0 0).to 4).to 1).W)) ((vU _ 1 ok1 (by omega) (by omega)).trans (by rw [e2])) ?_;refine bd (a:=(l.Resets,(RS.mk (tG l) (atE l 0) 0).W)) ((vU _ 6 ok2 (by omega) (by omega)).trans (by rw [e3])) ?_;refine bd (a:=(false,tG l,(atE l 0:Int),0)) ?_ ?_
 ·refine bd (a:=(0,(RS.mk (tG l) (atE l 0) 0).W)) rfl ?_;refine cf rfl ?_;refine bd hh1 ?_;rw [hh2];rfl
 refine cf rfl ?_;refine bd (a:=((atE l l.Events.length:Int),0,l.Events)) ?_ rfl;refine yK l.Events.length (λi=>((atE l i:Int),l.Events.take i,tG l,(atE l i:Int),0)) ?_ (λi hi=>?_) ?_ (xW (by omega))
 ·simp [atE,mD]
 ·have hE:=h.ev _ (List.getElem_mem hi);have hel:=zCb hE.toEvGood;have hS:=S i;rw [zM1 hi] at hS;have hleft:=hS.left;rw [List.length_append,yY] at hleft;obtain ⟨f1,f2⟩:=Rem.blobN (m:=65535) hS (by omega) (by omega);have f3:(RS.mk (tG l) (atE l i) 0).to (2+(nY l.Events[i]).length)=⟨tG l,atE l (i+1),0⟩:=by
   show (⟨tG l,atE l i+(2+(nY l.Events[i]).length),0⟩:RS)=_;unfold atE;rw [zM9 hi,List.length_append,List.length_append,yY,Nat.add_assoc]
  rw [f3] at f1;have lf:∀ k,IntKind.i64.wrap (((tG l).length:Int) - (atE l k:Int))=((RS.mk (tG l) (atE l k) 0).left:Int):=λk=>zHz _ (ok k);have hck:=zTe hE;obtain ⟨c,hc1,rfl⟩:=hck;unfold qT;refine bd (a:=(((RS.mk (tG l) (atE l i) 0).left:Int),(RS.mk (tG l) (atE l i) 0).W)) (congrArg some (by rw [<- lf i];rfl)) ?_;refine ct (by simp;omega) ?_;refine bd (a:=(nY l.Events[i],(RS.mk (tG l) (atE l (i+1)) 0).W)) ((uO _ 65535 (ok i)).trans (by rw [f1])) ?_;refine bd (zRt _ _ hE) ?_;refine cf (by simp;omega) ?_;refine bd (a:=(0,(RS.mk (tG l) (atE l (i+1)) 0).W)) rfl ?_;refine cf rfl ?_;refine bd (a:=false) (cf rfl (bd hc1 rfl)) ?_;refine cf rfl ?_;refine bd (yJ (by simp;omega)) ?_;refine bd (a:=(((RS.mk (tG l) (atE l (i+1)) 0).left:Int),(RS.mk (tG l) (atE l (i+1)) 0).W)) (congrArg some (by rw [<- lf (i+1)];rfl)) ?_;have hat:IntKind.i64.wrap (((tG l).length:Int) - ((RS.mk (tG l) (atE l (i+1)) 0).left:Int))=(atE l (i+1):Int):=by
   have:=(ok (i+1)).1;simp only [RS.left] at *;rw [yN (by omega) (by omega)];omega
  have ht:l.Events.take (i+1)=l.Events.take i++[l.Events[i]]:=by rw [List.take_add_one];simp [hi]
  rw [ht];show some (Sum.inl (IntKind.i64.wrap (((tG l).length:Int) - ((RS.mk (tG l) (atE l (i+1)) 0).left:Int)),_))=_;rw [hat];rfl
 ·have hS:=S l.Events.length;rw [List.drop_length] at hS;have hleft:=hS.left;unfold qT;refine bd (a:=(((RS.mk (tG l) (atE l l.Events.length) 0).left:Int),(RS.mk (tG l) (atE l l.Events.length) 0).W)) (congrArg some (by rw [<- zHz _ (ok l.Events.length)];rfl)) ?_;refine cf (by rw [hleft];rfl) ?_;rw [List.take_length]
end Go.Proofs.TT
