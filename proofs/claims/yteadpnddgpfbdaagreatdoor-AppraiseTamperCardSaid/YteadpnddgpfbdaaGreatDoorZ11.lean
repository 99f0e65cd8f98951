/- AppraiseTamper (law 37: evidence that was accepted is refused if its log is changed or cut, and for another challenge, but for a collision of the frames of the nonce) is proved for every input, under no condition of ours; this text is a part of that proof. -/
import Derived.Test.YteadpnddgpfbdaaGreatDoorZ4
import Derived.Test.YteadpnddgpfbdaaGreatDoorZ5
set_option linter.all false
namespace Go.Sw
open Go
theorem zIc {X Y:Type} {step:X->Option (X ⊕ Y)} {r:Y} (n:Nat) (s:Nat->X) (h:∀ i,i<n->step (s i)=some (.inl (s (i+1)))) (he:step (s n)=some (.inr r)) :
  ∀ (d k fuel:Nat),k+d=n->d<fuel->zE step fuel (s k)=some r:=by
 intro d
 induction d with
 | zero=>
  intro k fuel hk hf
  obtain ⟨f,rfl⟩:∃ f,fuel=f+1:=⟨fuel - 1,by omega⟩
  have:k=n:=by omega
  subst this
  simp [zE,he]
 | succ d ih=>
  intro k fuel hk hf
  obtain ⟨f,rfl⟩:∃ f,fuel=f+1:=⟨fuel - 1,by omega⟩
  simp only [zE,h k (by omega)]
  exact ih (k+1) f (by omega) (by omega)
theorem zK {X Y:Type} {step:X->Option (X ⊕ Y)} {r:Y} {x:X} (n:Nat) (s:Nat->X) (h0:s 0=x) (h:∀ i,i<n->step (s i)=some (.inl (s (i+1)))) (he:step (s n)=some (.inr r)) {fuel:Nat} (hf:n<fuel) :
  zE step fuel x=some r:=by
 subst h0
 exact zIc n s h he n 0 fuel (by omega) hf
theorem aD {X Y:Type} {step:X->Option (X ⊕ Y)} (I:X->Prop) (m:X->Nat) (Q:Y->Prop)
  (h:∀ s,I s->(∃ s',step s=some (.inl s')/\I s'/\m s'<m s)∨(∃ r,step s=some (.inr r)/\Q r)) :
  ∀ (fuel:Nat) (s:X),I s->m s<fuel->∃ r,zE step fuel s=some r/\Q r:=by
 intro fuel
 induction fuel with
 | zero=>intro s _ hm;omega
 | succ f ih=>
  intro s hs hm
  rcases h s hs with ⟨s',h1,h2,h3⟩ | ⟨r,h1,h2⟩
  ·obtain ⟨r,h4,h5⟩:=ih s' h2 (by omega)
   exact ⟨r,by simp [zE,h1,h4],h5⟩
  ·exact ⟨r,by simp [zE,h1],h2⟩
theorem yS {n:Nat} (h:n<2 ^ 64):n<FU:=by
 have:(2:Nat) ^ 64<FU:=by decide
 omega
theorem zV {n:Int} (h1:-9223372036854775808<=n) (h2:n<=9223372036854775807):IntKind.i64.wrap n=n:=by rw [IntKind.wrap_i64];omega
theorem zT0 {n:Int} (h1:0<=n) (h2:n<=4294967295):IntKind.u32.wrap n=n:=by rw [IntKind.wrap_u32];omega
theorem gQ {n:Int} (h1:0<=n) (h2:n<=18446744073709551615):IntKind.u64.wrap n=n:=by rw [IntKind.wrap_u64];omega
theorem zR {α:Type} {b:Nat} {l m:List α} (h:(l.length+m.length)*b<=140737488355328):zZ b l m=some (l++m):=by
 simp [zZ,LIM,h]
theorem xH {α:Type} {l:List α} {i:Nat} (h:i<l.length):idx l (i:Int)=some l[i]:=by
 simp [idx,h]
theorem tX {α:Type} {l:List α} {a b:Nat} (h:a<=b) (h2:b<=l.length):sub l (a:Int) (b:Int)=some ((l.drop a).take (b - a)):=by
 have:(0:Int)<=a/\(a:Int)<=b/\(b:Int)<=l.length:=⟨by omega,by omega,by omega⟩
 simp [sub,this]
theorem bd {α β:Type} {o:Option α} {a:α} {f:α->Option β} {r:Option β} (h:o=some a) (k:f a=r):o.bind f=r:=by subst h;exact k
theorem ltk {α β:Type} {e:α} {f:α->Option β} {r:Option β} (k:f e=r):lt e f=r:=k
theorem ct {α:Type} {c:Bool} {a b r:α} (h:c=true) (k:a=r):(bif c then a else b)=r:=by subst h;exact k
theorem cf {α:Type} {c:Bool} {a b r:α} (h:c=false) (k:b=r):(bif c then a else b)=r:=by subst h;exact k
theorem ckT {c:Bool} (h:c=true):ck c=some ():=by subst h;rfl
end Go.Sw
namespace Go.Proofs.TT
open Go Go.Sw
set_option maxRecDepth 100000
def rr (x n:Int):Int:=ior .u32 (zW .u32 x n) (tS .u32 x (32 - n))
theorem zG0 (k:IntKind) (a b:Int):ior k a b=ior k b a:=by simp [ior,BitVec.or_comm]
theorem oN (x n:Int) (h0:0<=n) (h1:n<=32):yR x n=some (rr x n):=by
 have h2:IntKind.u64.wrap (32 - n)=32 - n:=by rw [IntKind.wrap_u64];omega
 have h3:decide (0<=n)=true:=by simpa using h0
 simp only [yR,ck,lt,h2,h3,rr,cond_true,Option.bind_some]
theorem pS (x:Int) (n m:Int) (h:yP .u64 (IntKind.u64.wrap n) 31=32 - m) (h0:0<=m) (h1:m<=32):zC x n=some (rr x m):=by
 have h2:IntKind.u64.wrap (32 - (32 - m))=m:=by rw [IntKind.wrap_u64];omega
 have h3:(0:Int)<=32 - m:=by omega
 have h4:decide ((0:Int)<=32 - m)=true:=by simpa using h3
 have h5:decide ((0:Int)<=m)=true:=by simpa using h0
 simp only [zC,ck,lt,h,h2,h4,h5,rr,cond_true,Option.bind_some]
 rw [zG0]
def K2:List Int:=gd1
theorem zRt:K2.length=64:=rfl
theorem zEy:qT=some K2:=rfl
def a8 (s:A8 Int):List Int:=[s.a0,s.a1,s.a2,s.a3,s.a4,s.a5,s.a6,s.a7]
def t1 (s:A8 Int) (k w:Int):Int:=
 IntKind.u32.wrap (IntKind.u32.wrap (IntKind.u32.wrap (IntKind.u32.wrap (s.a7+xC .u32 (xC .u32 (rr s.a4 6) (rr s.a4 11)) (rr s.a4 25))+xC .u32 (yP .u32 s.a4 s.a5) (yP .u32 (zDm .u32 s.a4) s.a6))+k)+w)
def t2 (s:A8 Int):Int:=IntKind.u32.wrap (xC .u32 (xC .u32 (rr s.a0 2) (rr s.a0 13)) (rr s.a0 22)+xC .u32 (xC .u32 (yP .u32 s.a0 s.a1) (yP .u32 s.a0 s.a2)) (yP .u32 s.a1 s.a2))
def rnd (s:A8 Int) (k w:Int):A8 Int:=⟨IntKind.u32.wrap (t1 s k w+t2 s),s.a0,s.a1,s.a2,IntKind.u32.wrap (s.a3+t1 s k w),s.a4,s.a5,s.a6⟩
def lC (w:List Int) (s:A8 Int):Nat->A8 Int
 | 0=>s
 | n+1=>rnd (lC w s n) (K2.getD n 0) (w.getD n 0)
theorem vY {n t:Nat} (h:t<n):ixN n (t:Int)=some t:=by
 have:(0:Int)<=t/\(t:Int)<n:=⟨by omega,by omega⟩
 simp [ixN,this]
theorem qX {l:List Int} {t:Nat} (h:t<l.length):l[t]? = some (l.getD t 0):=by simp [h]
theorem yB {t:Nat} (h:t<2 ^ 40):IntKind.i64.wrap ((t:Int)+1)=((t+1:Nat):Int):=by rw [zV (by omega) (by omega)];simp
section
variable (a b c d e f g h:Int)
theorem zUw:idx [a,b,c,d,e,f,g,h] 0=some a:=rfl
theorem zNx:idx [a,b,c,d,e,f,g,h] 1=some b:=rfl
theorem zLt:idx [a,b,c,d,e,f,g,h] 2=some c:=rfl
theorem zXy:idx [a,b,c,d,e,f,g,h] 3=some d:=rfl
theorem zVk:idx [a,b,c,d,e,f,g,h] 4=some e:=rfl
theorem zPq:idx [a,b,c,d,e,f,g,h] 5=some f:=rfl
theorem zPx:idx [a,b,c,d,e,f,g,h] 6=some g:=rfl
theorem zWf:idx [a,b,c,d,e,f,g,h] 7=some h:=rfl
end
theorem dlt {a b:Nat} (h:a<b):decide ((a:Int)<(b:Int))=true:=by simp;exact h
theorem dge {a b:Nat} (h:b<=a):decide ((a:Int)<(b:Int))=false:=by simp;omega
theorem zPf (w:List Int) (s:A8 Int) (i:Nat) (hi:i<64) (hw:w.length=64):pR K2 w (a8 s,(i:Int))=some (.inl (a8 (rnd s (K2.getD i 0) (w.getD i 0)),((i+1:Nat):Int))):=by
 have e1:decide ((i:Int)<64)=true:=dlt (b:=64) hi
 have e2:∀ x,yR x 6=some (rr x 6):=λx=>oN x 6 (by decide) (by decide)
 have e3:∀ x,yR x 11=some (rr x 11):=λx=>oN x 11 (by decide) (by decide)
 have e4:∀ x,yR x 25=some (rr x 25):=λx=>oN x 25 (by decide) (by decide)
 have e5:∀ x,yR x 2=some (rr x 2):=λx=>oN x 2 (by decide) (by decide)
 have e6:∀ x,yR x 13=some (rr x 13):=λx=>oN x 13 (by decide) (by decide)
 have e7:∀ x,yR x 22=some (rr x 22):=λx=>oN x 22 (by decide) (by decide)
 have k1:K2[i]? = some (K2.getD i 0):=qX (by rw [zRt];exact hi)
 have k2:w[i]? = some (w.getD i 0):=qX (by omega)
 unfold pR a8
 refine ct e1 ?_
 refine bd (zUw _ _ _ _ _ _ _ _) ?_
 refine bd (zVk _ _ _ _ _ _ _ _) ?_
 refine bd (zWf _ _ _ _ _ _ _ _) ?_
 refine bd (e2 _) ?_
 refine bd (e3 _) ?_
 refine bd (e4 _) ?_
 refine ltk ?_
 refine bd (zPq _ _ _ _ _ _ _ _) ?_
 refine bd (zPx _ _ _ _ _ _ _ _) ?_
 refine ltk ?_
 refine bd (vY hi) ?_
 refine bd k1 ?_
 refine ltk ?_
 refine bd (vY hi) ?_
 refine bd k2 ?_
 refine bd (e5 _) ?_
 refine bd (e6 _) ?_
 refine bd (e7 _) ?_
 refine bd (zNx _ _ _ _ _ _ _ _) ?_
 refine bd (zLt _ _ _ _ _ _ _ _) ?_
 refine ltk ?_
 refine bd (zNx _ _ _ _ _ _ _ _) ?_
 refine bd (zLt _ _ _ _ _ _ _ _) ?_
 refine ltk ?_
 refine ltk ?_
 refine bd (zNx _ _ _ _ _ _ _ _) ?_
 refine bd (zLt _ _ _ _ _ _ _ _) ?_
 refine bd (zXy _ _ _ _ _ _ _ _) ?_
 refine ltk ?_
 refine bd (zPq _ _ _ _ _ _ _ _) ?_
 refine bd (zPx _ _ _ _ _ _ _ _) ?_
 rw [yB (show i<2 ^ 40 by omega)]
 rfl
theorem zQq (w:List Int) (hw:w.length=64) (s:A8 Int):zE (pR K2 w) FU (a8 s,0)=some (a8 (lC w s 64)):=by
 refine zK 64 (λi=>(a8 (lC w s i),(i:Int))) rfl (λi hi=>zPf w _ i hi hw) ?_ (yS (by decide))
 generalize lC w s 64=S
 rfl
theorem zOd (w:List Int) (s:A8 Int) (i:Nat) (hi:i<64) (hw:w.length=64):vI w ((i:Int),s.a0,s.a1,s.a2,s.a3,s.a4,s.a5,s.a6,s.a7) =
  some (.inl (((i+1:Nat):Int),(rnd s (K2.getD i 0) (w.getD i 0)).a0,(rnd s (K2.getD i 0) (w.getD i 0)).a1,(rnd s (K2.getD i 0) (w.getD i 0)).a2,(rnd s (K2.getD i 0) (w.getD i 0)).a3,(rnd s (K2.getD i 0) (w.getD i 0)).a4,(rnd s (K2.getD i 0) (w.getD i 0)).a5,(rnd s (K2.getD i 0) (w.getD i 0)).a6,(rnd s (K2.getD i 0) (w.getD i 0)).a7)):=by
 have e1:decide ((i:Int)<64)=true:=dlt (b:=64) hi
 have e2:∀ x,zC x (-6)=some (rr x 6):=λx=>pS x _ 6 (by decide) (by decide) (by decide)
 have e3:∀ x,zC x (-11)=some (rr x 11):=λx=>pS x _ 11 (by decide) (by decide) (by decide)
 have e4:∀ x,zC x (-25)=some (rr x 25):=λx=>pS x _ 25 (by decide) (by decide) (by decide)
 have e5:∀ x,zC x (-2)=some (rr x 2):=λx=>pS x _ 2 (by decide) (by decide) (by decide)
 have e6:∀ x,zC x (-13)=some (rr x 13):=λx=>pS x _ 13 (by decide) (by decide) (by decide)
 have e7:∀ x,zC x (-22)=some (rr x 22):=λx=>pS x _ 22 (by decide) (by decide) (by decide)
 have k1:idx gd1 (i:Int)=some (K2.getD i 0):=by rw [xH (show i<gd1.length from hi)];simp [K2,show i<gd1.length from hi]
 have k2:w[i]? = some (w.getD i 0):=qX (by omega)
 unfold vI
 refine ct e1 ?_
 refine bd (e2 _) ?_
 refine bd (e3 _) ?_
 refine bd (e4 _) ?_
 refine ltk ?_
 refine ltk ?_
 refine bd k1 ?_
 refine ltk ?_
 refine bd (vY hi) ?_
 refine bd k2 ?_
 refine bd (e5 _) ?_
 refine bd (e6 _) ?_
 refine bd (e7 _) ?_
 refine ltk ?_
 refine ltk ?_
 refine ltk ?_
 refine ltk ?_
 rw [yB (show i<2 ^ 40 by omega)]
 rfl
theorem zR3 (w:List Int) (hw:w.length=64) (s:A8 Int):zE (vI w) FU (0,s.a0,s.a1,s.a2,s.a3,s.a4,s.a5,s.a6,s.a7)=some ((lC w s 64).a0,(lC w s 64).a1,(lC w s 64).a2,(lC w s 64).a3,(lC w s 64).a4,(lC w s 64).a5,(lC w s 64).a6,(lC w s 64).a7):=by
 refine zK 64 (λi=>((i:Int),(lC w s i).a0,(lC w s i).a1,(lC w s i).a2,(lC w s i).a3,(lC w s i).a4,(lC w s i).a5,(lC w s i).a6,(lC w s i).a7)) rfl (λi hi=>zOd w _ i hi hw) ?_ (yS (by decide))
 generalize lC w s 64=S
 rfl
end Go.Proofs.TT
namespace Go.Proofs.TT
open Go Go.Sw
set_option maxRecDepth 100000
theorem zKr {l:List UInt8} {z:Int} {n:Nat} (hz:z=(n:Int)) (h:n<l.length):idx l z=some (l.getD n 0):=by
 subst hz
 simp [idx,h]
theorem aU {α:Type} {l:List α} {j:Nat} {u:α} (h:j<l.length):uN l j u=some (l.set j u):=by simp [uN,h]
def byt (b:List UInt8) (n:Nat):Int:=IntKind.u32.wrap (((b.getD n 0).toNat:Nat):Int)
def wd (b:List UInt8) (t:Nat):Int:=ior .u32 (ior .u32 (ior .u32 (tS .u32 (byt b (4*t)) 24) (tS .u32 (byt b (4*t+1)) 16)) (tS .u32 (byt b (4*t+2)) 8)) (byt b (4*t+3))
theorem zEk (b:List UInt8) (t:Nat) (h:4*t+3<b.length) (h2:t<2 ^ 20):mG b (t:Int)=some (wd b t):=by
 have e0:IntKind.i64.wrap (4*(t:Int))=((4*t:Nat):Int):=by rw [zV (by omega) (by omega)];simp
 unfold mG
 rw [e0]
 refine bd (zKr rfl (by omega)) ?_
 refine bd (zKr (n:=4*t+1) (by rw [zV (by omega) (by omega)];simp) (by omega)) ?_
 refine ltk ?_
 refine bd (zKr (n:=4*t+2) (by rw [zV (by omega) (by omega)];simp) (by omega)) ?_
 refine ltk ?_
 refine bd (zKr (n:=4*t+3) (by rw [zV (by omega) (by omega)];simp) (by omega)) ?_
 rfl
theorem zGk:lS=mG:=rfl
def s0 (x:Int):Int:=xC .u32 (xC .u32 (rr x 7) (rr x 18)) (zW .u32 x 3)
def s1 (x:Int):Int:=xC .u32 (xC .u32 (rr x 17) (rr x 19)) (zW .u32 x 10)
def wv (b:List UInt8) (w:List Int) (t:Nat):Int:=
 if t<16 then wd b t else IntKind.u32.wrap (IntKind.u32.wrap (IntKind.u32.wrap (s1 (w.getD (t - 2) 0)+w.getD (t - 7) 0)+s0 (w.getD (t - 15) 0))+w.getD (t - 16) 0)
def gG (b:List UInt8):Nat->List Int
 | 0=>List.replicate 64 0
 | t+1=>(gG b t).set t (wv b (gG b t) t)
theorem k9 (b:List UInt8):∀ t,(gG b t).length=64
 | 0=>rfl
 | t+1=>by simp [gG,k9 b t]
theorem zWm (b:List UInt8) (w:List Int) (i:Nat) (hi:i<64) (hw:w.length=64) (hb:b.length=64):vK b ((i:Int),w)=some (.inl (((i+1:Nat):Int),w.set i (wv b w i))):=by
 have hiw:i<w.length:=by omega
 unfold vK
 refine ct (dlt (b:=64) hi) ?_
 refine bd (a:=w.set i (wv b w i)) ?_ (by rw [yB (show i<2 ^ 40 by omega)])
 by_cases h:i<16
 ·refine ct (dlt (b:=16) h) ?_
  rw [zGk]
  refine bd (zEk b i (by omega) (by omega)) ?_
  refine bd (vY hi) ?_
  refine bd (aU hiw) ?_
  simp [wv,h]
 refine cf (dge (b:=16) (by omega)) ?_
 have x15:ixN 64 (IntKind.i64.wrap ((i:Int) - 15))=some (i - 15):=by rw [zV (by omega) (by omega),show (i:Int) - 15=((i - 15:Nat):Int) by omega];exact vY (by omega)
 have x2:ixN 64 (IntKind.i64.wrap ((i:Int) - 2))=some (i - 2):=by rw [zV (by omega) (by omega),show (i:Int) - 2=((i - 2:Nat):Int) by omega];exact vY (by omega)
 have x7:ixN 64 (IntKind.i64.wrap ((i:Int) - 7))=some (i - 7):=by rw [zV (by omega) (by omega),show (i:Int) - 7=((i - 7:Nat):Int) by omega];exact vY (by omega)
 have x16:ixN 64 (IntKind.i64.wrap ((i:Int) - 16))=some (i - 16):=by rw [zV (by omega) (by omega),show (i:Int) - 16=((i - 16:Nat):Int) by omega];exact vY (by omega)
 have w15:w[i - 15]? = some (w.getD (i - 15) 0):=qX (by omega)
 have w2:w[i - 2]? = some (w.getD (i - 2) 0):=qX (by omega)
 have w7:w[i - 7]? = some (w.getD (i - 7) 0):=qX (by omega)
 have w16:w[i - 16]? = some (w.getD (i - 16) 0):=qX (by omega)
 have e7:∀ x,zC x (-7)=some (rr x 7):=λx=>pS x _ 7 (by decide) (by decide) (by decide)
 have e18:∀ x,zC x (-18)=some (rr x 18):=λx=>pS x _ 18 (by decide) (by decide) (by decide)
 have e17:∀ x,zC x (-17)=some (rr x 17):=λx=>pS x _ 17 (by decide) (by decide) (by decide)
 have e19:∀ x,zC x (-19)=some (rr x 19):=λx=>pS x _ 19 (by decide) (by decide) (by decide)
 refine bd (x15) ?_
 refine bd (w15) ?_
 refine bd (x2) ?_
 refine bd (w2) ?_
 refine bd (e7 _) ?_
 refine bd (e18 _) ?_
 refine bd (e17 _) ?_
 refine bd (e19 _) ?_
 refine bd (x7) ?_
 refine bd (w7) ?_
 refine ltk ?_
 refine ltk ?_
 refine bd (x16) ?_
 refine bd (w16) ?_
 refine bd (vY hi) ?_
 refine bd (aU hiw) ?_
 simp only [wv,h,if_false]
 rfl
theorem zRb (b:List UInt8) (hb:b.length=64):zE (vK b) FU (0,List.replicate 64 0)=some (gG b 64):=by
 refine zK 64 (λi=>((i:Int),gG b i)) rfl (λi hi=>zWm b _ i hi (k9 b i) hb) ?_ (yS (by decide))
 generalize gG b 64=S
 rfl
def uR (x:List UInt8) (n:Nat):List UInt8:=(x.drop n).take 64
theorem zUj (x:List UInt8) (at':Nat) (w:List Int) (i:Nat) (hi:i<64) (hw:w.length=64) (hx:at'+64<=x.length) (hl:x.length<2 ^ 48):pY x (at':Int) ((i:Int),w)=some (.inl (((i+1:Nat):Int),w.set i (wv (uR x at') w i))):=by
 have hiw:i<w.length:=by omega
 have hbl:(uR x at').length=64:=by simp [uR];omega
 unfold pY
 refine ct (dlt (b:=64) hi) ?_
 refine bd (a:=w.set i (wv (uR x at') w i)) ?_ (by rw [yB (show i<2 ^ 40 by omega)])
 by_cases h:i<16
 ·refine ct (dlt (b:=16) h) ?_
  have hs:sub x (at':Int) (IntKind.i64.wrap ((at':Int)+64))=some (uR x at'):=by
   rw [zV (by omega) (by omega),show (at':Int)+64=((at'+64:Nat):Int) by simp,tX (by omega) hx]
   simp [uR]
  refine bd hs ?_
  refine bd (zEk _ i (by omega) (by omega)) ?_
  refine bd (vY hi) ?_
  refine bd (aU hiw) ?_
  simp [wv,h]
 refine cf (dge (b:=16) (by omega)) ?_
 have x15:ixN 64 (IntKind.i64.wrap ((i:Int) - 15))=some (i - 15):=by rw [zV (by omega) (by omega),show (i:Int) - 15=((i - 15:Nat):Int) by omega];exact vY (by omega)
 have x2:ixN 64 (IntKind.i64.wrap ((i:Int) - 2))=some (i - 2):=by rw [zV (by omega) (by omega),show (i:Int) - 2=((i - 2:Nat):Int) by omega];exact vY (by omega)
 have x7:ixN 64 (IntKind.i64.wrap ((i:Int) - 7))=some (i - 7):=by rw [zV (by omega) (by omega),show (i:Int) - 7=((i - 7:Nat):Int) by omega];exact vY (by omega)
 have x16:ixN 64 (IntKind.i64.wrap ((i:Int) - 16))=some (i - 16):=by rw [zV (by omega) (by omega),show (i:Int) - 16=((i - 16:Nat):Int) by omega];exact vY (by omega)
 have w15:w[i - 15]? = some (w.getD (i - 15) 0):=qX (by omega)
 have w2:w[i - 2]? = some (w.getD (i - 2) 0):=qX (by omega)
 have w7:w[i - 7]? = some (w.getD (i - 7) 0):=qX (by omega)
 have w16:w[i - 16]? = some (w.getD (i - 16) 0):=qX (by omega)
 have e7:∀ x,yR x 7=some (rr x 7):=λx=>oN x 7 (by decide) (by decide)
 have e18:∀ x,yR x 18=some (rr x 18):=λx=>oN x 18 (by decide) (by decide)
 have e17:∀ x,yR x 17=some (rr x 17):=λx=>oN x 17 (by decide) (by decide)
 have e19:∀ x,yR x 19=some (rr x 19):=λx=>oN x 19 (by decide) (by decide)
 refine bd (x15) ?_
 refine bd (w15) ?_
 refine bd (e7 _) ?_
 refine bd (x15) ?_
 refine bd (w15) ?_
 refine bd (e18 _) ?_
 refine bd (x15) ?_
 refine bd (w15) ?_
 refine bd (x2) ?_
 refine bd (w2) ?_
 refine bd (e17 _) ?_
 refine bd (x2) ?_
 refine bd (w2) ?_
 refine bd (e19 _) ?_
 refine bd (x2) ?_
 refine bd (w2) ?_
 refine bd (x7) ?_
 refine bd (w7) ?_
 refine ltk ?_
 refine ltk ?_
 refine bd (x16) ?_
 refine bd (w16) ?_
 refine bd (vY hi) ?_
 refine bd (aU hiw) ?_
 simp only [wv,h,if_false]
 rfl
theorem zTa (x:List UInt8) (at':Nat) (hx:at'+64<=x.length) (hl:x.length<2 ^ 48):zE (pY x (at':Int)) FU (0,List.replicate 64 0)=some (gG (uR x at') 64):=by
 refine zK 64 (λi=>((i:Int),gG (uR x at') i)) rfl (λi hi=>zUj x at' _ i hi (k9 _ i) hx hl) ?_ (yS (by decide))
 generalize gG (uR x at') 64=S
 rfl
end Go.Proofs.TT
namespace Go.Proofs.TT
open Go Go.Sw
set_option maxRecDepth 100000
def zLi (h s:A8 Int):A8 Int:=⟨IntKind.u32.wrap (h.a0+s.a0),IntKind.u32.wrap (h.a1+s.a1),IntKind.u32.wrap (h.a2+s.a2),IntKind.u32.wrap (h.a3+s.a3),IntKind.u32.wrap (h.a4+s.a4),IntKind.u32.wrap (h.a5+s.a5),IntKind.u32.wrap (h.a6+s.a6),IntKind.u32.wrap (h.a7+s.a7)⟩
def zC9 (h s:List Int):Nat->List Int
 | 0=>h
 | i+1=>(zC9 h s i).set i (IntKind.u32.wrap ((zC9 h s i).getD i 0+s.getD i 0))
theorem zBv (h s:List Int):∀ i,(zC9 h s i).length=h.length
 | 0=>rfl
 | i+1=>by simp [zC9,zBv h s i]
theorem zNg (h s:A8 Int):zC9 (a8 h) (a8 s) 8=a8 (zLi h s):=rfl
def zHl (h:A8 Int) (b:List UInt8):A8 Int:=zLi h (lC (gG b 64) h 64)
theorem zRp (h s:A8 Int):zE (mK (a8 s)) FU (0,a8 h)=some (a8 (zLi h s)):=by
 rw [<- zNg]
 refine zK 8 (λi=>((i:Int),zC9 (a8 h) (a8 s) i)) rfl (λi hi=>?_) ?_ (yS (by decide))
 ·have hl:(zC9 (a8 h) (a8 s) i).length=8:=zBv _ _ _
  unfold mK
  refine ct (dlt (b:=8) hi) ?_
  refine bd (vY hi) ?_
  refine bd (qX (by omega)) ?_
  refine bd (a:=(a8 s).getD i 0) (by rw [xH (show i<(a8 s).length from hi)];simp [show i<(a8 s).length from hi]) ?_
  refine bd (vY hi) ?_
  refine bd (aU (by omega)) ?_
  rw [yB (show i<2 ^ 40 by omega)]
  rfl
 ·generalize zC9 (a8 h) (a8 s) 8=S
  rfl
theorem zS2 (h s:A8 Int):zE (xZ s.a0 s.a1 s.a2 s.a3 s.a4 s.a5 s.a6 s.a7) FU (0,[h.a0,h.a1,h.a2,h.a3,h.a4,h.a5,h.a6,h.a7])=some (zLi h s):=by
 refine zK 8 (λi=>((i:Int),zC9 (a8 h) (a8 s) i)) rfl (λi hi=>?_) ?_ (yS (by decide))
 ·have hl:(zC9 (a8 h) (a8 s) i).length=8:=zBv _ _ _
  unfold xZ
  refine ct (dlt (b:=8) hi) ?_
  refine bd (vY hi) ?_
  refine bd (qX (by omega)) ?_
  refine bd (vY hi) ?_
  refine bd (a:=(a8 s).getD i 0) (qX (l:=a8 s) hi) ?_
  refine bd (vY hi) ?_
  refine bd (aU (by omega)) ?_
  rw [yB (show i<2 ^ 40 by omega)]
  rfl
 ·show xZ s.a0 s.a1 s.a2 s.a3 s.a4 s.a5 s.a6 s.a7 (((8:Nat):Int),zC9 (a8 h) (a8 s) 8)=_
  rw [zNg]
  unfold xZ
  refine cf rfl ?_
  refine bd (a:=zLi h s) rfl rfl
theorem zF4 (h:A8 Int) (b:List UInt8) (hb:b.length=64):uV h b=some (zHl h b):=by
 unfold uV
 refine bd (zRb b hb) ?_
 refine bd (zR3 _ (k9 b 64) h) ?_
 refine bd (zS2 h _) ?_
 rfl
def zL9:A8 Int:=⟨1779033703,3144134277,1013904242,2773480762,1359893119,2600822924,528734635,1541459225⟩
def hsh (x:List UInt8):Nat->A8 Int
 | 0=>zL9
 | i+1=>zHl (hsh x i) (uR x (64*i))
def st8 (p:List UInt8) (h:A8 Int):List UInt8×Int×Int×Int×Int×Int×Int×Int×Int:=(p,h.a0,h.a1,h.a2,h.a3,h.a4,h.a5,h.a6,h.a7)
theorem zIq (x:List UInt8) (n:Nat) (hx:x.length=64*n) (hl:x.length<2 ^ 48):zE oL FU (st8 x zL9)=some ((hsh x n).a0,(hsh x n).a1,(hsh x n).a2,(hsh x n).a3,(hsh x n).a4,(hsh x n).a5,(hsh x n).a6,(hsh x n).a7):=by
 refine zK n (λi=>st8 (x.drop (64*i)) (hsh x i)) (by simp [hsh]) (λi hi=>?_) ?_ (yS (by omega))
 ·have hd:(x.drop (64*i)).length=x.length - 64*i:=by simp
  unfold oL st8
  refine ct (by simp;omega) ?_
  refine bd (a:=uR x (64*i)) (by rw [show (0:Int)=((0:Nat):Int) from rfl,show (64:Int)=((64:Nat):Int) from rfl,tX (by omega) (by omega)];simp [uR]) ?_
  refine bd (zF4 _ _ (by simp [uR];omega)) ?_
  refine bd (a:=x.drop (64*(i+1))) (by rw [show (64:Int)=((64:Nat):Int) from rfl,tX (by omega) (by omega)];rw [List.drop_drop,List.take_of_length_le (by simp;omega)];congr 2) ?_
  rfl
 ·have hd:x.drop (64*n)=[]:=List.drop_eq_nil_of_le (by omega)
  show oL (st8 (x.drop (64*n)) (hsh x n))=_
  rw [hd]
  generalize hsh x n=S
  rfl
theorem zHs (x:List UInt8) (n:Nat) (hx:x.length=64*n) (hl:x.length<2 ^ 47):zE (tT K2 x) FU (0,a8 zL9)=some (a8 (hsh x n)):=by
 refine zK n (λi=>(((64*i:Nat):Int),a8 (hsh x i))) rfl (λi hi=>?_) ?_ (yS (by omega))
 ·unfold tT
  refine ct (dlt (by omega)) ?_
  refine bd (zTa x (64*i) (by omega) (by omega)) ?_
  refine bd (ckT rfl) ?_
  refine bd (a:=a8 (hsh x i)) (by rw [zR (by simp [a8])];rfl) ?_
  refine bd (zQq _ (k9 _ 64) _) ?_
  refine bd (zRp _ _) ?_
  rw [zV (by omega) (by omega),show ((64*i:Nat):Int)+64=((64*(i+1):Nat):Int) by omega]
  rfl
 ·show tT K2 x (((64*n:Nat):Int),a8 (hsh x n))=_
  unfold tT
  exact cf (dge (by omega)) rfl
def zs (n:Nat):Nat:=(119 - n % 64) % 64
def be8 (n:Int) (k:Nat):List UInt8:=(List.range k).map λ(j:Nat)=>u8 (zW .u64 n (56 - 8*(j:Int)))
theorem zFl (n:Int) (k:Nat):(be8 n k).length=k:=by simp [be8]
theorem zGj (n:Int) (k:Nat):be8 n (k+1)=be8 n k++[u8 (zW .u64 n (56 - 8*(k:Int)))]:=by simp [be8,List.range_succ]
def zU8 (b:List UInt8):Int:=IntKind.u64.wrap (IntKind.u64.wrap (b.length:Int)*8)
def gC (b:List UInt8):List UInt8:=(b++[128]++List.replicate (zs b.length) 0)++be8 (zU8 b) 8
theorem gA (b:List UInt8):(gC b).length=b.length+9+zs b.length:=by simp [gC,zFl];omega
theorem bP (b:List UInt8):(gC b).length % 64=0:=by rw [gA];unfold zs;omega
theorem zD7 (b:List UInt8) (hb:b.length<2 ^ 40):zE nE FU (b++[128])=some (b++[128]++List.replicate (zs b.length) 0):=by
 have hz:zs b.length<64:=by unfold zs;omega
 refine zK (zs b.length) (λi=>b++[128]++List.replicate i 0) (by simp) (λi hi=>?_) ?_ (yS (by omega))
 ·have hl:(b++[128]++List.replicate i 0).length=b.length+1+i:=by simp;omega
  unfold nE
  refine ct ?_ ?_
  ·rw [hl]
   simp only [bne_iff_ne,ne_eq]
   rw [Int.tmod_eq_emod_of_nonneg (by omega)]
   unfold zs at hi
   omega
  ·refine bd (zR (by rw [hl];simp;omega)) ?_
   rw [List.append_assoc,<- List.replicate_succ']
 ·have hl:(b++[128]++List.replicate (zs b.length) 0).length=b.length+1+zs b.length:=by simp;omega
  unfold nE
  refine cf ?_ rfl
  rw [hl]
  simp only [bne_eq_false_iff_eq]
  rw [Int.tmod_eq_emod_of_nonneg (by omega)]
  unfold zs
  omega
theorem zOe:eO=nE:=rfl
theorem zMm (x:List UInt8) (n:Int) (hx:x.length<2 ^ 41):zE (gK n) FU (x,7)=some (x++be8 n 8):=by
 refine zK 8 (λi=>(x++be8 n i,7 - (i:Int))) (by simp [be8]) (λi hi=>?_) ?_ (yS (by decide))
 ·unfold gK
  refine ct (by simp;omega) ?_
  refine ltk ?_
  have e:IntKind.u64.wrap (8*IntKind.u64.wrap (7 - (i:Int)))=56 - 8*(i:Int):=by
   rw [gQ (n:=7 - (i:Int)) (by omega) (by omega),gQ (by omega) (by omega)];omega
  rw [e]
  refine bd (zR (by simp [zFl];omega)) ?_
  rw [zV (by omega) (by omega),List.append_assoc,<- zGj,show (7:Int) - (i:Int) - 1=7 - ((i+1:Nat):Int) by omega]
 ·generalize be8 n 8=S
  rfl
theorem zLd (x:List UInt8) (n:Int) (hx:x.length<2 ^ 41):zE (l5 n) FU (x,56)=some (x++be8 n 8):=by
 refine zK 8 (λi=>(x++be8 n i,56 - 8*(i:Int))) (by simp [be8]) (λi hi=>?_) ?_ (yS (by decide))
 ·unfold l5
  refine ct (by simp;omega) ?_
  rw [gQ (n:=56 - 8*(i:Int)) (by omega) (by omega)]
  refine bd (zR (by simp [zFl];omega)) ?_
  rw [zV (by omega) (by omega),List.append_assoc,<- zGj,show (56:Int) - 8*(i:Int) - 8=56 - 8*((i+1:Nat):Int) by omega]
 ·generalize be8 n 8=S
  rfl
theorem zCo (b:List UInt8) (hb:b.length<2 ^ 40):gT b=some (gC b):=by
 have hz:zs b.length<64:=by unfold zs;omega
 unfold gT
 refine bd (a:=b) (by rw [zR (by simp;omega)];simp) ?_
 refine bd (zR (by simp;omega)) ?_
 refine bd (zD7 b hb) ?_
 refine ltk ?_
 refine bd (zMm _ _ (by simp;omega)) ?_
 rfl
theorem zDb (b:List UInt8) (hb:b.length<2 ^ 40):mH b=some (gC b):=by
 have hz:zs b.length<64:=by unfold zs;omega
 unfold mH
 refine bd (a:=b.length+72) (by unfold mkN;rw [zV (by omega) (by omega),if_pos (by omega)];congr 1) ?_
 refine bd (a:=b) (by rw [zR (by simp;omega)];simp) ?_
 refine bd (zR (by simp;omega)) ?_
 rw [zOe]
 refine bd (zD7 b hb) ?_
 refine ltk ?_
 refine bd (zLd _ _ (by simp;omega)) ?_
 rfl
def be4 (w:Int):List UInt8:=[u8 (zW .u32 w 24),u8 (zW .u32 w 16),u8 (zW .u32 w 8),u8 w]
theorem zFp (l:List Int):(l.flatMap be4).length=4*l.length:=by
 induction l with
 | nil=>rfl
 | cons a r ih=>simp [ih,be4];omega
theorem zJ1 (l:List Int) (i:Nat) (hi:i<l.length):(l.take (i+1)).flatMap be4=(l.take i).flatMap be4++be4 (l.getD i 0):=by
 rw [List.take_add_one,List.flatMap_append]
 congr 1
 simp [hi]
theorem zMd {l:List Int} {i:Nat} (h:i<l.length):idx l (i:Int)=some (l.getD i 0):=by rw [xH h];simp [h]
theorem zF5 (l:List Int) (hl:l.length<2 ^ 20):m8 l=some (l.flatMap be4):=by
 have:zE (oU l) FU ([],0)=some (l.flatMap be4):=by
  refine zK l.length (λi=>((l.take i).flatMap be4,(i:Int))) (by simp) (λi hi=>?_) ?_ (yS (by omega))
  ·unfold oU
   refine ct (dlt hi) ?_
   refine bd (zMd hi) ?_
   refine bd (zMd hi) ?_
   refine bd (zMd hi) ?_
   refine bd (zMd hi) ?_
   refine bd (zR (by rw [zFp];simp;omega)) ?_
   rw [zJ1 l i hi,yB (show i<2 ^ 40 by omega)]
   rfl
  ·unfold oU
   refine cf (dge (Nat.le_refl _)) ?_
   simp
 unfold m8
 exact bd this rfl
theorem zDy (l:List Int) (hl:l.length<2 ^ 20):s9 l=some (l.flatMap be4):=by
 have:zE (sT l) FU ([],0)=some (l.flatMap be4):=by
  refine zK l.length (λi=>((l.take i).flatMap be4,(i:Int))) (by simp) (λi hi=>?_) ?_ (yS (by omega))
  ·unfold sT
   refine ct (dlt hi) ?_
   refine bd (zMd hi) ?_
   refine bd (zR (by rw [zFp];simp;omega)) ?_
   rw [zJ1 l i hi,yB (show i<2 ^ 40 by omega)]
   rfl
  ·unfold sT
   refine cf (dge (Nat.le_refl _)) ?_
   simp
 unfold s9
 refine bd (a:=4*l.length) (by unfold mkN;rw [zV (by omega) (by omega),if_pos (by omega)];congr 1) ?_
 exact bd this rfl
def sha (b:List UInt8):List UInt8:=(a8 (hsh (gC b) ((gC b).length / 64))).flatMap be4
theorem sJ (b:List UInt8):(sha b).length=32:=by unfold sha;rw [zFp];rfl
theorem fW (b:List UInt8) (hb:b.length<2 ^ 40):xY b=some (sha b):=by
 have hz:zs b.length<64:=by unfold zs;omega
 have h1:=gA b
 have h2:=bP b
 unfold xY
 refine bd zEy ?_
 refine bd (ckT rfl) ?_
 refine bd (zCo b hb) ?_
 refine bd (zHs (gC b) ((gC b).length / 64) (by omega) (by omega)) ?_
 refine bd (ckT rfl) ?_
 refine bd (zF5 _ (by simp [a8])) ?_
 rfl
theorem zEl (b:List UInt8) (hb:b.length<2 ^ 40):yV 1 b=some (sha b):=by
 have hz:zs b.length<64:=by unfold zs;omega
 have h1:=gA b
 have h2:=bP b
 unfold yV
 refine cf rfl ?_
 refine ct rfl ?_
 refine bd (zDb b hb) ?_
 refine bd (zIq (gC b) ((gC b).length / 64) (by omega) (by omega)) ?_
 refine bd (zDy _ (by simp)) ?_
 rfl
end Go.Proofs.TT
namespace Go.Proofs.TT
open Go Go.Sw
set_option maxRecDepth 100000
def hd4 (n:Nat):List UInt8:=[u8 (zW .i64 (n:Int) 24),u8 (zW .i64 (n:Int) 16),u8 (zW .i64 (n:Int) 8),u8 (n:Int)]
theorem zW3 (n:Nat) (h:n<2 ^ 32):[u8 (zW .u32 (IntKind.u32.wrap (n:Int)) 24),u8 (zW .u32 (IntKind.u32.wrap (n:Int)) 16),u8 (zW .u32 (IntKind.u32.wrap (n:Int)) 8),u8 (IntKind.u32.wrap (n:Int))]=hd4 n:=by
 rw [zT0 (by omega) (by omega)]
 rfl
def zKv (fs:List (List UInt8)):List UInt8:=fs.flatMap λf=>hd4 f.length++f
def frm (tag:Int) (fs:List (List UInt8)):List UInt8:=u8 tag :: zKv fs
def tot (fs:List (List UInt8)):Nat:=(fs.map λf=>4+f.length).sum
theorem zN6 (fs:List (List UInt8)):(zKv fs).length=tot fs:=by
 induction fs with
 | nil=>rfl
 | cons f r ih=>simp only [zKv,tot,List.flatMap_cons,List.length_append,List.map_cons,List.sum_cons] at ih ⊢;rw [ih];simp [hd4]
theorem zBp (tag:Int) (fs:List (List UInt8)):(frm tag fs).length=1+tot fs:=by simp [frm,zN6];omega
theorem zHj (tag:Int) (fs:List (List UInt8)) (i:Nat) (hi:i<fs.length):frm tag (fs.take (i+1))=(frm tag (fs.take i)++hd4 (fs[i]).length)++fs[i]:=by
 unfold frm zKv
 rw [List.take_add_one,List.flatMap_append]
 simp [hi]
theorem zMt (fs:List (List UInt8)):∀ i,tot (fs.take i)<=tot fs:=by
 induction fs with
 | nil=>intro i;simp
 | cons f r ih=>
  intro i
  cases i with
  | zero=>simp [tot]
  | succ j=>have:=ih j;simp only [tot,List.take_succ_cons,List.map_cons,List.sum_cons] at this ⊢;omega
theorem zJ2 (fs:List (List UInt8)):fs.length<=tot fs:=by
 induction fs with
 | nil=>simp
 | cons f r ih=>simp only [tot,List.length_cons,List.map_cons,List.sum_cons] at ih ⊢;omega
theorem zI0 (fs:List (List UInt8)) (i:Nat) (hi:i<fs.length):tot (fs.take i)+4+(fs[i]).length<=tot fs:=by
 have h:=zMt fs (i+1)
 have e:tot (fs.take (i+1))=tot (fs.take i)+(4+(fs[i]).length):=by
  unfold tot
  rw [List.take_add_one,List.map_append,List.sum_append]
  simp only [hi,List.getElem?_eq_getElem,Option.toList_some,List.map_cons,List.map_nil,List.sum_cons,List.sum_nil]
  omega
 omega
theorem zKe (tag:Int) (fs:List (List UInt8)) (h:tot fs<2 ^ 32):iD tag fs=some (frm tag fs):=by
 have h1:=zJ2 fs
 have:zE (oV fs) FU ([u8 tag],0)=some (frm tag fs):=by
  refine zK fs.length (λi=>(frm tag (fs.take i),(i:Int))) (by simp [frm,zKv]) (λi hi=>?_) ?_ (yS (by omega))
  ·have h2:=zI0 fs i hi
   have h3:=zBp tag (fs.take i)
   unfold oV
   refine ct (dlt hi) ?_
   refine bd (xH hi) ?_
   refine bd (zR (by simp;omega)) ?_
   refine bd (xH hi) ?_
   refine bd (zR (by simp;omega)) ?_
   rw [zHj tag fs i hi,yB (show i<2 ^ 40 by omega)]
   rfl
  ·unfold oV
   refine cf (dge (Nat.le_refl _)) ?_
   simp
 unfold iD
 exact bd this rfl
theorem zJ9 (tag:Int) (fs:List (List UInt8)) (h:tot fs<2 ^ 32):n9 tag fs=some (frm tag fs):=by
 have h1:=zJ2 fs
 have:zE (rH fs) FU ([u8 tag],0)=some (frm tag fs):=by
  refine zK fs.length (λi=>(frm tag (fs.take i),(i:Int))) (by simp [frm,zKv]) (λi hi=>?_) ?_ (yS (by omega))
  ·have h2:=zI0 fs i hi
   have h3:=zBp tag (fs.take i)
   unfold rH
   refine ct (dlt hi) ?_
   refine bd (xH hi) ?_
   rw [zW3 _ (by omega)]
   refine bd (zR (by simp [hd4];omega)) ?_
   refine bd (zR (by simp [hd4];omega)) ?_
   rw [zHj tag fs i hi,yB (show i<2 ^ 40 by omega)]
  ·unfold rH
   refine cf (dge (Nat.le_refl _)) ?_
   simp
 unfold n9
 exact bd this rfl
def hs (tag:Int) (fs:List (List UInt8)):List UInt8:=sha (frm tag fs)
theorem dS (tag:Int) (fs:List (List UInt8)):(hs tag fs).length=32:=sJ _
theorem mI (tag:Int) (fs:List (List UInt8)) (h:tot fs<2 ^ 32):tE tag fs=some (hs tag fs):=by
 unfold tE
 refine bd (zKe tag fs h) ?_
 exact bd (fW _ (by rw [zBp];omega)) rfl
theorem mP (tag:Int) (fs:List (List UInt8)) (h:tot fs<2 ^ 32):vA tag fs=some (hs tag fs):=by
 unfold vA
 refine bd (zJ9 tag fs h) ?_
 exact bd (zEl _ (by rw [zBp];omega)) rfl
def beN (n:Int) (size k:Nat):List UInt8:=(List.range k).map λ(j:Nat)=>u8 (zW .u64 (IntKind.u64.wrap n) (8*((size:Int) - 1 - (j:Int))))
theorem uF (n:Int) (size k:Nat):(beN n size k).length=k:=by simp [beN]
theorem zF0 (n:Int) (size k:Nat):beN n size (k+1)=beN n size k++[u8 (zW .u64 (IntKind.u64.wrap n) (8*((size:Int) - 1 - (k:Int))))]:=by simp [beN,List.range_succ]
def wF (b:List UInt8) (size:Nat) (n:Int):List UInt8:=b++beN n size size
theorem zQ (b:List UInt8) (size:Nat) (n:Int):(wF b size n).length=b.length+size:=by simp [wF,uF]
theorem uJ (b:List UInt8) (size:Nat) (n:Int) (h1:1<=size) (h8:size<=8) (hb:b.length<2 ^ 40):xW b (size:Int) n=some (wF b size n):=by
 have:zE (mC n) FU (b,(size:Int) - 1)=some (wF b size n):=by
  refine zK size (λi=>(b++beN n size i,(size:Int) - 1 - (i:Int))) (by simp [beN]) (λi hi=>?_) ?_ (yS (by omega))
  ·unfold mC
   refine ct (by simp;omega) ?_
   refine ltk ?_
   rw [gQ (n:=(size:Int) - 1 - (i:Int)) (by omega) (by omega),gQ (n:=8*((size:Int) - 1 - (i:Int))) (by omega) (by omega)]
   refine bd (zR (by simp [uF];omega)) ?_
   rw [zV (by omega) (by omega),List.append_assoc,<- zF0,show (size:Int) - 1 - (i:Int) - 1=(size:Int) - 1 - ((i+1:Nat):Int) by omega]
  ·unfold mC
   refine cf (by simp;omega) rfl
 unfold xW
 refine bd (a:=b) (by rw [zR (by simp;omega)];simp) ?_
 refine bd (a:=false) (cf (by simp;omega) (congrArg some (by simp;omega))) ?_
 rw [zV (by omega) (by omega)]
 exact bd this rfl
theorem sN (b:List UInt8) (size:Nat) (n:Int) (h1:1<=size) (h8:size<=8) (hb:b.length<2 ^ 40):rW b (size:Int) n=some (wF b size n):=by
 have:zE (nZ n) FU (b,(size:Int) - 1)=some (wF b size n):=by
  refine zK size (λi=>(b++beN n size i,(size:Int) - 1 - (i:Int))) (by simp [beN]) (λi hi=>?_) ?_ (yS (by omega))
  ·unfold nZ
   refine ct (by simp;omega) ?_
   refine ltk ?_
   rw [zV (n:=8*((size:Int) - 1 - (i:Int))) (by omega) (by omega),gQ (n:=8*((size:Int) - 1 - (i:Int))) (by omega) (by omega)]
   refine bd (zR (by simp [uF];omega)) ?_
   rw [zV (by omega) (by omega),List.append_assoc,<- zF0,show (size:Int) - 1 - (i:Int) - 1=(size:Int) - 1 - ((i+1:Nat):Int) by omega]
  ·unfold nZ
   refine cf (by simp;omega) rfl
 unfold rW
 refine bd (a:=b) (by rw [zR (by simp;omega)];simp) ?_
 refine bd (a:=false) (cf (by simp;omega) (congrArg some (by simp;omega))) ?_
 rw [zV (by omega) (by omega)]
 exact bd this rfl
def kM (b x:List UInt8):List UInt8:=wF b 2 ((x.take 65535).length:Int)++x.take 65535
theorem oH (b x:List UInt8):(kM b x).length<=b.length+65537:=by simp [kM,zQ];omega
theorem s7 (b x:List UInt8) (hb:b.length<2 ^ 39):vD b x=some (kM b x):=by
 unfold vD
 refine bd (a:=x.take 65535) ?_ ?_
 ·by_cases h:65535<x.length
  ·refine ct (by simp;omega) ?_
   exact bd (a:=x.take 65535) (by rw [show (0:Int)=((0:Nat):Int) from rfl,show (65535:Int)=((65535:Nat):Int) from rfl,tX (by omega) (by omega)];simp) rfl
  ·refine cf (by simp;omega) ?_
   rw [List.take_of_length_le (by omega)]
 ·refine bd (uJ b 2 _ (by omega) (by omega) (by omega)) ?_
  refine bd (zR (by rw [zQ];simp;omega)) ?_
  rfl
theorem bK (b x:List UInt8) (hb:b.length<2 ^ 39):jG b x=some (kM b x):=by
 unfold jG
 refine bd (a:=x.take 65535) ?_ ?_
 ·by_cases h:65535<x.length
  ·rw [if_pos (by omega),show (0:Int)=((0:Nat):Int) from rfl,show (65535:Int)=((65535:Nat):Int) from rfl,tX (by omega) (by omega)];simp
  ·rw [if_neg (by omega),show (0:Int)=((0:Nat):Int) from rfl,tX (by omega) (by omega)]
   simp
   rw [List.take_of_length_le (by omega)]
 ·refine bd (sN b 2 _ (by omega) (by omega) (by omega)) ?_
  refine bd (zR (by rw [zQ];simp;omega)) ?_
  rfl
theorem zGp (a b:List UInt8) (ha:a.length<2 ^ 40):kU a b=some (a==b):=by
 unfold kU
 by_cases h:a.length=b.length
 ·refine cf (by simp;omega) ?_
  have:∃ r,zE (pA a b) FU 0=some r/\(match r with | .inl r=>r=false/\a≠b | .inr _=>a=b):=by
   refine aD (λs=>∃ k:Nat,s=(k:Int)/\k<=a.length/\a.take k=b.take k) (λs=>a.length - s.toNat) _ (λs hs=>?_) FU 0 ⟨0,rfl,by omega,by simp⟩ (yS (by omega))
   obtain ⟨k,rfl,hk,he⟩:=hs
   by_cases hk2:k<a.length
   ·by_cases hv:a[k]=b[k]
    ·refine .inl ⟨((k+1:Nat):Int),?_,⟨k+1,rfl,by omega,?_⟩,by simp;omega⟩
     ·unfold pA
      refine ct (dlt hk2) ?_
      refine bd (xH hk2) ?_
      refine bd (xH (h▸hk2)) ?_
      refine cf (by rw [hv];simp) ?_
      rw [yB (by omega)]
     ·rw [List.take_add_one,List.take_add_one,he]
      simp [hk2,hv,h▸hk2]
    ·refine .inr ⟨.inl false,?_,rfl,λe=>hv (by subst e;rfl)⟩
     unfold pA
     refine ct (dlt hk2) ?_
     refine bd (xH hk2) ?_
     refine bd (xH (h▸hk2)) ?_
     refine ct ?_ rfl
     simp only [bne_iff_ne,ne_eq]
     intro e
     exact hv (UInt8.toNat_inj.mp (by omega))
   ·refine .inr ⟨.inr (),?_,?_⟩
    ·unfold pA
     exact cf (dge (by omega)) rfl
    ·have e1:a.take k=a:=List.take_of_length_le (by omega)
     have e2:b.take k=b:=List.take_of_length_le (by omega)
     rw [e1,e2] at he
     exact he
  obtain ⟨r,h1,h2⟩:=this
  refine bd h1 ?_
  cases r with
  | inl r=>obtain ⟨rfl,h3⟩:=h2;simp [h3]
  | inr u=>simp [h2]
 ·refine ct (by simp;omega) ?_
  have:a≠b:=λe=>h (by rw [e])
  simp [this]
theorem gD (a b:List UInt8):tO a b=some (a==b):=rfl
theorem cU (b:List UInt8) (h:b.length<2 ^ 40):vQ b=some b:=by
 unfold vQ
 refine bd (zR (by simp;omega)) ?_
 simp
end Go.Proofs.TT
namespace Go.Proofs.TT
open Go Go.Sw
set_option maxRecDepth 100000
structure RS where
 b:List UInt8
 at':Nat
 e:Int
def RS.W (r:RS):wire_Reader:=⟨r.b,(r.at':Int),r.e⟩
def RS.Ok (r:RS):Prop:=r.at'<=r.b.length/\r.b.length<2 ^ 40
def RS.err (r:RS) (e:Int):RS:=⟨r.b,r.at',e⟩
def RS.to (r:RS) (n:Nat):RS:=⟨r.b,r.at'+n,r.e⟩
def RS.left (r:RS):Nat:=r.b.length - r.at'
def RS.get (r:RS) (n:Nat):List UInt8:=(r.b.drop r.at').take n
theorem RS.get_len (r:RS) (n:Nat) (h:n<=r.left):(r.get n).length=n:=by simp [RS.get,RS.left] at *;omega
def lF (r:RS) (n:Nat):List UInt8×RS:=if r.e≠0 then ([],r) else if r.left<n then ([],r.err 2) else (r.get n,r.to n)
def beV (l:List UInt8):Nat->Int
 | 0=>0
 | k+1=>ior .u64 (tS .u64 (beV l k) 8) (IntKind.u64.wrap ((l.getD k 0).toNat:Int))
def yA (r:RS) (n:Nat):Int×RS:=
 if r.e≠0 then (0,r) else if r.left<n then (0,r.err 2) else if 9223372036854775808<=beV (r.get n) n then (0,r.err 4) else (IntKind.i64.wrap (beV (r.get n) n),r.to n)
def v2 (r:RS):Nat:=(r.b.getD r.at' 0).toNat*256+(r.b.getD (r.at'+1) 0).toNat
def vX (r:RS) (most:Nat):List UInt8×RS:=
 if r.e≠0 then ([],r) else if r.left<2 then ([],r.err 2) else if most<v2 r then ([],r.err 4) else if r.left<2+v2 r then ([],r.err 2) else ((r.b.drop (r.at'+2)).take (v2 r),r.to (2+v2 r))
def bZ (r:RS):Int:=if r.e=0/\0<r.left then 3 else r.e
theorem zGg (r:RS) (n:Nat) (h:r.Ok):(lF r n).2.Ok:=by
 unfold lF
 split
 ·exact h
 split
 ·exact h
 ·obtain ⟨h1,h2⟩:=h
  exact ⟨by simp only [RS.to,RS.left] at *;omega,h2⟩
theorem qF (r:RS) (n:Nat) (h:r.Ok):(yA r n).2.Ok:=by
 unfold yA
 split
 ·exact h
 split
 ·exact h
 split
 ·exact h
 ·obtain ⟨h1,h2⟩:=h
  exact ⟨by simp only [RS.to,RS.left] at *;omega,h2⟩
theorem zDz (r:RS) (n:Nat) (h:r.Ok):(vX r n).2.Ok:=by
 unfold vX
 split
 ·exact h
 split
 ·exact h
 split
 ·exact h
 split
 ·exact h
 ·obtain ⟨h1,h2⟩:=h
  exact ⟨by simp only [RS.to,RS.left] at *;omega,h2⟩
theorem zEz (r:RS) (h:r.Ok):IntKind.i64.wrap ((r.b.length:Int) - (r.at':Int))=(r.left:Int):=by
 obtain ⟨h1,h2⟩:=h
 rw [zV (by omega) (by omega)]
 simp only [RS.left];omega
theorem zF8 (r:wire_Reader) (a n:Nat) (h1:a<=r.b_.length) (h2:r.b_.length<2 ^ 40) (hn:r.b_.length - a<n):yG r (a:Int) (n:Int)=some ([],2,r):=by
 unfold yG
 refine ct ?_ rfl
 rw [zV (by omega) (by omega)]
 simp;omega
theorem zD1 (r:wire_Reader) (a n:Nat) (h2:r.b_.length<2 ^ 40) (hn:a+n<=r.b_.length):yG r (a:Int) (n:Int)=some ((r.b_.drop a).take n,0,r):=by
 unfold yG
 refine cf ?_ ?_
 ·rw [zV (by omega) (by omega)]
  simp;omega
 ·refine bd (a:=(r.b_.drop a).take n) ?_ rfl
  rw [zV (by omega) (by omega),show (a:Int)+(n:Int)=((a+n:Nat):Int) by omega,tX (by omega) (by omega),Nat.add_sub_cancel_left]
theorem zEn (r:RS) (n:Nat) (h:r.Ok) (hn:r.left<n):yG r.W (r.at':Int) (n:Int)=some ([],2,r.W):=zF8 r.W r.at' n h.1 h.2 hn
theorem zCe (r:RS) (n:Nat) (h:r.Ok) (hn:n<=r.left):yG r.W (r.at':Int) (n:Int)=some (r.get n,0,r.W):=
 zD1 r.W r.at' n h.2 (by have:=h.1;simp only [RS.left] at hn;show r.at'+n<=r.b.length;omega)
theorem b0 {e:Int} (h:e=0):(e != 0)=false:=by subst h;rfl
theorem b1 {e:Int} (h:e≠0):(e != 0)=true:=by simp [h]
theorem c0 {e:Int} (h:e=0):(e==0)=true:=by subst h;rfl
theorem c1 {e:Int} (h:e≠0):(e==0)=false:=by simp [h]
theorem zMf (n:Nat):decide ((n:Int)<0)=false:=by simp
theorem hK (r:RS) (n:Nat) (h:r.Ok):vO r.W (n:Int)=some ((lF r n).1,(lF r n).2.W):=by
 unfold vO
 by_cases he:r.e=0
 ·refine cf (b0 he) ?_
  refine cf (zMf n) ?_
  by_cases hn:r.left<n
  ·refine bd (zEn r n h hn) ?_
   refine ct rfl ?_
   rw [show lF r n=([],r.err 2) by simp [lF,he,hn]]
   rfl
  ·refine bd (zCe r n h (by omega)) ?_
   refine cf rfl ?_
   have hl:=RS.get_len r n (by omega)
   obtain ⟨h1,h2⟩:=h
   refine bd (a:=r.get n) (by rw [zR (by simp;simp only [RS.left] at hn;omega)];simp) ?_
   show some (r.get n,(⟨r.b,IntKind.i64.wrap ((r.at':Int)+(n:Int)),r.e⟩:wire_Reader))=_
   have hn':=hn
   simp only [RS.left] at hn'
   rw [zV (by omega) (by omega),show (r.at':Int)+(n:Int)=((r.at'+n:Nat):Int) by omega]
   rw [show lF r n=(r.get n,r.to n) by simp [lF,he,hn]]
   rfl
 ·refine ct (b1 he) ?_
  rw [show lF r n=([],r) by simp [lF,he]]
theorem zWx (l:List UInt8) (hl:l.length<2 ^ 40):zE (uE l) FU (0,0)=some (beV l l.length):=by
 refine zK l.length (λi=>(beV l i,(i:Int))) rfl (λi hi=>?_) ?_ (yS (by omega))
 ·unfold uE
  refine ct (dlt hi) ?_
  refine bd (xH hi) ?_
  refine ltk ?_
  rw [yB (show i<2 ^ 40 by omega)]
  simp [beV,hi]
 ·unfold uE
  exact cf (dge (Nat.le_refl _)) rfl
theorem xL (r:RS) (n:Nat) (h:r.Ok) (h1:1<=n) (h8:n<=8):yF r.W (n:Int)=some ((yA r n).1,(yA r n).2.W):=by
 unfold yF
 by_cases he:r.e=0
 ·refine cf (b0 he) ?_
  refine bd (a:=false) (cf (by simp;omega) (congrArg some (by simp;omega))) ?_
  refine cf rfl ?_
  by_cases hn:r.left<n
  ·refine bd (zEn r n h hn) ?_
   refine ct rfl ?_
   rw [show yA r n=(0,r.err 2) by simp [yA,he,hn]]
   rfl
  ·refine bd (zCe r n h (by omega)) ?_
   refine cf rfl ?_
   have hl:=RS.get_len r n (by omega)
   refine bd (a:=beV (r.get n) n) ((zWx _ (by omega)).trans (by rw [hl])) ?_
   by_cases hv:9223372036854775808<=beV (r.get n) n
   ·refine ct (by simp;omega) ?_
    rw [show yA r n=(0,r.err 4) by simp [yA,he,hn,hv]]
    rfl
   ·refine cf (by simp;omega) ?_
    obtain ⟨h1,h2⟩:=h
    show some (_,(⟨r.b,IntKind.i64.wrap ((r.at':Int)+(n:Int)),r.e⟩:wire_Reader))=_
    have hn':=hn
    simp only [RS.left] at hn'
    rw [zV (n:=(r.at':Int)+(n:Int)) (by omega) (by omega),show (r.at':Int)+(n:Int)=((r.at'+n:Nat):Int) by omega]
    rw [show yA r n=(IntKind.i64.wrap (beV (r.get n) n),r.to n) by simp [yA,he,hn,hv]]
    rfl
 ·refine ct (b1 he) ?_
  rw [show yA r n=(0,r) by simp [yA,he]]
theorem zUa (x y:UInt8):ior .i64 (tS .i64 (IntKind.i64.wrap (x.toNat:Int)) 8) (IntKind.i64.wrap (y.toNat:Int))=((x.toNat*256+y.toNat:Nat):Int):=by
 have hx:=x.toNat_lt
 have hy:=y.toNat_lt
 rw [zV (by omega) (by omega),zV (by omega) (by omega)]
 have e1:tS .i64 (x.toNat:Int) 8=((x.toNat*256:Nat):Int):=by
  show IntKind.i64.wrap ((x.toNat:Int)*256)=_
  rw [zV (by omega) (by omega)];omega
 rw [e1]
 unfold ior
 have e2:(BitVec.ofInt IntKind.i64.bits ((x.toNat*256:Nat):Int) ||| BitVec.ofInt IntKind.i64.bits (y.toNat:Int)).toNat=x.toNat*256+y.toNat:=by
  show (BitVec.ofInt 64 ((x.toNat*256:Nat):Int) ||| BitVec.ofInt 64 (y.toNat:Int)).toNat=_
  rw [BitVec.ofInt_natCast,BitVec.ofInt_natCast,BitVec.toNat_or,BitVec.toNat_ofNat,BitVec.toNat_ofNat,Nat.mod_eq_of_lt (by omega),Nat.mod_eq_of_lt (by omega)]
  rw [Nat.mul_comm,show (256:Nat)=2 ^ 8 from rfl,<- Nat.two_pow_add_eq_or_of_lt (by omega)]
 rw [e2,zV (by omega) (by omega)]
theorem ig {l:List UInt8} {i:Nat} (h:i<l.length):idx l (i:Int)=some (l.getD i 0):=by rw [xH h];simp [h]
theorem tD (r:RS) (m:Nat) (h:r.Ok):xP r.W (m:Int)=some ((vX r m).1,(vX r m).2.W):=by
 have hv:v2 r<65536:=by
  have h1:=(r.b.getD r.at' 0).toNat_lt
  have h2:=(r.b.getD (r.at'+1) 0).toNat_lt
  unfold v2;omega
 unfold xP
 by_cases he:r.e=0
 ·refine cf (b0 he) ?_
  by_cases hn:r.left<2
  ·refine bd (zEn r 2 h hn) ?_
   refine ct rfl ?_
   rw [show vX r m=([],r.err 2) by simp [vX,he,hn]]
   rfl
  ·refine bd (zCe r 2 h (by omega)) ?_
   refine cf rfl ?_
   have hl:=RS.get_len r 2 (by omega)
   have hn':=hn
   simp only [RS.left] at hn'
   refine bd (a:=r.b.getD r.at' 0) ?_ ?_
   ·refine (ig (l:=r.get 2) (i:=0) (by omega)).trans ?_
    simp [RS.get]
   refine bd (a:=r.b.getD (r.at'+1) 0) ?_ ?_
   ·refine (ig (l:=r.get 2) (i:=1) (by omega)).trans ?_
    simp [RS.get]
   refine ltk ?_
   rw [zUa]
   show (bif decide ((m:Int)<(v2 r:Int)) then _ else _)=_
   by_cases hm:m<v2 r
   ·refine ct (dlt hm) ?_
    rw [show vX r m=([],r.err 4) by simp [vX,he,hn,hm]]
    rfl
   ·refine cf (dge (by omega)) ?_
    obtain ⟨h1,h2⟩:=h
    have hw:IntKind.i64.wrap ((r.at':Int)+2)=(((r.at'+2:Nat)):Int):=by rw [zV (by omega) (by omega)];omega
    show ((yG r.W (IntKind.i64.wrap ((r.at':Int)+2)) (v2 r:Int)).bind _)=_
    rw [hw]
    by_cases hk:r.left<2+v2 r
    ·refine bd (a:=([],2,r.W)) ?_ ?_
     ·exact zF8 r.W (r.at'+2) (v2 r) (by show r.at'+2<=r.b.length;omega) h2 (by simp only [RS.left] at hk;show r.b.length - (r.at'+2)<v2 r;omega)
     ·refine ct rfl ?_
      rw [show vX r m=([],r.err 2) by simp [vX,he,hn,hm,hk]]
      rfl
    ·have hk':=hk
     simp only [RS.left] at hk'
     refine bd (zD1 r.W (r.at'+2) (v2 r) h2 (by show r.at'+2+v2 r<=r.b.length;omega)) ?_
     refine cf rfl ?_
     refine ltk ?_
     refine bd (a:=(r.b.drop (r.at'+2)).take (v2 r)) ?_ ?_
     ·refine (zR (by simp;omega)).trans ?_
      rfl
     ·show some (_,(⟨r.b,IntKind.i64.wrap ((r.at':Int)+IntKind.i64.wrap (2+(v2 r:Int))),r.e⟩:wire_Reader))=_
      rw [zV (n:=2+(v2 r:Int)) (by omega) (by omega),zV (by omega) (by omega),show (r.at':Int)+(2+(v2 r:Int))=((r.at'+(2+v2 r):Nat):Int) by omega]
      rw [show vX r m=((r.b.drop (r.at'+2)).take (v2 r),r.to (2+v2 r)) by simp [vX,he,hn,hm,hk]]
      rfl
 ·refine ct (b1 he) ?_
  rw [show vX r m=([],r) by simp [vX,he]]
theorem zAp (r:RS) (h:r.Ok):u6 r.W=some (bZ r,r.W):=by
 unfold u6
 by_cases he:r.e=0
 ·refine bd (a:=(decide (0<(r.left:Int)),r.b,(r.at':Int),r.e)) (ct (c0 he) ?_) ?_
  ·show some (decide (0<IntKind.i64.wrap ((r.b.length:Int) - (r.at':Int))),r.b,(r.at':Int),r.e)=_
   rw [zEz r h]
  ·by_cases hl:0<r.left
   ·refine ct (by simp;omega) ?_
    simp only [bZ,he,hl];rw [<- he];rfl
   ·refine cf (by simp;omega) ?_
    simp only [bZ,he,hl];rw [<- he];simp [RS.W]
 ·refine bd (a:=(false,r.b,(r.at':Int),r.e)) (cf (c1 he) rfl) ?_
  refine cf rfl ?_
  simp only [bZ,he];simp [RS.W]
end Go.Proofs.TT
namespace Go.Proofs.TT
open Go Go.Sw
set_option maxRecDepth 100000
theorem tW (n:Nat):(u8 (n:Int)).toNat=n % 256:=by
 have:((n:Int) % 256).toNat=n % 256:=by omega
 rw [u8,this];simp
theorem zP0 (n k:Nat) (h:n<2 ^ 62) (hk:k<2 ^ 62):yP .i64 (n:Int) (k:Int)=((n &&& k:Nat):Int):=by
 have e:(BitVec.ofInt IntKind.i64.bits (n:Int) &&& BitVec.ofInt IntKind.i64.bits (k:Int)).toNat=n &&& k:=by
  show (BitVec.ofInt 64 (n:Int) &&& BitVec.ofInt 64 (k:Int)).toNat=_
  rw [BitVec.ofInt_natCast,BitVec.ofInt_natCast,BitVec.toNat_and,BitVec.toNat_ofNat,BitVec.toNat_ofNat,Nat.mod_eq_of_lt (by omega),Nat.mod_eq_of_lt (by omega)]
 unfold yP
 have h3:n &&& k<=n:=Nat.and_le_left
 rw [e,zV (by omega) (by omega)]
theorem zL1 (n:Nat) (h:n<2 ^ 62):yP .i64 (n:Int) 15=((n % 16:Nat):Int):=by
 rw [show (15:Int)=((15:Nat):Int) from rfl,zP0 n 15 h (by decide),Nat.and_two_pow_sub_one_eq_mod n 4]
theorem zPy (n:Nat) (h:n<2 ^ 62):yP .i64 (n:Int) 1=((n % 2:Nat):Int):=by
 rw [show (1:Int)=((1:Nat):Int) from rfl,zP0 n 1 h (by decide),Nat.and_two_pow_sub_one_eq_mod n 1]
theorem zGr (k:IntKind) (n j:Nat) (h:j<=k.bits):zW k (n:Int) (j:Int)=((n / 2 ^ j:Nat):Int):=by
 unfold zW
 rw [Int.toNat_natCast,Nat.min_eq_left h,Int.fdiv_eq_ediv_of_nonneg _ (by have:(0:Int)<2 ^ j:=Int.pow_pos (by decide);omega)]
 rw [Int.natCast_ediv];simp
theorem zNj (x:UInt8):IntKind.i64.wrap ((u8 (zW .u8 (x.toNat:Int) 4)).toNat:Int)=((x.toNat / 16:Nat):Int):=by
 have hx:=x.toNat_lt
 rw [show (4:Int)=((4:Nat):Int) from rfl,zGr .u8 x.toNat 4 (by decide),tW,zV (by omega) (by omega)]
 omega
theorem zMw (x:UInt8):IntKind.i64.wrap ((u8 (yP .u8 (x.toNat:Int) 15)).toNat:Int)=((x.toNat % 16:Nat):Int):=by
 have hx:=x.toNat_lt
 have e:yP .u8 (x.toNat:Int) 15=((x.toNat % 16:Nat):Int):=by
  have e:(BitVec.ofInt IntKind.u8.bits (x.toNat:Int) &&& BitVec.ofInt IntKind.u8.bits 15).toNat=x.toNat % 16:=by
   show (BitVec.ofInt 8 (x.toNat:Int) &&& BitVec.ofInt 8 ((15:Nat):Int)).toNat=_
   rw [BitVec.ofInt_natCast,BitVec.ofInt_natCast,BitVec.toNat_and,BitVec.toNat_ofNat,BitVec.toNat_ofNat,Nat.mod_eq_of_lt (by omega),Nat.mod_eq_of_lt (by omega)]
   exact Nat.and_two_pow_sub_one_eq_mod x.toNat 4
  unfold yP
  rw [e,IntKind.wrap_u8];omega
 rw [e,tW,zV (by omega) (by omega)]
 omega
def nb (x:UInt8):List Nat:=[x.toNat / 16,x.toNat % 16]
def nbs (h:List UInt8):List Nat:=h.flatMap nb
def sm (h:List UInt8):Nat:=(h.map λx=>30 - x.toNat / 16 - x.toNat % 16).sum
theorem zJo (l:List UInt8) (i:Nat) (hi:i<l.length):sm (l.take (i+1))=sm (l.take i)+(30 - l[i].toNat / 16 - l[i].toNat % 16):=by
 unfold sm
 rw [List.take_add_one,List.map_append,List.sum_append]
 simp only [hi,List.getElem?_eq_getElem,Option.toList_some,List.map_cons,List.map_nil,List.sum_cons,List.sum_nil]
 omega
theorem zG3 (l:List UInt8):sm l<=30*l.length:=by
 induction l with
 | nil=>simp [sm]
 | cons a r ih=>simp only [sm,List.map_cons,List.sum_cons,List.length_cons] at ih ⊢;omega
theorem zGe (l:List UInt8) (i:Nat) (hi:i<l.length):nbs (l.take (i+1))=nbs (l.take i)++nb l[i]:=by
 unfold nbs
 rw [List.take_add_one,List.flatMap_append]
 simp [hi]
theorem b8 (l:List UInt8):(nbs l).length=2*l.length:=by
 induction l with
 | nil=>rfl
 | cons a r ih=>simp [nbs,nb] at ih ⊢;omega
def nI (l:List Nat):List Int:=l.map λ(n:Nat)=>(n:Int)
theorem zCb (a b:List Nat):nI (a++b)=nI a++nI b:=by simp [nI]
theorem bN (a:List Nat):(nI a).length=a.length:=by simp [nI]
theorem zFr {l:List Nat} {i:Nat} (h:i<l.length):idx (nI l) (i:Int)=some ((l.getD i 0:Nat):Int):=by
 rw [xH (by rw [bN];exact h)];simp [nI,h]
theorem zOz (x:UInt8) (out:List Nat) (s:Nat) (ho:out.length<2 ^ 20) (hs:s<2 ^ 40):zE (pW x) FU (nI out,(s:Int),0)=some (nI (out++nb x),((s+(30 - x.toNat / 16 - x.toNat % 16):Nat):Int)):=by
 have hx:=x.toNat_lt
 refine zK 2 (λi=>(nI (out++(nb x).take i),((s+(if i=0 then 0 else if i=1 then 15 - x.toNat / 16 else 30 - x.toNat / 16 - x.toNat % 16):Nat):Int),(i:Int))) (by simp) (λi hi=>?_) ?_ (yS (by decide))
 ·unfold pW
  refine ct (dlt (b:=2) hi) ?_
  rw [zNj,zMw]
  rcases i with _ | _ | i
  ·refine bd (a:=((x.toNat / 16:Nat):Int)) rfl ?_
   refine bd (zR (by simp [nI];omega)) ?_
   refine ltk ?_
   have e:IntKind.i64.wrap (((s+0:Nat):Int)+IntKind.i64.wrap (15 - ((x.toNat / 16:Nat):Int)))=((s+(15 - x.toNat / 16):Nat):Int):=by
    rw [zV (n:=15 - _) (by omega) (by omega),zV (by omega) (by omega)];omega
   show some (Sum.inl (_,IntKind.i64.wrap (((s+0:Nat):Int)+IntKind.i64.wrap (15 - ((x.toNat / 16:Nat):Int))),IntKind.i64.wrap (((0:Nat):Int)+1)))=_
   rw [e,yB (by decide)]
   simp [nI,nb]
  ·refine bd (a:=((x.toNat % 16:Nat):Int)) rfl ?_
   refine bd (zR (by simp [nI];omega)) ?_
   refine ltk ?_
   have e:IntKind.i64.wrap (((s+(15 - x.toNat / 16):Nat):Int)+IntKind.i64.wrap (15 - ((x.toNat % 16:Nat):Int)))=((s+(30 - x.toNat / 16 - x.toNat % 16):Nat):Int):=by
    rw [zV (n:=15 - _) (by omega) (by omega),zV (by omega) (by omega)];omega
   show some (Sum.inl (_,IntKind.i64.wrap (((s+(15 - x.toNat / 16):Nat):Int)+IntKind.i64.wrap (15 - ((x.toNat % 16:Nat):Int))),IntKind.i64.wrap (((1:Nat):Int)+1)))=_
   rw [e,yB (by decide)]
   simp [nI,nb]
  ·omega
 ·rfl
def lB (m:List UInt8):List Nat:=nbs ((hs 4 [m]).take 16)++[sm ((hs 4 [m]).take 16) / 256,sm ((hs 4 [m]).take 16) / 16 % 16,sm ((hs 4 [m]).take 16) % 16]
theorem pN (tag:Int) (fs:List (List UInt8)):((hs tag fs).take 16).length=16:=by simp [dS]
theorem zC5 (m:List UInt8):(lB m).length=35:=by have:=pN 4 [m];simp [lB,b8,-List.length_take,this]
theorem zAv (tag:Int) (fs:List (List UInt8)):sub (hs tag fs) 0 16=some ((hs tag fs).take 16):=by
 have:=dS tag fs
 rw [show (0:Int)=((0:Nat):Int) from rfl,show (16:Int)=((16:Nat):Int) from rfl,tX (by omega) (by omega)];simp
theorem zO6 (a:List UInt8):tot [a]=4+a.length:=by simp [tot]
theorem zKt (a b:List UInt8):tot [a,b]=8+a.length+b.length:=by simp [tot];omega
theorem zOr (a b c:List UInt8):tot [a,b,c]=12+a.length+b.length+c.length:=by simp [tot];omega
theorem zH1 (m:List UInt8) (hm:m.length<2 ^ 31):pO m=some (nI (lB m)):=by
 unfold pO
 refine bd (mP 4 [m] (by rw [zO6];omega)) ?_
 refine bd (zAv 4 [m]) ?_
 have hl:=pN 4 [m]
 unfold lB
 generalize (hs 4 [m]).take 16=h at hl ⊢
 have hsm:=zG3 h
 refine bd (a:=(nI (nbs h),(sm h:Int))) ?_ ?_
 ·refine zK h.length (λi=>(nI (nbs (h.take i)),(sm (h.take i):Int),(i:Int))) rfl (λi hi=>?_) ?_ (yS (by omega))
  ·have h1:=zG3 (h.take i)
   have h2:=b8 (h.take i)
   have h3:(h.take i).length=i:=by simp;omega
   unfold pI
   refine ct (dlt hi) ?_
   refine bd (xH hi) ?_
   refine bd (zOz _ _ _ (by omega) (by omega)) ?_
   rw [zJo h i hi,zGe h i hi,yB (show i<2 ^ 40 by omega)]
  ·unfold pI
   refine cf (dge (Nat.le_refl _)) ?_
   simp
 ·have h2:=b8 h
  show ((zZ 8 (nI (nbs h)) [zW .i64 (sm h:Int) ((8:Nat):Int),yP .i64 (zW .i64 (sm h:Int) ((4:Nat):Int)) 15,yP .i64 (sm h:Int) 15]).bind λv=>some v)=_
  rw [zGr .i64 _ 8 (by decide),zGr .i64 _ 4 (by decide),zL1 _ (by omega),zL1 _ (by omega)]
  refine bd (zR (by rw [bN];simp;omega)) ?_
  rw [zCb]
  rfl
theorem zIm (m:List UInt8) (hm:m.length<2 ^ 31):lG m=some (nI (lB m)):=by
 unfold lG
 refine bd (mI 4 [m] (by rw [zO6];omega)) ?_
 refine bd (zAv 4 [m]) ?_
 have hl:=pN 4 [m]
 unfold lB
 generalize (hs 4 [m]).take 16=h at hl ⊢
 have hsm:=zG3 h
 refine bd (a:=(nI (nbs h),(sm h:Int))) ?_ ?_
 ·refine zK 16 (λi=>(nI (nbs (h.take i)),(sm (h.take i):Int),(i:Int))) rfl (λi hi=>?_) ?_ (yS (by omega))
  ·have h1:=zG3 (h.take i)
   have h2:=b8 (h.take i)
   have h3:(h.take i).length=i:=by simp;omega
   have hi':i<h.length:=by omega
   have hx:=h[i].toNat_lt
   unfold mX
   refine ct (dlt (b:=16) hi) ?_
   refine bd (xH hi') ?_
   refine bd (xH hi') ?_
   rw [zNj,zMw]
   refine bd (a:=nI (nbs (h.take (i+1)))) ?_ ?_
   ·rw [zR (by rw [bN];simp;omega),zGe h i hi',zCb];rfl
   refine bd (xH hi') ?_
   refine ltk ?_
   refine bd (xH hi') ?_
   refine ltk ?_
   rw [zNj,zMw,zJo h i hi',yB (show i<2 ^ 40 by omega)]
   rw [zV (n:=30 - _) (by omega) (by omega),zV (n:=30 - _ - _) (by omega) (by omega),zV (by omega) (by omega)]
   congr 4
   omega
  ·unfold mX
   refine cf rfl ?_
   rw [List.take_of_length_le (by omega)]
 ·have h2:=b8 h
  show ((zZ 8 (nI (nbs h)) [IntKind.i64.wrap (Int.tdiv (sm h:Int) 256),Int.tmod (IntKind.i64.wrap (Int.tdiv (sm h:Int) 16)) 16,Int.tmod (sm h:Int) 16]).bind λv=>some v)=_
  have e1:IntKind.i64.wrap (Int.tdiv (sm h:Int) 256)=((sm h / 256:Nat):Int):=by rw [Int.tdiv_eq_ediv_of_nonneg (by omega),zV (by omega) (by omega)];omega
  have e2:IntKind.i64.wrap (Int.tdiv (sm h:Int) 16)=((sm h / 16:Nat):Int):=by rw [Int.tdiv_eq_ediv_of_nonneg (by omega),zV (by omega) (by omega)];omega
  have e3:Int.tmod ((sm h / 16:Nat):Int) 16=((sm h / 16 % 16:Nat):Int):=by rw [Int.tmod_eq_emod_of_nonneg (by omega)];omega
  have e4:Int.tmod (sm h:Int) 16=((sm h % 16:Nat):Int):=by rw [Int.tmod_eq_emod_of_nonneg (by omega)];omega
  rw [e1,e2,e3,e4]
  refine bd (zR (by rw [bN];simp;omega)) ?_
  rw [zCb]
  rfl
def chn (leaf c p:Nat) (x:List UInt8):Nat->List UInt8
 | 0=>x
 | k+1=>(hs 1 [[u8 (leaf:Int),u8 (c:Int),u8 ((p+k:Nat):Int)],chn leaf c p x k]).take 16
theorem lZ (leaf c p:Nat) (x:List UInt8) (hx:x.length=16):∀ k,(chn leaf c p x k).length=16
 | 0=>hx
 | _+1=>pN _ _
theorem zDw (leaf c p t:Nat) (x:List UInt8) (hx:x.length=16) (hp:p<=t) (ht:t<2 ^ 30):mZ (leaf:Int) (c:Int) (p:Int) (t:Int) x=some (chn leaf c p x (t - p)):=by
 unfold mZ
 refine bd ?_ rfl
 refine zK (t - p) (λi=>(chn leaf c p x i,((p+i:Nat):Int))) rfl (λi hi=>?_) ?_ (yS (by omega))
 ·have hl:=lZ leaf c p x hx i
  unfold kC
  refine ct (dlt (by omega)) ?_
  refine bd (mI _ _ (by rw [zKt];simp;omega)) ?_
  refine bd (zAv _ _) ?_
  rw [yB (show p+i<2 ^ 40 by omega)]
  rfl
 ·unfold kC
  exact cf (dge (by omega)) rfl
theorem zK1 (leaf c p:Nat) (x:List UInt8) (hx:x.length=16) (hp:p<=15):zE (yW (leaf:Int) (c:Int)) FU (x,(p:Int))=some (chn leaf c p x (15 - p)):=by
 refine zK (15 - p) (λi=>(chn leaf c p x i,((p+i:Nat):Int))) rfl (λi hi=>?_) ?_ (yS (by omega))
 ·have hl:=lZ leaf c p x hx i
  unfold yW
  refine bd (a:=15) rfl ?_
  refine ct (dlt (b:=15) (by omega)) ?_
  refine bd (a:=chn leaf c p x (i+1)) ?_ ?_
  ·unfold j6
   refine bd (mP _ _ (by rw [zKt];simp;omega)) ?_
   exact bd (zAv _ _) rfl
  ·rw [yB (show p+i<2 ^ 40 by omega)]
   rfl
 ·unfold yW
  refine bd (a:=15) rfl ?_
  exact cf (dge (b:=15) (by omega)) rfl
def nod (sig:List UInt8) (i:Nat):List UInt8:=(sig.drop (16*i)).take 16
def zFj (leaf:Nat) (d:List Nat) (sig:List UInt8):Nat->List UInt8
 | 0=>[]
 | i+1=>zFj leaf d sig i++chn leaf i (d.getD i 0) (nod sig i) (15 - d.getD i 0)
theorem zI7 (sig:List UInt8) (hs:sig.length=560) (i:Nat) (hi:i<35):(nod sig i).length=16:=by simp [nod];omega
theorem zCr (leaf:Nat) (d:List Nat) (sig:List UInt8) (hs:sig.length=560):∀ i,i<=35->(zFj leaf d sig i).length=16*i
 | 0,_=>rfl
 | i+1,h=>by
  have h1:=zCr leaf d sig hs i (by omega)
  have h2:=lZ leaf i (d.getD i 0) (nod sig i) (zI7 sig hs i (by omega)) (15 - d.getD i 0)
  simp only [zFj,List.length_append,h1,h2];omega
theorem zLf (leaf:Nat) (d:List Nat) (sig:List UInt8) (hs:sig.length=560) (hd:d.length=35) (h15:∀ i,i<35->d.getD i 0<=15):xK (leaf:Int) sig (nI d)=some (zFj leaf d sig 35):=by
 unfold xK
 refine bd ?_ rfl
 refine zK 35 (λi=>(zFj leaf d sig i,(i:Int))) rfl (λi hi=>?_) ?_ (yS (by omega))
 ·have hl:=zCr leaf d sig hs i (by omega)
  have hn:=zI7 sig hs i hi
  have hc:=lZ leaf i (d.getD i 0) (nod sig i) hn (15 - d.getD i 0)
  unfold w6
  refine ct (dlt (b:=35) hi) ?_
  refine bd (a:=nod sig i) ?_ ?_
  ·unfold rS
   refine bd ?_ rfl
   rw [zV (n:=(i:Int)+1) (by omega) (by omega),zV (by omega) (by omega),zV (by omega) (by omega),show (i:Int)*16=((16*i:Nat):Int) by omega,show ((i:Int)+1)*16=((16*i+16:Nat):Int) by omega,tX (by omega) (by omega)]
   simp [nod]
  refine bd (a:=((d.getD i 0:Nat):Int)) ?_ ?_
  ·unfold rT
   exact bd (zFr (by omega)) rfl
  refine bd (zK1 leaf i _ _ hn (h15 i hi)) ?_
  refine bd (zR (by omega)) ?_
  rw [yB (show i<2 ^ 40 by omega)]
  rfl
 ·generalize zFj leaf d sig 35=S
  rfl
theorem zQh (l:List UInt8):∀ n∈nbs l,n<=15:=by
 intro n hn
 simp only [nbs,List.mem_flatMap,nb] at hn
 obtain ⟨x,_,hx⟩:=hn
 have:=x.toNat_lt
 simp at hx
 omega
theorem zFk (m:List UInt8):∀ i,i<35->(lB m).getD i 0<=15:=by
 intro i hi
 have hl:=zC5 m
 have:(lB m).getD i 0∈lB m:=by
  rw [List.getD_eq_getElem?_getD,List.getElem?_eq_getElem (by omega)]
  exact List.getElem_mem _
 generalize (lB m).getD i 0=v at this ⊢
 unfold lB at this
 have hs':=zG3 ((hs 4 [m]).take 16)
 have hl2:=pN 4 [m]
 rw [List.mem_append] at this
 rcases this with h | h
 ·exact zQh _ _ h
 ·simp only [List.mem_cons,List.not_mem_nil,or_false] at h
  omega
def zEe (leaf:Nat) (m sig:List UInt8):List UInt8:=(hs 2 [[u8 (leaf:Int)],zFj leaf (lB m) sig 35]).take 16
theorem zFt (leaf:Nat) (m sig:List UInt8) (hl:leaf<256) (hm:m.length<2 ^ 31) (hs:sig.length=560):rJ (leaf:Int) m sig=some (zEe leaf m sig,true):=by
 have he:=zCr leaf (lB m) sig hs 35 (by omega)
 unfold rJ
 refine bd (a:=false) ?_ ?_
 ·refine bd (a:=true) ?_ ?_
  ·unfold l8
   refine bd (a:=true) (ct (by simp) (congrArg some (by simp;omega))) rfl
  ·refine cf rfl ?_
   simp [hs]
 refine cf rfl ?_
 refine bd (zH1 m hm) ?_
 refine bd (zLf leaf _ sig hs (zC5 m) (zFk m)) ?_
 refine bd (a:=zEe leaf m sig) ?_ rfl
 unfold kB
 refine bd (mP _ _ (by rw [zKt,he];simp)) ?_
 exact bd (zAv _ _) rfl
end Go.Proofs.TT
namespace Go.Proofs.TT
open Go Go.Sw
set_option maxRecDepth 100000
def par (h i:Nat) (l r:List UInt8):List UInt8:=(hs 3 [[u8 (h:Int),u8 (i:Int)],l,r]).take 16
theorem zHi (h i:Nat) (l r:List UInt8) (hl:l.length=16) (hr:r.length=16):lO (h:Int) (i:Int) l r=some (par h i l r):=by
 unfold lO
 refine bd (mP _ _ (by rw [zOr,hl,hr];simp)) ?_
 exact bd (zAv _ _) rfl
theorem zOo (h i:Nat) (l r:List UInt8) (hl:l.length=16) (hr:r.length=16):fT (h:Int) (i:Int) l r=some (par h i l r):=by
 unfold fT
 refine bd (mI _ _ (by rw [zOr,hl,hr];simp)) ?_
 exact bd (zAv _ _) rfl
def nd (path:List (List UInt8)) (i:Nat) (leaf:List UInt8):Nat->List UInt8
 | 0=>leaf
 | k+1=>if i / 2 ^ k % 2=1 then par k (i / 2 ^ (k+1)) (path.getD k []) (nd path i leaf k) else par k (i / 2 ^ (k+1)) (nd path i leaf k) (path.getD k [])
theorem zS0 (path:List (List UInt8)) (i:Nat) (leaf:List UInt8) (hl:leaf.length=16):∀ k,(nd path i leaf k).length=16
 | 0=>hl
 | k+1=>by
  unfold nd
  split<;>exact pN _ _
theorem zA9 {l:List (List UInt8)} {i:Nat} (h:i<l.length):idx l (i:Int)=some (l.getD i []):=by rw [xH h];simp [h]
theorem half (i k:Nat):i / 2 ^ k / 2=i / 2 ^ (k+1):=by rw [Nat.div_div_eq_div_mul,Nat.pow_succ]
theorem zDt (leaf:List UInt8) (i:Nat) (path:List (List UInt8)) (hl:leaf.length=16) (hp:path.length<=3) (h16:∀ k,k<path.length->(path.getD k []).length=16) (hi:i<2 ^ path.length) (h8:i<256):iF leaf (i:Int) path=some (nd path i leaf path.length):=by
 unfold iF
 refine bd (a:=false) ?_ ?_
 ·refine cf (by simp;omega) ?_
  refine cf (zMf i) ?_
  congr 1
  have h4:path.length=0∨path.length=1∨path.length=2∨path.length=3:=by omega
  rcases h4 with h | h | h | h<;>rw [h] at hi ⊢ <;> (rw [decide_eq_false_iff_not];show ¬ (_:Int)<=(i:Int))
  ·show ¬ (1:Int)<=i;omega
  ·show ¬ (2:Int)<=i;omega
  ·show ¬ (4:Int)<=i;omega
  ·show ¬ (8:Int)<=i;omega
 refine cf rfl ?_
 refine bd (a:=leaf) (by rw [zR (by simp;omega)];simp) ?_
 refine bd ?_ rfl
 refine zK path.length (λk=>(((i / 2 ^ k:Nat):Int),nd path i leaf k,(k:Int))) (by simp [nd]) (λk hk=>?_) ?_ (yS (by omega))
 ·have hn:=zS0 path i leaf hl k
  have hq:=h16 k hk
  have hd:i / 2 ^ k<=i:=Nat.div_le_self _ _
  unfold kA
  refine ct (dlt hk) ?_
  refine bd (zA9 hk) ?_
  rw [zPy _ (by omega),show (1:Int)=((1:Nat):Int) from rfl,zGr .i64 _ 1 (by decide),Nat.pow_one,half]
  by_cases hb:i / 2 ^ k % 2=1
  ·refine bd (ct (by rw [hb];rfl) rfl) ?_
   refine bd (zHi k _ _ _ hq hn) ?_
   rw [show ((1:Nat):Int)=1 from rfl,yB (show k<2 ^ 40 by omega)]
   simp only [nd,if_pos hb]
  ·refine bd (cf (by
            have:i / 2 ^ k % 2=0:=by omega
            rw [this];rfl) rfl) ?_
   refine bd (zHi k _ _ _ hn hq) ?_
   rw [show ((1:Nat):Int)=1 from rfl,yB (show k<2 ^ 40 by omega)]
   simp only [nd,if_neg hb]
 ·unfold kA
  exact cf (dge (Nat.le_refl _)) rfl
def cJ (sig:List UInt8) (h:Nat):List (List UInt8):=(List.range h).map λ(j:Nat)=>(sig.drop (561+16*j)).take 16
theorem gX (sig:List UInt8) (h:Nat):(cJ sig h).length=h:=by simp [cJ]
theorem zK2 (sig:List UInt8) (h:Nat):cJ sig (h+1)=cJ sig h++[(sig.drop (561+16*h)).take 16]:=by simp [cJ,List.range_succ]
theorem zOk (sig:List UInt8) (h:Nat) (hs:sig.length=561+16*h):∀ k,k<(cJ sig h).length->((cJ sig h).getD k []).length=16:=by
 intro k hk
 rw [gX] at hk
 simp [cJ,hk]
 omega
def vrf (pub m sig:List UInt8):Int×Bool:=
 if pub.length≠17∨3<(pub.getD 0 0).toNat then (0,false)
 else if sig.length≠561+16*(pub.getD 0 0).toNat∨2 ^ (pub.getD 0 0).toNat<=(sig.getD 0 0).toNat then (0,false)
 else if nd (cJ sig (pub.getD 0 0).toNat) (sig.getD 0 0).toNat (zEe (sig.getD 0 0).toNat m ((sig.drop 1).take 560)) (pub.getD 0 0).toNat=pub.drop 1 then (((sig.getD 0 0).toNat:Int),true) else (0,false)
theorem wb (x:UInt8):IntKind.i64.wrap (x.toNat:Int)=(x.toNat:Int):=by
 have:=x.toNat_lt
 rw [zV (by omega) (by omega)]
theorem shl2 (h:Nat) (hh:h<=3):tS .i64 1 (IntKind.u64.wrap (h:Int))=((2 ^ h:Nat):Int):=by
 have h4:h=0∨h=1∨h=2∨h=3:=by omega
 rcases h4 with h | h | h | h<;>subst h<;>rfl
theorem zLu (sig:List UInt8) (h:Nat) (hs:sig.length=561+16*h) (hh:h<=3):zE sV FU ([],sig.drop 561)=some (cJ sig h):=by
 refine zK h (λi=>(cJ sig i,sig.drop (561+16*i))) (by simp [cJ]) (λi hi=>?_) ?_ (yS (by omega))
 ·have hd:(sig.drop (561+16*i)).length=16*(h - i):=by simp;omega
  unfold sV
  refine ct (by simp;omega) ?_
  refine bd (a:=(sig.drop (561+16*i)).take 16) (by rw [show (0:Int)=((0:Nat):Int) from rfl,show (16:Int)=((16:Nat):Int) from rfl,tX (by omega) (by omega)];simp) ?_
  refine bd (zR (by rw [gX];simp;omega)) ?_
  refine bd (a:=sig.drop (561+16*(i+1))) (by rw [show (16:Int)=((16:Nat):Int) from rfl,tX (by omega) (by omega),List.drop_drop,List.take_of_length_le (by simp;omega)];congr 2) ?_
  rw [zK2]
 ·unfold sV
  refine cf (by simp;omega) rfl
theorem zGi {l:List UInt8} {a:Nat} (h:a<=l.length):sub l (a:Int) (l.length:Int)=some (l.drop a):=by
 rw [tX h (Nat.le_refl _),List.take_of_length_le (by simp)]
theorem zHw (pub m sig:List UInt8) (hm:m.length<2 ^ 31) (hp:pub.length<2 ^ 40) (hg:sig.length<2 ^ 40):oY pub m sig=some (vrf pub m sig):=by
 unfold oY
 by_cases hl:pub.length=17
 case neg=>
  refine bd (a:=true) (ct (by simp;omega) rfl) ?_
  refine ct rfl ?_
  rw [vrf,if_pos (.inl hl)]
 have h0:idx pub 0=some (pub.getD 0 0):=ig (i:=0) (by omega)
 by_cases h3:3<(pub.getD 0 0).toNat
 ·refine bd (a:=true) (cf (by simp;omega) ?_) ?_
  ·refine bd h0 ?_
   refine bd (a:=false) ?_ rfl
   unfold n6
   refine bd (a:=false) ?_ rfl
   rw [wb]
   refine ct (by simp) ?_
   refine congrArg some ?_
   rw [decide_eq_false_iff_not];omega
  ·refine ct rfl ?_
   rw [vrf,if_pos (.inr h3)]
 refine bd (a:=false) (cf (by simp;omega) ?_) ?_
 ·refine bd h0 ?_
  refine bd (a:=true) ?_ rfl
  unfold n6
  refine bd (a:=true) ?_ rfl
  rw [wb]
  refine ct (by simp) ?_
  refine congrArg some ?_
  rw [decide_eq_true_iff];omega
 refine cf rfl ?_
 refine bd h0 ?_
 rw [wb]
 have hx:∃ h,(pub.getD 0 0).toNat=h:=⟨_,rfl⟩
 obtain ⟨h,hx⟩:=hx
 rw [hx] at h3 ⊢
 rw [vrf,hx,if_neg (by omega)]
 have e1:IntKind.i64.wrap (561+IntKind.i64.wrap (16*(h:Int)))=((561+16*h:Nat):Int):=by rw [zV (n:=16*(h:Int)) (by omega) (by omega),zV (by omega) (by omega)];omega
 by_cases hs:sig.length=561+16*h
 case neg=>
  refine bd (a:=true) (ltk ?_) ?_
  ·rw [e1]
   exact ct (by simp;omega) rfl
  ·refine ct rfl ?_
   rw [if_pos (.inl hs)]
 have hs0:idx sig 0=some (sig.getD 0 0):=ig (i:=0) (by omega)
 have hy:∃ i,(sig.getD 0 0).toNat=i:=⟨_,rfl⟩
 obtain ⟨i,hy⟩:=hy
 have hi8:i<256:=by have:=(sig.getD 0 0).toNat_lt;omega
 by_cases hb:2 ^ h<=i
 ·refine bd (a:=true) (ltk ?_) ?_
  ·rw [e1]
   refine cf (by simp;omega) ?_
   refine bd hs0 ?_
   refine ltk ?_
   rw [wb,shl2 h (by omega),hy]
   simp;exact_mod_cast hb
  ·refine ct rfl ?_
   rw [hy,if_pos (.inr hb)]
 refine bd (a:=false) (ltk ?_) ?_
 ·rw [e1]
  refine cf (by simp;omega) ?_
  refine bd hs0 ?_
  refine ltk ?_
  rw [wb,shl2 h (by omega),hy]
  simp;exact_mod_cast (by omega:i<2 ^ h)
 refine cf rfl ?_
 refine bd hs0 ?_
 rw [wb,hy,if_neg (by omega)]
 refine bd (a:=(sig.drop 1).take 560) (tX (a:=1) (b:=561) (by omega) (by omega)) ?_
 refine bd (zFt i m _ hi8 hm (by simp;omega)) ?_
 refine cf rfl ?_
 refine bd (zGi (a:=561) (by omega)) ?_
 refine bd (zLu sig h hs (by omega)) ?_
 refine bd (zDt _ i _ (pN _ _) (by rw [gX];omega) (zOk sig h hs) (by rw [gX];omega) hi8) ?_
 refine bd (zGi (a:=1) (by omega)) ?_
 rw [gX]
 generalize nd (cJ sig h) i (zEe i m ((sig.drop 1).take 560)) h=N
 by_cases hN:N=pub.drop 1
 ·rw [if_pos hN]
  exact cf (by rw [hN];simp) rfl
 ·rw [if_neg hN]
  exact ct (by simp [-List.drop_one,hN]) rfl
end Go.Proofs.TT
namespace Go.Proofs.TT
open Go Go.Sw
set_option maxRecDepth 100000
theorem tb {α β:Type} {o:Option α} {f:α->Option β} (h:∃ a,o=some a) (k:∀ a,∃ r,f a=some r):∃ r,o.bind f=some r:=by
 obtain ⟨a,rfl⟩:=h
 exact k a
theorem tc {α:Type} {c:Bool} {a b:Option α} (h:∃ r,a=some r) (k:∃ r,b=some r):∃ r,(bif c then a else b)=some r:=by cases c<;>assumption
theorem zId (p:api_Public):∃ e,tZ p=some e:=by
 unfold tZ nM
 repeat' first | exact ⟨_,rfl⟩ | refine tb ?_ (λ_=>?_) | refine tc ?_ ?_
def chk (p:api_Public):Int:=(tZ p).getD 0
theorem eY (p:api_Public):tZ p=some (chk p):=by
 obtain ⟨e,h⟩:=zId p
 rw [chk,h];rfl
def enc (p:api_Public):List UInt8:=kM (kM [u8 p.Kind,u8 p.Attr,u8 p.Height] p.Policy) p.Unique
theorem zJt (p:api_Public):(enc p).length<=131077:=by
 have h1:=oH [u8 p.Kind,u8 p.Attr,u8 p.Height] p.Policy
 have h2:=oH (kM [u8 p.Kind,u8 p.Attr,u8 p.Height] p.Policy) p.Unique
 simp only [List.length_cons,List.length_nil] at h1
 unfold enc;omega
def nm (p:api_Public):List UInt8:=hs 6 [enc p]
theorem zFh (p:api_Public):fM p=some (nm p):=by
 have hl:=zJt p
 have h1:=oH [u8 p.Kind,u8 p.Attr,u8 p.Height] p.Policy
 simp only [List.length_cons,List.length_nil] at h1
 unfold fM hZ
 refine bd (bd (bK _ _ (by simp)) (bd (bK _ _ (by omega)) rfl)) ?_
 exact bd (mP _ _ (by rw [zO6];show 4+(enc p).length<_;omega)) rfl
theorem zAu (p:api_Public):jT p=some (nm p):=by
 have hl:=zJt p
 have h1:=oH [u8 p.Kind,u8 p.Attr,u8 p.Height] p.Policy
 simp only [List.length_cons,List.length_nil] at h1
 unfold jT j9
 refine bd (bd (s7 _ _ (by simp)) (bd (s7 _ _ (by omega)) rfl)) ?_
 exact bd (mI _ _ (by rw [zO6];show 4+(enc p).length<_;omega)) rfl
def nnc (nonce:List UInt8) (machine:Int) (log:List UInt8):List UInt8:=hs 23 [nonce,wF [] 2 machine,log]
theorem zMy (nonce:List UInt8) (machine:Int) (log:List UInt8) (h1:nonce.length<2 ^ 30) (h2:log.length<2 ^ 30):qS nonce machine log=some (nnc nonce machine log):=by
 unfold qS
 refine bd (sN [] 2 machine (by omega) (by omega) (by simp)) ?_
 exact bd (mP _ _ (by rw [zOr,zQ];simp;omega)) rfl
theorem mF (nonce:List UInt8) (machine:Int) (log:List UInt8) (h1:nonce.length<2 ^ 30) (h2:log.length<2 ^ 30):uS nonce machine log=some (nnc nonce machine log):=by
 unfold uS
 refine bd (uJ [] 2 machine (by omega) (by omega) (by simp)) ?_
 exact bd (mI _ _ (by rw [zOr,zQ];simp;omega)) rfl
def d0 (b:List UInt8):RS:=⟨b,0,0⟩
def d1 (b:List UInt8):=lF (d0 b) 4
def d2 (b:List UInt8):=vX (d1 b).2 32
def d3 (b:List UInt8):=vX (d2 b).2 128
def d4 (b:List UInt8):=yA (d3 b).2 8
def d5 (b:List UInt8):=yA (d4 b).2 8
def d6 (b:List UInt8):=yA (d5 b).2 8
def d7 (b:List UInt8):=yA (d6 b).2 1
def d8 (b:List UInt8):=yA (d7 b).2 8
def d9 (b:List UInt8):=yA (d8 b).2 2
def d10 (b:List UInt8):=yA (d9 b).2 2
def d11 (b:List UInt8):=lF (d10 b).2 32
def oA:api_Attest:=⟨[],[],0,0,0,false,0,⟨0,0⟩,[]⟩
def att (b:List UInt8):api_Attest×Int:=
 if (d1 b).2.e≠0 then (oA,(d1 b).2.e)
 else if (d1 b).1≠[83,87,81,49] then (oA,5)
 else if bZ (d11 b).2≠0 then (oA,bZ (d11 b).2)
 else if (d2 b).1.length≠32∨1<(d7 b).1 then (oA,1)
 else (⟨(d2 b).1,(d3 b).1,(d4 b).1,(d5 b).1,(d6 b).1,(d7 b).1==1,(d8 b).1,⟨(d9 b).1,(d10 b).1⟩,(d11 b).1⟩,0)
theorem zP9 (b:List UInt8) (h:b.length<2 ^ 40):(d0 b).Ok:=⟨Nat.zero_le _,h⟩
theorem zPt (b:List UInt8) (h:b.length<2 ^ 40):(d1 b).2.Ok:=zGg _ _ (zP9 b h)
theorem zQa (b:List UInt8) (h:b.length<2 ^ 40):(d2 b).2.Ok:=zDz _ _ (zPt b h)
theorem zPw (b:List UInt8) (h:b.length<2 ^ 40):(d3 b).2.Ok:=zDz _ _ (zQa b h)
theorem zP3 (b:List UInt8) (h:b.length<2 ^ 40):(d4 b).2.Ok:=qF _ _ (zPw b h)
theorem zPz (b:List UInt8) (h:b.length<2 ^ 40):(d5 b).2.Ok:=qF _ _ (zP3 b h)
theorem zQb (b:List UInt8) (h:b.length<2 ^ 40):(d6 b).2.Ok:=qF _ _ (zPz b h)
theorem zP8 (b:List UInt8) (h:b.length<2 ^ 40):(d7 b).2.Ok:=qF _ _ (zQb b h)
theorem zPu (b:List UInt8) (h:b.length<2 ^ 40):(d8 b).2.Ok:=qF _ _ (zP8 b h)
theorem zWq (b:List UInt8) (h:b.length<2 ^ 40):(d9 b).2.Ok:=qF _ _ (zPu b h)
theorem zMj (b:List UInt8) (h:b.length<2 ^ 40):(d10 b).2.Ok:=qF _ _ (zWq b h)
theorem zR8 (b:List UInt8) (h:b.length<2 ^ 40):(d11 b).2.Ok:=zGg _ _ (zMj b h)
theorem zSn (r:RS) (hr:r.Ok):zE sO FU (0,0,0,r.W.b_,r.W.at_,r.W.e_)=some ((yA r 2).1,(yA (yA r 2).2 2).1,(yA (yA r 2).2 2).2.W.b_,(yA (yA r 2).2 2).2.W.at_,(yA (yA r 2).2 2).2.W.e_):=by
 have h1:=qF r 2 hr
 refine zK 2 (λi=>match i with
  | 0=>((0:Int),0,0,r.W.b_,r.W.at_,r.W.e_)
  | 1=>(1,(yA r 2).1,0,(yA r 2).2.W.b_,(yA r 2).2.W.at_,(yA r 2).2.W.e_)
  | _=>(2,(yA r 2).1,(yA (yA r 2).2 2).1,(yA (yA r 2).2 2).2.W.b_,(yA (yA r 2).2 2).2.W.at_,(yA (yA r 2).2 2).2.W.e_)) rfl (λi hi=>?_) ?_ (yS (by decide))
 case refine_2=>rfl
 rcases i with _ | _ | i
 ·unfold sO
  refine ct rfl ?_
  refine bd (bd (xL r 2 hr (by omega) (by omega)) rfl) ?_
  rfl
 ·unfold sO
  refine ct rfl ?_
  refine bd (bd (xL (yA r 2).2 2 h1 (by omega) (by omega)) rfl) ?_
  rfl
 ·omega
theorem zS4 (b:List UInt8) (h:b.length<2 ^ 40):oT b=some (att b):=by
 unfold oT
 refine bd (a:=(d0 b).W) ?_ ?_
 ·unfold mT
  refine bd (a:=b) (by rw [zR (by simp;omega)];simp) rfl
 refine bd (hK (d0 b) 4 (zP9 b h)) ?_
 refine bd (a:=((d1 b).2.e,(d1 b).2.W)) rfl ?_
 unfold att
 by_cases he:(d1 b).2.e=0
 case neg=>
  rw [if_pos he]
  refine ct (b1 he) ?_
  rfl
 rw [if_neg (by simpa using he)]
 refine cf (b0 he) ?_
 by_cases hm:(d1 b).1=[83,87,81,49]
 case neg=>
  rw [if_pos hm]
  refine ct ?_ rfl
  show (!((d1 b).1==[83,87,81,49]))=true
  simp [hm]
 rw [if_neg (by simpa using hm)]
 refine cf ?_ ?_
 ·show (!((d1 b).1==[83,87,81,49]))=false
  simp [hm]
 refine bd (tD (d1 b).2 32 (zPt b h)) ?_
 refine bd (tD (d2 b).2 128 (zQa b h)) ?_
 refine bd (xL (d3 b).2 8 (zPw b h) (by omega) (by omega)) ?_
 refine bd (xL (d4 b).2 8 (zP3 b h) (by omega) (by omega)) ?_
 refine bd (xL (d5 b).2 8 (zPz b h) (by omega) (by omega)) ?_
 refine bd (xL (d6 b).2 1 (zQb b h) (by omega) (by omega)) ?_
 refine bd (xL (d7 b).2 8 (zP8 b h) (by omega) (by omega)) ?_
 refine bd (zSn (d8 b).2 (zPu b h)) ?_
 refine bd (hK (d10 b).2 32 (zMj b h)) ?_
 refine bd (zAp (d11 b).2 (zR8 b h)) ?_
 by_cases hn:bZ (d11 b).2=0
 case neg=>
  rw [if_pos hn]
  exact ct (b1 hn) rfl
 rw [if_neg (by simpa using hn)]
 refine cf (b0 hn) ?_
 show ((bif ((d2 b).1.length:Int) != 32 then some true else some (decide (1<(d7 b).1))).bind λv=>bif v then some (oA,1) else some (api_Attest.mk (d2 b).1 (d3 b).1 (d4 b).1 (d5 b).1 (d6 b).1 ((d7 b).1==1) (d8 b).1 ⟨(d9 b).1,(d10 b).1⟩ (d11 b).1,0))=_
 by_cases hl:(d2 b).1.length=32
 ·by_cases h7:1<(d7 b).1
  ·rw [if_pos (.inr h7)]
   refine bd (a:=true) (cf (by simp;omega) (by simp;exact h7)) rfl
  ·rw [if_neg (by omega)]
   refine bd (a:=false) (cf (by simp;omega) (by simp;omega)) rfl
 ·rw [if_pos (.inl hl)]
  refine bd (a:=true) (ct (by simp;omega) rfl) rfl
end Go.Proofs.TT
namespace Go.Proofs.TT
open Go Go.Sw
set_option maxRecDepth 100000
def vq (k:api_Public) (b sig:List UInt8):api_Attest×Int×Int:=
 if chk k≠0 then (oA,0,chk k)
 else if k.Kind≠2 then (oA,0,19)
 else if yP .i64 k.Attr 4=0 then (oA,0,20)
 else if (vrf k.Unique b sig).2=false then (oA,0,17)
 else if (att b).2≠0 then (oA,0,(att b).2)
 else if (att b).1.Key≠nm k then (oA,0,16)
 else ((att b).1,(vrf k.Unique b sig).1,0)
theorem zIp (k:api_Public) (b sig:List UInt8) (hb:b.length<2 ^ 31) (hs:sig.length<2 ^ 40) (hk:k.Unique.length<2 ^ 40):oJ k b sig=some (vq k b sig):=by
 unfold oJ vq
 refine bd (eY k) ?_
 by_cases h1:chk k=0
 case neg=>rw [if_pos h1];exact ct (b1 h1) rfl
 rw [if_neg (by simpa using h1)]
 refine cf (b0 h1) ?_
 by_cases h2:k.Kind=2
 case neg=>rw [if_pos h2];exact ct (by simp [h2]) rfl
 rw [if_neg (by simpa using h2)]
 refine cf (by simp [h2]) ?_
 by_cases h3:yP .i64 k.Attr 4=0
 ·rw [if_pos h3];exact ct (by simp [h3]) rfl
 rw [if_neg h3]
 refine cf (by simp [h3]) ?_
 refine bd (zHw k.Unique b sig hb hk hs) ?_
 generalize vrf k.Unique b sig=V
 obtain ⟨v1,v2⟩:=V
 cases v2
 ·rfl
 refine cf rfl ?_
 rw [if_neg (by simp)]
 refine bd (zS4 b (by omega)) ?_
 generalize att b=A
 obtain ⟨a1,a2⟩:=A
 by_cases h5:a2=0
 case neg=>rw [if_pos h5];exact ct (b1 h5) rfl
 rw [if_neg (by simpa using h5)]
 refine cf (b0 h5) ?_
 refine bd (zFh k) ?_
 by_cases h6:a1.Key=nm k
 case neg=>rw [if_pos h6];exact ct (by simp [h6]) rfl
 rw [if_neg (by simpa using h6)]
 exact cf (by simp [h6]) rfl
def qf (b sig:List UInt8):List api_Public->Int->Option api_Attest×Int
 | [],e=>(none,e)
 | k :: r,_=>if (vq k b sig).2.2=0 then (some (vq k b sig).1,0) else qf b sig r (vq k b sig).2.2
def qt (x:api_Evidence) (keys:List api_Public) (nonce:List UInt8):api_Attest×Int:=
 match qf x.Attest x.Signature keys 17 with
 | (some a,_)=>if a.Nonce=nnc nonce x.Machine x.Log then (a,0) else (oA,45)
 | (none,e)=>(oA,e)
theorem zEf {α:Type} {l:List α} {k:Nat} (h:k<l.length):l.drop k=l[k] :: l.drop (k+1):=List.drop_eq_getElem_cons h
structure EvOk (x:api_Evidence) (keys:List api_Public) (nonce:List UInt8):Prop where
 b:x.Attest.length<2 ^ 30
 s:x.Signature.length<2 ^ 30
 l:x.Log.length<2 ^ 30
 n:nonce.length<2 ^ 30
 kl:keys.length<2 ^ 30
 k:∀ p∈keys,p.Unique.length<2 ^ 40
theorem kK (x:api_Evidence) (keys:List api_Public) (nonce:List UInt8) (h:EvOk x keys nonce):qK x keys nonce=some (qt x keys nonce):=by
 unfold qK
 have:=h.kl
 obtain ⟨r,hr,hq⟩:=aD (step:=vR x keys)
  (λs=>∃ k:Nat,s.2.1=(k:Int)/\k<=keys.length/\s.1≠0/\qf x.Attest x.Signature (keys.drop k) s.1=qf x.Attest x.Signature keys 17)
  (λs=>keys.length - s.2.1.toNat)
  (λr=>(qf x.Attest x.Signature keys 17=(none,r.1)/\r.1≠0)∨∃ a:api_Attest,qf x.Attest x.Signature keys 17=(some a,0)/\r=(0,a.Key,a.Nonce,a.Resets,a.Restarts,a.Clock,a.Safe,a.Updates,a.Selection.a0,a.Selection.a1,a.Digest))
  (λs hs=>by
   obtain ⟨e,i,f1,f2,f3,f4,f5,f6,f7,f8,f9,f10⟩:=s
   obtain ⟨k,rfl,hk,he,hq⟩:=hs
   simp only at he hq
   by_cases hk2:k<keys.length
   ·have hv:=zIp keys[k] x.Attest x.Signature (by have:=h.b;omega) (by have:=h.s;omega) (h.k _ (List.getElem_mem hk2))
    rw [zEf hk2,qf] at hq
    generalize vq keys[k] x.Attest x.Signature=V at hv hq
    obtain ⟨v1,v2,v3⟩:=V
    simp only at hq
    by_cases hz:v3=0
    ·rw [if_pos hz] at hq
     refine .inr ⟨(0,v1.Key,v1.Nonce,v1.Resets,v1.Restarts,v1.Clock,v1.Safe,v1.Updates,v1.Selection.a0,v1.Selection.a1,v1.Digest),?_,.inr ⟨_,hq.symm,rfl⟩⟩
     subst hz
     unfold vR
     refine ct (dlt hk2) ?_
     refine bd (xH hk2) ?_
     exact bd hv rfl
    ·rw [if_neg hz] at hq
     refine .inl ⟨(v3,((k+1:Nat):Int),v1.Key,v1.Nonce,v1.Resets,v1.Restarts,v1.Clock,v1.Safe,v1.Updates,v1.Selection.a0,v1.Selection.a1,v1.Digest),?_,⟨k+1,rfl,by omega,hz,hq⟩,?_⟩
     ·unfold vR
      refine ct (dlt hk2) ?_
      refine bd (xH hk2) ?_
      refine bd hv ?_
      refine cf (c1 hz) ?_
      rw [yB (by omega)]
     ·simp;omega
   ·refine .inr ⟨(e,f1,f2,f3,f4,f5,f6,f7,f8,f9,f10),?_,.inl ⟨?_,he⟩⟩
    ·unfold vR
     exact cf (dge (by omega)) rfl
    ·rw [List.drop_eq_nil_of_le (by omega)] at hq
     exact hq.symm) FU (17,0,[],[],0,0,0,false,0,0,0,[]) ⟨0,rfl,by omega,by decide,rfl⟩ (yS (by simp;omega))
 refine bd hr ?_
 unfold qt
 rcases hq with ⟨h1,h2⟩ | ⟨a,h1,h2⟩
 ·rw [h1]
  obtain ⟨e,f⟩:=r
  exact ct (b1 h2) rfl
 ·subst h2
  rw [h1]
  refine cf rfl ?_
  refine bd (zMy _ _ _ h.n h.l) ?_
  refine bd (gD _ _) ?_
  by_cases hn:a.Nonce=nnc nonce x.Machine x.Log
  ·simp only [hn,if_pos]
   refine cf (by simp) ?_
   rw [<- hn]
  ·simp only [hn,if_false]
   exact ct (by simp [hn]) rfl
end Go.Proofs.TT
namespace Go.Sw
open Go
def Def {α:Type} (o:Option α) (P:α->Prop):Prop:=∃ a,o=some a/\P a
theorem Def.bd {α β:Type} {o:Option α} {P:α->Prop} {f:α->Option β} {Q:β->Prop} (h:Def o P) (k:∀ a,P a->Def (f a) Q):Def (o.bind f) Q:=by
 obtain ⟨a,rfl,h⟩:=h
 exact k a h
theorem Def.s {α:Type} {a:α} {Q:α->Prop} (h:Q a):Def (some a) Q:=⟨a,rfl,h⟩
theorem Def.of {α:Type} {o:Option α} {a:α} {Q:α->Prop} (e:o=some a) (h:Q a):Def o Q:=⟨a,e,h⟩
theorem Def.c {α:Type} {b:Bool} {x y:Option α} {Q:α->Prop} (h:b=true->Def x Q) (k:b=false->Def y Q):Def (bif b then x else y) Q:=by
 cases b
 ·exact k rfl
 ·exact h rfl
theorem Def.ck {b:Bool} (h:b=true):Def (Go.Sw.ck b) (λ_=>True):=⟨(),ckT h,trivial⟩
theorem Def.lt {α β:Type} {e:α} {f:α->Option β} {Q:β->Prop} (k:Def (f e) Q):Def (Go.Sw.lt e f) Q:=k
theorem Def.mono {α:Type} {o:Option α} {P Q:α->Prop} (h:Def o P) (k:∀ a,P a->Q a):Def o Q:=by
 obtain ⟨a,e,h⟩:=h
 exact ⟨a,e,k a h⟩
theorem Def.get {α:Type} {o:Option α} {P:α->Prop} (d:α) (h:Def o P):o=some (o.getD d)/\P (o.getD d):=by
 obtain ⟨a,rfl,h⟩:=h
 exact ⟨rfl,h⟩
theorem Def.loop {X Y:Type} {step:X->Option (X ⊕ Y)} {s:X} {Q:Y->Prop} (I:X->Prop) (m:X->Nat)
  (h:∀ s,I s->Def (step s) (λr=>match r with | .inl s'=>I s'/\m s'<m s | .inr r=>Q r)) (h0:I s) (hm:m s<2 ^ 64):Def (zE step FU s) Q:=by
 refine aD I m Q (λs hs=>?_) FU s h0 (yS hm)
 obtain ⟨r,e,hr⟩:=h s hs
 cases r with
 | inl s'=>exact .inl ⟨s',e,hr.1,hr.2⟩
 | inr r=>exact .inr ⟨r,e,hr⟩
theorem Def.app {α:Type} {b:Nat} {l m:List α} (h:(l.length+m.length)*b<=140737488355328):Def (zZ b l m) (λr=>r=l++m):=⟨_,zR h,rfl⟩
theorem Def.idx {α:Type} {l:List α} {i:Int} (h0:0<=i) (h:i<l.length):Def (Go.Sw.idx l i) (λr=>r∈l):=by
 obtain ⟨n,rfl⟩:=Int.eq_ofNat_of_zero_le h0
 exact ⟨_,xH (by omega),List.getElem_mem _⟩
theorem Def.sub {α:Type} {l:List α} {a b:Int} (h0:0<=a) (h1:a<=b) (h2:b<=l.length):Def (Go.Sw.sub l a b) (λr=>r=(l.drop a.toNat).take (b.toNat - a.toNat)):=by
 obtain ⟨n,rfl⟩:=Int.eq_ofNat_of_zero_le h0
 obtain ⟨m,rfl⟩:=Int.eq_ofNat_of_zero_le (by omega:0<=b)
 exact ⟨_,tX (by omega) (by omega),rfl⟩
theorem Def.ixN {n:Nat} {i:Int} (h0:0<=i) (h:i<n):Def (Go.Sw.ixN n i) (λj=>j=i.toNat/\j<n):=by
 refine ⟨i.toNat,?_,rfl,by omega⟩
 simp [Go.Sw.ixN,h0,h]
theorem Def.upd {α:Type} {l:List α} {j:Nat} {u:α} (h:j<l.length):Def (uN l j u) (λr=>r=l.set j u):=⟨_,by simp [uN,h],rfl⟩
theorem Def.at {α:Type} {l:List α} {j:Nat} (h:j<l.length):Def (l[j]?) (λr=>r∈l):=⟨l[j],by simp [h],List.getElem_mem _⟩
theorem Def.mkN {n:Int} (h0:0<=n) (h:n<2 ^ 40):Def (mkN 1 n) (λj=>j=n.toNat):=⟨n.toNat,by unfold Go.Sw.mkN;rw [if_pos ⟨h0,by omega⟩],rfl⟩
theorem zN7 {a b:Nat} (h:a=b):Nat.beq a b=true:=by subst h;exact Nat.beq_refl a
theorem dX {a b:Nat} (h:a<=b):Nat.ble a b=true:=Nat.ble_eq.mpr h
end Go.Sw
namespace Go.Proofs.TT
open Go Go.Sw
set_option maxRecDepth 100000
theorem zBr (b:List UInt8) (h:b.length<2 ^ 40):Def (xY b) (λr=>r.length=32):=Def.of (fW b h) (sJ b)
theorem zOj (key b:List UInt8) (hk:key.length<2 ^ 30) (hb:b.length<2 ^ 30):Def (cK key b) (λr=>r.length=32):=by
 unfold cK
 refine Def.bd (P:=λk=>k.length<=64) ?_ (λk hk=>?_)
 ·refine Def.c (λ_=>?_) (λh=>Def.s (by simp at h;omega))
  refine Def.bd (zBr key (by omega)) (λr hr=>Def.s (by omega))
 refine Def.bd (Def.mkN (by decide) (by decide)) (λn hn=>?_)
 subst hn
 refine Def.bd (Def.mkN (by decide) (by decide)) (λn hn=>?_)
 subst hn
 refine Def.bd (P:=λr=>r.1.length=64/\r.2.length=64) ?_ (λr hr=>?_)
 ·refine Def.loop (λs=>0<=s.1/\s.1<=64/\s.2.1.length=64/\s.2.2.length=64) (λs=>(64 - s.1).toNat) (λs hs=>?_) ⟨by decide,by decide,by simp,by simp⟩ (by decide)
  obtain ⟨i,u,v⟩:=s
  obtain ⟨h0,h1,h2,h3⟩:=hs
  simp only at h0 h1 h2 h3
  unfold zAs
  refine Def.c (λh=>?_) (λh=>Def.s ⟨h2,h3⟩)
  rw [decide_eq_true_iff] at h
  refine Def.bd (P:=λ_=>True) ?_ (λx _=>?_)
  ·refine Def.c (λh=>?_) (λ_=>Def.s trivial)
   rw [decide_eq_true_iff] at h
   exact Def.bd (Def.idx h0 h) (λ_ _=>Def.s trivial)
  refine Def.bd (Def.ixN h0 (by show i<((64:Nat):Int);omega)) (λj hj=>?_)
  refine Def.bd (Def.upd (by have:=hj.2;have e:(64:Int).toNat=64:=rfl;omega)) (λu' hu=>?_)
  refine Def.bd (Def.ixN h0 (by show i<((64:Nat):Int);omega)) (λj hj=>?_)
  refine Def.bd (Def.upd (by have:=hj.2;have e:(64:Int).toNat=64:=rfl;omega)) (λv' hv=>?_)
  refine Def.s ?_
  subst hu hv
  rw [zV (by omega) (by omega)]
  simp only [List.length_set]
  omega
 obtain ⟨u,v⟩:=r
 obtain ⟨h1,h2⟩:=hr
 simp only at h1 h2
 refine Def.bd (Def.ck (zN7 h1)) (λ_ _=>?_)
 refine Def.bd (Def.ck (dX (by decide))) (λ_ _=>?_)
 refine Def.bd (Def.ck (zN7 h2)) (λ_ _=>?_)
 refine Def.bd (Def.ck (dX (by decide))) (λ_ _=>?_)
 refine Def.bd (Def.app (by omega)) (λw hw=>?_)
 have hwl:w.length=u.length+b.length:=by rw [hw];simp
 refine Def.bd (zBr w (by omega)) (λr hr=>?_)
 refine Def.bd (Def.app (by omega)) (λw hw=>?_)
 have hwl:w.length=v.length+r.length:=by rw [hw];simp
 exact Def.bd (zBr w (by omega)) (λr hr=>Def.s hr)
theorem zB3 (key label ctx:List UInt8) (n:Int) (hk:key.length<2 ^ 30) (hl:label.length<2 ^ 20) (hc:ctx.length<2 ^ 20) (h1:1<=n) (h2:n<=1024):Def (nD key label ctx n) (λr=>r.length=n.toNat):=by
 unfold nD
 refine Def.bd (P:=λb=>b=false) (Def.c (λh=>?_) (λ_=>Def.s ?_)) (λb hb=>?_)
 ·simp at h;omega
 ·simp;omega
 subst hb
 refine Def.bd (P:=λr=>n<=r.length) ?_ (λr hr=>?_)
 ·refine Def.loop (λs=>s.1.length<=1024+32/\0<=s.2/\s.2<=2 ^ 40 - (n - s.1.length).toNat) (λs=>(n - s.1.length).toNat) (λs hs=>?_) ⟨by simp,by decide,by simp;omega⟩ (by simp;omega)
  obtain ⟨out,i⟩:=s
  obtain ⟨g1,g2,g3⟩:=hs
  simp only at g1 g2 g3
  unfold gH
  refine Def.c (λh=>?_) (λh=>Def.s (by simp at h;exact h))
  rw [decide_eq_true_iff] at h
  refine Def.bd (P:=λr=>r.length=4) (Def.s rfl) (λa ha=>?_)
  refine Def.bd (Def.app (by omega)) (λb hb=>?_)
  have hbl:b.length=a.length+label.length:=by rw [hb];simp
  refine Def.bd (Def.app (by simp;omega)) (λc hcc=>?_)
  have hcl:c.length=b.length+1:=by rw [hcc];simp
  refine Def.bd (Def.app (by omega)) (λd hd=>?_)
  have hdl:d.length=c.length+ctx.length:=by rw [hd];simp
  refine Def.bd (P:=λr=>r.length=4) (Def.s rfl) (λe he=>?_)
  refine Def.bd (Def.app (by omega)) (λf hf=>?_)
  have hfl:f.length=d.length+e.length:=by rw [hf];simp
  refine Def.bd (zOj key f hk (by omega)) (λg hg=>?_)
  refine Def.bd (Def.app (by omega)) (λo ho=>?_)
  have hol:o.length=out.length+g.length:=by rw [ho];simp
  refine Def.s ?_
  rw [zV (by omega) (by omega)]
  simp only
  omega
 refine Def.bd (Def.sub (by decide) (by omega) hr) (λx hx=>Def.s ?_)
 rw [hx];simp;omega
end Go.Proofs.TT
namespace Go.Proofs.TT
open Go Go.Sw
set_option maxRecDepth 100000
def ls (seed:List UInt8):List UInt8:=(v8 seed 1).getD []
theorem zJ5 (seed:List UInt8) (h:seed.length<2 ^ 30):v8 seed 1=some (ls seed)/\(ls seed).length=32:=by
 have:Def (v8 seed 1) (λr=>r.length=32):=by
  unfold v8
  exact Def.bd (zB3 seed _ _ 32 h (by simp) (by simp) (by decide) (by decide)) (λr hr=>Def.s hr)
 exact Def.get [] this
def stt (s:List UInt8) (leaf c:Nat):List UInt8:=(rU s (leaf:Int) (c:Int)).getD []
theorem zEo (s:List UInt8) (leaf c:Nat) (h:s.length<2 ^ 30):rU s (leaf:Int) (c:Int)=some (stt s leaf c)/\(stt s leaf c).length=16:=by
 have:Def (rU s (leaf:Int) (c:Int)) (λr=>r.length=16):=by
  unfold rU
  exact Def.bd (zB3 s _ _ 16 h (by simp) (by simp) (by decide) (by decide)) (λr hr=>Def.s hr)
 exact Def.get [] this
def sW (s:List UInt8) (leaf:Nat) (d:Nat->Nat):Nat->List UInt8
 | 0=>[]
 | i+1=>sW s leaf d i++chn leaf i 0 (stt s leaf i) (d i)
theorem rX (s:List UInt8) (leaf:Nat) (d:Nat->Nat) (h:s.length<2 ^ 30):∀ i,(sW s leaf d i).length=16*i
 | 0=>rfl
 | i+1=>by
  have h1:=rX s leaf d h i
  have h2:=lZ leaf i 0 (stt s leaf i) (zEo s leaf i h).2 (d i)
  simp only [sW,List.length_append,h1,h2];omega
def pk (s:List UInt8) (leaf:Nat):List UInt8:=(hs 2 [[u8 (leaf:Int)],sW s leaf (λ_=>15) 35]).take 16
theorem dR (s:List UInt8) (leaf:Nat):(pk s leaf).length=16:=pN _ _
theorem zH3 (s:List UInt8) (leaf:Nat) (h:s.length<2 ^ 30) (hl:leaf<=255):lJ s (leaf:Int)=some (pk s leaf):=by
 unfold lJ
 refine bd (a:=false) (cf (zMf leaf) (congrArg some (by simp;omega))) ?_
 refine cf rfl ?_
 refine bd (a:=sW s leaf (λ_=>15) 35) ?_ ?_
 ·refine zK 35 (λi=>(sW s leaf (λ_=>15) i,(i:Int))) rfl (λi hi=>?_) ?_ (yS (by omega))
  ·have h1:=rX s leaf (λ_=>15) h i
   obtain ⟨e,h2⟩:=zEo s leaf i h
   have h3:=lZ leaf i 0 (stt s leaf i) h2 15
   unfold hY
   refine ct (dlt (b:=35) hi) ?_
   refine bd e ?_
   refine bd (a:=chn leaf i 0 (stt s leaf i) 15) (zDw leaf i 0 15 _ h2 (by omega) (by omega)) ?_
   refine bd (zR (by omega)) ?_
   rw [yB (show i<2 ^ 40 by omega)]
   rfl
  ·generalize sW s leaf (λ_=>15) 35=S
   rfl
 ·refine bd (a:=pk s leaf) ?_ rfl
  have h1:=rX s leaf (λ_=>15) h 35
  unfold dN
  refine bd (mI _ _ (by rw [zKt,h1];simp)) ?_
  exact bd (zAv _ _) rfl
theorem zC1 (seed:List UInt8) (h:seed.length<2 ^ 30):nB seed 1=some [pk (ls seed) 0,pk (ls seed) 1]:=by
 obtain ⟨e,h2⟩:=zJ5 seed h
 unfold nB
 refine bd e ?_
 refine bd ?_ rfl
 generalize ls seed=s at h2
 refine zK 2 (λi=>([pk s 0,pk s 1].take i,(i:Int))) rfl (λi hi=>?_) ?_ (yS (by decide))
 ·unfold gW
  refine ct (dlt (b:=2) hi) ?_
  refine bd (zH3 s i (by omega) (by omega)) ?_
  refine bd (zR (by simp;omega)) ?_
  rw [yB (show i<2 ^ 40 by omega)]
  rcases i with _ | _ | i
  ·rfl
  ·rfl
  ·omega
 ·rfl
theorem zIn (p q:List UInt8) (hp:p.length=16) (hq:q.length=16):b6 0 [p,q]=some [par 0 0 p q]:=by
 unfold b6
 refine bd ?_ rfl
 refine zK 1 (λi=>([par 0 0 p q].take i,(i:Int))) rfl (λi hi=>?_) ?_ (yS (by decide))
 ·have:i=0:=by omega
  subst this
  unfold zBt
  refine ct rfl ?_
  refine bd (a:=p) rfl ?_
  refine bd (a:=q) rfl ?_
  refine bd (zOo 0 0 p q hp hq) ?_
  exact bd (zR (by simp)) rfl
 ·rfl
theorem zNs (p q:List UInt8) (hp:p.length=16) (hq:q.length=16):fH [p,q]=some (par 0 0 p q):=by
 unfold fH
 refine bd (a:=true) rfl ?_
 refine cf rfl ?_
 refine bd (a:=[par 0 0 p q]) ?_ ?_
 ·refine zK 1 (λi=>(if i=0 then [p,q] else [par 0 0 p q],(i:Int))) rfl (λi hi=>?_) ?_ (yS (by decide))
  ·have:i=0:=by omega
   subst this
   unfold bC
   refine ct rfl ?_
   exact bd (zIn p q hp hq) rfl
  ·rfl
 ·refine bd (a:=par 0 0 p q) rfl ?_
  exact bd (cU _ (by
              have:(par 0 0 p q).length=16:=pN _ _
              omega)) rfl
def zEw (seed:List UInt8):List UInt8:=[u8 1]++par 0 0 (pk (ls seed) 0) (pk (ls seed) 1)
theorem fB (seed:List UInt8):(zEw seed).length=17:=by
 have:(par 0 0 (pk (ls seed) 0) (pk (ls seed) 1)).length=16:=pN _ _
 simp [zEw,this]
theorem zHg (seed:List UInt8) (h:seed.length<2 ^ 30):lI seed 1=some (zEw seed):=by
 have hl:(par 0 0 (pk (ls seed) 0) (pk (ls seed) 1)).length=16:=pN _ _
 unfold lI
 refine bd (a:=false) rfl ?_
 refine cf rfl ?_
 refine bd (zC1 seed h) ?_
 refine bd (zNs _ _ (dR _ _) (dR _ _)) ?_
 exact bd (zR (by rw [hl];decide)) rfl
theorem zL5 (s:List UInt8) (leaf:Nat) (m:List UInt8) (h:s.length<2 ^ 30) (hl:leaf<=255) (hm:m.length<2 ^ 31):fJ s (leaf:Int) m=some (sW s leaf (λi=>(lB m).getD i 0) 35):=by
 have hd:=zC5 m
 have h15:=zFk m
 have ed:=zIm m hm
 unfold fJ
 refine bd (a:=false) (cf (zMf leaf) (congrArg some (by simp;omega))) ?_
 refine cf rfl ?_
 refine bd ed ?_
 generalize lB m=D at hd h15
 refine bd ?_ rfl
 refine zK 35 (λi=>(sW s leaf (λi=>D.getD i 0) i,(i:Int))) rfl (λi hi=>?_) ?_ (yS (by omega))
 ·have h1:=rX s leaf (λi=>D.getD i 0) h i
  obtain ⟨e,h2⟩:=zEo s leaf i h
  have h3:=lZ leaf i 0 (stt s leaf i) h2 (D.getD i 0)
  have h4:=h15 i hi
  unfold cZ
  refine ct (dlt (b:=35) hi) ?_
  refine bd (zFr (by omega)) ?_
  refine bd e ?_
  refine bd (zDw leaf i 0 (D.getD i 0) _ h2 (by omega) (by omega)) ?_
  refine bd (zR (by rw [Nat.sub_zero];omega)) ?_
  rw [yB (show i<2 ^ 40 by omega)]
  rfl
 ·generalize sW s leaf (λi=>D.getD i 0) 35=S
  rfl
theorem zMx (p q:List UInt8) (hp:p.length=16) (hq:q.length=16) (leaf:Nat) (hl:leaf<=1):fR (leaf:Int) [p,q]=some [if leaf=0 then q else p]:=by
 unfold fR
 have hle:leaf=0∨leaf=1:=by omega
 rcases hle with rfl | rfl
 ·refine bd (a:=false) rfl ?_
  refine cf rfl ?_
  refine bd ?_ rfl
  refine zK 1 (λi=>(0,if i=0 then [] else [q],if i=0 then [p,q] else [par 0 0 p q],(i:Int))) rfl (λi hi=>?_) ?_ (yS (by decide))
  ·have:i=0:=by omega
   subst this
   unfold jX
   refine ct rfl ?_
   refine bd (a:=q) rfl ?_
   refine bd (cU q (by omega)) ?_
   refine bd (zR (by simp)) ?_
   exact bd (zIn p q hp hq) rfl
  ·rfl
 ·refine bd (a:=false) rfl ?_
  refine cf rfl ?_
  refine bd ?_ rfl
  refine zK 1 (λi=>(if i=0 then 1 else 0,if i=0 then [] else [p],if i=0 then [p,q] else [par 0 0 p q],(i:Int))) rfl (λi hi=>?_) ?_ (yS (by decide))
  ·have:i=0:=by omega
   subst this
   unfold jX
   refine ct rfl ?_
   refine bd (a:=p) rfl ?_
   refine bd (cU p (by omega)) ?_
   refine bd (zR (by simp)) ?_
   exact bd (zIn p q hp hq) rfl
  ·rfl
def gN (seed:List UInt8) (leaf:Nat) (m:List UInt8):List UInt8:=([u8 (leaf:Int)]++sW (ls seed) leaf (λi=>(lB m).getD i 0) 35)++(if leaf=0 then pk (ls seed) 1 else pk (ls seed) 0)
theorem zD3 (seed:List UInt8) (leaf:Nat) (m:List UInt8) (h:seed.length<2 ^ 30) (hl:leaf<=1) (hm:m.length<2 ^ 31):fN seed 1 (leaf:Int) m=some (gN seed leaf m):=by
 obtain ⟨e,h2⟩:=zJ5 seed h
 have hw:=rX (ls seed) leaf (λi=>(lB m).getD i 0) (by omega) 35
 unfold fN
 refine bd (a:=false) ?_ ?_
 ·refine cf rfl (cf rfl (cf (zMf leaf) (congrArg some ?_)))
  rw [show tS .i64 1 (IntKind.u64.wrap 1)=2 from rfl,decide_eq_false_iff_not];omega
 refine cf rfl ?_
 refine bd e ?_
 refine bd (zL5 (ls seed) leaf m (by omega) (by omega) hm) ?_
 refine bd (zR (by rw [hw];simp)) ?_
 refine bd (zC1 seed h) ?_
 refine bd (zMx _ _ (dR _ _) (dR _ _) leaf hl) ?_
 refine bd ?_ rfl
 have hx:(if leaf=0 then pk (ls seed) 1 else pk (ls seed) 0).length=16:=by split<;>exact dR _ _
 unfold gN
 generalize (if leaf=0 then pk (ls seed) 1 else pk (ls seed) 0)=x at hx
 generalize hg:[u8 (leaf:Int)]++sW (ls seed) leaf (λi=>(lB m).getD i 0) 35=g
 have hgl:g.length=561:=by rw [<- hg,List.length_append,hw];rfl
 refine zK 1 (λi=>(if i=0 then g else g++x,(i:Int))) rfl (λi hi=>?_) ?_ (yS (by decide))
 ·have:i=0:=by omega
  subst this
  unfold cV
  refine ct rfl ?_
  refine bd (a:=x) rfl ?_
  exact bd (zR (by simp;omega)) rfl
 ·rfl
theorem zGz (seed:List UInt8) (leaf:Nat) (m:List UInt8) (h:seed.length<2 ^ 30):(gN seed leaf m).length=577:=by
 obtain ⟨e,h2⟩:=zJ5 seed h
 have hw:=rX (ls seed) leaf (λi=>(lB m).getD i 0) (by omega) 35
 have hx:(if leaf=0 then pk (ls seed) 1 else pk (ls seed) 0).length=16:=by split<;>exact dR _ _
 simp only [gN,List.length_append,hw,hx,List.length_cons,List.length_nil]
theorem zJ4 (leaf c:Nat) (x:List UInt8) (d:Nat):∀ k,chn leaf c d (chn leaf c 0 x d) k=chn leaf c 0 x (d+k)
 | 0=>rfl
 | k+1=>by
  have h:=zJ4 leaf c x d k
  rw [<- Nat.add_assoc]
  simp only [chn,h,Nat.zero_add]
theorem zNv (s:List UInt8) (leaf:Nat) (d:Nat->Nat) (h:s.length<2 ^ 30):∀ n i,i<n->nod (sW s leaf d n) i=chn leaf i 0 (stt s leaf i) (d i):=by
 intro n
 induction n with
 | zero=>intro i hi;omega
 | succ n ih=>
  intro i hi
  have hl:=rX s leaf d h n
  have hc:=lZ leaf i 0 (stt s leaf i) (zEo s leaf i h).2 (d i)
  by_cases hin:i<n
  ·rw [<- ih i hin]
   unfold nod
   show List.take 16 (List.drop (16*i) (sW s leaf d n++_))=_
   rw [List.drop_append_of_le_length (by omega),List.take_append_of_le_length (by simp;omega)]
  ·have:i=n:=by omega
   subst this
   unfold nod
   show List.take 16 (List.drop (16*i) (sW s leaf d i++_))=_
   rw [<- hl,List.drop_left,List.take_of_length_le (by omega)]
theorem zHn (s:List UInt8) (leaf:Nat) (D:List Nat) (h:s.length<2 ^ 30) (h15:∀ i,i<35->D.getD i 0<=15):∀ n,n<=35->zFj leaf D (sW s leaf (λi=>D.getD i 0) 35) n=sW s leaf (λ_=>15) n
 | 0,_=>rfl
 | n+1,hn=>by
  have ih:=zHn s leaf D h h15 n (by omega)
  show zFj leaf D (sW s leaf (λi=>D.getD i 0) 35) n++chn leaf n (D.getD n 0) (nod (sW s leaf (λi=>D.getD i 0) 35) n) (15 - D.getD n 0)=sW s leaf (λ_=>15) n++chn leaf n 0 (stt s leaf n) 15
  rw [ih,zNv s leaf _ h 35 n (by omega),zJ4]
  have:=h15 n (by omega)
  rw [show D.getD n 0+(15 - D.getD n 0)=15 by omega]
theorem zHu (s:List UInt8) (leaf:Nat) (m:List UInt8) (h:s.length<2 ^ 30):zEe leaf m (sW s leaf (λi=>(lB m).getD i 0) 35)=pk s leaf:=by
 unfold zEe pk
 rw [zHn s leaf (lB m) h (zFk m) 35 (by omega)]
theorem zU3 (leaf:Nat) (W x:List UInt8) (hw:W.length=560) (hx:x.length=16) (hl:leaf<=1) :
  (([u8 (leaf:Int)]++W)++x).length=577/\((([u8 (leaf:Int)]++W)++x).getD 0 0).toNat=leaf/\((([u8 (leaf:Int)]++W)++x).drop 1).take 560=W/\cJ (([u8 (leaf:Int)]++W)++x) 1=[x]:=by
 refine ⟨by simp [hw,hx],?_,?_,?_⟩
 ·show (u8 (leaf:Int)).toNat=leaf
  rw [tW];omega
 ·show List.take 560 (W++x)=W
  rw [List.take_append_of_le_length (by omega),List.take_of_length_le (by omega)]
 ·show [((([u8 (leaf:Int)]++W)++x).drop (561+16*0)).take 16]=_
  rw [List.drop_append_of_le_length (by simp [hw]),List.drop_of_length_le (by simp [hw]),List.nil_append,List.take_of_length_le (by omega)]
theorem zMg (seed:List UInt8) (leaf:Nat) (m:List UInt8) (h:seed.length<2 ^ 30) (hl:leaf<=1):vrf (zEw seed) m (gN seed leaf m)=((leaf:Int),true):=by
 obtain ⟨e,h2⟩:=zJ5 seed h
 have hw:=rX (ls seed) leaf (λi=>(lB m).getD i 0) (by omega) 35
 have hr:=zHu (ls seed) leaf m (by omega)
 have hp:=fB seed
 have e0:((zEw seed).getD 0 0).toNat=1:=rfl
 have e2:(zEw seed).drop 1=par 0 0 (pk (ls seed) 0) (pk (ls seed) 1):=rfl
 have hx:(if leaf=0 then pk (ls seed) 1 else pk (ls seed) 0).length=16:=by split<;>exact dR _ _
 unfold vrf gN
 generalize sW (ls seed) leaf (λi=>(lB m).getD i 0) 35=W at hw hr ⊢
 obtain ⟨p1,p2,p3,p4⟩:=zU3 leaf W _ hw hx hl
 rw [e0,p2,p3,p4,e2,hr,if_neg (by omega),if_neg (by omega)]
 have hle:leaf=0∨leaf=1:=by omega
 rcases hle with rfl | rfl<;>exact if_pos rfl
end Go.Proofs.TT
namespace Go.Proofs.TT
open Go Go.Sw
set_option maxRecDepth 100000
def kq (i:Int):api_Public:=⟨2,7,1,[],zEw (sha [113,u8 i])⟩
theorem aZ (i:Int):uM i=some (sha [113,u8 i]):=by
 unfold uM
 exact bd (fW _ (by simp)) rfl
theorem oI (i:Int):sF i=some (kq i):=by
 unfold sF
 refine bd (aZ i) ?_
 exact bd (zHg _ (by rw [sJ];decide)) rfl
theorem zRq (i:Int):chk (kq i)=0:=by
 have h:=fB (sha [113,u8 i])
 have e:=eY (kq i)
 have:tZ (kq i)=some 0:=by
  unfold tZ kq
  simp only [h]
  rfl
 rw [this] at e
 injection e with e
 exact e.symm
theorem zMo (i:Int):(kq i).Unique.length=17:=fB _
theorem zP7 (i:Int) (leaf:Nat) (b:List UInt8) (a:api_Attest) (hl:leaf<=1) (ha:att b=(a,0)) (hk:a.Key=nm (kq i)):vq (kq i) b (gN (sha [113,u8 i]) leaf b)=(a,(leaf:Int),0):=by
 have hv:vrf (kq i).Unique b (gN (sha [113,u8 i]) leaf b)=((leaf:Int),true):=zMg (sha [113,u8 i]) leaf b (by rw [sJ];decide) hl
 unfold vq
 rw [hv,ha,zRq i,if_neg (by simp),if_neg (by show ¬ ((2:Int)≠2);simp),if_neg (by show ¬ yP .i64 7 4=0;decide),if_neg (by simp),if_neg (by simp),if_neg (by simp [hk])]
end Go.Proofs.TT
namespace Go.Sw
open Go
theorem gU {X Y:Type} {s1 s2:X->Option (X ⊕ Y)} (I:X->Prop) (h:∀ s,I s->s1 s=s2 s/\Def (s2 s) (λr=>∀ s',r=.inl s'->I s')):∀ (n:Nat) (s:X),I s->zE s1 n s=zE s2 n s
 | 0,_,_=>rfl
 | n+1,s,hs=>by
  obtain ⟨e,r,hr,hI⟩:=h s hs
  simp only [zE]
  rw [e,hr]
  cases r with
  | inl s'=>exact gU I h n s' (hI s' rfl)
  | inr y=>rfl
end Go.Sw
namespace Go.Proofs.TT
open Go Go.Sw
set_option maxRecDepth 100000
theorem dT {p:Prop} [Decidable p] (h:decide p=true):p:=by simpa using h
theorem dF {p:Prop} [Decidable p] (h:decide p=false):¬ p:=by simpa using h
theorem Def.at' {α:Type} {l:List α} {i:Nat} (h:i<l.length):Def (idx l (i:Int)) (λr=>r=l[i]):=⟨_,xH h,rfl⟩
theorem xF {α R:Type} (l:List α) (step:Int->Option (Int ⊕ (R ⊕ Unit))) (G:Nat->Prop) (B:R->Prop) (hl:l.length<2 ^ 40)
  (h:∀ i,i<l.length->Def (step (i:Int)) (λr=>match r with | .inl j=>j=((i+1:Nat):Int)/\G i | .inr (.inl b)=>B b | .inr (.inr _)=>False))
  (he:step (l.length:Int)=some (.inr (.inr ()))):Def (zE step FU 0) (λr=>match r with | .inl b=>B b | .inr _=>∀ i,i<l.length->G i):=by
 refine Def.loop (λs=>∃ i:Nat,s=(i:Int)/\i<=l.length/\∀ k,k<i->G k) (λs=>l.length - s.toNat) (λs hs=>?_) ⟨0,rfl,by omega,λk hk=>by omega⟩ (by simp;omega)
 obtain ⟨i,rfl,hi,hg⟩:=hs
 by_cases h2:i<l.length
 ·refine (h i h2).mono λr hr=>?_
  match r,hr with
  | .inl j,hr=>
   refine ⟨⟨i+1,hr.1,h2,λk hk=>?_⟩,by rw [hr.1];simp only [Int.toNat_natCast];omega⟩
   by_cases hk2:k<i
   ·exact hg k hk2
   ·have:k=i:=by omega
    subst this;exact hr.2
  | .inr (.inl b),hr=>exact hr
  | .inr (.inr u),hr=>exact hr.elim
 ·have:i=l.length:=by omega
  subst this
  exact Def.of he hg
theorem two {X Y:Type} {step:X->Option (X ⊕ Y)} {a b c:X} {r:Y} (h0:step a=some (.inl b)) (h1:step b=some (.inl c)) (h2:step c=some (.inr r)):zE step FU a=some r:=by
 refine zK 2 (λi=>match i with | 0=>a | 1=>b | _=>c) rfl (λi hi=>?_) h2 (yS (by decide))
 have:i=0∨i=1:=by omega
 rcases this with rfl | rfl
 ·exact h0
 ·exact h1
theorem zTg (x n m:Int) (h:yP .u64 (IntKind.u64.wrap n) 31=32 - m) (hn:n=32 - m) (h0:0<=m) (h1:m<=32):zC x n=uK x n:=by
 rw [pS x n m h h0 h1]
 subst hn
 have h2:IntKind.u64.wrap (32 - (32 - m))=m:=by rw [IntKind.wrap_u64];omega
 have h4:decide ((0:Int)<=32 - m)=true:=by simp;omega
 simp only [uK,ck,lt,h2,h4,rr,cond_true,Option.bind_some]
 rw [zG0]
theorem rot1 (x:Int):zC x 1=uK x 1:=zTg x 1 31 (by decide) (by decide) (by decide) (by decide)
theorem rot5 (x:Int):zC x 5=uK x 5:=zTg x 5 27 (by decide) (by decide) (by decide) (by decide)
theorem zT7 (x:Int):zC x 30=uK x 30:=zTg x 30 2 (by decide) (by decide) (by decide) (by decide)
theorem zB2 (x n:Int) (h0:0<=n):Def (uK x n) (λ_=>True):=by
 unfold uK
 refine Def.bd (Def.ck (by simpa using h0)) (λ_ _=>?_)
 exact Def.lt (Def.s trivial)
theorem w80 {w:List Int} {j:Nat} (hw:w.length=80) (hj:j<80):Def (w[j]?) (λ_=>True):=(Def.at (by omega)).mono λ_ _=>trivial
theorem ixw {j n:Nat} (hn:j<n) (z:Int) (hz:z=(j:Int)):Def (Go.Sw.ixN n z) (λr=>r=j):=by
 subst hz
 exact (Def.ixN (by omega) (by omega)).mono λa h=>by rw [h.1];simp
theorem s1_s (x:List UInt8) (at' i:Nat) (w:List Int) (h:at'+64<=x.length) (hb:x.length<2 ^ 42) (hi:i<=80) (hw:w.length=80) :
  Def (vV x (at':Int) ((i:Int),w)) (λr=>match r with | .inl s=>∃ w',s=(((i+1:Nat):Int),w')/\i<80/\w'.length=80 | .inr w=>w.length=80):=by
 unfold vV
 refine Def.c (λh=>?_) (λ_=>Def.s hw)
 have hi2:i<80:=by have:=dT h;omega
 have up:∀ v,Def ((Go.Sw.ixN 80 (i:Int)).bind λj=>(uN w j v).bind λw=>some w) (λw'=>w'.length=80):=λv=>by
  refine Def.bd (ixw hi2 _ rfl) (λj hj=>?_)
  subst hj
  exact Def.bd (Def.upd (by omega)) (λr hr=>Def.s (by rw [hr];simpa using hw))
 refine Def.bd (P:=λw'=>w'.length=80) ?_ (λw' hw'=>Def.s ⟨w',by rw [yB (by omega)],hi2,hw'⟩)
 refine Def.c (λh16=>?_) (λh16=>?_)
 ·have h16':i<16:=by have:=dT h16;omega
  rw [zV (by omega) (by omega)]
  refine Def.bd (Def.sub (by omega) (by omega) (by omega)) (λy hy=>?_)
  have hyl:y.length=64:=by rw [hy];simp;omega
  exact Def.bd (P:=λ_=>True) (Def.of (zEk y i (by omega) (by omega)) trivial) (λv _=>up v)
 ·have h16':16<=i:=by have:=dF h16;omega
  have wr:∀ k:Nat,k<=16->IntKind.i64.wrap ((i:Int) - (k:Int))=((i - k:Nat):Int):=λk hk=>by rw [zV (by omega) (by omega)];omega
  refine Def.bd (ixw (show i - 3<80 by omega) _ (wr 3 (by omega))) (λj hj=>?_)
  refine Def.bd (w80 hw (by omega)) (λ_ _=>?_)
  refine Def.bd (ixw (show i - 8<80 by omega) _ (wr 8 (by omega))) (λj hj=>?_)
  refine Def.bd (w80 hw (by omega)) (λ_ _=>?_)
  refine Def.bd (ixw (show i - 14<80 by omega) _ (wr 14 (by omega))) (λj hj=>?_)
  refine Def.bd (w80 hw (by omega)) (λ_ _=>?_)
  refine Def.bd (ixw (show i - 16<80 by omega) _ (wr 16 (by omega))) (λj hj=>?_)
  refine Def.bd (w80 hw (by omega)) (λ_ _=>?_)
  refine Def.lt ?_
  exact Def.bd (zB2 _ _ (by decide)) (λv _=>up v)
theorem s1_e (x:List UInt8) (at' i:Nat) (w:List Int) (h:at'+64<=x.length) (hb:x.length<2 ^ 42):wU (uR x at') ((i:Int),w)=vV x (at':Int) ((i:Int),w):=by
 unfold wU vV
 have hs:sub x (at':Int) (IntKind.i64.wrap ((at':Int)+64))=some (uR x at'):=by
  rw [zV (by omega) (by omega),show (at':Int)+64=((at'+64:Nat):Int) by omega,tX (by omega) (by omega)]
  simp [uR]
 simp only [rot1,hs,zGk,Option.bind_some]
theorem zTz (x:List UInt8) (at':Nat) (h:at'+64<=x.length) (hb:x.length<2 ^ 42) :
  Def (zE (vV x (at':Int)) FU (0,List.replicate 80 0)) (λw=>w.length=80/\zE (wU (uR x at')) FU (0,List.replicate 80 0)=some w):=by
 have e:zE (wU (uR x at')) FU (0,List.replicate 80 0)=zE (vV x (at':Int)) FU (0,List.replicate 80 0):=by
  refine gU (λs=>∃ i:Nat,s.1=(i:Int)/\i<=80/\s.2.length=80) (λs hs=>?_) _ _ ⟨0,rfl,by omega,by simp⟩
  obtain ⟨i',w⟩:=s
  obtain ⟨i,h1,hi,hw⟩:=hs
  have h1:i'=(i:Int):=h1
  subst h1
  refine ⟨s1_e x at' i w h hb,(s1_s x at' i w h hb hi hw).mono λr hr s' hs'=>?_⟩
  subst hs'
  obtain ⟨w',rfl,h2,h3⟩:=hr
  exact ⟨i+1,rfl,by omega,h3⟩
 rw [e]
 obtain ⟨w,h1,h2⟩:Def (zE (vV x (at':Int)) FU (0,List.replicate 80 0)) (λw=>w.length=80):=by
  refine Def.loop (λs=>∃ i:Nat,s.1=(i:Int)/\i<=80/\s.2.length=80) (λs=>80 - s.1.toNat) (λs hs=>?_) ⟨0,rfl,by omega,by simp⟩ (by simp)
  obtain ⟨i',w⟩:=s
  obtain ⟨i,h1,hi,hw⟩:=hs
  have h1:i'=(i:Int):=h1
  subst h1
  refine (s1_s x at' i w h hb hi hw).mono λr hr=>?_
  cases r with
  | inl s'=>
   obtain ⟨w',rfl,h2,h3⟩:=hr
   exact ⟨⟨i+1,rfl,by omega,h3⟩,by simp only [Int.toNat_natCast];omega⟩
  | inr w=>exact hr
 exact ⟨w,h1,h2,h1⟩
theorem r1_s (w:List Int) (hw:w.length=80) (a b c d e:Int) (i:Nat) (hi:i<=80) :
  Def (vU w (a,b,c,d,e,(i:Int))) (λr=>match r with | .inl s=>s.2.2.2.2.2=((i+1:Nat):Int)/\i<80 | .inr _=>True):=by
 unfold vU
 refine Def.c (λh=>?_) (λ_=>Def.s trivial)
 have hi2:i<80:=by have:=dT h;omega
 refine Def.bd (P:=λ_=>True) ?_ (λx _=>?_)
 ·exact Def.c (λ_=>Def.lt (Def.s trivial)) (λ_=>Def.c (λ_=>Def.s trivial) (λ_=>Def.c (λ_=>Def.lt (Def.s trivial)) (λ_=>Def.s trivial)))
 obtain ⟨f,k⟩:=x
 refine Def.bd (zB2 _ _ (by decide)) (λ_ _=>?_)
 refine Def.lt ?_
 refine Def.bd (ixw hi2 _ rfl) (λj hj=>?_)
 refine Def.bd (w80 hw (by omega)) (λ_ _=>?_)
 refine Def.lt ?_
 refine Def.bd (zB2 _ _ (by decide)) (λ_ _=>Def.s ?_)
 exact ⟨yB (by omega),hi2⟩
theorem r1_e (w:List Int) (a b c d e:Int) (i:Nat) (hi:i<=80):wW w (a,b,c,d,e,(i:Int))=vU w (a,b,c,d,e,(i:Int)):=by
 have hq:IntKind.i64.wrap (Int.tdiv (i:Int) 20)=((i / 20:Nat):Int):=by
  rw [show Int.tdiv (i:Int) 20=((i / 20:Nat):Int) from rfl]
  exact zV (by omega) (by omega)
 unfold wW vU
 simp only [rot5,zT7,hq]
 by_cases h1:i<20
 ·rw [show (((i / 20:Nat):Int)==0)=true by simp;omega,show decide ((i:Int)<20)=true by simp;omega]
  rfl
 by_cases h2:i<40
 ·rw [show (((i / 20:Nat):Int)==0)=false by simp;omega,show decide ((i:Int)<20)=false by simp;omega,show (((i / 20:Nat):Int)==1)=true by simp;omega,show decide ((i:Int)<40)=true by simp;omega]
  rfl
 by_cases h3:i<60
 ·rw [show (((i / 20:Nat):Int)==0)=false by simp;omega,show decide ((i:Int)<20)=false by simp;omega,show (((i / 20:Nat):Int)==1)=false by simp;omega,show decide ((i:Int)<40)=false by simp;omega,show (((i / 20:Nat):Int)==2)=true by simp;omega,show decide ((i:Int)<60)=true by simp;omega]
 ·by_cases h4:i<80
  ·rw [show (((i / 20:Nat):Int)==0)=false by simp;omega,show decide ((i:Int)<20)=false by simp;omega,show (((i / 20:Nat):Int)==1)=false by simp;omega,show decide ((i:Int)<40)=false by simp;omega,show (((i / 20:Nat):Int)==2)=false by simp;omega,show decide ((i:Int)<60)=false by simp;omega]
  ·rw [show decide ((i:Int)<80)=false by simp;omega]
   rfl
theorem zUb (w:List Int) (hw:w.length=80) (a b c d e:Int):Def (zE (vU w) FU (a,b,c,d,e,0)) (λr=>zE (wW w) FU (a,b,c,d,e,0)=some r):=by
 have e1:zE (wW w) FU (a,b,c,d,e,0)=zE (vU w) FU (a,b,c,d,e,0):=by
  refine gU (λs=>∃ i:Nat,s.2.2.2.2.2=(i:Int)/\i<=80) (λs hs=>?_) _ _ ⟨0,rfl,by omega⟩
  obtain ⟨a,b,c,d,e,v⟩:=s
  obtain ⟨i,h1,hi⟩:=hs
  have h1:v=(i:Int):=h1
  subst h1
  refine ⟨r1_e w a b c d e i hi,(r1_s w hw a b c d e i hi).mono λr hr s' hs'=>?_⟩
  subst hs'
  exact ⟨i+1,hr.1,by have:=hr.2;omega⟩
 rw [e1]
 obtain ⟨r,h1,_⟩:Def (zE (vU w) FU (a,b,c,d,e,0)) (λ_=>True):=by
  refine Def.loop (λs=>∃ i:Nat,s.2.2.2.2.2=(i:Int)/\i<=80) (λs=>80 - s.2.2.2.2.2.toNat) (λs hs=>?_) ⟨0,rfl,by omega⟩ (by simp)
  obtain ⟨a,b,c,d,e,v⟩:=s
  obtain ⟨i,h1,hi⟩:=hs
  have h1:v=(i:Int):=h1
  subst h1
  refine (r1_s w hw a b c d e i hi).mono λr hr=>?_
  cases r with
  | inl s'=>exact ⟨⟨i+1,hr.1,by have:=hr.2;omega⟩,by rw [hr.1];simp only [Int.toNat_natCast];have:=hr.2;omega⟩
  | inr r=>trivial
 exact ⟨r,h1,h1⟩
def a5 (s:A5 Int):List Int:=[s.a0,s.a1,s.a2,s.a3,s.a4]
def zM3 (h:A5 Int) (b:List UInt8):A5 Int:=(vC h b).getD h
theorem blk1 (x:List UInt8) (at':Nat) (h:A5 Int) (hx:at'+64<=x.length) (hb:x.length<2 ^ 42) :
  vC h (uR x at')=some (zM3 h (uR x at'))/\sK x (a5 h,(at':Int))=some (.inl (a5 (zM3 h (uR x at')),((at'+64:Nat):Int))):=by
 obtain ⟨w,hw1,hw2,hw3⟩:=zTz x at' hx hb
 obtain ⟨⟨a,b,c,d,e⟩,hr1,hr2⟩:=zUb w hw2 h.a0 h.a1 h.a2 h.a3 h.a4
 have e1:vC h (uR x at')=some ⟨IntKind.u32.wrap (h.a0+a),IntKind.u32.wrap (h.a1+b),IntKind.u32.wrap (h.a2+c),IntKind.u32.wrap (h.a3+d),IntKind.u32.wrap (h.a4+e)⟩:=by
  unfold vC
  refine bd hw3 ?_
  exact bd hr2 rfl
 have e2:zM3 h (uR x at')=⟨IntKind.u32.wrap (h.a0+a),IntKind.u32.wrap (h.a1+b),IntKind.u32.wrap (h.a2+c),IntKind.u32.wrap (h.a3+d),IntKind.u32.wrap (h.a4+e)⟩:=by
  unfold zM3;rw [e1];rfl
 rw [e2]
 refine ⟨e1,?_⟩
 unfold sK
 refine ct (dlt (by omega)) ?_
 refine bd hw1 ?_
 refine bd (a:=h.a0) rfl ?_
 refine bd (a:=h.a1) rfl ?_
 refine bd (a:=h.a2) rfl ?_
 refine bd (a:=h.a3) rfl ?_
 refine bd (a:=h.a4) rfl ?_
 refine bd hr1 ?_
 refine bd (a:=h.a0) rfl ?_
 refine bd (a:=h.a1) rfl ?_
 refine bd (a:=h.a2) rfl ?_
 refine bd (a:=h.a3) rfl ?_
 refine bd (a:=h.a4) rfl ?_
 rw [zV (by omega) (by omega),show (at':Int)+64=((at'+64:Nat):Int) by omega]
 rfl
def zLl:A5 Int:=⟨1732584193,4023233417,2562383102,271733878,3285377520⟩
def eB (x:List UInt8):Nat->A5 Int
 | 0=>zLl
 | i+1=>zM3 (eB x i) (uR x (64*i))
def st5 (p:List UInt8) (h:A5 Int):List UInt8×Int×Int×Int×Int×Int:=(p,h.a0,h.a1,h.a2,h.a3,h.a4)
theorem zHe (x:List UInt8) (n:Nat) (hx:x.length=64*n) (hl:x.length<2 ^ 42):zE oM FU (st5 x zLl)=some ((eB x n).a0,(eB x n).a1,(eB x n).a2,(eB x n).a3,(eB x n).a4):=by
 refine zK n (λi=>st5 (x.drop (64*i)) (eB x i)) (by simp [eB]) (λi hi=>?_) ?_ (yS (by omega))
 ·have hd:(x.drop (64*i)).length=x.length - 64*i:=by simp
  unfold oM st5
  refine ct (by simp;omega) ?_
  refine bd (a:=uR x (64*i)) (by rw [show (0:Int)=((0:Nat):Int) from rfl,show (64:Int)=((64:Nat):Int) from rfl,tX (by omega) (by omega)];simp [uR]) ?_
  refine bd (blk1 x (64*i) (eB x i) (by omega) hl).1 ?_
  refine bd (a:=x.drop (64*(i+1))) (by rw [show (64:Int)=((64:Nat):Int) from rfl,tX (by omega) (by omega)];rw [List.drop_drop,List.take_of_length_le (by simp;omega)];congr 2) ?_
  rfl
 ·have hd:x.drop (64*n)=[]:=List.drop_eq_nil_of_le (by omega)
  show oM (st5 (x.drop (64*n)) (eB x n))=_
  rw [hd]
  generalize eB x n=S
  rfl
theorem zGw (x:List UInt8) (n:Nat) (hx:x.length=64*n) (hl:x.length<2 ^ 42):zE (sK x) FU (a5 zLl,0)=some (a5 (eB x n)):=by
 refine zK n (λi=>(a5 (eB x i),((64*i:Nat):Int))) rfl (λi hi=>?_) ?_ (yS (by omega))
 ·exact (blk1 x (64*i) (eB x i) (by omega) hl).2
 ·show sK x (a5 (eB x n),((64*n:Nat):Int))=_
  unfold sK
  exact cf (dge (by omega)) rfl
def nG (b:List UInt8):List UInt8:=(a5 (eB (gC b) ((gC b).length / 64))).flatMap be4
theorem zCz (b:List UInt8):(nG b).length=20:=by unfold nG;rw [zFp];rfl
theorem zMz (b:List UInt8) (hb:b.length<2 ^ 40):fU b=some (nG b):=by
 have hz:zs b.length<64:=by unfold zs;omega
 have h1:=gA b
 have h2:=bP b
 unfold fU
 refine bd (zCo b hb) ?_
 refine bd (zGw (gC b) ((gC b).length / 64) (by omega) (by omega)) ?_
 exact bd (zF5 _ (by simp [a5])) rfl
theorem zGm (b:List UInt8) (hb:b.length<2 ^ 40):yV 0 b=some (nG b):=by
 have hz:zs b.length<64:=by unfold zs;omega
 have h1:=gA b
 have h2:=bP b
 unfold yV
 refine ct rfl ?_
 refine bd (zDb b hb) ?_
 refine bd (zHe (gC b) ((gC b).length / 64) (by omega) (by omega)) ?_
 exact bd (zDy _ (by simp)) rfl
theorem zKz (b:List UInt8) (hb:b.length<2 ^ 40):Def (yV 0 b) (λr=>r.length=20):=Def.of (zGm b hb) (zCz b)
end Go.Proofs.TT
