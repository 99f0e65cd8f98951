/- AppraiseStart (law 37: evidence whose quote was made in another start than its log, or after a start that kept registers, is refused, and right evidence is accepted) is proved for every input, under no condition of ours; this text is a part of that proof. -/
import Derived.Test.YteadpnddgpfbdaaGreatDoorZ4
import Derived.Test.YteadpnddgpfbdaaGreatDoorZ5
set_option linter.all false
namespace Go.Sw
open Go
theorem zHs {X Y:Type} {step:X->Option (X ⊕ Y)} {r:Y} (n:Nat) (s:Nat->X) (h:∀ i,i<n->step (s i)=some (.inl (s (i+1)))) (he:step (s n)=some (.inr r)) :
  ∀ (d k fuel:Nat),k+d=n->d<fuel->zE step fuel (s k)=some r:=by
 intro d
 induction d with
 | zero=>
  intro k fuel hk hf
  obtain ⟨f,rfl⟩:∃ f,fuel=f+1:=⟨fuel - 1,by omega⟩
  have:k=n:=by omega
  subst this
  simp [zE,he]
 | succ d ih=>
  intro k fuel hk hf
  obtain ⟨f,rfl⟩:∃ f,fuel=f+1:=⟨fuel - 1,by omega⟩
  simp only [zE,h k (by omega)]
  exact ih (k+1) f (by omega) (by omega)
theorem zK {X Y:Type} {step:X->Option (X ⊕ Y)} {r:Y} {x:X} (n:Nat) (s:Nat->X) (h0:s 0=x) (h:∀ i,i<n->step (s i)=some (.inl (s (i+1)))) (he:step (s n)=some (.inr r)) {fuel:Nat} (hf:n<fuel) :
  zE step fuel x=some r:=by
 subst h0
 exact zHs n s h he n 0 fuel (by omega) hf
theorem zDs {X Y:Type} {step:X->Option (X ⊕ Y)} (I:X->Prop) (m:X->Nat) (Q:Y->Prop)
  (h:∀ s,I s->(∃ s',step s=some (.inl s')/\I s'/\m s'<m s)∨(∃ r,step s=some (.inr r)/\Q r)) :
  ∀ (fuel:Nat) (s:X),I s->m s<fuel->∃ r,zE step fuel s=some r/\Q r:=by
 intro fuel
 induction fuel with
 | zero=>intro s _ hm;omega
 | succ f ih=>
  intro s hs hm
  rcases h s hs with ⟨s',h1,h2,h3⟩ | ⟨r,h1,h2⟩
  ·obtain ⟨r,h4,h5⟩:=ih s' h2 (by omega)
   exact ⟨r,by simp [zE,h1,h4],h5⟩
  ·exact ⟨r,by simp [zE,h1],h2⟩
theorem yT {n:Nat} (h:n<2 ^ 64):n<FU:=by
 have:(2:Nat) ^ 64<FU:=by decide
 omega
theorem zT {n:Int} (h1:-9223372036854775808<=n) (h2:n<=9223372036854775807):IntKind.i64.wrap n=n:=by rw [IntKind.wrap_i64];omega
theorem zVt {n:Int} (h1:0<=n) (h2:n<=4294967295):IntKind.u32.wrap n=n:=by rw [IntKind.wrap_u32];omega
theorem gQ {n:Int} (h1:0<=n) (h2:n<=18446744073709551615):IntKind.u64.wrap n=n:=by rw [IntKind.wrap_u64];omega
theorem zQ {α:Type} {b:Nat} {l m:List α} (h:(l.length+m.length)*b<=140737488355328):zX b l m=some (l++m):=by
 simp [zX,LIM,h]
theorem xS {α:Type} {l:List α} {i:Nat} (h:i<l.length):idx l (i:Int)=some l[i]:=by
 simp [idx,h]
theorem tW {α:Type} {l:List α} {a b:Nat} (h:a<=b) (h2:b<=l.length):sub l (a:Int) (b:Int)=some ((l.drop a).take (b - a)):=by
 have:(0:Int)<=a/\(a:Int)<=b/\(b:Int)<=l.length:=⟨by omega,by omega,by omega⟩
 simp [sub,this]
theorem bd {α β:Type} {o:Option α} {a:α} {f:α->Option β} {r:Option β} (h:o=some a) (k:f a=r):o.bind f=r:=by subst h;exact k
theorem ltk {α β:Type} {e:α} {f:α->Option β} {r:Option β} (k:f e=r):lt e f=r:=k
theorem ct {α:Type} {c:Bool} {a b r:α} (h:c=true) (k:a=r):(bif c then a else b)=r:=by subst h;exact k
theorem cf {α:Type} {c:Bool} {a b r:α} (h:c=false) (k:b=r):(bif c then a else b)=r:=by subst h;exact k
theorem ckT {c:Bool} (h:c=true):ck c=some ():=by subst h;rfl
end Go.Sw
namespace Go.Proofs.TT
open Go Go.Sw
set_option maxRecDepth 100000
def rr (x n:Int):Int:=ior .u32 (zU .u32 x n) (tU .u32 x (32 - n))
theorem zG4 (k:IntKind) (a b:Int):ior k a b=ior k b a:=by simp [ior,BitVec.or_comm]
theorem oF (x n:Int) (h0:0<=n) (h1:n<=32):yR x n=some (rr x n):=by
 have h2:IntKind.u64.wrap (32 - n)=32 - n:=by rw [IntKind.wrap_u64];omega
 have h3:decide (0<=n)=true:=by simpa using h0
 simp only [yR,ck,lt,h2,h3,rr,cond_true,Option.bind_some]
theorem qH (x:Int) (n m:Int) (h:yQ .u64 (IntKind.u64.wrap n) 31=32 - m) (h0:0<=m) (h1:m<=32):zC x n=some (rr x m):=by
 have h2:IntKind.u64.wrap (32 - (32 - m))=m:=by rw [IntKind.wrap_u64];omega
 have h3:(0:Int)<=32 - m:=by omega
 have h4:decide ((0:Int)<=32 - m)=true:=by simpa using h3
 have h5:decide ((0:Int)<=m)=true:=by simpa using h0
 simp only [zC,ck,lt,h,h2,h4,h5,rr,cond_true,Option.bind_some]
 rw [zG4]
def K2:List Int:=gd1
theorem zQh:K2.length=64:=rfl
theorem zEm:qX=some K2:=rfl
def a8 (s:A8 Int):List Int:=[s.a0,s.a1,s.a2,s.a3,s.a4,s.a5,s.a6,s.a7]
def t1 (s:A8 Int) (k w:Int):Int:=
 IntKind.u32.wrap (IntKind.u32.wrap (IntKind.u32.wrap (IntKind.u32.wrap (s.a7+xF .u32 (xF .u32 (rr s.a4 6) (rr s.a4 11)) (rr s.a4 25))+xF .u32 (yQ .u32 s.a4 s.a5) (yQ .u32 (zC5 .u32 s.a4) s.a6))+k)+w)
def t2 (s:A8 Int):Int:=IntKind.u32.wrap (xF .u32 (xF .u32 (rr s.a0 2) (rr s.a0 13)) (rr s.a0 22)+xF .u32 (xF .u32 (yQ .u32 s.a0 s.a1) (yQ .u32 s.a0 s.a2)) (yQ .u32 s.a1 s.a2))
def rnd (s:A8 Int) (k w:Int):A8 Int:=⟨IntKind.u32.wrap (t1 s k w+t2 s),s.a0,s.a1,s.a2,IntKind.u32.wrap (s.a3+t1 s k w),s.a4,s.a5,s.a6⟩
def mS (w:List Int) (s:A8 Int):Nat->A8 Int
 | 0=>s
 | n+1=>rnd (mS w s n) (K2.getD n 0) (w.getD n 0)
theorem vX {n t:Nat} (h:t<n):ixN n (t:Int)=some t:=by
 have:(0:Int)<=t/\(t:Int)<n:=⟨by omega,by omega⟩
 simp [ixN,this]
theorem pL {l:List Int} {t:Nat} (h:t<l.length):l[t]? = some (l.getD t 0):=by simp [h]
theorem yB {t:Nat} (h:t<2 ^ 40):IntKind.i64.wrap ((t:Int)+1)=((t+1:Nat):Int):=by rw [zT (by omega) (by omega)];simp
section
variable (a b c d e f g h:Int)
theorem zV5:idx [a,b,c,d,e,f,g,h] 0=some a:=rfl
theorem zL4:idx [a,b,c,d,e,f,g,h] 1=some b:=rfl
theorem zL7:idx [a,b,c,d,e,f,g,h] 2=some c:=rfl
theorem zUy:idx [a,b,c,d,e,f,g,h] 3=some d:=rfl
theorem zW6:idx [a,b,c,d,e,f,g,h] 4=some e:=rfl
theorem zPm:idx [a,b,c,d,e,f,g,h] 5=some f:=rfl
theorem zPl:idx [a,b,c,d,e,f,g,h] 6=some g:=rfl
theorem zU6:idx [a,b,c,d,e,f,g,h] 7=some h:=rfl
end
theorem dlt {a b:Nat} (h:a<b):decide ((a:Int)<(b:Int))=true:=by simp;exact h
theorem dge {a b:Nat} (h:b<=a):decide ((a:Int)<(b:Int))=false:=by simp;omega
theorem zN2 (w:List Int) (s:A8 Int) (i:Nat) (hi:i<64) (hw:w.length=64):pH K2 w (a8 s,(i:Int))=some (.inl (a8 (rnd s (K2.getD i 0) (w.getD i 0)),((i+1:Nat):Int))):=by
 have e1:decide ((i:Int)<64)=true:=dlt (b:=64) hi
 have e2:∀ x,yR x 6=some (rr x 6):=λx=>oF x 6 (by decide) (by decide)
 have e3:∀ x,yR x 11=some (rr x 11):=λx=>oF x 11 (by decide) (by decide)
 have e4:∀ x,yR x 25=some (rr x 25):=λx=>oF x 25 (by decide) (by decide)
 have e5:∀ x,yR x 2=some (rr x 2):=λx=>oF x 2 (by decide) (by decide)
 have e6:∀ x,yR x 13=some (rr x 13):=λx=>oF x 13 (by decide) (by decide)
 have e7:∀ x,yR x 22=some (rr x 22):=λx=>oF x 22 (by decide) (by decide)
 have k1:K2[i]? = some (K2.getD i 0):=pL (by rw [zQh];exact hi)
 have k2:w[i]? = some (w.getD i 0):=pL (by omega)
 unfold pH a8
 refine ct e1 ?_
 refine bd (zV5 _ _ _ _ _ _ _ _) ?_
 refine bd (zW6 _ _ _ _ _ _ _ _) ?_
 refine bd (zU6 _ _ _ _ _ _ _ _) ?_
 refine bd (e2 _) ?_
 refine bd (e3 _) ?_
 refine bd (e4 _) ?_
 refine ltk ?_
 refine bd (zPm _ _ _ _ _ _ _ _) ?_
 refine bd (zPl _ _ _ _ _ _ _ _) ?_
 refine ltk ?_
 refine bd (vX hi) ?_
 refine bd k1 ?_
 refine ltk ?_
 refine bd (vX hi) ?_
 refine bd k2 ?_
 refine bd (e5 _) ?_
 refine bd (e6 _) ?_
 refine bd (e7 _) ?_
 refine bd (zL4 _ _ _ _ _ _ _ _) ?_
 refine bd (zL7 _ _ _ _ _ _ _ _) ?_
 refine ltk ?_
 refine bd (zL4 _ _ _ _ _ _ _ _) ?_
 refine bd (zL7 _ _ _ _ _ _ _ _) ?_
 refine ltk ?_
 refine ltk ?_
 refine bd (zL4 _ _ _ _ _ _ _ _) ?_
 refine bd (zL7 _ _ _ _ _ _ _ _) ?_
 refine bd (zUy _ _ _ _ _ _ _ _) ?_
 refine ltk ?_
 refine bd (zPm _ _ _ _ _ _ _ _) ?_
 refine bd (zPl _ _ _ _ _ _ _ _) ?_
 rw [yB (show i<2 ^ 40 by omega)]
 rfl
theorem zS3 (w:List Int) (hw:w.length=64) (s:A8 Int):zE (pH K2 w) FU (a8 s,0)=some (a8 (mS w s 64)):=by
 refine zK 64 (λi=>(a8 (mS w s i),(i:Int))) rfl (λi hi=>zN2 w _ i hi hw) ?_ (yT (by decide))
 generalize mS w s 64=S
 rfl
theorem zNz (w:List Int) (s:A8 Int) (i:Nat) (hi:i<64) (hw:w.length=64):vH w ((i:Int),s.a0,s.a1,s.a2,s.a3,s.a4,s.a5,s.a6,s.a7) =
  some (.inl (((i+1:Nat):Int),(rnd s (K2.getD i 0) (w.getD i 0)).a0,(rnd s (K2.getD i 0) (w.getD i 0)).a1,(rnd s (K2.getD i 0) (w.getD i 0)).a2,(rnd s (K2.getD i 0) (w.getD i 0)).a3,(rnd s (K2.getD i 0) (w.getD i 0)).a4,(rnd s (K2.getD i 0) (w.getD i 0)).a5,(rnd s (K2.getD i 0) (w.getD i 0)).a6,(rnd s (K2.getD i 0) (w.getD i 0)).a7)):=by
 have e1:decide ((i:Int)<64)=true:=dlt (b:=64) hi
 have e2:∀ x,zC x (-6)=some (rr x 6):=λx=>qH x _ 6 (by decide) (by decide) (by decide)
 have e3:∀ x,zC x (-11)=some (rr x 11):=λx=>qH x _ 11 (by decide) (by decide) (by decide)
 have e4:∀ x,zC x (-25)=some (rr x 25):=λx=>qH x _ 25 (by decide) (by decide) (by decide)
 have e5:∀ x,zC x (-2)=some (rr x 2):=λx=>qH x _ 2 (by decide) (by decide) (by decide)
 have e6:∀ x,zC x (-13)=some (rr x 13):=λx=>qH x _ 13 (by decide) (by decide) (by decide)
 have e7:∀ x,zC x (-22)=some (rr x 22):=λx=>qH x _ 22 (by decide) (by decide) (by decide)
 have k1:idx gd1 (i:Int)=some (K2.getD i 0):=by rw [xS (show i<gd1.length from hi)];simp [K2,show i<gd1.length from hi]
 have k2:w[i]? = some (w.getD i 0):=pL (by omega)
 unfold vH
 refine ct e1 ?_
 refine bd (e2 _) ?_
 refine bd (e3 _) ?_
 refine bd (e4 _) ?_
 refine ltk ?_
 refine ltk ?_
 refine bd k1 ?_
 refine ltk ?_
 refine bd (vX hi) ?_
 refine bd k2 ?_
 refine bd (e5 _) ?_
 refine bd (e6 _) ?_
 refine bd (e7 _) ?_
 refine ltk ?_
 refine ltk ?_
 refine ltk ?_
 refine ltk ?_
 rw [yB (show i<2 ^ 40 by omega)]
 rfl
theorem zRp (w:List Int) (hw:w.length=64) (s:A8 Int):zE (vH w) FU (0,s.a0,s.a1,s.a2,s.a3,s.a4,s.a5,s.a6,s.a7)=some ((mS w s 64).a0,(mS w s 64).a1,(mS w s 64).a2,(mS w s 64).a3,(mS w s 64).a4,(mS w s 64).a5,(mS w s 64).a6,(mS w s 64).a7):=by
 refine zK 64 (λi=>((i:Int),(mS w s i).a0,(mS w s i).a1,(mS w s i).a2,(mS w s i).a3,(mS w s i).a4,(mS w s i).a5,(mS w s i).a6,(mS w s i).a7)) rfl (λi hi=>zNz w _ i hi hw) ?_ (yT (by decide))
 generalize mS w s 64=S
 rfl
end Go.Proofs.TT
namespace Go.Proofs.TT
open Go Go.Sw
set_option maxRecDepth 100000
theorem zKo {l:List UInt8} {z:Int} {n:Nat} (hz:z=(n:Int)) (h:n<l.length):idx l z=some (l.getD n 0):=by
 subst hz
 simp [idx,h]
theorem aC {α:Type} {l:List α} {j:Nat} {u:α} (h:j<l.length):tA l j u=some (l.set j u):=by simp [tA,h]
def byt (b:List UInt8) (n:Nat):Int:=IntKind.u32.wrap (((b.getD n 0).toNat:Nat):Int)
def wd (b:List UInt8) (t:Nat):Int:=ior .u32 (ior .u32 (ior .u32 (tU .u32 (byt b (4*t)) 24) (tU .u32 (byt b (4*t+1)) 16)) (tU .u32 (byt b (4*t+2)) 8)) (byt b (4*t+3))
theorem zEk (b:List UInt8) (t:Nat) (h:4*t+3<b.length) (h2:t<2 ^ 20):nY b (t:Int)=some (wd b t):=by
 have e0:IntKind.i64.wrap (4*(t:Int))=((4*t:Nat):Int):=by rw [zT (by omega) (by omega)];simp
 unfold nY
 rw [e0]
 refine bd (zKo rfl (by omega)) ?_
 refine bd (zKo (n:=4*t+1) (by rw [zT (by omega) (by omega)];simp) (by omega)) ?_
 refine ltk ?_
 refine bd (zKo (n:=4*t+2) (by rw [zT (by omega) (by omega)];simp) (by omega)) ?_
 refine ltk ?_
 refine bd (zKo (n:=4*t+3) (by rw [zT (by omega) (by omega)];simp) (by omega)) ?_
 rfl
theorem zFn:lL=nY:=rfl
def s0 (x:Int):Int:=xF .u32 (xF .u32 (rr x 7) (rr x 18)) (zU .u32 x 3)
def s1 (x:Int):Int:=xF .u32 (xF .u32 (rr x 17) (rr x 19)) (zU .u32 x 10)
def wv (b:List UInt8) (w:List Int) (t:Nat):Int:=
 if t<16 then wd b t else IntKind.u32.wrap (IntKind.u32.wrap (IntKind.u32.wrap (s1 (w.getD (t - 2) 0)+w.getD (t - 7) 0)+s0 (w.getD (t - 15) 0))+w.getD (t - 16) 0)
def iS (b:List UInt8):Nat->List Int
 | 0=>List.replicate 64 0
 | t+1=>(iS b t).set t (wv b (iS b t) t)
theorem l7 (b:List UInt8):∀ t,(iS b t).length=64
 | 0=>rfl
 | t+1=>by simp [iS,l7 b t]
theorem zVj (b:List UInt8) (w:List Int) (i:Nat) (hi:i<64) (hw:w.length=64) (hb:b.length=64):vJ b ((i:Int),w)=some (.inl (((i+1:Nat):Int),w.set i (wv b w i))):=by
 have hiw:i<w.length:=by omega
 unfold vJ
 refine ct (dlt (b:=64) hi) ?_
 refine bd (a:=w.set i (wv b w i)) ?_ (by rw [yB (show i<2 ^ 40 by omega)])
 by_cases h:i<16
 ·refine ct (dlt (b:=16) h) ?_
  rw [zFn]
  refine bd (zEk b i (by omega) (by omega)) ?_
  refine bd (vX hi) ?_
  refine bd (aC hiw) ?_
  simp [wv,h]
 refine cf (dge (b:=16) (by omega)) ?_
 have x15:ixN 64 (IntKind.i64.wrap ((i:Int) - 15))=some (i - 15):=by rw [zT (by omega) (by omega),show (i:Int) - 15=((i - 15:Nat):Int) by omega];exact vX (by omega)
 have x2:ixN 64 (IntKind.i64.wrap ((i:Int) - 2))=some (i - 2):=by rw [zT (by omega) (by omega),show (i:Int) - 2=((i - 2:Nat):Int) by omega];exact vX (by omega)
 have x7:ixN 64 (IntKind.i64.wrap ((i:Int) - 7))=some (i - 7):=by rw [zT (by omega) (by omega),show (i:Int) - 7=((i - 7:Nat):Int) by omega];exact vX (by omega)
 have x16:ixN 64 (IntKind.i64.wrap ((i:Int) - 16))=some (i - 16):=by rw [zT (by omega) (by omega),show (i:Int) - 16=((i - 16:Nat):Int) by omega];exact vX (by omega)
 have w15:w[i - 15]? = some (w.getD (i - 15) 0):=pL (by omega)
 have w2:w[i - 2]? = some (w.getD (i - 2) 0):=pL (by omega)
 have w7:w[i - 7]? = some (w.getD (i - 7) 0):=pL (by omega)
 have w16:w[i - 16]? = some (w.getD (i - 16) 0):=pL (by omega)
 have e7:∀ x,zC x (-7)=some (rr x 7):=λx=>qH x _ 7 (by decide) (by decide) (by decide)
 have e18:∀ x,zC x (-18)=some (rr x 18):=λx=>qH x _ 18 (by decide) (by decide) (by decide)
 have e17:∀ x,zC x (-17)=some (rr x 17):=λx=>qH x _ 17 (by decide) (by decide) (by decide)
 have e19:∀ x,zC x (-19)=some (rr x 19):=λx=>qH x _ 19 (by decide) (by decide) (by decide)
 refine bd (x15) ?_
 refine bd (w15) ?_
 refine bd (x2) ?_
 refine bd (w2) ?_
 refine bd (e7 _) ?_
 refine bd (e18 _) ?_
 refine bd (e17 _) ?_
 refine bd (e19 _) ?_
 refine bd (x7) ?_
 refine bd (w7) ?_
 refine ltk ?_
 refine ltk ?_
 refine bd (x16) ?_
 refine bd (w16) ?_
 refine bd (vX hi) ?_
 refine bd (aC hiw) ?_
 simp only [wv,h,if_false]
 rfl
theorem zSn (b:List UInt8) (hb:b.length=64):zE (vJ b) FU (0,List.replicate 64 0)=some (iS b 64):=by
 refine zK 64 (λi=>((i:Int),iS b i)) rfl (λi hi=>zVj b _ i hi (l7 b i) hb) ?_ (yT (by decide))
 generalize iS b 64=S
 rfl
def uN (x:List UInt8) (n:Nat):List UInt8:=(x.drop n).take 64
theorem zW3 (x:List UInt8) (at':Nat) (w:List Int) (i:Nat) (hi:i<64) (hw:w.length=64) (hx:at'+64<=x.length) (hl:x.length<2 ^ 48):qS x (at':Int) ((i:Int),w)=some (.inl (((i+1:Nat):Int),w.set i (wv (uN x at') w i))):=by
 have hiw:i<w.length:=by omega
 have hbl:(uN x at').length=64:=by simp [uN];omega
 unfold qS
 refine ct (dlt (b:=64) hi) ?_
 refine bd (a:=w.set i (wv (uN x at') w i)) ?_ (by rw [yB (show i<2 ^ 40 by omega)])
 by_cases h:i<16
 ·refine ct (dlt (b:=16) h) ?_
  have hs:sub x (at':Int) (IntKind.i64.wrap ((at':Int)+64))=some (uN x at'):=by
   rw [zT (by omega) (by omega),show (at':Int)+64=((at'+64:Nat):Int) by simp,tW (by omega) hx]
   simp [uN]
  refine bd hs ?_
  refine bd (zEk _ i (by omega) (by omega)) ?_
  refine bd (vX hi) ?_
  refine bd (aC hiw) ?_
  simp [wv,h]
 refine cf (dge (b:=16) (by omega)) ?_
 have x15:ixN 64 (IntKind.i64.wrap ((i:Int) - 15))=some (i - 15):=by rw [zT (by omega) (by omega),show (i:Int) - 15=((i - 15:Nat):Int) by omega];exact vX (by omega)
 have x2:ixN 64 (IntKind.i64.wrap ((i:Int) - 2))=some (i - 2):=by rw [zT (by omega) (by omega),show (i:Int) - 2=((i - 2:Nat):Int) by omega];exact vX (by omega)
 have x7:ixN 64 (IntKind.i64.wrap ((i:Int) - 7))=some (i - 7):=by rw [zT (by omega) (by omega),show (i:Int) - 7=((i - 7:Nat):Int) by omega];exact vX (by omega)
 have x16:ixN 64 (IntKind.i64.wrap ((i:Int) - 16))=some (i - 16):=by rw [zT (by omega) (by omega),show (i:Int) - 16=((i - 16:Nat):Int) by omega];exact vX (by omega)
 have w15:w[i - 15]? = some (w.getD (i - 15) 0):=pL (by omega)
 have w2:w[i - 2]? = some (w.getD (i - 2) 0):=pL (by omega)
 have w7:w[i - 7]? = some (w.getD (i - 7) 0):=pL (by omega)
 have w16:w[i - 16]? = some (w.getD (i - 16) 0):=pL (by omega)
 have e7:∀ x,yR x 7=some (rr x 7):=λx=>oF x 7 (by decide) (by decide)
 have e18:∀ x,yR x 18=some (rr x 18):=λx=>oF x 18 (by decide) (by decide)
 have e17:∀ x,yR x 17=some (rr x 17):=λx=>oF x 17 (by decide) (by decide)
 have e19:∀ x,yR x 19=some (rr x 19):=λx=>oF x 19 (by decide) (by decide)
 refine bd (x15) ?_
 refine bd (w15) ?_
 refine bd (e7 _) ?_
 refine bd (x15) ?_
 refine bd (w15) ?_
 refine bd (e18 _) ?_
 refine bd (x15) ?_
 refine bd (w15) ?_
 refine bd (x2) ?_
 refine bd (w2) ?_
 refine bd (e17 _) ?_
 refine bd (x2) ?_
 refine bd (w2) ?_
 refine bd (e19 _) ?_
 refine bd (x2) ?_
 refine bd (w2) ?_
 refine bd (x7) ?_
 refine bd (w7) ?_
 refine ltk ?_
 refine ltk ?_
 refine bd (x16) ?_
 refine bd (w16) ?_
 refine bd (vX hi) ?_
 refine bd (aC hiw) ?_
 simp only [wv,h,if_false]
 rfl
theorem zQ7 (x:List UInt8) (at':Nat) (hx:at'+64<=x.length) (hl:x.length<2 ^ 48):zE (qS x (at':Int)) FU (0,List.replicate 64 0)=some (iS (uN x at') 64):=by
 refine zK 64 (λi=>((i:Int),iS (uN x at') i)) rfl (λi hi=>zW3 x at' _ i hi (l7 _ i) hx hl) ?_ (yT (by decide))
 generalize iS (uN x at') 64=S
 rfl
end Go.Proofs.TT
namespace Go.Proofs.TT
open Go Go.Sw
set_option maxRecDepth 100000
def zMr (h s:A8 Int):A8 Int:=⟨IntKind.u32.wrap (h.a0+s.a0),IntKind.u32.wrap (h.a1+s.a1),IntKind.u32.wrap (h.a2+s.a2),IntKind.u32.wrap (h.a3+s.a3),IntKind.u32.wrap (h.a4+s.a4),IntKind.u32.wrap (h.a5+s.a5),IntKind.u32.wrap (h.a6+s.a6),IntKind.u32.wrap (h.a7+s.a7)⟩
def zBr (h s:List Int):Nat->List Int
 | 0=>h
 | i+1=>(zBr h s i).set i (IntKind.u32.wrap ((zBr h s i).getD i 0+s.getD i 0))
theorem zCd (h s:List Int):∀ i,(zBr h s i).length=h.length
 | 0=>rfl
 | i+1=>by simp [zBr,zCd h s i]
theorem zLu (h s:A8 Int):zBr (a8 h) (a8 s) 8=a8 (zMr h s):=rfl
def zFt (h:A8 Int) (b:List UInt8):A8 Int:=zMr h (mS (iS b 64) h 64)
theorem zP0 (h s:A8 Int):zE (mR (a8 s)) FU (0,a8 h)=some (a8 (zMr h s)):=by
 rw [<- zLu]
 refine zK 8 (λi=>((i:Int),zBr (a8 h) (a8 s) i)) rfl (λi hi=>?_) ?_ (yT (by decide))
 ·have hl:(zBr (a8 h) (a8 s) i).length=8:=zCd _ _ _
  unfold mR
  refine ct (dlt (b:=8) hi) ?_
  refine bd (vX hi) ?_
  refine bd (pL (by omega)) ?_
  refine bd (a:=(a8 s).getD i 0) (by rw [xS (show i<(a8 s).length from hi)];simp [show i<(a8 s).length from hi]) ?_
  refine bd (vX hi) ?_
  refine bd (aC (by omega)) ?_
  rw [yB (show i<2 ^ 40 by omega)]
  rfl
 ·generalize zBr (a8 h) (a8 s) 8=S
  rfl
theorem zP1 (h s:A8 Int):zE (xX s.a0 s.a1 s.a2 s.a3 s.a4 s.a5 s.a6 s.a7) FU (0,[h.a0,h.a1,h.a2,h.a3,h.a4,h.a5,h.a6,h.a7])=some (zMr h s):=by
 refine zK 8 (λi=>((i:Int),zBr (a8 h) (a8 s) i)) rfl (λi hi=>?_) ?_ (yT (by decide))
 ·have hl:(zBr (a8 h) (a8 s) i).length=8:=zCd _ _ _
  unfold xX
  refine ct (dlt (b:=8) hi) ?_
  refine bd (vX hi) ?_
  refine bd (pL (by omega)) ?_
  refine bd (vX hi) ?_
  refine bd (a:=(a8 s).getD i 0) (pL (l:=a8 s) hi) ?_
  refine bd (vX hi) ?_
  refine bd (aC (by omega)) ?_
  rw [yB (show i<2 ^ 40 by omega)]
  rfl
 ·show xX s.a0 s.a1 s.a2 s.a3 s.a4 s.a5 s.a6 s.a7 (((8:Nat):Int),zBr (a8 h) (a8 s) 8)=_
  rw [zLu]
  unfold xX
  refine cf rfl ?_
  refine bd (a:=zMr h s) rfl rfl
theorem zGs (h:A8 Int) (b:List UInt8) (hb:b.length=64):uS h b=some (zFt h b):=by
 unfold uS
 refine bd (zSn b hb) ?_
 refine bd (zRp _ (l7 b 64) h) ?_
 refine bd (zP1 h _) ?_
 rfl
def zM0:A8 Int:=⟨1779033703,3144134277,1013904242,2773480762,1359893119,2600822924,528734635,1541459225⟩
def hsh (x:List UInt8):Nat->A8 Int
 | 0=>zM0
 | i+1=>zFt (hsh x i) (uN x (64*i))
def st8 (p:List UInt8) (h:A8 Int):List UInt8×Int×Int×Int×Int×Int×Int×Int×Int:=(p,h.a0,h.a1,h.a2,h.a3,h.a4,h.a5,h.a6,h.a7)
theorem zH9 (x:List UInt8) (n:Nat) (hx:x.length=64*n) (hl:x.length<2 ^ 48):zE oN FU (st8 x zM0)=some ((hsh x n).a0,(hsh x n).a1,(hsh x n).a2,(hsh x n).a3,(hsh x n).a4,(hsh x n).a5,(hsh x n).a6,(hsh x n).a7):=by
 refine zK n (λi=>st8 (x.drop (64*i)) (hsh x i)) (by simp [hsh]) (λi hi=>?_) ?_ (yT (by omega))
 ·have hd:(x.drop (64*i)).length=x.length - 64*i:=by simp
  unfold oN st8
  refine ct (by simp;omega) ?_
  refine bd (a:=uN x (64*i)) (by rw [show (0:Int)=((0:Nat):Int) from rfl,show (64:Int)=((64:Nat):Int) from rfl,tW (by omega) (by omega)];simp [uN]) ?_
  refine bd (zGs _ _ (by simp [uN];omega)) ?_
  refine bd (a:=x.drop (64*(i+1))) (by rw [show (64:Int)=((64:Nat):Int) from rfl,tW (by omega) (by omega)];rw [List.drop_drop,List.take_of_length_le (by simp;omega)];congr 2) ?_
  rfl
 ·have hd:x.drop (64*n)=[]:=List.drop_eq_nil_of_le (by omega)
  show oN (st8 (x.drop (64*n)) (hsh x n))=_
  rw [hd]
  generalize hsh x n=S
  rfl
theorem zHu (x:List UInt8) (n:Nat) (hx:x.length=64*n) (hl:x.length<2 ^ 47):zE (tN K2 x) FU (0,a8 zM0)=some (a8 (hsh x n)):=by
 refine zK n (λi=>(((64*i:Nat):Int),a8 (hsh x i))) rfl (λi hi=>?_) ?_ (yT (by omega))
 ·unfold tN
  refine ct (dlt (by omega)) ?_
  refine bd (zQ7 x (64*i) (by omega) (by omega)) ?_
  refine bd (ckT rfl) ?_
  refine bd (a:=a8 (hsh x i)) (by rw [zQ (by simp [a8])];rfl) ?_
  refine bd (zS3 _ (l7 _ 64) _) ?_
  refine bd (zP0 _ _) ?_
  rw [zT (by omega) (by omega),show ((64*i:Nat):Int)+64=((64*(i+1):Nat):Int) by omega]
  rfl
 ·show tN K2 x (((64*n:Nat):Int),a8 (hsh x n))=_
  unfold tN
  exact cf (dge (by omega)) rfl
def zs (n:Nat):Nat:=(119 - n % 64) % 64
def be8 (n:Int) (k:Nat):List UInt8:=(List.range k).map λ(j:Nat)=>u8 (zU .u64 n (56 - 8*(j:Int)))
theorem zEe (n:Int) (k:Nat):(be8 n k).length=k:=by simp [be8]
theorem zG6 (n:Int) (k:Nat):be8 n (k+1)=be8 n k++[u8 (zU .u64 n (56 - 8*(k:Int)))]:=by simp [be8,List.range_succ]
def zT3 (b:List UInt8):Int:=IntKind.u64.wrap (IntKind.u64.wrap (b.length:Int)*8)
def iN (b:List UInt8):List UInt8:=(b++[128]++List.replicate (zs b.length) 0)++be8 (zT3 b) 8
theorem hP (b:List UInt8):(iN b).length=b.length+9+zs b.length:=by simp [iN,zEe];omega
theorem bC (b:List UInt8):(iN b).length % 64=0:=by rw [hP];unfold zs;omega
theorem zDn (b:List UInt8) (hb:b.length<2 ^ 40):zE oU FU (b++[128])=some (b++[128]++List.replicate (zs b.length) 0):=by
 have hz:zs b.length<64:=by unfold zs;omega
 refine zK (zs b.length) (λi=>b++[128]++List.replicate i 0) (by simp) (λi hi=>?_) ?_ (yT (by omega))
 ·have hl:(b++[128]++List.replicate i 0).length=b.length+1+i:=by simp;omega
  unfold oU
  refine ct ?_ ?_
  ·rw [hl]
   simp only [bne_iff_ne,ne_eq]
   rw [Int.tmod_eq_emod_of_nonneg (by omega)]
   unfold zs at hi
   omega
  ·refine bd (zQ (by rw [hl];simp;omega)) ?_
   rw [List.append_assoc,<- List.replicate_succ']
 ·have hl:(b++[128]++List.replicate (zs b.length) 0).length=b.length+1+zs b.length:=by simp;omega
  unfold oU
  refine cf ?_ rfl
  rw [hl]
  simp only [bne_eq_false_iff_eq]
  rw [Int.tmod_eq_emod_of_nonneg (by omega)]
  unfold zs
  omega
theorem zNy:fV=oU:=rfl
theorem zNe (x:List UInt8) (n:Int) (hx:x.length<2 ^ 41):zE (hK n) FU (x,7)=some (x++be8 n 8):=by
 refine zK 8 (λi=>(x++be8 n i,7 - (i:Int))) (by simp [be8]) (λi hi=>?_) ?_ (yT (by decide))
 ·unfold hK
  refine ct (by simp;omega) ?_
  refine ltk ?_
  have e:IntKind.u64.wrap (8*IntKind.u64.wrap (7 - (i:Int)))=56 - 8*(i:Int):=by
   rw [gQ (n:=7 - (i:Int)) (by omega) (by omega),gQ (by omega) (by omega)];omega
  rw [e]
  refine bd (zQ (by simp [zEe];omega)) ?_
  rw [zT (by omega) (by omega),List.append_assoc,<- zG6,show (7:Int) - (i:Int) - 1=7 - ((i+1:Nat):Int) by omega]
 ·generalize be8 n 8=S
  rfl
theorem zL1 (x:List UInt8) (n:Int) (hx:x.length<2 ^ 41):zE (lU n) FU (x,56)=some (x++be8 n 8):=by
 refine zK 8 (λi=>(x++be8 n i,56 - 8*(i:Int))) (by simp [be8]) (λi hi=>?_) ?_ (yT (by decide))
 ·unfold lU
  refine ct (by simp;omega) ?_
  rw [gQ (n:=56 - 8*(i:Int)) (by omega) (by omega)]
  refine bd (zQ (by simp [zEe];omega)) ?_
  rw [zT (by omega) (by omega),List.append_assoc,<- zG6,show (56:Int) - 8*(i:Int) - 8=56 - 8*((i+1:Nat):Int) by omega]
 ·generalize be8 n 8=S
  rfl
theorem zB2 (b:List UInt8) (hb:b.length<2 ^ 40):gD b=some (iN b):=by
 have hz:zs b.length<64:=by unfold zs;omega
 unfold gD
 refine bd (a:=b) (by rw [zQ (by simp;omega)];simp) ?_
 refine bd (zQ (by simp;omega)) ?_
 refine bd (zDn b hb) ?_
 refine ltk ?_
 refine bd (zNe _ _ (by simp;omega)) ?_
 rfl
theorem zBw (b:List UInt8) (hb:b.length<2 ^ 40):mO b=some (iN b):=by
 have hz:zs b.length<64:=by unfold zs;omega
 unfold mO
 refine bd (a:=b.length+72) (by unfold mkN;rw [zT (by omega) (by omega),if_pos (by omega)];congr 1) ?_
 refine bd (a:=b) (by rw [zQ (by simp;omega)];simp) ?_
 refine bd (zQ (by simp;omega)) ?_
 rw [zNy]
 refine bd (zDn b hb) ?_
 refine ltk ?_
 refine bd (zL1 _ _ (by simp;omega)) ?_
 rfl
def be4 (w:Int):List UInt8:=[u8 (zU .u32 w 24),u8 (zU .u32 w 16),u8 (zU .u32 w 8),u8 w]
theorem zD1 (l:List Int):(l.flatMap be4).length=4*l.length:=by
 induction l with
 | nil=>rfl
 | cons a r ih=>simp [ih,be4];omega
theorem zJm (l:List Int) (i:Nat) (hi:i<l.length):(l.take (i+1)).flatMap be4=(l.take i).flatMap be4++be4 (l.getD i 0):=by
 rw [List.take_add_one,List.flatMap_append]
 congr 1
 simp [hi]
theorem zMc {l:List Int} {i:Nat} (h:i<l.length):idx l (i:Int)=some (l.getD i 0):=by rw [xS h];simp [h]
theorem zFr (l:List Int) (hl:l.length<2 ^ 20):n9 l=some (l.flatMap be4):=by
 have:zE (oK l) FU ([],0)=some (l.flatMap be4):=by
  refine zK l.length (λi=>((l.take i).flatMap be4,(i:Int))) (by simp) (λi hi=>?_) ?_ (yT (by omega))
  ·unfold oK
   refine ct (dlt hi) ?_
   refine bd (zMc hi) ?_
   refine bd (zMc hi) ?_
   refine bd (zMc hi) ?_
   refine bd (zMc hi) ?_
   refine bd (zQ (by rw [zD1];simp;omega)) ?_
   rw [zJm l i hi,yB (show i<2 ^ 40 by omega)]
   rfl
  ·unfold oK
   refine cf (dge (Nat.le_refl _)) ?_
   simp
 unfold n9
 exact bd this rfl
theorem zDg (l:List Int) (hl:l.length<2 ^ 20):sV l=some (l.flatMap be4):=by
 have:zE (sL l) FU ([],0)=some (l.flatMap be4):=by
  refine zK l.length (λi=>((l.take i).flatMap be4,(i:Int))) (by simp) (λi hi=>?_) ?_ (yT (by omega))
  ·unfold sL
   refine ct (dlt hi) ?_
   refine bd (zMc hi) ?_
   refine bd (zQ (by rw [zD1];simp;omega)) ?_
   rw [zJm l i hi,yB (show i<2 ^ 40 by omega)]
   rfl
  ·unfold sL
   refine cf (dge (Nat.le_refl _)) ?_
   simp
 unfold sV
 refine bd (a:=4*l.length) (by unfold mkN;rw [zT (by omega) (by omega),if_pos (by omega)];congr 1) ?_
 exact bd this rfl
def sha (b:List UInt8):List UInt8:=(a8 (hsh (iN b) ((iN b).length / 64))).flatMap be4
theorem sF (b:List UInt8):(sha b).length=32:=by unfold sha;rw [zD1];rfl
theorem gV (b:List UInt8) (hb:b.length<2 ^ 40):xW b=some (sha b):=by
 have hz:zs b.length<64:=by unfold zs;omega
 have h1:=hP b
 have h2:=bC b
 unfold xW
 refine bd zEm ?_
 refine bd (ckT rfl) ?_
 refine bd (zB2 b hb) ?_
 refine bd (zHu (iN b) ((iN b).length / 64) (by omega) (by omega)) ?_
 refine bd (ckT rfl) ?_
 refine bd (zFr _ (by simp [a8])) ?_
 rfl
theorem zE4 (b:List UInt8) (hb:b.length<2 ^ 40):yV 1 b=some (sha b):=by
 have hz:zs b.length<64:=by unfold zs;omega
 have h1:=hP b
 have h2:=bC b
 unfold yV
 refine cf rfl ?_
 refine ct rfl ?_
 refine bd (zBw b hb) ?_
 refine bd (zH9 (iN b) ((iN b).length / 64) (by omega) (by omega)) ?_
 refine bd (zDg _ (by simp)) ?_
 rfl
end Go.Proofs.TT
namespace Go.Proofs.TT
open Go Go.Sw
set_option maxRecDepth 100000
def hd4 (n:Nat):List UInt8:=[u8 (zU .i64 (n:Int) 24),u8 (zU .i64 (n:Int) 16),u8 (zU .i64 (n:Int) 8),u8 (n:Int)]
theorem zU7 (n:Nat) (h:n<2 ^ 32):[u8 (zU .u32 (IntKind.u32.wrap (n:Int)) 24),u8 (zU .u32 (IntKind.u32.wrap (n:Int)) 16),u8 (zU .u32 (IntKind.u32.wrap (n:Int)) 8),u8 (IntKind.u32.wrap (n:Int))]=hd4 n:=by
 rw [zVt (by omega) (by omega)]
 rfl
def zKt (fs:List (List UInt8)):List UInt8:=fs.flatMap λf=>hd4 f.length++f
def frm (tag:Int) (fs:List (List UInt8)):List UInt8:=u8 tag :: zKt fs
def tot (fs:List (List UInt8)):Nat:=(fs.map λf=>4+f.length).sum
theorem zKw (fs:List (List UInt8)):(zKt fs).length=tot fs:=by
 induction fs with
 | nil=>rfl
 | cons f r ih=>simp only [zKt,tot,List.flatMap_cons,List.length_append,List.map_cons,List.sum_cons] at ih ⊢;rw [ih];simp [hd4]
theorem zA9 (tag:Int) (fs:List (List UInt8)):(frm tag fs).length=1+tot fs:=by simp [frm,zKw];omega
theorem zFm (tag:Int) (fs:List (List UInt8)) (i:Nat) (hi:i<fs.length):frm tag (fs.take (i+1))=(frm tag (fs.take i)++hd4 (fs[i]).length)++fs[i]:=by
 unfold frm zKt
 rw [List.take_add_one,List.flatMap_append]
 simp [hi]
theorem zK6 (fs:List (List UInt8)):∀ i,tot (fs.take i)<=tot fs:=by
 induction fs with
 | nil=>intro i;simp
 | cons f r ih=>
  intro i
  cases i with
  | zero=>simp [tot]
  | succ j=>have:=ih j;simp only [tot,List.take_succ_cons,List.map_cons,List.sum_cons] at this ⊢;omega
theorem zJj (fs:List (List UInt8)):fs.length<=tot fs:=by
 induction fs with
 | nil=>simp
 | cons f r ih=>simp only [tot,List.length_cons,List.map_cons,List.sum_cons] at ih ⊢;omega
theorem zJf (fs:List (List UInt8)) (i:Nat) (hi:i<fs.length):tot (fs.take i)+4+(fs[i]).length<=tot fs:=by
 have h:=zK6 fs (i+1)
 have e:tot (fs.take (i+1))=tot (fs.take i)+(4+(fs[i]).length):=by
  unfold tot
  rw [List.take_add_one,List.map_append,List.sum_append]
  simp only [hi,List.getElem?_eq_getElem,Option.toList_some,List.map_cons,List.map_nil,List.sum_cons,List.sum_nil]
  omega
 omega
theorem zKm (tag:Int) (fs:List (List UInt8)) (h:tot fs<2 ^ 32):jS tag fs=some (frm tag fs):=by
 have h1:=zJj fs
 have:zE (oB fs) FU ([u8 tag],0)=some (frm tag fs):=by
  refine zK fs.length (λi=>(frm tag (fs.take i),(i:Int))) (by simp [frm,zKt]) (λi hi=>?_) ?_ (yT (by omega))
  ·have h2:=zJf fs i hi
   have h3:=zA9 tag (fs.take i)
   unfold oB
   refine ct (dlt hi) ?_
   refine bd (xS hi) ?_
   refine bd (zQ (by simp;omega)) ?_
   refine bd (xS hi) ?_
   refine bd (zQ (by simp;omega)) ?_
   rw [zFm tag fs i hi,yB (show i<2 ^ 40 by omega)]
   rfl
  ·unfold oB
   refine cf (dge (Nat.le_refl _)) ?_
   simp
 unfold jS
 exact bd this rfl
theorem zKu (tag:Int) (fs:List (List UInt8)) (h:tot fs<2 ^ 32):nR tag fs=some (frm tag fs):=by
 have h1:=zJj fs
 have:zE (rC fs) FU ([u8 tag],0)=some (frm tag fs):=by
  refine zK fs.length (λi=>(frm tag (fs.take i),(i:Int))) (by simp [frm,zKt]) (λi hi=>?_) ?_ (yT (by omega))
  ·have h2:=zJf fs i hi
   have h3:=zA9 tag (fs.take i)
   unfold rC
   refine ct (dlt hi) ?_
   refine bd (xS hi) ?_
   rw [zU7 _ (by omega)]
   refine bd (zQ (by simp [hd4];omega)) ?_
   refine bd (zQ (by simp [hd4];omega)) ?_
   rw [zFm tag fs i hi,yB (show i<2 ^ 40 by omega)]
  ·unfold rC
   refine cf (dge (Nat.le_refl _)) ?_
   simp
 unfold nR
 exact bd this rfl
def hs (tag:Int) (fs:List (List UInt8)):List UInt8:=sha (frm tag fs)
theorem aF (tag:Int) (fs:List (List UInt8)):(hs tag fs).length=32:=sF _
theorem mP (tag:Int) (fs:List (List UInt8)) (h:tot fs<2 ^ 32):u9 tag fs=some (hs tag fs):=by
 unfold u9
 refine bd (zKm tag fs h) ?_
 exact bd (gV _ (by rw [zA9];omega)) rfl
theorem mA (tag:Int) (fs:List (List UInt8)) (h:tot fs<2 ^ 32):w6 tag fs=some (hs tag fs):=by
 unfold w6
 refine bd (zKu tag fs h) ?_
 exact bd (zE4 _ (by rw [zA9];omega)) rfl
def beN (n:Int) (size k:Nat):List UInt8:=(List.range k).map λ(j:Nat)=>u8 (zU .u64 (IntKind.u64.wrap n) (8*((size:Int) - 1 - (j:Int))))
theorem uB (n:Int) (size k:Nat):(beN n size k).length=k:=by simp [beN]
theorem zFf (n:Int) (size k:Nat):beN n size (k+1)=beN n size k++[u8 (zU .u64 (IntKind.u64.wrap n) (8*((size:Int) - 1 - (k:Int))))]:=by simp [beN,List.range_succ]
def wC (b:List UInt8) (size:Nat) (n:Int):List UInt8:=b++beN n size size
theorem zS (b:List UInt8) (size:Nat) (n:Int):(wC b size n).length=b.length+size:=by simp [wC,uB]
theorem uG (b:List UInt8) (size:Nat) (n:Int) (h1:1<=size) (h8:size<=8) (hb:b.length<2 ^ 40):xU b (size:Int) n=some (wC b size n):=by
 have:zE (nQ n) FU (b,(size:Int) - 1)=some (wC b size n):=by
  refine zK size (λi=>(b++beN n size i,(size:Int) - 1 - (i:Int))) (by simp [beN]) (λi hi=>?_) ?_ (yT (by omega))
  ·unfold nQ
   refine ct (by simp;omega) ?_
   refine ltk ?_
   rw [gQ (n:=(size:Int) - 1 - (i:Int)) (by omega) (by omega),gQ (n:=8*((size:Int) - 1 - (i:Int))) (by omega) (by omega)]
   refine bd (zQ (by simp [uB];omega)) ?_
   rw [zT (by omega) (by omega),List.append_assoc,<- zFf,show (size:Int) - 1 - (i:Int) - 1=(size:Int) - 1 - ((i+1:Nat):Int) by omega]
  ·unfold nQ
   refine cf (by simp;omega) rfl
 unfold xU
 refine bd (a:=b) (by rw [zQ (by simp;omega)];simp) ?_
 refine bd (a:=false) (cf (by simp;omega) (congrArg some (by simp;omega))) ?_
 rw [zT (by omega) (by omega)]
 exact bd this rfl
theorem sG (b:List UInt8) (size:Nat) (n:Int) (h1:1<=size) (h8:size<=8) (hb:b.length<2 ^ 40):rS b (size:Int) n=some (wC b size n):=by
 have:zE (nO n) FU (b,(size:Int) - 1)=some (wC b size n):=by
  refine zK size (λi=>(b++beN n size i,(size:Int) - 1 - (i:Int))) (by simp [beN]) (λi hi=>?_) ?_ (yT (by omega))
  ·unfold nO
   refine ct (by simp;omega) ?_
   refine ltk ?_
   rw [zT (n:=8*((size:Int) - 1 - (i:Int))) (by omega) (by omega),gQ (n:=8*((size:Int) - 1 - (i:Int))) (by omega) (by omega)]
   refine bd (zQ (by simp [uB];omega)) ?_
   rw [zT (by omega) (by omega),List.append_assoc,<- zFf,show (size:Int) - 1 - (i:Int) - 1=(size:Int) - 1 - ((i+1:Nat):Int) by omega]
  ·unfold nO
   refine cf (by simp;omega) rfl
 unfold rS
 refine bd (a:=b) (by rw [zQ (by simp;omega)];simp) ?_
 refine bd (a:=false) (cf (by simp;omega) (congrArg some (by simp;omega))) ?_
 rw [zT (by omega) (by omega)]
 exact bd this rfl
def kD (b x:List UInt8):List UInt8:=wC b 2 ((x.take 65535).length:Int)++x.take 65535
theorem pX (b x:List UInt8):(kD b x).length<=b.length+65537:=by simp [kD,zS];omega
theorem sX (b x:List UInt8) (hb:b.length<2 ^ 39):w9 b x=some (kD b x):=by
 unfold w9
 refine bd (a:=x.take 65535) ?_ ?_
 ·by_cases h:65535<x.length
  ·refine ct (by simp;omega) ?_
   exact bd (a:=x.take 65535) (by rw [show (0:Int)=((0:Nat):Int) from rfl,show (65535:Int)=((65535:Nat):Int) from rfl,tW (by omega) (by omega)];simp) rfl
  ·refine cf (by simp;omega) ?_
   rw [List.take_of_length_le (by omega)]
 ·refine bd (uG b 2 _ (by omega) (by omega) (by omega)) ?_
  refine bd (zQ (by rw [zS];simp;omega)) ?_
  rfl
theorem cH (b x:List UInt8) (hb:b.length<2 ^ 39):kK b x=some (kD b x):=by
 unfold kK
 refine bd (a:=x.take 65535) ?_ ?_
 ·by_cases h:65535<x.length
  ·rw [if_pos (by omega),show (0:Int)=((0:Nat):Int) from rfl,show (65535:Int)=((65535:Nat):Int) from rfl,tW (by omega) (by omega)];simp
  ·rw [if_neg (by omega),show (0:Int)=((0:Nat):Int) from rfl,tW (by omega) (by omega)]
   simp
   rw [List.take_of_length_le (by omega)]
 ·refine bd (sG b 2 _ (by omega) (by omega) (by omega)) ?_
  refine bd (zQ (by rw [zS];simp;omega)) ?_
  rfl
theorem hU (a b:List UInt8):tL a b=some (a==b):=rfl
theorem cI (b:List UInt8) (h:b.length<2 ^ 40):vO b=some b:=by
 unfold vO
 refine bd (zQ (by simp;omega)) ?_
 simp
end Go.Proofs.TT
namespace Go.Proofs.TT
open Go Go.Sw
set_option maxRecDepth 100000
structure RS where
 b:List UInt8
 at':Nat
 e:Int
def RS.W (r:RS):wire_Reader:=⟨r.b,(r.at':Int),r.e⟩
def RS.Ok (r:RS):Prop:=r.at'<=r.b.length/\r.b.length<2 ^ 40
def RS.err (r:RS) (e:Int):RS:=⟨r.b,r.at',e⟩
def RS.to (r:RS) (n:Nat):RS:=⟨r.b,r.at'+n,r.e⟩
def RS.left (r:RS):Nat:=r.b.length - r.at'
def RS.get (r:RS) (n:Nat):List UInt8:=(r.b.drop r.at').take n
theorem RS.get_len (r:RS) (n:Nat) (h:n<=r.left):(r.get n).length=n:=by simp [RS.get,RS.left] at *;omega
def m8 (r:RS) (n:Nat):List UInt8×RS:=if r.e≠0 then ([],r) else if r.left<n then ([],r.err 2) else (r.get n,r.to n)
def beV (l:List UInt8):Nat->Int
 | 0=>0
 | k+1=>ior .u64 (tU .u64 (beV l k) 8) (IntKind.u64.wrap ((l.getD k 0).toNat:Int))
def zZ (r:RS) (n:Nat):Int×RS:=
 if r.e≠0 then (0,r) else if r.left<n then (0,r.err 2) else if 9223372036854775808<=beV (r.get n) n then (0,r.err 4) else (IntKind.i64.wrap (beV (r.get n) n),r.to n)
def v2 (r:RS):Nat:=(r.b.getD r.at' 0).toNat*256+(r.b.getD (r.at'+1) 0).toNat
def v8 (r:RS) (most:Nat):List UInt8×RS:=
 if r.e≠0 then ([],r) else if r.left<2 then ([],r.err 2) else if most<v2 r then ([],r.err 4) else if r.left<2+v2 r then ([],r.err 2) else ((r.b.drop (r.at'+2)).take (v2 r),r.to (2+v2 r))
def dW (r:RS):Int:=if r.e=0/\0<r.left then 3 else r.e
theorem zGi (r:RS) (n:Nat) (h:r.Ok):(m8 r n).2.Ok:=by
 unfold m8
 split
 ·exact h
 split
 ·exact h
 ·obtain ⟨h1,h2⟩:=h
  exact ⟨by simp only [RS.to,RS.left] at *;omega,h2⟩
theorem rT (r:RS) (n:Nat) (h:r.Ok):(zZ r n).2.Ok:=by
 unfold zZ
 split
 ·exact h
 split
 ·exact h
 split
 ·exact h
 ·obtain ⟨h1,h2⟩:=h
  exact ⟨by simp only [RS.to,RS.left] at *;omega,h2⟩
theorem zDx (r:RS) (n:Nat) (h:r.Ok):(v8 r n).2.Ok:=by
 unfold v8
 split
 ·exact h
 split
 ·exact h
 split
 ·exact h
 split
 ·exact h
 ·obtain ⟨h1,h2⟩:=h
  exact ⟨by simp only [RS.to,RS.left] at *;omega,h2⟩
theorem zFa (r:RS) (h:r.Ok):IntKind.i64.wrap ((r.b.length:Int) - (r.at':Int))=(r.left:Int):=by
 obtain ⟨h1,h2⟩:=h
 rw [zT (by omega) (by omega)]
 simp only [RS.left];omega
theorem zFk (r:wire_Reader) (a n:Nat) (h1:a<=r.b_.length) (h2:r.b_.length<2 ^ 40) (hn:r.b_.length - a<n):yF r (a:Int) (n:Int)=some ([],2,r):=by
 unfold yF
 refine ct ?_ rfl
 rw [zT (by omega) (by omega)]
 simp;omega
theorem zDu (r:wire_Reader) (a n:Nat) (h2:r.b_.length<2 ^ 40) (hn:a+n<=r.b_.length):yF r (a:Int) (n:Int)=some ((r.b_.drop a).take n,0,r):=by
 unfold yF
 refine cf ?_ ?_
 ·rw [zT (by omega) (by omega)]
  simp;omega
 ·refine bd (a:=(r.b_.drop a).take n) ?_ rfl
  rw [zT (by omega) (by omega),show (a:Int)+(n:Int)=((a+n:Nat):Int) by omega,tW (by omega) (by omega),Nat.add_sub_cancel_left]
theorem zD3 (r:RS) (n:Nat) (h:r.Ok) (hn:r.left<n):yF r.W (r.at':Int) (n:Int)=some ([],2,r.W):=zFk r.W r.at' n h.1 h.2 hn
theorem zBy (r:RS) (n:Nat) (h:r.Ok) (hn:n<=r.left):yF r.W (r.at':Int) (n:Int)=some (r.get n,0,r.W):=
 zDu r.W r.at' n h.2 (by have:=h.1;simp only [RS.left] at hn;show r.at'+n<=r.b.length;omega)
theorem b0 {e:Int} (h:e=0):(e != 0)=false:=by subst h;rfl
theorem b1 {e:Int} (h:e≠0):(e != 0)=true:=by simp [h]
theorem c0 {e:Int} (h:e=0):(e==0)=true:=by subst h;rfl
theorem c1 {e:Int} (h:e≠0):(e==0)=false:=by simp [h]
theorem zK4 (n:Nat):decide ((n:Int)<0)=false:=by simp
theorem hC (r:RS) (n:Nat) (h:r.Ok):vM r.W (n:Int)=some ((m8 r n).1,(m8 r n).2.W):=by
 unfold vM
 by_cases he:r.e=0
 ·refine cf (b0 he) ?_
  refine cf (zK4 n) ?_
  by_cases hn:r.left<n
  ·refine bd (zD3 r n h hn) ?_
   refine ct rfl ?_
   rw [show m8 r n=([],r.err 2) by simp [m8,he,hn]]
   rfl
  ·refine bd (zBy r n h (by omega)) ?_
   refine cf rfl ?_
   have hl:=RS.get_len r n (by omega)
   obtain ⟨h1,h2⟩:=h
   refine bd (a:=r.get n) (by rw [zQ (by simp;simp only [RS.left] at hn;omega)];simp) ?_
   show some (r.get n,(⟨r.b,IntKind.i64.wrap ((r.at':Int)+(n:Int)),r.e⟩:wire_Reader))=_
   have hn':=hn
   simp only [RS.left] at hn'
   rw [zT (by omega) (by omega),show (r.at':Int)+(n:Int)=((r.at'+n:Nat):Int) by omega]
   rw [show m8 r n=(r.get n,r.to n) by simp [m8,he,hn]]
   rfl
 ·refine ct (b1 he) ?_
  rw [show m8 r n=([],r) by simp [m8,he]]
theorem zTg (l:List UInt8) (hl:l.length<2 ^ 40):zE (uD l) FU (0,0)=some (beV l l.length):=by
 refine zK l.length (λi=>(beV l i,(i:Int))) rfl (λi hi=>?_) ?_ (yT (by omega))
 ·unfold uD
  refine ct (dlt hi) ?_
  refine bd (xS hi) ?_
  refine ltk ?_
  rw [yB (show i<2 ^ 40 by omega)]
  simp [beV,hi]
 ·unfold uD
  exact cf (dge (Nat.le_refl _)) rfl
theorem xJ (r:RS) (n:Nat) (h:r.Ok) (h1:1<=n) (h8:n<=8):yG r.W (n:Int)=some ((zZ r n).1,(zZ r n).2.W):=by
 unfold yG
 by_cases he:r.e=0
 ·refine cf (b0 he) ?_
  refine bd (a:=false) (cf (by simp;omega) (congrArg some (by simp;omega))) ?_
  refine cf rfl ?_
  by_cases hn:r.left<n
  ·refine bd (zD3 r n h hn) ?_
   refine ct rfl ?_
   rw [show zZ r n=(0,r.err 2) by simp [zZ,he,hn]]
   rfl
  ·refine bd (zBy r n h (by omega)) ?_
   refine cf rfl ?_
   have hl:=RS.get_len r n (by omega)
   refine bd (a:=beV (r.get n) n) ((zTg _ (by omega)).trans (by rw [hl])) ?_
   by_cases hv:9223372036854775808<=beV (r.get n) n
   ·refine ct (by simp;omega) ?_
    rw [show zZ r n=(0,r.err 4) by simp [zZ,he,hn,hv]]
    rfl
   ·refine cf (by simp;omega) ?_
    obtain ⟨h1,h2⟩:=h
    show some (_,(⟨r.b,IntKind.i64.wrap ((r.at':Int)+(n:Int)),r.e⟩:wire_Reader))=_
    have hn':=hn
    simp only [RS.left] at hn'
    rw [zT (n:=(r.at':Int)+(n:Int)) (by omega) (by omega),show (r.at':Int)+(n:Int)=((r.at'+n:Nat):Int) by omega]
    rw [show zZ r n=(IntKind.i64.wrap (beV (r.get n) n),r.to n) by simp [zZ,he,hn,hv]]
    rfl
 ·refine ct (b1 he) ?_
  rw [show zZ r n=(0,r) by simp [zZ,he]]
theorem zWg (x y:UInt8):ior .i64 (tU .i64 (IntKind.i64.wrap (x.toNat:Int)) 8) (IntKind.i64.wrap (y.toNat:Int))=((x.toNat*256+y.toNat:Nat):Int):=by
 have hx:=x.toNat_lt
 have hy:=y.toNat_lt
 rw [zT (by omega) (by omega),zT (by omega) (by omega)]
 have e1:tU .i64 (x.toNat:Int) 8=((x.toNat*256:Nat):Int):=by
  show IntKind.i64.wrap ((x.toNat:Int)*256)=_
  rw [zT (by omega) (by omega)];omega
 rw [e1]
 unfold ior
 have e2:(BitVec.ofInt IntKind.i64.bits ((x.toNat*256:Nat):Int) ||| BitVec.ofInt IntKind.i64.bits (y.toNat:Int)).toNat=x.toNat*256+y.toNat:=by
  show (BitVec.ofInt 64 ((x.toNat*256:Nat):Int) ||| BitVec.ofInt 64 (y.toNat:Int)).toNat=_
  rw [BitVec.ofInt_natCast,BitVec.ofInt_natCast,BitVec.toNat_or,BitVec.toNat_ofNat,BitVec.toNat_ofNat,Nat.mod_eq_of_lt (by omega),Nat.mod_eq_of_lt (by omega)]
  rw [Nat.mul_comm,show (256:Nat)=2 ^ 8 from rfl,<- Nat.two_pow_add_eq_or_of_lt (by omega)]
 rw [e2,zT (by omega) (by omega)]
theorem ig {l:List UInt8} {i:Nat} (h:i<l.length):idx l (i:Int)=some (l.getD i 0):=by rw [xS h];simp [h]
theorem u6 (r:RS) (m:Nat) (h:r.Ok):xN r.W (m:Int)=some ((v8 r m).1,(v8 r m).2.W):=by
 have hv:v2 r<65536:=by
  have h1:=(r.b.getD r.at' 0).toNat_lt
  have h2:=(r.b.getD (r.at'+1) 0).toNat_lt
  unfold v2;omega
 unfold xN
 by_cases he:r.e=0
 ·refine cf (b0 he) ?_
  by_cases hn:r.left<2
  ·refine bd (zD3 r 2 h hn) ?_
   refine ct rfl ?_
   rw [show v8 r m=([],r.err 2) by simp [v8,he,hn]]
   rfl
  ·refine bd (zBy r 2 h (by omega)) ?_
   refine cf rfl ?_
   have hl:=RS.get_len r 2 (by omega)
   have hn':=hn
   simp only [RS.left] at hn'
   refine bd (a:=r.b.getD r.at' 0) ?_ ?_
   ·refine (ig (l:=r.get 2) (i:=0) (by omega)).trans ?_
    simp [RS.get]
   refine bd (a:=r.b.getD (r.at'+1) 0) ?_ ?_
   ·refine (ig (l:=r.get 2) (i:=1) (by omega)).trans ?_
    simp [RS.get]
   refine ltk ?_
   rw [zWg]
   show (bif decide ((m:Int)<(v2 r:Int)) then _ else _)=_
   by_cases hm:m<v2 r
   ·refine ct (dlt hm) ?_
    rw [show v8 r m=([],r.err 4) by simp [v8,he,hn,hm]]
    rfl
   ·refine cf (dge (by omega)) ?_
    obtain ⟨h1,h2⟩:=h
    have hw:IntKind.i64.wrap ((r.at':Int)+2)=(((r.at'+2:Nat)):Int):=by rw [zT (by omega) (by omega)];omega
    show ((yF r.W (IntKind.i64.wrap ((r.at':Int)+2)) (v2 r:Int)).bind _)=_
    rw [hw]
    by_cases hk:r.left<2+v2 r
    ·refine bd (a:=([],2,r.W)) ?_ ?_
     ·exact zFk r.W (r.at'+2) (v2 r) (by show r.at'+2<=r.b.length;omega) h2 (by simp only [RS.left] at hk;show r.b.length - (r.at'+2)<v2 r;omega)
     ·refine ct rfl ?_
      rw [show v8 r m=([],r.err 2) by simp [v8,he,hn,hm,hk]]
      rfl
    ·have hk':=hk
     simp only [RS.left] at hk'
     refine bd (zDu r.W (r.at'+2) (v2 r) h2 (by show r.at'+2+v2 r<=r.b.length;omega)) ?_
     refine cf rfl ?_
     refine ltk ?_
     refine bd (a:=(r.b.drop (r.at'+2)).take (v2 r)) ?_ ?_
     ·refine (zQ (by simp;omega)).trans ?_
      rfl
     ·show some (_,(⟨r.b,IntKind.i64.wrap ((r.at':Int)+IntKind.i64.wrap (2+(v2 r:Int))),r.e⟩:wire_Reader))=_
      rw [zT (n:=2+(v2 r:Int)) (by omega) (by omega),zT (by omega) (by omega),show (r.at':Int)+(2+(v2 r:Int))=((r.at'+(2+v2 r):Nat):Int) by omega]
      rw [show v8 r m=((r.b.drop (r.at'+2)).take (v2 r),r.to (2+v2 r)) by simp [v8,he,hn,hm,hk]]
      rfl
 ·refine ct (b1 he) ?_
  rw [show v8 r m=([],r) by simp [v8,he]]
theorem zAf (r:RS) (h:r.Ok):uX r.W=some (dW r,r.W):=by
 unfold uX
 by_cases he:r.e=0
 ·refine bd (a:=(decide (0<(r.left:Int)),r.b,(r.at':Int),r.e)) (ct (c0 he) ?_) ?_
  ·show some (decide (0<IntKind.i64.wrap ((r.b.length:Int) - (r.at':Int))),r.b,(r.at':Int),r.e)=_
   rw [zFa r h]
  ·by_cases hl:0<r.left
   ·refine ct (by simp;omega) ?_
    simp only [dW,he,hl];rw [<- he];rfl
   ·refine cf (by simp;omega) ?_
    simp only [dW,he,hl];rw [<- he];simp [RS.W]
 ·refine bd (a:=(false,r.b,(r.at':Int),r.e)) (cf (c1 he) rfl) ?_
  refine cf rfl ?_
  simp only [dW,he];simp [RS.W]
end Go.Proofs.TT
namespace Go.Proofs.TT
open Go Go.Sw
set_option maxRecDepth 100000
theorem tJ (n:Nat):(u8 (n:Int)).toNat=n % 256:=by
 have:((n:Int) % 256).toNat=n % 256:=by omega
 rw [u8,this];simp
theorem zPe (n k:Nat) (h:n<2 ^ 62) (hk:k<2 ^ 62):yQ .i64 (n:Int) (k:Int)=((n &&& k:Nat):Int):=by
 have e:(BitVec.ofInt IntKind.i64.bits (n:Int) &&& BitVec.ofInt IntKind.i64.bits (k:Int)).toNat=n &&& k:=by
  show (BitVec.ofInt 64 (n:Int) &&& BitVec.ofInt 64 (k:Int)).toNat=_
  rw [BitVec.ofInt_natCast,BitVec.ofInt_natCast,BitVec.toNat_and,BitVec.toNat_ofNat,BitVec.toNat_ofNat,Nat.mod_eq_of_lt (by omega),Nat.mod_eq_of_lt (by omega)]
 unfold yQ
 have h3:n &&& k<=n:=Nat.and_le_left
 rw [e,zT (by omega) (by omega)]
theorem zK7 (n:Nat) (h:n<2 ^ 62):yQ .i64 (n:Int) 15=((n % 16:Nat):Int):=by
 rw [show (15:Int)=((15:Nat):Int) from rfl,zPe n 15 h (by decide),Nat.and_two_pow_sub_one_eq_mod n 4]
theorem zPd (n:Nat) (h:n<2 ^ 62):yQ .i64 (n:Int) 1=((n % 2:Nat):Int):=by
 rw [show (1:Int)=((1:Nat):Int) from rfl,zPe n 1 h (by decide),Nat.and_two_pow_sub_one_eq_mod n 1]
theorem zF8 (k:IntKind) (n j:Nat) (h:j<=k.bits):zU k (n:Int) (j:Int)=((n / 2 ^ j:Nat):Int):=by
 unfold zU
 rw [Int.toNat_natCast,Nat.min_eq_left h,Int.fdiv_eq_ediv_of_nonneg _ (by have:(0:Int)<2 ^ j:=Int.pow_pos (by decide);omega)]
 rw [Int.natCast_ediv];simp
theorem zL0 (x:UInt8):IntKind.i64.wrap ((u8 (zU .u8 (x.toNat:Int) 4)).toNat:Int)=((x.toNat / 16:Nat):Int):=by
 have hx:=x.toNat_lt
 rw [show (4:Int)=((4:Nat):Int) from rfl,zF8 .u8 x.toNat 4 (by decide),tJ,zT (by omega) (by omega)]
 omega
theorem zK9 (x:UInt8):IntKind.i64.wrap ((u8 (yQ .u8 (x.toNat:Int) 15)).toNat:Int)=((x.toNat % 16:Nat):Int):=by
 have hx:=x.toNat_lt
 have e:yQ .u8 (x.toNat:Int) 15=((x.toNat % 16:Nat):Int):=by
  have e:(BitVec.ofInt IntKind.u8.bits (x.toNat:Int) &&& BitVec.ofInt IntKind.u8.bits 15).toNat=x.toNat % 16:=by
   show (BitVec.ofInt 8 (x.toNat:Int) &&& BitVec.ofInt 8 ((15:Nat):Int)).toNat=_
   rw [BitVec.ofInt_natCast,BitVec.ofInt_natCast,BitVec.toNat_and,BitVec.toNat_ofNat,BitVec.toNat_ofNat,Nat.mod_eq_of_lt (by omega),Nat.mod_eq_of_lt (by omega)]
   exact Nat.and_two_pow_sub_one_eq_mod x.toNat 4
  unfold yQ
  rw [e,IntKind.wrap_u8];omega
 rw [e,tJ,zT (by omega) (by omega)]
 omega
def nb (x:UInt8):List Nat:=[x.toNat / 16,x.toNat % 16]
def nbs (h:List UInt8):List Nat:=h.flatMap nb
def sm (h:List UInt8):Nat:=(h.map λx=>30 - x.toNat / 16 - x.toNat % 16).sum
theorem zI5 (l:List UInt8) (i:Nat) (hi:i<l.length):sm (l.take (i+1))=sm (l.take i)+(30 - l[i].toNat / 16 - l[i].toNat % 16):=by
 unfold sm
 rw [List.take_add_one,List.map_append,List.sum_append]
 simp only [hi,List.getElem?_eq_getElem,Option.toList_some,List.map_cons,List.map_nil,List.sum_cons,List.sum_nil]
 omega
theorem zF5 (l:List UInt8):sm l<=30*l.length:=by
 induction l with
 | nil=>simp [sm]
 | cons a r ih=>simp only [sm,List.map_cons,List.sum_cons,List.length_cons] at ih ⊢;omega
theorem zGc (l:List UInt8) (i:Nat) (hi:i<l.length):nbs (l.take (i+1))=nbs (l.take i)++nb l[i]:=by
 unfold nbs
 rw [List.take_add_one,List.flatMap_append]
 simp [hi]
theorem bI (l:List UInt8):(nbs l).length=2*l.length:=by
 induction l with
 | nil=>rfl
 | cons a r ih=>simp [nbs,nb] at ih ⊢;omega
def o7 (l:List Nat):List Int:=l.map λ(n:Nat)=>(n:Int)
theorem zCe (a b:List Nat):o7 (a++b)=o7 a++o7 b:=by simp [o7]
theorem cU (a:List Nat):(o7 a).length=a.length:=by simp [o7]
theorem zGl {l:List Nat} {i:Nat} (h:i<l.length):idx (o7 l) (i:Int)=some ((l.getD i 0:Nat):Int):=by
 rw [xS (by rw [cU];exact h)];simp [o7,h]
theorem zNx (x:UInt8) (out:List Nat) (s:Nat) (ho:out.length<2 ^ 20) (hs:s<2 ^ 40):zE (qG x) FU (o7 out,(s:Int),0)=some (o7 (out++nb x),((s+(30 - x.toNat / 16 - x.toNat % 16):Nat):Int)):=by
 have hx:=x.toNat_lt
 refine zK 2 (λi=>(o7 (out++(nb x).take i),((s+(if i=0 then 0 else if i=1 then 15 - x.toNat / 16 else 30 - x.toNat / 16 - x.toNat % 16):Nat):Int),(i:Int))) (by simp) (λi hi=>?_) ?_ (yT (by decide))
 ·unfold qG
  refine ct (dlt (b:=2) hi) ?_
  rw [zL0,zK9]
  rcases i with _ | _ | i
  ·refine bd (a:=((x.toNat / 16:Nat):Int)) rfl ?_
   refine bd (zQ (by simp [o7];omega)) ?_
   refine ltk ?_
   have e:IntKind.i64.wrap (((s+0:Nat):Int)+IntKind.i64.wrap (15 - ((x.toNat / 16:Nat):Int)))=((s+(15 - x.toNat / 16):Nat):Int):=by
    rw [zT (n:=15 - _) (by omega) (by omega),zT (by omega) (by omega)];omega
   show some (Sum.inl (_,IntKind.i64.wrap (((s+0:Nat):Int)+IntKind.i64.wrap (15 - ((x.toNat / 16:Nat):Int))),IntKind.i64.wrap (((0:Nat):Int)+1)))=_
   rw [e,yB (by decide)]
   simp [o7,nb]
  ·refine bd (a:=((x.toNat % 16:Nat):Int)) rfl ?_
   refine bd (zQ (by simp [o7];omega)) ?_
   refine ltk ?_
   have e:IntKind.i64.wrap (((s+(15 - x.toNat / 16):Nat):Int)+IntKind.i64.wrap (15 - ((x.toNat % 16:Nat):Int)))=((s+(30 - x.toNat / 16 - x.toNat % 16):Nat):Int):=by
    rw [zT (n:=15 - _) (by omega) (by omega),zT (by omega) (by omega)];omega
   show some (Sum.inl (_,IntKind.i64.wrap (((s+(15 - x.toNat / 16):Nat):Int)+IntKind.i64.wrap (15 - ((x.toNat % 16:Nat):Int))),IntKind.i64.wrap (((1:Nat):Int)+1)))=_
   rw [e,yB (by decide)]
   simp [o7,nb]
  ·omega
 ·rfl
def mL (m:List UInt8):List Nat:=nbs ((hs 4 [m]).take 16)++[sm ((hs 4 [m]).take 16) / 256,sm ((hs 4 [m]).take 16) / 16 % 16,sm ((hs 4 [m]).take 16) % 16]
theorem qN (tag:Int) (fs:List (List UInt8)):((hs tag fs).take 16).length=16:=by simp [aF]
theorem zB6 (m:List UInt8):(mL m).length=35:=by have:=qN 4 [m];simp [mL,bI,-List.length_take,this]
theorem aY (tag:Int) (fs:List (List UInt8)):sub (hs tag fs) 0 16=some ((hs tag fs).take 16):=by
 have:=aF tag fs
 rw [show (0:Int)=((0:Nat):Int) from rfl,show (16:Int)=((16:Nat):Int) from rfl,tW (by omega) (by omega)];simp
theorem zOa (a:List UInt8):tot [a]=4+a.length:=by simp [tot]
theorem zJy (a b:List UInt8):tot [a,b]=8+a.length+b.length:=by simp [tot];omega
theorem zN1 (a b c:List UInt8):tot [a,b,c]=12+a.length+b.length+c.length:=by simp [tot];omega
theorem zIb (m:List UInt8) (hm:m.length<2 ^ 31):pK m=some (o7 (mL m)):=by
 unfold pK
 refine bd (mA 4 [m] (by rw [zOa];omega)) ?_
 refine bd (aY 4 [m]) ?_
 have hl:=qN 4 [m]
 unfold mL
 generalize (hs 4 [m]).take 16=h at hl ⊢
 have hsm:=zF5 h
 refine bd (a:=(o7 (nbs h),(sm h:Int))) ?_ ?_
 ·refine zK h.length (λi=>(o7 (nbs (h.take i)),(sm (h.take i):Int),(i:Int))) rfl (λi hi=>?_) ?_ (yT (by omega))
  ·have h1:=zF5 (h.take i)
   have h2:=bI (h.take i)
   have h3:(h.take i).length=i:=by simp;omega
   unfold pG
   refine ct (dlt hi) ?_
   refine bd (xS hi) ?_
   refine bd (zNx _ _ _ (by omega) (by omega)) ?_
   rw [zI5 h i hi,zGc h i hi,yB (show i<2 ^ 40 by omega)]
  ·unfold pG
   refine cf (dge (Nat.le_refl _)) ?_
   simp
 ·have h2:=bI h
  show ((zX 8 (o7 (nbs h)) [zU .i64 (sm h:Int) ((8:Nat):Int),yQ .i64 (zU .i64 (sm h:Int) ((4:Nat):Int)) 15,yQ .i64 (sm h:Int) 15]).bind λv=>some v)=_
  rw [zF8 .i64 _ 8 (by decide),zF8 .i64 _ 4 (by decide),zK7 _ (by omega),zK7 _ (by omega)]
  refine bd (zQ (by rw [cU];simp;omega)) ?_
  rw [zCe]
  rfl
theorem zHv (m:List UInt8) (hm:m.length<2 ^ 31):m9 m=some (o7 (mL m)):=by
 unfold m9
 refine bd (mP 4 [m] (by rw [zOa];omega)) ?_
 refine bd (aY 4 [m]) ?_
 have hl:=qN 4 [m]
 unfold mL
 generalize (hs 4 [m]).take 16=h at hl ⊢
 have hsm:=zF5 h
 refine bd (a:=(o7 (nbs h),(sm h:Int))) ?_ ?_
 ·refine zK 16 (λi=>(o7 (nbs (h.take i)),(sm (h.take i):Int),(i:Int))) rfl (λi hi=>?_) ?_ (yT (by omega))
  ·have h1:=zF5 (h.take i)
   have h2:=bI (h.take i)
   have h3:(h.take i).length=i:=by simp;omega
   have hi':i<h.length:=by omega
   have hx:=h[i].toNat_lt
   unfold n4
   refine ct (dlt (b:=16) hi) ?_
   refine bd (xS hi') ?_
   refine bd (xS hi') ?_
   rw [zL0,zK9]
   refine bd (a:=o7 (nbs (h.take (i+1)))) ?_ ?_
   ·rw [zQ (by rw [cU];simp;omega),zGc h i hi',zCe];rfl
   refine bd (xS hi') ?_
   refine ltk ?_
   refine bd (xS hi') ?_
   refine ltk ?_
   rw [zL0,zK9,zI5 h i hi',yB (show i<2 ^ 40 by omega)]
   rw [zT (n:=30 - _) (by omega) (by omega),zT (n:=30 - _ - _) (by omega) (by omega),zT (by omega) (by omega)]
   congr 4
   omega
  ·unfold n4
   refine cf rfl ?_
   rw [List.take_of_length_le (by omega)]
 ·have h2:=bI h
  show ((zX 8 (o7 (nbs h)) [IntKind.i64.wrap (Int.tdiv (sm h:Int) 256),Int.tmod (IntKind.i64.wrap (Int.tdiv (sm h:Int) 16)) 16,Int.tmod (sm h:Int) 16]).bind λv=>some v)=_
  have e1:IntKind.i64.wrap (Int.tdiv (sm h:Int) 256)=((sm h / 256:Nat):Int):=by rw [Int.tdiv_eq_ediv_of_nonneg (by omega),zT (by omega) (by omega)];omega
  have e2:IntKind.i64.wrap (Int.tdiv (sm h:Int) 16)=((sm h / 16:Nat):Int):=by rw [Int.tdiv_eq_ediv_of_nonneg (by omega),zT (by omega) (by omega)];omega
  have e3:Int.tmod ((sm h / 16:Nat):Int) 16=((sm h / 16 % 16:Nat):Int):=by rw [Int.tmod_eq_emod_of_nonneg (by omega)];omega
  have e4:Int.tmod (sm h:Int) 16=((sm h % 16:Nat):Int):=by rw [Int.tmod_eq_emod_of_nonneg (by omega)];omega
  rw [e1,e2,e3,e4]
  refine bd (zQ (by rw [cU];simp;omega)) ?_
  rw [zCe]
  rfl
def chn (leaf c p:Nat) (x:List UInt8):Nat->List UInt8
 | 0=>x
 | k+1=>(hs 1 [[u8 (leaf:Int),u8 (c:Int),u8 ((p+k:Nat):Int)],chn leaf c p x k]).take 16
theorem lB (leaf c p:Nat) (x:List UInt8) (hx:x.length=16):∀ k,(chn leaf c p x k).length=16
 | 0=>hx
 | _+1=>qN _ _
theorem zDl (leaf c p t:Nat) (x:List UInt8) (hx:x.length=16) (hp:p<=t) (ht:t<2 ^ 30):n6 (leaf:Int) (c:Int) (p:Int) (t:Int) x=some (chn leaf c p x (t - p)):=by
 unfold n6
 refine bd ?_ rfl
 refine zK (t - p) (λi=>(chn leaf c p x i,((p+i:Nat):Int))) rfl (λi hi=>?_) ?_ (yT (by omega))
 ·have hl:=lB leaf c p x hx i
  unfold lM
  refine ct (dlt (by omega)) ?_
  refine bd (mP _ _ (by rw [zJy];simp;omega)) ?_
  refine bd (aY _ _) ?_
  rw [yB (show p+i<2 ^ 40 by omega)]
  rfl
 ·unfold lM
  exact cf (dge (by omega)) rfl
theorem zJ3 (leaf c p:Nat) (x:List UInt8) (hx:x.length=16) (hp:p<=15):zE (yW (leaf:Int) (c:Int)) FU (x,(p:Int))=some (chn leaf c p x (15 - p)):=by
 refine zK (15 - p) (λi=>(chn leaf c p x i,((p+i:Nat):Int))) rfl (λi hi=>?_) ?_ (yT (by omega))
 ·have hl:=lB leaf c p x hx i
  unfold yW
  refine bd (a:=15) rfl ?_
  refine ct (dlt (b:=15) (by omega)) ?_
  refine bd (a:=chn leaf c p x (i+1)) ?_ ?_
  ·unfold kY
   refine bd (mA _ _ (by rw [zJy];simp;omega)) ?_
   exact bd (aY _ _) rfl
  ·rw [yB (show p+i<2 ^ 40 by omega)]
   rfl
 ·unfold yW
  refine bd (a:=15) rfl ?_
  exact cf (dge (b:=15) (by omega)) rfl
def nod (sig:List UInt8) (i:Nat):List UInt8:=(sig.drop (16*i)).take 16
def zEl (leaf:Nat) (d:List Nat) (sig:List UInt8):Nat->List UInt8
 | 0=>[]
 | i+1=>zEl leaf d sig i++chn leaf i (d.getD i 0) (nod sig i) (15 - d.getD i 0)
theorem zI2 (sig:List UInt8) (hs:sig.length=560) (i:Nat) (hi:i<35):(nod sig i).length=16:=by simp [nod];omega
theorem zCj (leaf:Nat) (d:List Nat) (sig:List UInt8) (hs:sig.length=560):∀ i,i<=35->(zEl leaf d sig i).length=16*i
 | 0,_=>rfl
 | i+1,h=>by
  have h1:=zCj leaf d sig hs i (by omega)
  have h2:=lB leaf i (d.getD i 0) (nod sig i) (zI2 sig hs i (by omega)) (15 - d.getD i 0)
  simp only [zEl,List.length_append,h1,h2];omega
theorem zMl (leaf:Nat) (d:List Nat) (sig:List UInt8) (hs:sig.length=560) (hd:d.length=35) (h15:∀ i,i<35->d.getD i 0<=15):xK (leaf:Int) sig (o7 d)=some (zEl leaf d sig 35):=by
 unfold xK
 refine bd ?_ rfl
 refine zK 35 (λi=>(zEl leaf d sig i,(i:Int))) rfl (λi hi=>?_) ?_ (yT (by omega))
 ·have hl:=zCj leaf d sig hs i (by omega)
  have hn:=zI2 sig hs i hi
  have hc:=lB leaf i (d.getD i 0) (nod sig i) hn (15 - d.getD i 0)
  unfold wU
  refine ct (dlt (b:=35) hi) ?_
  refine bd (a:=nod sig i) ?_ ?_
  ·unfold rO
   refine bd ?_ rfl
   rw [zT (n:=(i:Int)+1) (by omega) (by omega),zT (by omega) (by omega),zT (by omega) (by omega),show (i:Int)*16=((16*i:Nat):Int) by omega,show ((i:Int)+1)*16=((16*i+16:Nat):Int) by omega,tW (by omega) (by omega)]
   simp [nod]
  refine bd (a:=((d.getD i 0:Nat):Int)) ?_ ?_
  ·unfold rK
   exact bd (zGl (by omega)) rfl
  refine bd (zJ3 leaf i _ _ hn (h15 i hi)) ?_
  refine bd (zQ (by omega)) ?_
  rw [yB (show i<2 ^ 40 by omega)]
  rfl
 ·generalize zEl leaf d sig 35=S
  rfl
theorem zRx (l:List UInt8):∀ n∈nbs l,n<=15:=by
 intro n hn
 simp only [nbs,List.mem_flatMap,nb] at hn
 obtain ⟨x,_,hx⟩:=hn
 have:=x.toNat_lt
 simp at hx
 omega
theorem zEa (m:List UInt8):∀ i,i<35->(mL m).getD i 0<=15:=by
 intro i hi
 have hl:=zB6 m
 have:(mL m).getD i 0∈mL m:=by
  rw [List.getD_eq_getElem?_getD,List.getElem?_eq_getElem (by omega)]
  exact List.getElem_mem _
 generalize (mL m).getD i 0=v at this ⊢
 unfold mL at this
 have hs':=zF5 ((hs 4 [m]).take 16)
 have hl2:=qN 4 [m]
 rw [List.mem_append] at this
 rcases this with h | h
 ·exact zRx _ _ h
 ·simp only [List.mem_cons,List.not_mem_nil,or_false] at h
  omega
def zDz (leaf:Nat) (m sig:List UInt8):List UInt8:=(hs 2 [[u8 (leaf:Int)],zEl leaf (mL m) sig 35]).take 16
theorem zFz (leaf:Nat) (m sig:List UInt8) (hl:leaf<256) (hm:m.length<2 ^ 31) (hs:sig.length=560):rF (leaf:Int) m sig=some (zDz leaf m sig,true):=by
 have he:=zCj leaf (mL m) sig hs 35 (by omega)
 unfold rF
 refine bd (a:=false) ?_ ?_
 ·refine bd (a:=true) ?_ ?_
  ·unfold lW
   refine bd (a:=true) (ct (by simp) (congrArg some (by simp;omega))) rfl
  ·refine cf rfl ?_
   simp [hs]
 refine cf rfl ?_
 refine bd (zIb m hm) ?_
 refine bd (zMl leaf _ sig hs (zB6 m) (zEa m)) ?_
 refine bd (a:=zDz leaf m sig) ?_ rfl
 unfold lT
 refine bd (mA _ _ (by rw [zJy,he];simp)) ?_
 exact bd (aY _ _) rfl
end Go.Proofs.TT
namespace Go.Proofs.TT
open Go Go.Sw
set_option maxRecDepth 100000
def par (h i:Nat) (l r:List UInt8):List UInt8:=(hs 3 [[u8 (h:Int),u8 (i:Int)],l,r]).take 16
theorem zFg (h i:Nat) (l r:List UInt8) (hl:l.length=16) (hr:r.length=16):m5 (h:Int) (i:Int) l r=some (par h i l r):=by
 unfold m5
 refine bd (mA _ _ (by rw [zN1,hl,hr];simp)) ?_
 exact bd (aY _ _) rfl
theorem zOk (h i:Nat) (l r:List UInt8) (hl:l.length=16) (hr:r.length=16):gZ (h:Int) (i:Int) l r=some (par h i l r):=by
 unfold gZ
 refine bd (mP _ _ (by rw [zN1,hl,hr];simp)) ?_
 exact bd (aY _ _) rfl
def nd (path:List (List UInt8)) (i:Nat) (leaf:List UInt8):Nat->List UInt8
 | 0=>leaf
 | k+1=>if i / 2 ^ k % 2=1 then par k (i / 2 ^ (k+1)) (path.getD k []) (nd path i leaf k) else par k (i / 2 ^ (k+1)) (nd path i leaf k) (path.getD k [])
theorem zSt (path:List (List UInt8)) (i:Nat) (leaf:List UInt8) (hl:leaf.length=16):∀ k,(nd path i leaf k).length=16
 | 0=>hl
 | k+1=>by
  unfold nd
  split<;>exact qN _ _
theorem zAr {l:List (List UInt8)} {i:Nat} (h:i<l.length):idx l (i:Int)=some (l.getD i []):=by rw [xS h];simp [h]
theorem half (i k:Nat):i / 2 ^ k / 2=i / 2 ^ (k+1):=by rw [Nat.div_div_eq_div_mul,Nat.pow_succ]
theorem zC4 (leaf:List UInt8) (i:Nat) (path:List (List UInt8)) (hl:leaf.length=16) (hp:path.length<=3) (h16:∀ k,k<path.length->(path.getD k []).length=16) (hi:i<2 ^ path.length) (h8:i<256):jF leaf (i:Int) path=some (nd path i leaf path.length):=by
 unfold jF
 refine bd (a:=false) ?_ ?_
 ·refine cf (by simp;omega) ?_
  refine cf (zK4 i) ?_
  congr 1
  have h4:path.length=0∨path.length=1∨path.length=2∨path.length=3:=by omega
  rcases h4 with h | h | h | h<;>rw [h] at hi ⊢ <;> (rw [decide_eq_false_iff_not];show ¬ (_:Int)<=(i:Int))
  ·show ¬ (1:Int)<=i;omega
  ·show ¬ (2:Int)<=i;omega
  ·show ¬ (4:Int)<=i;omega
  ·show ¬ (8:Int)<=i;omega
 refine cf rfl ?_
 refine bd (a:=leaf) (by rw [zQ (by simp;omega)];simp) ?_
 refine bd ?_ rfl
 refine zK path.length (λk=>(((i / 2 ^ k:Nat):Int),nd path i leaf k,(k:Int))) (by simp [nd]) (λk hk=>?_) ?_ (yT (by omega))
 ·have hn:=zSt path i leaf hl k
  have hq:=h16 k hk
  have hd:i / 2 ^ k<=i:=Nat.div_le_self _ _
  unfold lX
  refine ct (dlt hk) ?_
  refine bd (zAr hk) ?_
  rw [zPd _ (by omega),show (1:Int)=((1:Nat):Int) from rfl,zF8 .i64 _ 1 (by decide),Nat.pow_one,half]
  by_cases hb:i / 2 ^ k % 2=1
  ·refine bd (ct (by rw [hb];rfl) rfl) ?_
   refine bd (zFg k _ _ _ hq hn) ?_
   rw [show ((1:Nat):Int)=1 from rfl,yB (show k<2 ^ 40 by omega)]
   simp only [nd,if_pos hb]
  ·refine bd (cf (by
            have:i / 2 ^ k % 2=0:=by omega
            rw [this];rfl) rfl) ?_
   refine bd (zFg k _ _ _ hn hq) ?_
   rw [show ((1:Nat):Int)=1 from rfl,yB (show k<2 ^ 40 by omega)]
   simp only [nd,if_neg hb]
 ·unfold lX
  exact cf (dge (Nat.le_refl _)) rfl
def dZ (sig:List UInt8) (h:Nat):List (List UInt8):=(List.range h).map λ(j:Nat)=>(sig.drop (561+16*j)).take 16
theorem gO (sig:List UInt8) (h:Nat):(dZ sig h).length=h:=by simp [dZ]
theorem zJx (sig:List UInt8) (h:Nat):dZ sig (h+1)=dZ sig h++[(sig.drop (561+16*h)).take 16]:=by simp [dZ,List.range_succ]
theorem zOl (sig:List UInt8) (h:Nat) (hs:sig.length=561+16*h):∀ k,k<(dZ sig h).length->((dZ sig h).getD k []).length=16:=by
 intro k hk
 rw [gO] at hk
 simp [dZ,hk]
 omega
def vrf (pub m sig:List UInt8):Int×Bool:=
 if pub.length≠17∨3<(pub.getD 0 0).toNat then (0,false)
 else if sig.length≠561+16*(pub.getD 0 0).toNat∨2 ^ (pub.getD 0 0).toNat<=(sig.getD 0 0).toNat then (0,false)
 else if nd (dZ sig (pub.getD 0 0).toNat) (sig.getD 0 0).toNat (zDz (sig.getD 0 0).toNat m ((sig.drop 1).take 560)) (pub.getD 0 0).toNat=pub.drop 1 then (((sig.getD 0 0).toNat:Int),true) else (0,false)
theorem wb (x:UInt8):IntKind.i64.wrap (x.toNat:Int)=(x.toNat:Int):=by
 have:=x.toNat_lt
 rw [zT (by omega) (by omega)]
theorem shl2 (h:Nat) (hh:h<=3):tU .i64 1 (IntKind.u64.wrap (h:Int))=((2 ^ h:Nat):Int):=by
 have h4:h=0∨h=1∨h=2∨h=3:=by omega
 rcases h4 with h | h | h | h<;>subst h<;>rfl
theorem zM4 (sig:List UInt8) (h:Nat) (hs:sig.length=561+16*h) (hh:h<=3):zE sA FU ([],sig.drop 561)=some (dZ sig h):=by
 refine zK h (λi=>(dZ sig i,sig.drop (561+16*i))) (by simp [dZ]) (λi hi=>?_) ?_ (yT (by omega))
 ·have hd:(sig.drop (561+16*i)).length=16*(h - i):=by simp;omega
  unfold sA
  refine ct (by simp;omega) ?_
  refine bd (a:=(sig.drop (561+16*i)).take 16) (by rw [show (0:Int)=((0:Nat):Int) from rfl,show (16:Int)=((16:Nat):Int) from rfl,tW (by omega) (by omega)];simp) ?_
  refine bd (zQ (by rw [gO];simp;omega)) ?_
  refine bd (a:=sig.drop (561+16*(i+1))) (by rw [show (16:Int)=((16:Nat):Int) from rfl,tW (by omega) (by omega),List.drop_drop,List.take_of_length_le (by simp;omega)];congr 2) ?_
  rw [zJx]
 ·unfold sA
  refine cf (by simp;omega) rfl
theorem zGn {l:List UInt8} {a:Nat} (h:a<=l.length):sub l (a:Int) (l.length:Int)=some (l.drop a):=by
 rw [tW h (Nat.le_refl _),List.take_of_length_le (by simp)]
theorem zHg (pub m sig:List UInt8) (hm:m.length<2 ^ 31) (hp:pub.length<2 ^ 40) (hg:sig.length<2 ^ 40):oL pub m sig=some (vrf pub m sig):=by
 unfold oL
 by_cases hl:pub.length=17
 case neg=>
  refine bd (a:=true) (ct (by simp;omega) rfl) ?_
  refine ct rfl ?_
  rw [vrf,if_pos (.inl hl)]
 have h0:idx pub 0=some (pub.getD 0 0):=ig (i:=0) (by omega)
 by_cases h3:3<(pub.getD 0 0).toNat
 ·refine bd (a:=true) (cf (by simp;omega) ?_) ?_
  ·refine bd h0 ?_
   refine bd (a:=false) ?_ rfl
   unfold nM
   refine bd (a:=false) ?_ rfl
   rw [wb]
   refine ct (by simp) ?_
   refine congrArg some ?_
   rw [decide_eq_false_iff_not];omega
  ·refine ct rfl ?_
   rw [vrf,if_pos (.inr h3)]
 refine bd (a:=false) (cf (by simp;omega) ?_) ?_
 ·refine bd h0 ?_
  refine bd (a:=true) ?_ rfl
  unfold nM
  refine bd (a:=true) ?_ rfl
  rw [wb]
  refine ct (by simp) ?_
  refine congrArg some ?_
  rw [decide_eq_true_iff];omega
 refine cf rfl ?_
 refine bd h0 ?_
 rw [wb]
 have hx:∃ h,(pub.getD 0 0).toNat=h:=⟨_,rfl⟩
 obtain ⟨h,hx⟩:=hx
 rw [hx] at h3 ⊢
 rw [vrf,hx,if_neg (by omega)]
 have e1:IntKind.i64.wrap (561+IntKind.i64.wrap (16*(h:Int)))=((561+16*h:Nat):Int):=by rw [zT (n:=16*(h:Int)) (by omega) (by omega),zT (by omega) (by omega)];omega
 by_cases hs:sig.length=561+16*h
 case neg=>
  refine bd (a:=true) (ltk ?_) ?_
  ·rw [e1]
   exact ct (by simp;omega) rfl
  ·refine ct rfl ?_
   rw [if_pos (.inl hs)]
 have hs0:idx sig 0=some (sig.getD 0 0):=ig (i:=0) (by omega)
 have hy:∃ i,(sig.getD 0 0).toNat=i:=⟨_,rfl⟩
 obtain ⟨i,hy⟩:=hy
 have hi8:i<256:=by have:=(sig.getD 0 0).toNat_lt;omega
 by_cases hb:2 ^ h<=i
 ·refine bd (a:=true) (ltk ?_) ?_
  ·rw [e1]
   refine cf (by simp;omega) ?_
   refine bd hs0 ?_
   refine ltk ?_
   rw [wb,shl2 h (by omega),hy]
   simp;exact_mod_cast hb
  ·refine ct rfl ?_
   rw [hy,if_pos (.inr hb)]
 refine bd (a:=false) (ltk ?_) ?_
 ·rw [e1]
  refine cf (by simp;omega) ?_
  refine bd hs0 ?_
  refine ltk ?_
  rw [wb,shl2 h (by omega),hy]
  simp;exact_mod_cast (by omega:i<2 ^ h)
 refine cf rfl ?_
 refine bd hs0 ?_
 rw [wb,hy,if_neg (by omega)]
 refine bd (a:=(sig.drop 1).take 560) (tW (a:=1) (b:=561) (by omega) (by omega)) ?_
 refine bd (zFz i m _ hi8 hm (by simp;omega)) ?_
 refine cf rfl ?_
 refine bd (zGn (a:=561) (by omega)) ?_
 refine bd (zM4 sig h hs (by omega)) ?_
 refine bd (zC4 _ i _ (qN _ _) (by rw [gO];omega) (zOl sig h hs) (by rw [gO];omega) hi8) ?_
 refine bd (zGn (a:=1) (by omega)) ?_
 rw [gO]
 generalize nd (dZ sig h) i (zDz i m ((sig.drop 1).take 560)) h=N
 by_cases hN:N=pub.drop 1
 ·rw [if_pos hN]
  exact cf (by rw [hN];simp) rfl
 ·rw [if_neg hN]
  exact ct (by simp [-List.drop_one,hN]) rfl
end Go.Proofs.TT
namespace Go.Proofs.TT
open Go Go.Sw
set_option maxRecDepth 100000
theorem tb {α β:Type} {o:Option α} {f:α->Option β} (h:∃ a,o=some a) (k:∀ a,∃ r,f a=some r):∃ r,o.bind f=some r:=by
 obtain ⟨a,rfl⟩:=h
 exact k a
theorem tc {α:Type} {c:Bool} {a b:Option α} (h:∃ r,a=some r) (k:∃ r,b=some r):∃ r,(bif c then a else b)=some r:=by cases c<;>assumption
theorem zHh (p:api_Public):∃ e,tM p=some e:=by
 unfold tM nA
 repeat' first | exact ⟨_,rfl⟩ | refine tb ?_ (λ_=>?_) | refine tc ?_ ?_
def chk (p:api_Public):Int:=(tM p).getD 0
theorem eH (p:api_Public):tM p=some (chk p):=by
 obtain ⟨e,h⟩:=zHh p
 rw [chk,h];rfl
def enc (p:api_Public):List UInt8:=kD (kD [u8 p.Kind,u8 p.Attr,u8 p.Height] p.Policy) p.Unique
theorem zJk (p:api_Public):(enc p).length<=131077:=by
 have h1:=pX [u8 p.Kind,u8 p.Attr,u8 p.Height] p.Policy
 have h2:=pX (kD [u8 p.Kind,u8 p.Attr,u8 p.Height] p.Policy) p.Unique
 simp only [List.length_cons,List.length_nil] at h1
 unfold enc;omega
def nm (p:api_Public):List UInt8:=hs 6 [enc p]
theorem zE3 (p:api_Public):fG p=some (nm p):=by
 have hl:=zJk p
 have h1:=pX [u8 p.Kind,u8 p.Attr,u8 p.Height] p.Policy
 simp only [List.length_cons,List.length_nil] at h1
 unfold fG iU
 refine bd (bd (cH _ _ (by simp)) (bd (cH _ _ (by omega)) rfl)) ?_
 exact bd (mA _ _ (by rw [zOa];show 4+(enc p).length<_;omega)) rfl
theorem zAa (p:api_Public):jA p=some (nm p):=by
 have hl:=zJk p
 have h1:=pX [u8 p.Kind,u8 p.Attr,u8 p.Height] p.Policy
 simp only [List.length_cons,List.length_nil] at h1
 unfold jA jQ
 refine bd (bd (sX _ _ (by simp)) (bd (sX _ _ (by omega)) rfl)) ?_
 exact bd (mP _ _ (by rw [zOa];show 4+(enc p).length<_;omega)) rfl
def nnc (nonce:List UInt8) (machine:Int) (log:List UInt8):List UInt8:=hs 23 [nonce,wC [] 2 machine,log]
theorem zL9 (nonce:List UInt8) (machine:Int) (log:List UInt8) (h1:nonce.length<2 ^ 30) (h2:log.length<2 ^ 30):qV nonce machine log=some (nnc nonce machine log):=by
 unfold qV
 refine bd (sG [] 2 machine (by omega) (by omega) (by simp)) ?_
 exact bd (mA _ _ (by rw [zN1,zS];simp;omega)) rfl
theorem zDk (nonce:List UInt8) (machine:Int) (log:List UInt8) (h1:nonce.length<2 ^ 30) (h2:log.length<2 ^ 30):mY nonce machine log=some (nnc nonce machine log):=by
 unfold mY
 refine bd (uG [] 2 machine (by omega) (by omega) (by simp)) ?_
 exact bd (mP _ _ (by rw [zN1,zS];simp;omega)) rfl
def d0 (b:List UInt8):RS:=⟨b,0,0⟩
def d1 (b:List UInt8):=m8 (d0 b) 4
def d2 (b:List UInt8):=v8 (d1 b).2 32
def d3 (b:List UInt8):=v8 (d2 b).2 128
def d4 (b:List UInt8):=zZ (d3 b).2 8
def d5 (b:List UInt8):=zZ (d4 b).2 8
def d6 (b:List UInt8):=zZ (d5 b).2 8
def d7 (b:List UInt8):=zZ (d6 b).2 1
def d8 (b:List UInt8):=zZ (d7 b).2 8
def d9 (b:List UInt8):=zZ (d8 b).2 2
def d10 (b:List UInt8):=zZ (d9 b).2 2
def d11 (b:List UInt8):=m8 (d10 b).2 32
def oW:api_Attest:=⟨[],[],0,0,0,false,0,⟨0,0⟩,[]⟩
def att (b:List UInt8):api_Attest×Int:=
 if (d1 b).2.e≠0 then (oW,(d1 b).2.e)
 else if (d1 b).1≠[83,87,81,49] then (oW,5)
 else if dW (d11 b).2≠0 then (oW,dW (d11 b).2)
 else if (d2 b).1.length≠32∨1<(d7 b).1 then (oW,1)
 else (⟨(d2 b).1,(d3 b).1,(d4 b).1,(d5 b).1,(d6 b).1,(d7 b).1==1,(d8 b).1,⟨(d9 b).1,(d10 b).1⟩,(d11 b).1⟩,0)
theorem zPk (b:List UInt8) (h:b.length<2 ^ 40):(d0 b).Ok:=⟨Nat.zero_le _,h⟩
theorem zPs (b:List UInt8) (h:b.length<2 ^ 40):(d1 b).2.Ok:=zGi _ _ (zPk b h)
theorem zPh (b:List UInt8) (h:b.length<2 ^ 40):(d2 b).2.Ok:=zDx _ _ (zPs b h)
theorem zPa (b:List UInt8) (h:b.length<2 ^ 40):(d3 b).2.Ok:=zDx _ _ (zPh b h)
theorem zPi (b:List UInt8) (h:b.length<2 ^ 40):(d4 b).2.Ok:=rT _ _ (zPa b h)
theorem zPo (b:List UInt8) (h:b.length<2 ^ 40):(d5 b).2.Ok:=rT _ _ (zPi b h)
theorem zPg (b:List UInt8) (h:b.length<2 ^ 40):(d6 b).2.Ok:=rT _ _ (zPo b h)
theorem zPc (b:List UInt8) (h:b.length<2 ^ 40):(d7 b).2.Ok:=rT _ _ (zPg b h)
theorem zPp (b:List UInt8) (h:b.length<2 ^ 40):(d8 b).2.Ok:=rT _ _ (zPc b h)
theorem zTt (b:List UInt8) (h:b.length<2 ^ 40):(d9 b).2.Ok:=rT _ _ (zPp b h)
theorem zKy (b:List UInt8) (h:b.length<2 ^ 40):(d10 b).2.Ok:=rT _ _ (zTt b h)
theorem zRz (b:List UInt8) (h:b.length<2 ^ 40):(d11 b).2.Ok:=zGi _ _ (zKy b h)
theorem zSl (r:RS) (hr:r.Ok):zE tY FU (0,0,0,r.W.b_,r.W.at_,r.W.e_)=some ((zZ r 2).1,(zZ (zZ r 2).2 2).1,(zZ (zZ r 2).2 2).2.W.b_,(zZ (zZ r 2).2 2).2.W.at_,(zZ (zZ r 2).2 2).2.W.e_):=by
 have h1:=rT r 2 hr
 refine zK 2 (λi=>match i with
  | 0=>((0:Int),0,0,r.W.b_,r.W.at_,r.W.e_)
  | 1=>(1,(zZ r 2).1,0,(zZ r 2).2.W.b_,(zZ r 2).2.W.at_,(zZ r 2).2.W.e_)
  | _=>(2,(zZ r 2).1,(zZ (zZ r 2).2 2).1,(zZ (zZ r 2).2 2).2.W.b_,(zZ (zZ r 2).2 2).2.W.at_,(zZ (zZ r 2).2 2).2.W.e_)) rfl (λi hi=>?_) ?_ (yT (by decide))
 case refine_2=>rfl
 rcases i with _ | _ | i
 ·unfold tY
  refine ct rfl ?_
  refine bd (bd (xJ r 2 hr (by omega) (by omega)) rfl) ?_
  rfl
 ·unfold tY
  refine ct rfl ?_
  refine bd (bd (xJ (zZ r 2).2 2 h1 (by omega) (by omega)) rfl) ?_
  rfl
 ·omega
theorem zRa (b:List UInt8) (h:b.length<2 ^ 40):oJ b=some (att b):=by
 unfold oJ
 refine bd (a:=(d0 b).W) ?_ ?_
 ·unfold mE
  refine bd (a:=b) (by rw [zQ (by simp;omega)];simp) rfl
 refine bd (hC (d0 b) 4 (zPk b h)) ?_
 refine bd (a:=((d1 b).2.e,(d1 b).2.W)) rfl ?_
 unfold att
 by_cases he:(d1 b).2.e=0
 case neg=>
  rw [if_pos he]
  refine ct (b1 he) ?_
  rfl
 rw [if_neg (by simpa using he)]
 refine cf (b0 he) ?_
 by_cases hm:(d1 b).1=[83,87,81,49]
 case neg=>
  rw [if_pos hm]
  refine ct ?_ rfl
  show (!((d1 b).1==[83,87,81,49]))=true
  simp [hm]
 rw [if_neg (by simpa using hm)]
 refine cf ?_ ?_
 ·show (!((d1 b).1==[83,87,81,49]))=false
  simp [hm]
 refine bd (u6 (d1 b).2 32 (zPs b h)) ?_
 refine bd (u6 (d2 b).2 128 (zPh b h)) ?_
 refine bd (xJ (d3 b).2 8 (zPa b h) (by omega) (by omega)) ?_
 refine bd (xJ (d4 b).2 8 (zPi b h) (by omega) (by omega)) ?_
 refine bd (xJ (d5 b).2 8 (zPo b h) (by omega) (by omega)) ?_
 refine bd (xJ (d6 b).2 1 (zPg b h) (by omega) (by omega)) ?_
 refine bd (xJ (d7 b).2 8 (zPc b h) (by omega) (by omega)) ?_
 refine bd (zSl (d8 b).2 (zPp b h)) ?_
 refine bd (hC (d10 b).2 32 (zKy b h)) ?_
 refine bd (zAf (d11 b).2 (zRz b h)) ?_
 by_cases hn:dW (d11 b).2=0
 case neg=>
  rw [if_pos hn]
  exact ct (b1 hn) rfl
 rw [if_neg (by simpa using hn)]
 refine cf (b0 hn) ?_
 show ((bif ((d2 b).1.length:Int) != 32 then some true else some (decide (1<(d7 b).1))).bind λv=>bif v then some (oW,1) else some (api_Attest.mk (d2 b).1 (d3 b).1 (d4 b).1 (d5 b).1 (d6 b).1 ((d7 b).1==1) (d8 b).1 ⟨(d9 b).1,(d10 b).1⟩ (d11 b).1,0))=_
 by_cases hl:(d2 b).1.length=32
 ·by_cases h7:1<(d7 b).1
  ·rw [if_pos (.inr h7)]
   refine bd (a:=true) (cf (by simp;omega) (by simp;exact h7)) rfl
  ·rw [if_neg (by omega)]
   refine bd (a:=false) (cf (by simp;omega) (by simp;omega)) rfl
 ·rw [if_pos (.inl hl)]
  refine bd (a:=true) (ct (by simp;omega) rfl) rfl
end Go.Proofs.TT
namespace Go.Proofs.TT
open Go Go.Sw
set_option maxRecDepth 100000
def vq (k:api_Public) (b sig:List UInt8):api_Attest×Int×Int:=
 if chk k≠0 then (oW,0,chk k)
 else if k.Kind≠2 then (oW,0,19)
 else if yQ .i64 k.Attr 4=0 then (oW,0,20)
 else if (vrf k.Unique b sig).2=false then (oW,0,17)
 else if (att b).2≠0 then (oW,0,(att b).2)
 else if (att b).1.Key≠nm k then (oW,0,16)
 else ((att b).1,(vrf k.Unique b sig).1,0)
theorem zHk (k:api_Public) (b sig:List UInt8) (hb:b.length<2 ^ 31) (hs:sig.length<2 ^ 40) (hk:k.Unique.length<2 ^ 40):oM k b sig=some (vq k b sig):=by
 unfold oM vq
 refine bd (eH k) ?_
 by_cases h1:chk k=0
 case neg=>rw [if_pos h1];exact ct (b1 h1) rfl
 rw [if_neg (by simpa using h1)]
 refine cf (b0 h1) ?_
 by_cases h2:k.Kind=2
 case neg=>rw [if_pos h2];exact ct (by simp [h2]) rfl
 rw [if_neg (by simpa using h2)]
 refine cf (by simp [h2]) ?_
 by_cases h3:yQ .i64 k.Attr 4=0
 ·rw [if_pos h3];exact ct (by simp [h3]) rfl
 rw [if_neg h3]
 refine cf (by simp [h3]) ?_
 refine bd (zHg k.Unique b sig hb hk hs) ?_
 generalize vrf k.Unique b sig=V
 obtain ⟨v1,v2⟩:=V
 cases v2
 ·rfl
 refine cf rfl ?_
 rw [if_neg (by simp)]
 refine bd (zRa b (by omega)) ?_
 generalize att b=A
 obtain ⟨a1,a2⟩:=A
 by_cases h5:a2=0
 case neg=>rw [if_pos h5];exact ct (b1 h5) rfl
 rw [if_neg (by simpa using h5)]
 refine cf (b0 h5) ?_
 refine bd (zE3 k) ?_
 by_cases h6:a1.Key=nm k
 case neg=>rw [if_pos h6];exact ct (by simp [h6]) rfl
 rw [if_neg (by simpa using h6)]
 exact cf (by simp [h6]) rfl
def qf (b sig:List UInt8):List api_Public->Int->Option api_Attest×Int
 | [],e=>(none,e)
 | k :: r,_=>if (vq k b sig).2.2=0 then (some (vq k b sig).1,0) else qf b sig r (vq k b sig).2.2
def qt (x:api_Evidence) (keys:List api_Public) (nonce:List UInt8):api_Attest×Int:=
 match qf x.Attest x.Signature keys 17 with
 | (some a,_)=>if a.Nonce=nnc nonce x.Machine x.Log then (a,0) else (oW,45)
 | (none,e)=>(oW,e)
theorem zDh {α:Type} {l:List α} {k:Nat} (h:k<l.length):l.drop k=l[k] :: l.drop (k+1):=List.drop_eq_getElem_cons h
structure EvOk (x:api_Evidence) (keys:List api_Public) (nonce:List UInt8):Prop where
 b:x.Attest.length<2 ^ 30
 s:x.Signature.length<2 ^ 30
 l:x.Log.length<2 ^ 30
 n:nonce.length<2 ^ 30
 kl:keys.length<2 ^ 30
 k:∀ p∈keys,p.Unique.length<2 ^ 40
theorem gY (x:api_Evidence) (keys:List api_Public) (nonce:List UInt8) (h:EvOk x keys nonce):qE x keys nonce=some (qt x keys nonce):=by
 unfold qE
 have:=h.kl
 obtain ⟨r,hr,hq⟩:=zDs (step:=vS x keys)
  (λs=>∃ k:Nat,s.2.1=(k:Int)/\k<=keys.length/\s.1≠0/\qf x.Attest x.Signature (keys.drop k) s.1=qf x.Attest x.Signature keys 17)
  (λs=>keys.length - s.2.1.toNat)
  (λr=>(qf x.Attest x.Signature keys 17=(none,r.1)/\r.1≠0)∨∃ a:api_Attest,qf x.Attest x.Signature keys 17=(some a,0)/\r=(0,a.Key,a.Nonce,a.Resets,a.Restarts,a.Clock,a.Safe,a.Updates,a.Selection.a0,a.Selection.a1,a.Digest))
  (λs hs=>by
   obtain ⟨e,i,f1,f2,f3,f4,f5,f6,f7,f8,f9,f10⟩:=s
   obtain ⟨k,rfl,hk,he,hq⟩:=hs
   simp only at he hq
   by_cases hk2:k<keys.length
   ·have hv:=zHk keys[k] x.Attest x.Signature (by have:=h.b;omega) (by have:=h.s;omega) (h.k _ (List.getElem_mem hk2))
    rw [zDh hk2,qf] at hq
    generalize vq keys[k] x.Attest x.Signature=V at hv hq
    obtain ⟨v1,v2,v3⟩:=V
    simp only at hq
    by_cases hz:v3=0
    ·rw [if_pos hz] at hq
     refine .inr ⟨(0,v1.Key,v1.Nonce,v1.Resets,v1.Restarts,v1.Clock,v1.Safe,v1.Updates,v1.Selection.a0,v1.Selection.a1,v1.Digest),?_,.inr ⟨_,hq.symm,rfl⟩⟩
     subst hz
     unfold vS
     refine ct (dlt hk2) ?_
     refine bd (xS hk2) ?_
     exact bd hv rfl
    ·rw [if_neg hz] at hq
     refine .inl ⟨(v3,((k+1:Nat):Int),v1.Key,v1.Nonce,v1.Resets,v1.Restarts,v1.Clock,v1.Safe,v1.Updates,v1.Selection.a0,v1.Selection.a1,v1.Digest),?_,⟨k+1,rfl,by omega,hz,hq⟩,?_⟩
     ·unfold vS
      refine ct (dlt hk2) ?_
      refine bd (xS hk2) ?_
      refine bd hv ?_
      refine cf (c1 hz) ?_
      rw [yB (by omega)]
     ·simp;omega
   ·refine .inr ⟨(e,f1,f2,f3,f4,f5,f6,f7,f8,f9,f10),?_,.inl ⟨?_,he⟩⟩
    ·unfold vS
     exact cf (dge (by omega)) rfl
    ·rw [List.drop_eq_nil_of_le (by omega)] at hq
     exact hq.symm) FU (17,0,[],[],0,0,0,false,0,0,0,[]) ⟨0,rfl,by omega,by decide,rfl⟩ (yT (by simp;omega))
 refine bd hr ?_
 unfold qt
 rcases hq with ⟨h1,h2⟩ | ⟨a,h1,h2⟩
 ·rw [h1]
  obtain ⟨e,f⟩:=r
  exact ct (b1 h2) rfl
 ·subst h2
  rw [h1]
  refine cf rfl ?_
  refine bd (zL9 _ _ _ h.n h.l) ?_
  refine bd (hU _ _) ?_
  by_cases hn:a.Nonce=nnc nonce x.Machine x.Log
  ·simp only [hn,if_pos]
   refine cf (by simp) ?_
   rw [<- hn]
  ·simp only [hn,if_false]
   exact ct (by simp [hn]) rfl
end Go.Proofs.TT
namespace Go.Sw
open Go
def Def {α:Type} (o:Option α) (P:α->Prop):Prop:=∃ a,o=some a/\P a
theorem Def.bd {α β:Type} {o:Option α} {P:α->Prop} {f:α->Option β} {Q:β->Prop} (h:Def o P) (k:∀ a,P a->Def (f a) Q):Def (o.bind f) Q:=by
 obtain ⟨a,rfl,h⟩:=h
 exact k a h
theorem Def.s {α:Type} {a:α} {Q:α->Prop} (h:Q a):Def (some a) Q:=⟨a,rfl,h⟩
theorem Def.of {α:Type} {o:Option α} {a:α} {Q:α->Prop} (e:o=some a) (h:Q a):Def o Q:=⟨a,e,h⟩
theorem Def.c {α:Type} {b:Bool} {x y:Option α} {Q:α->Prop} (h:b=true->Def x Q) (k:b=false->Def y Q):Def (bif b then x else y) Q:=by
 cases b
 ·exact k rfl
 ·exact h rfl
theorem Def.ck {b:Bool} (h:b=true):Def (Go.Sw.ck b) (λ_=>True):=⟨(),ckT h,trivial⟩
theorem Def.lt {α β:Type} {e:α} {f:α->Option β} {Q:β->Prop} (k:Def (f e) Q):Def (Go.Sw.lt e f) Q:=k
theorem Def.mono {α:Type} {o:Option α} {P Q:α->Prop} (h:Def o P) (k:∀ a,P a->Q a):Def o Q:=by
 obtain ⟨a,e,h⟩:=h
 exact ⟨a,e,k a h⟩
theorem Def.get {α:Type} {o:Option α} {P:α->Prop} (d:α) (h:Def o P):o=some (o.getD d)/\P (o.getD d):=by
 obtain ⟨a,rfl,h⟩:=h
 exact ⟨rfl,h⟩
theorem Def.loop {X Y:Type} {step:X->Option (X ⊕ Y)} {s:X} {Q:Y->Prop} (I:X->Prop) (m:X->Nat)
  (h:∀ s,I s->Def (step s) (λr=>match r with | .inl s'=>I s'/\m s'<m s | .inr r=>Q r)) (h0:I s) (hm:m s<2 ^ 64):Def (zE step FU s) Q:=by
 refine zDs I m Q (λs hs=>?_) FU s h0 (yT hm)
 obtain ⟨r,e,hr⟩:=h s hs
 cases r with
 | inl s'=>exact .inl ⟨s',e,hr.1,hr.2⟩
 | inr r=>exact .inr ⟨r,e,hr⟩
theorem Def.app {α:Type} {b:Nat} {l m:List α} (h:(l.length+m.length)*b<=140737488355328):Def (zX b l m) (λr=>r=l++m):=⟨_,zQ h,rfl⟩
theorem Def.idx {α:Type} {l:List α} {i:Int} (h0:0<=i) (h:i<l.length):Def (Go.Sw.idx l i) (λr=>r∈l):=by
 obtain ⟨n,rfl⟩:=Int.eq_ofNat_of_zero_le h0
 exact ⟨_,xS (by omega),List.getElem_mem _⟩
theorem Def.sub {α:Type} {l:List α} {a b:Int} (h0:0<=a) (h1:a<=b) (h2:b<=l.length):Def (Go.Sw.sub l a b) (λr=>r=(l.drop a.toNat).take (b.toNat - a.toNat)):=by
 obtain ⟨n,rfl⟩:=Int.eq_ofNat_of_zero_le h0
 obtain ⟨m,rfl⟩:=Int.eq_ofNat_of_zero_le (by omega:0<=b)
 exact ⟨_,tW (by omega) (by omega),rfl⟩
theorem Def.ixN {n:Nat} {i:Int} (h0:0<=i) (h:i<n):Def (Go.Sw.ixN n i) (λj=>j=i.toNat/\j<n):=by
 refine ⟨i.toNat,?_,rfl,by omega⟩
 simp [Go.Sw.ixN,h0,h]
theorem Def.upd {α:Type} {l:List α} {j:Nat} {u:α} (h:j<l.length):Def (tA l j u) (λr=>r=l.set j u):=⟨_,by simp [tA,h],rfl⟩
theorem Def.at {α:Type} {l:List α} {j:Nat} (h:j<l.length):Def (l[j]?) (λr=>r∈l):=⟨l[j],by simp [h],List.getElem_mem _⟩
theorem Def.mkN {n:Int} (h0:0<=n) (h:n<2 ^ 40):Def (mkN 1 n) (λj=>j=n.toNat):=⟨n.toNat,by unfold Go.Sw.mkN;rw [if_pos ⟨h0,by omega⟩],rfl⟩
theorem zOc {a b:Nat} (h:a=b):Nat.beq a b=true:=by subst h;exact Nat.beq_refl a
theorem eO {a b:Nat} (h:a<=b):Nat.ble a b=true:=Nat.ble_eq.mpr h
end Go.Sw
namespace Go.Proofs.TT
open Go Go.Sw
set_option maxRecDepth 100000
theorem zA7 (b:List UInt8) (h:b.length<2 ^ 40):Def (xW b) (λr=>r.length=32):=Def.of (gV b h) (sF b)
theorem zN5 (key b:List UInt8) (hk:key.length<2 ^ 30) (hb:b.length<2 ^ 30):Def (cZ key b) (λr=>r.length=32):=by
 unfold cZ
 refine Def.bd (P:=λk=>k.length<=64) ?_ (λk hk=>?_)
 ·refine Def.c (λ_=>?_) (λh=>Def.s (by simp at h;omega))
  refine Def.bd (zA7 key (by omega)) (λr hr=>Def.s (by omega))
 refine Def.bd (Def.mkN (by decide) (by decide)) (λn hn=>?_)
 subst hn
 refine Def.bd (Def.mkN (by decide) (by decide)) (λn hn=>?_)
 subst hn
 refine Def.bd (P:=λr=>r.1.length=64/\r.2.length=64) ?_ (λr hr=>?_)
 ·refine Def.loop (λs=>0<=s.1/\s.1<=64/\s.2.1.length=64/\s.2.2.length=64) (λs=>(64 - s.1).toNat) (λs hs=>?_) ⟨by decide,by decide,by simp,by simp⟩ (by decide)
  obtain ⟨i,u,v⟩:=s
  obtain ⟨h0,h1,h2,h3⟩:=hs
  simp only at h0 h1 h2 h3
  unfold zAe
  refine Def.c (λh=>?_) (λh=>Def.s ⟨h2,h3⟩)
  rw [decide_eq_true_iff] at h
  refine Def.bd (P:=λ_=>True) ?_ (λx _=>?_)
  ·refine Def.c (λh=>?_) (λ_=>Def.s trivial)
   rw [decide_eq_true_iff] at h
   exact Def.bd (Def.idx h0 h) (λ_ _=>Def.s trivial)
  refine Def.bd (Def.ixN h0 (by show i<((64:Nat):Int);omega)) (λj hj=>?_)
  refine Def.bd (Def.upd (by have:=hj.2;have e:(64:Int).toNat=64:=rfl;omega)) (λu' hu=>?_)
  refine Def.bd (Def.ixN h0 (by show i<((64:Nat):Int);omega)) (λj hj=>?_)
  refine Def.bd (Def.upd (by have:=hj.2;have e:(64:Int).toNat=64:=rfl;omega)) (λv' hv=>?_)
  refine Def.s ?_
  subst hu hv
  rw [zT (by omega) (by omega)]
  simp only [List.length_set]
  omega
 obtain ⟨u,v⟩:=r
 obtain ⟨h1,h2⟩:=hr
 simp only at h1 h2
 refine Def.bd (Def.ck (zOc h1)) (λ_ _=>?_)
 refine Def.bd (Def.ck (eO (by decide))) (λ_ _=>?_)
 refine Def.bd (Def.ck (zOc h2)) (λ_ _=>?_)
 refine Def.bd (Def.ck (eO (by decide))) (λ_ _=>?_)
 refine Def.bd (Def.app (by omega)) (λw hw=>?_)
 have hwl:w.length=u.length+b.length:=by rw [hw];simp
 refine Def.bd (zA7 w (by omega)) (λr hr=>?_)
 refine Def.bd (Def.app (by omega)) (λw hw=>?_)
 have hwl:w.length=v.length+r.length:=by rw [hw];simp
 exact Def.bd (zA7 w (by omega)) (λr hr=>Def.s hr)
theorem zB5 (key label ctx:List UInt8) (n:Int) (hk:key.length<2 ^ 30) (hl:label.length<2 ^ 20) (hc:ctx.length<2 ^ 20) (h1:1<=n) (h2:n<=1024):Def (oV key label ctx n) (λr=>r.length=n.toNat):=by
 unfold oV
 refine Def.bd (P:=λb=>b=false) (Def.c (λh=>?_) (λ_=>Def.s ?_)) (λb hb=>?_)
 ·simp at h;omega
 ·simp;omega
 subst hb
 refine Def.bd (P:=λr=>n<=r.length) ?_ (λr hr=>?_)
 ·refine Def.loop (λs=>s.1.length<=1024+32/\0<=s.2/\s.2<=2 ^ 40 - (n - s.1.length).toNat) (λs=>(n - s.1.length).toNat) (λs hs=>?_) ⟨by simp,by decide,by simp;omega⟩ (by simp;omega)
  obtain ⟨out,i⟩:=s
  obtain ⟨g1,g2,g3⟩:=hs
  simp only at g1 g2 g3
  unfold i7
  refine Def.c (λh=>?_) (λh=>Def.s (by simp at h;exact h))
  rw [decide_eq_true_iff] at h
  refine Def.bd (P:=λr=>r.length=4) (Def.s rfl) (λa ha=>?_)
  refine Def.bd (Def.app (by omega)) (λb hb=>?_)
  have hbl:b.length=a.length+label.length:=by rw [hb];simp
  refine Def.bd (Def.app (by simp;omega)) (λc hcc=>?_)
  have hcl:c.length=b.length+1:=by rw [hcc];simp
  refine Def.bd (Def.app (by omega)) (λd hd=>?_)
  have hdl:d.length=c.length+ctx.length:=by rw [hd];simp
  refine Def.bd (P:=λr=>r.length=4) (Def.s rfl) (λe he=>?_)
  refine Def.bd (Def.app (by omega)) (λf hf=>?_)
  have hfl:f.length=d.length+e.length:=by rw [hf];simp
  refine Def.bd (zN5 key f hk (by omega)) (λg hg=>?_)
  refine Def.bd (Def.app (by omega)) (λo ho=>?_)
  have hol:o.length=out.length+g.length:=by rw [ho];simp
  refine Def.s ?_
  rw [zT (by omega) (by omega)]
  simp only
  omega
 refine Def.bd (Def.sub (by decide) (by omega) hr) (λx hx=>Def.s ?_)
 rw [hx];simp;omega
end Go.Proofs.TT
namespace Go.Proofs.TT
open Go Go.Sw
set_option maxRecDepth 100000
def ls (seed:List UInt8):List UInt8:=(vZ seed 1).getD []
theorem zIt (seed:List UInt8) (h:seed.length<2 ^ 30):vZ seed 1=some (ls seed)/\(ls seed).length=32:=by
 have:Def (vZ seed 1) (λr=>r.length=32):=by
  unfold vZ
  exact Def.bd (zB5 seed _ _ 32 h (by simp) (by simp) (by decide) (by decide)) (λr hr=>Def.s hr)
 exact Def.get [] this
def stt (s:List UInt8) (leaf c:Nat):List UInt8:=(rL s (leaf:Int) (c:Int)).getD []
theorem zD8 (s:List UInt8) (leaf c:Nat) (h:s.length<2 ^ 30):rL s (leaf:Int) (c:Int)=some (stt s leaf c)/\(stt s leaf c).length=16:=by
 have:Def (rL s (leaf:Int) (c:Int)) (λr=>r.length=16):=by
  unfold rL
  exact Def.bd (zB5 s _ _ 16 h (by simp) (by simp) (by decide) (by decide)) (λr hr=>Def.s hr)
 exact Def.get [] this
def sQ (s:List UInt8) (leaf:Nat) (d:Nat->Nat):Nat->List UInt8
 | 0=>[]
 | i+1=>sQ s leaf d i++chn leaf i 0 (stt s leaf i) (d i)
theorem rQ (s:List UInt8) (leaf:Nat) (d:Nat->Nat) (h:s.length<2 ^ 30):∀ i,(sQ s leaf d i).length=16*i
 | 0=>rfl
 | i+1=>by
  have h1:=rQ s leaf d h i
  have h2:=lB leaf i 0 (stt s leaf i) (zD8 s leaf i h).2 (d i)
  simp only [sQ,List.length_append,h1,h2];omega
def pk (s:List UInt8) (leaf:Nat):List UInt8:=(hs 2 [[u8 (leaf:Int)],sQ s leaf (λ_=>15) 35]).take 16
theorem eW (s:List UInt8) (leaf:Nat):(pk s leaf).length=16:=qN _ _
theorem zIa (s:List UInt8) (leaf:Nat) (h:s.length<2 ^ 30) (hl:leaf<=255):lJ s (leaf:Int)=some (pk s leaf):=by
 unfold lJ
 refine bd (a:=false) (cf (zK4 leaf) (congrArg some (by simp;omega))) ?_
 refine cf rfl ?_
 refine bd (a:=sQ s leaf (λ_=>15) 35) ?_ ?_
 ·refine zK 35 (λi=>(sQ s leaf (λ_=>15) i,(i:Int))) rfl (λi hi=>?_) ?_ (yT (by omega))
  ·have h1:=rQ s leaf (λ_=>15) h i
   obtain ⟨e,h2⟩:=zD8 s leaf i h
   have h3:=lB leaf i 0 (stt s leaf i) h2 15
   unfold gG
   refine ct (dlt (b:=35) hi) ?_
   refine bd e ?_
   refine bd (a:=chn leaf i 0 (stt s leaf i) 15) (zDl leaf i 0 15 _ h2 (by omega) (by omega)) ?_
   refine bd (zQ (by omega)) ?_
   rw [yB (show i<2 ^ 40 by omega)]
   rfl
  ·generalize sQ s leaf (λ_=>15) 35=S
   rfl
 ·refine bd (a:=pk s leaf) ?_ rfl
  have h1:=rQ s leaf (λ_=>15) h 35
  unfold eR
  refine bd (mP _ _ (by rw [zJy,h1];simp)) ?_
  exact bd (aY _ _) rfl
theorem zBx (seed:List UInt8) (h:seed.length<2 ^ 30):oX seed 1=some [pk (ls seed) 0,pk (ls seed) 1]:=by
 obtain ⟨e,h2⟩:=zIt seed h
 unfold oX
 refine bd e ?_
 refine bd ?_ rfl
 generalize ls seed=s at h2
 refine zK 2 (λi=>([pk s 0,pk s 1].take i,(i:Int))) rfl (λi hi=>?_) ?_ (yT (by decide))
 ·unfold gC
  refine ct (dlt (b:=2) hi) ?_
  refine bd (zIa s i (by omega) (by omega)) ?_
  refine bd (zQ (by simp;omega)) ?_
  rw [yB (show i<2 ^ 40 by omega)]
  rcases i with _ | _ | i
  ·rfl
  ·rfl
  ·omega
 ·rfl
theorem zHx (p q:List UInt8) (hp:p.length=16) (hq:q.length=16):bE 0 [p,q]=some [par 0 0 p q]:=by
 unfold bE
 refine bd ?_ rfl
 refine zK 1 (λi=>([par 0 0 p q].take i,(i:Int))) rfl (λi hi=>?_) ?_ (yT (by decide))
 ·have:i=0:=by omega
  subst this
  unfold zBn
  refine ct rfl ?_
  refine bd (a:=p) rfl ?_
  refine bd (a:=q) rfl ?_
  refine bd (zOk 0 0 p q hp hq) ?_
  exact bd (zQ (by simp)) rfl
 ·rfl
theorem zNh (p q:List UInt8) (hp:p.length=16) (hq:q.length=16):gX [p,q]=some (par 0 0 p q):=by
 unfold gX
 refine bd (a:=true) rfl ?_
 refine cf rfl ?_
 refine bd (a:=[par 0 0 p q]) ?_ ?_
 ·refine zK 1 (λi=>(if i=0 then [p,q] else [par 0 0 p q],(i:Int))) rfl (λi hi=>?_) ?_ (yT (by decide))
  ·have:i=0:=by omega
   subst this
   unfold bJ
   refine ct rfl ?_
   exact bd (zHx p q hp hq) rfl
  ·rfl
 ·refine bd (a:=par 0 0 p q) rfl ?_
  exact bd (cI _ (by
              have:(par 0 0 p q).length=16:=qN _ _
              omega)) rfl
def zEz (seed:List UInt8):List UInt8:=[u8 1]++par 0 0 (pk (ls seed) 0) (pk (ls seed) 1)
theorem gM (seed:List UInt8):(zEz seed).length=17:=by
 have:(par 0 0 (pk (ls seed) 0) (pk (ls seed) 1)).length=16:=qN _ _
 simp [zEz,this]
theorem zF4 (seed:List UInt8) (h:seed.length<2 ^ 30):lF seed 1=some (zEz seed):=by
 have hl:(par 0 0 (pk (ls seed) 0) (pk (ls seed) 1)).length=16:=qN _ _
 unfold lF
 refine bd (a:=false) rfl ?_
 refine cf rfl ?_
 refine bd (zBx seed h) ?_
 refine bd (zNh _ _ (eW _ _) (eW _ _)) ?_
 exact bd (zQ (by rw [hl];decide)) rfl
theorem zMk (s:List UInt8) (leaf:Nat) (m:List UInt8) (h:s.length<2 ^ 30) (hl:leaf<=255) (hm:m.length<2 ^ 31):fI s (leaf:Int) m=some (sQ s leaf (λi=>(mL m).getD i 0) 35):=by
 have hd:=zB6 m
 have h15:=zEa m
 have ed:=zHv m hm
 unfold fI
 refine bd (a:=false) (cf (zK4 leaf) (congrArg some (by simp;omega))) ?_
 refine cf rfl ?_
 refine bd ed ?_
 generalize mL m=D at hd h15
 refine bd ?_ rfl
 refine zK 35 (λi=>(sQ s leaf (λi=>D.getD i 0) i,(i:Int))) rfl (λi hi=>?_) ?_ (yT (by omega))
 ·have h1:=rQ s leaf (λi=>D.getD i 0) h i
  obtain ⟨e,h2⟩:=zD8 s leaf i h
  have h3:=lB leaf i 0 (stt s leaf i) h2 (D.getD i 0)
  have h4:=h15 i hi
  unfold cE
  refine ct (dlt (b:=35) hi) ?_
  refine bd (zGl (by omega)) ?_
  refine bd e ?_
  refine bd (zDl leaf i 0 (D.getD i 0) _ h2 (by omega) (by omega)) ?_
  refine bd (zQ (by rw [Nat.sub_zero];omega)) ?_
  rw [yB (show i<2 ^ 40 by omega)]
  rfl
 ·generalize sQ s leaf (λi=>D.getD i 0) 35=S
  rfl
theorem zLh (p q:List UInt8) (hp:p.length=16) (hq:q.length=16) (leaf:Nat) (hl:leaf<=1):fH (leaf:Int) [p,q]=some [if leaf=0 then q else p]:=by
 unfold fH
 have hle:leaf=0∨leaf=1:=by omega
 rcases hle with rfl | rfl
 ·refine bd (a:=false) rfl ?_
  refine cf rfl ?_
  refine bd ?_ rfl
  refine zK 1 (λi=>(0,if i=0 then [] else [q],if i=0 then [p,q] else [par 0 0 p q],(i:Int))) rfl (λi hi=>?_) ?_ (yT (by decide))
  ·have:i=0:=by omega
   subst this
   unfold jC
   refine ct rfl ?_
   refine bd (a:=q) rfl ?_
   refine bd (cI q (by omega)) ?_
   refine bd (zQ (by simp)) ?_
   exact bd (zHx p q hp hq) rfl
  ·rfl
 ·refine bd (a:=false) rfl ?_
  refine cf rfl ?_
  refine bd ?_ rfl
  refine zK 1 (λi=>(if i=0 then 1 else 0,if i=0 then [] else [p],if i=0 then [p,q] else [par 0 0 p q],(i:Int))) rfl (λi hi=>?_) ?_ (yT (by decide))
  ·have:i=0:=by omega
   subst this
   unfold jC
   refine ct rfl ?_
   refine bd (a:=p) rfl ?_
   refine bd (cI p (by omega)) ?_
   refine bd (zQ (by simp)) ?_
   exact bd (zHx p q hp hq) rfl
  ·rfl
def iP (seed:List UInt8) (leaf:Nat) (m:List UInt8):List UInt8:=([u8 (leaf:Int)]++sQ (ls seed) leaf (λi=>(mL m).getD i 0) 35)++(if leaf=0 then pk (ls seed) 1 else pk (ls seed) 0)
theorem zDv (seed:List UInt8) (leaf:Nat) (m:List UInt8) (h:seed.length<2 ^ 30) (hl:leaf<=1) (hm:m.length<2 ^ 31):gT seed 1 (leaf:Int) m=some (iP seed leaf m):=by
 obtain ⟨e,h2⟩:=zIt seed h
 have hw:=rQ (ls seed) leaf (λi=>(mL m).getD i 0) (by omega) 35
 unfold gT
 refine bd (a:=false) ?_ ?_
 ·refine cf rfl (cf rfl (cf (zK4 leaf) (congrArg some ?_)))
  rw [show tU .i64 1 (IntKind.u64.wrap 1)=2 from rfl,decide_eq_false_iff_not];omega
 refine cf rfl ?_
 refine bd e ?_
 refine bd (zMk (ls seed) leaf m (by omega) (by omega) hm) ?_
 refine bd (zQ (by rw [hw];simp)) ?_
 refine bd (zBx seed h) ?_
 refine bd (zLh _ _ (eW _ _) (eW _ _) leaf hl) ?_
 refine bd ?_ rfl
 have hx:(if leaf=0 then pk (ls seed) 1 else pk (ls seed) 0).length=16:=by split<;>exact eW _ _
 unfold iP
 generalize (if leaf=0 then pk (ls seed) 1 else pk (ls seed) 0)=x at hx
 generalize hg:[u8 (leaf:Int)]++sQ (ls seed) leaf (λi=>(mL m).getD i 0) 35=g
 have hgl:g.length=561:=by rw [<- hg,List.length_append,hw];rfl
 refine zK 1 (λi=>(if i=0 then g else g++x,(i:Int))) rfl (λi hi=>?_) ?_ (yT (by decide))
 ·have:i=0:=by omega
  subst this
  unfold cL
  refine ct rfl ?_
  refine bd (a:=x) rfl ?_
  exact bd (zQ (by simp;omega)) rfl
 ·rfl
theorem zFy (seed:List UInt8) (leaf:Nat) (m:List UInt8) (h:seed.length<2 ^ 30):(iP seed leaf m).length=577:=by
 obtain ⟨e,h2⟩:=zIt seed h
 have hw:=rQ (ls seed) leaf (λi=>(mL m).getD i 0) (by omega) 35
 have hx:(if leaf=0 then pk (ls seed) 1 else pk (ls seed) 0).length=16:=by split<;>exact eW _ _
 simp only [iP,List.length_append,hw,hx,List.length_cons,List.length_nil]
theorem zIe (leaf c:Nat) (x:List UInt8) (d:Nat):∀ k,chn leaf c d (chn leaf c 0 x d) k=chn leaf c 0 x (d+k)
 | 0=>rfl
 | k+1=>by
  have h:=zIe leaf c x d k
  rw [<- Nat.add_assoc]
  simp only [chn,h,Nat.zero_add]
theorem zLm (s:List UInt8) (leaf:Nat) (d:Nat->Nat) (h:s.length<2 ^ 30):∀ n i,i<n->nod (sQ s leaf d n) i=chn leaf i 0 (stt s leaf i) (d i):=by
 intro n
 induction n with
 | zero=>intro i hi;omega
 | succ n ih=>
  intro i hi
  have hl:=rQ s leaf d h n
  have hc:=lB leaf i 0 (stt s leaf i) (zD8 s leaf i h).2 (d i)
  by_cases hin:i<n
  ·rw [<- ih i hin]
   unfold nod
   show List.take 16 (List.drop (16*i) (sQ s leaf d n++_))=_
   rw [List.drop_append_of_le_length (by omega),List.take_append_of_le_length (by simp;omega)]
  ·have:i=n:=by omega
   subst this
   unfold nod
   show List.take 16 (List.drop (16*i) (sQ s leaf d i++_))=_
   rw [<- hl,List.drop_left,List.take_of_length_le (by omega)]
theorem zGq (s:List UInt8) (leaf:Nat) (D:List Nat) (h:s.length<2 ^ 30) (h15:∀ i,i<35->D.getD i 0<=15):∀ n,n<=35->zEl leaf D (sQ s leaf (λi=>D.getD i 0) 35) n=sQ s leaf (λ_=>15) n
 | 0,_=>rfl
 | n+1,hn=>by
  have ih:=zGq s leaf D h h15 n (by omega)
  show zEl leaf D (sQ s leaf (λi=>D.getD i 0) 35) n++chn leaf n (D.getD n 0) (nod (sQ s leaf (λi=>D.getD i 0) 35) n) (15 - D.getD n 0)=sQ s leaf (λ_=>15) n++chn leaf n 0 (stt s leaf n) 15
  rw [ih,zLm s leaf _ h 35 n (by omega),zIe]
  have:=h15 n (by omega)
  rw [show D.getD n 0+(15 - D.getD n 0)=15 by omega]
theorem zHa (s:List UInt8) (leaf:Nat) (m:List UInt8) (h:s.length<2 ^ 30):zDz leaf m (sQ s leaf (λi=>(mL m).getD i 0) 35)=pk s leaf:=by
 unfold zDz pk
 rw [zGq s leaf (mL m) h (zEa m) 35 (by omega)]
theorem zWr (leaf:Nat) (W x:List UInt8) (hw:W.length=560) (hx:x.length=16) (hl:leaf<=1) :
  (([u8 (leaf:Int)]++W)++x).length=577/\((([u8 (leaf:Int)]++W)++x).getD 0 0).toNat=leaf/\((([u8 (leaf:Int)]++W)++x).drop 1).take 560=W/\dZ (([u8 (leaf:Int)]++W)++x) 1=[x]:=by
 refine ⟨by simp [hw,hx],?_,?_,?_⟩
 ·show (u8 (leaf:Int)).toNat=leaf
  rw [tJ];omega
 ·show List.take 560 (W++x)=W
  rw [List.take_append_of_le_length (by omega),List.take_of_length_le (by omega)]
 ·show [((([u8 (leaf:Int)]++W)++x).drop (561+16*0)).take 16]=_
  rw [List.drop_append_of_le_length (by simp [hw]),List.drop_of_length_le (by simp [hw]),List.nil_append,List.take_of_length_le (by omega)]
theorem zL2 (seed:List UInt8) (leaf:Nat) (m:List UInt8) (h:seed.length<2 ^ 30) (hl:leaf<=1):vrf (zEz seed) m (iP seed leaf m)=((leaf:Int),true):=by
 obtain ⟨e,h2⟩:=zIt seed h
 have hw:=rQ (ls seed) leaf (λi=>(mL m).getD i 0) (by omega) 35
 have hr:=zHa (ls seed) leaf m (by omega)
 have hp:=gM seed
 have e0:((zEz seed).getD 0 0).toNat=1:=rfl
 have e2:(zEz seed).drop 1=par 0 0 (pk (ls seed) 0) (pk (ls seed) 1):=rfl
 have hx:(if leaf=0 then pk (ls seed) 1 else pk (ls seed) 0).length=16:=by split<;>exact eW _ _
 unfold vrf iP
 generalize sQ (ls seed) leaf (λi=>(mL m).getD i 0) 35=W at hw hr ⊢
 obtain ⟨p1,p2,p3,p4⟩:=zWr leaf W _ hw hx hl
 rw [e0,p2,p3,p4,e2,hr,if_neg (by omega),if_neg (by omega)]
 have hle:leaf=0∨leaf=1:=by omega
 rcases hle with rfl | rfl<;>exact if_pos rfl
end Go.Proofs.TT
namespace Go.Proofs.TT
open Go Go.Sw
set_option maxRecDepth 100000
def kq (i:Int):api_Public:=⟨2,7,1,[],zEz (sha [113,u8 i])⟩
theorem bY (i:Int):uJ i=some (sha [113,u8 i]):=by
 unfold uJ
 exact bd (gV _ (by simp)) rfl
theorem p8 (i:Int):sJ i=some (kq i):=by
 unfold sJ
 refine bd (bY i) ?_
 exact bd (zF4 _ (by rw [sF];decide)) rfl
theorem zSx (i:Int):chk (kq i)=0:=by
 have h:=gM (sha [113,u8 i])
 have e:=eH (kq i)
 have:tM (kq i)=some 0:=by
  unfold tM kq
  simp only [h]
  rfl
 rw [this] at e
 injection e with e
 exact e.symm
theorem zMm (i:Int):(kq i).Unique.length=17:=gM _
theorem zPn (i:Int) (leaf:Nat) (b:List UInt8) (a:api_Attest) (hl:leaf<=1) (ha:att b=(a,0)) (hk:a.Key=nm (kq i)):vq (kq i) b (iP (sha [113,u8 i]) leaf b)=(a,(leaf:Int),0):=by
 have hv:vrf (kq i).Unique b (iP (sha [113,u8 i]) leaf b)=((leaf:Int),true):=zL2 (sha [113,u8 i]) leaf b (by rw [sF];decide) hl
 unfold vq
 rw [hv,ha,zSx i,if_neg (by simp),if_neg (by show ¬ ((2:Int)≠2);simp),if_neg (by show ¬ yQ .i64 7 4=0;decide),if_neg (by simp),if_neg (by simp),if_neg (by simp [hk])]
end Go.Proofs.TT
namespace Go.Sw
open Go
theorem hX {X Y:Type} {s1 s2:X->Option (X ⊕ Y)} (I:X->Prop) (h:∀ s,I s->s1 s=s2 s/\Def (s2 s) (λr=>∀ s',r=.inl s'->I s')):∀ (n:Nat) (s:X),I s->zE s1 n s=zE s2 n s
 | 0,_,_=>rfl
 | n+1,s,hs=>by
  obtain ⟨e,r,hr,hI⟩:=h s hs
  simp only [zE]
  rw [e,hr]
  cases r with
  | inl s'=>exact hX I h n s' (hI s' rfl)
  | inr y=>rfl
end Go.Sw
namespace Go.Proofs.TT
open Go Go.Sw
set_option maxRecDepth 100000
theorem dT {p:Prop} [Decidable p] (h:decide p=true):p:=by simpa using h
theorem dF {p:Prop} [Decidable p] (h:decide p=false):¬ p:=by simpa using h
theorem Def.at' {α:Type} {l:List α} {i:Nat} (h:i<l.length):Def (idx l (i:Int)) (λr=>r=l[i]):=⟨_,xS h,rfl⟩
theorem xD {α R:Type} (l:List α) (step:Int->Option (Int ⊕ (R ⊕ Unit))) (G:Nat->Prop) (B:R->Prop) (hl:l.length<2 ^ 40)
  (h:∀ i,i<l.length->Def (step (i:Int)) (λr=>match r with | .inl j=>j=((i+1:Nat):Int)/\G i | .inr (.inl b)=>B b | .inr (.inr _)=>False))
  (he:step (l.length:Int)=some (.inr (.inr ()))):Def (zE step FU 0) (λr=>match r with | .inl b=>B b | .inr _=>∀ i,i<l.length->G i):=by
 refine Def.loop (λs=>∃ i:Nat,s=(i:Int)/\i<=l.length/\∀ k,k<i->G k) (λs=>l.length - s.toNat) (λs hs=>?_) ⟨0,rfl,by omega,λk hk=>by omega⟩ (by simp;omega)
 obtain ⟨i,rfl,hi,hg⟩:=hs
 by_cases h2:i<l.length
 ·refine (h i h2).mono λr hr=>?_
  match r,hr with
  | .inl j,hr=>
   refine ⟨⟨i+1,hr.1,h2,λk hk=>?_⟩,by rw [hr.1];simp only [Int.toNat_natCast];omega⟩
   by_cases hk2:k<i
   ·exact hg k hk2
   ·have:k=i:=by omega
    subst this;exact hr.2
  | .inr (.inl b),hr=>exact hr
  | .inr (.inr u),hr=>exact hr.elim
 ·have:i=l.length:=by omega
  subst this
  exact Def.of he hg
theorem two {X Y:Type} {step:X->Option (X ⊕ Y)} {a b c:X} {r:Y} (h0:step a=some (.inl b)) (h1:step b=some (.inl c)) (h2:step c=some (.inr r)):zE step FU a=some r:=by
 refine zK 2 (λi=>match i with | 0=>a | 1=>b | _=>c) rfl (λi hi=>?_) h2 (yT (by decide))
 have:i=0∨i=1:=by omega
 rcases this with rfl | rfl
 ·exact h0
 ·exact h1
theorem zQ8 (x n m:Int) (h:yQ .u64 (IntKind.u64.wrap n) 31=32 - m) (hn:n=32 - m) (h0:0<=m) (h1:m<=32):zC x n=uL x n:=by
 rw [qH x n m h h0 h1]
 subst hn
 have h2:IntKind.u64.wrap (32 - (32 - m))=m:=by rw [IntKind.wrap_u64];omega
 have h4:decide ((0:Int)<=32 - m)=true:=by simp;omega
 simp only [uL,ck,lt,h2,h4,rr,cond_true,Option.bind_some]
 rw [zG4]
theorem rot1 (x:Int):zC x 1=uL x 1:=zQ8 x 1 31 (by decide) (by decide) (by decide) (by decide)
theorem rot5 (x:Int):zC x 5=uL x 5:=zQ8 x 5 27 (by decide) (by decide) (by decide) (by decide)
theorem zTh (x:Int):zC x 30=uL x 30:=zQ8 x 30 2 (by decide) (by decide) (by decide) (by decide)
theorem zBu (x n:Int) (h0:0<=n):Def (uL x n) (λ_=>True):=by
 unfold uL
 refine Def.bd (Def.ck (by simpa using h0)) (λ_ _=>?_)
 exact Def.lt (Def.s trivial)
theorem w80 {w:List Int} {j:Nat} (hw:w.length=80) (hj:j<80):Def (w[j]?) (λ_=>True):=(Def.at (by omega)).mono λ_ _=>trivial
theorem ixw {j n:Nat} (hn:j<n) (z:Int) (hz:z=(j:Int)):Def (Go.Sw.ixN n z) (λr=>r=j):=by
 subst hz
 exact (Def.ixN (by omega) (by omega)).mono λa h=>by rw [h.1];simp
theorem s1_s (x:List UInt8) (at' i:Nat) (w:List Int) (h:at'+64<=x.length) (hb:x.length<2 ^ 42) (hi:i<=80) (hw:w.length=80) :
  Def (vU x (at':Int) ((i:Int),w)) (λr=>match r with | .inl s=>∃ w',s=(((i+1:Nat):Int),w')/\i<80/\w'.length=80 | .inr w=>w.length=80):=by
 unfold vU
 refine Def.c (λh=>?_) (λ_=>Def.s hw)
 have hi2:i<80:=by have:=dT h;omega
 have up:∀ v,Def ((Go.Sw.ixN 80 (i:Int)).bind λj=>(tA w j v).bind λw=>some w) (λw'=>w'.length=80):=λv=>by
  refine Def.bd (ixw hi2 _ rfl) (λj hj=>?_)
  subst hj
  exact Def.bd (Def.upd (by omega)) (λr hr=>Def.s (by rw [hr];simpa using hw))
 refine Def.bd (P:=λw'=>w'.length=80) ?_ (λw' hw'=>Def.s ⟨w',by rw [yB (by omega)],hi2,hw'⟩)
 refine Def.c (λh16=>?_) (λh16=>?_)
 ·have h16':i<16:=by have:=dT h16;omega
  rw [zT (by omega) (by omega)]
  refine Def.bd (Def.sub (by omega) (by omega) (by omega)) (λy hy=>?_)
  have hyl:y.length=64:=by rw [hy];simp;omega
  exact Def.bd (P:=λ_=>True) (Def.of (zEk y i (by omega) (by omega)) trivial) (λv _=>up v)
 ·have h16':16<=i:=by have:=dF h16;omega
  have wr:∀ k:Nat,k<=16->IntKind.i64.wrap ((i:Int) - (k:Int))=((i - k:Nat):Int):=λk hk=>by rw [zT (by omega) (by omega)];omega
  refine Def.bd (ixw (show i - 3<80 by omega) _ (wr 3 (by omega))) (λj hj=>?_)
  refine Def.bd (w80 hw (by omega)) (λ_ _=>?_)
  refine Def.bd (ixw (show i - 8<80 by omega) _ (wr 8 (by omega))) (λj hj=>?_)
  refine Def.bd (w80 hw (by omega)) (λ_ _=>?_)
  refine Def.bd (ixw (show i - 14<80 by omega) _ (wr 14 (by omega))) (λj hj=>?_)
  refine Def.bd (w80 hw (by omega)) (λ_ _=>?_)
  refine Def.bd (ixw (show i - 16<80 by omega) _ (wr 16 (by omega))) (λj hj=>?_)
  refine Def.bd (w80 hw (by omega)) (λ_ _=>?_)
  refine Def.lt ?_
  exact Def.bd (zBu _ _ (by decide)) (λv _=>up v)
theorem s1_e (x:List UInt8) (at' i:Nat) (w:List Int) (h:at'+64<=x.length) (hb:x.length<2 ^ 42):wP (uN x at') ((i:Int),w)=vU x (at':Int) ((i:Int),w):=by
 unfold wP vU
 have hs:sub x (at':Int) (IntKind.i64.wrap ((at':Int)+64))=some (uN x at'):=by
  rw [zT (by omega) (by omega),show (at':Int)+64=((at'+64:Nat):Int) by omega,tW (by omega) (by omega)]
  simp [uN]
 simp only [rot1,hs,zFn,Option.bind_some]
theorem zWw (x:List UInt8) (at':Nat) (h:at'+64<=x.length) (hb:x.length<2 ^ 42) :
  Def (zE (vU x (at':Int)) FU (0,List.replicate 80 0)) (λw=>w.length=80/\zE (wP (uN x at')) FU (0,List.replicate 80 0)=some w):=by
 have e:zE (wP (uN x at')) FU (0,List.replicate 80 0)=zE (vU x (at':Int)) FU (0,List.replicate 80 0):=by
  refine hX (λs=>∃ i:Nat,s.1=(i:Int)/\i<=80/\s.2.length=80) (λs hs=>?_) _ _ ⟨0,rfl,by omega,by simp⟩
  obtain ⟨i',w⟩:=s
  obtain ⟨i,h1,hi,hw⟩:=hs
  have h1:i'=(i:Int):=h1
  subst h1
  refine ⟨s1_e x at' i w h hb,(s1_s x at' i w h hb hi hw).mono λr hr s' hs'=>?_⟩
  subst hs'
  obtain ⟨w',rfl,h2,h3⟩:=hr
  exact ⟨i+1,rfl,by omega,h3⟩
 rw [e]
 obtain ⟨w,h1,h2⟩:Def (zE (vU x (at':Int)) FU (0,List.replicate 80 0)) (λw=>w.length=80):=by
  refine Def.loop (λs=>∃ i:Nat,s.1=(i:Int)/\i<=80/\s.2.length=80) (λs=>80 - s.1.toNat) (λs hs=>?_) ⟨0,rfl,by omega,by simp⟩ (by simp)
  obtain ⟨i',w⟩:=s
  obtain ⟨i,h1,hi,hw⟩:=hs
  have h1:i'=(i:Int):=h1
  subst h1
  refine (s1_s x at' i w h hb hi hw).mono λr hr=>?_
  cases r with
  | inl s'=>
   obtain ⟨w',rfl,h2,h3⟩:=hr
   exact ⟨⟨i+1,rfl,by omega,h3⟩,by simp only [Int.toNat_natCast];omega⟩
  | inr w=>exact hr
 exact ⟨w,h1,h2,h1⟩
theorem r1_s (w:List Int) (hw:w.length=80) (a b c d e:Int) (i:Nat) (hi:i<=80) :
  Def (vT w (a,b,c,d,e,(i:Int))) (λr=>match r with | .inl s=>s.2.2.2.2.2=((i+1:Nat):Int)/\i<80 | .inr _=>True):=by
 unfold vT
 refine Def.c (λh=>?_) (λ_=>Def.s trivial)
 have hi2:i<80:=by have:=dT h;omega
 refine Def.bd (P:=λ_=>True) ?_ (λx _=>?_)
 ·exact Def.c (λ_=>Def.lt (Def.s trivial)) (λ_=>Def.c (λ_=>Def.s trivial) (λ_=>Def.c (λ_=>Def.lt (Def.s trivial)) (λ_=>Def.s trivial)))
 obtain ⟨f,k⟩:=x
 refine Def.bd (zBu _ _ (by decide)) (λ_ _=>?_)
 refine Def.lt ?_
 refine Def.bd (ixw hi2 _ rfl) (λj hj=>?_)
 refine Def.bd (w80 hw (by omega)) (λ_ _=>?_)
 refine Def.lt ?_
 refine Def.bd (zBu _ _ (by decide)) (λ_ _=>Def.s ?_)
 exact ⟨yB (by omega),hi2⟩
theorem r1_e (w:List Int) (a b c d e:Int) (i:Nat) (hi:i<=80):wN w (a,b,c,d,e,(i:Int))=vT w (a,b,c,d,e,(i:Int)):=by
 have hq:IntKind.i64.wrap (Int.tdiv (i:Int) 20)=((i / 20:Nat):Int):=by
  rw [show Int.tdiv (i:Int) 20=((i / 20:Nat):Int) from rfl]
  exact zT (by omega) (by omega)
 unfold wN vT
 simp only [rot5,zTh,hq]
 by_cases h1:i<20
 ·rw [show (((i / 20:Nat):Int)==0)=true by simp;omega,show decide ((i:Int)<20)=true by simp;omega]
  rfl
 by_cases h2:i<40
 ·rw [show (((i / 20:Nat):Int)==0)=false by simp;omega,show decide ((i:Int)<20)=false by simp;omega,show (((i / 20:Nat):Int)==1)=true by simp;omega,show decide ((i:Int)<40)=true by simp;omega]
  rfl
 by_cases h3:i<60
 ·rw [show (((i / 20:Nat):Int)==0)=false by simp;omega,show decide ((i:Int)<20)=false by simp;omega,show (((i / 20:Nat):Int)==1)=false by simp;omega,show decide ((i:Int)<40)=false by simp;omega,show (((i / 20:Nat):Int)==2)=true by simp;omega,show decide ((i:Int)<60)=true by simp;omega]
 ·by_cases h4:i<80
  ·rw [show (((i / 20:Nat):Int)==0)=false by simp;omega,show decide ((i:Int)<20)=false by simp;omega,show (((i / 20:Nat):Int)==1)=false by simp;omega,show decide ((i:Int)<40)=false by simp;omega,show (((i / 20:Nat):Int)==2)=false by simp;omega,show decide ((i:Int)<60)=false by simp;omega]
  ·rw [show decide ((i:Int)<80)=false by simp;omega]
   rfl
theorem zWl (w:List Int) (hw:w.length=80) (a b c d e:Int):Def (zE (vT w) FU (a,b,c,d,e,0)) (λr=>zE (wN w) FU (a,b,c,d,e,0)=some r):=by
 have e1:zE (wN w) FU (a,b,c,d,e,0)=zE (vT w) FU (a,b,c,d,e,0):=by
  refine hX (λs=>∃ i:Nat,s.2.2.2.2.2=(i:Int)/\i<=80) (λs hs=>?_) _ _ ⟨0,rfl,by omega⟩
  obtain ⟨a,b,c,d,e,v⟩:=s
  obtain ⟨i,h1,hi⟩:=hs
  have h1:v=(i:Int):=h1
  subst h1
  refine ⟨r1_e w a b c d e i hi,(r1_s w hw a b c d e i hi).mono λr hr s' hs'=>?_⟩
  subst hs'
  exact ⟨i+1,hr.1,by have:=hr.2;omega⟩
 rw [e1]
 obtain ⟨r,h1,_⟩:Def (zE (vT w) FU (a,b,c,d,e,0)) (λ_=>True):=by
  refine Def.loop (λs=>∃ i:Nat,s.2.2.2.2.2=(i:Int)/\i<=80) (λs=>80 - s.2.2.2.2.2.toNat) (λs hs=>?_) ⟨0,rfl,by omega⟩ (by simp)
  obtain ⟨a,b,c,d,e,v⟩:=s
  obtain ⟨i,h1,hi⟩:=hs
  have h1:v=(i:Int):=h1
  subst h1
  refine (r1_s w hw a b c d e i hi).mono λr hr=>?_
  cases r with
  | inl s'=>exact ⟨⟨i+1,hr.1,by have:=hr.2;omega⟩,by rw [hr.1];simp only [Int.toNat_natCast];have:=hr.2;omega⟩
  | inr r=>trivial
 exact ⟨r,h1,h1⟩
def a5 (s:A5 Int):List Int:=[s.a0,s.a1,s.a2,s.a3,s.a4]
def zLk (h:A5 Int) (b:List UInt8):A5 Int:=(vA h b).getD h
theorem blk1 (x:List UInt8) (at':Nat) (h:A5 Int) (hx:at'+64<=x.length) (hb:x.length<2 ^ 42) :
  vA h (uN x at')=some (zLk h (uN x at'))/\sI x (a5 h,(at':Int))=some (.inl (a5 (zLk h (uN x at')),((at'+64:Nat):Int))):=by
 obtain ⟨w,hw1,hw2,hw3⟩:=zWw x at' hx hb
 obtain ⟨⟨a,b,c,d,e⟩,hr1,hr2⟩:=zWl w hw2 h.a0 h.a1 h.a2 h.a3 h.a4
 have e1:vA h (uN x at')=some ⟨IntKind.u32.wrap (h.a0+a),IntKind.u32.wrap (h.a1+b),IntKind.u32.wrap (h.a2+c),IntKind.u32.wrap (h.a3+d),IntKind.u32.wrap (h.a4+e)⟩:=by
  unfold vA
  refine bd hw3 ?_
  exact bd hr2 rfl
 have e2:zLk h (uN x at')=⟨IntKind.u32.wrap (h.a0+a),IntKind.u32.wrap (h.a1+b),IntKind.u32.wrap (h.a2+c),IntKind.u32.wrap (h.a3+d),IntKind.u32.wrap (h.a4+e)⟩:=by
  unfold zLk;rw [e1];rfl
 rw [e2]
 refine ⟨e1,?_⟩
 unfold sI
 refine ct (dlt (by omega)) ?_
 refine bd hw1 ?_
 refine bd (a:=h.a0) rfl ?_
 refine bd (a:=h.a1) rfl ?_
 refine bd (a:=h.a2) rfl ?_
 refine bd (a:=h.a3) rfl ?_
 refine bd (a:=h.a4) rfl ?_
 refine bd hr1 ?_
 refine bd (a:=h.a0) rfl ?_
 refine bd (a:=h.a1) rfl ?_
 refine bd (a:=h.a2) rfl ?_
 refine bd (a:=h.a3) rfl ?_
 refine bd (a:=h.a4) rfl ?_
 rw [zT (by omega) (by omega),show (at':Int)+64=((at'+64:Nat):Int) by omega]
 rfl
def zNj:A5 Int:=⟨1732584193,4023233417,2562383102,271733878,3285377520⟩
def fR (x:List UInt8):Nat->A5 Int
 | 0=>zNj
 | i+1=>zLk (fR x i) (uN x (64*i))
def st5 (p:List UInt8) (h:A5 Int):List UInt8×Int×Int×Int×Int×Int:=(p,h.a0,h.a1,h.a2,h.a3,h.a4)
theorem zGp (x:List UInt8) (n:Nat) (hx:x.length=64*n) (hl:x.length<2 ^ 42):zE oI FU (st5 x zNj)=some ((fR x n).a0,(fR x n).a1,(fR x n).a2,(fR x n).a3,(fR x n).a4):=by
 refine zK n (λi=>st5 (x.drop (64*i)) (fR x i)) (by simp [fR]) (λi hi=>?_) ?_ (yT (by omega))
 ·have hd:(x.drop (64*i)).length=x.length - 64*i:=by simp
  unfold oI st5
  refine ct (by simp;omega) ?_
  refine bd (a:=uN x (64*i)) (by rw [show (0:Int)=((0:Nat):Int) from rfl,show (64:Int)=((64:Nat):Int) from rfl,tW (by omega) (by omega)];simp [uN]) ?_
  refine bd (blk1 x (64*i) (fR x i) (by omega) hl).1 ?_
  refine bd (a:=x.drop (64*(i+1))) (by rw [show (64:Int)=((64:Nat):Int) from rfl,tW (by omega) (by omega)];rw [List.drop_drop,List.take_of_length_le (by simp;omega)];congr 2) ?_
  rfl
 ·have hd:x.drop (64*n)=[]:=List.drop_eq_nil_of_le (by omega)
  show oI (st5 (x.drop (64*n)) (fR x n))=_
  rw [hd]
  generalize fR x n=S
  rfl
theorem zFe (x:List UInt8) (n:Nat) (hx:x.length=64*n) (hl:x.length<2 ^ 42):zE (sI x) FU (a5 zNj,0)=some (a5 (fR x n)):=by
 refine zK n (λi=>(a5 (fR x i),((64*i:Nat):Int))) rfl (λi hi=>?_) ?_ (yT (by omega))
 ·exact (blk1 x (64*i) (fR x i) (by omega) hl).2
 ·show sI x (a5 (fR x n),((64*n:Nat):Int))=_
  unfold sI
  exact cf (dge (by omega)) rfl
def o9 (b:List UInt8):List UInt8:=(a5 (fR (iN b) ((iN b).length / 64))).flatMap be4
theorem zCg (b:List UInt8):(o9 b).length=20:=by unfold o9;rw [zD1];rfl
theorem zMh (b:List UInt8) (hb:b.length<2 ^ 40):gR b=some (o9 b):=by
 have hz:zs b.length<64:=by unfold zs;omega
 have h1:=hP b
 have h2:=bC b
 unfold gR
 refine bd (zB2 b hb) ?_
 refine bd (zFe (iN b) ((iN b).length / 64) (by omega) (by omega)) ?_
 exact bd (zFr _ (by simp [a5])) rfl
theorem zF9 (b:List UInt8) (hb:b.length<2 ^ 40):yV 0 b=some (o9 b):=by
 have hz:zs b.length<64:=by unfold zs;omega
 have h1:=hP b
 have h2:=bC b
 unfold yV
 refine ct rfl ?_
 refine bd (zBw b hb) ?_
 refine bd (zGp (iN b) ((iN b).length / 64) (by omega) (by omega)) ?_
 exact bd (zDg _ (by simp)) rfl
theorem zJ4 (b:List UInt8) (hb:b.length<2 ^ 40):Def (yV 0 b) (λr=>r.length=20):=Def.of (zF9 b hb) (zCg b)
end Go.Proofs.TT
namespace Go.Proofs.TT
open Go Go.Sw
set_option maxRecDepth 100000
structure Rem (r:RS) (l:List UInt8):Prop where
 e:r.e=0
 at':r.at'<=r.b.length
 d:r.b.drop r.at'=l
theorem Rem.left {r:RS} {l:List UInt8} (h:Rem r l):r.left=l.length:=by
 have:=congrArg List.length h.d
 simp at this
 exact this
theorem Rem.to {r:RS} {x rest:List UInt8} {n:Nat} (h:Rem r (x++rest)) (hx:x.length=n):Rem (r.to n) rest:=by
 have hl:=h.left
 have ha:=h.at'
 simp only [RS.left,List.length_append] at hl
 refine ⟨h.e,by simp only [RS.to];omega,?_⟩
 show r.b.drop (r.at'+n)=rest
 rw [<- List.drop_drop,h.d,<- hx,List.drop_left]
theorem Rem.raw {r:RS} {x rest:List UInt8} {n:Nat} (h:Rem r (x++rest)) (hx:x.length=n):m8 r n=(x,r.to n):=by
 have hl:=h.left
 rw [List.length_append] at hl
 unfold m8
 rw [if_neg (by simp [h.e]),if_neg (by omega)]
 have:r.get n=x:=by
  unfold RS.get
  rw [h.d,<- hx,List.take_left]
 rw [this]
theorem Rem.uint {r:RS} {x rest:List UInt8} {n:Nat} (h:Rem r (x++rest)) (hx:x.length=n) (hv:¬ 9223372036854775808<=beV x n):zZ r n=(IntKind.i64.wrap (beV x n),r.to n):=by
 have hl:=h.left
 rw [List.length_append] at hl
 unfold zZ
 have:r.get n=x:=by
  unfold RS.get
  rw [h.d,<- hx,List.take_left]
 rw [if_neg (by simp [h.e]),if_neg (by omega),this,if_neg hv]
theorem Rem.blob {r:RS} {a b:UInt8} {x rest:List UInt8} {m:Nat} (h:Rem r ([a,b]++(x++rest))) (hx:x.length=a.toNat*256+b.toNat) (hm:x.length<=m):v8 r m=(x,r.to (2+x.length))/\Rem (r.to (2+x.length)) rest:=by
 have hl:=h.left
 have ha:=h.at'
 simp only [List.length_append,List.length_cons,List.length_nil] at hl
 have hd:=h.d
 have e0:r.b.getD r.at' 0=a:=by
  have:=congrArg (λl=>l.getD 0 0) hd
  simpa using this
 have e1:r.b.getD (r.at'+1) 0=b:=by
  have:=congrArg (λl=>l.getD 1 0) hd
  simpa using this
 have ev:v2 r=x.length:=by unfold v2;rw [e0,e1,hx]
 have h2:Rem (r.to 2) (x++rest):=Rem.to (x:=[a,b]) h rfl
 have hd2:r.b.drop (r.at'+2)=x++rest:=h2.d
 constructor
 ·unfold v8
  rw [if_neg (by simp [h.e]),if_neg (by omega),ev,if_neg (by omega),if_neg (by omega),hd2,List.take_left]
 ·have:=Rem.to h2 rfl
  have e:(r.to 2).to x.length=r.to (2+x.length):=by simp [RS.to,Nat.add_assoc]
  rw [<- e]
  exact this
theorem Rem.uintV {r:RS} {x rest:List UInt8} {n:Nat} {v:Int} (h:Rem r (x++rest)) (hx:x.length=n) (hv:beV x n=v) (h0:0<=v) (h1:v<9223372036854775808):zZ r n=(v,r.to n):=by
 rw [h.uint hx (by omega),hv,zT (by omega) (by omega)]
theorem Rem.cast {r r':RS} {l:List UInt8} (h:Rem r l) (e:r'=r):Rem r' l:=e▸h
theorem zG1 (a b:Nat) (ha:a<2 ^ 56) (hb:b<256):ior .u64 (tU .u64 (a:Int) 8) (IntKind.u64.wrap (b:Int))=((a*256+b:Nat):Int):=by
 rw [gQ (by omega) (by omega)]
 have e1:tU .u64 (a:Int) 8=((a*256:Nat):Int):=by
  show IntKind.u64.wrap ((a:Int)*256)=_
  rw [gQ (by omega) (by omega)];omega
 rw [e1]
 unfold ior
 have e2:(BitVec.ofInt IntKind.u64.bits ((a*256:Nat):Int) ||| BitVec.ofInt IntKind.u64.bits (b:Int)).toNat=a*256+b:=by
  show (BitVec.ofInt 64 ((a*256:Nat):Int) ||| BitVec.ofInt 64 (b:Int)).toNat=_
  rw [BitVec.ofInt_natCast,BitVec.ofInt_natCast,BitVec.toNat_or,BitVec.toNat_ofNat,BitVec.toNat_ofNat,Nat.mod_eq_of_lt (by omega),Nat.mod_eq_of_lt (by omega)]
  rw [Nat.mul_comm,show (256:Nat)=2 ^ 8 from rfl,<- Nat.two_pow_add_eq_or_of_lt (by omega)]
 rw [e2,gQ (by omega) (by omega)]
theorem zE9 (n size k:Nat) (hn:n<2 ^ 64) (hk:k<size) (h8:size<=8):((beN (n:Int) size size).getD k 0).toNat=n / 256 ^ (size - (k+1)) % 256:=by
 have e:(beN (n:Int) size size).getD k 0=u8 (zU .u64 (IntKind.u64.wrap (n:Int)) (8*((size:Int) - 1 - (k:Int)))):=by simp [beN,hk]
 rw [e,gQ (by omega) (by omega),show 8*((size:Int) - 1 - (k:Int))=((8*(size - (k+1)):Nat):Int) by omega,zF8 .u64 n _ (by show _<=64;omega),tJ,Nat.pow_mul]
theorem zI9 (n size:Nat) (hn:n<2 ^ 64) (h8:size<=8) (hs:n<256 ^ size):∀ k,k<=size->beV (beN (n:Int) size size) k=((n / 256 ^ (size - k):Nat):Int)
 | 0,_=>by
  rw [Nat.sub_zero,Nat.div_eq_of_lt hs];rfl
 | k+1,hk=>by
  unfold beV
  rw [zI9 n size hn h8 hs k (by omega),zE9 n size k hn (by omega) h8]
  have e:256 ^ (size - k)=256 ^ (size - (k+1))*256:=by
   rw [<- Nat.pow_succ];congr 1;omega
  rw [e,<- Nat.div_div_eq_div_mul]
  have hm:n / 256 ^ (size - (k+1))<=n:=Nat.div_le_self _ _
  generalize n / 256 ^ (size - (k+1))=m at hm
  rw [zG1 _ _ (by omega) (by omega)]
  congr 1
  omega
theorem Rem.uintN {r:RS} {rest:List UInt8} {k n:Nat} (h:Rem r (beN (n:Int) k k++rest)) (h8:k<=8) (hn:n<2 ^ 63) (hs:n<256 ^ k):zZ r k=((n:Int),r.to k)/\Rem (r.to k) rest:=by
 have hb:=zI9 n k (by omega) h8 hs k (Nat.le_refl _)
 rw [Nat.sub_self,Nat.pow_zero,Nat.div_one] at hb
 exact ⟨h.uintV (uB _ _ _) hb (by omega) (by omega),h.to (uB _ _ _)⟩
theorem be2 (n:Nat) (hn:n<65536):∃ a b:UInt8,beN (n:Int) 2 2=[a,b]/\n=a.toNat*256+b.toNat:=by
 have h0:=zE9 n 2 0 (by omega) (by omega) (by omega)
 have h1:=zE9 n 2 1 (by omega) (by omega) (by omega)
 have hl:=uB (n:Int) 2 2
 match hx:beN (n:Int) 2 2,hl with
 | [a,b],_=>
  rw [hx] at h0 h1
  refine ⟨a,b,rfl,?_⟩
  have h0:a.toNat=n / 256 ^ 1 % 256:=h0
  have h1:b.toNat=n / 256 ^ 0 % 256:=h1
  rw [h0,h1]
  simp only [Nat.pow_one,Nat.pow_zero,Nat.div_one]
  omega
theorem kT {x:List UInt8} (b:List UInt8) (h:x.length<=65535):kD b x=b++(beN (x.length:Int) 2 2++x):=by
 unfold kD wC
 rw [List.take_of_length_le h,List.append_assoc]
theorem Rem.blobN {r:RS} {x rest:List UInt8} {m:Nat} (h:Rem r (beN (x.length:Int) 2 2++(x++rest))) (hx:x.length<=65535) (hm:x.length<=m):v8 r m=(x,r.to (2+x.length))/\Rem (r.to (2+x.length)) rest:=by
 obtain ⟨a,b,h1,h2⟩:=be2 x.length (by omega)
 rw [h1] at h
 exact Rem.blob h h2 hm
theorem Rem.fin {r:RS} (h:Rem r []):dW r=0:=by
 have:=h.left
 unfold dW
 rw [if_neg (by rw [this];simp)]
 exact h.e
def qbA (a:api_Attest):List UInt8:=[83,87,81,49]++(beN (a.Key.length:Int) 2 2++(a.Key++(beN (a.Nonce.length:Int) 2 2++(a.Nonce++(beN a.Resets 8 8++(beN a.Restarts 8 8++(beN a.Clock 8 8++([0]++(beN a.Updates 8 8++(beN a.Selection.a0 2 2++(beN a.Selection.a1 2 2++(a.Digest++[]))))))))))))
structure QaOk (a:api_Attest):Prop where
 k:a.Key.length=32
 n:a.Nonce.length=32
 d:a.Digest.length=32
 s:a.Safe=false
 r0:0<=a.Resets/\a.Resets<2 ^ 62
 r1:0<=a.Restarts/\a.Restarts<2 ^ 62
 c:0<=a.Clock/\a.Clock<2 ^ 62
 u:0<=a.Updates/\a.Updates<2 ^ 62
 s0:0<=a.Selection.a0/\a.Selection.a0<=65535
 s1:0<=a.Selection.a1/\a.Selection.a1<=65535
theorem Rem.uintI {r:RS} {rest:List UInt8} {k:Nat} {n:Int} (h:Rem r (beN n k k++rest)) (h8:k<=8) (h0:0<=n) (hn:n<2 ^ 62) (hs:n.toNat<256 ^ k):zZ r k=(n,r.to k)/\Rem (r.to k) rest:=by
 obtain ⟨m,rfl⟩:=Int.eq_ofNat_of_zero_le h0
 exact Rem.uintN h h8 (by omega) hs
theorem zEq (a:api_Attest) (h:QaOk a):(qbA a).length=141:=by
 unfold qbA
 simp only [List.length_append,uB,h.k,h.n,h.d,List.length_cons,List.length_nil]
theorem zPu (a:api_Attest) (h:QaOk a):att (qbA a)=(a,0):=by
 have r0:Rem (d0 (qbA a)) ([83,87,81,49]++_):=⟨rfl,Nat.zero_le _,rfl⟩
 generalize hB:qbA a=B at r0
 have e1:d1 B=([83,87,81,49],(d0 B).to 4):=Rem.raw (x:=[83,87,81,49]) (n:=4) r0 rfl
 have r1:=(Rem.to (x:=[83,87,81,49]) (n:=4) r0 rfl).cast (r':=(d1 B).2) (by rw [e1])
 obtain ⟨e2,r2⟩:=Rem.blobN (m:=32) r1 (by have:=h.k;omega) (by have:=h.k;omega)
 replace r2:=r2.cast (r':=(d2 B).2) (by show (v8 (d1 B).2 32).2=_;rw [e2])
 obtain ⟨e3,r3⟩:=Rem.blobN (m:=128) r2 (by have:=h.n;omega) (by have:=h.n;omega)
 replace r3:=r3.cast (r':=(d3 B).2) (by show (v8 (d2 B).2 128).2=_;rw [e3])
 obtain ⟨e4,r4⟩:=Rem.uintI r3 (by omega) h.r0.1 h.r0.2 (by have:=h.r0;omega)
 replace r4:=r4.cast (r':=(d4 B).2) (by show (zZ (d3 B).2 8).2=_;rw [e4])
 obtain ⟨e5,r5⟩:=Rem.uintI r4 (by omega) h.r1.1 h.r1.2 (by have:=h.r1;omega)
 replace r5:=r5.cast (r':=(d5 B).2) (by show (zZ (d4 B).2 8).2=_;rw [e5])
 obtain ⟨e6,r6⟩:=Rem.uintI r5 (by omega) h.c.1 h.c.2 (by have:=h.c;omega)
 replace r6:=r6.cast (r':=(d6 B).2) (by show (zZ (d5 B).2 8).2=_;rw [e6])
 have e7:d7 B=(0,(d6 B).2.to 1):=Rem.uintV (x:=[0]) (n:=1) r6 rfl (by decide +kernel) (by decide) (by decide)
 have r7:=(Rem.to (x:=[0]) (n:=1) r6 rfl).cast (r':=(d7 B).2) (by rw [e7])
 obtain ⟨e8,r8⟩:=Rem.uintI r7 (by omega) h.u.1 h.u.2 (by have:=h.u;omega)
 replace r8:=r8.cast (r':=(d8 B).2) (by show (zZ (d7 B).2 8).2=_;rw [e8])
 obtain ⟨e9,r9⟩:=Rem.uintI r8 (by omega) h.s0.1 (by have:=h.s0;omega) (by have:=h.s0;omega)
 replace r9:=r9.cast (r':=(d9 B).2) (by show (zZ (d8 B).2 2).2=_;rw [e9])
 obtain ⟨e10,r10⟩:=Rem.uintI r9 (by omega) h.s1.1 (by have:=h.s1;omega) (by have:=h.s1;omega)
 replace r10:=r10.cast (r':=(d10 B).2) (by show (zZ (d9 B).2 2).2=_;rw [e10])
 have e11:d11 B=(a.Digest,(d10 B).2.to 32):=Rem.raw (n:=32) r10 h.d
 have r11:=(Rem.to (n:=32) r10 h.d).cast (r':=(d11 B).2) (by rw [e11])
 have hend:=r11.fin
 have f1:(d1 B).2.e=0:=r1.e
 have g1:(d1 B).1=[83,87,81,49]:=by rw [e1]
 have g2:(d2 B).1=a.Key:=congrArg Prod.fst e2
 have g3:(d3 B).1=a.Nonce:=congrArg Prod.fst e3
 have g4:(d4 B).1=a.Resets:=congrArg Prod.fst e4
 have g5:(d5 B).1=a.Restarts:=congrArg Prod.fst e5
 have g6:(d6 B).1=a.Clock:=congrArg Prod.fst e6
 have g7:(d7 B).1=0:=by rw [e7]
 have g8:(d8 B).1=a.Updates:=congrArg Prod.fst e8
 have g9:(d9 B).1=a.Selection.a0:=congrArg Prod.fst e9
 have g10:(d10 B).1=a.Selection.a1:=congrArg Prod.fst e10
 have g11:(d11 B).1=a.Digest:=by rw [e11]
 have hk:=h.k
 have hs:=h.s
 unfold att
 rw [f1,g1,hend,g2,g3,g4,g5,g6,g7,g8,g9,g10,g11,if_neg (by simp),if_neg (by simp),if_neg (by simp),if_neg (by omega)]
 obtain ⟨_,_,_,_,_,sf,_,sel,_⟩:=a
 simp only at hs
 subst hs
 rfl
theorem zPt (a:api_Attest) (h:QaOk a):qF a=some (qbA a):=by
 obtain ⟨K,N,r0,r1,c,sf,u,⟨s0,s1⟩,D⟩:=a
 have hk:K.length=32:=h.k
 have hn:N.length=32:=h.n
 have hd:D.length=32:=h.d
 have hs:sf=false:=h.s
 subst hs
 unfold qF qbA
 refine bd (a:=[83,87,81,49]) rfl ?_
 refine bd ((sX _ K (by simp)).trans (congrArg some (kT _ (by omega)))) ?_
 refine bd ((sX _ N (by simp [uB,hk])).trans (congrArg some (kT _ (by omega)))) ?_
 simp only
 generalize hb:[83,87,81,49]++(beN (K.length:Int) 2 2++K)++(beN (N.length:Int) 2 2++N)=b
 have l2:b.length=72:=by rw [<- hb];simp [uB,hk,hn]
 refine bd (uG b 8 r0 (by omega) (by omega) (by omega)) ?_
 refine bd (uG _ 8 r1 (by omega) (by omega) (by rw [zS];omega)) ?_
 refine bd (uG _ 8 c (by omega) (by omega) (by rw [zS,zS];omega)) ?_
 refine bd (a:=0) rfl ?_
 refine bd (zQ (by rw [zS,zS,zS];simp;omega)) ?_
 refine bd (uG _ 8 u (by omega) (by omega) (by rw [List.length_append,zS,zS,zS];simp;omega)) ?_
 refine bd (uG _ 2 s0 (by omega) (by omega) (by rw [zS,List.length_append,zS,zS,zS];simp;omega)) ?_
 refine bd (uG _ 2 s1 (by omega) (by omega) (by rw [zS,zS,List.length_append,zS,zS,zS];simp;omega)) ?_
 refine bd (zQ (by rw [zS,zS,zS,List.length_append,zS,zS,zS];simp;omega)) ?_
 have z0:u8 0=0:=rfl
 unfold wC
 rw [z0,<- hb]
 simp only [List.append_assoc,List.append_nil]
end Go.Proofs.TT
