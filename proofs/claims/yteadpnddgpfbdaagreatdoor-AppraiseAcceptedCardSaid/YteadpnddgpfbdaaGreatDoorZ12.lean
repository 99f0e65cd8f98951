/- AppraiseAccepted (law 37: what an accepted verdict means) is proved for every input, under no condition of ours; this text is a part of that proof. -/
import Derived.Test.YteadpnddgpfbdaaGreatDoorZ4
import Derived.Test.YteadpnddgpfbdaaGreatDoorZ5
set_option linter.all false
namespace Go.Sw
open Go
theorem zIj {X Y:Type} {step:X->Option (X ⊕ Y)} {r:Y} (n:Nat) (s:Nat->X) (h:∀ i,i<n->step (s i)=some (.inl (s (i+1)))) (he:step (s n)=some (.inr r)) :
  ∀ (d k fuel:Nat),k+d=n->d<fuel->zG step fuel (s k)=some r:=by
 intro d
 induction d with
 | zero=>
  intro k fuel hk hf
  obtain ⟨f,rfl⟩:∃ f,fuel=f+1:=⟨fuel - 1,by omega⟩
  have:k=n:=by omega
  subst this
  simp [zG,he]
 | succ d ih=>
  intro k fuel hk hf
  obtain ⟨f,rfl⟩:∃ f,fuel=f+1:=⟨fuel - 1,by omega⟩
  simp only [zG,h k (by omega)]
  exact ih (k+1) f (by omega) (by omega)
theorem zT {X Y:Type} {step:X->Option (X ⊕ Y)} {r:Y} {x:X} (n:Nat) (s:Nat->X) (h0:s 0=x) (h:∀ i,i<n->step (s i)=some (.inl (s (i+1)))) (he:step (s n)=some (.inr r)) {fuel:Nat} (hf:n<fuel) :
  zG step fuel x=some r:=by
 subst h0
 exact zIj n s h he n 0 fuel (by omega) hf
theorem zAi {X Y:Type} {step:X->Option (X ⊕ Y)} (I:X->Prop) (m:X->Nat) (Q:Y->Prop)
  (h:∀ s,I s->(∃ s',step s=some (.inl s')/\I s'/\m s'<m s)∨(∃ r,step s=some (.inr r)/\Q r)) :
  ∀ (fuel:Nat) (s:X),I s->m s<fuel->∃ r,zG step fuel s=some r/\Q r:=by
 intro fuel
 induction fuel with
 | zero=>intro s _ hm;omega
 | succ f ih=>
  intro s hs hm
  rcases h s hs with ⟨s',h1,h2,h3⟩ | ⟨r,h1,h2⟩
  ·obtain ⟨r,h4,h5⟩:=ih s' h2 (by omega)
   exact ⟨r,by simp [zG,h1,h4],h5⟩
  ·exact ⟨r,by simp [zG,h1],h2⟩
theorem xB {n:Nat} (h:n<2 ^ 64):n<FU:=by
 have:(2:Nat) ^ 64<FU:=by decide
 omega
theorem zS {n:Int} (h1:-9223372036854775808<=n) (h2:n<=9223372036854775807):IntKind.i64.wrap n=n:=by rw [IntKind.wrap_i64];omega
theorem zU3 {n:Int} (h1:0<=n) (h2:n<=4294967295):IntKind.u32.wrap n=n:=by rw [IntKind.wrap_u32];omega
theorem zA2 {n:Int} (h1:0<=n) (h2:n<=18446744073709551615):IntKind.u64.wrap n=n:=by rw [IntKind.wrap_u64];omega
theorem zW {α:Type} {b:Nat} {l m:List α} (h:(l.length+m.length)*b<=140737488355328):zV b l m=some (l++m):=by
 simp [zV,LIM,h]
theorem xL {α:Type} {l:List α} {i:Nat} (h:i<l.length):idx l (i:Int)=some l[i]:=by
 simp [idx,h]
theorem tX {α:Type} {l:List α} {a b:Nat} (h:a<=b) (h2:b<=l.length):sub l (a:Int) (b:Int)=some ((l.drop a).take (b - a)):=by
 have:(0:Int)<=a/\(a:Int)<=b/\(b:Int)<=l.length:=⟨by omega,by omega,by omega⟩
 simp [sub,this]
theorem bd {α β:Type} {o:Option α} {a:α} {f:α->Option β} {r:Option β} (h:o=some a) (k:f a=r):o.bind f=r:=by subst h;exact k
theorem ltk {α β:Type} {e:α} {f:α->Option β} {r:Option β} (k:f e=r):lt e f=r:=k
theorem ct {α:Type} {c:Bool} {a b r:α} (h:c=true) (k:a=r):(bif c then a else b)=r:=by subst h;exact k
theorem cf {α:Type} {c:Bool} {a b r:α} (h:c=false) (k:b=r):(bif c then a else b)=r:=by subst h;exact k
theorem ckT {c:Bool} (h:c=true):ck c=some ():=by subst h;rfl
end Go.Sw
namespace Go.Proofs.TT
open Go Go.Sw
set_option maxRecDepth 100000
def rr (x n:Int):Int:=ior .u32 (zY .u32 x n) (uT .u32 x (32 - n))
theorem zGo (k:IntKind) (a b:Int):ior k a b=ior k b a:=by simp [ior,BitVec.or_comm]
theorem oA (x n:Int) (h0:0<=n) (h1:n<=32):yQ x n=some (rr x n):=by
 have h2:IntKind.u64.wrap (32 - n)=32 - n:=by rw [IntKind.wrap_u64];omega
 have h3:decide (0<=n)=true:=by simpa using h0
 simp only [yQ,ck,lt,h2,h3,rr,cond_true,Option.bind_some]
theorem pH (x:Int) (n m:Int) (h:yR .u64 (IntKind.u64.wrap n) 31=32 - m) (h0:0<=m) (h1:m<=32):zE x n=some (rr x m):=by
 have h2:IntKind.u64.wrap (32 - (32 - m))=m:=by rw [IntKind.wrap_u64];omega
 have h3:(0:Int)<=32 - m:=by omega
 have h4:decide ((0:Int)<=32 - m)=true:=by simpa using h3
 have h5:decide ((0:Int)<=m)=true:=by simpa using h0
 simp only [zE,ck,lt,h,h2,h4,h5,rr,cond_true,Option.bind_some]
 rw [zGo]
def K2:List Int:=gd1
theorem zRt:K2.length=64:=rfl
theorem zFg:qR=some K2:=rfl
def a8 (s:A8 Int):List Int:=[s.a0,s.a1,s.a2,s.a3,s.a4,s.a5,s.a6,s.a7]
def t1 (s:A8 Int) (k w:Int):Int:=
 IntKind.u32.wrap (IntKind.u32.wrap (IntKind.u32.wrap (IntKind.u32.wrap (s.a7+yU .u32 (yU .u32 (rr s.a4 6) (rr s.a4 11)) (rr s.a4 25))+yU .u32 (yR .u32 s.a4 s.a5) (yR .u32 (zD7 .u32 s.a4) s.a6))+k)+w)
def t2 (s:A8 Int):Int:=IntKind.u32.wrap (yU .u32 (yU .u32 (rr s.a0 2) (rr s.a0 13)) (rr s.a0 22)+yU .u32 (yU .u32 (yR .u32 s.a0 s.a1) (yR .u32 s.a0 s.a2)) (yR .u32 s.a1 s.a2))
def rnd (s:A8 Int) (k w:Int):A8 Int:=⟨IntKind.u32.wrap (t1 s k w+t2 s),s.a0,s.a1,s.a2,IntKind.u32.wrap (s.a3+t1 s k w),s.a4,s.a5,s.a6⟩
def lA (w:List Int) (s:A8 Int):Nat->A8 Int
 | 0=>s
 | n+1=>rnd (lA w s n) (K2.getD n 0) (w.getD n 0)
theorem uF {n t:Nat} (h:t<n):ixN n (t:Int)=some t:=by
 have:(0:Int)<=t/\(t:Int)<n:=⟨by omega,by omega⟩
 simp [ixN,this]
theorem qF {l:List Int} {t:Nat} (h:t<l.length):l[t]? = some (l.getD t 0):=by simp [h]
theorem yE {t:Nat} (h:t<2 ^ 40):IntKind.i64.wrap ((t:Int)+1)=((t+1:Nat):Int):=by rw [zS (by omega) (by omega)];simp
section
variable (a b c d e f g h:Int)
theorem zVv:idx [a,b,c,d,e,f,g,h] 0=some a:=rfl
theorem zNu:idx [a,b,c,d,e,f,g,h] 1=some b:=rfl
theorem zMc:idx [a,b,c,d,e,f,g,h] 2=some c:=rfl
theorem zWx:idx [a,b,c,d,e,f,g,h] 3=some d:=rfl
theorem zTi:idx [a,b,c,d,e,f,g,h] 4=some e:=rfl
theorem zPd:idx [a,b,c,d,e,f,g,h] 5=some f:=rfl
theorem zPo:idx [a,b,c,d,e,f,g,h] 6=some g:=rfl
theorem zW8:idx [a,b,c,d,e,f,g,h] 7=some h:=rfl
end
theorem dlt {a b:Nat} (h:a<b):decide ((a:Int)<(b:Int))=true:=by simp;exact h
theorem dge {a b:Nat} (h:b<=a):decide ((a:Int)<(b:Int))=false:=by simp;omega
theorem zN3 (w:List Int) (s:A8 Int) (i:Nat) (hi:i<64) (hw:w.length=64):qJ K2 w (a8 s,(i:Int))=some (.inl (a8 (rnd s (K2.getD i 0) (w.getD i 0)),((i+1:Nat):Int))):=by
 have e1:decide ((i:Int)<64)=true:=dlt (b:=64) hi
 have e2:∀ x,yQ x 6=some (rr x 6):=λx=>oA x 6 (by decide) (by decide)
 have e3:∀ x,yQ x 11=some (rr x 11):=λx=>oA x 11 (by decide) (by decide)
 have e4:∀ x,yQ x 25=some (rr x 25):=λx=>oA x 25 (by decide) (by decide)
 have e5:∀ x,yQ x 2=some (rr x 2):=λx=>oA x 2 (by decide) (by decide)
 have e6:∀ x,yQ x 13=some (rr x 13):=λx=>oA x 13 (by decide) (by decide)
 have e7:∀ x,yQ x 22=some (rr x 22):=λx=>oA x 22 (by decide) (by decide)
 have k1:K2[i]? = some (K2.getD i 0):=qF (by rw [zRt];exact hi)
 have k2:w[i]? = some (w.getD i 0):=qF (by omega)
 unfold qJ a8
 refine ct e1 ?_
 refine bd (zVv _ _ _ _ _ _ _ _) ?_
 refine bd (zTi _ _ _ _ _ _ _ _) ?_
 refine bd (zW8 _ _ _ _ _ _ _ _) ?_
 refine bd (e2 _) ?_
 refine bd (e3 _) ?_
 refine bd (e4 _) ?_
 refine ltk ?_
 refine bd (zPd _ _ _ _ _ _ _ _) ?_
 refine bd (zPo _ _ _ _ _ _ _ _) ?_
 refine ltk ?_
 refine bd (uF hi) ?_
 refine bd k1 ?_
 refine ltk ?_
 refine bd (uF hi) ?_
 refine bd k2 ?_
 refine bd (e5 _) ?_
 refine bd (e6 _) ?_
 refine bd (e7 _) ?_
 refine bd (zNu _ _ _ _ _ _ _ _) ?_
 refine bd (zMc _ _ _ _ _ _ _ _) ?_
 refine ltk ?_
 refine bd (zNu _ _ _ _ _ _ _ _) ?_
 refine bd (zMc _ _ _ _ _ _ _ _) ?_
 refine ltk ?_
 refine ltk ?_
 refine bd (zNu _ _ _ _ _ _ _ _) ?_
 refine bd (zMc _ _ _ _ _ _ _ _) ?_
 refine bd (zWx _ _ _ _ _ _ _ _) ?_
 refine ltk ?_
 refine bd (zPd _ _ _ _ _ _ _ _) ?_
 refine bd (zPo _ _ _ _ _ _ _ _) ?_
 rw [yE (show i<2 ^ 40 by omega)]
 rfl
theorem zQg (w:List Int) (hw:w.length=64) (s:A8 Int):zG (qJ K2 w) FU (a8 s,0)=some (a8 (lA w s 64)):=by
 refine zT 64 (λi=>(a8 (lA w s i),(i:Int))) rfl (λi hi=>zN3 w _ i hi hw) ?_ (xB (by decide))
 generalize lA w s 64=S
 rfl
theorem zO8 (w:List Int) (s:A8 Int) (i:Nat) (hi:i<64) (hw:w.length=64):wZ w ((i:Int),s.a0,s.a1,s.a2,s.a3,s.a4,s.a5,s.a6,s.a7) =
  some (.inl (((i+1:Nat):Int),(rnd s (K2.getD i 0) (w.getD i 0)).a0,(rnd s (K2.getD i 0) (w.getD i 0)).a1,(rnd s (K2.getD i 0) (w.getD i 0)).a2,(rnd s (K2.getD i 0) (w.getD i 0)).a3,(rnd s (K2.getD i 0) (w.getD i 0)).a4,(rnd s (K2.getD i 0) (w.getD i 0)).a5,(rnd s (K2.getD i 0) (w.getD i 0)).a6,(rnd s (K2.getD i 0) (w.getD i 0)).a7)):=by
 have e1:decide ((i:Int)<64)=true:=dlt (b:=64) hi
 have e2:∀ x,zE x (-6)=some (rr x 6):=λx=>pH x _ 6 (by decide) (by decide) (by decide)
 have e3:∀ x,zE x (-11)=some (rr x 11):=λx=>pH x _ 11 (by decide) (by decide) (by decide)
 have e4:∀ x,zE x (-25)=some (rr x 25):=λx=>pH x _ 25 (by decide) (by decide) (by decide)
 have e5:∀ x,zE x (-2)=some (rr x 2):=λx=>pH x _ 2 (by decide) (by decide) (by decide)
 have e6:∀ x,zE x (-13)=some (rr x 13):=λx=>pH x _ 13 (by decide) (by decide) (by decide)
 have e7:∀ x,zE x (-22)=some (rr x 22):=λx=>pH x _ 22 (by decide) (by decide) (by decide)
 have k1:idx gd1 (i:Int)=some (K2.getD i 0):=by rw [xL (show i<gd1.length from hi)];simp [K2,show i<gd1.length from hi]
 have k2:w[i]? = some (w.getD i 0):=qF (by omega)
 unfold wZ
 refine ct e1 ?_
 refine bd (e2 _) ?_
 refine bd (e3 _) ?_
 refine bd (e4 _) ?_
 refine ltk ?_
 refine ltk ?_
 refine bd k1 ?_
 refine ltk ?_
 refine bd (uF hi) ?_
 refine bd k2 ?_
 refine bd (e5 _) ?_
 refine bd (e6 _) ?_
 refine bd (e7 _) ?_
 refine ltk ?_
 refine ltk ?_
 refine ltk ?_
 refine ltk ?_
 rw [yE (show i<2 ^ 40 by omega)]
 rfl
theorem zRp (w:List Int) (hw:w.length=64) (s:A8 Int):zG (wZ w) FU (0,s.a0,s.a1,s.a2,s.a3,s.a4,s.a5,s.a6,s.a7)=some ((lA w s 64).a0,(lA w s 64).a1,(lA w s 64).a2,(lA w s 64).a3,(lA w s 64).a4,(lA w s 64).a5,(lA w s 64).a6,(lA w s 64).a7):=by
 refine zT 64 (λi=>((i:Int),(lA w s i).a0,(lA w s i).a1,(lA w s i).a2,(lA w s i).a3,(lA w s i).a4,(lA w s i).a5,(lA w s i).a6,(lA w s i).a7)) rfl (λi hi=>zO8 w _ i hi hw) ?_ (xB (by decide))
 generalize lA w s 64=S
 rfl
end Go.Proofs.TT
namespace Go.Proofs.TT
open Go Go.Sw
set_option maxRecDepth 100000
theorem zJ2 {l:List UInt8} {z:Int} {n:Nat} (hz:z=(n:Int)) (h:n<l.length):idx l z=some (l.getD n 0):=by
 subst hz
 simp [idx,h]
theorem zAy {α:Type} {l:List α} {j:Nat} {u:α} (h:j<l.length):uG l j u=some (l.set j u):=by simp [uG,h]
def byt (b:List UInt8) (n:Nat):Int:=IntKind.u32.wrap (((b.getD n 0).toNat:Nat):Int)
def wd (b:List UInt8) (t:Nat):Int:=ior .u32 (ior .u32 (ior .u32 (uT .u32 (byt b (4*t)) 24) (uT .u32 (byt b (4*t+1)) 16)) (uT .u32 (byt b (4*t+2)) 8)) (byt b (4*t+3))
theorem zE9 (b:List UInt8) (t:Nat) (h:4*t+3<b.length) (h2:t<2 ^ 20):n9 b (t:Int)=some (wd b t):=by
 have e0:IntKind.i64.wrap (4*(t:Int))=((4*t:Nat):Int):=by rw [zS (by omega) (by omega)];simp
 unfold n9
 rw [e0]
 refine bd (zJ2 rfl (by omega)) ?_
 refine bd (zJ2 (n:=4*t+1) (by rw [zS (by omega) (by omega)];simp) (by omega)) ?_
 refine ltk ?_
 refine bd (zJ2 (n:=4*t+2) (by rw [zS (by omega) (by omega)];simp) (by omega)) ?_
 refine ltk ?_
 refine bd (zJ2 (n:=4*t+3) (by rw [zS (by omega) (by omega)];simp) (by omega)) ?_
 rfl
theorem zGc:lL=n9:=rfl
def s0 (x:Int):Int:=yU .u32 (yU .u32 (rr x 7) (rr x 18)) (zY .u32 x 3)
def s1 (x:Int):Int:=yU .u32 (yU .u32 (rr x 17) (rr x 19)) (zY .u32 x 10)
def wv (b:List UInt8) (w:List Int) (t:Nat):Int:=
 if t<16 then wd b t else IntKind.u32.wrap (IntKind.u32.wrap (IntKind.u32.wrap (s1 (w.getD (t - 2) 0)+w.getD (t - 7) 0)+s0 (w.getD (t - 15) 0))+w.getD (t - 16) 0)
def gY (b:List UInt8):Nat->List Int
 | 0=>List.replicate 64 0
 | t+1=>(gY b t).set t (wv b (gY b t) t)
theorem kH (b:List UInt8):∀ t,(gY b t).length=64
 | 0=>rfl
 | t+1=>by simp [gY,kH b t]
theorem zWj (b:List UInt8) (w:List Int) (i:Nat) (hi:i<64) (hw:w.length=64) (hb:b.length=64):w4 b ((i:Int),w)=some (.inl (((i+1:Nat):Int),w.set i (wv b w i))):=by
 have hiw:i<w.length:=by omega
 unfold w4
 refine ct (dlt (b:=64) hi) ?_
 refine bd (a:=w.set i (wv b w i)) ?_ (by rw [yE (show i<2 ^ 40 by omega)])
 by_cases h:i<16
 ·refine ct (dlt (b:=16) h) ?_
  rw [zGc]
  refine bd (zE9 b i (by omega) (by omega)) ?_
  refine bd (uF hi) ?_
  refine bd (zAy hiw) ?_
  simp [wv,h]
 refine cf (dge (b:=16) (by omega)) ?_
 have x15:ixN 64 (IntKind.i64.wrap ((i:Int) - 15))=some (i - 15):=by rw [zS (by omega) (by omega),show (i:Int) - 15=((i - 15:Nat):Int) by omega];exact uF (by omega)
 have x2:ixN 64 (IntKind.i64.wrap ((i:Int) - 2))=some (i - 2):=by rw [zS (by omega) (by omega),show (i:Int) - 2=((i - 2:Nat):Int) by omega];exact uF (by omega)
 have x7:ixN 64 (IntKind.i64.wrap ((i:Int) - 7))=some (i - 7):=by rw [zS (by omega) (by omega),show (i:Int) - 7=((i - 7:Nat):Int) by omega];exact uF (by omega)
 have x16:ixN 64 (IntKind.i64.wrap ((i:Int) - 16))=some (i - 16):=by rw [zS (by omega) (by omega),show (i:Int) - 16=((i - 16:Nat):Int) by omega];exact uF (by omega)
 have w15:w[i - 15]? = some (w.getD (i - 15) 0):=qF (by omega)
 have w2:w[i - 2]? = some (w.getD (i - 2) 0):=qF (by omega)
 have w7:w[i - 7]? = some (w.getD (i - 7) 0):=qF (by omega)
 have w16:w[i - 16]? = some (w.getD (i - 16) 0):=qF (by omega)
 have e7:∀ x,zE x (-7)=some (rr x 7):=λx=>pH x _ 7 (by decide) (by decide) (by decide)
 have e18:∀ x,zE x (-18)=some (rr x 18):=λx=>pH x _ 18 (by decide) (by decide) (by decide)
 have e17:∀ x,zE x (-17)=some (rr x 17):=λx=>pH x _ 17 (by decide) (by decide) (by decide)
 have e19:∀ x,zE x (-19)=some (rr x 19):=λx=>pH x _ 19 (by decide) (by decide) (by decide)
 refine bd (x15) ?_
 refine bd (w15) ?_
 refine bd (x2) ?_
 refine bd (w2) ?_
 refine bd (e7 _) ?_
 refine bd (e18 _) ?_
 refine bd (e17 _) ?_
 refine bd (e19 _) ?_
 refine bd (x7) ?_
 refine bd (w7) ?_
 refine ltk ?_
 refine ltk ?_
 refine bd (x16) ?_
 refine bd (w16) ?_
 refine bd (uF hi) ?_
 refine bd (zAy hiw) ?_
 simp only [wv,h,if_false]
 rfl
theorem zQ1 (b:List UInt8) (hb:b.length=64):zG (w4 b) FU (0,List.replicate 64 0)=some (gY b 64):=by
 refine zT 64 (λi=>((i:Int),gY b i)) rfl (λi hi=>zWj b _ i hi (kH b i) hb) ?_ (xB (by decide))
 generalize gY b 64=S
 rfl
def uJ (x:List UInt8) (n:Nat):List UInt8:=(x.drop n).take 64
theorem zWu (x:List UInt8) (at':Nat) (w:List Int) (i:Nat) (hi:i<64) (hw:w.length=64) (hx:at'+64<=x.length) (hl:x.length<2 ^ 48):pK x (at':Int) ((i:Int),w)=some (.inl (((i+1:Nat):Int),w.set i (wv (uJ x at') w i))):=by
 have hiw:i<w.length:=by omega
 have hbl:(uJ x at').length=64:=by simp [uJ];omega
 unfold pK
 refine ct (dlt (b:=64) hi) ?_
 refine bd (a:=w.set i (wv (uJ x at') w i)) ?_ (by rw [yE (show i<2 ^ 40 by omega)])
 by_cases h:i<16
 ·refine ct (dlt (b:=16) h) ?_
  have hs:sub x (at':Int) (IntKind.i64.wrap ((at':Int)+64))=some (uJ x at'):=by
   rw [zS (by omega) (by omega),show (at':Int)+64=((at'+64:Nat):Int) by simp,tX (by omega) hx]
   simp [uJ]
  refine bd hs ?_
  refine bd (zE9 _ i (by omega) (by omega)) ?_
  refine bd (uF hi) ?_
  refine bd (zAy hiw) ?_
  simp [wv,h]
 refine cf (dge (b:=16) (by omega)) ?_
 have x15:ixN 64 (IntKind.i64.wrap ((i:Int) - 15))=some (i - 15):=by rw [zS (by omega) (by omega),show (i:Int) - 15=((i - 15:Nat):Int) by omega];exact uF (by omega)
 have x2:ixN 64 (IntKind.i64.wrap ((i:Int) - 2))=some (i - 2):=by rw [zS (by omega) (by omega),show (i:Int) - 2=((i - 2:Nat):Int) by omega];exact uF (by omega)
 have x7:ixN 64 (IntKind.i64.wrap ((i:Int) - 7))=some (i - 7):=by rw [zS (by omega) (by omega),show (i:Int) - 7=((i - 7:Nat):Int) by omega];exact uF (by omega)
 have x16:ixN 64 (IntKind.i64.wrap ((i:Int) - 16))=some (i - 16):=by rw [zS (by omega) (by omega),show (i:Int) - 16=((i - 16:Nat):Int) by omega];exact uF (by omega)
 have w15:w[i - 15]? = some (w.getD (i - 15) 0):=qF (by omega)
 have w2:w[i - 2]? = some (w.getD (i - 2) 0):=qF (by omega)
 have w7:w[i - 7]? = some (w.getD (i - 7) 0):=qF (by omega)
 have w16:w[i - 16]? = some (w.getD (i - 16) 0):=qF (by omega)
 have e7:∀ x,yQ x 7=some (rr x 7):=λx=>oA x 7 (by decide) (by decide)
 have e18:∀ x,yQ x 18=some (rr x 18):=λx=>oA x 18 (by decide) (by decide)
 have e17:∀ x,yQ x 17=some (rr x 17):=λx=>oA x 17 (by decide) (by decide)
 have e19:∀ x,yQ x 19=some (rr x 19):=λx=>oA x 19 (by decide) (by decide)
 refine bd (x15) ?_
 refine bd (w15) ?_
 refine bd (e7 _) ?_
 refine bd (x15) ?_
 refine bd (w15) ?_
 refine bd (e18 _) ?_
 refine bd (x15) ?_
 refine bd (w15) ?_
 refine bd (x2) ?_
 refine bd (w2) ?_
 refine bd (e17 _) ?_
 refine bd (x2) ?_
 refine bd (w2) ?_
 refine bd (e19 _) ?_
 refine bd (x2) ?_
 refine bd (w2) ?_
 refine bd (x7) ?_
 refine bd (w7) ?_
 refine ltk ?_
 refine ltk ?_
 refine bd (x16) ?_
 refine bd (w16) ?_
 refine bd (uF hi) ?_
 refine bd (zAy hiw) ?_
 simp only [wv,h,if_false]
 rfl
theorem zRa (x:List UInt8) (at':Nat) (hx:at'+64<=x.length) (hl:x.length<2 ^ 48):zG (pK x (at':Int)) FU (0,List.replicate 64 0)=some (gY (uJ x at') 64):=by
 refine zT 64 (λi=>((i:Int),gY (uJ x at') i)) rfl (λi hi=>zWu x at' _ i hi (kH _ i) hx hl) ?_ (xB (by decide))
 generalize gY (uJ x at') 64=S
 rfl
end Go.Proofs.TT
namespace Go.Proofs.TT
open Go Go.Sw
set_option maxRecDepth 100000
def zMf (h s:A8 Int):A8 Int:=⟨IntKind.u32.wrap (h.a0+s.a0),IntKind.u32.wrap (h.a1+s.a1),IntKind.u32.wrap (h.a2+s.a2),IntKind.u32.wrap (h.a3+s.a3),IntKind.u32.wrap (h.a4+s.a4),IntKind.u32.wrap (h.a5+s.a5),IntKind.u32.wrap (h.a6+s.a6),IntKind.u32.wrap (h.a7+s.a7)⟩
def zC9 (h s:List Int):Nat->List Int
 | 0=>h
 | i+1=>(zC9 h s i).set i (IntKind.u32.wrap ((zC9 h s i).getD i 0+s.getD i 0))
theorem zCe (h s:List Int):∀ i,(zC9 h s i).length=h.length
 | 0=>rfl
 | i+1=>by simp [zC9,zCe h s i]
theorem zLs (h s:A8 Int):zC9 (a8 h) (a8 s) 8=a8 (zMf h s):=rfl
def zGj (h:A8 Int) (b:List UInt8):A8 Int:=zMf h (lA (gY b 64) h 64)
theorem zQ8 (h s:A8 Int):zG (mQ (a8 s)) FU (0,a8 h)=some (a8 (zMf h s)):=by
 rw [<- zLs]
 refine zT 8 (λi=>((i:Int),zC9 (a8 h) (a8 s) i)) rfl (λi hi=>?_) ?_ (xB (by decide))
 ·have hl:(zC9 (a8 h) (a8 s) i).length=8:=zCe _ _ _
  unfold mQ
  refine ct (dlt (b:=8) hi) ?_
  refine bd (uF hi) ?_
  refine bd (qF (by omega)) ?_
  refine bd (a:=(a8 s).getD i 0) (by rw [xL (show i<(a8 s).length from hi)];simp [show i<(a8 s).length from hi]) ?_
  refine bd (uF hi) ?_
  refine bd (zAy (by omega)) ?_
  rw [yE (show i<2 ^ 40 by omega)]
  rfl
 ·generalize zC9 (a8 h) (a8 s) 8=S
  rfl
theorem zSr (h s:A8 Int):zG (xQ s.a0 s.a1 s.a2 s.a3 s.a4 s.a5 s.a6 s.a7) FU (0,[h.a0,h.a1,h.a2,h.a3,h.a4,h.a5,h.a6,h.a7])=some (zMf h s):=by
 refine zT 8 (λi=>((i:Int),zC9 (a8 h) (a8 s) i)) rfl (λi hi=>?_) ?_ (xB (by decide))
 ·have hl:(zC9 (a8 h) (a8 s) i).length=8:=zCe _ _ _
  unfold xQ
  refine ct (dlt (b:=8) hi) ?_
  refine bd (uF hi) ?_
  refine bd (qF (by omega)) ?_
  refine bd (uF hi) ?_
  refine bd (a:=(a8 s).getD i 0) (qF (l:=a8 s) hi) ?_
  refine bd (uF hi) ?_
  refine bd (zAy (by omega)) ?_
  rw [yE (show i<2 ^ 40 by omega)]
  rfl
 ·show xQ s.a0 s.a1 s.a2 s.a3 s.a4 s.a5 s.a6 s.a7 (((8:Nat):Int),zC9 (a8 h) (a8 s) 8)=_
  rw [zLs]
  unfold xQ
  refine cf rfl ?_
  refine bd (a:=zMf h s) rfl rfl
theorem zGx (h:A8 Int) (b:List UInt8) (hb:b.length=64):uL h b=some (zGj h b):=by
 unfold uL
 refine bd (zQ1 b hb) ?_
 refine bd (zRp _ (kH b 64) h) ?_
 refine bd (zSr h _) ?_
 rfl
def zLq:A8 Int:=⟨1779033703,3144134277,1013904242,2773480762,1359893119,2600822924,528734635,1541459225⟩
def hsh (x:List UInt8):Nat->A8 Int
 | 0=>zLq
 | i+1=>zGj (hsh x i) (uJ x (64*i))
def st8 (p:List UInt8) (h:A8 Int):List UInt8×Int×Int×Int×Int×Int×Int×Int×Int:=(p,h.a0,h.a1,h.a2,h.a3,h.a4,h.a5,h.a6,h.a7)
theorem zH7 (x:List UInt8) (n:Nat) (hx:x.length=64*n) (hl:x.length<2 ^ 48):zG oL FU (st8 x zLq)=some ((hsh x n).a0,(hsh x n).a1,(hsh x n).a2,(hsh x n).a3,(hsh x n).a4,(hsh x n).a5,(hsh x n).a6,(hsh x n).a7):=by
 refine zT n (λi=>st8 (x.drop (64*i)) (hsh x i)) (by simp [hsh]) (λi hi=>?_) ?_ (xB (by omega))
 ·have hd:(x.drop (64*i)).length=x.length - 64*i:=by simp
  unfold oL st8
  refine ct (by simp;omega) ?_
  refine bd (a:=uJ x (64*i)) (by rw [show (0:Int)=((0:Nat):Int) from rfl,show (64:Int)=((64:Nat):Int) from rfl,tX (by omega) (by omega)];simp [uJ]) ?_
  refine bd (zGx _ _ (by simp [uJ];omega)) ?_
  refine bd (a:=x.drop (64*(i+1))) (by rw [show (64:Int)=((64:Nat):Int) from rfl,tX (by omega) (by omega)];rw [List.drop_drop,List.take_of_length_le (by simp;omega)];congr 2) ?_
  rfl
 ·have hd:x.drop (64*n)=[]:=List.drop_eq_nil_of_le (by omega)
  show oL (st8 (x.drop (64*n)) (hsh x n))=_
  rw [hd]
  generalize hsh x n=S
  rfl
theorem zH8 (x:List UInt8) (n:Nat) (hx:x.length=64*n) (hl:x.length<2 ^ 47):zG (sA K2 x) FU (0,a8 zLq)=some (a8 (hsh x n)):=by
 refine zT n (λi=>(((64*i:Nat):Int),a8 (hsh x i))) rfl (λi hi=>?_) ?_ (xB (by omega))
 ·unfold sA
  refine ct (dlt (by omega)) ?_
  refine bd (zRa x (64*i) (by omega) (by omega)) ?_
  refine bd (ckT rfl) ?_
  refine bd (a:=a8 (hsh x i)) (by rw [zW (by simp [a8])];rfl) ?_
  refine bd (zQg _ (kH _ 64) _) ?_
  refine bd (zQ8 _ _) ?_
  rw [zS (by omega) (by omega),show ((64*i:Nat):Int)+64=((64*(i+1):Nat):Int) by omega]
  rfl
 ·show sA K2 x (((64*n:Nat):Int),a8 (hsh x n))=_
  unfold sA
  exact cf (dge (by omega)) rfl
def zs (n:Nat):Nat:=(119 - n % 64) % 64
def be8 (n:Int) (k:Nat):List UInt8:=(List.range k).map λ(j:Nat)=>u8 (zY .u64 n (56 - 8*(j:Int)))
theorem zFl (n:Int) (k:Nat):(be8 n k).length=k:=by simp [be8]
theorem zGt (n:Int) (k:Nat):be8 n (k+1)=be8 n k++[u8 (zY .u64 n (56 - 8*(k:Int)))]:=by simp [be8,List.range_succ]
def zVl (b:List UInt8):Int:=IntKind.u64.wrap (IntKind.u64.wrap (b.length:Int)*8)
def fG (b:List UInt8):List UInt8:=(b++[128]++List.replicate (zs b.length) 0)++be8 (zVl b) 8
theorem fL (b:List UInt8):(fG b).length=b.length+9+zs b.length:=by simp [fG,zFl];omega
theorem bH (b:List UInt8):(fG b).length % 64=0:=by rw [fL];unfold zs;omega
theorem zEn (b:List UInt8) (hb:b.length<2 ^ 40):zG oV FU (b++[128])=some (b++[128]++List.replicate (zs b.length) 0):=by
 have hz:zs b.length<64:=by unfold zs;omega
 refine zT (zs b.length) (λi=>b++[128]++List.replicate i 0) (by simp) (λi hi=>?_) ?_ (xB (by omega))
 ·have hl:(b++[128]++List.replicate i 0).length=b.length+1+i:=by simp;omega
  unfold oV
  refine ct ?_ ?_
  ·rw [hl]
   simp only [bne_iff_ne,ne_eq]
   rw [Int.tmod_eq_emod_of_nonneg (by omega)]
   unfold zs at hi
   omega
  ·refine bd (zW (by rw [hl];simp;omega)) ?_
   rw [List.append_assoc,<- List.replicate_succ']
 ·have hl:(b++[128]++List.replicate (zs b.length) 0).length=b.length+1+zs b.length:=by simp;omega
  unfold oV
  refine cf ?_ rfl
  rw [hl]
  simp only [bne_eq_false_iff_eq]
  rw [Int.tmod_eq_emod_of_nonneg (by omega)]
  unfold zs
  omega
theorem zOv:dG=oV:=rfl
theorem zL7 (x:List UInt8) (n:Int) (hx:x.length<2 ^ 41):zG (fN n) FU (x,7)=some (x++be8 n 8):=by
 refine zT 8 (λi=>(x++be8 n i,7 - (i:Int))) (by simp [be8]) (λi hi=>?_) ?_ (xB (by decide))
 ·unfold fN
  refine ct (by simp;omega) ?_
  refine ltk ?_
  have e:IntKind.u64.wrap (8*IntKind.u64.wrap (7 - (i:Int)))=56 - 8*(i:Int):=by
   rw [zA2 (n:=7 - (i:Int)) (by omega) (by omega),zA2 (by omega) (by omega)];omega
  rw [e]
  refine bd (zW (by simp [zFl];omega)) ?_
  rw [zS (by omega) (by omega),List.append_assoc,<- zGt,show (7:Int) - (i:Int) - 1=7 - ((i+1:Nat):Int) by omega]
 ·generalize be8 n 8=S
  rfl
theorem zK3 (x:List UInt8) (n:Int) (hx:x.length<2 ^ 41):zG (kA n) FU (x,56)=some (x++be8 n 8):=by
 refine zT 8 (λi=>(x++be8 n i,56 - 8*(i:Int))) (by simp [be8]) (λi hi=>?_) ?_ (xB (by decide))
 ·unfold kA
  refine ct (by simp;omega) ?_
  rw [zA2 (n:=56 - 8*(i:Int)) (by omega) (by omega)]
  refine bd (zW (by simp [zFl];omega)) ?_
  rw [zS (by omega) (by omega),List.append_assoc,<- zGt,show (56:Int) - 8*(i:Int) - 8=56 - 8*((i+1:Nat):Int) by omega]
 ·generalize be8 n 8=S
  rfl
theorem zCj (b:List UInt8) (hb:b.length<2 ^ 40):fQ b=some (fG b):=by
 have hz:zs b.length<64:=by unfold zs;omega
 unfold fQ
 refine bd (a:=b) (by rw [zW (by simp;omega)];simp) ?_
 refine bd (zW (by simp;omega)) ?_
 refine bd (zEn b hb) ?_
 refine ltk ?_
 refine bd (zL7 _ _ (by simp;omega)) ?_
 rfl
theorem zDd (b:List UInt8) (hb:b.length<2 ^ 40):m9 b=some (fG b):=by
 have hz:zs b.length<64:=by unfold zs;omega
 unfold m9
 refine bd (a:=b.length+72) (by unfold mkN;rw [zS (by omega) (by omega),if_pos (by omega)];congr 1) ?_
 refine bd (a:=b) (by rw [zW (by simp;omega)];simp) ?_
 refine bd (zW (by simp;omega)) ?_
 rw [zOv]
 refine bd (zEn b hb) ?_
 refine ltk ?_
 refine bd (zK3 _ _ (by simp;omega)) ?_
 rfl
def be4 (w:Int):List UInt8:=[u8 (zY .u32 w 24),u8 (zY .u32 w 16),u8 (zY .u32 w 8),u8 w]
theorem zFb (l:List Int):(l.flatMap be4).length=4*l.length:=by
 induction l with
 | nil=>rfl
 | cons a r ih=>simp [ih,be4];omega
theorem zIv (l:List Int) (i:Nat) (hi:i<l.length):(l.take (i+1)).flatMap be4=(l.take i).flatMap be4++be4 (l.getD i 0):=by
 rw [List.take_add_one,List.flatMap_append]
 congr 1
 simp [hi]
theorem zNe {l:List Int} {i:Nat} (h:i<l.length):idx l (i:Int)=some (l.getD i 0):=by rw [xL h];simp [h]
theorem zGh (l:List Int) (hl:l.length<2 ^ 20):mN l=some (l.flatMap be4):=by
 have:zG (pZ l) FU ([],0)=some (l.flatMap be4):=by
  refine zT l.length (λi=>((l.take i).flatMap be4,(i:Int))) (by simp) (λi hi=>?_) ?_ (xB (by omega))
  ·unfold pZ
   refine ct (dlt hi) ?_
   refine bd (zNe hi) ?_
   refine bd (zNe hi) ?_
   refine bd (zNe hi) ?_
   refine bd (zNe hi) ?_
   refine bd (zW (by rw [zFb];simp;omega)) ?_
   rw [zIv l i hi,yE (show i<2 ^ 40 by omega)]
   rfl
  ·unfold pZ
   refine cf (dge (Nat.le_refl _)) ?_
   simp
 unfold mN
 exact bd this rfl
theorem zEu (l:List Int) (hl:l.length<2 ^ 20):s7 l=some (l.flatMap be4):=by
 have:zG (sQ l) FU ([],0)=some (l.flatMap be4):=by
  refine zT l.length (λi=>((l.take i).flatMap be4,(i:Int))) (by simp) (λi hi=>?_) ?_ (xB (by omega))
  ·unfold sQ
   refine ct (dlt hi) ?_
   refine bd (zNe hi) ?_
   refine bd (zW (by rw [zFb];simp;omega)) ?_
   rw [zIv l i hi,yE (show i<2 ^ 40 by omega)]
   rfl
  ·unfold sQ
   refine cf (dge (Nat.le_refl _)) ?_
   simp
 unfold s7
 refine bd (a:=4*l.length) (by unfold mkN;rw [zS (by omega) (by omega),if_pos (by omega)];congr 1) ?_
 exact bd this rfl
def sha (b:List UInt8):List UInt8:=(a8 (hsh (fG b) ((fG b).length / 64))).flatMap be4
theorem iC (b:List UInt8):(sha b).length=32:=by unfold sha;rw [zFb];rfl
theorem zBx (b:List UInt8) (hb:b.length<2 ^ 40):xO b=some (sha b):=by
 have hz:zs b.length<64:=by unfold zs;omega
 have h1:=fL b
 have h2:=bH b
 unfold xO
 refine bd zFg ?_
 refine bd (ckT rfl) ?_
 refine bd (zCj b hb) ?_
 refine bd (zH8 (fG b) ((fG b).length / 64) (by omega) (by omega)) ?_
 refine bd (ckT rfl) ?_
 refine bd (zGh _ (by simp [a8])) ?_
 rfl
theorem zJi (b:List UInt8) (hb:b.length<2 ^ 40):wD 1 b=some (sha b):=by
 have hz:zs b.length<64:=by unfold zs;omega
 have h1:=fL b
 have h2:=bH b
 unfold wD
 refine cf rfl ?_
 refine ct rfl ?_
 refine bd (zDd b hb) ?_
 refine bd (zH7 (fG b) ((fG b).length / 64) (by omega) (by omega)) ?_
 refine bd (zEu _ (by simp)) ?_
 rfl
end Go.Proofs.TT
namespace Go.Proofs.TT
open Go Go.Sw
set_option maxRecDepth 100000
def hd4 (n:Nat):List UInt8:=[u8 (zY .i64 (n:Int) 24),u8 (zY .i64 (n:Int) 16),u8 (zY .i64 (n:Int) 8),u8 (n:Int)]
theorem zTr (n:Nat) (h:n<2 ^ 32):[u8 (zY .u32 (IntKind.u32.wrap (n:Int)) 24),u8 (zY .u32 (IntKind.u32.wrap (n:Int)) 16),u8 (zY .u32 (IntKind.u32.wrap (n:Int)) 8),u8 (IntKind.u32.wrap (n:Int))]=hd4 n:=by
 rw [zU3 (by omega) (by omega)]
 rfl
def zKu (fs:List (List UInt8)):List UInt8:=fs.flatMap λf=>hd4 f.length++f
def frm (tag:Int) (fs:List (List UInt8)):List UInt8:=u8 tag :: zKu fs
def tot (fs:List (List UInt8)):Nat:=(fs.map λf=>4+f.length).sum
theorem zMl (fs:List (List UInt8)):(zKu fs).length=tot fs:=by
 induction fs with
 | nil=>rfl
 | cons f r ih=>simp only [zKu,tot,List.flatMap_cons,List.length_append,List.map_cons,List.sum_cons] at ih ⊢;rw [ih];simp [hd4]
theorem zB8 (tag:Int) (fs:List (List UInt8)):(frm tag fs).length=1+tot fs:=by simp [frm,zMl];omega
theorem zGi (tag:Int) (fs:List (List UInt8)) (i:Nat) (hi:i<fs.length):frm tag (fs.take (i+1))=(frm tag (fs.take i)++hd4 (fs[i]).length)++fs[i]:=by
 unfold frm zKu
 rw [List.take_add_one,List.flatMap_append]
 simp [hi]
theorem zNj (fs:List (List UInt8)):∀ i,tot (fs.take i)<=tot fs:=by
 induction fs with
 | nil=>intro i;simp
 | cons f r ih=>
  intro i
  cases i with
  | zero=>simp [tot]
  | succ j=>have:=ih j;simp only [tot,List.take_succ_cons,List.map_cons,List.sum_cons] at this ⊢;omega
theorem zI7 (fs:List (List UInt8)):fs.length<=tot fs:=by
 induction fs with
 | nil=>simp
 | cons f r ih=>simp only [tot,List.length_cons,List.map_cons,List.sum_cons] at ih ⊢;omega
theorem zI2 (fs:List (List UInt8)) (i:Nat) (hi:i<fs.length):tot (fs.take i)+4+(fs[i]).length<=tot fs:=by
 have h:=zNj fs (i+1)
 have e:tot (fs.take (i+1))=tot (fs.take i)+(4+(fs[i]).length):=by
  unfold tot
  rw [List.take_add_one,List.map_append,List.sum_append]
  simp only [hi,List.getElem?_eq_getElem,Option.toList_some,List.map_cons,List.map_nil,List.sum_cons,List.sum_nil]
  omega
 omega
theorem zKc (tag:Int) (fs:List (List UInt8)) (h:tot fs<2 ^ 32):jJ tag fs=some (frm tag fs):=by
 have h1:=zI7 fs
 have:zG (oH fs) FU ([u8 tag],0)=some (frm tag fs):=by
  refine zT fs.length (λi=>(frm tag (fs.take i),(i:Int))) (by simp [frm,zKu]) (λi hi=>?_) ?_ (xB (by omega))
  ·have h2:=zI2 fs i hi
   have h3:=zB8 tag (fs.take i)
   unfold oH
   refine ct (dlt hi) ?_
   refine bd (xL hi) ?_
   refine bd (zW (by simp;omega)) ?_
   refine bd (xL hi) ?_
   refine bd (zW (by simp;omega)) ?_
   rw [zGi tag fs i hi,yE (show i<2 ^ 40 by omega)]
   rfl
  ·unfold oH
   refine cf (dge (Nat.le_refl _)) ?_
   simp
 unfold jJ
 exact bd this rfl
theorem zKi (tag:Int) (fs:List (List UInt8)) (h:tot fs<2 ^ 32):nS tag fs=some (frm tag fs):=by
 have h1:=zI7 fs
 have:zG (rF fs) FU ([u8 tag],0)=some (frm tag fs):=by
  refine zT fs.length (λi=>(frm tag (fs.take i),(i:Int))) (by simp [frm,zKu]) (λi hi=>?_) ?_ (xB (by omega))
  ·have h2:=zI2 fs i hi
   have h3:=zB8 tag (fs.take i)
   unfold rF
   refine ct (dlt hi) ?_
   refine bd (xL hi) ?_
   rw [zTr _ (by omega)]
   refine bd (zW (by simp [hd4];omega)) ?_
   refine bd (zW (by simp [hd4];omega)) ?_
   rw [zGi tag fs i hi,yE (show i<2 ^ 40 by omega)]
  ·unfold rF
   refine cf (dge (Nat.le_refl _)) ?_
   simp
 unfold nS
 exact bd this rfl
def hs (tag:Int) (fs:List (List UInt8)):List UInt8:=sha (frm tag fs)
theorem zAd (tag:Int) (fs:List (List UInt8)):(hs tag fs).length=32:=iC _
theorem mZ (tag:Int) (fs:List (List UInt8)) (h:tot fs<2 ^ 32):u5 tag fs=some (hs tag fs):=by
 unfold u5
 refine bd (zKc tag fs h) ?_
 exact bd (zBx _ (by rw [zB8];omega)) rfl
theorem mR (tag:Int) (fs:List (List UInt8)) (h:tot fs<2 ^ 32):wN tag fs=some (hs tag fs):=by
 unfold wN
 refine bd (zKi tag fs h) ?_
 exact bd (zJi _ (by rw [zB8];omega)) rfl
def beN (n:Int) (size k:Nat):List UInt8:=(List.range k).map λ(j:Nat)=>u8 (zY .u64 (IntKind.u64.wrap n) (8*((size:Int) - 1 - (j:Int))))
theorem zFy (n:Int) (size k:Nat):(beN n size k).length=k:=by simp [beN]
theorem zHv (n:Int) (size k:Nat):beN n size (k+1)=beN n size k++[u8 (zY .u64 (IntKind.u64.wrap n) (8*((size:Int) - 1 - (k:Int))))]:=by simp [beN,List.range_succ]
def dH (b:List UInt8) (size:Nat) (n:Int):List UInt8:=b++beN n size size
theorem zU (b:List UInt8) (size:Nat) (n:Int):(dH b size n).length=b.length+size:=by simp [dH,zFy]
theorem vL (b:List UInt8) (size:Nat) (n:Int) (h1:1<=size) (h8:size<=8) (hb:b.length<2 ^ 40):xI b (size:Int) n=some (dH b size n):=by
 have:zG (nX n) FU (b,(size:Int) - 1)=some (dH b size n):=by
  refine zT size (λi=>(b++beN n size i,(size:Int) - 1 - (i:Int))) (by simp [beN]) (λi hi=>?_) ?_ (xB (by omega))
  ·unfold nX
   refine ct (by simp;omega) ?_
   refine ltk ?_
   rw [zA2 (n:=(size:Int) - 1 - (i:Int)) (by omega) (by omega),zA2 (n:=8*((size:Int) - 1 - (i:Int))) (by omega) (by omega)]
   refine bd (zW (by simp [zFy];omega)) ?_
   rw [zS (by omega) (by omega),List.append_assoc,<- zHv,show (size:Int) - 1 - (i:Int) - 1=(size:Int) - 1 - ((i+1:Nat):Int) by omega]
  ·unfold nX
   refine cf (by simp;omega) rfl
 unfold xI
 refine bd (a:=b) (by rw [zW (by simp;omega)];simp) ?_
 refine bd (a:=false) (cf (by simp;omega) (congrArg some (by simp;omega))) ?_
 rw [zS (by omega) (by omega)]
 exact bd this rfl
theorem sH (b:List UInt8) (size:Nat) (n:Int) (h1:1<=size) (h8:size<=8) (hb:b.length<2 ^ 40):rS b (size:Int) n=some (dH b size n):=by
 have:zG (n7 n) FU (b,(size:Int) - 1)=some (dH b size n):=by
  refine zT size (λi=>(b++beN n size i,(size:Int) - 1 - (i:Int))) (by simp [beN]) (λi hi=>?_) ?_ (xB (by omega))
  ·unfold n7
   refine ct (by simp;omega) ?_
   refine ltk ?_
   rw [zS (n:=8*((size:Int) - 1 - (i:Int))) (by omega) (by omega),zA2 (n:=8*((size:Int) - 1 - (i:Int))) (by omega) (by omega)]
   refine bd (zW (by simp [zFy];omega)) ?_
   rw [zS (by omega) (by omega),List.append_assoc,<- zHv,show (size:Int) - 1 - (i:Int) - 1=(size:Int) - 1 - ((i+1:Nat):Int) by omega]
  ·unfold n7
   refine cf (by simp;omega) rfl
 unfold rS
 refine bd (a:=b) (by rw [zW (by simp;omega)];simp) ?_
 refine bd (a:=false) (cf (by simp;omega) (congrArg some (by simp;omega))) ?_
 rw [zS (by omega) (by omega)]
 exact bd this rfl
def bG (b x:List UInt8):List UInt8:=dH b 2 ((x.take 65535).length:Int)++x.take 65535
theorem uA (b x:List UInt8):(bG b x).length<=b.length+65537:=by simp [bG,zU];omega
theorem tL (b x:List UInt8) (hb:b.length<2 ^ 39):x9 b x=some (bG b x):=by
 unfold x9
 refine bd (a:=x.take 65535) ?_ ?_
 ·by_cases h:65535<x.length
  ·refine ct (by simp;omega) ?_
   exact bd (a:=x.take 65535) (by rw [show (0:Int)=((0:Nat):Int) from rfl,show (65535:Int)=((65535:Nat):Int) from rfl,tX (by omega) (by omega)];simp) rfl
  ·refine cf (by simp;omega) ?_
   rw [List.take_of_length_le (by omega)]
 ·refine bd (vL b 2 _ (by omega) (by omega) (by omega)) ?_
  refine bd (zW (by rw [zU];simp;omega)) ?_
  rfl
theorem aX (b x:List UInt8) (hb:b.length<2 ^ 39):k8 b x=some (bG b x):=by
 unfold k8
 refine bd (a:=x.take 65535) ?_ ?_
 ·by_cases h:65535<x.length
  ·rw [if_pos (by omega),show (0:Int)=((0:Nat):Int) from rfl,show (65535:Int)=((65535:Nat):Int) from rfl,tX (by omega) (by omega)];simp
  ·rw [if_neg (by omega),show (0:Int)=((0:Nat):Int) from rfl,tX (by omega) (by omega)]
   simp
   rw [List.take_of_length_le (by omega)]
 ·refine bd (sH b 2 _ (by omega) (by omega) (by omega)) ?_
  refine bd (zW (by rw [zU];simp;omega)) ?_
  rfl
theorem zGz (a b:List UInt8) (ha:a.length<2 ^ 40):kJ a b=some (a==b):=by
 unfold kJ
 by_cases h:a.length=b.length
 ·refine cf (by simp;omega) ?_
  have:∃ r,zG (pJ a b) FU 0=some r/\(match r with | .inl r=>r=false/\a≠b | .inr _=>a=b):=by
   refine zAi (λs=>∃ k:Nat,s=(k:Int)/\k<=a.length/\a.take k=b.take k) (λs=>a.length - s.toNat) _ (λs hs=>?_) FU 0 ⟨0,rfl,by omega,by simp⟩ (xB (by omega))
   obtain ⟨k,rfl,hk,he⟩:=hs
   by_cases hk2:k<a.length
   ·by_cases hv:a[k]=b[k]
    ·refine .inl ⟨((k+1:Nat):Int),?_,⟨k+1,rfl,by omega,?_⟩,by simp;omega⟩
     ·unfold pJ
      refine ct (dlt hk2) ?_
      refine bd (xL hk2) ?_
      refine bd (xL (h▸hk2)) ?_
      refine cf (by rw [hv];simp) ?_
      rw [yE (by omega)]
     ·rw [List.take_add_one,List.take_add_one,he]
      simp [hk2,hv,h▸hk2]
    ·refine .inr ⟨.inl false,?_,rfl,λe=>hv (by subst e;rfl)⟩
     unfold pJ
     refine ct (dlt hk2) ?_
     refine bd (xL hk2) ?_
     refine bd (xL (h▸hk2)) ?_
     refine ct ?_ rfl
     simp only [bne_iff_ne,ne_eq]
     intro e
     exact hv (UInt8.toNat_inj.mp (by omega))
   ·refine .inr ⟨.inr (),?_,?_⟩
    ·unfold pJ
     exact cf (dge (by omega)) rfl
    ·have e1:a.take k=a:=List.take_of_length_le (by omega)
     have e2:b.take k=b:=List.take_of_length_le (by omega)
     rw [e1,e2] at he
     exact he
  obtain ⟨r,h1,h2⟩:=this
  refine bd h1 ?_
  cases r with
  | inl r=>obtain ⟨rfl,h3⟩:=h2;simp [h3]
  | inr u=>simp [h2]
 ·refine ct (by simp;omega) ?_
  have:a≠b:=λe=>h (by rw [e])
  simp [this]
theorem zHk (a b:List UInt8):tP a b=some (a==b):=rfl
theorem eM (b:List UInt8) (h:b.length<2 ^ 40):vX b=some b:=by
 unfold vX
 refine bd (zW (by simp;omega)) ?_
 simp
end Go.Proofs.TT
namespace Go.Proofs.TT
open Go Go.Sw
set_option maxRecDepth 100000
structure RS where
 b:List UInt8
 at':Nat
 e:Int
def RS.W (r:RS):wire_Reader:=⟨r.b,(r.at':Int),r.e⟩
def RS.Ok (r:RS):Prop:=r.at'<=r.b.length/\r.b.length<2 ^ 40
def RS.err (r:RS) (e:Int):RS:=⟨r.b,r.at',e⟩
def RS.to (r:RS) (n:Nat):RS:=⟨r.b,r.at'+n,r.e⟩
def RS.left (r:RS):Nat:=r.b.length - r.at'
def RS.get (r:RS) (n:Nat):List UInt8:=(r.b.drop r.at').take n
theorem RS.get_len (r:RS) (n:Nat) (h:n<=r.left):(r.get n).length=n:=by simp [RS.get,RS.left] at *;omega
def pP (r:RS) (n:Nat):List UInt8×RS:=if r.e≠0 then ([],r) else if r.left<n then ([],r.err 2) else (r.get n,r.to n)
def beV (l:List UInt8):Nat->Int
 | 0=>0
 | k+1=>ior .u64 (uT .u64 (beV l k) 8) (IntKind.u64.wrap ((l.getD k 0).toNat:Int))
def yI (r:RS) (n:Nat):Int×RS:=
 if r.e≠0 then (0,r) else if r.left<n then (0,r.err 2) else if 9223372036854775808<=beV (r.get n) n then (0,r.err 4) else (IntKind.i64.wrap (beV (r.get n) n),r.to n)
def v2 (r:RS):Nat:=(r.b.getD r.at' 0).toNat*256+(r.b.getD (r.at'+1) 0).toNat
def xU (r:RS) (most:Nat):List UInt8×RS:=
 if r.e≠0 then ([],r) else if r.left<2 then ([],r.err 2) else if most<v2 r then ([],r.err 4) else if r.left<2+v2 r then ([],r.err 2) else ((r.b.drop (r.at'+2)).take (v2 r),r.to (2+v2 r))
def aQ (r:RS):Int:=if r.e=0/\0<r.left then 3 else r.e
theorem zCc (r:RS) (n:Nat) (h:r.Ok):(pP r n).2.Ok:=by
 unfold pP
 split
 ·exact h
 split
 ·exact h
 ·obtain ⟨h1,h2⟩:=h
  exact ⟨by simp only [RS.to,RS.left] at *;omega,h2⟩
theorem vC (r:RS) (n:Nat) (h:r.Ok):(yI r n).2.Ok:=by
 unfold yI
 split
 ·exact h
 split
 ·exact h
 split
 ·exact h
 ·obtain ⟨h1,h2⟩:=h
  exact ⟨by simp only [RS.to,RS.left] at *;omega,h2⟩
theorem kM (r:RS) (n:Nat) (h:r.Ok):(xU r n).2.Ok:=by
 unfold xU
 split
 ·exact h
 split
 ·exact h
 split
 ·exact h
 split
 ·exact h
 ·obtain ⟨h1,h2⟩:=h
  exact ⟨by simp only [RS.to,RS.left] at *;omega,h2⟩
theorem zIz (r:RS) (h:r.Ok):IntKind.i64.wrap ((r.b.length:Int) - (r.at':Int))=(r.left:Int):=by
 obtain ⟨h1,h2⟩:=h
 rw [zS (by omega) (by omega)]
 simp only [RS.left];omega
theorem zHf (r:wire_Reader) (a n:Nat) (h1:a<=r.b_.length) (h2:r.b_.length<2 ^ 40) (hn:r.b_.length - a<n):yF r (a:Int) (n:Int)=some ([],2,r):=by
 unfold yF
 refine ct ?_ rfl
 rw [zS (by omega) (by omega)]
 simp;omega
theorem zEs (r:wire_Reader) (a n:Nat) (h2:r.b_.length<2 ^ 40) (hn:a+n<=r.b_.length):yF r (a:Int) (n:Int)=some ((r.b_.drop a).take n,0,r):=by
 unfold yF
 refine cf ?_ ?_
 ·rw [zS (by omega) (by omega)]
  simp;omega
 ·refine bd (a:=(r.b_.drop a).take n) ?_ rfl
  rw [zS (by omega) (by omega),show (a:Int)+(n:Int)=((a+n:Nat):Int) by omega,tX (by omega) (by omega),Nat.add_sub_cancel_left]
theorem zFc (r:RS) (n:Nat) (h:r.Ok) (hn:r.left<n):yF r.W (r.at':Int) (n:Int)=some ([],2,r.W):=zHf r.W r.at' n h.1 h.2 hn
theorem zCr (r:RS) (n:Nat) (h:r.Ok) (hn:n<=r.left):yF r.W (r.at':Int) (n:Int)=some (r.get n,0,r.W):=
 zEs r.W r.at' n h.2 (by have:=h.1;simp only [RS.left] at hn;show r.at'+n<=r.b.length;omega)
theorem b0 {e:Int} (h:e=0):(e != 0)=false:=by subst h;rfl
theorem b1 {e:Int} (h:e≠0):(e != 0)=true:=by simp [h]
theorem c0 {e:Int} (h:e=0):(e==0)=true:=by subst h;rfl
theorem c1 {e:Int} (h:e≠0):(e==0)=false:=by simp [h]
theorem zLp (n:Nat):decide ((n:Int)<0)=false:=by simp
theorem fA (r:RS) (n:Nat) (h:r.Ok):w8 r.W (n:Int)=some ((pP r n).1,(pP r n).2.W):=by
 unfold w8
 by_cases he:r.e=0
 ·refine cf (b0 he) ?_
  refine cf (zLp n) ?_
  by_cases hn:r.left<n
  ·refine bd (zFc r n h hn) ?_
   refine ct rfl ?_
   rw [show pP r n=([],r.err 2) by simp [pP,he,hn]]
   rfl
  ·refine bd (zCr r n h (by omega)) ?_
   refine cf rfl ?_
   have hl:=RS.get_len r n (by omega)
   obtain ⟨h1,h2⟩:=h
   refine bd (a:=r.get n) (by rw [zW (by simp;simp only [RS.left] at hn;omega)];simp) ?_
   show some (r.get n,(⟨r.b,IntKind.i64.wrap ((r.at':Int)+(n:Int)),r.e⟩:wire_Reader))=_
   have hn':=hn
   simp only [RS.left] at hn'
   rw [zS (by omega) (by omega),show (r.at':Int)+(n:Int)=((r.at'+n:Nat):Int) by omega]
   rw [show pP r n=(r.get n,r.to n) by simp [pP,he,hn]]
   rfl
 ·refine ct (b1 he) ?_
  rw [show pP r n=([],r) by simp [pP,he]]
theorem zUr (l:List UInt8) (hl:l.length<2 ^ 40):zG (vU l) FU (0,0)=some (beV l l.length):=by
 refine zT l.length (λi=>(beV l i,(i:Int))) rfl (λi hi=>?_) ?_ (xB (by omega))
 ·unfold vU
  refine ct (dlt hi) ?_
  refine bd (xL hi) ?_
  refine ltk ?_
  rw [yE (show i<2 ^ 40 by omega)]
  simp [beV,hi]
 ·unfold vU
  exact cf (dge (Nat.le_refl _)) rfl
theorem xE (r:RS) (n:Nat) (h:r.Ok) (h1:1<=n) (h8:n<=8):yG r.W (n:Int)=some ((yI r n).1,(yI r n).2.W):=by
 unfold yG
 by_cases he:r.e=0
 ·refine cf (b0 he) ?_
  refine bd (a:=false) (cf (by simp;omega) (congrArg some (by simp;omega))) ?_
  refine cf rfl ?_
  by_cases hn:r.left<n
  ·refine bd (zFc r n h hn) ?_
   refine ct rfl ?_
   rw [show yI r n=(0,r.err 2) by simp [yI,he,hn]]
   rfl
  ·refine bd (zCr r n h (by omega)) ?_
   refine cf rfl ?_
   have hl:=RS.get_len r n (by omega)
   refine bd (a:=beV (r.get n) n) ((zUr _ (by omega)).trans (by rw [hl])) ?_
   by_cases hv:9223372036854775808<=beV (r.get n) n
   ·refine ct (by simp;omega) ?_
    rw [show yI r n=(0,r.err 4) by simp [yI,he,hn,hv]]
    rfl
   ·refine cf (by simp;omega) ?_
    obtain ⟨h1,h2⟩:=h
    show some (_,(⟨r.b,IntKind.i64.wrap ((r.at':Int)+(n:Int)),r.e⟩:wire_Reader))=_
    have hn':=hn
    simp only [RS.left] at hn'
    rw [zS (n:=(r.at':Int)+(n:Int)) (by omega) (by omega),show (r.at':Int)+(n:Int)=((r.at'+n:Nat):Int) by omega]
    rw [show yI r n=(IntKind.i64.wrap (beV (r.get n) n),r.to n) by simp [yI,he,hn,hv]]
    rfl
 ·refine ct (b1 he) ?_
  rw [show yI r n=(0,r) by simp [yI,he]]
theorem zVc (x y:UInt8):ior .i64 (uT .i64 (IntKind.i64.wrap (x.toNat:Int)) 8) (IntKind.i64.wrap (y.toNat:Int))=((x.toNat*256+y.toNat:Nat):Int):=by
 have hx:=x.toNat_lt
 have hy:=y.toNat_lt
 rw [zS (by omega) (by omega),zS (by omega) (by omega)]
 have e1:uT .i64 (x.toNat:Int) 8=((x.toNat*256:Nat):Int):=by
  show IntKind.i64.wrap ((x.toNat:Int)*256)=_
  rw [zS (by omega) (by omega)];omega
 rw [e1]
 unfold ior
 have e2:(BitVec.ofInt IntKind.i64.bits ((x.toNat*256:Nat):Int) ||| BitVec.ofInt IntKind.i64.bits (y.toNat:Int)).toNat=x.toNat*256+y.toNat:=by
  show (BitVec.ofInt 64 ((x.toNat*256:Nat):Int) ||| BitVec.ofInt 64 (y.toNat:Int)).toNat=_
  rw [BitVec.ofInt_natCast,BitVec.ofInt_natCast,BitVec.toNat_or,BitVec.toNat_ofNat,BitVec.toNat_ofNat,Nat.mod_eq_of_lt (by omega),Nat.mod_eq_of_lt (by omega)]
  rw [Nat.mul_comm,show (256:Nat)=2 ^ 8 from rfl,<- Nat.two_pow_add_eq_or_of_lt (by omega)]
 rw [e2,zS (by omega) (by omega)]
theorem ig {l:List UInt8} {i:Nat} (h:i<l.length):idx l (i:Int)=some (l.getD i 0):=by rw [xL h];simp [h]
theorem s8 (r:RS) (m:Nat) (h:r.Ok):xH r.W (m:Int)=some ((xU r m).1,(xU r m).2.W):=by
 have hv:v2 r<65536:=by
  have h1:=(r.b.getD r.at' 0).toNat_lt
  have h2:=(r.b.getD (r.at'+1) 0).toNat_lt
  unfold v2;omega
 unfold xH
 by_cases he:r.e=0
 ·refine cf (b0 he) ?_
  by_cases hn:r.left<2
  ·refine bd (zFc r 2 h hn) ?_
   refine ct rfl ?_
   rw [show xU r m=([],r.err 2) by simp [xU,he,hn]]
   rfl
  ·refine bd (zCr r 2 h (by omega)) ?_
   refine cf rfl ?_
   have hl:=RS.get_len r 2 (by omega)
   have hn':=hn
   simp only [RS.left] at hn'
   refine bd (a:=r.b.getD r.at' 0) ?_ ?_
   ·refine (ig (l:=r.get 2) (i:=0) (by omega)).trans ?_
    simp [RS.get]
   refine bd (a:=r.b.getD (r.at'+1) 0) ?_ ?_
   ·refine (ig (l:=r.get 2) (i:=1) (by omega)).trans ?_
    simp [RS.get]
   refine ltk ?_
   rw [zVc]
   show (bif decide ((m:Int)<(v2 r:Int)) then _ else _)=_
   by_cases hm:m<v2 r
   ·refine ct (dlt hm) ?_
    rw [show xU r m=([],r.err 4) by simp [xU,he,hn,hm]]
    rfl
   ·refine cf (dge (by omega)) ?_
    obtain ⟨h1,h2⟩:=h
    have hw:IntKind.i64.wrap ((r.at':Int)+2)=(((r.at'+2:Nat)):Int):=by rw [zS (by omega) (by omega)];omega
    show ((yF r.W (IntKind.i64.wrap ((r.at':Int)+2)) (v2 r:Int)).bind _)=_
    rw [hw]
    by_cases hk:r.left<2+v2 r
    ·refine bd (a:=([],2,r.W)) ?_ ?_
     ·exact zHf r.W (r.at'+2) (v2 r) (by show r.at'+2<=r.b.length;omega) h2 (by simp only [RS.left] at hk;show r.b.length - (r.at'+2)<v2 r;omega)
     ·refine ct rfl ?_
      rw [show xU r m=([],r.err 2) by simp [xU,he,hn,hm,hk]]
      rfl
    ·have hk':=hk
     simp only [RS.left] at hk'
     refine bd (zEs r.W (r.at'+2) (v2 r) h2 (by show r.at'+2+v2 r<=r.b.length;omega)) ?_
     refine cf rfl ?_
     refine ltk ?_
     refine bd (a:=(r.b.drop (r.at'+2)).take (v2 r)) ?_ ?_
     ·refine (zW (by simp;omega)).trans ?_
      rfl
     ·show some (_,(⟨r.b,IntKind.i64.wrap ((r.at':Int)+IntKind.i64.wrap (2+(v2 r:Int))),r.e⟩:wire_Reader))=_
      rw [zS (n:=2+(v2 r:Int)) (by omega) (by omega),zS (by omega) (by omega),show (r.at':Int)+(2+(v2 r:Int))=((r.at'+(2+v2 r):Nat):Int) by omega]
      rw [show xU r m=((r.b.drop (r.at'+2)).take (v2 r),r.to (2+v2 r)) by simp [xU,he,hn,hm,hk]]
      rfl
 ·refine ct (b1 he) ?_
  rw [show xU r m=([],r) by simp [xU,he]]
theorem zA6 (r:RS) (h:r.Ok):uV r.W=some (aQ r,r.W):=by
 unfold uV
 by_cases he:r.e=0
 ·refine bd (a:=(decide (0<(r.left:Int)),r.b,(r.at':Int),r.e)) (ct (c0 he) ?_) ?_
  ·show some (decide (0<IntKind.i64.wrap ((r.b.length:Int) - (r.at':Int))),r.b,(r.at':Int),r.e)=_
   rw [zIz r h]
  ·by_cases hl:0<r.left
   ·refine ct (by simp;omega) ?_
    simp only [aQ,he,hl];rw [<- he];rfl
   ·refine cf (by simp;omega) ?_
    simp only [aQ,he,hl];rw [<- he];simp [RS.W]
 ·refine bd (a:=(false,r.b,(r.at':Int),r.e)) (cf (c1 he) rfl) ?_
  refine cf rfl ?_
  simp only [aQ,he];simp [RS.W]
end Go.Proofs.TT
namespace Go.Proofs.TT
open Go Go.Sw
set_option maxRecDepth 100000
theorem s9 (n:Nat):(u8 (n:Int)).toNat=n % 256:=by
 have:((n:Int) % 256).toNat=n % 256:=by omega
 rw [u8,this];simp
theorem zO9 (n k:Nat) (h:n<2 ^ 62) (hk:k<2 ^ 62):yR .i64 (n:Int) (k:Int)=((n &&& k:Nat):Int):=by
 have e:(BitVec.ofInt IntKind.i64.bits (n:Int) &&& BitVec.ofInt IntKind.i64.bits (k:Int)).toNat=n &&& k:=by
  show (BitVec.ofInt 64 (n:Int) &&& BitVec.ofInt 64 (k:Int)).toNat=_
  rw [BitVec.ofInt_natCast,BitVec.ofInt_natCast,BitVec.toNat_and,BitVec.toNat_ofNat,BitVec.toNat_ofNat,Nat.mod_eq_of_lt (by omega),Nat.mod_eq_of_lt (by omega)]
 unfold yR
 have h3:n &&& k<=n:=Nat.and_le_left
 rw [e,zS (by omega) (by omega)]
theorem zNv (n:Nat) (h:n<2 ^ 62):yR .i64 (n:Int) 15=((n % 16:Nat):Int):=by
 rw [show (15:Int)=((15:Nat):Int) from rfl,zO9 n 15 h (by decide),Nat.and_two_pow_sub_one_eq_mod n 4]
theorem zPh (n:Nat) (h:n<2 ^ 62):yR .i64 (n:Int) 1=((n % 2:Nat):Int):=by
 rw [show (1:Int)=((1:Nat):Int) from rfl,zO9 n 1 h (by decide),Nat.and_two_pow_sub_one_eq_mod n 1]
theorem zJw (k:IntKind) (n j:Nat) (h:j<=k.bits):zY k (n:Int) (j:Int)=((n / 2 ^ j:Nat):Int):=by
 unfold zY
 rw [Int.toNat_natCast,Nat.min_eq_left h,Int.fdiv_eq_ediv_of_nonneg _ (by have:(0:Int)<2 ^ j:=Int.pow_pos (by decide);omega)]
 rw [Int.natCast_ediv];simp
theorem zMz (x:UInt8):IntKind.i64.wrap ((u8 (zY .u8 (x.toNat:Int) 4)).toNat:Int)=((x.toNat / 16:Nat):Int):=by
 have hx:=x.toNat_lt
 rw [show (4:Int)=((4:Nat):Int) from rfl,zJw .u8 x.toNat 4 (by decide),s9,zS (by omega) (by omega)]
 omega
theorem zL9 (x:UInt8):IntKind.i64.wrap ((u8 (yR .u8 (x.toNat:Int) 15)).toNat:Int)=((x.toNat % 16:Nat):Int):=by
 have hx:=x.toNat_lt
 have e:yR .u8 (x.toNat:Int) 15=((x.toNat % 16:Nat):Int):=by
  have e:(BitVec.ofInt IntKind.u8.bits (x.toNat:Int) &&& BitVec.ofInt IntKind.u8.bits 15).toNat=x.toNat % 16:=by
   show (BitVec.ofInt 8 (x.toNat:Int) &&& BitVec.ofInt 8 ((15:Nat):Int)).toNat=_
   rw [BitVec.ofInt_natCast,BitVec.ofInt_natCast,BitVec.toNat_and,BitVec.toNat_ofNat,BitVec.toNat_ofNat,Nat.mod_eq_of_lt (by omega),Nat.mod_eq_of_lt (by omega)]
   exact Nat.and_two_pow_sub_one_eq_mod x.toNat 4
  unfold yR
  rw [e,IntKind.wrap_u8];omega
 rw [e,s9,zS (by omega) (by omega)]
 omega
def nb (x:UInt8):List Nat:=[x.toNat / 16,x.toNat % 16]
def nbs (h:List UInt8):List Nat:=h.flatMap nb
def sm (h:List UInt8):Nat:=(h.map λx=>30 - x.toNat / 16 - x.toNat % 16).sum
theorem zJc (l:List UInt8) (i:Nat) (hi:i<l.length):sm (l.take (i+1))=sm (l.take i)+(30 - l[i].toNat / 16 - l[i].toNat % 16):=by
 unfold sm
 rw [List.take_add_one,List.map_append,List.sum_append]
 simp only [hi,List.getElem?_eq_getElem,Option.toList_some,List.map_cons,List.map_nil,List.sum_cons,List.sum_nil]
 omega
theorem zG9 (l:List UInt8):sm l<=30*l.length:=by
 induction l with
 | nil=>simp [sm]
 | cons a r ih=>simp only [sm,List.map_cons,List.sum_cons,List.length_cons] at ih ⊢;omega
theorem zG4 (l:List UInt8) (i:Nat) (hi:i<l.length):nbs (l.take (i+1))=nbs (l.take i)++nb l[i]:=by
 unfold nbs
 rw [List.take_add_one,List.flatMap_append]
 simp [hi]
theorem aV (l:List UInt8):(nbs l).length=2*l.length:=by
 induction l with
 | nil=>rfl
 | cons a r ih=>simp [nbs,nb] at ih ⊢;omega
def nE (l:List Nat):List Int:=l.map λ(n:Nat)=>(n:Int)
theorem zDn (a b:List Nat):nE (a++b)=nE a++nE b:=by simp [nE]
theorem bC (a:List Nat):(nE a).length=a.length:=by simp [nE]
theorem zHe {l:List Nat} {i:Nat} (h:i<l.length):idx (nE l) (i:Int)=some ((l.getD i 0:Nat):Int):=by
 rw [xL (by rw [bC];exact h)];simp [nE,h]
theorem zOq (x:UInt8) (out:List Nat) (s:Nat) (ho:out.length<2 ^ 20) (hs:s<2 ^ 40):zG (pE x) FU (nE out,(s:Int),0)=some (nE (out++nb x),((s+(30 - x.toNat / 16 - x.toNat % 16):Nat):Int)):=by
 have hx:=x.toNat_lt
 refine zT 2 (λi=>(nE (out++(nb x).take i),((s+(if i=0 then 0 else if i=1 then 15 - x.toNat / 16 else 30 - x.toNat / 16 - x.toNat % 16):Nat):Int),(i:Int))) (by simp) (λi hi=>?_) ?_ (xB (by decide))
 ·unfold pE
  refine ct (dlt (b:=2) hi) ?_
  rw [zMz,zL9]
  rcases i with _ | _ | i
  ·refine bd (a:=((x.toNat / 16:Nat):Int)) rfl ?_
   refine bd (zW (by simp [nE];omega)) ?_
   refine ltk ?_
   have e:IntKind.i64.wrap (((s+0:Nat):Int)+IntKind.i64.wrap (15 - ((x.toNat / 16:Nat):Int)))=((s+(15 - x.toNat / 16):Nat):Int):=by
    rw [zS (n:=15 - _) (by omega) (by omega),zS (by omega) (by omega)];omega
   show some (Sum.inl (_,IntKind.i64.wrap (((s+0:Nat):Int)+IntKind.i64.wrap (15 - ((x.toNat / 16:Nat):Int))),IntKind.i64.wrap (((0:Nat):Int)+1)))=_
   rw [e,yE (by decide)]
   simp [nE,nb]
  ·refine bd (a:=((x.toNat % 16:Nat):Int)) rfl ?_
   refine bd (zW (by simp [nE];omega)) ?_
   refine ltk ?_
   have e:IntKind.i64.wrap (((s+(15 - x.toNat / 16):Nat):Int)+IntKind.i64.wrap (15 - ((x.toNat % 16:Nat):Int)))=((s+(30 - x.toNat / 16 - x.toNat % 16):Nat):Int):=by
    rw [zS (n:=15 - _) (by omega) (by omega),zS (by omega) (by omega)];omega
   show some (Sum.inl (_,IntKind.i64.wrap (((s+(15 - x.toNat / 16):Nat):Int)+IntKind.i64.wrap (15 - ((x.toNat % 16:Nat):Int))),IntKind.i64.wrap (((1:Nat):Int)+1)))=_
   rw [e,yE (by decide)]
   simp [nE,nb]
  ·omega
 ·rfl
def mG (m:List UInt8):List Nat:=nbs ((hs 4 [m]).take 16)++[sm ((hs 4 [m]).take 16) / 256,sm ((hs 4 [m]).take 16) / 16 % 16,sm ((hs 4 [m]).take 16) % 16]
theorem qD (tag:Int) (fs:List (List UInt8)):((hs tag fs).take 16).length=16:=by simp [zAd]
theorem zDu (m:List UInt8):(mG m).length=35:=by have:=qD 4 [m];simp [mG,aV,-List.length_take,this]
theorem zA3 (tag:Int) (fs:List (List UInt8)):sub (hs tag fs) 0 16=some ((hs tag fs).take 16):=by
 have:=zAd tag fs
 rw [show (0:Int)=((0:Nat):Int) from rfl,show (16:Int)=((16:Nat):Int) from rfl,tX (by omega) (by omega)];simp
theorem zOl (a:List UInt8):tot [a]=4+a.length:=by simp [tot]
theorem zJ5 (a b:List UInt8):tot [a,b]=8+a.length+b.length:=by simp [tot];omega
theorem zOs (a b c:List UInt8):tot [a,b,c]=12+a.length+b.length+c.length:=by simp [tot];omega
theorem zH0 (m:List UInt8) (hm:m.length<2 ^ 31):qX m=some (nE (mG m)):=by
 unfold qX
 refine bd (mR 4 [m] (by rw [zOl];omega)) ?_
 refine bd (zA3 4 [m]) ?_
 have hl:=qD 4 [m]
 unfold mG
 generalize (hs 4 [m]).take 16=h at hl ⊢
 have hsm:=zG9 h
 refine bd (a:=(nE (nbs h),(sm h:Int))) ?_ ?_
 ·refine zT h.length (λi=>(nE (nbs (h.take i)),(sm (h.take i):Int),(i:Int))) rfl (λi hi=>?_) ?_ (xB (by omega))
  ·have h1:=zG9 (h.take i)
   have h2:=aV (h.take i)
   have h3:(h.take i).length=i:=by simp;omega
   unfold pI
   refine ct (dlt hi) ?_
   refine bd (xL hi) ?_
   refine bd (zOq _ _ _ (by omega) (by omega)) ?_
   rw [zJc h i hi,zG4 h i hi,yE (show i<2 ^ 40 by omega)]
  ·unfold pI
   refine cf (dge (Nat.le_refl _)) ?_
   simp
 ·have h2:=aV h
  show ((zV 8 (nE (nbs h)) [zY .i64 (sm h:Int) ((8:Nat):Int),yR .i64 (zY .i64 (sm h:Int) ((4:Nat):Int)) 15,yR .i64 (sm h:Int) 15]).bind λv=>some v)=_
  rw [zJw .i64 _ 8 (by decide),zJw .i64 _ 4 (by decide),zNv _ (by omega),zNv _ (by omega)]
  refine bd (zW (by rw [bC];simp;omega)) ?_
  rw [zDn]
  rfl
theorem zH4 (m:List UInt8) (hm:m.length<2 ^ 31):lY m=some (nE (mG m)):=by
 unfold lY
 refine bd (mZ 4 [m] (by rw [zOl];omega)) ?_
 refine bd (zA3 4 [m]) ?_
 have hl:=qD 4 [m]
 unfold mG
 generalize (hs 4 [m]).take 16=h at hl ⊢
 have hsm:=zG9 h
 refine bd (a:=(nE (nbs h),(sm h:Int))) ?_ ?_
 ·refine zT 16 (λi=>(nE (nbs (h.take i)),(sm (h.take i):Int),(i:Int))) rfl (λi hi=>?_) ?_ (xB (by omega))
  ·have h1:=zG9 (h.take i)
   have h2:=aV (h.take i)
   have h3:(h.take i).length=i:=by simp;omega
   have hi':i<h.length:=by omega
   have hx:=h[i].toNat_lt
   unfold mL
   refine ct (dlt (b:=16) hi) ?_
   refine bd (xL hi') ?_
   refine bd (xL hi') ?_
   rw [zMz,zL9]
   refine bd (a:=nE (nbs (h.take (i+1)))) ?_ ?_
   ·rw [zW (by rw [bC];simp;omega),zG4 h i hi',zDn];rfl
   refine bd (xL hi') ?_
   refine ltk ?_
   refine bd (xL hi') ?_
   refine ltk ?_
   rw [zMz,zL9,zJc h i hi',yE (show i<2 ^ 40 by omega)]
   rw [zS (n:=30 - _) (by omega) (by omega),zS (n:=30 - _ - _) (by omega) (by omega),zS (by omega) (by omega)]
   congr 4
   omega
  ·unfold mL
   refine cf rfl ?_
   rw [List.take_of_length_le (by omega)]
 ·have h2:=aV h
  show ((zV 8 (nE (nbs h)) [IntKind.i64.wrap (Int.tdiv (sm h:Int) 256),Int.tmod (IntKind.i64.wrap (Int.tdiv (sm h:Int) 16)) 16,Int.tmod (sm h:Int) 16]).bind λv=>some v)=_
  have e1:IntKind.i64.wrap (Int.tdiv (sm h:Int) 256)=((sm h / 256:Nat):Int):=by rw [Int.tdiv_eq_ediv_of_nonneg (by omega),zS (by omega) (by omega)];omega
  have e2:IntKind.i64.wrap (Int.tdiv (sm h:Int) 16)=((sm h / 16:Nat):Int):=by rw [Int.tdiv_eq_ediv_of_nonneg (by omega),zS (by omega) (by omega)];omega
  have e3:Int.tmod ((sm h / 16:Nat):Int) 16=((sm h / 16 % 16:Nat):Int):=by rw [Int.tmod_eq_emod_of_nonneg (by omega)];omega
  have e4:Int.tmod (sm h:Int) 16=((sm h % 16:Nat):Int):=by rw [Int.tmod_eq_emod_of_nonneg (by omega)];omega
  rw [e1,e2,e3,e4]
  refine bd (zW (by rw [bC];simp;omega)) ?_
  rw [zDn]
  rfl
def chn (leaf c p:Nat) (x:List UInt8):Nat->List UInt8
 | 0=>x
 | k+1=>(hs 1 [[u8 (leaf:Int),u8 (c:Int),u8 ((p+k:Nat):Int)],chn leaf c p x k]).take 16
theorem lQ (leaf c p:Nat) (x:List UInt8) (hx:x.length=16):∀ k,(chn leaf c p x k).length=16
 | 0=>hx
 | _+1=>qD _ _
theorem zEo (leaf c p t:Nat) (x:List UInt8) (hx:x.length=16) (hp:p<=t) (ht:t<2 ^ 30):mB (leaf:Int) (c:Int) (p:Int) (t:Int) x=some (chn leaf c p x (t - p)):=by
 unfold mB
 refine bd ?_ rfl
 refine zT (t - p) (λi=>(chn leaf c p x i,((p+i:Nat):Int))) rfl (λi hi=>?_) ?_ (xB (by omega))
 ·have hl:=lQ leaf c p x hx i
  unfold l8
  refine ct (dlt (by omega)) ?_
  refine bd (mZ _ _ (by rw [zJ5];simp;omega)) ?_
  refine bd (zA3 _ _) ?_
  rw [yE (show p+i<2 ^ 40 by omega)]
  rfl
 ·unfold l8
  exact cf (dge (by omega)) rfl
theorem zKn (leaf c p:Nat) (x:List UInt8) (hx:x.length=16) (hp:p<=15):zG (yX (leaf:Int) (c:Int)) FU (x,(p:Int))=some (chn leaf c p x (15 - p)):=by
 refine zT (15 - p) (λi=>(chn leaf c p x i,((p+i:Nat):Int))) rfl (λi hi=>?_) ?_ (xB (by omega))
 ·have hl:=lQ leaf c p x hx i
  unfold yX
  refine bd (a:=15) rfl ?_
  refine ct (dlt (b:=15) (by omega)) ?_
  refine bd (a:=chn leaf c p x (i+1)) ?_ ?_
  ·unfold jS
   refine bd (mR _ _ (by rw [zJ5];simp;omega)) ?_
   exact bd (zA3 _ _) rfl
  ·rw [yE (show p+i<2 ^ 40 by omega)]
   rfl
 ·unfold yX
  refine bd (a:=15) rfl ?_
  exact cf (dge (b:=15) (by omega)) rfl
def nod (sig:List UInt8) (i:Nat):List UInt8:=(sig.drop (16*i)).take 16
def zFw (leaf:Nat) (d:List Nat) (sig:List UInt8):Nat->List UInt8
 | 0=>[]
 | i+1=>zFw leaf d sig i++chn leaf i (d.getD i 0) (nod sig i) (15 - d.getD i 0)
theorem zI9 (sig:List UInt8) (hs:sig.length=560) (i:Nat) (hi:i<35):(nod sig i).length=16:=by simp [nod];omega
theorem zCx (leaf:Nat) (d:List Nat) (sig:List UInt8) (hs:sig.length=560):∀ i,i<=35->(zFw leaf d sig i).length=16*i
 | 0,_=>rfl
 | i+1,h=>by
  have h1:=zCx leaf d sig hs i (by omega)
  have h2:=lQ leaf i (d.getD i 0) (nod sig i) (zI9 sig hs i (by omega)) (15 - d.getD i 0)
  simp only [zFw,List.length_append,h1,h2];omega
theorem zL6 (leaf:Nat) (d:List Nat) (sig:List UInt8) (hs:sig.length=560) (hd:d.length=35) (h15:∀ i,i<35->d.getD i 0<=15):xF (leaf:Int) sig (nE d)=some (zFw leaf d sig 35):=by
 unfold xF
 refine bd ?_ rfl
 refine zT 35 (λi=>(zFw leaf d sig i,(i:Int))) rfl (λi hi=>?_) ?_ (xB (by omega))
 ·have hl:=zCx leaf d sig hs i (by omega)
  have hn:=zI9 sig hs i hi
  have hc:=lQ leaf i (d.getD i 0) (nod sig i) hn (15 - d.getD i 0)
  unfold wK
  refine ct (dlt (b:=35) hi) ?_
  refine bd (a:=nod sig i) ?_ ?_
  ·unfold rL
   refine bd ?_ rfl
   rw [zS (n:=(i:Int)+1) (by omega) (by omega),zS (by omega) (by omega),zS (by omega) (by omega),show (i:Int)*16=((16*i:Nat):Int) by omega,show ((i:Int)+1)*16=((16*i+16:Nat):Int) by omega,tX (by omega) (by omega)]
   simp [nod]
  refine bd (a:=((d.getD i 0:Nat):Int)) ?_ ?_
  ·unfold rK
   exact bd (zHe (by omega)) rfl
  refine bd (zKn leaf i _ _ hn (h15 i hi)) ?_
  refine bd (zW (by omega)) ?_
  rw [yE (show i<2 ^ 40 by omega)]
  rfl
 ·generalize zFw leaf d sig 35=S
  rfl
theorem zSm (l:List UInt8):∀ n∈nbs l,n<=15:=by
 intro n hn
 simp only [nbs,List.mem_flatMap,nb] at hn
 obtain ⟨x,_,hx⟩:=hn
 have:=x.toNat_lt
 simp at hx
 omega
theorem zE2 (m:List UInt8):∀ i,i<35->(mG m).getD i 0<=15:=by
 intro i hi
 have hl:=zDu m
 have:(mG m).getD i 0∈mG m:=by
  rw [List.getD_eq_getElem?_getD,List.getElem?_eq_getElem (by omega)]
  exact List.getElem_mem _
 generalize (mG m).getD i 0=v at this ⊢
 unfold mG at this
 have hs':=zG9 ((hs 4 [m]).take 16)
 have hl2:=qD 4 [m]
 rw [List.mem_append] at this
 rcases this with h | h
 ·exact zSm _ _ h
 ·simp only [List.mem_cons,List.not_mem_nil,or_false] at h
  omega
def zEw (leaf:Nat) (m sig:List UInt8):List UInt8:=(hs 2 [[u8 (leaf:Int)],zFw leaf (mG m) sig 35]).take 16
theorem zHr (leaf:Nat) (m sig:List UInt8) (hl:leaf<256) (hm:m.length<2 ^ 31) (hs:sig.length=560):rB (leaf:Int) m sig=some (zEw leaf m sig,true):=by
 have he:=zCx leaf (mG m) sig hs 35 (by omega)
 unfold rB
 refine bd (a:=false) ?_ ?_
 ·refine bd (a:=true) ?_ ?_
  ·unfold kB
   refine bd (a:=true) (ct (by simp) (congrArg some (by simp;omega))) rfl
  ·refine cf rfl ?_
   simp [hs]
 refine cf rfl ?_
 refine bd (zH0 m hm) ?_
 refine bd (zL6 leaf _ sig hs (zDu m) (zE2 m)) ?_
 refine bd (a:=zEw leaf m sig) ?_ rfl
 unfold kC
 refine bd (mR _ _ (by rw [zJ5,he];simp)) ?_
 exact bd (zA3 _ _) rfl
end Go.Proofs.TT
namespace Go.Proofs.TT
open Go Go.Sw
set_option maxRecDepth 100000
def par (h i:Nat) (l r:List UInt8):List UInt8:=(hs 3 [[u8 (h:Int),u8 (i:Int)],l,r]).take 16
theorem zF8 (h i:Nat) (l r:List UInt8) (hl:l.length=16) (hr:r.length=16):lF (h:Int) (i:Int) l r=some (par h i l r):=by
 unfold lF
 refine bd (mR _ _ (by rw [zOs,hl,hr];simp)) ?_
 exact bd (zA3 _ _) rfl
theorem zOr (h i:Nat) (l r:List UInt8) (hl:l.length=16) (hr:r.length=16):eL (h:Int) (i:Int) l r=some (par h i l r):=by
 unfold eL
 refine bd (mZ _ _ (by rw [zOs,hl,hr];simp)) ?_
 exact bd (zA3 _ _) rfl
def nd (path:List (List UInt8)) (i:Nat) (leaf:List UInt8):Nat->List UInt8
 | 0=>leaf
 | k+1=>if i / 2 ^ k % 2=1 then par k (i / 2 ^ (k+1)) (path.getD k []) (nd path i leaf k) else par k (i / 2 ^ (k+1)) (nd path i leaf k) (path.getD k [])
theorem zR5 (path:List (List UInt8)) (i:Nat) (leaf:List UInt8) (hl:leaf.length=16):∀ k,(nd path i leaf k).length=16
 | 0=>hl
 | k+1=>by
  unfold nd
  split<;>exact qD _ _
theorem zMb {l:List (List UInt8)} {i:Nat} (h:i<l.length):idx l (i:Int)=some (l.getD i []):=by rw [xL h];simp [h]
theorem half (i k:Nat):i / 2 ^ k / 2=i / 2 ^ (k+1):=by rw [Nat.div_div_eq_div_mul,Nat.pow_succ]
theorem zEe (leaf:List UInt8) (i:Nat) (path:List (List UInt8)) (hl:leaf.length=16) (hp:path.length<=3) (h16:∀ k,k<path.length->(path.getD k []).length=16) (hi:i<2 ^ path.length) (h8:i<256):jZ leaf (i:Int) path=some (nd path i leaf path.length):=by
 unfold jZ
 refine bd (a:=false) ?_ ?_
 ·refine cf (by simp;omega) ?_
  refine cf (zLp i) ?_
  congr 1
  have h4:path.length=0∨path.length=1∨path.length=2∨path.length=3:=by omega
  rcases h4 with h | h | h | h<;>rw [h] at hi ⊢ <;> (rw [decide_eq_false_iff_not];show ¬ (_:Int)<=(i:Int))
  ·show ¬ (1:Int)<=i;omega
  ·show ¬ (2:Int)<=i;omega
  ·show ¬ (4:Int)<=i;omega
  ·show ¬ (8:Int)<=i;omega
 refine cf rfl ?_
 refine bd (a:=leaf) (by rw [zW (by simp;omega)];simp) ?_
 refine bd ?_ rfl
 refine zT path.length (λk=>(((i / 2 ^ k:Nat):Int),nd path i leaf k,(k:Int))) (by simp [nd]) (λk hk=>?_) ?_ (xB (by omega))
 ·have hn:=zR5 path i leaf hl k
  have hq:=h16 k hk
  have hd:i / 2 ^ k<=i:=Nat.div_le_self _ _
  unfold kD
  refine ct (dlt hk) ?_
  refine bd (zMb hk) ?_
  rw [zPh _ (by omega),show (1:Int)=((1:Nat):Int) from rfl,zJw .i64 _ 1 (by decide),Nat.pow_one,half]
  by_cases hb:i / 2 ^ k % 2=1
  ·refine bd (ct (by rw [hb];rfl) rfl) ?_
   refine bd (zF8 k _ _ _ hq hn) ?_
   rw [show ((1:Nat):Int)=1 from rfl,yE (show k<2 ^ 40 by omega)]
   simp only [nd,if_pos hb]
  ·refine bd (cf (by
            have:i / 2 ^ k % 2=0:=by omega
            rw [this];rfl) rfl) ?_
   refine bd (zF8 k _ _ _ hn hq) ?_
   rw [show ((1:Nat):Int)=1 from rfl,yE (show k<2 ^ 40 by omega)]
   simp only [nd,if_neg hb]
 ·unfold kD
  exact cf (dge (Nat.le_refl _)) rfl
def cX (sig:List UInt8) (h:Nat):List (List UInt8):=(List.range h).map λ(j:Nat)=>(sig.drop (561+16*j)).take 16
theorem fP (sig:List UInt8) (h:Nat):(cX sig h).length=h:=by simp [cX]
theorem zJ6 (sig:List UInt8) (h:Nat):cX sig (h+1)=cX sig h++[(sig.drop (561+16*h)).take 16]:=by simp [cX,List.range_succ]
theorem zO2 (sig:List UInt8) (h:Nat) (hs:sig.length=561+16*h):∀ k,k<(cX sig h).length->((cX sig h).getD k []).length=16:=by
 intro k hk
 rw [fP] at hk
 simp [cX,hk]
 omega
def vrf (pub m sig:List UInt8):Int×Bool:=
 if pub.length≠17∨3<(pub.getD 0 0).toNat then (0,false)
 else if sig.length≠561+16*(pub.getD 0 0).toNat∨2 ^ (pub.getD 0 0).toNat<=(sig.getD 0 0).toNat then (0,false)
 else if nd (cX sig (pub.getD 0 0).toNat) (sig.getD 0 0).toNat (zEw (sig.getD 0 0).toNat m ((sig.drop 1).take 560)) (pub.getD 0 0).toNat=pub.drop 1 then (((sig.getD 0 0).toNat:Int),true) else (0,false)
theorem wb (x:UInt8):IntKind.i64.wrap (x.toNat:Int)=(x.toNat:Int):=by
 have:=x.toNat_lt
 rw [zS (by omega) (by omega)]
theorem shl2 (h:Nat) (hh:h<=3):uT .i64 1 (IntKind.u64.wrap (h:Int))=((2 ^ h:Nat):Int):=by
 have h4:h=0∨h=1∨h=2∨h=3:=by omega
 rcases h4 with h | h | h | h<;>subst h<;>rfl
theorem zNf (sig:List UInt8) (h:Nat) (hs:sig.length=561+16*h) (hh:h<=3):zG sN FU ([],sig.drop 561)=some (cX sig h):=by
 refine zT h (λi=>(cX sig i,sig.drop (561+16*i))) (by simp [cX]) (λi hi=>?_) ?_ (xB (by omega))
 ·have hd:(sig.drop (561+16*i)).length=16*(h - i):=by simp;omega
  unfold sN
  refine ct (by simp;omega) ?_
  refine bd (a:=(sig.drop (561+16*i)).take 16) (by rw [show (0:Int)=((0:Nat):Int) from rfl,show (16:Int)=((16:Nat):Int) from rfl,tX (by omega) (by omega)];simp) ?_
  refine bd (zW (by rw [fP];simp;omega)) ?_
  refine bd (a:=sig.drop (561+16*(i+1))) (by rw [show (16:Int)=((16:Nat):Int) from rfl,tX (by omega) (by omega),List.drop_drop,List.take_of_length_le (by simp;omega)];congr 2) ?_
  rw [zJ6]
 ·unfold sN
  refine cf (by simp;omega) rfl
theorem zHg {l:List UInt8} {a:Nat} (h:a<=l.length):sub l (a:Int) (l.length:Int)=some (l.drop a):=by
 rw [tX h (Nat.le_refl _),List.take_of_length_le (by simp)]
theorem zH3 (pub m sig:List UInt8) (hm:m.length<2 ^ 31) (hp:pub.length<2 ^ 40) (hg:sig.length<2 ^ 40):oK pub m sig=some (vrf pub m sig):=by
 unfold oK
 by_cases hl:pub.length=17
 case neg=>
  refine bd (a:=true) (ct (by simp;omega) rfl) ?_
  refine ct rfl ?_
  rw [vrf,if_pos (.inl hl)]
 have h0:idx pub 0=some (pub.getD 0 0):=ig (i:=0) (by omega)
 by_cases h3:3<(pub.getD 0 0).toNat
 ·refine bd (a:=true) (cf (by simp;omega) ?_) ?_
  ·refine bd h0 ?_
   refine bd (a:=false) ?_ rfl
   unfold n4
   refine bd (a:=false) ?_ rfl
   rw [wb]
   refine ct (by simp) ?_
   refine congrArg some ?_
   rw [decide_eq_false_iff_not];omega
  ·refine ct rfl ?_
   rw [vrf,if_pos (.inr h3)]
 refine bd (a:=false) (cf (by simp;omega) ?_) ?_
 ·refine bd h0 ?_
  refine bd (a:=true) ?_ rfl
  unfold n4
  refine bd (a:=true) ?_ rfl
  rw [wb]
  refine ct (by simp) ?_
  refine congrArg some ?_
  rw [decide_eq_true_iff];omega
 refine cf rfl ?_
 refine bd h0 ?_
 rw [wb]
 have hx:∃ h,(pub.getD 0 0).toNat=h:=⟨_,rfl⟩
 obtain ⟨h,hx⟩:=hx
 rw [hx] at h3 ⊢
 rw [vrf,hx,if_neg (by omega)]
 have e1:IntKind.i64.wrap (561+IntKind.i64.wrap (16*(h:Int)))=((561+16*h:Nat):Int):=by rw [zS (n:=16*(h:Int)) (by omega) (by omega),zS (by omega) (by omega)];omega
 by_cases hs:sig.length=561+16*h
 case neg=>
  refine bd (a:=true) (ltk ?_) ?_
  ·rw [e1]
   exact ct (by simp;omega) rfl
  ·refine ct rfl ?_
   rw [if_pos (.inl hs)]
 have hs0:idx sig 0=some (sig.getD 0 0):=ig (i:=0) (by omega)
 have hy:∃ i,(sig.getD 0 0).toNat=i:=⟨_,rfl⟩
 obtain ⟨i,hy⟩:=hy
 have hi8:i<256:=by have:=(sig.getD 0 0).toNat_lt;omega
 by_cases hb:2 ^ h<=i
 ·refine bd (a:=true) (ltk ?_) ?_
  ·rw [e1]
   refine cf (by simp;omega) ?_
   refine bd hs0 ?_
   refine ltk ?_
   rw [wb,shl2 h (by omega),hy]
   simp;exact_mod_cast hb
  ·refine ct rfl ?_
   rw [hy,if_pos (.inr hb)]
 refine bd (a:=false) (ltk ?_) ?_
 ·rw [e1]
  refine cf (by simp;omega) ?_
  refine bd hs0 ?_
  refine ltk ?_
  rw [wb,shl2 h (by omega),hy]
  simp;exact_mod_cast (by omega:i<2 ^ h)
 refine cf rfl ?_
 refine bd hs0 ?_
 rw [wb,hy,if_neg (by omega)]
 refine bd (a:=(sig.drop 1).take 560) (tX (a:=1) (b:=561) (by omega) (by omega)) ?_
 refine bd (zHr i m _ hi8 hm (by simp;omega)) ?_
 refine cf rfl ?_
 refine bd (zHg (a:=561) (by omega)) ?_
 refine bd (zNf sig h hs (by omega)) ?_
 refine bd (zEe _ i _ (qD _ _) (by rw [fP];omega) (zO2 sig h hs) (by rw [fP];omega) hi8) ?_
 refine bd (zHg (a:=1) (by omega)) ?_
 rw [fP]
 generalize nd (cX sig h) i (zEw i m ((sig.drop 1).take 560)) h=N
 by_cases hN:N=pub.drop 1
 ·rw [if_pos hN]
  exact cf (by rw [hN];simp) rfl
 ·rw [if_neg hN]
  exact ct (by simp [-List.drop_one,hN]) rfl
end Go.Proofs.TT
namespace Go.Proofs.TT
open Go Go.Sw
set_option maxRecDepth 100000
theorem tb {α β:Type} {o:Option α} {f:α->Option β} (h:∃ a,o=some a) (k:∀ a,∃ r,f a=some r):∃ r,o.bind f=some r:=by
 obtain ⟨a,rfl⟩:=h
 exact k a
theorem tc {α:Type} {c:Bool} {a b:Option α} (h:∃ r,a=some r) (k:∃ r,b=some r):∃ r,(bif c then a else b)=some r:=by cases c<;>assumption
theorem zIl (p:api_Public):∃ e,tH p=some e:=by
 unfold tH nG
 repeat' first | exact ⟨_,rfl⟩ | refine tb ?_ (λ_=>?_) | refine tc ?_ ?_
def chk (p:api_Public):Int:=(tH p).getD 0
theorem dO (p:api_Public):tH p=some (chk p):=by
 obtain ⟨e,h⟩:=zIl p
 rw [chk,h];rfl
def enc (p:api_Public):List UInt8:=bG (bG [u8 p.Kind,u8 p.Attr,u8 p.Height] p.Policy) p.Unique
theorem zIw (p:api_Public):(enc p).length<=131077:=by
 have h1:=uA [u8 p.Kind,u8 p.Attr,u8 p.Height] p.Policy
 have h2:=uA (bG [u8 p.Kind,u8 p.Attr,u8 p.Height] p.Policy) p.Unique
 simp only [List.length_cons,List.length_nil] at h1
 unfold enc;omega
def nm (p:api_Public):List UInt8:=hs 6 [enc p]
theorem zFr (p:api_Public):fX p=some (nm p):=by
 have hl:=zIw p
 have h1:=uA [u8 p.Kind,u8 p.Attr,u8 p.Height] p.Policy
 simp only [List.length_cons,List.length_nil] at h1
 unfold fX fD
 refine bd (bd (aX _ _ (by simp)) (bd (aX _ _ (by omega)) rfl)) ?_
 exact bd (mR _ _ (by rw [zOl];show 4+(enc p).length<_;omega)) rfl
theorem zBb (p:api_Public):jW p=some (nm p):=by
 have hl:=zIw p
 have h1:=uA [u8 p.Kind,u8 p.Attr,u8 p.Height] p.Policy
 simp only [List.length_cons,List.length_nil] at h1
 unfold jW iF
 refine bd (bd (tL _ _ (by simp)) (bd (tL _ _ (by omega)) rfl)) ?_
 exact bd (mZ _ _ (by rw [zOl];show 4+(enc p).length<_;omega)) rfl
def nnc (nonce:List UInt8) (machine:Int) (log:List UInt8):List UInt8:=hs 23 [nonce,dH [] 2 machine,log]
theorem zGm (nonce:List UInt8) (machine:Int) (log:List UInt8) (h1:nonce.length<2 ^ 30) (h2:log.length<2 ^ 30):tQ nonce machine log=some (nnc nonce machine log):=by
 unfold tQ
 refine bd (sH [] 2 machine (by omega) (by omega) (by simp)) ?_
 exact bd (mR _ _ (by rw [zOs,zU];simp;omega)) rfl
theorem zEm (nonce:List UInt8) (machine:Int) (log:List UInt8) (h1:nonce.length<2 ^ 30) (h2:log.length<2 ^ 30):lH nonce machine log=some (nnc nonce machine log):=by
 unfold lH
 refine bd (vL [] 2 machine (by omega) (by omega) (by simp)) ?_
 exact bd (mZ _ _ (by rw [zOs,zU];simp;omega)) rfl
def d0 (b:List UInt8):RS:=⟨b,0,0⟩
def d1 (b:List UInt8):=pP (d0 b) 4
def d2 (b:List UInt8):=xU (d1 b).2 32
def d3 (b:List UInt8):=xU (d2 b).2 128
def d4 (b:List UInt8):=yI (d3 b).2 8
def d5 (b:List UInt8):=yI (d4 b).2 8
def d6 (b:List UInt8):=yI (d5 b).2 8
def d7 (b:List UInt8):=yI (d6 b).2 1
def d8 (b:List UInt8):=yI (d7 b).2 8
def d9 (b:List UInt8):=yI (d8 b).2 2
def d10 (b:List UInt8):=yI (d9 b).2 2
def d11 (b:List UInt8):=pP (d10 b).2 32
def tC:api_Attest:=⟨[],[],0,0,0,false,0,⟨0,0⟩,[]⟩
def att (b:List UInt8):api_Attest×Int:=
 if (d1 b).2.e≠0 then (tC,(d1 b).2.e)
 else if (d1 b).1≠[83,87,81,49] then (tC,5)
 else if aQ (d11 b).2≠0 then (tC,aQ (d11 b).2)
 else if (d2 b).1.length≠32∨1<(d7 b).1 then (tC,1)
 else (⟨(d2 b).1,(d3 b).1,(d4 b).1,(d5 b).1,(d6 b).1,(d7 b).1==1,(d8 b).1,⟨(d9 b).1,(d10 b).1⟩,(d11 b).1⟩,0)
theorem zPj (b:List UInt8) (h:b.length<2 ^ 40):(d0 b).Ok:=⟨Nat.zero_le _,h⟩
theorem zN6 (r:RS) (n:Nat):(pP r n).2.b=r.b:=by unfold pP;split<;>(try split)<;>rfl
theorem zOz (r:RS) (n:Nat):(pP r n).1.length<=r.b.length:=by
 unfold pP
 split
 ·simp
 split
 ·simp
 ·simp [RS.get];omega
theorem m5 (r:RS) (n:Nat):(yI r n).2.b=r.b:=by unfold yI;split<;>(try split)<;>(try split)<;>rfl
theorem zC1 (r:RS) (n:Nat):(xU r n).2.b=r.b:=by unfold xU;split<;>(try split)<;>(try split)<;>(try split)<;>rfl
theorem zGe (r:RS) (n:Nat):(xU r n).1.length<=r.b.length:=by
 unfold xU
 split
 ·simp
 split
 ·simp
 split
 ·simp
 split
 ·simp
 ·simp;omega
theorem zPi (b:List UInt8) (h:b.length<2 ^ 40):(d1 b).2.Ok:=zCc _ _ (zPj b h)
theorem zPk (b:List UInt8) (h:b.length<2 ^ 40):(d2 b).2.Ok:=kM _ _ (zPi b h)
theorem zPg (b:List UInt8) (h:b.length<2 ^ 40):(d3 b).2.Ok:=kM _ _ (zPk b h)
theorem zPa (b:List UInt8) (h:b.length<2 ^ 40):(d4 b).2.Ok:=vC _ _ (zPg b h)
theorem zPq (b:List UInt8) (h:b.length<2 ^ 40):(d5 b).2.Ok:=vC _ _ (zPa b h)
theorem zPl (b:List UInt8) (h:b.length<2 ^ 40):(d6 b).2.Ok:=vC _ _ (zPq b h)
theorem zPf (b:List UInt8) (h:b.length<2 ^ 40):(d7 b).2.Ok:=vC _ _ (zPl b h)
theorem zPp (b:List UInt8) (h:b.length<2 ^ 40):(d8 b).2.Ok:=vC _ _ (zPf b h)
theorem zVp (b:List UInt8) (h:b.length<2 ^ 40):(d9 b).2.Ok:=vC _ _ (zPp b h)
theorem zL1 (b:List UInt8) (h:b.length<2 ^ 40):(d10 b).2.Ok:=vC _ _ (zVp b h)
theorem zQb (b:List UInt8) (h:b.length<2 ^ 40):(d11 b).2.Ok:=zCc _ _ (zL1 b h)
theorem zOw (b:List UInt8) (h:b.length<2 ^ 40):(att b).1.Key.length<2 ^ 40/\(att b).1.Nonce.length<2 ^ 40/\(att b).1.Digest.length<2 ^ 40:=by
 have e1:(d1 b).2.b=b:=zN6 _ _
 have e2:(d2 b).2.b=b:=(zC1 _ _).trans e1
 have e3:(d3 b).2.b=b:=(zC1 _ _).trans e2
 have e4:(d4 b).2.b=b:=(m5 _ _).trans e3
 have e5:(d5 b).2.b=b:=(m5 _ _).trans e4
 have e6:(d6 b).2.b=b:=(m5 _ _).trans e5
 have e7:(d7 b).2.b=b:=(m5 _ _).trans e6
 have e8:(d8 b).2.b=b:=(m5 _ _).trans e7
 have e9:(d9 b).2.b=b:=(m5 _ _).trans e8
 have e10:(d10 b).2.b=b:=(m5 _ _).trans e9
 have l2:(d2 b).1.length<=b.length:=by have:=zGe (d1 b).2 32;rw [e1] at this;exact this
 have l3:(d3 b).1.length<=b.length:=by have:=zGe (d2 b).2 128;rw [e2] at this;exact this
 have l11:(d11 b).1.length<=b.length:=by have:=zOz (d10 b).2 32;rw [e10] at this;exact this
 unfold att
 split
 ·simp [tC]
 split
 ·simp [tC]
 split
 ·simp [tC]
 split
 ·simp [tC]
 ·exact ⟨by show (d2 b).1.length<_;omega,by show (d3 b).1.length<_;omega,by show (d11 b).1.length<_;omega⟩
theorem zRy (r:RS) (hr:r.Ok):zG sE FU (0,0,0,r.W.b_,r.W.at_,r.W.e_)=some ((yI r 2).1,(yI (yI r 2).2 2).1,(yI (yI r 2).2 2).2.W.b_,(yI (yI r 2).2 2).2.W.at_,(yI (yI r 2).2 2).2.W.e_):=by
 have h1:=vC r 2 hr
 refine zT 2 (λi=>match i with
  | 0=>((0:Int),0,0,r.W.b_,r.W.at_,r.W.e_)
  | 1=>(1,(yI r 2).1,0,(yI r 2).2.W.b_,(yI r 2).2.W.at_,(yI r 2).2.W.e_)
  | _=>(2,(yI r 2).1,(yI (yI r 2).2 2).1,(yI (yI r 2).2 2).2.W.b_,(yI (yI r 2).2 2).2.W.at_,(yI (yI r 2).2 2).2.W.e_)) rfl (λi hi=>?_) ?_ (xB (by decide))
 case refine_2=>rfl
 rcases i with _ | _ | i
 ·unfold sE
  refine ct rfl ?_
  refine bd (bd (xE r 2 hr (by omega) (by omega)) rfl) ?_
  rfl
 ·unfold sE
  refine ct rfl ?_
  refine bd (bd (xE (yI r 2).2 2 h1 (by omega) (by omega)) rfl) ?_
  rfl
 ·omega
theorem zQ9 (b:List UInt8) (h:b.length<2 ^ 40):oN b=some (att b):=by
 unfold oN
 refine bd (a:=(d0 b).W) ?_ ?_
 ·unfold mO
  refine bd (a:=b) (by rw [zW (by simp;omega)];simp) rfl
 refine bd (fA (d0 b) 4 (zPj b h)) ?_
 refine bd (a:=((d1 b).2.e,(d1 b).2.W)) rfl ?_
 unfold att
 by_cases he:(d1 b).2.e=0
 case neg=>
  rw [if_pos he]
  refine ct (b1 he) ?_
  rfl
 rw [if_neg (by simpa using he)]
 refine cf (b0 he) ?_
 by_cases hm:(d1 b).1=[83,87,81,49]
 case neg=>
  rw [if_pos hm]
  refine ct ?_ rfl
  show (!((d1 b).1==[83,87,81,49]))=true
  simp [hm]
 rw [if_neg (by simpa using hm)]
 refine cf ?_ ?_
 ·show (!((d1 b).1==[83,87,81,49]))=false
  simp [hm]
 refine bd (s8 (d1 b).2 32 (zPi b h)) ?_
 refine bd (s8 (d2 b).2 128 (zPk b h)) ?_
 refine bd (xE (d3 b).2 8 (zPg b h) (by omega) (by omega)) ?_
 refine bd (xE (d4 b).2 8 (zPa b h) (by omega) (by omega)) ?_
 refine bd (xE (d5 b).2 8 (zPq b h) (by omega) (by omega)) ?_
 refine bd (xE (d6 b).2 1 (zPl b h) (by omega) (by omega)) ?_
 refine bd (xE (d7 b).2 8 (zPf b h) (by omega) (by omega)) ?_
 refine bd (zRy (d8 b).2 (zPp b h)) ?_
 refine bd (fA (d10 b).2 32 (zL1 b h)) ?_
 refine bd (zA6 (d11 b).2 (zQb b h)) ?_
 by_cases hn:aQ (d11 b).2=0
 case neg=>
  rw [if_pos hn]
  exact ct (b1 hn) rfl
 rw [if_neg (by simpa using hn)]
 refine cf (b0 hn) ?_
 show ((bif ((d2 b).1.length:Int) != 32 then some true else some (decide (1<(d7 b).1))).bind λv=>bif v then some (tC,1) else some (api_Attest.mk (d2 b).1 (d3 b).1 (d4 b).1 (d5 b).1 (d6 b).1 ((d7 b).1==1) (d8 b).1 ⟨(d9 b).1,(d10 b).1⟩ (d11 b).1,0))=_
 by_cases hl:(d2 b).1.length=32
 ·by_cases h7:1<(d7 b).1
  ·rw [if_pos (.inr h7)]
   refine bd (a:=true) (cf (by simp;omega) (by simp;exact h7)) rfl
  ·rw [if_neg (by omega)]
   refine bd (a:=false) (cf (by simp;omega) (by simp;omega)) rfl
 ·rw [if_pos (.inl hl)]
  refine bd (a:=true) (ct (by simp;omega) rfl) rfl
end Go.Proofs.TT
namespace Go.Proofs.TT
open Go Go.Sw
set_option maxRecDepth 100000
def vq (k:api_Public) (b sig:List UInt8):api_Attest×Int×Int:=
 if chk k≠0 then (tC,0,chk k)
 else if k.Kind≠2 then (tC,0,19)
 else if yR .i64 k.Attr 4=0 then (tC,0,20)
 else if (vrf k.Unique b sig).2=false then (tC,0,17)
 else if (att b).2≠0 then (tC,0,(att b).2)
 else if (att b).1.Key≠nm k then (tC,0,16)
 else ((att b).1,(vrf k.Unique b sig).1,0)
theorem zCf (k:api_Public) (b sig:List UInt8) (hb:b.length<2 ^ 31) (hs:sig.length<2 ^ 40) (hk:k.Unique.length<2 ^ 40):sZ k b sig=some (vq k b sig):=by
 unfold sZ vq
 refine bd (dO k) ?_
 by_cases h1:chk k=0
 case neg=>rw [if_pos h1];exact ct (b1 h1) rfl
 rw [if_neg (by simpa using h1)]
 refine cf (b0 h1) ?_
 by_cases h2:k.Kind=2
 case neg=>rw [if_pos h2];exact ct (by simp [h2]) rfl
 rw [if_neg (by simpa using h2)]
 refine cf (by simp [h2]) ?_
 by_cases h3:yR .i64 k.Attr 4=0
 ·rw [if_pos h3];exact ct (by simp [h3]) rfl
 rw [if_neg h3]
 refine cf (by simp [h3]) ?_
 refine bd (zH3 k.Unique b sig hb hk hs) ?_
 generalize vrf k.Unique b sig=V
 obtain ⟨v1,v2⟩:=V
 cases v2
 ·rfl
 refine cf rfl ?_
 rw [if_neg (by simp)]
 refine bd (zQ9 b (by omega)) ?_
 generalize att b=A
 obtain ⟨a1,a2⟩:=A
 by_cases h5:a2=0
 case neg=>rw [if_pos h5];exact ct (b1 h5) rfl
 rw [if_neg (by simpa using h5)]
 refine cf (b0 h5) ?_
 refine bd (zFr k) ?_
 by_cases h6:a1.Key=nm k
 case neg=>rw [if_pos h6];exact ct (by simp [h6]) rfl
 rw [if_neg (by simpa using h6)]
 exact cf (by simp [h6]) rfl
theorem zQo (k:api_Public) (b sig:List UInt8) (hb:b.length<2 ^ 40):(vq k b sig).1.Key.length<2 ^ 40/\(vq k b sig).1.Nonce.length<2 ^ 40/\(vq k b sig).1.Digest.length<2 ^ 40:=by
 have h:=zOw b hb
 have hn:tC.Key.length<2 ^ 40/\tC.Nonce.length<2 ^ 40/\tC.Digest.length<2 ^ 40:=by simp [tC]
 unfold vq
 split
 ·exact hn
 split
 ·exact hn
 split
 ·exact hn
 split
 ·exact hn
 split
 ·exact hn
 split
 ·exact hn
 ·exact h
def qf (b sig:List UInt8):List api_Public->Int->Option api_Attest×Int
 | [],e=>(none,e)
 | k :: r,_=>if (vq k b sig).2.2=0 then (some (vq k b sig).1,0) else qf b sig r (vq k b sig).2.2
def qt (x:api_Evidence) (keys:List api_Public) (nonce:List UInt8):api_Attest×Int:=
 match qf x.Attest x.Signature keys 17 with
 | (some a,_)=>if a.Nonce=nnc nonce x.Machine x.Log then (a,0) else (tC,45)
 | (none,e)=>(tC,e)
theorem zNi (b sig:List UInt8) (hb:b.length<2 ^ 40) (a:api_Attest):∀ (ks:List api_Public) (e:Int),(qf b sig ks e).1=some a->a.Key.length<2 ^ 40/\a.Nonce.length<2 ^ 40/\a.Digest.length<2 ^ 40
 | [],e,h=>by simp [qf] at h
 | k :: r,e,h=>by
  unfold qf at h
  split at h
  ·have:=zQo k b sig hb
   simp at h
   subst h
   exact this
  ·exact zNi b sig hb a r _ h
theorem zEl {α:Type} {l:List α} {k:Nat} (h:k<l.length):l.drop k=l[k] :: l.drop (k+1):=List.drop_eq_getElem_cons h
structure EvOk (x:api_Evidence) (keys:List api_Public) (nonce:List UInt8):Prop where
 b:x.Attest.length<2 ^ 30
 s:x.Signature.length<2 ^ 30
 l:x.Log.length<2 ^ 30
 n:nonce.length<2 ^ 30
 kl:keys.length<2 ^ 30
 k:∀ p∈keys,p.Unique.length<2 ^ 40
theorem eG (x:api_Evidence) (keys:List api_Public) (nonce:List UInt8) (h:EvOk x keys nonce):pG x keys nonce=some (qt x keys nonce):=by
 unfold pG
 have:=h.kl
 obtain ⟨r,hr,hq⟩:=zAi (step:=vF x keys)
  (λs=>∃ k:Nat,s.2.1=(k:Int)/\k<=keys.length/\s.1≠0/\qf x.Attest x.Signature (keys.drop k) s.1=qf x.Attest x.Signature keys 17)
  (λs=>keys.length - s.2.1.toNat)
  (λr=>(qf x.Attest x.Signature keys 17=(none,r.1)/\r.1≠0)∨∃ a:api_Attest,qf x.Attest x.Signature keys 17=(some a,0)/\r=(0,a.Key,a.Nonce,a.Resets,a.Restarts,a.Clock,a.Safe,a.Updates,a.Selection.a0,a.Selection.a1,a.Digest))
  (λs hs=>by
   obtain ⟨e,i,f1,f2,f3,f4,f5,f6,f7,f8,f9,f10⟩:=s
   obtain ⟨k,rfl,hk,he,hq⟩:=hs
   simp only at he hq
   by_cases hk2:k<keys.length
   ·have hv:=zCf keys[k] x.Attest x.Signature (by have:=h.b;omega) (by have:=h.s;omega) (h.k _ (List.getElem_mem hk2))
    rw [zEl hk2,qf] at hq
    generalize vq keys[k] x.Attest x.Signature=V at hv hq
    obtain ⟨v1,v2,v3⟩:=V
    simp only at hq
    by_cases hz:v3=0
    ·rw [if_pos hz] at hq
     refine .inr ⟨(0,v1.Key,v1.Nonce,v1.Resets,v1.Restarts,v1.Clock,v1.Safe,v1.Updates,v1.Selection.a0,v1.Selection.a1,v1.Digest),?_,.inr ⟨_,hq.symm,rfl⟩⟩
     subst hz
     unfold vF
     refine ct (dlt hk2) ?_
     refine bd (xL hk2) ?_
     exact bd hv rfl
    ·rw [if_neg hz] at hq
     refine .inl ⟨(v3,((k+1:Nat):Int),v1.Key,v1.Nonce,v1.Resets,v1.Restarts,v1.Clock,v1.Safe,v1.Updates,v1.Selection.a0,v1.Selection.a1,v1.Digest),?_,⟨k+1,rfl,by omega,hz,hq⟩,?_⟩
     ·unfold vF
      refine ct (dlt hk2) ?_
      refine bd (xL hk2) ?_
      refine bd hv ?_
      refine cf (c1 hz) ?_
      rw [yE (by omega)]
     ·simp;omega
   ·refine .inr ⟨(e,f1,f2,f3,f4,f5,f6,f7,f8,f9,f10),?_,.inl ⟨?_,he⟩⟩
    ·unfold vF
     exact cf (dge (by omega)) rfl
    ·rw [List.drop_eq_nil_of_le (by omega)] at hq
     exact hq.symm) FU (17,0,[],[],0,0,0,false,0,0,0,[]) ⟨0,rfl,by omega,by decide,rfl⟩ (xB (by simp;omega))
 refine bd hr ?_
 unfold qt
 rcases hq with ⟨h1,h2⟩ | ⟨a,h1,h2⟩
 ·rw [h1]
  obtain ⟨e,f⟩:=r
  exact ct (b1 h2) rfl
 ·subst h2
  rw [h1]
  refine cf rfl ?_
  refine bd (zGm _ _ _ h.n h.l) ?_
  refine bd (zHk _ _) ?_
  by_cases hn:a.Nonce=nnc nonce x.Machine x.Log
  ·simp only [hn,if_pos]
   refine cf (by simp) ?_
   rw [<- hn]
  ·simp only [hn,if_false]
   exact ct (by simp [hn]) rfl
end Go.Proofs.TT
namespace Go.Sw
open Go
def Def {α:Type} (o:Option α) (P:α->Prop):Prop:=∃ a,o=some a/\P a
theorem Def.bd {α β:Type} {o:Option α} {P:α->Prop} {f:α->Option β} {Q:β->Prop} (h:Def o P) (k:∀ a,P a->Def (f a) Q):Def (o.bind f) Q:=by
 obtain ⟨a,rfl,h⟩:=h
 exact k a h
theorem Def.s {α:Type} {a:α} {Q:α->Prop} (h:Q a):Def (some a) Q:=⟨a,rfl,h⟩
theorem Def.of {α:Type} {o:Option α} {a:α} {Q:α->Prop} (e:o=some a) (h:Q a):Def o Q:=⟨a,e,h⟩
theorem Def.c {α:Type} {b:Bool} {x y:Option α} {Q:α->Prop} (h:b=true->Def x Q) (k:b=false->Def y Q):Def (bif b then x else y) Q:=by
 cases b
 ·exact k rfl
 ·exact h rfl
theorem Def.ck {b:Bool} (h:b=true):Def (Go.Sw.ck b) (λ_=>True):=⟨(),ckT h,trivial⟩
theorem Def.lt {α β:Type} {e:α} {f:α->Option β} {Q:β->Prop} (k:Def (f e) Q):Def (Go.Sw.lt e f) Q:=k
theorem Def.mono {α:Type} {o:Option α} {P Q:α->Prop} (h:Def o P) (k:∀ a,P a->Q a):Def o Q:=by
 obtain ⟨a,e,h⟩:=h
 exact ⟨a,e,k a h⟩
theorem Def.get {α:Type} {o:Option α} {P:α->Prop} (d:α) (h:Def o P):o=some (o.getD d)/\P (o.getD d):=by
 obtain ⟨a,rfl,h⟩:=h
 exact ⟨rfl,h⟩
theorem Def.loop {X Y:Type} {step:X->Option (X ⊕ Y)} {s:X} {Q:Y->Prop} (I:X->Prop) (m:X->Nat)
  (h:∀ s,I s->Def (step s) (λr=>match r with | .inl s'=>I s'/\m s'<m s | .inr r=>Q r)) (h0:I s) (hm:m s<2 ^ 64):Def (zG step FU s) Q:=by
 refine zAi I m Q (λs hs=>?_) FU s h0 (xB hm)
 obtain ⟨r,e,hr⟩:=h s hs
 cases r with
 | inl s'=>exact .inl ⟨s',e,hr.1,hr.2⟩
 | inr r=>exact .inr ⟨r,e,hr⟩
theorem Def.app {α:Type} {b:Nat} {l m:List α} (h:(l.length+m.length)*b<=140737488355328):Def (zV b l m) (λr=>r=l++m):=⟨_,zW h,rfl⟩
theorem Def.idx {α:Type} {l:List α} {i:Int} (h0:0<=i) (h:i<l.length):Def (Go.Sw.idx l i) (λr=>r∈l):=by
 obtain ⟨n,rfl⟩:=Int.eq_ofNat_of_zero_le h0
 exact ⟨_,xL (by omega),List.getElem_mem _⟩
theorem Def.sub {α:Type} {l:List α} {a b:Int} (h0:0<=a) (h1:a<=b) (h2:b<=l.length):Def (Go.Sw.sub l a b) (λr=>r=(l.drop a.toNat).take (b.toNat - a.toNat)):=by
 obtain ⟨n,rfl⟩:=Int.eq_ofNat_of_zero_le h0
 obtain ⟨m,rfl⟩:=Int.eq_ofNat_of_zero_le (by omega:0<=b)
 exact ⟨_,tX (by omega) (by omega),rfl⟩
theorem Def.ixN {n:Nat} {i:Int} (h0:0<=i) (h:i<n):Def (Go.Sw.ixN n i) (λj=>j=i.toNat/\j<n):=by
 refine ⟨i.toNat,?_,rfl,by omega⟩
 simp [Go.Sw.ixN,h0,h]
theorem Def.upd {α:Type} {l:List α} {j:Nat} {u:α} (h:j<l.length):Def (uG l j u) (λr=>r=l.set j u):=⟨_,by simp [uG,h],rfl⟩
theorem Def.at {α:Type} {l:List α} {j:Nat} (h:j<l.length):Def (l[j]?) (λr=>r∈l):=⟨l[j],by simp [h],List.getElem_mem _⟩
theorem Def.mkN {n:Int} (h0:0<=n) (h:n<2 ^ 40):Def (mkN 1 n) (λj=>j=n.toNat):=⟨n.toNat,by unfold Go.Sw.mkN;rw [if_pos ⟨h0,by omega⟩],rfl⟩
theorem zC7 {a b:Nat} (h:a=b):Nat.beq a b=true:=by subst h;exact Nat.beq_refl a
theorem cV {a b:Nat} (h:a<=b):Nat.ble a b=true:=Nat.ble_eq.mpr h
end Go.Sw
namespace Go.Proofs.TT
open Go Go.Sw
set_option maxRecDepth 100000
theorem jP (b:List UInt8) (h:b.length<2 ^ 40):Def (xO b) (λr=>r.length=32):=Def.of (zBx b h) (iC b)
theorem zN2 (key b:List UInt8) (hk:key.length<2 ^ 30) (hb:b.length<2 ^ 30):Def (aS key b) (λr=>r.length=32):=by
 unfold aS
 refine Def.bd (P:=λk=>k.length<=64) ?_ (λk hk=>?_)
 ·refine Def.c (λ_=>?_) (λh=>Def.s (by simp at h;omega))
  refine Def.bd (jP key (by omega)) (λr hr=>Def.s (by omega))
 refine Def.bd (Def.mkN (by decide) (by decide)) (λn hn=>?_)
 subst hn
 refine Def.bd (Def.mkN (by decide) (by decide)) (λn hn=>?_)
 subst hn
 refine Def.bd (P:=λr=>r.1.length=64/\r.2.length=64) ?_ (λr hr=>?_)
 ·refine Def.loop (λs=>0<=s.1/\s.1<=64/\s.2.1.length=64/\s.2.2.length=64) (λs=>(64 - s.1).toNat) (λs hs=>?_) ⟨by decide,by decide,by simp,by simp⟩ (by decide)
  obtain ⟨i,u,v⟩:=s
  obtain ⟨h0,h1,h2,h3⟩:=hs
  simp only at h0 h1 h2 h3
  unfold zBd
  refine Def.c (λh=>?_) (λh=>Def.s ⟨h2,h3⟩)
  rw [decide_eq_true_iff] at h
  refine Def.bd (P:=λ_=>True) ?_ (λx _=>?_)
  ·refine Def.c (λh=>?_) (λ_=>Def.s trivial)
   rw [decide_eq_true_iff] at h
   exact Def.bd (Def.idx h0 h) (λ_ _=>Def.s trivial)
  refine Def.bd (Def.ixN h0 (by show i<((64:Nat):Int);omega)) (λj hj=>?_)
  refine Def.bd (Def.upd (by have:=hj.2;have e:(64:Int).toNat=64:=rfl;omega)) (λu' hu=>?_)
  refine Def.bd (Def.ixN h0 (by show i<((64:Nat):Int);omega)) (λj hj=>?_)
  refine Def.bd (Def.upd (by have:=hj.2;have e:(64:Int).toNat=64:=rfl;omega)) (λv' hv=>?_)
  refine Def.s ?_
  subst hu hv
  rw [zS (by omega) (by omega)]
  simp only [List.length_set]
  omega
 obtain ⟨u,v⟩:=r
 obtain ⟨h1,h2⟩:=hr
 simp only at h1 h2
 refine Def.bd (Def.ck (zC7 h1)) (λ_ _=>?_)
 refine Def.bd (Def.ck (cV (by decide))) (λ_ _=>?_)
 refine Def.bd (Def.ck (zC7 h2)) (λ_ _=>?_)
 refine Def.bd (Def.ck (cV (by decide))) (λ_ _=>?_)
 refine Def.bd (Def.app (by omega)) (λw hw=>?_)
 have hwl:w.length=u.length+b.length:=by rw [hw];simp
 refine Def.bd (jP w (by omega)) (λr hr=>?_)
 refine Def.bd (Def.app (by omega)) (λw hw=>?_)
 have hwl:w.length=v.length+r.length:=by rw [hw];simp
 exact Def.bd (jP w (by omega)) (λr hr=>Def.s hr)
theorem zDj (key label ctx:List UInt8) (n:Int) (hk:key.length<2 ^ 30) (hl:label.length<2 ^ 20) (hc:ctx.length<2 ^ 20) (h1:1<=n) (h2:n<=1024):Def (nA key label ctx n) (λr=>r.length=n.toNat):=by
 unfold nA
 refine Def.bd (P:=λb=>b=false) (Def.c (λh=>?_) (λ_=>Def.s ?_)) (λb hb=>?_)
 ·simp at h;omega
 ·simp;omega
 subst hb
 refine Def.bd (P:=λr=>n<=r.length) ?_ (λr hr=>?_)
 ·refine Def.loop (λs=>s.1.length<=1024+32/\0<=s.2/\s.2<=2 ^ 40 - (n - s.1.length).toNat) (λs=>(n - s.1.length).toNat) (λs hs=>?_) ⟨by simp,by decide,by simp;omega⟩ (by simp;omega)
  obtain ⟨out,i⟩:=s
  obtain ⟨g1,g2,g3⟩:=hs
  simp only at g1 g2 g3
  unfold fH
  refine Def.c (λh=>?_) (λh=>Def.s (by simp at h;exact h))
  rw [decide_eq_true_iff] at h
  refine Def.bd (P:=λr=>r.length=4) (Def.s rfl) (λa ha=>?_)
  refine Def.bd (Def.app (by omega)) (λb hb=>?_)
  have hbl:b.length=a.length+label.length:=by rw [hb];simp
  refine Def.bd (Def.app (by simp;omega)) (λc hcc=>?_)
  have hcl:c.length=b.length+1:=by rw [hcc];simp
  refine Def.bd (Def.app (by omega)) (λd hd=>?_)
  have hdl:d.length=c.length+ctx.length:=by rw [hd];simp
  refine Def.bd (P:=λr=>r.length=4) (Def.s rfl) (λe he=>?_)
  refine Def.bd (Def.app (by omega)) (λf hf=>?_)
  have hfl:f.length=d.length+e.length:=by rw [hf];simp
  refine Def.bd (zN2 key f hk (by omega)) (λg hg=>?_)
  refine Def.bd (Def.app (by omega)) (λo ho=>?_)
  have hol:o.length=out.length+g.length:=by rw [ho];simp
  refine Def.s ?_
  rw [zS (by omega) (by omega)]
  simp only
  omega
 refine Def.bd (Def.sub (by decide) (by omega) hr) (λx hx=>Def.s ?_)
 rw [hx];simp;omega
end Go.Proofs.TT
namespace Go.Proofs.TT
open Go Go.Sw
set_option maxRecDepth 100000
def ls (seed:List UInt8):List UInt8:=(vQ seed 1).getD []
theorem zJl (seed:List UInt8) (h:seed.length<2 ^ 30):vQ seed 1=some (ls seed)/\(ls seed).length=32:=by
 have:Def (vQ seed 1) (λr=>r.length=32):=by
  unfold vQ
  exact Def.bd (zDj seed _ _ 32 h (by simp) (by simp) (by decide) (by decide)) (λr hr=>Def.s hr)
 exact Def.get [] this
def stt (s:List UInt8) (leaf c:Nat):List UInt8:=(rO s (leaf:Int) (c:Int)).getD []
theorem zE5 (s:List UInt8) (leaf c:Nat) (h:s.length<2 ^ 30):rO s (leaf:Int) (c:Int)=some (stt s leaf c)/\(stt s leaf c).length=16:=by
 have:Def (rO s (leaf:Int) (c:Int)) (λr=>r.length=16):=by
  unfold rO
  exact Def.bd (zDj s _ _ 16 h (by simp) (by simp) (by decide) (by decide)) (λr hr=>Def.s hr)
 exact Def.get [] this
def sU (s:List UInt8) (leaf:Nat) (d:Nat->Nat):Nat->List UInt8
 | 0=>[]
 | i+1=>sU s leaf d i++chn leaf i 0 (stt s leaf i) (d i)
theorem rW (s:List UInt8) (leaf:Nat) (d:Nat->Nat) (h:s.length<2 ^ 30):∀ i,(sU s leaf d i).length=16*i
 | 0=>rfl
 | i+1=>by
  have h1:=rW s leaf d h i
  have h2:=lQ leaf i 0 (stt s leaf i) (zE5 s leaf i h).2 (d i)
  simp only [sU,List.length_append,h1,h2];omega
def pk (s:List UInt8) (leaf:Nat):List UInt8:=(hs 2 [[u8 (leaf:Int)],sU s leaf (λ_=>15) 35]).take 16
theorem cJ (s:List UInt8) (leaf:Nat):(pk s leaf).length=16:=qD _ _
theorem zIa (s:List UInt8) (leaf:Nat) (h:s.length<2 ^ 30) (hl:leaf<=255):lM s (leaf:Int)=some (pk s leaf):=by
 unfold lM
 refine bd (a:=false) (cf (zLp leaf) (congrArg some (by simp;omega))) ?_
 refine cf rfl ?_
 refine bd (a:=sU s leaf (λ_=>15) 35) ?_ ?_
 ·refine zT 35 (λi=>(sU s leaf (λ_=>15) i,(i:Int))) rfl (λi hi=>?_) ?_ (xB (by omega))
  ·have h1:=rW s leaf (λ_=>15) h i
   obtain ⟨e,h2⟩:=zE5 s leaf i h
   have h3:=lQ leaf i 0 (stt s leaf i) h2 15
   unfold gJ
   refine ct (dlt (b:=35) hi) ?_
   refine bd e ?_
   refine bd (a:=chn leaf i 0 (stt s leaf i) 15) (zEo leaf i 0 15 _ h2 (by omega) (by omega)) ?_
   refine bd (zW (by omega)) ?_
   rw [yE (show i<2 ^ 40 by omega)]
   rfl
  ·generalize sU s leaf (λ_=>15) 35=S
   rfl
 ·refine bd (a:=pk s leaf) ?_ rfl
  have h1:=rW s leaf (λ_=>15) h 35
  unfold cM
  refine bd (mZ _ _ (by rw [zJ5,h1];simp)) ?_
  exact bd (zA3 _ _) rfl
theorem zDh (seed:List UInt8) (h:seed.length<2 ^ 30):oS seed 1=some [pk (ls seed) 0,pk (ls seed) 1]:=by
 obtain ⟨e,h2⟩:=zJl seed h
 unfold oS
 refine bd e ?_
 refine bd ?_ rfl
 generalize ls seed=s at h2
 refine zT 2 (λi=>([pk s 0,pk s 1].take i,(i:Int))) rfl (λi hi=>?_) ?_ (xB (by decide))
 ·unfold fU
  refine ct (dlt (b:=2) hi) ?_
  refine bd (zIa s i (by omega) (by omega)) ?_
  refine bd (zW (by simp;omega)) ?_
  rw [yE (show i<2 ^ 40 by omega)]
  rcases i with _ | _ | i
  ·rfl
  ·rfl
  ·omega
 ·rfl
theorem zIu (p q:List UInt8) (hp:p.length=16) (hq:q.length=16):aE 0 [p,q]=some [par 0 0 p q]:=by
 unfold aE
 refine bd ?_ rfl
 refine zT 1 (λi=>([par 0 0 p q].take i,(i:Int))) rfl (λi hi=>?_) ?_ (xB (by decide))
 ·have:i=0:=by omega
  subst this
  unfold zCb
  refine ct rfl ?_
  refine bd (a:=p) rfl ?_
  refine bd (a:=q) rfl ?_
  refine bd (zOr 0 0 p q hp hq) ?_
  exact bd (zW (by simp)) rfl
 ·rfl
theorem zMm (p q:List UInt8) (hp:p.length=16) (hq:q.length=16):eA [p,q]=some (par 0 0 p q):=by
 unfold eA
 refine bd (a:=true) rfl ?_
 refine cf rfl ?_
 refine bd (a:=[par 0 0 p q]) ?_ ?_
 ·refine zT 1 (λi=>(if i=0 then [p,q] else [par 0 0 p q],(i:Int))) rfl (λi hi=>?_) ?_ (xB (by decide))
  ·have:i=0:=by omega
   subst this
   unfold aU
   refine ct rfl ?_
   exact bd (zIu p q hp hq) rfl
  ·rfl
 ·refine bd (a:=par 0 0 p q) rfl ?_
  exact bd (eM _ (by
              have:(par 0 0 p q).length=16:=qD _ _
              omega)) rfl
def zFt (seed:List UInt8):List UInt8:=[u8 1]++par 0 0 (pk (ls seed) 0) (pk (ls seed) 1)
theorem gL (seed:List UInt8):(zFt seed).length=17:=by
 have:(par 0 0 (pk (ls seed) 0) (pk (ls seed) 1)).length=16:=qD _ _
 simp [zFt,this]
theorem zA5 (seed:List UInt8) (h:seed.length<2 ^ 30):lK seed 1=some (zFt seed):=by
 have hl:(par 0 0 (pk (ls seed) 0) (pk (ls seed) 1)).length=16:=qD _ _
 unfold lK
 refine bd (a:=false) rfl ?_
 refine cf rfl ?_
 refine bd (zDh seed h) ?_
 refine bd (zMm _ _ (cJ _ _) (cJ _ _)) ?_
 exact bd (zW (by rw [hl];decide)) rfl
theorem zNb (s:List UInt8) (leaf:Nat) (m:List UInt8) (h:s.length<2 ^ 30) (hl:leaf<=255) (hm:m.length<2 ^ 31):eD s (leaf:Int) m=some (sU s leaf (λi=>(mG m).getD i 0) 35):=by
 have hd:=zDu m
 have h15:=zE2 m
 have ed:=zH4 m hm
 unfold eD
 refine bd (a:=false) (cf (zLp leaf) (congrArg some (by simp;omega))) ?_
 refine cf rfl ?_
 refine bd ed ?_
 generalize mG m=D at hd h15
 refine bd ?_ rfl
 refine zT 35 (λi=>(sU s leaf (λi=>D.getD i 0) i,(i:Int))) rfl (λi hi=>?_) ?_ (xB (by omega))
 ·have h1:=rW s leaf (λi=>D.getD i 0) h i
  obtain ⟨e,h2⟩:=zE5 s leaf i h
  have h3:=lQ leaf i 0 (stt s leaf i) h2 (D.getD i 0)
  have h4:=h15 i hi
  unfold c9
  refine ct (dlt (b:=35) hi) ?_
  refine bd (zHe (by omega)) ?_
  refine bd e ?_
  refine bd (zEo leaf i 0 (D.getD i 0) _ h2 (by omega) (by omega)) ?_
  refine bd (zW (by rw [Nat.sub_zero];omega)) ?_
  rw [yE (show i<2 ^ 40 by omega)]
  rfl
 ·generalize sU s leaf (λi=>D.getD i 0) 35=S
  rfl
theorem zL0 (p q:List UInt8) (hp:p.length=16) (hq:q.length=16) (leaf:Nat) (hl:leaf<=1):eK (leaf:Int) [p,q]=some [if leaf=0 then q else p]:=by
 unfold eK
 have hle:leaf=0∨leaf=1:=by omega
 rcases hle with rfl | rfl
 ·refine bd (a:=false) rfl ?_
  refine cf rfl ?_
  refine bd ?_ rfl
  refine zT 1 (λi=>(0,if i=0 then [] else [q],if i=0 then [p,q] else [par 0 0 p q],(i:Int))) rfl (λi hi=>?_) ?_ (xB (by decide))
  ·have:i=0:=by omega
   subst this
   unfold iI
   refine ct rfl ?_
   refine bd (a:=q) rfl ?_
   refine bd (eM q (by omega)) ?_
   refine bd (zW (by simp)) ?_
   exact bd (zIu p q hp hq) rfl
  ·rfl
 ·refine bd (a:=false) rfl ?_
  refine cf rfl ?_
  refine bd ?_ rfl
  refine zT 1 (λi=>(if i=0 then 1 else 0,if i=0 then [] else [p],if i=0 then [p,q] else [par 0 0 p q],(i:Int))) rfl (λi hi=>?_) ?_ (xB (by decide))
  ·have:i=0:=by omega
   subst this
   unfold iI
   refine ct rfl ?_
   refine bd (a:=p) rfl ?_
   refine bd (eM p (by omega)) ?_
   refine bd (zW (by simp)) ?_
   exact bd (zIu p q hp hq) rfl
  ·rfl
def zBo (seed:List UInt8) (leaf:Nat) (m:List UInt8):List UInt8:=([u8 (leaf:Int)]++sU (ls seed) leaf (λi=>(mG m).getD i 0) 35)++(if leaf=0 then pk (ls seed) 1 else pk (ls seed) 0)
theorem zEy (seed:List UInt8) (leaf:Nat) (m:List UInt8) (h:seed.length<2 ^ 30) (hl:leaf<=1) (hm:m.length<2 ^ 31):eI seed 1 (leaf:Int) m=some (zBo seed leaf m):=by
 obtain ⟨e,h2⟩:=zJl seed h
 have hw:=rW (ls seed) leaf (λi=>(mG m).getD i 0) (by omega) 35
 unfold eI
 refine bd (a:=false) ?_ ?_
 ·refine cf rfl (cf rfl (cf (zLp leaf) (congrArg some ?_)))
  rw [show uT .i64 1 (IntKind.u64.wrap 1)=2 from rfl,decide_eq_false_iff_not];omega
 refine cf rfl ?_
 refine bd e ?_
 refine bd (zNb (ls seed) leaf m (by omega) (by omega) hm) ?_
 refine bd (zW (by rw [hw];simp)) ?_
 refine bd (zDh seed h) ?_
 refine bd (zL0 _ _ (cJ _ _) (cJ _ _) leaf hl) ?_
 refine bd ?_ rfl
 have hx:(if leaf=0 then pk (ls seed) 1 else pk (ls seed) 0).length=16:=by split<;>exact cJ _ _
 unfold zBo
 generalize (if leaf=0 then pk (ls seed) 1 else pk (ls seed) 0)=x at hx
 generalize hg:[u8 (leaf:Int)]++sU (ls seed) leaf (λi=>(mG m).getD i 0) 35=g
 have hgl:g.length=561:=by rw [<- hg,List.length_append,hw];rfl
 refine zT 1 (λi=>(if i=0 then g else g++x,(i:Int))) rfl (λi hi=>?_) ?_ (xB (by decide))
 ·have:i=0:=by omega
  subst this
  unfold aN
  refine ct rfl ?_
  refine bd (a:=x) rfl ?_
  exact bd (zW (by simp;omega)) rfl
 ·rfl
theorem zHp (seed:List UInt8) (leaf:Nat) (m:List UInt8) (h:seed.length<2 ^ 30):(zBo seed leaf m).length=577:=by
 obtain ⟨e,h2⟩:=zJl seed h
 have hw:=rW (ls seed) leaf (λi=>(mG m).getD i 0) (by omega) 35
 have hx:(if leaf=0 then pk (ls seed) 1 else pk (ls seed) 0).length=16:=by split<;>exact cJ _ _
 simp only [zBo,List.length_append,hw,hx,List.length_cons,List.length_nil]
theorem zI4 (leaf c:Nat) (x:List UInt8) (d:Nat):∀ k,chn leaf c d (chn leaf c 0 x d) k=chn leaf c 0 x (d+k)
 | 0=>rfl
 | k+1=>by
  have h:=zI4 leaf c x d k
  rw [<- Nat.add_assoc]
  simp only [chn,h,Nat.zero_add]
theorem zLc (s:List UInt8) (leaf:Nat) (d:Nat->Nat) (h:s.length<2 ^ 30):∀ n i,i<n->nod (sU s leaf d n) i=chn leaf i 0 (stt s leaf i) (d i):=by
 intro n
 induction n with
 | zero=>intro i hi;omega
 | succ n ih=>
  intro i hi
  have hl:=rW s leaf d h n
  have hc:=lQ leaf i 0 (stt s leaf i) (zE5 s leaf i h).2 (d i)
  by_cases hin:i<n
  ·rw [<- ih i hin]
   unfold nod
   show List.take 16 (List.drop (16*i) (sU s leaf d n++_))=_
   rw [List.drop_append_of_le_length (by omega),List.take_append_of_le_length (by simp;omega)]
  ·have:i=n:=by omega
   subst this
   unfold nod
   show List.take 16 (List.drop (16*i) (sU s leaf d i++_))=_
   rw [<- hl,List.drop_left,List.take_of_length_le (by omega)]
theorem zF7 (s:List UInt8) (leaf:Nat) (D:List Nat) (h:s.length<2 ^ 30) (h15:∀ i,i<35->D.getD i 0<=15):∀ n,n<=35->zFw leaf D (sU s leaf (λi=>D.getD i 0) 35) n=sU s leaf (λ_=>15) n
 | 0,_=>rfl
 | n+1,hn=>by
  have ih:=zF7 s leaf D h h15 n (by omega)
  show zFw leaf D (sU s leaf (λi=>D.getD i 0) 35) n++chn leaf n (D.getD n 0) (nod (sU s leaf (λi=>D.getD i 0) 35) n) (15 - D.getD n 0)=sU s leaf (λ_=>15) n++chn leaf n 0 (stt s leaf n) 15
  rw [ih,zLc s leaf _ h 35 n (by omega),zI4]
  have:=h15 n (by omega)
  rw [show D.getD n 0+(15 - D.getD n 0)=15 by omega]
theorem zHw (s:List UInt8) (leaf:Nat) (m:List UInt8) (h:s.length<2 ^ 30):zEw leaf m (sU s leaf (λi=>(mG m).getD i 0) 35)=pk s leaf:=by
 unfold zEw pk
 rw [zF7 s leaf (mG m) h (zE2 m) 35 (by omega)]
theorem zUc (leaf:Nat) (W x:List UInt8) (hw:W.length=560) (hx:x.length=16) (hl:leaf<=1) :
  (([u8 (leaf:Int)]++W)++x).length=577/\((([u8 (leaf:Int)]++W)++x).getD 0 0).toNat=leaf/\((([u8 (leaf:Int)]++W)++x).drop 1).take 560=W/\cX (([u8 (leaf:Int)]++W)++x) 1=[x]:=by
 refine ⟨by simp [hw,hx],?_,?_,?_⟩
 ·show (u8 (leaf:Int)).toNat=leaf
  rw [s9];omega
 ·show List.take 560 (W++x)=W
  rw [List.take_append_of_le_length (by omega),List.take_of_length_le (by omega)]
 ·show [((([u8 (leaf:Int)]++W)++x).drop (561+16*0)).take 16]=_
  rw [List.drop_append_of_le_length (by simp [hw]),List.drop_of_length_le (by simp [hw]),List.nil_append,List.take_of_length_le (by omega)]
theorem zL4 (seed:List UInt8) (leaf:Nat) (m:List UInt8) (h:seed.length<2 ^ 30) (hl:leaf<=1):vrf (zFt seed) m (zBo seed leaf m)=((leaf:Int),true):=by
 obtain ⟨e,h2⟩:=zJl seed h
 have hw:=rW (ls seed) leaf (λi=>(mG m).getD i 0) (by omega) 35
 have hr:=zHw (ls seed) leaf m (by omega)
 have hp:=gL seed
 have e0:((zFt seed).getD 0 0).toNat=1:=rfl
 have e2:(zFt seed).drop 1=par 0 0 (pk (ls seed) 0) (pk (ls seed) 1):=rfl
 have hx:(if leaf=0 then pk (ls seed) 1 else pk (ls seed) 0).length=16:=by split<;>exact cJ _ _
 unfold vrf zBo
 generalize sU (ls seed) leaf (λi=>(mG m).getD i 0) 35=W at hw hr ⊢
 obtain ⟨p1,p2,p3,p4⟩:=zUc leaf W _ hw hx hl
 rw [e0,p2,p3,p4,e2,hr,if_neg (by omega),if_neg (by omega)]
 have hle:leaf=0∨leaf=1:=by omega
 rcases hle with rfl | rfl<;>exact if_pos rfl
end Go.Proofs.TT
namespace Go.Sw
open Go
theorem fB {X Y:Type} {s1 s2:X->Option (X ⊕ Y)} (I:X->Prop) (h:∀ s,I s->s1 s=s2 s/\Def (s2 s) (λr=>∀ s',r=.inl s'->I s')):∀ (n:Nat) (s:X),I s->zG s1 n s=zG s2 n s
 | 0,_,_=>rfl
 | n+1,s,hs=>by
  obtain ⟨e,r,hr,hI⟩:=h s hs
  simp only [zG]
  rw [e,hr]
  cases r with
  | inl s'=>exact fB I h n s' (hI s' rfl)
  | inr y=>rfl
end Go.Sw
namespace Go.Proofs.TT
open Go Go.Sw
set_option maxRecDepth 100000
theorem dT {p:Prop} [Decidable p] (h:decide p=true):p:=by simpa using h
theorem dF {p:Prop} [Decidable p] (h:decide p=false):¬ p:=by simpa using h
theorem zQn (x n m:Int) (h:yR .u64 (IntKind.u64.wrap n) 31=32 - m) (hn:n=32 - m) (h0:0<=m) (h1:m<=32):zE x n=uC x n:=by
 rw [pH x n m h h0 h1]
 subst hn
 have h2:IntKind.u64.wrap (32 - (32 - m))=m:=by rw [IntKind.wrap_u64];omega
 have h4:decide ((0:Int)<=32 - m)=true:=by simp;omega
 simp only [uC,ck,lt,h2,h4,rr,cond_true,Option.bind_some]
 rw [zGo]
theorem rot1 (x:Int):zE x 1=uC x 1:=zQn x 1 31 (by decide) (by decide) (by decide) (by decide)
theorem rot5 (x:Int):zE x 5=uC x 5:=zQn x 5 27 (by decide) (by decide) (by decide) (by decide)
theorem zS3 (x:Int):zE x 30=uC x 30:=zQn x 30 2 (by decide) (by decide) (by decide) (by decide)
theorem zCk (x n:Int) (h0:0<=n):Def (uC x n) (λ_=>True):=by
 unfold uC
 refine Def.bd (Def.ck (by simpa using h0)) (λ_ _=>?_)
 exact Def.lt (Def.s trivial)
theorem w80 {w:List Int} {j:Nat} (hw:w.length=80) (hj:j<80):Def (w[j]?) (λ_=>True):=(Def.at (by omega)).mono λ_ _=>trivial
theorem ixw {j n:Nat} (hn:j<n) (z:Int) (hz:z=(j:Int)):Def (Go.Sw.ixN n z) (λr=>r=j):=by
 subst hz
 exact (Def.ixN (by omega) (by omega)).mono λa h=>by rw [h.1];simp
theorem s1_s (x:List UInt8) (at' i:Nat) (w:List Int) (h:at'+64<=x.length) (hb:x.length<2 ^ 42) (hi:i<=80) (hw:w.length=80) :
  Def (vK x (at':Int) ((i:Int),w)) (λr=>match r with | .inl s=>∃ w',s=(((i+1:Nat):Int),w')/\i<80/\w'.length=80 | .inr w=>w.length=80):=by
 unfold vK
 refine Def.c (λh=>?_) (λ_=>Def.s hw)
 have hi2:i<80:=by have:=dT h;omega
 have up:∀ v,Def ((Go.Sw.ixN 80 (i:Int)).bind λj=>(uG w j v).bind λw=>some w) (λw'=>w'.length=80):=λv=>by
  refine Def.bd (ixw hi2 _ rfl) (λj hj=>?_)
  subst hj
  exact Def.bd (Def.upd (by omega)) (λr hr=>Def.s (by rw [hr];simpa using hw))
 refine Def.bd (P:=λw'=>w'.length=80) ?_ (λw' hw'=>Def.s ⟨w',by rw [yE (by omega)],hi2,hw'⟩)
 refine Def.c (λh16=>?_) (λh16=>?_)
 ·have h16':i<16:=by have:=dT h16;omega
  rw [zS (by omega) (by omega)]
  refine Def.bd (Def.sub (by omega) (by omega) (by omega)) (λy hy=>?_)
  have hyl:y.length=64:=by rw [hy];simp;omega
  exact Def.bd (P:=λ_=>True) (Def.of (zE9 y i (by omega) (by omega)) trivial) (λv _=>up v)
 ·have h16':16<=i:=by have:=dF h16;omega
  have wr:∀ k:Nat,k<=16->IntKind.i64.wrap ((i:Int) - (k:Int))=((i - k:Nat):Int):=λk hk=>by rw [zS (by omega) (by omega)];omega
  refine Def.bd (ixw (show i - 3<80 by omega) _ (wr 3 (by omega))) (λj hj=>?_)
  refine Def.bd (w80 hw (by omega)) (λ_ _=>?_)
  refine Def.bd (ixw (show i - 8<80 by omega) _ (wr 8 (by omega))) (λj hj=>?_)
  refine Def.bd (w80 hw (by omega)) (λ_ _=>?_)
  refine Def.bd (ixw (show i - 14<80 by omega) _ (wr 14 (by omega))) (λj hj=>?_)
  refine Def.bd (w80 hw (by omega)) (λ_ _=>?_)
  refine Def.bd (ixw (show i - 16<80 by omega) _ (wr 16 (by omega))) (λj hj=>?_)
  refine Def.bd (w80 hw (by omega)) (λ_ _=>?_)
  refine Def.lt ?_
  exact Def.bd (zCk _ _ (by decide)) (λv _=>up v)
theorem s1_e (x:List UInt8) (at' i:Nat) (w:List Int) (h:at'+64<=x.length) (hb:x.length<2 ^ 42):wJ (uJ x at') ((i:Int),w)=vK x (at':Int) ((i:Int),w):=by
 unfold wJ vK
 have hs:sub x (at':Int) (IntKind.i64.wrap ((at':Int)+64))=some (uJ x at'):=by
  rw [zS (by omega) (by omega),show (at':Int)+64=((at'+64:Nat):Int) by omega,tX (by omega) (by omega)]
  simp [uJ]
 simp only [rot1,hs,zGc,Option.bind_some]
theorem zWh (x:List UInt8) (at':Nat) (h:at'+64<=x.length) (hb:x.length<2 ^ 42) :
  Def (zG (vK x (at':Int)) FU (0,List.replicate 80 0)) (λw=>w.length=80/\zG (wJ (uJ x at')) FU (0,List.replicate 80 0)=some w):=by
 have e:zG (wJ (uJ x at')) FU (0,List.replicate 80 0)=zG (vK x (at':Int)) FU (0,List.replicate 80 0):=by
  refine fB (λs=>∃ i:Nat,s.1=(i:Int)/\i<=80/\s.2.length=80) (λs hs=>?_) _ _ ⟨0,rfl,by omega,by simp⟩
  obtain ⟨i',w⟩:=s
  obtain ⟨i,h1,hi,hw⟩:=hs
  have h1:i'=(i:Int):=h1
  subst h1
  refine ⟨s1_e x at' i w h hb,(s1_s x at' i w h hb hi hw).mono λr hr s' hs'=>?_⟩
  subst hs'
  obtain ⟨w',rfl,h2,h3⟩:=hr
  exact ⟨i+1,rfl,by omega,h3⟩
 rw [e]
 obtain ⟨w,h1,h2⟩:Def (zG (vK x (at':Int)) FU (0,List.replicate 80 0)) (λw=>w.length=80):=by
  refine Def.loop (λs=>∃ i:Nat,s.1=(i:Int)/\i<=80/\s.2.length=80) (λs=>80 - s.1.toNat) (λs hs=>?_) ⟨0,rfl,by omega,by simp⟩ (by simp)
  obtain ⟨i',w⟩:=s
  obtain ⟨i,h1,hi,hw⟩:=hs
  have h1:i'=(i:Int):=h1
  subst h1
  refine (s1_s x at' i w h hb hi hw).mono λr hr=>?_
  cases r with
  | inl s'=>
   obtain ⟨w',rfl,h2,h3⟩:=hr
   exact ⟨⟨i+1,rfl,by omega,h3⟩,by simp only [Int.toNat_natCast];omega⟩
  | inr w=>exact hr
 exact ⟨w,h1,h2,h1⟩
theorem r1_s (w:List Int) (hw:w.length=80) (a b c d e:Int) (i:Nat) (hi:i<=80) :
  Def (vM w (a,b,c,d,e,(i:Int))) (λr=>match r with | .inl s=>s.2.2.2.2.2=((i+1:Nat):Int)/\i<80 | .inr _=>True):=by
 unfold vM
 refine Def.c (λh=>?_) (λ_=>Def.s trivial)
 have hi2:i<80:=by have:=dT h;omega
 refine Def.bd (P:=λ_=>True) ?_ (λx _=>?_)
 ·exact Def.c (λ_=>Def.lt (Def.s trivial)) (λ_=>Def.c (λ_=>Def.s trivial) (λ_=>Def.c (λ_=>Def.lt (Def.s trivial)) (λ_=>Def.s trivial)))
 obtain ⟨f,k⟩:=x
 refine Def.bd (zCk _ _ (by decide)) (λ_ _=>?_)
 refine Def.lt ?_
 refine Def.bd (ixw hi2 _ rfl) (λj hj=>?_)
 refine Def.bd (w80 hw (by omega)) (λ_ _=>?_)
 refine Def.lt ?_
 refine Def.bd (zCk _ _ (by decide)) (λ_ _=>Def.s ?_)
 exact ⟨yE (by omega),hi2⟩
theorem r1_e (w:List Int) (a b c d e:Int) (i:Nat) (hi:i<=80):wF w (a,b,c,d,e,(i:Int))=vM w (a,b,c,d,e,(i:Int)):=by
 have hq:IntKind.i64.wrap (Int.tdiv (i:Int) 20)=((i / 20:Nat):Int):=by
  rw [show Int.tdiv (i:Int) 20=((i / 20:Nat):Int) from rfl]
  exact zS (by omega) (by omega)
 unfold wF vM
 simp only [rot5,zS3,hq]
 by_cases h1:i<20
 ·rw [show (((i / 20:Nat):Int)==0)=true by simp;omega,show decide ((i:Int)<20)=true by simp;omega]
  rfl
 by_cases h2:i<40
 ·rw [show (((i / 20:Nat):Int)==0)=false by simp;omega,show decide ((i:Int)<20)=false by simp;omega,show (((i / 20:Nat):Int)==1)=true by simp;omega,show decide ((i:Int)<40)=true by simp;omega]
  rfl
 by_cases h3:i<60
 ·rw [show (((i / 20:Nat):Int)==0)=false by simp;omega,show decide ((i:Int)<20)=false by simp;omega,show (((i / 20:Nat):Int)==1)=false by simp;omega,show decide ((i:Int)<40)=false by simp;omega,show (((i / 20:Nat):Int)==2)=true by simp;omega,show decide ((i:Int)<60)=true by simp;omega]
 ·by_cases h4:i<80
  ·rw [show (((i / 20:Nat):Int)==0)=false by simp;omega,show decide ((i:Int)<20)=false by simp;omega,show (((i / 20:Nat):Int)==1)=false by simp;omega,show decide ((i:Int)<40)=false by simp;omega,show (((i / 20:Nat):Int)==2)=false by simp;omega,show decide ((i:Int)<60)=false by simp;omega]
  ·rw [show decide ((i:Int)<80)=false by simp;omega]
   rfl
theorem zUj (w:List Int) (hw:w.length=80) (a b c d e:Int):Def (zG (vM w) FU (a,b,c,d,e,0)) (λr=>zG (wF w) FU (a,b,c,d,e,0)=some r):=by
 have e1:zG (wF w) FU (a,b,c,d,e,0)=zG (vM w) FU (a,b,c,d,e,0):=by
  refine fB (λs=>∃ i:Nat,s.2.2.2.2.2=(i:Int)/\i<=80) (λs hs=>?_) _ _ ⟨0,rfl,by omega⟩
  obtain ⟨a,b,c,d,e,v⟩:=s
  obtain ⟨i,h1,hi⟩:=hs
  have h1:v=(i:Int):=h1
  subst h1
  refine ⟨r1_e w a b c d e i hi,(r1_s w hw a b c d e i hi).mono λr hr s' hs'=>?_⟩
  subst hs'
  exact ⟨i+1,hr.1,by have:=hr.2;omega⟩
 rw [e1]
 obtain ⟨r,h1,_⟩:Def (zG (vM w) FU (a,b,c,d,e,0)) (λ_=>True):=by
  refine Def.loop (λs=>∃ i:Nat,s.2.2.2.2.2=(i:Int)/\i<=80) (λs=>80 - s.2.2.2.2.2.toNat) (λs hs=>?_) ⟨0,rfl,by omega⟩ (by simp)
  obtain ⟨a,b,c,d,e,v⟩:=s
  obtain ⟨i,h1,hi⟩:=hs
  have h1:v=(i:Int):=h1
  subst h1
  refine (r1_s w hw a b c d e i hi).mono λr hr=>?_
  cases r with
  | inl s'=>exact ⟨⟨i+1,hr.1,by have:=hr.2;omega⟩,by rw [hr.1];simp only [Int.toNat_natCast];have:=hr.2;omega⟩
  | inr r=>trivial
 exact ⟨r,h1,h1⟩
def a5 (s:A5 Int):List Int:=[s.a0,s.a1,s.a2,s.a3,s.a4]
def zMq (h:A5 Int) (b:List UInt8):A5 Int:=(wP h b).getD h
theorem blk1 (x:List UInt8) (at':Nat) (h:A5 Int) (hx:at'+64<=x.length) (hb:x.length<2 ^ 42) :
  wP h (uJ x at')=some (zMq h (uJ x at'))/\sL x (a5 h,(at':Int))=some (.inl (a5 (zMq h (uJ x at')),((at'+64:Nat):Int))):=by
 obtain ⟨w,hw1,hw2,hw3⟩:=zWh x at' hx hb
 obtain ⟨⟨a,b,c,d,e⟩,hr1,hr2⟩:=zUj w hw2 h.a0 h.a1 h.a2 h.a3 h.a4
 have e1:wP h (uJ x at')=some ⟨IntKind.u32.wrap (h.a0+a),IntKind.u32.wrap (h.a1+b),IntKind.u32.wrap (h.a2+c),IntKind.u32.wrap (h.a3+d),IntKind.u32.wrap (h.a4+e)⟩:=by
  unfold wP
  refine bd hw3 ?_
  exact bd hr2 rfl
 have e2:zMq h (uJ x at')=⟨IntKind.u32.wrap (h.a0+a),IntKind.u32.wrap (h.a1+b),IntKind.u32.wrap (h.a2+c),IntKind.u32.wrap (h.a3+d),IntKind.u32.wrap (h.a4+e)⟩:=by
  unfold zMq;rw [e1];rfl
 rw [e2]
 refine ⟨e1,?_⟩
 unfold sL
 refine ct (dlt (by omega)) ?_
 refine bd hw1 ?_
 refine bd (a:=h.a0) rfl ?_
 refine bd (a:=h.a1) rfl ?_
 refine bd (a:=h.a2) rfl ?_
 refine bd (a:=h.a3) rfl ?_
 refine bd (a:=h.a4) rfl ?_
 refine bd hr1 ?_
 refine bd (a:=h.a0) rfl ?_
 refine bd (a:=h.a1) rfl ?_
 refine bd (a:=h.a2) rfl ?_
 refine bd (a:=h.a3) rfl ?_
 refine bd (a:=h.a4) rfl ?_
 rw [zS (by omega) (by omega),show (at':Int)+64=((at'+64:Nat):Int) by omega]
 rfl
def zLm:A5 Int:=⟨1732584193,4023233417,2562383102,271733878,3285377520⟩
def eV (x:List UInt8):Nat->A5 Int
 | 0=>zLm
 | i+1=>zMq (eV x i) (uJ x (64*i))
def st5 (p:List UInt8) (h:A5 Int):List UInt8×Int×Int×Int×Int×Int:=(p,h.a0,h.a1,h.a2,h.a3,h.a4)
theorem zGg (x:List UInt8) (n:Nat) (hx:x.length=64*n) (hl:x.length<2 ^ 42):zG oF FU (st5 x zLm)=some ((eV x n).a0,(eV x n).a1,(eV x n).a2,(eV x n).a3,(eV x n).a4):=by
 refine zT n (λi=>st5 (x.drop (64*i)) (eV x i)) (by simp [eV]) (λi hi=>?_) ?_ (xB (by omega))
 ·have hd:(x.drop (64*i)).length=x.length - 64*i:=by simp
  unfold oF st5
  refine ct (by simp;omega) ?_
  refine bd (a:=uJ x (64*i)) (by rw [show (0:Int)=((0:Nat):Int) from rfl,show (64:Int)=((64:Nat):Int) from rfl,tX (by omega) (by omega)];simp [uJ]) ?_
  refine bd (blk1 x (64*i) (eV x i) (by omega) hl).1 ?_
  refine bd (a:=x.drop (64*(i+1))) (by rw [show (64:Int)=((64:Nat):Int) from rfl,tX (by omega) (by omega)];rw [List.drop_drop,List.take_of_length_le (by simp;omega)];congr 2) ?_
  rfl
 ·have hd:x.drop (64*n)=[]:=List.drop_eq_nil_of_le (by omega)
  show oF (st5 (x.drop (64*n)) (eV x n))=_
  rw [hd]
  generalize eV x n=S
  rfl
theorem zGy (x:List UInt8) (n:Nat) (hx:x.length=64*n) (hl:x.length<2 ^ 42):zG (sL x) FU (a5 zLm,0)=some (a5 (eV x n)):=by
 refine zT n (λi=>(a5 (eV x i),((64*i:Nat):Int))) rfl (λi hi=>?_) ?_ (xB (by omega))
 ·exact (blk1 x (64*i) (eV x i) (by omega) hl).2
 ·show sL x (a5 (eV x n),((64*n:Nat):Int))=_
  unfold sL
  exact cf (dge (by omega)) rfl
def zO1 (b:List UInt8):List UInt8:=(a5 (eV (fG b) ((fG b).length / 64))).flatMap be4
theorem zF5 (b:List UInt8):(zO1 b).length=20:=by unfold zO1;rw [zFb];rfl
theorem zLv (b:List UInt8) (hb:b.length<2 ^ 40):kI b=some (zO1 b):=by
 have hz:zs b.length<64:=by unfold zs;omega
 have h1:=fL b
 have h2:=bH b
 unfold kI
 refine bd (zCj b hb) ?_
 refine bd (zGy (fG b) ((fG b).length / 64) (by omega) (by omega)) ?_
 exact bd (zGh _ (by simp [a5])) rfl
theorem zLd (b:List UInt8) (hb:b.length<2 ^ 40):wD 0 b=some (zO1 b):=by
 have hz:zs b.length<64:=by unfold zs;omega
 have h1:=fL b
 have h2:=bH b
 unfold wD
 refine ct rfl ?_
 refine bd (zDd b hb) ?_
 refine bd (zGg (fG b) ((fG b).length / 64) (by omega) (by omega)) ?_
 exact bd (zEu _ (by simp)) rfl
theorem zM9 (b:List UInt8) (hb:b.length<2 ^ 40):Def (kI b) (λr=>r.length=20):=Def.of (zLv b hb) (zF5 b)
theorem zKs (b:List UInt8) (hb:b.length<2 ^ 40):Def (wD 0 b) (λr=>r.length=20):=Def.of (zLd b hb) (zF5 b)
end Go.Proofs.TT
namespace Go.Proofs.TT
open Go Go.Sw
set_option maxRecDepth 100000
theorem zB2 (a:Int) (b:List UInt8) (hb:b.length<2 ^ 40):Def (mK a b) (λr=>r.length<=32/\(a=0->r.length=20)/\(a=1->r.length=32)):=by
 unfold mK
 refine Def.c (λh=>?_) (λh=>Def.c (λh1=>?_) (λh1=>Def.s ?_))
 ·rw [beq_iff_eq] at h
  refine Def.bd (zM9 b hb) (λr hr=>Def.s ?_)
  omega
 ·rw [beq_iff_eq] at h1
  refine Def.bd (jP b hb) (λr hr=>Def.s ?_)
  omega
 ·simp at h h1
  simp [h,h1]
theorem bU (reg kind active:Int) (data:List UInt8) (hd:data.length<2 ^ 40):Def (rM reg kind active data) (λe=>e.Register=reg/\e.Kind=kind/\e.Data=data/\e.Digests.length=2):=by
 unfold rM
 refine Def.bd (P:=λr=>r.length=2) ?_ (λr hr=>?_)
 ·refine Def.loop (λs=>0<=s.1/\s.1<=2/\s.2.length=2) (λs=>(2 - s.1).toNat) (λs hs=>?_) ⟨by decide,by decide,rfl⟩ (by decide)
  obtain ⟨a,v⟩:=s
  obtain ⟨h0,h1,h2⟩:=hs
  simp only at h0 h1 h2
  unfold dN
  refine Def.c (λh=>?_) (λ_=>Def.s h2)
  rw [decide_eq_true_iff] at h
  refine Def.bd (P:=λr=>r.length=2) ?_ (λw hw=>Def.s ?_)
  ·refine Def.bd (P:=λ_=>True) ?_ (λb _=>?_)
   ·refine Def.bd (P:=λ_=>True) (Def.lt (Def.s trivial)) (λ_ _=>?_)
    exact Def.c (λ_=>Def.s trivial) (λ_=>Def.s trivial)
   refine Def.c (λ_=>?_) (λ_=>Def.s h2)
   refine Def.bd (zB2 a data hd) (λ_ _=>?_)
   refine Def.bd (Def.ixN h0 (by show _<((2:Nat):Int);omega)) (λj hj=>?_)
   exact Def.bd (Def.upd (by omega)) (λr hr=>Def.s (by rw [hr];simpa using h2))
  ·rw [zS (by omega) (by omega)]
   simp only
   omega
 refine Def.bd (Def.ck (zC7 hr)) (λ_ _=>Def.s ⟨rfl,rfl,rfl,hr⟩)
end Go.Proofs.TT
