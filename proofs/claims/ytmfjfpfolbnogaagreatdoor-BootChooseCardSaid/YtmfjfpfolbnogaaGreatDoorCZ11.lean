/- A part of the proof that a slot is chosen as the statement says. -/
import Derived.Test.YtmfjfpfolbnogaaGreatDoorCZ3
import Derived.Test.YtmfjfpfolbnogaaGreatDoorCZ5
set_option linter.all false
namespace Go.Sw
open Go
theorem zFk {X Y:Type} {step:X->Option (X ⊕ Y)} {r:Y} (n:Nat) (s:Nat->X) (h:∀ i,i<n->step (s i)=some (.inl (s (i+1)))) (he:step (s n)=some (.inr r)) :
  ∀ (d k fuel:Nat),k+d=n->d<fuel->zV step fuel (s k)=some r:=by
 intro d
 induction d with
 | zero=>
  intro k fuel hk hf
  obtain ⟨f,rfl⟩:∃ f,fuel=f+1:=⟨fuel - 1,by omega⟩
  have:k=n:=by omega
  subst this
  simp [zV,he]
 | succ d ih=>
  intro k fuel hk hf
  obtain ⟨f,rfl⟩:∃ f,fuel=f+1:=⟨fuel - 1,by omega⟩
  simp only [zV,h k (by omega)]
  exact ih (k+1) f (by omega) (by omega)
theorem yM {X Y:Type} {step:X->Option (X ⊕ Y)} {r:Y} {x:X} (n:Nat) (s:Nat->X) (h0:s 0=x) (h:∀ i,i<n->step (s i)=some (.inl (s (i+1)))) (he:step (s n)=some (.inr r)) {fuel:Nat} (hf:n<fuel) :
  zV step fuel x=some r:=by
 subst h0
 exact zFk n s h he n 0 fuel (by omega) hf
theorem zH2 {X Y:Type} {step:X->Option (X ⊕ Y)} (I:X->Prop) (m:X->Nat) (Q:Y->Prop)
  (h:∀ s,I s->(∃ s',step s=some (.inl s')/\I s'/\m s'<m s)∨(∃ r,step s=some (.inr r)/\Q r)) :
  ∀ (fuel:Nat) (s:X),I s->m s<fuel->∃ r,zV step fuel s=some r/\Q r:=by
 intro fuel
 induction fuel with
 | zero=>intro s _ hm;omega
 | succ f ih=>
  intro s hs hm
  rcases h s hs with ⟨s',h1,h2,h3⟩ | ⟨r,h1,h2⟩
  ·obtain ⟨r,h4,h5⟩:=ih s' h2 (by omega)
   exact ⟨r,by simp [zV,h1,h4],h5⟩
  ·exact ⟨r,by simp [zV,h1],h2⟩
theorem wK {n:Nat} (h:n<2 ^ 64):n<FU:=by
 have:(2:Nat) ^ 64<FU:=by decide
 omega
theorem xH {n:Int} (h1:-9223372036854775808<=n) (h2:n<=9223372036854775807):IntKind.i64.wrap n=n:=by rw [IntKind.wrap_i64];omega
theorem zUs {n:Int} (h1:0<=n) (h2:n<=4294967295):IntKind.u32.wrap n=n:=by rw [IntKind.wrap_u32];omega
theorem aX {n:Int} (h1:0<=n) (h2:n<=18446744073709551615):IntKind.u64.wrap n=n:=by rw [IntKind.wrap_u64];omega
theorem yJ {α:Type} {b:Nat} {l m:List α} (h:(l.length+m.length)*b<=140737488355328):yS b l m=some (l++m):=by
 simp [yS,LIM,h]
theorem yZ {α:Type} {l:List α} {i:Nat} (h:i<l.length):idx l (i:Int)=some l[i]:=by
 simp [idx,h]
theorem tA {α:Type} {l:List α} {a b:Nat} (h:a<=b) (h2:b<=l.length):sub l (a:Int) (b:Int)=some ((l.drop a).take (b - a)):=by
 have:(0:Int)<=a/\(a:Int)<=b/\(b:Int)<=l.length:=⟨by omega,by omega,by omega⟩
 simp [sub,this]
theorem bd {α β:Type} {o:Option α} {a:α} {f:α->Option β} {r:Option β} (h:o=some a) (k:f a=r):o.bind f=r:=by subst h;exact k
theorem ltk {α β:Type} {e:α} {f:α->Option β} {r:Option β} (k:f e=r):lt e f=r:=k
theorem ct {α:Type} {c:Bool} {a b r:α} (h:c=true) (k:a=r):(bif c then a else b)=r:=by subst h;exact k
theorem cf {α:Type} {c:Bool} {a b r:α} (h:c=false) (k:b=r):(bif c then a else b)=r:=by subst h;exact k
theorem ckT {c:Bool} (h:c=true):ck c=some ():=by subst h;rfl
end Go.Sw
namespace Go.Proofs.TT
open Go Go.Sw
set_option maxRecDepth 100000
def rr (x n:Int):Int:=ior .u32 (w9 .u32 x n) (pS .u32 x (32 - n))
theorem zFh (k:IntKind) (a b:Int):ior k a b=ior k b a:=by simp [ior,BitVec.or_comm]
theorem rX (x:Int) (n m:Int) (h:tX .u64 (IntKind.u64.wrap n) 31=32 - m) (h0:0<=m) (h1:m<=32):zN x n=some (rr x m):=by
 have h2:IntKind.u64.wrap (32 - (32 - m))=m:=by rw [IntKind.wrap_u64];omega
 have h3:(0:Int)<=32 - m:=by omega
 have h4:decide ((0:Int)<=32 - m)=true:=by simpa using h3
 have h5:decide ((0:Int)<=m)=true:=by simpa using h0
 simp only [zN,ck,lt,h,h2,h4,h5,rr,cond_true,Option.bind_some]
 rw [zFh]
def K2:List Int:=xY
def a8 (s:A8 Int):List Int:=[s.a0,s.a1,s.a2,s.a3,s.a4,s.a5,s.a6,s.a7]
def t1 (s:A8 Int) (k w:Int):Int:=
 IntKind.u32.wrap (IntKind.u32.wrap (IntKind.u32.wrap (IntKind.u32.wrap (s.a7+w8 .u32 (w8 .u32 (rr s.a4 6) (rr s.a4 11)) (rr s.a4 25))+w8 .u32 (tX .u32 s.a4 s.a5) (tX .u32 (zC1 .u32 s.a4) s.a6))+k)+w)
def t2 (s:A8 Int):Int:=IntKind.u32.wrap (w8 .u32 (w8 .u32 (rr s.a0 2) (rr s.a0 13)) (rr s.a0 22)+w8 .u32 (w8 .u32 (tX .u32 s.a0 s.a1) (tX .u32 s.a0 s.a2)) (tX .u32 s.a1 s.a2))
def rnd (s:A8 Int) (k w:Int):A8 Int:=⟨IntKind.u32.wrap (t1 s k w+t2 s),s.a0,s.a1,s.a2,IntKind.u32.wrap (s.a3+t1 s k w),s.a4,s.a5,s.a6⟩
def mK (w:List Int) (s:A8 Int):Nat->A8 Int
 | 0=>s
 | n+1=>rnd (mK w s n) (K2.getD n 0) (w.getD n 0)
theorem qJ {n t:Nat} (h:t<n):ixN n (t:Int)=some t:=by
 have:(0:Int)<=t/\(t:Int)<n:=⟨by omega,by omega⟩
 simp [ixN,this]
theorem fW {l:List Int} {t:Nat} (h:t<l.length):l[t]? = some (l.getD t 0):=by simp [h]
theorem vU {t:Nat} (h:t<2 ^ 40):IntKind.i64.wrap ((t:Int)+1)=((t+1:Nat):Int):=by rw [xH (by omega) (by omega)];simp
section
variable (a b c d e f g h:Int)
end
theorem dlt {a b:Nat} (h:a<b):decide ((a:Int)<(b:Int))=true:=by simp;exact h
theorem dge {a b:Nat} (h:b<=a):decide ((a:Int)<(b:Int))=false:=by simp;omega
theorem zMo (w:List Int) (s:A8 Int) (i:Nat) (hi:i<64) (hw:w.length=64):uA w ((i:Int),s.a0,s.a1,s.a2,s.a3,s.a4,s.a5,s.a6,s.a7) =
  some (.inl (((i+1:Nat):Int),(rnd s (K2.getD i 0) (w.getD i 0)).a0,(rnd s (K2.getD i 0) (w.getD i 0)).a1,(rnd s (K2.getD i 0) (w.getD i 0)).a2,(rnd s (K2.getD i 0) (w.getD i 0)).a3,(rnd s (K2.getD i 0) (w.getD i 0)).a4,(rnd s (K2.getD i 0) (w.getD i 0)).a5,(rnd s (K2.getD i 0) (w.getD i 0)).a6,(rnd s (K2.getD i 0) (w.getD i 0)).a7)):=by
 have e1:decide ((i:Int)<64)=true:=dlt (b:=64) hi
 have e2:∀ x,zN x (-6)=some (rr x 6):=λx=>rX x _ 6 (by decide) (by decide) (by decide)
 have e3:∀ x,zN x (-11)=some (rr x 11):=λx=>rX x _ 11 (by decide) (by decide) (by decide)
 have e4:∀ x,zN x (-25)=some (rr x 25):=λx=>rX x _ 25 (by decide) (by decide) (by decide)
 have e5:∀ x,zN x (-2)=some (rr x 2):=λx=>rX x _ 2 (by decide) (by decide) (by decide)
 have e6:∀ x,zN x (-13)=some (rr x 13):=λx=>rX x _ 13 (by decide) (by decide) (by decide)
 have e7:∀ x,zN x (-22)=some (rr x 22):=λx=>rX x _ 22 (by decide) (by decide) (by decide)
 have k1:idx xY (i:Int)=some (K2.getD i 0):=by rw [yZ (show i<xY.length from hi)];simp [K2,show i<xY.length from hi]
 have k2:w[i]? = some (w.getD i 0):=fW (by omega)
 unfold uA
 refine ct e1 ?_
 refine bd (e2 _) ?_
 refine bd (e3 _) ?_
 refine bd (e4 _) ?_
 refine ltk ?_
 refine ltk ?_
 refine bd k1 ?_
 refine ltk ?_
 refine bd (qJ hi) ?_
 refine bd k2 ?_
 refine bd (e5 _) ?_
 refine bd (e6 _) ?_
 refine bd (e7 _) ?_
 refine ltk ?_
 refine ltk ?_
 refine ltk ?_
 refine ltk ?_
 rw [vU (show i<2 ^ 40 by omega)]
 rfl
theorem zQw (w:List Int) (hw:w.length=64) (s:A8 Int):zV (uA w) FU (0,s.a0,s.a1,s.a2,s.a3,s.a4,s.a5,s.a6,s.a7)=some ((mK w s 64).a0,(mK w s 64).a1,(mK w s 64).a2,(mK w s 64).a3,(mK w s 64).a4,(mK w s 64).a5,(mK w s 64).a6,(mK w s 64).a7):=by
 refine yM 64 (λi=>((i:Int),(mK w s i).a0,(mK w s i).a1,(mK w s i).a2,(mK w s i).a3,(mK w s i).a4,(mK w s i).a5,(mK w s i).a6,(mK w s i).a7)) rfl (λi hi=>zMo w _ i hi hw) ?_ (wK (by decide))
 generalize mK w s 64=S
 rfl
end Go.Proofs.TT
namespace Go.Proofs.TT
open Go Go.Sw
set_option maxRecDepth 100000
theorem zIo {l:List UInt8} {z:Int} {n:Nat} (hz:z=(n:Int)) (h:n<l.length):idx l z=some (l.getD n 0):=by
 subst hz
 simp [idx,h]
theorem cS {α:Type} {l:List α} {j:Nat} {u:α} (h:j<l.length):sY l j u=some (l.set j u):=by simp [sY,h]
def byt (b:List UInt8) (n:Nat):Int:=IntKind.u32.wrap (((b.getD n 0).toNat:Nat):Int)
def wd (b:List UInt8) (t:Nat):Int:=ior .u32 (ior .u32 (ior .u32 (pS .u32 (byt b (4*t)) 24) (pS .u32 (byt b (4*t+1)) 16)) (pS .u32 (byt b (4*t+2)) 8)) (byt b (4*t+3))
theorem zHv (b:List UInt8) (t:Nat) (h:4*t+3<b.length) (h2:t<2 ^ 20):gK b (t:Int)=some (wd b t):=by
 have e0:IntKind.i64.wrap (4*(t:Int))=((4*t:Nat):Int):=by rw [xH (by omega) (by omega)];simp
 unfold gK
 rw [e0]
 refine bd (zIo rfl (by omega)) ?_
 refine bd (zIo (n:=4*t+1) (by rw [xH (by omega) (by omega)];simp) (by omega)) ?_
 refine ltk ?_
 refine bd (zIo (n:=4*t+2) (by rw [xH (by omega) (by omega)];simp) (by omega)) ?_
 refine ltk ?_
 refine bd (zIo (n:=4*t+3) (by rw [xH (by omega) (by omega)];simp) (by omega)) ?_
 rfl
theorem zEr:lE=gK:=rfl
def s0 (x:Int):Int:=w8 .u32 (w8 .u32 (rr x 7) (rr x 18)) (w9 .u32 x 3)
def s1 (x:Int):Int:=w8 .u32 (w8 .u32 (rr x 17) (rr x 19)) (w9 .u32 x 10)
def wv (b:List UInt8) (w:List Int) (t:Nat):Int:=
 if t<16 then wd b t else IntKind.u32.wrap (IntKind.u32.wrap (IntKind.u32.wrap (s1 (w.getD (t - 2) 0)+w.getD (t - 7) 0)+s0 (w.getD (t - 15) 0))+w.getD (t - 16) 0)
def bN (b:List UInt8):Nat->List Int
 | 0=>List.replicate 64 0
 | t+1=>(bN b t).set t (wv b (bN b t) t)
theorem cJ (b:List UInt8):∀ t,(bN b t).length=64
 | 0=>rfl
 | t+1=>by simp [bN,cJ b t]
theorem zRu (b:List UInt8) (w:List Int) (i:Nat) (hi:i<64) (hw:w.length=64) (hb:b.length=64):v8 b ((i:Int),w)=some (.inl (((i+1:Nat):Int),w.set i (wv b w i))):=by
 have hiw:i<w.length:=by omega
 unfold v8
 refine ct (dlt (b:=64) hi) ?_
 refine bd (a:=w.set i (wv b w i)) ?_ (by rw [vU (show i<2 ^ 40 by omega)])
 by_cases h:i<16
 ·refine ct (dlt (b:=16) h) ?_
  rw [zEr]
  refine bd (zHv b i (by omega) (by omega)) ?_
  refine bd (qJ hi) ?_
  refine bd (cS hiw) ?_
  simp [wv,h]
 refine cf (dge (b:=16) (by omega)) ?_
 have x15:ixN 64 (IntKind.i64.wrap ((i:Int) - 15))=some (i - 15):=by rw [xH (by omega) (by omega),show (i:Int) - 15=((i - 15:Nat):Int) by omega];exact qJ (by omega)
 have x2:ixN 64 (IntKind.i64.wrap ((i:Int) - 2))=some (i - 2):=by rw [xH (by omega) (by omega),show (i:Int) - 2=((i - 2:Nat):Int) by omega];exact qJ (by omega)
 have x7:ixN 64 (IntKind.i64.wrap ((i:Int) - 7))=some (i - 7):=by rw [xH (by omega) (by omega),show (i:Int) - 7=((i - 7:Nat):Int) by omega];exact qJ (by omega)
 have x16:ixN 64 (IntKind.i64.wrap ((i:Int) - 16))=some (i - 16):=by rw [xH (by omega) (by omega),show (i:Int) - 16=((i - 16:Nat):Int) by omega];exact qJ (by omega)
 have w15:w[i - 15]? = some (w.getD (i - 15) 0):=fW (by omega)
 have w2:w[i - 2]? = some (w.getD (i - 2) 0):=fW (by omega)
 have w7:w[i - 7]? = some (w.getD (i - 7) 0):=fW (by omega)
 have w16:w[i - 16]? = some (w.getD (i - 16) 0):=fW (by omega)
 have e7:∀ x,zN x (-7)=some (rr x 7):=λx=>rX x _ 7 (by decide) (by decide) (by decide)
 have e18:∀ x,zN x (-18)=some (rr x 18):=λx=>rX x _ 18 (by decide) (by decide) (by decide)
 have e17:∀ x,zN x (-17)=some (rr x 17):=λx=>rX x _ 17 (by decide) (by decide) (by decide)
 have e19:∀ x,zN x (-19)=some (rr x 19):=λx=>rX x _ 19 (by decide) (by decide) (by decide)
 refine bd (x15) ?_
 refine bd (w15) ?_
 refine bd (x2) ?_
 refine bd (w2) ?_
 refine bd (e7 _) ?_
 refine bd (e18 _) ?_
 refine bd (e17 _) ?_
 refine bd (e19 _) ?_
 refine bd (x7) ?_
 refine bd (w7) ?_
 refine ltk ?_
 refine ltk ?_
 refine bd (x16) ?_
 refine bd (w16) ?_
 refine bd (qJ hi) ?_
 refine bd (cS hiw) ?_
 simp only [wv,h,if_false]
 rfl
theorem zP5 (b:List UInt8) (hb:b.length=64):zV (v8 b) FU (0,List.replicate 64 0)=some (bN b 64):=by
 refine yM 64 (λi=>((i:Int),bN b i)) rfl (λi hi=>zRu b _ i hi (cJ b i) hb) ?_ (wK (by decide))
 generalize bN b 64=S
 rfl
def oZ (x:List UInt8) (n:Nat):List UInt8:=(x.drop n).take 64
end Go.Proofs.TT
namespace Go.Proofs.TT
open Go Go.Sw
set_option maxRecDepth 100000
def zM8 (h s:A8 Int):A8 Int:=⟨IntKind.u32.wrap (h.a0+s.a0),IntKind.u32.wrap (h.a1+s.a1),IntKind.u32.wrap (h.a2+s.a2),IntKind.u32.wrap (h.a3+s.a3),IntKind.u32.wrap (h.a4+s.a4),IntKind.u32.wrap (h.a5+s.a5),IntKind.u32.wrap (h.a6+s.a6),IntKind.u32.wrap (h.a7+s.a7)⟩
def zDr (h s:List Int):Nat->List Int
 | 0=>h
 | i+1=>(zDr h s i).set i (IntKind.u32.wrap ((zDr h s i).getD i 0+s.getD i 0))
theorem zEa (h s:List Int):∀ i,(zDr h s i).length=h.length
 | 0=>rfl
 | i+1=>by simp [zDr,zEa h s i]
theorem zQc (h s:A8 Int):zDr (a8 h) (a8 s) 8=a8 (zM8 h s):=rfl
def zEz (h:A8 Int) (b:List UInt8):A8 Int:=zM8 h (mK (bN b 64) h 64)
theorem zOa (h s:A8 Int):zV (wW s.a0 s.a1 s.a2 s.a3 s.a4 s.a5 s.a6 s.a7) FU (0,[h.a0,h.a1,h.a2,h.a3,h.a4,h.a5,h.a6,h.a7])=some (zM8 h s):=by
 refine yM 8 (λi=>((i:Int),zDr (a8 h) (a8 s) i)) rfl (λi hi=>?_) ?_ (wK (by decide))
 ·have hl:(zDr (a8 h) (a8 s) i).length=8:=zEa _ _ _
  unfold wW
  refine ct (dlt (b:=8) hi) ?_
  refine bd (qJ hi) ?_
  refine bd (fW (by omega)) ?_
  refine bd (qJ hi) ?_
  refine bd (a:=(a8 s).getD i 0) (fW (l:=a8 s) hi) ?_
  refine bd (qJ hi) ?_
  refine bd (cS (by omega)) ?_
  rw [vU (show i<2 ^ 40 by omega)]
  rfl
 ·show wW s.a0 s.a1 s.a2 s.a3 s.a4 s.a5 s.a6 s.a7 (((8:Nat):Int),zDr (a8 h) (a8 s) 8)=_
  rw [zQc]
  unfold wW
  refine cf rfl ?_
  refine bd (a:=zM8 h s) rfl rfl
theorem zEv (h:A8 Int) (b:List UInt8) (hb:b.length=64):tC h b=some (zEz h b):=by
 unfold tC
 refine bd (zP5 b hb) ?_
 refine bd (zQw _ (cJ b 64) h) ?_
 refine bd (zOa h _) ?_
 rfl
def zNf:A8 Int:=⟨1779033703,3144134277,1013904242,2773480762,1359893119,2600822924,528734635,1541459225⟩
def hsh (x:List UInt8):Nat->A8 Int
 | 0=>zNf
 | i+1=>zEz (hsh x i) (oZ x (64*i))
def st8 (p:List UInt8) (h:A8 Int):List UInt8×Int×Int×Int×Int×Int×Int×Int×Int:=(p,h.a0,h.a1,h.a2,h.a3,h.a4,h.a5,h.a6,h.a7)
theorem zGf (x:List UInt8) (n:Nat) (hx:x.length=64*n) (hl:x.length<2 ^ 48):zV oP FU (st8 x zNf)=some ((hsh x n).a0,(hsh x n).a1,(hsh x n).a2,(hsh x n).a3,(hsh x n).a4,(hsh x n).a5,(hsh x n).a6,(hsh x n).a7):=by
 refine yM n (λi=>st8 (x.drop (64*i)) (hsh x i)) (by simp [hsh]) (λi hi=>?_) ?_ (wK (by omega))
 ·have hd:(x.drop (64*i)).length=x.length - 64*i:=by simp
  unfold oP st8
  refine ct (by simp;omega) ?_
  refine bd (a:=oZ x (64*i)) (by rw [show (0:Int)=((0:Nat):Int) from rfl,show (64:Int)=((64:Nat):Int) from rfl,tA (by omega) (by omega)];simp [oZ]) ?_
  refine bd (zEv _ _ (by simp [oZ];omega)) ?_
  refine bd (a:=x.drop (64*(i+1))) (by rw [show (64:Int)=((64:Nat):Int) from rfl,tA (by omega) (by omega)];rw [List.drop_drop,List.take_of_length_le (by simp;omega)];congr 2) ?_
  rfl
 ·have hd:x.drop (64*n)=[]:=List.drop_eq_nil_of_le (by omega)
  show oP (st8 (x.drop (64*n)) (hsh x n))=_
  rw [hd]
  generalize hsh x n=S
  rfl
def zs (n:Nat):Nat:=(119 - n % 64) % 64
def be8 (n:Int) (k:Nat):List UInt8:=(List.range k).map λ(j:Nat)=>u8 (w9 .u64 n (56 - 8*(j:Int)))
theorem zHb (n:Int) (k:Nat):(be8 n k).length=k:=by simp [be8]
theorem zKd (n:Int) (k:Nat):be8 n (k+1)=be8 n k++[u8 (w9 .u64 n (56 - 8*(k:Int)))]:=by simp [be8,List.range_succ]
def zS0 (b:List UInt8):Int:=IntKind.u64.wrap (IntKind.u64.wrap (b.length:Int)*8)
def b9 (b:List UInt8):List UInt8:=(b++[128]++List.replicate (zs b.length) 0)++be8 (zS0 b) 8
theorem zAn (b:List UInt8):(b9 b).length=b.length+9+zs b.length:=by simp [b9,zHb];omega
theorem zDo (b:List UInt8):(b9 b).length % 64=0:=by rw [zAn];unfold zs;omega
theorem zIl (b:List UInt8) (hb:b.length<2 ^ 40):zV lB FU (b++[128])=some (b++[128]++List.replicate (zs b.length) 0):=by
 have hz:zs b.length<64:=by unfold zs;omega
 refine yM (zs b.length) (λi=>b++[128]++List.replicate i 0) (by simp) (λi hi=>?_) ?_ (wK (by omega))
 ·have hl:(b++[128]++List.replicate i 0).length=b.length+1+i:=by simp;omega
  unfold lB
  refine ct ?_ ?_
  ·rw [hl]
   simp only [bne_iff_ne,ne_eq]
   rw [Int.tmod_eq_emod_of_nonneg (by omega)]
   unfold zs at hi
   omega
  ·refine bd (yJ (by rw [hl];simp;omega)) ?_
   rw [List.append_assoc,<- List.replicate_succ']
 ·have hl:(b++[128]++List.replicate (zs b.length) 0).length=b.length+1+zs b.length:=by simp;omega
  unfold lB
  refine cf ?_ rfl
  rw [hl]
  simp only [bne_eq_false_iff_eq]
  rw [Int.tmod_eq_emod_of_nonneg (by omega)]
  unfold zs
  omega
theorem zMv:fL=lB:=rfl
theorem zKc (x:List UInt8) (n:Int) (hx:x.length<2 ^ 41):zV (l6 n) FU (x,56)=some (x++be8 n 8):=by
 refine yM 8 (λi=>(x++be8 n i,56 - 8*(i:Int))) (by simp [be8]) (λi hi=>?_) ?_ (wK (by decide))
 ·unfold l6
  refine ct (by simp;omega) ?_
  rw [aX (n:=56 - 8*(i:Int)) (by omega) (by omega)]
  refine bd (yJ (by simp [zHb];omega)) ?_
  rw [xH (by omega) (by omega),List.append_assoc,<- zKd,show (56:Int) - 8*(i:Int) - 8=56 - 8*((i+1:Nat):Int) by omega]
 ·generalize be8 n 8=S
  rfl
theorem zAd (b:List UInt8) (hb:b.length<2 ^ 40):mM b=some (b9 b):=by
 have hz:zs b.length<64:=by unfold zs;omega
 unfold mM
 refine bd (a:=b.length+72) (by unfold mkN;rw [xH (by omega) (by omega),if_pos (by omega)];congr 1) ?_
 refine bd (a:=b) (by rw [yJ (by simp;omega)];simp) ?_
 refine bd (yJ (by simp;omega)) ?_
 rw [zMv]
 refine bd (zIl b hb) ?_
 refine ltk ?_
 refine bd (zKc _ _ (by simp;omega)) ?_
 rfl
def be4 (w:Int):List UInt8:=[u8 (w9 .u32 w 24),u8 (w9 .u32 w 16),u8 (w9 .u32 w 8),u8 w]
theorem zFp (l:List Int):(l.flatMap be4).length=4*l.length:=by
 induction l with
 | nil=>rfl
 | cons a r ih=>simp [ih,be4];omega
theorem zMa (l:List Int) (i:Nat) (hi:i<l.length):(l.take (i+1)).flatMap be4=(l.take i).flatMap be4++be4 (l.getD i 0):=by
 rw [List.take_add_one,List.flatMap_append]
 congr 1
 simp [hi]
theorem idxI {l:List Int} {i:Nat} (h:i<l.length):idx l (i:Int)=some (l.getD i 0):=by rw [yZ h];simp [h]
theorem zCa (l:List Int) (hl:l.length<2 ^ 20):rG l=some (l.flatMap be4):=by
 have:zV (sV l) FU ([],0)=some (l.flatMap be4):=by
  refine yM l.length (λi=>((l.take i).flatMap be4,(i:Int))) (by simp) (λi hi=>?_) ?_ (wK (by omega))
  ·unfold sV
   refine ct (dlt hi) ?_
   refine bd (idxI hi) ?_
   refine bd (yJ (by rw [zFp];simp;omega)) ?_
   rw [zMa l i hi,vU (show i<2 ^ 40 by omega)]
   rfl
  ·unfold sV
   refine cf (dge (Nat.le_refl _)) ?_
   simp
 unfold rG
 refine bd (a:=4*l.length) (by unfold mkN;rw [xH (by omega) (by omega),if_pos (by omega)];congr 1) ?_
 exact bd this rfl
def sha (b:List UInt8):List UInt8:=(a8 (hsh (b9 b) ((b9 b).length / 64))).flatMap be4
theorem aN (b:List UInt8):(sha b).length=32:=by unfold sha;rw [zFp];rfl
theorem zDb (b:List UInt8) (hb:b.length<2 ^ 40):xB 1 b=some (sha b):=by
 have hz:zs b.length<64:=by unfold zs;omega
 have h1:=zAn b
 have h2:=zDo b
 unfold xB
 refine cf rfl ?_
 refine ct rfl ?_
 refine bd (zAd b hb) ?_
 refine bd (zGf (b9 b) ((b9 b).length / 64) (by omega) (by omega)) ?_
 refine bd (zCa _ (by simp)) ?_
 rfl
end Go.Proofs.TT
namespace Go.Proofs.TT
open Go Go.Sw
set_option maxRecDepth 100000
def hd4 (n:Nat):List UInt8:=[u8 (w9 .i64 (n:Int) 24),u8 (w9 .i64 (n:Int) 16),u8 (w9 .i64 (n:Int) 8),u8 (n:Int)]
theorem zUx (n:Nat) (h:n<2 ^ 32):[u8 (w9 .u32 (IntKind.u32.wrap (n:Int)) 24),u8 (w9 .u32 (IntKind.u32.wrap (n:Int)) 16),u8 (w9 .u32 (IntKind.u32.wrap (n:Int)) 8),u8 (IntKind.u32.wrap (n:Int))]=hd4 n:=by
 rw [zUs (by omega) (by omega)]
 rfl
def zLp (fs:List (List UInt8)):List UInt8:=fs.flatMap λf=>hd4 f.length++f
def frm (tag:Int) (fs:List (List UInt8)):List UInt8:=u8 tag :: zLp fs
def tot (fs:List (List UInt8)):Nat:=(fs.map λf=>4+f.length).sum
theorem zKr (fs:List (List UInt8)):(zLp fs).length=tot fs:=by
 induction fs with
 | nil=>rfl
 | cons f r ih=>simp only [zLp,tot,List.flatMap_cons,List.length_append,List.map_cons,List.sum_cons] at ih ⊢;rw [ih];simp [hd4]
theorem zHf (tag:Int) (fs:List (List UInt8)):(frm tag fs).length=1+tot fs:=by simp [frm,zKr];omega
theorem zJu (tag:Int) (fs:List (List UInt8)) (i:Nat) (hi:i<fs.length):frm tag (fs.take (i+1))=(frm tag (fs.take i)++hd4 (fs[i]).length)++fs[i]:=by
 unfold frm zLp
 rw [List.take_add_one,List.flatMap_append]
 simp [hi]
theorem zKn (fs:List (List UInt8)):∀ i,tot (fs.take i)<=tot fs:=by
 induction fs with
 | nil=>intro i;simp
 | cons f r ih=>
  intro i
  cases i with
  | zero=>simp [tot]
  | succ j=>have:=ih j;simp only [tot,List.take_succ_cons,List.map_cons,List.sum_cons] at this ⊢;omega
theorem zMf (fs:List (List UInt8)):fs.length<=tot fs:=by
 induction fs with
 | nil=>simp
 | cons f r ih=>simp only [tot,List.length_cons,List.map_cons,List.sum_cons] at ih ⊢;omega
theorem zMd (fs:List (List UInt8)) (i:Nat) (hi:i<fs.length):tot (fs.take i)+4+(fs[i]).length<=tot fs:=by
 have h:=zKn fs (i+1)
 have e:tot (fs.take (i+1))=tot (fs.take i)+(4+(fs[i]).length):=by
  unfold tot
  rw [List.take_add_one,List.map_append,List.sum_append]
  simp only [hi,List.getElem?_eq_getElem,Option.toList_some,List.map_cons,List.map_nil,List.sum_cons,List.sum_nil]
  omega
 omega
theorem zIe (tag:Int) (fs:List (List UInt8)) (h:tot fs<2 ^ 32):nP tag fs=some (frm tag fs):=by
 have h1:=zMf fs
 have:zV (rK fs) FU ([u8 tag],0)=some (frm tag fs):=by
  refine yM fs.length (λi=>(frm tag (fs.take i),(i:Int))) (by simp [frm,zLp]) (λi hi=>?_) ?_ (wK (by omega))
  ·have h2:=zMd fs i hi
   have h3:=zHf tag (fs.take i)
   unfold rK
   refine ct (dlt hi) ?_
   refine bd (yZ hi) ?_
   rw [zUx _ (by omega)]
   refine bd (yJ (by simp [hd4];omega)) ?_
   refine bd (yJ (by simp [hd4];omega)) ?_
   rw [zJu tag fs i hi,vU (show i<2 ^ 40 by omega)]
  ·unfold rK
   refine cf (dge (Nat.le_refl _)) ?_
   simp
 unfold nP
 exact bd this rfl
def hs (tag:Int) (fs:List (List UInt8)):List UInt8:=sha (frm tag fs)
theorem f9 (tag:Int) (fs:List (List UInt8)):(hs tag fs).length=32:=aN _
theorem zAb (tag:Int) (fs:List (List UInt8)) (h:tot fs<2 ^ 32):rS tag fs=some (hs tag fs):=by
 unfold rS
 refine bd (zIe tag fs h) ?_
 exact bd (zDb _ (by rw [zHf];omega)) rfl
def beN (n:Int) (size k:Nat):List UInt8:=(List.range k).map λ(j:Nat)=>u8 (w9 .u64 (IntKind.u64.wrap n) (8*((size:Int) - 1 - (j:Int))))
theorem yY (n:Int) (size k:Nat):(beN n size k).length=k:=by simp [beN]
theorem zLr (n:Int) (size k:Nat):beN n size (k+1)=beN n size k++[u8 (w9 .u64 (IntKind.u64.wrap n) (8*((size:Int) - 1 - (k:Int))))]:=by simp [beN,List.range_succ]
def rD (b:List UInt8) (size:Nat) (n:Int):List UInt8:=b++beN n size size
theorem u1 (b:List UInt8) (size:Nat) (n:Int):(rD b size n).length=b.length+size:=by simp [rD,yY]
theorem sS (b:List UInt8) (size:Nat) (n:Int) (h1:1<=size) (h8:size<=8) (hb:b.length<2 ^ 40):xF b (size:Int) n=some (rD b size n):=by
 have:zV (nJ n) FU (b,(size:Int) - 1)=some (rD b size n):=by
  refine yM size (λi=>(b++beN n size i,(size:Int) - 1 - (i:Int))) (by simp [beN]) (λi hi=>?_) ?_ (wK (by omega))
  ·unfold nJ
   refine ct (by simp;omega) ?_
   refine ltk ?_
   rw [xH (n:=8*((size:Int) - 1 - (i:Int))) (by omega) (by omega),aX (n:=8*((size:Int) - 1 - (i:Int))) (by omega) (by omega)]
   refine bd (yJ (by simp [yY];omega)) ?_
   rw [xH (by omega) (by omega),List.append_assoc,<- zLr,show (size:Int) - 1 - (i:Int) - 1=(size:Int) - 1 - ((i+1:Nat):Int) by omega]
  ·unfold nJ
   refine cf (by simp;omega) rfl
 unfold xF
 refine bd (a:=b) (by rw [yJ (by simp;omega)];simp) ?_
 refine bd (a:=false) (cf (by simp;omega) (congrArg some (by simp;omega))) ?_
 rw [xH (by omega) (by omega)]
 exact bd this rfl
def eV (b x:List UInt8):List UInt8:=rD b 2 ((x.take 65535).length:Int)++x.take 65535
theorem bE (b x:List UInt8):(eV b x).length<=b.length+65537:=by simp [eV,u1];omega
theorem jN (b x:List UInt8) (hb:b.length<2 ^ 39):xR b x=some (eV b x):=by
 unfold xR
 refine bd (a:=x.take 65535) ?_ ?_
 ·by_cases h:65535<x.length
  ·rw [if_pos (by omega),show (0:Int)=((0:Nat):Int) from rfl,show (65535:Int)=((65535:Nat):Int) from rfl,tA (by omega) (by omega)];simp
  ·rw [if_neg (by omega),show (0:Int)=((0:Nat):Int) from rfl,tA (by omega) (by omega)]
   simp
   rw [List.take_of_length_le (by omega)]
 ·refine bd (sS b 2 _ (by omega) (by omega) (by omega)) ?_
  refine bd (yJ (by rw [u1];simp;omega)) ?_
  rfl
theorem zDl (a b:List UInt8):lH a b=some (a==b):=rfl
end Go.Proofs.TT
namespace Go.Proofs.TT
open Go Go.Sw
set_option maxRecDepth 100000
structure RS where
 b:List UInt8
 at':Nat
 e:Int
def RS.W (r:RS):zD:=⟨r.b,(r.at':Int),r.e⟩
def RS.Ok (r:RS):Prop:=r.at'<=r.b.length/\r.b.length<2 ^ 40
def RS.err (r:RS) (e:Int):RS:=⟨r.b,r.at',e⟩
def RS.to (r:RS) (n:Nat):RS:=⟨r.b,r.at'+n,r.e⟩
def RS.left (r:RS):Nat:=r.b.length - r.at'
def RS.get (r:RS) (n:Nat):List UInt8:=(r.b.drop r.at').take n
theorem RS.get_len (r:RS) (n:Nat) (h:n<=r.left):(r.get n).length=n:=by simp [RS.get,RS.left] at *;omega
def jQ (r:RS) (n:Nat):List UInt8×RS:=if r.e≠0 then ([],r) else if r.left<n then ([],r.err 2) else (r.get n,r.to n)
def beV (l:List UInt8):Nat->Int
 | 0=>0
 | k+1=>ior .u64 (pS .u64 (beV l k) 8) (IntKind.u64.wrap ((l.getD k 0).toNat:Int))
def tV (r:RS) (n:Nat):Int×RS:=
 if r.e≠0 then (0,r) else if r.left<n then (0,r.err 2) else if 9223372036854775808<=beV (r.get n) n then (0,r.err 4) else (IntKind.i64.wrap (beV (r.get n) n),r.to n)
def v2 (r:RS):Nat:=(r.b.getD r.at' 0).toNat*256+(r.b.getD (r.at'+1) 0).toNat
def sH (r:RS) (most:Nat):List UInt8×RS:=
 if r.e≠0 then ([],r) else if r.left<2 then ([],r.err 2) else if most<v2 r then ([],r.err 4) else if r.left<2+v2 r then ([],r.err 2) else ((r.b.drop (r.at'+2)).take (v2 r),r.to (2+v2 r))
def zCi (r:RS):Int:=if r.e=0/\0<r.left then 3 else r.e
theorem zK3 (r:RS) (n:Nat) (h:r.Ok):(jQ r n).2.Ok:=by
 unfold jQ
 split
 ·exact h
 split
 ·exact h
 ·obtain ⟨h1,h2⟩:=h
  exact ⟨by simp only [RS.to,RS.left] at *;omega,h2⟩
theorem zCk (r:RS) (n:Nat) (h:r.Ok):(tV r n).2.Ok:=by
 unfold tV
 split
 ·exact h
 split
 ·exact h
 split
 ·exact h
 ·obtain ⟨h1,h2⟩:=h
  exact ⟨by simp only [RS.to,RS.left] at *;omega,h2⟩
theorem zH3 (r:RS) (n:Nat) (h:r.Ok):(sH r n).2.Ok:=by
 unfold sH
 split
 ·exact h
 split
 ·exact h
 split
 ·exact h
 split
 ·exact h
 ·obtain ⟨h1,h2⟩:=h
  exact ⟨by simp only [RS.to,RS.left] at *;omega,h2⟩
theorem zDg (r:RS) (h:r.Ok):IntKind.i64.wrap ((r.b.length:Int) - (r.at':Int))=(r.left:Int):=by
 obtain ⟨h1,h2⟩:=h
 rw [xH (by omega) (by omega)]
 simp only [RS.left];omega
theorem zEq (r:zD) (a n:Nat) (h1:a<=r.b_.length) (h2:r.b_.length<2 ^ 40) (hn:r.b_.length - a<n):yV r (a:Int) (n:Int)=some ([],2,r):=by
 unfold yV
 refine ct ?_ rfl
 rw [xH (by omega) (by omega)]
 simp;omega
theorem zCg (r:zD) (a n:Nat) (h2:r.b_.length<2 ^ 40) (hn:a+n<=r.b_.length):yV r (a:Int) (n:Int)=some ((r.b_.drop a).take n,0,r):=by
 unfold yV
 refine cf ?_ ?_
 ·rw [xH (by omega) (by omega)]
  simp;omega
 ·refine bd (a:=(r.b_.drop a).take n) ?_ rfl
  rw [xH (by omega) (by omega),show (a:Int)+(n:Int)=((a+n:Nat):Int) by omega,tA (by omega) (by omega),Nat.add_sub_cancel_left]
theorem zC5 (r:RS) (n:Nat) (h:r.Ok) (hn:r.left<n):yV r.W (r.at':Int) (n:Int)=some ([],2,r.W):=zEq r.W r.at' n h.1 h.2 hn
theorem zBl (r:RS) (n:Nat) (h:r.Ok) (hn:n<=r.left):yV r.W (r.at':Int) (n:Int)=some (r.get n,0,r.W):=
 zCg r.W r.at' n h.2 (by have:=h.1;simp only [RS.left] at hn;show r.at'+n<=r.b.length;omega)
theorem b0 {e:Int} (h:e=0):(e != 0)=false:=by subst h;rfl
theorem b1 {e:Int} (h:e≠0):(e != 0)=true:=by simp [h]
theorem c0 {e:Int} (h:e=0):(e==0)=true:=by subst h;rfl
theorem c1 {e:Int} (h:e≠0):(e==0)=false:=by simp [h]
theorem nneg (n:Nat):decide ((n:Int)<0)=false:=by simp
theorem bL (r:RS) (n:Nat) (h:r.Ok):wT r.W (n:Int)=some ((jQ r n).1,(jQ r n).2.W):=by
 unfold wT
 by_cases he:r.e=0
 ·refine cf (b0 he) ?_
  refine cf (nneg n) ?_
  by_cases hn:r.left<n
  ·refine bd (zC5 r n h hn) ?_
   refine ct rfl ?_
   rw [show jQ r n=([],r.err 2) by simp [jQ,he,hn]]
   rfl
  ·refine bd (zBl r n h (by omega)) ?_
   refine cf rfl ?_
   have hl:=RS.get_len r n (by omega)
   obtain ⟨h1,h2⟩:=h
   refine bd (a:=r.get n) (by rw [yJ (by simp;simp only [RS.left] at hn;omega)];simp) ?_
   show some (r.get n,(⟨r.b,IntKind.i64.wrap ((r.at':Int)+(n:Int)),r.e⟩:zD))=_
   have hn':=hn
   simp only [RS.left] at hn'
   rw [xH (by omega) (by omega),show (r.at':Int)+(n:Int)=((r.at'+n:Nat):Int) by omega]
   rw [show jQ r n=(r.get n,r.to n) by simp [jQ,he,hn]]
   rfl
 ·refine ct (b1 he) ?_
  rw [show jQ r n=([],r) by simp [jQ,he]]
theorem zRi (l:List UInt8) (hl:l.length<2 ^ 40):zV (uX l) FU (0,0)=some (beV l l.length):=by
 refine yM l.length (λi=>(beV l i,(i:Int))) rfl (λi hi=>?_) ?_ (wK (by omega))
 ·unfold uX
  refine ct (dlt hi) ?_
  refine bd (yZ hi) ?_
  refine ltk ?_
  rw [vU (show i<2 ^ 40 by omega)]
  simp [beV,hi]
 ·unfold uX
  exact cf (dge (Nat.le_refl _)) rfl
theorem tO (r:RS) (n:Nat) (h:r.Ok) (h1:1<=n) (h8:n<=8):yB r.W (n:Int)=some ((tV r n).1,(tV r n).2.W):=by
 unfold yB
 by_cases he:r.e=0
 ·refine cf (b0 he) ?_
  refine bd (a:=false) (cf (by simp;omega) (congrArg some (by simp;omega))) ?_
  refine cf rfl ?_
  by_cases hn:r.left<n
  ·refine bd (zC5 r n h hn) ?_
   refine ct rfl ?_
   rw [show tV r n=(0,r.err 2) by simp [tV,he,hn]]
   rfl
  ·refine bd (zBl r n h (by omega)) ?_
   refine cf rfl ?_
   have hl:=RS.get_len r n (by omega)
   refine bd (a:=beV (r.get n) n) ((zRi _ (by omega)).trans (by rw [hl])) ?_
   by_cases hv:9223372036854775808<=beV (r.get n) n
   ·refine ct (by simp;omega) ?_
    rw [show tV r n=(0,r.err 4) by simp [tV,he,hn,hv]]
    rfl
   ·refine cf (by simp;omega) ?_
    obtain ⟨h1,h2⟩:=h
    show some (_,(⟨r.b,IntKind.i64.wrap ((r.at':Int)+(n:Int)),r.e⟩:zD))=_
    have hn':=hn
    simp only [RS.left] at hn'
    rw [xH (n:=(r.at':Int)+(n:Int)) (by omega) (by omega),show (r.at':Int)+(n:Int)=((r.at'+n:Nat):Int) by omega]
    rw [show tV r n=(IntKind.i64.wrap (beV (r.get n) n),r.to n) by simp [tV,he,hn,hv]]
    rfl
 ·refine ct (b1 he) ?_
  rw [show tV r n=(0,r) by simp [tV,he]]
theorem zNb (x y:UInt8):ior .i64 (pS .i64 (IntKind.i64.wrap (x.toNat:Int)) 8) (IntKind.i64.wrap (y.toNat:Int))=((x.toNat*256+y.toNat:Nat):Int):=by
 have hx:=x.toNat_lt
 have hy:=y.toNat_lt
 rw [xH (by omega) (by omega),xH (by omega) (by omega)]
 have e1:pS .i64 (x.toNat:Int) 8=((x.toNat*256:Nat):Int):=by
  show IntKind.i64.wrap ((x.toNat:Int)*256)=_
  rw [xH (by omega) (by omega)];omega
 rw [e1]
 unfold ior
 have e2:(BitVec.ofInt IntKind.i64.bits ((x.toNat*256:Nat):Int) ||| BitVec.ofInt IntKind.i64.bits (y.toNat:Int)).toNat=x.toNat*256+y.toNat:=by
  show (BitVec.ofInt 64 ((x.toNat*256:Nat):Int) ||| BitVec.ofInt 64 (y.toNat:Int)).toNat=_
  rw [BitVec.ofInt_natCast,BitVec.ofInt_natCast,BitVec.toNat_or,BitVec.toNat_ofNat,BitVec.toNat_ofNat,Nat.mod_eq_of_lt (by omega),Nat.mod_eq_of_lt (by omega)]
  rw [Nat.mul_comm,show (256:Nat)=2 ^ 8 from rfl,<- Nat.two_pow_add_eq_or_of_lt (by omega)]
 rw [e2,xH (by omega) (by omega)]
theorem ig {l:List UInt8} {i:Nat} (h:i<l.length):idx l (i:Int)=some (l.getD i 0):=by rw [yZ h];simp [h]
theorem rF (r:RS) (m:Nat) (h:r.Ok):yL r.W (m:Int)=some ((sH r m).1,(sH r m).2.W):=by
 have hv:v2 r<65536:=by
  have h1:=(r.b.getD r.at' 0).toNat_lt
  have h2:=(r.b.getD (r.at'+1) 0).toNat_lt
  unfold v2;omega
 unfold yL
 by_cases he:r.e=0
 ·refine cf (b0 he) ?_
  by_cases hn:r.left<2
  ·refine bd (zC5 r 2 h hn) ?_
   refine ct rfl ?_
   rw [show sH r m=([],r.err 2) by simp [sH,he,hn]]
   rfl
  ·refine bd (zBl r 2 h (by omega)) ?_
   refine cf rfl ?_
   have hl:=RS.get_len r 2 (by omega)
   have hn':=hn
   simp only [RS.left] at hn'
   refine bd (a:=r.b.getD r.at' 0) ?_ ?_
   ·refine (ig (l:=r.get 2) (i:=0) (by omega)).trans ?_
    simp [RS.get]
   refine bd (a:=r.b.getD (r.at'+1) 0) ?_ ?_
   ·refine (ig (l:=r.get 2) (i:=1) (by omega)).trans ?_
    simp [RS.get]
   refine ltk ?_
   rw [zNb]
   show (bif decide ((m:Int)<(v2 r:Int)) then _ else _)=_
   by_cases hm:m<v2 r
   ·refine ct (dlt hm) ?_
    rw [show sH r m=([],r.err 4) by simp [sH,he,hn,hm]]
    rfl
   ·refine cf (dge (by omega)) ?_
    obtain ⟨h1,h2⟩:=h
    have hw:IntKind.i64.wrap ((r.at':Int)+2)=(((r.at'+2:Nat)):Int):=by rw [xH (by omega) (by omega)];omega
    show ((yV r.W (IntKind.i64.wrap ((r.at':Int)+2)) (v2 r:Int)).bind _)=_
    rw [hw]
    by_cases hk:r.left<2+v2 r
    ·refine bd (a:=([],2,r.W)) ?_ ?_
     ·exact zEq r.W (r.at'+2) (v2 r) (by show r.at'+2<=r.b.length;omega) h2 (by simp only [RS.left] at hk;show r.b.length - (r.at'+2)<v2 r;omega)
     ·refine ct rfl ?_
      rw [show sH r m=([],r.err 2) by simp [sH,he,hn,hm,hk]]
      rfl
    ·have hk':=hk
     simp only [RS.left] at hk'
     refine bd (zCg r.W (r.at'+2) (v2 r) h2 (by show r.at'+2+v2 r<=r.b.length;omega)) ?_
     refine cf rfl ?_
     refine ltk ?_
     refine bd (a:=(r.b.drop (r.at'+2)).take (v2 r)) ?_ ?_
     ·refine (yJ (by simp;omega)).trans ?_
      rfl
     ·show some (_,(⟨r.b,IntKind.i64.wrap ((r.at':Int)+IntKind.i64.wrap (2+(v2 r:Int))),r.e⟩:zD))=_
      rw [xH (n:=2+(v2 r:Int)) (by omega) (by omega),xH (by omega) (by omega),show (r.at':Int)+(2+(v2 r:Int))=((r.at'+(2+v2 r):Nat):Int) by omega]
      rw [show sH r m=((r.b.drop (r.at'+2)).take (v2 r),r.to (2+v2 r)) by simp [sH,he,hn,hm,hk]]
      rfl
 ·refine ct (b1 he) ?_
  rw [show sH r m=([],r) by simp [sH,he]]
theorem bG (r:RS) (h:r.Ok):xK r.W=some (zCi r,r.W):=by
 unfold xK
 by_cases he:r.e=0
 ·refine bd (a:=(decide (0<(r.left:Int)),r.b,(r.at':Int),r.e)) (ct (c0 he) ?_) ?_
  ·show some (decide (0<IntKind.i64.wrap ((r.b.length:Int) - (r.at':Int))),r.b,(r.at':Int),r.e)=_
   rw [zDg r h]
  ·by_cases hl:0<r.left
   ·refine ct (by simp;omega) ?_
    simp only [zCi,he,hl];rw [<- he];rfl
   ·refine cf (by simp;omega) ?_
    simp only [zCi,he,hl];rw [<- he];simp [RS.W]
 ·refine bd (a:=(false,r.b,(r.at':Int),r.e)) (cf (c1 he) rfl) ?_
  refine cf rfl ?_
  simp only [zCi,he];simp [RS.W]
end Go.Proofs.TT
namespace Go.Sw
open Go
def Def {α:Type} (o:Option α) (P:α->Prop):Prop:=∃ a,o=some a/\P a
theorem Def.bd {α β:Type} {o:Option α} {P:α->Prop} {f:α->Option β} {Q:β->Prop} (h:Def o P) (k:∀ a,P a->Def (f a) Q):Def (o.bind f) Q:=by
 obtain ⟨a,rfl,h⟩:=h
 exact k a h
theorem Def.s {α:Type} {a:α} {Q:α->Prop} (h:Q a):Def (some a) Q:=⟨a,rfl,h⟩
theorem Def.of {α:Type} {o:Option α} {a:α} {Q:α->Prop} (e:o=some a) (h:Q a):Def o Q:=⟨a,e,h⟩
theorem Def.c {α:Type} {b:Bool} {x y:Option α} {Q:α->Prop} (h:b=true->Def x Q) (k:b=false->Def y Q):Def (bif b then x else y) Q:=by
 cases b
 ·exact k rfl
 ·exact h rfl
theorem Def.ck {b:Bool} (h:b=true):Def (Go.Sw.ck b) (λ_=>True):=⟨(),ckT h,trivial⟩
theorem Def.lt {α β:Type} {e:α} {f:α->Option β} {Q:β->Prop} (k:Def (f e) Q):Def (Go.Sw.lt e f) Q:=k
theorem Def.mono {α:Type} {o:Option α} {P Q:α->Prop} (h:Def o P) (k:∀ a,P a->Q a):Def o Q:=by
 obtain ⟨a,e,h⟩:=h
 exact ⟨a,e,k a h⟩
theorem Def.get {α:Type} {o:Option α} {P:α->Prop} (d:α) (h:Def o P):o=some (o.getD d)/\P (o.getD d):=by
 obtain ⟨a,rfl,h⟩:=h
 exact ⟨rfl,h⟩
theorem Def.loop {X Y:Type} {step:X->Option (X ⊕ Y)} {s:X} {Q:Y->Prop} (I:X->Prop) (m:X->Nat)
  (h:∀ s,I s->Def (step s) (λr=>match r with | .inl s'=>I s'/\m s'<m s | .inr r=>Q r)) (h0:I s) (hm:m s<2 ^ 64):Def (zV step FU s) Q:=by
 refine zH2 I m Q (λs hs=>?_) FU s h0 (wK hm)
 obtain ⟨r,e,hr⟩:=h s hs
 cases r with
 | inl s'=>exact .inl ⟨s',e,hr.1,hr.2⟩
 | inr r=>exact .inr ⟨r,e,hr⟩
theorem Def.app {α:Type} {b:Nat} {l m:List α} (h:(l.length+m.length)*b<=140737488355328):Def (yS b l m) (λr=>r=l++m):=⟨_,yJ h,rfl⟩
theorem Def.sub {α:Type} {l:List α} {a b:Int} (h0:0<=a) (h1:a<=b) (h2:b<=l.length):Def (Go.Sw.sub l a b) (λr=>r=(l.drop a.toNat).take (b.toNat - a.toNat)):=by
 obtain ⟨n,rfl⟩:=Int.eq_ofNat_of_zero_le h0
 obtain ⟨m,rfl⟩:=Int.eq_ofNat_of_zero_le (by omega:0<=b)
 exact ⟨_,tA (by omega) (by omega),rfl⟩
theorem Def.ixN {n:Nat} {i:Int} (h0:0<=i) (h:i<n):Def (Go.Sw.ixN n i) (λj=>j=i.toNat/\j<n):=by
 refine ⟨i.toNat,?_,rfl,by omega⟩
 simp [Go.Sw.ixN,h0,h]
theorem Def.upd {α:Type} {l:List α} {j:Nat} {u:α} (h:j<l.length):Def (sY l j u) (λr=>r=l.set j u):=⟨_,by simp [sY,h],rfl⟩
theorem Def.at {α:Type} {l:List α} {j:Nat} (h:j<l.length):Def (l[j]?) (λr=>r∈l):=⟨l[j],by simp [h],List.getElem_mem _⟩
theorem Def.mkN {n:Int} (h0:0<=n) (h:n<2 ^ 40):Def (mkN 1 n) (λj=>j=n.toNat):=⟨n.toNat,by unfold Go.Sw.mkN;rw [if_pos ⟨h0,by omega⟩],rfl⟩
theorem zE2 {a b:Nat} (h:a<=b):Nat.ble a b=true:=Nat.ble_eq.mpr h
end Go.Sw
namespace Go.Proofs.TT
open Go Go.Sw
set_option maxRecDepth 100000
end Go.Proofs.TT
namespace Go.Sw
open Go
theorem iY {X Y:Type} {s1 s2:X->Option (X ⊕ Y)} (I:X->Prop) (h:∀ s,I s->s1 s=s2 s/\Def (s2 s) (λr=>∀ s',r=.inl s'->I s')):∀ (n:Nat) (s:X),I s->zV s1 n s=zV s2 n s
 | 0,_,_=>rfl
 | n+1,s,hs=>by
  obtain ⟨e,r,hr,hI⟩:=h s hs
  simp only [zV]
  rw [e,hr]
  cases r with
  | inl s'=>exact iY I h n s' (hI s' rfl)
  | inr y=>rfl
end Go.Sw
namespace Go.Proofs.TT
open Go Go.Sw
set_option maxRecDepth 100000
theorem dT {p:Prop} [Decidable p] (h:decide p=true):p:=by simpa using h
theorem dF {p:Prop} [Decidable p] (h:decide p=false):¬ p:=by simpa using h
theorem Def.at' {α:Type} {l:List α} {i:Nat} (h:i<l.length):Def (idx l (i:Int)) (λr=>r=l[i]):=⟨_,yZ h,rfl⟩
theorem gJ {α R:Type} (l:List α) (step:Int->Option (Int ⊕ (R ⊕ Unit))) (G:Nat->Prop) (B:R->Prop) (hl:l.length<2 ^ 40)
  (h:∀ i,i<l.length->Def (step (i:Int)) (λr=>match r with | .inl j=>j=((i+1:Nat):Int)/\G i | .inr (.inl b)=>B b | .inr (.inr _)=>False))
  (he:step (l.length:Int)=some (.inr (.inr ()))):Def (zV step FU 0) (λr=>match r with | .inl b=>B b | .inr _=>∀ i,i<l.length->G i):=by
 refine Def.loop (λs=>∃ i:Nat,s=(i:Int)/\i<=l.length/\∀ k,k<i->G k) (λs=>l.length - s.toNat) (λs hs=>?_) ⟨0,rfl,by omega,λk hk=>by omega⟩ (by simp;omega)
 obtain ⟨i,rfl,hi,hg⟩:=hs
 by_cases h2:i<l.length
 ·refine (h i h2).mono λr hr=>?_
  match r,hr with
  | .inl j,hr=>
   refine ⟨⟨i+1,hr.1,h2,λk hk=>?_⟩,by rw [hr.1];simp only [Int.toNat_natCast];omega⟩
   by_cases hk2:k<i
   ·exact hg k hk2
   ·have:k=i:=by omega
    subst this;exact hr.2
  | .inr (.inl b),hr=>exact hr
  | .inr (.inr u),hr=>exact hr.elim
 ·have:i=l.length:=by omega
  subst this
  exact Def.of he hg
theorem two {X Y:Type} {step:X->Option (X ⊕ Y)} {a b c:X} {r:Y} (h0:step a=some (.inl b)) (h1:step b=some (.inl c)) (h2:step c=some (.inr r)):zV step FU a=some r:=by
 refine yM 2 (λi=>match i with | 0=>a | 1=>b | _=>c) rfl (λi hi=>?_) h2 (wK (by decide))
 have:i=0∨i=1:=by omega
 rcases this with rfl | rfl
 ·exact h0
 ·exact h1
theorem zO1 (x n m:Int) (h:tX .u64 (IntKind.u64.wrap n) 31=32 - m) (hn:n=32 - m) (h0:0<=m) (h1:m<=32):zN x n=tP x n:=by
 rw [rX x n m h h0 h1]
 subst hn
 have h2:IntKind.u64.wrap (32 - (32 - m))=m:=by rw [IntKind.wrap_u64];omega
 have h4:decide ((0:Int)<=32 - m)=true:=by simp;omega
 simp only [tP,ck,lt,h2,h4,rr,cond_true,Option.bind_some]
 rw [zFh]
theorem rot1 (x:Int):zN x 1=tP x 1:=zO1 x 1 31 (by decide) (by decide) (by decide) (by decide)
theorem rot5 (x:Int):zN x 5=tP x 5:=zO1 x 5 27 (by decide) (by decide) (by decide) (by decide)
theorem zTj (x:Int):zN x 30=tP x 30:=zO1 x 30 2 (by decide) (by decide) (by decide) (by decide)
theorem zAz (x n:Int) (h0:0<=n):Def (tP x n) (λ_=>True):=by
 unfold tP
 refine Def.bd (Def.ck (by simpa using h0)) (λ_ _=>?_)
 exact Def.lt (Def.s trivial)
theorem w80 {w:List Int} {j:Nat} (hw:w.length=80) (hj:j<80):Def (w[j]?) (λ_=>True):=(Def.at (by omega)).mono λ_ _=>trivial
theorem ixw {j n:Nat} (hn:j<n) (z:Int) (hz:z=(j:Int)):Def (Go.Sw.ixN n z) (λr=>r=j):=by
 subst hz
 exact (Def.ixN (by omega) (by omega)).mono λa h=>by rw [h.1];simp
theorem s1_s (x:List UInt8) (at' i:Nat) (w:List Int) (h:at'+64<=x.length) (hb:x.length<2 ^ 42) (hi:i<=80) (hw:w.length=80) :
  Def (uH x (at':Int) ((i:Int),w)) (λr=>match r with | .inl s=>∃ w',s=(((i+1:Nat):Int),w')/\i<80/\w'.length=80 | .inr w=>w.length=80):=by
 unfold uH
 refine Def.c (λh=>?_) (λ_=>Def.s hw)
 have hi2:i<80:=by have:=dT h;omega
 have up:∀ v,Def ((Go.Sw.ixN 80 (i:Int)).bind λj=>(sY w j v).bind λw=>some w) (λw'=>w'.length=80):=λv=>by
  refine Def.bd (ixw hi2 _ rfl) (λj hj=>?_)
  subst hj
  exact Def.bd (Def.upd (by omega)) (λr hr=>Def.s (by rw [hr];simpa using hw))
 refine Def.bd (P:=λw'=>w'.length=80) ?_ (λw' hw'=>Def.s ⟨w',by rw [vU (by omega)],hi2,hw'⟩)
 refine Def.c (λh16=>?_) (λh16=>?_)
 ·have h16':i<16:=by have:=dT h16;omega
  rw [xH (by omega) (by omega)]
  refine Def.bd (Def.sub (by omega) (by omega) (by omega)) (λy hy=>?_)
  have hyl:y.length=64:=by rw [hy];simp;omega
  exact Def.bd (P:=λ_=>True) (Def.of (zHv y i (by omega) (by omega)) trivial) (λv _=>up v)
 ·have h16':16<=i:=by have:=dF h16;omega
  have wr:∀ k:Nat,k<=16->IntKind.i64.wrap ((i:Int) - (k:Int))=((i - k:Nat):Int):=λk hk=>by rw [xH (by omega) (by omega)];omega
  refine Def.bd (ixw (show i - 3<80 by omega) _ (wr 3 (by omega))) (λj hj=>?_)
  refine Def.bd (w80 hw (by omega)) (λ_ _=>?_)
  refine Def.bd (ixw (show i - 8<80 by omega) _ (wr 8 (by omega))) (λj hj=>?_)
  refine Def.bd (w80 hw (by omega)) (λ_ _=>?_)
  refine Def.bd (ixw (show i - 14<80 by omega) _ (wr 14 (by omega))) (λj hj=>?_)
  refine Def.bd (w80 hw (by omega)) (λ_ _=>?_)
  refine Def.bd (ixw (show i - 16<80 by omega) _ (wr 16 (by omega))) (λj hj=>?_)
  refine Def.bd (w80 hw (by omega)) (λ_ _=>?_)
  refine Def.lt ?_
  exact Def.bd (zAz _ _ (by decide)) (λv _=>up v)
theorem s1_e (x:List UInt8) (at' i:Nat) (w:List Int) (h:at'+64<=x.length) (hb:x.length<2 ^ 42):vI (oZ x at') ((i:Int),w)=uH x (at':Int) ((i:Int),w):=by
 unfold vI uH
 have hs:sub x (at':Int) (IntKind.i64.wrap ((at':Int)+64))=some (oZ x at'):=by
  rw [xH (by omega) (by omega),show (at':Int)+64=((at'+64:Nat):Int) by omega,tA (by omega) (by omega)]
  simp [oZ]
 simp only [rot1,hs,zEr,Option.bind_some]
theorem zTp (x:List UInt8) (at':Nat) (h:at'+64<=x.length) (hb:x.length<2 ^ 42) :
  Def (zV (uH x (at':Int)) FU (0,List.replicate 80 0)) (λw=>w.length=80/\zV (vI (oZ x at')) FU (0,List.replicate 80 0)=some w):=by
 have e:zV (vI (oZ x at')) FU (0,List.replicate 80 0)=zV (uH x (at':Int)) FU (0,List.replicate 80 0):=by
  refine iY (λs=>∃ i:Nat,s.1=(i:Int)/\i<=80/\s.2.length=80) (λs hs=>?_) _ _ ⟨0,rfl,by omega,by simp⟩
  obtain ⟨i',w⟩:=s
  obtain ⟨i,h1,hi,hw⟩:=hs
  have h1:i'=(i:Int):=h1
  subst h1
  refine ⟨s1_e x at' i w h hb,(s1_s x at' i w h hb hi hw).mono λr hr s' hs'=>?_⟩
  subst hs'
  obtain ⟨w',rfl,h2,h3⟩:=hr
  exact ⟨i+1,rfl,by omega,h3⟩
 rw [e]
 obtain ⟨w,h1,h2⟩:Def (zV (uH x (at':Int)) FU (0,List.replicate 80 0)) (λw=>w.length=80):=by
  refine Def.loop (λs=>∃ i:Nat,s.1=(i:Int)/\i<=80/\s.2.length=80) (λs=>80 - s.1.toNat) (λs hs=>?_) ⟨0,rfl,by omega,by simp⟩ (by simp)
  obtain ⟨i',w⟩:=s
  obtain ⟨i,h1,hi,hw⟩:=hs
  have h1:i'=(i:Int):=h1
  subst h1
  refine (s1_s x at' i w h hb hi hw).mono λr hr=>?_
  cases r with
  | inl s'=>
   obtain ⟨w',rfl,h2,h3⟩:=hr
   exact ⟨⟨i+1,rfl,by omega,h3⟩,by simp only [Int.toNat_natCast];omega⟩
  | inr w=>exact hr
 exact ⟨w,h1,h2,h1⟩
theorem r1_s (w:List Int) (hw:w.length=80) (a b c d e:Int) (i:Nat) (hi:i<=80) :
  Def (uF w (a,b,c,d,e,(i:Int))) (λr=>match r with | .inl s=>s.2.2.2.2.2=((i+1:Nat):Int)/\i<80 | .inr _=>True):=by
 unfold uF
 refine Def.c (λh=>?_) (λ_=>Def.s trivial)
 have hi2:i<80:=by have:=dT h;omega
 refine Def.bd (P:=λ_=>True) ?_ (λx _=>?_)
 ·exact Def.c (λ_=>Def.lt (Def.s trivial)) (λ_=>Def.c (λ_=>Def.s trivial) (λ_=>Def.c (λ_=>Def.lt (Def.s trivial)) (λ_=>Def.s trivial)))
 obtain ⟨f,k⟩:=x
 refine Def.bd (zAz _ _ (by decide)) (λ_ _=>?_)
 refine Def.lt ?_
 refine Def.bd (ixw hi2 _ rfl) (λj hj=>?_)
 refine Def.bd (w80 hw (by omega)) (λ_ _=>?_)
 refine Def.lt ?_
 refine Def.bd (zAz _ _ (by decide)) (λ_ _=>Def.s ?_)
 exact ⟨vU (by omega),hi2⟩
theorem r1_e (w:List Int) (a b c d e:Int) (i:Nat) (hi:i<=80):vH w (a,b,c,d,e,(i:Int))=uF w (a,b,c,d,e,(i:Int)):=by
 have hq:IntKind.i64.wrap (Int.tdiv (i:Int) 20)=((i / 20:Nat):Int):=by
  rw [show Int.tdiv (i:Int) 20=((i / 20:Nat):Int) from rfl]
  exact xH (by omega) (by omega)
 unfold vH uF
 simp only [rot5,zTj,hq]
 by_cases h1:i<20
 ·rw [show (((i / 20:Nat):Int)==0)=true by simp;omega,show decide ((i:Int)<20)=true by simp;omega]
  rfl
 by_cases h2:i<40
 ·rw [show (((i / 20:Nat):Int)==0)=false by simp;omega,show decide ((i:Int)<20)=false by simp;omega,show (((i / 20:Nat):Int)==1)=true by simp;omega,show decide ((i:Int)<40)=true by simp;omega]
  rfl
 by_cases h3:i<60
 ·rw [show (((i / 20:Nat):Int)==0)=false by simp;omega,show decide ((i:Int)<20)=false by simp;omega,show (((i / 20:Nat):Int)==1)=false by simp;omega,show decide ((i:Int)<40)=false by simp;omega,show (((i / 20:Nat):Int)==2)=true by simp;omega,show decide ((i:Int)<60)=true by simp;omega]
 ·by_cases h4:i<80
  ·rw [show (((i / 20:Nat):Int)==0)=false by simp;omega,show decide ((i:Int)<20)=false by simp;omega,show (((i / 20:Nat):Int)==1)=false by simp;omega,show decide ((i:Int)<40)=false by simp;omega,show (((i / 20:Nat):Int)==2)=false by simp;omega,show decide ((i:Int)<60)=false by simp;omega]
  ·rw [show decide ((i:Int)<80)=false by simp;omega]
   rfl
theorem zVt (w:List Int) (hw:w.length=80) (a b c d e:Int):Def (zV (uF w) FU (a,b,c,d,e,0)) (λr=>zV (vH w) FU (a,b,c,d,e,0)=some r):=by
 have e1:zV (vH w) FU (a,b,c,d,e,0)=zV (uF w) FU (a,b,c,d,e,0):=by
  refine iY (λs=>∃ i:Nat,s.2.2.2.2.2=(i:Int)/\i<=80) (λs hs=>?_) _ _ ⟨0,rfl,by omega⟩
  obtain ⟨a,b,c,d,e,v⟩:=s
  obtain ⟨i,h1,hi⟩:=hs
  have h1:v=(i:Int):=h1
  subst h1
  refine ⟨r1_e w a b c d e i hi,(r1_s w hw a b c d e i hi).mono λr hr s' hs'=>?_⟩
  subst hs'
  exact ⟨i+1,hr.1,by have:=hr.2;omega⟩
 rw [e1]
 obtain ⟨r,h1,_⟩:Def (zV (uF w) FU (a,b,c,d,e,0)) (λ_=>True):=by
  refine Def.loop (λs=>∃ i:Nat,s.2.2.2.2.2=(i:Int)/\i<=80) (λs=>80 - s.2.2.2.2.2.toNat) (λs hs=>?_) ⟨0,rfl,by omega⟩ (by simp)
  obtain ⟨a,b,c,d,e,v⟩:=s
  obtain ⟨i,h1,hi⟩:=hs
  have h1:v=(i:Int):=h1
  subst h1
  refine (r1_s w hw a b c d e i hi).mono λr hr=>?_
  cases r with
  | inl s'=>exact ⟨⟨i+1,hr.1,by have:=hr.2;omega⟩,by rw [hr.1];simp only [Int.toNat_natCast];have:=hr.2;omega⟩
  | inr r=>trivial
 exact ⟨r,h1,h1⟩
def a5 (s:A5 Int):List Int:=[s.a0,s.a1,s.a2,s.a3,s.a4]
def zJx (h:A5 Int) (b:List UInt8):A5 Int:=(vV h b).getD h
theorem blk1 (x:List UInt8) (at':Nat) (h:A5 Int) (hx:at'+64<=x.length) (hb:x.length<2 ^ 42) :
  vV h (oZ x at')=some (zJx h (oZ x at'))/\dB x (a5 h,(at':Int))=some (.inl (a5 (zJx h (oZ x at')),((at'+64:Nat):Int))):=by
 obtain ⟨w,hw1,hw2,hw3⟩:=zTp x at' hx hb
 obtain ⟨⟨a,b,c,d,e⟩,hr1,hr2⟩:=zVt w hw2 h.a0 h.a1 h.a2 h.a3 h.a4
 have e1:vV h (oZ x at')=some ⟨IntKind.u32.wrap (h.a0+a),IntKind.u32.wrap (h.a1+b),IntKind.u32.wrap (h.a2+c),IntKind.u32.wrap (h.a3+d),IntKind.u32.wrap (h.a4+e)⟩:=by
  unfold vV
  refine bd hw3 ?_
  exact bd hr2 rfl
 have e2:zJx h (oZ x at')=⟨IntKind.u32.wrap (h.a0+a),IntKind.u32.wrap (h.a1+b),IntKind.u32.wrap (h.a2+c),IntKind.u32.wrap (h.a3+d),IntKind.u32.wrap (h.a4+e)⟩:=by
  unfold zJx;rw [e1];rfl
 rw [e2]
 refine ⟨e1,?_⟩
 unfold dB
 refine ct (dlt (by omega)) ?_
 refine bd hw1 ?_
 refine bd (a:=h.a0) rfl ?_
 refine bd (a:=h.a1) rfl ?_
 refine bd (a:=h.a2) rfl ?_
 refine bd (a:=h.a3) rfl ?_
 refine bd (a:=h.a4) rfl ?_
 refine bd hr1 ?_
 refine bd (a:=h.a0) rfl ?_
 refine bd (a:=h.a1) rfl ?_
 refine bd (a:=h.a2) rfl ?_
 refine bd (a:=h.a3) rfl ?_
 refine bd (a:=h.a4) rfl ?_
 rw [xH (by omega) (by omega),show (at':Int)+64=((at'+64:Nat):Int) by omega]
 rfl
def zNi:A5 Int:=⟨1732584193,4023233417,2562383102,271733878,3285377520⟩
def aC (x:List UInt8):Nat->A5 Int
 | 0=>zNi
 | i+1=>zJx (aC x i) (oZ x (64*i))
def st5 (p:List UInt8) (h:A5 Int):List UInt8×Int×Int×Int×Int×Int:=(p,h.a0,h.a1,h.a2,h.a3,h.a4)
theorem zDn (x:List UInt8) (n:Nat) (hx:x.length=64*n) (hl:x.length<2 ^ 42):zV oK FU (st5 x zNi)=some ((aC x n).a0,(aC x n).a1,(aC x n).a2,(aC x n).a3,(aC x n).a4):=by
 refine yM n (λi=>st5 (x.drop (64*i)) (aC x i)) (by simp [aC]) (λi hi=>?_) ?_ (wK (by omega))
 ·have hd:(x.drop (64*i)).length=x.length - 64*i:=by simp
  unfold oK st5
  refine ct (by simp;omega) ?_
  refine bd (a:=oZ x (64*i)) (by rw [show (0:Int)=((0:Nat):Int) from rfl,show (64:Int)=((64:Nat):Int) from rfl,tA (by omega) (by omega)];simp [oZ]) ?_
  refine bd (blk1 x (64*i) (aC x i) (by omega) hl).1 ?_
  refine bd (a:=x.drop (64*(i+1))) (by rw [show (64:Int)=((64:Nat):Int) from rfl,tA (by omega) (by omega)];rw [List.drop_drop,List.take_of_length_le (by simp;omega)];congr 2) ?_
  rfl
 ·have hd:x.drop (64*n)=[]:=List.drop_eq_nil_of_le (by omega)
  show oK (st5 (x.drop (64*n)) (aC x n))=_
  rw [hd]
  generalize aC x n=S
  rfl
def cG (b:List UInt8):List UInt8:=(a5 (aC (b9 b) ((b9 b).length / 64))).flatMap be4
theorem zDq (b:List UInt8):(cG b).length=20:=by unfold cG;rw [zFp];rfl
theorem zK7 (b:List UInt8) (hb:b.length<2 ^ 40):xB 0 b=some (cG b):=by
 have hz:zs b.length<64:=by unfold zs;omega
 have h1:=zAn b
 have h2:=zDo b
 unfold xB
 refine ct rfl ?_
 refine bd (zAd b hb) ?_
 refine bd (zDn (b9 b) ((b9 b).length / 64) (by omega) (by omega)) ?_
 exact bd (zCa _ (by simp)) rfl
end Go.Proofs.TT
namespace Go.Proofs.TT
open Go Go.Sw
theorem zTg (k:IntKind) (n j:Nat) (h:j<=k.bits):w9 k (n:Int) (j:Int)=((n / 2 ^ j:Nat):Int):=by
 unfold w9
 rw [Int.toNat_natCast,Nat.min_eq_left h,Int.fdiv_eq_ediv_of_nonneg _ (by have:(0:Int)<2 ^ j:=Int.pow_pos (by decide);omega)]
 rw [Int.natCast_ediv];simp
theorem kG (n:Nat):(u8 (n:Int)).toNat=n % 256:=by
 have:((n:Int) % 256).toNat=n % 256:=by omega
 rw [u8,this];simp
theorem zM7 {l:List (List UInt8)} {i:Nat} (h:i<l.length):idx l (i:Int)=some (l.getD i []):=by rw [yZ h];simp [h]
end Go.Proofs.TT
namespace Go.Proofs.TT
open Go Go.Sw
set_option maxRecDepth 100000
structure Rem (r:RS) (l:List UInt8):Prop where
 e:r.e=0
 at':r.at'<=r.b.length
 d:r.b.drop r.at'=l
theorem Rem.left {r:RS} {l:List UInt8} (h:Rem r l):r.left=l.length:=by
 have:=congrArg List.length h.d
 simp at this
 exact this
theorem Rem.to {r:RS} {x rest:List UInt8} {n:Nat} (h:Rem r (x++rest)) (hx:x.length=n):Rem (r.to n) rest:=by
 have hl:=h.left
 have ha:=h.at'
 simp only [RS.left,List.length_append] at hl
 refine ⟨h.e,by simp only [RS.to];omega,?_⟩
 show r.b.drop (r.at'+n)=rest
 rw [<- List.drop_drop,h.d,<- hx,List.drop_left]
theorem Rem.raw {r:RS} {x rest:List UInt8} {n:Nat} (h:Rem r (x++rest)) (hx:x.length=n):jQ r n=(x,r.to n):=by
 have hl:=h.left
 rw [List.length_append] at hl
 unfold jQ
 rw [if_neg (by simp [h.e]),if_neg (by omega)]
 have:r.get n=x:=by
  unfold RS.get
  rw [h.d,<- hx,List.take_left]
 rw [this]
theorem Rem.uint {r:RS} {x rest:List UInt8} {n:Nat} (h:Rem r (x++rest)) (hx:x.length=n) (hv:¬ 9223372036854775808<=beV x n):tV r n=(IntKind.i64.wrap (beV x n),r.to n):=by
 have hl:=h.left
 rw [List.length_append] at hl
 unfold tV
 have:r.get n=x:=by
  unfold RS.get
  rw [h.d,<- hx,List.take_left]
 rw [if_neg (by simp [h.e]),if_neg (by omega),this,if_neg hv]
theorem Rem.blob {r:RS} {a b:UInt8} {x rest:List UInt8} {m:Nat} (h:Rem r ([a,b]++(x++rest))) (hx:x.length=a.toNat*256+b.toNat) (hm:x.length<=m):sH r m=(x,r.to (2+x.length))/\Rem (r.to (2+x.length)) rest:=by
 have hl:=h.left
 have ha:=h.at'
 simp only [List.length_append,List.length_cons,List.length_nil] at hl
 have hd:=h.d
 have e0:r.b.getD r.at' 0=a:=by
  have:=congrArg (λl=>l.getD 0 0) hd
  simpa using this
 have e1:r.b.getD (r.at'+1) 0=b:=by
  have:=congrArg (λl=>l.getD 1 0) hd
  simpa using this
 have ev:v2 r=x.length:=by unfold v2;rw [e0,e1,hx]
 have h2:Rem (r.to 2) (x++rest):=Rem.to (x:=[a,b]) h rfl
 have hd2:r.b.drop (r.at'+2)=x++rest:=h2.d
 constructor
 ·unfold sH
  rw [if_neg (by simp [h.e]),if_neg (by omega),ev,if_neg (by omega),if_neg (by omega),hd2,List.take_left]
 ·have:=Rem.to h2 rfl
  have e:(r.to 2).to x.length=r.to (2+x.length):=by simp [RS.to,Nat.add_assoc]
  rw [<- e]
  exact this
theorem Rem.uintV {r:RS} {x rest:List UInt8} {n:Nat} {v:Int} (h:Rem r (x++rest)) (hx:x.length=n) (hv:beV x n=v) (h0:0<=v) (h1:v<9223372036854775808):tV r n=(v,r.to n):=by
 rw [h.uint hx (by omega),hv,xH (by omega) (by omega)]
theorem zFj (a b:Nat) (ha:a<2 ^ 56) (hb:b<256):ior .u64 (pS .u64 (a:Int) 8) (IntKind.u64.wrap (b:Int))=((a*256+b:Nat):Int):=by
 rw [aX (by omega) (by omega)]
 have e1:pS .u64 (a:Int) 8=((a*256:Nat):Int):=by
  show IntKind.u64.wrap ((a:Int)*256)=_
  rw [aX (by omega) (by omega)];omega
 rw [e1]
 unfold ior
 have e2:(BitVec.ofInt IntKind.u64.bits ((a*256:Nat):Int) ||| BitVec.ofInt IntKind.u64.bits (b:Int)).toNat=a*256+b:=by
  show (BitVec.ofInt 64 ((a*256:Nat):Int) ||| BitVec.ofInt 64 (b:Int)).toNat=_
  rw [BitVec.ofInt_natCast,BitVec.ofInt_natCast,BitVec.toNat_or,BitVec.toNat_ofNat,BitVec.toNat_ofNat,Nat.mod_eq_of_lt (by omega),Nat.mod_eq_of_lt (by omega)]
  rw [Nat.mul_comm,show (256:Nat)=2 ^ 8 from rfl,<- Nat.two_pow_add_eq_or_of_lt (by omega)]
 rw [e2,aX (by omega) (by omega)]
theorem zCy (n size k:Nat) (hn:n<2 ^ 64) (hk:k<size) (h8:size<=8):((beN (n:Int) size size).getD k 0).toNat=n / 256 ^ (size - (k+1)) % 256:=by
 have e:(beN (n:Int) size size).getD k 0=u8 (w9 .u64 (IntKind.u64.wrap (n:Int)) (8*((size:Int) - 1 - (k:Int)))):=by simp [beN,hk]
 rw [e,aX (by omega) (by omega),show 8*((size:Int) - 1 - (k:Int))=((8*(size - (k+1)):Nat):Int) by omega,zTg .u64 n _ (by show _<=64;omega),kG,Nat.pow_mul]
theorem zG5 (n size:Nat) (hn:n<2 ^ 64) (h8:size<=8) (hs:n<256 ^ size):∀ k,k<=size->beV (beN (n:Int) size size) k=((n / 256 ^ (size - k):Nat):Int)
 | 0,_=>by
  rw [Nat.sub_zero,Nat.div_eq_of_lt hs];rfl
 | k+1,hk=>by
  unfold beV
  rw [zG5 n size hn h8 hs k (by omega),zCy n size k hn (by omega) h8]
  have e:256 ^ (size - k)=256 ^ (size - (k+1))*256:=by
   rw [<- Nat.pow_succ];congr 1;omega
  rw [e,<- Nat.div_div_eq_div_mul]
  have hm:n / 256 ^ (size - (k+1))<=n:=Nat.div_le_self _ _
  generalize n / 256 ^ (size - (k+1))=m at hm
  rw [zFj _ _ (by omega) (by omega)]
  congr 1
  omega
theorem Rem.uintN {r:RS} {rest:List UInt8} {k n:Nat} (h:Rem r (beN (n:Int) k k++rest)) (h8:k<=8) (hn:n<2 ^ 63) (hs:n<256 ^ k):tV r k=((n:Int),r.to k)/\Rem (r.to k) rest:=by
 have hb:=zG5 n k (by omega) h8 hs k (Nat.le_refl _)
 rw [Nat.sub_self,Nat.pow_zero,Nat.div_one] at hb
 exact ⟨h.uintV (yY _ _ _) hb (by omega) (by omega),h.to (yY _ _ _)⟩
theorem be2 (n:Nat) (hn:n<65536):∃ a b:UInt8,beN (n:Int) 2 2=[a,b]/\n=a.toNat*256+b.toNat:=by
 have h0:=zCy n 2 0 (by omega) (by omega) (by omega)
 have h1:=zCy n 2 1 (by omega) (by omega) (by omega)
 have hl:=yY (n:Int) 2 2
 match hx:beN (n:Int) 2 2,hl with
 | [a,b],_=>
  rw [hx] at h0 h1
  refine ⟨a,b,rfl,?_⟩
  have h0:a.toNat=n / 256 ^ 1 % 256:=h0
  have h1:b.toNat=n / 256 ^ 0 % 256:=h1
  rw [h0,h1]
  simp only [Nat.pow_one,Nat.pow_zero,Nat.div_one]
  omega
theorem zAc {x:List UInt8} (b:List UInt8) (h:x.length<=65535):eV b x=b++(beN (x.length:Int) 2 2++x):=by
 unfold eV rD
 rw [List.take_of_length_le h,List.append_assoc]
theorem Rem.blobN {r:RS} {x rest:List UInt8} {m:Nat} (h:Rem r (beN (x.length:Int) 2 2++(x++rest))) (hx:x.length<=65535) (hm:x.length<=m):sH r m=(x,r.to (2+x.length))/\Rem (r.to (2+x.length)) rest:=by
 obtain ⟨a,b,h1,h2⟩:=be2 x.length (by omega)
 rw [h1] at h
 exact Rem.blob h h2 hm
theorem Rem.fin {r:RS} (h:Rem r []):zCi r=0:=by
 have:=h.left
 unfold zCi
 rw [if_neg (by rw [this];simp)]
 exact h.e
theorem Rem.uintI {r:RS} {rest:List UInt8} {k:Nat} {n:Int} (h:Rem r (beN n k k++rest)) (h8:k<=8) (h0:0<=n) (hn:n<2 ^ 62) (hs:n.toNat<256 ^ k):tV r k=(n,r.to k)/\Rem (r.to k) rest:=by
 obtain ⟨m,rfl⟩:=Int.eq_ofNat_of_zero_le h0
 exact Rem.uintN h h8 (by omega) hs
end Go.Proofs.TT
namespace Go.Proofs.TT
open Go Go.Sw
set_option maxRecDepth 100000
def uB (active a:Int):Bool:=tX .i64 (w9 .i64 active (IntKind.u64.wrap a)) 1==1
def dgE (active:Int) (on:Bool) (b:List UInt8):List (List UInt8):=[if (on&&uB active 0)=true then cG b else [],if (on&&uB active 1)=true then sha b else []]
theorem zJa {c:Bool} {a:Nat} {v:List (List UInt8)} {o:Option (List UInt8)} {d:List UInt8} (hv:v.length=2) (ha:a<2) (ho:o=some d) :
  (bif c then (o.bind λs=>(ixN 2 (a:Int)).bind λj=>(sY v j s).bind λw=>some w) else some v)=some (if c=true then v.set a d else v):=by
 cases c
 ·rfl
 ·refine bd ho ?_
  refine bd (qJ ha) ?_
  exact bd (by simp [sY,hv,ha]) rfl
def mkE (reg kind active:Int) (data:List UInt8):zB:=⟨reg,kind,dgE active (kind != 5) data,data⟩
end Go.Proofs.TT
namespace Go.Proofs.TT
open Go Go.Sw
set_option maxRecDepth 100000
def zN0 (l:List UInt8):Prop:=1<=l.length/\l.length<=8/\∀ x∈l,32<=x.toNat/\x.toNat<=126
def zOe (L:List (List UInt8)):List UInt8:=L.flatMap λl=>l++[10]
theorem zAr (L:List (List UInt8)) (h:∀ l∈L,zN0 l):(zOe L).length<=9*L.length:=by
 induction L with
 | nil=>simp [zOe]
 | cons a r ih=>
  have h1:=(h a (by simp)).2.1
  have h2:=ih (λl hl=>h l (by simp [hl]))
  simp only [zOe,List.flatMap_cons,List.length_append,List.length_cons,List.length_nil] at h2 ⊢
  omega
structure oD (x:zE):Prop where
 r1:1<=x.Role
 r4:x.Role<=4
 v0:0<=x.Version
 v1:x.Version<=1000000
 n:mP x.Name=some true
 nl:x.Name.length<=12
 p:x.Payload.length<=64
 l:x.Role=4->∃ L,sM x=some L/\1<=L.length/\L.length<=4/\∀ l∈L,zN0 l
theorem zA4 (x:zE) (h:oD x):uO x=some 0:=by
 obtain ⟨h1,h2,h3,h4,h5,h6,h7,h8⟩:=h
 unfold uO
 refine bd (a:=false) (cf (by simp;omega) (cf (by simp;omega) (cf (by simp;omega) (congrArg some (by simp;omega))))) ?_
 refine cf rfl ?_
 refine bd h5 ?_
 refine cf rfl ?_
 refine cf (by simp;omega) ?_
 refine bd (a:=false) ?_ rfl
 by_cases h:x.Role=4
 ·refine ct (by simp [h]) ?_
  obtain ⟨L,l1,l2,_⟩:=h8 h
  refine bd l1 ?_
  refine congrArg some ?_
  rw [beq_eq_false_iff_ne];omega
 ·exact cf (by simp [h]) rfl
end Go.Proofs.TT
namespace Go.Proofs.TT
open Go Go.Sw
set_option maxRecDepth 100000
def Bef (a b:zE):Prop:=a.Role<=b.Role/\¬ (a.Role=b.Role/\a.Name=b.Name)
structure jP (l:List zE):Prop where
 len:l.length<=8
 im:∀ x∈l,oD x
 prs:l.Pairwise Bef
 h1:∃ x∈l,x.Role=1
 h3:∃ x∈l,x.Role=3
theorem lS {α:Type} {l:List α} {i:Nat} (h:i<l.length) {x:α} (hx:x∈l.take (i+1)):x∈l.take i∨x=l[i]:=by
 rw [List.take_add_one,List.mem_append] at hx
 rcases hx with hx | hx
 ·exact .inl hx
 ·right
  simpa [h] using hx
theorem pw {l:List zE} (h:l.Pairwise Bef) {i j:Nat} (hj:j<l.length) (hij:i<j):Bef (l[i]'(by omega)) l[j]:=List.pairwise_iff_getElem.mp h i j (by omega) hj hij
theorem zF3 (l:List zE) (h:jP l):u5 l=some 0:=by
 obtain ⟨hlen,him,hp,h1,h3⟩:=h
 have hne:l.length≠0:=by
  obtain ⟨x,hx,_⟩:=h1
  intro e
  rw [List.length_eq_zero_iff] at e
  rw [e] at hx
  simp at hx
 have hl1:∀ i:Nat,i<l.length->Def (zV (xM l (i:Int)) FU 0) (λr=>r=.inr ()):=by
  intro i hi
  refine Def.loop (λs=>∃ k:Nat,s=(k:Int)/\k<=i) (λs=>i - s.toNat) (λs hs=>?_) ⟨0,rfl,by omega⟩ (by simp;omega)
  obtain ⟨k,rfl,hk⟩:=hs
  unfold xM
  refine Def.c (λh=>?_) (λh=>Def.s rfl)
  have hki:=dT h
  have hb:=pw hp hi (show k<i by omega)
  refine Def.bd (P:=λb=>b=false) ?_ (λb hb'=>?_)
  ·refine Def.bd (Def.at' (show k<l.length by omega)) (λy hy=>?_)
   subst hy
   refine Def.bd (Def.at' hi) (λy hy=>?_)
   subst hy
   refine Def.c (λhr=>?_) (λ_=>Def.s rfl)
   rw [beq_iff_eq] at hr
   refine Def.bd (Def.at' (show k<l.length by omega)) (λy hy=>?_)
   subst hy
   refine Def.bd (Def.at' hi) (λy hy=>?_)
   subst hy
   refine Def.s ?_
   rw [beq_eq_false_iff_ne]
   exact λe=>hb.2 ⟨hr,e⟩
  subst hb'
  refine Def.s ?_
  rw [vU (by omega)]
  exact ⟨⟨k+1,rfl,by omega⟩,by simp only [Int.toNat_natCast];omega⟩
 have hd:Def (zV (xA l) FU (false,false,0)) (λr=>r=.inr (true,true)):=by
  refine Def.loop (λs=>∃ i:Nat,s.2.2=(i:Int)/\i<=l.length/\((∃ x∈l.take i,x.Role=1)->s.1=true)/\((∃ x∈l.take i,x.Role=3)->s.2.1=true)) (λs=>l.length - s.2.2.toNat) (λs hs=>?_) ⟨0,rfl,by omega,by simp,by simp⟩ (by simp;omega)
  obtain ⟨f,k,i'⟩:=s
  obtain ⟨i,g1,g2,g3,g4⟩:=hs
  simp only at g1 g3 g4
  subst g1
  unfold xA
  refine Def.c (λh=>?_) (λh=>Def.s ?_)
  ·have hi:i<l.length:=by have:=dT h;omega
   refine Def.bd (Def.at' hi) (λy hy=>?_)
   subst hy
   refine Def.bd (P:=λr=>r=0) (Def.of (zA4 _ (him _ (List.getElem_mem hi))) rfl) (λr hr=>?_)
   subst hr
   refine Def.c (λh=>by simp at h) (λ_=>?_)
   refine Def.bd (P:=λb=>b=false) ?_ (λb hb=>?_)
   ·refine Def.c (λh0=>?_) (λ_=>Def.s rfl)
    have h0':=dT h0
    refine Def.bd (Def.at' hi) (λy hy=>?_)
    subst hy
    rw [xH (by omega) (by omega),show (i:Int) - 1=((i - 1:Nat):Int) by omega]
    refine Def.bd (Def.at' (show i - 1<l.length by omega)) (λy hy=>?_)
    subst hy
    have hb:=(pw hp hi (show i - 1<i by omega)).1
    refine Def.s ?_
    rw [decide_eq_false_iff_not]
    omega
   subst hb
   refine Def.c (λh=>by simp at h) (λ_=>?_)
   refine Def.bd (hl1 i hi) (λr hr=>?_)
   subst hr
   refine Def.bd (P:=λb=>f=true∨l[i].Role=1->b=true) ?_ (λb1 hb1=>?_)
   ·refine Def.c (λ_=>Def.s (λ_=>rfl)) (λhf=>?_)
    refine Def.bd (Def.at' hi) (λy hy=>?_)
    subst hy
    refine Def.s (λe=>?_)
    rcases e with e | e
    ·rw [hf] at e;cases e
    ·rw [e];rfl
   refine Def.bd (P:=λb=>k=true∨l[i].Role=3->b=true) ?_ (λb2 hb2=>?_)
   ·refine Def.c (λ_=>Def.s (λ_=>rfl)) (λhf=>?_)
    refine Def.bd (Def.at' hi) (λy hy=>?_)
    subst hy
    refine Def.s (λe=>?_)
    rcases e with e | e
    ·rw [hf] at e;cases e
    ·rw [e];rfl
   refine Def.s ?_
   rw [vU (by omega)]
   refine ⟨⟨i+1,rfl,by omega,λe=>?_,λe=>?_⟩,by simp only [Int.toNat_natCast];omega⟩
   ·obtain ⟨x,hx,e⟩:=e
    rcases lS hi hx with hx | rfl
    ·exact hb1 (.inl (g3 ⟨x,hx,e⟩))
    ·exact hb1 (.inr e)
   ·obtain ⟨x,hx,e⟩:=e
    rcases lS hi hx with hx | rfl
    ·exact hb2 (.inl (g4 ⟨x,hx,e⟩))
    ·exact hb2 (.inr e)
  ·have:=dF h
   rw [List.take_of_length_le (by omega)] at g3 g4
   rw [g3 h1,g4 h3]
 obtain ⟨r,e,rfl⟩:=hd
 unfold u5
 refine bd (a:=false) (cf ?_ (congrArg some ?_)) ?_
 ·rw [beq_eq_false_iff_ne];omega
 ·rw [decide_eq_false_iff_not];omega
 refine cf rfl ?_
 refine bd e ?_
 rfl
def rM (x:zE):List UInt8:=eV (eV (rD (rD [] 1 x.Role) 4 x.Version) x.Name) x.Payload
theorem zEb (x:zE):5<=(rM x).length/\(rM x).length<2 ^ 20:=by
 have h1:=bE (rD (rD [] 1 x.Role) 4 x.Version) x.Name
 have h2:=bE (eV (rD (rD [] 1 x.Role) 4 x.Version) x.Name) x.Payload
 have h3:(rD (rD [] 1 x.Role) 4 x.Version).length=5:=by rw [u1,u1];rfl
 refine ⟨?_,by unfold rM;omega⟩
 unfold rM eV
 simp only [List.length_append,u1,h3]
 omega
theorem zA8:∀ f u,(decF f u).length<=f
 | 0,_=>Nat.le_refl _
 | f+1,u=>by
  unfold decF
  cases Nat.blt u 10
  ·simp only [cond_false,List.length_append,List.length_singleton]
   have:=zA8 f (u / 10)
   omega
  ·simp only [cond_true,List.length_singleton]
   omega
def lbl (x:zE):List UInt8:=(x.Name++[32])++decF 20 x.Version.toNat
def rgR (role:Int):Int:=if role=1 then 0 else if role=2 then 4 else if role=3 then 8 else if role=4 then 9 else -1
def imE (active:Int) (x:zE):zB:=⟨rgR x.Role,1,dgE active true (rM x),lbl x⟩
def zBx (x:zE):List (List UInt8):=(sM x).getD []
def evR (active role:Int) (l:List zE):List zB:=l.flatMap λx=>if x.Role=role then (if role=4 then (zBx x).map (mkE 9 3 active) else [imE active x]) else []
def zBz (active:Int):List zB:=(List.range 8).map λ(i:Nat)=>mkE (i:Int) 2 active [0,0,0,0]
def evs (l:List zE) (active:Int):List zB:=evR active 1 l++evR active 2 l++(zBz active++evR active 3 l)++evR active 4 l
theorem zFu (x:zE) (h:oD x) (h4:x.Role=4):sM x=some (zBx x)/\(zBx x).length<=4/\∀ l∈zBx x,zN0 l:=by
 obtain ⟨L,h1,_,h2,h3⟩:=h.l h4
 unfold zBx
 rw [h1]
 exact ⟨rfl,h2,h3⟩
theorem dS (active role:Int) (x:zE) (h:oD x):(if x.Role=role then (if role=4 then (zBx x).map (mkE 9 3 active) else [imE active x]) else []).length<=4/\(x.Role=role∨(if x.Role=role then (if role=4 then (zBx x).map (mkE 9 3 active) else [imE active x]) else []).length=0):=by
 by_cases hr:x.Role=role
 ·rw [if_pos hr]
  refine ⟨?_,.inl hr⟩
  by_cases h4:role=4
  ·rw [if_pos h4,List.length_map];exact (zFu x h (by omega)).2.1
  ·rw [if_neg h4];simp
 ·rw [if_neg hr]
  exact ⟨by simp,.inr rfl⟩
theorem zMi (active role:Int) (l:List zE) (h:∀ x∈l,oD x):(evR active role l).length<=4*l.length:=by
 induction l with
 | nil=>simp [evR]
 | cons x t ih=>
  have h1:=(dS active role x (h x (List.mem_cons_self ..))).1
  have h2:=ih (λy hy=>h y (List.mem_cons_of_mem _ hy))
  unfold evR at h2 ⊢
  rw [List.flatMap_cons,List.length_append,List.length_cons]
  omega
theorem zG2 (active:Int) (l:List zE) (h:∀ x∈l,oD x):(evR active 1 l).length+(evR active 2 l).length+(evR active 3 l).length+(evR active 4 l).length<=4*l.length:=by
 induction l with
 | nil=>simp [evR]
 | cons x t ih=>
  have h0:=dS active 1 x (h x (List.mem_cons_self ..))
  have h1:=dS active 2 x (h x (List.mem_cons_self ..))
  have h2:=dS active 3 x (h x (List.mem_cons_self ..))
  have h3:=dS active 4 x (h x (List.mem_cons_self ..))
  have hi:=ih (λy hy=>h y (List.mem_cons_of_mem _ hy))
  unfold evR at hi ⊢
  rw [List.flatMap_cons,List.flatMap_cons,List.flatMap_cons,List.flatMap_cons,List.length_append,List.length_append,List.length_append,List.length_append,List.length_cons]
  omega
theorem zA3 (active:Int):(zBz active).length=8:=by simp [zBz]
theorem zLk (l:List zE) (active:Int) (h:jP l):8<=(evs l active).length/\(evs l active).length<=40:=by
 have h1:=zG2 active l h.im
 have h2:=h.len
 have h3:=zA3 active
 unfold evs
 simp only [List.length_append]
 omega
end Go.Proofs.TT
namespace Go.Proofs.TT
open Go Go.Sw
set_option maxRecDepth 100000
theorem zMl (n m:Int) (hm:1<=m) (hm2:m<2 ^ 40):Def (i6 n m) (λr=>0<=r/\r<m):=by
 unfold i6
 refine Def.c (λh=>by have:=dT h;omega) (λ_=>?_)
 refine Def.bd (Def.ck (by simp;omega)) (λ_ _=>?_)
 have h1:-m<Int.tmod n m:=by
  have:=Int.lt_tmod_of_pos n (by omega:0<m)
  omega
 have h2:Int.tmod n m<m:=Int.tmod_lt_of_pos n (by omega)
 refine Def.bd (P:=λr=>0<=r/\r<m) ?_ (λr hr=>Def.s hr)
 refine Def.c (λh=>Def.s ?_) (λh=>Def.s ?_)
 ·have:=dT h
  rw [xH (by omega) (by omega)]
  omega
 ·have:=dF h
  omega
theorem zDh {α:Type} (a b:List α):(cpy a b).length=a.length:=by
 unfold cpy;simp;omega
end Go.Proofs.TT
namespace Go.Proofs.TT
open Go Go.Sw
set_option maxRecDepth 100000
def siz (a:Int):Int:=if a=0 then 20 else if a=1 then 32 else 0
theorem zM2 (a:Int):zCl a=some (siz a):=by
 unfold zCl siz
 by_cases h0:a=0
 ·rw [if_pos h0];exact ct (by simp [h0]) rfl
 ·rw [if_neg h0]
  refine cf (by simp [h0]) ?_
  by_cases h1:a=1
  ·rw [if_pos h1];exact ct (by simp [h1]) rfl
  ·rw [if_neg h1];exact cf (by simp [h1]) rfl
def Fit (e:zB) (active:Int) (a:Nat):Prop:=((e.Digests.getD a []).length:Int)=if e.Kind≠5/\uB active (a:Int)=true then siz (a:Int) else 0
theorem nf2 {e:zB} {active:Int} (h:∃ i,i<2/\¬ Fit e active i):¬ (Fit e active 0/\Fit e active 1):=by
 obtain ⟨i,hi,hn⟩:=h
 intro ⟨h0,h1⟩
 have:i=0∨i=1:=by omega
 rcases this with rfl | rfl
 ·exact hn h0
 ·exact hn h1
theorem zJ6 {e:zB} {active:Int} {a:Nat} {has:Option Bool} {size:Option Int} (h1:has=some (uB active (a:Int))) (h2:size=some (siz (a:Int))) :
  Def ((bif (e.Kind != 5) then has else some false:Option Bool).bind λv=>bif v then size else some 0) (λw=>w=if e.Kind≠5/\uB active (a:Int)=true then siz (a:Int) else 0):=by
 subst h1 h2
 by_cases hk:e.Kind=5
 ·rw [show (e.Kind != 5)=false by simp [hk]]
  exact Def.s (by rw [if_neg (λh=>h.1 hk)])
 ·rw [show (e.Kind != 5)=true by simp [hk]]
  cases hb:uB active (a:Int)
  ·exact Def.s (by rw [if_neg (λh=>by cases h.2)])
  ·exact Def.s (by rw [if_pos ⟨hk,rfl⟩])
theorem zGq {e:zB} {active:Int} {a:Nat} {w:Int} (hl:a<e.Digests.length) (hw:w=if e.Kind≠5/\uB active (a:Int)=true then siz (a:Int) else 0):((e.Digests[a].length:Int) != w)=false↔Fit e active a:=by
 unfold Fit
 rw [<- hw]
 simp [hl]
structure EvGood (e:zB) (active:Int):Prop where
 r0:0<=e.Register
 r1:e.Register<=11
 d:e.Data.length<=64
 l:e.Digests.length=2
 f0:Fit e active 0
 f1:Fit e active 1
structure EvC (e:zB) (active:Int):Prop extends EvGood e active where
 a1:1<=active
 a3:active<=3
 k1:1<=e.Kind
 k5:e.Kind<=5
theorem or6 {a b c d e f:Bool}:Def (bif a then some true else bif b then some true else bif c then some true else bif d then some true else bif e then some true else some f) (λr=>r=(a||b||c||d||e||f)):=by
 cases a<;>cases b<;>cases c<;>cases d<;>cases e<;>cases f<;>exact Def.s rfl
theorem zL3 {e:zB} {active:Int} {b:Bool} (h:b=(decide (active<1)||decide (3<active)||decide (e.Register<0)||decide (11<e.Register)||decide (e.Kind<1)||decide (5<e.Kind))) :
  b=false↔(1<=active/\active<=3/\0<=e.Register/\e.Register<=11/\1<=e.Kind/\e.Kind<=5):=by
 subst h
 simp only [Bool.or_eq_false_iff,decide_eq_false_iff_not]
 omega
def bnk (n:Nat):List (List UInt8):=List.replicate 12 (List.replicate n 0)++List.replicate 4 (List.replicate n 255)
structure zE5 (active:Int) (r:zF):Prop where
 b:∃ b0 b1,r.Banks=[b0,b1]/\b0.length=(if uB active 0=true then 16 else 0)/\b1.length=(if uB active 1=true then 16 else 0)/\(∀ x∈b0,x.length<=32)/\(∀ x∈b1,x.length<=32)
def upR (act:Bool) (bk:List (List UInt8)) (reg:Int) (f:List UInt8->List UInt8):List (List UInt8):=if act=true then bk.set reg.toNat (f (bk.getD reg.toNat [])) else bk
def ext (active:Int) (e:zB) (r:zF):zF:=
 ⟨[upR (uB active 0) (r.Banks.getD 0 []) e.Register (λx=>cG (x++e.Digests.getD 0 [])),upR (uB active 1) (r.Banks.getD 1 []) e.Register (λx=>sha (x++e.Digests.getD 1 []))],IntKind.i64.wrap (r.Updates+1)⟩
theorem zGt (act:Bool) (bk:List (List UInt8)) (reg:Int) (f:List UInt8->List UInt8):(upR act bk reg f).length=bk.length:=by unfold upR;split<;>simp
theorem zKa {act:Bool} {bk:List (List UInt8)} {reg:Int} {f:List UInt8->List UInt8} (h:∀ x∈bk,x.length<=32) (hf:∀ x,(f x).length<=32):∀ x∈upR act bk reg f,x.length<=32:=by
 intro x hx
 unfold upR at hx
 split at hx
 ·rcases List.mem_or_eq_of_mem_set hx with hx | hx
  ·exact h x hx
  ·rw [hx];exact hf _
 ·exact h x hx
theorem zNt {active:Int} {e:zB} {r:zF} (h:zE5 active r):zE5 active (ext active e r):=by
 obtain ⟨⟨b0,b1,hb,l0,l1,m0,m1⟩⟩:=h
 unfold ext
 rw [hb]
 exact ⟨⟨_,_,rfl,by rw [zGt];exact l0,by rw [zGt];exact l1,zKa m0 (λx=>by rw [zDq];omega),zKa m1 (λx=>by rw [aN];omega)⟩⟩
end Go.Proofs.TT
namespace Go.Proofs.TT
open Go Go.Sw
set_option maxRecDepth 100000
theorem act3 {a:Int} (h1:1<=a) (h3:a<=3):a=1∨a=2∨a=3:=by omega
theorem aM (n:Nat):(bnk n).length=16:=by simp [bnk]
theorem zCz (n:Nat) (h:n<=32):∀ x∈bnk n,x.length<=32:=by
 intro x hx
 simp only [bnk,List.mem_append,List.mem_replicate] at hx
 rcases hx with ⟨_,rfl⟩ | ⟨_,rfl⟩<;>simp [h]
def zMt (active:Int):zF:=⟨[if uB active 0=true then bnk 20 else [],if uB active 1=true then bnk 32 else []],0⟩
theorem zL4 (active:Int) (h1:1<=active) (h3:active<=3):zE5 active (zMt active):=by
 rcases act3 h1 h3 with rfl | rfl | rfl
 ·exact ⟨⟨_,_,rfl,aM 20,rfl,zCz 20 (by omega),(by intro x hx;cases hx)⟩⟩
 ·exact ⟨⟨_,_,rfl,rfl,aM 32,(by intro x hx;cases hx),zCz 32 (by omega)⟩⟩
 ·exact ⟨⟨_,_,rfl,aM 20,aM 32,zCz 20 (by omega),zCz 32 (by omega)⟩⟩
def rpl (active:Int) (es:List zB):zF:=es.foldl (λr e=>if e.Kind=5 then r else ext active e r) (zMt active)
theorem zHi (active:Int):∀ (es:List zB) (r:zF),zE5 active r->zE5 active (es.foldl (λr e=>if e.Kind=5 then r else ext active e r) r)
 | [],_,h=>h
 | e :: es,r,h=>by
  rw [List.foldl_cons]
  refine zHi active es _ ?_
  split
  ·exact h
  ·exact zNt h
theorem zP9 (active:Int) (es:List zB) (h1:1<=active) (h3:active<=3):zE5 active (rpl active es):=zHi active es _ (zL4 active h1 h3)
theorem zHm {bk:List (List UInt8)} (h:∀ x∈bk,x.length<=32) (n:Nat):(bk.getD n []).length<=32:=by
 by_cases hn:n<bk.length
 ·have:bk.getD n []=bk[n]:=by simp [hn]
  rw [this];exact h _ (List.getElem_mem hn)
 ·have:bk.getD n []=[]:=by simp [List.getD,List.getElem?_eq_none (by omega:bk.length<=n)]
  rw [this];simp
end Go.Proofs.TT
namespace Go.Proofs.TT
open Go Go.Sw
set_option maxRecDepth 100000
theorem kL (a:Int):u6 a=some (siz a):=zM2 a
theorem zFr (e:zB) (active:Int):Def (oV e active) (λr=>r=0↔EvC e active):=by
 unfold oV
 refine Def.bd or6 (λb hb=>?_)
 have hb:=zL3 hb
 refine Def.c (λh=>Def.s ⟨λh=>(by cases h),λhc=>?_⟩) (λhbf=>?_)
 ·have:=hb.2 ⟨hc.a1,hc.a3,hc.r0,hc.r1,hc.k1,hc.k5⟩
  rw [this] at h;cases h
 obtain ⟨h1,h2,h3,h4,h5,h6⟩:=hb.1 hbf
 refine Def.c (λh=>Def.s ⟨λh=>(by cases h),λhc=>?_⟩) (λhd=>?_)
 ·have:=dT h;have:=hc.d;omega
 have hd':=dF hd
 refine Def.c (λh=>Def.s ⟨λh=>(by cases h),λhc=>?_⟩) (λhl0=>?_)
 ·rw [hc.l] at h;cases h
 have hl:e.Digests.length=2:=by simp at hl0;omega
 refine Def.bd (gJ e.Digests (qQ e active) (λi=>Fit e active i) (λb=>b=27/\∃ i,i<2/\¬ Fit e active i) (by omega) (λa ha=>?_) ?_) (λr hr=>?_)
 ·unfold qQ
  refine Def.c (λ_=>?_) (λh=>by have:=dF h;omega)
  refine Def.bd (Def.at' ha) (λd hd=>?_)
  subst hd
  refine Def.bd (zJ6 (e:=e) (active:=active) (a:=a) ?_ (by rw [kL];rfl)) (λw hw=>?_)
  ·refine bd (ckT (by simp)) ?_
   have hw:IntKind.u64.wrap (a:Int)=(a:Int):=aX (by omega) (by omega)
   unfold uB
   rw [hw]
  refine Def.c (λhne=>Def.s ⟨rfl,a,by omega,λhF=>?_⟩) (λhne=>Def.s ⟨vU (by omega),(zGq ha hw).1 hne⟩)
  rw [(zGq ha hw).2 hF] at hne;cases hne
 ·unfold qQ
  rw [hl]
  exact cf rfl rfl
 ·cases r with
  | inl b=>exact Def.s ⟨λh=>(by rw [hr.1] at h;cases h),λh=>absurd ⟨h.f0,h.f1⟩ (nf2 hr.2)⟩
  | inr u=>exact Def.s ⟨λ_=>⟨⟨h3,h4,by omega,hl,hr 0 (by omega),hr 1 (by omega)⟩,h1,h2,h5,h6⟩,λ_=>rfl⟩
theorem zQ5 {e:zB} {active:Int} (h:EvC e active):Def (oV e active) (λr=>r=0):=(zFr e active).mono λ_ hr=>hr.2 h
end Go.Proofs.TT
namespace Go.Proofs.TT
open Go Go.Sw
set_option maxRecDepth 100000
theorem zMj (b:List UInt8) (h:b.length<2 ^ 40):uZ b=some (RS.W ⟨b,0,0⟩):=by
 unfold uZ
 refine bd (yJ (by simp;omega)) ?_
 rfl
end Go.Proofs.TT
namespace Go.Proofs.TT
open Go Go.Sw
set_option maxRecDepth 100000
structure LgGood (l:wA):Prop where
 ev:∀ e∈l.Events,EvC e l.Active
 n:l.Events.length<=40
end Go.Proofs.TT
namespace Go.Proofs.TT
open Go Go.Sw
set_option maxRecDepth 100000
def pI (e:zB):List UInt8:=[u8 e.Register,u8 e.Kind]++((beN ((e.Digests.getD 0 []).length:Int) 2 2++e.Digests.getD 0 [])++((beN ((e.Digests.getD 1 []).length:Int) 2 2++e.Digests.getD 1 [])++(beN (e.Data.length:Int) 2 2++e.Data)))
theorem lQ {e:zB} {active:Int} {a:Nat} (h:Fit e active a):(e.Digests.getD a []).length<=32:=by
 unfold Fit siz at h
 split at h
 ·split at h
  ·omega
  ·split at h<;>omega
 ·omega
theorem dY {e:zB} {active:Int} (h:EvGood e active):1<=(pI e).length/\(pI e).length<=136:=by
 have h0:=lQ h.f0
 have h1:=lQ h.f1
 have h2:=h.d
 unfold pI
 simp only [List.length_append,yY,List.length_cons,List.length_nil]
 omega
theorem Rem.eqv {r:RS} {l l':List UInt8} (h:Rem r l) (e:l'=l):Rem r l':=e▸h
theorem zNh (n:Int) (h0:0<=n) (h:n<256):((u8 n).toNat:Int)=n:=by
 obtain ⟨m,rfl⟩:=Int.eq_ofNat_of_zero_le h0
 rw [kG]
 omega
theorem Rem.byte {r:RS} {rest:List UInt8} {n:Int} (h:Rem r (u8 n :: rest)) (h0:0<=n) (hn:n<256):tV r 1=(n,r.to 1)/\Rem (r.to 1) rest:=by
 have h':Rem r ([u8 n]++rest):=h
 refine ⟨h'.uintV rfl ?_ h0 (by omega),h'.to rfl⟩
 have hb:beV [u8 n] 1=ior .u64 (pS .u64 ((0:Nat):Int) 8) (IntKind.u64.wrap (((u8 n).toNat:Nat):Int)):=rfl
 rw [hb,zFj 0 _ (by omega) (by have:=(u8 n).toNat_lt;omega)]
 have:=zNh n h0 hn
 omega
theorem zM6 (e:zB) (active:Int) (h:EvC e active):wG e=some true:=by
 have r0:=h.r0
 have r1:=h.r1
 have k1:=h.k1
 have k5:=h.k5
 have h2:=h.d
 have hl:=h.l
 have h0:=lQ h.f0
 have h1:=lQ h.f1
 have hd:Def (wG e) (λb=>b=true):=by
  unfold wG
  refine Def.bd (P:=λb=>b=false) (Def.of (cf (by simp;omega) (cf (by simp;omega) (cf (by simp;omega) (cf (by simp;omega) (cf (by simp [hl]) rfl))))) (by simp;omega)) (λb hb=>?_)
  subst hb
  refine Def.c (λh=>by cases h) (λ_=>?_)
  refine Def.bd (gJ e.Digests (wZ e) (λ_=>True) (λ_=>False) (by omega) (λi hi=>?_) ?_) (λy hy=>?_)
  ·unfold wZ
   refine Def.c (λ_=>?_) (λh=>by have:=dF h;omega)
   refine Def.bd (Def.at' hi) (λd hd=>?_)
   refine Def.bd (P:=λw=>w=32) (Def.of (kL 1) rfl) (λw hw=>?_)
   subst hw
   have:d.length<=32:=by
    have hi2:i=0∨i=1:=by omega
    rcases hi2 with rfl | rfl
    ·have:(e.Digests.getD 0 [])=d:=by simp [hd,hi]
     rw [<- this];exact h0
    ·have:(e.Digests.getD 1 [])=d:=by simp [hd,hi]
     rw [<- this];exact h1
   exact Def.c (λh=>by have:=dT h;omega) (λ_=>Def.s ⟨vU (by omega),trivial⟩)
  ·unfold wZ
   exact cf (by simp) rfl
  ·cases y with
   | inl b=>exact hy.elim
   | inr u=>exact Def.s rfl
 obtain ⟨b,hb,rfl⟩:=hd
 exact hb
theorem zL2 (e:zB) (active:Int) (h:EvC e active):nO (pI e)=some (e,0):=by
 have hlen:=dY h.toEvGood
 have h0:=lQ h.f0
 have h1:=lQ h.f1
 have h2:=h.d
 have r0:=h.r0
 have r1:=h.r1
 have k1:=h.k1
 have k5:=h.k5
 have hD:e.Digests=[e.Digests.getD 0 [],e.Digests.getD 1 []]:=by
  have hl:=h.l
  match hx:e.Digests,hl with
  | [a,b],_=>rfl
 have henc:=zM6 e active h
 have q0:Rem ⟨pI e,0,0⟩ (pI e):=⟨rfl,Nat.zero_le _,rfl⟩
 have ok0:(RS.mk (pI e) 0 0).Ok:=⟨Nat.zero_le _,by simp;omega⟩
 have w0:=zMj (pI e) (by omega)
 have b0:(RS.mk (pI e) 0 0).b.length<2 ^ 40:=by show (pI e).length<_;omega
 generalize (RS.mk (pI e) 0 0)=s0 at *
 unfold pI at q0
 obtain ⟨e1,q1⟩:=Rem.byte q0 r0 (by omega)
 obtain ⟨e2,q2⟩:=Rem.byte q1 (by omega) (by omega)
 replace q2:Rem ((s0.to 1).to 1) ((beN ((e.Digests.getD 0 []).length:Int) 2 2++e.Digests.getD 0 [])++((beN ((e.Digests.getD 1 []).length:Int) 2 2++e.Digests.getD 1 [])++(beN (e.Data.length:Int) 2 2++e.Data))):=q2
 rw [List.append_assoc] at q2
 obtain ⟨e3,q3⟩:=Rem.blobN (m:=32) q2 (by omega) (by omega)
 rw [List.append_assoc] at q3
 obtain ⟨e4,q4⟩:=Rem.blobN (m:=32) q3 (by omega) (by omega)
 have q4':=q4.eqv (l':=beN (e.Data.length:Int) 2 2++(e.Data++[])) (by rw [List.append_nil])
 obtain ⟨e5,q5⟩:=Rem.blobN (m:=64) q4' (by omega) (by omega)
 have ok1:(s0.to 1).Ok:=⟨q1.at',by show s0.b.length<_;omega⟩
 have ok2:((s0.to 1).to 1).Ok:=⟨q2.at',by show s0.b.length<_;omega⟩
 generalize hs2:(s0.to 1).to 1=s2 at *
 generalize hs3:s2.to (2+(e.Digests.getD 0 []).length)=s3 at *
 have ok3:s3.Ok:=⟨q3.at',by rw [<- hs3,<- hs2];show s0.b.length<_;omega⟩
 generalize hs4:s3.to (2+(e.Digests.getD 1 []).length)=s4 at *
 have ok4:s4.Ok:=⟨q4.at',by rw [<- hs4,<- hs3,<- hs2];show s0.b.length<_;omega⟩
 generalize hs5:s4.to (2+e.Data.length)=s5 at *
 have ok5:s5.Ok:=⟨q5.at',by rw [<- hs5,<- hs4,<- hs3,<- hs2];show s0.b.length<_;omega⟩
 unfold nO
 refine bd w0 ?_
 refine bd (a:=(e.Register,(s0.to 1).W)) ((tO s0 1 ok0 (by omega) (by omega)).trans (by rw [e1])) ?_
 refine bd (a:=(e.Kind,s2.W)) ((tO (s0.to 1) 1 ok1 (by omega) (by omega)).trans (by rw [e2])) ?_
 refine bd (a:=([e.Digests.getD 0 [],e.Digests.getD 1 []],s4.W.b_,s4.W.at_,s4.W.e_)) (two (b:=(1,[e.Digests.getD 0 []],s3.W.b_,s3.W.at_,s3.W.e_)) (c:=(2,[e.Digests.getD 0 [],e.Digests.getD 1 []],s4.W.b_,s4.W.at_,s4.W.e_)) ?_ ?_ rfl) ?_
 ·unfold nB
  refine ct rfl ?_
  refine bd (a:=((32:Nat):Int)) (kL 1) ?_
  refine bd (a:=(e.Digests.getD 0 [],s3.W)) ((rF s2 32 ok2).trans (by rw [e3])) ?_
  exact bd (yJ (by simp)) rfl
 ·unfold nB
  refine ct rfl ?_
  refine bd (a:=((32:Nat):Int)) (kL 1) ?_
  refine bd (a:=(e.Digests.getD 1 [],s4.W)) ((rF s3 32 ok3).trans (by rw [e4])) ?_
  exact bd (yJ (by simp)) rfl
 refine bd (a:=(e.Data,s5.W)) ((rF s4 64 ok4).trans (by rw [e5])) ?_
 have he:(⟨e.Register,e.Kind,[e.Digests.getD 0 [],e.Digests.getD 1 []],e.Data⟩:zB)=e:=by rw [<- hD]
 refine bd (a:=false) ?_ ?_
 ·refine bd (a:=(0,s5.W)) ((bG s5 ok5).trans (by rw [q5.fin])) ?_
  refine cf rfl ?_
  refine bd (a:=true) ?_ rfl
  show wG ⟨e.Register,e.Kind,[e.Digests.getD 0 [],e.Digests.getD 1 []],e.Data⟩=_
  rw [he];exact henc
 refine cf rfl ?_
 show some ((⟨e.Register,e.Kind,[e.Digests.getD 0 [],e.Digests.getD 1 []],e.Data⟩:zB),(0:Int))=_
 rw [he]
end Go.Proofs.TT
namespace Go.Proofs.TT
open Go Go.Sw
set_option maxRecDepth 100000
def fZ (a r:Int):List UInt8:=[83,87,76,49]++(u8 a :: beN r 6 6)
def pP (es:List zB):List UInt8:=es.flatMap λe=>beN ((pI e).length:Int) 2 2++pI e
def uC (l:wA):List UInt8:=fZ l.Active l.Resets++pP l.Events
structure LgF (l:wA):Prop extends LgGood l where
 a1:1<=l.Active
 a3:l.Active<=3
 r0:0<=l.Resets
 r1:l.Resets<=1099511627776
theorem iO (a r:Int):(fZ a r).length=11:=by simp [fZ,yY]
theorem aV {active:Int}:∀ es:List zB,(∀ e∈es,EvC e active)->(pP es).length<=138*es.length
 | [],_=>by simp [pP]
 | e :: es,h=>by
  have h1:=aV es (λx hx=>h x (List.mem_cons_of_mem _ hx))
  have h2:=dY (h e (List.mem_cons_self ..)).toEvGood
  unfold pP at h1 ⊢
  rw [List.flatMap_cons,List.length_append,List.length_append,yY,List.length_cons]
  omega
theorem zIi {es:List zB} {i:Nat} (h:i<es.length):pP (es.take (i+1))=pP (es.take i)++(beN ((pI es[i]).length:Int) 2 2++pI es[i]):=by
 unfold pP
 rw [List.take_add_one,List.flatMap_append]
 simp [h]
theorem zIf {es:List zB} {i:Nat} (h:i<es.length):pP (es.drop i)=beN ((pI es[i]).length:Int) 2 2++(pI es[i]++pP (es.drop (i+1))):=by
 rw [List.drop_eq_getElem_cons h]
 unfold pP
 rw [List.flatMap_cons,List.append_assoc]
theorem zJf (es:List zB) (i:Nat):pP es=pP (es.take i)++pP (es.drop i):=by
 unfold pP
 rw [<- List.flatMap_append,List.take_append_drop]
theorem zJ8 (l:wA) (h:LgGood l):11<=(uC l).length/\(uC l).length<=5531:=by
 have h1:=aV l.Events h.ev
 have h2:=h.n
 unfold uC
 rw [List.length_append,iO]
 omega
theorem zGm (a r:Int) (h1:1<=a) (h3:a<=3) (h0:0<=r) (hr:r<=1099511627776):∃ b,wV a r=some b/\b.length=11:=by
 refine ⟨rD (rD [83,87,76,49] 1 a) 6 r,?_,by rw [u1,u1];rfl⟩
 unfold wV
 refine bd (a:=false) (cf (by simp;omega) (cf (by simp;omega) (cf (by simp;omega) (congrArg some (by simp;omega))))) ?_
 refine cf rfl ?_
 refine bd (sS _ 1 a (by omega) (by omega) (by simp)) ?_
 exact bd (sS _ 6 r (by omega) (by omega) (by rw [u1];simp)) rfl
def atE (l:wA) (i:Nat):Nat:=11+(pP (l.Events.take i)).length
theorem zH7 (l:wA) (h:LgF l):qT (uC l)=some (l,0):=by
 have hn:=h.n
 have hlen:=zJ8 l h.toLgGood
 obtain ⟨hb,hh1,hh2⟩:=zGm l.Active l.Resets h.a1 h.a3 h.r0 h.r1
 have a1:=h.a1
 have a3:=h.a3
 have r0:=h.r0
 have r1:=h.r1
 have S:∀ i,Rem ⟨uC l,atE l i,0⟩ (pP (l.Events.drop i)):=by
  intro i
  have e:uC l=(fZ l.Active l.Resets++pP (l.Events.take i))++pP (l.Events.drop i):=by
   unfold uC
   rw [List.append_assoc,<- zJf]
  have hl:(fZ l.Active l.Resets++pP (l.Events.take i)).length=atE l i:=by rw [List.length_append,iO];rfl
  refine ⟨rfl,?_,?_⟩
  ·show atE l i<=(uC l).length
   rw [e,List.length_append,hl];omega
  ·show (uC l).drop (atE l i)=_
   rw [e,<- hl,List.drop_left]
 have ok:∀ i,(RS.mk (uC l) (atE l i) 0).Ok:=λi=>⟨(S i).at',by show (uC l).length<_;omega⟩
 have q0:Rem ⟨uC l,0,0⟩ ([83,87,76,49]++(u8 l.Active :: (beN l.Resets 6 6++pP l.Events))):=⟨rfl,Nat.zero_le _,by show (uC l).drop 0=_;unfold uC fZ;simp⟩
 have e1:=Rem.raw (n:=4) q0 rfl
 have q1:=Rem.to (n:=4) q0 rfl
 obtain ⟨e2,q2⟩:=Rem.byte q1 (by omega) (by omega)
 obtain ⟨e3,q3⟩:=Rem.uintI q2 (by omega) r0 (by omega) (by omega)
 have ok0:(RS.mk (uC l) 0 0).Ok:=⟨Nat.zero_le _,by show (uC l).length<_;omega⟩
 have ok1:((RS.mk (uC l) 0 0).to 4).Ok:=⟨q1.at',by show (uC l).length<_;omega⟩
 have ok2:(((RS.mk (uC l) 0 0).to 4).to 1).Ok:=⟨q2.at',by show (uC l).length<_;omega⟩
 have e4:((((RS.mk (uC l) 0 0).to 4).to 1).to 6)=⟨uC l,atE l 0,0⟩:=by
  show (⟨uC l,0+4+1+6,0⟩:RS)=_
  unfold atE
  simp [pP]
 rw [e4] at e3
 unfold qT
 refine cf (by simp;omega) ?_
 refine bd (a:=(l,(atE l l.Events.length:Int),0)) ?_ (cf rfl rfl)
 unfold oM
 refine bd (a:=(l,(atE l l.Events.length:Int),0)) ?_ rfl
 refine bd (zMj _ (by omega)) ?_
 refine bd (a:=([83,87,76,49],((RS.mk (uC l) 0 0).to 4).W)) ((bL _ 4 ok0).trans (by rw [e1])) ?_
 refine cf rfl ?_
 refine bd (a:=(l.Active,(((RS.mk (uC l) 0 0).to 4).to 1).W)) ((tO _ 1 ok1 (by omega) (by omega)).trans (by rw [e2])) ?_
 refine bd (a:=(l.Resets,(RS.mk (uC l) (atE l 0) 0).W)) ((tO _ 6 ok2 (by omega) (by omega)).trans (by rw [e3])) ?_
 refine bd (a:=(false,uC l,(atE l 0:Int),0)) ?_ ?_
 ·refine bd (a:=(0,(RS.mk (uC l) (atE l 0) 0).W)) rfl ?_
  refine cf rfl ?_
  refine bd hh1 ?_
  rw [hh2]
  rfl
 refine cf rfl ?_
 refine bd (a:=((atE l l.Events.length:Int),0,l.Events)) ?_ rfl
 refine yM l.Events.length (λi=>((atE l i:Int),l.Events.take i,uC l,(atE l i:Int),0)) ?_ (λi hi=>?_) ?_ (wK (by omega))
 ·simp [atE,pP]
 ·have hE:=h.ev _ (List.getElem_mem hi)
  have hel:=dY hE.toEvGood
  have hS:=S i
  rw [zIf hi] at hS
  have hleft:=hS.left
  rw [List.length_append,yY] at hleft
  obtain ⟨f1,f2⟩:=Rem.blobN (m:=65535) hS (by omega) (by omega)
  have f3:(RS.mk (uC l) (atE l i) 0).to (2+(pI l.Events[i]).length)=⟨uC l,atE l (i+1),0⟩:=by
   show (⟨uC l,atE l i+(2+(pI l.Events[i]).length),0⟩:RS)=_
   unfold atE
   rw [zIi hi,List.length_append,List.length_append,yY,Nat.add_assoc]
  rw [f3] at f1
  have lf:∀ k,IntKind.i64.wrap (((uC l).length:Int) - (atE l k:Int))=((RS.mk (uC l) (atE l k) 0).left:Int):=λk=>zDg _ (ok k)
  have hck:=zQ5 hE
  obtain ⟨c,hc1,rfl⟩:=hck
  unfold s7
  refine bd (a:=(((RS.mk (uC l) (atE l i) 0).left:Int),(RS.mk (uC l) (atE l i) 0).W)) (congrArg some (by rw [<- lf i];rfl)) ?_
  refine ct (by simp;omega) ?_
  refine bd (a:=(pI l.Events[i],(RS.mk (uC l) (atE l (i+1)) 0).W)) ((rF _ 65535 (ok i)).trans (by rw [f1])) ?_
  refine bd (zL2 _ _ hE) ?_
  refine cf (by simp;omega) ?_
  refine bd (a:=(0,(RS.mk (uC l) (atE l (i+1)) 0).W)) rfl ?_
  refine cf rfl ?_
  refine bd (a:=false) (cf rfl (bd hc1 rfl)) ?_
  refine cf rfl ?_
  refine bd (yJ (by simp;omega)) ?_
  refine bd (a:=(((RS.mk (uC l) (atE l (i+1)) 0).left:Int),(RS.mk (uC l) (atE l (i+1)) 0).W)) (congrArg some (by rw [<- lf (i+1)];rfl)) ?_
  have hat:IntKind.i64.wrap (((uC l).length:Int) - ((RS.mk (uC l) (atE l (i+1)) 0).left:Int))=(atE l (i+1):Int):=by
   have:=(ok (i+1)).1
   simp only [RS.left] at *
   rw [xH (by omega) (by omega)]
   omega
  have ht:l.Events.take (i+1)=l.Events.take i++[l.Events[i]]:=by rw [List.take_add_one];simp [hi]
  rw [ht]
  show some (Sum.inl (IntKind.i64.wrap (((uC l).length:Int) - ((RS.mk (uC l) (atE l (i+1)) 0).left:Int)),_))=_
  rw [hat]
  rfl
 ·have hS:=S l.Events.length
  rw [List.drop_length] at hS
  have hleft:=hS.left
  unfold s7
  refine bd (a:=(((RS.mk (uC l) (atE l l.Events.length) 0).left:Int),(RS.mk (uC l) (atE l l.Events.length) 0).W)) (congrArg some (by rw [<- zDg _ (ok l.Events.length)];rfl)) ?_
  refine cf (by rw [hleft];rfl) ?_
  rw [List.take_length]
end Go.Proofs.TT
namespace Go.Proofs.TT
open Go Go.Sw
set_option maxRecDepth 100000
structure zEu (d:zT):Prop where
 n:d.Areas.length<=64
 w0:0<=d.Writes
 w1:d.Writes<2 ^ 60
theorem zAq (d:zT) (a:Nat) (h:a<d.Areas.length):pR d (a:Int)=some true:=by
 unfold pR
 refine bd (ct (by simp) (congrArg some (by simp;omega))) rfl
theorem zCb (d:zT) (h:d.Areas.length<=64):zV (qE d d.Areas.length) FU (0,List.replicate d.Areas.length [])=some d.Areas:=by
 refine yM d.Areas.length (λi=>((i:Int),d.Areas.take i++List.replicate (d.Areas.length - i) [])) (by simp) (λi hi=>?_) ?_ (wK (by omega))
 ·unfold qE
  refine ct (dlt hi) ?_
  refine bd (yZ hi) ?_
  refine bd (qJ hi) ?_
  have hl:(d.Areas.take i).length=i:=by simp;omega
  refine bd (cS (by simp;omega)) ?_
  rw [vU (show i<2 ^ 40 by omega)]
  refine congrArg some (congrArg Sum.inl (congrArg (Prod.mk _) ?_))
  rw [List.set_append_right _ _ (by omega),hl,Nat.sub_self]
  rw [show d.Areas.length - i=(d.Areas.length - (i+1))+1 by omega,List.replicate_succ,List.set_cons_zero]
  rw [List.take_add_one,List.getElem?_eq_getElem hi]
  simp only [Option.toList_some,List.append_assoc,List.singleton_append]
 ·unfold qE
  refine cf (dge (Nat.le_refl _)) ?_
  simp
theorem app0 {x:List UInt8} (h:x.length<2 ^ 40):yS 1 [] x=some x:=by simpa using yJ (b:=1) (l:=[]) (m:=x) (by simp;omega)
theorem zPw {d:zT} {a:Nat} (h:a<d.Areas.length):idx d.Areas (a:Int)=some (d.Areas.getD a []):=by rw [yZ h];simp [h]
theorem mk24 {n:Nat} (h:n<=64):mkN 24 (n:Int)=some n:=by
 unfold mkN
 rw [if_pos (by simp;omega)]
 simp
theorem wr1 {n:Int} (h0:0<=n) (h:n<2 ^ 60):IntKind.i64.wrap (n+1)=n+1:=xH (by omega) (by omega)
def j2 (d:zT) (len:Nat):Nat:=if d.Writes+1=d.CutAt then min d.Torn.toNat len else len
def isC (d:zT):Prop:=d.Writes+1=d.CutAt
instance (d:zT):Decidable (isC d):=by unfold isC;infer_instance
def cI (d:zT):Int:=if isC d then 29 else 0
theorem zJw (d:zT) (len:Nat) (h:zEu d) (ho:d.Off=false):(bif ((IntKind.i64.wrap (d.Writes+1))==d.CutAt) then
  (some (if (len:Int)<if d.Torn<0 then 0 else d.Torn then (len:Int) else if d.Torn<0 then 0 else d.Torn,29,true))
 else some ((len:Int),0,d.Off):Option (Int×Int×Bool))=some ((j2 d len:Int),cI d,decide (isC d)):=by
 rw [wr1 h.w0 h.w1]
 by_cases hc:d.Writes+1=d.CutAt
 ·refine ct (by simpa using hc) (congrArg some ?_)
  rw [show cI d=29 from if_pos hc,show decide (isC d)=true from decide_eq_true hc]
  refine congrArg (·,(29:Int),true) ?_
  unfold j2
  rw [if_pos hc]
  by_cases ht:d.Torn<0
  ·rw [if_pos ht,if_neg (by omega)]
   have:d.Torn.toNat=0:=by omega
   simp [this]
  ·rw [if_neg ht]
   split<;>omega
 ·refine cf (by simpa using hc) (congrArg some ?_)
  rw [show cI d=0 from if_neg hc,show decide (isC d)=false from decide_eq_false hc,ho]
  unfold j2
  rw [if_neg hc]
def iF (d:zT) (a:Nat) (y:List UInt8):zT:=⟨d.Areas.set a y,d.Writes+1,d.CutAt,d.Torn,decide (isC d)⟩
theorem zQ4 (d:zT) (a:Nat) (data x y:List UInt8) (b:Bool) (h:zEu d) (ho:d.Off=false) (ha:a<d.Areas.length) (hl:data.length<=65536) (hy:qM (d.Areas.getD a []) (j2 d data.length:Int) x b=some y) :
  m6 d (a:Int) data x b=some (iF d a y,cI d):=by
 unfold m6
 refine cf ho ?_
 refine bd (zAq d a ha) ?_
 refine cf rfl ?_
 refine cf (by simp;omega) ?_
 refine bd (zJw d data.length h ho) ?_
 refine bd (mk24 h.n) ?_
 refine bd (zCb d h.n) ?_
 refine bd (zPw ha) ?_
 refine bd hy ?_
 refine bd (qJ ha) ?_
 refine bd (cS ha) ?_
 refine bd (ckT (by simp)) ?_
 refine bd (ckT (by have:=h.n;simp [Nat.ble_eq];omega)) ?_
 rw [wr1 h.w0 h.w1]
 rfl
theorem zM3 (d:zT) (a:Nat) (data x y:List UInt8) (h:zEu d) (ho:d.Off=false) (ha:a<d.Areas.length) (hl:data.length<=65536) (hy:qN (d.Areas.getD a []) (j2 d data.length:Int) x=some y) :
  nG d (a:Int) data x=some (iF d a y,cI d):=by
 unfold nG
 refine cf ho ?_
 refine bd (zAq d a ha) ?_
 refine cf rfl ?_
 refine cf (by simp;omega) ?_
 refine bd (zJw d data.length h ho) ?_
 refine bd (mk24 h.n) ?_
 refine bd (zCb d h.n) ?_
 refine bd (zPw ha) ?_
 refine bd hy ?_
 refine bd (qJ ha) ?_
 refine bd (cS ha) ?_
 refine bd (ckT (by simp)) ?_
 refine bd (ckT (by have:=h.n;simp [Nat.ble_eq];omega)) ?_
 rw [wr1 h.w0 h.w1]
 rfl
theorem zHu (d:zT) (len:Nat):j2 d len<=len:=by unfold j2;split<;>omega
def wrC (d:zT) (old data:List UInt8):List UInt8:=data.take (j2 d data.length)++(if isC d then old.drop (j2 d data.length) else [])
def apC (d:zT) (old data:List UInt8):List UInt8:=old++data.take (j2 d data.length)
theorem j9 (d:zT) (a:Nat) (data:List UInt8) (h:zEu d) (ho:d.Off=false) (ha:a<d.Areas.length) (hl:data.length<=65536) (hold:(d.Areas.getD a []).length<2 ^ 40) :
  sO d (a:Int) data=some (iF d a (wrC d (d.Areas.getD a []) data),cI d):=by
 unfold sO
 refine bd (a:=decide (isC d)) (ct (by rw [ho];rfl) (congrArg some ?_)) ?_
 ·rw [wr1 h.w0 h.w1];simp [isC,BEq.beq]
 refine bd (zQ4 d a data data (wrC d (d.Areas.getD a []) data) _ h ho ha hl ?_) rfl
 generalize d.Areas.getD a []=old at hold
 have hn:=zHu d data.length
 unfold qM wrC
 generalize j2 d data.length=n at hn
 refine bd (a:=data.take n) (by have:=tA (l:=data) (Nat.zero_le n) hn;simpa using this) ?_
 refine bd (a:=data.take n) (by simpa using yJ (b:=1) (l:=[]) (m:=data.take n) (by simp;omega)) ?_
 by_cases hc:isC d
 ·rw [decide_eq_true hc,if_pos hc]
  by_cases hlt:n<old.length
  ·refine bd (a:=data.take n++old.drop n) ?_ rfl
   refine bd (a:=true) (ct rfl (congrArg some (by simp;omega))) ?_
   refine ct rfl ?_
   refine bd (a:=old.drop n) (by have:=tA (l:=old) (Nat.le_of_lt hlt) (Nat.le_refl _);rw [this,List.take_of_length_le (by simp)]) ?_
   exact bd (yJ (by simp;omega)) rfl
  ·refine bd (a:=data.take n) ?_ ?_
   ·refine bd (a:=false) (ct rfl (congrArg some (by simp;omega))) ?_
    exact cf rfl rfl
   ·rw [List.drop_eq_nil_of_le (by omega),List.append_nil]
 ·rw [decide_eq_false hc,if_neg hc,List.append_nil]
  refine bd (a:=data.take n) ?_ rfl
  refine bd (a:=false) (cf rfl rfl) ?_
  exact cf rfl rfl
theorem zIa (d:zT) (a:Nat) (data:List UInt8) (h:zEu d) (ho:d.Off=false) (ha:a<d.Areas.length) (hl:data.length<=65536) (hold:(d.Areas.getD a []).length<2 ^ 40) :
  lO d (a:Int) data=some (iF d a (apC d (d.Areas.getD a []) data),cI d):=by
 unfold lO
 refine bd (zM3 d a data data (apC d (d.Areas.getD a []) data) h ho ha hl ?_) rfl
 generalize d.Areas.getD a []=old at hold
 have hn:=zHu d data.length
 unfold qN apC
 generalize j2 d data.length=n at hn
 refine bd (a:=old) (by simpa using yJ (b:=1) (l:=[]) (m:=old) (by simp;omega)) ?_
 refine bd (a:=data.take n) (by have:=tA (l:=data) (Nat.zero_le n) hn;simpa using this) ?_
 exact bd (yJ (by simp;omega)) rfl
theorem dA (d:zT) (a:Nat) (ho:d.Off=false) (ha:a<d.Areas.length) (hold:(d.Areas.getD a []).length<2 ^ 40):uY d (a:Int)=some (d.Areas.getD a [],0):=by
 unfold uY
 refine cf ho ?_
 refine bd (zAq d a ha) ?_
 refine cf rfl ?_
 refine bd (zPw ha) ?_
 exact bd (a:=d.Areas.getD a []) (app0 hold) rfl
end Go.Proofs.TT
namespace Go.Proofs.TT
open Go Go.Sw
set_option maxRecDepth 100000
theorem zE3 (w:UInt8) (c:List UInt8):Def (nZ w c) (λr=>r.1.length=64/\r.2=c):=by
 unfold nZ
 refine Def.bd (Def.mkN (by decide) (by decide)) (λn hn=>?_)
 have hn:n=64:=hn
 subst hn
 refine Def.bd (Def.ck (by simp)) (λ_ _=>?_)
 refine Def.lt ?_
 refine Def.bd (P:=λr=>r.length=64) ?_ (λr hr=>?_)
 ·refine Def.loop (λs=>0<=s.1/\s.1<=64/\s.2.length=64) (λs=>(64 - s.1).toNat) (λs hs=>?_) ⟨Int.le_refl 0,by simp,by rw [zDh];simp⟩ (by simp)
  obtain ⟨i,l⟩:=s
  obtain ⟨h1,h2,h3⟩:=hs
  simp only at h1 h2 h3
  unfold fU
  refine Def.c (λh=>?_) (λ_=>Def.s h3)
  rw [decide_eq_true_iff] at h
  refine Def.bd (Def.ixN h1 (by omega)) (λj hj=>?_)
  refine Def.bd (Def.at (by omega)) (λu _=>?_)
  refine Def.bd (Def.ixN h1 (by omega)) (λj hj=>?_)
  refine Def.bd (Def.upd (by omega)) (λv hv=>Def.s ?_)
  rw [xH (by omega) (by omega)]
  exact ⟨⟨by simp only;omega,by simp only;omega,by simp only [hv,List.length_set];exact h3⟩,by simp only;omega⟩
 ·refine Def.bd (Def.ck (by simp [hr])) (λ_ _=>?_)
  refine Def.bd (Def.ck (by simp)) (λ_ _=>Def.s ⟨hr,rfl⟩)
theorem zBe (b:List UInt8) (h:b.length<2 ^ 40):Def (xB 1 b) (λr=>r.length=32):=Def.of (zDb b h) (aN b)
theorem zJ0 (key b:List UInt8) (hk:key.length<2 ^ 30) (hb:b.length<2 ^ 30):Def (aJ key b) (λr=>r.length=32):=by
 unfold aJ
 refine Def.bd (P:=λr=>r.length<2 ^ 30) ?_ (λk hk2=>?_)
 ·refine Def.c (λ_=>Def.bd (zBe key (by omega)) (λr hr=>Def.s (by omega))) (λ_=>Def.s hk)
 refine Def.bd (zE3 54 k) (λr hr=>?_)
 obtain ⟨v,c⟩:=r
 obtain ⟨h1,rfl⟩:=hr
 simp only at h1
 refine Def.bd (Def.app (by omega)) (λa ha=>?_)
 refine Def.bd (zBe a (by rw [ha,List.length_append];omega)) (λd hd=>?_)
 refine Def.bd (zE3 92 _) (λr hr=>?_)
 obtain ⟨v2,c2⟩:=r
 obtain ⟨h2,_⟩:=hr
 simp only at h2
 refine Def.bd (Def.app (by omega)) (λa2 ha2=>?_)
 exact Def.bd (zBe a2 (by rw [ha2,List.length_append];omega)) (λd hd=>Def.s hd)
theorem lG (key label ctx:List UInt8) (hk:key.length<2 ^ 30) (hl:label.length<2 ^ 20) (hc:ctx.length<2 ^ 20):Def (mA key label ctx 32) (λr=>r.length=32):=by
 unfold mA
 refine Def.bd (Def.of (a:=false) rfl (Q:=λr=>r=false) rfl) (λb hb=>?_)
 subst hb
 refine Def.c (λh=>by cases h) (λ_=>?_)
 refine Def.bd (Def.ck (by simp [Nat.ble_eq];omega)) (λ_ _=>?_)
 refine Def.bd (Def.app (by simp;omega)) (λa ha=>?_)
 refine Def.bd (Def.app (by rw [ha];simp;omega)) (λa2 ha2=>?_)
 refine Def.bd (Def.of (Q:=λr=>r.length=4) rfl rfl) (λf hf=>?_)
 refine Def.bd (Def.app (by rw [ha2,ha];simp;omega)) (λa3 ha3=>?_)
 have h3:a3.length<2 ^ 22:=by rw [ha3,ha2,ha];simp;omega
 refine Def.bd (P:=λr=>r.length=32) ?_ (λr hr=>?_)
 ·refine Def.loop (λs=>s.1.length=0∨s.1.length=32) (λs=>32 - s.1.length) (λs hs=>?_) (.inl rfl) (by simp)
  obtain ⟨o,i⟩:=s
  simp only at hs
  unfold fM
  refine Def.c (λh=>?_) (λh=>Def.s ?_)
  ·rw [decide_eq_true_iff] at h
   have h0:o.length=0:=by omega
   refine Def.bd (Def.of (Q:=λr=>r.length=4) rfl rfl) (λf2 hf2=>?_)
   refine Def.bd (Def.app (by omega)) (λa4 ha4=>?_)
   refine Def.bd (zJ0 key a4 hk (by rw [ha4,List.length_append];omega)) (λm hm=>?_)
   refine Def.bd (Def.app (by omega)) (λa5 ha5=>Def.s ?_)
   have h5:a5.length=32:=by rw [ha5,List.length_append];omega
   exact ⟨.inr h5,by simp only;omega⟩
  ·rw [decide_eq_false_iff_not] at h
   omega
 ·refine Def.bd (Def.sub (by decide) (by decide) (by omega)) (λu hu=>Def.s ?_)
  rw [hu];simp [hr]
structure Sst (s:zQ):Prop where
 sd:∃ a b c,s.Seeds=[a,b,c]/\a.length=32/\b.length=32/\c.length=32
 au:s.Auths=[[],[],[],[]]
 en:s.Entropy.length=32
 a0:1<=s.Active
 a3:s.Active<=3
 r0:0<=s.Resets
 r1:s.Resets<2 ^ 30
 st:s.Restarts=0
 ck:s.Clock=0
 sv:s.Saved=⟨[],0⟩
 mc:s.MaxCounter=0
 ix:s.Indices=[]
 lo:s.Lockout=⟨0,5,100,0,0,1000⟩
 ks:s.Keys=[]
theorem zIq (e:List UInt8) (active:Int) (he:e.length=32) (h1:1<=active) (h3:active<=3):Def (gP e active) (λr=>r.2=0/\Sst r.1/\r.1.Active=active/\r.1.Resets=0/\r.1.Orderly=true):=by
 unfold gP
 refine Def.bd (Def.of (Q:=λr=>r=false) (a:=false) ?_ rfl) (λb hb=>?_)
 ·refine cf (by simp [he]) (cf (by simp;omega) (congrArg some (by simp;omega)))
 subst hb
 refine Def.c (λh=>by cases h) (λ_=>?_)
 refine Def.bd (Def.of (Q:=λr=>r=⟨0,5,100,0,0,1000⟩) rfl rfl) (λlo hlo=>?_)
 refine Def.bd (P:=λr=>∃ a b c,r=[a,b,c]/\a.length=32/\b.length=32/\c.length=32) ?_ (λr hr=>?_)
 ·obtain ⟨a,e1,l1⟩:=lG e [115,101,101,100] [u8 0] (by omega) (by decide) (by decide)
  obtain ⟨b,e2,l2⟩:=lG e [115,101,101,100] [u8 1] (by omega) (by decide) (by decide)
  obtain ⟨c,e3,l3⟩:=lG e [115,101,101,100] [u8 2] (by omega) (by decide) (by decide)
  refine Def.of (a:=[a,b,c]) ?_ ⟨a,b,c,rfl,l1,l2,l3⟩
  refine yM 3 (λi=>((i:Int),[a,b,c].take i)) rfl (λi hi=>?_) ?_ (wK (by decide))
  ·have hi3:i=0∨i=1∨i=2:=by omega
   unfold kY
   rcases hi3 with rfl | rfl | rfl
   ·exact ct rfl (bd e1 (bd (yJ (by simp)) rfl))
   ·exact ct rfl (bd e2 (bd (yJ (by simp)) rfl))
   ·exact ct rfl (bd e3 (bd (yJ (by simp)) rfl))
  ·unfold kY;exact cf rfl rfl
 ·refine Def.bd (lG e _ _ (by omega) (by decide) (by decide)) (λen hen=>Def.s ?_)
  exact ⟨rfl,⟨hr,rfl,hen,h1,h3,Int.le_refl 0,by simp only;decide,rfl,rfl,rfl,rfl,rfl,hlo,rfl⟩,rfl,rfl,rfl⟩
end Go.Proofs.TT
namespace Go.Proofs.TT
open Go Go.Sw
set_option maxRecDepth 100000
def bl (x:List UInt8):List UInt8:=beN (x.length:Int) 2 2++x
theorem v6 (x:List UInt8):(bl x).length=2+x.length:=by simp [bl,yY]
theorem wB (b x:List UInt8) (hb:b.length<2 ^ 30) (hx:x.length<=65535):xR b x=some (b++bl x):=by
 rw [jN b x (by omega),zAc b hx];rfl
theorem wU (b:List UInt8) (k:Nat) (n:Int) (h1:1<=k) (h8:k<=8) (hb:b.length<2 ^ 30):xF b (k:Int) n=some (b++beN n k k):=by
 rw [sS b k n h1 h8 (by omega)];rfl
def bits (b:Bool):UInt8:=if b=true then 1 else 0
def u4 (s:zQ):List UInt8:=
 [1,u8 s.Active]++(bl (s.Seeds.getD 0 [])++(bl (s.Seeds.getD 1 [])++(bl (s.Seeds.getD 2 [])++(bl []++(bl []++(bl []++(bl []++(bl s.Entropy++(beN s.Resets 8 8++(beN 0 8 8++(beN 0 8 8++([bits s.Orderly]++(bl (0 :: beN 0 8 8)++(beN 0 8 8++([0]++(beN 0 8 8++(beN 5 8 8++(beN 100 8 8++(beN 0 8 8++(beN 0 8 8++(beN 1000 8 8++([0]))))))))))))))))))))))
theorem wk1:IntKind.i64.wrap 1=1:=rfl
theorem wk2:IntKind.i64.wrap 2=2:=rfl
theorem wk3:IntKind.i64.wrap 3=3:=rfl
theorem wk4:IntKind.i64.wrap 4=4:=rfl
theorem wk5:IntKind.i64.wrap 5=5:=rfl
theorem wk6:IntKind.i64.wrap 6=6:=rfl
theorem uK {X Y:Type} {step:X->Option (X ⊕ Y)} {x:X} {y:Y} (h:step x=some (.inr y)):zV step FU x=some y:=yM 0 (λ_=>x) rfl (λ_ h=>absurd h (Nat.not_lt_zero _)) h (wK (by decide))
theorem zRz (a b c:Int) (x:List UInt8) (hx:x.length<2 ^ 20):xP [a,b,c] x=some (((x++beN a 8 8)++beN b 8 8)++beN c 8 8):=by
 unfold xP
 refine ct rfl ?_
 refine bd (a:=a) rfl ?_
 refine bd (wU x 8 a (by decide) (by decide) (by omega)) ?_
 refine bd (a:=((x++beN a 8 8)++beN b 8 8)++beN c 8 8) ?_ rfl
 refine two (step:=xI [a,b,c]) (b:=(2,(x++beN a 8 8)++beN b 8 8)) (c:=(3,((x++beN a 8 8)++beN b 8 8)++beN c 8 8)) ?_ ?_ ?_
 ·unfold xI;exact ct rfl (bd (a:=b) rfl (bd (wU _ 8 b (by decide) (by decide) (by simp [yY];omega)) rfl))
 ·unfold xI;exact ct rfl (bd (a:=c) rfl (bd (wU _ 8 c (by decide) (by decide) (by simp [yY];omega)) rfl))
 ·unfold xI;exact cf rfl rfl
theorem zT9 (a:Int) (x:List UInt8) (hx:x.length<2 ^ 20):xP [a] x=some (x++beN a 8 8):=by
 unfold xP
 refine ct rfl ?_
 refine bd (a:=a) rfl ?_
 refine bd (wU x 8 a (by decide) (by decide) (by omega)) ?_
 exact bd (a:=x++beN a 8 8) (uK (by unfold xI;exact cf rfl rfl)) rfl
theorem zUq (a b c d e f:Int) (x:List UInt8) (hx:x.length<2 ^ 20):xP [a,b,c,d,e,f] x=some ((((((x++beN a 8 8)++beN b 8 8)++beN c 8 8)++beN d 8 8)++beN e 8 8)++beN f 8 8):=by
 unfold xP
 refine ct rfl ?_
 refine bd (a:=a) rfl ?_
 refine bd (wU x 8 a (by decide) (by decide) (by omega)) ?_
 refine bd (a:=(((((x++beN a 8 8)++beN b 8 8)++beN c 8 8)++beN d 8 8)++beN e 8 8)++beN f 8 8) ?_ rfl
 refine yM 5 (λi=>(((i+1:Nat):Int),(x++beN a 8 8)++([b,c,d,e,f].take i).flatMap (λn=>beN n 8 8))) (by simp) (λi hi=>?_) ?_ (wK (by decide))
 ·have h5:i=0∨i=1∨i=2∨i=3∨i=4:=by omega
  unfold xI
  rcases h5 with rfl | rfl | rfl | rfl | rfl <;>
   exact ct rfl (bd rfl (bd (wU _ 8 _ (by decide) (by decide) (by simp [yY];omega)) (by simp [wk2,wk3,wk4,wk5,wk6,List.append_assoc])))
 ·unfold xI
  refine cf rfl ?_
  simp [List.append_assoc]
theorem zV0:pW ⟨[],0⟩=some (0 :: beN 0 8 8):=by decide +kernel
theorem aU (s:zQ) (h:Sst s):u9 s=some (u4 s):=by
 obtain ⟨a,b,c,hs,la,lb,lc⟩:=h.sd
 have hse:s.Seeds.getD 0 []=a/\s.Seeds.getD 1 []=b/\s.Seeds.getD 2 []=c:=by rw [hs];exact ⟨rfl,rfl,rfl⟩
 have hen:=h.en
 unfold u9
 refine bd (a:=(([1,u8 s.Active]++bl a)++bl b)++bl c) ?_ ?_
 ·refine yM 3 (λi=>((i:Int),[1,u8 s.Active]++([a,b,c].take i).flatMap bl)) (by simp) (λi hi=>?_) ?_ (wK (by decide))
  ·have h3:i=0∨i=1∨i=2:=by omega
   unfold o8
   rw [hs]
   rcases h3 with rfl | rfl | rfl
   ·exact ct rfl (bd (a:=a) rfl (bd (wB _ a (by simp) (by omega)) (by simp [wk1])))
   ·exact ct rfl (bd (a:=b) rfl (bd (wB _ b (by simp [v6];omega) (by omega)) (by simp [wk2,wk3])))
   ·exact ct rfl (bd (a:=c) rfl (bd (wB _ c (by simp [v6];omega) (by omega)) (by simp [wk2,wk3])))
  ·unfold o8;refine cf rfl (by simp)
 refine bd (a:=((((([1,u8 s.Active]++bl a)++bl b)++bl c)++bl []++bl [])++bl [])++bl []) ?_ ?_
 ·generalize hX:(([1,u8 s.Active]++bl a)++bl b)++bl c=X
  have lX:X.length<200:=by rw [<- hX];simp [v6];omega
  refine yM 4 (λi=>((i:Int),X++(List.replicate i ([]:List UInt8)).flatMap bl)) (by simp) (λi hi=>?_) ?_ (wK (by decide))
  ·have h3:i=0∨i=1∨i=2∨i=3:=by omega
   unfold o5
   rw [h.au]
   rcases h3 with rfl | rfl | rfl | rfl <;>
    exact ct rfl (bd (a:=[]) rfl (bd (wB _ [] (by simp [v6];omega) (by decide)) (by simp [List.replicate,wk1,wk2,wk3,wk4])))
  ·unfold o5;refine cf rfl (by simp [List.replicate])
 generalize hX:((((([1,u8 s.Active]++bl a)++bl b)++bl c)++bl []++bl [])++bl [])++bl []=X
 have lX:X.length<200:=by rw [<- hX];simp [v6];omega
 refine bd (wB X s.Entropy (by omega) (by omega)) ?_
 rw [h.st,h.ck,h.mc,h.sv,h.ix,h.lo,h.ks]
 refine bd (zRz s.Resets 0 0 _ (by simp [v6];omega)) ?_
 refine bd (a:=bits s.Orderly) (by unfold gG bits;cases s.Orderly<;>rfl) ?_
 refine bd (yJ (by simp [v6,yY];omega)) ?_
 refine bd zV0 ?_
 refine bd (wB _ _ (by simp [v6,yY];omega) (by simp [yY])) ?_
 refine bd (zT9 0 _ (by simp [v6,yY];omega)) ?_
 refine bd (yJ (by simp [v6,yY];omega)) ?_
 refine bd (uK (by unfold jV;rw [h.ix];exact cf rfl rfl)) ?_
 refine bd (zUq 0 5 100 0 0 1000 _ (by simp [v6,yY];omega)) ?_
 refine bd (yJ (by simp [v6,yY];omega)) ?_
 refine bd (uK (by unfold jX;rw [h.ks];exact cf rfl rfl)) ?_
 refine congrArg some ?_
 rw [<- hX]
 unfold u4
 rw [hse.1,hse.2.1,hse.2.2]
 simp only [List.append_assoc]
 rfl
end Go.Proofs.TT
namespace Go.Proofs.TT
open Go Go.Sw
set_option maxRecDepth 100000
structure Rd (r:RS) (l:List UInt8):Prop where
 m:Rem r l
 o:r.Ok
variable {r:RS} {x rest:List UInt8} {n:Int}
theorem zE8 (b:List UInt8) (hb:b.length<2 ^ 40):∃ r,Rd r b/\uZ b=some r.W:=⟨⟨b,0,0⟩,⟨⟨rfl,Nat.zero_le _,rfl⟩,Nat.zero_le _,hb⟩,zMj b hb⟩
theorem rdU {k:Nat} (h:Rd r (beN n k k++rest)) (h1:1<=k) (h8:k<=8) (h0:0<=n) (hn:n<2 ^ 62) (hs:n.toNat<256 ^ k):∃ r',Rd r' rest/\yB r.W (k:Int)=some (n,r'.W):=by
 obtain ⟨e,m⟩:=Rem.uintI h.m h8 h0 hn hs
 have ok:=zCk r k h.o
 rw [e] at ok
 exact ⟨r.to k,⟨m,ok⟩,by rw [tO r k h.o h1 h8,e]⟩
theorem rdBt (h:Rd r (u8 n :: rest)) (h0:0<=n) (hn:n<256):∃ r',Rd r' rest/\yB r.W 1=some (n,r'.W):=by
 obtain ⟨e,m⟩:=Rem.byte h.m h0 hn
 have ok:=zCk r 1 h.o
 rw [e] at ok
 exact ⟨r.to 1,⟨m,ok⟩,by have:=tO r 1 h.o (by decide) (by decide);rw [e] at this;exact this⟩
theorem zKm {k:Nat} (h:Rd r (bl x++rest)) (hx:x.length<=65535) (hk:x.length<=k):∃ r',Rd r' rest/\yL r.W (k:Int)=some (x,r'.W):=by
 have h':=h.m
 unfold bl at h'
 rw [List.append_assoc] at h'
 obtain ⟨e,m⟩:=Rem.blobN h' hx hk
 have ok:=zH3 r k h.o
 rw [e] at ok
 exact ⟨_,⟨m,ok⟩,by rw [rF r k h.o,e]⟩
theorem rdRw {k:Nat} (h:Rd r (x++rest)) (hx:x.length=k):∃ r',Rd r' rest/\wT r.W (k:Int)=some (x,r'.W):=by
 have e:=Rem.raw h.m hx
 have ok:=zK3 r k h.o
 rw [e] at ok
 exact ⟨_,⟨Rem.to h.m hx,ok⟩,by rw [bL r k h.o,e]⟩
theorem rdE (h:Rd r []):xK r.W=some (0,r.W):=by rw [bG r h.o,Rem.fin h.m]
theorem zFv {l:List UInt8} (h:Rd r l):xE r.W=some (0,r.W):=by unfold xE;exact congrArg some (congrArg (·,r.W) h.m.e)
theorem Rd.cast {l l':List UInt8} (h:Rd r l) (e:l=l'):Rd r l':=e▸h
theorem numG {k:Nat} {most:Int} (h:Rd r (beN n k k++rest)) (h1:1<=k) (h8:k<=8) (h0:0<=n) (hn:n<2 ^ 62) (hs:n.toNat<256 ^ k) (hm:n<=most):∃ r',Rd r' rest/\yX (k:Int) most 0 r.W=some (n,0,r'.W):=by
 obtain ⟨r',g,e⟩:=rdU h h1 h8 h0 hn hs
 refine ⟨r',g,?_⟩
 unfold yX
 refine cf rfl ?_
 refine bd e ?_
 refine bd (zFv g) ?_
 refine bd (a:=0) (bd (a:=false) (ct rfl (congrArg some (by simp;omega))) (cf rfl rfl)) ?_
 exact cf rfl rfl
theorem zJv {most:Int} (h:Rd r (u8 n :: rest)) (h0:0<=n) (hn:n<256) (hm:n<=most):∃ r',Rd r' rest/\yX 1 most 0 r.W=some (n,0,r'.W):=by
 obtain ⟨r',g,e⟩:=rdBt h h0 hn
 refine ⟨r',g,?_⟩
 unfold yX
 refine cf rfl ?_
 refine bd e ?_
 refine bd (zFv g) ?_
 refine bd (a:=0) (bd (a:=false) (ct rfl (congrArg some (by simp;omega))) (cf rfl rfl)) ?_
 exact cf rfl rfl
theorem zBv (h:Rd r (beN n 8 8++rest)) (h0:0<=n) (hn:n<2 ^ 62):∃ r',Rd r' rest/\yO 8 0 r.W=some (n,0,r'.W):=by
 obtain ⟨r',g,e⟩:=numG (k:=8) (most:=9223372036854775807) h (by decide) (by decide) h0 hn (by omega) (by omega)
 exact ⟨r',g,bd e rfl⟩
theorem any1 (h:Rd r (u8 n :: rest)) (h0:0<=n) (hn:n<256):∃ r',Rd r' rest/\yO 1 0 r.W=some (n,0,r'.W):=by
 obtain ⟨r',g,e⟩:=zJv (most:=9223372036854775807) h h0 hn (by omega)
 exact ⟨r',g,bd e rfl⟩
theorem zI3 (h:Rd r (bl x++rest)) (hx:x.length<=4096):∃ r',Rd r' rest/\wQ 0 r.W=some (x,0,r'.W):=by
 obtain ⟨r',g,e⟩:=zKm (k:=4096) h (by omega) hx
 refine ⟨r',g,?_⟩
 unfold wQ
 exact cf rfl (bd e (bd (zFv g) rfl))
theorem zDv:∀ (L:List (List UInt8)) (fuel:Nat) (acc:List (List UInt8)) (v n:Int) (r:RS),L.length<fuel->Rd r (L.flatMap bl++rest)->(∀ x∈L,x.length<=4096)->v+L.length=n->0<=v->n<=100->acc.length<=100->(acc.length:Int)<=v ->
  ∃ r',Rd r' rest/\zV (wY n) fuel (acc,v,0,r.b,(r.at':Int),r.e)=some (acc++L,0,r'.b,(r'.at':Int),r'.e)
 | [],f+1,acc,v,n,r,_,h,_,hv,_,_,_,_=>by
  refine ⟨r,h.cast (by simp),?_⟩
  simp only [zV]
  have:wY n (acc,v,0,r.b,(r.at':Int),r.e)=some (.inr (acc,0,r.b,(r.at':Int),r.e)):=by
   unfold wY
   exact cf (by simp at hv;simp;omega) rfl
  rw [this,List.append_nil]
 | x :: L,f+1,acc,v,n,r,hf,h,hL,hv,h0,hn,ha,hav=>by
  have hx:=hL x (List.mem_cons_self ..)
  simp only [List.length_cons] at hf hv
  obtain ⟨r1,g1,e1⟩:=zI3 (x:=x) (rest:=L.flatMap bl++rest) (h.cast (by simp)) hx
  obtain ⟨r',g',e'⟩:=zDv L f (acc++[x]) (v+1) n r1 (by omega) g1 (λy hy=>hL y (List.mem_cons_of_mem _ hy)) (by omega) (by omega) hn (by simp;omega) (by simp;omega)
  refine ⟨r',g',?_⟩
  simp only [zV]
  have:wY n (acc,v,0,r.b,(r.at':Int),r.e)=some (.inl (acc++[x],v+1,0,r1.b,(r1.at':Int),r1.e)):=by
   unfold wY
   refine ct (by simp;omega) ?_
   refine bd e1 ?_
   refine bd (yJ (by simp;omega)) ?_
   rw [xH (by omega) (by omega)]
   rfl
  rw [this]
  simp only [e',List.append_assoc,List.singleton_append]
theorem zLs (L:List (List UInt8)) (k:Int) (hk:(L.length:Int)=k) (h4:L.length<=4) (h:Rd r (L.flatMap bl++rest)) (hL:∀ x∈L,x.length<=4096):∃ r',Rd r' rest/\tM k 0 r.W=some (L,0,r'.W):=by
 obtain ⟨r',g,e⟩:=zDv L FU [] 0 k r (wK (by omega)) h hL (by omega) (Int.le_refl 0) (by omega) (by simp) (by simp)
 refine ⟨r',g,?_⟩
 unfold tM
 exact bd e rfl
theorem zTs {b:Bool} (h:Rd r ([bits b]++rest)):∃ r',Rd r' rest/\qH 0 r.W=some (b,0,r'.W):=by
 have hb:bits b=u8 (if b=true then 1 else 0):=by cases b<;>rfl
 obtain ⟨r',g,e⟩:=zJv (n:=if b=true then 1 else 0) (most:=1) (h.cast (by rw [hb];rfl)) (by split<;>decide) (by split<;>decide) (by split<;>decide)
 refine ⟨r',g,bd e ?_⟩
 cases b<;>rfl
theorem zR7:pO (0 :: beN 0 8 8)=some (⟨[],0⟩,0):=by decide +kernel
theorem zP2 (h:Rd r (bl (0 :: beN 0 8 8)++rest)):∃ r',Rd r' rest/\tB 0 r.W=some (⟨[],0⟩,0,r'.W):=by
 obtain ⟨r',g,e⟩:=zI3 h (by simp [yY])
 refine ⟨r',g,?_⟩
 unfold tB
 exact bd e (cf rfl (bd zR7 rfl))
theorem zS4 (s:zQ) (h:Sst s):nH (u4 s)=some (s,0):=by
 obtain ⟨a,b,c,hs,la,lb,lc⟩:=h.sd
 have hse:s.Seeds.getD 0 []=a/\s.Seeds.getD 1 []=b/\s.Seeds.getD 2 []=c:=by rw [hs];exact ⟨rfl,rfl,rfl⟩
 have hen:=h.en
 have hlen:(u4 s).length<2 ^ 40:=by
  unfold u4
  rw [hse.1,hse.2.1,hse.2.2]
  simp only [List.length_append,v6,yY,List.length_cons,List.length_nil]
  omega
 obtain ⟨r0,g0,e0⟩:=zE8 (u4 s) hlen
 unfold u4 at g0
 rw [hse.1,hse.2.1,hse.2.2] at g0
 unfold nH
 refine bd e0 ?_
 obtain ⟨r1,g1,e1⟩:=any1 (n:=1) (rest:=_) (g0.cast rfl) (by decide) (by decide)
 refine bd e1 ?_
 refine bd (a:=0) (bd (a:=false) rfl (cf rfl rfl)) ?_
 obtain ⟨r2,g2,e2⟩:=zJv (n:=s.Active) (most:=3) (g1.cast rfl) (by have:=h.a0;omega) (by have:=h.a3;omega) h.a3
 refine bd e2 ?_
 obtain ⟨r3,g3,e3⟩:=zLs [a,b,c] 3 rfl (by simp) (rest:=_) (g2.cast (by simp only [List.flatMap_cons,List.flatMap_nil,List.append_nil,List.append_assoc,List.nil_append];rfl)) (by simp;omega)
 refine bd e3 ?_
 obtain ⟨r4,g4,e4⟩:=zLs [[],[],[],[]] 4 rfl (by simp) (rest:=_) (g3.cast (by simp only [List.flatMap_cons,List.flatMap_nil,List.append_nil,List.append_assoc];rfl)) (by simp)
 refine bd e4 ?_
 obtain ⟨r5,g5,e5⟩:=zI3 g4 (by omega)
 refine bd e5 ?_
 obtain ⟨r6,g6,e6⟩:=zBv g5 h.r0 (by have:=h.r1;omega)
 refine bd e6 ?_
 obtain ⟨r7,g7,e7⟩:=zBv g6 (by decide) (by decide)
 refine bd e7 ?_
 obtain ⟨r8,g8,e8⟩:=zBv g7 (by decide) (by decide)
 refine bd e8 ?_
 obtain ⟨r9,g9,e9⟩:=zTs g8
 refine bd e9 ?_
 obtain ⟨r10,g10,e10⟩:=zP2 g9
 refine bd e10 ?_
 obtain ⟨r11,g11,e11⟩:=zBv g10 (by decide) (by decide)
 refine bd e11 ?_
 obtain ⟨r12,g12,e12⟩:=zJv (n:=0) (most:=6) (g11.cast rfl) (by decide) (by decide) (by decide)
 refine bd e12 ?_
 refine bd (uK (by unfold jT;exact cf rfl rfl)) ?_
 obtain ⟨q1,k1,f1⟩:=zBv g12 (by decide) (by decide)
 refine bd f1 ?_
 obtain ⟨q2,k2,f2⟩:=zBv k1 (by decide) (by decide)
 refine bd f2 ?_
 obtain ⟨q3,k3,f3⟩:=zBv k2 (by decide) (by decide)
 refine bd f3 ?_
 obtain ⟨q4,k4,f4⟩:=zBv k3 (by decide) (by decide)
 refine bd f4 ?_
 obtain ⟨q5,k5,f5⟩:=zBv k4 (by decide) (by decide)
 refine bd f5 ?_
 obtain ⟨q6,k6,f6⟩:=zBv k5 (by decide) (by decide)
 refine bd f6 ?_
 obtain ⟨q7,k7,f7⟩:=zJv (n:=0) (most:=8) (rest:=[]) (k6.cast rfl) (by decide) (by decide) (by decide)
 refine bd f7 ?_
 refine bd (a:=([],0,q7.b,(q7.at':Int),q7.e)) (uK (by unfold j1;exact cf rfl rfl)) ?_
 refine bd (a:=(0,q7.b,(q7.at':Int),q7.e)) (ct rfl (bd (rdE k7) rfl)) ?_
 refine cf rfl ?_
 refine congrArg (λz=>some (z,(0:Int))) ?_
 have h2:=h.au;have h8:=h.st;have h9:=h.ck;have h10:=h.sv;have h11:=h.mc;have h12:=h.ix;have h13:=h.lo;have h14:=h.ks
 clear h
 cases s
 simp only at hs h2 h8 h9 h10 h11 h12 h13 h14
 subst h2 h8 h9 h10 h11 h12 h13 h14 hs
 rfl
end Go.Proofs.TT
namespace Go.Proofs.TT
open Go Go.Sw
set_option maxRecDepth 100000
def mrk (seq:Int) (p:List UInt8):List UInt8:=hs 12 [beN seq 8 8,p]
theorem zDa (seq:Int) (p:List UInt8):(mrk seq p).length=32:=f9 _ _
theorem zHs (seq:Int) (p:List UInt8) (hp:p.length<2 ^ 20):qK seq p=some (mrk seq p):=by
 unfold qK
 refine bd (wU [] 8 seq (by decide) (by decide) (by decide)) ?_
 refine bd (zAb 12 [[]++beN seq 8 8,p] (by simp [tot,yY];omega)) rfl
def nM (seq:Nat) (p:List UInt8):List UInt8:=mrk seq p++(beN (seq:Int) 8 8++(beN (p.length:Int) 4 4++p))
theorem zAo (seq:Nat) (p:List UInt8):(nM seq p).length=44+p.length:=by simp [nM,zDa,yY];omega
theorem zNl (seq:Nat):Int.tmod (seq:Int) 2=((seq % 2:Nat):Int):=by rw [Int.tmod_eq_emod_of_nonneg (by omega)];rfl
theorem zLt:oN 0=some true:=rfl
theorem zB9 (d:zT) (seq:Nat) (p:List UInt8) (h1:1<=seq) (h2:seq<2 ^ 30) (hp:p.length<=60000) {r:zT×Int} (hw:sO d ((seq % 2:Nat):Int) (nM seq p)=some r):sL d 0 (seq:Int) p=some r:=by
 unfold sL
 refine bd (a:=false) (cf (by simp;omega) (cf (by simp;omega) (bd zLt rfl))) ?_
 refine cf rfl ?_
 refine cf (by simp;omega) ?_
 refine bd (zHs _ p (by omega)) ?_
 have hm:=zDa (seq:Int) p
 refine bd (wU _ 8 _ (by decide) (by decide) (by omega)) ?_
 refine bd (wU _ 4 _ (by decide) (by decide) (by simp [yY];omega)) ?_
 refine bd (yJ (by simp [yY];omega)) ?_
 rw [zNl]
 have e:IntKind.i64.wrap (0+((seq % 2:Nat):Int))=((seq % 2:Nat):Int):=by rw [xH (by omega) (by omega)];omega
 rw [e]
 refine bd (a:=r) ?_ rfl
 rw [<- hw]
 simp only [nM,List.append_assoc]
theorem zBk (seq:Nat) (p:List UInt8) (h1:1<=seq) (h2:seq<2 ^ 30) (hp:p.length<=60000):vR (nM seq p) ((seq % 2:Nat):Int)=some (p,(seq:Int),true):=by
 have hl:=zAo seq p
 obtain ⟨r0,g0,e0⟩:=zE8 (nM seq p) (by omega)
 unfold vR
 refine bd e0 ?_
 unfold nM at g0
 obtain ⟨r1,g1,e1⟩:=rdRw (k:=32) g0 (zDa _ _)
 refine bd e1 ?_
 obtain ⟨r2,g2,e2⟩:=rdU (k:=8) g1 (by decide) (by decide) (by omega) (by omega) (by omega)
 refine bd e2 ?_
 obtain ⟨r3,g3,e3⟩:=rdU (k:=4) g2 (by decide) (by decide) (by omega) (by omega) (by omega)
 refine bd e3 ?_
 obtain ⟨r4,g4,e4⟩:=rdRw (k:=p.length) (x:=p) (rest:=[]) (g3.cast (by simp)) rfl
 refine bd e4 ?_
 refine bd (a:=false) (bd (zFv g4) (cf rfl (cf (by simp;omega) (cf (by rw [zNl];simp) (bd (zHs _ p (by omega)) (congrArg some (by simp))))))) ?_
 exact cf rfl rfl
theorem zI1 (w:Int):vR [] w=some ([],0,false):=by
 unfold vR
 refine bd (zMj [] (by decide)) ?_
 refine bd (a:=([],RS.W ⟨[],0,2⟩)) rfl ?_
 refine bd (a:=(0,RS.W ⟨[],0,2⟩)) rfl ?_
 refine bd (a:=(0,RS.W ⟨[],0,2⟩)) rfl ?_
 refine bd (a:=([],RS.W ⟨[],0,2⟩)) rfl ?_
 exact bd (a:=true) rfl (ct rfl rfl)
structure Jr (as:List (List UInt8)) (seq:Nat) (p:List UInt8):Prop where
 a:as.getD (seq % 2) []=nM seq p
 b:∃ q s ok,vR (as.getD (1 - seq % 2) []) ((1 - seq % 2:Nat):Int)=some (q,s,ok)/\(ok=true->s<seq)
 s1:1<=seq
 s2:seq<2 ^ 29
 pl:p.length<=60000
theorem zFx (d:zT) (seq:Nat) (p:List UInt8) (ho:d.Off=false) (h2:2<=d.Areas.length) (hal:∀ i,(d.Areas.getD i []).length<2 ^ 40) (h:Jr d.Areas seq p):rL d 0=some (p,(seq:Int),0):=by
 obtain ⟨ha,⟨q,s,ok,hb,hs⟩,s1,s2,pl⟩:=h
 have hp:=zBk seq p s1 (by omega) pl
 rw [<- ha] at hp
 unfold rL
 refine bd zLt ?_
 refine cf rfl ?_
 refine bd (dA d 0 ho (by omega) (hal 0)) ?_
 refine cf rfl ?_
 refine bd (dA d 1 ho (by omega) (hal 1)) ?_
 refine cf rfl ?_
 have h01:seq % 2=0∨seq % 2=1:=by omega
 rcases h01 with hm | hm
 ·rw [hm] at hp hb
  refine bd (a:=(p,(seq:Int),true)) (bd (a:=d.Areas.getD 0 []) rfl (bd hp (bd (a:=true) (ct rfl (congrArg some (by simp;omega))) (ct rfl rfl)))) ?_
  refine bd (a:=(p,(seq:Int),true)) (bd (a:=d.Areas.getD 1 []) rfl (bd hb (bd (a:=false) ?_ (cf rfl rfl)))) ?_
  ·cases ok
   ·exact cf rfl rfl
   ·exact ct rfl (congrArg some (by have:=hs rfl;simp;omega))
  ·exact cf rfl rfl
 ·rw [hm] at hp hb
  cases ok
  ·refine bd (a:=([],0,false)) (bd (a:=d.Areas.getD 0 []) rfl (bd hb (bd (a:=false) (cf rfl rfl) (cf rfl rfl)))) ?_
   refine bd (a:=(p,(seq:Int),true)) (bd (a:=d.Areas.getD 1 []) rfl (bd hp (bd (a:=true) (ct rfl (congrArg some (by simp;omega))) (ct rfl rfl)))) ?_
   exact cf rfl rfl
  ·have hlt:=hs rfl
   by_cases h0:0<s
   ·refine bd (a:=(q,s,true)) (bd (a:=d.Areas.getD 0 []) rfl (bd hb (bd (a:=true) (ct rfl (congrArg some (by simp [h0]))) (ct rfl rfl)))) ?_
    refine bd (a:=(p,(seq:Int),true)) (bd (a:=d.Areas.getD 1 []) rfl (bd hp (bd (a:=true) (ct rfl (congrArg some (by simp [hlt]))) (ct rfl rfl)))) ?_
    exact cf rfl rfl
   ·refine bd (a:=([],0,false)) (bd (a:=d.Areas.getD 0 []) rfl (bd hb (bd (a:=false) (ct rfl (congrArg some (by simp [h0]))) (cf rfl rfl)))) ?_
    refine bd (a:=(p,(seq:Int),true)) (bd (a:=d.Areas.getD 1 []) rfl (bd hp (bd (a:=true) (ct rfl (congrArg some (by simp;omega))) (ct rfl rfl)))) ?_
    exact cf rfl rfl
theorem wF {as:List (List UInt8)} {a:Nat} {y:List UInt8} (h:a<as.length):(as.set a y).getD a []=y:=by simp [List.getD_eq_getElem?_getD,h]
theorem getD_set_ne {as:List (List UInt8)} {a b:Nat} {y:List UInt8} (h:a≠b):(as.set a y).getD b []=as.getD b []:=by simp [List.getD_eq_getElem?_getD,List.getElem?_set_ne h]
theorem Jr.next {as:List (List UInt8)} {seq:Nat} {p p':List UInt8} (h:Jr as seq p) (h2:2<=as.length) (hs:seq+1<2 ^ 29) (hp:p'.length<=60000):Jr (as.set ((seq+1) % 2) (nM (seq+1) p')) (seq+1) p':=by
 refine ⟨wF (by omega),⟨p,(seq:Int),true,?_,λ_=>by omega⟩,by omega,hs,hp⟩
 rw [getD_set_ne (by omega)]
 have e:1 - (seq+1) % 2=seq % 2:=by omega
 rw [e,h.a]
 exact zBk seq p h.s1 (by have:=h.s2;omega) h.pl
theorem Jr.other {as:List (List UInt8)} {seq:Nat} {p:List UInt8} (h:Jr as seq p) {a:Nat} {y:List UInt8} (ha:2<=a):Jr (as.set a y) seq p:=by
 refine ⟨by rw [getD_set_ne (by omega)];exact h.a,?_,h.s1,h.s2,h.pl⟩
 rw [getD_set_ne (by omega)]
 exact h.b
theorem Jr.first (n:Nat) (p:List UInt8) (hn:2<=n) (hp:p.length<=60000):Jr ((List.replicate n ([]:List UInt8)).set 1 (nM 1 p)) 1 p:=by
 refine ⟨wF (by simp;omega),⟨[],0,false,?_,λh=>by cases h⟩,by decide,by decide,hp⟩
 rw [getD_set_ne (by decide)]
 have:(List.replicate n ([]:List UInt8)).getD (1 - 1 % 2) []=[]:=by simp [List.getD_eq_getElem?_getD,List.getElem?_replicate];split<;>rfl
 rw [this]
 exact zI1 _
end Go.Proofs.TT
