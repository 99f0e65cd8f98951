/- what a machine does whose chosen slot has no chain -/
import Derived.Test.YtmfjfpfolbnogaaGreatDoorDZ3
import Derived.Test.YtmfjfpfolbnogaaGreatDoorDZ5
set_option linter.all false
open Go.IntKind renaming u32 -> Q0, i64 -> Q1, u64 -> Q4, wrap_u64 -> Qk
open List renaming length_append -> Q2, replicate -> Q3, take_of_length_le -> Q5, take_add_one -> Q7, getElem_mem -> Q8, flatMap_cons -> Q9, append_assoc -> Qa, length_cons -> Qe, mem_cons_self -> Qg, drop_eq_nil_of_le -> Qj, mem_append -> Qn, flatMap_append -> Qo, map_cons -> Qq, sum_cons -> Qr, length_nil -> Qs, drop_drop -> Qu, take_left -> Qv, length_singleton -> Qw, mem_cons_of_mem -> Qx, mem_iff_getElem -> Qy, length -> Qz, not_mem_nil -> W0, range -> W1, range_succ -> W2, append_nil -> W3, mem_cons -> W4
open Int renaming toNat_natCast -> Q6, eq_ofNat_of_zero_le -> Qb, tmod_eq_emod_of_nonneg -> Qc, le_refl -> Qt
open Nat renaming le_refl -> Qd, mod_eq_of_lt -> Qm, two_pow_add_eq_or_of_lt -> Qp
open BitVec renaming ofInt -> Qf, ofInt_natCast -> Qh, toNat_ofNat -> Qi
open Option renaming bind_some -> Ql
namespace Go.Sw
open Go
variable {b:Nat}{c:Bool}{n:Int}{α β:Type}{a:α}{f:α->Option β}{l:List α}{r:Option β}
theorem zNh {X Y:Type} {step:X->Option (X ⊕ Y)} {r:Y} (n:Nat) (s:Nat->X) (h:∀ i,i<n->step (s i)=some (.inl (s (i+1)))) (he:step (s n)=some (.inr r)) :
  ∀ (d k fuel:Nat),k+d=n->d<fuel->zM step fuel (s k)=some r:=by
 intro d;induction d with
 | zero=>
  intro k fuel hk hf;obtain ⟨f,rfl⟩:∃ f,fuel=f+1:=⟨fuel - 1,by omega⟩;have:k=n:=by omega
  subst this;simp [zM,he]
 | succ d ih=>
  intro k fuel hk hf;obtain ⟨f,rfl⟩:∃ f,fuel=f+1:=⟨fuel - 1,by omega⟩;simp only [zM,h k (by omega)];exact ih (k+1) f (by omega) (by omega)
theorem yJ {X Y:Type} {step:X->Option (X ⊕ Y)} {r:Y} {x:X} (n:Nat) (s:Nat->X) (h0:s 0=x) (h:∀ i,i<n->step (s i)=some (.inl (s (i+1)))) (he:step (s n)=some (.inr r)) {fuel:Nat} (hf:n<fuel) :
  zM step fuel x=some r:=by
 subst h0;exact zNh n s h he n 0 fuel (by omega) hf
theorem zIh {X Y:Type} {step:X->Option (X ⊕ Y)} (I:X->Prop) (m:X->Nat) (Q:Y->Prop)
  (h:∀ s,I s->(∃ s',step s=some (.inl s')/\I s'/\m s'<m s)∨(∃ r,step s=some (.inr r)/\Q r)) :
  ∀ (fuel:Nat) (s:X),I s->m s<fuel->∃ r,zM step fuel s=some r/\Q r:=by
 intro fuel;induction fuel with
 | zero=>intro s _ hm;omega
 | succ f ih=>
  intro s hs hm;rcases h s hs with ⟨s',h1,h2,h3⟩ | ⟨r,h1,h2⟩
  ·obtain ⟨r,h4,h5⟩:=ih s' h2 (by omega);exact ⟨r,by simp [zM,h1,h4],h5⟩
  ·exact ⟨r,by simp [zM,h1],h2⟩
theorem xT {n:Nat} (h:n<2 ^ 64):n<FU:=by
 have:(2:Nat) ^ 64<FU:=by decide
 omega
theorem yP (h1:-9223372036854775808<=n) (h2:n<=9223372036854775807):Q1.wrap n=n:=by rw [IntKind.wrap_i64];omega
theorem zZp (h1:0<=n) (h2:n<=4294967295):Q0.wrap n=n:=by rw [IntKind.wrap_u32];omega
theorem bP (h1:0<=n) (h2:n<=18446744073709551615):Q4.wrap n=n:=by rw [Qk];omega
theorem yI {m:List α} (h:(l.length+m.length)*b<=140737488355328):yM b l m=some (l++m):=by
 simp [yM,LIM,h]
theorem yQ {i:Nat} (h:i<l.length):idx l (i:Int)=some l[i]:=by
 simp [idx,h]
theorem tH {a:Nat} (h:a<=b) (h2:b<=l.length):sub l (a:Int) (b:Int)=some ((l.drop a).take (b - a)):=by
 have:(0:Int)<=a/\(a:Int)<=b/\(b:Int)<=l.length:=⟨by omega,by omega,by omega⟩;simp [sub,this]
theorem bd {o:Option α} (h:o=some a) (k:f a=r):o.bind f=r:=by subst h;exact k
theorem ltk {e:α} (k:f e=r):lt e f=r:=k
theorem ct {b r:α} (h:c=true) (k:a=r):(bif c then a else b)=r:=by subst h;exact k
theorem cf {b r:α} (h:c=false) (k:b=r):(bif c then a else b)=r:=by subst h;exact k
theorem ckT (h:c=true):ck c=some ():=by subst h;rfl
end Go.Sw
namespace Go.Proofs.TT
open Go Go.Sw
set_option maxRecDepth 100000
variable {a b:Nat}{e:Int}{i:Nat}{l:List Int}{n t:Nat}
def rr (x n:Int):Int:=ior .u32 (wR .u32 x n) (mS .u32 x (32 - n))
theorem zK6 (k:IntKind) (a b:Int):ior k a b=ior k b a:=by simp [ior,BitVec.or_comm]
theorem kB (x n:Int) (h0:0<=n) (h1:n<=32):xX x n=some (rr x n):=by
 have h2:Q4.wrap (32 - n)=32 - n:=by rw [Qk];omega
 have h3:decide (0<=n)=true:=by simpa using h0
 simp only [xX,ck,lt,h2,h3,rr,cond_true,Ql]
theorem nS (x:Int) (n m:Int) (h:vS .u64 (Q4.wrap n) 31=32 - m) (h0:0<=m) (h1:m<=32):zQ x n=some (rr x m):=by
 have h2:Q4.wrap (32 - (32 - m))=m:=by rw [Qk];omega
 have h3:(0:Int)<=32 - m:=by omega
 have h4:decide ((0:Int)<=32 - m)=true:=by simpa using h3
 have h5:decide ((0:Int)<=m)=true:=by simpa using h0
 simp only [zQ,ck,lt,h,h2,h4,h5,rr,cond_true,Ql];rw [zK6]
def K2:List Int:=wQ
theorem zXs:K2.length=64:=rfl
theorem zJh:mL=some K2:=rfl
def a8 (s:A8 Int):List Int:=[s.a0,s.a1,s.a2,s.a3,s.a4,s.a5,s.a6,s.a7]
def t1 (s:A8 Int) (k w:Int):Int:=
 Q0.wrap (Q0.wrap (Q0.wrap (Q0.wrap (s.a7+wN .u32 (wN .u32 (rr s.a4 6) (rr s.a4 11)) (rr s.a4 25))+wN .u32 (vS .u32 s.a4 s.a5) (vS .u32 (zHl .u32 s.a4) s.a6))+k)+w)
def t2 (s:A8 Int):Int:=Q0.wrap (wN .u32 (wN .u32 (rr s.a0 2) (rr s.a0 13)) (rr s.a0 22)+wN .u32 (wN .u32 (vS .u32 s.a0 s.a1) (vS .u32 s.a0 s.a2)) (vS .u32 s.a1 s.a2))
def rnd (s:A8 Int) (k w:Int):A8 Int:=⟨Q0.wrap (t1 s k w+t2 s),s.a0,s.a1,s.a2,Q0.wrap (s.a3+t1 s k w),s.a4,s.a5,s.a6⟩
def kJ (w:List Int) (s:A8 Int):Nat->A8 Int
 | 0=>s
 | n+1=>rnd (kJ w s n) (K2.getD n 0) (w.getD n 0)
theorem vY (h:t<n):ixN n (t:Int)=some t:=by
 have:(0:Int)<=t/\(t:Int)<n:=⟨by omega,by omega⟩;simp [ixN,this]
theorem mI (h:t<l.length):l[t]? = some (l.getD t 0):=by simp [h]
theorem wO (h:t<2 ^ 40):Q1.wrap ((t:Int)+1)=((t+1:Nat):Int):=by rw [yP (by omega) (by omega)];simp
section
variable (a b c d e f g h:Int)
theorem yCu:idx [a,b,c,d,e,f,g,h] 0=some a:=rfl
theorem zRs:idx [a,b,c,d,e,f,g,h] 1=some b:=rfl
theorem zS4:idx [a,b,c,d,e,f,g,h] 2=some c:=rfl
theorem yAc:idx [a,b,c,d,e,f,g,h] 3=some d:=rfl
theorem zY1:idx [a,b,c,d,e,f,g,h] 4=some e:=rfl
theorem zUl:idx [a,b,c,d,e,f,g,h] 5=some f:=rfl
theorem zUo:idx [a,b,c,d,e,f,g,h] 6=some g:=rfl
theorem yBg:idx [a,b,c,d,e,f,g,h] 7=some h:=rfl
end
theorem dlt (h:a<b):decide ((a:Int)<(b:Int))=true:=by simp;exact h
theorem dge (h:b<=a):decide ((a:Int)<(b:Int))=false:=by simp;omega
theorem zT9 (w:List Int) (s:A8 Int) (i:Nat) (hi:i<64) (hw:w.length=64):nN K2 w (a8 s,(i:Int))=some (.inl (a8 (rnd s (K2.getD i 0) (w.getD i 0)),((i+1:Nat):Int))):=by
 have e1:decide ((i:Int)<64)=true:=dlt (b:=64) hi;have e2:∀ x,xX x 6=some (rr x 6):=λx=>kB x 6 (by decide) (by decide);have e3:∀ x,xX x 11=some (rr x 11):=λx=>kB x 11 (by decide) (by decide);have e4:∀ x,xX x 25=some (rr x 25):=λx=>kB x 25 (by decide) (by decide);have e5:∀ x,xX x 2=some (rr x 2):=λx=>kB x 2 (by decide) (by decide);have e6:∀ x,xX x 13=some (rr x 13):=λx=>kB x 13 (by decide) (by decide);have e7:∀ x,xX x 22=some (rr x 22):=λx=>kB x 22 (by decide) (by decide);have k1:K2[i]? = some (K2.getD i 0):=mI (by rw [zXs];exact hi);have k2:w[i]? = some (w.getD i 0):=mI (by omega);unfold nN a8;refine ct e1 ?_;refine bd (yCu _ _ _ _ _ _ _ _) ?_;refine bd (zY1 _ _ _ _ _ _ _ _) ?_;refine bd (yBg _ _ _ _ _ _ _ _) ?_;refine bd (e2 _) ?_;refine bd (e3 _) ?_;refine bd (e4 _) ?_;refine ltk ?_;refine bd (zUl _ _ _ _ _ _ _ _) ?_;refine bd (zUo _ _ _ _ _ _ _ _) ?_;refine ltk ?_;refine bd (vY hi) ?_;refine bd k1 ?_;refine ltk ?_;refine bd (vY hi) ?_;refine bd k2 ?_;refine bd (e5 _) ?_;refine bd (e6 _) ?_;refine bd (e7 _) ?_;refine bd (zRs _ _ _ _ _ _ _ _) ?_;refine bd (zS4 _ _ _ _ _ _ _ _) ?_;refine ltk ?_;refine bd (zRs _ _ _ _ _ _ _ _) ?_;refine bd (zS4 _ _ _ _ _ _ _ _) ?_;refine ltk ?_;refine ltk ?_;refine bd (zRs _ _ _ _ _ _ _ _) ?_;refine bd (zS4 _ _ _ _ _ _ _ _) ?_;refine bd (yAc _ _ _ _ _ _ _ _) ?_;refine ltk ?_;refine bd (zUl _ _ _ _ _ _ _ _) ?_;refine bd (zUo _ _ _ _ _ _ _ _) ?_;rw [wO (show i<2 ^ 40 by omega)];rfl
theorem zXk (w:List Int) (hw:w.length=64) (s:A8 Int):zM (nN K2 w) FU (a8 s,0)=some (a8 (kJ w s 64)):=by
 refine yJ 64 (λi=>(a8 (kJ w s i),(i:Int))) rfl (λi hi=>zT9 w _ i hi hw) ?_ (xT (by decide));generalize kJ w s 64=S;rfl
theorem zUd (w:List Int) (s:A8 Int) (i:Nat) (hi:i<64) (hw:w.length=64):tJ w ((i:Int),s.a0,s.a1,s.a2,s.a3,s.a4,s.a5,s.a6,s.a7) =
  some (.inl (((i+1:Nat):Int),(rnd s (K2.getD i 0) (w.getD i 0)).a0,(rnd s (K2.getD i 0) (w.getD i 0)).a1,(rnd s (K2.getD i 0) (w.getD i 0)).a2,(rnd s (K2.getD i 0) (w.getD i 0)).a3,(rnd s (K2.getD i 0) (w.getD i 0)).a4,(rnd s (K2.getD i 0) (w.getD i 0)).a5,(rnd s (K2.getD i 0) (w.getD i 0)).a6,(rnd s (K2.getD i 0) (w.getD i 0)).a7)):=by
 have e1:decide ((i:Int)<64)=true:=dlt (b:=64) hi;have e2:∀ x,zQ x (-6)=some (rr x 6):=λx=>nS x _ 6 (by decide) (by decide) (by decide);have e3:∀ x,zQ x (-11)=some (rr x 11):=λx=>nS x _ 11 (by decide) (by decide) (by decide);have e4:∀ x,zQ x (-25)=some (rr x 25):=λx=>nS x _ 25 (by decide) (by decide) (by decide);have e5:∀ x,zQ x (-2)=some (rr x 2):=λx=>nS x _ 2 (by decide) (by decide) (by decide);have e6:∀ x,zQ x (-13)=some (rr x 13):=λx=>nS x _ 13 (by decide) (by decide) (by decide);have e7:∀ x,zQ x (-22)=some (rr x 22):=λx=>nS x _ 22 (by decide) (by decide) (by decide);have k1:idx wQ (i:Int)=some (K2.getD i 0):=by rw [yQ (show i<wQ.length from hi)];simp [K2,show i<wQ.length from hi]
 have k2:w[i]? = some (w.getD i 0):=mI (by omega);unfold tJ;refine ct e1 ?_;refine bd (e2 _) ?_;refine bd (e3 _) ?_;refine bd (e4 _) ?_;refine ltk ?_;refine ltk ?_;refine bd k1 ?_;refine ltk ?_;refine bd (vY hi) ?_;refine bd k2 ?_;refine bd (e5 _) ?_;refine bd (e6 _) ?_;refine bd (e7 _) ?_;refine ltk ?_;refine ltk ?_;refine ltk ?_;refine ltk ?_;rw [wO (show i<2 ^ 40 by omega)];rfl
theorem zW7 (w:List Int) (hw:w.length=64) (s:A8 Int):zM (tJ w) FU (0,s.a0,s.a1,s.a2,s.a3,s.a4,s.a5,s.a6,s.a7)=some ((kJ w s 64).a0,(kJ w s 64).a1,(kJ w s 64).a2,(kJ w s 64).a3,(kJ w s 64).a4,(kJ w s 64).a5,(kJ w s 64).a6,(kJ w s 64).a7):=by
 refine yJ 64 (λi=>((i:Int),(kJ w s i).a0,(kJ w s i).a1,(kJ w s i).a2,(kJ w s i).a3,(kJ w s i).a4,(kJ w s i).a5,(kJ w s i).a6,(kJ w s i).a7)) rfl (λi hi=>zUd w _ i hi hw) ?_ (xT (by decide));generalize kJ w s 64=S;rfl
set_option maxRecDepth 100000
theorem zO6 {l:By} {z:Int} (hz:z=(n:Int)) (h:n<l.length):idx l z=some (l.getD n 0):=by
 subst hz;simp [idx,h]
theorem cP {α:Type} {l:List α} {j:Nat} {u:α} (h:j<l.length):uX l j u=some (l.set j u):=by simp [uX,h]
def byt (b:By) (n:Nat):Int:=Q0.wrap (((b.getD n 0).toNat:Nat):Int)
def wd (b:By) (t:Nat):Int:=ior .u32 (ior .u32 (ior .u32 (mS .u32 (byt b (4*t)) 24) (mS .u32 (byt b (4*t+1)) 16)) (mS .u32 (byt b (4*t+2)) 8)) (byt b (4*t+3))
theorem zIo (b:By) (t:Nat) (h:4*t+3<b.length) (h2:t<2 ^ 20):jW b (t:Int)=some (wd b t):=by
 have e0:Q1.wrap (4*(t:Int))=((4*t:Nat):Int):=by rw [yP (by omega) (by omega)];simp
 unfold jW;rw [e0];refine bd (zO6 rfl (by omega)) ?_;refine bd (zO6 (n:=4*t+1) (by rw [yP (by omega) (by omega)];simp) (by omega)) ?_;refine ltk ?_;refine bd (zO6 (n:=4*t+2) (by rw [yP (by omega) (by omega)];simp) (by omega)) ?_;refine ltk ?_;refine bd (zO6 (n:=4*t+3) (by rw [yP (by omega) (by omega)];simp) (by omega)) ?_;rfl
theorem zKt:fL=jW:=rfl
def s0 (x:Int):Int:=wN .u32 (wN .u32 (rr x 7) (rr x 18)) (wR .u32 x 3)
def s1 (x:Int):Int:=wN .u32 (wN .u32 (rr x 17) (rr x 19)) (wR .u32 x 10)
def wv (b:By) (w:List Int) (t:Nat):Int:=
 if t<16 then wd b t else Q0.wrap (Q0.wrap (Q0.wrap (s1 (w.getD (t - 2) 0)+w.getD (t - 7) 0)+s0 (w.getD (t - 15) 0))+w.getD (t - 16) 0)
def zAb (b:By):Nat->List Int
 | 0=>Q3 64 0
 | t+1=>(zAb b t).set t (wv b (zAb b t) t)
theorem eO (b:By):∀ t,(zAb b t).length=64
 | 0=>rfl
 | t+1=>by simp [zAb,eO b t]
theorem zZi (b:By) (w:List Int) (i:Nat) (hi:i<64) (hw:w.length=64) (hb:b.length=64):tK b ((i:Int),w)=some (.inl (((i+1:Nat):Int),w.set i (wv b w i))):=by
 have hiw:i<w.length:=by omega
 unfold tK;refine ct (dlt (b:=64) hi) ?_;refine bd (a:=w.set i (wv b w i)) ?_ (by rw [wO (show i<2 ^ 40 by omega)]);by_cases h:i<16
 ·refine ct (dlt (b:=16) h) ?_;rw [zKt];refine bd (zIo b i (by omega) (by omega)) ?_;refine bd (vY hi) ?_;refine bd (cP hiw) ?_;simp [wv,h]
 refine cf (dge (b:=16) (by omega)) ?_;have x15:ixN 64 (Q1.wrap ((i:Int) - 15))=some (i - 15):=by rw [yP (by omega) (by omega),show (i:Int) - 15=((i - 15:Nat):Int) by omega];exact vY (by omega)
 have x2:ixN 64 (Q1.wrap ((i:Int) - 2))=some (i - 2):=by rw [yP (by omega) (by omega),show (i:Int) - 2=((i - 2:Nat):Int) by omega];exact vY (by omega)
 have x7:ixN 64 (Q1.wrap ((i:Int) - 7))=some (i - 7):=by rw [yP (by omega) (by omega),show (i:Int) - 7=((i - 7:Nat):Int) by omega];exact vY (by omega)
 have x16:ixN 64 (Q1.wrap ((i:Int) - 16))=some (i - 16):=by rw [yP (by omega) (by omega),show (i:Int) - 16=((i - 16:Nat):Int) by omega];exact vY (by omega)
 have w15:w[i - 15]? = some (w.getD (i - 15) 0):=mI (by omega);have w2:w[i - 2]? = some (w.getD (i - 2) 0):=mI (by omega);have w7:w[i - 7]? = some (w.getD (i - 7) 0):=mI (by omega);have w16:w[i - 16]? = some (w.getD (i - 16) 0):=mI (by omega);have e7:∀ x,zQ x (-7)=some (rr x 7):=λx=>nS x _ 7 (by decide) (by decide) (by decide);have e18:∀ x,zQ x (-18)=some (rr x 18):=λx=>nS x _ 18 (by decide) (by decide) (by decide);have e17:∀ x,zQ x (-17)=some (rr x 17):=λx=>nS x _ 17 (by decide) (by decide) (by decide);have e19:∀ x,zQ x (-19)=some (rr x 19):=λx=>nS x _ 19 (by decide) (by decide) (by decide);refine bd (x15) ?_;refine bd (w15) ?_;refine bd (x2) ?_;refine bd (w2) ?_;refine bd (e7 _) ?_;refine bd (e18 _) ?_;refine bd (e17 _) ?_;refine bd (e19 _) ?_;refine bd (x7) ?_;refine bd (w7) ?_;refine ltk ?_;refine ltk ?_;refine bd (x16) ?_;refine bd (w16) ?_;refine bd (vY hi) ?_;refine bd (cP hiw) ?_;simp only [wv,h,if_false];rfl
theorem zVq (b:By) (hb:b.length=64):zM (tK b) FU (0,Q3 64 0)=some (zAb b 64):=by
 refine yJ 64 (λi=>((i:Int),zAb b i)) rfl (λi hi=>zZi b _ i hi (eO b i) hb) ?_ (xT (by decide));generalize zAb b 64=S;rfl
def sU (x:By) (n:Nat):By:=(x.drop n).take 64
theorem yCa (x:By) (at':Nat) (w:List Int) (i:Nat) (hi:i<64) (hw:w.length=64) (hx:at'+64<=x.length) (hl:x.length<2 ^ 48):nJ x (at':Int) ((i:Int),w)=some (.inl (((i+1:Nat):Int),w.set i (wv (sU x at') w i))):=by
 have hiw:i<w.length:=by omega
 have hbl:(sU x at').length=64:=by simp [sU];omega
 unfold nJ;refine ct (dlt (b:=64) hi) ?_;refine bd (a:=w.set i (wv (sU x at') w i)) ?_ (by rw [wO (show i<2 ^ 40 by omega)]);by_cases h:i<16
 ·refine ct (dlt (b:=16) h) ?_;have hs:sub x (at':Int) (Q1.wrap ((at':Int)+64))=some (sU x at'):=by
   rw [yP (by omega) (by omega),show (at':Int)+64=((at'+64:Nat):Int) by simp,tH (by omega) hx];simp [sU]
  refine bd hs ?_;refine bd (zIo _ i (by omega) (by omega)) ?_;refine bd (vY hi) ?_;refine bd (cP hiw) ?_;simp [wv,h]
 refine cf (dge (b:=16) (by omega)) ?_;have x15:ixN 64 (Q1.wrap ((i:Int) - 15))=some (i - 15):=by rw [yP (by omega) (by omega),show (i:Int) - 15=((i - 15:Nat):Int) by omega];exact vY (by omega)
 have x2:ixN 64 (Q1.wrap ((i:Int) - 2))=some (i - 2):=by rw [yP (by omega) (by omega),show (i:Int) - 2=((i - 2:Nat):Int) by omega];exact vY (by omega)
 have x7:ixN 64 (Q1.wrap ((i:Int) - 7))=some (i - 7):=by rw [yP (by omega) (by omega),show (i:Int) - 7=((i - 7:Nat):Int) by omega];exact vY (by omega)
 have x16:ixN 64 (Q1.wrap ((i:Int) - 16))=some (i - 16):=by rw [yP (by omega) (by omega),show (i:Int) - 16=((i - 16:Nat):Int) by omega];exact vY (by omega)
 have w15:w[i - 15]? = some (w.getD (i - 15) 0):=mI (by omega);have w2:w[i - 2]? = some (w.getD (i - 2) 0):=mI (by omega);have w7:w[i - 7]? = some (w.getD (i - 7) 0):=mI (by omega);have w16:w[i - 16]? = some (w.getD (i - 16) 0):=mI (by omega);have e7:∀ x,xX x 7=some (rr x 7):=λx=>kB x 7 (by decide) (by decide);have e18:∀ x,xX x 18=some (rr x 18):=λx=>kB x 18 (by decide) (by decide);have e17:∀ x,xX x 17=some (rr x 17):=λx=>kB x 17 (by decide) (by decide);have e19:∀ x,xX x 19=some (rr x 19):=λx=>kB x 19 (by decide) (by decide);refine bd (x15) ?_;refine bd (w15) ?_;refine bd (e7 _) ?_;refine bd (x15) ?_;refine bd (w15) ?_;refine bd (e18 _) ?_;refine bd (x15) ?_;refine bd (w15) ?_;refine bd (x2) ?_;refine bd (w2) ?_;refine bd (e17 _) ?_;refine bd (x2) ?_;refine bd (w2) ?_;refine bd (e19 _) ?_;refine bd (x2) ?_;refine bd (w2) ?_;refine bd (x7) ?_;refine bd (w7) ?_;refine ltk ?_;refine ltk ?_;refine bd (x16) ?_;refine bd (w16) ?_;refine bd (vY hi) ?_;refine bd (cP hiw) ?_;simp only [wv,h,if_false];rfl
theorem zXl (x:By) (at':Nat) (hx:at'+64<=x.length) (hl:x.length<2 ^ 48):zM (nJ x (at':Int)) FU (0,Q3 64 0)=some (zAb (sU x at') 64):=by
 refine yJ 64 (λi=>((i:Int),zAb (sU x at') i)) rfl (λi hi=>yCa x at' _ i hi (eO _ i) hx hl) ?_ (xT (by decide));generalize zAb (sU x at') 64=S;rfl
set_option maxRecDepth 100000
def zRp (h s:A8 Int):A8 Int:=⟨Q0.wrap (h.a0+s.a0),Q0.wrap (h.a1+s.a1),Q0.wrap (h.a2+s.a2),Q0.wrap (h.a3+s.a3),Q0.wrap (h.a4+s.a4),Q0.wrap (h.a5+s.a5),Q0.wrap (h.a6+s.a6),Q0.wrap (h.a7+s.a7)⟩
def zHb (h s:List Int):Nat->List Int
 | 0=>h
 | i+1=>(zHb h s i).set i (Q0.wrap ((zHb h s i).getD i 0+s.getD i 0))
theorem zGr (h s:List Int):∀ i,(zHb h s i).length=h.length
 | 0=>rfl
 | i+1=>by simp [zHb,zGr h s i]
theorem zQg (h s:A8 Int):zHb (a8 h) (a8 s) 8=a8 (zRp h s):=rfl
def zLq (h:A8 Int) (b:By):A8 Int:=zRp h (kJ (zAb b 64) h 64)
theorem zYq (h s:A8 Int):zM (iP (a8 s)) FU (0,a8 h)=some (a8 (zRp h s)):=by
 rw [<- zQg];refine yJ 8 (λi=>((i:Int),zHb (a8 h) (a8 s) i)) rfl (λi hi=>?_) ?_ (xT (by decide))
 ·have hl:(zHb (a8 h) (a8 s) i).length=8:=zGr _ _ _;unfold iP;refine ct (dlt (b:=8) hi) ?_;refine bd (vY hi) ?_;refine bd (mI (by omega)) ?_;refine bd (a:=(a8 s).getD i 0) (by rw [yQ (show i<(a8 s).length from hi)];simp [show i<(a8 s).length from hi]) ?_;refine bd (vY hi) ?_;refine bd (cP (by omega)) ?_;rw [wO (show i<2 ^ 40 by omega)];rfl
 ·generalize zHb (a8 h) (a8 s) 8=S;rfl
theorem zWx (h s:A8 Int):zM (vN s.a0 s.a1 s.a2 s.a3 s.a4 s.a5 s.a6 s.a7) FU (0,[h.a0,h.a1,h.a2,h.a3,h.a4,h.a5,h.a6,h.a7])=some (zRp h s):=by
 refine yJ 8 (λi=>((i:Int),zHb (a8 h) (a8 s) i)) rfl (λi hi=>?_) ?_ (xT (by decide))
 ·have hl:(zHb (a8 h) (a8 s) i).length=8:=zGr _ _ _;unfold vN;refine ct (dlt (b:=8) hi) ?_;refine bd (vY hi) ?_;refine bd (mI (by omega)) ?_;refine bd (vY hi) ?_;refine bd (a:=(a8 s).getD i 0) (mI (l:=a8 s) hi) ?_;refine bd (vY hi) ?_;refine bd (cP (by omega)) ?_;rw [wO (show i<2 ^ 40 by omega)];rfl
 ·show vN s.a0 s.a1 s.a2 s.a3 s.a4 s.a5 s.a6 s.a7 (((8:Nat):Int),zHb (a8 h) (a8 s) 8)=_;rw [zQg];unfold vN;refine cf rfl ?_;refine bd (a:=zRp h s) rfl rfl
theorem zKq (h:A8 Int) (b:By) (hb:b.length=64):rC h b=some (zLq h b):=by
 unfold rC;refine bd (zVq b hb) ?_;refine bd (zW7 _ (eO b 64) h) ?_;refine bd (zWx h _) ?_;rfl
def zR7:A8 Int:=⟨1779033703,3144134277,1013904242,2773480762,1359893119,2600822924,528734635,1541459225⟩
def hsh (x:By):Nat->A8 Int
 | 0=>zR7
 | i+1=>zLq (hsh x i) (sU x (64*i))
def st8 (p:By) (h:A8 Int):By×Int×Int×Int×Int×Int×Int×Int×Int:=(p,h.a0,h.a1,h.a2,h.a3,h.a4,h.a5,h.a6,h.a7)
theorem zMl (x:By) (n:Nat) (hx:x.length=64*n) (hl:x.length<2 ^ 48):zM lW FU (st8 x zR7)=some ((hsh x n).a0,(hsh x n).a1,(hsh x n).a2,(hsh x n).a3,(hsh x n).a4,(hsh x n).a5,(hsh x n).a6,(hsh x n).a7):=by
 refine yJ n (λi=>st8 (x.drop (64*i)) (hsh x i)) (by simp [hsh]) (λi hi=>?_) ?_ (xT (by omega))
 ·have hd:(x.drop (64*i)).length=x.length - 64*i:=by simp
  unfold lW st8;refine ct (by simp;omega) ?_;refine bd (a:=sU x (64*i)) (by rw [show (0:Int)=((0:Nat):Int) from rfl,show (64:Int)=((64:Nat):Int) from rfl,tH (by omega) (by omega)];simp [sU]) ?_;refine bd (zKq _ _ (by simp [sU];omega)) ?_;refine bd (a:=x.drop (64*(i+1))) (by rw [show (64:Int)=((64:Nat):Int) from rfl,tH (by omega) (by omega)];rw [Qu,Q5 (by simp;omega)];congr 2) ?_;rfl
 ·have hd:x.drop (64*n)=[]:=Qj (by omega);show lW (st8 (x.drop (64*n)) (hsh x n))=_;rw [hd];generalize hsh x n=S;rfl
theorem zL8 (x:By) (n:Nat) (hx:x.length=64*n) (hl:x.length<2 ^ 47):zM (qX K2 x) FU (0,a8 zR7)=some (a8 (hsh x n)):=by
 refine yJ n (λi=>(((64*i:Nat):Int),a8 (hsh x i))) rfl (λi hi=>?_) ?_ (xT (by omega))
 ·unfold qX;refine ct (dlt (by omega)) ?_;refine bd (zXl x (64*i) (by omega) (by omega)) ?_;refine bd (ckT rfl) ?_;refine bd (a:=a8 (hsh x i)) (by rw [yI (by simp [a8])];rfl) ?_;refine bd (zXk _ (eO _ 64) _) ?_;refine bd (zYq _ _) ?_;rw [yP (by omega) (by omega),show ((64*i:Nat):Int)+64=((64*(i+1):Nat):Int) by omega];rfl
 ·show qX K2 x (((64*n:Nat):Int),a8 (hsh x n))=_;unfold qX;exact cf (dge (by omega)) rfl
def zs (n:Nat):Nat:=(119 - n % 64) % 64
def be8 (n:Int) (k:Nat):By:=(W1 k).map λ(j:Nat)=>u8 (wR .u64 n (56 - 8*(j:Int)))
theorem zIz (n:Int) (k:Nat):(be8 n k).length=k:=by simp [be8]
theorem zLr (n:Int) (k:Nat):be8 n (k+1)=be8 n k++[u8 (wR .u64 n (56 - 8*(k:Int)))]:=by simp [be8,W2]
def yDg (b:By):Int:=Q4.wrap (Q4.wrap (b.length:Int)*8)
def zAa (b:By):By:=(b++[128]++Q3 (zs b.length) 0)++be8 (yDg b) 8
theorem aK (b:By):(zAa b).length=b.length+9+zs b.length:=by simp [zAa,zIz];omega
theorem zCl (b:By):(zAa b).length % 64=0:=by rw [aK];unfold zs;omega
theorem zId (b:By) (hb:b.length<2 ^ 40):zM kC FU (b++[128])=some (b++[128]++Q3 (zs b.length) 0):=by
 have hz:zs b.length<64:=by unfold zs;omega
 refine yJ (zs b.length) (λi=>b++[128]++Q3 i 0) (by simp) (λi hi=>?_) ?_ (xT (by omega))
 ·have hl:(b++[128]++Q3 i 0).length=b.length+1+i:=by simp;omega
  unfold kC;refine ct ?_ ?_
  ·rw [hl];simp only [bne_iff_ne,ne_eq];rw [Qc (by omega)];unfold zs at hi;omega
  ·refine bd (yI (by rw [hl];simp;omega)) ?_;rw [Qa,<- List.replicate_succ']
 ·have hl:(b++[128]++Q3 (zs b.length) 0).length=b.length+1+zs b.length:=by simp;omega
  unfold kC;refine cf ?_ rfl;rw [hl];simp only [bne_eq_false_iff_eq];rw [Qc (by omega)];unfold zs;omega
theorem zS9:zBe=kC:=rfl
theorem zQ1 (x:By) (n:Int) (hx:x.length<2 ^ 41):zM (aW n) FU (x,7)=some (x++be8 n 8):=by
 refine yJ 8 (λi=>(x++be8 n i,7 - (i:Int))) (by simp [be8]) (λi hi=>?_) ?_ (xT (by decide))
 ·unfold aW;refine ct (by simp;omega) ?_;refine ltk ?_;have e:Q4.wrap (8*Q4.wrap (7 - (i:Int)))=56 - 8*(i:Int):=by
   rw [bP (n:=7 - (i:Int)) (by omega) (by omega),bP (by omega) (by omega)];omega
  rw [e];refine bd (yI (by simp [zIz];omega)) ?_;rw [yP (by omega) (by omega),Qa,<- zLr,show (7:Int) - (i:Int) - 1=7 - ((i+1:Nat):Int) by omega]
 ·generalize be8 n 8=S;rfl
theorem zP9 (x:By) (n:Int) (hx:x.length<2 ^ 41):zM (eG n) FU (x,56)=some (x++be8 n 8):=by
 refine yJ 8 (λi=>(x++be8 n i,56 - 8*(i:Int))) (by simp [be8]) (λi hi=>?_) ?_ (xT (by decide))
 ·unfold eG;refine ct (by simp;omega) ?_;rw [bP (n:=56 - 8*(i:Int)) (by omega) (by omega)];refine bd (yI (by simp [zIz];omega)) ?_;rw [yP (by omega) (by omega),Qa,<- zLr,show (56:Int) - 8*(i:Int) - 8=56 - 8*((i+1:Nat):Int) by omega]
 ·generalize be8 n 8=S;rfl
theorem zF2 (b:By) (hb:b.length<2 ^ 40):aH b=some (zAa b):=by
 have hz:zs b.length<64:=by unfold zs;omega
 unfold aH;refine bd (a:=b) (by rw [yI (by simp;omega)];simp) ?_;refine bd (yI (by simp;omega)) ?_;refine bd (zId b hb) ?_;refine ltk ?_;refine bd (zQ1 _ _ (by simp;omega)) ?_;rfl
theorem zGc (b:By) (hb:b.length<2 ^ 40):gG b=some (zAa b):=by
 have hz:zs b.length<64:=by unfold zs;omega
 unfold gG;refine bd (a:=b.length+72) (by unfold mkN;rw [yP (by omega) (by omega),if_pos (by omega)];congr 1) ?_;refine bd (a:=b) (by rw [yI (by simp;omega)];simp) ?_;refine bd (yI (by simp;omega)) ?_;rw [zS9];refine bd (zId b hb) ?_;refine ltk ?_;refine bd (zP9 _ _ (by simp;omega)) ?_;rfl
def be4 (w:Int):By:=[u8 (wR .u32 w 24),u8 (wR .u32 w 16),u8 (wR .u32 w 8),u8 w]
theorem zJy (l:List Int):(l.flatMap be4).length=4*l.length:=by
 induction l with
 | nil=>rfl
 | cons a r ih=>simp [ih,be4];omega
theorem zN2 (l:List Int) (i:Nat) (hi:i<l.length):(l.take (i+1)).flatMap be4=(l.take i).flatMap be4++be4 (l.getD i 0):=by
 rw [Q7,Qo];congr 1;simp [hi]
theorem zSo (h:i<l.length):idx l (i:Int)=some (l.getD i 0):=by rw [yQ h];simp [h]
theorem zL4 (l:List Int) (hl:l.length<2 ^ 20):iL l=some (l.flatMap be4):=by
 have:zM (lK l) FU ([],0)=some (l.flatMap be4):=by
  refine yJ l.length (λi=>((l.take i).flatMap be4,(i:Int))) (by simp) (λi hi=>?_) ?_ (xT (by omega))
  ·unfold lK;refine ct (dlt hi) ?_;refine bd (zSo hi) ?_;refine bd (zSo hi) ?_;refine bd (zSo hi) ?_;refine bd (zSo hi) ?_;refine bd (yI (by rw [zJy];simp;omega)) ?_;rw [zN2 l i hi,wO (show i<2 ^ 40 by omega)];rfl
  ·unfold lK;refine cf (dge (Qd _)) ?_;simp
 unfold iL;exact bd this rfl
theorem zIf (l:List Int) (hl:l.length<2 ^ 20):oL l=some (l.flatMap be4):=by
 have:zM (pL l) FU ([],0)=some (l.flatMap be4):=by
  refine yJ l.length (λi=>((l.take i).flatMap be4,(i:Int))) (by simp) (λi hi=>?_) ?_ (xT (by omega))
  ·unfold pL;refine ct (dlt hi) ?_;refine bd (zSo hi) ?_;refine bd (yI (by rw [zJy];simp;omega)) ?_;rw [zN2 l i hi,wO (show i<2 ^ 40 by omega)];rfl
  ·unfold pL;refine cf (dge (Qd _)) ?_;simp
 unfold oL;refine bd (a:=4*l.length) (by unfold mkN;rw [yP (by omega) (by omega),if_pos (by omega)];congr 1) ?_;exact bd this rfl
def sha (b:By):By:=(a8 (hsh (zAa b) ((zAa b).length / 64))).flatMap be4
theorem fP (b:By):(sha b).length=32:=by unfold sha;rw [zJy];rfl
theorem zIv (b:By) (hb:b.length<2 ^ 40):nC b=some (sha b):=by
 have hz:zs b.length<64:=by unfold zs;omega
 have h1:=aK b;have h2:=zCl b;unfold nC;refine bd zJh ?_;refine bd (ckT rfl) ?_;refine bd (zF2 b hb) ?_;refine bd (zL8 (zAa b) ((zAa b).length / 64) (by omega) (by omega)) ?_;refine bd (ckT rfl) ?_;refine bd (zL4 _ (by simp [a8])) ?_;rfl
theorem zI8 (b:By) (hb:b.length<2 ^ 40):xQ 1 b=some (sha b):=by
 have hz:zs b.length<64:=by unfold zs;omega
 have h1:=aK b;have h2:=zCl b;unfold xQ;refine cf rfl ?_;refine ct rfl ?_;refine bd (zGc b hb) ?_;refine bd (zMl (zAa b) ((zAa b).length / 64) (by omega) (by omega)) ?_;refine bd (zIf _ (by simp)) ?_;rfl
set_option maxRecDepth 100000
def hd4 (n:Nat):By:=[u8 (wR .i64 (n:Int) 24),u8 (wR .i64 (n:Int) 16),u8 (wR .i64 (n:Int) 8),u8 (n:Int)]
theorem yCs (n:Nat) (h:n<2 ^ 32):[u8 (wR .u32 (Q0.wrap (n:Int)) 24),u8 (wR .u32 (Q0.wrap (n:Int)) 16),u8 (wR .u32 (Q0.wrap (n:Int)) 8),u8 (Q0.wrap (n:Int))]=hd4 n:=by
 rw [zZp (by omega) (by omega)];rfl
def zMi (fs:List By):By:=fs.flatMap λf=>hd4 f.length++f
def frm (tag:Int) (fs:List By):By:=u8 tag :: zMi fs
def tot (fs:List By):Nat:=(fs.map λf=>4+f.length).sum
theorem zQp (fs:List By):(zMi fs).length=tot fs:=by
 induction fs with
 | nil=>rfl
 | cons f r ih=>simp only [zMi,tot,Q9,Q2,Qq,Qr] at ih ⊢;rw [ih];simp [hd4]
theorem zDe (tag:Int) (fs:List By):(frm tag fs).length=1+tot fs:=by simp [frm,zQp];omega
theorem zJ9 (tag:Int) (fs:List By) (i:Nat) (hi:i<fs.length):frm tag (fs.take (i+1))=(frm tag (fs.take i)++hd4 (fs[i]).length)++fs[i]:=by
 unfold frm zMi;rw [Q7,Qo];simp [hi]
theorem zR8 (fs:List By):∀ i,tot (fs.take i)<=tot fs:=by
 induction fs with
 | nil=>intro i;simp
 | cons f r ih=>
  intro i;cases i with
  | zero=>simp [tot]
  | succ j=>have:=ih j;simp only [tot,List.take_succ_cons,Qq,Qr] at this ⊢;omega
theorem zNl (fs:List By):fs.length<=tot fs:=by
 induction fs with
 | nil=>simp
 | cons f r ih=>simp only [tot,Qe,Qq,Qr] at ih ⊢;omega
theorem zNq (fs:List By) (i:Nat) (hi:i<fs.length):tot (fs.take i)+4+(fs[i]).length<=tot fs:=by
 have h:=zR8 fs (i+1);have e:tot (fs.take (i+1))=tot (fs.take i)+(4+(fs[i]).length):=by
  unfold tot;rw [Q7,List.map_append,List.sum_append];simp only [hi,List.getElem?_eq_getElem,Option.toList_some,Qq,List.map_nil,Qr,List.sum_nil];omega
 omega
theorem zIc (tag:Int) (fs:List By) (h:tot fs<2 ^ 32):iO tag fs=some (frm tag fs):=by
 have h1:=zNl fs;have:zM (lL fs) FU ([u8 tag],0)=some (frm tag fs):=by
  refine yJ fs.length (λi=>(frm tag (fs.take i),(i:Int))) (by simp [frm,zMi]) (λi hi=>?_) ?_ (xT (by omega))
  ·have h2:=zNq fs i hi;have h3:=zDe tag (fs.take i);unfold lL;refine ct (dlt hi) ?_;refine bd (yQ hi) ?_;refine bd (yI (by simp;omega)) ?_;refine bd (yQ hi) ?_;refine bd (yI (by simp;omega)) ?_;rw [zJ9 tag fs i hi,wO (show i<2 ^ 40 by omega)];rfl
  ·unfold lL;refine cf (dge (Qd _)) ?_;simp
 unfold iO;exact bd this rfl
theorem zO8 (tag:Int) (fs:List By) (h:tot fs<2 ^ 32):jP tag fs=some (frm tag fs):=by
 have h1:=zNl fs;have:zM (oU fs) FU ([u8 tag],0)=some (frm tag fs):=by
  refine yJ fs.length (λi=>(frm tag (fs.take i),(i:Int))) (by simp [frm,zMi]) (λi hi=>?_) ?_ (xT (by omega))
  ·have h2:=zNq fs i hi;have h3:=zDe tag (fs.take i);unfold oU;refine ct (dlt hi) ?_;refine bd (yQ hi) ?_;rw [yCs _ (by omega)];refine bd (yI (by simp [hd4];omega)) ?_;refine bd (yI (by simp [hd4];omega)) ?_;rw [zJ9 tag fs i hi,wO (show i<2 ^ 40 by omega)]
  ·unfold oU;refine cf (dge (Qd _)) ?_;simp
 unfold jP;exact bd this rfl
def hs (tag:Int) (fs:List By):By:=sha (frm tag fs)
theorem kU (tag:Int) (fs:List By):(hs tag fs).length=32:=fP _
theorem zHg (tag:Int) (fs:List By) (h:tot fs<2 ^ 32):nB tag fs=some (hs tag fs):=by
 unfold nB;refine bd (zO8 tag fs h) ?_;exact bd (zI8 _ (by rw [zDe];omega)) rfl
def beN (n:Int) (size k:Nat):By:=(W1 k).map λ(j:Nat)=>u8 (wR .u64 (Q4.wrap n) (8*((size:Int) - 1 - (j:Int))))
theorem xE (n:Int) (size k:Nat):(beN n size k).length=k:=by simp [beN]
theorem zL7 (n:Int) (size k:Nat):beN n size (k+1)=beN n size k++[u8 (wR .u64 (Q4.wrap n) (8*((size:Int) - 1 - (k:Int))))]:=by simp [beN,W2]
def sQ (b:By) (size:Nat) (n:Int):By:=b++beN n size size
theorem vQ (b:By) (size:Nat) (n:Int):(sQ b size n).length=b.length+size:=by simp [sQ,xE]
theorem zCt (b:By) (size:Nat) (n:Int) (h1:1<=size) (h8:size<=8) (hb:b.length<2 ^ 40):nF b (size:Int) n=some (sQ b size n):=by
 have:zM (jT n) FU (b,(size:Int) - 1)=some (sQ b size n):=by
  refine yJ size (λi=>(b++beN n size i,(size:Int) - 1 - (i:Int))) (by simp [beN]) (λi hi=>?_) ?_ (xT (by omega))
  ·unfold jT;refine ct (by simp;omega) ?_;refine ltk ?_;rw [bP (n:=(size:Int) - 1 - (i:Int)) (by omega) (by omega),bP (n:=8*((size:Int) - 1 - (i:Int))) (by omega) (by omega)];refine bd (yI (by simp [xE];omega)) ?_;rw [yP (by omega) (by omega),Qa,<- zL7,show (size:Int) - 1 - (i:Int) - 1=(size:Int) - 1 - ((i+1:Nat):Int) by omega]
  ·unfold jT;refine cf (by simp;omega) rfl
 unfold nF;refine bd (a:=b) (by rw [yI (by simp;omega)];simp) ?_;refine bd (a:=false) (cf (by simp;omega) (congrArg some (by simp;omega))) ?_;rw [yP (by omega) (by omega)];exact bd this rfl
theorem pK (b:By) (size:Nat) (n:Int) (h1:1<=size) (h8:size<=8) (hb:b.length<2 ^ 40):xW b (size:Int) n=some (sQ b size n):=by
 have:zM (jN n) FU (b,(size:Int) - 1)=some (sQ b size n):=by
  refine yJ size (λi=>(b++beN n size i,(size:Int) - 1 - (i:Int))) (by simp [beN]) (λi hi=>?_) ?_ (xT (by omega))
  ·unfold jN;refine ct (by simp;omega) ?_;refine ltk ?_;rw [yP (n:=8*((size:Int) - 1 - (i:Int))) (by omega) (by omega),bP (n:=8*((size:Int) - 1 - (i:Int))) (by omega) (by omega)];refine bd (yI (by simp [xE];omega)) ?_;rw [yP (by omega) (by omega),Qa,<- zL7,show (size:Int) - 1 - (i:Int) - 1=(size:Int) - 1 - ((i+1:Nat):Int) by omega]
  ·unfold jN;refine cf (by simp;omega) rfl
 unfold xW;refine bd (a:=b) (by rw [yI (by simp;omega)];simp) ?_;refine bd (a:=false) (cf (by simp;omega) (congrArg some (by simp;omega))) ?_;rw [yP (by omega) (by omega)];exact bd this rfl
def zBg (b x:By):By:=sQ b 2 ((x.take 65535).length:Int)++x.take 65535
theorem zAh (b x:By):(zBg b x).length<=b.length+65537:=by simp [zBg,vQ];omega
theorem zGq (b x:By) (hb:b.length<2 ^ 39):jV b x=some (zBg b x):=by
 unfold jV;refine bd (a:=x.take 65535) ?_ ?_
 ·by_cases h:65535<x.length
  ·refine ct (by simp;omega) ?_;exact bd (a:=x.take 65535) (by rw [show (0:Int)=((0:Nat):Int) from rfl,show (65535:Int)=((65535:Nat):Int) from rfl,tH (by omega) (by omega)];simp) rfl
  ·refine cf (by simp;omega) ?_;rw [Q5 (by omega)]
 ·refine bd (zCt b 2 _ (by omega) (by omega) (by omega)) ?_;refine bd (yI (by rw [vQ];simp;omega)) ?_;rfl
theorem dX (b x:By) (hb:b.length<2 ^ 39):wI b x=some (zBg b x):=by
 unfold wI;refine bd (a:=x.take 65535) ?_ ?_
 ·by_cases h:65535<x.length
  ·rw [if_pos (by omega),show (0:Int)=((0:Nat):Int) from rfl,show (65535:Int)=((65535:Nat):Int) from rfl,tH (by omega) (by omega)];simp
  ·rw [if_neg (by omega),show (0:Int)=((0:Nat):Int) from rfl,tH (by omega) (by omega)];simp;rw [Q5 (by omega)]
 ·refine bd (pK b 2 _ (by omega) (by omega) (by omega)) ?_;refine bd (yI (by rw [vQ];simp;omega)) ?_;rfl
theorem zDl (a b:By) (ha:a.length<2 ^ 40):jY a b=some (a==b):=by
 unfold jY;by_cases h:a.length=b.length
 ·refine cf (by simp;omega) ?_;have:∃ r,zM (nV a b) FU 0=some r/\(match r with | .inl r=>r=false/\a≠b | .inr _=>a=b):=by
   refine zIh (λs=>∃ k:Nat,s=(k:Int)/\k<=a.length/\a.take k=b.take k) (λs=>a.length - s.toNat) _ (λs hs=>?_) FU 0 ⟨0,rfl,by omega,by simp⟩ (xT (by omega));obtain ⟨k,rfl,hk,he⟩:=hs;by_cases hk2:k<a.length
   ·by_cases hv:a[k]=b[k]
    ·refine .inl ⟨((k+1:Nat):Int),?_,⟨k+1,rfl,by omega,?_⟩,by simp;omega⟩
     ·unfold nV;refine ct (dlt hk2) ?_;refine bd (yQ hk2) ?_;refine bd (yQ (h▸hk2)) ?_;refine cf (by rw [hv];simp) ?_;rw [wO (by omega)]
     ·rw [Q7,Q7,he];simp [hk2,hv,h▸hk2]
    ·refine .inr ⟨.inl false,?_,rfl,λe=>hv (by subst e;rfl)⟩;unfold nV;refine ct (dlt hk2) ?_;refine bd (yQ hk2) ?_;refine bd (yQ (h▸hk2)) ?_;refine ct ?_ rfl;simp only [bne_iff_ne,ne_eq];intro e;exact hv (UInt8.toNat_inj.mp (by omega))
   ·refine .inr ⟨.inr (),?_,?_⟩
    ·unfold nV;exact cf (dge (by omega)) rfl
    ·have e1:a.take k=a:=Q5 (by omega);have e2:b.take k=b:=Q5 (by omega);rw [e1,e2] at he;exact he
  obtain ⟨r,h1,h2⟩:=this;refine bd h1 ?_;cases r with
  | inl r=>obtain ⟨rfl,h3⟩:=h2;simp [h3]
  | inr u=>simp [h2]
 ·refine ct (by simp;omega) ?_;have:a≠b:=λe=>h (by rw [e]);simp [this]
theorem zKu (a b:By):kK a b=some (a==b):=rfl
theorem zFm (b:By) (h:b.length<2 ^ 40):sM b=some b:=by
 unfold sM;refine bd (yI (by simp;omega)) ?_;simp
set_option maxRecDepth 100000
structure RS where
 b:By
 at':Nat
 e:Int
def RS.W (r:RS):zE:=⟨r.b,(r.at':Int),r.e⟩
def RS.Ok (r:RS):Prop:=r.at'<=r.b.length/\r.b.length<2 ^ 40
def RS.err (r:RS) (e:Int):RS:=⟨r.b,r.at',e⟩
def RS.to (r:RS) (n:Nat):RS:=⟨r.b,r.at'+n,r.e⟩
def RS.left (r:RS):Nat:=r.b.length - r.at'
def RS.get (r:RS) (n:Nat):By:=(r.b.drop r.at').take n
theorem RS.get_len (r:RS) (n:Nat) (h:n<=r.left):(r.get n).length=n:=by simp [RS.get,RS.left] at *;omega
def bG (r:RS) (n:Nat):By×RS:=if r.e≠0 then ([],r) else if r.left<n then ([],r.err 2) else (r.get n,r.to n)
def beV (l:By):Nat->Int
 | 0=>0
 | k+1=>ior .u64 (mS .u64 (beV l k) 8) (Q4.wrap ((l.getD k 0).toNat:Int))
def wW (r:RS) (n:Nat):Int×RS:=
 if r.e≠0 then (0,r) else if r.left<n then (0,r.err 2) else if 9223372036854775808<=beV (r.get n) n then (0,r.err 4) else (Q1.wrap (beV (r.get n) n),r.to n)
def v2 (r:RS):Nat:=(r.b.getD r.at' 0).toNat*256+(r.b.getD (r.at'+1) 0).toNat
def vC (r:RS) (most:Nat):By×RS:=
 if r.e≠0 then ([],r) else if r.left<2 then ([],r.err 2) else if most<v2 r then ([],r.err 4) else if r.left<2+v2 r then ([],r.err 2) else ((r.b.drop (r.at'+2)).take (v2 r),r.to (2+v2 r))
def zBf (r:RS):Int:=if r.e=0/\0<r.left then 3 else r.e
theorem zQ0 (r:RS) (n:Nat) (h:r.Ok):(bG r n).2.Ok:=by
 unfold bG;split
 ·exact h
 split
 ·exact h
 ·obtain ⟨h1,h2⟩:=h;exact ⟨by simp only [RS.to,RS.left] at *;omega,h2⟩
theorem dG (r:RS) (n:Nat) (h:r.Ok):(wW r n).2.Ok:=by
 unfold wW;split
 ·exact h
 split
 ·exact h
 split
 ·exact h
 ·obtain ⟨h1,h2⟩:=h;exact ⟨by simp only [RS.to,RS.left] at *;omega,h2⟩
theorem zAn (r:RS) (n:Nat) (h:r.Ok):(vC r n).2.Ok:=by
 unfold vC;split
 ·exact h
 split
 ·exact h
 split
 ·exact h
 split
 ·exact h
 ·obtain ⟨h1,h2⟩:=h;exact ⟨by simp only [RS.to,RS.left] at *;omega,h2⟩
theorem zJ2 (r:RS) (h:r.Ok):Q1.wrap ((r.b.length:Int) - (r.at':Int))=(r.left:Int):=by
 obtain ⟨h1,h2⟩:=h;rw [yP (by omega) (by omega)];simp only [RS.left];omega
theorem zJ5 (r:zE) (a n:Nat) (h1:a<=r.b_.length) (h2:r.b_.length<2 ^ 40) (hn:r.b_.length - a<n):xF r (a:Int) (n:Int)=some ([],2,r):=by
 unfold xF;refine ct ?_ rfl;rw [yP (by omega) (by omega)];simp;omega
theorem zIl (r:zE) (a n:Nat) (h2:r.b_.length<2 ^ 40) (hn:a+n<=r.b_.length):xF r (a:Int) (n:Int)=some ((r.b_.drop a).take n,0,r):=by
 unfold xF;refine cf ?_ ?_
 ·rw [yP (by omega) (by omega)];simp;omega
 ·refine bd (a:=(r.b_.drop a).take n) ?_ rfl;rw [yP (by omega) (by omega),show (a:Int)+(n:Int)=((a+n:Nat):Int) by omega,tH (by omega) (by omega),Nat.add_sub_cancel_left]
theorem zI7 (r:RS) (n:Nat) (h:r.Ok) (hn:r.left<n):xF r.W (r.at':Int) (n:Int)=some ([],2,r.W):=zJ5 r.W r.at' n h.1 h.2 hn
theorem zHa (r:RS) (n:Nat) (h:r.Ok) (hn:n<=r.left):xF r.W (r.at':Int) (n:Int)=some (r.get n,0,r.W):=
 zIl r.W r.at' n h.2 (by have:=h.1;simp only [RS.left] at hn;show r.at'+n<=r.b.length;omega)
theorem b0 (h:e=0):(e != 0)=false:=by subst h;rfl
theorem b1 (h:e≠0):(e != 0)=true:=by simp [h]
theorem c0 (h:e=0):(e==0)=true:=by subst h;rfl
theorem c1 (h:e≠0):(e==0)=false:=by simp [h]
theorem nneg (n:Nat):decide ((n:Int)<0)=false:=by simp
theorem zEk (r:RS) (n:Nat) (h:r.Ok):vM r.W (n:Int)=some ((bG r n).1,(bG r n).2.W):=by
 unfold vM;by_cases he:r.e=0
 ·refine cf (b0 he) ?_;refine cf (nneg n) ?_;by_cases hn:r.left<n
  ·refine bd (zI7 r n h hn) ?_;refine ct rfl ?_;rw [show bG r n=([],r.err 2) by simp [bG,he,hn]];rfl
  ·refine bd (zHa r n h (by omega)) ?_;refine cf rfl ?_;have hl:=RS.get_len r n (by omega);obtain ⟨h1,h2⟩:=h;refine bd (a:=r.get n) (by rw [yI (by simp;simp only [RS.left] at hn;omega)];simp) ?_;show some (r.get n,(⟨r.b,Q1.wrap ((r.at':Int)+(n:Int)),r.e⟩:zE))=_;have hn':=hn;simp only [RS.left] at hn';rw [yP (by omega) (by omega),show (r.at':Int)+(n:Int)=((r.at'+n:Nat):Int) by omega];rw [show bG r n=(r.get n,r.to n) by simp [bG,he,hn]];rfl
 ·refine ct (b1 he) ?_;rw [show bG r n=([],r) by simp [bG,he]]
theorem yCt (l:By) (hl:l.length<2 ^ 40):zM (sH l) FU (0,0)=some (beV l l.length):=by
 refine yJ l.length (λi=>(beV l i,(i:Int))) rfl (λi hi=>?_) ?_ (xT (by omega))
 ·unfold sH;refine ct (dlt hi) ?_;refine bd (yQ hi) ?_;refine ltk ?_;rw [wO (show i<2 ^ 40 by omega)];simp [beV,hi]
 ·unfold sH;exact cf (dge (Qd _)) rfl
theorem vV (r:RS) (n:Nat) (h:r.Ok) (h1:1<=n) (h8:n<=8):yC r.W (n:Int)=some ((wW r n).1,(wW r n).2.W):=by
 unfold yC;by_cases he:r.e=0
 ·refine cf (b0 he) ?_;refine bd (a:=false) (cf (by simp;omega) (congrArg some (by simp;omega))) ?_;refine cf rfl ?_;by_cases hn:r.left<n
  ·refine bd (zI7 r n h hn) ?_;refine ct rfl ?_;rw [show wW r n=(0,r.err 2) by simp [wW,he,hn]];rfl
  ·refine bd (zHa r n h (by omega)) ?_;refine cf rfl ?_;have hl:=RS.get_len r n (by omega);refine bd (a:=beV (r.get n) n) ((yCt _ (by omega)).trans (by rw [hl])) ?_;by_cases hv:9223372036854775808<=beV (r.get n) n
   ·refine ct (by simp;omega) ?_;rw [show wW r n=(0,r.err 4) by simp [wW,he,hn,hv]];rfl
   ·refine cf (by simp;omega) ?_;obtain ⟨h1,h2⟩:=h;show some (_,(⟨r.b,Q1.wrap ((r.at':Int)+(n:Int)),r.e⟩:zE))=_;have hn':=hn;simp only [RS.left] at hn';rw [yP (n:=(r.at':Int)+(n:Int)) (by omega) (by omega),show (r.at':Int)+(n:Int)=((r.at'+n:Nat):Int) by omega];rw [show wW r n=(Q1.wrap (beV (r.get n) n),r.to n) by simp [wW,he,hn,hv]];rfl
 ·refine ct (b1 he) ?_;rw [show wW r n=(0,r) by simp [wW,he]]
theorem zUh (x y:UInt8):ior .i64 (mS .i64 (Q1.wrap (x.toNat:Int)) 8) (Q1.wrap (y.toNat:Int))=((x.toNat*256+y.toNat:Nat):Int):=by
 have hx:=x.toNat_lt;have hy:=y.toNat_lt;rw [yP (by omega) (by omega),yP (by omega) (by omega)];have e1:mS .i64 (x.toNat:Int) 8=((x.toNat*256:Nat):Int):=by
  show Q1.wrap ((x.toNat:Int)*256)=_;rw [yP (by omega) (by omega)];omega
 rw [e1];unfold ior;have e2:(Qf Q1.bits ((x.toNat*256:Nat):Int) ||| Qf Q1.bits (y.toNat:Int)).toNat=x.toNat*256+y.toNat:=by
  show (Qf 64 ((x.toNat*256:Nat):Int) ||| Qf 64 (y.toNat:Int)).toNat=_;rw [Qh,Qh,BitVec.toNat_or,Qi,Qi,Qm (by omega),Qm (by omega)];rw [Nat.mul_comm,show (256:Nat)=2 ^ 8 from rfl,<- Qp (by omega)]
 rw [e2,yP (by omega) (by omega)]
theorem ig {l:By} (h:i<l.length):idx l (i:Int)=some (l.getD i 0):=by rw [yQ h];simp [h]
theorem uQ (r:RS) (m:Nat) (h:r.Ok):yS r.W (m:Int)=some ((vC r m).1,(vC r m).2.W):=by
 have hv:v2 r<65536:=by
  have h1:=(r.b.getD r.at' 0).toNat_lt;have h2:=(r.b.getD (r.at'+1) 0).toNat_lt;unfold v2;omega
 unfold yS;by_cases he:r.e=0
 ·refine cf (b0 he) ?_;by_cases hn:r.left<2
  ·refine bd (zI7 r 2 h hn) ?_;refine ct rfl ?_;rw [show vC r m=([],r.err 2) by simp [vC,he,hn]];rfl
  ·refine bd (zHa r 2 h (by omega)) ?_;refine cf rfl ?_;have hl:=RS.get_len r 2 (by omega);have hn':=hn;simp only [RS.left] at hn';refine bd (a:=r.b.getD r.at' 0) ?_ ?_
   ·refine (ig (l:=r.get 2) (i:=0) (by omega)).trans ?_;simp [RS.get]
   refine bd (a:=r.b.getD (r.at'+1) 0) ?_ ?_
   ·refine (ig (l:=r.get 2) (i:=1) (by omega)).trans ?_;simp [RS.get]
   refine ltk ?_;rw [zUh];show (bif decide ((m:Int)<(v2 r:Int)) then _ else _)=_;by_cases hm:m<v2 r
   ·refine ct (dlt hm) ?_;rw [show vC r m=([],r.err 4) by simp [vC,he,hn,hm]];rfl
   ·refine cf (dge (by omega)) ?_;obtain ⟨h1,h2⟩:=h;have hw:Q1.wrap ((r.at':Int)+2)=(((r.at'+2:Nat)):Int):=by rw [yP (by omega) (by omega)];omega
    show ((xF r.W (Q1.wrap ((r.at':Int)+2)) (v2 r:Int)).bind _)=_;rw [hw];by_cases hk:r.left<2+v2 r
    ·refine bd (a:=([],2,r.W)) ?_ ?_
     ·exact zJ5 r.W (r.at'+2) (v2 r) (by show r.at'+2<=r.b.length;omega) h2 (by simp only [RS.left] at hk;show r.b.length - (r.at'+2)<v2 r;omega)
     ·refine ct rfl ?_;rw [show vC r m=([],r.err 2) by simp [vC,he,hn,hm,hk]];rfl
    ·have hk':=hk;simp only [RS.left] at hk';refine bd (zIl r.W (r.at'+2) (v2 r) h2 (by show r.at'+2+v2 r<=r.b.length;omega)) ?_;refine cf rfl ?_;refine ltk ?_;refine bd (a:=(r.b.drop (r.at'+2)).take (v2 r)) ?_ ?_
     ·refine (yI (by simp;omega)).trans ?_;rfl
     ·show some (_,(⟨r.b,Q1.wrap ((r.at':Int)+Q1.wrap (2+(v2 r:Int))),r.e⟩:zE))=_;rw [yP (n:=2+(v2 r:Int)) (by omega) (by omega),yP (by omega) (by omega),show (r.at':Int)+(2+(v2 r:Int))=((r.at'+(2+v2 r):Nat):Int) by omega];rw [show vC r m=((r.b.drop (r.at'+2)).take (v2 r),r.to (2+v2 r)) by simp [vC,he,hn,hm,hk]];rfl
 ·refine ct (b1 he) ?_;rw [show vC r m=([],r) by simp [vC,he]]
theorem sV (r:RS) (h:r.Ok):wE r.W=some (zBf r,r.W):=by
 unfold wE;by_cases he:r.e=0
 ·refine bd (a:=(decide (0<(r.left:Int)),r.b,(r.at':Int),r.e)) (ct (c0 he) ?_) ?_
  ·show some (decide (0<Q1.wrap ((r.b.length:Int) - (r.at':Int))),r.b,(r.at':Int),r.e)=_;rw [zJ2 r h]
  ·by_cases hl:0<r.left
   ·refine ct (by simp;omega) ?_;simp only [zBf,he,hl];rw [<- he];rfl
   ·refine cf (by simp;omega) ?_;simp only [zBf,he,hl];rw [<- he];simp [RS.W]
 ·refine bd (a:=(false,r.b,(r.at':Int),r.e)) (cf (c1 he) rfl) ?_;refine cf rfl ?_;simp only [zBf,he];simp [RS.W]
end Go.Proofs.TT
namespace Go.Sw
open Go
variable {a b:Nat}{i:Int}{j:Nat}{α β:Type}{P:α->Prop}{f:α->Option β}{l:List α}{o:Option α}
def Def (o:Option α) (P:α->Prop):Prop:=∃ a,o=some a/\P a
theorem Def.bd {Q:β->Prop} (h:Def o P) (k:∀ a,P a->Def (f a) Q):Def (o.bind f) Q:=by
 obtain ⟨a,rfl,h⟩:=h;exact k a h
theorem Def.s {a:α} {Q:α->Prop} (h:Q a):Def (some a) Q:=⟨a,rfl,h⟩
theorem Def.of {a:α} {Q:α->Prop} (e:o=some a) (h:Q a):Def o Q:=⟨a,e,h⟩
theorem Def.c {b:Bool} {x y:Option α} {Q:α->Prop} (h:b=true->Def x Q) (k:b=false->Def y Q):Def (bif b then x else y) Q:=by
 cases b
 ·exact k rfl
 ·exact h rfl
theorem Def.ck {b:Bool} (h:b=true):Def (Go.Sw.ck b) (λ_=>True):=⟨(),ckT h,trivial⟩
theorem Def.lt {e:α} {Q:β->Prop} (k:Def (f e) Q):Def (Go.Sw.lt e f) Q:=k
theorem Def.mono {Q:α->Prop} (h:Def o P) (k:∀ a,P a->Q a):Def o Q:=by
 obtain ⟨a,e,h⟩:=h;exact ⟨a,e,k a h⟩
theorem Def.get (d:α) (h:Def o P):o=some (o.getD d)/\P (o.getD d):=by
 obtain ⟨a,rfl,h⟩:=h;exact ⟨rfl,h⟩
theorem Def.loop {X Y:Type} {step:X->Option (X ⊕ Y)} {s:X} {Q:Y->Prop} (I:X->Prop) (m:X->Nat)
  (h:∀ s,I s->Def (step s) (λr=>match r with | .inl s'=>I s'/\m s'<m s | .inr r=>Q r)) (h0:I s) (hm:m s<2 ^ 64):Def (zM step FU s) Q:=by
 refine zIh I m Q (λs hs=>?_) FU s h0 (xT hm);obtain ⟨r,e,hr⟩:=h s hs;cases r with
 | inl s'=>exact .inl ⟨s',e,hr.1,hr.2⟩
 | inr r=>exact .inr ⟨r,e,hr⟩
theorem Def.app {m:List α} (h:(l.length+m.length)*b<=140737488355328):Def (yM b l m) (λr=>r=l++m):=⟨_,yI h,rfl⟩
theorem Def.idx (h0:0<=i) (h:i<l.length):Def (Go.Sw.idx l i) (λr=>r∈l):=by
 obtain ⟨n,rfl⟩:=Qb h0;exact ⟨_,yQ (by omega),Q8 _⟩
theorem Def.sub {a b:Int} (h0:0<=a) (h1:a<=b) (h2:b<=l.length):Def (Go.Sw.sub l a b) (λr=>r=(l.drop a.toNat).take (b.toNat - a.toNat)):=by
 obtain ⟨n,rfl⟩:=Qb h0;obtain ⟨m,rfl⟩:=Qb (by omega:0<=b);exact ⟨_,tH (by omega) (by omega),rfl⟩
theorem Def.ixN {n:Nat} (h0:0<=i) (h:i<n):Def (Go.Sw.ixN n i) (λj=>j=i.toNat/\j<n):=by
 refine ⟨i.toNat,?_,rfl,by omega⟩;simp [Go.Sw.ixN,h0,h]
theorem Def.upd {u:α} (h:j<l.length):Def (uX l j u) (λr=>r=l.set j u):=⟨_,by simp [uX,h],rfl⟩
theorem Def.at (h:j<l.length):Def (l[j]?) (λr=>r∈l):=⟨l[j],by simp [h],Q8 _⟩
theorem Def.mkN {n:Int} (h0:0<=n) (h:n<2 ^ 40):Def (mkN 1 n) (λj=>j=n.toNat):=⟨n.toNat,by unfold Go.Sw.mkN;rw [if_pos ⟨h0,by omega⟩],rfl⟩
theorem beqT (h:a=b):Nat.beq a b=true:=by subst h;exact Nat.beq_refl a
theorem zGw (h:a<=b):Nat.ble a b=true:=Nat.ble_eq.mpr h
end Go.Sw
namespace Go.Proofs.TT
open Go Go.Sw
set_option maxRecDepth 100000
end Go.Proofs.TT
namespace Go.Sw
open Go
theorem aT {X Y:Type} {s1 s2:X->Option (X ⊕ Y)} (I:X->Prop) (h:∀ s,I s->s1 s=s2 s/\Def (s2 s) (λr=>∀ s',r=.inl s'->I s')):∀ (n:Nat) (s:X),I s->zM s1 n s=zM s2 n s
 | 0,_,_=>rfl
 | n+1,s,hs=>by
  obtain ⟨e,r,hr,hI⟩:=h s hs;simp only [zM];rw [e,hr];cases r with
  | inl s'=>exact aT I h n s' (hI s' rfl)
  | inr y=>rfl
end Go.Sw
namespace Go.Proofs.TT
open Go Go.Sw
set_option maxRecDepth 100000
variable {a:Nat}{active:Int}{b:Bool}{bk:List By}{c:Bool}{e:zB}{i j k m n:Nat}{p:Prop}{r:RS}{rest x:By}{α:Type}{l:List α}
theorem dT [Decidable p] (h:decide p=true):p:=by simpa using h
theorem dF [Decidable p] (h:decide p=false):¬ p:=by simpa using h
theorem Def.at' (h:i<l.length):Def (idx l (i:Int)) (λr=>r=l[i]):=⟨_,yQ h,rfl⟩
theorem jZ {R:Type} (l:List α) (step:Int->Option (Int ⊕ (R ⊕ Unit))) (G:Nat->Prop) (B:R->Prop) (hl:l.length<2 ^ 40)
  (h:∀ i,i<l.length->Def (step (i:Int)) (λr=>match r with | .inl j=>j=((i+1:Nat):Int)/\G i | .inr (.inl b)=>B b | .inr (.inr _)=>False))
  (he:step (l.length:Int)=some (.inr (.inr ()))):Def (zM step FU 0) (λr=>match r with | .inl b=>B b | .inr _=>∀ i,i<l.length->G i):=by
 refine Def.loop (λs=>∃ i:Nat,s=(i:Int)/\i<=l.length/\∀ k,k<i->G k) (λs=>l.length - s.toNat) (λs hs=>?_) ⟨0,rfl,by omega,λk hk=>by omega⟩ (by simp;omega);obtain ⟨i,rfl,hi,hg⟩:=hs;by_cases h2:i<l.length
 ·refine (h i h2).mono λr hr=>?_
  match r,hr with
  | .inl j,hr=>
   refine ⟨⟨i+1,hr.1,h2,λk hk=>?_⟩,by rw [hr.1];simp only [Q6];omega⟩;by_cases hk2:k<i
   ·exact hg k hk2
   ·have:k=i:=by omega
    subst this;exact hr.2
  | .inr (.inl b),hr=>exact hr
  | .inr (.inr u),hr=>exact hr.elim
 ·have:i=l.length:=by omega
  subst this;exact Def.of he hg
theorem two {X Y:Type} {step:X->Option (X ⊕ Y)} {a b c:X} {r:Y} (h0:step a=some (.inl b)) (h1:step b=some (.inl c)) (h2:step c=some (.inr r)):zM step FU a=some r:=by
 refine yJ 2 (λi=>match i with | 0=>a | 1=>b | _=>c) rfl (λi hi=>?_) h2 (xT (by decide));have:i=0∨i=1:=by omega
 rcases this with rfl | rfl
 ·exact h0
 ·exact h1
theorem zWr (x n m:Int) (h:vS .u64 (Q4.wrap n) 31=32 - m) (hn:n=32 - m) (h0:0<=m) (h1:m<=32):zQ x n=sP x n:=by
 rw [nS x n m h h0 h1];subst hn;have h2:Q4.wrap (32 - (32 - m))=m:=by rw [Qk];omega
 have h4:decide ((0:Int)<=32 - m)=true:=by simp;omega
 simp only [sP,ck,lt,h2,h4,rr,cond_true,Ql];rw [zK6]
theorem rot1 (x:Int):zQ x 1=sP x 1:=zWr x 1 31 (by decide) (by decide) (by decide) (by decide)
theorem rot5 (x:Int):zQ x 5=sP x 5:=zWr x 5 27 (by decide) (by decide) (by decide) (by decide)
theorem zY6 (x:Int):zQ x 30=sP x 30:=zWr x 30 2 (by decide) (by decide) (by decide) (by decide)
theorem zGk (x n:Int) (h0:0<=n):Def (sP x n) (λ_=>True):=by
 unfold sP;refine Def.bd (Def.ck (by simpa using h0)) (λ_ _=>?_);exact Def.lt (Def.s trivial)
theorem w80 {w:List Int} (hw:w.length=80) (hj:j<80):Def (w[j]?) (λ_=>True):=(Def.at (by omega)).mono λ_ _=>trivial
theorem ixw (hn:j<n) (z:Int) (hz:z=(j:Int)):Def (Go.Sw.ixN n z) (λr=>r=j):=by
 subst hz;exact (Def.ixN (by omega) (by omega)).mono λa h=>by rw [h.1];simp
theorem s1_s (x:By) (at' i:Nat) (w:List Int) (h:at'+64<=x.length) (hb:x.length<2 ^ 42) (hi:i<=80) (hw:w.length=80) :
  Def (tY x (at':Int) ((i:Int),w)) (λr=>match r with | .inl s=>∃ w',s=(((i+1:Nat):Int),w')/\i<80/\w'.length=80 | .inr w=>w.length=80):=by
 unfold tY;refine Def.c (λh=>?_) (λ_=>Def.s hw);have hi2:i<80:=by have:=dT h;omega
 have up:∀ v,Def ((Go.Sw.ixN 80 (i:Int)).bind λj=>(uX w j v).bind λw=>some w) (λw'=>w'.length=80):=λv=>by
  refine Def.bd (ixw hi2 _ rfl) (λj hj=>?_);subst hj;exact Def.bd (Def.upd (by omega)) (λr hr=>Def.s (by rw [hr];simpa using hw))
 refine Def.bd (P:=λw'=>w'.length=80) ?_ (λw' hw'=>Def.s ⟨w',by rw [wO (by omega)],hi2,hw'⟩);refine Def.c (λh16=>?_) (λh16=>?_)
 ·have h16':i<16:=by have:=dT h16;omega
  rw [yP (by omega) (by omega)];refine Def.bd (Def.sub (by omega) (by omega) (by omega)) (λy hy=>?_);have hyl:y.length=64:=by rw [hy];simp;omega
  exact Def.bd (P:=λ_=>True) (Def.of (zIo y i (by omega) (by omega)) trivial) (λv _=>up v)
 ·have h16':16<=i:=by have:=dF h16;omega
  have wr:∀ k:Nat,k<=16->Q1.wrap ((i:Int) - (k:Int))=((i - k:Nat):Int):=λk hk=>by rw [yP (by omega) (by omega)];omega
  refine Def.bd (ixw (show i - 3<80 by omega) _ (wr 3 (by omega))) (λj hj=>?_);refine Def.bd (w80 hw (by omega)) (λ_ _=>?_);refine Def.bd (ixw (show i - 8<80 by omega) _ (wr 8 (by omega))) (λj hj=>?_);refine Def.bd (w80 hw (by omega)) (λ_ _=>?_);refine Def.bd (ixw (show i - 14<80 by omega) _ (wr 14 (by omega))) (λj hj=>?_);refine Def.bd (w80 hw (by omega)) (λ_ _=>?_);refine Def.bd (ixw (show i - 16<80 by omega) _ (wr 16 (by omega))) (λj hj=>?_);refine Def.bd (w80 hw (by omega)) (λ_ _=>?_);refine Def.lt ?_;exact Def.bd (zGk _ _ (by decide)) (λv _=>up v)
theorem s1_e (x:By) (at' i:Nat) (w:List Int) (h:at'+64<=x.length) (hb:x.length<2 ^ 42):uF (sU x at') ((i:Int),w)=tY x (at':Int) ((i:Int),w):=by
 unfold uF tY;have hs:sub x (at':Int) (Q1.wrap ((at':Int)+64))=some (sU x at'):=by
  rw [yP (by omega) (by omega),show (at':Int)+64=((at'+64:Nat):Int) by omega,tH (by omega) (by omega)];simp [sU]
 simp only [rot1,hs,zKt,Ql]
theorem yDb (x:By) (at':Nat) (h:at'+64<=x.length) (hb:x.length<2 ^ 42) :
  Def (zM (tY x (at':Int)) FU (0,Q3 80 0)) (λw=>w.length=80/\zM (uF (sU x at')) FU (0,Q3 80 0)=some w):=by
 have e:zM (uF (sU x at')) FU (0,Q3 80 0)=zM (tY x (at':Int)) FU (0,Q3 80 0):=by
  refine aT (λs=>∃ i:Nat,s.1=(i:Int)/\i<=80/\s.2.length=80) (λs hs=>?_) _ _ ⟨0,rfl,by omega,by simp⟩;obtain ⟨i',w⟩:=s;obtain ⟨i,h1,hi,hw⟩:=hs;have h1:i'=(i:Int):=h1;subst h1;refine ⟨s1_e x at' i w h hb,(s1_s x at' i w h hb hi hw).mono λr hr s' hs'=>?_⟩;subst hs';obtain ⟨w',rfl,h2,h3⟩:=hr;exact ⟨i+1,rfl,by omega,h3⟩
 rw [e];obtain ⟨w,h1,h2⟩:Def (zM (tY x (at':Int)) FU (0,Q3 80 0)) (λw=>w.length=80):=by
  refine Def.loop (λs=>∃ i:Nat,s.1=(i:Int)/\i<=80/\s.2.length=80) (λs=>80 - s.1.toNat) (λs hs=>?_) ⟨0,rfl,by omega,by simp⟩ (by simp);obtain ⟨i',w⟩:=s;obtain ⟨i,h1,hi,hw⟩:=hs;have h1:i'=(i:Int):=h1;subst h1;refine (s1_s x at' i w h hb hi hw).mono λr hr=>?_;cases r with
  | inl s'=>
   obtain ⟨w',rfl,h2,h3⟩:=hr;exact ⟨⟨i+1,rfl,by omega,h3⟩,by simp only [Q6];omega⟩
  | inr w=>exact hr
 exact ⟨w,h1,h2,h1⟩
theorem r1_s (w:List Int) (hw:w.length=80) (a b c d e:Int) (i:Nat) (hi:i<=80) :
  Def (tU w (a,b,c,d,e,(i:Int))) (λr=>match r with | .inl s=>s.2.2.2.2.2=((i+1:Nat):Int)/\i<80 | .inr _=>True):=by
 unfold tU;refine Def.c (λh=>?_) (λ_=>Def.s trivial);have hi2:i<80:=by have:=dT h;omega
 refine Def.bd (P:=λ_=>True) ?_ (λx _=>?_)
 ·exact Def.c (λ_=>Def.lt (Def.s trivial)) (λ_=>Def.c (λ_=>Def.s trivial) (λ_=>Def.c (λ_=>Def.lt (Def.s trivial)) (λ_=>Def.s trivial)))
 obtain ⟨f,k⟩:=x;refine Def.bd (zGk _ _ (by decide)) (λ_ _=>?_);refine Def.lt ?_;refine Def.bd (ixw hi2 _ rfl) (λj hj=>?_);refine Def.bd (w80 hw (by omega)) (λ_ _=>?_);refine Def.lt ?_;refine Def.bd (zGk _ _ (by decide)) (λ_ _=>Def.s ?_);exact ⟨wO (by omega),hi2⟩
theorem r1_e (w:List Int) (a b c d e:Int) (i:Nat) (hi:i<=80):uG w (a,b,c,d,e,(i:Int))=tU w (a,b,c,d,e,(i:Int)):=by
 have hq:Q1.wrap (Int.tdiv (i:Int) 20)=((i / 20:Nat):Int):=by
  rw [show Int.tdiv (i:Int) 20=((i / 20:Nat):Int) from rfl];exact yP (by omega) (by omega)
 unfold uG tU;simp only [rot5,zY6,hq];by_cases h1:i<20
 ·rw [show (((i / 20:Nat):Int)==0)=true by simp;omega,show decide ((i:Int)<20)=true by simp;omega];rfl
 by_cases h2:i<40
 ·rw [show (((i / 20:Nat):Int)==0)=false by simp;omega,show decide ((i:Int)<20)=false by simp;omega,show (((i / 20:Nat):Int)==1)=true by simp;omega,show decide ((i:Int)<40)=true by simp;omega];rfl
 by_cases h3:i<60
 ·rw [show (((i / 20:Nat):Int)==0)=false by simp;omega,show decide ((i:Int)<20)=false by simp;omega,show (((i / 20:Nat):Int)==1)=false by simp;omega,show decide ((i:Int)<40)=false by simp;omega,show (((i / 20:Nat):Int)==2)=true by simp;omega,show decide ((i:Int)<60)=true by simp;omega]
 ·by_cases h4:i<80
  ·rw [show (((i / 20:Nat):Int)==0)=false by simp;omega,show decide ((i:Int)<20)=false by simp;omega,show (((i / 20:Nat):Int)==1)=false by simp;omega,show decide ((i:Int)<40)=false by simp;omega,show (((i / 20:Nat):Int)==2)=false by simp;omega,show decide ((i:Int)<60)=false by simp;omega]
  ·rw [show decide ((i:Int)<80)=false by simp;omega];rfl
theorem yAs (w:List Int) (hw:w.length=80) (a b c d e:Int):Def (zM (tU w) FU (a,b,c,d,e,0)) (λr=>zM (uG w) FU (a,b,c,d,e,0)=some r):=by
 have e1:zM (uG w) FU (a,b,c,d,e,0)=zM (tU w) FU (a,b,c,d,e,0):=by
  refine aT (λs=>∃ i:Nat,s.2.2.2.2.2=(i:Int)/\i<=80) (λs hs=>?_) _ _ ⟨0,rfl,by omega⟩;obtain ⟨a,b,c,d,e,v⟩:=s;obtain ⟨i,h1,hi⟩:=hs;have h1:v=(i:Int):=h1;subst h1;refine ⟨r1_e w a b c d e i hi,(r1_s w hw a b c d e i hi).mono λr hr s' hs'=>?_⟩;subst hs';exact ⟨i+1,hr.1,by have:=hr.2;omega⟩
 rw [e1];obtain ⟨r,h1,_⟩:Def (zM (tU w) FU (a,b,c,d,e,0)) (λ_=>True):=by
  refine Def.loop (λs=>∃ i:Nat,s.2.2.2.2.2=(i:Int)/\i<=80) (λs=>80 - s.2.2.2.2.2.toNat) (λs hs=>?_) ⟨0,rfl,by omega⟩ (by simp);obtain ⟨a,b,c,d,e,v⟩:=s;obtain ⟨i,h1,hi⟩:=hs;have h1:v=(i:Int):=h1;subst h1;refine (r1_s w hw a b c d e i hi).mono λr hr=>?_;cases r with
  | inl s'=>exact ⟨⟨i+1,hr.1,by have:=hr.2;omega⟩,by rw [hr.1];simp only [Q6];have:=hr.2;omega⟩
  | inr r=>trivial
 exact ⟨r,h1,h1⟩
def a5 (s:A5 Int):List Int:=[s.a0,s.a1,s.a2,s.a3,s.a4]
def zSc (h:A5 Int) (b:By):A5 Int:=(uV h b).getD h
theorem blk1 (x:By) (at':Nat) (h:A5 Int) (hx:at'+64<=x.length) (hb:x.length<2 ^ 42) :
  uV h (sU x at')=some (zSc h (sU x at'))/\pW x (a5 h,(at':Int))=some (.inl (a5 (zSc h (sU x at')),((at'+64:Nat):Int))):=by
 obtain ⟨w,hw1,hw2,hw3⟩:=yDb x at' hx hb;obtain ⟨⟨a,b,c,d,e⟩,hr1,hr2⟩:=yAs w hw2 h.a0 h.a1 h.a2 h.a3 h.a4;have e1:uV h (sU x at')=some ⟨Q0.wrap (h.a0+a),Q0.wrap (h.a1+b),Q0.wrap (h.a2+c),Q0.wrap (h.a3+d),Q0.wrap (h.a4+e)⟩:=by
  unfold uV;refine bd hw3 ?_;exact bd hr2 rfl
 have e2:zSc h (sU x at')=⟨Q0.wrap (h.a0+a),Q0.wrap (h.a1+b),Q0.wrap (h.a2+c),Q0.wrap (h.a3+d),Q0.wrap (h.a4+e)⟩:=by
  unfold zSc;rw [e1];rfl
 rw [e2];refine ⟨e1,?_⟩;unfold pW;refine ct (dlt (by omega)) ?_;refine bd hw1 ?_;refine bd (a:=h.a0) rfl ?_;refine bd (a:=h.a1) rfl ?_;refine bd (a:=h.a2) rfl ?_;refine bd (a:=h.a3) rfl ?_;refine bd (a:=h.a4) rfl ?_;refine bd hr1 ?_;refine bd (a:=h.a0) rfl ?_;refine bd (a:=h.a1) rfl ?_;refine bd (a:=h.a2) rfl ?_;refine bd (a:=h.a3) rfl ?_;refine bd (a:=h.a4) rfl ?_;rw [yP (by omega) (by omega),show (at':Int)+64=((at'+64:Nat):Int) by omega];rfl
def zQ3:A5 Int:=⟨1732584193,4023233417,2562383102,271733878,3285377520⟩
def zA4 (x:By):Nat->A5 Int
 | 0=>zQ3
 | i+1=>zSc (zA4 x i) (sU x (64*i))
def st5 (p:By) (h:A5 Int):By×Int×Int×Int×Int×Int:=(p,h.a0,h.a1,h.a2,h.a3,h.a4)
theorem zLw (x:By) (n:Nat) (hx:x.length=64*n) (hl:x.length<2 ^ 42):zM lQ FU (st5 x zQ3)=some ((zA4 x n).a0,(zA4 x n).a1,(zA4 x n).a2,(zA4 x n).a3,(zA4 x n).a4):=by
 refine yJ n (λi=>st5 (x.drop (64*i)) (zA4 x i)) (by simp [zA4]) (λi hi=>?_) ?_ (xT (by omega))
 ·have hd:(x.drop (64*i)).length=x.length - 64*i:=by simp
  unfold lQ st5;refine ct (by simp;omega) ?_;refine bd (a:=sU x (64*i)) (by rw [show (0:Int)=((0:Nat):Int) from rfl,show (64:Int)=((64:Nat):Int) from rfl,tH (by omega) (by omega)];simp [sU]) ?_;refine bd (blk1 x (64*i) (zA4 x i) (by omega) hl).1 ?_;refine bd (a:=x.drop (64*(i+1))) (by rw [show (64:Int)=((64:Nat):Int) from rfl,tH (by omega) (by omega)];rw [Qu,Q5 (by simp;omega)];congr 2) ?_;rfl
 ·have hd:x.drop (64*n)=[]:=Qj (by omega);show lQ (st5 (x.drop (64*n)) (zA4 x n))=_;rw [hd];generalize zA4 x n=S;rfl
theorem zKh (x:By) (n:Nat) (hx:x.length=64*n) (hl:x.length<2 ^ 42):zM (pW x) FU (a5 zQ3,0)=some (a5 (zA4 x n)):=by
 refine yJ n (λi=>(a5 (zA4 x i),((64*i:Nat):Int))) rfl (λi hi=>?_) ?_ (xT (by omega))
 ·exact (blk1 x (64*i) (zA4 x i) (by omega) hl).2
 ·show pW x (a5 (zA4 x n),((64*n:Nat):Int))=_;unfold pW;exact cf (dge (by omega)) rfl
def gX (b:By):By:=(a5 (zA4 (zAa b) ((zAa b).length / 64))).flatMap be4
theorem zLg (b:By):(gX b).length=20:=by unfold gX;rw [zJy];rfl
theorem zSi (b:By) (hb:b.length<2 ^ 40):zAk b=some (gX b):=by
 have hz:zs b.length<64:=by unfold zs;omega
 have h1:=aK b;have h2:=zCl b;unfold zAk;refine bd (zF2 b hb) ?_;refine bd (zKh (zAa b) ((zAa b).length / 64) (by omega) (by omega)) ?_;exact bd (zL4 _ (by simp [a5])) rfl
theorem zSu (b:By) (hb:b.length<2 ^ 40):xQ 0 b=some (gX b):=by
 have hz:zs b.length<64:=by unfold zs;omega
 have h1:=aK b;have h2:=zCl b;unfold xQ;refine ct rfl ?_;refine bd (zGc b hb) ?_;refine bd (zLw (zAa b) ((zAa b).length / 64) (by omega) (by omega)) ?_;exact bd (zIf _ (by simp)) rfl
theorem zP5 (h:k<l.length):l.drop k=l[k] :: l.drop (k+1):=List.drop_eq_getElem_cons h
theorem zY7 (k:IntKind) (n j:Nat) (h:j<=k.bits):wR k (n:Int) (j:Int)=((n / 2 ^ j:Nat):Int):=by
 unfold wR;rw [Q6,Nat.min_eq_left h,Int.fdiv_eq_ediv_of_nonneg _ (by have:(0:Int)<2 ^ j:=Int.pow_pos (by decide);omega)];rw [Int.natCast_ediv];simp
theorem wb (x:UInt8):Q1.wrap (x.toNat:Int)=(x.toNat:Int):=by
 have:=x.toNat_lt;rw [yP (by omega) (by omega)]
theorem eU (n:Nat):(u8 (n:Int)).toNat=n % 256:=by
 have:((n:Int) % 256).toNat=n % 256:=by omega
 rw [u8,this];simp
theorem zKn {l:List By} (h:i<l.length):idx l (i:Int)=some (l.getD i []):=by rw [yQ h];simp [h]
theorem zQz (r:RS) (n:Nat):(vC r n).2.b=r.b:=by unfold vC;split<;>(try split)<;>(try split)<;>(try split)<;>rfl
theorem zS1 (r:RS) (n:Nat):(vC r n).1.length<=r.b.length:=by
 unfold vC;split
 ·simp
 split
 ·simp
 split
 ·simp
 split
 ·simp
 ·simp;omega
set_option maxRecDepth 100000
structure Rem (r:RS) (l:By):Prop where
 e:r.e=0
 at':r.at'<=r.b.length
 d:r.b.drop r.at'=l
theorem Rem.left {l:By} (h:Rem r l):r.left=l.length:=by
 have:=congrArg Qz h.d;simp at this;exact this
theorem Rem.to (h:Rem r (x++rest)) (hx:x.length=n):Rem (r.to n) rest:=by
 have hl:=h.left;have ha:=h.at';simp only [RS.left,Q2] at hl;refine ⟨h.e,by simp only [RS.to];omega,?_⟩;show r.b.drop (r.at'+n)=rest;rw [<- Qu,h.d,<- hx,List.drop_left]
theorem Rem.raw (h:Rem r (x++rest)) (hx:x.length=n):bG r n=(x,r.to n):=by
 have hl:=h.left;rw [Q2] at hl;unfold bG;rw [if_neg (by simp [h.e]),if_neg (by omega)];have:r.get n=x:=by
  unfold RS.get;rw [h.d,<- hx,Qv]
 rw [this]
theorem Rem.uint (h:Rem r (x++rest)) (hx:x.length=n) (hv:¬ 9223372036854775808<=beV x n):wW r n=(Q1.wrap (beV x n),r.to n):=by
 have hl:=h.left;rw [Q2] at hl;unfold wW;have:r.get n=x:=by
  unfold RS.get;rw [h.d,<- hx,Qv]
 rw [if_neg (by simp [h.e]),if_neg (by omega),this,if_neg hv]
theorem Rem.blob {a b:UInt8} (h:Rem r ([a,b]++(x++rest))) (hx:x.length=a.toNat*256+b.toNat) (hm:x.length<=m):vC r m=(x,r.to (2+x.length))/\Rem (r.to (2+x.length)) rest:=by
 have hl:=h.left;have ha:=h.at';simp only [Q2,Qe,Qs] at hl;have hd:=h.d;have e0:r.b.getD r.at' 0=a:=by
  have:=congrArg (λl=>l.getD 0 0) hd;simpa using this
 have e1:r.b.getD (r.at'+1) 0=b:=by
  have:=congrArg (λl=>l.getD 1 0) hd;simpa using this
 have ev:v2 r=x.length:=by unfold v2;rw [e0,e1,hx]
 have h2:Rem (r.to 2) (x++rest):=Rem.to (x:=[a,b]) h rfl;have hd2:r.b.drop (r.at'+2)=x++rest:=h2.d;constructor
 ·unfold vC;rw [if_neg (by simp [h.e]),if_neg (by omega),ev,if_neg (by omega),if_neg (by omega),hd2,Qv]
 ·have:=Rem.to h2 rfl;have e:(r.to 2).to x.length=r.to (2+x.length):=by simp [RS.to,Nat.add_assoc]
  rw [<- e];exact this
theorem Rem.uintV {v:Int} (h:Rem r (x++rest)) (hx:x.length=n) (hv:beV x n=v) (h0:0<=v) (h1:v<9223372036854775808):wW r n=(v,r.to n):=by
 rw [h.uint hx (by omega),hv,yP (by omega) (by omega)]
theorem zF7 (a b:Nat) (ha:a<2 ^ 56) (hb:b<256):ior .u64 (mS .u64 (a:Int) 8) (Q4.wrap (b:Int))=((a*256+b:Nat):Int):=by
 rw [bP (by omega) (by omega)];have e1:mS .u64 (a:Int) 8=((a*256:Nat):Int):=by
  show Q4.wrap ((a:Int)*256)=_;rw [bP (by omega) (by omega)];omega
 rw [e1];unfold ior;have e2:(Qf Q4.bits ((a*256:Nat):Int) ||| Qf Q4.bits (b:Int)).toNat=a*256+b:=by
  show (Qf 64 ((a*256:Nat):Int) ||| Qf 64 (b:Int)).toNat=_;rw [Qh,Qh,BitVec.toNat_or,Qi,Qi,Qm (by omega),Qm (by omega)];rw [Nat.mul_comm,show (256:Nat)=2 ^ 8 from rfl,<- Qp (by omega)]
 rw [e2,bP (by omega) (by omega)]
theorem zFc (n size k:Nat) (hn:n<2 ^ 64) (hk:k<size) (h8:size<=8):((beN (n:Int) size size).getD k 0).toNat=n / 256 ^ (size - (k+1)) % 256:=by
 have e:(beN (n:Int) size size).getD k 0=u8 (wR .u64 (Q4.wrap (n:Int)) (8*((size:Int) - 1 - (k:Int)))):=by simp [beN,hk]
 rw [e,bP (by omega) (by omega),show 8*((size:Int) - 1 - (k:Int))=((8*(size - (k+1)):Nat):Int) by omega,zY7 .u64 n _ (by show _<=64;omega),eU,Nat.pow_mul]
theorem zN4 (n size:Nat) (hn:n<2 ^ 64) (h8:size<=8) (hs:n<256 ^ size):∀ k,k<=size->beV (beN (n:Int) size size) k=((n / 256 ^ (size - k):Nat):Int)
 | 0,_=>by
  rw [Nat.sub_zero,Nat.div_eq_of_lt hs];rfl
 | k+1,hk=>by
  unfold beV;rw [zN4 n size hn h8 hs k (by omega),zFc n size k hn (by omega) h8];have e:256 ^ (size - k)=256 ^ (size - (k+1))*256:=by
   rw [<- Nat.pow_succ];congr 1;omega
  rw [e,<- Nat.div_div_eq_div_mul];have hm:n / 256 ^ (size - (k+1))<=n:=Nat.div_le_self _ _;generalize n / 256 ^ (size - (k+1))=m at hm;rw [zF7 _ _ (by omega) (by omega)];congr 1;omega
theorem Rem.uintN (h:Rem r (beN (n:Int) k k++rest)) (h8:k<=8) (hn:n<2 ^ 63) (hs:n<256 ^ k):wW r k=((n:Int),r.to k)/\Rem (r.to k) rest:=by
 have hb:=zN4 n k (by omega) h8 hs k (Qd _);rw [Nat.sub_self,Nat.pow_zero,Nat.div_one] at hb;exact ⟨h.uintV (xE _ _ _) hb (by omega) (by omega),h.to (xE _ _ _)⟩
theorem be2 (n:Nat) (hn:n<65536):∃ a b:UInt8,beN (n:Int) 2 2=[a,b]/\n=a.toNat*256+b.toNat:=by
 have h0:=zFc n 2 0 (by omega) (by omega) (by omega);have h1:=zFc n 2 1 (by omega) (by omega) (by omega);have hl:=xE (n:Int) 2 2
 match hx:beN (n:Int) 2 2,hl with
 | [a,b],_=>
  rw [hx] at h0 h1;refine ⟨a,b,rfl,?_⟩;have h0:a.toNat=n / 256 ^ 1 % 256:=h0;have h1:b.toNat=n / 256 ^ 0 % 256:=h1;rw [h0,h1];simp only [Nat.pow_one,Nat.pow_zero,Nat.div_one];omega
theorem zB9 (b:By) (h:x.length<=65535):zBg b x=b++(beN (x.length:Int) 2 2++x):=by
 unfold zBg sQ;rw [Q5 h,Qa]
theorem Rem.blobN (h:Rem r (beN (x.length:Int) 2 2++(x++rest))) (hx:x.length<=65535) (hm:x.length<=m):vC r m=(x,r.to (2+x.length))/\Rem (r.to (2+x.length)) rest:=by
 obtain ⟨a,b,h1,h2⟩:=be2 x.length (by omega);rw [h1] at h;exact Rem.blob h h2 hm
theorem Rem.fin (h:Rem r []):zBf r=0:=by
 have:=h.left;unfold zBf;rw [if_neg (by rw [this];simp)];exact h.e
theorem Rem.uintI {n:Int} (h:Rem r (beN n k k++rest)) (h8:k<=8) (h0:0<=n) (hn:n<2 ^ 62) (hs:n.toNat<256 ^ k):wW r k=(n,r.to k)/\Rem (r.to k) rest:=by
 obtain ⟨m,rfl⟩:=Qb h0;exact Rem.uintN h h8 (by omega) hs
set_option maxRecDepth 100000
def xY (active a:Int):Bool:=vS .i64 (wR .i64 active (Q4.wrap a)) 1==1
theorem zKd (b:By) (hb:b.length<2 ^ 40):oN 0 b=some (gX b):=by
 unfold oN;refine ct rfl ?_;exact bd (zSi b hb) rfl
theorem zK3 (b:By) (hb:b.length<2 ^ 40):oN 1 b=some (sha b):=by
 unfold oN;refine cf rfl ?_;refine ct rfl ?_;exact bd (zIv b hb) rfl
def dgE (active:Int) (on:Bool) (b:By):List By:=[if (on&&xY active 0)=true then gX b else [],if (on&&xY active 1)=true then sha b else []]
theorem zJi {v:List By} {o:Option By} {d:By} (hv:v.length=2) (ha:a<2) (ho:o=some d) :
  (bif c then (o.bind λs=>(ixN 2 (a:Int)).bind λj=>(uX v j s).bind λw=>some w) else some v)=some (if c=true then v.set a d else v):=by
 cases c
 ·rfl
 ·refine bd ho ?_;refine bd (vY ha) ?_;exact bd (by simp [uX,hv,ha]) rfl
def mkE (reg kind active:Int) (data:By):zB:=⟨reg,kind,dgE active (kind != 5) data,data⟩
theorem zTm (reg kind active:Int) (data:By) (hd:data.length<2 ^ 40):iY reg kind active data=some (mkE reg kind active data):=by
 have on:∀ a:Int,((eM active a).bind λv=>bif v then (some (kind != 5)) else some false:Option Bool)=some ((kind != 5)&&xY active a):=by
  intro a;show (bif xY active a then (some (kind != 5)) else some false:Option Bool)=_;cases xY active a<;>cases (kind != 5)<;>rfl
 unfold iY mkE dgE;refine bd (a:=[if ((kind != 5)&&xY active 0)=true then gX data else [],if ((kind != 5)&&xY active 1)=true then sha data else []]) (two (b:=(1,[if ((kind != 5)&&xY active 0)=true then gX data else [],[]])) (c:=(2,[if ((kind != 5)&&xY active 0)=true then gX data else [],if ((kind != 5)&&xY active 1)=true then sha data else []])) ?_ ?_ rfl) ?_
 ·unfold fX;refine ct rfl ?_;refine bd (a:=[if ((kind != 5)&&xY active 0)=true then gX data else [],[]]) ?_ rfl;refine bd (on 0) ?_;refine (zJi (a:=0) rfl (by omega) (zKd data hd)).trans ?_;cases ((kind != 5)&&xY active 0)<;>rfl
 ·unfold fX;refine ct rfl ?_;refine bd (a:=[if ((kind != 5)&&xY active 0)=true then gX data else [],if ((kind != 5)&&xY active 1)=true then sha data else []]) ?_ rfl;refine bd (on 1) ?_;refine (zJi (a:=1) rfl (by omega) (zK3 data hd)).trans ?_;cases ((kind != 5)&&xY active 1)<;>rfl
 exact bd (ckT rfl) rfl
set_option maxRecDepth 100000
def dC (c:zK):Prop:=c.B.length<=240/\0<=c.At/\c.At<=c.B.length
theorem zTb (b:By) (n:Int) (h0:0<=n) (h:n<=240):Def (zCs b n) dC:=by
 unfold zCs;refine Def.bd (P:=λr=>r.length<=240) ?_ (λr hr=>Def.s ⟨hr,Qt 0,by simp⟩);refine Def.c (λhl=>?_) (λhl=>Def.s ?_)
 ·rw [decide_eq_true_iff] at hl;refine Def.bd (Def.sub (by decide) h0 (by omega)) (λx hx=>Def.s ?_);rw [hx];simp;omega
 ·rw [decide_eq_false_iff_not] at hl;omega
theorem oO (c:zK) (n:Int) (hc:dC c) (hn:0<n):Def (xK c n) (λr=>0<=r.1/\r.1<n/\dC r.2):=by
 obtain ⟨h1,h2,h3⟩:=hc;unfold xK;refine Def.c (λh=>Def.s ⟨Qt 0,hn,h1,h2,h3⟩) (λh=>?_);rw [decide_eq_false_iff_not] at h;rw [yP (n:=c.At+1) (by omega) (by omega),yP (n:=c.At+1 - 1) (by omega) (by omega)];refine Def.bd (Def.idx (by omega) (by omega)) (λv _=>?_);refine Def.bd (Def.ck (by simp;omega)) (λ_ _=>?_);refine Def.s ?_;rw [wb];refine ⟨?_,?_,h1,by simp only;omega,by simp only;omega⟩
 ·rw [Qc (by omega)];exact Int.emod_nonneg _ (by omega)
 ·rw [Qc (by omega)];exact Int.emod_lt_of_pos _ hn
def zHm (l:By):Prop:=1<=l.length/\l.length<=8/\∀ x∈l,32<=x.toNat/\x.toNat<=126
theorem zSy (c:zK) (hc:dC c):Def (oP c) (λr=>zHm r.1/\dC r.2):=by
 unfold oP;refine Def.bd (oO c 6 hc (by decide)) (λr hr=>?_);obtain ⟨v,x⟩:=r;obtain ⟨h0,h1,h2⟩:=hr;simp only at h0 h1 h2;refine Def.bd (Def.ixN h0 (by show _<((6:Nat):Int);omega)) (λj hj=>?_);refine Def.bd (Def.at (by have:=hj.2;simpa using this)) (λl hl=>?_);have hl':zHm l:=by
  simp only [W4,W0,or_false] at hl;rcases hl with rfl | rfl | rfl | rfl | rfl | rfl<;>(unfold zHm;decide)
 refine Def.bd (Def.ck (zGw (by have:=hl'.2.1;omega))) (λ_ _=>?_);exact Def.s ⟨hl',h2⟩
def zDo (L:List By):By:=L.flatMap λl=>l++[10]
theorem dN (L:List By) (h:∀ l∈L,zHm l):(zDo L).length<=9*L.length:=by
 induction L with
 | nil=>simp [zDo]
 | cons a r ih=>
  have h1:=(h a (by simp)).2.1;have h2:=ih (λl hl=>h l (by simp [hl]));simp only [zDo,Q9,Q2,Qe,Qs] at h2 ⊢;omega
theorem zLu (c:zK) (hc:dC c):Def (sZ c) (λr=>(∃ L,r.1=zDo L/\1<=L.length/\L.length<=4/\∀ l∈L,zHm l)/\dC r.2):=by
 unfold sZ;refine Def.bd (oO c 4 hc (by decide)) (λr hr=>?_);obtain ⟨v,x⟩:=r;obtain ⟨h0,h1,h2⟩:=hr;simp only at h0 h1 h2;refine Def.bd (P:=λr=>(∃ L,r.1=zDo L/\1<=L.length/\L.length<=4/\∀ l∈L,zHm l)/\dC ⟨r.2.1,r.2.2⟩) ?_ (λr hr=>Def.s hr);refine Def.loop (λs=>(∃ L,s.1=zDo L/\(L.length:Int)+s.2.1=1+v/\∀ l∈L,zHm l)/\0<=s.2.1/\dC ⟨s.2.2.1,s.2.2.2⟩) (λs=>s.2.1.toNat) (λs hs=>?_) ?_ ?_
 ·obtain ⟨b,n,B,A⟩:=s;obtain ⟨⟨L,g1,g2,g3⟩,g4,g5⟩:=hs;simp only at g1 g2 g4 g5;have hfl:=dN L g3;unfold mU;refine Def.c (λh=>?_) (λh=>Def.s ?_)
  ·rw [decide_eq_true_iff] at h;refine Def.bd (zSy _ g5) (λr hr=>?_);obtain ⟨l,y⟩:=r;obtain ⟨k1,k2⟩:=hr;simp only at k1 k2;refine Def.bd (Def.app (by have:=k1.2.1;rw [g1];omega)) (λb1 hb1=>?_);refine Def.bd (Def.app (by have:=k1.2.1;rw [hb1,g1];simp;omega)) (λb2 hb2=>Def.s ?_);rw [yP (by omega) (by omega)];refine ⟨⟨⟨L++[l],?_,by simp only [Q2,Qe,Qs];omega,?_⟩,by simp only;omega,k2⟩,by simp only;omega⟩
   ·simp only [hb2,hb1,g1,zDo,Qo,Q9,List.flatMap_nil,W3,Qa]
   ·intro z hz;rw [Qn] at hz;rcases hz with hz | hz
    ·exact g3 z hz
    ·simp at hz;subst hz;exact k1
  ·rw [decide_eq_false_iff_not] at h;exact ⟨⟨L,g1,by omega,by omega,g3⟩,g5⟩
 ·refine ⟨⟨[],rfl,?_,by simp⟩,?_,h2⟩
  ·rw [yP (by omega) (by omega)];simp
  ·rw [yP (by omega) (by omega)];simp only;omega
 ·rw [yP (by omega) (by omega)];simp only;omega
theorem zOe {P:List α} {c:α} {t:List α} (h:P.drop i=c :: t):idx P (i:Int)=some c/\P.drop (i+1)=t/\i<P.length:=by
 have hi:i<P.length:=by
  apply Decidable.byContradiction;intro hn;rw [Qj (by omega)] at h;cases h
 rw [zP5 hi] at h;injection h with h1 h2;exact ⟨by rw [yQ hi,h1],h2,hi⟩
theorem zRu (x:zD) (L:List By) (hp:x.Payload=zDo L) (h4:L.length<=4) (hL:∀ l∈L,zHm l):uT x=some L:=by
 have hfl:=dN L hL;have hpl:x.Payload.length<=36:=by rw [hp];omega
 have hd:Def (zM (xO x) FU ([],[],0)) (λr=>r=.inr (L,[])):=by
  refine Def.loop (λs=>∃ i:Nat,s.2.2=(i:Int)/\i<=x.Payload.length/\((s.1=L/\s.2.1=[]/\x.Payload.drop i=[])∨∃ suf rest,L=s.1++(s.2.1++suf) :: rest/\x.Payload.drop i=suf++10 :: zDo rest)) (λs=>x.Payload.length - s.2.2.toNat) (λs hs=>?_) ?_ ?_
  ·obtain ⟨out,line,i'⟩:=s;obtain ⟨i,g1,g2,g3⟩:=hs;simp only at g1 g3;subst g1;unfold xO;rcases g3 with ⟨k1,k2,k3⟩ | ⟨suf,rest,k1,k2⟩
   ·refine Def.c (λh=>?_) (λ_=>Def.s (by rw [k1,k2]));rw [decide_eq_true_iff] at h;have:=congrArg Qz k3;simp at this;omega
   ·have hmem:line++suf∈L:=by rw [k1];simp
    have hln:=hL _ hmem;have hout:out.length<4:=by have:=congrArg Qz k1;simp at this;omega
    cases suf with
    | nil=>
     obtain ⟨j1,j2,j3⟩:=zOe (c:=10) (t:=zDo rest) k2;refine Def.c (λ_=>?_) (λh=>by rw [decide_eq_false_iff_not] at h;omega);refine Def.bd (P:=λr=>r=.inr (out++[line],[])) ?_ (λr hr=>?_)
     ·refine Def.bd (P:=λc=>c=10) (Def.of j1 rfl) (λc hc=>?_);subst hc;refine Def.c (λ_=>?_) (λh=>by simp at h);rw [W3] at hln;refine Def.bd (P:=λb=>b=false) (Def.c (λh=>?_) (λ_=>Def.s ?_)) (λb hb=>?_)
      ·have:=hln.1;simp at h;rw [h] at this;simp at this
      ·simp;omega
      subst hb;refine Def.bd (Def.app (by simp;omega)) (λo ho=>Def.s (by rw [ho]))
     ·subst hr;refine Def.s ?_;rw [wO (by omega)];refine ⟨⟨i+1,rfl,by omega,?_⟩,by simp only [Q6];omega⟩;cases rest with
      | nil=>exact .inl ⟨by simp [k1],rfl,j2⟩
      | cons l r=>
       refine .inr ⟨l,r,?_,?_⟩
       ·simp [k1]
       ·rw [j2];simp [zDo]
    | cons c suf=>
     obtain ⟨j1,j2,j3⟩:=zOe (c:=c) (t:=suf++10 :: zDo rest) k2;have hc:=hln.2.2 c (by simp);refine Def.c (λ_=>?_) (λh=>by rw [decide_eq_false_iff_not] at h;omega);refine Def.bd (P:=λr=>r=.inr (out,line++[c])) ?_ (λr hr=>?_)
     ·refine Def.bd (P:=λd=>d=c) (Def.of j1 rfl) (λd hd=>?_);subst hd;refine Def.c (λh=>by simp at h;omega) (λ_=>?_);refine Def.bd (P:=λb=>b=false) (Def.c (λh=>?_) (λ_=>Def.s ?_)) (λb hb=>?_)
      ·simp at h;omega
      ·simp;omega
      subst hb;have:=hln.2.1;refine Def.bd (Def.app (by simp at this ⊢;omega)) (λo ho=>Def.s (by rw [ho]))
     ·subst hr;refine Def.s ?_;rw [wO (by omega)];refine ⟨⟨i+1,rfl,by omega,.inr ⟨suf,rest,by simp [k1],j2⟩⟩,by simp only [Q6];omega⟩
  ·refine ⟨0,rfl,by omega,?_⟩;cases L with
   | nil=>exact .inl ⟨rfl,rfl,by rw [hp];rfl⟩
   | cons l r=>exact .inr ⟨l,r,by simp,by rw [hp];simp [zDo]⟩
  ·rw [hp];simp;omega
 obtain ⟨r,h1,h2⟩:=hd;subst h2;unfold uT;refine bd h1 ?_;rfl
structure oH (x:zD):Prop where
 r1:1<=x.Role
 r4:x.Role<=4
 v0:0<=x.Version
 v1:x.Version<=1000000
 n:oW x.Name=some true
 nl:x.Name.length<=12
 p:x.Payload.length<=64
 l:x.Role=4->∃ L,uT x=some L/\1<=L.length/\L.length<=4/\∀ l∈L,zHm l
theorem zGz (x:zD) (h:oH x):uA x=some 0:=by
 obtain ⟨h1,h2,h3,h4,h5,h6,h7,h8⟩:=h;unfold uA;refine bd (a:=false) (cf (by simp;omega) (cf (by simp;omega) (cf (by simp;omega) (congrArg some (by simp;omega))))) ?_;refine cf rfl ?_;refine bd h5 ?_;refine cf rfl ?_;refine cf (by simp;omega) ?_;refine bd (a:=false) ?_ rfl;by_cases h:x.Role=4
 ·refine ct (by simp [h]) ?_;obtain ⟨L,l1,l2,_⟩:=h8 h;refine bd l1 ?_;refine congrArg some ?_;rw [beq_eq_false_iff_ne];omega
 ·exact cf (by simp [h]) rfl
theorem zSm:∀ n∈[([97]:By),[103,114,117,98],[108,105,110,117,120],[110,101,116,45,48],[116,119,101,108,118,101,45,98,121,116,101,115]],oW n=some true/\n.length<=12:=by
 intro n hn;simp only [W4,W0,or_false] at hn;rcases hn with rfl | rfl | rfl | rfl | rfl<;>exact ⟨by decide +kernel,by decide⟩
theorem zP1 (c:zK) (role:Int) (hc:dC c) (h1:1<=role) (h4:role<=4):Def (pE c role) (λr=>oH r.1/\r.1.Role=role/\dC r.2):=by
 unfold pE;refine Def.bd (P:=λa=>[a.a0,a.a1,a.a2,a.a3,a.a4]=[([97]:By),[103,114,117,98],[108,105,110,117,120],[110,101,116,45,48],[116,119,101,108,118,101,45,98,121,116,101,115]]) (Def.s rfl) (λa ha=>?_);rw [ha];refine Def.bd (oO c 5 hc (by decide)) (λr hr=>?_);obtain ⟨v1,c1⟩:=r;obtain ⟨p1,p2,p3⟩:=hr;simp only at p1 p2 p3;refine Def.bd (Def.idx p1 (by simpa using p2)) (λnme hn=>?_);obtain ⟨n1,n2⟩:=zSm nme hn;refine Def.bd (oO c1 5 p3 (by decide)) (λr hr=>?_);obtain ⟨v2,c2⟩:=r;obtain ⟨q1,q2,q3⟩:=hr;simp only at q1 q2 q3;refine Def.bd (P:=λr=>dC ⟨r.1,r.2.1⟩/\0<=r.2.2/\r.2.2<=1000000) ?_ (λr hr=>?_)
 ·refine Def.bd (oO c2 9 q3 (by decide)) (λr hr=>?_);obtain ⟨v3,c3⟩:=r;obtain ⟨s1,s2,s3⟩:=hr;simp only at s1 s2 s3;refine Def.c (λ_=>?_) (λ_=>Def.s ⟨s3,by simp only;omega,by simp only;omega⟩);refine Def.bd (oO c3 3 s3 (by decide)) (λr hr=>?_);obtain ⟨v4,c4⟩:=r;obtain ⟨u1,u2,u3⟩:=hr;simp only at u1 u2 u3;refine Def.s ⟨u3,?_,?_⟩<;>(simp only;rw [yP (by omega) (by omega)];omega)
 obtain ⟨B,A,ver⟩:=r;obtain ⟨w1,w2,w3⟩:=hr;simp only at w1 w2 w3;refine Def.c (λh=>?_) (λh=>?_)
 ·rw [beq_iff_eq] at h;refine Def.bd (zLu _ w1) (λr hr=>?_);obtain ⟨pl,c5⟩:=r;obtain ⟨⟨L,l1,l2,l3,l4⟩,z⟩:=hr;simp only at l1 z;have hfl:=dN L l4;refine Def.s ⟨⟨h1,h4,w2,w3,n1,n2,by simp only;rw [l1];omega,λ_=>⟨L,zRu _ L l1 l3 l4,l2,l3,l4⟩⟩,rfl,z⟩
 ·have hr4:role≠4:=by simpa using h
  refine Def.bd (oO _ 7 w1 (by decide)) (λr hr=>?_);obtain ⟨v5,c5⟩:=r;obtain ⟨x1,x2,x3⟩:=hr;simp only at x1 x2 x3;refine Def.bd (Def.mkN x1 (by omega)) (λn hn=>?_);refine Def.bd (P:=λr=>dC ⟨r.1,r.2.1⟩/\r.2.2.length=n) ?_ (λr hr=>?_)
  ·refine Def.loop (λs=>0<=s.1/\s.1<=n/\dC ⟨s.2.1,s.2.2.1⟩/\s.2.2.2.length=n) (λs=>((n:Int) - s.1).toNat) (λs hs=>?_) ⟨Qt 0,by simp,x3,by simp⟩ (by simp;omega);obtain ⟨i,B,A,v⟩:=s;obtain ⟨y1,y2,y3,y4⟩:=hs;simp only at y1 y2 y3 y4;unfold jA;refine Def.c (λh=>?_) (λ_=>Def.s ⟨y3,y4⟩);rw [decide_eq_true_iff] at h;refine Def.bd (oO _ 256 y3 (by decide)) (λr hr=>?_);obtain ⟨v6,c6⟩:=r;obtain ⟨_,_,z3⟩:=hr;refine Def.bd (Def.ixN y1 h) (λj hj=>?_);refine Def.bd (Def.upd (by omega)) (λu hu=>Def.s ?_);rw [yP (by omega) (by omega)];refine ⟨⟨by simp only;omega,by simp only;omega,z3,by simp only [hu,List.length_set];exact y4⟩,by simp only;omega⟩
  obtain ⟨B,A,v⟩:=r;obtain ⟨y1,y2⟩:=hr;simp only at y1 y2;refine Def.bd (Def.ck (beqT y2)) (λ_ _=>?_);refine Def.bd (Def.ck (zGw (by omega))) (λ_ _=>?_);refine Def.s ⟨⟨h1,h4,w2,w3,n1,n2,by simp only;omega,λe=>absurd e hr4⟩,rfl,y1⟩
set_option maxRecDepth 100000
def Bef (a b:zD):Prop:=a.Role<=b.Role/\¬ (a.Role=b.Role/\a.Name=b.Name)
structure hU (l:List zD):Prop where
 len:l.length<=8
 im:∀ x∈l,oH x
 prs:l.Pairwise Bef
 h1:∃ x∈l,x.Role=1
 h3:∃ x∈l,x.Role=3
theorem lO (h:i<l.length) {x:α} (hx:x∈l.take (i+1)):x∈l.take i∨x=l[i]:=by
 rw [Q7,Qn] at hx;rcases hx with hx | hx
 ·exact .inl hx
 ·right;simpa [h] using hx
theorem zSf (l:List zD) (v:zD) (hl:l.length<=20):Def (zM (eC l v) FU (false,0)) (λr=>(r=true->∃ x∈l,x.Role=v.Role)/\(r=false->∀ x∈l,¬ (x.Role=v.Role/\x.Name=v.Name))):=by
 refine Def.loop (λs=>∃ i:Nat,s.2=(i:Int)/\i<=l.length/\(s.1=true->∃ x∈l,x.Role=v.Role)/\(s.1=false->∀ x∈l.take i,¬ (x.Role=v.Role/\x.Name=v.Name))) (λs=>l.length - s.2.toNat) (λs hs=>?_) ⟨0,rfl,by omega,by simp,by simp⟩ (by simp;omega);obtain ⟨ag,i'⟩:=s;obtain ⟨i,g1,g2,g3,g4⟩:=hs;simp only at g1 g3 g4;subst g1;unfold eC;refine Def.c (λh=>?_) (λh=>Def.s ⟨g3,λe=>?_⟩)
 ·have hi:i<l.length:=by have:=dT h;omega
  refine Def.bd (P:=λr=>(r=true->∃ x∈l,x.Role=v.Role)/\(r=false->ag=false/\¬ (l[i].Role=v.Role/\l[i].Name=v.Name))) ?_ (λr hr=>?_)
  ·refine Def.c (λha=>Def.s ⟨λ_=>g3 ha,λe=>by simp at e⟩) (λha=>?_);refine Def.bd (Def.at' hi) (λy hy=>?_);subst hy;refine Def.c (λhr=>?_) (λhr=>Def.s ⟨λe=>by simp at e,λ_=>⟨ha,λe=>by simp [e.1] at hr⟩⟩);rw [beq_iff_eq] at hr;refine Def.bd (Def.at' hi) (λy hy=>?_);subst hy;refine Def.s ⟨λ_=>⟨_,Q8 hi,hr⟩,λe=>⟨ha,λe2=>?_⟩⟩;simp [e2.2] at e
  ·refine Def.s ?_;rw [wO (by omega)];refine ⟨⟨i+1,rfl,by omega,hr.1,λe x hx=>?_⟩,by simp only [Q6];omega⟩;obtain ⟨k1,k2⟩:=hr.2 e;rcases lO hi hx with hx | rfl
   ·exact g4 k1 x hx
   ·exact k2
 ·have:=dF h;rw [Q5 (by omega)] at g4;exact g4 e
structure ChI (role:Int) (l:List zD):Prop where
 im:∀ x∈l,oH x/\x.Role<=role
 prs:l.Pairwise Bef
 h1:2<=role->∃ x∈l,x.Role=1
 h3:4<=role->∃ x∈l,x.Role=3
theorem zR9 (role:Int) (h1:1<=role) (h4:role<=4) (l:List zD) (n:Int) (c:zK) (hc:dC c) (hn:0<=n) (hl:(l.length:Int)+n<=2*role) (hI:ChI role l) (hk:role=1∨role=3->1<=n) :
  Def (zM (eE role) FU (l,n,c.B,c.At)) (λr=>(r.1.length:Int)<=2*role/\ChI role r.1/\(role=1∨role=3->∃ x∈r.1,x.Role=role)/\dC ⟨r.2.1,r.2.2⟩):=by
 refine Def.loop (λs=>0<=s.2.1/\(s.1.length:Int)+s.2.1<=2*role/\ChI role s.1/\(role=1∨role=3->1<=s.2.1∨∃ x∈s.1,x.Role=role)/\dC ⟨s.2.2.1,s.2.2.2⟩) (λs=>s.2.1.toNat) (λs hs=>?_) ⟨hn,hl,hI,λe=>.inl (hk e),hc⟩ (by simp only;omega);obtain ⟨l,n,B,A⟩:=s;obtain ⟨g1,g2,g3,g4,g5⟩:=hs;simp only at g1 g2 g3 g4 g5;unfold eE;refine Def.c (λh=>?_) (λh=>Def.s ?_)
 ·have hn:=dT h;refine Def.bd (P:=λr=>(r.1.length:Int)+(n - 1)<=2*role/\ChI role r.1/\(∃ x∈r.1,x.Role=role)/\dC ⟨r.2.1,r.2.2⟩) ?_ (λr hr=>?_)
  ·refine Def.bd (zP1 _ role g5 h1 h4) (λr hr=>?_);obtain ⟨v,c⟩:=r;obtain ⟨k1,k2,k3⟩:=hr;simp only at k1 k2 k3;refine Def.bd (zSf l v (by omega)) (λag ha=>?_);refine Def.c (λhg=>?_) (λhg=>?_)
   ·have hgf:ag=false:=by simpa using hg
    refine Def.bd (Def.app (by simp;omega)) (λl' hl'=>Def.s ?_);subst hl';refine ⟨by simp;omega,⟨λx hx=>?_,?_,λe=>?_,λe=>?_⟩,⟨v,by simp,k2⟩,k3⟩
    ·rw [Qn] at hx;rcases hx with hx | hx
     ·exact g3.im x hx
     ·simp at hx;subst hx;exact ⟨k1,by omega⟩
    ·rw [List.pairwise_append];refine ⟨g3.prs,by simp,λa ha' b hb=>?_⟩;simp at hb;subst hb;exact ⟨by have:=(g3.im a ha').2;omega,ha.2 hgf a ha'⟩
    ·obtain ⟨x,hx,e2⟩:=g3.h1 e;exact ⟨x,by simp [hx],e2⟩
    ·obtain ⟨x,hx,e2⟩:=g3.h3 e;exact ⟨x,by simp [hx],e2⟩
   ·have hgt:ag=true:=by simpa using hg
    obtain ⟨x,hx,e⟩:=ha.1 hgt;exact Def.s ⟨by simp only;omega,g3,⟨x,hx,by omega⟩,k3⟩
  ·obtain ⟨l',B',A'⟩:=r;obtain ⟨k1,k2,k3,k4⟩:=hr;simp only at k1 k2 k3 k4;refine Def.s ?_;rw [yP (by omega) (by omega)];exact ⟨⟨by simp only;omega,k1,k2,λ_=>.inr k3,k4⟩,by simp only;omega⟩
 ·have hn:=dF h;refine ⟨by simp only;omega,g3,λe=>?_,g5⟩;rcases g4 e with h | h
  ·omega
  ·exact h
theorem zPr (codes:By):Def (cG codes) hU:=by
 unfold cG;refine Def.bd (zTb codes 200 (by decide) (by decide)) (λc hc=>?_);refine Def.bd (P:=hU) ?_ (λr hr=>Def.s hr);refine Def.loop (λs=>1<=s.2.1/\s.2.1<=5/\(s.1.length:Int)<=2*(s.2.1 - 1)/\(∀ x∈s.1,oH x/\x.Role<s.2.1)/\s.1.Pairwise Bef/\(2<=s.2.1->∃ x∈s.1,x.Role=1)/\(4<=s.2.1->∃ x∈s.1,x.Role=3)/\dC ⟨s.2.2.1,s.2.2.2⟩) (λs=>(5 - s.2.1).toNat) (λs hs=>?_) ⟨Qt 1,by simp,by simp,by simp,by simp,by simp,by simp,hc⟩ (by simp);obtain ⟨l,role,B,A⟩:=s;obtain ⟨g1,g2,g3,g4,g5,g6,g7,g8⟩:=hs;simp only at g1 g2 g3 g4 g5 g6 g7 g8;unfold zBk;refine Def.c (λh=>?_) (λh=>Def.s ?_)
 ·have hr:=dT h;refine Def.bd (oO _ 3 g8 (by decide)) (λr hr=>?_);obtain ⟨v,c1⟩:=r;obtain ⟨k1,k2,k3⟩:=hr;simp only at k1 k2 k3;refine Def.bd (P:=λr=>0<=r.1/\r.1<=2/\(role=1∨role=3->1<=r.1)/\dC ⟨r.2.1,r.2.2⟩) ?_ (λr hr=>?_)
  ·refine Def.bd (P:=λb=>b=false->¬ (role=1∨role=3)) ?_ (λb hb=>?_)
   ·refine Def.c (λh=>Def.s (λe=>by simp at e)) (λh=>Def.s (λe=>?_));simp at h e;omega
   refine Def.c (λ_=>?_) (λhf=>Def.s ⟨k1,by simp only;omega,λe=>absurd e (hb hf),k3⟩);refine Def.bd (oO _ 2 k3 (by decide)) (λr hr=>?_);obtain ⟨v2,c2⟩:=r;obtain ⟨j1,j2,j3⟩:=hr;simp only at j1 j2 j3;have e:Q1.wrap (1+v2)=1+v2:=yP (by omega) (by omega);exact Def.s ⟨by simp only [e];omega,by simp only [e];omega,λ_=>by simp only [e];omega,j3⟩
  obtain ⟨n,B1,A1⟩:=r;obtain ⟨j1,j2,j3,j4⟩:=hr;simp only at j1 j2 j3 j4;refine Def.bd (zR9 role g1 hr l n ⟨B1,A1⟩ j4 j1 (by omega) ⟨λx hx=>⟨(g4 x hx).1,by have:=(g4 x hx).2;omega⟩,g5,g6,g7⟩ j3) (λr hr=>?_);obtain ⟨l',B2,A2⟩:=r;obtain ⟨m1,m2,m3,m4⟩:=hr;simp only at m1 m2 m3 m4;refine Def.s ?_;rw [yP (by omega) (by omega)];refine ⟨⟨by simp only;omega,by simp only;omega,by simp only;omega,λx hx=>⟨(m2.im x hx).1,by have:=(m2.im x hx).2;simp only;omega⟩,m2.prs,λe=>?_,λe=>?_,m4⟩,by simp only;omega⟩
  ·simp only at e;by_cases h1:role=1
   ·obtain ⟨x,hx,e2⟩:=m3 (.inl h1);exact ⟨x,hx,by omega⟩
   ·exact m2.h1 (by omega)
  ·simp only at e;by_cases h3:role=3
   ·obtain ⟨x,hx,e2⟩:=m3 (.inr h3);exact ⟨x,hx,by omega⟩
   ·exact m2.h3 (by omega)
 ·have hr:=dF h;exact ⟨by omega,λx hx=>(g4 x hx).1,g5,g6 (by omega),g7 (by omega)⟩
theorem pw {l:List zD} (h:l.Pairwise Bef) (hj:j<l.length) (hij:i<j):Bef (l[i]'(by omega)) l[j]:=List.pairwise_iff_getElem.mp h i j (by omega) hj hij
theorem zNb (l:List zD) (h:hU l):vL l=some 0:=by
 obtain ⟨hlen,him,hp,h1,h3⟩:=h;have hne:l.length≠0:=by
  obtain ⟨x,hx,_⟩:=h1;intro e;rw [List.length_eq_zero_iff] at e;rw [e] at hx;simp at hx
 have hl1:∀ i:Nat,i<l.length->Def (zM (wF l (i:Int)) FU 0) (λr=>r=.inr ()):=by
  intro i hi;refine Def.loop (λs=>∃ k:Nat,s=(k:Int)/\k<=i) (λs=>i - s.toNat) (λs hs=>?_) ⟨0,rfl,by omega⟩ (by simp;omega);obtain ⟨k,rfl,hk⟩:=hs;unfold wF;refine Def.c (λh=>?_) (λh=>Def.s rfl);have hki:=dT h;have hb:=pw hp hi (show k<i by omega);refine Def.bd (P:=λb=>b=false) ?_ (λb hb'=>?_)
  ·refine Def.bd (Def.at' (show k<l.length by omega)) (λy hy=>?_);subst hy;refine Def.bd (Def.at' hi) (λy hy=>?_);subst hy;refine Def.c (λhr=>?_) (λ_=>Def.s rfl);rw [beq_iff_eq] at hr;refine Def.bd (Def.at' (show k<l.length by omega)) (λy hy=>?_);subst hy;refine Def.bd (Def.at' hi) (λy hy=>?_);subst hy;refine Def.s ?_;rw [beq_eq_false_iff_ne];exact λe=>hb.2 ⟨hr,e⟩
  subst hb';refine Def.s ?_;rw [wO (by omega)];exact ⟨⟨k+1,rfl,by omega⟩,by simp only [Q6];omega⟩
 have hd:Def (zM (xP l) FU (false,false,0)) (λr=>r=.inr (true,true)):=by
  refine Def.loop (λs=>∃ i:Nat,s.2.2=(i:Int)/\i<=l.length/\((∃ x∈l.take i,x.Role=1)->s.1=true)/\((∃ x∈l.take i,x.Role=3)->s.2.1=true)) (λs=>l.length - s.2.2.toNat) (λs hs=>?_) ⟨0,rfl,by omega,by simp,by simp⟩ (by simp;omega);obtain ⟨f,k,i'⟩:=s;obtain ⟨i,g1,g2,g3,g4⟩:=hs;simp only at g1 g3 g4;subst g1;unfold xP;refine Def.c (λh=>?_) (λh=>Def.s ?_)
  ·have hi:i<l.length:=by have:=dT h;omega
   refine Def.bd (Def.at' hi) (λy hy=>?_);subst hy;refine Def.bd (P:=λr=>r=0) (Def.of (zGz _ (him _ (Q8 hi))) rfl) (λr hr=>?_);subst hr;refine Def.c (λh=>by simp at h) (λ_=>?_);refine Def.bd (P:=λb=>b=false) ?_ (λb hb=>?_)
   ·refine Def.c (λh0=>?_) (λ_=>Def.s rfl);have h0':=dT h0;refine Def.bd (Def.at' hi) (λy hy=>?_);subst hy;rw [yP (by omega) (by omega),show (i:Int) - 1=((i - 1:Nat):Int) by omega];refine Def.bd (Def.at' (show i - 1<l.length by omega)) (λy hy=>?_);subst hy;have hb:=(pw hp hi (show i - 1<i by omega)).1;refine Def.s ?_;rw [decide_eq_false_iff_not];omega
   subst hb;refine Def.c (λh=>by simp at h) (λ_=>?_);refine Def.bd (hl1 i hi) (λr hr=>?_);subst hr;refine Def.bd (P:=λb=>f=true∨l[i].Role=1->b=true) ?_ (λb1 hb1=>?_)
   ·refine Def.c (λ_=>Def.s (λ_=>rfl)) (λhf=>?_);refine Def.bd (Def.at' hi) (λy hy=>?_);subst hy;refine Def.s (λe=>?_);rcases e with e | e
    ·rw [hf] at e;cases e
    ·rw [e];rfl
   refine Def.bd (P:=λb=>k=true∨l[i].Role=3->b=true) ?_ (λb2 hb2=>?_)
   ·refine Def.c (λ_=>Def.s (λ_=>rfl)) (λhf=>?_);refine Def.bd (Def.at' hi) (λy hy=>?_);subst hy;refine Def.s (λe=>?_);rcases e with e | e
    ·rw [hf] at e;cases e
    ·rw [e];rfl
   refine Def.s ?_;rw [wO (by omega)];refine ⟨⟨i+1,rfl,by omega,λe=>?_,λe=>?_⟩,by simp only [Q6];omega⟩
   ·obtain ⟨x,hx,e⟩:=e;rcases lO hi hx with hx | rfl
    ·exact hb1 (.inl (g3 ⟨x,hx,e⟩))
    ·exact hb1 (.inr e)
   ·obtain ⟨x,hx,e⟩:=e;rcases lO hi hx with hx | rfl
    ·exact hb2 (.inl (g4 ⟨x,hx,e⟩))
    ·exact hb2 (.inr e)
  ·have:=dF h;rw [Q5 (by omega)] at g3 g4;rw [g3 h1,g4 h3]
 obtain ⟨r,e,rfl⟩:=hd;unfold vL;refine bd (a:=false) (cf ?_ (congrArg some ?_)) ?_
 ·rw [beq_eq_false_iff_ne];omega
 ·rw [decide_eq_false_iff_not];omega
 refine cf rfl ?_;refine bd e ?_;rfl
def qJ (x:zD):By:=zBg (zBg (sQ (sQ [] 1 x.Role) 4 x.Version) x.Name) x.Payload
theorem zK4 (x:zD):5<=(qJ x).length/\(qJ x).length<2 ^ 20:=by
 have h1:=zAh (sQ (sQ [] 1 x.Role) 4 x.Version) x.Name;have h2:=zAh (zBg (sQ (sQ [] 1 x.Role) 4 x.Version) x.Name) x.Payload;have h3:(sQ (sQ [] 1 x.Role) 4 x.Version).length=5:=by rw [vQ,vQ];rfl
 refine ⟨?_,by unfold qJ;omega⟩;unfold qJ zBg;simp only [Q2,vQ,h3];omega
theorem zG8:∀ f u,(decF f u).length<=f
 | 0,_=>Qd _
 | f+1,u=>by
  unfold decF;cases Nat.blt u 10
  ·simp only [cond_false,Q2,Qw];have:=zG8 f (u / 10);omega
  ·simp only [cond_true,Qw];omega
def lbl (x:zD):By:=(x.Name++[32])++decF 20 x.Version.toNat
def rgR (role:Int):Int:=if role=1 then 0 else if role=2 then 4 else if role=3 then 8 else if role=4 then 9 else -1
def imE (active:Int) (x:zD):zB:=⟨rgR x.Role,1,dgE active true (qJ x),lbl x⟩
def zHr (x:zD):List By:=(uT x).getD []
def evR (active role:Int) (l:List zD):List zB:=l.flatMap λx=>if x.Role=role then (if role=4 then (zHr x).map (mkE 9 3 active) else [imE active x]) else []
def zHi (active:Int):List zB:=(W1 8).map λ(i:Nat)=>mkE (i:Int) 2 active [0,0,0,0]
def evs (l:List zD) (active:Int):List zB:=evR active 1 l++evR active 2 l++(zHi active++evR active 3 l)++evR active 4 l
theorem zMh (x:zD) (h:oH x) (h4:x.Role=4):uT x=some (zHr x)/\(zHr x).length<=4/\∀ l∈zHr x,zHm l:=by
 obtain ⟨L,h1,_,h2,h3⟩:=h.l h4;unfold zHr;rw [h1];exact ⟨rfl,h2,h3⟩
theorem zC7 (active role:Int) (x:zD) (h:oH x):(if x.Role=role then (if role=4 then (zHr x).map (mkE 9 3 active) else [imE active x]) else []).length<=4/\(x.Role=role∨(if x.Role=role then (if role=4 then (zHr x).map (mkE 9 3 active) else [imE active x]) else []).length=0):=by
 by_cases hr:x.Role=role
 ·rw [if_pos hr];refine ⟨?_,.inl hr⟩;by_cases h4:role=4
  ·rw [if_pos h4,List.length_map];exact (zMh x h (by omega)).2.1
  ·rw [if_neg h4];simp
 ·rw [if_neg hr];exact ⟨by simp,.inr rfl⟩
theorem zT6 (active role:Int) (l:List zD) (h:∀ x∈l,oH x):(evR active role l).length<=4*l.length:=by
 induction l with
 | nil=>simp [evR]
 | cons x t ih=>
  have h1:=(zC7 active role x (h x (Qg ..))).1;have h2:=ih (λy hy=>h y (Qx _ hy));unfold evR at h2 ⊢;rw [Q9,Q2,Qe];omega
theorem zN5 (active:Int) (l:List zD) (h:∀ x∈l,oH x):(evR active 1 l).length+(evR active 2 l).length+(evR active 3 l).length+(evR active 4 l).length<=4*l.length:=by
 induction l with
 | nil=>simp [evR]
 | cons x t ih=>
  have h0:=zC7 active 1 x (h x (Qg ..));have h1:=zC7 active 2 x (h x (Qg ..));have h2:=zC7 active 3 x (h x (Qg ..));have h3:=zC7 active 4 x (h x (Qg ..));have hi:=ih (λy hy=>h y (Qx _ hy));unfold evR at hi ⊢;rw [Q9,Q9,Q9,Q9,Q2,Q2,Q2,Q2,Qe];omega
theorem zGy (active:Int):(zHi active).length=8:=by simp [zHi]
theorem zSz (l:List zD) (active:Int) (h:hU l):8<=(evs l active).length/\(evs l active).length<=40:=by
 have h1:=zN5 active l h.im;have h2:=h.len;have h3:=zGy active;unfold evs;simp only [Q2];omega
set_option maxRecDepth 100000
theorem zN8 (n m:Int) (hm:1<=m) (hm2:m<2 ^ 40):Def (aG n m) (λr=>0<=r/\r<m):=by
 unfold aG;refine Def.c (λh=>by have:=dT h;omega) (λ_=>?_);refine Def.bd (Def.ck (by simp;omega)) (λ_ _=>?_);have h1:-m<Int.tmod n m:=by
  have:=Int.lt_tmod_of_pos n (by omega:0<m);omega
 have h2:Int.tmod n m<m:=Int.tmod_lt_of_pos n (by omega);refine Def.bd (P:=λr=>0<=r/\r<m) ?_ (λr hr=>Def.s hr);refine Def.c (λh=>Def.s ?_) (λh=>Def.s ?_)
 ·have:=dT h;rw [yP (by omega) (by omega)];omega
 ·have:=dF h;omega
theorem zMc (n:Int):Def (fV n) (λr=>1<=r/\r<=3):=by
 unfold fV;refine Def.bd (zN8 n 3 (by decide) (by decide)) (λr hr=>Def.s ?_);rw [yP (by omega) (by omega)];omega
theorem zJt (a b:List α):(cpy a b).length=a.length:=by
 unfold cpy;simp;omega
set_option maxRecDepth 100000
def siz (a:Int):Int:=if a=0 then 20 else if a=1 then 32 else 0
theorem zFi (a:Int):mX a=some (siz a):=by
 unfold mX siz;by_cases h0:a=0
 ·rw [if_pos h0];exact ct (by simp [h0]) rfl
 ·rw [if_neg h0];refine cf (by simp [h0]) ?_;by_cases h1:a=1
  ·rw [if_pos h1];exact ct (by simp [h1]) rfl
  ·rw [if_neg h1];exact cf (by simp [h1]) rfl
def Fit (e:zB) (active:Int) (a:Nat):Prop:=((e.Digests.getD a []).length:Int)=if e.Kind≠5/\xY active (a:Int)=true then siz (a:Int) else 0
theorem nf2 (h:∃ i,i<2/\¬ Fit e active i):¬ (Fit e active 0/\Fit e active 1):=by
 obtain ⟨i,hi,hn⟩:=h;intro ⟨h0,h1⟩;have:i=0∨i=1:=by omega
 rcases this with rfl | rfl
 ·exact hn h0
 ·exact hn h1
theorem zL0 {has:Option Bool} {size:Option Int} (h1:has=some (xY active (a:Int))) (h2:size=some (siz (a:Int))) :
  Def ((bif (e.Kind != 5) then has else some false:Option Bool).bind λv=>bif v then size else some 0) (λw=>w=if e.Kind≠5/\xY active (a:Int)=true then siz (a:Int) else 0):=by
 subst h1 h2;by_cases hk:e.Kind=5
 ·rw [show (e.Kind != 5)=false by simp [hk]];exact Def.s (by rw [if_neg (λh=>h.1 hk)])
 ·rw [show (e.Kind != 5)=true by simp [hk]];cases hb:xY active (a:Int)
  ·exact Def.s (by rw [if_neg (λh=>by cases h.2)])
  ·exact Def.s (by rw [if_pos ⟨hk,rfl⟩])
theorem zFb {w:Int} (hl:a<e.Digests.length) (hw:w=if e.Kind≠5/\xY active (a:Int)=true then siz (a:Int) else 0):((e.Digests[a].length:Int) != w)=false↔Fit e active a:=by
 unfold Fit;rw [<- hw];simp [hl]
theorem zTe (e:zB) (active:Int):Def (pP e active) (λr=>r=true↔e.Digests.length=2/\Fit e active 0/\Fit e active 1):=by
 unfold pP;refine Def.c (λh=>Def.s ⟨λh=>(by cases h),λh2=>?_⟩) (λh=>?_)
 ·rw [h2.1] at h;cases h
 have hl:e.Digests.length=2:=by simp at h;omega
 refine Def.bd (jZ e.Digests (sF e active) (λi=>Fit e active i) (λb=>b=false/\∃ i,i<2/\¬ Fit e active i) (by omega) (λa ha=>?_) ?_) (λr hr=>?_)
 ·unfold sF;refine Def.c (λ_=>?_) (λh=>by have:=dF h;omega);refine Def.bd (zL0 (e:=e) (active:=active) (a:=a) rfl (by rw [zFi];rfl)) (λw hw=>?_);refine Def.bd (Def.at' ha) (λd hd=>?_);subst hd;refine Def.c (λhne=>Def.s ⟨rfl,a,by omega,λhF=>?_⟩) (λhne=>Def.s ⟨wO (by omega),(zFb ha hw).1 hne⟩);rw [(zFb ha hw).2 hF] at hne;cases hne
 ·unfold sF;rw [hl];exact cf rfl rfl
 ·cases r with
  | inl b=>exact Def.s ⟨λh=>(by rw [hr.1] at h;cases h),λh=>absurd h.2 (nf2 hr.2)⟩
  | inr u=>exact Def.s ⟨λ_=>⟨hl,hr 0 (by omega),hr 1 (by omega)⟩,λ_=>rfl⟩
structure EvGood (e:zB) (active:Int):Prop where
 r0:0<=e.Register
 r1:e.Register<=11
 d:e.Data.length<=64
 l:e.Digests.length=2
 f0:Fit e active 0
 f1:Fit e active 1
structure EvC (e:zB) (active:Int):Prop extends EvGood e active where
 a1:1<=active
 a3:active<=3
 k1:1<=e.Kind
 k5:e.Kind<=5
theorem or6 {a d e f:Bool}:Def (bif a then some true else bif b then some true else bif c then some true else bif d then some true else bif e then some true else some f) (λr=>r=(a||b||c||d||e||f)):=by
 cases a<;>cases b<;>cases c<;>cases d<;>cases e<;>cases f<;>exact Def.s rfl
theorem zOu (h:b=(decide (active<1)||decide (3<active)||decide (e.Register<0)||decide (11<e.Register)||decide (e.Kind<1)||decide (5<e.Kind))) :
  b=false↔(1<=active/\active<=3/\0<=e.Register/\e.Register<=11/\1<=e.Kind/\e.Kind<=5):=by
 subst h;simp only [Bool.or_eq_false_iff,decide_eq_false_iff_not];omega
theorem zXe (e:zB) (active:Int):Def (fW e active) (λr=>r=0↔EvC e active):=by
 unfold fW;refine Def.bd or6 (λb hb=>?_);have hb:=zOu hb;refine Def.c (λh=>Def.s ⟨λh=>(by cases h),λhc=>?_⟩) (λhbf=>?_)
 ·have:=hb.2 ⟨hc.a1,hc.a3,hc.r0,hc.r1,hc.k1,hc.k5⟩;rw [this] at h;cases h
 obtain ⟨h1,h2,h3,h4,h5,h6⟩:=hb.1 hbf;refine Def.c (λh=>Def.s ⟨λh=>(by cases h),λhc=>?_⟩) (λhd=>?_)
 ·have:=dT h;have:=hc.d;omega
 have hd':=dF hd;refine Def.bd (zTe e active) (λf hf=>?_);refine Def.c (λh=>Def.s ⟨λh=>(by cases h),λhc=>?_⟩) (λhft=>Def.s ⟨λ_=>?_,λ_=>rfl⟩)
 ·rw [hf.2 ⟨hc.l,hc.f0,hc.f1⟩] at h;cases h
 ·obtain ⟨k1,k2,k3⟩:=hf.1 (by simpa using hft);exact ⟨⟨h3,h4,by omega,k1,k2,k3⟩,h1,h2,h5,h6⟩
def bnk (n:Nat):List By:=Q3 12 (Q3 n 0)++Q3 4 (Q3 n 255)
theorem new1:eN 1=some ⟨[bnk 20,[]],0⟩:=by decide +kernel
theorem new2:eN 2=some ⟨[[],bnk 32],0⟩:=by decide +kernel
theorem new3:eN 3=some ⟨[bnk 20,bnk 32],0⟩:=by decide +kernel
structure zEy (active:Int) (r:zC):Prop where
 b:∃ b0 b1,r.Banks=[b0,b1]/\b0.length=(if xY active 0=true then 16 else 0)/\b1.length=(if xY active 1=true then 16 else 0)/\(∀ x∈b0,x.length<=32)/\(∀ x∈b1,x.length<=32)
theorem zD8 (b0 b1:List By) (u:Int):uU ⟨[b0,b1],u⟩ 0=some (decide (0<(b0.length:Int)))/\uU ⟨[b0,b1],u⟩ 1=some (decide (0<(b1.length:Int))):=⟨rfl,rfl⟩
theorem zPy (r:zC) (b0 b1:List By) (hb:r.Banks=[b0,b1]) (l0:b0.length<=16) (l1:b1.length<=16) (h0:∀ x∈b0,x.length<=32) (h1:∀ x∈b1,x.length<=32):zAv r=some (b0,b1,r.Updates):=by
 have cp:∀ x:By,x.length<=32->sM x=some x:=λx hx=>zFm x (by omega);unfold zAv;refine ct (by rw [hb];rfl) ?_;refine bd (a:=b0) ?_ ?_
 ·refine yJ b0.length (λi=>(b0.take i,(i:Int))) (by simp) (λi hi=>?_) ?_ (xT (by omega))
  ·unfold cN;rw [hb];refine bd (a:=b0) rfl ?_;refine ct (dlt hi) ?_;refine bd (a:=b0) rfl ?_;refine bd (yQ hi) ?_;refine bd (cp _ (h0 _ (Q8 hi))) ?_;refine bd (yI (by simp;omega)) ?_;rw [wO (show i<2 ^ 40 by omega),Q7];simp [hi]
  ·unfold cN;rw [hb];refine bd (a:=b0) rfl ?_;refine cf (dge (Qd _)) ?_;simp
 refine ct (by rw [hb];rfl) ?_;refine bd (a:=(b1,b0)) ?_ ?_
 ·refine yJ b1.length (λi=>(b1.take i,(i:Int),b0)) (by simp) (λi hi=>?_) ?_ (xT (by omega))
  ·unfold dV;rw [hb];refine bd (a:=b1) rfl ?_;refine ct (dlt hi) ?_;refine bd (a:=b1) rfl ?_;refine bd (yQ hi) ?_;refine bd (cp _ (h1 _ (Q8 hi))) ?_;refine bd (yI (by simp;omega)) ?_;rw [wO (show i<2 ^ 40 by omega),Q7];simp [hi]
  ·unfold dV;rw [hb];refine bd (a:=b1) rfl ?_;refine cf (dge (Qd _)) ?_;simp
 exact cf (by rw [hb];rfl) rfl
def upR (act:Bool) (bk:List By) (reg:Int) (f:By->By):List By:=if act=true then bk.set reg.toNat (f (bk.getD reg.toNat [])) else bk
def ext (active:Int) (e:zB) (r:zC):zC:=
 ⟨[upR (xY active 0) (r.Banks.getD 0 []) e.Register (λx=>gX (x++e.Digests.getD 0 [])),upR (xY active 1) (r.Banks.getD 1 []) e.Register (λx=>sha (x++e.Digests.getD 1 []))],Q1.wrap (r.Updates+1)⟩
theorem zNt (act:Bool) (bk:List By) (reg:Int) (f:By->By):(upR act bk reg f).length=bk.length:=by unfold upR;split<;>simp
theorem zRb {act:Bool} {reg:Int} {f:By->By} (h:∀ x∈bk,x.length<=32) (hf:∀ x,(f x).length<=32):∀ x∈upR act bk reg f,x.length<=32:=by
 intro x hx;unfold upR at hx;split at hx
 ·rcases List.mem_or_eq_of_mem_set hx with hx | hx
  ·exact h x hx
  ·rw [hx];exact hf _
 ·exact h x hx
theorem zVf {r:zC} (h:zEy active r):zEy active (ext active e r):=by
 obtain ⟨⟨b0,b1,hb,l0,l1,m0,m1⟩⟩:=h;unfold ext;rw [hb];exact ⟨⟨_,_,rfl,by rw [zNt];exact l0,by rw [zNt];exact l1,zRb m0 (λx=>by rw [zLg];omega),zRb m1 (λx=>by rw [fP];omega)⟩⟩
theorem zM4 (r:zC) (active:Int) (e:zB) (hr:zEy active r) (he:EvGood e active) (hk:e.Kind≠5):Def (fR r 0 e.Register e.Digests) (λx=>x=(ext active e r,0)):=by
 obtain ⟨⟨b0,b1,hb,l0,l1,m0,m1⟩⟩:=hr;obtain ⟨r0,r1,_,dl,f0,f1⟩:=he;obtain ⟨bs,u⟩:=r;simp only at hb;subst hb;have l0':b0.length<=16:=by rw [l0];split<;>omega
 have l1':b1.length<=16:=by rw [l1];split<;>omega
 unfold Fit at f0 f1;have f0':((e.Digests.getD 0 []).length:Int)<=32:=by rw [f0];split<;>decide
 have f1':((e.Digests.getD 1 []).length:Int)<=32:=by rw [f1];split<;>decide
 have g0:∀ d∈e.Digests,d.length<=32:=by
  intro d hd;obtain ⟨i,hi,rfl⟩:=Qy.mp hd;have hi2:i=0∨i=1:=by omega
  rcases hi2 with rfl | rfl
  ·have:(e.Digests.getD 0 [])=e.Digests[0]:=by simp [hi]
   rw [<- this];omega
  ·have:(e.Digests.getD 1 [])=e.Digests[1]:=by simp [hi]
   rw [<- this];omega
 have i0:idx e.Digests 0=some (e.Digests.getD 0 []):=zKn (i:=0) (by omega);have i1:idx e.Digests 1=some (e.Digests.getD 1 []):=zKn (i:=1) (by omega);have a0:uU ⟨[b0,b1],u⟩ 0=some (xY active 0):=by
  rw [(zD8 b0 b1 u).1,l0];cases xY active 0<;>rfl
 have a1:uU ⟨[b0,b1],u⟩ 1=some (xY active 1):=by
  rw [(zD8 b0 b1 u).2,l1];cases xY active 1<;>rfl
 unfold fR;refine Def.bd (P:=λb=>b=false) ?_ (λb hb=>?_)
 ·refine Def.c (λh=>by cases h) (λ_=>Def.c (λh=>by cases h) (λ_=>Def.c (λh=>?_) (λ_=>Def.c (λh=>?_) (λ_=>Def.s ?_))))
  ·have:=dT h;omega
  ·have:=dT h;omega
  ·simp;omega
 subst hb;refine Def.c (λh=>by cases h) (λ_=>?_);refine Def.bd (P:=λn=>n=0) ?_ (λn hn=>?_)
 ·unfold zB8;refine Def.bd (P:=λb=>b=false) (Def.s rfl) (λb hb=>?_);subst hb;refine Def.c (λh=>by cases h) (λ_=>?_);have e14:(e.Register==14)=false:=by simp;omega
  have e15:(e.Register==15)=false:=by simp;omega
  rw [e14,e15];exact Def.s rfl
 subst hn;refine Def.c (λh=>by cases h) (λ_=>?_);refine Def.bd (P:=λr=>r=.inr ()) ?_ (λr hr=>?_)
 ·refine Def.loop (λs=>s=0∨s=1∨s=2) (λs=>2 - s.toNat) (λs hs=>?_) (.inl rfl) (by simp);unfold aB;refine Def.c (λh=>?_) (λh=>Def.s rfl);refine Def.bd (P:=λb=>b=false) ?_ (λb hb=>?_)
  ·rcases hs with rfl | rfl | rfl
   ·refine Def.bd (P:=λb=>b=xY active 0) (Def.of a0 rfl) (λb hb=>?_);subst hb;refine Def.c (λh=>?_) (λ_=>Def.s rfl);refine Def.bd (P:=λd=>d=e.Digests.getD 0 []) (Def.of i0 rfl) (λd hd=>Def.s ?_);have hh:xY active 0=false:=by simpa using h
    rw [if_neg (by show ¬ (e.Kind≠5/\xY active 0=true);rw [hh];simp)] at f0;rw [decide_eq_false_iff_not,hd];omega
   ·refine Def.bd (P:=λb=>b=xY active 1) (Def.of a1 rfl) (λb hb=>?_);subst hb;refine Def.c (λh=>?_) (λ_=>Def.s rfl);refine Def.bd (P:=λd=>d=e.Digests.getD 1 []) (Def.of i1 rfl) (λd hd=>Def.s ?_);have hh:xY active 1=false:=by simpa using h
    rw [if_neg (by show ¬ (e.Kind≠5/\xY active 1=true);rw [hh];simp)] at f1;rw [decide_eq_false_iff_not,hd];omega
   ·cases h
  subst hb;refine Def.s ?_;rcases hs with rfl | rfl | rfl
  ·exact ⟨.inr (.inl rfl),by decide⟩
  ·exact ⟨.inr (.inr rfl),by decide⟩
  ·cases h
 subst hr;refine Def.bd (P:=λr=>r=.inr ()) ?_ (λr hr=>?_)
 ·refine Def.loop (λs=>s=0∨s=1∨s=2) (λs=>2 - s.toNat) (λs hs=>?_) (.inl rfl) (by simp);unfold aE;refine Def.c (λh=>?_) (λh=>Def.s rfl);refine Def.bd (P:=λb=>b=false) ?_ (λb hb=>?_)
  ·rcases hs with rfl | rfl | rfl
   ·refine Def.bd (P:=λb=>b=xY active 0) (Def.of a0 rfl) (λb hb=>?_);subst hb;refine Def.c (λh=>?_) (λ_=>Def.s rfl);refine Def.bd (P:=λd=>d=e.Digests.getD 0 []) (Def.of i0 rfl) (λd hd=>?_);refine Def.bd (P:=λd=>d=siz 0) (Def.of (zFi 0) rfl) (λz hz=>Def.s ?_);rw [if_pos ⟨hk,h⟩] at f0;rw [hd,hz];simp;exact f0
   ·refine Def.bd (P:=λb=>b=xY active 1) (Def.of a1 rfl) (λb hb=>?_);subst hb;refine Def.c (λh=>?_) (λ_=>Def.s rfl);refine Def.bd (P:=λd=>d=e.Digests.getD 1 []) (Def.of i1 rfl) (λd hd=>?_);refine Def.bd (P:=λd=>d=siz 1) (Def.of (zFi 1) rfl) (λz hz=>Def.s ?_);rw [if_pos ⟨hk,h⟩] at f1;rw [hd,hz];simp;exact f1
   ·cases h
  subst hb;refine Def.s ?_;rcases hs with rfl | rfl | rfl
  ·exact ⟨.inr (.inl rfl),by decide⟩
  ·exact ⟨.inr (.inr rfl),by decide⟩
  ·cases h
 subst hr;refine Def.bd (P:=λx=>x=(b0,b1,u)) (Def.of (zPy _ b0 b1 rfl l0' l1' m0 m1) rfl) (λx hx=>?_);subst hx;obtain ⟨rn,hrn⟩:=Qb r0;have one:∀ (a:Nat) (bk:List By) (f:By->By) (h2:a<2) (h16:bk.length=16) (mm:∀ x∈bk,x.length<=32) (hf:∀ z,z.length<2 ^ 40->oN (a:Int) z=some (f z)),
   Def ((idx bk e.Register).bind λw=>(sM w).bind λw'=>(idx e.Digests (a:Int)).bind λd=>(yM 1 w' d).bind λz=>(oN (a:Int) z).bind λs=>(ixN bk.length e.Register).bind λj=>(uX bk j s).bind λl=>some l)
    (λb=>b=upR true bk e.Register (λx=>f (x++e.Digests.getD a []))):=by
  intro a bk f h2 h16 mm hf;rw [hrn];have hm:bk.getD rn []∈bk:=by
   have:rn<bk.length:=by omega
   simp [this]
  have:=mm _ hm;refine Def.bd (P:=λx=>x=bk.getD rn []) (Def.of (zKn (by omega)) rfl) (λx hx=>?_);subst hx;refine Def.bd (P:=λy=>y=bk.getD rn []) (Def.of (zFm _ (by omega)) rfl) (λy hy=>?_);subst hy;have hd:e.Digests.getD a []∈e.Digests:=by
   have:a<e.Digests.length:=by omega
   simp [this]
  have:=g0 _ hd;refine Def.bd (P:=λd=>d=e.Digests.getD a []) (Def.of (zKn (by omega)) rfl) (λd hd=>?_);subst hd;refine Def.bd (Def.app (by omega)) (λz hz=>?_);have hzl:z.length<2 ^ 40:=by rw [hz,Q2];omega
  refine Def.bd (P:=λs=>s=f z) (Def.of (hf z hzl) rfl) (λs hs=>?_);refine Def.bd (Def.ixN (by omega) (by omega)) (λj hj=>?_);refine Def.bd (Def.upd hj.2) (λq hq=>Def.s ?_);rw [hq,hj.1,hs,hz];rfl
 refine Def.bd (P:=λb=>b=upR (xY active 0) b0 e.Register (λx=>gX (x++e.Digests.getD 0 []))) ?_ (λc0 hc0=>?_)
 ·refine Def.bd (P:=λb=>b=xY active 0) (Def.of a0 rfl) (λb hb=>?_);subst hb;refine Def.c (λh=>?_) (λh=>Def.s (by rw [h];rfl));rw [if_pos h] at l0;rw [h];refine Def.bd (P:=λb=>b=b0) (Def.s rfl) (λb hb=>?_);subst hb;exact one 0 _ gX (by omega) l0 m0 zKd
 refine Def.bd (P:=λb=>b=upR (xY active 1) b1 e.Register (λx=>sha (x++e.Digests.getD 1 []))) ?_ (λc1 hc1=>?_)
 ·refine Def.bd (P:=λb=>b=xY active 1) (Def.of a1 rfl) (λb hb=>?_);subst hb;refine Def.c (λh=>?_) (λh=>Def.s (by rw [h];rfl));rw [if_pos h] at l1;rw [h];refine Def.bd (P:=λb=>b=b1) (Def.s rfl) (λb hb=>?_);subst hb;exact one 1 _ sha (by omega) l1 m1 zK3
 exact Def.s (by rw [hc0,hc1];rfl)
set_option maxRecDepth 100000
theorem zTg {a:Int} (h1:1<=a) (h3:a<=3):a=1∨a=2∨a=3:=by omega
theorem zFh (n:Nat):(bnk n).length=16:=by simp [bnk]
theorem zI5 (n:Nat) (h:n<=32):∀ x∈bnk n,x.length<=32:=by
 intro x hx;simp only [bnk,Qn,List.mem_replicate] at hx;rcases hx with ⟨_,rfl⟩ | ⟨_,rfl⟩<;>simp [h]
def zO5 (active:Int):zC:=⟨[if xY active 0=true then bnk 20 else [],if xY active 1=true then bnk 32 else []],0⟩
theorem zV8 (active:Int) (h1:1<=active) (h3:active<=3):eN active=some (zO5 active):=by
 rcases zTg h1 h3 with rfl | rfl | rfl
 ·exact new1
 ·exact new2
 ·exact new3
theorem zS5 (active:Int) (h1:1<=active) (h3:active<=3):zEy active (zO5 active):=by
 rcases zTg h1 h3 with rfl | rfl | rfl
 ·exact ⟨⟨_,_,rfl,zFh 20,rfl,zI5 20 (by omega),(by intro x hx;cases hx)⟩⟩
 ·exact ⟨⟨_,_,rfl,rfl,zFh 32,(by intro x hx;cases hx),zI5 32 (by omega)⟩⟩
 ·exact ⟨⟨_,_,rfl,zFh 20,zFh 32,zI5 20 (by omega),zI5 32 (by omega)⟩⟩
def rpl (active:Int) (es:List zB):zC:=es.foldl (λr e=>if e.Kind=5 then r else ext active e r) (zO5 active)
theorem zSd (active:Int) {es:List zB} (h:a<es.length):rpl active (es.take (a+1))=if es[a].Kind=5 then rpl active (es.take a) else ext active es[a] (rpl active (es.take a)):=by
 unfold rpl;rw [Q7,List.foldl_append];simp [h]
theorem zN9 (active:Int):∀ (es:List zB) (r:zC),zEy active r->zEy active (es.foldl (λr e=>if e.Kind=5 then r else ext active e r) r)
 | [],_,h=>h
 | e :: es,r,h=>by
  rw [List.foldl_cons];refine zN9 active es _ ?_;split
  ·exact h
  ·exact zVf h
theorem zMk (active:Int) (es:List zB) (h1:1<=active) (h3:active<=3):zEy active (rpl active es):=zN9 active es _ (zS5 active h1 h3)
theorem zM3 (l:yU) (h:l.Events.length<2 ^ 20) (h1:1<=l.Active) (h3:l.Active<=3):Def (nZ l) (λr=>(r.2=0->r.1=rpl l.Active l.Events)/\((∀ e∈l.Events,EvC e l.Active)->r.2=0)):=by
 unfold nZ;refine Def.bd (P:=λb=>b=false) ?_ (λb hb=>?_)
 ·refine Def.c (λh=>by have:=dT h;omega) (λ_=>Def.s ?_);rw [decide_eq_false_iff_not];omega
 subst hb;refine Def.c (λh=>by cases h) (λ_=>?_);refine Def.bd (jZ l.Events (oQ l) (λi=>∀ h:i<l.Events.length,EvGood l.Events[i] l.Active) (λv=>v.2≠0/\¬ ∀ e∈l.Events,EvC e l.Active) (by omega) (λa ha=>?_) ?_) (λr hr=>?_)
 ·unfold oQ;refine Def.c (λ_=>?_) (λh=>by have:=dF h;omega);refine Def.bd (Def.at' ha) (λe he=>?_);subst he;refine Def.bd (zXe _ _) (λr hr=>?_);refine Def.c (λhz=>Def.s ⟨by simpa using hz,λhall=>?_⟩) (λhz=>Def.s ⟨wO (by omega),λ_=>(hr.1 (by simpa using hz)).toEvGood⟩);have:=hr.2 (hall _ (Q8 ha));rw [this] at hz;cases hz
 ·unfold oQ;exact cf (by simp) rfl
 cases r with
 | inl v=>exact Def.s ⟨λh=>absurd h hr.1,λh=>absurd h hr.2⟩
 | inr u=>
  have hr':∀ e∈l.Events,EvGood e l.Active:=by
   intro e he;obtain ⟨i,hi,rfl⟩:=Qy.mp he;exact hr i hi hi
  refine Def.bd (P:=λr=>r=zO5 l.Active) (Def.of (zV8 _ h1 h3) rfl) (λrg hrg=>?_);subst hrg;refine Def.bd (P:=λr=>(⟨r.1,r.2⟩:zC)=rpl l.Active l.Events) ?_ (λr hr=>Def.s ⟨λ_=>hr,λ_=>rfl⟩);refine Def.loop (λs=>∃ a:Nat,s.1=(a:Int)/\a<=l.Events.length/\(⟨s.2.1,s.2.2⟩:zC)=rpl l.Active (l.Events.take a)) (λs=>l.Events.length - s.1.toNat) (λs hs=>?_) ⟨0,rfl,by omega,rfl⟩ (by simp;omega);obtain ⟨a',bs,up⟩:=s;obtain ⟨a,g1,g2,g3⟩:=hs;simp only at g1 g3;subst g1;unfold cZ;refine Def.c (λh=>?_) (λh=>Def.s ?_)
  ·have ha2:a<l.Events.length:=by have:=dT h;omega
   refine Def.bd (P:=λr=>(⟨r.1,r.2⟩:zC)=rpl l.Active (l.Events.take (a+1))) ?_ (λr hr=>Def.s ?_)
   ·rw [zSd _ ha2];refine Def.bd (Def.at' ha2) (λe he=>?_);subst he;refine Def.c (λhk=>?_) (λhk=>Def.s (by rw [if_pos (by simpa using hk)];exact g3));have hk':l.Events[a].Kind≠5:=by simpa using hk
    rw [if_neg hk'];refine Def.bd (Def.at' ha2) (λe he=>?_);subst he;refine Def.bd (Def.at' ha2) (λe he=>?_);subst he;rw [g3];exact Def.bd (zM4 _ l.Active _ (zMk _ _ h1 h3) (hr' _ (Q8 ha2)) hk') (λr hr=>Def.s (by subst hr;rfl))
   ·rw [wO (by omega)];exact ⟨⟨a+1,rfl,by omega,hr⟩,by simp only [Q6];omega⟩
  ·have:=dF h;rw [Q5 (by omega)] at g3;exact g3
theorem zOi (h:∀ x∈bk,x.length<=32) (n:Nat):(bk.getD n []).length<=32:=by
 by_cases hn:n<bk.length
 ·have:bk.getD n []=bk[n]:=by simp [hn]
  rw [this];exact h _ (Q8 hn)
 ·have:bk.getD n []=[]:=by simp [List.getD,List.getElem?_eq_none (by omega:bk.length<=n)]
  rw [this];simp
set_option maxRecDepth 100000
theorem dJ (a:Int):sX a=some (siz a):=zFi a
theorem zMy (e:zB) (active:Int):Def (nD e active) (λr=>r=0↔EvC e active):=by
 unfold nD;refine Def.bd or6 (λb hb=>?_);have hb:=zOu hb;refine Def.c (λh=>Def.s ⟨λh=>(by cases h),λhc=>?_⟩) (λhbf=>?_)
 ·have:=hb.2 ⟨hc.a1,hc.a3,hc.r0,hc.r1,hc.k1,hc.k5⟩;rw [this] at h;cases h
 obtain ⟨h1,h2,h3,h4,h5,h6⟩:=hb.1 hbf;refine Def.c (λh=>Def.s ⟨λh=>(by cases h),λhc=>?_⟩) (λhd=>?_)
 ·have:=dT h;have:=hc.d;omega
 have hd':=dF hd;refine Def.c (λh=>Def.s ⟨λh=>(by cases h),λhc=>?_⟩) (λhl0=>?_)
 ·rw [hc.l] at h;cases h
 have hl:e.Digests.length=2:=by simp at hl0;omega
 refine Def.bd (jZ e.Digests (mG e active) (λi=>Fit e active i) (λb=>b=27/\∃ i,i<2/\¬ Fit e active i) (by omega) (λa ha=>?_) ?_) (λr hr=>?_)
 ·unfold mG;refine Def.c (λ_=>?_) (λh=>by have:=dF h;omega);refine Def.bd (Def.at' ha) (λd hd=>?_);subst hd;refine Def.bd (zL0 (e:=e) (active:=active) (a:=a) ?_ (by rw [dJ];rfl)) (λw hw=>?_)
  ·refine bd (ckT (by simp)) ?_;have hw:Q4.wrap (a:Int)=(a:Int):=bP (by omega) (by omega);unfold xY;rw [hw]
  refine Def.c (λhne=>Def.s ⟨rfl,a,by omega,λhF=>?_⟩) (λhne=>Def.s ⟨wO (by omega),(zFb ha hw).1 hne⟩);rw [(zFb ha hw).2 hF] at hne;cases hne
 ·unfold mG;rw [hl];exact cf rfl rfl
 ·cases r with
  | inl b=>exact Def.s ⟨λh=>(by rw [hr.1] at h;cases h),λh=>absurd ⟨h.f0,h.f1⟩ (nf2 hr.2)⟩
  | inr u=>exact Def.s ⟨λ_=>⟨⟨h3,h4,by omega,hl,hr 0 (by omega),hr 1 (by omega)⟩,h1,h2,h5,h6⟩,λ_=>rfl⟩
theorem zVs (h:EvC e active):Def (nD e active) (λr=>r=0):=(zMy e active).mono λ_ hr=>hr.2 h
set_option maxRecDepth 100000
theorem zPs (b:By) (h:b.length<2 ^ 40):sK b=some (RS.W ⟨b,0,0⟩):=by
 unfold sK;refine bd (yI (by simp;omega)) ?_;rfl
set_option maxRecDepth 100000
structure LgGood (l:yU):Prop where
 ev:∀ e∈l.Events,EvC e l.Active
 n:l.Events.length<=40
end Go.Proofs.TT
