/- what Read reports of a started chain -/
import Derived.Test.YtmfjfpfolbnogaaGreatDoorAZ3
import Derived.Test.YtmfjfpfolbnogaaGreatDoorAZ5
set_option linter.all false
open Go.IntKind renaming i64 -> Q0, u32 -> Q1, u64 -> Q5, wrap_u64 -> Ql
open List renaming length_append -> Q2, take_of_length_le -> Q3, replicate -> Q4, append_assoc -> Q6, take_add_one -> Q7, flatMap_cons -> Qa, getElem_mem -> Qb, length_cons -> Qc, mem_cons_self -> Qg, flatMap_append -> Qi, drop_eq_nil_of_le -> Qk, length_nil -> Qo, map_cons -> Qq, sum_cons -> Qr, mem_append -> Qs, drop_drop -> Qu, take_left -> Qv, length_singleton -> Qw, mem_cons_of_mem -> Qx, length -> Qy, not_mem_nil -> Qz, range -> W0, range_succ -> W1, append_nil -> W2, mem_cons -> W5
open Int renaming toNat_natCast -> Q8, eq_ofNat_of_zero_le -> Q9, tmod_eq_emod_of_nonneg -> Qe, le_refl -> Qt, tdiv -> W6, tmod -> W7
open Nat renaming le_refl -> Qd, mod_eq_of_lt -> Qn, two_pow_add_eq_or_of_lt -> Qp, blt_eq -> W3, blt -> W4
open BitVec renaming ofInt -> Qf, ofInt_natCast -> Qh, toNat_ofNat -> Qj
open Option renaming bind_some -> Qm
namespace Go.Sw
open Go
variable {b:Nat}{c:Bool}{n:Int}{α β:Type}{a:α}{f:α->Option β}{l:List α}{r:Option β}
theorem zLo {X Y:Type} {step:X->Option (X ⊕ Y)} {r:Y} (n:Nat) (s:Nat->X) (h:∀ i,i<n->step (s i)=some (.inl (s (i+1)))) (he:step (s n)=some (.inr r)) :
  ∀ (d k fuel:Nat),k+d=n->d<fuel->zN step fuel (s k)=some r:=by
 intro d;induction d with
 | zero=>
  intro k fuel hk hf;obtain ⟨f,rfl⟩:∃ f,fuel=f+1:=⟨fuel - 1,by omega⟩;have:k=n:=by omega
  subst this;simp [zN,he]
 | succ d ih=>
  intro k fuel hk hf;obtain ⟨f,rfl⟩:∃ f,fuel=f+1:=⟨fuel - 1,by omega⟩;simp only [zN,h k (by omega)];exact ih (k+1) f (by omega) (by omega)
theorem yD {X Y:Type} {step:X->Option (X ⊕ Y)} {r:Y} {x:X} (n:Nat) (s:Nat->X) (h0:s 0=x) (h:∀ i,i<n->step (s i)=some (.inl (s (i+1)))) (he:step (s n)=some (.inr r)) {fuel:Nat} (hf:n<fuel) :
  zN step fuel x=some r:=by
 subst h0;exact zLo n s h he n 0 fuel (by omega) hf
theorem zHq {X Y:Type} {step:X->Option (X ⊕ Y)} (I:X->Prop) (m:X->Nat) (Q:Y->Prop)
  (h:∀ s,I s->(∃ s',step s=some (.inl s')/\I s'/\m s'<m s)∨(∃ r,step s=some (.inr r)/\Q r)) :
  ∀ (fuel:Nat) (s:X),I s->m s<fuel->∃ r,zN step fuel s=some r/\Q r:=by
 intro fuel;induction fuel with
 | zero=>intro s _ hm;omega
 | succ f ih=>
  intro s hs hm;rcases h s hs with ⟨s',h1,h2,h3⟩ | ⟨r,h1,h2⟩
  ·obtain ⟨r,h4,h5⟩:=ih s' h2 (by omega);exact ⟨r,by simp [zN,h1,h4],h5⟩
  ·exact ⟨r,by simp [zN,h1],h2⟩
theorem xK {n:Nat} (h:n<2 ^ 64):n<FU:=by
 have:(2:Nat) ^ 64<FU:=by decide
 omega
theorem yR (h1:-9223372036854775808<=n) (h2:n<=9223372036854775807):Q0.wrap n=n:=by rw [IntKind.wrap_i64];omega
theorem yB7 (h1:0<=n) (h2:n<=4294967295):Q1.wrap n=n:=by rw [IntKind.wrap_u32];omega
theorem aN (h1:0<=n) (h2:n<=18446744073709551615):Q5.wrap n=n:=by rw [Ql];omega
theorem yG {m:List α} (h:(l.length+m.length)*b<=140737488355328):yM b l m=some (l++m):=by
 simp [yM,LIM,h]
theorem yO {i:Nat} (h:i<l.length):idx l (i:Int)=some l[i]:=by
 simp [idx,h]
theorem sP {a:Nat} (h:a<=b) (h2:b<=l.length):sub l (a:Int) (b:Int)=some ((l.drop a).take (b - a)):=by
 have:(0:Int)<=a/\(a:Int)<=b/\(b:Int)<=l.length:=⟨by omega,by omega,by omega⟩;simp [sub,this]
theorem bd {o:Option α} (h:o=some a) (k:f a=r):o.bind f=r:=by subst h;exact k
theorem ltk {e:α} (k:f e=r):lt e f=r:=k
theorem ct {b r:α} (h:c=true) (k:a=r):(bif c then a else b)=r:=by subst h;exact k
theorem cf {b r:α} (h:c=false) (k:b=r):(bif c then a else b)=r:=by subst h;exact k
theorem ckT (h:c=true):ck c=some ():=by subst h;rfl
end Go.Sw
namespace Go.Proofs.TT
open Go Go.Sw
set_option maxRecDepth 100000
variable {a b:Nat}{e:Int}{i:Nat}{l:List Int}{n t:Nat}
def rr (x n:Int):Int:=ior .u32 (wV .u32 x n) (mH .u32 x (32 - n))
theorem zKj (k:IntKind) (a b:Int):ior k a b=ior k b a:=by simp [ior,BitVec.or_comm]
theorem kB (x n:Int) (h0:0<=n) (h1:n<=32):wA x n=some (rr x n):=by
 have h2:Q5.wrap (32 - n)=32 - n:=by rw [Ql];omega
 have h3:decide (0<=n)=true:=by simpa using h0
 simp only [wA,ck,lt,h2,h3,rr,cond_true,Qm]
theorem nX (x:Int) (n m:Int) (h:uZ .u64 (Q5.wrap n) 31=32 - m) (h0:0<=m) (h1:m<=32):zQ x n=some (rr x m):=by
 have h2:Q5.wrap (32 - (32 - m))=m:=by rw [Ql];omega
 have h3:(0:Int)<=32 - m:=by omega
 have h4:decide ((0:Int)<=32 - m)=true:=by simpa using h3
 have h5:decide ((0:Int)<=m)=true:=by simpa using h0
 simp only [zQ,ck,lt,h,h2,h4,h5,rr,cond_true,Qm];rw [zKj]
def K2:List Int:=wP
theorem zVu:K2.length=64:=rfl
theorem zI3:nJ=some K2:=rfl
def a8 (s:A8 Int):List Int:=[s.a0,s.a1,s.a2,s.a3,s.a4,s.a5,s.a6,s.a7]
def t1 (s:A8 Int) (k w:Int):Int:=
 Q1.wrap (Q1.wrap (Q1.wrap (Q1.wrap (s.a7+wR .u32 (wR .u32 (rr s.a4 6) (rr s.a4 11)) (rr s.a4 25))+wR .u32 (uZ .u32 s.a4 s.a5) (uZ .u32 (zHi .u32 s.a4) s.a6))+k)+w)
def t2 (s:A8 Int):Int:=Q1.wrap (wR .u32 (wR .u32 (rr s.a0 2) (rr s.a0 13)) (rr s.a0 22)+wR .u32 (wR .u32 (uZ .u32 s.a0 s.a1) (uZ .u32 s.a0 s.a2)) (uZ .u32 s.a1 s.a2))
def rnd (s:A8 Int) (k w:Int):A8 Int:=⟨Q1.wrap (t1 s k w+t2 s),s.a0,s.a1,s.a2,Q1.wrap (s.a3+t1 s k w),s.a4,s.a5,s.a6⟩
def kF (w:List Int) (s:A8 Int):Nat->A8 Int
 | 0=>s
 | n+1=>rnd (kF w s n) (K2.getD n 0) (w.getD n 0)
theorem uH (h:t<n):ixN n (t:Int)=some t:=by
 have:(0:Int)<=t/\(t:Int)<n:=⟨by omega,by omega⟩;simp [ixN,this]
theorem nZ (h:t<l.length):l[t]? = some (l.getD t 0):=by simp [h]
theorem wO (h:t<2 ^ 40):Q0.wrap ((t:Int)+1)=((t+1:Nat):Int):=by rw [yR (by omega) (by omega)];simp
section
variable (a b c d e f g h:Int)
theorem yCl:idx [a,b,c,d,e,f,g,h] 0=some a:=rfl
theorem zQ3:idx [a,b,c,d,e,f,g,h] 1=some b:=rfl
theorem zQj:idx [a,b,c,d,e,f,g,h] 2=some c:=rfl
theorem yC1:idx [a,b,c,d,e,f,g,h] 3=some d:=rfl
theorem yDc:idx [a,b,c,d,e,f,g,h] 4=some e:=rfl
theorem zT3:idx [a,b,c,d,e,f,g,h] 5=some f:=rfl
theorem zT6:idx [a,b,c,d,e,f,g,h] 6=some g:=rfl
theorem yAt:idx [a,b,c,d,e,f,g,h] 7=some h:=rfl
end
theorem dlt (h:a<b):decide ((a:Int)<(b:Int))=true:=by simp;exact h
theorem dge (h:b<=a):decide ((a:Int)<(b:Int))=false:=by simp;omega
theorem zS4 (w:List Int) (s:A8 Int) (i:Nat) (hi:i<64) (hw:w.length=64):nU K2 w (a8 s,(i:Int))=some (.inl (a8 (rnd s (K2.getD i 0) (w.getD i 0)),((i+1:Nat):Int))):=by
 have e1:decide ((i:Int)<64)=true:=dlt (b:=64) hi;have e2:∀ x,wA x 6=some (rr x 6):=λx=>kB x 6 (by decide) (by decide);have e3:∀ x,wA x 11=some (rr x 11):=λx=>kB x 11 (by decide) (by decide);have e4:∀ x,wA x 25=some (rr x 25):=λx=>kB x 25 (by decide) (by decide);have e5:∀ x,wA x 2=some (rr x 2):=λx=>kB x 2 (by decide) (by decide);have e6:∀ x,wA x 13=some (rr x 13):=λx=>kB x 13 (by decide) (by decide);have e7:∀ x,wA x 22=some (rr x 22):=λx=>kB x 22 (by decide) (by decide);have k1:K2[i]? = some (K2.getD i 0):=nZ (by rw [zVu];exact hi);have k2:w[i]? = some (w.getD i 0):=nZ (by omega);unfold nU a8;refine ct e1 ?_;refine bd (yCl _ _ _ _ _ _ _ _) ?_;refine bd (yDc _ _ _ _ _ _ _ _) ?_;refine bd (yAt _ _ _ _ _ _ _ _) ?_;refine bd (e2 _) ?_;refine bd (e3 _) ?_;refine bd (e4 _) ?_;refine ltk ?_;refine bd (zT3 _ _ _ _ _ _ _ _) ?_;refine bd (zT6 _ _ _ _ _ _ _ _) ?_;refine ltk ?_;refine bd (uH hi) ?_;refine bd k1 ?_;refine ltk ?_;refine bd (uH hi) ?_;refine bd k2 ?_;refine bd (e5 _) ?_;refine bd (e6 _) ?_;refine bd (e7 _) ?_;refine bd (zQ3 _ _ _ _ _ _ _ _) ?_;refine bd (zQj _ _ _ _ _ _ _ _) ?_;refine ltk ?_;refine bd (zQ3 _ _ _ _ _ _ _ _) ?_;refine bd (zQj _ _ _ _ _ _ _ _) ?_;refine ltk ?_;refine ltk ?_;refine bd (zQ3 _ _ _ _ _ _ _ _) ?_;refine bd (zQj _ _ _ _ _ _ _ _) ?_;refine bd (yC1 _ _ _ _ _ _ _ _) ?_;refine ltk ?_;refine bd (zT3 _ _ _ _ _ _ _ _) ?_;refine bd (zT6 _ _ _ _ _ _ _ _) ?_;rw [wO (show i<2 ^ 40 by omega)];rfl
theorem zVi (w:List Int) (hw:w.length=64) (s:A8 Int):zN (nU K2 w) FU (a8 s,0)=some (a8 (kF w s 64)):=by
 refine yD 64 (λi=>(a8 (kF w s i),(i:Int))) rfl (λi hi=>zS4 w _ i hi hw) ?_ (xK (by decide));generalize kF w s 64=S;rfl
theorem zTc (w:List Int) (s:A8 Int) (i:Nat) (hi:i<64) (hw:w.length=64):uX w ((i:Int),s.a0,s.a1,s.a2,s.a3,s.a4,s.a5,s.a6,s.a7) =
  some (.inl (((i+1:Nat):Int),(rnd s (K2.getD i 0) (w.getD i 0)).a0,(rnd s (K2.getD i 0) (w.getD i 0)).a1,(rnd s (K2.getD i 0) (w.getD i 0)).a2,(rnd s (K2.getD i 0) (w.getD i 0)).a3,(rnd s (K2.getD i 0) (w.getD i 0)).a4,(rnd s (K2.getD i 0) (w.getD i 0)).a5,(rnd s (K2.getD i 0) (w.getD i 0)).a6,(rnd s (K2.getD i 0) (w.getD i 0)).a7)):=by
 have e1:decide ((i:Int)<64)=true:=dlt (b:=64) hi;have e2:∀ x,zQ x (-6)=some (rr x 6):=λx=>nX x _ 6 (by decide) (by decide) (by decide);have e3:∀ x,zQ x (-11)=some (rr x 11):=λx=>nX x _ 11 (by decide) (by decide) (by decide);have e4:∀ x,zQ x (-25)=some (rr x 25):=λx=>nX x _ 25 (by decide) (by decide) (by decide);have e5:∀ x,zQ x (-2)=some (rr x 2):=λx=>nX x _ 2 (by decide) (by decide) (by decide);have e6:∀ x,zQ x (-13)=some (rr x 13):=λx=>nX x _ 13 (by decide) (by decide) (by decide);have e7:∀ x,zQ x (-22)=some (rr x 22):=λx=>nX x _ 22 (by decide) (by decide) (by decide);have k1:idx wP (i:Int)=some (K2.getD i 0):=by rw [yO (show i<wP.length from hi)];simp [K2,show i<wP.length from hi]
 have k2:w[i]? = some (w.getD i 0):=nZ (by omega);unfold uX;refine ct e1 ?_;refine bd (e2 _) ?_;refine bd (e3 _) ?_;refine bd (e4 _) ?_;refine ltk ?_;refine ltk ?_;refine bd k1 ?_;refine ltk ?_;refine bd (uH hi) ?_;refine bd k2 ?_;refine bd (e5 _) ?_;refine bd (e6 _) ?_;refine bd (e7 _) ?_;refine ltk ?_;refine ltk ?_;refine ltk ?_;refine ltk ?_;rw [wO (show i<2 ^ 40 by omega)];rfl
theorem zUh (w:List Int) (hw:w.length=64) (s:A8 Int):zN (uX w) FU (0,s.a0,s.a1,s.a2,s.a3,s.a4,s.a5,s.a6,s.a7)=some ((kF w s 64).a0,(kF w s 64).a1,(kF w s 64).a2,(kF w s 64).a3,(kF w s 64).a4,(kF w s 64).a5,(kF w s 64).a6,(kF w s 64).a7):=by
 refine yD 64 (λi=>((i:Int),(kF w s i).a0,(kF w s i).a1,(kF w s i).a2,(kF w s i).a3,(kF w s i).a4,(kF w s i).a5,(kF w s i).a6,(kF w s i).a7)) rfl (λi hi=>zTc w _ i hi hw) ?_ (xK (by decide));generalize kF w s 64=S;rfl
set_option maxRecDepth 100000
theorem zN7 {l:By} {z:Int} (hz:z=(n:Int)) (h:n<l.length):idx l z=some (l.getD n 0):=by
 subst hz;simp [idx,h]
theorem dA {α:Type} {l:List α} {j:Nat} {u:α} (h:j<l.length):tQ l j u=some (l.set j u):=by simp [tQ,h]
def byt (b:By) (n:Nat):Int:=Q1.wrap (((b.getD n 0).toNat:Nat):Int)
def wd (b:By) (t:Nat):Int:=ior .u32 (ior .u32 (ior .u32 (mH .u32 (byt b (4*t)) 24) (mH .u32 (byt b (4*t+1)) 16)) (mH .u32 (byt b (4*t+2)) 8)) (byt b (4*t+3))
theorem zId (b:By) (t:Nat) (h:4*t+3<b.length) (h2:t<2 ^ 20):jQ b (t:Int)=some (wd b t):=by
 have e0:Q0.wrap (4*(t:Int))=((4*t:Nat):Int):=by rw [yR (by omega) (by omega)];simp
 unfold jQ;rw [e0];refine bd (zN7 rfl (by omega)) ?_;refine bd (zN7 (n:=4*t+1) (by rw [yR (by omega) (by omega)];simp) (by omega)) ?_;refine ltk ?_;refine bd (zN7 (n:=4*t+2) (by rw [yR (by omega) (by omega)];simp) (by omega)) ?_;refine ltk ?_;refine bd (zN7 (n:=4*t+3) (by rw [yR (by omega) (by omega)];simp) (by omega)) ?_;rfl
theorem zJw:fF=jQ:=rfl
def s0 (x:Int):Int:=wR .u32 (wR .u32 (rr x 7) (rr x 18)) (wV .u32 x 3)
def s1 (x:Int):Int:=wR .u32 (wR .u32 (rr x 17) (rr x 19)) (wV .u32 x 10)
def wv (b:By) (w:List Int) (t:Nat):Int:=
 if t<16 then wd b t else Q1.wrap (Q1.wrap (Q1.wrap (s1 (w.getD (t - 2) 0)+w.getD (t - 7) 0)+s0 (w.getD (t - 15) 0))+w.getD (t - 16) 0)
def bX (b:By):Nat->List Int
 | 0=>Q4 64 0
 | t+1=>(bX b t).set t (wv b (bX b t) t)
theorem eJ (b:By):∀ t,(bX b t).length=64
 | 0=>rfl
 | t+1=>by simp [bX,eJ b t]
theorem zZc (b:By) (w:List Int) (i:Nat) (hi:i<64) (hw:w.length=64) (hb:b.length=64):uY b ((i:Int),w)=some (.inl (((i+1:Nat):Int),w.set i (wv b w i))):=by
 have hiw:i<w.length:=by omega
 unfold uY;refine ct (dlt (b:=64) hi) ?_;refine bd (a:=w.set i (wv b w i)) ?_ (by rw [wO (show i<2 ^ 40 by omega)]);by_cases h:i<16
 ·refine ct (dlt (b:=16) h) ?_;rw [zJw];refine bd (zId b i (by omega) (by omega)) ?_;refine bd (uH hi) ?_;refine bd (dA hiw) ?_;simp [wv,h]
 refine cf (dge (b:=16) (by omega)) ?_;have x15:ixN 64 (Q0.wrap ((i:Int) - 15))=some (i - 15):=by rw [yR (by omega) (by omega),show (i:Int) - 15=((i - 15:Nat):Int) by omega];exact uH (by omega)
 have x2:ixN 64 (Q0.wrap ((i:Int) - 2))=some (i - 2):=by rw [yR (by omega) (by omega),show (i:Int) - 2=((i - 2:Nat):Int) by omega];exact uH (by omega)
 have x7:ixN 64 (Q0.wrap ((i:Int) - 7))=some (i - 7):=by rw [yR (by omega) (by omega),show (i:Int) - 7=((i - 7:Nat):Int) by omega];exact uH (by omega)
 have x16:ixN 64 (Q0.wrap ((i:Int) - 16))=some (i - 16):=by rw [yR (by omega) (by omega),show (i:Int) - 16=((i - 16:Nat):Int) by omega];exact uH (by omega)
 have w15:w[i - 15]? = some (w.getD (i - 15) 0):=nZ (by omega);have w2:w[i - 2]? = some (w.getD (i - 2) 0):=nZ (by omega);have w7:w[i - 7]? = some (w.getD (i - 7) 0):=nZ (by omega);have w16:w[i - 16]? = some (w.getD (i - 16) 0):=nZ (by omega);have e7:∀ x,zQ x (-7)=some (rr x 7):=λx=>nX x _ 7 (by decide) (by decide) (by decide);have e18:∀ x,zQ x (-18)=some (rr x 18):=λx=>nX x _ 18 (by decide) (by decide) (by decide);have e17:∀ x,zQ x (-17)=some (rr x 17):=λx=>nX x _ 17 (by decide) (by decide) (by decide);have e19:∀ x,zQ x (-19)=some (rr x 19):=λx=>nX x _ 19 (by decide) (by decide) (by decide);refine bd (x15) ?_;refine bd (w15) ?_;refine bd (x2) ?_;refine bd (w2) ?_;refine bd (e7 _) ?_;refine bd (e18 _) ?_;refine bd (e17 _) ?_;refine bd (e19 _) ?_;refine bd (x7) ?_;refine bd (w7) ?_;refine ltk ?_;refine ltk ?_;refine bd (x16) ?_;refine bd (w16) ?_;refine bd (uH hi) ?_;refine bd (dA hiw) ?_;simp only [wv,h,if_false];rfl
theorem zW4 (b:By) (hb:b.length=64):zN (uY b) FU (0,Q4 64 0)=some (bX b 64):=by
 refine yD 64 (λi=>((i:Int),bX b i)) rfl (λi hi=>zZc b _ i hi (eJ b i) hb) ?_ (xK (by decide));generalize bX b 64=S;rfl
def sT (x:By) (n:Nat):By:=(x.drop n).take 64
theorem zYg (x:By) (at':Nat) (w:List Int) (i:Nat) (hi:i<64) (hw:w.length=64) (hx:at'+64<=x.length) (hl:x.length<2 ^ 48):mC x (at':Int) ((i:Int),w)=some (.inl (((i+1:Nat):Int),w.set i (wv (sT x at') w i))):=by
 have hiw:i<w.length:=by omega
 have hbl:(sT x at').length=64:=by simp [sT];omega
 unfold mC;refine ct (dlt (b:=64) hi) ?_;refine bd (a:=w.set i (wv (sT x at') w i)) ?_ (by rw [wO (show i<2 ^ 40 by omega)]);by_cases h:i<16
 ·refine ct (dlt (b:=16) h) ?_;have hs:sub x (at':Int) (Q0.wrap ((at':Int)+64))=some (sT x at'):=by
   rw [yR (by omega) (by omega),show (at':Int)+64=((at'+64:Nat):Int) by simp,sP (by omega) hx];simp [sT]
  refine bd hs ?_;refine bd (zId _ i (by omega) (by omega)) ?_;refine bd (uH hi) ?_;refine bd (dA hiw) ?_;simp [wv,h]
 refine cf (dge (b:=16) (by omega)) ?_;have x15:ixN 64 (Q0.wrap ((i:Int) - 15))=some (i - 15):=by rw [yR (by omega) (by omega),show (i:Int) - 15=((i - 15:Nat):Int) by omega];exact uH (by omega)
 have x2:ixN 64 (Q0.wrap ((i:Int) - 2))=some (i - 2):=by rw [yR (by omega) (by omega),show (i:Int) - 2=((i - 2:Nat):Int) by omega];exact uH (by omega)
 have x7:ixN 64 (Q0.wrap ((i:Int) - 7))=some (i - 7):=by rw [yR (by omega) (by omega),show (i:Int) - 7=((i - 7:Nat):Int) by omega];exact uH (by omega)
 have x16:ixN 64 (Q0.wrap ((i:Int) - 16))=some (i - 16):=by rw [yR (by omega) (by omega),show (i:Int) - 16=((i - 16:Nat):Int) by omega];exact uH (by omega)
 have w15:w[i - 15]? = some (w.getD (i - 15) 0):=nZ (by omega);have w2:w[i - 2]? = some (w.getD (i - 2) 0):=nZ (by omega);have w7:w[i - 7]? = some (w.getD (i - 7) 0):=nZ (by omega);have w16:w[i - 16]? = some (w.getD (i - 16) 0):=nZ (by omega);have e7:∀ x,wA x 7=some (rr x 7):=λx=>kB x 7 (by decide) (by decide);have e18:∀ x,wA x 18=some (rr x 18):=λx=>kB x 18 (by decide) (by decide);have e17:∀ x,wA x 17=some (rr x 17):=λx=>kB x 17 (by decide) (by decide);have e19:∀ x,wA x 19=some (rr x 19):=λx=>kB x 19 (by decide) (by decide);refine bd (x15) ?_;refine bd (w15) ?_;refine bd (e7 _) ?_;refine bd (x15) ?_;refine bd (w15) ?_;refine bd (e18 _) ?_;refine bd (x15) ?_;refine bd (w15) ?_;refine bd (x2) ?_;refine bd (w2) ?_;refine bd (e17 _) ?_;refine bd (x2) ?_;refine bd (w2) ?_;refine bd (e19 _) ?_;refine bd (x2) ?_;refine bd (w2) ?_;refine bd (x7) ?_;refine bd (w7) ?_;refine ltk ?_;refine ltk ?_;refine bd (x16) ?_;refine bd (w16) ?_;refine bd (uH hi) ?_;refine bd (dA hiw) ?_;simp only [wv,h,if_false];rfl
theorem zWl (x:By) (at':Nat) (hx:at'+64<=x.length) (hl:x.length<2 ^ 48):zN (mC x (at':Int)) FU (0,Q4 64 0)=some (bX (sT x at') 64):=by
 refine yD 64 (λi=>((i:Int),bX (sT x at') i)) rfl (λi hi=>zYg x at' _ i hi (eJ _ i) hx hl) ?_ (xK (by decide));generalize bX (sT x at') 64=S;rfl
set_option maxRecDepth 100000
def zQ9 (h s:A8 Int):A8 Int:=⟨Q1.wrap (h.a0+s.a0),Q1.wrap (h.a1+s.a1),Q1.wrap (h.a2+s.a2),Q1.wrap (h.a3+s.a3),Q1.wrap (h.a4+s.a4),Q1.wrap (h.a5+s.a5),Q1.wrap (h.a6+s.a6),Q1.wrap (h.a7+s.a7)⟩
def zGy (h s:List Int):Nat->List Int
 | 0=>h
 | i+1=>(zGy h s i).set i (Q1.wrap ((zGy h s i).getD i 0+s.getD i 0))
theorem zGw (h s:List Int):∀ i,(zGy h s i).length=h.length
 | 0=>rfl
 | i+1=>by simp [zGy,zGw h s i]
theorem zRd (h s:A8 Int):zGy (a8 h) (a8 s) 8=a8 (zQ9 h s):=rfl
def zLf (h:A8 Int) (b:By):A8 Int:=zQ9 h (kF (bX b 64) h 64)
theorem zV2 (h s:A8 Int):zN (iU (a8 s)) FU (0,a8 h)=some (a8 (zQ9 h s)):=by
 rw [<- zRd];refine yD 8 (λi=>((i:Int),zGy (a8 h) (a8 s) i)) rfl (λi hi=>?_) ?_ (xK (by decide))
 ·have hl:(zGy (a8 h) (a8 s) i).length=8:=zGw _ _ _;unfold iU;refine ct (dlt (b:=8) hi) ?_;refine bd (uH hi) ?_;refine bd (nZ (by omega)) ?_;refine bd (a:=(a8 s).getD i 0) (by rw [yO (show i<(a8 s).length from hi)];simp [show i<(a8 s).length from hi]) ?_;refine bd (uH hi) ?_;refine bd (dA (by omega)) ?_;rw [wO (show i<2 ^ 40 by omega)];rfl
 ·generalize zGy (a8 h) (a8 s) 8=S;rfl
theorem zXy (h s:A8 Int):zN (vM s.a0 s.a1 s.a2 s.a3 s.a4 s.a5 s.a6 s.a7) FU (0,[h.a0,h.a1,h.a2,h.a3,h.a4,h.a5,h.a6,h.a7])=some (zQ9 h s):=by
 refine yD 8 (λi=>((i:Int),zGy (a8 h) (a8 s) i)) rfl (λi hi=>?_) ?_ (xK (by decide))
 ·have hl:(zGy (a8 h) (a8 s) i).length=8:=zGw _ _ _;unfold vM;refine ct (dlt (b:=8) hi) ?_;refine bd (uH hi) ?_;refine bd (nZ (by omega)) ?_;refine bd (uH hi) ?_;refine bd (a:=(a8 s).getD i 0) (nZ (l:=a8 s) hi) ?_;refine bd (uH hi) ?_;refine bd (dA (by omega)) ?_;rw [wO (show i<2 ^ 40 by omega)];rfl
 ·show vM s.a0 s.a1 s.a2 s.a3 s.a4 s.a5 s.a6 s.a7 (((8:Nat):Int),zGy (a8 h) (a8 s) 8)=_;rw [zRd];unfold vM;refine cf rfl ?_;refine bd (a:=zQ9 h s) rfl rfl
theorem zK9 (h:A8 Int) (b:By) (hb:b.length=64):sZ h b=some (zLf h b):=by
 unfold sZ;refine bd (zW4 b hb) ?_;refine bd (zUh _ (eJ b 64) h) ?_;refine bd (zXy h _) ?_;rfl
def zQs:A8 Int:=⟨1779033703,3144134277,1013904242,2773480762,1359893119,2600822924,528734635,1541459225⟩
def hsh (x:By):Nat->A8 Int
 | 0=>zQs
 | i+1=>zLf (hsh x i) (sT x (64*i))
def st8 (p:By) (h:A8 Int):By×Int×Int×Int×Int×Int×Int×Int×Int:=(p,h.a0,h.a1,h.a2,h.a3,h.a4,h.a5,h.a6,h.a7)
theorem zL9 (x:By) (n:Nat) (hx:x.length=64*n) (hl:x.length<2 ^ 48):zN lH FU (st8 x zQs)=some ((hsh x n).a0,(hsh x n).a1,(hsh x n).a2,(hsh x n).a3,(hsh x n).a4,(hsh x n).a5,(hsh x n).a6,(hsh x n).a7):=by
 refine yD n (λi=>st8 (x.drop (64*i)) (hsh x i)) (by simp [hsh]) (λi hi=>?_) ?_ (xK (by omega))
 ·have hd:(x.drop (64*i)).length=x.length - 64*i:=by simp
  unfold lH st8;refine ct (by simp;omega) ?_;refine bd (a:=sT x (64*i)) (by rw [show (0:Int)=((0:Nat):Int) from rfl,show (64:Int)=((64:Nat):Int) from rfl,sP (by omega) (by omega)];simp [sT]) ?_;refine bd (zK9 _ _ (by simp [sT];omega)) ?_;refine bd (a:=x.drop (64*(i+1))) (by rw [show (64:Int)=((64:Nat):Int) from rfl,sP (by omega) (by omega)];rw [Qu,Q3 (by simp;omega)];congr 2) ?_;rfl
 ·have hd:x.drop (64*n)=[]:=Qk (by omega);show lH (st8 (x.drop (64*n)) (hsh x n))=_;rw [hd];generalize hsh x n=S;rfl
theorem zL5 (x:By) (n:Nat) (hx:x.length=64*n) (hl:x.length<2 ^ 47):zN (qT K2 x) FU (0,a8 zQs)=some (a8 (hsh x n)):=by
 refine yD n (λi=>(((64*i:Nat):Int),a8 (hsh x i))) rfl (λi hi=>?_) ?_ (xK (by omega))
 ·unfold qT;refine ct (dlt (by omega)) ?_;refine bd (zWl x (64*i) (by omega) (by omega)) ?_;refine bd (ckT rfl) ?_;refine bd (a:=a8 (hsh x i)) (by rw [yG (by simp [a8])];rfl) ?_;refine bd (zVi _ (eJ _ 64) _) ?_;refine bd (zV2 _ _) ?_;rw [yR (by omega) (by omega),show ((64*i:Nat):Int)+64=((64*(i+1):Nat):Int) by omega];rfl
 ·show qT K2 x (((64*n:Nat):Int),a8 (hsh x n))=_;unfold qT;exact cf (dge (by omega)) rfl
def zs (n:Nat):Nat:=(119 - n % 64) % 64
def be8 (n:Int) (k:Nat):By:=(W0 k).map λ(j:Nat)=>u8 (wV .u64 n (56 - 8*(j:Int)))
theorem zIc (n:Int) (k:Nat):(be8 n k).length=k:=by simp [be8]
theorem zK5 (n:Int) (k:Nat):be8 n (k+1)=be8 n k++[u8 (wV .u64 n (56 - 8*(k:Int)))]:=by simp [be8,W1]
def yB3 (b:By):Int:=Q5.wrap (Q5.wrap (b.length:Int)*8)
def aD (b:By):By:=(b++[128]++Q4 (zs b.length) 0)++be8 (yB3 b) 8
theorem bH (b:By):(aD b).length=b.length+9+zs b.length:=by simp [aD,zIc];omega
theorem zCa (b:By):(aD b).length % 64=0:=by rw [bH];unfold zs;omega
theorem zHn (b:By) (hb:b.length<2 ^ 40):zN kL FU (b++[128])=some (b++[128]++Q4 (zs b.length) 0):=by
 have hz:zs b.length<64:=by unfold zs;omega
 refine yD (zs b.length) (λi=>b++[128]++Q4 i 0) (by simp) (λi hi=>?_) ?_ (xK (by omega))
 ·have hl:(b++[128]++Q4 i 0).length=b.length+1+i:=by simp;omega
  unfold kL;refine ct ?_ ?_
  ·rw [hl];simp only [bne_iff_ne,ne_eq];rw [Qe (by omega)];unfold zs at hi;omega
  ·refine bd (yG (by rw [hl];simp;omega)) ?_;rw [Q6,<- List.replicate_succ']
 ·have hl:(b++[128]++Q4 (zs b.length) 0).length=b.length+1+zs b.length:=by simp;omega
  unfold kL;refine cf ?_ rfl;rw [hl];simp only [bne_eq_false_iff_eq];rw [Qe (by omega)];unfold zs;omega
theorem zTf:zA3=kL:=rfl
theorem zQt (x:By) (n:Int) (hx:x.length<2 ^ 41):zN (bL n) FU (x,7)=some (x++be8 n 8):=by
 refine yD 8 (λi=>(x++be8 n i,7 - (i:Int))) (by simp [be8]) (λi hi=>?_) ?_ (xK (by decide))
 ·unfold bL;refine ct (by simp;omega) ?_;refine ltk ?_;have e:Q5.wrap (8*Q5.wrap (7 - (i:Int)))=56 - 8*(i:Int):=by
   rw [aN (n:=7 - (i:Int)) (by omega) (by omega),aN (by omega) (by omega)];omega
  rw [e];refine bd (yG (by simp [zIc];omega)) ?_;rw [yR (by omega) (by omega),Q6,<- zK5,show (7:Int) - (i:Int) - 1=7 - ((i+1:Nat):Int) by omega]
 ·generalize be8 n 8=S;rfl
theorem zRy (x:By) (n:Int) (hx:x.length<2 ^ 41):zN (fK n) FU (x,56)=some (x++be8 n 8):=by
 refine yD 8 (λi=>(x++be8 n i,56 - 8*(i:Int))) (by simp [be8]) (λi hi=>?_) ?_ (xK (by decide))
 ·unfold fK;refine ct (by simp;omega) ?_;rw [aN (n:=56 - 8*(i:Int)) (by omega) (by omega)];refine bd (yG (by simp [zIc];omega)) ?_;rw [yR (by omega) (by omega),Q6,<- zK5,show (56:Int) - 8*(i:Int) - 8=56 - 8*((i+1:Nat):Int) by omega]
 ·generalize be8 n 8=S;rfl
theorem zGx (b:By) (hb:b.length<2 ^ 40):cX b=some (aD b):=by
 have hz:zs b.length<64:=by unfold zs;omega
 unfold cX;refine bd (a:=b) (by rw [yG (by simp;omega)];simp) ?_;refine bd (yG (by simp;omega)) ?_;refine bd (zHn b hb) ?_;refine ltk ?_;refine bd (zQt _ _ (by simp;omega)) ?_;rfl
theorem zGq (b:By) (hb:b.length<2 ^ 40):iF b=some (aD b):=by
 have hz:zs b.length<64:=by unfold zs;omega
 unfold iF;refine bd (a:=b.length+72) (by unfold mkN;rw [yR (by omega) (by omega),if_pos (by omega)];congr 1) ?_;refine bd (a:=b) (by rw [yG (by simp;omega)];simp) ?_;refine bd (yG (by simp;omega)) ?_;rw [zTf];refine bd (zHn b hb) ?_;refine ltk ?_;refine bd (zRy _ _ (by simp;omega)) ?_;rfl
def be4 (w:Int):By:=[u8 (wV .u32 w 24),u8 (wV .u32 w 16),u8 (wV .u32 w 8),u8 w]
theorem zIn (l:List Int):(l.flatMap be4).length=4*l.length:=by
 induction l with
 | nil=>rfl
 | cons a r ih=>simp [ih,be4];omega
theorem zNk (l:List Int) (i:Nat) (hi:i<l.length):(l.take (i+1)).flatMap be4=(l.take i).flatMap be4++be4 (l.getD i 0):=by
 rw [Q7,Qi];congr 1;simp [hi]
theorem zQi (h:i<l.length):idx l (i:Int)=some (l.getD i 0):=by rw [yO h];simp [h]
theorem zKz (l:List Int) (hl:l.length<2 ^ 20):iL l=some (l.flatMap be4):=by
 have:zN (lL l) FU ([],0)=some (l.flatMap be4):=by
  refine yD l.length (λi=>((l.take i).flatMap be4,(i:Int))) (by simp) (λi hi=>?_) ?_ (xK (by omega))
  ·unfold lL;refine ct (dlt hi) ?_;refine bd (zQi hi) ?_;refine bd (zQi hi) ?_;refine bd (zQi hi) ?_;refine bd (zQi hi) ?_;refine bd (yG (by rw [zIn];simp;omega)) ?_;rw [zNk l i hi,wO (show i<2 ^ 40 by omega)];rfl
  ·unfold lL;refine cf (dge (Qd _)) ?_;simp
 unfold iL;exact bd this rfl
theorem zHy (l:List Int) (hl:l.length<2 ^ 20):pZ l=some (l.flatMap be4):=by
 have:zN (qW l) FU ([],0)=some (l.flatMap be4):=by
  refine yD l.length (λi=>((l.take i).flatMap be4,(i:Int))) (by simp) (λi hi=>?_) ?_ (xK (by omega))
  ·unfold qW;refine ct (dlt hi) ?_;refine bd (zQi hi) ?_;refine bd (yG (by rw [zIn];simp;omega)) ?_;rw [zNk l i hi,wO (show i<2 ^ 40 by omega)];rfl
  ·unfold qW;refine cf (dge (Qd _)) ?_;simp
 unfold pZ;refine bd (a:=4*l.length) (by unfold mkN;rw [yR (by omega) (by omega),if_pos (by omega)];congr 1) ?_;exact bd this rfl
def sha (b:By):By:=(a8 (hsh (aD b) ((aD b).length / 64))).flatMap be4
theorem zE3 (b:By):(sha b).length=32:=by unfold sha;rw [zIn];rfl
theorem zTh (b:By) (hb:b.length<2 ^ 40):fE b=some (sha b):=by
 have hz:zs b.length<64:=by unfold zs;omega
 have h1:=bH b;have h2:=zCa b;unfold fE;refine bd zI3 ?_;refine bd (ckT rfl) ?_;refine bd (zGx b hb) ?_;refine bd (zL5 (aD b) ((aD b).length / 64) (by omega) (by omega)) ?_;refine bd (ckT rfl) ?_;refine bd (zKz _ (by simp [a8])) ?_;rfl
theorem zIg (b:By) (hb:b.length<2 ^ 40):xT 1 b=some (sha b):=by
 have hz:zs b.length<64:=by unfold zs;omega
 have h1:=bH b;have h2:=zCa b;unfold xT;refine cf rfl ?_;refine ct rfl ?_;refine bd (zGq b hb) ?_;refine bd (zL9 (aD b) ((aD b).length / 64) (by omega) (by omega)) ?_;refine bd (zHy _ (by simp)) ?_;rfl
set_option maxRecDepth 100000
def hd4 (n:Nat):By:=[u8 (wV .i64 (n:Int) 24),u8 (wV .i64 (n:Int) 16),u8 (wV .i64 (n:Int) 8),u8 (n:Int)]
theorem yC8 (n:Nat) (h:n<2 ^ 32):[u8 (wV .u32 (Q1.wrap (n:Int)) 24),u8 (wV .u32 (Q1.wrap (n:Int)) 16),u8 (wV .u32 (Q1.wrap (n:Int)) 8),u8 (Q1.wrap (n:Int))]=hd4 n:=by
 rw [yB7 (by omega) (by omega)];rfl
def zQ4 (fs:List By):By:=fs.flatMap λf=>hd4 f.length++f
def frm (tag:Int) (fs:List By):By:=u8 tag :: zQ4 fs
def tot (fs:List By):Nat:=(fs.map λf=>4+f.length).sum
theorem zP9 (fs:List By):(zQ4 fs).length=tot fs:=by
 induction fs with
 | nil=>rfl
 | cons f r ih=>simp only [zQ4,tot,Qa,Q2,Qq,Qr] at ih ⊢;rw [ih];simp [hd4]
theorem zM3 (tag:Int) (fs:List By):(frm tag fs).length=1+tot fs:=by simp [frm,zP9];omega
theorem zRu (tag:Int) (fs:List By) (i:Nat) (hi:i<fs.length):frm tag (fs.take (i+1))=(frm tag (fs.take i)++hd4 (fs[i]).length)++fs[i]:=by
 unfold frm zQ4;rw [Q7,Qi];simp [hi]
theorem zR7 (fs:List By):∀ i,tot (fs.take i)<=tot fs:=by
 induction fs with
 | nil=>intro i;simp
 | cons f r ih=>
  intro i;cases i with
  | zero=>simp [tot]
  | succ j=>have:=ih j;simp only [tot,List.take_succ_cons,Qq,Qr] at this ⊢;omega
theorem zSy (fs:List By):fs.length<=tot fs:=by
 induction fs with
 | nil=>simp
 | cons f r ih=>simp only [tot,Qc,Qq,Qr] at ih ⊢;omega
theorem zTk (fs:List By) (i:Nat) (hi:i<fs.length):tot (fs.take i)+4+(fs[i]).length<=tot fs:=by
 have h:=zR7 fs (i+1);have e:tot (fs.take (i+1))=tot (fs.take i)+(4+(fs[i]).length):=by
  unfold tot;rw [Q7,List.map_append,List.sum_append];simp only [hi,List.getElem?_eq_getElem,Option.toList_some,Qq,List.map_nil,Qr,List.sum_nil];omega
 omega
theorem zOd (tag:Int) (fs:List By) (h:tot fs<2 ^ 32):jO tag fs=some (frm tag fs):=by
 have h1:=zSy fs;have:zN (oM fs) FU ([u8 tag],0)=some (frm tag fs):=by
  refine yD fs.length (λi=>(frm tag (fs.take i),(i:Int))) (by simp [frm,zQ4]) (λi hi=>?_) ?_ (xK (by omega))
  ·have h2:=zTk fs i hi;have h3:=zM3 tag (fs.take i);unfold oM;refine ct (dlt hi) ?_;refine bd (yO hi) ?_;rw [yC8 _ (by omega)];refine bd (yG (by simp [hd4];omega)) ?_;refine bd (yG (by simp [hd4];omega)) ?_;rw [zRu tag fs i hi,wO (show i<2 ^ 40 by omega)]
  ·unfold oM;refine cf (dge (Qd _)) ?_;simp
 unfold jO;exact bd this rfl
def hs (tag:Int) (fs:List By):By:=sha (frm tag fs)
theorem zBm (tag:Int) (fs:List By):(hs tag fs).length=32:=zE3 _
theorem zGh (tag:Int) (fs:List By) (h:tot fs<2 ^ 32):nA tag fs=some (hs tag fs):=by
 unfold nA;refine bd (zOd tag fs h) ?_;exact bd (zIg _ (by rw [zM3];omega)) rfl
def beN (n:Int) (size k:Nat):By:=(W0 k).map λ(j:Nat)=>u8 (wV .u64 (Q5.wrap n) (8*((size:Int) - 1 - (j:Int))))
theorem xC (n:Int) (size k:Nat):(beN n size k).length=k:=by simp [beN]
theorem zKh (n:Int) (size k:Nat):beN n size (k+1)=beN n size k++[u8 (wV .u64 (Q5.wrap n) (8*((size:Int) - 1 - (k:Int))))]:=by simp [beN,W1]
def sQ (b:By) (size:Nat) (n:Int):By:=b++beN n size size
theorem vN (b:By) (size:Nat) (n:Int):(sQ b size n).length=b.length+size:=by simp [sQ,xC]
theorem zGi (b:By) (size:Nat) (n:Int) (h1:1<=size) (h8:size<=8) (hb:b.length<2 ^ 40):jT b (size:Int) n=some (sQ b size n):=by
 have:zN (jL n) FU (b,(size:Int) - 1)=some (sQ b size n):=by
  refine yD size (λi=>(b++beN n size i,(size:Int) - 1 - (i:Int))) (by simp [beN]) (λi hi=>?_) ?_ (xK (by omega))
  ·unfold jL;refine ct (by simp;omega) ?_;refine ltk ?_;rw [aN (n:=(size:Int) - 1 - (i:Int)) (by omega) (by omega),aN (n:=8*((size:Int) - 1 - (i:Int))) (by omega) (by omega)];refine bd (yG (by simp [xC];omega)) ?_;rw [yR (by omega) (by omega),Q6,<- zKh,show (size:Int) - 1 - (i:Int) - 1=(size:Int) - 1 - ((i+1:Nat):Int) by omega]
  ·unfold jL;refine cf (by simp;omega) rfl
 unfold jT;refine bd (a:=b) (by rw [yG (by simp;omega)];simp) ?_;refine bd (a:=false) (cf (by simp;omega) (congrArg some (by simp;omega))) ?_;rw [yR (by omega) (by omega)];exact bd this rfl
theorem pG (b:By) (size:Nat) (n:Int) (h1:1<=size) (h8:size<=8) (hb:b.length<2 ^ 40):xY b (size:Int) n=some (sQ b size n):=by
 have:zN (jN n) FU (b,(size:Int) - 1)=some (sQ b size n):=by
  refine yD size (λi=>(b++beN n size i,(size:Int) - 1 - (i:Int))) (by simp [beN]) (λi hi=>?_) ?_ (xK (by omega))
  ·unfold jN;refine ct (by simp;omega) ?_;refine ltk ?_;rw [yR (n:=8*((size:Int) - 1 - (i:Int))) (by omega) (by omega),aN (n:=8*((size:Int) - 1 - (i:Int))) (by omega) (by omega)];refine bd (yG (by simp [xC];omega)) ?_;rw [yR (by omega) (by omega),Q6,<- zKh,show (size:Int) - 1 - (i:Int) - 1=(size:Int) - 1 - ((i+1:Nat):Int) by omega]
  ·unfold jN;refine cf (by simp;omega) rfl
 unfold xY;refine bd (a:=b) (by rw [yG (by simp;omega)];simp) ?_;refine bd (a:=false) (cf (by simp;omega) (congrArg some (by simp;omega))) ?_;rw [yR (by omega) (by omega)];exact bd this rfl
def zA7 (b x:By):By:=sQ b 2 ((x.take 65535).length:Int)++x.take 65535
theorem aU (b x:By):(zA7 b x).length<=b.length+65537:=by simp [zA7,vN];omega
theorem zKp (b x:By) (hb:b.length<2 ^ 39):eD b x=some (zA7 b x):=by
 unfold eD;refine bd (a:=x.take 65535) ?_ ?_
 ·by_cases h:65535<x.length
  ·refine ct (by simp;omega) ?_;exact bd (a:=x.take 65535) (by rw [show (0:Int)=((0:Nat):Int) from rfl,show (65535:Int)=((65535:Nat):Int) from rfl,sP (by omega) (by omega)];simp) rfl
  ·refine cf (by simp;omega) ?_;rw [Q3 (by omega)]
 ·refine bd (zGi b 2 _ (by omega) (by omega) (by omega)) ?_;refine bd (yG (by rw [vN];simp;omega)) ?_;rfl
theorem dU (b x:By) (hb:b.length<2 ^ 39):wJ b x=some (zA7 b x):=by
 unfold wJ;refine bd (a:=x.take 65535) ?_ ?_
 ·by_cases h:65535<x.length
  ·rw [if_pos (by omega),show (0:Int)=((0:Nat):Int) from rfl,show (65535:Int)=((65535:Nat):Int) from rfl,sP (by omega) (by omega)];simp
  ·rw [if_neg (by omega),show (0:Int)=((0:Nat):Int) from rfl,sP (by omega) (by omega)];simp;rw [Q3 (by omega)]
 ·refine bd (pG b 2 _ (by omega) (by omega) (by omega)) ?_;refine bd (yG (by rw [vN];simp;omega)) ?_;rfl
theorem zRt (a b:By) (ha:a.length<2 ^ 40):zAb a b=some (a==b):=by
 unfold zAb;by_cases h:a.length=b.length
 ·refine cf (by simp;omega) ?_;have:∃ r,zN (nC a b) FU 0=some r/\(match r with | .inl r=>r=false/\a≠b | .inr _=>a=b):=by
   refine zHq (λs=>∃ k:Nat,s=(k:Int)/\k<=a.length/\a.take k=b.take k) (λs=>a.length - s.toNat) _ (λs hs=>?_) FU 0 ⟨0,rfl,by omega,by simp⟩ (xK (by omega));obtain ⟨k,rfl,hk,he⟩:=hs;by_cases hk2:k<a.length
   ·by_cases hv:a[k]=b[k]
    ·refine .inl ⟨((k+1:Nat):Int),?_,⟨k+1,rfl,by omega,?_⟩,by simp;omega⟩
     ·unfold nC;refine ct (dlt hk2) ?_;refine bd (yO hk2) ?_;refine bd (yO (h▸hk2)) ?_;refine cf (by rw [hv];simp) ?_;rw [wO (by omega)]
     ·rw [Q7,Q7,he];simp [hk2,hv,h▸hk2]
    ·refine .inr ⟨.inl false,?_,rfl,λe=>hv (by subst e;rfl)⟩;unfold nC;refine ct (dlt hk2) ?_;refine bd (yO hk2) ?_;refine bd (yO (h▸hk2)) ?_;refine ct ?_ rfl;simp only [bne_iff_ne,ne_eq];intro e;exact hv (UInt8.toNat_inj.mp (by omega))
   ·refine .inr ⟨.inr (),?_,?_⟩
    ·unfold nC;exact cf (dge (by omega)) rfl
    ·have e1:a.take k=a:=Q3 (by omega);have e2:b.take k=b:=Q3 (by omega);rw [e1,e2] at he;exact he
  obtain ⟨r,h1,h2⟩:=this;refine bd h1 ?_;cases r with
  | inl r=>obtain ⟨rfl,h3⟩:=h2;simp [h3]
  | inr u=>simp [h2]
 ·refine ct (by simp;omega) ?_;have:a≠b:=λe=>h (by rw [e]);simp [this]
theorem zJy (a b:By):fH a b=some (a==b):=rfl
theorem zE2 (b:By) (h:b.length<2 ^ 40):sJ b=some b:=by
 unfold sJ;refine bd (yG (by simp;omega)) ?_;simp
set_option maxRecDepth 100000
structure RS where
 b:By
 at':Nat
 e:Int
def RS.W (r:RS):zE:=⟨r.b,(r.at':Int),r.e⟩
def RS.Ok (r:RS):Prop:=r.at'<=r.b.length/\r.b.length<2 ^ 40
def RS.err (r:RS) (e:Int):RS:=⟨r.b,r.at',e⟩
def RS.to (r:RS) (n:Nat):RS:=⟨r.b,r.at'+n,r.e⟩
def RS.left (r:RS):Nat:=r.b.length - r.at'
def RS.get (r:RS) (n:Nat):By:=(r.b.drop r.at').take n
theorem RS.get_len (r:RS) (n:Nat) (h:n<=r.left):(r.get n).length=n:=by simp [RS.get,RS.left] at *;omega
def cH (r:RS) (n:Nat):By×RS:=if r.e≠0 then ([],r) else if r.left<n then ([],r.err 2) else (r.get n,r.to n)
def beV (l:By):Nat->Int
 | 0=>0
 | k+1=>ior .u64 (mH .u64 (beV l k) 8) (Q5.wrap ((l.getD k 0).toNat:Int))
def rU (r:RS) (n:Nat):Int×RS:=
 if r.e≠0 then (0,r) else if r.left<n then (0,r.err 2) else if 9223372036854775808<=beV (r.get n) n then (0,r.err 4) else (Q0.wrap (beV (r.get n) n),r.to n)
def v2 (r:RS):Nat:=(r.b.getD r.at' 0).toNat*256+(r.b.getD (r.at'+1) 0).toNat
def qS (r:RS) (most:Nat):By×RS:=
 if r.e≠0 then ([],r) else if r.left<2 then ([],r.err 2) else if most<v2 r then ([],r.err 4) else if r.left<2+v2 r then ([],r.err 2) else ((r.b.drop (r.at'+2)).take (v2 r),r.to (2+v2 r))
def zH0 (r:RS):Int:=if r.e=0/\0<r.left then 3 else r.e
theorem zP6 (r:RS) (n:Nat) (h:r.Ok):(cH r n).2.Ok:=by
 unfold cH;split
 ·exact h
 split
 ·exact h
 ·obtain ⟨h1,h2⟩:=h;exact ⟨by simp only [RS.to,RS.left] at *;omega,h2⟩
theorem zH4 (r:RS) (n:Nat) (h:r.Ok):(rU r n).2.Ok:=by
 unfold rU;split
 ·exact h
 split
 ·exact h
 split
 ·exact h
 ·obtain ⟨h1,h2⟩:=h;exact ⟨by simp only [RS.to,RS.left] at *;omega,h2⟩
theorem zPl (r:RS) (n:Nat) (h:r.Ok):(qS r n).2.Ok:=by
 unfold qS;split
 ·exact h
 split
 ·exact h
 split
 ·exact h
 split
 ·exact h
 ·obtain ⟨h1,h2⟩:=h;exact ⟨by simp only [RS.to,RS.left] at *;omega,h2⟩
theorem zIr (r:RS) (h:r.Ok):Q0.wrap ((r.b.length:Int) - (r.at':Int))=(r.left:Int):=by
 obtain ⟨h1,h2⟩:=h;rw [yR (by omega) (by omega)];simp only [RS.left];omega
theorem zKe (r:zE) (a n:Nat) (h1:a<=r.b_.length) (h2:r.b_.length<2 ^ 40) (hn:r.b_.length - a<n):xF r (a:Int) (n:Int)=some ([],2,r):=by
 unfold xF;refine ct ?_ rfl;rw [yR (by omega) (by omega)];simp;omega
theorem zH1 (r:zE) (a n:Nat) (h2:r.b_.length<2 ^ 40) (hn:a+n<=r.b_.length):xF r (a:Int) (n:Int)=some ((r.b_.drop a).take n,0,r):=by
 unfold xF;refine cf ?_ ?_
 ·rw [yR (by omega) (by omega)];simp;omega
 ·refine bd (a:=(r.b_.drop a).take n) ?_ rfl;rw [yR (by omega) (by omega),show (a:Int)+(n:Int)=((a+n:Nat):Int) by omega,sP (by omega) (by omega),Nat.add_sub_cancel_left]
theorem zJa (r:RS) (n:Nat) (h:r.Ok) (hn:r.left<n):xF r.W (r.at':Int) (n:Int)=some ([],2,r.W):=zKe r.W r.at' n h.1 h.2 hn
theorem zFi (r:RS) (n:Nat) (h:r.Ok) (hn:n<=r.left):xF r.W (r.at':Int) (n:Int)=some (r.get n,0,r.W):=
 zH1 r.W r.at' n h.2 (by have:=h.1;simp only [RS.left] at hn;show r.at'+n<=r.b.length;omega)
theorem b0 (h:e=0):(e != 0)=false:=by subst h;rfl
theorem b1 (h:e≠0):(e != 0)=true:=by simp [h]
theorem c0 (h:e=0):(e==0)=true:=by subst h;rfl
theorem c1 (h:e≠0):(e==0)=false:=by simp [h]
theorem nneg (n:Nat):decide ((n:Int)<0)=false:=by simp
theorem zD2 (r:RS) (n:Nat) (h:r.Ok):vJ r.W (n:Int)=some ((cH r n).1,(cH r n).2.W):=by
 unfold vJ;by_cases he:r.e=0
 ·refine cf (b0 he) ?_;refine cf (nneg n) ?_;by_cases hn:r.left<n
  ·refine bd (zJa r n h hn) ?_;refine ct rfl ?_;rw [show cH r n=([],r.err 2) by simp [cH,he,hn]];rfl
  ·refine bd (zFi r n h (by omega)) ?_;refine cf rfl ?_;have hl:=RS.get_len r n (by omega);obtain ⟨h1,h2⟩:=h;refine bd (a:=r.get n) (by rw [yG (by simp;simp only [RS.left] at hn;omega)];simp) ?_;show some (r.get n,(⟨r.b,Q0.wrap ((r.at':Int)+(n:Int)),r.e⟩:zE))=_;have hn':=hn;simp only [RS.left] at hn';rw [yR (by omega) (by omega),show (r.at':Int)+(n:Int)=((r.at'+n:Nat):Int) by omega];rw [show cH r n=(r.get n,r.to n) by simp [cH,he,hn]];rfl
 ·refine ct (b1 he) ?_;rw [show cH r n=([],r) by simp [cH,he]]
theorem yA5 (l:By) (hl:l.length<2 ^ 40):zN (sD l) FU (0,0)=some (beV l l.length):=by
 refine yD l.length (λi=>(beV l i,(i:Int))) rfl (λi hi=>?_) ?_ (xK (by omega))
 ·unfold sD;refine ct (dlt hi) ?_;refine bd (yO hi) ?_;refine ltk ?_;rw [wO (show i<2 ^ 40 by omega)];simp [beV,hi]
 ·unfold sD;exact cf (dge (Qd _)) rfl
theorem rS (r:RS) (n:Nat) (h:r.Ok) (h1:1<=n) (h8:n<=8):yC r.W (n:Int)=some ((rU r n).1,(rU r n).2.W):=by
 unfold yC;by_cases he:r.e=0
 ·refine cf (b0 he) ?_;refine bd (a:=false) (cf (by simp;omega) (congrArg some (by simp;omega))) ?_;refine cf rfl ?_;by_cases hn:r.left<n
  ·refine bd (zJa r n h hn) ?_;refine ct rfl ?_;rw [show rU r n=(0,r.err 2) by simp [rU,he,hn]];rfl
  ·refine bd (zFi r n h (by omega)) ?_;refine cf rfl ?_;have hl:=RS.get_len r n (by omega);refine bd (a:=beV (r.get n) n) ((yA5 _ (by omega)).trans (by rw [hl])) ?_;by_cases hv:9223372036854775808<=beV (r.get n) n
   ·refine ct (by simp;omega) ?_;rw [show rU r n=(0,r.err 4) by simp [rU,he,hn,hv]];rfl
   ·refine cf (by simp;omega) ?_;obtain ⟨h1,h2⟩:=h;show some (_,(⟨r.b,Q0.wrap ((r.at':Int)+(n:Int)),r.e⟩:zE))=_;have hn':=hn;simp only [RS.left] at hn';rw [yR (n:=(r.at':Int)+(n:Int)) (by omega) (by omega),show (r.at':Int)+(n:Int)=((r.at'+n:Nat):Int) by omega];rw [show rU r n=(Q0.wrap (beV (r.get n) n),r.to n) by simp [rU,he,hn,hv]];rfl
 ·refine ct (b1 he) ?_;rw [show rU r n=(0,r) by simp [rU,he]]
theorem zUb (x y:UInt8):ior .i64 (mH .i64 (Q0.wrap (x.toNat:Int)) 8) (Q0.wrap (y.toNat:Int))=((x.toNat*256+y.toNat:Nat):Int):=by
 have hx:=x.toNat_lt;have hy:=y.toNat_lt;rw [yR (by omega) (by omega),yR (by omega) (by omega)];have e1:mH .i64 (x.toNat:Int) 8=((x.toNat*256:Nat):Int):=by
  show Q0.wrap ((x.toNat:Int)*256)=_;rw [yR (by omega) (by omega)];omega
 rw [e1];unfold ior;have e2:(Qf Q0.bits ((x.toNat*256:Nat):Int) ||| Qf Q0.bits (y.toNat:Int)).toNat=x.toNat*256+y.toNat:=by
  show (Qf 64 ((x.toNat*256:Nat):Int) ||| Qf 64 (y.toNat:Int)).toNat=_;rw [Qh,Qh,BitVec.toNat_or,Qj,Qj,Qn (by omega),Qn (by omega)];rw [Nat.mul_comm,show (256:Nat)=2 ^ 8 from rfl,<- Qp (by omega)]
 rw [e2,yR (by omega) (by omega)]
theorem ig {l:By} (h:i<l.length):idx l (i:Int)=some (l.getD i 0):=by rw [yO h];simp [h]
theorem oC (r:RS) (m:Nat) (h:r.Ok):yQ r.W (m:Int)=some ((qS r m).1,(qS r m).2.W):=by
 have hv:v2 r<65536:=by
  have h1:=(r.b.getD r.at' 0).toNat_lt;have h2:=(r.b.getD (r.at'+1) 0).toNat_lt;unfold v2;omega
 unfold yQ;by_cases he:r.e=0
 ·refine cf (b0 he) ?_;by_cases hn:r.left<2
  ·refine bd (zJa r 2 h hn) ?_;refine ct rfl ?_;rw [show qS r m=([],r.err 2) by simp [qS,he,hn]];rfl
  ·refine bd (zFi r 2 h (by omega)) ?_;refine cf rfl ?_;have hl:=RS.get_len r 2 (by omega);have hn':=hn;simp only [RS.left] at hn';refine bd (a:=r.b.getD r.at' 0) ?_ ?_
   ·refine (ig (l:=r.get 2) (i:=0) (by omega)).trans ?_;simp [RS.get]
   refine bd (a:=r.b.getD (r.at'+1) 0) ?_ ?_
   ·refine (ig (l:=r.get 2) (i:=1) (by omega)).trans ?_;simp [RS.get]
   refine ltk ?_;rw [zUb];show (bif decide ((m:Int)<(v2 r:Int)) then _ else _)=_;by_cases hm:m<v2 r
   ·refine ct (dlt hm) ?_;rw [show qS r m=([],r.err 4) by simp [qS,he,hn,hm]];rfl
   ·refine cf (dge (by omega)) ?_;obtain ⟨h1,h2⟩:=h;have hw:Q0.wrap ((r.at':Int)+2)=(((r.at'+2:Nat)):Int):=by rw [yR (by omega) (by omega)];omega
    show ((xF r.W (Q0.wrap ((r.at':Int)+2)) (v2 r:Int)).bind _)=_;rw [hw];by_cases hk:r.left<2+v2 r
    ·refine bd (a:=([],2,r.W)) ?_ ?_
     ·exact zKe r.W (r.at'+2) (v2 r) (by show r.at'+2<=r.b.length;omega) h2 (by simp only [RS.left] at hk;show r.b.length - (r.at'+2)<v2 r;omega)
     ·refine ct rfl ?_;rw [show qS r m=([],r.err 2) by simp [qS,he,hn,hm,hk]];rfl
    ·have hk':=hk;simp only [RS.left] at hk';refine bd (zH1 r.W (r.at'+2) (v2 r) h2 (by show r.at'+2+v2 r<=r.b.length;omega)) ?_;refine cf rfl ?_;refine ltk ?_;refine bd (a:=(r.b.drop (r.at'+2)).take (v2 r)) ?_ ?_
     ·refine (yG (by simp;omega)).trans ?_;rfl
     ·show some (_,(⟨r.b,Q0.wrap ((r.at':Int)+Q0.wrap (2+(v2 r:Int))),r.e⟩:zE))=_;rw [yR (n:=2+(v2 r:Int)) (by omega) (by omega),yR (by omega) (by omega),show (r.at':Int)+(2+(v2 r:Int))=((r.at'+(2+v2 r):Nat):Int) by omega];rw [show qS r m=((r.b.drop (r.at'+2)).take (v2 r),r.to (2+v2 r)) by simp [qS,he,hn,hm,hk]];rfl
 ·refine ct (b1 he) ?_;rw [show qS r m=([],r) by simp [qS,he]]
theorem zDz (r:RS) (h:r.Ok):wH r.W=some (zH0 r,r.W):=by
 unfold wH;by_cases he:r.e=0
 ·refine bd (a:=(decide (0<(r.left:Int)),r.b,(r.at':Int),r.e)) (ct (c0 he) ?_) ?_
  ·show some (decide (0<Q0.wrap ((r.b.length:Int) - (r.at':Int))),r.b,(r.at':Int),r.e)=_;rw [zIr r h]
  ·by_cases hl:0<r.left
   ·refine ct (by simp;omega) ?_;simp only [zH0,he,hl];rw [<- he];rfl
   ·refine cf (by simp;omega) ?_;simp only [zH0,he,hl];rw [<- he];simp [RS.W]
 ·refine bd (a:=(false,r.b,(r.at':Int),r.e)) (cf (c1 he) rfl) ?_;refine cf rfl ?_;simp only [zH0,he];simp [RS.W]
end Go.Proofs.TT
namespace Go.Sw
open Go
variable {a b:Nat}{i:Int}{j:Nat}{α β:Type}{P:α->Prop}{f:α->Option β}{l:List α}{o:Option α}
def Def (o:Option α) (P:α->Prop):Prop:=∃ a,o=some a/\P a
theorem Def.bd {Q:β->Prop} (h:Def o P) (k:∀ a,P a->Def (f a) Q):Def (o.bind f) Q:=by
 obtain ⟨a,rfl,h⟩:=h;exact k a h
theorem Def.s {a:α} {Q:α->Prop} (h:Q a):Def (some a) Q:=⟨a,rfl,h⟩
theorem Def.of {a:α} {Q:α->Prop} (e:o=some a) (h:Q a):Def o Q:=⟨a,e,h⟩
theorem Def.c {b:Bool} {x y:Option α} {Q:α->Prop} (h:b=true->Def x Q) (k:b=false->Def y Q):Def (bif b then x else y) Q:=by
 cases b
 ·exact k rfl
 ·exact h rfl
theorem Def.ck {b:Bool} (h:b=true):Def (Go.Sw.ck b) (λ_=>True):=⟨(),ckT h,trivial⟩
theorem Def.lt {e:α} {Q:β->Prop} (k:Def (f e) Q):Def (Go.Sw.lt e f) Q:=k
theorem Def.mono {Q:α->Prop} (h:Def o P) (k:∀ a,P a->Q a):Def o Q:=by
 obtain ⟨a,e,h⟩:=h;exact ⟨a,e,k a h⟩
theorem Def.get (d:α) (h:Def o P):o=some (o.getD d)/\P (o.getD d):=by
 obtain ⟨a,rfl,h⟩:=h;exact ⟨rfl,h⟩
theorem Def.loop {X Y:Type} {step:X->Option (X ⊕ Y)} {s:X} {Q:Y->Prop} (I:X->Prop) (m:X->Nat)
  (h:∀ s,I s->Def (step s) (λr=>match r with | .inl s'=>I s'/\m s'<m s | .inr r=>Q r)) (h0:I s) (hm:m s<2 ^ 64):Def (zN step FU s) Q:=by
 refine zHq I m Q (λs hs=>?_) FU s h0 (xK hm);obtain ⟨r,e,hr⟩:=h s hs;cases r with
 | inl s'=>exact .inl ⟨s',e,hr.1,hr.2⟩
 | inr r=>exact .inr ⟨r,e,hr⟩
theorem Def.app {m:List α} (h:(l.length+m.length)*b<=140737488355328):Def (yM b l m) (λr=>r=l++m):=⟨_,yG h,rfl⟩
theorem Def.idx (h0:0<=i) (h:i<l.length):Def (Go.Sw.idx l i) (λr=>r∈l):=by
 obtain ⟨n,rfl⟩:=Q9 h0;exact ⟨_,yO (by omega),Qb _⟩
theorem Def.sub {a b:Int} (h0:0<=a) (h1:a<=b) (h2:b<=l.length):Def (Go.Sw.sub l a b) (λr=>r=(l.drop a.toNat).take (b.toNat - a.toNat)):=by
 obtain ⟨n,rfl⟩:=Q9 h0;obtain ⟨m,rfl⟩:=Q9 (by omega:0<=b);exact ⟨_,sP (by omega) (by omega),rfl⟩
theorem Def.ixN {n:Nat} (h0:0<=i) (h:i<n):Def (Go.Sw.ixN n i) (λj=>j=i.toNat/\j<n):=by
 refine ⟨i.toNat,?_,rfl,by omega⟩;simp [Go.Sw.ixN,h0,h]
theorem Def.upd {u:α} (h:j<l.length):Def (tQ l j u) (λr=>r=l.set j u):=⟨_,by simp [tQ,h],rfl⟩
theorem Def.at (h:j<l.length):Def (l[j]?) (λr=>r∈l):=⟨l[j],by simp [h],Qb _⟩
theorem Def.mkN {n:Int} (h0:0<=n) (h:n<2 ^ 40):Def (mkN 1 n) (λj=>j=n.toNat):=⟨n.toNat,by unfold Go.Sw.mkN;rw [if_pos ⟨h0,by omega⟩],rfl⟩
theorem beqT (h:a=b):Nat.beq a b=true:=by subst h;exact Nat.beq_refl a
theorem zEd (h:a<=b):Nat.ble a b=true:=Nat.ble_eq.mpr h
end Go.Sw
namespace Go.Proofs.TT
open Go Go.Sw
set_option maxRecDepth 100000
end Go.Proofs.TT
namespace Go.Sw
open Go
theorem aM {X Y:Type} {s1 s2:X->Option (X ⊕ Y)} (I:X->Prop) (h:∀ s,I s->s1 s=s2 s/\Def (s2 s) (λr=>∀ s',r=.inl s'->I s')):∀ (n:Nat) (s:X),I s->zN s1 n s=zN s2 n s
 | 0,_,_=>rfl
 | n+1,s,hs=>by
  obtain ⟨e,r,hr,hI⟩:=h s hs;simp only [zN];rw [e,hr];cases r with
  | inl s'=>exact aM I h n s' (hI s' rfl)
  | inr y=>rfl
end Go.Sw
namespace Go.Proofs.TT
open Go Go.Sw
set_option maxRecDepth 100000
variable {a:Nat}{active:Int}{b c:Bool}{e:zB}{i j k m n:Nat}{p:Prop}{r:RS}{rest x:By}{α:Type}{l:List α}
theorem dT [Decidable p] (h:decide p=true):p:=by simpa using h
theorem dF [Decidable p] (h:decide p=false):¬ p:=by simpa using h
theorem Def.at' (h:i<l.length):Def (idx l (i:Int)) (λr=>r=l[i]):=⟨_,yO h,rfl⟩
theorem jP {R:Type} (l:List α) (step:Int->Option (Int ⊕ (R ⊕ Unit))) (G:Nat->Prop) (B:R->Prop) (hl:l.length<2 ^ 40)
  (h:∀ i,i<l.length->Def (step (i:Int)) (λr=>match r with | .inl j=>j=((i+1:Nat):Int)/\G i | .inr (.inl b)=>B b | .inr (.inr _)=>False))
  (he:step (l.length:Int)=some (.inr (.inr ()))):Def (zN step FU 0) (λr=>match r with | .inl b=>B b | .inr _=>∀ i,i<l.length->G i):=by
 refine Def.loop (λs=>∃ i:Nat,s=(i:Int)/\i<=l.length/\∀ k,k<i->G k) (λs=>l.length - s.toNat) (λs hs=>?_) ⟨0,rfl,by omega,λk hk=>by omega⟩ (by simp;omega);obtain ⟨i,rfl,hi,hg⟩:=hs;by_cases h2:i<l.length
 ·refine (h i h2).mono λr hr=>?_
  match r,hr with
  | .inl j,hr=>
   refine ⟨⟨i+1,hr.1,h2,λk hk=>?_⟩,by rw [hr.1];simp only [Q8];omega⟩;by_cases hk2:k<i
   ·exact hg k hk2
   ·have:k=i:=by omega
    subst this;exact hr.2
  | .inr (.inl b),hr=>exact hr
  | .inr (.inr u),hr=>exact hr.elim
 ·have:i=l.length:=by omega
  subst this;exact Def.of he hg
theorem two {X Y:Type} {step:X->Option (X ⊕ Y)} {a b c:X} {r:Y} (h0:step a=some (.inl b)) (h1:step b=some (.inl c)) (h2:step c=some (.inr r)):zN step FU a=some r:=by
 refine yD 2 (λi=>match i with | 0=>a | 1=>b | _=>c) rfl (λi hi=>?_) h2 (xK (by decide));have:i=0∨i=1:=by omega
 rcases this with rfl | rfl
 ·exact h0
 ·exact h1
theorem zXp (x n m:Int) (h:uZ .u64 (Q5.wrap n) 31=32 - m) (hn:n=32 - m) (h0:0<=m) (h1:m<=32):zQ x n=sL x n:=by
 rw [nX x n m h h0 h1];subst hn;have h2:Q5.wrap (32 - (32 - m))=m:=by rw [Ql];omega
 have h4:decide ((0:Int)<=32 - m)=true:=by simp;omega
 simp only [sL,ck,lt,h2,h4,rr,cond_true,Qm];rw [zKj]
theorem rot1 (x:Int):zQ x 1=sL x 1:=zXp x 1 31 (by decide) (by decide) (by decide) (by decide)
theorem rot5 (x:Int):zQ x 5=sL x 5:=zXp x 5 27 (by decide) (by decide) (by decide) (by decide)
theorem yCw (x:Int):zQ x 30=sL x 30:=zXp x 30 2 (by decide) (by decide) (by decide) (by decide)
theorem zFz (x n:Int) (h0:0<=n):Def (sL x n) (λ_=>True):=by
 unfold sL;refine Def.bd (Def.ck (by simpa using h0)) (λ_ _=>?_);exact Def.lt (Def.s trivial)
theorem w80 {w:List Int} (hw:w.length=80) (hj:j<80):Def (w[j]?) (λ_=>True):=(Def.at (by omega)).mono λ_ _=>trivial
theorem ixw (hn:j<n) (z:Int) (hz:z=(j:Int)):Def (Go.Sw.ixN n z) (λr=>r=j):=by
 subst hz;exact (Def.ixN (by omega) (by omega)).mono λa h=>by rw [h.1];simp
theorem s1_s (x:By) (at' i:Nat) (w:List Int) (h:at'+64<=x.length) (hb:x.length<2 ^ 42) (hi:i<=80) (hw:w.length=80) :
  Def (tU x (at':Int) ((i:Int),w)) (λr=>match r with | .inl s=>∃ w',s=(((i+1:Nat):Int),w')/\i<80/\w'.length=80 | .inr w=>w.length=80):=by
 unfold tU;refine Def.c (λh=>?_) (λ_=>Def.s hw);have hi2:i<80:=by have:=dT h;omega
 have up:∀ v,Def ((Go.Sw.ixN 80 (i:Int)).bind λj=>(tQ w j v).bind λw=>some w) (λw'=>w'.length=80):=λv=>by
  refine Def.bd (ixw hi2 _ rfl) (λj hj=>?_);subst hj;exact Def.bd (Def.upd (by omega)) (λr hr=>Def.s (by rw [hr];simpa using hw))
 refine Def.bd (P:=λw'=>w'.length=80) ?_ (λw' hw'=>Def.s ⟨w',by rw [wO (by omega)],hi2,hw'⟩);refine Def.c (λh16=>?_) (λh16=>?_)
 ·have h16':i<16:=by have:=dT h16;omega
  rw [yR (by omega) (by omega)];refine Def.bd (Def.sub (by omega) (by omega) (by omega)) (λy hy=>?_);have hyl:y.length=64:=by rw [hy];simp;omega
  exact Def.bd (P:=λ_=>True) (Def.of (zId y i (by omega) (by omega)) trivial) (λv _=>up v)
 ·have h16':16<=i:=by have:=dF h16;omega
  have wr:∀ k:Nat,k<=16->Q0.wrap ((i:Int) - (k:Int))=((i - k:Nat):Int):=λk hk=>by rw [yR (by omega) (by omega)];omega
  refine Def.bd (ixw (show i - 3<80 by omega) _ (wr 3 (by omega))) (λj hj=>?_);refine Def.bd (w80 hw (by omega)) (λ_ _=>?_);refine Def.bd (ixw (show i - 8<80 by omega) _ (wr 8 (by omega))) (λj hj=>?_);refine Def.bd (w80 hw (by omega)) (λ_ _=>?_);refine Def.bd (ixw (show i - 14<80 by omega) _ (wr 14 (by omega))) (λj hj=>?_);refine Def.bd (w80 hw (by omega)) (λ_ _=>?_);refine Def.bd (ixw (show i - 16<80 by omega) _ (wr 16 (by omega))) (λj hj=>?_);refine Def.bd (w80 hw (by omega)) (λ_ _=>?_);refine Def.lt ?_;exact Def.bd (zFz _ _ (by decide)) (λv _=>up v)
theorem s1_e (x:By) (at' i:Nat) (w:List Int) (h:at'+64<=x.length) (hb:x.length<2 ^ 42):uF (sT x at') ((i:Int),w)=tU x (at':Int) ((i:Int),w):=by
 unfold uF tU;have hs:sub x (at':Int) (Q0.wrap ((at':Int)+64))=some (sT x at'):=by
  rw [yR (by omega) (by omega),show (at':Int)+64=((at'+64:Nat):Int) by omega,sP (by omega) (by omega)];simp [sT]
 simp only [rot1,hs,zJw,Qm]
theorem zYe (x:By) (at':Nat) (h:at'+64<=x.length) (hb:x.length<2 ^ 42) :
  Def (zN (tU x (at':Int)) FU (0,Q4 80 0)) (λw=>w.length=80/\zN (uF (sT x at')) FU (0,Q4 80 0)=some w):=by
 have e:zN (uF (sT x at')) FU (0,Q4 80 0)=zN (tU x (at':Int)) FU (0,Q4 80 0):=by
  refine aM (λs=>∃ i:Nat,s.1=(i:Int)/\i<=80/\s.2.length=80) (λs hs=>?_) _ _ ⟨0,rfl,by omega,by simp⟩;obtain ⟨i',w⟩:=s;obtain ⟨i,h1,hi,hw⟩:=hs;have h1:i'=(i:Int):=h1;subst h1;refine ⟨s1_e x at' i w h hb,(s1_s x at' i w h hb hi hw).mono λr hr s' hs'=>?_⟩;subst hs';obtain ⟨w',rfl,h2,h3⟩:=hr;exact ⟨i+1,rfl,by omega,h3⟩
 rw [e];obtain ⟨w,h1,h2⟩:Def (zN (tU x (at':Int)) FU (0,Q4 80 0)) (λw=>w.length=80):=by
  refine Def.loop (λs=>∃ i:Nat,s.1=(i:Int)/\i<=80/\s.2.length=80) (λs=>80 - s.1.toNat) (λs hs=>?_) ⟨0,rfl,by omega,by simp⟩ (by simp);obtain ⟨i',w⟩:=s;obtain ⟨i,h1,hi,hw⟩:=hs;have h1:i'=(i:Int):=h1;subst h1;refine (s1_s x at' i w h hb hi hw).mono λr hr=>?_;cases r with
  | inl s'=>
   obtain ⟨w',rfl,h2,h3⟩:=hr;exact ⟨⟨i+1,rfl,by omega,h3⟩,by simp only [Q8];omega⟩
  | inr w=>exact hr
 exact ⟨w,h1,h2,h1⟩
theorem r1_s (w:List Int) (hw:w.length=80) (a b c d e:Int) (i:Nat) (hi:i<=80) :
  Def (tV w (a,b,c,d,e,(i:Int))) (λr=>match r with | .inl s=>s.2.2.2.2.2=((i+1:Nat):Int)/\i<80 | .inr _=>True):=by
 unfold tV;refine Def.c (λh=>?_) (λ_=>Def.s trivial);have hi2:i<80:=by have:=dT h;omega
 refine Def.bd (P:=λ_=>True) ?_ (λx _=>?_)
 ·exact Def.c (λ_=>Def.lt (Def.s trivial)) (λ_=>Def.c (λ_=>Def.s trivial) (λ_=>Def.c (λ_=>Def.lt (Def.s trivial)) (λ_=>Def.s trivial)))
 obtain ⟨f,k⟩:=x;refine Def.bd (zFz _ _ (by decide)) (λ_ _=>?_);refine Def.lt ?_;refine Def.bd (ixw hi2 _ rfl) (λj hj=>?_);refine Def.bd (w80 hw (by omega)) (λ_ _=>?_);refine Def.lt ?_;refine Def.bd (zFz _ _ (by decide)) (λ_ _=>Def.s ?_);exact ⟨wO (by omega),hi2⟩
theorem r1_e (w:List Int) (a b c d e:Int) (i:Nat) (hi:i<=80):uG w (a,b,c,d,e,(i:Int))=tV w (a,b,c,d,e,(i:Int)):=by
 have hq:Q0.wrap (W6 (i:Int) 20)=((i / 20:Nat):Int):=by
  rw [show W6 (i:Int) 20=((i / 20:Nat):Int) from rfl];exact yR (by omega) (by omega)
 unfold uG tV;simp only [rot5,yCw,hq];by_cases h1:i<20
 ·rw [show (((i / 20:Nat):Int)==0)=true by simp;omega,show decide ((i:Int)<20)=true by simp;omega];rfl
 by_cases h2:i<40
 ·rw [show (((i / 20:Nat):Int)==0)=false by simp;omega,show decide ((i:Int)<20)=false by simp;omega,show (((i / 20:Nat):Int)==1)=true by simp;omega,show decide ((i:Int)<40)=true by simp;omega];rfl
 by_cases h3:i<60
 ·rw [show (((i / 20:Nat):Int)==0)=false by simp;omega,show decide ((i:Int)<20)=false by simp;omega,show (((i / 20:Nat):Int)==1)=false by simp;omega,show decide ((i:Int)<40)=false by simp;omega,show (((i / 20:Nat):Int)==2)=true by simp;omega,show decide ((i:Int)<60)=true by simp;omega]
 ·by_cases h4:i<80
  ·rw [show (((i / 20:Nat):Int)==0)=false by simp;omega,show decide ((i:Int)<20)=false by simp;omega,show (((i / 20:Nat):Int)==1)=false by simp;omega,show decide ((i:Int)<40)=false by simp;omega,show (((i / 20:Nat):Int)==2)=false by simp;omega,show decide ((i:Int)<60)=false by simp;omega]
  ·rw [show decide ((i:Int)<80)=false by simp;omega];rfl
theorem yCu (w:List Int) (hw:w.length=80) (a b c d e:Int):Def (zN (tV w) FU (a,b,c,d,e,0)) (λr=>zN (uG w) FU (a,b,c,d,e,0)=some r):=by
 have e1:zN (uG w) FU (a,b,c,d,e,0)=zN (tV w) FU (a,b,c,d,e,0):=by
  refine aM (λs=>∃ i:Nat,s.2.2.2.2.2=(i:Int)/\i<=80) (λs hs=>?_) _ _ ⟨0,rfl,by omega⟩;obtain ⟨a,b,c,d,e,v⟩:=s;obtain ⟨i,h1,hi⟩:=hs;have h1:v=(i:Int):=h1;subst h1;refine ⟨r1_e w a b c d e i hi,(r1_s w hw a b c d e i hi).mono λr hr s' hs'=>?_⟩;subst hs';exact ⟨i+1,hr.1,by have:=hr.2;omega⟩
 rw [e1];obtain ⟨r,h1,_⟩:Def (zN (tV w) FU (a,b,c,d,e,0)) (λ_=>True):=by
  refine Def.loop (λs=>∃ i:Nat,s.2.2.2.2.2=(i:Int)/\i<=80) (λs=>80 - s.2.2.2.2.2.toNat) (λs hs=>?_) ⟨0,rfl,by omega⟩ (by simp);obtain ⟨a,b,c,d,e,v⟩:=s;obtain ⟨i,h1,hi⟩:=hs;have h1:v=(i:Int):=h1;subst h1;refine (r1_s w hw a b c d e i hi).mono λr hr=>?_;cases r with
  | inl s'=>exact ⟨⟨i+1,hr.1,by have:=hr.2;omega⟩,by rw [hr.1];simp only [Q8];have:=hr.2;omega⟩
  | inr r=>trivial
 exact ⟨r,h1,h1⟩
def a5 (s:A5 Int):List Int:=[s.a0,s.a1,s.a2,s.a3,s.a4]
def zRf (h:A5 Int) (b:By):A5 Int:=(uS h b).getD h
theorem blk1 (x:By) (at':Nat) (h:A5 Int) (hx:at'+64<=x.length) (hb:x.length<2 ^ 42) :
  uS h (sT x at')=some (zRf h (sT x at'))/\pJ x (a5 h,(at':Int))=some (.inl (a5 (zRf h (sT x at')),((at'+64:Nat):Int))):=by
 obtain ⟨w,hw1,hw2,hw3⟩:=zYe x at' hx hb;obtain ⟨⟨a,b,c,d,e⟩,hr1,hr2⟩:=yCu w hw2 h.a0 h.a1 h.a2 h.a3 h.a4;have e1:uS h (sT x at')=some ⟨Q1.wrap (h.a0+a),Q1.wrap (h.a1+b),Q1.wrap (h.a2+c),Q1.wrap (h.a3+d),Q1.wrap (h.a4+e)⟩:=by
  unfold uS;refine bd hw3 ?_;exact bd hr2 rfl
 have e2:zRf h (sT x at')=⟨Q1.wrap (h.a0+a),Q1.wrap (h.a1+b),Q1.wrap (h.a2+c),Q1.wrap (h.a3+d),Q1.wrap (h.a4+e)⟩:=by
  unfold zRf;rw [e1];rfl
 rw [e2];refine ⟨e1,?_⟩;unfold pJ;refine ct (dlt (by omega)) ?_;refine bd hw1 ?_;refine bd (a:=h.a0) rfl ?_;refine bd (a:=h.a1) rfl ?_;refine bd (a:=h.a2) rfl ?_;refine bd (a:=h.a3) rfl ?_;refine bd (a:=h.a4) rfl ?_;refine bd hr1 ?_;refine bd (a:=h.a0) rfl ?_;refine bd (a:=h.a1) rfl ?_;refine bd (a:=h.a2) rfl ?_;refine bd (a:=h.a3) rfl ?_;refine bd (a:=h.a4) rfl ?_;rw [yR (by omega) (by omega),show (at':Int)+64=((at'+64:Nat):Int) by omega];rfl
def zP2:A5 Int:=⟨1732584193,4023233417,2562383102,271733878,3285377520⟩
def zAv (x:By):Nat->A5 Int
 | 0=>zP2
 | i+1=>zRf (zAv x i) (sT x (64*i))
def st5 (p:By) (h:A5 Int):By×Int×Int×Int×Int×Int:=(p,h.a0,h.a1,h.a2,h.a3,h.a4)
theorem zJ0 (x:By) (n:Nat) (hx:x.length=64*n) (hl:x.length<2 ^ 42):zN lK FU (st5 x zP2)=some ((zAv x n).a0,(zAv x n).a1,(zAv x n).a2,(zAv x n).a3,(zAv x n).a4):=by
 refine yD n (λi=>st5 (x.drop (64*i)) (zAv x i)) (by simp [zAv]) (λi hi=>?_) ?_ (xK (by omega))
 ·have hd:(x.drop (64*i)).length=x.length - 64*i:=by simp
  unfold lK st5;refine ct (by simp;omega) ?_;refine bd (a:=sT x (64*i)) (by rw [show (0:Int)=((0:Nat):Int) from rfl,show (64:Int)=((64:Nat):Int) from rfl,sP (by omega) (by omega)];simp [sT]) ?_;refine bd (blk1 x (64*i) (zAv x i) (by omega) hl).1 ?_;refine bd (a:=x.drop (64*(i+1))) (by rw [show (64:Int)=((64:Nat):Int) from rfl,sP (by omega) (by omega)];rw [Qu,Q3 (by simp;omega)];congr 2) ?_;rfl
 ·have hd:x.drop (64*n)=[]:=Qk (by omega);show lK (st5 (x.drop (64*n)) (zAv x n))=_;rw [hd];generalize zAv x n=S;rfl
theorem zJ5 (x:By) (n:Nat) (hx:x.length=64*n) (hl:x.length<2 ^ 42):zN (pJ x) FU (a5 zP2,0)=some (a5 (zAv x n)):=by
 refine yD n (λi=>(a5 (zAv x i),((64*i:Nat):Int))) rfl (λi hi=>?_) ?_ (xK (by omega))
 ·exact (blk1 x (64*i) (zAv x i) (by omega) hl).2
 ·show pJ x (a5 (zAv x n),((64*n:Nat):Int))=_;unfold pJ;exact cf (dge (by omega)) rfl
def mX (b:By):By:=(a5 (zAv (aD b) ((aD b).length / 64))).flatMap be4
theorem zJl (b:By):(mX b).length=20:=by unfold mX;rw [zIn];rfl
theorem zPw (b:By) (hb:b.length<2 ^ 40):aZ b=some (mX b):=by
 have hz:zs b.length<64:=by unfold zs;omega
 have h1:=bH b;have h2:=zCa b;unfold aZ;refine bd (zGx b hb) ?_;refine bd (zJ5 (aD b) ((aD b).length / 64) (by omega) (by omega)) ?_;exact bd (zKz _ (by simp [a5])) rfl
theorem zRj (b:By) (hb:b.length<2 ^ 40):xT 0 b=some (mX b):=by
 have hz:zs b.length<64:=by unfold zs;omega
 have h1:=bH b;have h2:=zCa b;unfold xT;refine ct rfl ?_;refine bd (zGq b hb) ?_;refine bd (zJ0 (aD b) ((aD b).length / 64) (by omega) (by omega)) ?_;exact bd (zHy _ (by simp)) rfl
theorem zO9 (h:k<l.length):l.drop k=l[k] :: l.drop (k+1):=List.drop_eq_getElem_cons h
theorem yAd (k:IntKind) (n j:Nat) (h:j<=k.bits):wV k (n:Int) (j:Int)=((n / 2 ^ j:Nat):Int):=by
 unfold wV;rw [Q8,Nat.min_eq_left h,Int.fdiv_eq_ediv_of_nonneg _ (by have:(0:Int)<2 ^ j:=Int.pow_pos (by decide);omega)];rw [Int.natCast_ediv];simp
theorem wb (x:UInt8):Q0.wrap (x.toNat:Int)=(x.toNat:Int):=by
 have:=x.toNat_lt;rw [yR (by omega) (by omega)]
theorem iV (n:Nat):(u8 (n:Int)).toNat=n % 256:=by
 have:((n:Int) % 256).toNat=n % 256:=by omega
 rw [u8,this];simp
theorem zKo {l:List By} (h:i<l.length):idx l (i:Int)=some (l.getD i []):=by rw [yO h];simp [h]
set_option maxRecDepth 100000
structure Rem (r:RS) (l:By):Prop where
 e:r.e=0
 at':r.at'<=r.b.length
 d:r.b.drop r.at'=l
theorem Rem.left {l:By} (h:Rem r l):r.left=l.length:=by
 have:=congrArg Qy h.d;simp at this;exact this
theorem Rem.to (h:Rem r (x++rest)) (hx:x.length=n):Rem (r.to n) rest:=by
 have hl:=h.left;have ha:=h.at';simp only [RS.left,Q2] at hl;refine ⟨h.e,by simp only [RS.to];omega,?_⟩;show r.b.drop (r.at'+n)=rest;rw [<- Qu,h.d,<- hx,List.drop_left]
theorem Rem.raw (h:Rem r (x++rest)) (hx:x.length=n):cH r n=(x,r.to n):=by
 have hl:=h.left;rw [Q2] at hl;unfold cH;rw [if_neg (by simp [h.e]),if_neg (by omega)];have:r.get n=x:=by
  unfold RS.get;rw [h.d,<- hx,Qv]
 rw [this]
theorem Rem.uint (h:Rem r (x++rest)) (hx:x.length=n) (hv:¬ 9223372036854775808<=beV x n):rU r n=(Q0.wrap (beV x n),r.to n):=by
 have hl:=h.left;rw [Q2] at hl;unfold rU;have:r.get n=x:=by
  unfold RS.get;rw [h.d,<- hx,Qv]
 rw [if_neg (by simp [h.e]),if_neg (by omega),this,if_neg hv]
theorem Rem.blob {a b:UInt8} (h:Rem r ([a,b]++(x++rest))) (hx:x.length=a.toNat*256+b.toNat) (hm:x.length<=m):qS r m=(x,r.to (2+x.length))/\Rem (r.to (2+x.length)) rest:=by
 have hl:=h.left;have ha:=h.at';simp only [Q2,Qc,Qo] at hl;have hd:=h.d;have e0:r.b.getD r.at' 0=a:=by
  have:=congrArg (λl=>l.getD 0 0) hd;simpa using this
 have e1:r.b.getD (r.at'+1) 0=b:=by
  have:=congrArg (λl=>l.getD 1 0) hd;simpa using this
 have ev:v2 r=x.length:=by unfold v2;rw [e0,e1,hx]
 have h2:Rem (r.to 2) (x++rest):=Rem.to (x:=[a,b]) h rfl;have hd2:r.b.drop (r.at'+2)=x++rest:=h2.d;constructor
 ·unfold qS;rw [if_neg (by simp [h.e]),if_neg (by omega),ev,if_neg (by omega),if_neg (by omega),hd2,Qv]
 ·have:=Rem.to h2 rfl;have e:(r.to 2).to x.length=r.to (2+x.length):=by simp [RS.to,Nat.add_assoc]
  rw [<- e];exact this
theorem Rem.uintV {v:Int} (h:Rem r (x++rest)) (hx:x.length=n) (hv:beV x n=v) (h0:0<=v) (h1:v<9223372036854775808):rU r n=(v,r.to n):=by
 rw [h.uint hx (by omega),hv,yR (by omega) (by omega)]
theorem zJt (a b:Nat) (ha:a<2 ^ 56) (hb:b<256):ior .u64 (mH .u64 (a:Int) 8) (Q5.wrap (b:Int))=((a*256+b:Nat):Int):=by
 rw [aN (by omega) (by omega)];have e1:mH .u64 (a:Int) 8=((a*256:Nat):Int):=by
  show Q5.wrap ((a:Int)*256)=_;rw [aN (by omega) (by omega)];omega
 rw [e1];unfold ior;have e2:(Qf Q5.bits ((a*256:Nat):Int) ||| Qf Q5.bits (b:Int)).toNat=a*256+b:=by
  show (Qf 64 ((a*256:Nat):Int) ||| Qf 64 (b:Int)).toNat=_;rw [Qh,Qh,BitVec.toNat_or,Qj,Qj,Qn (by omega),Qn (by omega)];rw [Nat.mul_comm,show (256:Nat)=2 ^ 8 from rfl,<- Qp (by omega)]
 rw [e2,aN (by omega) (by omega)]
theorem zJc (n size k:Nat) (hn:n<2 ^ 64) (hk:k<size) (h8:size<=8):((beN (n:Int) size size).getD k 0).toNat=n / 256 ^ (size - (k+1)) % 256:=by
 have e:(beN (n:Int) size size).getD k 0=u8 (wV .u64 (Q5.wrap (n:Int)) (8*((size:Int) - 1 - (k:Int)))):=by simp [beN,hk]
 rw [e,aN (by omega) (by omega),show 8*((size:Int) - 1 - (k:Int))=((8*(size - (k+1)):Nat):Int) by omega,yAd .u64 n _ (by show _<=64;omega),iV,Nat.pow_mul]
theorem zM7 (n size:Nat) (hn:n<2 ^ 64) (h8:size<=8) (hs:n<256 ^ size):∀ k,k<=size->beV (beN (n:Int) size size) k=((n / 256 ^ (size - k):Nat):Int)
 | 0,_=>by
  rw [Nat.sub_zero,Nat.div_eq_of_lt hs];rfl
 | k+1,hk=>by
  unfold beV;rw [zM7 n size hn h8 hs k (by omega),zJc n size k hn (by omega) h8];have e:256 ^ (size - k)=256 ^ (size - (k+1))*256:=by
   rw [<- Nat.pow_succ];congr 1;omega
  rw [e,<- Nat.div_div_eq_div_mul];have hm:n / 256 ^ (size - (k+1))<=n:=Nat.div_le_self _ _;generalize n / 256 ^ (size - (k+1))=m at hm;rw [zJt _ _ (by omega) (by omega)];congr 1;omega
theorem Rem.uintN (h:Rem r (beN (n:Int) k k++rest)) (h8:k<=8) (hn:n<2 ^ 63) (hs:n<256 ^ k):rU r k=((n:Int),r.to k)/\Rem (r.to k) rest:=by
 have hb:=zM7 n k (by omega) h8 hs k (Qd _);rw [Nat.sub_self,Nat.pow_zero,Nat.div_one] at hb;exact ⟨h.uintV (xC _ _ _) hb (by omega) (by omega),h.to (xC _ _ _)⟩
theorem be2 (n:Nat) (hn:n<65536):∃ a b:UInt8,beN (n:Int) 2 2=[a,b]/\n=a.toNat*256+b.toNat:=by
 have h0:=zJc n 2 0 (by omega) (by omega) (by omega);have h1:=zJc n 2 1 (by omega) (by omega) (by omega);have hl:=xC (n:Int) 2 2
 match hx:beN (n:Int) 2 2,hl with
 | [a,b],_=>
  rw [hx] at h0 h1;refine ⟨a,b,rfl,?_⟩;have h0:a.toNat=n / 256 ^ 1 % 256:=h0;have h1:b.toNat=n / 256 ^ 0 % 256:=h1;rw [h0,h1];simp only [Nat.pow_one,Nat.pow_zero,Nat.div_one];omega
theorem zFd (b:By) (h:x.length<=65535):zA7 b x=b++(beN (x.length:Int) 2 2++x):=by
 unfold zA7 sQ;rw [Q3 h,Q6]
theorem Rem.blobN (h:Rem r (beN (x.length:Int) 2 2++(x++rest))) (hx:x.length<=65535) (hm:x.length<=m):qS r m=(x,r.to (2+x.length))/\Rem (r.to (2+x.length)) rest:=by
 obtain ⟨a,b,h1,h2⟩:=be2 x.length (by omega);rw [h1] at h;exact Rem.blob h h2 hm
theorem Rem.fin (h:Rem r []):zH0 r=0:=by
 have:=h.left;unfold zH0;rw [if_neg (by rw [this];simp)];exact h.e
theorem Rem.uintI {n:Int} (h:Rem r (beN n k k++rest)) (h8:k<=8) (h0:0<=n) (hn:n<2 ^ 62) (hs:n.toNat<256 ^ k):rU r k=(n,r.to k)/\Rem (r.to k) rest:=by
 obtain ⟨m,rfl⟩:=Q9 h0;exact Rem.uintN h h8 (by omega) hs
set_option maxRecDepth 100000
def xB (active a:Int):Bool:=uZ .i64 (wV .i64 active (Q5.wrap a)) 1==1
theorem zFf (b:By) (hb:b.length<2 ^ 40):qJ 0 b=some (mX b):=by
 unfold qJ;refine ct rfl ?_;exact bd (zPw b hb) rfl
theorem zGz (b:By) (hb:b.length<2 ^ 40):qJ 1 b=some (sha b):=by
 unfold qJ;refine cf rfl ?_;refine ct rfl ?_;exact bd (zTh b hb) rfl
def dgE (active:Int) (on:Bool) (b:By):List By:=[if (on&&xB active 0)=true then mX b else [],if (on&&xB active 1)=true then sha b else []]
theorem zC4 {v:List By} {o:Option By} {d:By} (hv:v.length=2) (ha:a<2) (ho:o=some d) :
  (bif c then (o.bind λs=>(ixN 2 (a:Int)).bind λj=>(tQ v j s).bind λw=>some w) else some v)=some (if c=true then v.set a d else v):=by
 cases c
 ·rfl
 ·refine bd ho ?_;refine bd (uH ha) ?_;exact bd (by simp [tQ,hv,ha]) rfl
def mkE (reg kind active:Int) (data:By):zB:=⟨reg,kind,dgE active (kind != 5) data,data⟩
theorem zMu (reg kind active:Int) (data:By) (hd:data.length<2 ^ 40):iJ reg kind active data=some (mkE reg kind active data):=by
 have on:∀ a:Int,((lC active a).bind λv=>bif v then (some (kind != 5)) else some false:Option Bool)=some ((kind != 5)&&xB active a):=by
  intro a;show (bif xB active a then (some (kind != 5)) else some false:Option Bool)=_;cases xB active a<;>cases (kind != 5)<;>rfl
 unfold iJ mkE dgE;refine bd (a:=[if ((kind != 5)&&xB active 0)=true then mX data else [],if ((kind != 5)&&xB active 1)=true then sha data else []]) (two (b:=(1,[if ((kind != 5)&&xB active 0)=true then mX data else [],[]])) (c:=(2,[if ((kind != 5)&&xB active 0)=true then mX data else [],if ((kind != 5)&&xB active 1)=true then sha data else []])) ?_ ?_ rfl) ?_
 ·unfold fQ;refine ct rfl ?_;refine bd (a:=[if ((kind != 5)&&xB active 0)=true then mX data else [],[]]) ?_ rfl;refine bd (on 0) ?_;refine (zC4 (a:=0) rfl (by omega) (zFf data hd)).trans ?_;cases ((kind != 5)&&xB active 0)<;>rfl
 ·unfold fQ;refine ct rfl ?_;refine bd (a:=[if ((kind != 5)&&xB active 0)=true then mX data else [],if ((kind != 5)&&xB active 1)=true then sha data else []]) ?_ rfl;refine bd (on 1) ?_;refine (zC4 (a:=1) rfl (by omega) (zGz data hd)).trans ?_;cases ((kind != 5)&&xB active 1)<;>rfl
 exact bd (ckT rfl) rfl
set_option maxRecDepth 100000
def eA (c:zJ):Prop:=c.B.length<=240/\0<=c.At/\c.At<=c.B.length
theorem zTb (b:By) (n:Int) (h0:0<=n) (h:n<=240):Def (zCe b n) eA:=by
 unfold zCe;refine Def.bd (P:=λr=>r.length<=240) ?_ (λr hr=>Def.s ⟨hr,Qt 0,by simp⟩);refine Def.c (λhl=>?_) (λhl=>Def.s ?_)
 ·rw [decide_eq_true_iff] at hl;refine Def.bd (Def.sub (by decide) h0 (by omega)) (λx hx=>Def.s ?_);rw [hx];simp;omega
 ·rw [decide_eq_false_iff_not] at hl;omega
theorem oD (c:zJ) (n:Int) (hc:eA c) (hn:0<n):Def (xM c n) (λr=>0<=r.1/\r.1<n/\eA r.2):=by
 obtain ⟨h1,h2,h3⟩:=hc;unfold xM;refine Def.c (λh=>Def.s ⟨Qt 0,hn,h1,h2,h3⟩) (λh=>?_);rw [decide_eq_false_iff_not] at h;rw [yR (n:=c.At+1) (by omega) (by omega),yR (n:=c.At+1 - 1) (by omega) (by omega)];refine Def.bd (Def.idx (by omega) (by omega)) (λv _=>?_);refine Def.bd (Def.ck (by simp;omega)) (λ_ _=>?_);refine Def.s ?_;rw [wb];refine ⟨?_,?_,h1,by simp only;omega,by simp only;omega⟩
 ·rw [Qe (by omega)];exact Int.emod_nonneg _ (by omega)
 ·rw [Qe (by omega)];exact Int.emod_lt_of_pos _ hn
def zHg (l:By):Prop:=1<=l.length/\l.length<=8/\∀ x∈l,32<=x.toNat/\x.toNat<=126
theorem zSh (c:zJ) (hc:eA c):Def (oN c) (λr=>zHg r.1/\eA r.2):=by
 unfold oN;refine Def.bd (oD c 6 hc (by decide)) (λr hr=>?_);obtain ⟨v,x⟩:=r;obtain ⟨h0,h1,h2⟩:=hr;simp only at h0 h1 h2;refine Def.bd (Def.ixN h0 (by show _<((6:Nat):Int);omega)) (λj hj=>?_);refine Def.bd (Def.at (by have:=hj.2;simpa using this)) (λl hl=>?_);have hl':zHg l:=by
  simp only [W5,Qz,or_false] at hl;rcases hl with rfl | rfl | rfl | rfl | rfl | rfl<;>(unfold zHg;decide)
 refine Def.bd (Def.ck (zEd (by have:=hl'.2.1;omega))) (λ_ _=>?_);exact Def.s ⟨hl',h2⟩
def zDd (L:List By):By:=L.flatMap λl=>l++[10]
theorem eL (L:List By) (h:∀ l∈L,zHg l):(zDd L).length<=9*L.length:=by
 induction L with
 | nil=>simp [zDd]
 | cons a r ih=>
  have h1:=(h a (by simp)).2.1;have h2:=ih (λl hl=>h l (by simp [hl]));simp only [zDd,Qa,Q2,Qc,Qo] at h2 ⊢;omega
theorem zKn (c:zJ) (hc:eA c):Def (rI c) (λr=>(∃ L,r.1=zDd L/\1<=L.length/\L.length<=4/\∀ l∈L,zHg l)/\eA r.2):=by
 unfold rI;refine Def.bd (oD c 4 hc (by decide)) (λr hr=>?_);obtain ⟨v,x⟩:=r;obtain ⟨h0,h1,h2⟩:=hr;simp only at h0 h1 h2;refine Def.bd (P:=λr=>(∃ L,r.1=zDd L/\1<=L.length/\L.length<=4/\∀ l∈L,zHg l)/\eA ⟨r.2.1,r.2.2⟩) ?_ (λr hr=>Def.s hr);refine Def.loop (λs=>(∃ L,s.1=zDd L/\(L.length:Int)+s.2.1=1+v/\∀ l∈L,zHg l)/\0<=s.2.1/\eA ⟨s.2.2.1,s.2.2.2⟩) (λs=>s.2.1.toNat) (λs hs=>?_) ?_ ?_
 ·obtain ⟨b,n,B,A⟩:=s;obtain ⟨⟨L,g1,g2,g3⟩,g4,g5⟩:=hs;simp only at g1 g2 g4 g5;have hfl:=eL L g3;unfold mK;refine Def.c (λh=>?_) (λh=>Def.s ?_)
  ·rw [decide_eq_true_iff] at h;refine Def.bd (zSh _ g5) (λr hr=>?_);obtain ⟨l,y⟩:=r;obtain ⟨k1,k2⟩:=hr;simp only at k1 k2;refine Def.bd (Def.app (by have:=k1.2.1;rw [g1];omega)) (λb1 hb1=>?_);refine Def.bd (Def.app (by have:=k1.2.1;rw [hb1,g1];simp;omega)) (λb2 hb2=>Def.s ?_);rw [yR (by omega) (by omega)];refine ⟨⟨⟨L++[l],?_,by simp only [Q2,Qc,Qo];omega,?_⟩,by simp only;omega,k2⟩,by simp only;omega⟩
   ·simp only [hb2,hb1,g1,zDd,Qi,Qa,List.flatMap_nil,W2,Q6]
   ·intro z hz;rw [Qs] at hz;rcases hz with hz | hz
    ·exact g3 z hz
    ·simp at hz;subst hz;exact k1
  ·rw [decide_eq_false_iff_not] at h;exact ⟨⟨L,g1,by omega,by omega,g3⟩,g5⟩
 ·refine ⟨⟨[],rfl,?_,by simp⟩,?_,h2⟩
  ·rw [yR (by omega) (by omega)];simp
  ·rw [yR (by omega) (by omega)];simp only;omega
 ·rw [yR (by omega) (by omega)];simp only;omega
theorem zNn {P:List α} {c:α} {t:List α} (h:P.drop i=c :: t):idx P (i:Int)=some c/\P.drop (i+1)=t/\i<P.length:=by
 have hi:i<P.length:=by
  apply Decidable.byContradiction;intro hn;rw [Qk (by omega)] at h;cases h
 rw [zO9 hi] at h;injection h with h1 h2;exact ⟨by rw [yO hi,h1],h2,hi⟩
theorem zRi (x:zC) (L:List By) (hp:x.Payload=zDd L) (h4:L.length<=4) (hL:∀ l∈L,zHg l):vV x=some L:=by
 have hfl:=eL L hL;have hpl:x.Payload.length<=36:=by rw [hp];omega
 have hd:Def (zN (xO x) FU ([],[],0)) (λr=>r=.inr (L,[])):=by
  refine Def.loop (λs=>∃ i:Nat,s.2.2=(i:Int)/\i<=x.Payload.length/\((s.1=L/\s.2.1=[]/\x.Payload.drop i=[])∨∃ suf rest,L=s.1++(s.2.1++suf) :: rest/\x.Payload.drop i=suf++10 :: zDd rest)) (λs=>x.Payload.length - s.2.2.toNat) (λs hs=>?_) ?_ ?_
  ·obtain ⟨out,line,i'⟩:=s;obtain ⟨i,g1,g2,g3⟩:=hs;simp only at g1 g3;subst g1;unfold xO;rcases g3 with ⟨k1,k2,k3⟩ | ⟨suf,rest,k1,k2⟩
   ·refine Def.c (λh=>?_) (λ_=>Def.s (by rw [k1,k2]));rw [decide_eq_true_iff] at h;have:=congrArg Qy k3;simp at this;omega
   ·have hmem:line++suf∈L:=by rw [k1];simp
    have hln:=hL _ hmem;have hout:out.length<4:=by have:=congrArg Qy k1;simp at this;omega
    cases suf with
    | nil=>
     obtain ⟨j1,j2,j3⟩:=zNn (c:=10) (t:=zDd rest) k2;refine Def.c (λ_=>?_) (λh=>by rw [decide_eq_false_iff_not] at h;omega);refine Def.bd (P:=λr=>r=.inr (out++[line],[])) ?_ (λr hr=>?_)
     ·refine Def.bd (P:=λc=>c=10) (Def.of j1 rfl) (λc hc=>?_);subst hc;refine Def.c (λ_=>?_) (λh=>by simp at h);rw [W2] at hln;refine Def.bd (P:=λb=>b=false) (Def.c (λh=>?_) (λ_=>Def.s ?_)) (λb hb=>?_)
      ·have:=hln.1;simp at h;rw [h] at this;simp at this
      ·simp;omega
      subst hb;refine Def.bd (Def.app (by simp;omega)) (λo ho=>Def.s (by rw [ho]))
     ·subst hr;refine Def.s ?_;rw [wO (by omega)];refine ⟨⟨i+1,rfl,by omega,?_⟩,by simp only [Q8];omega⟩;cases rest with
      | nil=>exact .inl ⟨by simp [k1],rfl,j2⟩
      | cons l r=>
       refine .inr ⟨l,r,?_,?_⟩
       ·simp [k1]
       ·rw [j2];simp [zDd]
    | cons c suf=>
     obtain ⟨j1,j2,j3⟩:=zNn (c:=c) (t:=suf++10 :: zDd rest) k2;have hc:=hln.2.2 c (by simp);refine Def.c (λ_=>?_) (λh=>by rw [decide_eq_false_iff_not] at h;omega);refine Def.bd (P:=λr=>r=.inr (out,line++[c])) ?_ (λr hr=>?_)
     ·refine Def.bd (P:=λd=>d=c) (Def.of j1 rfl) (λd hd=>?_);subst hd;refine Def.c (λh=>by simp at h;omega) (λ_=>?_);refine Def.bd (P:=λb=>b=false) (Def.c (λh=>?_) (λ_=>Def.s ?_)) (λb hb=>?_)
      ·simp at h;omega
      ·simp;omega
      subst hb;have:=hln.2.1;refine Def.bd (Def.app (by simp at this ⊢;omega)) (λo ho=>Def.s (by rw [ho]))
     ·subst hr;refine Def.s ?_;rw [wO (by omega)];refine ⟨⟨i+1,rfl,by omega,.inr ⟨suf,rest,by simp [k1],j2⟩⟩,by simp only [Q8];omega⟩
  ·refine ⟨0,rfl,by omega,?_⟩;cases L with
   | nil=>exact .inl ⟨rfl,rfl,by rw [hp];rfl⟩
   | cons l r=>exact .inr ⟨l,r,by simp,by rw [hp];simp [zDd]⟩
  ·rw [hp];simp;omega
 obtain ⟨r,h1,h2⟩:=hd;subst h2;unfold vV;refine bd h1 ?_;rfl
structure sB (x:zC):Prop where
 r1:1<=x.Role
 r4:x.Role<=4
 v0:0<=x.Version
 v1:x.Version<=1000000
 n:oQ x.Name=some true
 nl:x.Name.length<=12
 p:x.Payload.length<=64
 l:x.Role=4->∃ L,vV x=some L/\1<=L.length/\L.length<=4/\∀ l∈L,zHg l
theorem cB (x:zC) (h:sB x):vH x=some 0:=by
 obtain ⟨h1,h2,h3,h4,h5,h6,h7,h8⟩:=h;unfold vH;refine bd (a:=false) (cf (by simp;omega) (cf (by simp;omega) (cf (by simp;omega) (congrArg some (by simp;omega))))) ?_;refine cf rfl ?_;refine bd h5 ?_;refine cf rfl ?_;refine cf (by simp;omega) ?_;refine bd (a:=false) ?_ rfl;by_cases h:x.Role=4
 ·refine ct (by simp [h]) ?_;obtain ⟨L,l1,l2,_⟩:=h8 h;refine bd l1 ?_;refine congrArg some ?_;rw [beq_eq_false_iff_ne];omega
 ·exact cf (by simp [h]) rfl
theorem zPz:∀ n∈[([97]:By),[103,114,117,98],[108,105,110,117,120],[110,101,116,45,48],[116,119,101,108,118,101,45,98,121,116,101,115]],oQ n=some true/\n.length<=12:=by
 intro n hn;simp only [W5,Qz,or_false] at hn;rcases hn with rfl | rfl | rfl | rfl | rfl<;>exact ⟨by decide +kernel,by decide⟩
theorem zO2 (c:zJ) (role:Int) (hc:eA c) (h1:1<=role) (h4:role<=4):Def (pA c role) (λr=>sB r.1/\r.1.Role=role/\eA r.2):=by
 unfold pA;refine Def.bd (P:=λa=>[a.a0,a.a1,a.a2,a.a3,a.a4]=[([97]:By),[103,114,117,98],[108,105,110,117,120],[110,101,116,45,48],[116,119,101,108,118,101,45,98,121,116,101,115]]) (Def.s rfl) (λa ha=>?_);rw [ha];refine Def.bd (oD c 5 hc (by decide)) (λr hr=>?_);obtain ⟨v1,c1⟩:=r;obtain ⟨p1,p2,p3⟩:=hr;simp only at p1 p2 p3;refine Def.bd (Def.idx p1 (by simpa using p2)) (λnme hn=>?_);obtain ⟨n1,n2⟩:=zPz nme hn;refine Def.bd (oD c1 5 p3 (by decide)) (λr hr=>?_);obtain ⟨v2,c2⟩:=r;obtain ⟨q1,q2,q3⟩:=hr;simp only at q1 q2 q3;refine Def.bd (P:=λr=>eA ⟨r.1,r.2.1⟩/\0<=r.2.2/\r.2.2<=1000000) ?_ (λr hr=>?_)
 ·refine Def.bd (oD c2 9 q3 (by decide)) (λr hr=>?_);obtain ⟨v3,c3⟩:=r;obtain ⟨s1,s2,s3⟩:=hr;simp only at s1 s2 s3;refine Def.c (λ_=>?_) (λ_=>Def.s ⟨s3,by simp only;omega,by simp only;omega⟩);refine Def.bd (oD c3 3 s3 (by decide)) (λr hr=>?_);obtain ⟨v4,c4⟩:=r;obtain ⟨u1,u2,u3⟩:=hr;simp only at u1 u2 u3;refine Def.s ⟨u3,?_,?_⟩<;>(simp only;rw [yR (by omega) (by omega)];omega)
 obtain ⟨B,A,ver⟩:=r;obtain ⟨w1,w2,w3⟩:=hr;simp only at w1 w2 w3;refine Def.c (λh=>?_) (λh=>?_)
 ·rw [beq_iff_eq] at h;refine Def.bd (zKn _ w1) (λr hr=>?_);obtain ⟨pl,c5⟩:=r;obtain ⟨⟨L,l1,l2,l3,l4⟩,z⟩:=hr;simp only at l1 z;have hfl:=eL L l4;refine Def.s ⟨⟨h1,h4,w2,w3,n1,n2,by simp only;rw [l1];omega,λ_=>⟨L,zRi _ L l1 l3 l4,l2,l3,l4⟩⟩,rfl,z⟩
 ·have hr4:role≠4:=by simpa using h
  refine Def.bd (oD _ 7 w1 (by decide)) (λr hr=>?_);obtain ⟨v5,c5⟩:=r;obtain ⟨x1,x2,x3⟩:=hr;simp only at x1 x2 x3;refine Def.bd (Def.mkN x1 (by omega)) (λn hn=>?_);refine Def.bd (P:=λr=>eA ⟨r.1,r.2.1⟩/\r.2.2.length=n) ?_ (λr hr=>?_)
  ·refine Def.loop (λs=>0<=s.1/\s.1<=n/\eA ⟨s.2.1,s.2.2.1⟩/\s.2.2.2.length=n) (λs=>((n:Int) - s.1).toNat) (λs hs=>?_) ⟨Qt 0,by simp,x3,by simp⟩ (by simp;omega);obtain ⟨i,B,A,v⟩:=s;obtain ⟨y1,y2,y3,y4⟩:=hs;simp only at y1 y2 y3 y4;unfold kW;refine Def.c (λh=>?_) (λ_=>Def.s ⟨y3,y4⟩);rw [decide_eq_true_iff] at h;refine Def.bd (oD _ 256 y3 (by decide)) (λr hr=>?_);obtain ⟨v6,c6⟩:=r;obtain ⟨_,_,z3⟩:=hr;refine Def.bd (Def.ixN y1 h) (λj hj=>?_);refine Def.bd (Def.upd (by omega)) (λu hu=>Def.s ?_);rw [yR (by omega) (by omega)];refine ⟨⟨by simp only;omega,by simp only;omega,z3,by simp only [hu,List.length_set];exact y4⟩,by simp only;omega⟩
  obtain ⟨B,A,v⟩:=r;obtain ⟨y1,y2⟩:=hr;simp only at y1 y2;refine Def.bd (Def.ck (beqT y2)) (λ_ _=>?_);refine Def.bd (Def.ck (zEd (by omega))) (λ_ _=>?_);refine Def.s ⟨⟨h1,h4,w2,w3,n1,n2,by simp only;omega,λe=>absurd e hr4⟩,rfl,y1⟩
set_option maxRecDepth 100000
def Bef (a b:zC):Prop:=a.Role<=b.Role/\¬ (a.Role=b.Role/\a.Name=b.Name)
structure lB (l:List zC):Prop where
 len:l.length<=8
 im:∀ x∈l,sB x
 prs:l.Pairwise Bef
 h1:∃ x∈l,x.Role=1
 h3:∃ x∈l,x.Role=3
theorem lT (h:i<l.length) {x:α} (hx:x∈l.take (i+1)):x∈l.take i∨x=l[i]:=by
 rw [Q7,Qs] at hx;rcases hx with hx | hx
 ·exact .inl hx
 ·right;simpa [h] using hx
theorem zQd (l:List zC) (v:zC) (hl:l.length<=20):Def (zN (fL l v) FU (false,0)) (λr=>(r=true->∃ x∈l,x.Role=v.Role)/\(r=false->∀ x∈l,¬ (x.Role=v.Role/\x.Name=v.Name))):=by
 refine Def.loop (λs=>∃ i:Nat,s.2=(i:Int)/\i<=l.length/\(s.1=true->∃ x∈l,x.Role=v.Role)/\(s.1=false->∀ x∈l.take i,¬ (x.Role=v.Role/\x.Name=v.Name))) (λs=>l.length - s.2.toNat) (λs hs=>?_) ⟨0,rfl,by omega,by simp,by simp⟩ (by simp;omega);obtain ⟨ag,i'⟩:=s;obtain ⟨i,g1,g2,g3,g4⟩:=hs;simp only at g1 g3 g4;subst g1;unfold fL;refine Def.c (λh=>?_) (λh=>Def.s ⟨g3,λe=>?_⟩)
 ·have hi:i<l.length:=by have:=dT h;omega
  refine Def.bd (P:=λr=>(r=true->∃ x∈l,x.Role=v.Role)/\(r=false->ag=false/\¬ (l[i].Role=v.Role/\l[i].Name=v.Name))) ?_ (λr hr=>?_)
  ·refine Def.c (λha=>Def.s ⟨λ_=>g3 ha,λe=>by simp at e⟩) (λha=>?_);refine Def.bd (Def.at' hi) (λy hy=>?_);subst hy;refine Def.c (λhr=>?_) (λhr=>Def.s ⟨λe=>by simp at e,λ_=>⟨ha,λe=>by simp [e.1] at hr⟩⟩);rw [beq_iff_eq] at hr;refine Def.bd (Def.at' hi) (λy hy=>?_);subst hy;refine Def.s ⟨λ_=>⟨_,Qb hi,hr⟩,λe=>⟨ha,λe2=>?_⟩⟩;simp [e2.2] at e
  ·refine Def.s ?_;rw [wO (by omega)];refine ⟨⟨i+1,rfl,by omega,hr.1,λe x hx=>?_⟩,by simp only [Q8];omega⟩;obtain ⟨k1,k2⟩:=hr.2 e;rcases lT hi hx with hx | rfl
   ·exact g4 k1 x hx
   ·exact k2
 ·have:=dF h;rw [Q3 (by omega)] at g4;exact g4 e
structure ChI (role:Int) (l:List zC):Prop where
 im:∀ x∈l,sB x/\x.Role<=role
 prs:l.Pairwise Bef
 h1:2<=role->∃ x∈l,x.Role=1
 h3:4<=role->∃ x∈l,x.Role=3
theorem zQb (role:Int) (h1:1<=role) (h4:role<=4) (l:List zC) (n:Int) (c:zJ) (hc:eA c) (hn:0<=n) (hl:(l.length:Int)+n<=2*role) (hI:ChI role l) (hk:role=1∨role=3->1<=n) :
  Def (zN (fS role) FU (l,n,c.B,c.At)) (λr=>(r.1.length:Int)<=2*role/\ChI role r.1/\(role=1∨role=3->∃ x∈r.1,x.Role=role)/\eA ⟨r.2.1,r.2.2⟩):=by
 refine Def.loop (λs=>0<=s.2.1/\(s.1.length:Int)+s.2.1<=2*role/\ChI role s.1/\(role=1∨role=3->1<=s.2.1∨∃ x∈s.1,x.Role=role)/\eA ⟨s.2.2.1,s.2.2.2⟩) (λs=>s.2.1.toNat) (λs hs=>?_) ⟨hn,hl,hI,λe=>.inl (hk e),hc⟩ (by simp only;omega);obtain ⟨l,n,B,A⟩:=s;obtain ⟨g1,g2,g3,g4,g5⟩:=hs;simp only at g1 g2 g3 g4 g5;unfold fS;refine Def.c (λh=>?_) (λh=>Def.s ?_)
 ·have hn:=dT h;refine Def.bd (P:=λr=>(r.1.length:Int)+(n - 1)<=2*role/\ChI role r.1/\(∃ x∈r.1,x.Role=role)/\eA ⟨r.2.1,r.2.2⟩) ?_ (λr hr=>?_)
  ·refine Def.bd (zO2 _ role g5 h1 h4) (λr hr=>?_);obtain ⟨v,c⟩:=r;obtain ⟨k1,k2,k3⟩:=hr;simp only at k1 k2 k3;refine Def.bd (zQd l v (by omega)) (λag ha=>?_);refine Def.c (λhg=>?_) (λhg=>?_)
   ·have hgf:ag=false:=by simpa using hg
    refine Def.bd (Def.app (by simp;omega)) (λl' hl'=>Def.s ?_);subst hl';refine ⟨by simp;omega,⟨λx hx=>?_,?_,λe=>?_,λe=>?_⟩,⟨v,by simp,k2⟩,k3⟩
    ·rw [Qs] at hx;rcases hx with hx | hx
     ·exact g3.im x hx
     ·simp at hx;subst hx;exact ⟨k1,by omega⟩
    ·rw [List.pairwise_append];refine ⟨g3.prs,by simp,λa ha' b hb=>?_⟩;simp at hb;subst hb;exact ⟨by have:=(g3.im a ha').2;omega,ha.2 hgf a ha'⟩
    ·obtain ⟨x,hx,e2⟩:=g3.h1 e;exact ⟨x,by simp [hx],e2⟩
    ·obtain ⟨x,hx,e2⟩:=g3.h3 e;exact ⟨x,by simp [hx],e2⟩
   ·have hgt:ag=true:=by simpa using hg
    obtain ⟨x,hx,e⟩:=ha.1 hgt;exact Def.s ⟨by simp only;omega,g3,⟨x,hx,by omega⟩,k3⟩
  ·obtain ⟨l',B',A'⟩:=r;obtain ⟨k1,k2,k3,k4⟩:=hr;simp only at k1 k2 k3 k4;refine Def.s ?_;rw [yR (by omega) (by omega)];exact ⟨⟨by simp only;omega,k1,k2,λ_=>.inr k3,k4⟩,by simp only;omega⟩
 ·have hn:=dF h;refine ⟨by simp only;omega,g3,λe=>?_,g5⟩;rcases g4 e with h | h
  ·omega
  ·exact h
theorem zOq (codes:By):Def (dS codes) lB:=by
 unfold dS;refine Def.bd (zTb codes 200 (by decide) (by decide)) (λc hc=>?_);refine Def.bd (P:=lB) ?_ (λr hr=>Def.s hr);refine Def.loop (λs=>1<=s.2.1/\s.2.1<=5/\(s.1.length:Int)<=2*(s.2.1 - 1)/\(∀ x∈s.1,sB x/\x.Role<s.2.1)/\s.1.Pairwise Bef/\(2<=s.2.1->∃ x∈s.1,x.Role=1)/\(4<=s.2.1->∃ x∈s.1,x.Role=3)/\eA ⟨s.2.2.1,s.2.2.2⟩) (λs=>(5 - s.2.1).toNat) (λs hs=>?_) ⟨Qt 1,by simp,by simp,by simp,by simp,by simp,by simp,hc⟩ (by simp);obtain ⟨l,role,B,A⟩:=s;obtain ⟨g1,g2,g3,g4,g5,g6,g7,g8⟩:=hs;simp only at g1 g2 g3 g4 g5 g6 g7 g8;unfold zA0;refine Def.c (λh=>?_) (λh=>Def.s ?_)
 ·have hr:=dT h;refine Def.bd (oD _ 3 g8 (by decide)) (λr hr=>?_);obtain ⟨v,c1⟩:=r;obtain ⟨k1,k2,k3⟩:=hr;simp only at k1 k2 k3;refine Def.bd (P:=λr=>0<=r.1/\r.1<=2/\(role=1∨role=3->1<=r.1)/\eA ⟨r.2.1,r.2.2⟩) ?_ (λr hr=>?_)
  ·refine Def.bd (P:=λb=>b=false->¬ (role=1∨role=3)) ?_ (λb hb=>?_)
   ·refine Def.c (λh=>Def.s (λe=>by simp at e)) (λh=>Def.s (λe=>?_));simp at h e;omega
   refine Def.c (λ_=>?_) (λhf=>Def.s ⟨k1,by simp only;omega,λe=>absurd e (hb hf),k3⟩);refine Def.bd (oD _ 2 k3 (by decide)) (λr hr=>?_);obtain ⟨v2,c2⟩:=r;obtain ⟨j1,j2,j3⟩:=hr;simp only at j1 j2 j3;have e:Q0.wrap (1+v2)=1+v2:=yR (by omega) (by omega);exact Def.s ⟨by simp only [e];omega,by simp only [e];omega,λ_=>by simp only [e];omega,j3⟩
  obtain ⟨n,B1,A1⟩:=r;obtain ⟨j1,j2,j3,j4⟩:=hr;simp only at j1 j2 j3 j4;refine Def.bd (zQb role g1 hr l n ⟨B1,A1⟩ j4 j1 (by omega) ⟨λx hx=>⟨(g4 x hx).1,by have:=(g4 x hx).2;omega⟩,g5,g6,g7⟩ j3) (λr hr=>?_);obtain ⟨l',B2,A2⟩:=r;obtain ⟨m1,m2,m3,m4⟩:=hr;simp only at m1 m2 m3 m4;refine Def.s ?_;rw [yR (by omega) (by omega)];refine ⟨⟨by simp only;omega,by simp only;omega,by simp only;omega,λx hx=>⟨(m2.im x hx).1,by have:=(m2.im x hx).2;simp only;omega⟩,m2.prs,λe=>?_,λe=>?_,m4⟩,by simp only;omega⟩
  ·simp only at e;by_cases h1:role=1
   ·obtain ⟨x,hx,e2⟩:=m3 (.inl h1);exact ⟨x,hx,by omega⟩
   ·exact m2.h1 (by omega)
  ·simp only at e;by_cases h3:role=3
   ·obtain ⟨x,hx,e2⟩:=m3 (.inr h3);exact ⟨x,hx,by omega⟩
   ·exact m2.h3 (by omega)
 ·have hr:=dF h;exact ⟨by omega,λx hx=>(g4 x hx).1,g5,g6 (by omega),g7 (by omega)⟩
theorem pw {l:List zC} (h:l.Pairwise Bef) (hj:j<l.length) (hij:i<j):Bef (l[i]'(by omega)) l[j]:=List.pairwise_iff_getElem.mp h i j (by omega) hj hij
theorem zBb (l:List zC) (h:lB l):vU l=some 0:=by
 obtain ⟨hlen,him,hp,h1,h3⟩:=h;have hne:l.length≠0:=by
  obtain ⟨x,hx,_⟩:=h1;intro e;rw [List.length_eq_zero_iff] at e;rw [e] at hx;simp at hx
 have hl1:∀ i:Nat,i<l.length->Def (zN (wF l (i:Int)) FU 0) (λr=>r=.inr ()):=by
  intro i hi;refine Def.loop (λs=>∃ k:Nat,s=(k:Int)/\k<=i) (λs=>i - s.toNat) (λs hs=>?_) ⟨0,rfl,by omega⟩ (by simp;omega);obtain ⟨k,rfl,hk⟩:=hs;unfold wF;refine Def.c (λh=>?_) (λh=>Def.s rfl);have hki:=dT h;have hb:=pw hp hi (show k<i by omega);refine Def.bd (P:=λb=>b=false) ?_ (λb hb'=>?_)
  ·refine Def.bd (Def.at' (show k<l.length by omega)) (λy hy=>?_);subst hy;refine Def.bd (Def.at' hi) (λy hy=>?_);subst hy;refine Def.c (λhr=>?_) (λ_=>Def.s rfl);rw [beq_iff_eq] at hr;refine Def.bd (Def.at' (show k<l.length by omega)) (λy hy=>?_);subst hy;refine Def.bd (Def.at' hi) (λy hy=>?_);subst hy;refine Def.s ?_;rw [beq_eq_false_iff_ne];exact λe=>hb.2 ⟨hr,e⟩
  subst hb';refine Def.s ?_;rw [wO (by omega)];exact ⟨⟨k+1,rfl,by omega⟩,by simp only [Q8];omega⟩
 have hd:Def (zN (xR l) FU (false,false,0)) (λr=>r=.inr (true,true)):=by
  refine Def.loop (λs=>∃ i:Nat,s.2.2=(i:Int)/\i<=l.length/\((∃ x∈l.take i,x.Role=1)->s.1=true)/\((∃ x∈l.take i,x.Role=3)->s.2.1=true)) (λs=>l.length - s.2.2.toNat) (λs hs=>?_) ⟨0,rfl,by omega,by simp,by simp⟩ (by simp;omega);obtain ⟨f,k,i'⟩:=s;obtain ⟨i,g1,g2,g3,g4⟩:=hs;simp only at g1 g3 g4;subst g1;unfold xR;refine Def.c (λh=>?_) (λh=>Def.s ?_)
  ·have hi:i<l.length:=by have:=dT h;omega
   refine Def.bd (Def.at' hi) (λy hy=>?_);subst hy;refine Def.bd (P:=λr=>r=0) (Def.of (cB _ (him _ (Qb hi))) rfl) (λr hr=>?_);subst hr;refine Def.c (λh=>by simp at h) (λ_=>?_);refine Def.bd (P:=λb=>b=false) ?_ (λb hb=>?_)
   ·refine Def.c (λh0=>?_) (λ_=>Def.s rfl);have h0':=dT h0;refine Def.bd (Def.at' hi) (λy hy=>?_);subst hy;rw [yR (by omega) (by omega),show (i:Int) - 1=((i - 1:Nat):Int) by omega];refine Def.bd (Def.at' (show i - 1<l.length by omega)) (λy hy=>?_);subst hy;have hb:=(pw hp hi (show i - 1<i by omega)).1;refine Def.s ?_;rw [decide_eq_false_iff_not];omega
   subst hb;refine Def.c (λh=>by simp at h) (λ_=>?_);refine Def.bd (hl1 i hi) (λr hr=>?_);subst hr;refine Def.bd (P:=λb=>f=true∨l[i].Role=1->b=true) ?_ (λb1 hb1=>?_)
   ·refine Def.c (λ_=>Def.s (λ_=>rfl)) (λhf=>?_);refine Def.bd (Def.at' hi) (λy hy=>?_);subst hy;refine Def.s (λe=>?_);rcases e with e | e
    ·rw [hf] at e;cases e
    ·rw [e];rfl
   refine Def.bd (P:=λb=>k=true∨l[i].Role=3->b=true) ?_ (λb2 hb2=>?_)
   ·refine Def.c (λ_=>Def.s (λ_=>rfl)) (λhf=>?_);refine Def.bd (Def.at' hi) (λy hy=>?_);subst hy;refine Def.s (λe=>?_);rcases e with e | e
    ·rw [hf] at e;cases e
    ·rw [e];rfl
   refine Def.s ?_;rw [wO (by omega)];refine ⟨⟨i+1,rfl,by omega,λe=>?_,λe=>?_⟩,by simp only [Q8];omega⟩
   ·obtain ⟨x,hx,e⟩:=e;rcases lT hi hx with hx | rfl
    ·exact hb1 (.inl (g3 ⟨x,hx,e⟩))
    ·exact hb1 (.inr e)
   ·obtain ⟨x,hx,e⟩:=e;rcases lT hi hx with hx | rfl
    ·exact hb2 (.inl (g4 ⟨x,hx,e⟩))
    ·exact hb2 (.inr e)
  ·have:=dF h;rw [Q3 (by omega)] at g3 g4;rw [g3 h1,g4 h3]
 obtain ⟨r,e,rfl⟩:=hd;unfold vU;refine bd (a:=false) (cf ?_ (congrArg some ?_)) ?_
 ·rw [beq_eq_false_iff_ne];omega
 ·rw [decide_eq_false_iff_not];omega
 refine cf rfl ?_;refine bd e ?_;rfl
def pI (x:zC):By:=zA7 (zA7 (sQ (sQ [] 1 x.Role) 4 x.Version) x.Name) x.Payload
theorem zFu (x:zC):5<=(pI x).length/\(pI x).length<2 ^ 20:=by
 have h1:=aU (sQ (sQ [] 1 x.Role) 4 x.Version) x.Name;have h2:=aU (zA7 (sQ (sQ [] 1 x.Role) 4 x.Version) x.Name) x.Payload;have h3:(sQ (sQ [] 1 x.Role) 4 x.Version).length=5:=by rw [vN,vN];rfl
 refine ⟨?_,by unfold pI;omega⟩;unfold pI zA7;simp only [Q2,vN,h3];omega
theorem zKd (x:zC) (h:sB x):rY x=some (pI x):=by
 have hi:=cB x h;obtain ⟨_,_,_,_,_,h6,h7,_⟩:=h;have h3:(sQ (sQ [] 1 x.Role) 4 x.Version).length=5:=by rw [vN,vN];rfl
 have h4:=aU (sQ (sQ [] 1 x.Role) 4 x.Version) x.Name;unfold rY;refine bd hi ?_;refine cf rfl ?_;refine bd (zGi [] 1 _ (by omega) (by omega) (by simp)) ?_;refine bd (zGi _ 4 _ (by omega) (by omega) (by rw [vN];simp)) ?_;refine bd (ckT (zEd (by omega))) ?_;refine bd (zKp _ _ (by omega)) ?_;exact bd (zKp _ _ (by omega)) rfl
theorem zMc (x:zC) (active:Int) (h:sB x):lQ x active=some (dgE active true (pI x)):=by
 have hl:=zFu x;unfold lQ dgE;refine bd (zKd x h) ?_;generalize pI x=data at hl;have on:∀ a:Int,(bif decide (0<(data.length:Int)) then ((lC active a).bind λv=>some v) else some false:Option Bool)=some (true&&xB active a):=by
  intro a;exact ct (by simp;omega) rfl
 refine bd (a:=[if (true&&xB active 0)=true then mX data else [],if (true&&xB active 1)=true then sha data else []]) (two (b:=(1,[if (true&&xB active 0)=true then mX data else [],[]])) (c:=(2,[if (true&&xB active 0)=true then mX data else [],if (true&&xB active 1)=true then sha data else []])) ?_ ?_ rfl) ?_
 ·unfold mW;refine ct rfl ?_;refine bd (a:=[if (true&&xB active 0)=true then mX data else [],[]]) ?_ rfl;refine bd (on 0) ?_;refine (zC4 (a:=0) rfl (by omega) (zFf data (by omega))).trans ?_;cases (true&&xB active 0)<;>rfl
 ·unfold mW;refine ct rfl ?_;refine bd (a:=[if (true&&xB active 0)=true then mX data else [],if (true&&xB active 1)=true then sha data else []]) ?_ rfl;refine bd (on 1) ?_;refine (zC4 (a:=1) rfl (by omega) (zGz data (by omega))).trans ?_;cases (true&&xB active 1)<;>rfl
 exact bd (ckT rfl) rfl
theorem bZ:∀ f u,(decF f u).length<=f
 | 0,_=>Qd _
 | f+1,u=>by
  unfold decF;cases W4 u 10
  ·simp only [cond_false,Q2,Qw];have:=bZ f (u / 10);omega
  ·simp only [cond_true,Qw];omega
theorem zL0 (n:Nat) (h:n<10):u8 (Q0.wrap (48+(n:Int)))=UInt8.ofNat (48+n):=by
 rw [yR (by omega) (by omega),show (48:Int)+(n:Int)=((48+n:Nat):Int) by omega];apply UInt8.toNat_inj.mp;rw [iV];simp
theorem zPj:∀ (k fl f:Nat) (n:Nat),n<10 ^ (k+1)->n<2 ^ 40->k<fl->k<f->f<=20->qV fl (n:Int)=some (decF f n):=by
 intro k;induction k with
 | zero=>
  intro fl f n h1 _ hf hf2 _;obtain ⟨g,rfl⟩:∃ g,fl=g+1:=⟨fl - 1,by omega⟩;obtain ⟨g2,rfl⟩:∃ g,f=g+1:=⟨f - 1,by omega⟩;have h10:n<10:=by simpa using h1
  unfold qV decF;refine ct (by simp;omega) ?_;rw [show W4 n 10=true by simpa [W3] using h10,zL0 n h10];rfl
 | succ k ih=>
  intro fl f n h1 h2 hf hf2 h20;obtain ⟨g,rfl⟩:∃ g,fl=g+1:=⟨fl - 1,by omega⟩;obtain ⟨g2,rfl⟩:∃ g,f=g+1:=⟨f - 1,by omega⟩;unfold qV decF;by_cases h10:n<10
  ·refine ct (by simp;omega) ?_;rw [show W4 n 10=true by simpa [W3] using h10,zL0 n h10];rfl
  ·have hd:n / 10<10 ^ (k+1):=by
    rw [Nat.pow_succ] at h1;omega
   refine cf (by simp;omega) ?_;rw [show W4 n 10=false by rw [Bool.eq_false_iff];intro e;rw [W3] at e;omega];rw [show W6 (n:Int) 10=((n / 10:Nat):Int) from rfl,yR (by omega) (by omega)];refine bd (ih g g2 (n / 10) hd (by omega) (by omega) (by omega) (by omega)) ?_;have:=bZ g2 (n / 10);refine bd (yG (by simp;omega)) ?_;rw [show W7 (n:Int) 10=((n % 10:Nat):Int) from rfl,zL0 (n % 10) (by omega)];rfl
def lbl (x:zC):By:=(x.Name++[32])++decF 20 x.Version.toNat
theorem zQl (x:zC) (h:sB x):fC x.Name x.Version=some (lbl x):=by
 have h1:=h.nl;have h2:=h.v0;have h3:=h.v1;obtain ⟨n,hn⟩:=Q9 h2;unfold fC lbl;rw [hn];refine bd (ckT (zEd (by omega))) ?_;refine bd (yG (by simp;omega)) ?_;refine bd (zPj 6 RF 20 n (by show n<10000000;omega) (by omega) (by decide) (by decide) (by decide)) ?_;have:=bZ 20 n;exact bd (yG (by rw [Q2];simp only [Qc,Qo];omega)) rfl
def rgR (role:Int):Int:=if role=1 then 0 else if role=2 then 4 else if role=3 then 8 else if role=4 then 9 else -1
theorem zTu (r:Int):nE r=some (rgR r):=by
 unfold nE rgR;by_cases h1:r=1
 ·rw [if_pos h1];exact ct (by simp [h1]) rfl
 rw [if_neg h1];refine cf (by simp [h1]) ?_;by_cases h2:r=2
 ·rw [if_pos h2];exact ct (by simp [h2]) rfl
 rw [if_neg h2];refine cf (by simp [h2]) ?_;by_cases h3:r=3
 ·rw [if_pos h3];exact ct (by simp [h3]) rfl
 rw [if_neg h3];refine cf (by simp [h3]) ?_;by_cases h4:r=4
 ·rw [if_pos h4];exact ct (by simp [h4]) rfl
 ·rw [if_neg h4];exact cf (by simp [h4]) rfl
def imE (active:Int) (x:zC):zB:=⟨rgR x.Role,1,dgE active true (pI x),lbl x⟩
theorem zL6 (x:zC) (active:Int) (h:sB x) (h4:x.Role≠4):lM x active=some (imE active x):=by
 unfold lM;refine bd (a:=false) ?_ ?_
 ·refine bd (cB x h) ?_;refine cf rfl ?_;rw [show (x.Role==4)=false by simp [h4]]
 refine cf rfl ?_;refine bd (zTu _) ?_;refine bd (zMc x active h) ?_;exact bd (zQl x h) rfl
def zEq (x:zC):List By:=(vV x).getD []
def evR (active role:Int) (l:List zC):List zB:=l.flatMap λx=>if x.Role=role then (if role=4 then (zEq x).map (mkE 9 3 active) else [imE active x]) else []
def fW (active:Int):List zB:=(W0 8).map λ(i:Nat)=>mkE (i:Int) 2 active [0,0,0,0]
def evs (l:List zC) (active:Int):List zB:=evR active 1 l++evR active 2 l++(fW active++evR active 3 l)++evR active 4 l
theorem zJd (x:zC) (h:sB x) (h4:x.Role=4):vV x=some (zEq x)/\(zEq x).length<=4/\∀ l∈zEq x,zHg l:=by
 obtain ⟨L,h1,_,h2,h3⟩:=h.l h4;unfold zEq;rw [h1];exact ⟨rfl,h2,h3⟩
theorem zCi (active role:Int) (x:zC) (h:sB x):(if x.Role=role then (if role=4 then (zEq x).map (mkE 9 3 active) else [imE active x]) else []).length<=4/\(x.Role=role∨(if x.Role=role then (if role=4 then (zEq x).map (mkE 9 3 active) else [imE active x]) else []).length=0):=by
 by_cases hr:x.Role=role
 ·rw [if_pos hr];refine ⟨?_,.inl hr⟩;by_cases h4:role=4
  ·rw [if_pos h4,List.length_map];exact (zJd x h (by omega)).2.1
  ·rw [if_neg h4];simp
 ·rw [if_neg hr];exact ⟨by simp,.inr rfl⟩
theorem zNl (active role:Int) (l:List zC) (h:∀ x∈l,sB x):(evR active role l).length<=4*l.length:=by
 induction l with
 | nil=>simp [evR]
 | cons x t ih=>
  have h1:=(zCi active role x (h x (Qg ..))).1;have h2:=ih (λy hy=>h y (Qx _ hy));unfold evR at h2 ⊢;rw [Qa,Q2,Qc];omega
theorem zI4 (active:Int) (l:List zC) (h:∀ x∈l,sB x):(evR active 1 l).length+(evR active 2 l).length+(evR active 3 l).length+(evR active 4 l).length<=4*l.length:=by
 induction l with
 | nil=>simp [evR]
 | cons x t ih=>
  have h0:=zCi active 1 x (h x (Qg ..));have h1:=zCi active 2 x (h x (Qg ..));have h2:=zCi active 3 x (h x (Qg ..));have h3:=zCi active 4 x (h x (Qg ..));have hi:=ih (λy hy=>h y (Qx _ hy));unfold evR at hi ⊢;rw [Qa,Qa,Qa,Qa,Q2,Q2,Q2,Q2,Qc];omega
theorem bJ (active:Int):(fW active).length=8:=by simp [fW]
theorem zJi (l:List zC) (active:Int) (h:lB l):8<=(evs l active).length/\(evs l active).length<=40:=by
 have h1:=zI4 active l h.im;have h2:=h.len;have h3:=bJ active;unfold evs;simp only [Q2];omega
theorem zQ5 (active:Int) (out:List zB) (h:out.length<=100):zN (oP active) FU (out,0)=some (out++fW active):=by
 refine yD 8 (λi=>(out++(fW active).take i,(i:Int))) (by simp) (λi hi=>?_) ?_ (xK (by decide))
 ·unfold oP;refine ct (by simp;omega) ?_;refine bd (a:=[0,0,0,0]) rfl ?_;refine bd (zMu _ 2 active _ (by decide)) ?_;refine bd (yG (by simp [fW];omega)) ?_;rw [wO (by omega),Q7,Q6];have:(fW active)[i]? = some (mkE (i:Int) 2 active [0,0,0,0]):=by simp [fW,hi]
  rw [this];rfl
 ·unfold oP;refine cf rfl ?_;rw [Q3 (by rw [bJ];omega)]
theorem zOj (active:Int) (out:List zB) (L:List By) (h:out.length<=100) (hl:L.length<=4) (h8:∀ l∈L,l.length<=8):zN (oI active L) FU (out,0)=some (out++L.map (mkE 9 3 active)):=by
 refine yD L.length (λi=>(out++(L.map (mkE 9 3 active)).take i,(i:Int))) (by simp) (λi hi=>?_) ?_ (xK (by omega))
 ·have:=h8 _ (Qb hi);unfold oI;refine ct (dlt hi) ?_;refine bd (yO hi) ?_;refine bd (zMu _ 3 active _ (by omega)) ?_;refine bd (yG (by simp;omega)) ?_;rw [wO (by omega),Q7,Q6];simp [hi]
 ·unfold oI;refine cf (dge (Qd _)) ?_;rw [Q3 (by simp)]
theorem aP (active role:Int) (l:List zC) (out:List zB) (hl:l.length<=8) (him:∀ x∈l,sB x) (h:out.length<=60) (h4:role<=4):zN (oO l active role) FU (out,0)=some (out++evR active role l):=by
 refine yD l.length (λi=>(out++evR active role (l.take i),(i:Int))) (by simp [evR]) (λi hi=>?_) ?_ (xK (by omega))
 ·have hg:=him _ (Qb hi);have hle:=zNl active role (l.take i) (λx hx=>him x (List.mem_of_mem_take hx));rw [List.length_take] at hle;have hs:evR active role (l.take (i+1))=evR active role (l.take i)++(if l[i].Role=role then (if role=4 then (zEq l[i]).map (mkE 9 3 active) else [imE active l[i]]) else []):=by
   unfold evR;rw [Q7,Qi];simp [hi]
  have hol:(out++evR active role (l.take i)).length<=100:=by rw [Q2];omega
  rw [hs,<- Q6];generalize out++evR active role (l.take i)=o at hol;unfold oO;refine ct (dlt hi) ?_;refine bd (a:=o++(if l[i].Role=role then (if role=4 then (zEq l[i]).map (mkE 9 3 active) else [imE active l[i]]) else [])) ?_ (by rw [wO (by omega)]);refine bd (yO hi) ?_;by_cases hr:l[i].Role=role
  ·rw [if_pos hr];refine cf (by simp [hr]) ?_;by_cases hr4:role=4
   ·rw [if_pos hr4];refine cf (by simp [hr4]) ?_;refine bd (yO hi) ?_;obtain ⟨q1,q2,q3⟩:=zJd _ hg (by omega);refine bd q1 ?_;exact bd (zOj active o _ hol q2 (λl hl=>(q3 l hl).2.1)) rfl
   ·rw [if_neg hr4];refine ct (by simp [hr4]) ?_;refine bd (yO hi) ?_;refine bd (zL6 _ active hg (by omega)) ?_;exact bd (yG (by simp;omega)) rfl
  ·rw [if_neg hr];refine ct (by simp [hr]) ?_;simp
 ·unfold oO;refine cf (dge (Qd _)) ?_;simp
theorem zPm (l:List zC) (active:Int) (h:lB l) (h1:1<=active) (h3:active<=3):jK l active=some (evs l active):=by
 have hc:=zBb l h;have hl:=h.len;have hb:=zI4 active l h.im;have hsl:=bJ active;unfold jK;refine bd (a:=false) ?_ ?_
 ·refine bd hc ?_;refine cf rfl ?_;refine cf (by simp;omega) ?_;rw [show decide (3<active)=false by simp;omega]
 refine cf rfl ?_;refine bd (a:=evs l active) ?_ rfl;refine yD (x:=(([]:List zB),(1:Int))) 4 (λi=>match i with | 0=>([],1) | 1=>(evR active 1 l,2) | 2=>(evR active 1 l++evR active 2 l,3) | 3=>(evR active 1 l++evR active 2 l++(fW active++evR active 3 l),4) | _=>(evs l active,5)) rfl (λi hi=>?_) rfl (xK (by decide));have:i=0∨i=1∨i=2∨i=3:=by omega
 rcases this with rfl | rfl | rfl | rfl
 ·show wX l active ([],1)=some (.inl (evR active 1 l,2));unfold wX;refine ct rfl ?_;refine bd (a:=[]) rfl ?_;exact bd (aP active 1 l [] hl h.im (by simp) (by omega)) rfl
 ·show wX l active (evR active 1 l,2)=some (.inl (evR active 1 l++evR active 2 l,3));unfold wX;refine ct rfl ?_;refine bd (a:=evR active 1 l) rfl ?_;exact bd (aP active 2 l _ hl h.im (by omega) (by omega)) rfl
 ·show wX l active (evR active 1 l++evR active 2 l,3)=some (.inl (evR active 1 l++evR active 2 l++(fW active++evR active 3 l),4));unfold wX;refine ct rfl ?_;refine bd (a:=evR active 1 l++evR active 2 l++fW active) (bd (zQ5 active _ (by rw [Q2];omega)) rfl) ?_;refine bd (aP active 3 l _ hl h.im (by simp only [Q2];omega) (by omega)) ?_;rw [Q6];rfl
 ·show wX l active (evR active 1 l++evR active 2 l++(fW active++evR active 3 l),4)=some (.inl (evs l active,5));unfold wX;refine ct rfl ?_;refine bd (a:=evR active 1 l++evR active 2 l++(fW active++evR active 3 l)) rfl ?_;exact bd (aP active 4 l _ hl h.im (by simp only [Q2];omega) (by omega)) rfl
set_option maxRecDepth 100000
theorem zNg (n m:Int) (hm:1<=m) (hm2:m<2 ^ 40):Def (aL n m) (λr=>0<=r/\r<m):=by
 unfold aL;refine Def.c (λh=>by have:=dT h;omega) (λ_=>?_);refine Def.bd (Def.ck (by simp;omega)) (λ_ _=>?_);have h1:-m<W7 n m:=by
  have:=Int.lt_tmod_of_pos n (by omega:0<m);omega
 have h2:W7 n m<m:=Int.tmod_lt_of_pos n (by omega);refine Def.bd (P:=λr=>0<=r/\r<m) ?_ (λr hr=>Def.s hr);refine Def.c (λh=>Def.s ?_) (λh=>Def.s ?_)
 ·have:=dT h;rw [yR (by omega) (by omega)];omega
 ·have:=dF h;omega
theorem zLs (n:Int):Def (fG n) (λr=>1<=r/\r<=3):=by
 unfold fG;refine Def.bd (zNg n 3 (by decide) (by decide)) (λr hr=>Def.s ?_);rw [yR (by omega) (by omega)];omega
theorem zI0 (a b:List α):(cpy a b).length=a.length:=by
 unfold cpy;simp;omega
set_option maxRecDepth 100000
def siz (a:Int):Int:=if a=0 then 20 else if a=1 then 32 else 0
theorem zEx (a:Int):mR a=some (siz a):=by
 unfold mR siz;by_cases h0:a=0
 ·rw [if_pos h0];exact ct (by simp [h0]) rfl
 ·rw [if_neg h0];refine cf (by simp [h0]) ?_;by_cases h1:a=1
  ·rw [if_pos h1];exact ct (by simp [h1]) rfl
  ·rw [if_neg h1];exact cf (by simp [h1]) rfl
def Fit (e:zB) (active:Int) (a:Nat):Prop:=((e.Digests.getD a []).length:Int)=if e.Kind≠5/\xB active (a:Int)=true then siz (a:Int) else 0
theorem nf2 (h:∃ i,i<2/\¬ Fit e active i):¬ (Fit e active 0/\Fit e active 1):=by
 obtain ⟨i,hi,hn⟩:=h;intro ⟨h0,h1⟩;have:i=0∨i=1:=by omega
 rcases this with rfl | rfl
 ·exact hn h0
 ·exact hn h1
theorem zKm {has:Option Bool} {size:Option Int} (h1:has=some (xB active (a:Int))) (h2:size=some (siz (a:Int))) :
  Def ((bif (e.Kind != 5) then has else some false:Option Bool).bind λv=>bif v then size else some 0) (λw=>w=if e.Kind≠5/\xB active (a:Int)=true then siz (a:Int) else 0):=by
 subst h1 h2;by_cases hk:e.Kind=5
 ·rw [show (e.Kind != 5)=false by simp [hk]];exact Def.s (by rw [if_neg (λh=>h.1 hk)])
 ·rw [show (e.Kind != 5)=true by simp [hk]];cases hb:xB active (a:Int)
  ·exact Def.s (by rw [if_neg (λh=>by cases h.2)])
  ·exact Def.s (by rw [if_pos ⟨hk,rfl⟩])
theorem zEw {w:Int} (hl:a<e.Digests.length) (hw:w=if e.Kind≠5/\xB active (a:Int)=true then siz (a:Int) else 0):((e.Digests[a].length:Int) != w)=false↔Fit e active a:=by
 unfold Fit;rw [<- hw];simp [hl]
theorem zTd (e:zB) (active:Int):Def (pN e active) (λr=>r=true↔e.Digests.length=2/\Fit e active 0/\Fit e active 1):=by
 unfold pN;refine Def.c (λh=>Def.s ⟨λh=>(by cases h),λh2=>?_⟩) (λh=>?_)
 ·rw [h2.1] at h;cases h
 have hl:e.Digests.length=2:=by simp at h;omega
 refine Def.bd (jP e.Digests (sG e active) (λi=>Fit e active i) (λb=>b=false/\∃ i,i<2/\¬ Fit e active i) (by omega) (λa ha=>?_) ?_) (λr hr=>?_)
 ·unfold sG;refine Def.c (λ_=>?_) (λh=>by have:=dF h;omega);refine Def.bd (zKm (e:=e) (active:=active) (a:=a) rfl (by rw [zEx];rfl)) (λw hw=>?_);refine Def.bd (Def.at' ha) (λd hd=>?_);subst hd;refine Def.c (λhne=>Def.s ⟨rfl,a,by omega,λhF=>?_⟩) (λhne=>Def.s ⟨wO (by omega),(zEw ha hw).1 hne⟩);rw [(zEw ha hw).2 hF] at hne;cases hne
 ·unfold sG;rw [hl];exact cf rfl rfl
 ·cases r with
  | inl b=>exact Def.s ⟨λh=>(by rw [hr.1] at h;cases h),λh=>absurd h.2 (nf2 hr.2)⟩
  | inr u=>exact Def.s ⟨λ_=>⟨hl,hr 0 (by omega),hr 1 (by omega)⟩,λ_=>rfl⟩
structure EvGood (e:zB) (active:Int):Prop where
 r0:0<=e.Register
 r1:e.Register<=11
 d:e.Data.length<=64
 l:e.Digests.length=2
 f0:Fit e active 0
 f1:Fit e active 1
structure EvC (e:zB) (active:Int):Prop extends EvGood e active where
 a1:1<=active
 a3:active<=3
 k1:1<=e.Kind
 k5:e.Kind<=5
theorem or6 {a d e f:Bool}:Def (bif a then some true else bif b then some true else bif c then some true else bif d then some true else bif e then some true else some f) (λr=>r=(a||b||c||d||e||f)):=by
 cases a<;>cases b<;>cases c<;>cases d<;>cases e<;>cases f<;>exact Def.s rfl
theorem zNm (h:b=(decide (active<1)||decide (3<active)||decide (e.Register<0)||decide (11<e.Register)||decide (e.Kind<1)||decide (5<e.Kind))) :
  b=false↔(1<=active/\active<=3/\0<=e.Register/\e.Register<=11/\1<=e.Kind/\e.Kind<=5):=by
 subst h;simp only [Bool.or_eq_false_iff,decide_eq_false_iff_not];omega
theorem zUy (e:zB) (active:Int):Def (gK e active) (λr=>r=0↔EvC e active):=by
 unfold gK;refine Def.bd or6 (λb hb=>?_);have hb:=zNm hb;refine Def.c (λh=>Def.s ⟨λh=>(by cases h),λhc=>?_⟩) (λhbf=>?_)
 ·have:=hb.2 ⟨hc.a1,hc.a3,hc.r0,hc.r1,hc.k1,hc.k5⟩;rw [this] at h;cases h
 obtain ⟨h1,h2,h3,h4,h5,h6⟩:=hb.1 hbf;refine Def.c (λh=>Def.s ⟨λh=>(by cases h),λhc=>?_⟩) (λhd=>?_)
 ·have:=dT h;have:=hc.d;omega
 have hd':=dF hd;refine Def.bd (zTd e active) (λf hf=>?_);refine Def.c (λh=>Def.s ⟨λh=>(by cases h),λhc=>?_⟩) (λhft=>Def.s ⟨λ_=>?_,λ_=>rfl⟩)
 ·rw [hf.2 ⟨hc.l,hc.f0,hc.f1⟩] at h;cases h
 ·obtain ⟨k1,k2,k3⟩:=hf.1 (by simpa using hft);exact ⟨⟨h3,h4,by omega,k1,k2,k3⟩,h1,h2,h5,h6⟩
def bnk (n:Nat):List By:=Q4 12 (Q4 n 0)++Q4 4 (Q4 n 255)
theorem new1:eB 1=some ⟨[bnk 20,[]],0⟩:=by decide +kernel
theorem new2:eB 2=some ⟨[[],bnk 32],0⟩:=by decide +kernel
theorem new3:eB 3=some ⟨[bnk 20,bnk 32],0⟩:=by decide +kernel
structure zC1 (active:Int) (r:zD):Prop where
 b:∃ b0 b1,r.Banks=[b0,b1]/\b0.length=(if xB active 0=true then 16 else 0)/\b1.length=(if xB active 1=true then 16 else 0)/\(∀ x∈b0,x.length<=32)/\(∀ x∈b1,x.length<=32)
theorem zDw (b0 b1:List By) (u:Int):uQ ⟨[b0,b1],u⟩ 0=some (decide (0<(b0.length:Int)))/\uQ ⟨[b0,b1],u⟩ 1=some (decide (0<(b1.length:Int))):=⟨rfl,rfl⟩
theorem zPg (r:zD) (b0 b1:List By) (hb:r.Banks=[b0,b1]) (l0:b0.length<=16) (l1:b1.length<=16) (h0:∀ x∈b0,x.length<=32) (h1:∀ x∈b1,x.length<=32):aV r=some (b0,b1,r.Updates):=by
 have cp:∀ x:By,x.length<=32->sJ x=some x:=λx hx=>zE2 x (by omega);unfold aV;refine ct (by rw [hb];rfl) ?_;refine bd (a:=b0) ?_ ?_
 ·refine yD b0.length (λi=>(b0.take i,(i:Int))) (by simp) (λi hi=>?_) ?_ (xK (by omega))
  ·unfold dI;rw [hb];refine bd (a:=b0) rfl ?_;refine ct (dlt hi) ?_;refine bd (a:=b0) rfl ?_;refine bd (yO hi) ?_;refine bd (cp _ (h0 _ (Qb hi))) ?_;refine bd (yG (by simp;omega)) ?_;rw [wO (show i<2 ^ 40 by omega),Q7];simp [hi]
  ·unfold dI;rw [hb];refine bd (a:=b0) rfl ?_;refine cf (dge (Qd _)) ?_;simp
 refine ct (by rw [hb];rfl) ?_;refine bd (a:=(b1,b0)) ?_ ?_
 ·refine yD b1.length (λi=>(b1.take i,(i:Int),b0)) (by simp) (λi hi=>?_) ?_ (xK (by omega))
  ·unfold dJ;rw [hb];refine bd (a:=b1) rfl ?_;refine ct (dlt hi) ?_;refine bd (a:=b1) rfl ?_;refine bd (yO hi) ?_;refine bd (cp _ (h1 _ (Qb hi))) ?_;refine bd (yG (by simp;omega)) ?_;rw [wO (show i<2 ^ 40 by omega),Q7];simp [hi]
  ·unfold dJ;rw [hb];refine bd (a:=b1) rfl ?_;refine cf (dge (Qd _)) ?_;simp
 exact cf (by rw [hb];rfl) rfl
def upR (act:Bool) (bk:List By) (reg:Int) (f:By->By):List By:=if act=true then bk.set reg.toNat (f (bk.getD reg.toNat [])) else bk
def ext (active:Int) (e:zB) (r:zD):zD:=
 ⟨[upR (xB active 0) (r.Banks.getD 0 []) e.Register (λx=>mX (x++e.Digests.getD 0 [])),upR (xB active 1) (r.Banks.getD 1 []) e.Register (λx=>sha (x++e.Digests.getD 1 []))],Q0.wrap (r.Updates+1)⟩
theorem zMx (act:Bool) (bk:List By) (reg:Int) (f:By->By):(upR act bk reg f).length=bk.length:=by unfold upR;split<;>simp
theorem zSj {act:Bool} {bk:List By} {reg:Int} {f:By->By} (h:∀ x∈bk,x.length<=32) (hf:∀ x,(f x).length<=32):∀ x∈upR act bk reg f,x.length<=32:=by
 intro x hx;unfold upR at hx;split at hx
 ·rcases List.mem_or_eq_of_mem_set hx with hx | hx
  ·exact h x hx
  ·rw [hx];exact hf _
 ·exact h x hx
theorem zVz {r:zD} (h:zC1 active r):zC1 active (ext active e r):=by
 obtain ⟨⟨b0,b1,hb,l0,l1,m0,m1⟩⟩:=h;unfold ext;rw [hb];exact ⟨⟨_,_,rfl,by rw [zMx];exact l0,by rw [zMx];exact l1,zSj m0 (λx=>by rw [zJl];omega),zSj m1 (λx=>by rw [zE3];omega)⟩⟩
theorem zMo (r:zD) (active:Int) (e:zB) (hr:zC1 active r) (he:EvGood e active) (hk:e.Kind≠5):Def (gA r 0 e.Register e.Digests) (λx=>x=(ext active e r,0)):=by
 obtain ⟨⟨b0,b1,hb,l0,l1,m0,m1⟩⟩:=hr;obtain ⟨r0,r1,_,dl,f0,f1⟩:=he;obtain ⟨bs,u⟩:=r;simp only at hb;subst hb;have l0':b0.length<=16:=by rw [l0];split<;>omega
 have l1':b1.length<=16:=by rw [l1];split<;>omega
 unfold Fit at f0 f1;have f0':((e.Digests.getD 0 []).length:Int)<=32:=by rw [f0];split<;>decide
 have f1':((e.Digests.getD 1 []).length:Int)<=32:=by rw [f1];split<;>decide
 have g0:∀ d∈e.Digests,d.length<=32:=by
  intro d hd;obtain ⟨i,hi,rfl⟩:=List.mem_iff_getElem.mp hd;have hi2:i=0∨i=1:=by omega
  rcases hi2 with rfl | rfl
  ·have:(e.Digests.getD 0 [])=e.Digests[0]:=by simp [hi]
   rw [<- this];omega
  ·have:(e.Digests.getD 1 [])=e.Digests[1]:=by simp [hi]
   rw [<- this];omega
 have i0:idx e.Digests 0=some (e.Digests.getD 0 []):=zKo (i:=0) (by omega);have i1:idx e.Digests 1=some (e.Digests.getD 1 []):=zKo (i:=1) (by omega);have a0:uQ ⟨[b0,b1],u⟩ 0=some (xB active 0):=by
  rw [(zDw b0 b1 u).1,l0];cases xB active 0<;>rfl
 have a1:uQ ⟨[b0,b1],u⟩ 1=some (xB active 1):=by
  rw [(zDw b0 b1 u).2,l1];cases xB active 1<;>rfl
 unfold gA;refine Def.bd (P:=λb=>b=false) ?_ (λb hb=>?_)
 ·refine Def.c (λh=>by cases h) (λ_=>Def.c (λh=>by cases h) (λ_=>Def.c (λh=>?_) (λ_=>Def.c (λh=>?_) (λ_=>Def.s ?_))))
  ·have:=dT h;omega
  ·have:=dT h;omega
  ·simp;omega
 subst hb;refine Def.c (λh=>by cases h) (λ_=>?_);refine Def.bd (P:=λn=>n=0) ?_ (λn hn=>?_)
 ·unfold zBn;refine Def.bd (P:=λb=>b=false) (Def.s rfl) (λb hb=>?_);subst hb;refine Def.c (λh=>by cases h) (λ_=>?_);have e14:(e.Register==14)=false:=by simp;omega
  have e15:(e.Register==15)=false:=by simp;omega
  rw [e14,e15];exact Def.s rfl
 subst hn;refine Def.c (λh=>by cases h) (λ_=>?_);refine Def.bd (P:=λr=>r=.inr ()) ?_ (λr hr=>?_)
 ·refine Def.loop (λs=>s=0∨s=1∨s=2) (λs=>2 - s.toNat) (λs hs=>?_) (.inl rfl) (by simp);unfold bT;refine Def.c (λh=>?_) (λh=>Def.s rfl);refine Def.bd (P:=λb=>b=false) ?_ (λb hb=>?_)
  ·rcases hs with rfl | rfl | rfl
   ·refine Def.bd (P:=λb=>b=xB active 0) (Def.of a0 rfl) (λb hb=>?_);subst hb;refine Def.c (λh=>?_) (λ_=>Def.s rfl);refine Def.bd (P:=λd=>d=e.Digests.getD 0 []) (Def.of i0 rfl) (λd hd=>Def.s ?_);have hh:xB active 0=false:=by simpa using h
    rw [if_neg (by show ¬ (e.Kind≠5/\xB active 0=true);rw [hh];simp)] at f0;rw [decide_eq_false_iff_not,hd];omega
   ·refine Def.bd (P:=λb=>b=xB active 1) (Def.of a1 rfl) (λb hb=>?_);subst hb;refine Def.c (λh=>?_) (λ_=>Def.s rfl);refine Def.bd (P:=λd=>d=e.Digests.getD 1 []) (Def.of i1 rfl) (λd hd=>Def.s ?_);have hh:xB active 1=false:=by simpa using h
    rw [if_neg (by show ¬ (e.Kind≠5/\xB active 1=true);rw [hh];simp)] at f1;rw [decide_eq_false_iff_not,hd];omega
   ·cases h
  subst hb;refine Def.s ?_;rcases hs with rfl | rfl | rfl
  ·exact ⟨.inr (.inl rfl),by decide⟩
  ·exact ⟨.inr (.inr rfl),by decide⟩
  ·cases h
 subst hr;refine Def.bd (P:=λr=>r=.inr ()) ?_ (λr hr=>?_)
 ·refine Def.loop (λs=>s=0∨s=1∨s=2) (λs=>2 - s.toNat) (λs hs=>?_) (.inl rfl) (by simp);unfold bQ;refine Def.c (λh=>?_) (λh=>Def.s rfl);refine Def.bd (P:=λb=>b=false) ?_ (λb hb=>?_)
  ·rcases hs with rfl | rfl | rfl
   ·refine Def.bd (P:=λb=>b=xB active 0) (Def.of a0 rfl) (λb hb=>?_);subst hb;refine Def.c (λh=>?_) (λ_=>Def.s rfl);refine Def.bd (P:=λd=>d=e.Digests.getD 0 []) (Def.of i0 rfl) (λd hd=>?_);refine Def.bd (P:=λd=>d=siz 0) (Def.of (zEx 0) rfl) (λz hz=>Def.s ?_);rw [if_pos ⟨hk,h⟩] at f0;rw [hd,hz];simp;exact f0
   ·refine Def.bd (P:=λb=>b=xB active 1) (Def.of a1 rfl) (λb hb=>?_);subst hb;refine Def.c (λh=>?_) (λ_=>Def.s rfl);refine Def.bd (P:=λd=>d=e.Digests.getD 1 []) (Def.of i1 rfl) (λd hd=>?_);refine Def.bd (P:=λd=>d=siz 1) (Def.of (zEx 1) rfl) (λz hz=>Def.s ?_);rw [if_pos ⟨hk,h⟩] at f1;rw [hd,hz];simp;exact f1
   ·cases h
  subst hb;refine Def.s ?_;rcases hs with rfl | rfl | rfl
  ·exact ⟨.inr (.inl rfl),by decide⟩
  ·exact ⟨.inr (.inr rfl),by decide⟩
  ·cases h
 subst hr;refine Def.bd (P:=λx=>x=(b0,b1,u)) (Def.of (zPg _ b0 b1 rfl l0' l1' m0 m1) rfl) (λx hx=>?_);subst hx;obtain ⟨rn,hrn⟩:=Q9 r0;have one:∀ (a:Nat) (bk:List By) (f:By->By) (h2:a<2) (h16:bk.length=16) (mm:∀ x∈bk,x.length<=32) (hf:∀ z,z.length<2 ^ 40->qJ (a:Int) z=some (f z)),
   Def ((idx bk e.Register).bind λw=>(sJ w).bind λw'=>(idx e.Digests (a:Int)).bind λd=>(yM 1 w' d).bind λz=>(qJ (a:Int) z).bind λs=>(ixN bk.length e.Register).bind λj=>(tQ bk j s).bind λl=>some l)
    (λb=>b=upR true bk e.Register (λx=>f (x++e.Digests.getD a []))):=by
  intro a bk f h2 h16 mm hf;rw [hrn];have hm:bk.getD rn []∈bk:=by
   have:rn<bk.length:=by omega
   simp [this]
  have:=mm _ hm;refine Def.bd (P:=λx=>x=bk.getD rn []) (Def.of (zKo (by omega)) rfl) (λx hx=>?_);subst hx;refine Def.bd (P:=λy=>y=bk.getD rn []) (Def.of (zE2 _ (by omega)) rfl) (λy hy=>?_);subst hy;have hd:e.Digests.getD a []∈e.Digests:=by
   have:a<e.Digests.length:=by omega
   simp [this]
  have:=g0 _ hd;refine Def.bd (P:=λd=>d=e.Digests.getD a []) (Def.of (zKo (by omega)) rfl) (λd hd=>?_);subst hd;refine Def.bd (Def.app (by omega)) (λz hz=>?_);have hzl:z.length<2 ^ 40:=by rw [hz,Q2];omega
  refine Def.bd (P:=λs=>s=f z) (Def.of (hf z hzl) rfl) (λs hs=>?_);refine Def.bd (Def.ixN (by omega) (by omega)) (λj hj=>?_);refine Def.bd (Def.upd hj.2) (λq hq=>Def.s ?_);rw [hq,hj.1,hs,hz];rfl
 refine Def.bd (P:=λb=>b=upR (xB active 0) b0 e.Register (λx=>mX (x++e.Digests.getD 0 []))) ?_ (λc0 hc0=>?_)
 ·refine Def.bd (P:=λb=>b=xB active 0) (Def.of a0 rfl) (λb hb=>?_);subst hb;refine Def.c (λh=>?_) (λh=>Def.s (by rw [h];rfl));rw [if_pos h] at l0;rw [h];refine Def.bd (P:=λb=>b=b0) (Def.s rfl) (λb hb=>?_);subst hb;exact one 0 _ mX (by omega) l0 m0 zFf
 refine Def.bd (P:=λb=>b=upR (xB active 1) b1 e.Register (λx=>sha (x++e.Digests.getD 1 []))) ?_ (λc1 hc1=>?_)
 ·refine Def.bd (P:=λb=>b=xB active 1) (Def.of a1 rfl) (λb hb=>?_);subst hb;refine Def.c (λh=>?_) (λh=>Def.s (by rw [h];rfl));rw [if_pos h] at l1;rw [h];refine Def.bd (P:=λb=>b=b1) (Def.s rfl) (λb hb=>?_);subst hb;exact one 1 _ sha (by omega) l1 m1 zGz
 exact Def.s (by rw [hc0,hc1];rfl)
end Go.Proofs.TT
