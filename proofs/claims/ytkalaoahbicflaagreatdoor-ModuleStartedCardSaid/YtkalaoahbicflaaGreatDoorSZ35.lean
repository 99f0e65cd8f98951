/- ModuleStarted holds for all inputs -/
import Derived.Test.YtkalaoahbicflaaGreatDoorSZ3
import Derived.Test.YtkalaoahbicflaaGreatDoorSZ5
set_option linter.all false
open Go.IntKind renaming i64 -> Q0, u32 -> Q1, u64 -> Q6, wrap_u64 -> Qm, u8 -> Wb
open List renaming replicate -> Q2, take_of_length_le -> Q3, length_append -> Q4, take_append_getElem -> Q9, take_add_one -> Qa, append_assoc -> Qd, length_cons -> Qe, getElem_mem -> Qh, range -> Qi, map_cons -> Qj, sum_cons -> Qk, range_succ -> Qp, flatMap_append -> Qt, drop_eq_getElem_cons -> Qv, length_nil -> Qw, drop_of_length_le -> Qx, mem_map -> W1, foldl_append -> W3, length_take -> W4, map_append -> W5, append_nil -> W6, foldl_cons -> W8, map_nil -> W9, sum_nil -> Wa
open Nat renaming le_refl -> Q5, mod_eq_of_lt -> Qg, sub_self -> Qq, pow_le_pow_right -> Qs, pow_succ -> W0, xor_lt_two_pow -> W2, two_pow_pos -> W7
open Int renaming tmod_eq_emod_of_nonneg -> Q7, tdiv_eq_ediv_of_nonneg -> Qc, eq_ofNat_of_zero_le -> Ql, tdiv -> Qo, toNat_natCast -> Qu, tmod -> Qy
open BitVec renaming ofInt_natCast -> Q8, toNat_ofNat -> Qb, ofInt -> Qf
open Option renaming bind_some -> Qn, toList_some -> Qz
open Option.some renaming inj -> Qr
namespace Go.Sw
open Go
variable {b:Nat}{c:Bool}{n:Int}{α β:Type}{a:α}{f:α->Option β}{l:List α}{r:Option β}
theorem zO2 {X Y:Type} {step:X->Option (X ⊕ Y)} {r:Y} (n:Nat) (s:Nat->X) (h:∀ i,i<n->step (s i)=some (.inl (s (i+1)))) (he:step (s n)=some (.inr r)) :
  ∀ (d k fuel:Nat),k+d=n->d<fuel->zO step fuel (s k)=some r:=by
 intro d;induction d with
 | zero=>
  intro k fuel hk hf;obtain ⟨f,rfl⟩:∃ f,fuel=f+1:=⟨fuel - 1,by omega⟩;have:k=n:=by omega
  subst this;simp [zO,he]
 | succ d ih=>
  intro k fuel hk hf;obtain ⟨f,rfl⟩:∃ f,fuel=f+1:=⟨fuel - 1,by omega⟩;simp only [zO,h k (by omega)];exact ih (k+1) f (by omega) (by omega)
theorem yC {X Y:Type} {step:X->Option (X ⊕ Y)} {r:Y} {x:X} (n:Nat) (s:Nat->X) (h0:s 0=x) (h:∀ i,i<n->step (s i)=some (.inl (s (i+1)))) (he:step (s n)=some (.inr r)) {fuel:Nat} (hf:n<fuel) :
  zO step fuel x=some r:=by
 subst h0;exact zO2 n s h he n 0 fuel (by omega) hf
theorem zJy {X Y:Type} {step:X->Option (X ⊕ Y)} (I:X->Prop) (m:X->Nat) (Q:Y->Prop)
  (h:∀ s,I s->(∃ s',step s=some (.inl s')/\I s'/\m s'<m s)∨(∃ r,step s=some (.inr r)/\Q r)) :
  ∀ (fuel:Nat) (s:X),I s->m s<fuel->∃ r,zO step fuel s=some r/\Q r:=by
 intro fuel;induction fuel with
 | zero=>intro s _ hm;omega
 | succ f ih=>
  intro s hs hm;rcases h s hs with ⟨s',h1,h2,h3⟩ | ⟨r,h1,h2⟩
  ·obtain ⟨r,h4,h5⟩:=ih s' h2 (by omega);exact ⟨r,by simp [zO,h1,h4],h5⟩
  ·exact ⟨r,by simp [zO,h1],h2⟩
theorem xI {n:Nat} (h:n<2 ^ 64):n<FU:=by
 have:(2:Nat) ^ 64<FU:=by decide
 omega
theorem yH (h1:-9223372036854775808<=n) (h2:n<=9223372036854775807):Q0.wrap n=n:=by rw [IntKind.wrap_i64];omega
theorem yK8 (h1:0<=n) (h2:n<=4294967295):Q1.wrap n=n:=by rw [IntKind.wrap_u32];omega
theorem zJ3 (h1:0<=n) (h2:n<=18446744073709551615):Q6.wrap n=n:=by rw [Qm];omega
theorem zZ {m:List α} (h:(l.length+m.length)*b<=140737488355328):yK b l m=some (l++m):=by
 simp [yK,LIM,h]
theorem yR {i:Nat} (h:i<l.length):idx l (i:Int)=some l[i]:=by
 simp [idx,h]
theorem vY {a:Nat} (h:a<=b) (h2:b<=l.length):sub l (a:Int) (b:Int)=some ((l.drop a).take (b - a)):=by
 have:(0:Int)<=a/\(a:Int)<=b/\(b:Int)<=l.length:=⟨by omega,by omega,by omega⟩;simp [sub,this]
theorem bd {o:Option α} (h:o=some a) (k:f a=r):o.bind f=r:=by subst h;exact k
theorem ltk {e:α} (k:f e=r):lt e f=r:=k
theorem ct {b r:α} (h:c=true) (k:a=r):(bif c then a else b)=r:=by subst h;exact k
theorem cf {b r:α} (h:c=false) (k:b=r):(bif c then a else b)=r:=by subst h;exact k
theorem ckT (h:c=true):ck c=some ():=by subst h;rfl
end Go.Sw
namespace Go.Proofs.TT
open Go Go.Sw
set_option maxRecDepth 100000
variable {a b:Nat}{e:Int}{i:Nat}{l:List Int}{n t:Nat}
def rr (x n:Int):Int:=ior .u32 (xN .u32 x n) (rX .u32 x (32 - n))
theorem zN8 (k:IntKind) (a b:Int):ior k a b=ior k b a:=by simp [ior,BitVec.or_comm]
theorem jC (x n:Int) (h0:0<=n) (h1:n<=32):xO x n=some (rr x n):=by
 have h2:Q6.wrap (32 - n)=32 - n:=by rw [Qm];omega
 have h3:decide (0<=n)=true:=by simpa using h0
 simp only [xO,ck,lt,h2,h3,rr,cond_true,Qn]
theorem nI (x:Int) (n m:Int) (h:yX .u64 (Q6.wrap n) 31=32 - m) (h0:0<=m) (h1:m<=32):zQ x n=some (rr x m):=by
 have h2:Q6.wrap (32 - (32 - m))=m:=by rw [Qm];omega
 have h3:(0:Int)<=32 - m:=by omega
 have h4:decide ((0:Int)<=32 - m)=true:=by simpa using h3
 have h5:decide ((0:Int)<=m)=true:=by simpa using h0
 simp only [zQ,ck,lt,h,h2,h4,h5,rr,cond_true,Qn];rw [zN8]
def K2:List Int:=wF
theorem yKt:K2.length=64:=rfl
theorem zKh:mL=some K2:=rfl
def a8 (s:A8 Int):List Int:=[s.a0,s.a1,s.a2,s.a3,s.a4,s.a5,s.a6,s.a7]
def t1 (s:A8 Int) (k w:Int):Int:=
 Q1.wrap (Q1.wrap (Q1.wrap (Q1.wrap (s.a7+wC .u32 (wC .u32 (rr s.a4 6) (rr s.a4 11)) (rr s.a4 25))+wC .u32 (yX .u32 s.a4 s.a5) (yX .u32 (zK0 .u32 s.a4) s.a6))+k)+w)
def t2 (s:A8 Int):Int:=Q1.wrap (wC .u32 (wC .u32 (rr s.a0 2) (rr s.a0 13)) (rr s.a0 22)+wC .u32 (wC .u32 (yX .u32 s.a0 s.a1) (yX .u32 s.a0 s.a2)) (yX .u32 s.a1 s.a2))
def rnd (s:A8 Int) (k w:Int):A8 Int:=⟨Q1.wrap (t1 s k w+t2 s),s.a0,s.a1,s.a2,Q1.wrap (s.a3+t1 s k w),s.a4,s.a5,s.a6⟩
def gR (w:List Int) (s:A8 Int):Nat->A8 Int
 | 0=>s
 | n+1=>rnd (gR w s n) (K2.getD n 0) (w.getD n 0)
theorem vR (h:t<n):ixN n (t:Int)=some t:=by
 have:(0:Int)<=t/\(t:Int)<n:=⟨by omega,by omega⟩;simp [ixN,this]
theorem mJ (h:t<l.length):l[t]? = some (l.getD t 0):=by simp [h]
theorem yM (h:t<2 ^ 40):Q0.wrap ((t:Int)+1)=((t+1:Nat):Int):=by rw [yH (by omega) (by omega)];simp
section
variable (a b c d e f g h:Int)
theorem yK2:idx [a,b,c,d,e,f,g,h] 0=some a:=rfl
theorem zW5:idx [a,b,c,d,e,f,g,h] 1=some b:=rfl
theorem zWu:idx [a,b,c,d,e,f,g,h] 2=some c:=rfl
theorem yMe:idx [a,b,c,d,e,f,g,h] 3=some d:=rfl
theorem yK6:idx [a,b,c,d,e,f,g,h] 4=some e:=rfl
theorem yHq:idx [a,b,c,d,e,f,g,h] 5=some f:=rfl
theorem yG5:idx [a,b,c,d,e,f,g,h] 6=some g:=rfl
theorem yMo:idx [a,b,c,d,e,f,g,h] 7=some h:=rfl
end
theorem dlt (h:a<b):decide ((a:Int)<(b:Int))=true:=by simp;exact h
theorem dge (h:b<=a):decide ((a:Int)<(b:Int))=false:=by simp;omega
theorem yFt (w:List Int) (s:A8 Int) (i:Nat) (hi:i<64) (hw:w.length=64):nT K2 w (a8 s,(i:Int))=some (.inl (a8 (rnd s (K2.getD i 0) (w.getD i 0)),((i+1:Nat):Int))):=by
 have e1:decide ((i:Int)<64)=true:=dlt (b:=64) hi;have e2:∀ x,xO x 6=some (rr x 6):=λx=>jC x 6 (by decide) (by decide);have e3:∀ x,xO x 11=some (rr x 11):=λx=>jC x 11 (by decide) (by decide);have e4:∀ x,xO x 25=some (rr x 25):=λx=>jC x 25 (by decide) (by decide);have e5:∀ x,xO x 2=some (rr x 2):=λx=>jC x 2 (by decide) (by decide);have e6:∀ x,xO x 13=some (rr x 13):=λx=>jC x 13 (by decide) (by decide);have e7:∀ x,xO x 22=some (rr x 22):=λx=>jC x 22 (by decide) (by decide);have k1:K2[i]? = some (K2.getD i 0):=mJ (by rw [yKt];exact hi);have k2:w[i]? = some (w.getD i 0):=mJ (by omega);unfold nT a8;refine ct e1 ?_;refine bd (yK2 _ _ _ _ _ _ _ _) ?_;refine bd (yK6 _ _ _ _ _ _ _ _) ?_;refine bd (yMo _ _ _ _ _ _ _ _) ?_;refine bd (e2 _) ?_;refine bd (e3 _) ?_;refine bd (e4 _) ?_;refine ltk ?_;refine bd (yHq _ _ _ _ _ _ _ _) ?_;refine bd (yG5 _ _ _ _ _ _ _ _) ?_;refine ltk ?_;refine bd (vR hi) ?_;refine bd k1 ?_;refine ltk ?_;refine bd (vR hi) ?_;refine bd k2 ?_;refine bd (e5 _) ?_;refine bd (e6 _) ?_;refine bd (e7 _) ?_;refine bd (zW5 _ _ _ _ _ _ _ _) ?_;refine bd (zWu _ _ _ _ _ _ _ _) ?_;refine ltk ?_;refine bd (zW5 _ _ _ _ _ _ _ _) ?_;refine bd (zWu _ _ _ _ _ _ _ _) ?_;refine ltk ?_;refine ltk ?_;refine bd (zW5 _ _ _ _ _ _ _ _) ?_;refine bd (zWu _ _ _ _ _ _ _ _) ?_;refine bd (yMe _ _ _ _ _ _ _ _) ?_;refine ltk ?_;refine bd (yHq _ _ _ _ _ _ _ _) ?_;refine bd (yG5 _ _ _ _ _ _ _ _) ?_;rw [yM (show i<2 ^ 40 by omega)];rfl
theorem yJl (w:List Int) (hw:w.length=64) (s:A8 Int):zO (nT K2 w) FU (a8 s,0)=some (a8 (gR w s 64)):=by
 refine yC 64 (λi=>(a8 (gR w s i),(i:Int))) rfl (λi hi=>yFt w _ i hi hw) ?_ (xI (by decide));generalize gR w s 64=S;rfl
theorem yD2 (w:List Int) (s:A8 Int) (i:Nat) (hi:i<64) (hw:w.length=64):uK w ((i:Int),s.a0,s.a1,s.a2,s.a3,s.a4,s.a5,s.a6,s.a7) =
  some (.inl (((i+1:Nat):Int),(rnd s (K2.getD i 0) (w.getD i 0)).a0,(rnd s (K2.getD i 0) (w.getD i 0)).a1,(rnd s (K2.getD i 0) (w.getD i 0)).a2,(rnd s (K2.getD i 0) (w.getD i 0)).a3,(rnd s (K2.getD i 0) (w.getD i 0)).a4,(rnd s (K2.getD i 0) (w.getD i 0)).a5,(rnd s (K2.getD i 0) (w.getD i 0)).a6,(rnd s (K2.getD i 0) (w.getD i 0)).a7)):=by
 have e1:decide ((i:Int)<64)=true:=dlt (b:=64) hi;have e2:∀ x,zQ x (-6)=some (rr x 6):=λx=>nI x _ 6 (by decide) (by decide) (by decide);have e3:∀ x,zQ x (-11)=some (rr x 11):=λx=>nI x _ 11 (by decide) (by decide) (by decide);have e4:∀ x,zQ x (-25)=some (rr x 25):=λx=>nI x _ 25 (by decide) (by decide) (by decide);have e5:∀ x,zQ x (-2)=some (rr x 2):=λx=>nI x _ 2 (by decide) (by decide) (by decide);have e6:∀ x,zQ x (-13)=some (rr x 13):=λx=>nI x _ 13 (by decide) (by decide) (by decide);have e7:∀ x,zQ x (-22)=some (rr x 22):=λx=>nI x _ 22 (by decide) (by decide) (by decide);have k1:idx wF (i:Int)=some (K2.getD i 0):=by rw [yR (show i<wF.length from hi)];simp [K2,show i<wF.length from hi]
 have k2:w[i]? = some (w.getD i 0):=mJ (by omega);unfold uK;refine ct e1 ?_;refine bd (e2 _) ?_;refine bd (e3 _) ?_;refine bd (e4 _) ?_;refine ltk ?_;refine ltk ?_;refine bd k1 ?_;refine ltk ?_;refine bd (vR hi) ?_;refine bd k2 ?_;refine bd (e5 _) ?_;refine bd (e6 _) ?_;refine bd (e7 _) ?_;refine ltk ?_;refine ltk ?_;refine ltk ?_;refine ltk ?_;rw [yM (show i<2 ^ 40 by omega)];rfl
theorem yIb (w:List Int) (hw:w.length=64) (s:A8 Int):zO (uK w) FU (0,s.a0,s.a1,s.a2,s.a3,s.a4,s.a5,s.a6,s.a7)=some ((gR w s 64).a0,(gR w s 64).a1,(gR w s 64).a2,(gR w s 64).a3,(gR w s 64).a4,(gR w s 64).a5,(gR w s 64).a6,(gR w s 64).a7):=by
 refine yC 64 (λi=>((i:Int),(gR w s i).a0,(gR w s i).a1,(gR w s i).a2,(gR w s i).a3,(gR w s i).a4,(gR w s i).a5,(gR w s i).a6,(gR w s i).a7)) rfl (λi hi=>yD2 w _ i hi hw) ?_ (xI (by decide));generalize gR w s 64=S;rfl
set_option maxRecDepth 100000
theorem zUi {l:By} {z:Int} (hz:z=(n:Int)) (h:n<l.length):idx l z=some (l.getD n 0):=by
 subst hz;simp [idx,h]
theorem zFw {α:Type} {l:List α} {j:Nat} {u:α} (h:j<l.length):wL l j u=some (l.set j u):=by simp [wL,h]
def byt (b:By) (n:Nat):Int:=Q1.wrap (((b.getD n 0).toNat:Nat):Int)
def wd (b:By) (t:Nat):Int:=ior .u32 (ior .u32 (ior .u32 (rX .u32 (byt b (4*t)) 24) (rX .u32 (byt b (4*t+1)) 16)) (rX .u32 (byt b (4*t+2)) 8)) (byt b (4*t+3))
theorem zKo (b:By) (t:Nat) (h:4*t+3<b.length) (h2:t<2 ^ 20):fN b (t:Int)=some (wd b t):=by
 have e0:Q0.wrap (4*(t:Int))=((4*t:Nat):Int):=by rw [yH (by omega) (by omega)];simp
 unfold fN;rw [e0];refine bd (zUi rfl (by omega)) ?_;refine bd (zUi (n:=4*t+1) (by rw [yH (by omega) (by omega)];simp) (by omega)) ?_;refine ltk ?_;refine bd (zUi (n:=4*t+2) (by rw [yH (by omega) (by omega)];simp) (by omega)) ?_;refine ltk ?_;refine bd (zUi (n:=4*t+3) (by rw [yH (by omega) (by omega)];simp) (by omega)) ?_;rfl
theorem zNe:dM=fN:=rfl
def s0 (x:Int):Int:=wC .u32 (wC .u32 (rr x 7) (rr x 18)) (xN .u32 x 3)
def s1 (x:Int):Int:=wC .u32 (wC .u32 (rr x 17) (rr x 19)) (xN .u32 x 10)
def wv (b:By) (w:List Int) (t:Nat):Int:=
 if t<16 then wd b t else Q1.wrap (Q1.wrap (Q1.wrap (s1 (w.getD (t - 2) 0)+w.getD (t - 7) 0)+s0 (w.getD (t - 15) 0))+w.getD (t - 16) 0)
def zBk (b:By):Nat->List Int
 | 0=>Q2 64 0
 | t+1=>(zBk b t).set t (wv b (zBk b t) t)
theorem aD (b:By):∀ t,(zBk b t).length=64
 | 0=>rfl
 | t+1=>by simp [zBk,aD b t]
theorem yMk (b:By) (w:List Int) (i:Nat) (hi:i<64) (hw:w.length=64) (hb:b.length=64):uL b ((i:Int),w)=some (.inl (((i+1:Nat):Int),w.set i (wv b w i))):=by
 have hiw:i<w.length:=by omega
 unfold uL;refine ct (dlt (b:=64) hi) ?_;refine bd (a:=w.set i (wv b w i)) ?_ (by rw [yM (show i<2 ^ 40 by omega)]);by_cases h:i<16
 ·refine ct (dlt (b:=16) h) ?_;rw [zNe];refine bd (zKo b i (by omega) (by omega)) ?_;refine bd (vR hi) ?_;refine bd (zFw hiw) ?_;simp [wv,h]
 refine cf (dge (b:=16) (by omega)) ?_;have x15:ixN 64 (Q0.wrap ((i:Int) - 15))=some (i - 15):=by rw [yH (by omega) (by omega),show (i:Int) - 15=((i - 15:Nat):Int) by omega];exact vR (by omega)
 have x2:ixN 64 (Q0.wrap ((i:Int) - 2))=some (i - 2):=by rw [yH (by omega) (by omega),show (i:Int) - 2=((i - 2:Nat):Int) by omega];exact vR (by omega)
 have x7:ixN 64 (Q0.wrap ((i:Int) - 7))=some (i - 7):=by rw [yH (by omega) (by omega),show (i:Int) - 7=((i - 7:Nat):Int) by omega];exact vR (by omega)
 have x16:ixN 64 (Q0.wrap ((i:Int) - 16))=some (i - 16):=by rw [yH (by omega) (by omega),show (i:Int) - 16=((i - 16:Nat):Int) by omega];exact vR (by omega)
 have w15:w[i - 15]? = some (w.getD (i - 15) 0):=mJ (by omega);have w2:w[i - 2]? = some (w.getD (i - 2) 0):=mJ (by omega);have w7:w[i - 7]? = some (w.getD (i - 7) 0):=mJ (by omega);have w16:w[i - 16]? = some (w.getD (i - 16) 0):=mJ (by omega);have e7:∀ x,zQ x (-7)=some (rr x 7):=λx=>nI x _ 7 (by decide) (by decide) (by decide);have e18:∀ x,zQ x (-18)=some (rr x 18):=λx=>nI x _ 18 (by decide) (by decide) (by decide);have e17:∀ x,zQ x (-17)=some (rr x 17):=λx=>nI x _ 17 (by decide) (by decide) (by decide);have e19:∀ x,zQ x (-19)=some (rr x 19):=λx=>nI x _ 19 (by decide) (by decide) (by decide);refine bd (x15) ?_;refine bd (w15) ?_;refine bd (x2) ?_;refine bd (w2) ?_;refine bd (e7 _) ?_;refine bd (e18 _) ?_;refine bd (e17 _) ?_;refine bd (e19 _) ?_;refine bd (x7) ?_;refine bd (w7) ?_;refine ltk ?_;refine ltk ?_;refine bd (x16) ?_;refine bd (w16) ?_;refine bd (vR hi) ?_;refine bd (zFw hiw) ?_;simp only [wv,h,if_false];rfl
theorem yIp (b:By) (hb:b.length=64):zO (uL b) FU (0,Q2 64 0)=some (zBk b 64):=by
 refine yC 64 (λi=>((i:Int),zBk b i)) rfl (λi hi=>yMk b _ i hi (aD b i) hb) ?_ (xI (by decide));generalize zBk b 64=S;rfl
def rU (x:By) (n:Nat):By:=(x.drop n).take 64
theorem yL7 (x:By) (at':Nat) (w:List Int) (i:Nat) (hi:i<64) (hw:w.length=64) (hx:at'+64<=x.length) (hl:x.length<2 ^ 48):nW x (at':Int) ((i:Int),w)=some (.inl (((i+1:Nat):Int),w.set i (wv (rU x at') w i))):=by
 have hiw:i<w.length:=by omega
 have hbl:(rU x at').length=64:=by simp [rU];omega
 unfold nW;refine ct (dlt (b:=64) hi) ?_;refine bd (a:=w.set i (wv (rU x at') w i)) ?_ (by rw [yM (show i<2 ^ 40 by omega)]);by_cases h:i<16
 ·refine ct (dlt (b:=16) h) ?_;have hs:sub x (at':Int) (Q0.wrap ((at':Int)+64))=some (rU x at'):=by
   rw [yH (by omega) (by omega),show (at':Int)+64=((at'+64:Nat):Int) by simp,vY (by omega) hx];simp [rU]
  refine bd hs ?_;refine bd (zKo _ i (by omega) (by omega)) ?_;refine bd (vR hi) ?_;refine bd (zFw hiw) ?_;simp [wv,h]
 refine cf (dge (b:=16) (by omega)) ?_;have x15:ixN 64 (Q0.wrap ((i:Int) - 15))=some (i - 15):=by rw [yH (by omega) (by omega),show (i:Int) - 15=((i - 15:Nat):Int) by omega];exact vR (by omega)
 have x2:ixN 64 (Q0.wrap ((i:Int) - 2))=some (i - 2):=by rw [yH (by omega) (by omega),show (i:Int) - 2=((i - 2:Nat):Int) by omega];exact vR (by omega)
 have x7:ixN 64 (Q0.wrap ((i:Int) - 7))=some (i - 7):=by rw [yH (by omega) (by omega),show (i:Int) - 7=((i - 7:Nat):Int) by omega];exact vR (by omega)
 have x16:ixN 64 (Q0.wrap ((i:Int) - 16))=some (i - 16):=by rw [yH (by omega) (by omega),show (i:Int) - 16=((i - 16:Nat):Int) by omega];exact vR (by omega)
 have w15:w[i - 15]? = some (w.getD (i - 15) 0):=mJ (by omega);have w2:w[i - 2]? = some (w.getD (i - 2) 0):=mJ (by omega);have w7:w[i - 7]? = some (w.getD (i - 7) 0):=mJ (by omega);have w16:w[i - 16]? = some (w.getD (i - 16) 0):=mJ (by omega);have e7:∀ x,xO x 7=some (rr x 7):=λx=>jC x 7 (by decide) (by decide);have e18:∀ x,xO x 18=some (rr x 18):=λx=>jC x 18 (by decide) (by decide);have e17:∀ x,xO x 17=some (rr x 17):=λx=>jC x 17 (by decide) (by decide);have e19:∀ x,xO x 19=some (rr x 19):=λx=>jC x 19 (by decide) (by decide);refine bd (x15) ?_;refine bd (w15) ?_;refine bd (e7 _) ?_;refine bd (x15) ?_;refine bd (w15) ?_;refine bd (e18 _) ?_;refine bd (x15) ?_;refine bd (w15) ?_;refine bd (x2) ?_;refine bd (w2) ?_;refine bd (e17 _) ?_;refine bd (x2) ?_;refine bd (w2) ?_;refine bd (e19 _) ?_;refine bd (x2) ?_;refine bd (w2) ?_;refine bd (x7) ?_;refine bd (w7) ?_;refine ltk ?_;refine ltk ?_;refine bd (x16) ?_;refine bd (w16) ?_;refine bd (vR hi) ?_;refine bd (zFw hiw) ?_;simp only [wv,h,if_false];rfl
theorem yKe (x:By) (at':Nat) (hx:at'+64<=x.length) (hl:x.length<2 ^ 48):zO (nW x (at':Int)) FU (0,Q2 64 0)=some (zBk (rU x at') 64):=by
 refine yC 64 (λi=>((i:Int),zBk (rU x at') i)) rfl (λi hi=>yL7 x at' _ i hi (aD _ i) hx hl) ?_ (xI (by decide));generalize zBk (rU x at') 64=S;rfl
set_option maxRecDepth 100000
def zV9 (h s:A8 Int):A8 Int:=⟨Q1.wrap (h.a0+s.a0),Q1.wrap (h.a1+s.a1),Q1.wrap (h.a2+s.a2),Q1.wrap (h.a3+s.a3),Q1.wrap (h.a4+s.a4),Q1.wrap (h.a5+s.a5),Q1.wrap (h.a6+s.a6),Q1.wrap (h.a7+s.a7)⟩
def zIp (h s:List Int):Nat->List Int
 | 0=>h
 | i+1=>(zIp h s i).set i (Q1.wrap ((zIp h s i).getD i 0+s.getD i 0))
theorem zI3 (h s:List Int):∀ i,(zIp h s i).length=h.length
 | 0=>rfl
 | i+1=>by simp [zIp,zI3 h s i]
theorem zX6 (h s:A8 Int):zIp (a8 h) (a8 s) 8=a8 (zV9 h s):=rfl
def zNh (h:A8 Int) (b:By):A8 Int:=zV9 h (gR (zBk b 64) h 64)
theorem yKu (h s:A8 Int):zO (fX (a8 s)) FU (0,a8 h)=some (a8 (zV9 h s)):=by
 rw [<- zX6];refine yC 8 (λi=>((i:Int),zIp (a8 h) (a8 s) i)) rfl (λi hi=>?_) ?_ (xI (by decide))
 ·have hl:(zIp (a8 h) (a8 s) i).length=8:=zI3 _ _ _;unfold fX;refine ct (dlt (b:=8) hi) ?_;refine bd (vR hi) ?_;refine bd (mJ (by omega)) ?_;refine bd (a:=(a8 s).getD i 0) (by rw [yR (show i<(a8 s).length from hi)];simp [show i<(a8 s).length from hi]) ?_;refine bd (vR hi) ?_;refine bd (zFw (by omega)) ?_;rw [yM (show i<2 ^ 40 by omega)];rfl
 ·generalize zIp (a8 h) (a8 s) 8=S;rfl
theorem yJp (h s:A8 Int):zO (vA s.a0 s.a1 s.a2 s.a3 s.a4 s.a5 s.a6 s.a7) FU (0,[h.a0,h.a1,h.a2,h.a3,h.a4,h.a5,h.a6,h.a7])=some (zV9 h s):=by
 refine yC 8 (λi=>((i:Int),zIp (a8 h) (a8 s) i)) rfl (λi hi=>?_) ?_ (xI (by decide))
 ·have hl:(zIp (a8 h) (a8 s) i).length=8:=zI3 _ _ _;unfold vA;refine ct (dlt (b:=8) hi) ?_;refine bd (vR hi) ?_;refine bd (mJ (by omega)) ?_;refine bd (vR hi) ?_;refine bd (a:=(a8 s).getD i 0) (mJ (l:=a8 s) hi) ?_;refine bd (vR hi) ?_;refine bd (zFw (by omega)) ?_;rw [yM (show i<2 ^ 40 by omega)];rfl
 ·show vA s.a0 s.a1 s.a2 s.a3 s.a4 s.a5 s.a6 s.a7 (((8:Nat):Int),zIp (a8 h) (a8 s) 8)=_;rw [zX6];unfold vA;refine cf rfl ?_;refine bd (a:=zV9 h s) rfl rfl
theorem zMc (h:A8 Int) (b:By) (hb:b.length=64):nC h b=some (zNh h b):=by
 unfold nC;refine bd (yIp b hb) ?_;refine bd (yIb _ (aD b 64) h) ?_;refine bd (yJp h _) ?_;rfl
def zWx:A8 Int:=⟨1779033703,3144134277,1013904242,2773480762,1359893119,2600822924,528734635,1541459225⟩
def hsh (x:By):Nat->A8 Int
 | 0=>zWx
 | i+1=>zNh (hsh x i) (rU x (64*i))
def st8 (p:By) (h:A8 Int):By×Int×Int×Int×Int×Int×Int×Int×Int:=(p,h.a0,h.a1,h.a2,h.a3,h.a4,h.a5,h.a6,h.a7)
theorem zO5 (x:By) (n:Nat) (hx:x.length=64*n) (hl:x.length<2 ^ 48):zO kQ FU (st8 x zWx)=some ((hsh x n).a0,(hsh x n).a1,(hsh x n).a2,(hsh x n).a3,(hsh x n).a4,(hsh x n).a5,(hsh x n).a6,(hsh x n).a7):=by
 refine yC n (λi=>st8 (x.drop (64*i)) (hsh x i)) (by simp [hsh]) (λi hi=>?_) ?_ (xI (by omega))
 ·have hd:(x.drop (64*i)).length=x.length - 64*i:=by simp
  unfold kQ st8;refine ct (by simp;omega) ?_;refine bd (a:=rU x (64*i)) (by rw [show (0:Int)=((0:Nat):Int) from rfl,show (64:Int)=((64:Nat):Int) from rfl,vY (by omega) (by omega)];simp [rU]) ?_;refine bd (zMc _ _ (by simp [rU];omega)) ?_;refine bd (a:=x.drop (64*(i+1))) (by rw [show (64:Int)=((64:Nat):Int) from rfl,vY (by omega) (by omega)];rw [List.drop_drop,Q3 (by simp;omega)];congr 2) ?_;rfl
 ·have hd:x.drop (64*n)=[]:=List.drop_eq_nil_of_le (by omega);show kQ (st8 (x.drop (64*n)) (hsh x n))=_;rw [hd];generalize hsh x n=S;rfl
theorem zP1 (x:By) (n:Nat) (hx:x.length=64*n) (hl:x.length<2 ^ 47):zO (qC K2 x) FU (0,a8 zWx)=some (a8 (hsh x n)):=by
 refine yC n (λi=>(((64*i:Nat):Int),a8 (hsh x i))) rfl (λi hi=>?_) ?_ (xI (by omega))
 ·unfold qC;refine ct (dlt (by omega)) ?_;refine bd (yKe x (64*i) (by omega) (by omega)) ?_;refine bd (ckT rfl) ?_;refine bd (a:=a8 (hsh x i)) (by rw [zZ (by simp [a8])];rfl) ?_;refine bd (yJl _ (aD _ 64) _) ?_;refine bd (yKu _ _) ?_;rw [yH (by omega) (by omega),show ((64*i:Nat):Int)+64=((64*(i+1):Nat):Int) by omega];rfl
 ·show qC K2 x (((64*n:Nat):Int),a8 (hsh x n))=_;unfold qC;exact cf (dge (by omega)) rfl
def zs (n:Nat):Nat:=(119 - n % 64) % 64
def be8 (n:Int) (k:Nat):By:=(Qi k).map λ(j:Nat)=>u8 (xN .u64 n (56 - 8*(j:Int)))
theorem zLj (n:Int) (k:Nat):(be8 n k).length=k:=by simp [be8]
theorem zM1 (n:Int) (k:Nat):be8 n (k+1)=be8 n k++[u8 (xN .u64 n (56 - 8*(k:Int)))]:=by simp [be8,Qp]
def yM0 (b:By):Int:=Q6.wrap (Q6.wrap (b.length:Int)*8)
def zDj (b:By):By:=(b++[128]++Q2 (zs b.length) 0)++be8 (yM0 b) 8
theorem zEn (b:By):(zDj b).length=b.length+9+zs b.length:=by simp [zDj,zLj];omega
theorem zIc (b:By):(zDj b).length % 64=0:=by rw [zEn];unfold zs;omega
theorem zJ6 (b:By) (hb:b.length<2 ^ 40):zO jX FU (b++[128])=some (b++[128]++Q2 (zs b.length) 0):=by
 have hz:zs b.length<64:=by unfold zs;omega
 refine yC (zs b.length) (λi=>b++[128]++Q2 i 0) (by simp) (λi hi=>?_) ?_ (xI (by omega))
 ·have hl:(b++[128]++Q2 i 0).length=b.length+1+i:=by simp;omega
  unfold jX;refine ct ?_ ?_
  ·rw [hl];simp only [bne_iff_ne,ne_eq];rw [Q7 (by omega)];unfold zs at hi;omega
  ·refine bd (zZ (by rw [hl];simp;omega)) ?_;rw [Qd,<- List.replicate_succ']
 ·have hl:(b++[128]++Q2 (zs b.length) 0).length=b.length+1+zs b.length:=by simp;omega
  unfold jX;refine cf ?_ rfl;rw [hl];simp only [bne_eq_false_iff_eq];rw [Q7 (by omega)];unfold zs;omega
theorem yDx:zDi=jX:=rfl
theorem yBi (x:By) (n:Int) (hx:x.length<2 ^ 41):zO (zBq n) FU (x,7)=some (x++be8 n 8):=by
 refine yC 8 (λi=>(x++be8 n i,7 - (i:Int))) (by simp [be8]) (λi hi=>?_) ?_ (xI (by decide))
 ·unfold zBq;refine ct (by simp;omega) ?_;refine ltk ?_;have e:Q6.wrap (8*Q6.wrap (7 - (i:Int)))=56 - 8*(i:Int):=by
   rw [zJ3 (n:=7 - (i:Int)) (by omega) (by omega),zJ3 (by omega) (by omega)];omega
  rw [e];refine bd (zZ (by simp [zLj];omega)) ?_;rw [yH (by omega) (by omega),Qd,<- zM1,show (7:Int) - (i:Int) - 1=7 - ((i+1:Nat):Int) by omega]
 ·generalize be8 n 8=S;rfl
theorem zZj (x:By) (n:Int) (hx:x.length<2 ^ 41):zO (dX n) FU (x,56)=some (x++be8 n 8):=by
 refine yC 8 (λi=>(x++be8 n i,56 - 8*(i:Int))) (by simp [be8]) (λi hi=>?_) ?_ (xI (by decide))
 ·unfold dX;refine ct (by simp;omega) ?_;rw [zJ3 (n:=56 - 8*(i:Int)) (by omega) (by omega)];refine bd (zZ (by simp [zLj];omega)) ?_;rw [yH (by omega) (by omega),Qd,<- zM1,show (56:Int) - 8*(i:Int) - 8=56 - 8*((i+1:Nat):Int) by omega]
 ·generalize be8 n 8=S;rfl
theorem zH2 (b:By) (hb:b.length<2 ^ 40):zBr b=some (zDj b):=by
 have hz:zs b.length<64:=by unfold zs;omega
 unfold zBr;refine bd (a:=b) (by rw [zZ (by simp;omega)];simp) ?_;refine bd (zZ (by simp;omega)) ?_;refine bd (zJ6 b hb) ?_;refine ltk ?_;refine bd (yBi _ _ (by simp;omega)) ?_;rfl
theorem zPz (b:By) (hb:b.length<2 ^ 40):zAk b=some (zDj b):=by
 have hz:zs b.length<64:=by unfold zs;omega
 unfold zAk;refine bd (a:=b.length+72) (by unfold mkN;rw [yH (by omega) (by omega),if_pos (by omega)];congr 1) ?_;refine bd (a:=b) (by rw [zZ (by simp;omega)];simp) ?_;refine bd (zZ (by simp;omega)) ?_;rw [yDx];refine bd (zJ6 b hb) ?_;refine ltk ?_;refine bd (zZj _ _ (by simp;omega)) ?_;rfl
def be4 (w:Int):By:=[u8 (xN .u32 w 24),u8 (xN .u32 w 16),u8 (xN .u32 w 8),u8 w]
theorem zLe (l:List Int):(l.flatMap be4).length=4*l.length:=by
 induction l with
 | nil=>rfl
 | cons a r ih=>simp [ih,be4];omega
theorem zQ1 (l:List Int) (i:Nat) (hi:i<l.length):(l.take (i+1)).flatMap be4=(l.take i).flatMap be4++be4 (l.getD i 0):=by
 rw [Qa,Qt];congr 1;simp [hi]
theorem zWt (h:i<l.length):idx l (i:Int)=some (l.getD i 0):=by rw [yR h];simp [h]
theorem zNr (l:List Int) (hl:l.length<2 ^ 20):eQ l=some (l.flatMap be4):=by
 have:zO (kL l) FU ([],0)=some (l.flatMap be4):=by
  refine yC l.length (λi=>((l.take i).flatMap be4,(i:Int))) (by simp) (λi hi=>?_) ?_ (xI (by omega))
  ·unfold kL;refine ct (dlt hi) ?_;refine bd (zWt hi) ?_;refine bd (zWt hi) ?_;refine bd (zWt hi) ?_;refine bd (zWt hi) ?_;refine bd (zZ (by rw [zLe];simp;omega)) ?_;rw [zQ1 l i hi,yM (show i<2 ^ 40 by omega)];rfl
  ·unfold kL;refine cf (dge (Q5 _)) ?_;simp
 unfold eQ;exact bd this rfl
theorem zT0 (l:List Int) (hl:l.length<2 ^ 20):kN l=some (l.flatMap be4):=by
 have:zO (qV l) FU ([],0)=some (l.flatMap be4):=by
  refine yC l.length (λi=>((l.take i).flatMap be4,(i:Int))) (by simp) (λi hi=>?_) ?_ (xI (by omega))
  ·unfold qV;refine ct (dlt hi) ?_;refine bd (zWt hi) ?_;refine bd (zZ (by rw [zLe];simp;omega)) ?_;rw [zQ1 l i hi,yM (show i<2 ^ 40 by omega)];rfl
  ·unfold qV;refine cf (dge (Q5 _)) ?_;simp
 unfold kN;refine bd (a:=4*l.length) (by unfold mkN;rw [yH (by omega) (by omega),if_pos (by omega)];congr 1) ?_;exact bd this rfl
def sha (b:By):By:=(a8 (hsh (zDj b) ((zDj b).length / 64))).flatMap be4
theorem mH (b:By):(sha b).length=32:=by unfold sha;rw [zLe];rfl
theorem dG (b:By) (hb:b.length<2 ^ 40):vH b=some (sha b):=by
 have hz:zs b.length<64:=by unfold zs;omega
 have h1:=zEn b;have h2:=zIc b;unfold vH;refine bd zKh ?_;refine bd (ckT rfl) ?_;refine bd (zH2 b hb) ?_;refine bd (zP1 (zDj b) ((zDj b).length / 64) (by omega) (by omega)) ?_;refine bd (ckT rfl) ?_;refine bd (zNr _ (by simp [a8])) ?_;rfl
theorem zKz (b:By) (hb:b.length<2 ^ 40):eX 1 b=some (sha b):=by
 have hz:zs b.length<64:=by unfold zs;omega
 have h1:=zEn b;have h2:=zIc b;unfold eX;refine cf rfl ?_;refine ct rfl ?_;refine bd (zPz b hb) ?_;refine bd (zO5 (zDj b) ((zDj b).length / 64) (by omega) (by omega)) ?_;refine bd (zT0 _ (by simp)) ?_;rfl
set_option maxRecDepth 100000
def hd4 (n:Nat):By:=[u8 (xN .i64 (n:Int) 24),u8 (xN .i64 (n:Int) 16),u8 (xN .i64 (n:Int) 8),u8 (n:Int)]
theorem yLy (n:Nat) (h:n<2 ^ 32):[u8 (xN .u32 (Q1.wrap (n:Int)) 24),u8 (xN .u32 (Q1.wrap (n:Int)) 16),u8 (xN .u32 (Q1.wrap (n:Int)) 8),u8 (Q1.wrap (n:Int))]=hd4 n:=by
 rw [yK8 (by omega) (by omega)];rfl
def zS5 (fs:List By):By:=fs.flatMap λf=>hd4 f.length++f
def frm (tag:Int) (fs:List By):By:=u8 tag :: zS5 fs
def tot (fs:List By):Nat:=(fs.map λf=>4+f.length).sum
theorem zXx (fs:List By):(zS5 fs).length=tot fs:=by
 induction fs with
 | nil=>rfl
 | cons f r ih=>simp only [zS5,tot,List.flatMap_cons,Q4,Qj,Qk] at ih ⊢;rw [ih];simp [hd4]
theorem hC (tag:Int) (fs:List By):(frm tag fs).length=1+tot fs:=by simp [frm,zXx];omega
theorem zL2 (tag:Int) (fs:List By) (i:Nat) (hi:i<fs.length):frm tag (fs.take (i+1))=(frm tag (fs.take i)++hd4 (fs[i]).length)++fs[i]:=by
 unfold frm zS5;rw [Qa,Qt];simp [hi]
theorem zYt (fs:List By):∀ i,tot (fs.take i)<=tot fs:=by
 induction fs with
 | nil=>intro i;simp
 | cons f r ih=>
  intro i;cases i with
  | zero=>simp [tot]
  | succ j=>have:=ih j;simp only [tot,List.take_succ_cons,Qj,Qk] at this ⊢;omega
theorem zSe (fs:List By):fs.length<=tot fs:=by
 induction fs with
 | nil=>simp
 | cons f r ih=>simp only [tot,Qe,Qj,Qk] at ih ⊢;omega
theorem zR3 (fs:List By) (i:Nat) (hi:i<fs.length):tot (fs.take i)+4+(fs[i]).length<=tot fs:=by
 have h:=zYt fs (i+1);have e:tot (fs.take (i+1))=tot (fs.take i)+(4+(fs[i]).length):=by
  unfold tot;rw [Qa,W5,List.sum_append];simp only [hi,List.getElem?_eq_getElem,Qz,Qj,W9,Qk,Wa];omega
 omega
theorem fK (tag:Int) (fs:List By) (h:tot fs<2 ^ 32):sV tag fs=some (frm tag fs):=by
 have h1:=zSe fs;have:zO (kU fs) FU ([u8 tag],0)=some (frm tag fs):=by
  refine yC fs.length (λi=>(frm tag (fs.take i),(i:Int))) (by simp [frm,zS5]) (λi hi=>?_) ?_ (xI (by omega))
  ·have h2:=zR3 fs i hi;have h3:=hC tag (fs.take i);unfold kU;refine ct (dlt hi) ?_;refine bd (yR hi) ?_;refine bd (zZ (by simp;omega)) ?_;refine bd (yR hi) ?_;refine bd (zZ (by simp;omega)) ?_;rw [zL2 tag fs i hi,yM (show i<2 ^ 40 by omega)];rfl
  ·unfold kU;refine cf (dge (Q5 _)) ?_;simp
 unfold sV;exact bd this rfl
theorem zTi (tag:Int) (fs:List By) (h:tot fs<2 ^ 32):fF tag fs=some (frm tag fs):=by
 have h1:=zSe fs;have:zO (oN fs) FU ([u8 tag],0)=some (frm tag fs):=by
  refine yC fs.length (λi=>(frm tag (fs.take i),(i:Int))) (by simp [frm,zS5]) (λi hi=>?_) ?_ (xI (by omega))
  ·have h2:=zR3 fs i hi;have h3:=hC tag (fs.take i);unfold oN;refine ct (dlt hi) ?_;refine bd (yR hi) ?_;rw [yLy _ (by omega)];refine bd (zZ (by simp [hd4];omega)) ?_;refine bd (zZ (by simp [hd4];omega)) ?_;rw [zL2 tag fs i hi,yM (show i<2 ^ 40 by omega)]
  ·unfold oN;refine cf (dge (Q5 _)) ?_;simp
 unfold fF;exact bd this rfl
def hs (tag:Int) (fs:List By):By:=sha (frm tag fs)
theorem iK (tag:Int) (fs:List By):(hs tag fs).length=32:=mH _
theorem rC (tag:Int) (fs:List By) (h:tot fs<2 ^ 32):uB tag fs=some (hs tag fs):=by
 unfold uB;refine bd (fK tag fs h) ?_;exact bd (dG _ (by rw [hC];omega)) rfl
def beN (n:Int) (size k:Nat):By:=(Qi k).map λ(j:Nat)=>u8 (xN .u64 (Q6.wrap n) (8*((size:Int) - 1 - (j:Int))))
theorem zLf (n:Int) (size k:Nat):(beN n size k).length=k:=by simp [beN]
theorem zNd (n:Int) (size k:Nat):beN n size (k+1)=beN n size k++[u8 (xN .u64 (Q6.wrap n) (8*((size:Int) - 1 - (k:Int))))]:=by simp [beN,Qp]
def wU (b:By) (size:Nat) (n:Int):By:=b++beN n size size
theorem yJ (b:By) (size:Nat) (n:Int):(wU b size n).length=b.length+size:=by simp [wU,zLf]
theorem vI (b:By) (size:Nat) (n:Int) (h1:1<=size) (h8:size<=8) (hb:b.length<2 ^ 40):xU b (size:Int) n=some (wU b size n):=by
 have:zO (hO n) FU (b,(size:Int) - 1)=some (wU b size n):=by
  refine yC size (λi=>(b++beN n size i,(size:Int) - 1 - (i:Int))) (by simp [beN]) (λi hi=>?_) ?_ (xI (by omega))
  ·unfold hO;refine ct (by simp;omega) ?_;refine ltk ?_;rw [zJ3 (n:=(size:Int) - 1 - (i:Int)) (by omega) (by omega),zJ3 (n:=8*((size:Int) - 1 - (i:Int))) (by omega) (by omega)];refine bd (zZ (by simp [zLf];omega)) ?_;rw [yH (by omega) (by omega),Qd,<- zNd,show (size:Int) - 1 - (i:Int) - 1=(size:Int) - 1 - ((i+1:Nat):Int) by omega]
  ·unfold hO;refine cf (by simp;omega) rfl
 unfold xU;refine bd (a:=b) (by rw [zZ (by simp;omega)];simp) ?_;refine bd (a:=false) (cf (by simp;omega) (congrArg some (by simp;omega))) ?_;rw [yH (by omega) (by omega)];exact bd this rfl
theorem vW (b:By) (size:Nat) (n:Int) (h1:1<=size) (h8:size<=8) (hb:b.length<2 ^ 40):sM b (size:Int) n=some (wU b size n):=by
 have:zO (iT n) FU (b,(size:Int) - 1)=some (wU b size n):=by
  refine yC size (λi=>(b++beN n size i,(size:Int) - 1 - (i:Int))) (by simp [beN]) (λi hi=>?_) ?_ (xI (by omega))
  ·unfold iT;refine ct (by simp;omega) ?_;refine ltk ?_;rw [yH (n:=8*((size:Int) - 1 - (i:Int))) (by omega) (by omega),zJ3 (n:=8*((size:Int) - 1 - (i:Int))) (by omega) (by omega)];refine bd (zZ (by simp [zLf];omega)) ?_;rw [yH (by omega) (by omega),Qd,<- zNd,show (size:Int) - 1 - (i:Int) - 1=(size:Int) - 1 - ((i+1:Nat):Int) by omega]
  ·unfold iT;refine cf (by simp;omega) rfl
 unfold sM;refine bd (a:=b) (by rw [zZ (by simp;omega)];simp) ?_;refine bd (a:=false) (cf (by simp;omega) (congrArg some (by simp;omega))) ?_;rw [yH (by omega) (by omega)];exact bd this rfl
def xX (b x:By):By:=wU b 2 ((x.take 65535).length:Int)++x.take 65535
theorem wW (b x:By):(xX b x).length<=b.length+65537:=by simp [xX,yJ];omega
theorem tG (b x:By) (hb:b.length<2 ^ 39):wO b x=some (xX b x):=by
 unfold wO;refine bd (a:=x.take 65535) ?_ ?_
 ·by_cases h:65535<x.length
  ·refine ct (by simp;omega) ?_;exact bd (a:=x.take 65535) (by rw [show (0:Int)=((0:Nat):Int) from rfl,show (65535:Int)=((65535:Nat):Int) from rfl,vY (by omega) (by omega)];simp) rfl
  ·refine cf (by simp;omega) ?_;rw [Q3 (by omega)]
 ·refine bd (vI b 2 _ (by omega) (by omega) (by omega)) ?_;refine bd (zZ (by rw [yJ];simp;omega)) ?_;rfl
theorem hP (b x:By) (hb:b.length<2 ^ 39):aB b x=some (xX b x):=by
 unfold aB;refine bd (a:=x.take 65535) ?_ ?_
 ·by_cases h:65535<x.length
  ·rw [if_pos (by omega),show (0:Int)=((0:Nat):Int) from rfl,show (65535:Int)=((65535:Nat):Int) from rfl,vY (by omega) (by omega)];simp
  ·rw [if_neg (by omega),show (0:Int)=((0:Nat):Int) from rfl,vY (by omega) (by omega)];simp;rw [Q3 (by omega)]
 ·refine bd (vW b 2 _ (by omega) (by omega) (by omega)) ?_;refine bd (zZ (by rw [yJ];simp;omega)) ?_;rfl
theorem qE (a b:By) (ha:a.length<2 ^ 40):yT a b=some (a==b):=by
 unfold yT;by_cases h:a.length=b.length
 ·refine cf (by simp;omega) ?_;have:∃ r,zO (mA a b) FU 0=some r/\(match r with | .inl r=>r=false/\a≠b | .inr _=>a=b):=by
   refine zJy (λs=>∃ k:Nat,s=(k:Int)/\k<=a.length/\a.take k=b.take k) (λs=>a.length - s.toNat) _ (λs hs=>?_) FU 0 ⟨0,rfl,by omega,by simp⟩ (xI (by omega));obtain ⟨k,rfl,hk,he⟩:=hs;by_cases hk2:k<a.length
   ·by_cases hv:a[k]=b[k]
    ·refine .inl ⟨((k+1:Nat):Int),?_,⟨k+1,rfl,by omega,?_⟩,by simp;omega⟩
     ·unfold mA;refine ct (dlt hk2) ?_;refine bd (yR hk2) ?_;refine bd (yR (h▸hk2)) ?_;refine cf (by rw [hv];simp) ?_;rw [yM (by omega)]
     ·rw [Qa,Qa,he];simp [hk2,hv,h▸hk2]
    ·refine .inr ⟨.inl false,?_,rfl,λe=>hv (by subst e;rfl)⟩;unfold mA;refine ct (dlt hk2) ?_;refine bd (yR hk2) ?_;refine bd (yR (h▸hk2)) ?_;refine ct ?_ rfl;simp only [bne_iff_ne,ne_eq];intro e;exact hv (UInt8.toNat_inj.mp (by omega))
   ·refine .inr ⟨.inr (),?_,?_⟩
    ·unfold mA;exact cf (dge (by omega)) rfl
    ·have e1:a.take k=a:=Q3 (by omega);have e2:b.take k=b:=Q3 (by omega);rw [e1,e2] at he;exact he
  obtain ⟨r,h1,h2⟩:=this;refine bd h1 ?_;cases r with
  | inl r=>obtain ⟨rfl,h3⟩:=h2;simp [h3]
  | inr u=>simp [h2]
 ·refine ct (by simp;omega) ?_;have:a≠b:=λe=>h (by rw [e]);simp [this]
theorem mN (b:By) (h:b.length<2 ^ 40):wI b=some b:=by
 unfold wI;refine bd (zZ (by simp;omega)) ?_;simp
set_option maxRecDepth 100000
structure RS where
 b:By
 at':Nat
 e:Int
def RS.R (r:RS):zG:=⟨r.b,(r.at':Int),r.e⟩
def RS.Ok (r:RS):Prop:=r.at'<=r.b.length/\r.b.length<2 ^ 40
def RS.err (r:RS) (e:Int):RS:=⟨r.b,r.at',e⟩
def RS.to (r:RS) (n:Nat):RS:=⟨r.b,r.at'+n,r.e⟩
def RS.left (r:RS):Nat:=r.b.length - r.at'
def RS.get (r:RS) (n:Nat):By:=(r.b.drop r.at').take n
theorem RS.get_len (r:RS) (n:Nat) (h:n<=r.left):(r.get n).length=n:=by simp [RS.get,RS.left] at *;omega
def dE (r:RS) (n:Nat):By×RS:=if r.e≠0 then ([],r) else if r.left<n then ([],r.err 2) else (r.get n,r.to n)
def beV (l:By):Nat->Int
 | 0=>0
 | k+1=>ior .u64 (rX .u64 (beV l k) 8) (Q6.wrap ((l.getD k 0).toNat:Int))
def pN (r:RS) (n:Nat):Int×RS:=
 if r.e≠0 then (0,r) else if r.left<n then (0,r.err 2) else if 9223372036854775808<=beV (r.get n) n then (0,r.err 4) else (Q0.wrap (beV (r.get n) n),r.to n)
def v2 (r:RS):Nat:=(r.b.getD r.at' 0).toNat*256+(r.b.getD (r.at'+1) 0).toNat
def wA (r:RS) (most:Nat):By×RS:=
 if r.e≠0 then ([],r) else if r.left<2 then ([],r.err 2) else if most<v2 r then ([],r.err 4) else if r.left<2+v2 r then ([],r.err 2) else ((r.b.drop (r.at'+2)).take (v2 r),r.to (2+v2 r))
def jJ (r:RS):Int:=if r.e=0/\0<r.left then 3 else r.e
theorem yBa (r:RS) (n:Nat) (h:r.Ok):(dE r n).2.Ok:=by
 unfold dE;split
 ·exact h
 split
 ·exact h
 ·obtain ⟨z,g⟩:=h;exact ⟨by simp only [RS.to,RS.left] at *;omega,g⟩
theorem zF2 (r:RS) (n:Nat) (h:r.Ok):(pN r n).2.Ok:=by
 unfold pN;split
 ·exact h
 split
 ·exact h
 split
 ·exact h
 ·obtain ⟨z,g⟩:=h;exact ⟨by simp only [RS.to,RS.left] at *;omega,g⟩
theorem lQ (r:RS) (n:Nat) (h:r.Ok):(wA r n).2.Ok:=by
 unfold wA;split
 ·exact h
 split
 ·exact h
 split
 ·exact h
 split
 ·exact h
 ·obtain ⟨z,g⟩:=h;exact ⟨by simp only [RS.to,RS.left] at *;omega,g⟩
theorem zKy (r:RS) (h:r.Ok):Q0.wrap ((r.b.length:Int) - (r.at':Int))=(r.left:Int):=by
 obtain ⟨g,z⟩:=h;rw [yH (by omega) (by omega)];simp only [RS.left];omega
theorem zGu (r:RS) (n:Nat) (h:r.Ok) (F:r.e=0) (E:r.left<n):xM r.R (n:Int)=some (false,(r.err 2).R):=by
 unfold xM RS.R;refine bd (a:=2) ?_ rfl;refine bd (a:=true) ?_ rfl;refine ct (by simp [F]) ?_;rw [zKy r h,dlt E]
theorem zEp (r:RS) (n:Nat) (h:r.Ok) (D:r.e=0) (F:n<=r.left):xM r.R (n:Int)=some (true,r.R):=by
 unfold xM RS.R;refine bd (a:=0) ?_ (by simp [D]);refine bd (a:=false) ?_ (by simp [D]);refine ct (by simp [D]) ?_;rw [zKy r h,dge F]
theorem b0 (h:e=0):(e != 0)=false:=by simp_all
theorem b1 (h:e≠0):(e != 0)=true:=by simp [h]
theorem c0 (h:e=0):(e==0)=true:=by simp_all
theorem c1 (h:e≠0):(e==0)=false:=by simp [h]
theorem zLd (n:Nat):decide ((n:Int)<0)=false:=by simp
theorem zPe (r:RS) (n:Nat) (h:r.Ok):oK r.R (n:Int)=some ((dE r n).1,(dE r n).2.R):=by
 unfold oK;by_cases z:r.e=0
 ·refine bd (a:=0) ?_ ?_
  ·refine bd (a:=false) ?_ (congrArg some z);refine ct (c0 z) ?_;exact congrArg some (zLd n)
  ·have G:(⟨r.R.B,r.R.At,0⟩:zG)=r.R:=by simp [RS.R,z]
   rw [G];by_cases D:r.left<n
   ·refine bd (a:=(true,r.b,(r.at':Int),2)) ?_ ?_
    ·refine cf rfl ?_;exact bd (zGu r n h z D) rfl
    ·refine ct rfl ?_;rw [show dE r n=([],r.err 2) by simp [dE,z,D]];rfl
   ·refine bd (a:=(false,r.b,(r.at':Int),r.e)) ?_ ?_
    ·refine cf rfl ?_;exact bd (zEp r n h z (by omega)) rfl
    ·refine cf rfl ?_;have H:=RS.get_len r n (by omega);obtain ⟨I,J⟩:=h;have F:=D;simp only [RS.left] at F;rw [yH (n:=(r.at':Int)+(n:Int)) (by omega) (by omega),yH (n:=(r.at':Int)+(n:Int) - (n:Int)) (by omega) (by omega),show (r.at':Int)+(n:Int) - (n:Int)=(r.at':Int) by omega,show (r.at':Int)+(n:Int)=((r.at'+n:Nat):Int) by omega];refine ltk ?_;refine bd (a:=r.get n) (by rw [vY (by omega) (by omega),Nat.add_sub_cancel_left];rfl) ?_;refine bd (a:=r.get n) (by rw [zZ (by simp;simp only [RS.left] at D;omega)];simp) ?_;rw [show dE r n=(r.get n,r.to n) by simp [dE,z,D]];rfl
 ·refine bd (a:=r.e) ?_ ?_
  ·refine bd (a:=false) ?_ rfl;exact cf (c1 z) rfl
  ·refine bd (a:=(true,r.b,(r.at':Int),r.e)) (ct (b1 z) rfl) ?_;refine ct rfl ?_;rw [show dE r n=([],r) by simp [dE,z]];rfl
theorem yLp (b:By) (g n:Nat) (h:g+n<=b.length) (H:b.length<2 ^ 40):zO (tU (n:Int) b (g:Int)) FU (0,0)=some (beV ((b.drop g).take n) n):=by
 refine yC n (λi=>(beV ((b.drop g).take n) i,(i:Int))) rfl (λi F=>?_) ?_ (xI (by omega))
 ·unfold tU;refine ct (dlt F) ?_;refine bd (a:=((b.drop g).take n).getD i 0) ?_ ?_
  ·rw [yH (by omega) (by omega),show (g:Int)+(i:Int)=((g+i:Nat):Int) by omega,yR (by omega)];have G:i<((b.drop g).take n).length:=by simp;omega
   simp_all
  ·refine ltk ?_;rw [yM (show i<2 ^ 40 by omega)];rfl
 ·unfold tU;exact cf (dge (Q5 _)) rfl
theorem gG (r:RS) (n:Nat) (h:r.Ok) (H:1<=n) (K:n<=8):vD r.R (n:Int)=some ((pN r n).1,(pN r n).2.R):=by
 unfold vD;by_cases g:r.e=0
 ·refine bd (a:=0) ?_ ?_
  ·refine bd (a:=false) ?_ (congrArg some g);refine ct (c0 g) ?_;exact cf (by simp;omega) (congrArg some (by simp;omega))
  ·have I:(⟨r.R.B,r.R.At,0⟩:zG)=r.R:=by simp [RS.R,g]
   rw [I];by_cases D:r.left<n
   ·refine bd (a:=(true,r.b,(r.at':Int),2)) ?_ ?_
    ·refine cf rfl ?_;exact bd (zGu r n h g D) rfl
    ·refine ct rfl ?_;rw [show pN r n=(0,r.err 2) by simp [pN,g,D]];rfl
   ·refine bd (a:=(false,r.b,(r.at':Int),r.e)) ?_ ?_
    ·refine cf rfl ?_;exact bd (zEp r n h g (by omega)) rfl
    ·refine cf rfl ?_;obtain ⟨H,J⟩:=h;have F:=D;simp only [RS.left] at F;refine bd (a:=beV (r.get n) n) (yLp r.b r.at' n (by omega) J) ?_;by_cases G:9223372036854775808<=beV (r.get n) n
     ·refine ct (by simp;omega) ?_;rw [show pN r n=(0,r.err 4) by simp [pN,g,D,G]];rfl
     ·refine cf (by simp;omega) ?_;rw [yH (n:=(r.at':Int)+(n:Int)) (by omega) (by omega),show (r.at':Int)+(n:Int)=((r.at'+n:Nat):Int) by omega];rw [show pN r n=(Q0.wrap (beV (r.get n) n),r.to n) by simp [pN,g,D,G]];rfl
 ·refine bd (a:=r.e) ?_ ?_
  ·refine bd (a:=false) ?_ rfl;exact cf (c1 g) rfl
  ·refine bd (a:=(true,r.b,(r.at':Int),r.e)) (ct (b1 g) rfl) ?_;refine ct rfl ?_;rw [show pN r n=(0,r) by simp [pN,g]];rfl
theorem yLz (x y:UInt8):ior .i64 (rX .i64 (Q0.wrap (x.toNat:Int)) 8) (Q0.wrap (y.toNat:Int))=((x.toNat*256+y.toNat:Nat):Int):=by
 have F:=x.toNat_lt;have E:=y.toNat_lt;rw [yH (by omega) (by omega),yH (by omega) (by omega)];have A:rX .i64 (x.toNat:Int) 8=((x.toNat*256:Nat):Int):=by
  show Q0.wrap ((x.toNat:Int)*256)=_;rw [yH (by omega) (by omega)];omega
 rw [A];unfold ior;have D:(Qf Q0.bits ((x.toNat*256:Nat):Int) ||| Qf Q0.bits (y.toNat:Int)).toNat=x.toNat*256+y.toNat:=by
  show (Qf 64 ((x.toNat*256:Nat):Int) ||| Qf 64 (y.toNat:Int)).toNat=_;rw [Q8,Q8,BitVec.toNat_or,Qb,Qb,Qg (by omega),Qg (by omega)];rw [Nat.mul_comm,show (256:Nat)=2 ^ 8 from rfl,<- Nat.two_pow_add_eq_or_of_lt (by omega)]
 rw [D,yH (by omega) (by omega)]
theorem ig {l:By} (h:i<l.length):idx l (i:Int)=some (l.getD i 0):=by rw [yR h];simp [h]
theorem sT (r:RS) (m:Nat) (h:r.Ok):wB r.R (m:Int)=some ((wA r m).1,(wA r m).2.R):=by
 have hv:v2 r<65536:=by
  have U:=(r.b.getD r.at' 0).toNat_lt;have W:=(r.b.getD (r.at'+1) 0).toNat_lt;unfold v2;omega
 unfold wB;by_cases A:r.e=0
 ·by_cases F:r.left<2
  ·refine bd (a:=(true,r.b,(r.at':Int),2)) (cf (b0 A) (bd (zGu r 2 h A F) rfl)) ?_;refine ct rfl ?_;rw [show wA r m=([],r.err 2) by simp [wA,A,F]];rfl
  ·refine bd (a:=(false,r.b,(r.at':Int),r.e)) (cf (b0 A) (bd (zEp r 2 h A (by omega)) rfl)) ?_;refine cf rfl ?_;have L:=F;simp only [RS.left] at L;have h':=h;obtain ⟨U,W⟩:=h';refine bd (a:=r.b.getD r.at' 0) (ig (by omega)) ?_;refine bd (a:=r.b.getD (r.at'+1) 0) (by rw [yM (by omega)];exact ig (by omega)) ?_;refine ltk ?_;rw [yLz];show (bif decide ((m:Int)<(v2 r:Int)) then _ else _)=_;by_cases I:m<v2 r
   ·refine ct (dlt I) ?_;rw [show wA r m=([],r.err 4) by simp [wA,A,F,I]];rfl
   ·refine cf (dge (by omega)) ?_;have V:Q0.wrap (2+(v2 r:Int))=((2+v2 r:Nat):Int):=by rw [yH (by omega) (by omega)];omega
    show ((xM r.R (Q0.wrap (2+(v2 r:Int)))).bind λp=>bif !p.1 then _ else lt (Q0.wrap (p.2.At+Q0.wrap (2+(v2 r:Int)))) _)=_;rw [V];by_cases J:r.left<2+v2 r
    ·refine bd (zGu r (2+v2 r) h A J) ?_;refine ct rfl ?_;rw [show wA r m=([],r.err 2) by simp [wA,A,F,I,J]]
    ·have N:=J;simp only [RS.left] at N;refine bd (zEp r (2+v2 r) h A (by omega)) ?_;refine cf rfl ?_;refine ltk ?_;show ((sub r.b (Q0.wrap (Q0.wrap ((r.at':Int)+((2+v2 r:Nat):Int)) - (v2 r:Int))) (Q0.wrap ((r.at':Int)+((2+v2 r:Nat):Int)))).bind λz=>(yK 1 [] z).bind λy=>some (y,zG.mk r.b (Q0.wrap ((r.at':Int)+((2+v2 r:Nat):Int))) r.e))=_;rw [yH (n:=(r.at':Int)+((2+v2 r:Nat):Int)) (by omega) (by omega),show (r.at':Int)+((2+v2 r:Nat):Int)=((r.at'+(2+v2 r):Nat):Int) by omega,yH (by omega) (by omega),show ((r.at'+(2+v2 r):Nat):Int) - (v2 r:Int)=((r.at'+2:Nat):Int) by omega];refine bd (a:=(r.b.drop (r.at'+2)).take (v2 r)) (by rw [vY (by omega) (by omega)];congr 2;omega) ?_;refine bd (a:=(r.b.drop (r.at'+2)).take (v2 r)) ((zZ (by simp;omega)).trans rfl) ?_;rw [show wA r m=((r.b.drop (r.at'+2)).take (v2 r),r.to (2+v2 r)) by simp [wA,A,F,I,J]];rfl
 ·refine bd (a:=(true,r.b,(r.at':Int),r.e)) (ct (b1 A) rfl) ?_;refine ct rfl ?_;rw [show wA r m=([],r) by simp [wA,A]];rfl
theorem zDu (r:RS) (h:r.Ok):uS r.R=some (jJ r,r.R):=by
 unfold uS;by_cases z:r.e=0
 ·refine bd (a:=(decide (0<(r.left:Int)),r.b,(r.at':Int),r.e)) (ct (c0 z) ?_) ?_
  ·show some (decide (0<Q0.wrap ((r.b.length:Int) - (r.at':Int))),r.b,(r.at':Int),r.e)=_;rw [zKy r h]
  ·by_cases E:0<r.left
   ·refine ct (by simp;omega) ?_;simp only [jJ,z,E];rw [<- z];rfl
   ·refine cf (by simp;omega) ?_;simp only [jJ,z,E];rw [<- z];simp [RS.R]
 ·refine bd (cf (c1 z) rfl) ?_;refine cf rfl ?_;simp only [jJ,z];simp [RS.R]
end Go.Proofs.TT
namespace Go.Sw
open Go
variable {a b:Nat}{i:Int}{j:Nat}{α β:Type}{P:α->Prop}{f:α->Option β}{l:List α}{o:Option α}
def Def (o:Option α) (P:α->Prop):Prop:=∃ a,o=some a/\P a
theorem Def.bd {Q:β->Prop} (h:Def o P) (k:∀ a,P a->Def (f a) Q):Def (o.bind f) Q:=by
 obtain ⟨a,rfl,h⟩:=h;exact k a h
theorem Def.s {a:α} {Q:α->Prop} (h:Q a):Def (some a) Q:=⟨a,rfl,h⟩
theorem Def.of {a:α} {Q:α->Prop} (e:o=some a) (h:Q a):Def o Q:=⟨a,e,h⟩
theorem Def.c {b:Bool} {x y:Option α} {Q:α->Prop} (h:b=true->Def x Q) (k:b=false->Def y Q):Def (bif b then x else y) Q:=by
 cases b
 ·exact k rfl
 ·exact h rfl
theorem Def.ck {b:Bool} (h:b=true):Def (Go.Sw.ck b) (λ_=>True):=⟨(),ckT h,trivial⟩
theorem Def.lt {e:α} {Q:β->Prop} (k:Def (f e) Q):Def (Go.Sw.lt e f) Q:=k
theorem Def.mono {Q:α->Prop} (h:Def o P) (k:∀ a,P a->Q a):Def o Q:=by
 obtain ⟨a,e,h⟩:=h;exact ⟨a,e,k a h⟩
theorem Def.get (d:α) (h:Def o P):o=some (o.getD d)/\P (o.getD d):=by
 obtain ⟨a,rfl,h⟩:=h;exact ⟨rfl,h⟩
theorem Def.loop {X Y:Type} {step:X->Option (X ⊕ Y)} {s:X} {Q:Y->Prop} (I:X->Prop) (m:X->Nat)
  (h:∀ s,I s->Def (step s) (λr=>match r with | .inl s'=>I s'/\m s'<m s | .inr r=>Q r)) (h0:I s) (hm:m s<2 ^ 64):Def (zO step FU s) Q:=by
 refine zJy I m Q (λs hs=>?_) FU s h0 (xI hm);obtain ⟨r,e,hr⟩:=h s hs;cases r with
 | inl s'=>exact .inl ⟨s',e,hr.1,hr.2⟩
 | inr r=>exact .inr ⟨r,e,hr⟩
theorem Def.app {m:List α} (h:(l.length+m.length)*b<=140737488355328):Def (yK b l m) (λr=>r=l++m):=⟨_,zZ h,rfl⟩
theorem Def.idx (h0:0<=i) (h:i<l.length):Def (Go.Sw.idx l i) (λr=>r∈l):=by
 obtain ⟨n,rfl⟩:=Ql h0;exact ⟨_,yR (by omega),Qh _⟩
theorem Def.sub {a b:Int} (h0:0<=a) (h1:a<=b) (h2:b<=l.length):Def (Go.Sw.sub l a b) (λr=>r=(l.drop a.toNat).take (b.toNat - a.toNat)):=by
 obtain ⟨n,rfl⟩:=Ql h0;obtain ⟨m,rfl⟩:=Ql (by omega:0<=b);exact ⟨_,vY (by omega) (by omega),rfl⟩
theorem Def.ixN {n:Nat} (h0:0<=i) (h:i<n):Def (Go.Sw.ixN n i) (λj=>j=i.toNat/\j<n):=by
 refine ⟨i.toNat,?_,rfl,by omega⟩;simp [Go.Sw.ixN,h0,h]
theorem Def.upd {u:α} (h:j<l.length):Def (wL l j u) (λr=>r=l.set j u):=⟨_,by simp [wL,h],rfl⟩
theorem Def.at (h:j<l.length):Def (l[j]?) (λr=>r∈l):=⟨l[j],by simp [h],Qh _⟩
theorem Def.mkN {n:Int} (h0:0<=n) (h:n<2 ^ 40):Def (mkN 1 n) (λj=>j=n.toNat):=⟨n.toNat,by unfold Go.Sw.mkN;rw [if_pos ⟨h0,by omega⟩],rfl⟩
theorem zIt (h:a=b):Nat.beq a b=true:=by subst h;exact Nat.beq_refl a
theorem zJu (h:a<=b):Nat.ble a b=true:=Nat.ble_eq.mpr h
end Go.Sw
namespace Go.Proofs.TT
open Go Go.Sw
set_option maxRecDepth 100000
end Go.Proofs.TT
namespace Go.Sw
open Go
theorem zB7 {X Y:Type} {s1 s2:X->Option (X ⊕ Y)} (I:X->Prop) (h:∀ s,I s->s1 s=s2 s/\Def (s2 s) (λr=>∀ s',r=.inl s'->I s')):∀ (n:Nat) (s:X),I s->zO s1 n s=zO s2 n s
 | 0,_,_=>rfl
 | n+1,s,hs=>by
  obtain ⟨e,r,hr,hI⟩:=h s hs;simp only [zO];rw [e,hr];cases r with
  | inl s'=>exact zB7 I h n s' (hI s' rfl)
  | inr y=>rfl
end Go.Sw
namespace Go.Proofs.TT
open Go Go.Sw
set_option maxRecDepth 100000
variable {H a:Nat}{b:Int}{h i j k:Nat}{l:List By}{p:Prop}{α:Type}
theorem dT [Decidable p] (h:decide p=true):p:=by simpa using h
theorem dF [Decidable p] (h:decide p=false):¬ p:=by simpa using h
theorem two {X Y:Type} {step:X->Option (X ⊕ Y)} {a b c:X} {r:Y} (h0:step a=some (.inl b)) (h1:step b=some (.inl c)) (h2:step c=some (.inr r)):zO step FU a=some r:=by
 refine yC 2 (λi=>match i with | 0=>a | 1=>b | _=>c) rfl (λi hi=>?_) h2 (xI (by decide));have:i=0∨i=1:=by omega
 rcases this with rfl | rfl
 ·exact h0
 ·exact h1
theorem yH2 (x n m:Int) (h:yX .u64 (Q6.wrap n) 31=32 - m) (hn:n=32 - m) (h0:0<=m) (h1:m<=32):zQ x n=tW x n:=by
 rw [nI x n m h h0 h1];subst hn;have h2:Q6.wrap (32 - (32 - m))=m:=by rw [Qm];omega
 have h4:decide ((0:Int)<=32 - m)=true:=by simp;omega
 simp only [tW,ck,lt,h2,h4,rr,cond_true,Qn];rw [zN8]
theorem rot1 (x:Int):zQ x 1=tW x 1:=yH2 x 1 31 (by decide) (by decide) (by decide) (by decide)
theorem rot5 (x:Int):zQ x 5=tW x 5:=yH2 x 5 27 (by decide) (by decide) (by decide) (by decide)
theorem yMi (x:Int):zQ x 30=tW x 30:=yH2 x 30 2 (by decide) (by decide) (by decide) (by decide)
theorem zHl (x n:Int) (h0:0<=n):Def (tW x n) (λ_=>True):=by
 unfold tW;refine Def.bd (Def.ck (by simpa using h0)) (λ_ _=>?_);exact Def.lt (Def.s trivial)
theorem w80 {w:List Int} (hw:w.length=80) (hj:j<80):Def (w[j]?) (λ_=>True):=(Def.at (by omega)).mono λ_ _=>trivial
theorem ixw {n:Nat} (hn:j<n) (z:Int) (hz:z=(j:Int)):Def (Go.Sw.ixN n z) (λr=>r=j):=by
 subst hz;exact (Def.ixN (by omega) (by omega)).mono λa h=>by rw [h.1];simp
theorem s1_s (x:By) (at' i:Nat) (w:List Int) (h:at'+64<=x.length) (hb:x.length<2 ^ 42) (hi:i<=80) (hw:w.length=80) :
  Def (uZ x (at':Int) ((i:Int),w)) (λr=>match r with | .inl s=>∃ w',s=(((i+1:Nat):Int),w')/\i<80/\w'.length=80 | .inr w=>w.length=80):=by
 unfold uZ;refine Def.c (λh=>?_) (λ_=>Def.s hw);have hi2:i<80:=by have:=dT h;omega
 have up:∀ v,Def ((Go.Sw.ixN 80 (i:Int)).bind λj=>(wL w j v).bind λw=>some w) (λw'=>w'.length=80):=λv=>by
  refine Def.bd (ixw hi2 _ rfl) (λj hj=>?_);subst hj;exact Def.bd (Def.upd (by omega)) (λr hr=>Def.s (by rw [hr];simpa using hw))
 refine Def.bd (P:=λw'=>w'.length=80) ?_ (λw' hw'=>Def.s ⟨w',by rw [yM (by omega)],hi2,hw'⟩);refine Def.c (λh16=>?_) (λh16=>?_)
 ·have h16':i<16:=by have:=dT h16;omega
  rw [yH (by omega) (by omega)];refine Def.bd (Def.sub (by omega) (by omega) (by omega)) (λy hy=>?_);have hyl:y.length=64:=by rw [hy];simp;omega
  exact Def.bd (P:=λ_=>True) (Def.of (zKo y i (by omega) (by omega)) trivial) (λv _=>up v)
 ·have h16':16<=i:=by have:=dF h16;omega
  have wr:∀ k:Nat,k<=16->Q0.wrap ((i:Int) - (k:Int))=((i - k:Nat):Int):=λk hk=>by rw [yH (by omega) (by omega)];omega
  refine Def.bd (ixw (show i - 3<80 by omega) _ (wr 3 (by omega))) (λj hj=>?_);refine Def.bd (w80 hw (by omega)) (λ_ _=>?_);refine Def.bd (ixw (show i - 8<80 by omega) _ (wr 8 (by omega))) (λj hj=>?_);refine Def.bd (w80 hw (by omega)) (λ_ _=>?_);refine Def.bd (ixw (show i - 14<80 by omega) _ (wr 14 (by omega))) (λj hj=>?_);refine Def.bd (w80 hw (by omega)) (λ_ _=>?_);refine Def.bd (ixw (show i - 16<80 by omega) _ (wr 16 (by omega))) (λj hj=>?_);refine Def.bd (w80 hw (by omega)) (λ_ _=>?_);refine Def.lt ?_;exact Def.bd (zHl _ _ (by decide)) (λv _=>up v)
theorem s1_e (x:By) (at' i:Nat) (w:List Int) (h:at'+64<=x.length) (hb:x.length<2 ^ 42):vS (rU x at') ((i:Int),w)=uZ x (at':Int) ((i:Int),w):=by
 unfold vS uZ;have hs:sub x (at':Int) (Q0.wrap ((at':Int)+64))=some (rU x at'):=by
  rw [yH (by omega) (by omega),show (at':Int)+64=((at'+64:Nat):Int) by omega,vY (by omega) (by omega)];simp [rU]
 simp only [rot1,hs,zNe,Qn]
theorem yM1 (x:By) (at':Nat) (h:at'+64<=x.length) (hb:x.length<2 ^ 42) :
  Def (zO (uZ x (at':Int)) FU (0,Q2 80 0)) (λw=>w.length=80/\zO (vS (rU x at')) FU (0,Q2 80 0)=some w):=by
 have e:zO (vS (rU x at')) FU (0,Q2 80 0)=zO (uZ x (at':Int)) FU (0,Q2 80 0):=by
  refine zB7 (λs=>∃ i:Nat,s.1=(i:Int)/\i<=80/\s.2.length=80) (λs hs=>?_) _ _ ⟨0,rfl,by omega,by simp⟩;obtain ⟨i',w⟩:=s;obtain ⟨i,h1,hi,hw⟩:=hs;have h1:i'=(i:Int):=h1;subst h1;refine ⟨s1_e x at' i w h hb,(s1_s x at' i w h hb hi hw).mono λr hr s' hs'=>?_⟩;subst hs';obtain ⟨w',rfl,h2,h3⟩:=hr;exact ⟨i+1,rfl,by omega,h3⟩
 rw [e];obtain ⟨w,h1,h2⟩:Def (zO (uZ x (at':Int)) FU (0,Q2 80 0)) (λw=>w.length=80):=by
  refine Def.loop (λs=>∃ i:Nat,s.1=(i:Int)/\i<=80/\s.2.length=80) (λs=>80 - s.1.toNat) (λs hs=>?_) ⟨0,rfl,by omega,by simp⟩ (by simp);obtain ⟨i',w⟩:=s;obtain ⟨i,h1,hi,hw⟩:=hs;have h1:i'=(i:Int):=h1;subst h1;refine (s1_s x at' i w h hb hi hw).mono λr hr=>?_;cases r with
  | inl s'=>
   obtain ⟨w',rfl,h2,h3⟩:=hr;exact ⟨⟨i+1,rfl,by omega,h3⟩,by simp only [Qu];omega⟩
  | inr w=>exact hr
 exact ⟨w,h1,h2,h1⟩
theorem r1_s (w:List Int) (hw:w.length=80) (a b c d e:Int) (i:Nat) (hi:i<=80) :
  Def (uU w (a,b,c,d,e,(i:Int))) (λr=>match r with | .inl s=>s.2.2.2.2.2=((i+1:Nat):Int)/\i<80 | .inr _=>True):=by
 unfold uU;refine Def.c (λh=>?_) (λ_=>Def.s trivial);have hi2:i<80:=by have:=dT h;omega
 refine Def.bd (P:=λ_=>True) ?_ (λx _=>?_)
 ·exact Def.c (λ_=>Def.lt (Def.s trivial)) (λ_=>Def.c (λ_=>Def.s trivial) (λ_=>Def.c (λ_=>Def.lt (Def.s trivial)) (λ_=>Def.s trivial)))
 obtain ⟨f,k⟩:=x;refine Def.bd (zHl _ _ (by decide)) (λ_ _=>?_);refine Def.lt ?_;refine Def.bd (ixw hi2 _ rfl) (λj hj=>?_);refine Def.bd (w80 hw (by omega)) (λ_ _=>?_);refine Def.lt ?_;refine Def.bd (zHl _ _ (by decide)) (λ_ _=>Def.s ?_);exact ⟨yM (by omega),hi2⟩
theorem r1_e (w:List Int) (a b c d e:Int) (i:Nat) (hi:i<=80):vT w (a,b,c,d,e,(i:Int))=uU w (a,b,c,d,e,(i:Int)):=by
 have hq:Q0.wrap (Qo (i:Int) 20)=((i / 20:Nat):Int):=by
  rw [show Qo (i:Int) 20=((i / 20:Nat):Int) from rfl];exact yH (by omega) (by omega)
 unfold vT uU;simp only [rot5,yMi,hq];by_cases h1:i<20
 ·rw [show (((i / 20:Nat):Int)==0)=true by simp;omega,show decide ((i:Int)<20)=true by simp;omega];rfl
 by_cases h2:i<40
 ·rw [show (((i / 20:Nat):Int)==0)=false by simp;omega,show decide ((i:Int)<20)=false by simp;omega,show (((i / 20:Nat):Int)==1)=true by simp;omega,show decide ((i:Int)<40)=true by simp;omega];rfl
 by_cases h3:i<60
 ·rw [show (((i / 20:Nat):Int)==0)=false by simp;omega,show decide ((i:Int)<20)=false by simp;omega,show (((i / 20:Nat):Int)==1)=false by simp;omega,show decide ((i:Int)<40)=false by simp;omega,show (((i / 20:Nat):Int)==2)=true by simp;omega,show decide ((i:Int)<60)=true by simp;omega]
 ·by_cases h4:i<80
  ·rw [show (((i / 20:Nat):Int)==0)=false by simp;omega,show decide ((i:Int)<20)=false by simp;omega,show (((i / 20:Nat):Int)==1)=false by simp;omega,show decide ((i:Int)<40)=false by simp;omega,show (((i / 20:Nat):Int)==2)=false by simp;omega,show decide ((i:Int)<60)=false by simp;omega]
  ·rw [show decide ((i:Int)<80)=false by simp;omega];rfl
theorem yMy (w:List Int) (hw:w.length=80) (a b c d e:Int):Def (zO (uU w) FU (a,b,c,d,e,0)) (λr=>zO (vT w) FU (a,b,c,d,e,0)=some r):=by
 have e1:zO (vT w) FU (a,b,c,d,e,0)=zO (uU w) FU (a,b,c,d,e,0):=by
  refine zB7 (λs=>∃ i:Nat,s.2.2.2.2.2=(i:Int)/\i<=80) (λs hs=>?_) _ _ ⟨0,rfl,by omega⟩;obtain ⟨a,b,c,d,e,v⟩:=s;obtain ⟨i,h1,hi⟩:=hs;have h1:v=(i:Int):=h1;subst h1;refine ⟨r1_e w a b c d e i hi,(r1_s w hw a b c d e i hi).mono λr hr s' hs'=>?_⟩;subst hs';exact ⟨i+1,hr.1,by have:=hr.2;omega⟩
 rw [e1];obtain ⟨r,h1,_⟩:Def (zO (uU w) FU (a,b,c,d,e,0)) (λ_=>True):=by
  refine Def.loop (λs=>∃ i:Nat,s.2.2.2.2.2=(i:Int)/\i<=80) (λs=>80 - s.2.2.2.2.2.toNat) (λs hs=>?_) ⟨0,rfl,by omega⟩ (by simp);obtain ⟨a,b,c,d,e,v⟩:=s;obtain ⟨i,h1,hi⟩:=hs;have h1:v=(i:Int):=h1;subst h1;refine (r1_s w hw a b c d e i hi).mono λr hr=>?_;cases r with
  | inl s'=>exact ⟨⟨i+1,hr.1,by have:=hr.2;omega⟩,by rw [hr.1];simp only [Qu];have:=hr.2;omega⟩
  | inr r=>trivial
 exact ⟨r,h1,h1⟩
def a5 (s:A5 Int):List Int:=[s.a0,s.a1,s.a2,s.a3,s.a4]
def zXr (h:A5 Int) (b:By):A5 Int:=(tY h b).getD h
theorem blk1 (x:By) (at':Nat) (h:A5 Int) (hx:at'+64<=x.length) (hb:x.length<2 ^ 42) :
  tY h (rU x at')=some (zXr h (rU x at'))/\qX x (a5 h,(at':Int))=some (.inl (a5 (zXr h (rU x at')),((at'+64:Nat):Int))):=by
 obtain ⟨w,hw1,hw2,hw3⟩:=yM1 x at' hx hb;obtain ⟨⟨a,b,c,d,e⟩,hr1,hr2⟩:=yMy w hw2 h.a0 h.a1 h.a2 h.a3 h.a4;have e1:tY h (rU x at')=some ⟨Q1.wrap (h.a0+a),Q1.wrap (h.a1+b),Q1.wrap (h.a2+c),Q1.wrap (h.a3+d),Q1.wrap (h.a4+e)⟩:=by
  unfold tY;refine bd hw3 ?_;exact bd hr2 rfl
 have e2:zXr h (rU x at')=⟨Q1.wrap (h.a0+a),Q1.wrap (h.a1+b),Q1.wrap (h.a2+c),Q1.wrap (h.a3+d),Q1.wrap (h.a4+e)⟩:=by
  unfold zXr;rw [e1];rfl
 rw [e2];refine ⟨e1,?_⟩;unfold qX;refine ct (dlt (by omega)) ?_;refine bd hw1 ?_;refine bd (a:=h.a0) rfl ?_;refine bd (a:=h.a1) rfl ?_;refine bd (a:=h.a2) rfl ?_;refine bd (a:=h.a3) rfl ?_;refine bd (a:=h.a4) rfl ?_;refine bd hr1 ?_;refine bd (a:=h.a0) rfl ?_;refine bd (a:=h.a1) rfl ?_;refine bd (a:=h.a2) rfl ?_;refine bd (a:=h.a3) rfl ?_;refine bd (a:=h.a4) rfl ?_;rw [yH (by omega) (by omega),show (at':Int)+64=((at'+64:Nat):Int) by omega];rfl
def yHc:A5 Int:=⟨1732584193,4023233417,2562383102,271733878,3285377520⟩
def zUb (x:By):Nat->A5 Int
 | 0=>yHc
 | i+1=>zXr (zUb x i) (rU x (64*i))
theorem zL7 (x:By) (n:Nat) (hx:x.length=64*n) (hl:x.length<2 ^ 42):zO (qX x) FU (a5 yHc,0)=some (a5 (zUb x n)):=by
 refine yC n (λi=>(a5 (zUb x i),((64*i:Nat):Int))) rfl (λi hi=>?_) ?_ (xI (by omega))
 ·exact (blk1 x (64*i) (zUb x i) (by omega) hl).2
 ·show qX x (a5 (zUb x n),((64*n:Nat):Int))=_;unfold qX;exact cf (dge (by omega)) rfl
def zJn (b:By):By:=(a5 (zUb (zDj b) ((zDj b).length / 64))).flatMap be4
theorem zHj (b:By):(zJn b).length=20:=by unfold zJn;rw [zLe];rfl
theorem zZd (b:By) (hb:b.length<2 ^ 40):zCw b=some (zJn b):=by
 have hz:zs b.length<64:=by unfold zs;omega
 have h1:=zEn b;have h2:=zIc b;unfold zCw;refine bd (zH2 b hb) ?_;refine bd (zL7 (zDj b) ((zDj b).length / 64) (by omega) (by omega)) ?_;exact bd (zNr _ (by simp [a5])) rfl
theorem fG {l:List α} (h:k<l.length):l.drop k=l[k] :: l.drop (k+1):=Qv h
theorem yMn (k:IntKind) (n j:Nat) (h:j<=k.bits):xN k (n:Int) (j:Int)=((n / 2 ^ j:Nat):Int):=by
 unfold xN;rw [Qu,Nat.min_eq_left h,Int.fdiv_eq_ediv_of_nonneg _ (by have:(0:Int)<2 ^ j:=Int.pow_pos (by decide);omega)];rw [Int.natCast_ediv];simp
theorem wb (x:UInt8):Q0.wrap (x.toNat:Int)=(x.toNat:Int):=by
 have:=x.toNat_lt;rw [yH (by omega) (by omega)]
theorem eH (n:Nat):(u8 (n:Int)).toNat=n % 256:=by
 have:((n:Int) % 256).toNat=n % 256:=by omega
 rw [u8,this];simp
theorem zC9 (h:i<l.length):idx l (i:Int)=some (l.getD i []):=by rw [yR h];simp [h]
set_option maxRecDepth 100000
theorem yHk (x:UInt8):Q0.wrap ((u8 (xN .u8 (x.toNat:Int) 4)).toNat:Int)=((x.toNat / 16:Nat):Int):=by
 have hx:=x.toNat_lt;rw [show (4:Int)=((4:Nat):Int) from rfl,yMn .u8 x.toNat 4 (by decide),eH,yH (by omega) (by omega)];omega
theorem yGx (x:UInt8):Q0.wrap ((u8 (yX .u8 (x.toNat:Int) 15)).toNat:Int)=((x.toNat % 16:Nat):Int):=by
 have hx:=x.toNat_lt;have e:yX .u8 (x.toNat:Int) 15=((x.toNat % 16:Nat):Int):=by
  have e:(Qf Wb.bits (x.toNat:Int) &&& Qf Wb.bits 15).toNat=x.toNat % 16:=by
   show (Qf 8 (x.toNat:Int) &&& Qf 8 ((15:Nat):Int)).toNat=_;rw [Q8,Q8,BitVec.toNat_and,Qb,Qb,Qg (by omega),Qg (by omega)];exact Nat.and_two_pow_sub_one_eq_mod x.toNat 4
  unfold yX;rw [e,IntKind.wrap_u8];omega
 rw [e,eH,yH (by omega) (by omega)];omega
def nb (x:UInt8):List Nat:=[x.toNat / 16,x.toNat % 16]
def nbs (h:By):List Nat:=h.flatMap nb
def sm (h:By):Nat:=(h.map λx=>30 - x.toNat / 16 - x.toNat % 16).sum
theorem yGb (l:By) (i:Nat) (hi:i<l.length):sm (l.take (i+1))=sm (l.take i)+(30 - l[i].toNat / 16 - l[i].toNat % 16):=by
 unfold sm;rw [Qa,W5,List.sum_append];simp only [hi,List.getElem?_eq_getElem,Qz,Qj,W9,Qk,Wa];omega
theorem yAa (l:By):sm l<=30*l.length:=by
 induction l with
 | nil=>simp [sm]
 | cons a r ih=>simp only [sm,Qj,Qk,Qe] at ih ⊢;omega
theorem yAp (l:By) (i:Nat) (hi:i<l.length):nbs (l.take (i+1))=nbs (l.take i)++nb l[i]:=by
 unfold nbs;rw [Qa,Qt];simp [hi]
theorem zKj (l:By):(nbs l).length=2*l.length:=by
 induction l with
 | nil=>rfl
 | cons a r ih=>simp [nbs,nb] at ih ⊢;omega
def zFb (l:List Nat):List Int:=l.map λ(n:Nat)=>(n:Int)
theorem zMm (a b:List Nat):zFb (a++b)=zFb a++zFb b:=by simp [zFb]
theorem zI0 (a:List Nat):(zFb a).length=a.length:=by simp [zFb]
theorem zM7 {l:List Nat} (h:i<l.length):idx (zFb l) (i:Int)=some ((l.getD i 0:Nat):Int):=by
 rw [yR (by rw [zI0];exact h)];simp [zFb,h]
def zDk (m:By):List Nat:=nbs ((hs 4 [m]).take 16)++[sm ((hs 4 [m]).take 16) / 256,sm ((hs 4 [m]).take 16) / 16 % 16,sm ((hs 4 [m]).take 16) % 16]
theorem gY (tag:Int) (fs:List By):((hs tag fs).take 16).length=16:=by simp [iK]
theorem zIn (m:By):(zDk m).length=35:=by have:=gY 4 [m];simp [zDk,zKj,-W4,this]
theorem zMk (tag:Int) (fs:List By):sub (hs tag fs) 0 16=some ((hs tag fs).take 16):=by
 have:=iK tag fs;rw [show (0:Int)=((0:Nat):Int) from rfl,show (16:Int)=((16:Nat):Int) from rfl,vY (by omega) (by omega)];simp
theorem tot1 (a:By):tot [a]=4+a.length:=by simp [tot]
theorem zUd (a b:By):tot [a,b]=8+a.length+b.length:=by simp [tot];omega
theorem zPx (a b c:By):tot [a,b,c]=12+a.length+b.length+c.length:=by simp [tot];omega
theorem zHy (m:By) (hm:m.length<2 ^ 31):jO m=some (zFb (zDk m)):=by
 unfold jO;refine bd (rC 4 [m] (by rw [tot1];omega)) ?_;refine bd (zMk 4 [m]) ?_;have hl:=gY 4 [m];unfold zDk;generalize (hs 4 [m]).take 16=h at hl ⊢;have hsm:=yAa h;refine bd (a:=(zFb (nbs h),(sm h:Int))) ?_ ?_
 ·refine yC 16 (λi=>(zFb (nbs (h.take i)),(sm (h.take i):Int),(i:Int))) rfl (λi hi=>?_) ?_ (xI (by omega))
  ·have h1:=yAa (h.take i);have h2:=zKj (h.take i);have h3:(h.take i).length=i:=by simp;omega
   have hi':i<h.length:=by omega
   have hx:=h[i].toNat_lt;unfold fS;refine ct (dlt (b:=16) hi) ?_;refine bd (yR hi') ?_;refine bd (yR hi') ?_;rw [yHk,yGx];refine bd (a:=zFb (nbs (h.take (i+1)))) ?_ ?_
   ·rw [zZ (by rw [zI0];simp;omega),yAp h i hi',zMm];rfl
   refine bd (yR hi') ?_;refine ltk ?_;refine bd (yR hi') ?_;refine ltk ?_;rw [yHk,yGx,yGb h i hi',yM (show i<2 ^ 40 by omega)];rw [yH (n:=30 - _) (by omega) (by omega),yH (n:=30 - _ - _) (by omega) (by omega),yH (by omega) (by omega)];congr 4;omega
  ·unfold fS;refine cf rfl ?_;rw [Q3 (by omega)]
 ·have h2:=zKj h;show ((yK 8 (zFb (nbs h)) [Q0.wrap (Qo (sm h:Int) 256),Qy (Q0.wrap (Qo (sm h:Int) 16)) 16,Qy (sm h:Int) 16]).bind λv=>some v)=_;have e1:Q0.wrap (Qo (sm h:Int) 256)=((sm h / 256:Nat):Int):=by rw [Qc (by omega),yH (by omega) (by omega)];omega
  have e2:Q0.wrap (Qo (sm h:Int) 16)=((sm h / 16:Nat):Int):=by rw [Qc (by omega),yH (by omega) (by omega)];omega
  have e3:Qy ((sm h / 16:Nat):Int) 16=((sm h / 16 % 16:Nat):Int):=by rw [Q7 (by omega)];omega
  have e4:Qy (sm h:Int) 16=((sm h % 16:Nat):Int):=by rw [Q7 (by omega)];omega
  rw [e1,e2,e3,e4];refine bd (zZ (by rw [zI0];simp;omega)) ?_;rw [zMm];rfl
def chn (leaf c p:Nat) (x:By):Nat->By
 | 0=>x
 | k+1=>(hs 1 [[u8 (leaf:Int),u8 (c:Int),u8 ((p+k:Nat):Int)],chn leaf c p x k]).take 16
theorem zCv (leaf c p:Nat) (x:By) (hx:x.length=16):∀ k,(chn leaf c p x k).length=16
 | 0=>hx
 | _+1=>gY _ _
theorem zFz (leaf c p t:Nat) (x:By) (hx:x.length=16) (hp:p<=t) (ht:t<2 ^ 30):kC (leaf:Int) (c:Int) (p:Int) (t:Int) x=some (chn leaf c p x (t - p)):=by
 unfold kC;refine bd ?_ rfl;refine yC (t - p) (λi=>(chn leaf c p x i,((p+i:Nat):Int))) rfl (λi hi=>?_) ?_ (xI (by omega))
 ·have hl:=zCv leaf c p x hx i;unfold cI;refine ct (dlt (by omega)) ?_;refine bd (rC _ _ (by rw [zUd];simp;omega)) ?_;refine bd (zMk _ _) ?_;rw [yM (show p+i<2 ^ 40 by omega)];rfl
 ·unfold cI;exact cf (dge (by omega)) rfl
def nod (sig:By) (i:Nat):By:=(sig.drop (16*i)).take 16
def zO4 (leaf:Nat) (d:List Nat) (sig:By):Nat->By
 | 0=>[]
 | i+1=>zO4 leaf d sig i++chn leaf i (d.getD i 0) (nod sig i) (15 - d.getD i 0)
theorem zSs (sig:By) (hs:sig.length=560) (i:Nat) (hi:i<35):(nod sig i).length=16:=by simp [nod];omega
theorem zH6 (leaf:Nat) (d:List Nat) (sig:By) (hs:sig.length=560):∀ i,i<=35->(zO4 leaf d sig i).length=16*i
 | 0,_=>rfl
 | i+1,h=>by
  have h1:=zH6 leaf d sig hs i (by omega);have h2:=zCv leaf i (d.getD i 0) (nod sig i) (zSs sig hs i (by omega)) (15 - d.getD i 0);simp only [zO4,Q4,h1,h2];omega
theorem zXh (leaf:Nat) (d:List Nat) (sig:By) (hs:sig.length=560) (hd:d.length=35) (h15:∀ i,i<35->d.getD i 0<=15):zO (iD (leaf:Int) sig (zFb d)) FU ([],0)=some (zO4 leaf d sig 35):=by
 refine yC 35 (λi=>(zO4 leaf d sig i,(i:Int))) rfl (λi hi=>?_) ?_ (xI (by omega))
 ·have hl:=zH6 leaf d sig hs i (by omega);have hn:=zSs sig hs i hi;have hc:=zCv leaf i (d.getD i 0) (nod sig i) hn (15 - d.getD i 0);unfold iD;refine ct (dlt (b:=35) hi) ?_;refine bd (zM7 (by omega)) ?_;refine bd (a:=nod sig i) ?_ ?_
  ·rw [yH (n:=16*(i:Int)) (by omega) (by omega),yH (by omega) (by omega),show 16*(i:Int)=((16*i:Nat):Int) by omega,show ((16*i:Nat):Int)+16=((16*i+16:Nat):Int) by omega,vY (by omega) (by omega)];simp [nod]
  refine bd (zFz leaf i _ 15 _ hn (h15 i hi) (by decide)) ?_;refine bd (zZ (by omega)) ?_;rw [yM (show i<2 ^ 40 by omega)];rfl
 ·generalize zO4 leaf d sig 35=S;rfl
theorem yIt (l:By):∀ n∈nbs l,n<=15:=by
 intro n hn;simp only [nbs,List.mem_flatMap,nb] at hn;obtain ⟨x,_,hx⟩:=hn;have:=x.toNat_lt;simp at hx;omega
theorem zRy (m:By):∀ i,i<35->(zDk m).getD i 0<=15:=by
 intro i hi;have hl:=zIn m;have:(zDk m).getD i 0∈zDk m:=by
  rw [List.getD_eq_getElem?_getD,List.getElem?_eq_getElem (by omega)];exact Qh _
 generalize (zDk m).getD i 0=v at this ⊢;unfold zDk at this;have hs':=yAa ((hs 4 [m]).take 16);have hl2:=gY 4 [m];rw [List.mem_append] at this;rcases this with h | h
 ·exact yIt _ _ h
 ·simp only [List.mem_cons,List.not_mem_nil,or_false] at h;omega
def zOa (leaf:Nat) (m sig:By):By:=(hs 2 [[u8 (leaf:Int)],zO4 leaf (zDk m) sig 35]).take 16
theorem zNg (leaf:Nat) (m sig:By) (hl:leaf<256) (hm:m.length<2 ^ 31) (hs:sig.length=560):iU (leaf:Int) m sig=some (zOa leaf m sig,true):=by
 have he:=zH6 leaf (zDk m) sig hs 35 (by omega);unfold iU;refine bd (a:=false) (cf (zLd leaf) (cf (by simp;omega) (by simp [hs]))) ?_;refine cf rfl ?_;refine bd (zHy m hm) ?_;refine bd (zXh leaf _ sig hs (zIn m) (zRy m)) ?_;refine bd (a:=zOa leaf m sig) ?_ rfl;unfold eT;refine bd (rC _ _ (by rw [zUd,he];simp)) ?_;exact bd (zMk _ _) rfl
set_option maxRecDepth 100000
def par (h i:Nat) (l r:By):By:=(hs 3 [[u8 (h:Int),u8 (i:Int)],l,r]).take 16
theorem zKq (h i:Nat) (l r:By) (hl:l.length=16) (hr:r.length=16):fL (h:Int) (i:Int) l r=some (par h i l r):=by
 unfold fL;refine bd (rC _ _ (by rw [zPx,hl,hr];simp)) ?_;exact bd (zMk _ _) rfl
def nd (path:List By) (i:Nat) (leaf:By):Nat->By
 | 0=>leaf
 | k+1=>if i / 2 ^ k % 2=1 then par k (i / 2 ^ (k+1)) (path.getD k []) (nd path i leaf k) else par k (i / 2 ^ (k+1)) (nd path i leaf k) (path.getD k [])
theorem zYn (path:List By) (i:Nat) (leaf:By) (hl:leaf.length=16):∀ k,(nd path i leaf k).length=16
 | 0=>hl
 | k+1=>by
  unfold nd;split<;>exact gY _ _
theorem half (i k:Nat):i / 2 ^ k / 2=i / 2 ^ (k+1):=by rw [Nat.div_div_eq_div_mul,W0]
theorem zKn (leaf:By) (i:Nat) (path:List By) (hl:leaf.length=16) (hp:path.length<=3) (h16:∀ k,k<path.length->(path.getD k []).length=16) (hi:i<2 ^ path.length) (h8:i<256):zAe leaf (i:Int) path=some (nd path i leaf path.length):=by
 unfold zAe;refine bd (a:=false) ?_ ?_
 ·refine cf (by simp;omega) ?_;refine cf (zLd i) ?_;congr 1;have h4:path.length=0∨path.length=1∨path.length=2∨path.length=3:=by omega
  rcases h4 with h | h | h | h<;>rw [h] at hi ⊢ <;> (rw [decide_eq_false_iff_not];show ¬ (_:Int)<=(i:Int))
  ·show ¬ (1:Int)<=i;omega
  ·show ¬ (2:Int)<=i;omega
  ·show ¬ (4:Int)<=i;omega
  ·show ¬ (8:Int)<=i;omega
 refine cf rfl ?_;refine bd (mN leaf (by omega)) ?_;refine bd ?_ rfl;refine yC path.length (λk=>(((i / 2 ^ k:Nat):Int),nd path i leaf k,(k:Int))) (by simp [nd]) (λk hk=>?_) ?_ (xI (by omega))
 ·have hn:=zYn path i leaf hl k;have hq:=h16 k hk;have hd:i / 2 ^ k<=i:=Nat.div_le_self _ _;have e1:Qy ((i / 2 ^ k:Nat):Int) 2=((i / 2 ^ k % 2:Nat):Int):=by
   generalize i / 2 ^ k=q;rw [Q7 (by omega)];omega
  have e2:Q0.wrap (Qo ((i / 2 ^ k:Nat):Int) 2)=((i / 2 ^ (k+1):Nat):Int):=by
   rw [<- half];generalize i / 2 ^ k=q at hd ⊢;rw [Qc (by omega),yH (by omega) (by omega)];omega
  unfold bD;refine ct (dlt hk) ?_;rw [e1,e2];by_cases hb:i / 2 ^ k % 2=1
  ·refine bd (a:=nd path i leaf (k+1)) (cf (by rw [hb];rfl) ?_) ?_
   ·refine bd (zC9 hk) ?_;refine bd (zKq k _ _ _ hq hn) ?_;simp only [nd,if_pos hb]
   ·rw [yM (show k<2 ^ 40 by omega)]
  ·refine bd (a:=nd path i leaf (k+1)) (ct (by
                           have:i / 2 ^ k % 2=0:=by omega
                           rw [this];rfl) ?_) ?_
   ·refine bd (zC9 hk) ?_;refine bd (zKq k _ _ _ hn hq) ?_;simp only [nd,if_neg hb]
   ·rw [yM (show k<2 ^ 40 by omega)]
 ·unfold bD;exact cf (dge (Q5 _)) rfl
def zF0 (sig:By) (h:Nat):List By:=(Qi h).map λ(j:Nat)=>(sig.drop (561+16*j)).take 16
theorem zB9 (sig:By) (h:Nat):(zF0 sig h).length=h:=by simp [zF0]
theorem zTr (sig:By) (h:Nat):zF0 sig (h+1)=zF0 sig h++[(sig.drop (561+16*h)).take 16]:=by simp [zF0,Qp]
theorem yD9 (sig:By) (h:Nat) (hs:sig.length=561+16*h):∀ k,k<(zF0 sig h).length->((zF0 sig h).getD k []).length=16:=by
 intro k hk;rw [zB9] at hk;simp [zF0,hk];omega
def vrf (pub m sig:By):Int×Bool:=
 if pub.length≠17∨3<(pub.getD 0 0).toNat then (0,false)
 else if sig.length≠561+16*(pub.getD 0 0).toNat∨2 ^ (pub.getD 0 0).toNat<=(sig.getD 0 0).toNat then (0,false)
 else if nd (zF0 sig (pub.getD 0 0).toNat) (sig.getD 0 0).toNat (zOa (sig.getD 0 0).toNat m ((sig.drop 1).take 560)) (pub.getD 0 0).toNat=pub.drop 1 then (((sig.getD 0 0).toNat:Int),true) else (0,false)
theorem zTm (h:Nat) (hh:h<=3):rX .i64 1 (Q6.wrap (h:Int))=((2 ^ h:Nat):Int):=by
 have h4:h=0∨h=1∨h=2∨h=3:=by omega
 rcases h4 with h | h | h | h<;>subst h<;>rfl
theorem yBr (sig:By) (x:UInt8) (h:Nat) (hx:x.toNat=h) (hs:sig.length=561+16*h) (hh:h<=3):zO (nM sig x) FU (561,[],0)=some (zF0 sig h):=by
 refine yC h (λi=>(((561+16*i:Nat):Int),zF0 sig i,(i:Int))) rfl (λi hi=>?_) ?_ (xI (by omega))
 ·unfold nM;rw [wb,hx];refine ct (dlt hi) ?_;rw [yH (n:=((561+16*i:Nat):Int)+16) (by omega) (by omega),show ((561+16*i:Nat):Int)+16=((561+16*(i+1):Nat):Int) by omega];refine bd (a:=(sig.drop (561+16*i)).take 16) (by rw [vY (by omega) (by omega)];congr 2;omega) ?_;refine bd (zZ (by rw [zB9];simp;omega)) ?_;rw [zTr,yM (show i<2 ^ 40 by omega)]
 ·unfold nM;rw [wb,hx];exact cf (dge (Q5 _)) rfl
theorem yAh {l:By} (h:a<=l.length):sub l (a:Int) (l.length:Int)=some (l.drop a):=by
 rw [vY h (Q5 _),Q3 (by simp)]
theorem zQa (pub m sig:By) (hm:m.length<2 ^ 31) (hp:pub.length<2 ^ 40) (hg:sig.length<2 ^ 40):jT pub m sig=some (vrf pub m sig):=by
 unfold jT;by_cases hl:pub.length=17
 case neg=>
  refine bd (a:=true) (ct (by simp;omega) rfl) ?_;refine ct rfl ?_;rw [vrf,if_pos (.inl hl)]
 have h0:idx pub 0=some (pub.getD 0 0):=ig (i:=0) (by omega);by_cases h3:3<(pub.getD 0 0).toNat
 ·refine bd (a:=true) (cf (by simp;omega) ?_) ?_
  ·refine bd h0 ?_;rw [wb];refine congrArg some ?_;rw [decide_eq_true_iff];omega
  ·refine ct rfl ?_;rw [vrf,if_pos (.inr h3)]
 refine bd (a:=false) (cf (by simp;omega) ?_) ?_
 ·refine bd h0 ?_;rw [wb];refine congrArg some ?_;rw [decide_eq_false_iff_not];omega
 refine cf rfl ?_;refine bd h0 ?_;have hx:∃ h,(pub.getD 0 0).toNat=h:=⟨_,rfl⟩;obtain ⟨h,hx⟩:=hx;rw [wb,hx];rw [hx] at h3;rw [vrf,hx,if_neg (by omega)];have e1:Q0.wrap (561+Q0.wrap (16*(h:Int)))=((561+16*h:Nat):Int):=by rw [yH (n:=16*(h:Int)) (by omega) (by omega),yH (by omega) (by omega)];omega
 by_cases hs:sig.length=561+16*h
 case neg=>
  refine bd (a:=true) (ltk ?_) ?_
  ·rw [e1];exact ct (by simp;omega) rfl
  ·refine ct rfl ?_;rw [if_pos (.inl hs)]
 have hs0:idx sig 0=some (sig.getD 0 0):=ig (i:=0) (by omega);have hy:∃ i,(sig.getD 0 0).toNat=i:=⟨_,rfl⟩;obtain ⟨i,hy⟩:=hy;have hi8:i<256:=by have:=(sig.getD 0 0).toNat_lt;omega
 by_cases hb:2 ^ h<=i
 ·refine bd (a:=true) (ltk ?_) ?_
  ·rw [e1];refine cf (by simp;omega) ?_;refine bd hs0 ?_;refine ltk ?_;rw [wb,zTm h (by omega),hy];simp;exact_mod_cast hb
  ·refine ct rfl ?_;rw [hy,if_pos (.inr hb)]
 refine bd (a:=false) (ltk ?_) ?_
 ·rw [e1];refine cf (by simp;omega) ?_;refine bd hs0 ?_;refine ltk ?_;rw [wb,zTm h (by omega),hy];simp;exact_mod_cast (by omega:i<2 ^ h)
 refine cf rfl ?_;refine bd hs0 ?_;rw [wb,hy,if_neg (by omega)];refine bd (a:=(sig.drop 1).take 560) (vY (a:=1) (b:=561) (by omega) (by omega)) ?_;refine bd (zNg i m _ hi8 hm (by simp;omega)) ?_;refine bd (yBr sig _ h hx hs (by omega)) ?_;have ht:=zYn (zF0 sig h) i (zOa i m ((sig.drop 1).take 560)) (gY _ _) h;refine bd (zKn _ i _ (gY _ _) (by rw [zB9];omega) (yD9 sig h hs) (by rw [zB9];omega) hi8) ?_;refine bd (yAh (a:=1) (by omega)) ?_;rw [zB9];generalize nd (zF0 sig h) i (zOa i m ((sig.drop 1).take 560)) h=N at ht ⊢;refine bd (qE _ _ (by omega)) ?_;by_cases hN:N=pub.drop 1
 ·rw [if_pos hN];exact cf (by rw [hN];simp) rfl
 ·rw [if_neg hN];exact ct (by simp [-List.drop_one,hN]) rfl
set_option maxRecDepth 100000
theorem zEo {l c:List α} (h:l.length=c.length) (hi:i<l.length):wL (l.take i++c.drop i) i l[i]=some (l.take (i+1)++c.drop (i+1)):=by
 have hl:(l.take i).length=i:=by simp;omega
 unfold wL;rw [if_pos (by simp;omega),List.set_append,if_neg (by omega),hl,Qq,Qv (l:=c) (by omega),List.set_cons_zero,<- Q9 hi,Qd];rfl
def pad (x:Int) (k:By):By:=(Qi 64).map λi=>u8 (wC .u8 ((k.getD i 0).toNat:Int) x)
theorem zCo (x:Int) (k:By):(pad x k).length=64:=by simp [pad]
theorem zPm (x:Int) (k:By) (h:i<64):(pad x k)[i]'(by rw [zCo];exact h)=u8 (wC .u8 ((k.getD i 0).toNat:Int) x):=by simp [pad]
def zJt (key:By):By:=if 64<key.length then sha key else key
def mc (key b:By):By:=sha (pad 92 (zJt key)++sha (pad 54 (zJt key)++b))
theorem zLl (key b:By):(mc key b).length=32:=mH _
theorem zMw (key:By):(zJt key).length<=64:=by unfold zJt;split<;>simp_all [mH];
theorem z64:(Q2 64 (0:UInt8)).length=64:=by simp
theorem zKr (key b:By) (hk:key.length<2 ^ 39) (hb:b.length<2 ^ 39):bL key b=some (mc key b):=by
 unfold bL;refine bd (a:=zJt key) ?_ ?_
 ·unfold zJt;by_cases h:64<key.length
  ·refine ct (dlt (a:=64) h) ?_;rw [if_pos h];exact bd (dG key (by omega)) rfl
  ·refine cf (by simp;omega) ?_;rw [if_neg h]
 have hk2:=zMw key;unfold mc;generalize zJt key=k at hk2 ⊢;refine bd (a:=64) rfl ?_;refine bd (a:=64) rfl ?_;have h1:=zCo 54 k;have h2:=zCo 92 k;refine bd (a:=(pad 54 k,pad 92 k)) ?_ ?_
 ·refine yC 64 (λi=>((i:Int),(pad 54 k).take i++(Q2 64 (0:UInt8)).drop i,(pad 92 k).take i++(Q2 64 (0:UInt8)).drop i)) (by simp) (λi hi=>?_) ?_ (xI (by omega))
  ·unfold zBl;refine ct (dlt (b:=64) hi) ?_;refine bd (a:=k.getD i 0) ?_ ?_
   ·by_cases h:i<k.length
    ·exact ct (dlt h) (bd (ig h) rfl)
    ·refine cf (dge (by omega)) ?_;simp [List.getElem?_eq_none (show k.length<=i by omega)]
   refine bd (vR hi) ?_;have e1:=zEo (l:=pad 54 k) (c:=Q2 64 (0:UInt8)) (i:=i) (by simp [h1]) (by omega);rw [zPm 54 k hi] at e1;refine bd e1 ?_;refine bd (vR hi) ?_;have e2:=zEo (l:=pad 92 k) (c:=Q2 64 (0:UInt8)) (i:=i) (by simp [h2]) (by omega);rw [zPm 92 k hi] at e2;refine bd e2 ?_;rw [yM (show i<2 ^ 40 by omega)]
  ·unfold zBl;refine cf rfl ?_;rw [Q3 (by omega),Q3 (by omega)];simp
 ·refine bd (ckT (zIt h1)) ?_;refine bd (ckT rfl) ?_;refine bd (ckT (zIt h2)) ?_;refine bd (ckT rfl) ?_;refine bd (zZ (by rw [h1];omega)) ?_;refine bd (dG _ (by rw [Q4,h1];omega)) ?_;refine bd (zZ (by rw [h2,mH];decide)) ?_;exact bd (dG _ (by rw [Q4,h2,mH];decide)) rfl
theorem zQx (x:UInt8) (k:By) (hk:k.length<=64):aX x k=some (pad (x.toNat:Int) k,k):=by
 have h1:=zCo (x.toNat:Int) k;have hc:(cpy (Q2 64 (0:UInt8)) k).length=64:=by simp [cpy];omega
 have hg:∀ i,i<64->(cpy (Q2 64 (0:UInt8)) k)[i]? = some (k.getD i 0):=λi hi=>by
  unfold cpy;rw [z64,Q3 hk];by_cases h:i<k.length
  ·rw [List.getElem?_append_left h];simp [h]
  ·rw [List.getElem?_append_right (by omega),List.getElem?_drop];rw [show k.length+(i - k.length)=i by omega,List.getElem?_replicate,if_pos hi];simp [List.getElem?_eq_none (show k.length<=i by omega)]
 unfold aX;refine bd (a:=64) rfl ?_;refine bd (ckT rfl) ?_;refine ltk ?_;refine bd (a:=pad (x.toNat:Int) k) ?_ ?_
 ·refine yC 64 (λi=>((i:Int),(pad (x.toNat:Int) k).take i++(cpy (Q2 64 (0:UInt8)) k).drop i)) (by simp) (λi hi=>?_) ?_ (xI (by omega))
  ·unfold cX;refine ct (dlt (b:=64) hi) ?_;refine bd (vR hi) ?_;refine bd (a:=k.getD i 0) ?_ ?_
   ·rw [List.getElem?_append_right (by simp;omega),List.getElem?_drop];rw [show i+(i - ((pad (x.toNat:Int) k).take i).length)=i by simp;omega];exact hg i hi
   refine bd (vR hi) ?_;have e1:=zEo (l:=pad (x.toNat:Int) k) (c:=cpy (Q2 64 (0:UInt8)) k) (i:=i) (by omega) (by omega);rw [zPm _ k hi] at e1;refine bd e1 ?_;rw [yM (show i<2 ^ 40 by omega)]
  ·unfold cX;refine cf rfl ?_;rw [Q3 (by omega),Qx (by omega),W6]
 ·refine bd (ckT (zIt h1)) ?_;exact bd (ckT rfl) rfl
theorem zH4 (key b:By) (hk:key.length<2 ^ 39) (hb:b.length<2 ^ 39):zG4 key b=some (mc key b):=by
 unfold zG4;refine bd (a:=zJt key) ?_ ?_
 ·unfold zJt;by_cases h:64<key.length
  ·refine ct (dlt (a:=64) h) ?_;rw [if_pos h];exact bd (zKz key (by omega)) rfl
  ·refine cf (by simp;omega) ?_;rw [if_neg h]
 have hk2:=zMw key;unfold mc;generalize zJt key=k at hk2 ⊢;have h1:=zCo 54 k;have h2:=zCo 92 k;refine bd (zQx 54 k hk2) ?_;refine bd (a:=pad 54 k++b) (zZ (l:=pad 54 k) (by rw [h1];omega)) ?_;refine bd (zKz _ (by rw [Q4,h1];omega)) ?_;refine bd (zQx 92 k hk2) ?_;refine bd (a:=pad 92 k++sha (pad 54 k++b)) (zZ (l:=pad 92 k) (by rw [h2,mH];decide)) ?_;exact bd (zKz _ (by rw [Q4,h2,mH];decide)) rfl
def dvB (key label ctx:By) (n i:Nat):By:=mc key (hd4 i++((label++[0]++ctx)++hd4 (8*n)))
def dvS (key label ctx:By) (n:Nat):Nat->By
 | 0=>[]
 | i+1=>dvS key label ctx n i++dvB key label ctx n (i+1)
theorem dU (key label ctx:By) (n:Nat):∀ i,(dvS key label ctx n i).length=32*i
 | 0=>rfl
 | i+1=>by simp [dvS,dU key label ctx n i,dvB,zLl];omega
def dv (key label ctx:By) (n:Nat):By:=if n<1∨1024<n then [] else (dvS key label ctx n ((n+31) / 32)).take n
theorem dY (key label ctx:By) (n:Nat) (h:n<=1024):(dv key label ctx n).length=n:=by
 unfold dv;split
 ·simp;omega
 ·rw [W4,dU];omega
theorem yDm (n:Nat):zC2 (n:Int)=some (hd4 n):=rfl
theorem yAs (n:Nat):zIh (n:Int)=some (hd4 n):=rfl
theorem dQ (n:Nat):(hd4 n).length=4:=rfl
theorem or2 (n:Nat):(bif decide ((n:Int)<1) then (some true) else some (decide (1024<(n:Int))):Option Bool)=some (decide (n<1∨1024<n)):=by
 by_cases h:n<1
 ·refine ct (by simp;omega) (congrArg some ?_);symm;simp [h]
 ·refine cf (by simp;omega) (congrArg some ?_);by_cases h2:1024<n<;>simp [h2]<;>omega
theorem uG (key label ctx:By) (n:Nat) (hk:key.length<2 ^ 30) (hl:label.length<2 ^ 20) (hc:ctx.length<2 ^ 20):wK key label ctx (n:Int)=some (dv key label ctx n):=by
 unfold wK dv;refine bd (or2 n) ?_;by_cases h:n<1∨1024<n
 ·rw [if_pos h];exact ct (by simpa using h) rfl
 rw [if_neg h];refine cf (by simpa using h) ?_;refine bd (a:=dvS key label ctx n ((n+31) / 32)) ?_ ?_
 ·refine yC ((n+31) / 32) (λi=>(dvS key label ctx n i,((i+1:Nat):Int))) rfl (λi hi=>?_) ?_ (xI (by omega))
  ·have h1:=dU key label ctx n i;unfold fR;refine ct (dlt (by omega)) ?_;refine bd (yDm (i+1)) ?_;refine bd (zZ (by rw [dQ];omega)) ?_;refine bd (zZ (by simp [dQ];omega)) ?_;refine bd (zZ (by simp [dQ];omega)) ?_;refine bd (a:=hd4 (8*n)) ?_ ?_
   ·rw [yH (by omega) (by omega),show (8:Int)*(n:Int)=((8*n:Nat):Int) by omega];rfl
   refine bd (zZ (by simp [dQ];omega)) ?_;refine bd (zKr key _ (by omega) (by simp [dQ];omega)) ?_;refine bd (zZ (by rw [h1,zLl];omega)) ?_;rw [yM (show i+1<2 ^ 40 by omega)];simp [dvS,dvB]
  ·unfold fR;exact cf (dge (by rw [dU];omega)) rfl
 ·have h1:=dU key label ctx n ((n+31) / 32);refine bd (a:=(dvS key label ctx n ((n+31) / 32)).take n) ?_ rfl;rw [show (0:Int)=((0:Nat):Int) from rfl,vY (by omega) (by omega)];simp
theorem zJr (key label ctx:By) (n:Nat) (hk:key.length<2 ^ 30) (hl:label.length<2 ^ 20) (hc:ctx.length<2 ^ 20):zDs key label ctx (n:Int)=some (dv key label ctx n):=by
 unfold zDs dv;refine bd (or2 n) ?_;by_cases h:n<1∨1024<n
 ·rw [if_pos h];exact ct (by simpa using h) rfl
 rw [if_neg h];refine cf (by simpa using h) ?_;refine bd (ckT (zJu (by omega))) ?_;refine bd (zZ (by simp;omega)) ?_;refine bd (zZ (by simp;omega)) ?_;refine bd (a:=hd4 (8*n)) ?_ ?_
 ·rw [yH (by omega) (by omega),show (8:Int)*(n:Int)=((8*n:Nat):Int) by omega];rfl
 refine bd (zZ (by simp [dQ];omega)) ?_;refine bd (a:=dvS key label ctx n ((n+31) / 32)) ?_ ?_
 ·refine yC ((n+31) / 32) (λi=>(dvS key label ctx n i,((i+1:Nat):Int))) rfl (λi hi=>?_) ?_ (xI (by omega))
  ·have h1:=dU key label ctx n i;unfold cU;refine ct (dlt (by omega)) ?_;refine bd (yAs (i+1)) ?_;refine bd (zZ (by simp [dQ];omega)) ?_;refine bd (zH4 key _ (by omega) (by simp [dQ];omega)) ?_;refine bd (zZ (by rw [h1,zLl];omega)) ?_;rw [yM (show i+1<2 ^ 40 by omega)];simp [dvS,dvB]
  ·unfold cU;exact cf (dge (by rw [dU];omega)) rfl
 ·have h1:=dU key label ctx n ((n+31) / 32);refine bd (a:=(dvS key label ctx n ((n+31) / 32)).take n) ?_ rfl;rw [show (0:Int)=((0:Nat):Int) from rfl,vY (by omega) (by omega)];simp
set_option maxRecDepth 100000
def zQe (b k:By):By:=(Qi b.length).map λi=>u8 (wC .u8 ((b.getD i 0).toNat:Int) ((k.getD i 0).toNat:Int))
theorem zG7 (b k:By):(zQe b k).length=b.length:=by simp [zQe]
theorem yE9 (b k:By) (h:i<b.length):(zQe b k)[i]'(by rw [zG7];exact h)=u8 (wC .u8 ((b.getD i 0).toNat:Int) ((k.getD i 0).toNat:Int)):=by simp [zQe]
def zUl:By:=[101,110,99,114,121,112,116]
def autL:By:=[97,117,116,104,101,110,116,105,99,97,116,101]
def zI9 (key nonce b:By):By:=zQe b (dv key zUl nonce b.length)
theorem zEu (key nonce b:By):(zI9 key nonce b).length=b.length:=zG7 _ _
theorem mk1 (n:Nat) (h:n<2 ^ 40):mkN 1 (n:Int)=some n:=by unfold mkN;rw [if_pos ⟨by omega,by omega⟩];simp
theorem zIe (key nonce b:By) (hk:key.length<2 ^ 30) (hn:nonce.length<2 ^ 20) (hb:b.length<=1024):nE key nonce b=some (zI9 key nonce b):=by
 unfold nE;refine bd (uG key _ nonce b.length hk (by decide) hn) ?_;have hd:=dY key zUl nonce b.length hb;have hx:=zG7 b (dv key zUl nonce b.length);refine bd (mk1 b.length (by omega)) ?_;refine bd (a:=zI9 key nonce b) ?_ ?_
 ·unfold zI9;refine yC b.length (λi=>((i:Int),(zQe b (dv key zUl nonce b.length)).take i++(Q2 b.length (0:UInt8)).drop i)) (by simp) (λi hi=>?_) ?_ (xI (by omega))
  ·unfold eS;refine ct (dlt hi) ?_;refine bd (ig hi) ?_;refine bd (ig (l:=dv key zUl nonce b.length) (by omega)) ?_;refine bd (vR hi) ?_;have e1:=zEo (l:=zQe b (dv key zUl nonce b.length)) (c:=Q2 b.length (0:UInt8)) (i:=i) (by simp [hx]) (by omega);rw [yE9 _ _ hi] at e1;refine bd e1 ?_;rw [yM (show i<2 ^ 40 by omega)]
  ·unfold eS;refine cf (dge (Q5 _)) ?_;rw [Q3 (by omega),Qx (by simp),W6]
 ·refine bd (ckT (zIt (zEu key nonce b))) ?_;exact bd (ckT (zJu (by omega))) rfl
def yAl (key nonce ad c:By):By:=mc (dv key autL nonce 32) (frm 0 [ad,nonce,c])
theorem zHv (key nonce ad c:By):(yAl key nonce ad c).length=32:=zLl _ _
theorem zR0 (key nonce ad c:By) (hk:key.length<2 ^ 30) (hn:nonce.length<2 ^ 20) (ha:ad.length<2 ^ 20) (hc:c.length<2 ^ 20):bJ key nonce ad c=some (yAl key nonce ad c):=by
 have h3:=zPx ad nonce c;unfold bJ;refine bd (uG key _ nonce 32 hk (by decide) hn) ?_;refine bd (fK 0 _ (by omega)) ?_;exact bd (zKr _ _ (by rw [dY _ _ _ _ (by decide)];decide) (by rw [hC];omega)) rfl
def zN6 (key nonce ad plain:By):By:=if 64<nonce.length∨1024<plain.length then [] else xX (xX [] nonce) (zI9 key nonce plain)++yAl key nonce ad (zI9 key nonce plain)
theorem or3 (a b:By) (m n:Nat):(bif decide ((m:Int)<(a.length:Int)) then (some true) else some (decide ((n:Int)<(b.length:Int))):Option Bool)=some (decide (m<a.length∨n<b.length)):=by
 by_cases h:m<a.length
 ·refine ct (by simp;omega) (congrArg some ?_);symm;simp [h]
 ·refine cf (by simp;omega) (congrArg some ?_);by_cases h2:n<b.length<;>simp [h2]<;>omega
theorem yA3 (key nonce ad plain:By) (hk:key.length<2 ^ 30) (ha:ad.length<2 ^ 20):zCk key nonce ad plain=some (zN6 key nonce ad plain):=by
 unfold zCk zN6;refine bd (or3 nonce plain 64 1024) ?_;by_cases h:64<nonce.length∨1024<plain.length
 ·rw [if_pos h];exact ct (by simpa using h) rfl
 rw [if_neg h];have h1:=zEu key nonce plain;have h2:=wW [] nonce;have h3:=wW (xX [] nonce) (zI9 key nonce plain);refine cf (by simpa using h) ?_;refine bd (zIe key nonce plain hk (by omega) (by omega)) ?_;refine bd (tG [] nonce (by decide)) ?_;refine bd (tG _ _ (by simp at h2;omega)) ?_;refine bd (zR0 key nonce ad _ hk (by omega) ha (by omega)) ?_;refine bd (zZ (by rw [zHv];simp at h2;omega)) ?_;rfl
def rs0 (b:By):RS:=⟨b,0,0⟩
theorem zLq {b:By} (h:b.length<2 ^ 40):(rs0 b).Ok:=⟨Nat.zero_le _,h⟩
theorem yF4 (b:By):aA b=some (rs0 b).R:=rfl
theorem yFb (r:RS) (n:Nat):(dE r n).1.length<=n:=by
 unfold dE;split
 ·simp
 split
 ·simp
 ·simp [RS.get];omega
theorem jH (r:RS) (n:Nat):(wA r n).1.length<=n:=by
 unfold wA;split
 ·simp
 split
 ·simp
 split
 ·simp
 split
 ·simp
 ·simp;omega
def yI1 (key ad:By) (x y z:By×RS):By×Int:=if jJ z.2≠0 then ([],jJ z.2) else if z.1≠yAl key x.1 ad y.1 then ([],18) else (zI9 key x.1 y.1,0)
def zDf (key ad b:By):By×Int:=yI1 key ad (wA (rs0 b) 64) (wA (wA (rs0 b) 64).2 1024) (dE (wA (wA (rs0 b) 64).2 1024).2 32)
theorem zUp (key ad b:By):(zDf key ad b).1.length<=1024:=by
 have h:=jH (wA (rs0 b) 64).2 1024;unfold zDf yI1;split
 ·simp
 split
 ·simp
 ·rw [zEu];exact h
theorem yBx (key ad b:By) (hk:key.length<2 ^ 30) (ha:ad.length<2 ^ 20) (hb:b.length<2 ^ 40):zCm key ad b=some (zDf key ad b):=by
 have o0:=zLq hb;have o1:=lQ (rs0 b) 64 o0;have o2:=lQ (wA (rs0 b) 64).2 1024 o1;have o3:=yBa (wA (wA (rs0 b) 64).2 1024).2 32 o2;have l1:=jH (rs0 b) 64;have l2:=jH (wA (rs0 b) 64).2 1024;unfold zCm zDf;refine bd (yF4 b) ?_;refine bd (sT _ 64 o0) ?_;refine bd (sT _ 1024 o1) ?_;refine bd (zPe _ 32 o2) ?_;refine bd (zDu _ o3) ?_;have l3:=yFb (wA (wA (rs0 b) 64).2 1024).2 32;generalize dE (wA (wA (rs0 b) 64).2 1024).2 32=z at *;generalize wA (wA (rs0 b) 64).2 1024=y at *;generalize wA (rs0 b) 64=x at *;unfold yI1;by_cases h:jJ z.2=0
 ·refine cf (b0 h) ?_;simp only [h,ne_eq,not_true_eq_false,if_false];refine bd (zR0 key x.1 ad y.1 hk (by omega) ha (by omega)) ?_;refine bd (qE z.1 _ (by omega)) ?_;by_cases h2:z.1=yAl key x.1 ad y.1
  ·refine cf (by simp [h2]) ?_;rw [if_neg (by simp [h2])];exact bd (zIe key x.1 y.1 hk (by omega) l2) rfl
  ·refine ct (by simp [h2]) ?_;rw [if_pos h2]
 ·refine ct (b1 h) ?_;rw [if_pos h]
set_option maxRecDepth 100000
theorem yB1 (p:zL):mZ p=tB p:=by
 unfold mZ tB iC wE;unfold bne;generalize decide (p.Kind<1)=c1;generalize decide (3<p.Kind)=c2;generalize decide (p.Attr<0)=c3;generalize decide (7<p.Attr)=c4;generalize (yX .i64 p.Attr 4==0)=c5;generalize (p.Kind==2)=c6;generalize (yX .i64 p.Attr 1==0)=c7;generalize ((p.Policy.length:Int)==0)=c8;generalize decide (p.Height<0)=c9;generalize decide (3<p.Height)=c10;generalize (p.Height==0)=c11;generalize ((p.Policy.length:Int)==32)=c12;cases c1
 ·cases c2
  ·cases c3
   ·cases c4
    ·cases c5<;>cases c6<;>cases c7<;>cases c8<;>first | rfl | (cases c9<;>first | rfl | (cases c10<;>first | rfl | (cases c11<;>cases c12<;>rfl)))
    ·rfl
   ·rfl
  ·rfl
 ·rfl
theorem tb {β:Type} {o:Option α} {f:α->Option β} (h:∃ a,o=some a) (k:∀ a,∃ r,f a=some r):∃ r,o.bind f=some r:=by
 obtain ⟨a,rfl⟩:=h;exact k a
theorem tc {c:Bool} {a b:Option α} (h:∃ r,a=some r) (k:∃ r,b=some r):∃ r,(bif c then a else b)=some r:=by cases c<;>assumption
theorem zO8 (p:zL):∃ e,mZ p=some e:=by
 unfold mZ iC;repeat' first | exact ⟨_,rfl⟩ | refine tb ?_ (λ_=>?_) | refine tc ?_ ?_
def chk (p:zL):Int:=(mZ p).getD 0
theorem zJe (p:zL):mZ p=some (chk p):=by
 obtain ⟨e,h⟩:=zO8 p;rw [chk,h];rfl
theorem fC (p:zL):tB p=some (chk p):=by rw [<- yB1,zJe]
def enc (p:zL):By:=xX (xX [u8 p.Kind,u8 p.Attr,u8 p.Height] p.Policy) p.Unique
theorem zKm (p:zL):(enc p).length<=131077:=by
 have h1:=wW [u8 p.Kind,u8 p.Attr,u8 p.Height] p.Policy;have h2:=wW (xX [u8 p.Kind,u8 p.Attr,u8 p.Height] p.Policy) p.Unique;simp only [Qe,Qw] at h1;unfold enc;omega
def nm (p:zL):By:=hs 6 [enc p]
theorem rW (p:zL):vN p=some (nm p):=by
 have hl:=zKm p;have h1:=wW [u8 p.Kind,u8 p.Attr,u8 p.Height] p.Policy;simp only [Qe,Qw] at h1;unfold vN wM;refine bd (bd (tG _ _ (by simp)) (bd (tG _ _ (by omega)) rfl)) ?_;exact bd (rC _ _ (by rw [tot1];show 4+(enc p).length<_;omega)) rfl
theorem c0' {a:Int} (h:a=b):(a==b)=true:=by subst h;exact beq_self_eq_true _
theorem c1' {a:Int} (h:a≠b):(a==b)=false:=by simpa using h
theorem rM (p:zL):wM p=some (enc p):=by
 have h1:=wW [u8 p.Kind,u8 p.Attr,u8 p.Height] p.Policy;simp only [Qe,Qw] at h1;unfold wM;exact bd (tG _ _ (by simp)) (bd (tG _ _ (by omega)) rfl)
theorem zCa (p:zL):(nm p).length=32:=iK _ _
structure mW (p:zL):Prop where
 k1:1<=p.Kind
 k3:p.Kind<=3
 h0:0<=p.Height
 h3:p.Height<=3
 pl:p.Policy.length=0∨p.Policy.length=32
 un:p.Unique.length=if p.Kind=2 then 17 else 32
theorem zW4 {p:zL} (h:chk p=0):mW p:=by
 have e:=fC p;rw [h] at e;unfold tB wE at e;have key:∀ {o:Option Bool} {x:Int} {y:Option Int},x≠0->(o.bind λv=>bif v then some x else y)=some 0->o=some false/\y=some 0:=λ{o x y} hx h=>by
  cases o with
  | none=>cases h
  | some v=>cases v with
   | false=>exact ⟨rfl,h⟩
   | true=>exact absurd (Qr h) hx
 obtain ⟨e1,e⟩:=key (by decide) e;obtain ⟨_,e⟩:=key (by decide) e;obtain ⟨e3,_⟩:=key (by decide) e;have c:∀ {b:Bool} {x:Option Bool},(bif b then some true else x)=some false->b=false/\x=some false:=λ{b x} h=>by cases b;exact ⟨rfl,h⟩;cases h
 obtain ⟨a1,a2⟩:=c e1;obtain ⟨a3,e4⟩:=c e3;obtain ⟨a4,e5⟩:=c e4;have h1:=of_decide_eq_false a1;have h2:=of_decide_eq_false (Qr a2);have h3:=of_decide_eq_false a3;have h4:=of_decide_eq_false a4;have hu:∀ {z:Option Bool},z=some false->z=(bif ((p.Policy.length:Int) != 0) then (bif ((p.Policy.length:Int) != 32) then some true else ((bif (p.Kind==2) then some 17 else some 32:Option Int).bind λv=>some ((p.Unique.length:Int) != v))) else ((bif (p.Kind==2) then some 17 else some 32:Option Int).bind λv=>some ((p.Unique.length:Int) != v))) ->
   (p.Policy.length=0∨p.Policy.length=32)/\p.Unique.length=if p.Kind=2 then 17 else 32:=λ{z} hz e=>by
  rw [hz] at e;have hx:∀ {w:Option Bool},w=some false->w=((bif (p.Kind==2) then some 17 else some 32:Option Int).bind λv=>some ((p.Unique.length:Int) != v))->p.Unique.length=if p.Kind=2 then 17 else 32:=λ{w} hw e=>by
   rw [hw] at e;by_cases hk:p.Kind=2
   ·rw [show (p.Kind==2)=true by simpa using hk] at e;have:=Qr e;rw [if_pos hk];simp at this;omega
   ·rw [show (p.Kind==2)=false by simpa using hk] at e;have:=Qr e;rw [if_neg hk];simp at this;omega
  by_cases hp:(p.Policy.length:Int)=0
  ·simp only [hp,bne_self_eq_false,cond_false] at e;exact ⟨.inl (by omega),hx rfl e⟩
  ·by_cases hq:(p.Policy.length:Int)=32
   ·have:((p.Policy.length:Int) != 0)=true:=by simpa using hp
    rw [this] at e;simp only [hq,bne_self_eq_false,cond_false,cond_true] at e;exact ⟨.inr (by omega),hx rfl e⟩
   ·have i1:((p.Policy.length:Int) != 0)=true:=by simpa using hp
    have i2:((p.Policy.length:Int) != 32)=true:=by simpa using hq
    rw [i1,i2] at e;cases e
 have hfin:(p.Policy.length=0∨p.Policy.length=32)/\p.Unique.length=if p.Kind=2 then 17 else 32:=by
  by_cases hh:p.Height=0
  ·rw [show (p.Height != 0)=false by simp [hh]] at e5;exact hu e5 rfl
  ·rw [show (p.Height != 0)=true by simpa using hh] at e5;exact hu (c e5).2 rfl
 exact ⟨by omega,by omega,by omega,by omega,hfin.1,hfin.2⟩
def ixn (x:zF):By:=hs 7 [wU [u8 x.N,u8 x.Kind,u8 x.Attr] 2 x.Size++[if x.Written=true then 1 else 0],x.Policy]
theorem rixn (x:zF) (h:x.Policy.length<2 ^ 20):uR x=some (ixn x):=by
 unfold uR;refine bd (a:=wU [u8 x.N,u8 x.Kind,u8 x.Attr] 2 x.Size++[if x.Written=true then 1 else 0]) ?_ (bd (rC _ _ ?_) rfl)
 ·unfold iL;refine bd (a:=if x.Written=true then 1 else 0) (by cases x.Written<;>rfl) (bd (vI _ 2 _ (by decide) (by decide) (by simp)) (bd (zZ (by rw [yJ];simp)) ?_));cases x.Written<;>rfl
 ·simp [tot,yJ];omega
def hnm (h:Int):By:=if h<0∨3<h then [] else hs 11 [[u8 h]]
theorem or4 (h a b:Int):(bif decide (h<a) then (some true) else some (decide (b<h)):Option Bool)=some (decide (h<a∨b<h)):=by
 by_cases h1:h<a
 ·refine ct (by simpa using h1) (congrArg some ?_);symm;simp [h1]
 ·refine cf (by simpa using h1) (congrArg some ?_);simp [h1]
theorem zSi (h:Int):tR h=some (hnm h):=by
 unfold tR hnm;refine bd (or4 h 0 3) ?_;by_cases g:h<0∨3<h
 ·rw [if_pos g];exact ct (by simpa using g) rfl
 ·rw [if_neg g];refine cf (by simpa using g) ?_;exact bd (rC 11 _ (by simp [tot])) rfl
theorem zRw (x:zF):(ixn x).length=32:=iK _ _
theorem zQz (h:Int):(hnm h).length<=32:=by unfold hnm;split<;>simp [iK]
def p0:zL:=⟨0,0,0,[],[]⟩
def zWa (a b c:Int×RS) (d e:By×RS):zL×Int:=
 if jJ e.2≠0 then (p0,jJ e.2) else if chk ⟨a.1,b.1,c.1,d.1,e.1⟩≠0 then (p0,chk ⟨a.1,b.1,c.1,d.1,e.1⟩) else (⟨a.1,b.1,c.1,d.1,e.1⟩,0)
def ad1 (b:By):=pN (rs0 b) 1
def ad2 (b:By):=pN (ad1 b).2 1
def ad3 (b:By):=pN (ad2 b).2 1
def ad4 (b:By):=wA (ad3 b).2 32
def ad5 (b:By):=wA (ad4 b).2 32
def zUg (b:By):zL×Int:=zWa (ad1 b) (ad2 b) (ad3 b) (ad4 b) (ad5 b)
theorem yGl (b:By):(zUg b).2=0->chk (zUg b).1=0:=by
 unfold zUg zWa;split
 ·intro h;contradiction
 split
 ·intro h;contradiction
 ·rename_i h1 h;intro _;exact Classical.not_not.1 h
theorem zN5 (b:By) (hb:b.length<2 ^ 40):mD b=some (zUg b):=by
 have o0:=zLq hb;have o1:(ad1 b).2.Ok:=zF2 _ 1 o0;have o2:(ad2 b).2.Ok:=zF2 _ 1 o1;have o3:(ad3 b).2.Ok:=zF2 _ 1 o2;have o4:(ad4 b).2.Ok:=lQ _ 32 o3;have o5:(ad5 b).2.Ok:=lQ _ 32 o4;unfold mD zUg;refine bd (yF4 b) ?_;refine bd (gG _ 1 o0 (by decide) (by decide)) ?_;refine bd (gG _ 1 o1 (by decide) (by decide)) ?_;refine bd (gG _ 1 o2 (by decide) (by decide)) ?_;refine bd (sT _ 32 o3) ?_;refine bd (sT _ 32 o4) ?_;refine bd (zDu _ o5) ?_;show Option.bind (bif (jJ (ad5 b).2==0) then (tB ⟨(ad1 b).1,(ad2 b).1,(ad3 b).1,(ad4 b).1,(ad5 b).1⟩).bind λv=>some v else some (jJ (ad5 b).2)) (λe=>bif (e != 0) then some (p0,e) else some (⟨(ad1 b).1,(ad2 b).1,(ad3 b).1,(ad4 b).1,(ad5 b).1⟩,0))=_;rw [fC];unfold zWa;generalize chk ⟨(ad1 b).1,(ad2 b).1,(ad3 b).1,(ad4 b).1,(ad5 b).1⟩=c;by_cases h:jJ (ad5 b).2=0
 ·rw [if_neg (by simp [h])];refine bd (ct (c0 h) rfl) ?_;by_cases h2:c=0
  ·rw [if_neg (by simp [h2])];exact cf (b0 h2) rfl
  ·rw [if_pos h2];exact ct (b1 h2) rfl
 ·rw [if_pos h];exact bd (cf (c1 h) rfl) (ct (b1 h) rfl)
set_option maxRecDepth 100000
def sgL:By:=[115,105,103,110,101,114]
def chL:By:=[99,104,97,105,110]
def lsd (seed:By) (h:Nat):By:=dv seed sgL [u8 (h:Int)] 32
theorem zRs (seed:By) (h:Nat):(lsd seed h).length=32:=dY _ _ _ _ (by decide)
theorem zRi (seed:By) (h:Nat) (hs:seed.length<2 ^ 30):jA seed (h:Int)=some (lsd seed h):=bd (uG seed _ _ 32 hs (by decide) (by simp)) rfl
def st0 (s:By) (leaf c:Nat):By:=dv s chL [u8 (leaf:Int),u8 (c:Int)] 16
theorem zEw (s:By) (leaf c:Nat):(st0 s leaf c).length=16:=dY _ _ _ _ (by decide)
theorem zQ4 (s:By) (leaf c:Nat) (hs:s.length<2 ^ 30):aL s (leaf:Int) (c:Int)=some (st0 s leaf c):=bd (uG s _ _ 16 hs (by decide) (by simp)) rfl
def wlk (s:By) (leaf:Nat) (d:Nat->Nat):Nat->By
 | 0=>[]
 | i+1=>wlk s leaf d i++chn leaf i 0 (st0 s leaf i) (d i)
theorem zC4 (s:By) (leaf:Nat) (d:Nat->Nat):∀ i,(wlk s leaf d i).length=16*i
 | 0=>rfl
 | i+1=>by simp only [wlk,Q4,zC4 s leaf d i,zCv leaf i 0 _ (zEw s leaf i) (d i)];omega
def opk (s:By) (leaf:Nat):By:=(hs 2 [[u8 (leaf:Int)],wlk s leaf (λ_=>15) 35]).take 16
theorem yEg (s:By) (leaf:Nat):(opk s leaf).length=16:=gY _ _
theorem v255 (leaf:Nat) (h:leaf<=255):(bif decide ((leaf:Int)<0) then (some true) else some (decide (255<(leaf:Int))):Option Bool)=some false:=cf (zLd leaf) (congrArg some (by simp;omega))
theorem yGs (s:By) (leaf:Nat) (hs:s.length<2 ^ 30) (hl:leaf<=255):dI s (leaf:Int)=some (opk s leaf):=by
 unfold dI;refine bd (v255 leaf hl) ?_;refine cf rfl ?_;refine bd (a:=wlk s leaf (λ_=>15) 35) ?_ ?_
 ·refine yC 35 (λi=>(wlk s leaf (λ_=>15) i,(i:Int))) rfl (λi hi=>?_) ?_ (xI (by omega))
  ·have h1:=zC4 s leaf (λ_=>15) i;have h3:=zCv leaf i 0 _ (zEw s leaf i) 15;unfold zCe;refine ct (dlt (b:=35) hi) ?_;refine bd (zQ4 s leaf i hs) ?_;refine bd (zFz leaf i 0 15 _ (zEw s leaf i) (by omega) (by omega)) ?_;refine bd (zZ (by rw [Nat.sub_zero];omega)) ?_;rw [yM (show i<2 ^ 40 by omega)];rfl
  ·generalize wlk s leaf (λ_=>15) 35=S;rfl
 ·have h1:=zC4 s leaf (λ_=>15) 35;refine bd ?_ rfl;unfold eT;refine bd (rC 2 _ (by rw [zUd,h1];simp)) ?_;exact bd (zMk _ _) rfl
def osg (s:By) (leaf:Nat) (m:By):By:=wlk s leaf (λi=>(zDk m).getD i 0) 35
theorem yDz (s:By) (leaf:Nat) (m:By) (h:s.length<2 ^ 30) (hl:leaf<=255) (hm:m.length<2 ^ 31):zCs s (leaf:Int) m=some (osg s leaf m):=by
 have hd:=zIn m;have h15:=zRy m;unfold zCs osg;refine bd (v255 leaf hl) ?_;refine cf rfl ?_;refine bd (zHy m hm) ?_;generalize zDk m=D at hd h15;refine bd ?_ rfl;refine yC 35 (λi=>(wlk s leaf (λi=>D.getD i 0) i,(i:Int))) rfl (λi hi=>?_) ?_ (xI (by omega))
 ·have h1:=zC4 s leaf (λi=>D.getD i 0) i;have h3:=zCv leaf i 0 _ (zEw s leaf i) (D.getD i 0);have h4:=h15 i hi;unfold zE3;refine ct (dlt (b:=35) hi) ?_;refine bd (zM7 (by omega)) ?_;refine bd (zQ4 s leaf i h) ?_;refine bd (zFz leaf i 0 (D.getD i 0) _ (zEw s leaf i) (by omega) (by omega)) ?_;refine bd (zZ (by rw [Nat.sub_zero];omega)) ?_;rw [yM (show i<2 ^ 40 by omega)];rfl
 ·generalize wlk s leaf (λi=>D.getD i 0) 35=S;rfl
def lvs (seed:By) (h:Nat):List By:=(Qi (2 ^ h)).map λi=>opk (lsd seed h) i
theorem zK4 (seed:By) (h:Nat):(lvs seed h).length=2 ^ h:=by simp [lvs]
theorem yIx (seed:By) (h:Nat):∀ x∈lvs seed h,x.length=16:=λx hx=>by
 obtain ⟨i,_,rfl⟩:=W1.1 hx;exact yEg _ _
theorem yGo (hh:h<=3):2 ^ h<=8:=Qs (by decide) hh
theorem zYz (seed:By) (h i:Nat) (hi:i<2 ^ h):(lvs seed h).take (i+1)=(lvs seed h).take i++[opk (lsd seed h) i]:=by
 rw [<- Q9 (by rw [zK4];exact hi)];simp [lvs]
theorem zRv (seed:By) (h:Nat) (hs:seed.length<2 ^ 30) (hh:h<=3):jF seed (h:Int)=some (lvs seed h):=by
 have h8:=yGo hh;have hl:=zK4 seed h;unfold jF;refine bd (zRi seed h hs) ?_;refine bd ?_ rfl;refine yC (2 ^ h) (λi=>((lvs seed h).take i,(i:Int))) rfl (λi hi=>?_) ?_ (xI (by omega))
 ·unfold eB;rw [zTm h hh];refine ct (dlt hi) ?_;refine bd (yGs _ i (by rw [zRs];decide) (by omega)) ?_;refine bd (zZ (by simp;omega)) ?_;rw [yM (show i<2 ^ 40 by omega),zYz seed h i hi]
 ·unfold eB;rw [zTm h hh];refine cf (dge (Q5 _)) ?_;rw [Q3 (by omega)]
set_option maxRecDepth 100000
def nxt (h:Nat) (l:List By):List By:=(Qi (l.length / 2)).map λi=>par h i (l.getD (2*i) []) (l.getD (2*i+1) [])
def lv (l:List By):Nat->List By
 | 0=>l
 | h+1=>nxt h (lv l h)
theorem yFp (h i:Nat) (a b:By):(par h i a b).length=16:=gY _ _
theorem zGv (h:Nat) (l:List By):(nxt h l).length=l.length / 2:=by simp [nxt]
theorem yIy (h:Nat) (l:List By):∀ x∈nxt h l,x.length=16:=λx hx=>by
 obtain ⟨i,_,rfl⟩:=W1.1 hx;exact yFp _ _ _ _
structure Lvs (l:List By) (H:Nat):Prop where
 n:l.length=2 ^ H
 s:∀ x∈l,x.length=16
 h:H<=3
theorem Lvs.len (g:Lvs l H):∀ k,k<=H->(lv l k).length=2 ^ (H - k)
 | 0,_=>g.n
 | k+1,hk=>by
  show (nxt k (lv l k)).length=_;rw [zGv,g.len k (by omega),show H - k=(H - (k+1))+1 by omega,W0];omega
theorem Lvs.m (g:Lvs l H):∀ k,∀ x∈lv l k,x.length=16
 | 0=>g.s
 | k+1=>yIy k (lv l k)
theorem zMb (h:∀ x∈l,x.length=16) (hi:i<l.length):(l.getD i []).length=16:=by
 have:l.getD i []=l[i]:=by simp [hi]
 rw [this];exact h _ (Qh _)
theorem zWj (h:Nat) (l:List By) (i:Nat) (hi:i<l.length / 2):(nxt h l).take (i+1)=(nxt h l).take i++[par h i (l.getD (2*i) []) (l.getD (2*i+1) [])]:=by
 rw [<- Q9 (by rw [zGv];exact hi)];simp [nxt]
theorem w2 (i:Nat) (h:i<2 ^ 40):Q0.wrap (2*(i:Int))=((2*i:Nat):Int):=by rw [yH (by omega) (by omega)];omega
theorem zV4 (h:Nat) (l:List By) (h8:l.length<=8) (h16:∀ x∈l,x.length=16):zEl (h:Int) l=some (nxt h l):=by
 unfold zEl;refine bd ?_ rfl;refine yC (l.length / 2) (λi=>((nxt h l).take i,(i:Int))) rfl (λi hi=>?_) ?_ (xI (by omega))
 ·have h1:=zGv h l;unfold zDq;dsimp only;rw [w2 i (by omega),yM (show 2*i<2 ^ 40 by omega)];refine ct (dlt (by omega)) ?_;refine bd (zC9 (l:=l) (by omega)) ?_;refine bd (zC9 (l:=l) (by omega)) ?_;refine bd (zKq h i _ _ (zMb h16 (by omega)) (zMb h16 (by omega))) ?_;refine bd (zZ (by simp;omega)) ?_;rw [yM (show i<2 ^ 40 by omega),zWj h l i hi]
 ·unfold zDq;dsimp only;rw [w2 (l.length / 2) (by omega),yM (show 2*(l.length / 2)<2 ^ 40 by omega)];refine cf (dge (by omega)) ?_;rw [Q3 (by rw [zGv];exact Q5 _)]
theorem zRo (h:H<=3):zCl ((2 ^ H:Nat):Int)=some true:=by
 have:H=0∨H=1∨H=2∨H=3:=by omega
 rcases this with rfl | rfl | rfl | rfl<;>rfl
def root (l:List By) (H:Nat):By:=(lv l H).getD 0 []
theorem Lvs.root (g:Lvs l H):(root l H).length=16:=zMb (g.m H) (by rw [g.len H (Q5 _),Qq];decide)
theorem pw {b:Nat} (h:a<b):2<=2 ^ (b - a):=by
 obtain ⟨k,rfl⟩:∃ k,b=a+(k+1):=⟨b - a - 1,by omega⟩;rw [show a+(k+1) - a=k+1 by omega,W0];have:=W7 k;omega
theorem yBn (g:Lvs l H):zC3 l=some (root l H):=by
 have hh:=g.h;unfold zC3;refine bd (a:=true) (by rw [g.n];exact zRo g.h) ?_;refine cf rfl ?_;refine bd (a:=lv l H) ?_ ?_
 ·refine yC H (λi=>(lv l i,(i:Int))) rfl (λi hi=>?_) ?_ (xI (by omega))
  ·have h1:=g.len i (by omega);have h2:2 ^ (H - i)<=2 ^ 3:=Qs (by decide) (by omega);have h3:=pw hi;unfold zAo;refine ct (by simp;omega) ?_;refine bd (zV4 i _ (by omega) (g.m i)) ?_;rw [yM (show i<2 ^ 40 by omega)];rfl
  ·have h1:=g.len H (Q5 _);rw [Qq] at h1;unfold zAo;exact cf (by simp;omega) rfl
 ·have h1:=g.len H (Q5 _);rw [Qq] at h1;refine bd (zC9 (l:=lv l H) (i:=0) (by omega)) ?_;exact bd (mN _ (by have:=g.root;unfold root at this;omega)) rfl
def pub (seed:By) (h:Nat):By:=[u8 (h:Int)]++root (lvs seed h) h
theorem zL9 (seed:By) (hh:h<=3):Lvs (lvs seed h) h:=⟨zK4 seed h,yIx seed h,hh⟩
theorem zQn (seed:By) (hh:h<=3):(pub seed h).length=17:=by have:=(zL9 seed hh).root;simp [pub,this]
theorem zG8 (seed:By) (h:Nat) (hs:seed.length<2 ^ 30) (hh:h<=3):nG seed (h:Int)=some (pub seed h):=by
 unfold nG;refine bd (a:=false) (cf (zLd h) (congrArg some (by simp;omega))) ?_;refine cf rfl ?_;refine bd (zRv seed h hs hh) ?_;refine bd (yBn (zL9 seed hh)) ?_;exact bd (zZ (by rw [(zL9 seed hh).root];simp)) rfl
theorem dgt {b:Nat} (h:b<a):decide ((a:Int)<=(b:Int))=false:=by simp;omega
theorem hf2 (q:Nat) (h:q<2 ^ 40):Q0.wrap (Qo (q:Int) 2)=((q / 2:Nat):Int):=by
 rw [Qc (by omega),yH (by omega) (by omega)];omega
theorem yMh (n:Nat) (h:n<2 ^ 62):wC .i64 (n:Int) 1=((n ^^^ 1:Nat):Int):=by
 have h3:n ^^^ 1<2 ^ 62:=W2 h (by decide);unfold wC;rw [show (1:Int)=((1:Nat):Int) from rfl,Q8,Q8,BitVec.toNat_xor,Qb,Qb,show Q0.bits=64 from rfl,Qg (by omega),Qg (by decide),yH (by omega) (by omega)]
def zNk (l:List By) (i n:Nat):List By:=(Qi n).map λk=>(lv l k).getD (i / 2 ^ k ^^^ 1) []
theorem zH9 (l:List By) (i n:Nat):(zNk l i n).length=n:=by simp [zNk]
theorem Lvs.sib (g:Lvs l H) (hi:i<2 ^ H) (hk:k<H):i / 2 ^ k ^^^ 1<(lv l k).length:=by
 rw [g.len k (by omega)];refine W2 ?_ ?_
 ·rw [Nat.div_lt_iff_lt_mul (W7 k),<- Nat.pow_add,show H - k+k=H by omega];exact hi
 ·have:=pw hk;omega
theorem zNt (g:Lvs l H) (hi:i<2 ^ H):zCp (i:Int) l=some (zNk l i H):=by
 have hh:=g.h;have h8:=yGo g.h;unfold zCp;refine bd (a:=false) ?_ ?_
 ·refine bd (a:=true) (by rw [g.n];exact zRo g.h) ?_;exact cf rfl (cf (zLd i) (congrArg some (by rw [g.n];exact dgt hi)))
 refine cf rfl ?_;refine bd ?_ rfl;refine yC H (λk=>(((i / 2 ^ k:Nat):Int),zNk l i k,lv l k,(k:Int))) (by simp [zNk,lv]) (λk hk=>?_) ?_ (xI (by omega))
 ·have h1:=g.len k (by omega);have h2:2 ^ (H - k)<=2 ^ 3:=Qs (by decide) (by omega);have h3:=pw hk;have h4:i / 2 ^ k<=i:=Nat.div_le_self _ _;have h5:=g.sib hi hk;unfold aG;refine ct (by simp;omega) ?_;rw [yMh _ (by omega)];refine bd (zC9 h5) ?_;refine bd (mN _ (by rw [zMb (g.m k) h5];decide)) ?_;refine bd (zZ (by rw [zH9];simp;omega)) ?_;refine bd (zV4 k _ (by omega) (g.m k)) ?_;rw [yM (show k<2 ^ 40 by omega)];have e1:=(hf2 (i / 2 ^ k) (by omega)).trans (by rw [half]);rw [e1];congr 3;simp [zNk,Qp,lv]
 ·have h1:=g.len H (Q5 _);rw [Qq] at h1;unfold aG;exact cf (by simp;omega) rfl
def sig (seed:By) (h leaf:Nat) (m:By):By:=(zNk (lvs seed h) leaf h).foldl (· ++ ·) ([u8 (leaf:Int)]++osg (lsd seed h) leaf m)
theorem zTd {step:(By×Int)->Option ((By×Int) ⊕ By)} (ps:List By) (a:By) (hp:ps.length<=3) (h16:∀ x∈ps,x.length=16) (ha:a.length<2 ^ 30)
  (hst:∀ o k,step (o,k)=bif decide (k<(ps.length:Int)) then (idx ps k).bind λv=>(yK 1 o v).bind λw=>some (.inl (w,Q0.wrap (k+1))) else some (.inr o)):zO step FU (a,0)=some (ps.foldl (· ++ ·) a):=by
 have hlen:∀ k,k<=ps.length->((ps.take k).foldl (· ++ ·) a).length=a.length+16*k:=λk hk=>by
  induction k with
  | zero=>simp
  | succ k ih=>
   rw [<- Q9 (by omega),W3];simp only [W8,List.foldl_nil,Q4,ih (by omega),h16 _ (Qh (show k<ps.length by omega))];omega
 refine yC ps.length (λk=>((ps.take k).foldl (· ++ ·) a,(k:Int))) rfl (λk hk=>?_) ?_ (xI (by omega))
 ·rw [hst];refine ct (dlt hk) ?_;refine bd (yR hk) ?_;refine bd (zZ (by rw [hlen k (by omega),h16 _ (Qh hk)];omega)) ?_;rw [yM (show k<2 ^ 40 by omega),<- Q9 hk,W3];rfl
 ·rw [hst];refine cf (dge (Q5 _)) ?_;rw [Q3 (Q5 _)]
theorem zR5 (g:Lvs l H) (hi:i<2 ^ H):∀ x∈zNk l i H,x.length=16:=λx hx=>by
 obtain ⟨k,hk,rfl⟩:=W1.1 hx;exact zMb (g.m k) (g.sib hi (List.mem_range.1 hk))
theorem zMp (seed:By) (h leaf:Nat) (m:By) (hs:seed.length<2 ^ 30) (hh:h<=3) (hl:leaf<2 ^ h) (hm:m.length<2 ^ 31):lU seed (h:Int) (leaf:Int) m=some (sig seed h leaf m):=by
 have h8:=yGo hh;have g:=zL9 seed hh;have hw:=zC4 (lsd seed h) leaf (λi=>(zDk m).getD i 0) 35;unfold lU;refine bd (a:=false) (cf (zLd h) (cf (by simp;omega) (cf (zLd leaf) (congrArg some (by rw [zTm h hh];exact dgt hl))))) ?_;refine cf rfl ?_;refine bd (zRi seed h hs) ?_;refine bd (yDz _ leaf m (by rw [zRs];decide) (by omega) hm) ?_;refine bd (zZ (by unfold osg;rw [hw];simp)) ?_;refine bd (zRv seed h hs hh) ?_;refine bd (zNt g hl) ?_;refine bd ?_ rfl;exact zTd _ _ (by rw [zH9];exact hh) (zR5 g hl) (by unfold osg;rw [Q4,hw];simp) (λ_ _=>rfl)
theorem zSu (seed:By) (h leaf:Nat) (m:By) (hh:h<=3) (hl:leaf<2 ^ h):(sig seed h leaf m).length=561+16*h:=by
 have hw:=zC4 (lsd seed h) leaf (λi=>(zDk m).getD i 0) 35;have key:∀ (ps:List By) (a:By),(∀ x∈ps,x.length=16)->(ps.foldl (· ++ ·) a).length=a.length+16*ps.length:=λps=>by
  induction ps with
  | nil=>intro a _;simp
  | cons x r ih=>intro a hx;rw [W8,ih _ (λy hy=>hx y (List.mem_cons_of_mem _ hy)),Q4,hx x (by simp),Qe];omega
 unfold sig;rw [key _ _ (zR5 (zL9 seed hh) hl),zH9,Q4];unfold osg;rw [hw];simp
end Go.Proofs.TT
