/- UpdatePolicy holds for all inputs -/
import Derived.Test.YtlipjldhnmcbiaaGreatDoorCZ3
import Derived.Test.YtlipjldhnmcbiaaGreatDoorCZ6
import Derived.Test.YtlipjldhnmcbiaaGreatDoorCZ5
set_option linter.all false
open Go.IntKind renaming u32 -> Q0, u64 -> Q5, i64 -> Q7, wrap_u64 -> Qn, wrap_u32 -> W5
open List renaming replicate -> Q1, take_of_length_le -> Q2, drop_eq_getElem_cons -> Q3, append_assoc -> Q9, take_add_one -> Qc, length_append -> Ql, map_cons -> Qm, sum_cons -> Qu, drop_of_length_le -> Qz, flatMap_append -> W2, getElem_mem -> W8, range -> W9, range_succ -> Wa, map_append -> Wb
open BitVec renaming ofInt -> Q4, toNat_shiftLeft -> Qb, toNat_ushiftRight -> Qe, toNat_ofNat -> Qf, toNat_add -> Qh, toNat_or -> Qr, ofInt_natCast -> W0, allOnes_xor -> W3, toNat_xor -> W7
open Int renaming eq_ofNat_of_zero_le -> Q6, tmod_eq_emod_of_nonneg -> Qs, fdiv_eq_ediv_of_nonneg -> Qt, toNat_natCast -> Qv
open Nat renaming le_of_ble_eq_true -> Q8, shiftRight -> Qa, add -> Qd, le_refl -> Qg, mod_eq_of_lt -> Qi, xor -> Qj, land -> Qo, mod -> Qq, shiftRight_eq_div_pow -> Qw, ble -> Qx, min_eq_left -> Qy, shiftLeft -> W1, xor_lt_two_pow -> W4, shiftLeft_eq -> W6
open UInt8 renaming ofNat -> Qk
open Bool renaming and_eq_true -> Qp
namespace Go.Sw
open Go
variable {b:Nat}{c:Bool}{n:Int}{α β:Type}{a:α}{f:α->Option β}{l:List α}{r:Option β}
theorem zPp {X Y:Type} {step:X->Option (X ⊕ Y)} {r:Y} (n:Nat) (s:Nat->X) (h:∀ i,i<n->step (s i)=some (.inl (s (i+1)))) (he:step (s n)=some (.inr r)) :
  ∀ (d k fuel:Nat),k+d=n->d<fuel->zP step fuel (s k)=some r:=by
 intro d;induction d with
 | zero=>
  intro k fuel hk hf;obtain ⟨f,rfl⟩:∃ f,fuel=f+1:=⟨fuel - 1,by omega⟩;have:k=n:=by omega
  subst this;simp [zP,he]
 | succ d ih=>
  intro k fuel hk hf;obtain ⟨f,rfl⟩:∃ f,fuel=f+1:=⟨fuel - 1,by omega⟩;simp only [zP,h k (by omega)];exact ih (k+1) f (by omega) (by omega)
theorem yM {X Y:Type} {step:X->Option (X ⊕ Y)} {r:Y} {x:X} (n:Nat) (s:Nat->X) (h0:s 0=x) (h:∀ i,i<n->step (s i)=some (.inl (s (i+1)))) (he:step (s n)=some (.inr r)) {fuel:Nat} (hf:n<fuel) :
  zP step fuel x=some r:=by
 subst h0;exact zPp n s h he n 0 fuel (by omega) hf
theorem zK5 {X Y:Type} {step:X->Option (X ⊕ Y)} (I:X->Prop) (m:X->Nat) (Q:Y->Prop)
  (h:∀ s,I s->(∃ s',step s=some (.inl s')/\I s'/\m s'<m s)∨(∃ r,step s=some (.inr r)/\Q r)) :
  ∀ (fuel:Nat) (s:X),I s->m s<fuel->∃ r,zP step fuel s=some r/\Q r:=by
 intro fuel;induction fuel with
 | zero=>intro s _ hm;omega
 | succ f ih=>
  intro s hs hm;rcases h s hs with ⟨s',h1,h2,h3⟩ | ⟨r,h1,h2⟩
  ·obtain ⟨r,h4,h5⟩:=ih s' h2 (by omega);exact ⟨r,by simp [zP,h1,h4],h5⟩
  ·exact ⟨r,by simp [zP,h1],h2⟩
theorem wM {n:Nat} (h:n<2 ^ 64):n<FU:=by
 have:(2:Nat) ^ 64<FU:=by decide
 omega
theorem xU (h1:-9223372036854775808<=n) (h2:n<=9223372036854775807):Q7.wrap n=n:=by rw [IntKind.wrap_i64];omega
theorem yFr (h1:0<=n) (h2:n<=4294967295):Q0.wrap n=n:=by rw [W5];omega
theorem zHp (h1:0<=n) (h2:n<=18446744073709551615):Q5.wrap n=n:=by rw [Qn];omega
theorem yP {m:List α} (h:(l.length+m.length)*b<=140737488355328):yN b l m=some (l++m):=by
 simp [yN,LIM,h]
theorem xH {i:Nat} (h:i<l.length):idx l (i:Int)=some l[i]:=by
 simp [idx,h]
theorem lI {a:Nat} (h:a<=b) (h2:b<=l.length):sub l (a:Int) (b:Int)=some ((l.drop a).take (b - a)):=by
 have:(0:Int)<=a/\(a:Int)<=b/\(b:Int)<=l.length:=⟨by omega,by omega,by omega⟩;simp [sub,this]
theorem bd {o:Option α} (h:o=some a) (k:f a=r):o.bind f=r:=by subst h;exact k
theorem ltk {e:α} (k:f e=r):lt e f=r:=k
theorem ct {b r:α} (h:c=true) (k:a=r):(bif c then a else b)=r:=by subst h;exact k
theorem cf {b r:α} (h:c=false) (k:b=r):(bif c then a else b)=r:=by subst h;exact k
theorem ckT (h:c=true):ck c=some ():=by subst h;rfl
end Go.Sw
namespace Go.Proofs.TT
open Go Go.Sw
set_option maxRecDepth 100000
variable {a b:Nat}{e:Int}{l:List Int}{m n t:Nat}{x:By}
def rr (x n:Int):Int:=ior .u32 (xT .u32 x n) (iR .u32 x (32 - n))
theorem zNv (k:IntKind) (a b:Int):ior k a b=ior k b a:=by simp [ior,BitVec.or_comm]
theorem jL (x n:Int) (h0:0<=n) (h1:n<=32):xX x n=some (rr x n):=by
 have h2:Q5.wrap (32 - n)=32 - n:=by rw [Qn];omega
 have h3:decide (0<=n)=true:=by simpa using h0
 simp only [xX,ck,lt,h2,h3,rr,cond_true,Option.bind_some]
theorem mT (x:Int) (n m:Int) (h:vA .u64 (Q5.wrap n) 31=32 - m) (h0:0<=m) (h1:m<=32):zU x n=some (rr x m):=by
 have h2:Q5.wrap (32 - (32 - m))=m:=by rw [Qn];omega
 have h3:(0:Int)<=32 - m:=by omega
 have h4:decide ((0:Int)<=32 - m)=true:=by simpa using h3
 have h5:decide ((0:Int)<=m)=true:=by simpa using h0
 simp only [zU,ck,lt,h,h2,h4,h5,rr,cond_true,Option.bind_some];rw [zNv]
def K2:List Int:=wA
theorem yFd:K2.length=64:=rfl
theorem zMx:mL=some K2:=rfl
def a8 (s:A8 Int):List Int:=[s.a0,s.a1,s.a2,s.a3,s.a4,s.a5,s.a6,s.a7]
def t1 (s:A8 Int) (k w:Int):Int:=
 Q0.wrap (Q0.wrap (Q0.wrap (Q0.wrap (s.a7+wN .u32 (wN .u32 (rr s.a4 6) (rr s.a4 11)) (rr s.a4 25))+wN .u32 (vA .u32 s.a4 s.a5) (vA .u32 (zKv .u32 s.a4) s.a6))+k)+w)
def t2 (s:A8 Int):Int:=Q0.wrap (wN .u32 (wN .u32 (rr s.a0 2) (rr s.a0 13)) (rr s.a0 22)+wN .u32 (wN .u32 (vA .u32 s.a0 s.a1) (vA .u32 s.a0 s.a2)) (vA .u32 s.a1 s.a2))
def rnd (s:A8 Int) (k w:Int):A8 Int:=⟨Q0.wrap (t1 s k w+t2 s),s.a0,s.a1,s.a2,Q0.wrap (s.a3+t1 s k w),s.a4,s.a5,s.a6⟩
def kF (w:List Int) (s:A8 Int):Nat->A8 Int
 | 0=>s
 | n+1=>rnd (kF w s n) (K2.getD n 0) (w.getD n 0)
theorem tD (h:t<n):ixN n (t:Int)=some t:=by
 have:(0:Int)<=t/\(t:Int)<n:=⟨by omega,by omega⟩;simp [ixN,this]
theorem lW (h:t<l.length):l[t]? = some (l.getD t 0):=by simp [h]
theorem wU (h:t<2 ^ 40):Q7.wrap ((t:Int)+1)=((t+1:Nat):Int):=by rw [xU (by omega) (by omega)];simp
section
variable (a b c d e f g h:Int)
theorem yFw:idx [a,b,c,d,e,f,g,h] 0=some a:=rfl
theorem zZh:idx [a,b,c,d,e,f,g,h] 1=some b:=rfl
theorem zZe:idx [a,b,c,d,e,f,g,h] 2=some c:=rfl
theorem yG3:idx [a,b,c,d,e,f,g,h] 3=some d:=rfl
theorem yGv:idx [a,b,c,d,e,f,g,h] 4=some e:=rfl
theorem yC5:idx [a,b,c,d,e,f,g,h] 5=some f:=rfl
theorem yDj:idx [a,b,c,d,e,f,g,h] 6=some g:=rfl
theorem yGl:idx [a,b,c,d,e,f,g,h] 7=some h:=rfl
end
theorem dlt (h:a<b):decide ((a:Int)<(b:Int))=true:=by simp;exact h
theorem dge (h:b<=a):decide ((a:Int)<(b:Int))=false:=by simp;omega
theorem yA3 (w:List Int) (s:A8 Int) (i:Nat) (hi:i<64) (hw:w.length=64):lB K2 w (a8 s,(i:Int))=some (.inl (a8 (rnd s (K2.getD i 0) (w.getD i 0)),((i+1:Nat):Int))):=by
 have e1:decide ((i:Int)<64)=true:=dlt (b:=64) hi;have e2:∀ x,xX x 6=some (rr x 6):=λx=>jL x 6 (by decide) (by decide);have e3:∀ x,xX x 11=some (rr x 11):=λx=>jL x 11 (by decide) (by decide);have e4:∀ x,xX x 25=some (rr x 25):=λx=>jL x 25 (by decide) (by decide);have e5:∀ x,xX x 2=some (rr x 2):=λx=>jL x 2 (by decide) (by decide);have e6:∀ x,xX x 13=some (rr x 13):=λx=>jL x 13 (by decide) (by decide);have e7:∀ x,xX x 22=some (rr x 22):=λx=>jL x 22 (by decide) (by decide);have k1:K2[i]? = some (K2.getD i 0):=lW (by rw [yFd];exact hi);have k2:w[i]? = some (w.getD i 0):=lW (by omega);unfold lB a8;refine ct e1 ?_;refine bd (yFw _ _ _ _ _ _ _ _) ?_;refine bd (yGv _ _ _ _ _ _ _ _) ?_;refine bd (yGl _ _ _ _ _ _ _ _) ?_;refine bd (e2 _) ?_;refine bd (e3 _) ?_;refine bd (e4 _) ?_;refine ltk ?_;refine bd (yC5 _ _ _ _ _ _ _ _) ?_;refine bd (yDj _ _ _ _ _ _ _ _) ?_;refine ltk ?_;refine bd (tD hi) ?_;refine bd k1 ?_;refine ltk ?_;refine bd (tD hi) ?_;refine bd k2 ?_;refine bd (e5 _) ?_;refine bd (e6 _) ?_;refine bd (e7 _) ?_;refine bd (zZh _ _ _ _ _ _ _ _) ?_;refine bd (zZe _ _ _ _ _ _ _ _) ?_;refine ltk ?_;refine bd (zZh _ _ _ _ _ _ _ _) ?_;refine bd (zZe _ _ _ _ _ _ _ _) ?_;refine ltk ?_;refine ltk ?_;refine bd (zZh _ _ _ _ _ _ _ _) ?_;refine bd (zZe _ _ _ _ _ _ _ _) ?_;refine bd (yG3 _ _ _ _ _ _ _ _) ?_;refine ltk ?_;refine bd (yC5 _ _ _ _ _ _ _ _) ?_;refine bd (yDj _ _ _ _ _ _ _ _) ?_;rw [wU (show i<2 ^ 40 by omega)];rfl
theorem yEg (w:List Int) (hw:w.length=64) (s:A8 Int):zP (lB K2 w) FU (a8 s,0)=some (a8 (kF w s 64)):=by
 refine yM 64 (λi=>(a8 (kF w s i),(i:Int))) rfl (λi hi=>yA3 w _ i hi hw) ?_ (wM (by decide));generalize kF w s 64=S;rfl
theorem yBf (w:List Int) (s:A8 Int) (i:Nat) (hi:i<64) (hw:w.length=64):tP w ((i:Int),s.a0,s.a1,s.a2,s.a3,s.a4,s.a5,s.a6,s.a7) =
  some (.inl (((i+1:Nat):Int),(rnd s (K2.getD i 0) (w.getD i 0)).a0,(rnd s (K2.getD i 0) (w.getD i 0)).a1,(rnd s (K2.getD i 0) (w.getD i 0)).a2,(rnd s (K2.getD i 0) (w.getD i 0)).a3,(rnd s (K2.getD i 0) (w.getD i 0)).a4,(rnd s (K2.getD i 0) (w.getD i 0)).a5,(rnd s (K2.getD i 0) (w.getD i 0)).a6,(rnd s (K2.getD i 0) (w.getD i 0)).a7)):=by
 have e1:decide ((i:Int)<64)=true:=dlt (b:=64) hi;have e2:∀ x,zU x (-6)=some (rr x 6):=λx=>mT x _ 6 (by decide) (by decide) (by decide);have e3:∀ x,zU x (-11)=some (rr x 11):=λx=>mT x _ 11 (by decide) (by decide) (by decide);have e4:∀ x,zU x (-25)=some (rr x 25):=λx=>mT x _ 25 (by decide) (by decide) (by decide);have e5:∀ x,zU x (-2)=some (rr x 2):=λx=>mT x _ 2 (by decide) (by decide) (by decide);have e6:∀ x,zU x (-13)=some (rr x 13):=λx=>mT x _ 13 (by decide) (by decide) (by decide);have e7:∀ x,zU x (-22)=some (rr x 22):=λx=>mT x _ 22 (by decide) (by decide) (by decide);have k1:idx wA (i:Int)=some (K2.getD i 0):=by rw [xH (show i<wA.length from hi)];simp [K2,show i<wA.length from hi]
 have k2:w[i]? = some (w.getD i 0):=lW (by omega);unfold tP;refine ct e1 ?_;refine bd (e2 _) ?_;refine bd (e3 _) ?_;refine bd (e4 _) ?_;refine ltk ?_;refine ltk ?_;refine bd k1 ?_;refine ltk ?_;refine bd (tD hi) ?_;refine bd k2 ?_;refine bd (e5 _) ?_;refine bd (e6 _) ?_;refine bd (e7 _) ?_;refine ltk ?_;refine ltk ?_;refine ltk ?_;refine ltk ?_;rw [wU (show i<2 ^ 40 by omega)];rfl
theorem yEn (w:List Int) (hw:w.length=64) (s:A8 Int):zP (tP w) FU (0,s.a0,s.a1,s.a2,s.a3,s.a4,s.a5,s.a6,s.a7)=some ((kF w s 64).a0,(kF w s 64).a1,(kF w s 64).a2,(kF w s 64).a3,(kF w s 64).a4,(kF w s 64).a5,(kF w s 64).a6,(kF w s 64).a7):=by
 refine yM 64 (λi=>((i:Int),(kF w s i).a0,(kF w s i).a1,(kF w s i).a2,(kF w s i).a3,(kF w s i).a4,(kF w s i).a5,(kF w s i).a6,(kF w s i).a7)) rfl (λi hi=>yBf w _ i hi hw) ?_ (wM (by decide));generalize kF w s 64=S;rfl
set_option maxRecDepth 100000
theorem zUl {l:By} {z:Int} (hz:z=(n:Int)) (h:n<l.length):idx l z=some (l.getD n 0):=by
 subst hz;simp [idx,h]
theorem zGy {α:Type} {l:List α} {j:Nat} {u:α} (h:j<l.length):uA l j u=some (l.set j u):=by simp [uA,h]
def byt (b:By) (n:Nat):Int:=Q0.wrap (((b.getD n 0).toNat:Nat):Int)
def wd (b:By) (t:Nat):Int:=ior .u32 (ior .u32 (ior .u32 (iR .u32 (byt b (4*t)) 24) (iR .u32 (byt b (4*t+1)) 16)) (iR .u32 (byt b (4*t+2)) 8)) (byt b (4*t+3))
theorem zM0 (b:By) (t:Nat) (h:4*t+3<b.length) (h2:t<2 ^ 20):fG b (t:Int)=some (wd b t):=by
 have e0:Q7.wrap (4*(t:Int))=((4*t:Nat):Int):=by rw [xU (by omega) (by omega)];simp
 unfold fG;rw [e0];refine bd (zUl rfl (by omega)) ?_;refine bd (zUl (n:=4*t+1) (by rw [xU (by omega) (by omega)];simp) (by omega)) ?_;refine ltk ?_;refine bd (zUl (n:=4*t+2) (by rw [xU (by omega) (by omega)];simp) (by omega)) ?_;refine ltk ?_;refine bd (zUl (n:=4*t+3) (by rw [xU (by omega) (by omega)];simp) (by omega)) ?_;rfl
theorem zOd:dQ=fG:=rfl
def s0 (x:Int):Int:=wN .u32 (wN .u32 (rr x 7) (rr x 18)) (xT .u32 x 3)
def s1 (x:Int):Int:=wN .u32 (wN .u32 (rr x 17) (rr x 19)) (xT .u32 x 10)
def wv (b:By) (w:List Int) (t:Nat):Int:=
 if t<16 then wd b t else Q0.wrap (Q0.wrap (Q0.wrap (s1 (w.getD (t - 2) 0)+w.getD (t - 7) 0)+s0 (w.getD (t - 15) 0))+w.getD (t - 16) 0)
def dP (b:By):Nat->List Int
 | 0=>Q1 64 0
 | t+1=>(dP b t).set t (wv b (dP b t) t)
theorem fH (b:By):∀ t,(dP b t).length=64
 | 0=>rfl
 | t+1=>by simp [dP,fH b t]
theorem yGu (b:By) (w:List Int) (i:Nat) (hi:i<64) (hw:w.length=64) (hb:b.length=64):tO b ((i:Int),w)=some (.inl (((i+1:Nat):Int),w.set i (wv b w i))):=by
 have hiw:i<w.length:=by omega
 unfold tO;refine ct (dlt (b:=64) hi) ?_;refine bd (a:=w.set i (wv b w i)) ?_ (by rw [wU (show i<2 ^ 40 by omega)]);by_cases h:i<16
 ·refine ct (dlt (b:=16) h) ?_;rw [zOd];refine bd (zM0 b i (by omega) (by omega)) ?_;refine bd (tD hi) ?_;refine bd (zGy hiw) ?_;simp [wv,h]
 refine cf (dge (b:=16) (by omega)) ?_;have x15:ixN 64 (Q7.wrap ((i:Int) - 15))=some (i - 15):=by rw [xU (by omega) (by omega),show (i:Int) - 15=((i - 15:Nat):Int) by omega];exact tD (by omega)
 have x2:ixN 64 (Q7.wrap ((i:Int) - 2))=some (i - 2):=by rw [xU (by omega) (by omega),show (i:Int) - 2=((i - 2:Nat):Int) by omega];exact tD (by omega)
 have x7:ixN 64 (Q7.wrap ((i:Int) - 7))=some (i - 7):=by rw [xU (by omega) (by omega),show (i:Int) - 7=((i - 7:Nat):Int) by omega];exact tD (by omega)
 have x16:ixN 64 (Q7.wrap ((i:Int) - 16))=some (i - 16):=by rw [xU (by omega) (by omega),show (i:Int) - 16=((i - 16:Nat):Int) by omega];exact tD (by omega)
 have w15:w[i - 15]? = some (w.getD (i - 15) 0):=lW (by omega);have w2:w[i - 2]? = some (w.getD (i - 2) 0):=lW (by omega);have w7:w[i - 7]? = some (w.getD (i - 7) 0):=lW (by omega);have w16:w[i - 16]? = some (w.getD (i - 16) 0):=lW (by omega);have e7:∀ x,zU x (-7)=some (rr x 7):=λx=>mT x _ 7 (by decide) (by decide) (by decide);have e18:∀ x,zU x (-18)=some (rr x 18):=λx=>mT x _ 18 (by decide) (by decide) (by decide);have e17:∀ x,zU x (-17)=some (rr x 17):=λx=>mT x _ 17 (by decide) (by decide) (by decide);have e19:∀ x,zU x (-19)=some (rr x 19):=λx=>mT x _ 19 (by decide) (by decide) (by decide);refine bd (x15) ?_;refine bd (w15) ?_;refine bd (x2) ?_;refine bd (w2) ?_;refine bd (e7 _) ?_;refine bd (e18 _) ?_;refine bd (e17 _) ?_;refine bd (e19 _) ?_;refine bd (x7) ?_;refine bd (w7) ?_;refine ltk ?_;refine ltk ?_;refine bd (x16) ?_;refine bd (w16) ?_;refine bd (tD hi) ?_;refine bd (zGy hiw) ?_;simp only [wv,h,if_false];rfl
theorem yFi (b:By) (hb:b.length=64):zP (tO b) FU (0,Q1 64 0)=some (dP b 64):=by
 refine yM 64 (λi=>((i:Int),dP b i)) rfl (λi hi=>yGu b _ i hi (fH b i) hb) ?_ (wM (by decide));generalize dP b 64=S;rfl
def wV (x:By) (n:Nat):By:=(x.drop n).take 64
theorem yG8 (x:By) (at':Nat) (w:List Int) (i:Nat) (hi:i<64) (hw:w.length=64) (hx:at'+64<=x.length) (hl:x.length<2 ^ 48):lO x (at':Int) ((i:Int),w)=some (.inl (((i+1:Nat):Int),w.set i (wv (wV x at') w i))):=by
 have hiw:i<w.length:=by omega
 have hbl:(wV x at').length=64:=by simp [wV];omega
 unfold lO;refine ct (dlt (b:=64) hi) ?_;refine bd (a:=w.set i (wv (wV x at') w i)) ?_ (by rw [wU (show i<2 ^ 40 by omega)]);by_cases h:i<16
 ·refine ct (dlt (b:=16) h) ?_;have hs:sub x (at':Int) (Q7.wrap ((at':Int)+64))=some (wV x at'):=by
   rw [xU (by omega) (by omega),show (at':Int)+64=((at'+64:Nat):Int) by simp,lI (by omega) hx];simp [wV]
  refine bd hs ?_;refine bd (zM0 _ i (by omega) (by omega)) ?_;refine bd (tD hi) ?_;refine bd (zGy hiw) ?_;simp [wv,h]
 refine cf (dge (b:=16) (by omega)) ?_;have x15:ixN 64 (Q7.wrap ((i:Int) - 15))=some (i - 15):=by rw [xU (by omega) (by omega),show (i:Int) - 15=((i - 15:Nat):Int) by omega];exact tD (by omega)
 have x2:ixN 64 (Q7.wrap ((i:Int) - 2))=some (i - 2):=by rw [xU (by omega) (by omega),show (i:Int) - 2=((i - 2:Nat):Int) by omega];exact tD (by omega)
 have x7:ixN 64 (Q7.wrap ((i:Int) - 7))=some (i - 7):=by rw [xU (by omega) (by omega),show (i:Int) - 7=((i - 7:Nat):Int) by omega];exact tD (by omega)
 have x16:ixN 64 (Q7.wrap ((i:Int) - 16))=some (i - 16):=by rw [xU (by omega) (by omega),show (i:Int) - 16=((i - 16:Nat):Int) by omega];exact tD (by omega)
 have w15:w[i - 15]? = some (w.getD (i - 15) 0):=lW (by omega);have w2:w[i - 2]? = some (w.getD (i - 2) 0):=lW (by omega);have w7:w[i - 7]? = some (w.getD (i - 7) 0):=lW (by omega);have w16:w[i - 16]? = some (w.getD (i - 16) 0):=lW (by omega);have e7:∀ x,xX x 7=some (rr x 7):=λx=>jL x 7 (by decide) (by decide);have e18:∀ x,xX x 18=some (rr x 18):=λx=>jL x 18 (by decide) (by decide);have e17:∀ x,xX x 17=some (rr x 17):=λx=>jL x 17 (by decide) (by decide);have e19:∀ x,xX x 19=some (rr x 19):=λx=>jL x 19 (by decide) (by decide);refine bd (x15) ?_;refine bd (w15) ?_;refine bd (e7 _) ?_;refine bd (x15) ?_;refine bd (w15) ?_;refine bd (e18 _) ?_;refine bd (x15) ?_;refine bd (w15) ?_;refine bd (x2) ?_;refine bd (w2) ?_;refine bd (e17 _) ?_;refine bd (x2) ?_;refine bd (w2) ?_;refine bd (e19 _) ?_;refine bd (x2) ?_;refine bd (w2) ?_;refine bd (x7) ?_;refine bd (w7) ?_;refine ltk ?_;refine ltk ?_;refine bd (x16) ?_;refine bd (w16) ?_;refine bd (tD hi) ?_;refine bd (zGy hiw) ?_;simp only [wv,h,if_false];rfl
theorem yEc (x:By) (at':Nat) (hx:at'+64<=x.length) (hl:x.length<2 ^ 48):zP (lO x (at':Int)) FU (0,Q1 64 0)=some (dP (wV x at') 64):=by
 refine yM 64 (λi=>((i:Int),dP (wV x at') i)) rfl (λi hi=>yG8 x at' _ i hi (fH _ i) hx hl) ?_ (wM (by decide));generalize dP (wV x at') 64=S;rfl
set_option maxRecDepth 100000
def zUt (h s:A8 Int):A8 Int:=⟨Q0.wrap (h.a0+s.a0),Q0.wrap (h.a1+s.a1),Q0.wrap (h.a2+s.a2),Q0.wrap (h.a3+s.a3),Q0.wrap (h.a4+s.a4),Q0.wrap (h.a5+s.a5),Q0.wrap (h.a6+s.a6),Q0.wrap (h.a7+s.a7)⟩
def zJm (h s:List Int):Nat->List Int
 | 0=>h
 | i+1=>(zJm h s i).set i (Q0.wrap ((zJm h s i).getD i 0+s.getD i 0))
theorem zKh (h s:List Int):∀ i,(zJm h s i).length=h.length
 | 0=>rfl
 | i+1=>by simp [zJm,zKh h s i]
theorem zYy (h s:A8 Int):zJm (a8 h) (a8 s) 8=a8 (zUt h s):=rfl
def zCd (h:A8 Int) (b:By):A8 Int:=zUt h (kF (dP b 64) h 64)
theorem yFa (h s:A8 Int):zP (fP (a8 s)) FU (0,a8 h)=some (a8 (zUt h s)):=by
 rw [<- zYy];refine yM 8 (λi=>((i:Int),zJm (a8 h) (a8 s) i)) rfl (λi hi=>?_) ?_ (wM (by decide))
 ·have hl:(zJm (a8 h) (a8 s) i).length=8:=zKh _ _ _;unfold fP;refine ct (dlt (b:=8) hi) ?_;refine bd (tD hi) ?_;refine bd (lW (by omega)) ?_;refine bd (a:=(a8 s).getD i 0) (by rw [xH (show i<(a8 s).length from hi)];simp [show i<(a8 s).length from hi]) ?_;refine bd (tD hi) ?_;refine bd (zGy (by omega)) ?_;rw [wU (show i<2 ^ 40 by omega)];rfl
 ·generalize zJm (a8 h) (a8 s) 8=S;rfl
theorem yDw (h s:A8 Int):zP (vW s.a0 s.a1 s.a2 s.a3 s.a4 s.a5 s.a6 s.a7) FU (0,[h.a0,h.a1,h.a2,h.a3,h.a4,h.a5,h.a6,h.a7])=some (zUt h s):=by
 refine yM 8 (λi=>((i:Int),zJm (a8 h) (a8 s) i)) rfl (λi hi=>?_) ?_ (wM (by decide))
 ·have hl:(zJm (a8 h) (a8 s) i).length=8:=zKh _ _ _;unfold vW;refine ct (dlt (b:=8) hi) ?_;refine bd (tD hi) ?_;refine bd (lW (by omega)) ?_;refine bd (tD hi) ?_;refine bd (a:=(a8 s).getD i 0) (lW (l:=a8 s) hi) ?_;refine bd (tD hi) ?_;refine bd (zGy (by omega)) ?_;rw [wU (show i<2 ^ 40 by omega)];rfl
 ·show vW s.a0 s.a1 s.a2 s.a3 s.a4 s.a5 s.a6 s.a7 (((8:Nat):Int),zJm (a8 h) (a8 s) 8)=_;rw [zYy];unfold vW;refine cf rfl ?_;refine bd (a:=zUt h s) rfl rfl
theorem zM8 (h:A8 Int) (b:By) (hb:b.length=64):rV h b=some (zCd h b):=by
 unfold rV;refine bd (yFi b hb) ?_;refine bd (yEn _ (fH b 64) h) ?_;refine bd (yDw h _) ?_;rfl
def zXe:A8 Int:=⟨1779033703,3144134277,1013904242,2773480762,1359893119,2600822924,528734635,1541459225⟩
def hsh (x:By):Nat->A8 Int
 | 0=>zXe
 | i+1=>zCd (hsh x i) (wV x (64*i))
def st8 (p:By) (h:A8 Int):By×Int×Int×Int×Int×Int×Int×Int×Int:=(p,h.a0,h.a1,h.a2,h.a3,h.a4,h.a5,h.a6,h.a7)
theorem zQ1 (x:By) (n:Nat) (hx:x.length=64*n) (hl:x.length<2 ^ 48):zP lM FU (st8 x zXe)=some ((hsh x n).a0,(hsh x n).a1,(hsh x n).a2,(hsh x n).a3,(hsh x n).a4,(hsh x n).a5,(hsh x n).a6,(hsh x n).a7):=by
 refine yM n (λi=>st8 (x.drop (64*i)) (hsh x i)) (by simp [hsh]) (λi hi=>?_) ?_ (wM (by omega))
 ·have hd:(x.drop (64*i)).length=x.length - 64*i:=by simp
  unfold lM st8;refine ct (by simp;omega) ?_;refine bd (a:=wV x (64*i)) (by rw [show (0:Int)=((0:Nat):Int) from rfl,show (64:Int)=((64:Nat):Int) from rfl,lI (by omega) (by omega)];simp [wV]) ?_;refine bd (zM8 _ _ (by simp [wV];omega)) ?_;refine bd (a:=x.drop (64*(i+1))) (by rw [show (64:Int)=((64:Nat):Int) from rfl,lI (by omega) (by omega)];rw [List.drop_drop,Q2 (by simp;omega)];congr 2) ?_;rfl
 ·have hd:x.drop (64*n)=[]:=List.drop_eq_nil_of_le (by omega);show lM (st8 (x.drop (64*n)) (hsh x n))=_;rw [hd];generalize hsh x n=S;rfl
theorem zQv (x:By) (n:Nat) (hx:x.length=64*n) (hl:x.length<2 ^ 47):zP (pR K2 x) FU (0,a8 zXe)=some (a8 (hsh x n)):=by
 refine yM n (λi=>(((64*i:Nat):Int),a8 (hsh x i))) rfl (λi hi=>?_) ?_ (wM (by omega))
 ·unfold pR;refine ct (dlt (by omega)) ?_;refine bd (yEc x (64*i) (by omega) (by omega)) ?_;refine bd (ckT rfl) ?_;refine bd (a:=a8 (hsh x i)) (by rw [yP (by simp [a8])];rfl) ?_;refine bd (yEg _ (fH _ 64) _) ?_;refine bd (yFa _ _) ?_;rw [xU (by omega) (by omega),show ((64*i:Nat):Int)+64=((64*(i+1):Nat):Int) by omega];rfl
 ·show pR K2 x (((64*n:Nat):Int),a8 (hsh x n))=_;unfold pR;exact cf (dge (by omega)) rfl
def zs (n:Nat):Nat:=(119 - n % 64) % 64
def be8 (n:Int) (k:Nat):By:=(W9 k).map λ(j:Nat)=>u8 (xT .u64 n (56 - 8*(j:Int)))
theorem zL5 (n:Int) (k:Nat):(be8 n k).length=k:=by simp [be8]
theorem zNz (n:Int) (k:Nat):be8 n (k+1)=be8 n k++[u8 (xT .u64 n (56 - 8*(k:Int)))]:=by simp [be8,Wa]
def yFo (b:By):Int:=Q5.wrap (Q5.wrap (b.length:Int)*8)
def zAa (b:By):By:=(b++[128]++Q1 (zs b.length) 0)++be8 (yFo b) 8
theorem zBy (b:By):(zAa b).length=b.length+9+zs b.length:=by simp [zAa,zL5];omega
theorem zBa (b:By):(zAa b).length % 64=0:=by rw [zBy];unfold zs;omega
theorem zLv (b:By) (hb:b.length<2 ^ 40):zP iG FU (b++[128])=some (b++[128]++Q1 (zs b.length) 0):=by
 have hz:zs b.length<64:=by unfold zs;omega
 refine yM (zs b.length) (λi=>b++[128]++Q1 i 0) (by simp) (λi hi=>?_) ?_ (wM (by omega))
 ·have hl:(b++[128]++Q1 i 0).length=b.length+1+i:=by simp;omega
  unfold iG;refine ct ?_ ?_
  ·rw [hl];simp only [bne_iff_ne,ne_eq];rw [Qs (by omega)];unfold zs at hi;omega
  ·refine bd (yP (by rw [hl];simp;omega)) ?_;rw [Q9,<- List.replicate_succ']
 ·have hl:(b++[128]++Q1 (zs b.length) 0).length=b.length+1+zs b.length:=by simp;omega
  unfold iG;refine cf ?_ rfl;rw [hl];simp only [bne_eq_false_iff_eq];rw [Qs (by omega)];unfold zs;omega
theorem yA0:zDp=iG:=rfl
theorem zWa (x:By) (n:Int) (hx:x.length<2 ^ 41):zP (zA7 n) FU (x,7)=some (x++be8 n 8):=by
 refine yM 8 (λi=>(x++be8 n i,7 - (i:Int))) (by simp [be8]) (λi hi=>?_) ?_ (wM (by decide))
 ·unfold zA7;refine ct (by simp;omega) ?_;refine ltk ?_;have e:Q5.wrap (8*Q5.wrap (7 - (i:Int)))=56 - 8*(i:Int):=by
   rw [zHp (n:=7 - (i:Int)) (by omega) (by omega),zHp (by omega) (by omega)];omega
  rw [e];refine bd (yP (by simp [zL5];omega)) ?_;rw [xU (by omega) (by omega),Q9,<- zNz,show (7:Int) - (i:Int) - 1=7 - ((i+1:Nat):Int) by omega]
 ·generalize be8 n 8=S;rfl
theorem zWg (x:By) (n:Int) (hx:x.length<2 ^ 41):zP (cI n) FU (x,56)=some (x++be8 n 8):=by
 refine yM 8 (λi=>(x++be8 n i,56 - 8*(i:Int))) (by simp [be8]) (λi hi=>?_) ?_ (wM (by decide))
 ·unfold cI;refine ct (by simp;omega) ?_;rw [zHp (n:=56 - 8*(i:Int)) (by omega) (by omega)];refine bd (yP (by simp [zL5];omega)) ?_;rw [xU (by omega) (by omega),Q9,<- zNz,show (56:Int) - 8*(i:Int) - 8=56 - 8*((i+1:Nat):Int) by omega]
 ·generalize be8 n 8=S;rfl
theorem zKc (b:By) (hb:b.length<2 ^ 40):zBt b=some (zAa b):=by
 have hz:zs b.length<64:=by unfold zs;omega
 unfold zBt;refine bd (a:=b) (by rw [yP (by simp;omega)];simp) ?_;refine bd (yP (by simp;omega)) ?_;refine bd (zLv b hb) ?_;refine ltk ?_;refine bd (zWa _ _ (by simp;omega)) ?_;rfl
theorem zJ4 (b:By) (hb:b.length<2 ^ 40):eP b=some (zAa b):=by
 have hz:zs b.length<64:=by unfold zs;omega
 unfold eP;refine bd (a:=b.length+72) (by unfold mkN;rw [xU (by omega) (by omega),if_pos (by omega)];congr 1) ?_;refine bd (a:=b) (by rw [yP (by simp;omega)];simp) ?_;refine bd (yP (by simp;omega)) ?_;rw [yA0];refine bd (zLv b hb) ?_;refine ltk ?_;refine bd (zWg _ _ (by simp;omega)) ?_;rfl
def be4 (w:Int):By:=[u8 (xT .u32 w 24),u8 (xT .u32 w 16),u8 (xT .u32 w 8),u8 w]
theorem zM1 (l:List Int):(l.flatMap be4).length=4*l.length:=by
 induction l with
 | nil=>rfl
 | cons a r ih=>simp [ih,be4];omega
theorem zRz (l:List Int) (i:Nat) (hi:i<l.length):(l.take (i+1)).flatMap be4=(l.take i).flatMap be4++be4 (l.getD i 0):=by
 rw [Qc,W2];congr 1;simp [hi]
theorem zXq {i:Nat} (h:i<l.length):idx l (i:Int)=some (l.getD i 0):=by rw [xH h];simp [h]
theorem zN9 (l:List Int) (hl:l.length<2 ^ 20):eQ l=some (l.flatMap be4):=by
 have:zP (jO l) FU ([],0)=some (l.flatMap be4):=by
  refine yM l.length (λi=>((l.take i).flatMap be4,(i:Int))) (by simp) (λi hi=>?_) ?_ (wM (by omega))
  ·unfold jO;refine ct (dlt hi) ?_;refine bd (zXq hi) ?_;refine bd (zXq hi) ?_;refine bd (zXq hi) ?_;refine bd (zXq hi) ?_;refine bd (yP (by rw [zM1];simp;omega)) ?_;rw [zRz l i hi,wU (show i<2 ^ 40 by omega)];rfl
  ·unfold jO;refine cf (dge (Qg _)) ?_;simp
 unfold eQ;exact bd this rfl
theorem zLw (l:List Int) (hl:l.length<2 ^ 20):nJ l=some (l.flatMap be4):=by
 have:zP (oM l) FU ([],0)=some (l.flatMap be4):=by
  refine yM l.length (λi=>((l.take i).flatMap be4,(i:Int))) (by simp) (λi hi=>?_) ?_ (wM (by omega))
  ·unfold oM;refine ct (dlt hi) ?_;refine bd (zXq hi) ?_;refine bd (yP (by rw [zM1];simp;omega)) ?_;rw [zRz l i hi,wU (show i<2 ^ 40 by omega)];rfl
  ·unfold oM;refine cf (dge (Qg _)) ?_;simp
 unfold nJ;refine bd (a:=4*l.length) (by unfold mkN;rw [xU (by omega) (by omega),if_pos (by omega)];congr 1) ?_;exact bd this rfl
def sha (b:By):By:=(a8 (hsh (zAa b) ((zAa b).length / 64))).flatMap be4
theorem zIn (b:By):(sha b).length=32:=by unfold sha;rw [zM1];rfl
theorem zL4 (b:By) (hb:b.length<2 ^ 40):mH b=some (sha b):=by
 have hz:zs b.length<64:=by unfold zs;omega
 have h1:=zBy b;have h2:=zBa b;unfold mH;refine bd zMx ?_;refine bd (ckT rfl) ?_;refine bd (zKc b hb) ?_;refine bd (zQv (zAa b) ((zAa b).length / 64) (by omega) (by omega)) ?_;refine bd (ckT rfl) ?_;refine bd (zN9 _ (by simp [a8])) ?_;rfl
theorem zJy (b:By) (hb:b.length<2 ^ 40):pP 1 b=some (sha b):=by
 have hz:zs b.length<64:=by unfold zs;omega
 have h1:=zBy b;have h2:=zBa b;unfold pP;refine cf rfl ?_;refine ct rfl ?_;refine bd (zJ4 b hb) ?_;refine bd (zQ1 (zAa b) ((zAa b).length / 64) (by omega) (by omega)) ?_;refine bd (zLw _ (by simp)) ?_;rfl
abbrev B3:=BitVec 32
def io (v:B3):Int:=(v.toNat:Int)
def rb (v:B3) (r s:Nat):B3:=(v >>> r) ||| (v <<< s)
def S1b (e:B3):B3:=(rb e 6 26 ^^^ rb e 11 21) ^^^ rb e 25 7
def S0b (e:B3):B3:=(rb e 2 30 ^^^ rb e 13 19) ^^^ rb e 22 10
def s0b (e:B3):B3:=(rb e 7 25 ^^^ rb e 18 14) ^^^ (e >>> 3)
def s1b (e:B3):B3:=(rb e 17 15 ^^^ rb e 19 13) ^^^ (e >>> 10)
def t1b (s:A8 B3) (k w:B3):B3:=s.a7+S1b s.a4+((s.a4 &&& s.a5) ^^^ (~~~s.a4 &&& s.a6))+k+w
def t2b (s:A8 B3):B3:=S0b s.a0+(((s.a0 &&& s.a1) ^^^ (s.a0 &&& s.a2)) ^^^ (s.a1 &&& s.a2))
def rB (s:A8 B3) (k w:B3):A8 B3:=⟨t1b s k w+t2b s,s.a0,s.a1,s.a2,s.a3+t1b s k w,s.a4,s.a5,s.a6⟩
def ioA (s:A8 B3):A8 Int:=⟨io s.a0,io s.a1,io s.a2,io s.a3,io s.a4,io s.a5,io s.a6,io s.a7⟩
theorem wu (x:Int):Q0.wrap x=x % 4294967296:=by rw [W5]
theorem ofI (v:B3):Q4 32 (io v)=v:=by unfold io;simp
theorem yHg (v:B3):0<=io v/\io v<4294967296:=⟨by unfold io;omega,by unfold io;have:=v.isLt;omega⟩
theorem zIy (v:B3):Q0.wrap (io v)=io v:=by rw [wu];have:=yHg v;omega
theorem zGa (a b:B3):wN .u32 (io a) (io b)=io (a ^^^ b):=by
 show Q0.wrap ((Q4 32 (io a) ^^^ Q4 32 (io b)).toNat:Int)=_;rw [ofI,ofI];exact zIy _
theorem zWi (a b:B3):vA .u32 (io a) (io b)=io (a &&& b):=by
 show Q0.wrap ((Q4 32 (io a) &&& Q4 32 (io b)).toNat:Int)=_;rw [ofI,ofI];exact zIy _
theorem zRq (a b:B3):ior .u32 (io a) (io b)=io (a ||| b):=by
 show Q0.wrap ((Q4 32 (io a) ||| Q4 32 (io b)).toNat:Int)=_;rw [ofI,ofI];exact zIy _
theorem yFf (a:B3):zKv .u32 (io a)=io (~~~a):=by
 show Q0.wrap ((Q4 32 4294967295 ^^^ Q4 32 (io a)).toNat:Int)=_;rw [ofI,show (Q4 32 4294967295:B3)=BitVec.allOnes 32 from rfl,W3];exact zIy _
theorem zKe (a:B3) (n:Nat) (h:n<=32):xT .u32 (io a) (n:Int)=io (a >>> n):=by
 unfold xT io;rw [show min (n:Int).toNat Q0.bits=n from Qy h,Qe,Qw];rw [show ((2:Int) ^ n)=((2 ^ n:Nat):Int) by simp];exact Qt _ (Int.natCast_nonneg _)
theorem zL7 (a:B3) (n:Nat) (h:n<=32):iR .u32 (io a) (n:Int)=io (a <<< n):=by
 unfold iR io;rw [show min (n:Int).toNat Q0.bits=n from Qy h,Qb,W6,wu];rw [show ((2:Int) ^ n)=((2 ^ n:Nat):Int) by simp];omega
theorem zEo (a b:B3):Q0.wrap (io a+io b)=io (a+b):=by
 rw [wu];unfold io;rw [Qh];omega
theorem zDm (a:B3) (r:Nat) (h:r<=32):rr (io a) (r:Int)=io (rb a r (32 - r)):=by
 unfold rr rb;rw [zKe a r h,show (32:Int) - (r:Int)=((32 - r:Nat):Int) by omega,zL7 a (32 - r) (by omega),zRq]
theorem yHd (s:A8 B3) (k w:B3):t1 (ioA s) (io k) (io w)=io (t1b s k w):=by
 have e1:rr (io s.a4) 6=io (rb s.a4 6 26):=zDm s.a4 6 (by decide);have e2:rr (io s.a4) 11=io (rb s.a4 11 21):=zDm s.a4 11 (by decide);have e3:rr (io s.a4) 25=io (rb s.a4 25 7):=zDm s.a4 25 (by decide);unfold t1 t1b S1b ioA;simp only [e1,e2,e3,zGa,zWi,yFf,zEo]
theorem yGc (s:A8 B3):t2 (ioA s)=io (t2b s):=by
 have e1:rr (io s.a0) 2=io (rb s.a0 2 30):=zDm s.a0 2 (by decide);have e2:rr (io s.a0) 13=io (rb s.a0 13 19):=zDm s.a0 13 (by decide);have e3:rr (io s.a0) 22=io (rb s.a0 22 10):=zDm s.a0 22 (by decide);unfold t2 t2b S0b ioA;simp only [e1,e2,e3,zGa,zWi,zEo]
theorem yFk (s:A8 B3) (k w:B3):rnd (ioA s) (io k) (io w)=ioA (rB s k w):=by
 have e1:=yHd s k w;have e2:=yGc s;unfold rnd;rw [e1,e2];simp only [ioA,rB,zEo]
theorem yC6 (a b:B3):Qo a.toNat b.toNat=(a &&& b).toNat:=(BitVec.toNat_and a b).symm
theorem zKb (a b:B3):Qj a.toNat b.toNat=(a ^^^ b).toNat:=(W7 a b).symm
theorem yC9 (a:B3):Qj 4294967295 a.toNat=(~~~a).toNat:=by
 rw [show (4294967295:Nat)=(BitVec.allOnes 32:B3).toNat from rfl,zKb,W3]
theorem yA4 (a:B3) (r s:Nat):rn a.toNat r s=(rb a r s).toNat:=by
 unfold rn rb;rw [Qr,Qe,Qb];rfl
theorem yDc (a:B3) (r:Nat):Qa a.toNat r=(a >>> r).toNat:=(Qe a r).symm
theorem n_S1 (a:B3):S1n a.toNat=(S1b a).toNat:=by unfold S1n S1b;simp only [yA4,zKb]
theorem n_S0 (a:B3):S0n a.toNat=(S0b a).toNat:=by unfold S0n S0b;simp only [yA4,zKb]
theorem n_s1 (a:B3):s1n a.toNat=(s1b a).toNat:=by unfold s1n s1b;simp only [yA4,zKb,yDc]
theorem n_s0 (a:B3):s0n a.toNat=(s0b a).toNat:=by unfold s0n s0b;simp only [yA4,zKb,yDc]
def kB (n:Nat):B3:=BitVec.ofNat 32 (ksN.getD n 0)
def rsN (S:Nat->B3) (s:A8 B3):Nat->A8 B3
 | 0=>s
 | n+1=>rB (rsN S s n) (kB n) (S n)
theorem zR1:ksN.length=64:=rfl
theorem zY1 {R:Type} (fin:Nat->Nat->Nat->Nat->Nat->Nat->Nat->Nat->R) (S:Nat->B3) (hS:∀ t,S (t+16)=s1b (S (t+14))+S (t+9)+s0b (S (t+1))+S t) (s0:A8 B3):∀ m t,m+t=64 ->
  goK fin (ksN.drop t) (S t).toNat (S (t+1)).toNat (S (t+2)).toNat (S (t+3)).toNat (S (t+4)).toNat (S (t+5)).toNat (S (t+6)).toNat (S (t+7)).toNat (S (t+8)).toNat (S (t+9)).toNat (S (t+10)).toNat (S (t+11)).toNat (S (t+12)).toNat (S (t+13)).toNat (S (t+14)).toNat (S (t+15)).toNat (rsN S s0 t).a0.toNat (rsN S s0 t).a1.toNat (rsN S s0 t).a2.toNat (rsN S s0 t).a3.toNat (rsN S s0 t).a4.toNat (rsN S s0 t).a5.toNat (rsN S s0 t).a6.toNat (rsN S s0 t).a7.toNat =
  fin (rsN S s0 64).a0.toNat (rsN S s0 64).a1.toNat (rsN S s0 64).a2.toNat (rsN S s0 64).a3.toNat (rsN S s0 64).a4.toNat (rsN S s0 64).a5.toNat (rsN S s0 64).a6.toNat (rsN S s0 64).a7.toNat
 | 0,t,h=>by
  obtain rfl:t=64:=by omega
  rw [show ksN.drop 64=[] from Qz (by rw [zR1];omega)];rfl
 | m+1,t,h=>by
  have hk:ksN.drop t=ksN.getD t 0 :: ksN.drop (t+1):=by
   have:t<ksN.length:=by rw [zR1];omega
   rw [Q3 this];simp [this]
  have ih:=zY1 fin S hS s0 m (t+1) (by omega);refine Eq.trans ?_ ih;rw [hk];generalize hs:rsN S s0 t=s;have hs2:rsN S s0 (t+1)=rB s (kB t) (S t):=by rw [<- hs];rfl
  rw [hs2];have hkt:ksN.getD t 0 % 4294967296=(kB t).toNat:=by unfold kB;rw [Qf]
  have ea:Qq (Qd (Qd (Qd (Qd (Qd s.a7.toNat (S1n s.a4.toNat)) (Qj (Qo s.a4.toNat s.a5.toNat) (Qo (Qj 4294967295 s.a4.toNat) s.a6.toNat))) (ksN.getD t 0)) (S t).toNat) (Qd (S0n s.a0.toNat) (Qj (Qj (Qo s.a0.toNat s.a1.toNat) (Qo s.a0.toNat s.a2.toNat)) (Qo s.a1.toNat s.a2.toNat)))) 4294967296=(rB s (kB t) (S t)).a0.toNat:=by
   simp only [n_S1,n_S0,yC9,yC6,zKb];simp only [rB,t1b,t2b,Qh,<- hkt];show ((((_+_)+_)+_)+_+(_+_)) % 4294967296=_;omega
  have ee:Qq (Qd s.a3.toNat (Qd (Qd (Qd (Qd s.a7.toNat (S1n s.a4.toNat)) (Qj (Qo s.a4.toNat s.a5.toNat) (Qo (Qj 4294967295 s.a4.toNat) s.a6.toNat))) (ksN.getD t 0)) (S t).toNat)) 4294967296=(rB s (kB t) (S t)).a4.toNat:=by
   simp only [n_S1,yC9,yC6,zKb];simp only [rB,t1b,Qh,<- hkt];show (_+((((_+_)+_)+_)+_)) % 4294967296=_;omega
  have ew:Qq (Qd (Qd (Qd (s1n (S (t+14)).toNat) (S (t+9)).toNat) (s0n (S (t+1)).toNat)) (S t).toNat) 4294967296=(S (t+1+15)).toNat:=by
   rw [show t+1+15=t+16 by omega,hS t];simp only [n_s1,n_s0,Qh];show (((_+_)+_)+_) % 4294967296=_;omega
  simp only [goK,zHm];rw [ea,ee,ew];rfl
def yB (b:By) (n:Nat):B3:=BitVec.ofNat 32 (b.getD n 0).toNat
def wB (b:By) (t:Nat):B3:=(((yB b (4*t) <<< 24) ||| (yB b (4*t+1) <<< 16)) ||| (yB b (4*t+2) <<< 8)) ||| yB b (4*t+3)
theorem zMa (b:By) (n:Nat):byt b n=io (yB b n):=by
 unfold byt yB io;rw [wu,Qf];have:=(b.getD n 0).toNat_lt;omega
theorem yHu (b:By) (t:Nat):wd b t=io (wB b t):=by
 unfold wd wB;rw [zMa,zMa,zMa,zMa,show (24:Int)=((24:Nat):Int) from rfl,show (16:Int)=((16:Nat):Int) from rfl,show (8:Int)=((8:Nat):Int) from rfl,zL7 _ _ (by decide),zL7 _ _ (by decide),zL7 _ _ (by decide),zRq,zRq,zRq]
def Sx (f:Nat->B3) (n:Nat):B3:=if n<16 then f n else s1b (Sx f (n - 2))+Sx f (n - 7)+s0b (Sx f (n - 15))+Sx f (n - 16)
termination_by n
theorem yD4 (f:Nat->B3) (t:Nat):Sx f (t+16)=s1b (Sx f (t+14))+Sx f (t+9)+s0b (Sx f (t+1))+Sx f t:=by
 rw [Sx,if_neg (by omega)];simp only [show t+16 - 2=t+14 by omega,show t+16 - 7=t+9 by omega,show t+16 - 15=t+1 by omega,show t+16 - 16=t by omega]
theorem yG9 (f:Nat->B3) (h:¬ n<16):Sx f n=s1b (Sx f (n - 2))+Sx f (n - 7)+s0b (Sx f (n - 15))+Sx f (n - 16):=by rw [Sx,if_neg h]
theorem yC1 (f:Nat->B3) (h:t<16):Sx f t=f t:=by rw [Sx,if_pos h]
theorem yF0 (a:B3):s1 (io a)=io (s1b a):=by
 unfold s1 s1b;rw [show (17:Int)=((17:Nat):Int) from rfl,show (19:Int)=((19:Nat):Int) from rfl,show (10:Int)=((10:Nat):Int) from rfl,zDm _ _ (by decide),zDm _ _ (by decide),zKe _ _ (by decide),zGa,zGa]
theorem yHn (a:B3):s0 (io a)=io (s0b a):=by
 unfold s0 s0b;rw [show (7:Int)=((7:Nat):Int) from rfl,show (18:Int)=((18:Nat):Int) from rfl,show (3:Int)=((3:Nat):Int) from rfl,zDm _ _ (by decide),zDm _ _ (by decide),zKe _ _ (by decide),zGa,zGa]
theorem zOq (b:By):∀ t,t<=64->∀ i,i<t->(dP b t).getD i 0=io (Sx (wB b) i)
 | 0,_,i,h=>by omega
 | t+1,ht,i,h=>by
  have ih:=zOq b t (by omega);have hl:=fH b t;unfold dP;rw [List.getD_eq_getElem?_getD,List.getElem?_set];by_cases e:t=i
  ·subst e;rw [if_pos rfl,if_pos (by omega)];simp only [Option.getD_some];unfold wv;by_cases h16:t<16
   ·rw [if_pos h16,yHu,yC1 _ h16]
   ·rw [if_neg h16,ih _ (by omega),ih _ (by omega),ih _ (by omega),ih _ (by omega),yF0,yHn,zEo,zEo,zEo,yG9 (n:=t) _ h16]
  ·rw [if_neg e,<- List.getD_eq_getElem?_getD];exact ih i (by omega)
theorem yHh:∀ n:Fin 64,K2.getD n.1 0=io (kB n.1):=by decide +kernel
theorem zRf (b:By) (s:A8 B3):∀ n,n<=64->kF (dP b 64) (ioA s) n=ioA (rsN (Sx (wB b)) s n)
 | 0,_=>rfl
 | n+1,h=>by
  unfold kF rsN;rw [zRf b s n (by omega),yHh ⟨n,by omega⟩,zOq b 64 (Qg _) n (by omega),yFk]
def cV (h s:A8 B3):A8 B3:=⟨h.a0+s.a0,h.a1+s.a1,h.a2+s.a2,h.a3+s.a3,h.a4+s.a4,h.a5+s.a5,h.a6+s.a6,h.a7+s.a7⟩
theorem zN8 (b:By) (s:A8 B3):zCd (ioA s) b=ioA (cV s (rsN (Sx (wB b)) s 64)):=by
 unfold zCd;rw [zRf b s 64 (Qg _)];unfold zUt cV ioA;simp only [zEo]
def Wn (x:By) (m:Nat):Nat:=Nat.lor (Nat.lor (Nat.lor (W1 (x.getD m 0).toNat 24) (W1 (x.getD (m+1) 0).toNat 16)) (W1 (x.getD (m+2) 0).toNat 8)) (x.getD (m+3) 0).toNat
theorem nC {R:Type} {k:Nat->By->R} {d:R} (h:m+4<=x.length):rd4 (x.drop m) k d=k (Wn x m) (x.drop (m+4)):=by
 rw [Q3 (show m<x.length by omega),Q3 (show m+1<x.length by omega),Q3 (show m+1+1<x.length by omega),Q3 (show m+1+1+1<x.length by omega)];have g:∀ j (hj:j<x.length),x.getD j 0=x[j]:=λj hj=>by simp [hj]
 unfold rd4 Wn;simp only [zHm];rw [g m (by omega),g (m+1) (by omega),g (m+2) (by omega),g (m+3) (by omega)]
theorem zPu (h:a<256) (hn:n<=24):a <<< n<4294967296:=by
 rw [W6];have:2 ^ n<=2 ^ 24:=Nat.pow_le_pow_right (by decide) hn
 calc a*2 ^ n<=255*2 ^ 24:=Nat.mul_le_mul (by omega) this
  _<4294967296:=by decide
theorem yGr (x:By) (n t:Nat) (ht:t<16) (hn:n+64<=x.length):Wn x (n+4*t)=(wB (wV x n) t).toNat:=by
 have g:∀ j,j<64->(wV x n).getD j 0=x.getD (n+j) 0:=λj hj=>by
  unfold wV;rw [List.getD_eq_getElem?_getD,List.getElem?_take,if_pos hj,List.getElem?_drop,<- List.getD_eq_getElem?_getD]
 have y:∀ j,(yB (wV x n) j).toNat=((wV x n).getD j 0).toNat:=λj=>by
  unfold yB;rw [Qf];have:=((wV x n).getD j 0).toNat_lt;omega
 have z:∀ j,((wV x n).getD j 0).toNat<256:=λj=>((wV x n).getD j 0).toNat_lt;unfold Wn wB;rw [Qr,Qr,Qr,Qb,Qb,Qb,y,y,y,y,
  Qi (zPu (z _) (by decide)),Qi (zPu (z _) (by decide)),Qi (zPu (z _) (by decide)),g _ (by omega),g _ (by omega),g _ (by omega),g _ (by omega)]
 rfl
theorem yBr {R:Type} {k:Nat->Nat->Nat->Nat->Nat->Nat->Nat->Nat->Nat->Nat->Nat->Nat->Nat->Nat->Nat->Nat ->  By->R} {d:R} (h:m+64<=x.length):zS3 (x.drop m) k d=k (Wn x m) (Wn x (m+4)) (Wn x (m+8)) (Wn x (m+12)) (Wn x (m+16)) (Wn x (m+20)) (Wn x (m+24)) (Wn x (m+28)) (Wn x (m+32)) (Wn x (m+36)) (Wn x (m+40)) (Wn x (m+44)) (Wn x (m+48)) (Wn x (m+52)) (Wn x (m+56)) (Wn x (m+60)) (x.drop (m+64)):=by
 unfold zS3;rw [nC (by omega),nC (by omega),nC (by omega),nC (by omega),nC (by omega),nC (by omega),nC (by omega),nC (by omega),nC (by omega),nC (by omega),nC (by omega),nC (by omega),nC (by omega),nC (by omega),nC (by omega),nC (by omega)]
theorem u8N (a:B3) (n:Nat) (h:n<=32):Qk (Qq (Qa a.toNat n) 256)=u8 (xT .u32 (io a) (n:Int)):=by
 rw [zKe a n h];unfold u8 io;rw [Qe];congr 1
theorem yE8 (s:A8 B3):yDz s.a0.toNat s.a1.toNat s.a2.toNat s.a3.toNat s.a4.toNat s.a5.toNat s.a6.toNat s.a7.toNat=(a8 (ioA s)).flatMap be4:=by
 have e24:∀ a:B3,Qk (Qq (Qa a.toNat 24) 256)=u8 (xT .u32 (io a) 24):=λa=>u8N a 24 (by decide);have e16:∀ a:B3,Qk (Qq (Qa a.toNat 16) 256)=u8 (xT .u32 (io a) 16):=λa=>u8N a 16 (by decide);have e8:∀ a:B3,Qk (Qq (Qa a.toNat 8) 256)=u8 (xT .u32 (io a) 8):=λa=>u8N a 8 (by decide);have e0:∀ a:B3,Qk (Qq (Qa a.toNat 0) 256)=u8 (io a):=λa=>by
  rw [u8N a 0 (by decide),zKe a 0 (by decide),BitVec.ushiftRight_zero]
 unfold yDz;simp only [zHm,e24,e16,e8,e0];rfl
theorem yCp {R:Type} (fin:Nat->Nat->Nat->Nat->Nat->Nat->Nat->Nat->R) (S:Nat->B3) (hS:∀ t,S (t+16)=s1b (S (t+14))+S (t+9)+s0b (S (t+1))+S t) (s0:A8 B3):goK fin ksN (S 0).toNat (S 1).toNat (S 2).toNat (S 3).toNat (S 4).toNat (S 5).toNat (S 6).toNat (S 7).toNat (S 8).toNat (S 9).toNat (S 10).toNat (S 11).toNat (S 12).toNat (S 13).toNat (S 14).toNat (S 15).toNat s0.a0.toNat s0.a1.toNat s0.a2.toNat s0.a3.toNat s0.a4.toNat s0.a5.toNat s0.a6.toNat s0.a7.toNat=fin (rsN S s0 64).a0.toNat (rsN S s0 64).a1.toNat (rsN S s0 64).a2.toNat (rsN S s0 64).a3.toNat (rsN S s0 64).a4.toNat (rsN S s0 64).a5.toNat (rsN S s0 64).a6.toNat (rsN S s0 64).a7.toNat:=by
 have h:=zY1 fin S hS s0 64 0 rfl;rw [show rsN S s0 0=s0 from rfl,List.drop_zero] at h;simp only [Nat.zero_add] at h;exact h
theorem zU1 (n:Nat) (l:By) (a b c d e f g h:Nat):zMg (n+1) l a b c d e f g h=zS3 l (λw0 w1 w2 w3 w4 w5 w6 w7 w8 w9 w10 w11 w12 w13 w14 w15 r=>goK (λa' b' c' d' e' f' g' h'=>zMg n r ((a+a') % 4294967296) ((b+b') % 4294967296) ((c+c') % 4294967296) ((d+d') % 4294967296) ((e+e') % 4294967296) ((f+f') % 4294967296) ((g+g') % 4294967296) ((h+h') % 4294967296)) ksN w0 w1 w2 w3 w4 w5 w6 w7 w8 w9 w10 w11 w12 w13 w14 w15 a b c d e f g h) []:=by
 show zS3 l _ []=_;refine congrArg (λk=>zS3 l k []) ?_;funext w0 w1 w2 w3 w4 w5 w6 w7 w8 w9 w10 w11 w12 w13 w14 w15 r;refine congrArg (λk=>goK k ksN w0 w1 w2 w3 w4 w5 w6 w7 w8 w9 w10 w11 w12 w13 w14 w15 a b c d e f g h) ?_;funext a' b' c' d' e' f' g' h';simp only [zHm];rfl
theorem yEe (s T:A8 B3) (n:Nat) (l:By):zMg n l ((s.a0.toNat+T.a0.toNat) % 4294967296) ((s.a1.toNat+T.a1.toNat) % 4294967296) ((s.a2.toNat+T.a2.toNat) % 4294967296) ((s.a3.toNat+T.a3.toNat) % 4294967296) ((s.a4.toNat+T.a4.toNat) % 4294967296) ((s.a5.toNat+T.a5.toNat) % 4294967296) ((s.a6.toNat+T.a6.toNat) % 4294967296) ((s.a7.toNat+T.a7.toNat) % 4294967296)=zMg n l (cV s T).a0.toNat (cV s T).a1.toNat (cV s T).a2.toNat (cV s T).a3.toNat (cV s T).a4.toNat (cV s T).a5.toNat (cV s T).a6.toNat (cV s T).a7.toNat:=by
 unfold cV;simp only [Qh]
theorem zTk (x:By) (m n:Nat) (s:A8 B3) (h:m+64<=x.length):zMg (n+1) (x.drop m) s.a0.toNat s.a1.toNat s.a2.toNat s.a3.toNat s.a4.toNat s.a5.toNat s.a6.toNat s.a7.toNat=zMg n (x.drop (m+64)) (cV s (rsN (Sx (wB (wV x m))) s 64)).a0.toNat (cV s (rsN (Sx (wB (wV x m))) s 64)).a1.toNat (cV s (rsN (Sx (wB (wV x m))) s 64)).a2.toNat (cV s (rsN (Sx (wB (wV x m))) s 64)).a3.toNat (cV s (rsN (Sx (wB (wV x m))) s 64)).a4.toNat (cV s (rsN (Sx (wB (wV x m))) s 64)).a5.toNat (cV s (rsN (Sx (wB (wV x m))) s 64)).a6.toNat (cV s (rsN (Sx (wB (wV x m))) s 64)).a7.toNat:=by
 rw [zU1,yBr h];have hw:∀ t,t<16->Wn x (m+4*t)=(Sx (wB (wV x m)) t).toNat:=λt ht=>by rw [yGr x _ t ht h,yC1 _ ht]
 have hw0:Wn x m=_:=hw 0 (by decide);have hw1:Wn x (m+4)=_:=hw 1 (by decide);have hw2:Wn x (m+8)=_:=hw 2 (by decide);have hw3:Wn x (m+12)=_:=hw 3 (by decide);have hw4:Wn x (m+16)=_:=hw 4 (by decide);have hw5:Wn x (m+20)=_:=hw 5 (by decide);have hw6:Wn x (m+24)=_:=hw 6 (by decide);have hw7:Wn x (m+28)=_:=hw 7 (by decide);have hw8:Wn x (m+32)=_:=hw 8 (by decide);have hw9:Wn x (m+36)=_:=hw 9 (by decide);have hw10:Wn x (m+40)=_:=hw 10 (by decide);have hw11:Wn x (m+44)=_:=hw 11 (by decide);have hw12:Wn x (m+48)=_:=hw 12 (by decide);have hw13:Wn x (m+52)=_:=hw 13 (by decide);have hw14:Wn x (m+56)=_:=hw 14 (by decide);have hw15:Wn x (m+60)=_:=hw 15 (by decide);rw [hw0,hw1,hw2,hw3,hw4,hw5,hw6,hw7,hw8,hw9,hw10,hw11,hw12,hw13,hw14,hw15,yCp _ (Sx (wB (wV x m))) (yD4 _) s];exact yEe s _ n _
theorem yCa (x:By) (n:Nat):∀ i (s:A8 B3),x.length=64*(i+n)->hsh x i=ioA s->zMg n (x.drop (64*i)) s.a0.toNat s.a1.toNat s.a2.toNat s.a3.toNat s.a4.toNat s.a5.toNat s.a6.toNat s.a7.toNat=(a8 (hsh x (i+n))).flatMap be4:=by
 induction n with
 | zero=>
  intro i s hl hs;refine (yE8 s).trans ?_;rw [Nat.add_zero,hs]
 | succ n ih=>
  intro i s hl hs;have hle:64*i+64<=x.length:=by omega
  refine (zTk x (64*i) n s hle).trans ?_;have hs2:hsh x (i+1)=ioA (cV s (rsN (Sx (wB (wV x (64*i)))) s 64)):=by
   show zCd (hsh x i) _=_;rw [hs,zN8]
  have ih:=ih (i+1) _ (by omega) hs2;rw [show i+(n+1)=i+1+n by omega,<- ih,show 64*(i+1)=64*i+64 by omega]
theorem zIm (b:By):zP1 b=sha b:=by
 have hm:=zBa b;have h:=yCa (zAa b) ((zAa b).length / 64) 0 ⟨1779033703,3144134277,1013904242,2773480762,1359893119,2600822924,528734635,1541459225⟩ (by omega) rfl;rw [Nat.zero_add] at h;exact h
set_option maxRecDepth 100000
def hd4 (n:Nat):By:=[u8 (xT .i64 (n:Int) 24),u8 (xT .i64 (n:Int) 16),u8 (xT .i64 (n:Int) 8),u8 (n:Int)]
theorem yH1 (n:Nat) (h:n<2 ^ 32):[u8 (xT .u32 (Q0.wrap (n:Int)) 24),u8 (xT .u32 (Q0.wrap (n:Int)) 16),u8 (xT .u32 (Q0.wrap (n:Int)) 8),u8 (Q0.wrap (n:Int))]=hd4 n:=by
 rw [yFr (by omega) (by omega)];rfl
def zUp (fs:List By):By:=fs.flatMap λf=>hd4 f.length++f
def frm (tag:Int) (fs:List By):By:=u8 tag :: zUp fs
def tot (fs:List By):Nat:=(fs.map λf=>4+f.length).sum
theorem zZv (fs:List By):(zUp fs).length=tot fs:=by
 induction fs with
 | nil=>rfl
 | cons f r ih=>simp only [zUp,tot,List.flatMap_cons,Ql,Qm,Qu] at ih ⊢;rw [ih];simp [hd4]
theorem zFj (tag:Int) (fs:List By):(frm tag fs).length=1+tot fs:=by simp [frm,zZv];omega
theorem zOr (tag:Int) (fs:List By) (i:Nat) (hi:i<fs.length):frm tag (fs.take (i+1))=(frm tag (fs.take i)++hd4 (fs[i]).length)++fs[i]:=by
 unfold frm zUp;rw [Qc,W2];simp [hi]
theorem zZz (fs:List By):∀ i,tot (fs.take i)<=tot fs:=by
 induction fs with
 | nil=>intro i;simp
 | cons f r ih=>
  intro i;cases i with
  | zero=>simp [tot]
  | succ j=>have:=ih j;simp only [tot,List.take_succ_cons,Qm,Qu] at this ⊢;omega
theorem zSw (fs:List By):fs.length<=tot fs:=by
 induction fs with
 | nil=>simp
 | cons f r ih=>simp only [tot,List.length_cons,Qm,Qu] at ih ⊢;omega
theorem zSt (fs:List By) (i:Nat) (hi:i<fs.length):tot (fs.take i)+4+(fs[i]).length<=tot fs:=by
 have h:=zZz fs (i+1);have e:tot (fs.take (i+1))=tot (fs.take i)+(4+(fs[i]).length):=by
  unfold tot;rw [Qc,Wb,List.sum_append];simp only [hi,List.getElem?_eq_getElem,Option.toList_some,Qm,List.map_nil,Qu,List.sum_nil];omega
 omega
theorem zCo (tag:Int) (fs:List By) (h:tot fs<2 ^ 32):fQ tag fs=some (frm tag fs):=by
 have h1:=zSw fs;have:zP (jR fs) FU ([u8 tag],0)=some (frm tag fs):=by
  refine yM fs.length (λi=>(frm tag (fs.take i),(i:Int))) (by simp [frm,zUp]) (λi hi=>?_) ?_ (wM (by omega))
  ·have h2:=zSt fs i hi;have h3:=zFj tag (fs.take i);unfold jR;refine ct (dlt hi) ?_;refine bd (xH hi) ?_;refine bd (yP (by simp;omega)) ?_;refine bd (xH hi) ?_;refine bd (yP (by simp;omega)) ?_;rw [zOr tag fs i hi,wU (show i<2 ^ 40 by omega)];rfl
  ·unfold jR;refine cf (dge (Qg _)) ?_;simp
 unfold fQ;exact bd this rfl
theorem zTr (tag:Int) (fs:List By) (h:tot fs<2 ^ 32):pX tag fs=some (frm tag fs):=by
 have h1:=zSw fs;have:zP (nT fs) FU ([u8 tag],0)=some (frm tag fs):=by
  refine yM fs.length (λi=>(frm tag (fs.take i),(i:Int))) (by simp [frm,zUp]) (λi hi=>?_) ?_ (wM (by omega))
  ·have h2:=zSt fs i hi;have h3:=zFj tag (fs.take i);unfold nT;refine ct (dlt hi) ?_;refine bd (xH hi) ?_;rw [yH1 _ (by omega)];refine bd (yP (by simp [hd4];omega)) ?_;refine bd (yP (by simp [hd4];omega)) ?_;rw [zOr tag fs i hi,wU (show i<2 ^ 40 by omega)]
  ·unfold nT;refine cf (dge (Qg _)) ?_;simp
 unfold pX;exact bd this rfl
theorem nS (a:Int) (b:By):xR a b=pP a b:=by
 unfold xR;cases h:(a==1&&Qx b.length 1048576) with
 | false=>rfl
 | true=>
  simp only [Qp,beq_iff_eq] at h;have hl:=Q8 h.2;rw [cond_true,h.1,zJy b (by omega),zIm]
theorem zRe (b:By) (h:b.length<2 ^ 40):xR 1 b=some (sha b):=(nS 1 b).trans (zJy b h)
def hs (tag:Int) (fs:List By):By:=sha (frm tag fs)
theorem mP (tag:Int) (fs:List By):(hs tag fs).length=32:=zIn _
theorem zLo (tag:Int) (fs:List By) (h:tot fs<2 ^ 32):lE tag fs=some (hs tag fs):=by
 unfold lE;refine bd (zTr tag fs h) ?_;exact bd (zRe _ (by rw [zFj];omega)) rfl
theorem aA (tag:Int) (fs:List By):wJ tag fs=lE tag fs:=by
 unfold wJ;cases h:Qx (fs.map λf=>4+f.length).sum 1000000 with
 | false=>rfl
 | true=>
  have hl:tot fs<=1000000:=Q8 h;rw [cond_true,zLo tag fs (by omega),zIm];rfl
theorem zA9 (tag:Int) (fs:List By) (h:tot fs<2 ^ 32):wJ tag fs=some (hs tag fs):=(aA tag fs).trans (zLo tag fs h)
def beN (n:Int) (size k:Nat):By:=(W9 k).map λ(j:Nat)=>u8 (xT .u64 (Q5.wrap n) (8*((size:Int) - 1 - (j:Int))))
theorem zIu (n:Int) (size k:Nat):(beN n size k).length=k:=by simp [beN]
theorem zJs (n:Int) (size k:Nat):beN n size (k+1)=beN n size k++[u8 (xT .u64 (Q5.wrap n) (8*((size:Int) - 1 - (k:Int))))]:=by simp [beN,Wa]
def wC (b:By) (size:Nat) (n:Int):By:=b++beN n size size
theorem xI (b:By) (size:Nat) (n:Int):(wC b size n).length=b.length+size:=by simp [wC,zIu]
theorem mS (b:By) (size:Nat) (n:Int) (h1:1<=size) (h8:size<=8) (hb:b.length<2 ^ 40):uX b (size:Int) n=some (wC b size n):=by
 have:zP (gZ n) FU (b,(size:Int) - 1)=some (wC b size n):=by
  refine yM size (λi=>(b++beN n size i,(size:Int) - 1 - (i:Int))) (by simp [beN]) (λi hi=>?_) ?_ (wM (by omega))
  ·unfold gZ;refine ct (by simp;omega) ?_;refine ltk ?_;rw [zHp (n:=(size:Int) - 1 - (i:Int)) (by omega) (by omega),zHp (n:=8*((size:Int) - 1 - (i:Int))) (by omega) (by omega)];refine bd (yP (by simp [zIu];omega)) ?_;rw [xU (by omega) (by omega),Q9,<- zJs,show (size:Int) - 1 - (i:Int) - 1=(size:Int) - 1 - ((i+1:Nat):Int) by omega]
  ·unfold gZ;refine cf (by simp;omega) rfl
 unfold uX;refine bd (a:=b) (by rw [yP (by simp;omega)];simp) ?_;refine bd (a:=false) (cf (by simp;omega) (congrArg some (by simp;omega))) ?_;rw [xU (by omega) (by omega)];exact bd this rfl
theorem yF7 (k:IntKind) (n j:Nat) (h:j<=k.bits):xT k (n:Int) (j:Int)=((n / 2 ^ j:Nat):Int):=by
 unfold xT;rw [Qv,Qy h,Qt _ (by have:(0:Int)<2 ^ j:=Int.pow_pos (by decide);omega)];rw [Int.natCast_ediv];simp
theorem zPv (n:Int) (s:Nat) (h:s<=8):∀ k,k<=s->beK (Q5.wrap n).toNat k=(W9 k).map λ(j:Nat)=>u8 (xT .u64 (Q5.wrap n) (8*((k:Int) - 1 - (j:Int))))
 | 0,_=>rfl
 | k+1,hk=>by
  have hw:0<=Q5.wrap n:=by rw [Qn];omega
  obtain ⟨m,hm⟩:=Q6 hw;have ih:=zPv n s h k (by omega);unfold beK;rw [zHm,ih,List.range_succ_eq_map,Qm,List.map_map];rw [hm];have e:(8*(((k+1:Nat):Int) - 1 - ((0:Nat):Int)))=((8*k:Nat):Int):=by omega
  rw [e,yF7 _ _ _ (by show 8*k<=64;omega)];congr 1
  ·unfold u8;congr 1;show Qq (Qa m (Nat.mul 8 k)) 256=_;have:Qa m (Nat.mul 8 k)=m / 2 ^ (8*k):=Qw m (8*k);rw [this];show m / 2 ^ (8*k) % 256=(((m / 2 ^ (8*k):Nat):Int) % 256).toNat;omega
  ·refine List.map_congr_left λj _=>?_;show u8 _=u8 _;rw [show (8*(((k+1:Nat):Int) - 1 - ((j+1:Nat):Int)))=8*((k:Int) - 1 - (j:Int)) by omega]
theorem zDj (b:By) (size:Nat) (n:Int) (h1:1<=size) (h8:size<=8) (hb:b.length<2 ^ 40):jC b (size:Int) n=some (wC b size n):=by
 have:zP (jN n) FU (b,(size:Int) - 1)=some (wC b size n):=by
  refine yM size (λi=>(b++beN n size i,(size:Int) - 1 - (i:Int))) (by simp [beN]) (λi hi=>?_) ?_ (wM (by omega))
  ·unfold jN;refine ct (by simp;omega) ?_;refine ltk ?_;rw [xU (n:=8*((size:Int) - 1 - (i:Int))) (by omega) (by omega),zHp (n:=8*((size:Int) - 1 - (i:Int))) (by omega) (by omega)];refine bd (yP (by simp [zIu];omega)) ?_;rw [xU (by omega) (by omega),Q9,<- zJs,show (size:Int) - 1 - (i:Int) - 1=(size:Int) - 1 - ((i+1:Nat):Int) by omega]
  ·unfold jN;refine cf (by simp;omega) rfl
 unfold jC;refine bd (a:=b) (by rw [yP (by simp;omega)];simp) ?_;refine bd (a:=false) (cf (by simp;omega) (congrArg some (by simp;omega))) ?_;rw [xU (by omega) (by omega)];exact bd this rfl
theorem zJq (b:By) (size:Nat) (n:Int) (h1:1<=size) (h8:size<=8) (hb:b.length<2 ^ 40):mI b (size:Int) n=some (wC b size n):=by
 have:zP (mV n) FU (b,(size:Int) - 1)=some (wC b size n):=by
  refine yM size (λi=>(b++beN n size i,(size:Int) - 1 - (i:Int))) (by simp [beN]) (λi hi=>?_) ?_ (wM (by omega))
  ·unfold mV;refine ct (by simp;omega) ?_;refine ltk ?_;rw [xU (n:=8*((size:Int) - 1 - (i:Int))) (by omega) (by omega),zHp (n:=8*((size:Int) - 1 - (i:Int))) (by omega) (by omega)];refine bd (yP (by simp [zIu];omega)) ?_;rw [xU (by omega) (by omega),Q9,<- zJs,show (size:Int) - 1 - (i:Int) - 1=(size:Int) - 1 - ((i+1:Nat):Int) by omega]
  ·unfold mV;refine cf (by simp;omega) rfl
 unfold mI;refine bd (a:=b) (by rw [yP (by simp;omega)];simp) ?_;refine bd (a:=false) (cf (by simp;omega) (congrArg some (by simp;omega))) ?_;rw [xU (by omega) (by omega)];exact bd this rfl
theorem zCh (b:By) (size n:Int):xB b size n=jC b size n:=by
 unfold xB;cases h:(decide (1<=size)&&decide (size<=8)) with
 | false=>rfl
 | true=>
  simp only [Qp,decide_eq_true_eq] at h;obtain ⟨m,rfl⟩:=Q6 (show 0<=size by omega);rw [cond_true,yDl];cases hb:Qx b.length 1000000 with
  | false=>rfl
  | true=>
   have hl:=Q8 hb;rw [cond_true,zHm,zDj b m n (by omega) (by omega) (by omega),Qv,zPv n m (by omega) m (Qg _)];rfl
theorem uJ (b:By) (size:Nat) (n:Int) (h1:1<=size) (h8:size<=8) (hb:b.length<2 ^ 40):xB b (size:Int) n=some (wC b size n):=(zCh b _ n).trans (zDj b size n h1 h8 hb)
theorem zH3 (b:By) (size n:Int):kY b size n=mI b size n:=by
 unfold kY;cases h:(decide (1<=size)&&decide (size<=8)) with
 | false=>rfl
 | true=>
  simp only [Qp,decide_eq_true_eq] at h;obtain ⟨m,rfl⟩:=Q6 (show 0<=size by omega);rw [cond_true,yDl];cases hb:Qx b.length 1000000 with
  | false=>rfl
  | true=>
   have hl:=Q8 hb;rw [cond_true,zHm,zJq b m n (by omega) (by omega) (by omega),Qv,zPv n m (by omega) m (Qg _)];rfl
def zHj (b x:By):By:=wC b 2 ((x.take 65535).length:Int)++x.take 65535
theorem zCs (b x:By):(zHj b x).length<=b.length+65537:=by simp [zHj,xI];omega
theorem zN6 (b x:By) (hb:b.length<2 ^ 39):cU b x=some (zHj b x):=by
 unfold cU;refine bd (a:=x.take 65535) ?_ ?_
 ·by_cases h:65535<x.length
  ·refine ct (by simp;omega) ?_;exact bd (a:=x.take 65535) (by rw [show (0:Int)=((0:Nat):Int) from rfl,show (65535:Int)=((65535:Nat):Int) from rfl,lI (by omega) (by omega)];simp) rfl
  ·refine cf (by simp;omega) ?_;rw [Q2 (by omega)]
 ·refine bd (mS b 2 _ (by omega) (by omega) (by omega)) ?_;refine bd (yP (by rw [xI];simp;omega)) ?_;rfl
theorem zFu (b x:By) (hb:b.length<2 ^ 39):xJ b x=some (zHj b x):=by
 unfold xJ;refine bd (a:=x.take 65535) ?_ ?_
 ·by_cases h:65535<x.length
  ·rw [if_pos (by omega),show (0:Int)=((0:Nat):Int) from rfl,show (65535:Int)=((65535:Nat):Int) from rfl,lI (by omega) (by omega)];simp
  ·rw [if_neg (by omega),show (0:Int)=((0:Nat):Int) from rfl,lI (by omega) (by omega)];simp;rw [Q2 (by omega)]
 ·refine bd (uJ b 2 _ (by omega) (by omega) (by omega)) ?_;refine bd (yP (by rw [xI];simp;omega)) ?_;rfl
theorem zOg (a b:By) (ha:a.length<2 ^ 40):zCk a b=some (a==b):=by
 unfold zCk;by_cases h:a.length=b.length
 ·refine cf (by simp;omega) ?_;have:∃ r,zP (lL a b) FU 0=some r/\(match r with | .inl r=>r=false/\a≠b | .inr _=>a=b):=by
   refine zK5 (λs=>∃ k:Nat,s=(k:Int)/\k<=a.length/\a.take k=b.take k) (λs=>a.length - s.toNat) _ (λs hs=>?_) FU 0 ⟨0,rfl,by omega,by simp⟩ (wM (by omega));obtain ⟨k,rfl,hk,he⟩:=hs;by_cases hk2:k<a.length
   ·by_cases hv:a[k]=b[k]
    ·refine .inl ⟨((k+1:Nat):Int),?_,⟨k+1,rfl,by omega,?_⟩,by simp;omega⟩
     ·unfold lL;refine ct (dlt hk2) ?_;refine bd (xH hk2) ?_;refine bd (xH (h▸hk2)) ?_;refine cf (by rw [hv];simp) ?_;rw [wU (by omega)]
     ·rw [Qc,Qc,he];simp [hk2,hv,h▸hk2]
    ·refine .inr ⟨.inl false,?_,rfl,λe=>hv (by subst e;rfl)⟩;unfold lL;refine ct (dlt hk2) ?_;refine bd (xH hk2) ?_;refine bd (xH (h▸hk2)) ?_;refine ct ?_ rfl;simp only [bne_iff_ne,ne_eq];intro e;exact hv (UInt8.toNat_inj.mp (by omega))
   ·refine .inr ⟨.inr (),?_,?_⟩
    ·unfold lL;exact cf (dge (by omega)) rfl
    ·have e1:a.take k=a:=Q2 (by omega);have e2:b.take k=b:=Q2 (by omega);rw [e1,e2] at he;exact he
  obtain ⟨r,h1,h2⟩:=this;refine bd h1 ?_;cases r with
  | inl r=>obtain ⟨rfl,h3⟩:=h2;simp [h3]
  | inr u=>simp [h2]
 ·refine ct (by simp;omega) ?_;have:a≠b:=λe=>h (by rw [e]);simp [this]
theorem zRy (b:By) (h:b.length<2 ^ 40):qE b=some b:=by
 unfold qE;refine bd (yP (by simp;omega)) ?_;simp
theorem zNh (tag:Int) (fs:List By) (h:tot fs<2 ^ 32):cP tag fs=some (hs tag fs):=by
 unfold cP;refine bd (zCo tag fs h) ?_;exact bd (zL4 _ (by rw [zFj];omega)) rfl
set_option maxRecDepth 100000
theorem b0 (h:e=0):(e != 0)=false:=by subst h;rfl
theorem b1 (h:e≠0):(e != 0)=true:=by simp [h]
theorem c0 (h:e=0):(e==0)=true:=by subst h;rfl
theorem c1 (h:e≠0):(e==0)=false:=by simp [h]
end Go.Proofs.TT
namespace Go.Sw
open Go
variable {a b:Nat}{i:Int}{j:Nat}{α β:Type}{P:α->Prop}{f:α->Option β}{l:List α}{o:Option α}
def Def (o:Option α) (P:α->Prop):Prop:=∃ a,o=some a/\P a
theorem Def.bd {Q:β->Prop} (h:Def o P) (k:∀ a,P a->Def (f a) Q):Def (o.bind f) Q:=by
 obtain ⟨a,rfl,h⟩:=h;exact k a h
theorem Def.s {a:α} {Q:α->Prop} (h:Q a):Def (some a) Q:=⟨a,rfl,h⟩
theorem Def.of {a:α} {Q:α->Prop} (e:o=some a) (h:Q a):Def o Q:=⟨a,e,h⟩
theorem Def.c {b:Bool} {x y:Option α} {Q:α->Prop} (h:b=true->Def x Q) (k:b=false->Def y Q):Def (bif b then x else y) Q:=by
 cases b
 ·exact k rfl
 ·exact h rfl
theorem Def.ck {b:Bool} (h:b=true):Def (Go.Sw.ck b) (λ_=>True):=⟨(),ckT h,trivial⟩
theorem Def.lt {e:α} {Q:β->Prop} (k:Def (f e) Q):Def (Go.Sw.lt e f) Q:=k
theorem Def.mono {Q:α->Prop} (h:Def o P) (k:∀ a,P a->Q a):Def o Q:=by
 obtain ⟨a,e,h⟩:=h;exact ⟨a,e,k a h⟩
theorem Def.get (d:α) (h:Def o P):o=some (o.getD d)/\P (o.getD d):=by
 obtain ⟨a,rfl,h⟩:=h;exact ⟨rfl,h⟩
theorem Def.loop {X Y:Type} {step:X->Option (X ⊕ Y)} {s:X} {Q:Y->Prop} (I:X->Prop) (m:X->Nat)
  (h:∀ s,I s->Def (step s) (λr=>match r with | .inl s'=>I s'/\m s'<m s | .inr r=>Q r)) (h0:I s) (hm:m s<2 ^ 64):Def (zP step FU s) Q:=by
 refine zK5 I m Q (λs hs=>?_) FU s h0 (wM hm);obtain ⟨r,e,hr⟩:=h s hs;cases r with
 | inl s'=>exact .inl ⟨s',e,hr.1,hr.2⟩
 | inr r=>exact .inr ⟨r,e,hr⟩
theorem Def.app {m:List α} (h:(l.length+m.length)*b<=140737488355328):Def (yN b l m) (λr=>r=l++m):=⟨_,yP h,rfl⟩
theorem Def.idx (h0:0<=i) (h:i<l.length):Def (Go.Sw.idx l i) (λr=>r∈l):=by
 obtain ⟨n,rfl⟩:=Q6 h0;exact ⟨_,xH (by omega),W8 _⟩
theorem Def.sub {a b:Int} (h0:0<=a) (h1:a<=b) (h2:b<=l.length):Def (Go.Sw.sub l a b) (λr=>r=(l.drop a.toNat).take (b.toNat - a.toNat)):=by
 obtain ⟨n,rfl⟩:=Q6 h0;obtain ⟨m,rfl⟩:=Q6 (by omega:0<=b);exact ⟨_,lI (by omega) (by omega),rfl⟩
theorem Def.ixN {n:Nat} (h0:0<=i) (h:i<n):Def (Go.Sw.ixN n i) (λj=>j=i.toNat/\j<n):=by
 refine ⟨i.toNat,?_,rfl,by omega⟩;simp [Go.Sw.ixN,h0,h]
theorem Def.upd {u:α} (h:j<l.length):Def (uA l j u) (λr=>r=l.set j u):=⟨_,by simp [uA,h],rfl⟩
theorem Def.at (h:j<l.length):Def (l[j]?) (λr=>r∈l):=⟨l[j],by simp [h],W8 _⟩
theorem Def.mkN {n:Int} (h0:0<=n) (h:n<2 ^ 40):Def (mkN 1 n) (λj=>j=n.toNat):=⟨n.toNat,by unfold Go.Sw.mkN;rw [if_pos ⟨h0,by omega⟩],rfl⟩
theorem beqT (h:a=b):Nat.beq a b=true:=by subst h;exact Nat.beq_refl a
theorem zL0 (h:a<=b):Qx a b=true:=Nat.ble_eq.mpr h
end Go.Sw
namespace Go.Proofs.TT
open Go Go.Sw
set_option maxRecDepth 100000
set_option maxRecDepth 100000
theorem yEz (x w:UInt8):u8 (wN .u8 (x.toNat:Int) (w.toNat:Int))=Qk (Qj x.toNat w.toNat):=by
 have hx:=x.toNat_lt;have hw:=w.toNat_lt;have e:wN .u8 (x.toNat:Int) (w.toNat:Int)=((Qj x.toNat w.toNat:Nat):Int):=by
  show IntKind.u8.wrap ((Q4 8 (x.toNat:Int) ^^^ Q4 8 (w.toNat:Int)).toNat:Int)=_;rw [W7,W0,W0,Qf,Qf,Qi hx,Qi hw,IntKind.wrap_u8];have:x.toNat ^^^ w.toNat<2 ^ 8:=W4 hx hw;show ((x.toNat ^^^ w.toNat:Nat):Int) % 256=((x.toNat ^^^ w.toNat:Nat):Int);omega
 rw [e];unfold u8;congr 1;have:x.toNat ^^^ w.toNat<2 ^ 8:=W4 hx hw;show (((x.toNat ^^^ w.toNat:Nat):Int) % 256).toNat=x.toNat ^^^ w.toNat;omega
theorem zR8 (w:UInt8) (c:By) (hc:c.length<=64):eG w c=some (mkK w.toNat c,c):=by
 generalize hX:c++Q1 (64 - c.length) (0:UInt8)=X;have hl:X.length=64:=by rw [<- hX];simp;omega
 have hcp:cpy (Q1 64 (0:UInt8)) c=X:=by
  rw [<- hX];unfold cpy;rw [List.length_replicate,Q2 hc,List.drop_replicate]
 let f:UInt8->UInt8:=λx=>Qk (Qj x.toNat w.toNat);have hm:mkK w.toNat c=X.map f:=by unfold mkK;rw [hX]
 rw [hm];unfold eG;have h64:mkN 1 64=some 64:=rfl;refine bd h64 (bd (a:=()) (by simp [ck]) ?_);show ((zP (jF w 64) FU (0,cpy (Q1 64 (0:UInt8)) c):Option By).bind _)=_;rw [hcp];refine bd (a:=X.map f) (yM 64 (λi=>((i:Int),(X.take i).map f++X.drop i)) (by simp) (λi hi=>?_) ?_ (wM (by decide))) ?_
 ·unfold jF;have hi':i<X.length:=by omega
  have hA:((X.take i).map f).length=i:=by simp;omega
  have hg:((X.take i).map f++X.drop i)[i]? = some X[i]:=by
   rw [List.getElem?_append_right (by omega),hA,Nat.sub_self,List.getElem?_drop,Nat.add_zero,List.getElem?_eq_getElem hi']
  have hu:uA ((X.take i).map f++X.drop i) i (f X[i])=some ((X.take (i+1)).map f++X.drop (i+1)):=by
   unfold uA;rw [if_pos (by rw [Ql,hA,List.length_drop];omega)];congr 1;have e:(X.take (i+1)).map f=(X.take i).map f++[f X[i]]:=by
    rw [Qc,List.getElem?_eq_getElem hi',Wb];rfl
   rw [List.set_append_right _ _ (by omega),hA,Nat.sub_self,Q3 hi',List.set_cons_zero,e,Q9];rfl
  refine ct (by simp;omega) (bd (tD hi) (bd hg (bd (tD hi) (bd (a:=(X.take (i+1)).map f++X.drop (i+1)) ?_ ?_))))
  ·rw [yEz];exact hu
  ·rw [wU (by omega)]
 ·unfold jF;refine cf (by simp) ?_;rw [Q2 (by omega),Qz (by omega),List.append_nil]
 ·refine bd (a:=()) (by simp [ck,hl]) (bd (a:=()) rfl rfl)
theorem zR3 (w:Nat) (c:By) (h:c.length<=64):(mkK w c).length=64:=by unfold mkK;simp;omega
theorem zMi (key b:By):zF2 key b=zBh key b:=by
 unfold zF2;cases h:(Qx key.length 64&&Qx b.length 1000000) with
 | false=>rfl
 | true=>
  simp only [Qp] at h;have h1:=Q8 h.1;have h2:=Q8 h.2;have l1:=zR3 54 key h1;have l2:=zR3 92 key h1;have ks:∀ x:By,x.length<2 ^ 40->xR 1 x=some (zP1 x):=λx hx=>by rw [nS,zJy x hx,zIm]
  have kl:(zP1 (mkK 54 key++b)).length=32:=by rw [zIm];exact zIn _
  rw [cond_true];refine (show zBh key b=some _ from ?_).symm;unfold zBh;have hd:decide (64<(key.length:Int))=false:=by simp;omega
  rw [hd,cond_false];refine bd (a:=key) rfl ?_;refine bd (zR8 54 key h1) ?_;refine bd (yP (b:=1) (l:=mkK 54 key) (m:=b) (by omega)) ?_;refine bd (ks _ (by rw [Ql];omega)) ?_;refine bd (zR8 92 key h1) ?_;refine bd (yP (b:=1) (l:=mkK 92 key) (by omega)) ?_;refine bd (ks _ (by rw [Ql];omega)) rfl
end Go.Proofs.TT
