/- what a loss of power at a start leaves -/
import Derived.Test.YtpbnmpopifipbaaGreatDoorCZ3
import Derived.Test.YtpbnmpopifipbaaGreatDoorCZ5
set_option linter.all false
open Go.IntKind renaming i64 -> Q0, u32 -> Q1, u64 -> Q5, wrap_u64 -> Ql
open List renaming length_append -> Q2, take_of_length_le -> Q3, replicate -> Q4, append_assoc -> Q6, take_add_one -> Q7, flatMap_cons -> Qa, getElem_mem -> Qb, length_cons -> Qc, mem_cons_self -> Qg, flatMap_append -> Qi, drop_eq_nil_of_le -> Qk, length_nil -> Qo, map_cons -> Qq, sum_cons -> Qr, mem_append -> Qs, drop_drop -> Qu, take_left -> Qv, length_singleton -> Qw, mem_cons_of_mem -> Qx, length -> Qy, not_mem_nil -> Qz, range -> W0, range_succ -> W1, append_nil -> W2, mem_cons -> W5
open Int renaming toNat_natCast -> Q8, eq_ofNat_of_zero_le -> Q9, tmod_eq_emod_of_nonneg -> Qe, le_refl -> Qt, tdiv -> W6, tmod -> W7
open Nat renaming le_refl -> Qd, mod_eq_of_lt -> Qn, two_pow_add_eq_or_of_lt -> Qp, blt_eq -> W3, blt -> W4
open BitVec renaming ofInt -> Qf, ofInt_natCast -> Qh, toNat_ofNat -> Qj
open Option renaming bind_some -> Qm
namespace Go.Sw
open Go
variable {b:Nat}{c:Bool}{n:Int}{α β:Type}{a:α}{f:α->Option β}{l:List α}{r:Option β}
theorem zN6 {X Y:Type} {step:X->Option (X ⊕ Y)} {r:Y} (n:Nat) (s:Nat->X) (h:∀ i,i<n->step (s i)=some (.inl (s (i+1)))) (he:step (s n)=some (.inr r)) :
  ∀ (d k fuel:Nat),k+d=n->d<fuel->zL step fuel (s k)=some r:=by
 intro d;induction d with
 | zero=>
  intro k fuel hk hf;obtain ⟨f,rfl⟩:∃ f,fuel=f+1:=⟨fuel - 1,by omega⟩;have:k=n:=by omega
  subst this;simp [zL,he]
 | succ d ih=>
  intro k fuel hk hf;obtain ⟨f,rfl⟩:∃ f,fuel=f+1:=⟨fuel - 1,by omega⟩;simp only [zL,h k (by omega)];exact ih (k+1) f (by omega) (by omega)
theorem yG {X Y:Type} {step:X->Option (X ⊕ Y)} {r:Y} {x:X} (n:Nat) (s:Nat->X) (h0:s 0=x) (h:∀ i,i<n->step (s i)=some (.inl (s (i+1)))) (he:step (s n)=some (.inr r)) {fuel:Nat} (hf:n<fuel) :
  zL step fuel x=some r:=by
 subst h0;exact zN6 n s h he n 0 fuel (by omega) hf
theorem zJt {X Y:Type} {step:X->Option (X ⊕ Y)} (I:X->Prop) (m:X->Nat) (Q:Y->Prop)
  (h:∀ s,I s->(∃ s',step s=some (.inl s')/\I s'/\m s'<m s)∨(∃ r,step s=some (.inr r)/\Q r)) :
  ∀ (fuel:Nat) (s:X),I s->m s<fuel->∃ r,zL step fuel s=some r/\Q r:=by
 intro fuel;induction fuel with
 | zero=>intro s _ hm;omega
 | succ f ih=>
  intro s hs hm;rcases h s hs with ⟨s',h1,h2,h3⟩ | ⟨r,h1,h2⟩
  ·obtain ⟨r,h4,h5⟩:=ih s' h2 (by omega);exact ⟨r,by simp [zL,h1,h4],h5⟩
  ·exact ⟨r,by simp [zL,h1],h2⟩
theorem xM {n:Nat} (h:n<2 ^ 64):n<FU:=by
 have:(2:Nat) ^ 64<FU:=by decide
 omega
theorem yQ (h1:-9223372036854775808<=n) (h2:n<=9223372036854775807):Q0.wrap n=n:=by rw [IntKind.wrap_i64];omega
theorem yCw (h1:0<=n) (h2:n<=4294967295):Q1.wrap n=n:=by rw [IntKind.wrap_u32];omega
theorem aU (h1:0<=n) (h2:n<=18446744073709551615):Q5.wrap n=n:=by rw [Ql];omega
theorem yI {m:List α} (h:(l.length+m.length)*b<=140737488355328):yN b l m=some (l++m):=by
 simp [yN,LIM,h]
theorem yM {i:Nat} (h:i<l.length):idx l (i:Int)=some l[i]:=by
 simp [idx,h]
theorem sD {a:Nat} (h:a<=b) (h2:b<=l.length):sub l (a:Int) (b:Int)=some ((l.drop a).take (b - a)):=by
 have:(0:Int)<=a/\(a:Int)<=b/\(b:Int)<=l.length:=⟨by omega,by omega,by omega⟩;simp [sub,this]
theorem bd {o:Option α} (h:o=some a) (k:f a=r):o.bind f=r:=by subst h;exact k
theorem ltk {e:α} (k:f e=r):lt e f=r:=k
theorem ct {b r:α} (h:c=true) (k:a=r):(bif c then a else b)=r:=by subst h;exact k
theorem cf {b r:α} (h:c=false) (k:b=r):(bif c then a else b)=r:=by subst h;exact k
theorem ckT (h:c=true):ck c=some ():=by subst h;rfl
end Go.Sw
namespace Go.Proofs.TT
open Go Go.Sw
set_option maxRecDepth 100000
variable {a b:Nat}{e:Int}{i:Nat}{l:List Int}{n t:Nat}
def rr (x n:Int):Int:=ior .u32 (vC .u32 x n) (lI .u32 x (32 - n))
theorem zMl (k:IntKind) (a b:Int):ior k a b=ior k b a:=by simp [ior,BitVec.or_comm]
theorem kO (x n:Int) (h0:0<=n) (h1:n<=32):wA x n=some (rr x n):=by
 have h2:Q5.wrap (32 - n)=32 - n:=by rw [Ql];omega
 have h3:decide (0<=n)=true:=by simpa using h0
 simp only [wA,ck,lt,h2,h3,rr,cond_true,Qm]
theorem mS (x:Int) (n m:Int) (h:tR .u64 (Q5.wrap n) 31=32 - m) (h0:0<=m) (h1:m<=32):zR x n=some (rr x m):=by
 have h2:Q5.wrap (32 - (32 - m))=m:=by rw [Ql];omega
 have h3:(0:Int)<=32 - m:=by omega
 have h4:decide ((0:Int)<=32 - m)=true:=by simpa using h3
 have h5:decide ((0:Int)<=m)=true:=by simpa using h0
 simp only [zR,ck,lt,h,h2,h4,h5,rr,cond_true,Qm];rw [zMl]
def K2:List Int:=wX
theorem zXx:K2.length=64:=rfl
theorem zK8:lB=some K2:=rfl
def a8 (s:A8 Int):List Int:=[s.a0,s.a1,s.a2,s.a3,s.a4,s.a5,s.a6,s.a7]
def t1 (s:A8 Int) (k w:Int):Int:=
 Q1.wrap (Q1.wrap (Q1.wrap (Q1.wrap (s.a7+wY .u32 (wY .u32 (rr s.a4 6) (rr s.a4 11)) (rr s.a4 25))+wY .u32 (tR .u32 s.a4 s.a5) (tR .u32 (zI1 .u32 s.a4) s.a6))+k)+w)
def t2 (s:A8 Int):Int:=Q1.wrap (wY .u32 (wY .u32 (rr s.a0 2) (rr s.a0 13)) (rr s.a0 22)+wY .u32 (wY .u32 (tR .u32 s.a0 s.a1) (tR .u32 s.a0 s.a2)) (tR .u32 s.a1 s.a2))
def rnd (s:A8 Int) (k w:Int):A8 Int:=⟨Q1.wrap (t1 s k w+t2 s),s.a0,s.a1,s.a2,Q1.wrap (s.a3+t1 s k w),s.a4,s.a5,s.a6⟩
def kZ (w:List Int) (s:A8 Int):Nat->A8 Int
 | 0=>s
 | n+1=>rnd (kZ w s n) (K2.getD n 0) (w.getD n 0)
theorem uY (h:t<n):ixN n (t:Int)=some t:=by
 have:(0:Int)<=t/\(t:Int)<n:=⟨by omega,by omega⟩;simp [ixN,this]
theorem mP (h:t<l.length):l[t]? = some (l.getD t 0):=by simp [h]
theorem wS (h:t<2 ^ 40):Q0.wrap ((t:Int)+1)=((t+1:Nat):Int):=by rw [yQ (by omega) (by omega)];simp
section
variable (a b c d e f g h:Int)
theorem yBt:idx [a,b,c,d,e,f,g,h] 0=some a:=rfl
theorem zRx:idx [a,b,c,d,e,f,g,h] 1=some b:=rfl
theorem zRv:idx [a,b,c,d,e,f,g,h] 2=some c:=rfl
theorem yBn:idx [a,b,c,d,e,f,g,h] 3=some d:=rfl
theorem yEh:idx [a,b,c,d,e,f,g,h] 4=some e:=rfl
theorem zVs:idx [a,b,c,d,e,f,g,h] 5=some f:=rfl
theorem zVy:idx [a,b,c,d,e,f,g,h] 6=some g:=rfl
theorem yBp:idx [a,b,c,d,e,f,g,h] 7=some h:=rfl
end
theorem dlt (h:a<b):decide ((a:Int)<(b:Int))=true:=by simp;exact h
theorem dge (h:b<=a):decide ((a:Int)<(b:Int))=false:=by simp;omega
theorem zUo (w:List Int) (s:A8 Int) (i:Nat) (hi:i<64) (hw:w.length=64):lA K2 w (a8 s,(i:Int))=some (.inl (a8 (rnd s (K2.getD i 0) (w.getD i 0)),((i+1:Nat):Int))):=by
 have e1:decide ((i:Int)<64)=true:=dlt (b:=64) hi;have e2:∀ x,wA x 6=some (rr x 6):=λx=>kO x 6 (by decide) (by decide);have e3:∀ x,wA x 11=some (rr x 11):=λx=>kO x 11 (by decide) (by decide);have e4:∀ x,wA x 25=some (rr x 25):=λx=>kO x 25 (by decide) (by decide);have e5:∀ x,wA x 2=some (rr x 2):=λx=>kO x 2 (by decide) (by decide);have e6:∀ x,wA x 13=some (rr x 13):=λx=>kO x 13 (by decide) (by decide);have e7:∀ x,wA x 22=some (rr x 22):=λx=>kO x 22 (by decide) (by decide);have k1:K2[i]? = some (K2.getD i 0):=mP (by rw [zXx];exact hi);have k2:w[i]? = some (w.getD i 0):=mP (by omega);unfold lA a8;refine ct e1 ?_;refine bd (yBt _ _ _ _ _ _ _ _) ?_;refine bd (yEh _ _ _ _ _ _ _ _) ?_;refine bd (yBp _ _ _ _ _ _ _ _) ?_;refine bd (e2 _) ?_;refine bd (e3 _) ?_;refine bd (e4 _) ?_;refine ltk ?_;refine bd (zVs _ _ _ _ _ _ _ _) ?_;refine bd (zVy _ _ _ _ _ _ _ _) ?_;refine ltk ?_;refine bd (uY hi) ?_;refine bd k1 ?_;refine ltk ?_;refine bd (uY hi) ?_;refine bd k2 ?_;refine bd (e5 _) ?_;refine bd (e6 _) ?_;refine bd (e7 _) ?_;refine bd (zRx _ _ _ _ _ _ _ _) ?_;refine bd (zRv _ _ _ _ _ _ _ _) ?_;refine ltk ?_;refine bd (zRx _ _ _ _ _ _ _ _) ?_;refine bd (zRv _ _ _ _ _ _ _ _) ?_;refine ltk ?_;refine ltk ?_;refine bd (zRx _ _ _ _ _ _ _ _) ?_;refine bd (zRv _ _ _ _ _ _ _ _) ?_;refine bd (yBn _ _ _ _ _ _ _ _) ?_;refine ltk ?_;refine bd (zVs _ _ _ _ _ _ _ _) ?_;refine bd (zVy _ _ _ _ _ _ _ _) ?_;rw [wS (show i<2 ^ 40 by omega)];rfl
theorem zV6 (w:List Int) (hw:w.length=64) (s:A8 Int):zL (lA K2 w) FU (a8 s,0)=some (a8 (kZ w s 64)):=by
 refine yG 64 (λi=>(a8 (kZ w s i),(i:Int))) rfl (λi hi=>zUo w _ i hi hw) ?_ (xM (by decide));generalize kZ w s 64=S;rfl
theorem zU1 (w:List Int) (s:A8 Int) (i:Nat) (hi:i<64) (hw:w.length=64):tZ w ((i:Int),s.a0,s.a1,s.a2,s.a3,s.a4,s.a5,s.a6,s.a7) =
  some (.inl (((i+1:Nat):Int),(rnd s (K2.getD i 0) (w.getD i 0)).a0,(rnd s (K2.getD i 0) (w.getD i 0)).a1,(rnd s (K2.getD i 0) (w.getD i 0)).a2,(rnd s (K2.getD i 0) (w.getD i 0)).a3,(rnd s (K2.getD i 0) (w.getD i 0)).a4,(rnd s (K2.getD i 0) (w.getD i 0)).a5,(rnd s (K2.getD i 0) (w.getD i 0)).a6,(rnd s (K2.getD i 0) (w.getD i 0)).a7)):=by
 have e1:decide ((i:Int)<64)=true:=dlt (b:=64) hi;have e2:∀ x,zR x (-6)=some (rr x 6):=λx=>mS x _ 6 (by decide) (by decide) (by decide);have e3:∀ x,zR x (-11)=some (rr x 11):=λx=>mS x _ 11 (by decide) (by decide) (by decide);have e4:∀ x,zR x (-25)=some (rr x 25):=λx=>mS x _ 25 (by decide) (by decide) (by decide);have e5:∀ x,zR x (-2)=some (rr x 2):=λx=>mS x _ 2 (by decide) (by decide) (by decide);have e6:∀ x,zR x (-13)=some (rr x 13):=λx=>mS x _ 13 (by decide) (by decide) (by decide);have e7:∀ x,zR x (-22)=some (rr x 22):=λx=>mS x _ 22 (by decide) (by decide) (by decide);have k1:idx wX (i:Int)=some (K2.getD i 0):=by rw [yM (show i<wX.length from hi)];simp [K2,show i<wX.length from hi]
 have k2:w[i]? = some (w.getD i 0):=mP (by omega);unfold tZ;refine ct e1 ?_;refine bd (e2 _) ?_;refine bd (e3 _) ?_;refine bd (e4 _) ?_;refine ltk ?_;refine ltk ?_;refine bd k1 ?_;refine ltk ?_;refine bd (uY hi) ?_;refine bd k2 ?_;refine bd (e5 _) ?_;refine bd (e6 _) ?_;refine bd (e7 _) ?_;refine ltk ?_;refine ltk ?_;refine ltk ?_;refine ltk ?_;rw [wS (show i<2 ^ 40 by omega)];rfl
theorem zZl (w:List Int) (hw:w.length=64) (s:A8 Int):zL (tZ w) FU (0,s.a0,s.a1,s.a2,s.a3,s.a4,s.a5,s.a6,s.a7)=some ((kZ w s 64).a0,(kZ w s 64).a1,(kZ w s 64).a2,(kZ w s 64).a3,(kZ w s 64).a4,(kZ w s 64).a5,(kZ w s 64).a6,(kZ w s 64).a7):=by
 refine yG 64 (λi=>((i:Int),(kZ w s i).a0,(kZ w s i).a1,(kZ w s i).a2,(kZ w s i).a3,(kZ w s i).a4,(kZ w s i).a5,(kZ w s i).a6,(kZ w s i).a7)) rfl (λi hi=>zU1 w _ i hi hw) ?_ (xM (by decide));generalize kZ w s 64=S;rfl
set_option maxRecDepth 100000
theorem zP7 {l:By} {z:Int} (hz:z=(n:Int)) (h:n<l.length):idx l z=some (l.getD n 0):=by
 subst hz;simp [idx,h]
theorem cY {α:Type} {l:List α} {j:Nat} {u:α} (h:j<l.length):sN l j u=some (l.set j u):=by simp [sN,h]
def byt (b:By) (n:Nat):Int:=Q1.wrap (((b.getD n 0).toNat:Nat):Int)
def wd (b:By) (t:Nat):Int:=ior .u32 (ior .u32 (ior .u32 (lI .u32 (byt b (4*t)) 24) (lI .u32 (byt b (4*t+1)) 16)) (lI .u32 (byt b (4*t+2)) 8)) (byt b (4*t+3))
theorem zKp (b:By) (t:Nat) (h:4*t+3<b.length) (h2:t<2 ^ 20):iU b (t:Int)=some (wd b t):=by
 have e0:Q0.wrap (4*(t:Int))=((4*t:Nat):Int):=by rw [yQ (by omega) (by omega)];simp
 unfold iU;rw [e0];refine bd (zP7 rfl (by omega)) ?_;refine bd (zP7 (n:=4*t+1) (by rw [yQ (by omega) (by omega)];simp) (by omega)) ?_;refine ltk ?_;refine bd (zP7 (n:=4*t+2) (by rw [yQ (by omega) (by omega)];simp) (by omega)) ?_;refine ltk ?_;refine bd (zP7 (n:=4*t+3) (by rw [yQ (by omega) (by omega)];simp) (by omega)) ?_;rfl
theorem zMg:eH=iU:=rfl
def s0 (x:Int):Int:=wY .u32 (wY .u32 (rr x 7) (rr x 18)) (vC .u32 x 3)
def s1 (x:Int):Int:=wY .u32 (wY .u32 (rr x 17) (rr x 19)) (vC .u32 x 10)
def wv (b:By) (w:List Int) (t:Nat):Int:=
 if t<16 then wd b t else Q1.wrap (Q1.wrap (Q1.wrap (s1 (w.getD (t - 2) 0)+w.getD (t - 7) 0)+s0 (w.getD (t - 15) 0))+w.getD (t - 16) 0)
def zAg (b:By):Nat->List Int
 | 0=>Q4 64 0
 | t+1=>(zAg b t).set t (wv b (zAg b t) t)
theorem dJ (b:By):∀ t,(zAg b t).length=64
 | 0=>rfl
 | t+1=>by simp [zAg,dJ b t]
theorem yA6 (b:By) (w:List Int) (i:Nat) (hi:i<64) (hw:w.length=64) (hb:b.length=64):sA b ((i:Int),w)=some (.inl (((i+1:Nat):Int),w.set i (wv b w i))):=by
 have hiw:i<w.length:=by omega
 unfold sA;refine ct (dlt (b:=64) hi) ?_;refine bd (a:=w.set i (wv b w i)) ?_ (by rw [wS (show i<2 ^ 40 by omega)]);by_cases h:i<16
 ·refine ct (dlt (b:=16) h) ?_;rw [zMg];refine bd (zKp b i (by omega) (by omega)) ?_;refine bd (uY hi) ?_;refine bd (cY hiw) ?_;simp [wv,h]
 refine cf (dge (b:=16) (by omega)) ?_;have x15:ixN 64 (Q0.wrap ((i:Int) - 15))=some (i - 15):=by rw [yQ (by omega) (by omega),show (i:Int) - 15=((i - 15:Nat):Int) by omega];exact uY (by omega)
 have x2:ixN 64 (Q0.wrap ((i:Int) - 2))=some (i - 2):=by rw [yQ (by omega) (by omega),show (i:Int) - 2=((i - 2:Nat):Int) by omega];exact uY (by omega)
 have x7:ixN 64 (Q0.wrap ((i:Int) - 7))=some (i - 7):=by rw [yQ (by omega) (by omega),show (i:Int) - 7=((i - 7:Nat):Int) by omega];exact uY (by omega)
 have x16:ixN 64 (Q0.wrap ((i:Int) - 16))=some (i - 16):=by rw [yQ (by omega) (by omega),show (i:Int) - 16=((i - 16:Nat):Int) by omega];exact uY (by omega)
 have w15:w[i - 15]? = some (w.getD (i - 15) 0):=mP (by omega);have w2:w[i - 2]? = some (w.getD (i - 2) 0):=mP (by omega);have w7:w[i - 7]? = some (w.getD (i - 7) 0):=mP (by omega);have w16:w[i - 16]? = some (w.getD (i - 16) 0):=mP (by omega);have e7:∀ x,zR x (-7)=some (rr x 7):=λx=>mS x _ 7 (by decide) (by decide) (by decide);have e18:∀ x,zR x (-18)=some (rr x 18):=λx=>mS x _ 18 (by decide) (by decide) (by decide);have e17:∀ x,zR x (-17)=some (rr x 17):=λx=>mS x _ 17 (by decide) (by decide) (by decide);have e19:∀ x,zR x (-19)=some (rr x 19):=λx=>mS x _ 19 (by decide) (by decide) (by decide);refine bd (x15) ?_;refine bd (w15) ?_;refine bd (x2) ?_;refine bd (w2) ?_;refine bd (e7 _) ?_;refine bd (e18 _) ?_;refine bd (e17 _) ?_;refine bd (e19 _) ?_;refine bd (x7) ?_;refine bd (w7) ?_;refine ltk ?_;refine ltk ?_;refine bd (x16) ?_;refine bd (w16) ?_;refine bd (uY hi) ?_;refine bd (cY hiw) ?_;simp only [wv,h,if_false];rfl
theorem zV7 (b:By) (hb:b.length=64):zL (sA b) FU (0,Q4 64 0)=some (zAg b 64):=by
 refine yG 64 (λi=>((i:Int),zAg b i)) rfl (λi hi=>yA6 b _ i hi (dJ b i) hb) ?_ (xM (by decide));generalize zAg b 64=S;rfl
def rM (x:By) (n:Nat):By:=(x.drop n).take 64
theorem yAz (x:By) (at':Nat) (w:List Int) (i:Nat) (hi:i<64) (hw:w.length=64) (hx:at'+64<=x.length) (hl:x.length<2 ^ 48):mD x (at':Int) ((i:Int),w)=some (.inl (((i+1:Nat):Int),w.set i (wv (rM x at') w i))):=by
 have hiw:i<w.length:=by omega
 have hbl:(rM x at').length=64:=by simp [rM];omega
 unfold mD;refine ct (dlt (b:=64) hi) ?_;refine bd (a:=w.set i (wv (rM x at') w i)) ?_ (by rw [wS (show i<2 ^ 40 by omega)]);by_cases h:i<16
 ·refine ct (dlt (b:=16) h) ?_;have hs:sub x (at':Int) (Q0.wrap ((at':Int)+64))=some (rM x at'):=by
   rw [yQ (by omega) (by omega),show (at':Int)+64=((at'+64:Nat):Int) by simp,sD (by omega) hx];simp [rM]
  refine bd hs ?_;refine bd (zKp _ i (by omega) (by omega)) ?_;refine bd (uY hi) ?_;refine bd (cY hiw) ?_;simp [wv,h]
 refine cf (dge (b:=16) (by omega)) ?_;have x15:ixN 64 (Q0.wrap ((i:Int) - 15))=some (i - 15):=by rw [yQ (by omega) (by omega),show (i:Int) - 15=((i - 15:Nat):Int) by omega];exact uY (by omega)
 have x2:ixN 64 (Q0.wrap ((i:Int) - 2))=some (i - 2):=by rw [yQ (by omega) (by omega),show (i:Int) - 2=((i - 2:Nat):Int) by omega];exact uY (by omega)
 have x7:ixN 64 (Q0.wrap ((i:Int) - 7))=some (i - 7):=by rw [yQ (by omega) (by omega),show (i:Int) - 7=((i - 7:Nat):Int) by omega];exact uY (by omega)
 have x16:ixN 64 (Q0.wrap ((i:Int) - 16))=some (i - 16):=by rw [yQ (by omega) (by omega),show (i:Int) - 16=((i - 16:Nat):Int) by omega];exact uY (by omega)
 have w15:w[i - 15]? = some (w.getD (i - 15) 0):=mP (by omega);have w2:w[i - 2]? = some (w.getD (i - 2) 0):=mP (by omega);have w7:w[i - 7]? = some (w.getD (i - 7) 0):=mP (by omega);have w16:w[i - 16]? = some (w.getD (i - 16) 0):=mP (by omega);have e7:∀ x,wA x 7=some (rr x 7):=λx=>kO x 7 (by decide) (by decide);have e18:∀ x,wA x 18=some (rr x 18):=λx=>kO x 18 (by decide) (by decide);have e17:∀ x,wA x 17=some (rr x 17):=λx=>kO x 17 (by decide) (by decide);have e19:∀ x,wA x 19=some (rr x 19):=λx=>kO x 19 (by decide) (by decide);refine bd (x15) ?_;refine bd (w15) ?_;refine bd (e7 _) ?_;refine bd (x15) ?_;refine bd (w15) ?_;refine bd (e18 _) ?_;refine bd (x15) ?_;refine bd (w15) ?_;refine bd (x2) ?_;refine bd (w2) ?_;refine bd (e17 _) ?_;refine bd (x2) ?_;refine bd (w2) ?_;refine bd (e19 _) ?_;refine bd (x2) ?_;refine bd (w2) ?_;refine bd (x7) ?_;refine bd (w7) ?_;refine ltk ?_;refine ltk ?_;refine bd (x16) ?_;refine bd (w16) ?_;refine bd (uY hi) ?_;refine bd (cY hiw) ?_;simp only [wv,h,if_false];rfl
theorem zWn (x:By) (at':Nat) (hx:at'+64<=x.length) (hl:x.length<2 ^ 48):zL (mD x (at':Int)) FU (0,Q4 64 0)=some (zAg (rM x at') 64):=by
 refine yG 64 (λi=>((i:Int),zAg (rM x at') i)) rfl (λi hi=>yAz x at' _ i hi (dJ _ i) hx hl) ?_ (xM (by decide));generalize zAg (rM x at') 64=S;rfl
set_option maxRecDepth 100000
def zT7 (h s:A8 Int):A8 Int:=⟨Q1.wrap (h.a0+s.a0),Q1.wrap (h.a1+s.a1),Q1.wrap (h.a2+s.a2),Q1.wrap (h.a3+s.a3),Q1.wrap (h.a4+s.a4),Q1.wrap (h.a5+s.a5),Q1.wrap (h.a6+s.a6),Q1.wrap (h.a7+s.a7)⟩
def zG4 (h s:List Int):Nat->List Int
 | 0=>h
 | i+1=>(zG4 h s i).set i (Q1.wrap ((zG4 h s i).getD i 0+s.getD i 0))
theorem zHy (h s:List Int):∀ i,(zG4 h s i).length=h.length
 | 0=>rfl
 | i+1=>by simp [zG4,zHy h s i]
theorem zTx (h s:A8 Int):zG4 (a8 h) (a8 s) 8=a8 (zT7 h s):=rfl
def zL9 (h:A8 Int) (b:By):A8 Int:=zT7 h (kZ (zAg b 64) h 64)
theorem zWy (h s:A8 Int):zL (gK (a8 s)) FU (0,a8 h)=some (a8 (zT7 h s)):=by
 rw [<- zTx];refine yG 8 (λi=>((i:Int),zG4 (a8 h) (a8 s) i)) rfl (λi hi=>?_) ?_ (xM (by decide))
 ·have hl:(zG4 (a8 h) (a8 s) i).length=8:=zHy _ _ _;unfold gK;refine ct (dlt (b:=8) hi) ?_;refine bd (uY hi) ?_;refine bd (mP (by omega)) ?_;refine bd (a:=(a8 s).getD i 0) (by rw [yM (show i<(a8 s).length from hi)];simp [show i<(a8 s).length from hi]) ?_;refine bd (uY hi) ?_;refine bd (cY (by omega)) ?_;rw [wS (show i<2 ^ 40 by omega)];rfl
 ·generalize zG4 (a8 h) (a8 s) 8=S;rfl
theorem zYq (h s:A8 Int):zL (vZ s.a0 s.a1 s.a2 s.a3 s.a4 s.a5 s.a6 s.a7) FU (0,[h.a0,h.a1,h.a2,h.a3,h.a4,h.a5,h.a6,h.a7])=some (zT7 h s):=by
 refine yG 8 (λi=>((i:Int),zG4 (a8 h) (a8 s) i)) rfl (λi hi=>?_) ?_ (xM (by decide))
 ·have hl:(zG4 (a8 h) (a8 s) i).length=8:=zHy _ _ _;unfold vZ;refine ct (dlt (b:=8) hi) ?_;refine bd (uY hi) ?_;refine bd (mP (by omega)) ?_;refine bd (uY hi) ?_;refine bd (a:=(a8 s).getD i 0) (mP (l:=a8 s) hi) ?_;refine bd (uY hi) ?_;refine bd (cY (by omega)) ?_;rw [wS (show i<2 ^ 40 by omega)];rfl
 ·show vZ s.a0 s.a1 s.a2 s.a3 s.a4 s.a5 s.a6 s.a7 (((8:Nat):Int),zG4 (a8 h) (a8 s) 8)=_;rw [zTx];unfold vZ;refine cf rfl ?_;refine bd (a:=zT7 h s) rfl rfl
theorem zM3 (h:A8 Int) (b:By) (hb:b.length=64):rX h b=some (zL9 h b):=by
 unfold rX;refine bd (zV7 b hb) ?_;refine bd (zZl _ (dJ b 64) h) ?_;refine bd (zYq h _) ?_;rfl
def zSw:A8 Int:=⟨1779033703,3144134277,1013904242,2773480762,1359893119,2600822924,528734635,1541459225⟩
def hsh (x:By):Nat->A8 Int
 | 0=>zSw
 | i+1=>zL9 (hsh x i) (rM x (64*i))
def st8 (p:By) (h:A8 Int):By×Int×Int×Int×Int×Int×Int×Int×Int:=(p,h.a0,h.a1,h.a2,h.a3,h.a4,h.a5,h.a6,h.a7)
theorem zNj (x:By) (n:Nat) (hx:x.length=64*n) (hl:x.length<2 ^ 48):zL kX FU (st8 x zSw)=some ((hsh x n).a0,(hsh x n).a1,(hsh x n).a2,(hsh x n).a3,(hsh x n).a4,(hsh x n).a5,(hsh x n).a6,(hsh x n).a7):=by
 refine yG n (λi=>st8 (x.drop (64*i)) (hsh x i)) (by simp [hsh]) (λi hi=>?_) ?_ (xM (by omega))
 ·have hd:(x.drop (64*i)).length=x.length - 64*i:=by simp
  unfold kX st8;refine ct (by simp;omega) ?_;refine bd (a:=rM x (64*i)) (by rw [show (0:Int)=((0:Nat):Int) from rfl,show (64:Int)=((64:Nat):Int) from rfl,sD (by omega) (by omega)];simp [rM]) ?_;refine bd (zM3 _ _ (by simp [rM];omega)) ?_;refine bd (a:=x.drop (64*(i+1))) (by rw [show (64:Int)=((64:Nat):Int) from rfl,sD (by omega) (by omega)];rw [Qu,Q3 (by simp;omega)];congr 2) ?_;rfl
 ·have hd:x.drop (64*n)=[]:=Qk (by omega);show kX (st8 (x.drop (64*n)) (hsh x n))=_;rw [hd];generalize hsh x n=S;rfl
theorem zOd (x:By) (n:Nat) (hx:x.length=64*n) (hl:x.length<2 ^ 47):zL (pJ K2 x) FU (0,a8 zSw)=some (a8 (hsh x n)):=by
 refine yG n (λi=>(((64*i:Nat):Int),a8 (hsh x i))) rfl (λi hi=>?_) ?_ (xM (by omega))
 ·unfold pJ;refine ct (dlt (by omega)) ?_;refine bd (zWn x (64*i) (by omega) (by omega)) ?_;refine bd (ckT rfl) ?_;refine bd (a:=a8 (hsh x i)) (by rw [yI (by simp [a8])];rfl) ?_;refine bd (zV6 _ (dJ _ 64) _) ?_;refine bd (zWy _ _) ?_;rw [yQ (by omega) (by omega),show ((64*i:Nat):Int)+64=((64*(i+1):Nat):Int) by omega];rfl
 ·show pJ K2 x (((64*n:Nat):Int),a8 (hsh x n))=_;unfold pJ;exact cf (dge (by omega)) rfl
def zs (n:Nat):Nat:=(119 - n % 64) % 64
def be8 (n:Int) (k:Nat):By:=(W0 k).map λ(j:Nat)=>u8 (vC .u64 n (56 - 8*(j:Int)))
theorem zJ8 (n:Int) (k:Nat):(be8 n k).length=k:=by simp [be8]
theorem zMw (n:Int) (k:Nat):be8 n (k+1)=be8 n k++[u8 (vC .u64 n (56 - 8*(k:Int)))]:=by simp [be8,W1]
def yC3 (b:By):Int:=Q5.wrap (Q5.wrap (b.length:Int)*8)
def aY (b:By):By:=(b++[128]++Q4 (zs b.length) 0)++be8 (yC3 b) 8
theorem zAk (b:By):(aY b).length=b.length+9+zs b.length:=by simp [aY,zJ8];omega
theorem zDn (b:By):(aY b).length % 64=0:=by rw [zAk];unfold zs;omega
theorem zJn (b:By) (hb:b.length<2 ^ 40):zL jI FU (b++[128])=some (b++[128]++Q4 (zs b.length) 0):=by
 have hz:zs b.length<64:=by unfold zs;omega
 refine yG (zs b.length) (λi=>b++[128]++Q4 i 0) (by simp) (λi hi=>?_) ?_ (xM (by omega))
 ·have hl:(b++[128]++Q4 i 0).length=b.length+1+i:=by simp;omega
  unfold jI;refine ct ?_ ?_
  ·rw [hl];simp only [bne_iff_ne,ne_eq];rw [Qe (by omega)];unfold zs at hi;omega
  ·refine bd (yI (by rw [hl];simp;omega)) ?_;rw [Q6,<- List.replicate_succ']
 ·have hl:(b++[128]++Q4 (zs b.length) 0).length=b.length+1+zs b.length:=by simp;omega
  unfold jI;refine cf ?_ rfl;rw [hl];simp only [bne_eq_false_iff_eq];rw [Qe (by omega)];unfold zs;omega
theorem zUd:zCb=jI:=rfl
theorem zRg (x:By) (n:Int) (hx:x.length<2 ^ 41):zL (zAj n) FU (x,7)=some (x++be8 n 8):=by
 refine yG 8 (λi=>(x++be8 n i,7 - (i:Int))) (by simp [be8]) (λi hi=>?_) ?_ (xM (by decide))
 ·unfold zAj;refine ct (by simp;omega) ?_;refine ltk ?_;have e:Q5.wrap (8*Q5.wrap (7 - (i:Int)))=56 - 8*(i:Int):=by
   rw [aU (n:=7 - (i:Int)) (by omega) (by omega),aU (by omega) (by omega)];omega
  rw [e];refine bd (yI (by simp [zJ8];omega)) ?_;rw [yQ (by omega) (by omega),Q6,<- zMw,show (7:Int) - (i:Int) - 1=7 - ((i+1:Nat):Int) by omega]
 ·generalize be8 n 8=S;rfl
theorem zRa (x:By) (n:Int) (hx:x.length<2 ^ 41):zL (dD n) FU (x,56)=some (x++be8 n 8):=by
 refine yG 8 (λi=>(x++be8 n i,56 - 8*(i:Int))) (by simp [be8]) (λi hi=>?_) ?_ (xM (by decide))
 ·unfold dD;refine ct (by simp;omega) ?_;rw [aU (n:=56 - 8*(i:Int)) (by omega) (by omega)];refine bd (yI (by simp [zJ8];omega)) ?_;rw [yQ (by omega) (by omega),Q6,<- zMw,show (56:Int) - 8*(i:Int) - 8=56 - 8*((i+1:Nat):Int) by omega]
 ·generalize be8 n 8=S;rfl
theorem zHa (b:By) (hb:b.length<2 ^ 40):zAb b=some (aY b):=by
 have hz:zs b.length<64:=by unfold zs;omega
 unfold zAb;refine bd (a:=b) (by rw [yI (by simp;omega)];simp) ?_;refine bd (yI (by simp;omega)) ?_;refine bd (zJn b hb) ?_;refine ltk ?_;refine bd (zRg _ _ (by simp;omega)) ?_;rfl
theorem zHi (b:By) (hb:b.length<2 ^ 40):fF b=some (aY b):=by
 have hz:zs b.length<64:=by unfold zs;omega
 unfold fF;refine bd (a:=b.length+72) (by unfold mkN;rw [yQ (by omega) (by omega),if_pos (by omega)];congr 1) ?_;refine bd (a:=b) (by rw [yI (by simp;omega)];simp) ?_;refine bd (yI (by simp;omega)) ?_;rw [zUd];refine bd (zJn b hb) ?_;refine ltk ?_;refine bd (zRa _ _ (by simp;omega)) ?_;rfl
def be4 (w:Int):By:=[u8 (vC .u32 w 24),u8 (vC .u32 w 16),u8 (vC .u32 w 8),u8 w]
theorem zK1 (l:List Int):(l.flatMap be4).length=4*l.length:=by
 induction l with
 | nil=>rfl
 | cons a r ih=>simp [ih,be4];omega
theorem zPm (l:List Int) (i:Nat) (hi:i<l.length):(l.take (i+1)).flatMap be4=(l.take i).flatMap be4++be4 (l.getD i 0):=by
 rw [Q7,Qi];congr 1;simp [hi]
theorem zS8 (h:i<l.length):idx l (i:Int)=some (l.getD i 0):=by rw [yM h];simp [h]
theorem zLe (l:List Int) (hl:l.length<2 ^ 20):fB l=some (l.flatMap be4):=by
 have:zL (kV l) FU ([],0)=some (l.flatMap be4):=by
  refine yG l.length (λi=>((l.take i).flatMap be4,(i:Int))) (by simp) (λi hi=>?_) ?_ (xM (by omega))
  ·unfold kV;refine ct (dlt hi) ?_;refine bd (zS8 hi) ?_;refine bd (zS8 hi) ?_;refine bd (zS8 hi) ?_;refine bd (zS8 hi) ?_;refine bd (yI (by rw [zK1];simp;omega)) ?_;rw [zPm l i hi,wS (show i<2 ^ 40 by omega)];rfl
  ·unfold kV;refine cf (dge (Qd _)) ?_;simp
 unfold fB;exact bd this rfl
theorem zJg (l:List Int) (hl:l.length<2 ^ 20):oV l=some (l.flatMap be4):=by
 have:zL (oN l) FU ([],0)=some (l.flatMap be4):=by
  refine yG l.length (λi=>((l.take i).flatMap be4,(i:Int))) (by simp) (λi hi=>?_) ?_ (xM (by omega))
  ·unfold oN;refine ct (dlt hi) ?_;refine bd (zS8 hi) ?_;refine bd (yI (by rw [zK1];simp;omega)) ?_;rw [zPm l i hi,wS (show i<2 ^ 40 by omega)];rfl
  ·unfold oN;refine cf (dge (Qd _)) ?_;simp
 unfold oV;refine bd (a:=4*l.length) (by unfold mkN;rw [yQ (by omega) (by omega),if_pos (by omega)];congr 1) ?_;exact bd this rfl
def sha (b:By):By:=(a8 (hsh (aY b) ((aY b).length / 64))).flatMap be4
theorem zGk (b:By):(sha b).length=32:=by unfold sha;rw [zK1];rfl
theorem zUk (b:By) (hb:b.length<2 ^ 40):eA b=some (sha b):=by
 have hz:zs b.length<64:=by unfold zs;omega
 have h1:=zAk b;have h2:=zDn b;unfold eA;refine bd zK8 ?_;refine bd (ckT rfl) ?_;refine bd (zHa b hb) ?_;refine bd (zOd (aY b) ((aY b).length / 64) (by omega) (by omega)) ?_;refine bd (ckT rfl) ?_;refine bd (zLe _ (by simp [a8])) ?_;rfl
theorem zJ7 (b:By) (hb:b.length<2 ^ 40):xT 1 b=some (sha b):=by
 have hz:zs b.length<64:=by unfold zs;omega
 have h1:=zAk b;have h2:=zDn b;unfold xT;refine cf rfl ?_;refine ct rfl ?_;refine bd (zHi b hb) ?_;refine bd (zNj (aY b) ((aY b).length / 64) (by omega) (by omega)) ?_;refine bd (zJg _ (by simp)) ?_;rfl
set_option maxRecDepth 100000
def hd4 (n:Nat):By:=[u8 (vC .i64 (n:Int) 24),u8 (vC .i64 (n:Int) 16),u8 (vC .i64 (n:Int) 8),u8 (n:Int)]
theorem yCh (n:Nat) (h:n<2 ^ 32):[u8 (vC .u32 (Q1.wrap (n:Int)) 24),u8 (vC .u32 (Q1.wrap (n:Int)) 16),u8 (vC .u32 (Q1.wrap (n:Int)) 8),u8 (Q1.wrap (n:Int))]=hd4 n:=by
 rw [yCw (by omega) (by omega)];rfl
def zR5 (fs:List By):By:=fs.flatMap λf=>hd4 f.length++f
def frm (tag:Int) (fs:List By):By:=u8 tag :: zR5 fs
def tot (fs:List By):Nat:=(fs.map λf=>4+f.length).sum
theorem zSh (fs:List By):(zR5 fs).length=tot fs:=by
 induction fs with
 | nil=>rfl
 | cons f r ih=>simp only [zR5,tot,Qa,Q2,Qq,Qr] at ih ⊢;rw [ih];simp [hd4]
theorem zPo (tag:Int) (fs:List By):(frm tag fs).length=1+tot fs:=by simp [frm,zSh];omega
theorem zT1 (tag:Int) (fs:List By) (i:Nat) (hi:i<fs.length):frm tag (fs.take (i+1))=(frm tag (fs.take i)++hd4 (fs[i]).length)++fs[i]:=by
 unfold frm zR5;rw [Q7,Qi];simp [hi]
theorem zRo (fs:List By):∀ i,tot (fs.take i)<=tot fs:=by
 induction fs with
 | nil=>intro i;simp
 | cons f r ih=>
  intro i;cases i with
  | zero=>simp [tot]
  | succ j=>have:=ih j;simp only [tot,List.take_succ_cons,Qq,Qr] at this ⊢;omega
theorem zUb (fs:List By):fs.length<=tot fs:=by
 induction fs with
 | nil=>simp
 | cons f r ih=>simp only [tot,Qc,Qq,Qr] at ih ⊢;omega
theorem zUg (fs:List By) (i:Nat) (hi:i<fs.length):tot (fs.take i)+4+(fs[i]).length<=tot fs:=by
 have h:=zRo fs (i+1);have e:tot (fs.take (i+1))=tot (fs.take i)+(4+(fs[i]).length):=by
  unfold tot;rw [Q7,List.map_append,List.sum_append];simp only [hi,List.getElem?_eq_getElem,Option.toList_some,Qq,List.map_nil,Qr,List.sum_nil];omega
 omega
theorem zQw (tag:Int) (fs:List By) (h:tot fs<2 ^ 32):iT tag fs=some (frm tag fs):=by
 have h1:=zUb fs;have:zL (nH fs) FU ([u8 tag],0)=some (frm tag fs):=by
  refine yG fs.length (λi=>(frm tag (fs.take i),(i:Int))) (by simp [frm,zR5]) (λi hi=>?_) ?_ (xM (by omega))
  ·have h2:=zUg fs i hi;have h3:=zPo tag (fs.take i);unfold nH;refine ct (dlt hi) ?_;refine bd (yM hi) ?_;rw [yCh _ (by omega)];refine bd (yI (by simp [hd4];omega)) ?_;refine bd (yI (by simp [hd4];omega)) ?_;rw [zT1 tag fs i hi,wS (show i<2 ^ 40 by omega)]
  ·unfold nH;refine cf (dge (Qd _)) ?_;simp
 unfold iT;exact bd this rfl
def hs (tag:Int) (fs:List By):By:=sha (frm tag fs)
theorem zCl (tag:Int) (fs:List By):(hs tag fs).length=32:=zGk _
theorem zH3 (tag:Int) (fs:List By) (h:tot fs<2 ^ 32):nZ tag fs=some (hs tag fs):=by
 unfold nZ;refine bd (zQw tag fs h) ?_;exact bd (zJ7 _ (by rw [zPo];omega)) rfl
def beN (n:Int) (size k:Nat):By:=(W0 k).map λ(j:Nat)=>u8 (vC .u64 (Q5.wrap n) (8*((size:Int) - 1 - (j:Int))))
theorem yO (n:Int) (size k:Nat):(beN n size k).length=k:=by simp [beN]
theorem zMi (n:Int) (size k:Nat):beN n size (k+1)=beN n size k++[u8 (vC .u64 (Q5.wrap n) (8*((size:Int) - 1 - (k:Int))))]:=by simp [beN,W1]
def rB (b:By) (size:Nat) (n:Int):By:=b++beN n size size
theorem uE (b:By) (size:Nat) (n:Int):(rB b size n).length=b.length+size:=by simp [rB,yO]
theorem zH7 (b:By) (size:Nat) (n:Int) (h1:1<=size) (h8:size<=8) (hb:b.length<2 ^ 40):iV b (size:Int) n=some (rB b size n):=by
 have:zL (iH n) FU (b,(size:Int) - 1)=some (rB b size n):=by
  refine yG size (λi=>(b++beN n size i,(size:Int) - 1 - (i:Int))) (by simp [beN]) (λi hi=>?_) ?_ (xM (by omega))
  ·unfold iH;refine ct (by simp;omega) ?_;refine ltk ?_;rw [aU (n:=(size:Int) - 1 - (i:Int)) (by omega) (by omega),aU (n:=8*((size:Int) - 1 - (i:Int))) (by omega) (by omega)];refine bd (yI (by simp [yO];omega)) ?_;rw [yQ (by omega) (by omega),Q6,<- zMi,show (size:Int) - 1 - (i:Int) - 1=(size:Int) - 1 - ((i+1:Nat):Int) by omega]
  ·unfold iH;refine cf (by simp;omega) rfl
 unfold iV;refine bd (a:=b) (by rw [yI (by simp;omega)];simp) ?_;refine bd (a:=false) (cf (by simp;omega) (congrArg some (by simp;omega))) ?_;rw [yQ (by omega) (by omega)];exact bd this rfl
theorem oG (b:By) (size:Nat) (n:Int) (h1:1<=size) (h8:size<=8) (hb:b.length<2 ^ 40):wE b (size:Int) n=some (rB b size n):=by
 have:zL (iN n) FU (b,(size:Int) - 1)=some (rB b size n):=by
  refine yG size (λi=>(b++beN n size i,(size:Int) - 1 - (i:Int))) (by simp [beN]) (λi hi=>?_) ?_ (xM (by omega))
  ·unfold iN;refine ct (by simp;omega) ?_;refine ltk ?_;rw [yQ (n:=8*((size:Int) - 1 - (i:Int))) (by omega) (by omega),aU (n:=8*((size:Int) - 1 - (i:Int))) (by omega) (by omega)];refine bd (yI (by simp [yO];omega)) ?_;rw [yQ (by omega) (by omega),Q6,<- zMi,show (size:Int) - 1 - (i:Int) - 1=(size:Int) - 1 - ((i+1:Nat):Int) by omega]
  ·unfold iN;refine cf (by simp;omega) rfl
 unfold wE;refine bd (a:=b) (by rw [yI (by simp;omega)];simp) ?_;refine bd (a:=false) (cf (by simp;omega) (congrArg some (by simp;omega))) ?_;rw [yQ (by omega) (by omega)];exact bd this rfl
def zCf (b x:By):By:=rB b 2 ((x.take 65535).length:Int)++x.take 65535
theorem zA8 (b x:By):(zCf b x).length<=b.length+65537:=by simp [zCf,uE];omega
theorem zMt (b x:By) (hb:b.length<2 ^ 39):dM b x=some (zCf b x):=by
 unfold dM;refine bd (a:=x.take 65535) ?_ ?_
 ·by_cases h:65535<x.length
  ·refine ct (by simp;omega) ?_;exact bd (a:=x.take 65535) (by rw [show (0:Int)=((0:Nat):Int) from rfl,show (65535:Int)=((65535:Nat):Int) from rfl,sD (by omega) (by omega)];simp) rfl
  ·refine cf (by simp;omega) ?_;rw [Q3 (by omega)]
 ·refine bd (zH7 b 2 _ (by omega) (by omega) (by omega)) ?_;refine bd (yI (by rw [uE];simp;omega)) ?_;rfl
theorem bE (b x:By) (hb:b.length<2 ^ 39):wQ b x=some (zCf b x):=by
 unfold wQ;refine bd (a:=x.take 65535) ?_ ?_
 ·by_cases h:65535<x.length
  ·rw [if_pos (by omega),show (0:Int)=((0:Nat):Int) from rfl,show (65535:Int)=((65535:Nat):Int) from rfl,sD (by omega) (by omega)];simp
  ·rw [if_neg (by omega),show (0:Int)=((0:Nat):Int) from rfl,sD (by omega) (by omega)];simp;rw [Q3 (by omega)]
 ·refine bd (oG b 2 _ (by omega) (by omega) (by omega)) ?_;refine bd (yI (by rw [uE];simp;omega)) ?_;rfl
theorem zDp (a b:By) (ha:a.length<2 ^ 40):nV a b=some (a==b):=by
 unfold nV;by_cases h:a.length=b.length
 ·refine cf (by simp;omega) ?_;have:∃ r,zL (mT a b) FU 0=some r/\(match r with | .inl r=>r=false/\a≠b | .inr _=>a=b):=by
   refine zJt (λs=>∃ k:Nat,s=(k:Int)/\k<=a.length/\a.take k=b.take k) (λs=>a.length - s.toNat) _ (λs hs=>?_) FU 0 ⟨0,rfl,by omega,by simp⟩ (xM (by omega));obtain ⟨k,rfl,hk,he⟩:=hs;by_cases hk2:k<a.length
   ·by_cases hv:a[k]=b[k]
    ·refine .inl ⟨((k+1:Nat):Int),?_,⟨k+1,rfl,by omega,?_⟩,by simp;omega⟩
     ·unfold mT;refine ct (dlt hk2) ?_;refine bd (yM hk2) ?_;refine bd (yM (h▸hk2)) ?_;refine cf (by rw [hv];simp) ?_;rw [wS (by omega)]
     ·rw [Q7,Q7,he];simp [hk2,hv,h▸hk2]
    ·refine .inr ⟨.inl false,?_,rfl,λe=>hv (by subst e;rfl)⟩;unfold mT;refine ct (dlt hk2) ?_;refine bd (yM hk2) ?_;refine bd (yM (h▸hk2)) ?_;refine ct ?_ rfl;simp only [bne_iff_ne,ne_eq];intro e;exact hv (UInt8.toNat_inj.mp (by omega))
   ·refine .inr ⟨.inr (),?_,?_⟩
    ·unfold mT;exact cf (dge (by omega)) rfl
    ·have e1:a.take k=a:=Q3 (by omega);have e2:b.take k=b:=Q3 (by omega);rw [e1,e2] at he;exact he
  obtain ⟨r,h1,h2⟩:=this;refine bd h1 ?_;cases r with
  | inl r=>obtain ⟨rfl,h3⟩:=h2;simp [h3]
  | inr u=>simp [h2]
 ·refine ct (by simp;omega) ?_;have:a≠b:=λe=>h (by rw [e]);simp [this]
theorem zMo (a b:By):eI a b=some (a==b):=rfl
theorem zGq (b:By) (h:b.length<2 ^ 40):rD b=some b:=by
 unfold rD;refine bd (yI (by simp;omega)) ?_;simp
set_option maxRecDepth 100000
structure RS where
 b:By
 at':Nat
 e:Int
def RS.W (r:RS):zF:=⟨r.b,(r.at':Int),r.e⟩
def RS.Ok (r:RS):Prop:=r.at'<=r.b.length/\r.b.length<2 ^ 40
def RS.err (r:RS) (e:Int):RS:=⟨r.b,r.at',e⟩
def RS.to (r:RS) (n:Nat):RS:=⟨r.b,r.at'+n,r.e⟩
def RS.left (r:RS):Nat:=r.b.length - r.at'
def RS.get (r:RS) (n:Nat):By:=(r.b.drop r.at').take n
theorem RS.get_len (r:RS) (n:Nat) (h:n<=r.left):(r.get n).length=n:=by simp [RS.get,RS.left] at *;omega
def tL (r:RS) (n:Nat):By×RS:=if r.e≠0 then ([],r) else if r.left<n then ([],r.err 2) else (r.get n,r.to n)
def beV (l:By):Nat->Int
 | 0=>0
 | k+1=>ior .u64 (lI .u64 (beV l k) 8) (Q5.wrap ((l.getD k 0).toNat:Int))
def xU (r:RS) (n:Nat):Int×RS:=
 if r.e≠0 then (0,r) else if r.left<n then (0,r.err 2) else if 9223372036854775808<=beV (r.get n) n then (0,r.err 4) else (Q0.wrap (beV (r.get n) n),r.to n)
def v2 (r:RS):Nat:=(r.b.getD r.at' 0).toNat*256+(r.b.getD (r.at'+1) 0).toNat
def uT (r:RS) (most:Nat):By×RS:=
 if r.e≠0 then ([],r) else if r.left<2 then ([],r.err 2) else if most<v2 r then ([],r.err 4) else if r.left<2+v2 r then ([],r.err 2) else ((r.b.drop (r.at'+2)).take (v2 r),r.to (2+v2 r))
def zJp (r:RS):Int:=if r.e=0/\0<r.left then 3 else r.e
theorem zH9 (r:RS) (n:Nat) (h:r.Ok):(tL r n).2.Ok:=by
 unfold tL;split
 ·exact h
 split
 ·exact h
 ·obtain ⟨h1,h2⟩:=h;exact ⟨by simp only [RS.to,RS.left] at *;omega,h2⟩
theorem nW (r:RS) (n:Nat) (h:r.Ok):(xU r n).2.Ok:=by
 unfold xU;split
 ·exact h
 split
 ·exact h
 split
 ·exact h
 ·obtain ⟨h1,h2⟩:=h;exact ⟨by simp only [RS.to,RS.left] at *;omega,h2⟩
theorem zBl (r:RS) (n:Nat) (h:r.Ok):(uT r n).2.Ok:=by
 unfold uT;split
 ·exact h
 split
 ·exact h
 split
 ·exact h
 split
 ·exact h
 ·obtain ⟨h1,h2⟩:=h;exact ⟨by simp only [RS.to,RS.left] at *;omega,h2⟩
theorem zDz (r:RS) (h:r.Ok):Q0.wrap ((r.b.length:Int) - (r.at':Int))=(r.left:Int):=by
 obtain ⟨h1,h2⟩:=h;rw [yQ (by omega) (by omega)];simp only [RS.left];omega
theorem zLo (r:zF) (a n:Nat) (h1:a<=r.b_.length) (h2:r.b_.length<2 ^ 40) (hn:r.b_.length - a<n):xF r (a:Int) (n:Int)=some ([],2,r):=by
 unfold xF;refine ct ?_ rfl;rw [yQ (by omega) (by omega)];simp;omega
theorem zJv (r:zF) (a n:Nat) (h2:r.b_.length<2 ^ 40) (hn:a+n<=r.b_.length):xF r (a:Int) (n:Int)=some ((r.b_.drop a).take n,0,r):=by
 unfold xF;refine cf ?_ ?_
 ·rw [yQ (by omega) (by omega)];simp;omega
 ·refine bd (a:=(r.b_.drop a).take n) ?_ rfl;rw [yQ (by omega) (by omega),show (a:Int)+(n:Int)=((a+n:Nat):Int) by omega,sD (by omega) (by omega),Nat.add_sub_cancel_left]
theorem zKh (r:RS) (n:Nat) (h:r.Ok) (hn:r.left<n):xF r.W (r.at':Int) (n:Int)=some ([],2,r.W):=zLo r.W r.at' n h.1 h.2 hn
theorem zIe (r:RS) (n:Nat) (h:r.Ok) (hn:n<=r.left):xF r.W (r.at':Int) (n:Int)=some (r.get n,0,r.W):=
 zJv r.W r.at' n h.2 (by have:=h.1;simp only [RS.left] at hn;show r.at'+n<=r.b.length;omega)
theorem b0 (h:e=0):(e != 0)=false:=by subst h;rfl
theorem b1 (h:e≠0):(e != 0)=true:=by simp [h]
theorem c0 (h:e=0):(e==0)=true:=by subst h;rfl
theorem c1 (h:e≠0):(e==0)=false:=by simp [h]
theorem nneg (n:Nat):decide ((n:Int)<0)=false:=by simp
theorem pI (r:RS) (n:Nat) (h:r.Ok):vY r.W (n:Int)=some ((tL r n).1,(tL r n).2.W):=by
 unfold vY;by_cases he:r.e=0
 ·refine cf (b0 he) ?_;refine cf (nneg n) ?_;by_cases hn:r.left<n
  ·refine bd (zKh r n h hn) ?_;refine ct rfl ?_;rw [show tL r n=([],r.err 2) by simp [tL,he,hn]];rfl
  ·refine bd (zIe r n h (by omega)) ?_;refine cf rfl ?_;have hl:=RS.get_len r n (by omega);obtain ⟨h1,h2⟩:=h;refine bd (a:=r.get n) (by rw [yI (by simp;simp only [RS.left] at hn;omega)];simp) ?_;show some (r.get n,(⟨r.b,Q0.wrap ((r.at':Int)+(n:Int)),r.e⟩:zF))=_;have hn':=hn;simp only [RS.left] at hn';rw [yQ (by omega) (by omega),show (r.at':Int)+(n:Int)=((r.at'+n:Nat):Int) by omega];rw [show tL r n=(r.get n,r.to n) by simp [tL,he,hn]];rfl
 ·refine ct (b1 he) ?_;rw [show tL r n=([],r) by simp [tL,he]]
theorem yCj (l:By) (hl:l.length<2 ^ 40):zL (rA l) FU (0,0)=some (beV l l.length):=by
 refine yG l.length (λi=>(beV l i,(i:Int))) rfl (λi hi=>?_) ?_ (xM (by omega))
 ·unfold rA;refine ct (dlt hi) ?_;refine bd (yM hi) ?_;refine ltk ?_;rw [wS (show i<2 ^ 40 by omega)];simp [beV,hi]
 ·unfold rA;exact cf (dge (Qd _)) rfl
theorem wF (r:RS) (n:Nat) (h:r.Ok) (h1:1<=n) (h8:n<=8):yE r.W (n:Int)=some ((xU r n).1,(xU r n).2.W):=by
 unfold yE;by_cases he:r.e=0
 ·refine cf (b0 he) ?_;refine bd (a:=false) (cf (by simp;omega) (congrArg some (by simp;omega))) ?_;refine cf rfl ?_;by_cases hn:r.left<n
  ·refine bd (zKh r n h hn) ?_;refine ct rfl ?_;rw [show xU r n=(0,r.err 2) by simp [xU,he,hn]];rfl
  ·refine bd (zIe r n h (by omega)) ?_;refine cf rfl ?_;have hl:=RS.get_len r n (by omega);refine bd (a:=beV (r.get n) n) ((yCj _ (by omega)).trans (by rw [hl])) ?_;by_cases hv:9223372036854775808<=beV (r.get n) n
   ·refine ct (by simp;omega) ?_;rw [show xU r n=(0,r.err 4) by simp [xU,he,hn,hv]];rfl
   ·refine cf (by simp;omega) ?_;obtain ⟨h1,h2⟩:=h;show some (_,(⟨r.b,Q0.wrap ((r.at':Int)+(n:Int)),r.e⟩:zF))=_;have hn':=hn;simp only [RS.left] at hn';rw [yQ (n:=(r.at':Int)+(n:Int)) (by omega) (by omega),show (r.at':Int)+(n:Int)=((r.at'+n:Nat):Int) by omega];rw [show xU r n=(Q0.wrap (beV (r.get n) n),r.to n) by simp [xU,he,hn,hv]];rfl
 ·refine ct (b1 he) ?_;rw [show xU r n=(0,r) by simp [xU,he]]
theorem zVx (x y:UInt8):ior .i64 (lI .i64 (Q0.wrap (x.toNat:Int)) 8) (Q0.wrap (y.toNat:Int))=((x.toNat*256+y.toNat:Nat):Int):=by
 have hx:=x.toNat_lt;have hy:=y.toNat_lt;rw [yQ (by omega) (by omega),yQ (by omega) (by omega)];have e1:lI .i64 (x.toNat:Int) 8=((x.toNat*256:Nat):Int):=by
  show Q0.wrap ((x.toNat:Int)*256)=_;rw [yQ (by omega) (by omega)];omega
 rw [e1];unfold ior;have e2:(Qf Q0.bits ((x.toNat*256:Nat):Int) ||| Qf Q0.bits (y.toNat:Int)).toNat=x.toNat*256+y.toNat:=by
  show (Qf 64 ((x.toNat*256:Nat):Int) ||| Qf 64 (y.toNat:Int)).toNat=_;rw [Qh,Qh,BitVec.toNat_or,Qj,Qj,Qn (by omega),Qn (by omega)];rw [Nat.mul_comm,show (256:Nat)=2 ^ 8 from rfl,<- Qp (by omega)]
 rw [e2,yQ (by omega) (by omega)]
theorem ig {l:By} (h:i<l.length):idx l (i:Int)=some (l.getD i 0):=by rw [yM h];simp [h]
theorem uI (r:RS) (m:Nat) (h:r.Ok):yU r.W (m:Int)=some ((uT r m).1,(uT r m).2.W):=by
 have hv:v2 r<65536:=by
  have h1:=(r.b.getD r.at' 0).toNat_lt;have h2:=(r.b.getD (r.at'+1) 0).toNat_lt;unfold v2;omega
 unfold yU;by_cases he:r.e=0
 ·refine cf (b0 he) ?_;by_cases hn:r.left<2
  ·refine bd (zKh r 2 h hn) ?_;refine ct rfl ?_;rw [show uT r m=([],r.err 2) by simp [uT,he,hn]];rfl
  ·refine bd (zIe r 2 h (by omega)) ?_;refine cf rfl ?_;have hl:=RS.get_len r 2 (by omega);have hn':=hn;simp only [RS.left] at hn';refine bd (a:=r.b.getD r.at' 0) ?_ ?_
   ·refine (ig (l:=r.get 2) (i:=0) (by omega)).trans ?_;simp [RS.get]
   refine bd (a:=r.b.getD (r.at'+1) 0) ?_ ?_
   ·refine (ig (l:=r.get 2) (i:=1) (by omega)).trans ?_;simp [RS.get]
   refine ltk ?_;rw [zVx];show (bif decide ((m:Int)<(v2 r:Int)) then _ else _)=_;by_cases hm:m<v2 r
   ·refine ct (dlt hm) ?_;rw [show uT r m=([],r.err 4) by simp [uT,he,hn,hm]];rfl
   ·refine cf (dge (by omega)) ?_;obtain ⟨h1,h2⟩:=h;have hw:Q0.wrap ((r.at':Int)+2)=(((r.at'+2:Nat)):Int):=by rw [yQ (by omega) (by omega)];omega
    show ((xF r.W (Q0.wrap ((r.at':Int)+2)) (v2 r:Int)).bind _)=_;rw [hw];by_cases hk:r.left<2+v2 r
    ·refine bd (a:=([],2,r.W)) ?_ ?_
     ·exact zLo r.W (r.at'+2) (v2 r) (by show r.at'+2<=r.b.length;omega) h2 (by simp only [RS.left] at hk;show r.b.length - (r.at'+2)<v2 r;omega)
     ·refine ct rfl ?_;rw [show uT r m=([],r.err 2) by simp [uT,he,hn,hm,hk]];rfl
    ·have hk':=hk;simp only [RS.left] at hk';refine bd (zJv r.W (r.at'+2) (v2 r) h2 (by show r.at'+2+v2 r<=r.b.length;omega)) ?_;refine cf rfl ?_;refine ltk ?_;refine bd (a:=(r.b.drop (r.at'+2)).take (v2 r)) ?_ ?_
     ·refine (yI (by simp;omega)).trans ?_;rfl
     ·show some (_,(⟨r.b,Q0.wrap ((r.at':Int)+Q0.wrap (2+(v2 r:Int))),r.e⟩:zF))=_;rw [yQ (n:=2+(v2 r:Int)) (by omega) (by omega),yQ (by omega) (by omega),show (r.at':Int)+(2+(v2 r:Int))=((r.at'+(2+v2 r):Nat):Int) by omega];rw [show uT r m=((r.b.drop (r.at'+2)).take (v2 r),r.to (2+v2 r)) by simp [uT,he,hn,hm,hk]];rfl
 ·refine ct (b1 he) ?_;rw [show uT r m=([],r) by simp [uT,he]]
theorem zA0 (r:RS) (h:r.Ok):wI r.W=some (zJp r,r.W):=by
 unfold wI;by_cases he:r.e=0
 ·refine bd (a:=(decide (0<(r.left:Int)),r.b,(r.at':Int),r.e)) (ct (c0 he) ?_) ?_
  ·show some (decide (0<Q0.wrap ((r.b.length:Int) - (r.at':Int))),r.b,(r.at':Int),r.e)=_;rw [zDz r h]
  ·by_cases hl:0<r.left
   ·refine ct (by simp;omega) ?_;simp only [zJp,he,hl];rw [<- he];rfl
   ·refine cf (by simp;omega) ?_;simp only [zJp,he,hl];rw [<- he];simp [RS.W]
 ·refine bd (a:=(false,r.b,(r.at':Int),r.e)) (cf (c1 he) rfl) ?_;refine cf rfl ?_;simp only [zJp,he];simp [RS.W]
end Go.Proofs.TT
namespace Go.Sw
open Go
variable {a b:Nat}{i:Int}{j:Nat}{α β:Type}{P:α->Prop}{f:α->Option β}{l:List α}{o:Option α}
def Def (o:Option α) (P:α->Prop):Prop:=∃ a,o=some a/\P a
theorem Def.bd {Q:β->Prop} (h:Def o P) (k:∀ a,P a->Def (f a) Q):Def (o.bind f) Q:=by
 obtain ⟨a,rfl,h⟩:=h;exact k a h
theorem Def.s {a:α} {Q:α->Prop} (h:Q a):Def (some a) Q:=⟨a,rfl,h⟩
theorem Def.of {a:α} {Q:α->Prop} (e:o=some a) (h:Q a):Def o Q:=⟨a,e,h⟩
theorem Def.c {b:Bool} {x y:Option α} {Q:α->Prop} (h:b=true->Def x Q) (k:b=false->Def y Q):Def (bif b then x else y) Q:=by
 cases b
 ·exact k rfl
 ·exact h rfl
theorem Def.ck {b:Bool} (h:b=true):Def (Go.Sw.ck b) (λ_=>True):=⟨(),ckT h,trivial⟩
theorem Def.lt {e:α} {Q:β->Prop} (k:Def (f e) Q):Def (Go.Sw.lt e f) Q:=k
theorem Def.mono {Q:α->Prop} (h:Def o P) (k:∀ a,P a->Q a):Def o Q:=by
 obtain ⟨a,e,h⟩:=h;exact ⟨a,e,k a h⟩
theorem Def.get (d:α) (h:Def o P):o=some (o.getD d)/\P (o.getD d):=by
 obtain ⟨a,rfl,h⟩:=h;exact ⟨rfl,h⟩
theorem Def.loop {X Y:Type} {step:X->Option (X ⊕ Y)} {s:X} {Q:Y->Prop} (I:X->Prop) (m:X->Nat)
  (h:∀ s,I s->Def (step s) (λr=>match r with | .inl s'=>I s'/\m s'<m s | .inr r=>Q r)) (h0:I s) (hm:m s<2 ^ 64):Def (zL step FU s) Q:=by
 refine zJt I m Q (λs hs=>?_) FU s h0 (xM hm);obtain ⟨r,e,hr⟩:=h s hs;cases r with
 | inl s'=>exact .inl ⟨s',e,hr.1,hr.2⟩
 | inr r=>exact .inr ⟨r,e,hr⟩
theorem Def.app {m:List α} (h:(l.length+m.length)*b<=140737488355328):Def (yN b l m) (λr=>r=l++m):=⟨_,yI h,rfl⟩
theorem Def.idx (h0:0<=i) (h:i<l.length):Def (Go.Sw.idx l i) (λr=>r∈l):=by
 obtain ⟨n,rfl⟩:=Q9 h0;exact ⟨_,yM (by omega),Qb _⟩
theorem Def.sub {a b:Int} (h0:0<=a) (h1:a<=b) (h2:b<=l.length):Def (Go.Sw.sub l a b) (λr=>r=(l.drop a.toNat).take (b.toNat - a.toNat)):=by
 obtain ⟨n,rfl⟩:=Q9 h0;obtain ⟨m,rfl⟩:=Q9 (by omega:0<=b);exact ⟨_,sD (by omega) (by omega),rfl⟩
theorem Def.ixN {n:Nat} (h0:0<=i) (h:i<n):Def (Go.Sw.ixN n i) (λj=>j=i.toNat/\j<n):=by
 refine ⟨i.toNat,?_,rfl,by omega⟩;simp [Go.Sw.ixN,h0,h]
theorem Def.upd {u:α} (h:j<l.length):Def (sN l j u) (λr=>r=l.set j u):=⟨_,by simp [sN,h],rfl⟩
theorem Def.at (h:j<l.length):Def (l[j]?) (λr=>r∈l):=⟨l[j],by simp [h],Qb _⟩
theorem Def.mkN {n:Int} (h0:0<=n) (h:n<2 ^ 40):Def (mkN 1 n) (λj=>j=n.toNat):=⟨n.toNat,by unfold Go.Sw.mkN;rw [if_pos ⟨h0,by omega⟩],rfl⟩
theorem beqT (h:a=b):Nat.beq a b=true:=by subst h;exact Nat.beq_refl a
theorem zFl (h:a<=b):Nat.ble a b=true:=Nat.ble_eq.mpr h
end Go.Sw
namespace Go.Proofs.TT
open Go Go.Sw
set_option maxRecDepth 100000
end Go.Proofs.TT
namespace Go.Sw
open Go
theorem zAx {X Y:Type} {s1 s2:X->Option (X ⊕ Y)} (I:X->Prop) (h:∀ s,I s->s1 s=s2 s/\Def (s2 s) (λr=>∀ s',r=.inl s'->I s')):∀ (n:Nat) (s:X),I s->zL s1 n s=zL s2 n s
 | 0,_,_=>rfl
 | n+1,s,hs=>by
  obtain ⟨e,r,hr,hI⟩:=h s hs;simp only [zL];rw [e,hr];cases r with
  | inl s'=>exact zAx I h n s' (hI s' rfl)
  | inr y=>rfl
end Go.Sw
namespace Go.Proofs.TT
open Go Go.Sw
set_option maxRecDepth 100000
variable {a:Nat}{active:Int}{b c:Bool}{e:zB}{i j k m n:Nat}{p:Prop}{r:RS}{rest x:By}{α:Type}{l:List α}
theorem dT [Decidable p] (h:decide p=true):p:=by simpa using h
theorem dF [Decidable p] (h:decide p=false):¬ p:=by simpa using h
theorem Def.at' (h:i<l.length):Def (idx l (i:Int)) (λr=>r=l[i]):=⟨_,yM h,rfl⟩
theorem hH {R:Type} (l:List α) (step:Int->Option (Int ⊕ (R ⊕ Unit))) (G:Nat->Prop) (B:R->Prop) (hl:l.length<2 ^ 40)
  (h:∀ i,i<l.length->Def (step (i:Int)) (λr=>match r with | .inl j=>j=((i+1:Nat):Int)/\G i | .inr (.inl b)=>B b | .inr (.inr _)=>False))
  (he:step (l.length:Int)=some (.inr (.inr ()))):Def (zL step FU 0) (λr=>match r with | .inl b=>B b | .inr _=>∀ i,i<l.length->G i):=by
 refine Def.loop (λs=>∃ i:Nat,s=(i:Int)/\i<=l.length/\∀ k,k<i->G k) (λs=>l.length - s.toNat) (λs hs=>?_) ⟨0,rfl,by omega,λk hk=>by omega⟩ (by simp;omega);obtain ⟨i,rfl,hi,hg⟩:=hs;by_cases h2:i<l.length
 ·refine (h i h2).mono λr hr=>?_
  match r,hr with
  | .inl j,hr=>
   refine ⟨⟨i+1,hr.1,h2,λk hk=>?_⟩,by rw [hr.1];simp only [Q8];omega⟩;by_cases hk2:k<i
   ·exact hg k hk2
   ·have:k=i:=by omega
    subst this;exact hr.2
  | .inr (.inl b),hr=>exact hr
  | .inr (.inr u),hr=>exact hr.elim
 ·have:i=l.length:=by omega
  subst this;exact Def.of he hg
theorem two {X Y:Type} {step:X->Option (X ⊕ Y)} {a b c:X} {r:Y} (h0:step a=some (.inl b)) (h1:step b=some (.inl c)) (h2:step c=some (.inr r)):zL step FU a=some r:=by
 refine yG 2 (λi=>match i with | 0=>a | 1=>b | _=>c) rfl (λi hi=>?_) h2 (xM (by decide));have:i=0∨i=1:=by omega
 rcases this with rfl | rfl
 ·exact h0
 ·exact h1
theorem zWb (x n m:Int) (h:tR .u64 (Q5.wrap n) 31=32 - m) (hn:n=32 - m) (h0:0<=m) (h1:m<=32):zR x n=rH x n:=by
 rw [mS x n m h h0 h1];subst hn;have h2:Q5.wrap (32 - (32 - m))=m:=by rw [Ql];omega
 have h4:decide ((0:Int)<=32 - m)=true:=by simp;omega
 simp only [rH,ck,lt,h2,h4,rr,cond_true,Qm];rw [zMl]
theorem rot1 (x:Int):zR x 1=rH x 1:=zWb x 1 31 (by decide) (by decide) (by decide) (by decide)
theorem rot5 (x:Int):zR x 5=rH x 5:=zWb x 5 27 (by decide) (by decide) (by decide) (by decide)
theorem yA2 (x:Int):zR x 30=rH x 30:=zWb x 30 2 (by decide) (by decide) (by decide) (by decide)
theorem zGz (x n:Int) (h0:0<=n):Def (rH x n) (λ_=>True):=by
 unfold rH;refine Def.bd (Def.ck (by simpa using h0)) (λ_ _=>?_);exact Def.lt (Def.s trivial)
theorem w80 {w:List Int} (hw:w.length=80) (hj:j<80):Def (w[j]?) (λ_=>True):=(Def.at (by omega)).mono λ_ _=>trivial
theorem ixw (hn:j<n) (z:Int) (hz:z=(j:Int)):Def (Go.Sw.ixN n z) (λr=>r=j):=by
 subst hz;exact (Def.ixN (by omega) (by omega)).mono λa h=>by rw [h.1];simp
theorem s1_s (x:By) (at' i:Nat) (w:List Int) (h:at'+64<=x.length) (hb:x.length<2 ^ 42) (hi:i<=80) (hw:w.length=80) :
  Def (sM x (at':Int) ((i:Int),w)) (λr=>match r with | .inl s=>∃ w',s=(((i+1:Nat):Int),w')/\i<80/\w'.length=80 | .inr w=>w.length=80):=by
 unfold sM;refine Def.c (λh=>?_) (λ_=>Def.s hw);have hi2:i<80:=by have:=dT h;omega
 have up:∀ v,Def ((Go.Sw.ixN 80 (i:Int)).bind λj=>(sN w j v).bind λw=>some w) (λw'=>w'.length=80):=λv=>by
  refine Def.bd (ixw hi2 _ rfl) (λj hj=>?_);subst hj;exact Def.bd (Def.upd (by omega)) (λr hr=>Def.s (by rw [hr];simpa using hw))
 refine Def.bd (P:=λw'=>w'.length=80) ?_ (λw' hw'=>Def.s ⟨w',by rw [wS (by omega)],hi2,hw'⟩);refine Def.c (λh16=>?_) (λh16=>?_)
 ·have h16':i<16:=by have:=dT h16;omega
  rw [yQ (by omega) (by omega)];refine Def.bd (Def.sub (by omega) (by omega) (by omega)) (λy hy=>?_);have hyl:y.length=64:=by rw [hy];simp;omega
  exact Def.bd (P:=λ_=>True) (Def.of (zKp y i (by omega) (by omega)) trivial) (λv _=>up v)
 ·have h16':16<=i:=by have:=dF h16;omega
  have wr:∀ k:Nat,k<=16->Q0.wrap ((i:Int) - (k:Int))=((i - k:Nat):Int):=λk hk=>by rw [yQ (by omega) (by omega)];omega
  refine Def.bd (ixw (show i - 3<80 by omega) _ (wr 3 (by omega))) (λj hj=>?_);refine Def.bd (w80 hw (by omega)) (λ_ _=>?_);refine Def.bd (ixw (show i - 8<80 by omega) _ (wr 8 (by omega))) (λj hj=>?_);refine Def.bd (w80 hw (by omega)) (λ_ _=>?_);refine Def.bd (ixw (show i - 14<80 by omega) _ (wr 14 (by omega))) (λj hj=>?_);refine Def.bd (w80 hw (by omega)) (λ_ _=>?_);refine Def.bd (ixw (show i - 16<80 by omega) _ (wr 16 (by omega))) (λj hj=>?_);refine Def.bd (w80 hw (by omega)) (λ_ _=>?_);refine Def.lt ?_;exact Def.bd (zGz _ _ (by decide)) (λv _=>up v)
theorem s1_e (x:By) (at' i:Nat) (w:List Int) (h:at'+64<=x.length) (hb:x.length<2 ^ 42):uW (rM x at') ((i:Int),w)=sM x (at':Int) ((i:Int),w):=by
 unfold uW sM;have hs:sub x (at':Int) (Q0.wrap ((at':Int)+64))=some (rM x at'):=by
  rw [yQ (by omega) (by omega),show (at':Int)+64=((at'+64:Nat):Int) by omega,sD (by omega) (by omega)];simp [rM]
 simp only [rot1,hs,zMg,Qm]
theorem yC6 (x:By) (at':Nat) (h:at'+64<=x.length) (hb:x.length<2 ^ 42) :
  Def (zL (sM x (at':Int)) FU (0,Q4 80 0)) (λw=>w.length=80/\zL (uW (rM x at')) FU (0,Q4 80 0)=some w):=by
 have e:zL (uW (rM x at')) FU (0,Q4 80 0)=zL (sM x (at':Int)) FU (0,Q4 80 0):=by
  refine zAx (λs=>∃ i:Nat,s.1=(i:Int)/\i<=80/\s.2.length=80) (λs hs=>?_) _ _ ⟨0,rfl,by omega,by simp⟩;obtain ⟨i',w⟩:=s;obtain ⟨i,h1,hi,hw⟩:=hs;have h1:i'=(i:Int):=h1;subst h1;refine ⟨s1_e x at' i w h hb,(s1_s x at' i w h hb hi hw).mono λr hr s' hs'=>?_⟩;subst hs';obtain ⟨w',rfl,h2,h3⟩:=hr;exact ⟨i+1,rfl,by omega,h3⟩
 rw [e];obtain ⟨w,h1,h2⟩:Def (zL (sM x (at':Int)) FU (0,Q4 80 0)) (λw=>w.length=80):=by
  refine Def.loop (λs=>∃ i:Nat,s.1=(i:Int)/\i<=80/\s.2.length=80) (λs=>80 - s.1.toNat) (λs hs=>?_) ⟨0,rfl,by omega,by simp⟩ (by simp);obtain ⟨i',w⟩:=s;obtain ⟨i,h1,hi,hw⟩:=hs;have h1:i'=(i:Int):=h1;subst h1;refine (s1_s x at' i w h hb hi hw).mono λr hr=>?_;cases r with
  | inl s'=>
   obtain ⟨w',rfl,h2,h3⟩:=hr;exact ⟨⟨i+1,rfl,by omega,h3⟩,by simp only [Q8];omega⟩
  | inr w=>exact hr
 exact ⟨w,h1,h2,h1⟩
theorem r1_s (w:List Int) (hw:w.length=80) (a b c d e:Int) (i:Nat) (hi:i<=80) :
  Def (sJ w (a,b,c,d,e,(i:Int))) (λr=>match r with | .inl s=>s.2.2.2.2.2=((i+1:Nat):Int)/\i<80 | .inr _=>True):=by
 unfold sJ;refine Def.c (λh=>?_) (λ_=>Def.s trivial);have hi2:i<80:=by have:=dT h;omega
 refine Def.bd (P:=λ_=>True) ?_ (λx _=>?_)
 ·exact Def.c (λ_=>Def.lt (Def.s trivial)) (λ_=>Def.c (λ_=>Def.s trivial) (λ_=>Def.c (λ_=>Def.lt (Def.s trivial)) (λ_=>Def.s trivial)))
 obtain ⟨f,k⟩:=x;refine Def.bd (zGz _ _ (by decide)) (λ_ _=>?_);refine Def.lt ?_;refine Def.bd (ixw hi2 _ rfl) (λj hj=>?_);refine Def.bd (w80 hw (by omega)) (λ_ _=>?_);refine Def.lt ?_;refine Def.bd (zGz _ _ (by decide)) (λ_ _=>Def.s ?_);exact ⟨wS (by omega),hi2⟩
theorem r1_e (w:List Int) (a b c d e:Int) (i:Nat) (hi:i<=80):uX w (a,b,c,d,e,(i:Int))=sJ w (a,b,c,d,e,(i:Int)):=by
 have hq:Q0.wrap (W6 (i:Int) 20)=((i / 20:Nat):Int):=by
  rw [show W6 (i:Int) 20=((i / 20:Nat):Int) from rfl];exact yQ (by omega) (by omega)
 unfold uX sJ;simp only [rot5,yA2,hq];by_cases h1:i<20
 ·rw [show (((i / 20:Nat):Int)==0)=true by simp;omega,show decide ((i:Int)<20)=true by simp;omega];rfl
 by_cases h2:i<40
 ·rw [show (((i / 20:Nat):Int)==0)=false by simp;omega,show decide ((i:Int)<20)=false by simp;omega,show (((i / 20:Nat):Int)==1)=true by simp;omega,show decide ((i:Int)<40)=true by simp;omega];rfl
 by_cases h3:i<60
 ·rw [show (((i / 20:Nat):Int)==0)=false by simp;omega,show decide ((i:Int)<20)=false by simp;omega,show (((i / 20:Nat):Int)==1)=false by simp;omega,show decide ((i:Int)<40)=false by simp;omega,show (((i / 20:Nat):Int)==2)=true by simp;omega,show decide ((i:Int)<60)=true by simp;omega]
 ·by_cases h4:i<80
  ·rw [show (((i / 20:Nat):Int)==0)=false by simp;omega,show decide ((i:Int)<20)=false by simp;omega,show (((i / 20:Nat):Int)==1)=false by simp;omega,show decide ((i:Int)<40)=false by simp;omega,show (((i / 20:Nat):Int)==2)=false by simp;omega,show decide ((i:Int)<60)=false by simp;omega]
  ·rw [show decide ((i:Int)<80)=false by simp;omega];rfl
theorem yCt (w:List Int) (hw:w.length=80) (a b c d e:Int):Def (zL (sJ w) FU (a,b,c,d,e,0)) (λr=>zL (uX w) FU (a,b,c,d,e,0)=some r):=by
 have e1:zL (uX w) FU (a,b,c,d,e,0)=zL (sJ w) FU (a,b,c,d,e,0):=by
  refine zAx (λs=>∃ i:Nat,s.2.2.2.2.2=(i:Int)/\i<=80) (λs hs=>?_) _ _ ⟨0,rfl,by omega⟩;obtain ⟨a,b,c,d,e,v⟩:=s;obtain ⟨i,h1,hi⟩:=hs;have h1:v=(i:Int):=h1;subst h1;refine ⟨r1_e w a b c d e i hi,(r1_s w hw a b c d e i hi).mono λr hr s' hs'=>?_⟩;subst hs';exact ⟨i+1,hr.1,by have:=hr.2;omega⟩
 rw [e1];obtain ⟨r,h1,_⟩:Def (zL (sJ w) FU (a,b,c,d,e,0)) (λ_=>True):=by
  refine Def.loop (λs=>∃ i:Nat,s.2.2.2.2.2=(i:Int)/\i<=80) (λs=>80 - s.2.2.2.2.2.toNat) (λs hs=>?_) ⟨0,rfl,by omega⟩ (by simp);obtain ⟨a,b,c,d,e,v⟩:=s;obtain ⟨i,h1,hi⟩:=hs;have h1:v=(i:Int):=h1;subst h1;refine (r1_s w hw a b c d e i hi).mono λr hr=>?_;cases r with
  | inl s'=>exact ⟨⟨i+1,hr.1,by have:=hr.2;omega⟩,by rw [hr.1];simp only [Q8];have:=hr.2;omega⟩
  | inr r=>trivial
 exact ⟨r,h1,h1⟩
def a5 (s:A5 Int):List Int:=[s.a0,s.a1,s.a2,s.a3,s.a4]
def zRk (h:A5 Int) (b:By):A5 Int:=(tP h b).getD h
theorem blk1 (x:By) (at':Nat) (h:A5 Int) (hx:at'+64<=x.length) (hb:x.length<2 ^ 42) :
  tP h (rM x at')=some (zRk h (rM x at'))/\pX x (a5 h,(at':Int))=some (.inl (a5 (zRk h (rM x at')),((at'+64:Nat):Int))):=by
 obtain ⟨w,hw1,hw2,hw3⟩:=yC6 x at' hx hb;obtain ⟨⟨a,b,c,d,e⟩,hr1,hr2⟩:=yCt w hw2 h.a0 h.a1 h.a2 h.a3 h.a4;have e1:tP h (rM x at')=some ⟨Q1.wrap (h.a0+a),Q1.wrap (h.a1+b),Q1.wrap (h.a2+c),Q1.wrap (h.a3+d),Q1.wrap (h.a4+e)⟩:=by
  unfold tP;refine bd hw3 ?_;exact bd hr2 rfl
 have e2:zRk h (rM x at')=⟨Q1.wrap (h.a0+a),Q1.wrap (h.a1+b),Q1.wrap (h.a2+c),Q1.wrap (h.a3+d),Q1.wrap (h.a4+e)⟩:=by
  unfold zRk;rw [e1];rfl
 rw [e2];refine ⟨e1,?_⟩;unfold pX;refine ct (dlt (by omega)) ?_;refine bd hw1 ?_;refine bd (a:=h.a0) rfl ?_;refine bd (a:=h.a1) rfl ?_;refine bd (a:=h.a2) rfl ?_;refine bd (a:=h.a3) rfl ?_;refine bd (a:=h.a4) rfl ?_;refine bd hr1 ?_;refine bd (a:=h.a0) rfl ?_;refine bd (a:=h.a1) rfl ?_;refine bd (a:=h.a2) rfl ?_;refine bd (a:=h.a3) rfl ?_;refine bd (a:=h.a4) rfl ?_;rw [yQ (by omega) (by omega),show (at':Int)+64=((at'+64:Nat):Int) by omega];rfl
def zSu:A5 Int:=⟨1732584193,4023233417,2562383102,271733878,3285377520⟩
def zBv (x:By):Nat->A5 Int
 | 0=>zSu
 | i+1=>zRk (zBv x i) (rM x (64*i))
def st5 (p:By) (h:A5 Int):By×Int×Int×Int×Int×Int:=(p,h.a0,h.a1,h.a2,h.a3,h.a4)
theorem zMu (x:By) (n:Nat) (hx:x.length=64*n) (hl:x.length<2 ^ 42):zL kT FU (st5 x zSu)=some ((zBv x n).a0,(zBv x n).a1,(zBv x n).a2,(zBv x n).a3,(zBv x n).a4):=by
 refine yG n (λi=>st5 (x.drop (64*i)) (zBv x i)) (by simp [zBv]) (λi hi=>?_) ?_ (xM (by omega))
 ·have hd:(x.drop (64*i)).length=x.length - 64*i:=by simp
  unfold kT st5;refine ct (by simp;omega) ?_;refine bd (a:=rM x (64*i)) (by rw [show (0:Int)=((0:Nat):Int) from rfl,show (64:Int)=((64:Nat):Int) from rfl,sD (by omega) (by omega)];simp [rM]) ?_;refine bd (blk1 x (64*i) (zBv x i) (by omega) hl).1 ?_;refine bd (a:=x.drop (64*(i+1))) (by rw [show (64:Int)=((64:Nat):Int) from rfl,sD (by omega) (by omega)];rw [Qu,Q3 (by simp;omega)];congr 2) ?_;rfl
 ·have hd:x.drop (64*n)=[]:=Qk (by omega);show kT (st5 (x.drop (64*n)) (zBv x n))=_;rw [hd];generalize zBv x n=S;rfl
theorem zL2 (x:By) (n:Nat) (hx:x.length=64*n) (hl:x.length<2 ^ 42):zL (pX x) FU (a5 zSu,0)=some (a5 (zBv x n)):=by
 refine yG n (λi=>(a5 (zBv x i),((64*i:Nat):Int))) rfl (λi hi=>?_) ?_ (xM (by omega))
 ·exact (blk1 x (64*i) (zBv x i) (by omega) hl).2
 ·show pX x (a5 (zBv x n),((64*n:Nat):Int))=_;unfold pX;exact cf (dge (by omega)) rfl
def lZ (b:By):By:=(a5 (zBv (aY b) ((aY b).length / 64))).flatMap be4
theorem zLy (b:By):(lZ b).length=20:=by unfold lZ;rw [zK1];rfl
theorem zR6 (b:By) (hb:b.length<2 ^ 40):zA9 b=some (lZ b):=by
 have hz:zs b.length<64:=by unfold zs;omega
 have h1:=zAk b;have h2:=zDn b;unfold zA9;refine bd (zHa b hb) ?_;refine bd (zL2 (aY b) ((aY b).length / 64) (by omega) (by omega)) ?_;exact bd (zLe _ (by simp [a5])) rfl
theorem zRs (b:By) (hb:b.length<2 ^ 40):xT 0 b=some (lZ b):=by
 have hz:zs b.length<64:=by unfold zs;omega
 have h1:=zAk b;have h2:=zDn b;unfold xT;refine ct rfl ?_;refine bd (zHi b hb) ?_;refine bd (zMu (aY b) ((aY b).length / 64) (by omega) (by omega)) ?_;exact bd (zJg _ (by simp)) rfl
theorem zQ8 (h:k<l.length):l.drop k=l[k] :: l.drop (k+1):=List.drop_eq_getElem_cons h
theorem yEc (k:IntKind) (n j:Nat) (h:j<=k.bits):vC k (n:Int) (j:Int)=((n / 2 ^ j:Nat):Int):=by
 unfold vC;rw [Q8,Nat.min_eq_left h,Int.fdiv_eq_ediv_of_nonneg _ (by have:(0:Int)<2 ^ j:=Int.pow_pos (by decide);omega)];rw [Int.natCast_ediv];simp
theorem wb (x:UInt8):Q0.wrap (x.toNat:Int)=(x.toNat:Int):=by
 have:=x.toNat_lt;rw [yQ (by omega) (by omega)]
theorem hP (n:Nat):(u8 (n:Int)).toNat=n % 256:=by
 have:((n:Int) % 256).toNat=n % 256:=by omega
 rw [u8,this];simp
theorem zMk {l:List By} (h:i<l.length):idx l (i:Int)=some (l.getD i []):=by rw [yM h];simp [h]
set_option maxRecDepth 100000
structure Rem (r:RS) (l:By):Prop where
 e:r.e=0
 at':r.at'<=r.b.length
 d:r.b.drop r.at'=l
theorem Rem.left {l:By} (h:Rem r l):r.left=l.length:=by
 have:=congrArg Qy h.d;simp at this;exact this
theorem Rem.to (h:Rem r (x++rest)) (hx:x.length=n):Rem (r.to n) rest:=by
 have hl:=h.left;have ha:=h.at';simp only [RS.left,Q2] at hl;refine ⟨h.e,by simp only [RS.to];omega,?_⟩;show r.b.drop (r.at'+n)=rest;rw [<- Qu,h.d,<- hx,List.drop_left]
theorem Rem.raw (h:Rem r (x++rest)) (hx:x.length=n):tL r n=(x,r.to n):=by
 have hl:=h.left;rw [Q2] at hl;unfold tL;rw [if_neg (by simp [h.e]),if_neg (by omega)];have:r.get n=x:=by
  unfold RS.get;rw [h.d,<- hx,Qv]
 rw [this]
theorem Rem.uint (h:Rem r (x++rest)) (hx:x.length=n) (hv:¬ 9223372036854775808<=beV x n):xU r n=(Q0.wrap (beV x n),r.to n):=by
 have hl:=h.left;rw [Q2] at hl;unfold xU;have:r.get n=x:=by
  unfold RS.get;rw [h.d,<- hx,Qv]
 rw [if_neg (by simp [h.e]),if_neg (by omega),this,if_neg hv]
theorem Rem.blob {a b:UInt8} (h:Rem r ([a,b]++(x++rest))) (hx:x.length=a.toNat*256+b.toNat) (hm:x.length<=m):uT r m=(x,r.to (2+x.length))/\Rem (r.to (2+x.length)) rest:=by
 have hl:=h.left;have ha:=h.at';simp only [Q2,Qc,Qo] at hl;have hd:=h.d;have e0:r.b.getD r.at' 0=a:=by
  have:=congrArg (λl=>l.getD 0 0) hd;simpa using this
 have e1:r.b.getD (r.at'+1) 0=b:=by
  have:=congrArg (λl=>l.getD 1 0) hd;simpa using this
 have ev:v2 r=x.length:=by unfold v2;rw [e0,e1,hx]
 have h2:Rem (r.to 2) (x++rest):=Rem.to (x:=[a,b]) h rfl;have hd2:r.b.drop (r.at'+2)=x++rest:=h2.d;constructor
 ·unfold uT;rw [if_neg (by simp [h.e]),if_neg (by omega),ev,if_neg (by omega),if_neg (by omega),hd2,Qv]
 ·have:=Rem.to h2 rfl;have e:(r.to 2).to x.length=r.to (2+x.length):=by simp [RS.to,Nat.add_assoc]
  rw [<- e];exact this
theorem Rem.uintV {v:Int} (h:Rem r (x++rest)) (hx:x.length=n) (hv:beV x n=v) (h0:0<=v) (h1:v<9223372036854775808):xU r n=(v,r.to n):=by
 rw [h.uint hx (by omega),hv,yQ (by omega) (by omega)]
theorem zHn (a b:Nat) (ha:a<2 ^ 56) (hb:b<256):ior .u64 (lI .u64 (a:Int) 8) (Q5.wrap (b:Int))=((a*256+b:Nat):Int):=by
 rw [aU (by omega) (by omega)];have e1:lI .u64 (a:Int) 8=((a*256:Nat):Int):=by
  show Q5.wrap ((a:Int)*256)=_;rw [aU (by omega) (by omega)];omega
 rw [e1];unfold ior;have e2:(Qf Q5.bits ((a*256:Nat):Int) ||| Qf Q5.bits (b:Int)).toNat=a*256+b:=by
  show (Qf 64 ((a*256:Nat):Int) ||| Qf 64 (b:Int)).toNat=_;rw [Qh,Qh,BitVec.toNat_or,Qj,Qj,Qn (by omega),Qn (by omega)];rw [Nat.mul_comm,show (256:Nat)=2 ^ 8 from rfl,<- Qp (by omega)]
 rw [e2,aU (by omega) (by omega)]
theorem zGd (n size k:Nat) (hn:n<2 ^ 64) (hk:k<size) (h8:size<=8):((beN (n:Int) size size).getD k 0).toNat=n / 256 ^ (size - (k+1)) % 256:=by
 have e:(beN (n:Int) size size).getD k 0=u8 (vC .u64 (Q5.wrap (n:Int)) (8*((size:Int) - 1 - (k:Int)))):=by simp [beN,hk]
 rw [e,aU (by omega) (by omega),show 8*((size:Int) - 1 - (k:Int))=((8*(size - (k+1)):Nat):Int) by omega,yEc .u64 n _ (by show _<=64;omega),hP,Nat.pow_mul]
theorem zOy (n size:Nat) (hn:n<2 ^ 64) (h8:size<=8) (hs:n<256 ^ size):∀ k,k<=size->beV (beN (n:Int) size size) k=((n / 256 ^ (size - k):Nat):Int)
 | 0,_=>by
  rw [Nat.sub_zero,Nat.div_eq_of_lt hs];rfl
 | k+1,hk=>by
  unfold beV;rw [zOy n size hn h8 hs k (by omega),zGd n size k hn (by omega) h8];have e:256 ^ (size - k)=256 ^ (size - (k+1))*256:=by
   rw [<- Nat.pow_succ];congr 1;omega
  rw [e,<- Nat.div_div_eq_div_mul];have hm:n / 256 ^ (size - (k+1))<=n:=Nat.div_le_self _ _;generalize n / 256 ^ (size - (k+1))=m at hm;rw [zHn _ _ (by omega) (by omega)];congr 1;omega
theorem Rem.uintN (h:Rem r (beN (n:Int) k k++rest)) (h8:k<=8) (hn:n<2 ^ 63) (hs:n<256 ^ k):xU r k=((n:Int),r.to k)/\Rem (r.to k) rest:=by
 have hb:=zOy n k (by omega) h8 hs k (Qd _);rw [Nat.sub_self,Nat.pow_zero,Nat.div_one] at hb;exact ⟨h.uintV (yO _ _ _) hb (by omega) (by omega),h.to (yO _ _ _)⟩
theorem be2 (n:Nat) (hn:n<65536):∃ a b:UInt8,beN (n:Int) 2 2=[a,b]/\n=a.toNat*256+b.toNat:=by
 have h0:=zGd n 2 0 (by omega) (by omega) (by omega);have h1:=zGd n 2 1 (by omega) (by omega) (by omega);have hl:=yO (n:Int) 2 2
 match hx:beN (n:Int) 2 2,hl with
 | [a,b],_=>
  rw [hx] at h0 h1;refine ⟨a,b,rfl,?_⟩;have h0:a.toNat=n / 256 ^ 1 % 256:=h0;have h1:b.toNat=n / 256 ^ 0 % 256:=h1;rw [h0,h1];simp only [Nat.pow_one,Nat.pow_zero,Nat.div_one];omega
theorem zHq (b:By) (h:x.length<=65535):zCf b x=b++(beN (x.length:Int) 2 2++x):=by
 unfold zCf rB;rw [Q3 h,Q6]
theorem Rem.blobN (h:Rem r (beN (x.length:Int) 2 2++(x++rest))) (hx:x.length<=65535) (hm:x.length<=m):uT r m=(x,r.to (2+x.length))/\Rem (r.to (2+x.length)) rest:=by
 obtain ⟨a,b,h1,h2⟩:=be2 x.length (by omega);rw [h1] at h;exact Rem.blob h h2 hm
theorem Rem.fin (h:Rem r []):zJp r=0:=by
 have:=h.left;unfold zJp;rw [if_neg (by rw [this];simp)];exact h.e
theorem Rem.uintI {n:Int} (h:Rem r (beN n k k++rest)) (h8:k<=8) (h0:0<=n) (hn:n<2 ^ 62) (hs:n.toNat<256 ^ k):xU r k=(n,r.to k)/\Rem (r.to k) rest:=by
 obtain ⟨m,rfl⟩:=Q9 h0;exact Rem.uintN h h8 (by omega) hs
set_option maxRecDepth 100000
def xH (active a:Int):Bool:=tR .i64 (vC .i64 active (Q5.wrap a)) 1==1
theorem zGr (b:By) (hb:b.length<2 ^ 40):pL 0 b=some (lZ b):=by
 unfold pL;refine ct rfl ?_;exact bd (zR6 b hb) rfl
theorem zGw (b:By) (hb:b.length<2 ^ 40):pL 1 b=some (sha b):=by
 unfold pL;refine cf rfl ?_;refine ct rfl ?_;exact bd (zUk b hb) rfl
def dgE (active:Int) (on:Bool) (b:By):List By:=[if (on&&xH active 0)=true then lZ b else [],if (on&&xH active 1)=true then sha b else []]
theorem zE4 {v:List By} {o:Option By} {d:By} (hv:v.length=2) (ha:a<2) (ho:o=some d) :
  (bif c then (o.bind λs=>(ixN 2 (a:Int)).bind λj=>(sN v j s).bind λw=>some w) else some v)=some (if c=true then v.set a d else v):=by
 cases c
 ·rfl
 ·refine bd ho ?_;refine bd (uY ha) ?_;exact bd (by simp [sN,hv,ha]) rfl
def mkE (reg kind active:Int) (data:By):zB:=⟨reg,kind,dgE active (kind != 5) data,data⟩
theorem zOp (reg kind active:Int) (data:By) (hd:data.length<2 ^ 40):gQ reg kind active data=some (mkE reg kind active data):=by
 have on:∀ a:Int,((lY active a).bind λv=>bif v then (some (kind != 5)) else some false:Option Bool)=some ((kind != 5)&&xH active a):=by
  intro a;show (bif xH active a then (some (kind != 5)) else some false:Option Bool)=_;cases xH active a<;>cases (kind != 5)<;>rfl
 unfold gQ mkE dgE;refine bd (a:=[if ((kind != 5)&&xH active 0)=true then lZ data else [],if ((kind != 5)&&xH active 1)=true then sha data else []]) (two (b:=(1,[if ((kind != 5)&&xH active 0)=true then lZ data else [],[]])) (c:=(2,[if ((kind != 5)&&xH active 0)=true then lZ data else [],if ((kind != 5)&&xH active 1)=true then sha data else []])) ?_ ?_ rfl) ?_
 ·unfold eR;refine ct rfl ?_;refine bd (a:=[if ((kind != 5)&&xH active 0)=true then lZ data else [],[]]) ?_ rfl;refine bd (on 0) ?_;refine (zE4 (a:=0) rfl (by omega) (zGr data hd)).trans ?_;cases ((kind != 5)&&xH active 0)<;>rfl
 ·unfold eR;refine ct rfl ?_;refine bd (a:=[if ((kind != 5)&&xH active 0)=true then lZ data else [],if ((kind != 5)&&xH active 1)=true then sha data else []]) ?_ rfl;refine bd (on 1) ?_;refine (zE4 (a:=1) rfl (by omega) (zGw data hd)).trans ?_;cases ((kind != 5)&&xH active 1)<;>rfl
 exact bd (ckT rfl) rfl
set_option maxRecDepth 100000
def cC (c:zJ):Prop:=c.B.length<=240/\0<=c.At/\c.At<=c.B.length
theorem zVg (b:By) (n:Int) (h0:0<=n) (h:n<=240):Def (zD1 b n) cC:=by
 unfold zD1;refine Def.bd (P:=λr=>r.length<=240) ?_ (λr hr=>Def.s ⟨hr,Qt 0,by simp⟩);refine Def.c (λhl=>?_) (λhl=>Def.s ?_)
 ·rw [decide_eq_true_iff] at hl;refine Def.bd (Def.sub (by decide) h0 (by omega)) (λx hx=>Def.s ?_);rw [hx];simp;omega
 ·rw [decide_eq_false_iff_not] at hl;omega
theorem oU (c:zJ) (n:Int) (hc:cC c) (hn:0<n):Def (xN c n) (λr=>0<=r.1/\r.1<n/\cC r.2):=by
 obtain ⟨h1,h2,h3⟩:=hc;unfold xN;refine Def.c (λh=>Def.s ⟨Qt 0,hn,h1,h2,h3⟩) (λh=>?_);rw [decide_eq_false_iff_not] at h;rw [yQ (n:=c.At+1) (by omega) (by omega),yQ (n:=c.At+1 - 1) (by omega) (by omega)];refine Def.bd (Def.idx (by omega) (by omega)) (λv _=>?_);refine Def.bd (Def.ck (by simp;omega)) (λ_ _=>?_);refine Def.s ?_;rw [wb];refine ⟨?_,?_,h1,by simp only;omega,by simp only;omega⟩
 ·rw [Qe (by omega)];exact Int.emod_nonneg _ (by omega)
 ·rw [Qe (by omega)];exact Int.emod_lt_of_pos _ hn
def zI5 (l:By):Prop:=1<=l.length/\l.length<=8/\∀ x∈l,32<=x.toNat/\x.toNat<=126
theorem zSm (c:zJ) (hc:cC c):Def (nC c) (λr=>zI5 r.1/\cC r.2):=by
 unfold nC;refine Def.bd (oU c 6 hc (by decide)) (λr hr=>?_);obtain ⟨v,x⟩:=r;obtain ⟨h0,h1,h2⟩:=hr;simp only at h0 h1 h2;refine Def.bd (Def.ixN h0 (by show _<((6:Nat):Int);omega)) (λj hj=>?_);refine Def.bd (Def.at (by have:=hj.2;simpa using this)) (λl hl=>?_);have hl':zI5 l:=by
  simp only [W5,Qz,or_false] at hl;rcases hl with rfl | rfl | rfl | rfl | rfl | rfl<;>(unfold zI5;decide)
 refine Def.bd (Def.ck (zFl (by have:=hl'.2.1;omega))) (λ_ _=>?_);exact Def.s ⟨hl',h2⟩
def zEv (L:List By):By:=L.flatMap λl=>l++[10]
theorem cB (L:List By) (h:∀ l∈L,zI5 l):(zEv L).length<=9*L.length:=by
 induction L with
 | nil=>simp [zEv]
 | cons a r ih=>
  have h1:=(h a (by simp)).2.1;have h2:=ih (λl hl=>h l (by simp [hl]));simp only [zEv,Qa,Q2,Qc,Qo] at h2 ⊢;omega
theorem zLr (c:zJ) (hc:cC c):Def (rZ c) (λr=>(∃ L,r.1=zEv L/\1<=L.length/\L.length<=4/\∀ l∈L,zI5 l)/\cC r.2):=by
 unfold rZ;refine Def.bd (oU c 4 hc (by decide)) (λr hr=>?_);obtain ⟨v,x⟩:=r;obtain ⟨h0,h1,h2⟩:=hr;simp only at h0 h1 h2;refine Def.bd (P:=λr=>(∃ L,r.1=zEv L/\1<=L.length/\L.length<=4/\∀ l∈L,zI5 l)/\cC ⟨r.2.1,r.2.2⟩) ?_ (λr hr=>Def.s hr);refine Def.loop (λs=>(∃ L,s.1=zEv L/\(L.length:Int)+s.2.1=1+v/\∀ l∈L,zI5 l)/\0<=s.2.1/\cC ⟨s.2.2.1,s.2.2.2⟩) (λs=>s.2.1.toNat) (λs hs=>?_) ?_ ?_
 ·obtain ⟨b,n,B,A⟩:=s;obtain ⟨⟨L,g1,g2,g3⟩,g4,g5⟩:=hs;simp only at g1 g2 g4 g5;have hfl:=cB L g3;unfold lK;refine Def.c (λh=>?_) (λh=>Def.s ?_)
  ·rw [decide_eq_true_iff] at h;refine Def.bd (zSm _ g5) (λr hr=>?_);obtain ⟨l,y⟩:=r;obtain ⟨k1,k2⟩:=hr;simp only at k1 k2;refine Def.bd (Def.app (by have:=k1.2.1;rw [g1];omega)) (λb1 hb1=>?_);refine Def.bd (Def.app (by have:=k1.2.1;rw [hb1,g1];simp;omega)) (λb2 hb2=>Def.s ?_);rw [yQ (by omega) (by omega)];refine ⟨⟨⟨L++[l],?_,by simp only [Q2,Qc,Qo];omega,?_⟩,by simp only;omega,k2⟩,by simp only;omega⟩
   ·simp only [hb2,hb1,g1,zEv,Qi,Qa,List.flatMap_nil,W2,Q6]
   ·intro z hz;rw [Qs] at hz;rcases hz with hz | hz
    ·exact g3 z hz
    ·simp at hz;subst hz;exact k1
  ·rw [decide_eq_false_iff_not] at h;exact ⟨⟨L,g1,by omega,by omega,g3⟩,g5⟩
 ·refine ⟨⟨[],rfl,?_,by simp⟩,?_,h2⟩
  ·rw [yQ (by omega) (by omega)];simp
  ·rw [yQ (by omega) (by omega)];simp only;omega
 ·rw [yQ (by omega) (by omega)];simp only;omega
theorem zO4 {P:List α} {c:α} {t:List α} (h:P.drop i=c :: t):idx P (i:Int)=some c/\P.drop (i+1)=t/\i<P.length:=by
 have hi:i<P.length:=by
  apply Decidable.byContradiction;intro hn;rw [Qk (by omega)] at h;cases h
 rw [zQ8 hi] at h;injection h with h1 h2;exact ⟨by rw [yM hi,h1],h2,hi⟩
theorem zTc (x:zD) (L:List By) (hp:x.Payload=zEv L) (h4:L.length<=4) (hL:∀ l∈L,zI5 l):uM x=some L:=by
 have hfl:=cB L hL;have hpl:x.Payload.length<=36:=by rw [hp];omega
 have hd:Def (zL (xP x) FU ([],[],0)) (λr=>r=.inr (L,[])):=by
  refine Def.loop (λs=>∃ i:Nat,s.2.2=(i:Int)/\i<=x.Payload.length/\((s.1=L/\s.2.1=[]/\x.Payload.drop i=[])∨∃ suf rest,L=s.1++(s.2.1++suf) :: rest/\x.Payload.drop i=suf++10 :: zEv rest)) (λs=>x.Payload.length - s.2.2.toNat) (λs hs=>?_) ?_ ?_
  ·obtain ⟨out,line,i'⟩:=s;obtain ⟨i,g1,g2,g3⟩:=hs;simp only at g1 g3;subst g1;unfold xP;rcases g3 with ⟨k1,k2,k3⟩ | ⟨suf,rest,k1,k2⟩
   ·refine Def.c (λh=>?_) (λ_=>Def.s (by rw [k1,k2]));rw [decide_eq_true_iff] at h;have:=congrArg Qy k3;simp at this;omega
   ·have hmem:line++suf∈L:=by rw [k1];simp
    have hln:=hL _ hmem;have hout:out.length<4:=by have:=congrArg Qy k1;simp at this;omega
    cases suf with
    | nil=>
     obtain ⟨j1,j2,j3⟩:=zO4 (c:=10) (t:=zEv rest) k2;refine Def.c (λ_=>?_) (λh=>by rw [decide_eq_false_iff_not] at h;omega);refine Def.bd (P:=λr=>r=.inr (out++[line],[])) ?_ (λr hr=>?_)
     ·refine Def.bd (P:=λc=>c=10) (Def.of j1 rfl) (λc hc=>?_);subst hc;refine Def.c (λ_=>?_) (λh=>by simp at h);rw [W2] at hln;refine Def.bd (P:=λb=>b=false) (Def.c (λh=>?_) (λ_=>Def.s ?_)) (λb hb=>?_)
      ·have:=hln.1;simp at h;rw [h] at this;simp at this
      ·simp;omega
      subst hb;refine Def.bd (Def.app (by simp;omega)) (λo ho=>Def.s (by rw [ho]))
     ·subst hr;refine Def.s ?_;rw [wS (by omega)];refine ⟨⟨i+1,rfl,by omega,?_⟩,by simp only [Q8];omega⟩;cases rest with
      | nil=>exact .inl ⟨by simp [k1],rfl,j2⟩
      | cons l r=>
       refine .inr ⟨l,r,?_,?_⟩
       ·simp [k1]
       ·rw [j2];simp [zEv]
    | cons c suf=>
     obtain ⟨j1,j2,j3⟩:=zO4 (c:=c) (t:=suf++10 :: zEv rest) k2;have hc:=hln.2.2 c (by simp);refine Def.c (λ_=>?_) (λh=>by rw [decide_eq_false_iff_not] at h;omega);refine Def.bd (P:=λr=>r=.inr (out,line++[c])) ?_ (λr hr=>?_)
     ·refine Def.bd (P:=λd=>d=c) (Def.of j1 rfl) (λd hd=>?_);subst hd;refine Def.c (λh=>by simp at h;omega) (λ_=>?_);refine Def.bd (P:=λb=>b=false) (Def.c (λh=>?_) (λ_=>Def.s ?_)) (λb hb=>?_)
      ·simp at h;omega
      ·simp;omega
      subst hb;have:=hln.2.1;refine Def.bd (Def.app (by simp at this ⊢;omega)) (λo ho=>Def.s (by rw [ho]))
     ·subst hr;refine Def.s ?_;rw [wS (by omega)];refine ⟨⟨i+1,rfl,by omega,.inr ⟨suf,rest,by simp [k1],j2⟩⟩,by simp only [Q8];omega⟩
  ·refine ⟨0,rfl,by omega,?_⟩;cases L with
   | nil=>exact .inl ⟨rfl,rfl,by rw [hp];rfl⟩
   | cons l r=>exact .inr ⟨l,r,by simp,by rw [hp];simp [zEv]⟩
  ·rw [hp];simp;omega
 obtain ⟨r,h1,h2⟩:=hd;subst h2;unfold uM;refine bd h1 ?_;rfl
structure sV (x:zD):Prop where
 r1:1<=x.Role
 r4:x.Role<=4
 v0:0<=x.Version
 v1:x.Version<=1000000
 n:nP x.Name=some true
 nl:x.Name.length<=12
 p:x.Payload.length<=64
 l:x.Role=4->∃ L,uM x=some L/\1<=L.length/\L.length<=4/\∀ l∈L,zI5 l
theorem bZ (x:zD) (h:sV x):vW x=some 0:=by
 obtain ⟨h1,h2,h3,h4,h5,h6,h7,h8⟩:=h;unfold vW;refine bd (a:=false) (cf (by simp;omega) (cf (by simp;omega) (cf (by simp;omega) (congrArg some (by simp;omega))))) ?_;refine cf rfl ?_;refine bd h5 ?_;refine cf rfl ?_;refine cf (by simp;omega) ?_;refine bd (a:=false) ?_ rfl;by_cases h:x.Role=4
 ·refine ct (by simp [h]) ?_;obtain ⟨L,l1,l2,_⟩:=h8 h;refine bd l1 ?_;refine congrArg some ?_;rw [beq_eq_false_iff_ne];omega
 ·exact cf (by simp [h]) rfl
theorem zSr:∀ n∈[([97]:By),[103,114,117,98],[108,105,110,117,120],[110,101,116,45,48],[116,119,101,108,118,101,45,98,121,116,101,115]],nP n=some true/\n.length<=12:=by
 intro n hn;simp only [W5,Qz,or_false] at hn;rcases hn with rfl | rfl | rfl | rfl | rfl<;>exact ⟨by decide +kernel,by decide⟩
theorem zP5 (c:zJ) (role:Int) (hc:cC c) (h1:1<=role) (h4:role<=4):Def (oD c role) (λr=>sV r.1/\r.1.Role=role/\cC r.2):=by
 unfold oD;refine Def.bd (P:=λa=>[a.a0,a.a1,a.a2,a.a3,a.a4]=[([97]:By),[103,114,117,98],[108,105,110,117,120],[110,101,116,45,48],[116,119,101,108,118,101,45,98,121,116,101,115]]) (Def.s rfl) (λa ha=>?_);rw [ha];refine Def.bd (oU c 5 hc (by decide)) (λr hr=>?_);obtain ⟨v1,c1⟩:=r;obtain ⟨p1,p2,p3⟩:=hr;simp only at p1 p2 p3;refine Def.bd (Def.idx p1 (by simpa using p2)) (λnme hn=>?_);obtain ⟨n1,n2⟩:=zSr nme hn;refine Def.bd (oU c1 5 p3 (by decide)) (λr hr=>?_);obtain ⟨v2,c2⟩:=r;obtain ⟨q1,q2,q3⟩:=hr;simp only at q1 q2 q3;refine Def.bd (P:=λr=>cC ⟨r.1,r.2.1⟩/\0<=r.2.2/\r.2.2<=1000000) ?_ (λr hr=>?_)
 ·refine Def.bd (oU c2 9 q3 (by decide)) (λr hr=>?_);obtain ⟨v3,c3⟩:=r;obtain ⟨s1,s2,s3⟩:=hr;simp only at s1 s2 s3;refine Def.c (λ_=>?_) (λ_=>Def.s ⟨s3,by simp only;omega,by simp only;omega⟩);refine Def.bd (oU c3 3 s3 (by decide)) (λr hr=>?_);obtain ⟨v4,c4⟩:=r;obtain ⟨u1,u2,u3⟩:=hr;simp only at u1 u2 u3;refine Def.s ⟨u3,?_,?_⟩<;>(simp only;rw [yQ (by omega) (by omega)];omega)
 obtain ⟨B,A,ver⟩:=r;obtain ⟨w1,w2,w3⟩:=hr;simp only at w1 w2 w3;refine Def.c (λh=>?_) (λh=>?_)
 ·rw [beq_iff_eq] at h;refine Def.bd (zLr _ w1) (λr hr=>?_);obtain ⟨pl,c5⟩:=r;obtain ⟨⟨L,l1,l2,l3,l4⟩,z⟩:=hr;simp only at l1 z;have hfl:=cB L l4;refine Def.s ⟨⟨h1,h4,w2,w3,n1,n2,by simp only;rw [l1];omega,λ_=>⟨L,zTc _ L l1 l3 l4,l2,l3,l4⟩⟩,rfl,z⟩
 ·have hr4:role≠4:=by simpa using h
  refine Def.bd (oU _ 7 w1 (by decide)) (λr hr=>?_);obtain ⟨v5,c5⟩:=r;obtain ⟨x1,x2,x3⟩:=hr;simp only at x1 x2 x3;refine Def.bd (Def.mkN x1 (by omega)) (λn hn=>?_);refine Def.bd (P:=λr=>cC ⟨r.1,r.2.1⟩/\r.2.2.length=n) ?_ (λr hr=>?_)
  ·refine Def.loop (λs=>0<=s.1/\s.1<=n/\cC ⟨s.2.1,s.2.2.1⟩/\s.2.2.2.length=n) (λs=>((n:Int) - s.1).toNat) (λs hs=>?_) ⟨Qt 0,by simp,x3,by simp⟩ (by simp;omega);obtain ⟨i,B,A,v⟩:=s;obtain ⟨y1,y2,y3,y4⟩:=hs;simp only at y1 y2 y3 y4;unfold iC;refine Def.c (λh=>?_) (λ_=>Def.s ⟨y3,y4⟩);rw [decide_eq_true_iff] at h;refine Def.bd (oU _ 256 y3 (by decide)) (λr hr=>?_);obtain ⟨v6,c6⟩:=r;obtain ⟨_,_,z3⟩:=hr;refine Def.bd (Def.ixN y1 h) (λj hj=>?_);refine Def.bd (Def.upd (by omega)) (λu hu=>Def.s ?_);rw [yQ (by omega) (by omega)];refine ⟨⟨by simp only;omega,by simp only;omega,z3,by simp only [hu,List.length_set];exact y4⟩,by simp only;omega⟩
  obtain ⟨B,A,v⟩:=r;obtain ⟨y1,y2⟩:=hr;simp only at y1 y2;refine Def.bd (Def.ck (beqT y2)) (λ_ _=>?_);refine Def.bd (Def.ck (zFl (by omega))) (λ_ _=>?_);refine Def.s ⟨⟨h1,h4,w2,w3,n1,n2,by simp only;omega,λe=>absurd e hr4⟩,rfl,y1⟩
set_option maxRecDepth 100000
def Bef (a b:zD):Prop:=a.Role<=b.Role/\¬ (a.Role=b.Role/\a.Name=b.Name)
structure pN (l:List zD):Prop where
 len:l.length<=8
 im:∀ x∈l,sV x
 prs:l.Pairwise Bef
 h1:∃ x∈l,x.Role=1
 h3:∃ x∈l,x.Role=3
theorem kH (h:i<l.length) {x:α} (hx:x∈l.take (i+1)):x∈l.take i∨x=l[i]:=by
 rw [Q7,Qs] at hx;rcases hx with hx | hx
 ·exact .inl hx
 ·right;simpa [h] using hx
theorem zT2 (l:List zD) (v:zD) (hl:l.length<=20):Def (zL (eY l v) FU (false,0)) (λr=>(r=true->∃ x∈l,x.Role=v.Role)/\(r=false->∀ x∈l,¬ (x.Role=v.Role/\x.Name=v.Name))):=by
 refine Def.loop (λs=>∃ i:Nat,s.2=(i:Int)/\i<=l.length/\(s.1=true->∃ x∈l,x.Role=v.Role)/\(s.1=false->∀ x∈l.take i,¬ (x.Role=v.Role/\x.Name=v.Name))) (λs=>l.length - s.2.toNat) (λs hs=>?_) ⟨0,rfl,by omega,by simp,by simp⟩ (by simp;omega);obtain ⟨ag,i'⟩:=s;obtain ⟨i,g1,g2,g3,g4⟩:=hs;simp only at g1 g3 g4;subst g1;unfold eY;refine Def.c (λh=>?_) (λh=>Def.s ⟨g3,λe=>?_⟩)
 ·have hi:i<l.length:=by have:=dT h;omega
  refine Def.bd (P:=λr=>(r=true->∃ x∈l,x.Role=v.Role)/\(r=false->ag=false/\¬ (l[i].Role=v.Role/\l[i].Name=v.Name))) ?_ (λr hr=>?_)
  ·refine Def.c (λha=>Def.s ⟨λ_=>g3 ha,λe=>by simp at e⟩) (λha=>?_);refine Def.bd (Def.at' hi) (λy hy=>?_);subst hy;refine Def.c (λhr=>?_) (λhr=>Def.s ⟨λe=>by simp at e,λ_=>⟨ha,λe=>by simp [e.1] at hr⟩⟩);rw [beq_iff_eq] at hr;refine Def.bd (Def.at' hi) (λy hy=>?_);subst hy;refine Def.s ⟨λ_=>⟨_,Qb hi,hr⟩,λe=>⟨ha,λe2=>?_⟩⟩;simp [e2.2] at e
  ·refine Def.s ?_;rw [wS (by omega)];refine ⟨⟨i+1,rfl,by omega,hr.1,λe x hx=>?_⟩,by simp only [Q8];omega⟩;obtain ⟨k1,k2⟩:=hr.2 e;rcases kH hi hx with hx | rfl
   ·exact g4 k1 x hx
   ·exact k2
 ·have:=dF h;rw [Q3 (by omega)] at g4;exact g4 e
structure ChI (role:Int) (l:List zD):Prop where
 im:∀ x∈l,sV x/\x.Role<=role
 prs:l.Pairwise Bef
 h1:2<=role->∃ x∈l,x.Role=1
 h3:4<=role->∃ x∈l,x.Role=3
theorem zRd (role:Int) (h1:1<=role) (h4:role<=4) (l:List zD) (n:Int) (c:zJ) (hc:cC c) (hn:0<=n) (hl:(l.length:Int)+n<=2*role) (hI:ChI role l) (hk:role=1∨role=3->1<=n) :
  Def (zL (dC role) FU (l,n,c.B,c.At)) (λr=>(r.1.length:Int)<=2*role/\ChI role r.1/\(role=1∨role=3->∃ x∈r.1,x.Role=role)/\cC ⟨r.2.1,r.2.2⟩):=by
 refine Def.loop (λs=>0<=s.2.1/\(s.1.length:Int)+s.2.1<=2*role/\ChI role s.1/\(role=1∨role=3->1<=s.2.1∨∃ x∈s.1,x.Role=role)/\cC ⟨s.2.2.1,s.2.2.2⟩) (λs=>s.2.1.toNat) (λs hs=>?_) ⟨hn,hl,hI,λe=>.inl (hk e),hc⟩ (by simp only;omega);obtain ⟨l,n,B,A⟩:=s;obtain ⟨g1,g2,g3,g4,g5⟩:=hs;simp only at g1 g2 g3 g4 g5;unfold dC;refine Def.c (λh=>?_) (λh=>Def.s ?_)
 ·have hn:=dT h;refine Def.bd (P:=λr=>(r.1.length:Int)+(n - 1)<=2*role/\ChI role r.1/\(∃ x∈r.1,x.Role=role)/\cC ⟨r.2.1,r.2.2⟩) ?_ (λr hr=>?_)
  ·refine Def.bd (zP5 _ role g5 h1 h4) (λr hr=>?_);obtain ⟨v,c⟩:=r;obtain ⟨k1,k2,k3⟩:=hr;simp only at k1 k2 k3;refine Def.bd (zT2 l v (by omega)) (λag ha=>?_);refine Def.c (λhg=>?_) (λhg=>?_)
   ·have hgf:ag=false:=by simpa using hg
    refine Def.bd (Def.app (by simp;omega)) (λl' hl'=>Def.s ?_);subst hl';refine ⟨by simp;omega,⟨λx hx=>?_,?_,λe=>?_,λe=>?_⟩,⟨v,by simp,k2⟩,k3⟩
    ·rw [Qs] at hx;rcases hx with hx | hx
     ·exact g3.im x hx
     ·simp at hx;subst hx;exact ⟨k1,by omega⟩
    ·rw [List.pairwise_append];refine ⟨g3.prs,by simp,λa ha' b hb=>?_⟩;simp at hb;subst hb;exact ⟨by have:=(g3.im a ha').2;omega,ha.2 hgf a ha'⟩
    ·obtain ⟨x,hx,e2⟩:=g3.h1 e;exact ⟨x,by simp [hx],e2⟩
    ·obtain ⟨x,hx,e2⟩:=g3.h3 e;exact ⟨x,by simp [hx],e2⟩
   ·have hgt:ag=true:=by simpa using hg
    obtain ⟨x,hx,e⟩:=ha.1 hgt;exact Def.s ⟨by simp only;omega,g3,⟨x,hx,by omega⟩,k3⟩
  ·obtain ⟨l',B',A'⟩:=r;obtain ⟨k1,k2,k3,k4⟩:=hr;simp only at k1 k2 k3 k4;refine Def.s ?_;rw [yQ (by omega) (by omega)];exact ⟨⟨by simp only;omega,k1,k2,λ_=>.inr k3,k4⟩,by simp only;omega⟩
 ·have hn:=dF h;refine ⟨by simp only;omega,g3,λe=>?_,g5⟩;rcases g4 e with h | h
  ·omega
  ·exact h
theorem zQu (codes:By):Def (bK codes) pN:=by
 unfold bK;refine Def.bd (zVg codes 200 (by decide) (by decide)) (λc hc=>?_);refine Def.bd (P:=pN) ?_ (λr hr=>Def.s hr);refine Def.loop (λs=>1<=s.2.1/\s.2.1<=5/\(s.1.length:Int)<=2*(s.2.1 - 1)/\(∀ x∈s.1,sV x/\x.Role<s.2.1)/\s.1.Pairwise Bef/\(2<=s.2.1->∃ x∈s.1,x.Role=1)/\(4<=s.2.1->∃ x∈s.1,x.Role=3)/\cC ⟨s.2.2.1,s.2.2.2⟩) (λs=>(5 - s.2.1).toNat) (λs hs=>?_) ⟨Qt 1,by simp,by simp,by simp,by simp,by simp,by simp,hc⟩ (by simp);obtain ⟨l,role,B,A⟩:=s;obtain ⟨g1,g2,g3,g4,g5,g6,g7,g8⟩:=hs;simp only at g1 g2 g3 g4 g5 g6 g7 g8;unfold zB6;refine Def.c (λh=>?_) (λh=>Def.s ?_)
 ·have hr:=dT h;refine Def.bd (oU _ 3 g8 (by decide)) (λr hr=>?_);obtain ⟨v,c1⟩:=r;obtain ⟨k1,k2,k3⟩:=hr;simp only at k1 k2 k3;refine Def.bd (P:=λr=>0<=r.1/\r.1<=2/\(role=1∨role=3->1<=r.1)/\cC ⟨r.2.1,r.2.2⟩) ?_ (λr hr=>?_)
  ·refine Def.bd (P:=λb=>b=false->¬ (role=1∨role=3)) ?_ (λb hb=>?_)
   ·refine Def.c (λh=>Def.s (λe=>by simp at e)) (λh=>Def.s (λe=>?_));simp at h e;omega
   refine Def.c (λ_=>?_) (λhf=>Def.s ⟨k1,by simp only;omega,λe=>absurd e (hb hf),k3⟩);refine Def.bd (oU _ 2 k3 (by decide)) (λr hr=>?_);obtain ⟨v2,c2⟩:=r;obtain ⟨j1,j2,j3⟩:=hr;simp only at j1 j2 j3;have e:Q0.wrap (1+v2)=1+v2:=yQ (by omega) (by omega);exact Def.s ⟨by simp only [e];omega,by simp only [e];omega,λ_=>by simp only [e];omega,j3⟩
  obtain ⟨n,B1,A1⟩:=r;obtain ⟨j1,j2,j3,j4⟩:=hr;simp only at j1 j2 j3 j4;refine Def.bd (zRd role g1 hr l n ⟨B1,A1⟩ j4 j1 (by omega) ⟨λx hx=>⟨(g4 x hx).1,by have:=(g4 x hx).2;omega⟩,g5,g6,g7⟩ j3) (λr hr=>?_);obtain ⟨l',B2,A2⟩:=r;obtain ⟨m1,m2,m3,m4⟩:=hr;simp only at m1 m2 m3 m4;refine Def.s ?_;rw [yQ (by omega) (by omega)];refine ⟨⟨by simp only;omega,by simp only;omega,by simp only;omega,λx hx=>⟨(m2.im x hx).1,by have:=(m2.im x hx).2;simp only;omega⟩,m2.prs,λe=>?_,λe=>?_,m4⟩,by simp only;omega⟩
  ·simp only at e;by_cases h1:role=1
   ·obtain ⟨x,hx,e2⟩:=m3 (.inl h1);exact ⟨x,hx,by omega⟩
   ·exact m2.h1 (by omega)
  ·simp only at e;by_cases h3:role=3
   ·obtain ⟨x,hx,e2⟩:=m3 (.inr h3);exact ⟨x,hx,by omega⟩
   ·exact m2.h3 (by omega)
 ·have hr:=dF h;exact ⟨by omega,λx hx=>(g4 x hx).1,g5,g6 (by omega),g7 (by omega)⟩
theorem pw {l:List zD} (h:l.Pairwise Bef) (hj:j<l.length) (hij:i<j):Bef (l[i]'(by omega)) l[j]:=List.pairwise_iff_getElem.mp h i j (by omega) hj hij
theorem zC1 (l:List zD) (h:pN l):uK l=some 0:=by
 obtain ⟨hlen,him,hp,h1,h3⟩:=h;have hne:l.length≠0:=by
  obtain ⟨x,hx,_⟩:=h1;intro e;rw [List.length_eq_zero_iff] at e;rw [e] at hx;simp at hx
 have hl1:∀ i:Nat,i<l.length->Def (zL (wL l (i:Int)) FU 0) (λr=>r=.inr ()):=by
  intro i hi;refine Def.loop (λs=>∃ k:Nat,s=(k:Int)/\k<=i) (λs=>i - s.toNat) (λs hs=>?_) ⟨0,rfl,by omega⟩ (by simp;omega);obtain ⟨k,rfl,hk⟩:=hs;unfold wL;refine Def.c (λh=>?_) (λh=>Def.s rfl);have hki:=dT h;have hb:=pw hp hi (show k<i by omega);refine Def.bd (P:=λb=>b=false) ?_ (λb hb'=>?_)
  ·refine Def.bd (Def.at' (show k<l.length by omega)) (λy hy=>?_);subst hy;refine Def.bd (Def.at' hi) (λy hy=>?_);subst hy;refine Def.c (λhr=>?_) (λ_=>Def.s rfl);rw [beq_iff_eq] at hr;refine Def.bd (Def.at' (show k<l.length by omega)) (λy hy=>?_);subst hy;refine Def.bd (Def.at' hi) (λy hy=>?_);subst hy;refine Def.s ?_;rw [beq_eq_false_iff_ne];exact λe=>hb.2 ⟨hr,e⟩
  subst hb';refine Def.s ?_;rw [wS (by omega)];exact ⟨⟨k+1,rfl,by omega⟩,by simp only [Q8];omega⟩
 have hd:Def (zL (xQ l) FU (false,false,0)) (λr=>r=.inr (true,true)):=by
  refine Def.loop (λs=>∃ i:Nat,s.2.2=(i:Int)/\i<=l.length/\((∃ x∈l.take i,x.Role=1)->s.1=true)/\((∃ x∈l.take i,x.Role=3)->s.2.1=true)) (λs=>l.length - s.2.2.toNat) (λs hs=>?_) ⟨0,rfl,by omega,by simp,by simp⟩ (by simp;omega);obtain ⟨f,k,i'⟩:=s;obtain ⟨i,g1,g2,g3,g4⟩:=hs;simp only at g1 g3 g4;subst g1;unfold xQ;refine Def.c (λh=>?_) (λh=>Def.s ?_)
  ·have hi:i<l.length:=by have:=dT h;omega
   refine Def.bd (Def.at' hi) (λy hy=>?_);subst hy;refine Def.bd (P:=λr=>r=0) (Def.of (bZ _ (him _ (Qb hi))) rfl) (λr hr=>?_);subst hr;refine Def.c (λh=>by simp at h) (λ_=>?_);refine Def.bd (P:=λb=>b=false) ?_ (λb hb=>?_)
   ·refine Def.c (λh0=>?_) (λ_=>Def.s rfl);have h0':=dT h0;refine Def.bd (Def.at' hi) (λy hy=>?_);subst hy;rw [yQ (by omega) (by omega),show (i:Int) - 1=((i - 1:Nat):Int) by omega];refine Def.bd (Def.at' (show i - 1<l.length by omega)) (λy hy=>?_);subst hy;have hb:=(pw hp hi (show i - 1<i by omega)).1;refine Def.s ?_;rw [decide_eq_false_iff_not];omega
   subst hb;refine Def.c (λh=>by simp at h) (λ_=>?_);refine Def.bd (hl1 i hi) (λr hr=>?_);subst hr;refine Def.bd (P:=λb=>f=true∨l[i].Role=1->b=true) ?_ (λb1 hb1=>?_)
   ·refine Def.c (λ_=>Def.s (λ_=>rfl)) (λhf=>?_);refine Def.bd (Def.at' hi) (λy hy=>?_);subst hy;refine Def.s (λe=>?_);rcases e with e | e
    ·rw [hf] at e;cases e
    ·rw [e];rfl
   refine Def.bd (P:=λb=>k=true∨l[i].Role=3->b=true) ?_ (λb2 hb2=>?_)
   ·refine Def.c (λ_=>Def.s (λ_=>rfl)) (λhf=>?_);refine Def.bd (Def.at' hi) (λy hy=>?_);subst hy;refine Def.s (λe=>?_);rcases e with e | e
    ·rw [hf] at e;cases e
    ·rw [e];rfl
   refine Def.s ?_;rw [wS (by omega)];refine ⟨⟨i+1,rfl,by omega,λe=>?_,λe=>?_⟩,by simp only [Q8];omega⟩
   ·obtain ⟨x,hx,e⟩:=e;rcases kH hi hx with hx | rfl
    ·exact hb1 (.inl (g3 ⟨x,hx,e⟩))
    ·exact hb1 (.inr e)
   ·obtain ⟨x,hx,e⟩:=e;rcases kH hi hx with hx | rfl
    ·exact hb2 (.inl (g4 ⟨x,hx,e⟩))
    ·exact hb2 (.inr e)
  ·have:=dF h;rw [Q3 (by omega)] at g3 g4;rw [g3 h1,g4 h3]
 obtain ⟨r,e,rfl⟩:=hd;unfold uK;refine bd (a:=false) (cf ?_ (congrArg some ?_)) ?_
 ·rw [beq_eq_false_iff_ne];omega
 ·rw [decide_eq_false_iff_not];omega
 refine cf rfl ?_;refine bd e ?_;rfl
def pY (x:zD):By:=zCf (zCf (rB (rB [] 1 x.Role) 4 x.Version) x.Name) x.Payload
theorem zHg (x:zD):5<=(pY x).length/\(pY x).length<2 ^ 20:=by
 have h1:=zA8 (rB (rB [] 1 x.Role) 4 x.Version) x.Name;have h2:=zA8 (zCf (rB (rB [] 1 x.Role) 4 x.Version) x.Name) x.Payload;have h3:(rB (rB [] 1 x.Role) 4 x.Version).length=5:=by rw [uE,uE];rfl
 refine ⟨?_,by unfold pY;omega⟩;unfold pY zCf;simp only [Q2,uE,h3];omega
theorem zM4 (x:zD) (h:sV x):pG x=some (pY x):=by
 have hi:=bZ x h;obtain ⟨_,_,_,_,_,h6,h7,_⟩:=h;have h3:(rB (rB [] 1 x.Role) 4 x.Version).length=5:=by rw [uE,uE];rfl
 have h4:=zA8 (rB (rB [] 1 x.Role) 4 x.Version) x.Name;unfold pG;refine bd hi ?_;refine cf rfl ?_;refine bd (zH7 [] 1 _ (by omega) (by omega) (by simp)) ?_;refine bd (zH7 _ 4 _ (by omega) (by omega) (by rw [uE];simp)) ?_;refine bd (ckT (zFl (by omega))) ?_;refine bd (zMt _ _ (by omega)) ?_;exact bd (zMt _ _ (by omega)) rfl
theorem zNt (x:zD) (active:Int) (h:sV x):kY x active=some (dgE active true (pY x)):=by
 have hl:=zHg x;unfold kY dgE;refine bd (zM4 x h) ?_;generalize pY x=data at hl;have on:∀ a:Int,(bif decide (0<(data.length:Int)) then ((lY active a).bind λv=>some v) else some false:Option Bool)=some (true&&xH active a):=by
  intro a;exact ct (by simp;omega) rfl
 refine bd (a:=[if (true&&xH active 0)=true then lZ data else [],if (true&&xH active 1)=true then sha data else []]) (two (b:=(1,[if (true&&xH active 0)=true then lZ data else [],[]])) (c:=(2,[if (true&&xH active 0)=true then lZ data else [],if (true&&xH active 1)=true then sha data else []])) ?_ ?_ rfl) ?_
 ·unfold kA;refine ct rfl ?_;refine bd (a:=[if (true&&xH active 0)=true then lZ data else [],[]]) ?_ rfl;refine bd (on 0) ?_;refine (zE4 (a:=0) rfl (by omega) (zGr data (by omega))).trans ?_;cases (true&&xH active 0)<;>rfl
 ·unfold kA;refine ct rfl ?_;refine bd (a:=[if (true&&xH active 0)=true then lZ data else [],if (true&&xH active 1)=true then sha data else []]) ?_ rfl;refine bd (on 1) ?_;refine (zE4 (a:=1) rfl (by omega) (zGw data (by omega))).trans ?_;cases (true&&xH active 1)<;>rfl
 exact bd (ckT rfl) rfl
theorem aW:∀ f u,(decF f u).length<=f
 | 0,_=>Qd _
 | f+1,u=>by
  unfold decF;cases W4 u 10
  ·simp only [cond_false,Q2,Qw];have:=aW f (u / 10);omega
  ·simp only [cond_true,Qw];omega
theorem zNh (n:Nat) (h:n<10):u8 (Q0.wrap (48+(n:Int)))=UInt8.ofNat (48+n):=by
 rw [yQ (by omega) (by omega),show (48:Int)+(n:Int)=((48+n:Nat):Int) by omega];apply UInt8.toNat_inj.mp;rw [hP];simp
theorem zQn:∀ (k fl f:Nat) (n:Nat),n<10 ^ (k+1)->n<2 ^ 40->k<fl->k<f->f<=20->oL fl (n:Int)=some (decF f n):=by
 intro k;induction k with
 | zero=>
  intro fl f n h1 _ hf hf2 _;obtain ⟨g,rfl⟩:∃ g,fl=g+1:=⟨fl - 1,by omega⟩;obtain ⟨g2,rfl⟩:∃ g,f=g+1:=⟨f - 1,by omega⟩;have h10:n<10:=by simpa using h1
  unfold oL decF;refine ct (by simp;omega) ?_;rw [show W4 n 10=true by simpa [W3] using h10,zNh n h10];rfl
 | succ k ih=>
  intro fl f n h1 h2 hf hf2 h20;obtain ⟨g,rfl⟩:∃ g,fl=g+1:=⟨fl - 1,by omega⟩;obtain ⟨g2,rfl⟩:∃ g,f=g+1:=⟨f - 1,by omega⟩;unfold oL decF;by_cases h10:n<10
  ·refine ct (by simp;omega) ?_;rw [show W4 n 10=true by simpa [W3] using h10,zNh n h10];rfl
  ·have hd:n / 10<10 ^ (k+1):=by
    rw [Nat.pow_succ] at h1;omega
   refine cf (by simp;omega) ?_;rw [show W4 n 10=false by rw [Bool.eq_false_iff];intro e;rw [W3] at e;omega];rw [show W6 (n:Int) 10=((n / 10:Nat):Int) from rfl,yQ (by omega) (by omega)];refine bd (ih g g2 (n / 10) hd (by omega) (by omega) (by omega) (by omega)) ?_;have:=aW g2 (n / 10);refine bd (yI (by simp;omega)) ?_;rw [show W7 (n:Int) 10=((n % 10:Nat):Int) from rfl,zNh (n % 10) (by omega)];rfl
def lbl (x:zD):By:=(x.Name++[32])++decF 20 x.Version.toNat
theorem zTv (x:zD) (h:sV x):eC x.Name x.Version=some (lbl x):=by
 have h1:=h.nl;have h2:=h.v0;have h3:=h.v1;obtain ⟨n,hn⟩:=Q9 h2;unfold eC lbl;rw [hn];refine bd (ckT (zFl (by omega))) ?_;refine bd (yI (by simp;omega)) ?_;refine bd (zQn 6 RF 20 n (by show n<10000000;omega) (by omega) (by decide) (by decide) (by decide)) ?_;have:=aW 20 n;exact bd (yI (by rw [Q2];simp only [Qc,Qo];omega)) rfl
def rgR (role:Int):Int:=if role=1 then 0 else if role=2 then 4 else if role=3 then 8 else if role=4 then 9 else -1
theorem zUi (r:Int):lD r=some (rgR r):=by
 unfold lD rgR;by_cases h1:r=1
 ·rw [if_pos h1];exact ct (by simp [h1]) rfl
 rw [if_neg h1];refine cf (by simp [h1]) ?_;by_cases h2:r=2
 ·rw [if_pos h2];exact ct (by simp [h2]) rfl
 rw [if_neg h2];refine cf (by simp [h2]) ?_;by_cases h3:r=3
 ·rw [if_pos h3];exact ct (by simp [h3]) rfl
 rw [if_neg h3];refine cf (by simp [h3]) ?_;by_cases h4:r=4
 ·rw [if_pos h4];exact ct (by simp [h4]) rfl
 ·rw [if_neg h4];exact cf (by simp [h4]) rfl
def imE (active:Int) (x:zD):zB:=⟨rgR x.Role,1,dgE active true (pY x),lbl x⟩
theorem zN5 (x:zD) (active:Int) (h:sV x) (h4:x.Role≠4):kS x active=some (imE active x):=by
 unfold kS;refine bd (a:=false) ?_ ?_
 ·refine bd (bZ x h) ?_;refine cf rfl ?_;rw [show (x.Role==4)=false by simp [h4]]
 refine cf rfl ?_;refine bd (zUi _) ?_;refine bd (zNt x active h) ?_;exact bd (zTv x h) rfl
def zF3 (x:zD):List By:=(uM x).getD []
def evR (active role:Int) (l:List zD):List zB:=l.flatMap λx=>if x.Role=role then (if role=4 then (zF3 x).map (mkE 9 3 active) else [imE active x]) else []
def dY (active:Int):List zB:=(W0 8).map λ(i:Nat)=>mkE (i:Int) 2 active [0,0,0,0]
def evs (l:List zD) (active:Int):List zB:=evR active 1 l++evR active 2 l++(dY active++evR active 3 l)++evR active 4 l
theorem zKg (x:zD) (h:sV x) (h4:x.Role=4):uM x=some (zF3 x)/\(zF3 x).length<=4/\∀ l∈zF3 x,zI5 l:=by
 obtain ⟨L,h1,_,h2,h3⟩:=h.l h4;unfold zF3;rw [h1];exact ⟨rfl,h2,h3⟩
theorem zD6 (active role:Int) (x:zD) (h:sV x):(if x.Role=role then (if role=4 then (zF3 x).map (mkE 9 3 active) else [imE active x]) else []).length<=4/\(x.Role=role∨(if x.Role=role then (if role=4 then (zF3 x).map (mkE 9 3 active) else [imE active x]) else []).length=0):=by
 by_cases hr:x.Role=role
 ·rw [if_pos hr];refine ⟨?_,.inl hr⟩;by_cases h4:role=4
  ·rw [if_pos h4,List.length_map];exact (zKg x h (by omega)).2.1
  ·rw [if_neg h4];simp
 ·rw [if_neg hr];exact ⟨by simp,.inr rfl⟩
theorem zOn (active role:Int) (l:List zD) (h:∀ x∈l,sV x):(evR active role l).length<=4*l.length:=by
 induction l with
 | nil=>simp [evR]
 | cons x t ih=>
  have h1:=(zD6 active role x (h x (Qg ..))).1;have h2:=ih (λy hy=>h y (Qx _ hy));unfold evR at h2 ⊢;rw [Qa,Q2,Qc];omega
theorem zKr (active:Int) (l:List zD) (h:∀ x∈l,sV x):(evR active 1 l).length+(evR active 2 l).length+(evR active 3 l).length+(evR active 4 l).length<=4*l.length:=by
 induction l with
 | nil=>simp [evR]
 | cons x t ih=>
  have h0:=zD6 active 1 x (h x (Qg ..));have h1:=zD6 active 2 x (h x (Qg ..));have h2:=zD6 active 3 x (h x (Qg ..));have h3:=zD6 active 4 x (h x (Qg ..));have hi:=ih (λy hy=>h y (Qx _ hy));unfold evR at hi ⊢;rw [Qa,Qa,Qa,Qa,Q2,Q2,Q2,Q2,Qc];omega
theorem zAv (active:Int):(dY active).length=8:=by simp [dY]
theorem aV (l:List zD) (active:Int) (h:pN l):8<=(evs l active).length/\(evs l active).length<=40:=by
 have h1:=zKr active l h.im;have h2:=h.len;have h3:=zAv active;unfold evs;simp only [Q2];omega
theorem zS1 (active:Int) (out:List zB) (h:out.length<=100):zL (nD active) FU (out,0)=some (out++dY active):=by
 refine yG 8 (λi=>(out++(dY active).take i,(i:Int))) (by simp) (λi hi=>?_) ?_ (xM (by decide))
 ·unfold nD;refine ct (by simp;omega) ?_;refine bd (a:=[0,0,0,0]) rfl ?_;refine bd (zOp _ 2 active _ (by decide)) ?_;refine bd (yI (by simp [dY];omega)) ?_;rw [wS (by omega),Q7,Q6];have:(dY active)[i]? = some (mkE (i:Int) 2 active [0,0,0,0]):=by simp [dY,hi]
  rw [this];rfl
 ·unfold nD;refine cf rfl ?_;rw [Q3 (by rw [zAv];omega)]
theorem zQy (active:Int) (out:List zB) (L:List By) (h:out.length<=100) (hl:L.length<=4) (h8:∀ l∈L,l.length<=8):zL (nJ active L) FU (out,0)=some (out++L.map (mkE 9 3 active)):=by
 refine yG L.length (λi=>(out++(L.map (mkE 9 3 active)).take i,(i:Int))) (by simp) (λi hi=>?_) ?_ (xM (by omega))
 ·have:=h8 _ (Qb hi);unfold nJ;refine ct (dlt hi) ?_;refine bd (yM hi) ?_;refine bd (zOp _ 3 active _ (by omega)) ?_;refine bd (yI (by simp;omega)) ?_;rw [wS (by omega),Q7,Q6];simp [hi]
 ·unfold nJ;refine cf (dge (Qd _)) ?_;rw [Q3 (by simp)]
theorem zBj (active role:Int) (l:List zD) (out:List zB) (hl:l.length<=8) (him:∀ x∈l,sV x) (h:out.length<=60) (h4:role<=4):zL (nA l active role) FU (out,0)=some (out++evR active role l):=by
 refine yG l.length (λi=>(out++evR active role (l.take i),(i:Int))) (by simp [evR]) (λi hi=>?_) ?_ (xM (by omega))
 ·have hg:=him _ (Qb hi);have hle:=zOn active role (l.take i) (λx hx=>him x (List.mem_of_mem_take hx));rw [List.length_take] at hle;have hs:evR active role (l.take (i+1))=evR active role (l.take i)++(if l[i].Role=role then (if role=4 then (zF3 l[i]).map (mkE 9 3 active) else [imE active l[i]]) else []):=by
   unfold evR;rw [Q7,Qi];simp [hi]
  have hol:(out++evR active role (l.take i)).length<=100:=by rw [Q2];omega
  rw [hs,<- Q6];generalize out++evR active role (l.take i)=o at hol;unfold nA;refine ct (dlt hi) ?_;refine bd (a:=o++(if l[i].Role=role then (if role=4 then (zF3 l[i]).map (mkE 9 3 active) else [imE active l[i]]) else [])) ?_ (by rw [wS (by omega)]);refine bd (yM hi) ?_;by_cases hr:l[i].Role=role
  ·rw [if_pos hr];refine cf (by simp [hr]) ?_;by_cases hr4:role=4
   ·rw [if_pos hr4];refine cf (by simp [hr4]) ?_;refine bd (yM hi) ?_;obtain ⟨q1,q2,q3⟩:=zKg _ hg (by omega);refine bd q1 ?_;exact bd (zQy active o _ hol q2 (λl hl=>(q3 l hl).2.1)) rfl
   ·rw [if_neg hr4];refine ct (by simp [hr4]) ?_;refine bd (yM hi) ?_;refine bd (zN5 _ active hg (by omega)) ?_;exact bd (yI (by simp;omega)) rfl
  ·rw [if_neg hr];refine ct (by simp [hr]) ?_;simp
 ·unfold nA;refine cf (dge (Qd _)) ?_;simp
theorem dI (l:List zD) (active:Int) (h:pN l) (h1:1<=active) (h3:active<=3):rP l active=some (evs l active):=by
 have hc:=zC1 l h;have hl:=h.len;have hb:=zKr active l h.im;have hsl:=zAv active;unfold rP;refine bd (a:=false) ?_ ?_
 ·refine bd hc ?_;refine cf rfl ?_;refine cf (by simp;omega) ?_;rw [show decide (3<active)=false by simp;omega]
 refine cf rfl ?_;refine bd (a:=evs l active) ?_ rfl;refine yG (x:=(([]:List zB),(1:Int))) 4 (λi=>match i with | 0=>([],1) | 1=>(evR active 1 l,2) | 2=>(evR active 1 l++evR active 2 l,3) | 3=>(evR active 1 l++evR active 2 l++(dY active++evR active 3 l),4) | _=>(evs l active,5)) rfl (λi hi=>?_) rfl (xM (by decide));have:i=0∨i=1∨i=2∨i=3:=by omega
 rcases this with rfl | rfl | rfl | rfl
 ·show vF l active ([],1)=some (.inl (evR active 1 l,2));unfold vF;refine ct rfl ?_;refine bd (a:=[]) rfl ?_;exact bd (zBj active 1 l [] hl h.im (by simp) (by omega)) rfl
 ·show vF l active (evR active 1 l,2)=some (.inl (evR active 1 l++evR active 2 l,3));unfold vF;refine ct rfl ?_;refine bd (a:=evR active 1 l) rfl ?_;exact bd (zBj active 2 l _ hl h.im (by omega) (by omega)) rfl
 ·show vF l active (evR active 1 l++evR active 2 l,3)=some (.inl (evR active 1 l++evR active 2 l++(dY active++evR active 3 l),4));unfold vF;refine ct rfl ?_;refine bd (a:=evR active 1 l++evR active 2 l++dY active) (bd (zS1 active _ (by rw [Q2];omega)) rfl) ?_;refine bd (zBj active 3 l _ hl h.im (by simp only [Q2];omega) (by omega)) ?_;rw [Q6];rfl
 ·show vF l active (evR active 1 l++evR active 2 l++(dY active++evR active 3 l),4)=some (.inl (evs l active,5));unfold vF;refine ct rfl ?_;refine bd (a:=evR active 1 l++evR active 2 l++(dY active++evR active 3 l)) rfl ?_;exact bd (zBj active 4 l _ hl h.im (by simp only [Q2];omega) (by omega)) rfl
set_option maxRecDepth 100000
theorem zLa (n m:Int) (hm:1<=m) (hm2:m<2 ^ 40):Def (cA n m) (λr=>0<=r/\r<m):=by
 unfold cA;refine Def.c (λh=>by have:=dT h;omega) (λ_=>?_);refine Def.bd (Def.ck (by simp;omega)) (λ_ _=>?_);have h1:-m<W7 n m:=by
  have:=Int.lt_tmod_of_pos n (by omega:0<m);omega
 have h2:W7 n m<m:=Int.tmod_lt_of_pos n (by omega);refine Def.bd (P:=λr=>0<=r/\r<m) ?_ (λr hr=>Def.s hr);refine Def.c (λh=>Def.s ?_) (λh=>Def.s ?_)
 ·have:=dT h;rw [yQ (by omega) (by omega)];omega
 ·have:=dF h;omega
theorem zNe (n:Int):Def (eF n) (λr=>1<=r/\r<=3):=by
 unfold eF;refine Def.bd (zLa n 3 (by decide) (by decide)) (λr hr=>Def.s ?_);rw [yQ (by omega) (by omega)];omega
theorem zKj (a b:List α):(cpy a b).length=a.length:=by
 unfold cpy;simp;omega
set_option maxRecDepth 100000
def siz (a:Int):Int:=if a=0 then 20 else if a=1 then 32 else 0
theorem zGc (a:Int):lN a=some (siz a):=by
 unfold lN siz;by_cases h0:a=0
 ·rw [if_pos h0];exact ct (by simp [h0]) rfl
 ·rw [if_neg h0];refine cf (by simp [h0]) ?_;by_cases h1:a=1
  ·rw [if_pos h1];exact ct (by simp [h1]) rfl
  ·rw [if_neg h1];exact cf (by simp [h1]) rfl
def Fit (e:zB) (active:Int) (a:Nat):Prop:=((e.Digests.getD a []).length:Int)=if e.Kind≠5/\xH active (a:Int)=true then siz (a:Int) else 0
theorem nf2 (h:∃ i,i<2/\¬ Fit e active i):¬ (Fit e active 0/\Fit e active 1):=by
 obtain ⟨i,hi,hn⟩:=h;intro ⟨h0,h1⟩;have:i=0∨i=1:=by omega
 rcases this with rfl | rfl
 ·exact hn h0
 ·exact hn h1
theorem zLk {has:Option Bool} {size:Option Int} (h1:has=some (xH active (a:Int))) (h2:size=some (siz (a:Int))) :
  Def ((bif (e.Kind != 5) then has else some false:Option Bool).bind λv=>bif v then size else some 0) (λw=>w=if e.Kind≠5/\xH active (a:Int)=true then siz (a:Int) else 0):=by
 subst h1 h2;by_cases hk:e.Kind=5
 ·rw [show (e.Kind != 5)=false by simp [hk]];exact Def.s (by rw [if_neg (λh=>h.1 hk)])
 ·rw [show (e.Kind != 5)=true by simp [hk]];cases hb:xH active (a:Int)
  ·exact Def.s (by rw [if_neg (λh=>by cases h.2)])
  ·exact Def.s (by rw [if_pos ⟨hk,rfl⟩])
theorem zGn {w:Int} (hl:a<e.Digests.length) (hw:w=if e.Kind≠5/\xH active (a:Int)=true then siz (a:Int) else 0):((e.Digests[a].length:Int) != w)=false↔Fit e active a:=by
 unfold Fit;rw [<- hw];simp [hl]
theorem zU4 (e:zB) (active:Int):Def (oJ e active) (λr=>r=true↔e.Digests.length=2/\Fit e active 0/\Fit e active 1):=by
 unfold oJ;refine Def.c (λh=>Def.s ⟨λh=>(by cases h),λh2=>?_⟩) (λh=>?_)
 ·rw [h2.1] at h;cases h
 have hl:e.Digests.length=2:=by simp at h;omega
 refine Def.bd (hH e.Digests (sZ e active) (λi=>Fit e active i) (λb=>b=false/\∃ i,i<2/\¬ Fit e active i) (by omega) (λa ha=>?_) ?_) (λr hr=>?_)
 ·unfold sZ;refine Def.c (λ_=>?_) (λh=>by have:=dF h;omega);refine Def.bd (zLk (e:=e) (active:=active) (a:=a) rfl (by rw [zGc];rfl)) (λw hw=>?_);refine Def.bd (Def.at' ha) (λd hd=>?_);subst hd;refine Def.c (λhne=>Def.s ⟨rfl,a,by omega,λhF=>?_⟩) (λhne=>Def.s ⟨wS (by omega),(zGn ha hw).1 hne⟩);rw [(zGn ha hw).2 hF] at hne;cases hne
 ·unfold sZ;rw [hl];exact cf rfl rfl
 ·cases r with
  | inl b=>exact Def.s ⟨λh=>(by rw [hr.1] at h;cases h),λh=>absurd h.2 (nf2 hr.2)⟩
  | inr u=>exact Def.s ⟨λ_=>⟨hl,hr 0 (by omega),hr 1 (by omega)⟩,λ_=>rfl⟩
structure EvGood (e:zB) (active:Int):Prop where
 r0:0<=e.Register
 r1:e.Register<=11
 d:e.Data.length<=64
 l:e.Digests.length=2
 f0:Fit e active 0
 f1:Fit e active 1
structure EvC (e:zB) (active:Int):Prop extends EvGood e active where
 a1:1<=active
 a3:active<=3
 k1:1<=e.Kind
 k5:e.Kind<=5
theorem or6 {a d e f:Bool}:Def (bif a then some true else bif b then some true else bif c then some true else bif d then some true else bif e then some true else some f) (λr=>r=(a||b||c||d||e||f)):=by
 cases a<;>cases b<;>cases c<;>cases d<;>cases e<;>cases f<;>exact Def.s rfl
theorem zPw (h:b=(decide (active<1)||decide (3<active)||decide (e.Register<0)||decide (11<e.Register)||decide (e.Kind<1)||decide (5<e.Kind))) :
  b=false↔(1<=active/\active<=3/\0<=e.Register/\e.Register<=11/\1<=e.Kind/\e.Kind<=5):=by
 subst h;simp only [Bool.or_eq_false_iff,decide_eq_false_iff_not];omega
theorem zYz (e:zB) (active:Int):Def (eE e active) (λr=>r=0↔EvC e active):=by
 unfold eE;refine Def.bd or6 (λb hb=>?_);have hb:=zPw hb;refine Def.c (λh=>Def.s ⟨λh=>(by cases h),λhc=>?_⟩) (λhbf=>?_)
 ·have:=hb.2 ⟨hc.a1,hc.a3,hc.r0,hc.r1,hc.k1,hc.k5⟩;rw [this] at h;cases h
 obtain ⟨h1,h2,h3,h4,h5,h6⟩:=hb.1 hbf;refine Def.c (λh=>Def.s ⟨λh=>(by cases h),λhc=>?_⟩) (λhd=>?_)
 ·have:=dT h;have:=hc.d;omega
 have hd':=dF hd;refine Def.bd (zU4 e active) (λf hf=>?_);refine Def.c (λh=>Def.s ⟨λh=>(by cases h),λhc=>?_⟩) (λhft=>Def.s ⟨λ_=>?_,λ_=>rfl⟩)
 ·rw [hf.2 ⟨hc.l,hc.f0,hc.f1⟩] at h;cases h
 ·obtain ⟨k1,k2,k3⟩:=hf.1 (by simpa using hft);exact ⟨⟨h3,h4,by omega,k1,k2,k3⟩,h1,h2,h5,h6⟩
def bnk (n:Nat):List By:=Q4 12 (Q4 n 0)++Q4 4 (Q4 n 255)
theorem new1:dE 1=some ⟨[bnk 20,[]],0⟩:=by decide +kernel
theorem new2:dE 2=some ⟨[[],bnk 32],0⟩:=by decide +kernel
theorem new3:dE 3=some ⟨[bnk 20,bnk 32],0⟩:=by decide +kernel
structure zFy (active:Int) (r:zE):Prop where
 b:∃ b0 b1,r.Banks=[b0,b1]/\b0.length=(if xH active 0=true then 16 else 0)/\b1.length=(if xH active 1=true then 16 else 0)/\(∀ x∈b0,x.length<=32)/\(∀ x∈b1,x.length<=32)
theorem zE1 (b0 b1:List By) (u:Int):tN ⟨[b0,b1],u⟩ 0=some (decide (0<(b0.length:Int)))/\tN ⟨[b0,b1],u⟩ 1=some (decide (0<(b1.length:Int))):=⟨rfl,rfl⟩
theorem zQ5 (r:zE) (b0 b1:List By) (hb:r.Banks=[b0,b1]) (l0:b0.length<=16) (l1:b1.length<=16) (h0:∀ x∈b0,x.length<=32) (h1:∀ x∈b1,x.length<=32):zBk r=some (b0,b1,r.Updates):=by
 have cp:∀ x:By,x.length<=32->rD x=some x:=λx hx=>zGq x (by omega);unfold zBk;refine ct (by rw [hb];rfl) ?_;refine bd (a:=b0) ?_ ?_
 ·refine yG b0.length (λi=>(b0.take i,(i:Int))) (by simp) (λi hi=>?_) ?_ (xM (by omega))
  ·unfold cU;rw [hb];refine bd (a:=b0) rfl ?_;refine ct (dlt hi) ?_;refine bd (a:=b0) rfl ?_;refine bd (yM hi) ?_;refine bd (cp _ (h0 _ (Qb hi))) ?_;refine bd (yI (by simp;omega)) ?_;rw [wS (show i<2 ^ 40 by omega),Q7];simp [hi]
  ·unfold cU;rw [hb];refine bd (a:=b0) rfl ?_;refine cf (dge (Qd _)) ?_;simp
 refine ct (by rw [hb];rfl) ?_;refine bd (a:=(b1,b0)) ?_ ?_
 ·refine yG b1.length (λi=>(b1.take i,(i:Int),b0)) (by simp) (λi hi=>?_) ?_ (xM (by omega))
  ·unfold bF;rw [hb];refine bd (a:=b1) rfl ?_;refine ct (dlt hi) ?_;refine bd (a:=b1) rfl ?_;refine bd (yM hi) ?_;refine bd (cp _ (h1 _ (Qb hi))) ?_;refine bd (yI (by simp;omega)) ?_;rw [wS (show i<2 ^ 40 by omega),Q7];simp [hi]
  ·unfold bF;rw [hb];refine bd (a:=b1) rfl ?_;refine cf (dge (Qd _)) ?_;simp
 exact cf (by rw [hb];rfl) rfl
def upR (act:Bool) (bk:List By) (reg:Int) (f:By->By):List By:=if act=true then bk.set reg.toNat (f (bk.getD reg.toNat [])) else bk
def ext (active:Int) (e:zB) (r:zE):zE:=
 ⟨[upR (xH active 0) (r.Banks.getD 0 []) e.Register (λx=>lZ (x++e.Digests.getD 0 [])),upR (xH active 1) (r.Banks.getD 1 []) e.Register (λx=>sha (x++e.Digests.getD 1 []))],Q0.wrap (r.Updates+1)⟩
theorem zPl (act:Bool) (bk:List By) (reg:Int) (f:By->By):(upR act bk reg f).length=bk.length:=by unfold upR;split<;>simp
theorem zS3 {act:Bool} {bk:List By} {reg:Int} {f:By->By} (h:∀ x∈bk,x.length<=32) (hf:∀ x,(f x).length<=32):∀ x∈upR act bk reg f,x.length<=32:=by
 intro x hx;unfold upR at hx;split at hx
 ·rcases List.mem_or_eq_of_mem_set hx with hx | hx
  ·exact h x hx
  ·rw [hx];exact hf _
 ·exact h x hx
theorem zWw {r:zE} (h:zFy active r):zFy active (ext active e r):=by
 obtain ⟨⟨b0,b1,hb,l0,l1,m0,m1⟩⟩:=h;unfold ext;rw [hb];exact ⟨⟨_,_,rfl,by rw [zPl];exact l0,by rw [zPl];exact l1,zS3 m0 (λx=>by rw [zLy];omega),zS3 m1 (λx=>by rw [zGk];omega)⟩⟩
theorem zN4 (r:zE) (active:Int) (e:zB) (hr:zFy active r) (he:EvGood e active) (hk:e.Kind≠5):Def (eQ r 0 e.Register e.Digests) (λx=>x=(ext active e r,0)):=by
 obtain ⟨⟨b0,b1,hb,l0,l1,m0,m1⟩⟩:=hr;obtain ⟨r0,r1,_,dl,f0,f1⟩:=he;obtain ⟨bs,u⟩:=r;simp only at hb;subst hb;have l0':b0.length<=16:=by rw [l0];split<;>omega
 have l1':b1.length<=16:=by rw [l1];split<;>omega
 unfold Fit at f0 f1;have f0':((e.Digests.getD 0 []).length:Int)<=32:=by rw [f0];split<;>decide
 have f1':((e.Digests.getD 1 []).length:Int)<=32:=by rw [f1];split<;>decide
 have g0:∀ d∈e.Digests,d.length<=32:=by
  intro d hd;obtain ⟨i,hi,rfl⟩:=List.mem_iff_getElem.mp hd;have hi2:i=0∨i=1:=by omega
  rcases hi2 with rfl | rfl
  ·have:(e.Digests.getD 0 [])=e.Digests[0]:=by simp [hi]
   rw [<- this];omega
  ·have:(e.Digests.getD 1 [])=e.Digests[1]:=by simp [hi]
   rw [<- this];omega
 have i0:idx e.Digests 0=some (e.Digests.getD 0 []):=zMk (i:=0) (by omega);have i1:idx e.Digests 1=some (e.Digests.getD 1 []):=zMk (i:=1) (by omega);have a0:tN ⟨[b0,b1],u⟩ 0=some (xH active 0):=by
  rw [(zE1 b0 b1 u).1,l0];cases xH active 0<;>rfl
 have a1:tN ⟨[b0,b1],u⟩ 1=some (xH active 1):=by
  rw [(zE1 b0 b1 u).2,l1];cases xH active 1<;>rfl
 unfold eQ;refine Def.bd (P:=λb=>b=false) ?_ (λb hb=>?_)
 ·refine Def.c (λh=>by cases h) (λ_=>Def.c (λh=>by cases h) (λ_=>Def.c (λh=>?_) (λ_=>Def.c (λh=>?_) (λ_=>Def.s ?_))))
  ·have:=dT h;omega
  ·have:=dT h;omega
  ·simp;omega
 subst hb;refine Def.c (λh=>by cases h) (λ_=>?_);refine Def.bd (P:=λn=>n=0) ?_ (λn hn=>?_)
 ·unfold zCm;refine Def.bd (P:=λb=>b=false) (Def.s rfl) (λb hb=>?_);subst hb;refine Def.c (λh=>by cases h) (λ_=>?_);have e14:(e.Register==14)=false:=by simp;omega
  have e15:(e.Register==15)=false:=by simp;omega
  rw [e14,e15];exact Def.s rfl
 subst hn;refine Def.c (λh=>by cases h) (λ_=>?_);refine Def.bd (P:=λr=>r=.inr ()) ?_ (λr hr=>?_)
 ·refine Def.loop (λs=>s=0∨s=1∨s=2) (λs=>2 - s.toNat) (λs hs=>?_) (.inl rfl) (by simp);unfold zA1;refine Def.c (λh=>?_) (λh=>Def.s rfl);refine Def.bd (P:=λb=>b=false) ?_ (λb hb=>?_)
  ·rcases hs with rfl | rfl | rfl
   ·refine Def.bd (P:=λb=>b=xH active 0) (Def.of a0 rfl) (λb hb=>?_);subst hb;refine Def.c (λh=>?_) (λ_=>Def.s rfl);refine Def.bd (P:=λd=>d=e.Digests.getD 0 []) (Def.of i0 rfl) (λd hd=>Def.s ?_);have hh:xH active 0=false:=by simpa using h
    rw [if_neg (by show ¬ (e.Kind≠5/\xH active 0=true);rw [hh];simp)] at f0;rw [decide_eq_false_iff_not,hd];omega
   ·refine Def.bd (P:=λb=>b=xH active 1) (Def.of a1 rfl) (λb hb=>?_);subst hb;refine Def.c (λh=>?_) (λ_=>Def.s rfl);refine Def.bd (P:=λd=>d=e.Digests.getD 1 []) (Def.of i1 rfl) (λd hd=>Def.s ?_);have hh:xH active 1=false:=by simpa using h
    rw [if_neg (by show ¬ (e.Kind≠5/\xH active 1=true);rw [hh];simp)] at f1;rw [decide_eq_false_iff_not,hd];omega
   ·cases h
  subst hb;refine Def.s ?_;rcases hs with rfl | rfl | rfl
  ·exact ⟨.inr (.inl rfl),by decide⟩
  ·exact ⟨.inr (.inr rfl),by decide⟩
  ·cases h
 subst hr;refine Def.bd (P:=λr=>r=.inr ()) ?_ (λr hr=>?_)
 ·refine Def.loop (λs=>s=0∨s=1∨s=2) (λs=>2 - s.toNat) (λs hs=>?_) (.inl rfl) (by simp);unfold zAr;refine Def.c (λh=>?_) (λh=>Def.s rfl);refine Def.bd (P:=λb=>b=false) ?_ (λb hb=>?_)
  ·rcases hs with rfl | rfl | rfl
   ·refine Def.bd (P:=λb=>b=xH active 0) (Def.of a0 rfl) (λb hb=>?_);subst hb;refine Def.c (λh=>?_) (λ_=>Def.s rfl);refine Def.bd (P:=λd=>d=e.Digests.getD 0 []) (Def.of i0 rfl) (λd hd=>?_);refine Def.bd (P:=λd=>d=siz 0) (Def.of (zGc 0) rfl) (λz hz=>Def.s ?_);rw [if_pos ⟨hk,h⟩] at f0;rw [hd,hz];simp;exact f0
   ·refine Def.bd (P:=λb=>b=xH active 1) (Def.of a1 rfl) (λb hb=>?_);subst hb;refine Def.c (λh=>?_) (λ_=>Def.s rfl);refine Def.bd (P:=λd=>d=e.Digests.getD 1 []) (Def.of i1 rfl) (λd hd=>?_);refine Def.bd (P:=λd=>d=siz 1) (Def.of (zGc 1) rfl) (λz hz=>Def.s ?_);rw [if_pos ⟨hk,h⟩] at f1;rw [hd,hz];simp;exact f1
   ·cases h
  subst hb;refine Def.s ?_;rcases hs with rfl | rfl | rfl
  ·exact ⟨.inr (.inl rfl),by decide⟩
  ·exact ⟨.inr (.inr rfl),by decide⟩
  ·cases h
 subst hr;refine Def.bd (P:=λx=>x=(b0,b1,u)) (Def.of (zQ5 _ b0 b1 rfl l0' l1' m0 m1) rfl) (λx hx=>?_);subst hx;obtain ⟨rn,hrn⟩:=Q9 r0;have one:∀ (a:Nat) (bk:List By) (f:By->By) (h2:a<2) (h16:bk.length=16) (mm:∀ x∈bk,x.length<=32) (hf:∀ z,z.length<2 ^ 40->pL (a:Int) z=some (f z)),
   Def ((idx bk e.Register).bind λw=>(rD w).bind λw'=>(idx e.Digests (a:Int)).bind λd=>(yN 1 w' d).bind λz=>(pL (a:Int) z).bind λs=>(ixN bk.length e.Register).bind λj=>(sN bk j s).bind λl=>some l)
    (λb=>b=upR true bk e.Register (λx=>f (x++e.Digests.getD a []))):=by
  intro a bk f h2 h16 mm hf;rw [hrn];have hm:bk.getD rn []∈bk:=by
   have:rn<bk.length:=by omega
   simp [this]
  have:=mm _ hm;refine Def.bd (P:=λx=>x=bk.getD rn []) (Def.of (zMk (by omega)) rfl) (λx hx=>?_);subst hx;refine Def.bd (P:=λy=>y=bk.getD rn []) (Def.of (zGq _ (by omega)) rfl) (λy hy=>?_);subst hy;have hd:e.Digests.getD a []∈e.Digests:=by
   have:a<e.Digests.length:=by omega
   simp [this]
  have:=g0 _ hd;refine Def.bd (P:=λd=>d=e.Digests.getD a []) (Def.of (zMk (by omega)) rfl) (λd hd=>?_);subst hd;refine Def.bd (Def.app (by omega)) (λz hz=>?_);have hzl:z.length<2 ^ 40:=by rw [hz,Q2];omega
  refine Def.bd (P:=λs=>s=f z) (Def.of (hf z hzl) rfl) (λs hs=>?_);refine Def.bd (Def.ixN (by omega) (by omega)) (λj hj=>?_);refine Def.bd (Def.upd hj.2) (λq hq=>Def.s ?_);rw [hq,hj.1,hs,hz];rfl
 refine Def.bd (P:=λb=>b=upR (xH active 0) b0 e.Register (λx=>lZ (x++e.Digests.getD 0 []))) ?_ (λc0 hc0=>?_)
 ·refine Def.bd (P:=λb=>b=xH active 0) (Def.of a0 rfl) (λb hb=>?_);subst hb;refine Def.c (λh=>?_) (λh=>Def.s (by rw [h];rfl));rw [if_pos h] at l0;rw [h];refine Def.bd (P:=λb=>b=b0) (Def.s rfl) (λb hb=>?_);subst hb;exact one 0 _ lZ (by omega) l0 m0 zGr
 refine Def.bd (P:=λb=>b=upR (xH active 1) b1 e.Register (λx=>sha (x++e.Digests.getD 1 []))) ?_ (λc1 hc1=>?_)
 ·refine Def.bd (P:=λb=>b=xH active 1) (Def.of a1 rfl) (λb hb=>?_);subst hb;refine Def.c (λh=>?_) (λh=>Def.s (by rw [h];rfl));rw [if_pos h] at l1;rw [h];refine Def.bd (P:=λb=>b=b1) (Def.s rfl) (λb hb=>?_);subst hb;exact one 1 _ sha (by omega) l1 m1 zGw
 exact Def.s (by rw [hc0,hc1];rfl)
end Go.Proofs.TT
