/- AppraiseVerdict (law 37: the verdict about evidence that is right but for up to two changes) is proved for every input, under no condition of ours; this text is a part of that proof. -/
import Derived.Test.YteadpnddgpfbdaaGreatDoorZ4
import Derived.Test.YteadpnddgpfbdaaGreatDoorZ5
set_option linter.all false
open Go.IntKind renaming i64 -> Q0, u32 -> Q1, u64 -> Q4, wrap_u64 -> Qq, u8 -> W5
open List renaming take_of_length_le -> Q2, take_add_one -> Q8, replicate -> Q9, length_cons -> Qb, length_append -> Qd, append_assoc -> Qf, getElem_mem -> Qg, map_cons -> Qh, sum_cons -> Qi, drop_eq_nil_of_le -> Ql, length_nil -> Qm, drop_append_of_le_length -> Qn, take_append_of_le_length -> Qo, flatMap_append -> Qp, range_succ -> Qs, range -> Qw, map_append -> Qx, sum_append -> Qy, drop_drop -> W0, take -> W1, drop_one -> W2, map_nil -> W3, sum_nil -> W4
open BitVec renaming ofInt -> Q3, ofInt_natCast -> Q7, toNat_ofNat -> Qa, toNat_and -> Qv
open Int renaming tmod_eq_emod_of_nonneg -> Q5, tdiv_eq_ediv_of_nonneg -> Qj, eq_ofNat_of_zero_le -> Qk, tdiv -> Qt, tmod -> Qu
open Nat renaming le_refl -> Q6, mod_eq_of_lt -> Qc, and_two_pow_sub_one_eq_mod -> Qe, add_sub_cancel_left -> Qr, div_le_self -> Qz
namespace Go.Sw
open Go
variable {b:Nat}{c:Bool}{n:Int}{α β:Type}{a:α}{f:α->Option β}{l:List α}{r:Option β}
theorem zOv {X Y:Type} {step:X->Option (X ⊕ Y)} {r:Y} (n:Nat) (s:Nat->X) (h:∀ i,i<n->step (s i)=some (.inl (s (i+1)))) (he:step (s n)=some (.inr r)) :
  ∀ (d k fuel:Nat),k+d=n->d<fuel->zK step fuel (s k)=some r:=by
 intro d;induction d with
 | zero=>
  intro k fuel hk hf;obtain ⟨f,rfl⟩:∃ f,fuel=f+1:=⟨fuel - 1,by omega⟩;have:k=n:=by omega
  subst this;simp [zK,he]
 | succ d ih=>
  intro k fuel hk hf;obtain ⟨f,rfl⟩:∃ f,fuel=f+1:=⟨fuel - 1,by omega⟩;simp only [zK,h k (by omega)];exact ih (k+1) f (by omega) (by omega)
theorem yB {X Y:Type} {step:X->Option (X ⊕ Y)} {r:Y} {x:X} (n:Nat) (s:Nat->X) (h0:s 0=x) (h:∀ i,i<n->step (s i)=some (.inl (s (i+1)))) (he:step (s n)=some (.inr r)) {fuel:Nat} (hf:n<fuel) :
  zK step fuel x=some r:=by
 subst h0;exact zOv n s h he n 0 fuel (by omega) hf
theorem zAg {X Y:Type} {step:X->Option (X ⊕ Y)} (I:X->Prop) (m:X->Nat) (Q:Y->Prop)
  (h:∀ s,I s->(∃ s',step s=some (.inl s')/\I s'/\m s'<m s)∨(∃ r,step s=some (.inr r)/\Q r)) :
  ∀ (fuel:Nat) (s:X),I s->m s<fuel->∃ r,zK step fuel s=some r/\Q r:=by
 intro fuel;induction fuel with
 | zero=>intro s _ hm;omega
 | succ f ih=>
  intro s hs hm;rcases h s hs with ⟨s',h1,h2,h3⟩ | ⟨r,h1,h2⟩
  ·obtain ⟨r,h4,h5⟩:=ih s' h2 (by omega);exact ⟨r,by simp [zK,h1,h4],h5⟩
  ·exact ⟨r,by simp [zK,h1],h2⟩
theorem xI {n:Nat} (h:n<2 ^ 64):n<FU:=by
 have:(2:Nat) ^ 64<FU:=by decide
 omega
theorem zZ (h1:-9223372036854775808<=n) (h2:n<=9223372036854775807):Q0.wrap n=n:=by rw [IntKind.wrap_i64];omega
theorem yEz (h1:0<=n) (h2:n<=4294967295):Q1.wrap n=n:=by rw [IntKind.wrap_u32];omega
theorem bH (h1:0<=n) (h2:n<=18446744073709551615):Q4.wrap n=n:=by rw [Qq];omega
theorem yF {m:List α} (h:(l.length+m.length)*b<=140737488355328):yN b l m=some (l++m):=by
 simp [yN,LIM,h]
theorem yT {i:Nat} (h:i<l.length):idx l (i:Int)=some l[i]:=by
 simp [idx,h]
theorem uL {a:Nat} (h:a<=b) (h2:b<=l.length):sub l (a:Int) (b:Int)=some ((l.drop a).take (b - a)):=by
 have:(0:Int)<=a/\(a:Int)<=b/\(b:Int)<=l.length:=⟨by omega,by omega,by omega⟩;simp [sub,this]
theorem bd {o:Option α} (h:o=some a) (k:f a=r):o.bind f=r:=by subst h;exact k
theorem ltk {e:α} (k:f e=r):lt e f=r:=k
theorem ct {b r:α} (h:c=true) (k:a=r):(bif c then a else b)=r:=by subst h;exact k
theorem cf {b r:α} (h:c=false) (k:b=r):(bif c then a else b)=r:=by subst h;exact k
theorem ckT (h:c=true):ck c=some ():=by subst h;rfl
end Go.Sw
namespace Go.Proofs.TT
open Go Go.Sw
set_option maxRecDepth 100000
variable {a b:Nat}{e:Int}{i:Nat}{l:By}{n t:Nat}{α:Type}
def rr (x n:Int):Int:=ior .u32 (xE .u32 x n) (tL .u32 x (32 - n))
theorem zLy (k:IntKind) (a b:Int):ior k a b=ior k b a:=by simp [ior,BitVec.or_comm]
theorem lF (x n:Int) (h0:0<=n) (h1:n<=32):xN x n=some (rr x n):=by
 have h2:Q4.wrap (32 - n)=32 - n:=by rw [Qq];omega
 have h3:decide (0<=n)=true:=by simpa using h0
 simp only [xN,ck,lt,h2,h3,rr,cond_true,Option.bind_some]
theorem nY (x:Int) (n m:Int) (h:xG .u64 (Q4.wrap n) 31=32 - m) (h0:0<=m) (h1:m<=32):zP x n=some (rr x m):=by
 have h2:Q4.wrap (32 - (32 - m))=m:=by rw [Qq];omega
 have h3:(0:Int)<=32 - m:=by omega
 have h4:decide ((0:Int)<=32 - m)=true:=by simpa using h3
 have h5:decide ((0:Int)<=m)=true:=by simpa using h0
 simp only [zP,ck,lt,h,h2,h4,h5,rr,cond_true,Option.bind_some];rw [zLy]
def K2:List Int:=gd1
theorem yAk:K2.length=64:=rfl
theorem zLx:n9=some K2:=rfl
def a8 (s:A8 Int):List Int:=[s.a0,s.a1,s.a2,s.a3,s.a4,s.a5,s.a6,s.a7]
def t1 (s:A8 Int) (k w:Int):Int:=
 Q1.wrap (Q1.wrap (Q1.wrap (Q1.wrap (s.a7+xS .u32 (xS .u32 (rr s.a4 6) (rr s.a4 11)) (rr s.a4 25))+xS .u32 (xG .u32 s.a4 s.a5) (xG .u32 (zJi .u32 s.a4) s.a6))+k)+w)
def t2 (s:A8 Int):Int:=Q1.wrap (xS .u32 (xS .u32 (rr s.a0 2) (rr s.a0 13)) (rr s.a0 22)+xS .u32 (xS .u32 (xG .u32 s.a0 s.a1) (xG .u32 s.a0 s.a2)) (xG .u32 s.a1 s.a2))
def rnd (s:A8 Int) (k w:Int):A8 Int:=⟨Q1.wrap (t1 s k w+t2 s),s.a0,s.a1,s.a2,Q1.wrap (s.a3+t1 s k w),s.a4,s.a5,s.a6⟩
def lY (w:List Int) (s:A8 Int):Nat->A8 Int
 | 0=>s
 | n+1=>rnd (lY w s n) (K2.getD n 0) (w.getD n 0)
theorem uJ (h:t<n):ixN n (t:Int)=some t:=by
 have:(0:Int)<=t/\(t:Int)<n:=⟨by omega,by omega⟩;simp [ixN,this]
theorem mI {l:List Int} (h:t<l.length):l[t]? = some (l.getD t 0):=by simp [h]
theorem yM (h:t<2 ^ 40):Q0.wrap ((t:Int)+1)=((t+1:Nat):Int):=by rw [zZ (by omega) (by omega)];simp
section
variable (a b c d e f g h:Int)
theorem yDe:idx [a,b,c,d,e,f,g,h] 0=some a:=rfl
theorem zSj:idx [a,b,c,d,e,f,g,h] 1=some b:=rfl
theorem zTd:idx [a,b,c,d,e,f,g,h] 2=some c:=rfl
theorem yD2:idx [a,b,c,d,e,f,g,h] 3=some d:=rfl
theorem yCe:idx [a,b,c,d,e,f,g,h] 4=some e:=rfl
theorem zXe:idx [a,b,c,d,e,f,g,h] 5=some f:=rfl
theorem zXh:idx [a,b,c,d,e,f,g,h] 6=some g:=rfl
theorem yEb:idx [a,b,c,d,e,f,g,h] 7=some h:=rfl
end
theorem dlt (h:a<b):decide ((a:Int)<(b:Int))=true:=by simp;exact h
theorem dge (h:b<=a):decide ((a:Int)<(b:Int))=false:=by simp;omega
theorem zVm (w:List Int) (s:A8 Int) (i:Nat) (hi:i<64) (hw:w.length=64):mD K2 w (a8 s,(i:Int))=some (.inl (a8 (rnd s (K2.getD i 0) (w.getD i 0)),((i+1:Nat):Int))):=by
 have e1:decide ((i:Int)<64)=true:=dlt (b:=64) hi;have e2:∀ x,xN x 6=some (rr x 6):=λx=>lF x 6 (by decide) (by decide);have e3:∀ x,xN x 11=some (rr x 11):=λx=>lF x 11 (by decide) (by decide);have e4:∀ x,xN x 25=some (rr x 25):=λx=>lF x 25 (by decide) (by decide);have e5:∀ x,xN x 2=some (rr x 2):=λx=>lF x 2 (by decide) (by decide);have e6:∀ x,xN x 13=some (rr x 13):=λx=>lF x 13 (by decide) (by decide);have e7:∀ x,xN x 22=some (rr x 22):=λx=>lF x 22 (by decide) (by decide);have k1:K2[i]? = some (K2.getD i 0):=mI (by rw [yAk];exact hi);have k2:w[i]? = some (w.getD i 0):=mI (by omega);unfold mD a8;refine ct e1 ?_;refine bd (yDe _ _ _ _ _ _ _ _) ?_;refine bd (yCe _ _ _ _ _ _ _ _) ?_;refine bd (yEb _ _ _ _ _ _ _ _) ?_;refine bd (e2 _) ?_;refine bd (e3 _) ?_;refine bd (e4 _) ?_;refine ltk ?_;refine bd (zXe _ _ _ _ _ _ _ _) ?_;refine bd (zXh _ _ _ _ _ _ _ _) ?_;refine ltk ?_;refine bd (uJ hi) ?_;refine bd k1 ?_;refine ltk ?_;refine bd (uJ hi) ?_;refine bd k2 ?_;refine bd (e5 _) ?_;refine bd (e6 _) ?_;refine bd (e7 _) ?_;refine bd (zSj _ _ _ _ _ _ _ _) ?_;refine bd (zTd _ _ _ _ _ _ _ _) ?_;refine ltk ?_;refine bd (zSj _ _ _ _ _ _ _ _) ?_;refine bd (zTd _ _ _ _ _ _ _ _) ?_;refine ltk ?_;refine ltk ?_;refine bd (zSj _ _ _ _ _ _ _ _) ?_;refine bd (zTd _ _ _ _ _ _ _ _) ?_;refine bd (yD2 _ _ _ _ _ _ _ _) ?_;refine ltk ?_;refine bd (zXe _ _ _ _ _ _ _ _) ?_;refine bd (zXh _ _ _ _ _ _ _ _) ?_;rw [yM (show i<2 ^ 40 by omega)];rfl
theorem zYy (w:List Int) (hw:w.length=64) (s:A8 Int):zK (mD K2 w) FU (a8 s,0)=some (a8 (lY w s 64)):=by
 refine yB 64 (λi=>(a8 (lY w s i),(i:Int))) rfl (λi hi=>zVm w _ i hi hw) ?_ (xI (by decide));generalize lY w s 64=S;rfl
theorem zWi (w:List Int) (s:A8 Int) (i:Nat) (hi:i<64) (hw:w.length=64):u5 w ((i:Int),s.a0,s.a1,s.a2,s.a3,s.a4,s.a5,s.a6,s.a7) =
  some (.inl (((i+1:Nat):Int),(rnd s (K2.getD i 0) (w.getD i 0)).a0,(rnd s (K2.getD i 0) (w.getD i 0)).a1,(rnd s (K2.getD i 0) (w.getD i 0)).a2,(rnd s (K2.getD i 0) (w.getD i 0)).a3,(rnd s (K2.getD i 0) (w.getD i 0)).a4,(rnd s (K2.getD i 0) (w.getD i 0)).a5,(rnd s (K2.getD i 0) (w.getD i 0)).a6,(rnd s (K2.getD i 0) (w.getD i 0)).a7)):=by
 have e1:decide ((i:Int)<64)=true:=dlt (b:=64) hi;have e2:∀ x,zP x (-6)=some (rr x 6):=λx=>nY x _ 6 (by decide) (by decide) (by decide);have e3:∀ x,zP x (-11)=some (rr x 11):=λx=>nY x _ 11 (by decide) (by decide) (by decide);have e4:∀ x,zP x (-25)=some (rr x 25):=λx=>nY x _ 25 (by decide) (by decide) (by decide);have e5:∀ x,zP x (-2)=some (rr x 2):=λx=>nY x _ 2 (by decide) (by decide) (by decide);have e6:∀ x,zP x (-13)=some (rr x 13):=λx=>nY x _ 13 (by decide) (by decide) (by decide);have e7:∀ x,zP x (-22)=some (rr x 22):=λx=>nY x _ 22 (by decide) (by decide) (by decide);have k1:idx gd1 (i:Int)=some (K2.getD i 0):=by rw [yT (show i<gd1.length from hi)];simp [K2,show i<gd1.length from hi]
 have k2:w[i]? = some (w.getD i 0):=mI (by omega);unfold u5;refine ct e1 ?_;refine bd (e2 _) ?_;refine bd (e3 _) ?_;refine bd (e4 _) ?_;refine ltk ?_;refine ltk ?_;refine bd k1 ?_;refine ltk ?_;refine bd (uJ hi) ?_;refine bd k2 ?_;refine bd (e5 _) ?_;refine bd (e6 _) ?_;refine bd (e7 _) ?_;refine ltk ?_;refine ltk ?_;refine ltk ?_;refine ltk ?_;rw [yM (show i<2 ^ 40 by omega)];rfl
theorem zXp (w:List Int) (hw:w.length=64) (s:A8 Int):zK (u5 w) FU (0,s.a0,s.a1,s.a2,s.a3,s.a4,s.a5,s.a6,s.a7)=some ((lY w s 64).a0,(lY w s 64).a1,(lY w s 64).a2,(lY w s 64).a3,(lY w s 64).a4,(lY w s 64).a5,(lY w s 64).a6,(lY w s 64).a7):=by
 refine yB 64 (λi=>((i:Int),(lY w s i).a0,(lY w s i).a1,(lY w s i).a2,(lY w s i).a3,(lY w s i).a4,(lY w s i).a5,(lY w s i).a6,(lY w s i).a7)) rfl (λi hi=>zWi w _ i hi hw) ?_ (xI (by decide));generalize lY w s 64=S;rfl
set_option maxRecDepth 100000
theorem zRn {z:Int} (hz:z=(n:Int)) (h:n<l.length):idx l z=some (l.getD n 0):=by
 subst hz;simp [idx,h]
theorem aW {l:List α} {j:Nat} {u:α} (h:j<l.length):vJ l j u=some (l.set j u):=by simp [vJ,h]
def byt (b:By) (n:Nat):Int:=Q1.wrap (((b.getD n 0).toNat:Nat):Int)
def wd (b:By) (t:Nat):Int:=ior .u32 (ior .u32 (ior .u32 (tL .u32 (byt b (4*t)) 24) (tL .u32 (byt b (4*t+1)) 16)) (tL .u32 (byt b (4*t+2)) 8)) (byt b (4*t+3))
theorem zKu (b:By) (t:Nat) (h:4*t+3<b.length) (h2:t<2 ^ 20):j9 b (t:Int)=some (wd b t):=by
 have e0:Q0.wrap (4*(t:Int))=((4*t:Nat):Int):=by rw [zZ (by omega) (by omega)];simp
 unfold j9;rw [e0];refine bd (zRn rfl (by omega)) ?_;refine bd (zRn (n:=4*t+1) (by rw [zZ (by omega) (by omega)];simp) (by omega)) ?_;refine ltk ?_;refine bd (zRn (n:=4*t+2) (by rw [zZ (by omega) (by omega)];simp) (by omega)) ?_;refine ltk ?_;refine bd (zRn (n:=4*t+3) (by rw [zZ (by omega) (by omega)];simp) (by omega)) ?_;rfl
theorem zNl:gK=j9:=rfl
def s0 (x:Int):Int:=xS .u32 (xS .u32 (rr x 7) (rr x 18)) (xE .u32 x 3)
def s1 (x:Int):Int:=xS .u32 (xS .u32 (rr x 17) (rr x 19)) (xE .u32 x 10)
def wv (b:By) (w:List Int) (t:Nat):Int:=
 if t<16 then wd b t else Q1.wrap (Q1.wrap (Q1.wrap (s1 (w.getD (t - 2) 0)+w.getD (t - 7) 0)+s0 (w.getD (t - 15) 0))+w.getD (t - 16) 0)
def aI (b:By):Nat->List Int
 | 0=>Q9 64 0
 | t+1=>(aI b t).set t (wv b (aI b t) t)
theorem fT (b:By):∀ t,(aI b t).length=64
 | 0=>rfl
 | t+1=>by simp [aI,fT b t]
theorem yC3 (b:By) (w:List Int) (i:Nat) (hi:i<64) (hw:w.length=64) (hb:b.length=64):u6 b ((i:Int),w)=some (.inl (((i+1:Nat):Int),w.set i (wv b w i))):=by
 have hiw:i<w.length:=by omega
 unfold u6;refine ct (dlt (b:=64) hi) ?_;refine bd (a:=w.set i (wv b w i)) ?_ (by rw [yM (show i<2 ^ 40 by omega)]);by_cases h:i<16
 ·refine ct (dlt (b:=16) h) ?_;rw [zNl];refine bd (zKu b i (by omega) (by omega)) ?_;refine bd (uJ hi) ?_;refine bd (aW hiw) ?_;simp [wv,h]
 refine cf (dge (b:=16) (by omega)) ?_;have x15:ixN 64 (Q0.wrap ((i:Int) - 15))=some (i - 15):=by rw [zZ (by omega) (by omega),show (i:Int) - 15=((i - 15:Nat):Int) by omega];exact uJ (by omega)
 have x2:ixN 64 (Q0.wrap ((i:Int) - 2))=some (i - 2):=by rw [zZ (by omega) (by omega),show (i:Int) - 2=((i - 2:Nat):Int) by omega];exact uJ (by omega)
 have x7:ixN 64 (Q0.wrap ((i:Int) - 7))=some (i - 7):=by rw [zZ (by omega) (by omega),show (i:Int) - 7=((i - 7:Nat):Int) by omega];exact uJ (by omega)
 have x16:ixN 64 (Q0.wrap ((i:Int) - 16))=some (i - 16):=by rw [zZ (by omega) (by omega),show (i:Int) - 16=((i - 16:Nat):Int) by omega];exact uJ (by omega)
 have w15:w[i - 15]? = some (w.getD (i - 15) 0):=mI (by omega);have w2:w[i - 2]? = some (w.getD (i - 2) 0):=mI (by omega);have w7:w[i - 7]? = some (w.getD (i - 7) 0):=mI (by omega);have w16:w[i - 16]? = some (w.getD (i - 16) 0):=mI (by omega);have e7:∀ x,zP x (-7)=some (rr x 7):=λx=>nY x _ 7 (by decide) (by decide) (by decide);have e18:∀ x,zP x (-18)=some (rr x 18):=λx=>nY x _ 18 (by decide) (by decide) (by decide);have e17:∀ x,zP x (-17)=some (rr x 17):=λx=>nY x _ 17 (by decide) (by decide) (by decide);have e19:∀ x,zP x (-19)=some (rr x 19):=λx=>nY x _ 19 (by decide) (by decide) (by decide);refine bd (x15) ?_;refine bd (w15) ?_;refine bd (x2) ?_;refine bd (w2) ?_;refine bd (e7 _) ?_;refine bd (e18 _) ?_;refine bd (e17 _) ?_;refine bd (e19 _) ?_;refine bd (x7) ?_;refine bd (w7) ?_;refine ltk ?_;refine ltk ?_;refine bd (x16) ?_;refine bd (w16) ?_;refine bd (uJ hi) ?_;refine bd (aW hiw) ?_;simp only [wv,h,if_false];rfl
theorem zZl (b:By) (hb:b.length=64):zK (u6 b) FU (0,Q9 64 0)=some (aI b 64):=by
 refine yB 64 (λi=>((i:Int),aI b i)) rfl (λi hi=>yC3 b _ i hi (fT b i) hb) ?_ (xI (by decide));generalize aI b 64=S;rfl
def s9 (x:By) (n:Nat):By:=(x.drop n).take 64
theorem yEw (x:By) (at':Nat) (w:List Int) (i:Nat) (hi:i<64) (hw:w.length=64) (hx:at'+64<=x.length) (hl:x.length<2 ^ 48):mR x (at':Int) ((i:Int),w)=some (.inl (((i+1:Nat):Int),w.set i (wv (s9 x at') w i))):=by
 have hiw:i<w.length:=by omega
 have hbl:(s9 x at').length=64:=by simp [s9];omega
 unfold mR;refine ct (dlt (b:=64) hi) ?_;refine bd (a:=w.set i (wv (s9 x at') w i)) ?_ (by rw [yM (show i<2 ^ 40 by omega)]);by_cases h:i<16
 ·refine ct (dlt (b:=16) h) ?_;have hs:sub x (at':Int) (Q0.wrap ((at':Int)+64))=some (s9 x at'):=by
   rw [zZ (by omega) (by omega),show (at':Int)+64=((at'+64:Nat):Int) by simp,uL (by omega) hx];simp [s9]
  refine bd hs ?_;refine bd (zKu _ i (by omega) (by omega)) ?_;refine bd (uJ hi) ?_;refine bd (aW hiw) ?_;simp [wv,h]
 refine cf (dge (b:=16) (by omega)) ?_;have x15:ixN 64 (Q0.wrap ((i:Int) - 15))=some (i - 15):=by rw [zZ (by omega) (by omega),show (i:Int) - 15=((i - 15:Nat):Int) by omega];exact uJ (by omega)
 have x2:ixN 64 (Q0.wrap ((i:Int) - 2))=some (i - 2):=by rw [zZ (by omega) (by omega),show (i:Int) - 2=((i - 2:Nat):Int) by omega];exact uJ (by omega)
 have x7:ixN 64 (Q0.wrap ((i:Int) - 7))=some (i - 7):=by rw [zZ (by omega) (by omega),show (i:Int) - 7=((i - 7:Nat):Int) by omega];exact uJ (by omega)
 have x16:ixN 64 (Q0.wrap ((i:Int) - 16))=some (i - 16):=by rw [zZ (by omega) (by omega),show (i:Int) - 16=((i - 16:Nat):Int) by omega];exact uJ (by omega)
 have w15:w[i - 15]? = some (w.getD (i - 15) 0):=mI (by omega);have w2:w[i - 2]? = some (w.getD (i - 2) 0):=mI (by omega);have w7:w[i - 7]? = some (w.getD (i - 7) 0):=mI (by omega);have w16:w[i - 16]? = some (w.getD (i - 16) 0):=mI (by omega);have e7:∀ x,xN x 7=some (rr x 7):=λx=>lF x 7 (by decide) (by decide);have e18:∀ x,xN x 18=some (rr x 18):=λx=>lF x 18 (by decide) (by decide);have e17:∀ x,xN x 17=some (rr x 17):=λx=>lF x 17 (by decide) (by decide);have e19:∀ x,xN x 19=some (rr x 19):=λx=>lF x 19 (by decide) (by decide);refine bd (x15) ?_;refine bd (w15) ?_;refine bd (e7 _) ?_;refine bd (x15) ?_;refine bd (w15) ?_;refine bd (e18 _) ?_;refine bd (x15) ?_;refine bd (w15) ?_;refine bd (x2) ?_;refine bd (w2) ?_;refine bd (e17 _) ?_;refine bd (x2) ?_;refine bd (w2) ?_;refine bd (e19 _) ?_;refine bd (x2) ?_;refine bd (w2) ?_;refine bd (x7) ?_;refine bd (w7) ?_;refine ltk ?_;refine ltk ?_;refine bd (x16) ?_;refine bd (w16) ?_;refine bd (uJ hi) ?_;refine bd (aW hiw) ?_;simp only [wv,h,if_false];rfl
theorem zYa (x:By) (at':Nat) (hx:at'+64<=x.length) (hl:x.length<2 ^ 48):zK (mR x (at':Int)) FU (0,Q9 64 0)=some (aI (s9 x at') 64):=by
 refine yB 64 (λi=>((i:Int),aI (s9 x at') i)) rfl (λi hi=>yEw x at' _ i hi (fT _ i) hx hl) ?_ (xI (by decide));generalize aI (s9 x at') 64=S;rfl
set_option maxRecDepth 100000
def zSw (h s:A8 Int):A8 Int:=⟨Q1.wrap (h.a0+s.a0),Q1.wrap (h.a1+s.a1),Q1.wrap (h.a2+s.a2),Q1.wrap (h.a3+s.a3),Q1.wrap (h.a4+s.a4),Q1.wrap (h.a5+s.a5),Q1.wrap (h.a6+s.a6),Q1.wrap (h.a7+s.a7)⟩
def zH5 (h s:List Int):Nat->List Int
 | 0=>h
 | i+1=>(zH5 h s i).set i (Q1.wrap ((zH5 h s i).getD i 0+s.getD i 0))
theorem zIh (h s:List Int):∀ i,(zH5 h s i).length=h.length
 | 0=>rfl
 | i+1=>by simp [zH5,zIh h s i]
theorem zSt (h s:A8 Int):zH5 (a8 h) (a8 s) 8=a8 (zSw h s):=rfl
def zNq (h:A8 Int) (b:By):A8 Int:=zSw h (lY (aI b 64) h 64)
theorem zY0 (h s:A8 Int):zK (iN (a8 s)) FU (0,a8 h)=some (a8 (zSw h s)):=by
 rw [<- zSt];refine yB 8 (λi=>((i:Int),zH5 (a8 h) (a8 s) i)) rfl (λi hi=>?_) ?_ (xI (by decide))
 ·have hl:(zH5 (a8 h) (a8 s) i).length=8:=zIh _ _ _;unfold iN;refine ct (dlt (b:=8) hi) ?_;refine bd (uJ hi) ?_;refine bd (mI (by omega)) ?_;refine bd (a:=(a8 s).getD i 0) (by rw [yT (show i<(a8 s).length from hi)];simp [show i<(a8 s).length from hi]) ?_;refine bd (uJ hi) ?_;refine bd (aW (by omega)) ?_;rw [yM (show i<2 ^ 40 by omega)];rfl
 ·generalize zH5 (a8 h) (a8 s) 8=S;rfl
theorem zYn (h s:A8 Int):zK (w5 s.a0 s.a1 s.a2 s.a3 s.a4 s.a5 s.a6 s.a7) FU (0,[h.a0,h.a1,h.a2,h.a3,h.a4,h.a5,h.a6,h.a7])=some (zSw h s):=by
 refine yB 8 (λi=>((i:Int),zH5 (a8 h) (a8 s) i)) rfl (λi hi=>?_) ?_ (xI (by decide))
 ·have hl:(zH5 (a8 h) (a8 s) i).length=8:=zIh _ _ _;unfold w5;refine ct (dlt (b:=8) hi) ?_;refine bd (uJ hi) ?_;refine bd (mI (by omega)) ?_;refine bd (uJ hi) ?_;refine bd (a:=(a8 s).getD i 0) (mI (l:=a8 s) hi) ?_;refine bd (uJ hi) ?_;refine bd (aW (by omega)) ?_;rw [yM (show i<2 ^ 40 by omega)];rfl
 ·show w5 s.a0 s.a1 s.a2 s.a3 s.a4 s.a5 s.a6 s.a7 (((8:Nat):Int),zH5 (a8 h) (a8 s) 8)=_;rw [zSt];unfold w5;refine cf rfl ?_;refine bd (a:=zSw h s) rfl rfl
theorem zMx (h:A8 Int) (b:By) (hb:b.length=64):rD h b=some (zNq h b):=by
 unfold rD;refine bd (zZl b hb) ?_;refine bd (zXp _ (fT b 64) h) ?_;refine bd (zYn h _) ?_;rfl
def zUb:A8 Int:=⟨1779033703,3144134277,1013904242,2773480762,1359893119,2600822924,528734635,1541459225⟩
def hsh (x:By):Nat->A8 Int
 | 0=>zUb
 | i+1=>zNq (hsh x i) (s9 x (64*i))
def st8 (p:By) (h:A8 Int):By×Int×Int×Int×Int×Int×Int×Int×Int:=(p,h.a0,h.a1,h.a2,h.a3,h.a4,h.a5,h.a6,h.a7)
theorem zOk (x:By) (n:Nat) (hx:x.length=64*n) (hl:x.length<2 ^ 48):zK lI FU (st8 x zUb)=some ((hsh x n).a0,(hsh x n).a1,(hsh x n).a2,(hsh x n).a3,(hsh x n).a4,(hsh x n).a5,(hsh x n).a6,(hsh x n).a7):=by
 refine yB n (λi=>st8 (x.drop (64*i)) (hsh x i)) (by simp [hsh]) (λi hi=>?_) ?_ (xI (by omega))
 ·have hd:(x.drop (64*i)).length=x.length - 64*i:=by simp
  unfold lI st8;refine ct (by simp;omega) ?_;refine bd (a:=s9 x (64*i)) (by rw [show (0:Int)=((0:Nat):Int) from rfl,show (64:Int)=((64:Nat):Int) from rfl,uL (by omega) (by omega)];simp [s9]) ?_;refine bd (zMx _ _ (by simp [s9];omega)) ?_;refine bd (a:=x.drop (64*(i+1))) (by rw [show (64:Int)=((64:Nat):Int) from rfl,uL (by omega) (by omega)];rw [W0,Q2 (by simp;omega)];congr 2) ?_;rfl
 ·have hd:x.drop (64*n)=[]:=Ql (by omega);show lI (st8 (x.drop (64*n)) (hsh x n))=_;rw [hd];generalize hsh x n=S;rfl
theorem zOm (x:By) (n:Nat) (hx:x.length=64*n) (hl:x.length<2 ^ 47):zK (qH K2 x) FU (0,a8 zUb)=some (a8 (hsh x n)):=by
 refine yB n (λi=>(((64*i:Nat):Int),a8 (hsh x i))) rfl (λi hi=>?_) ?_ (xI (by omega))
 ·unfold qH;refine ct (dlt (by omega)) ?_;refine bd (zYa x (64*i) (by omega) (by omega)) ?_;refine bd (ckT rfl) ?_;refine bd (a:=a8 (hsh x i)) (by rw [yF (by simp [a8])];rfl) ?_;refine bd (zYy _ (fT _ 64) _) ?_;refine bd (zY0 _ _) ?_;rw [zZ (by omega) (by omega),show ((64*i:Nat):Int)+64=((64*(i+1):Nat):Int) by omega];rfl
 ·show qH K2 x (((64*n:Nat):Int),a8 (hsh x n))=_;unfold qH;exact cf (dge (by omega)) rfl
def zs (n:Nat):Nat:=(119 - n % 64) % 64
def be8 (n:Int) (k:Nat):By:=(Qw k).map λ(j:Nat)=>u8 (xE .u64 n (56 - 8*(j:Int)))
theorem zKc (n:Int) (k:Nat):(be8 n k).length=k:=by simp [be8]
theorem zL6 (n:Int) (k:Nat):be8 n (k+1)=be8 n k++[u8 (xE .u64 n (56 - 8*(k:Int)))]:=by simp [be8,Qs]
def yEu (b:By):Int:=Q4.wrap (Q4.wrap (b.length:Int)*8)
def bQ (b:By):By:=(b++[128]++Q9 (zs b.length) 0)++be8 (yEu b) 8
theorem bU (b:By):(bQ b).length=b.length+9+zs b.length:=by simp [bQ,zKc];omega
theorem zDz (b:By):(bQ b).length % 64=0:=by rw [bU];unfold zs;omega
theorem zJ7 (b:By) (hb:b.length<2 ^ 40):zK kH FU (b++[128])=some (b++[128]++Q9 (zs b.length) 0):=by
 have hz:zs b.length<64:=by unfold zs;omega
 refine yB (zs b.length) (λi=>b++[128]++Q9 i 0) (by simp) (λi hi=>?_) ?_ (xI (by omega))
 ·have hl:(b++[128]++Q9 i 0).length=b.length+1+i:=by simp;omega
  unfold kH;refine ct ?_ ?_
  ·rw [hl];simp only [bne_iff_ne,ne_eq];rw [Q5 (by omega)];unfold zs at hi;omega
  ·refine bd (yF (by rw [hl];simp;omega)) ?_;rw [Qf,<- List.replicate_succ']
 ·have hl:(b++[128]++Q9 (zs b.length) 0).length=b.length+1+zs b.length:=by simp;omega
  unfold kH;refine cf ?_ rfl;rw [hl];simp only [bne_eq_false_iff_eq];rw [Q5 (by omega)];unfold zs;omega
theorem zWy:zBh=kH:=rfl
theorem zUg (x:By) (n:Int) (hx:x.length<2 ^ 41):zK (aX n) FU (x,7)=some (x++be8 n 8):=by
 refine yB 8 (λi=>(x++be8 n i,7 - (i:Int))) (by simp [be8]) (λi hi=>?_) ?_ (xI (by decide))
 ·unfold aX;refine ct (by simp;omega) ?_;refine ltk ?_;have e:Q4.wrap (8*Q4.wrap (7 - (i:Int)))=56 - 8*(i:Int):=by
   rw [bH (n:=7 - (i:Int)) (by omega) (by omega),bH (by omega) (by omega)];omega
  rw [e];refine bd (yF (by simp [zKc];omega)) ?_;rw [zZ (by omega) (by omega),Qf,<- zL6,show (7:Int) - (i:Int) - 1=7 - ((i+1:Nat):Int) by omega]
 ·generalize be8 n 8=S;rfl
theorem zTh (x:By) (n:Int) (hx:x.length<2 ^ 41):zK (fN n) FU (x,56)=some (x++be8 n 8):=by
 refine yB 8 (λi=>(x++be8 n i,56 - 8*(i:Int))) (by simp [be8]) (λi hi=>?_) ?_ (xI (by decide))
 ·unfold fN;refine ct (by simp;omega) ?_;rw [bH (n:=56 - 8*(i:Int)) (by omega) (by omega)];refine bd (yF (by simp [zKc];omega)) ?_;rw [zZ (by omega) (by omega),Qf,<- zL6,show (56:Int) - 8*(i:Int) - 8=56 - 8*((i+1:Nat):Int) by omega]
 ·generalize be8 n 8=S;rfl
theorem zHw (b:By) (hb:b.length<2 ^ 40):bO b=some (bQ b):=by
 have hz:zs b.length<64:=by unfold zs;omega
 unfold bO;refine bd (a:=b) (by rw [yF (by simp;omega)];simp) ?_;refine bd (yF (by simp;omega)) ?_;refine bd (zJ7 b hb) ?_;refine ltk ?_;refine bd (zUg _ _ (by simp;omega)) ?_;rfl
theorem zHf (b:By) (hb:b.length<2 ^ 40):gD b=some (bQ b):=by
 have hz:zs b.length<64:=by unfold zs;omega
 unfold gD;refine bd (a:=b.length+72) (by unfold mkN;rw [zZ (by omega) (by omega),if_pos (by omega)];congr 1) ?_;refine bd (a:=b) (by rw [yF (by simp;omega)];simp) ?_;refine bd (yF (by simp;omega)) ?_;rw [zWy];refine bd (zJ7 b hb) ?_;refine ltk ?_;refine bd (zTh _ _ (by simp;omega)) ?_;rfl
def be4 (w:Int):By:=[u8 (xE .u32 w 24),u8 (xE .u32 w 16),u8 (xE .u32 w 8),u8 w]
theorem zKz (l:List Int):(l.flatMap be4).length=4*l.length:=by
 induction l with
 | nil=>rfl
 | cons a r ih=>simp [ih,be4];omega
theorem zPt (l:List Int) (i:Nat) (hi:i<l.length):(l.take (i+1)).flatMap be4=(l.take i).flatMap be4++be4 (l.getD i 0):=by
 rw [Q8,Qp];congr 1;simp [hi]
theorem zSs {l:List Int} (h:i<l.length):idx l (i:Int)=some (l.getD i 0):=by rw [yT h];simp [h]
theorem zM0 (l:List Int) (hl:l.length<2 ^ 20):iJ l=some (l.flatMap be4):=by
 have:zK (lH l) FU ([],0)=some (l.flatMap be4):=by
  refine yB l.length (λi=>((l.take i).flatMap be4,(i:Int))) (by simp) (λi hi=>?_) ?_ (xI (by omega))
  ·unfold lH;refine ct (dlt hi) ?_;refine bd (zSs hi) ?_;refine bd (zSs hi) ?_;refine bd (zSs hi) ?_;refine bd (zSs hi) ?_;refine bd (yF (by rw [zKz];simp;omega)) ?_;rw [zPt l i hi,yM (show i<2 ^ 40 by omega)];rfl
  ·unfold lH;refine cf (dge (Q6 _)) ?_;simp
 unfold iJ;exact bd this rfl
theorem zJr (l:List Int) (hl:l.length<2 ^ 20):oO l=some (l.flatMap be4):=by
 have:zK (pZ l) FU ([],0)=some (l.flatMap be4):=by
  refine yB l.length (λi=>((l.take i).flatMap be4,(i:Int))) (by simp) (λi hi=>?_) ?_ (xI (by omega))
  ·unfold pZ;refine ct (dlt hi) ?_;refine bd (zSs hi) ?_;refine bd (yF (by rw [zKz];simp;omega)) ?_;rw [zPt l i hi,yM (show i<2 ^ 40 by omega)];rfl
  ·unfold pZ;refine cf (dge (Q6 _)) ?_;simp
 unfold oO;refine bd (a:=4*l.length) (by unfold mkN;rw [zZ (by omega) (by omega),if_pos (by omega)];congr 1) ?_;exact bd this rfl
def sha (b:By):By:=(a8 (hsh (bQ b) ((bQ b).length / 64))).flatMap be4
theorem jU (b:By):(sha b).length=32:=by unfold sha;rw [zKz];rfl
theorem zAp (b:By) (hb:b.length<2 ^ 40):wT b=some (sha b):=by
 have hz:zs b.length<64:=by unfold zs;omega
 have h1:=bU b;have h2:=zDz b;unfold wT;refine bd zLx ?_;refine bd (ckT rfl) ?_;refine bd (zHw b hb) ?_;refine bd (zOm (bQ b) ((bQ b).length / 64) (by omega) (by omega)) ?_;refine bd (ckT rfl) ?_;refine bd (zM0 _ (by simp [a8])) ?_;rfl
theorem zP7 (b:By) (hb:b.length<2 ^ 40):wP 1 b=some (sha b):=by
 have hz:zs b.length<64:=by unfold zs;omega
 have h1:=bU b;have h2:=zDz b;unfold wP;refine cf rfl ?_;refine ct rfl ?_;refine bd (zHf b hb) ?_;refine bd (zOk (bQ b) ((bQ b).length / 64) (by omega) (by omega)) ?_;refine bd (zJr _ (by simp)) ?_;rfl
set_option maxRecDepth 100000
def hd4 (n:Nat):By:=[u8 (xE .i64 (n:Int) 24),u8 (xE .i64 (n:Int) 16),u8 (xE .i64 (n:Int) 8),u8 (n:Int)]
theorem yCx (n:Nat) (h:n<2 ^ 32):[u8 (xE .u32 (Q1.wrap (n:Int)) 24),u8 (xE .u32 (Q1.wrap (n:Int)) 16),u8 (xE .u32 (Q1.wrap (n:Int)) 8),u8 (Q1.wrap (n:Int))]=hd4 n:=by
 rw [yEz (by omega) (by omega)];rfl
def zQ7 (fs:List By):By:=fs.flatMap λf=>hd4 f.length++f
def frm (tag:Int) (fs:List By):By:=u8 tag :: zQ7 fs
def tot (fs:List By):Nat:=(fs.map λf=>4+f.length).sum
theorem zTe (fs:List By):(zQ7 fs).length=tot fs:=by
 induction fs with
 | nil=>rfl
 | cons f r ih=>simp only [zQ7,tot,List.flatMap_cons,Qd,Qh,Qi] at ih ⊢;rw [ih];simp [hd4]
theorem zGu (tag:Int) (fs:List By):(frm tag fs).length=1+tot fs:=by simp [frm,zTe];omega
theorem zMw (tag:Int) (fs:List By) (i:Nat) (hi:i<fs.length):frm tag (fs.take (i+1))=(frm tag (fs.take i)++hd4 (fs[i]).length)++fs[i]:=by
 unfold frm zQ7;rw [Q8,Qp];simp [hi]
theorem zTg (fs:List By):∀ i,tot (fs.take i)<=tot fs:=by
 induction fs with
 | nil=>intro i;simp
 | cons f r ih=>
  intro i;cases i with
  | zero=>simp [tot]
  | succ j=>have:=ih j;simp only [tot,List.take_succ_cons,Qh,Qi] at this ⊢;omega
theorem zPh (fs:List By):fs.length<=tot fs:=by
 induction fs with
 | nil=>simp
 | cons f r ih=>simp only [tot,Qb,Qh,Qi] at ih ⊢;omega
theorem zO8 (fs:List By) (i:Nat) (hi:i<fs.length):tot (fs.take i)+4+(fs[i]).length<=tot fs:=by
 have h:=zTg fs (i+1);have e:tot (fs.take (i+1))=tot (fs.take i)+(4+(fs[i]).length):=by
  unfold tot;rw [Q8,Qx,Qy];simp only [hi,List.getElem?_eq_getElem,Option.toList_some,Qh,W3,Qi,W4];omega
 omega
theorem zQ4 (tag:Int) (fs:List By) (h:tot fs<2 ^ 32):dU tag fs=some (frm tag fs):=by
 have h1:=zPh fs;have:zK (lJ fs) FU ([u8 tag],0)=some (frm tag fs):=by
  refine yB fs.length (λi=>(frm tag (fs.take i),(i:Int))) (by simp [frm,zQ7]) (λi hi=>?_) ?_ (xI (by omega))
  ·have h2:=zO8 fs i hi;have h3:=zGu tag (fs.take i);unfold lJ;refine ct (dlt hi) ?_;refine bd (yT hi) ?_;refine bd (yF (by simp;omega)) ?_;refine bd (yT hi) ?_;refine bd (yF (by simp;omega)) ?_;rw [zMw tag fs i hi,yM (show i<2 ^ 40 by omega)];rfl
  ·unfold lJ;refine cf (dge (Q6 _)) ?_;simp
 unfold dU;exact bd this rfl
theorem zQr (tag:Int) (fs:List By) (h:tot fs<2 ^ 32):jO tag fs=some (frm tag fs):=by
 have h1:=zPh fs;have:zK (oY fs) FU ([u8 tag],0)=some (frm tag fs):=by
  refine yB fs.length (λi=>(frm tag (fs.take i),(i:Int))) (by simp [frm,zQ7]) (λi hi=>?_) ?_ (xI (by omega))
  ·have h2:=zO8 fs i hi;have h3:=zGu tag (fs.take i);unfold oY;refine ct (dlt hi) ?_;refine bd (yT hi) ?_;rw [yCx _ (by omega)];refine bd (yF (by simp [hd4];omega)) ?_;refine bd (yF (by simp [hd4];omega)) ?_;rw [zMw tag fs i hi,yM (show i<2 ^ 40 by omega)]
  ·unfold oY;refine cf (dge (Q6 _)) ?_;simp
 unfold jO;exact bd this rfl
def hs (tag:Int) (fs:List By):By:=sha (frm tag fs)
theorem zFd (tag:Int) (fs:List By):(hs tag fs).length=32:=jU _
theorem kK (tag:Int) (fs:List By) (h:tot fs<2 ^ 32):rU tag fs=some (hs tag fs):=by
 unfold rU;refine bd (zQ4 tag fs h) ?_;exact bd (zAp _ (by rw [zGu];omega)) rfl
theorem iK (tag:Int) (fs:List By) (h:tot fs<2 ^ 32):uO tag fs=some (hs tag fs):=by
 unfold uO;refine bd (zQr tag fs h) ?_;exact bd (zP7 _ (by rw [zGu];omega)) rfl
def beN (n:Int) (size k:Nat):By:=(Qw k).map λ(j:Nat)=>u8 (xE .u64 (Q4.wrap n) (8*((size:Int) - 1 - (j:Int))))
theorem lB (n:Int) (size k:Nat):(beN n size k).length=k:=by simp [beN]
theorem zMm (n:Int) (size k:Nat):beN n size (k+1)=beN n size k++[u8 (xE .u64 (Q4.wrap n) (8*((size:Int) - 1 - (k:Int))))]:=by simp [beN,Qs]
def vI (b:By) (size:Nat) (n:Int):By:=b++beN n size size
theorem yI (b:By) (size:Nat) (n:Int):(vI b size n).length=b.length+size:=by simp [vI,lB]
theorem uV (b:By) (size:Nat) (n:Int) (h1:1<=size) (h8:size<=8) (hb:b.length<2 ^ 40):wK b (size:Int) n=some (vI b size n):=by
 have:zK (j7 n) FU (b,(size:Int) - 1)=some (vI b size n):=by
  refine yB size (λi=>(b++beN n size i,(size:Int) - 1 - (i:Int))) (by simp [beN]) (λi hi=>?_) ?_ (xI (by omega))
  ·unfold j7;refine ct (by simp;omega) ?_;refine ltk ?_;rw [bH (n:=(size:Int) - 1 - (i:Int)) (by omega) (by omega),bH (n:=8*((size:Int) - 1 - (i:Int))) (by omega) (by omega)];refine bd (yF (by simp [lB];omega)) ?_;rw [zZ (by omega) (by omega),Qf,<- zMm,show (size:Int) - 1 - (i:Int) - 1=(size:Int) - 1 - ((i+1:Nat):Int) by omega]
  ·unfold j7;refine cf (by simp;omega) rfl
 unfold wK;refine bd (a:=b) (by rw [yF (by simp;omega)];simp) ?_;refine bd (a:=false) (cf (by simp;omega) (congrArg some (by simp;omega))) ?_;rw [zZ (by omega) (by omega)];exact bd this rfl
theorem tT (b:By) (size:Nat) (n:Int) (h1:1<=size) (h8:size<=8) (hb:b.length<2 ^ 40):nM b (size:Int) n=some (vI b size n):=by
 have:zK (jV n) FU (b,(size:Int) - 1)=some (vI b size n):=by
  refine yB size (λi=>(b++beN n size i,(size:Int) - 1 - (i:Int))) (by simp [beN]) (λi hi=>?_) ?_ (xI (by omega))
  ·unfold jV;refine ct (by simp;omega) ?_;refine ltk ?_;rw [zZ (n:=8*((size:Int) - 1 - (i:Int))) (by omega) (by omega),bH (n:=8*((size:Int) - 1 - (i:Int))) (by omega) (by omega)];refine bd (yF (by simp [lB];omega)) ?_;rw [zZ (by omega) (by omega),Qf,<- zMm,show (size:Int) - 1 - (i:Int) - 1=(size:Int) - 1 - ((i+1:Nat):Int) by omega]
  ·unfold jV;refine cf (by simp;omega) rfl
 unfold nM;refine bd (a:=b) (by rw [yF (by simp;omega)];simp) ?_;refine bd (a:=false) (cf (by simp;omega) (congrArg some (by simp;omega))) ?_;rw [zZ (by omega) (by omega)];exact bd this rfl
def eN (b x:By):By:=vI b 2 ((x.take 65535).length:Int)++x.take 65535
theorem tA (b x:By):(eN b x).length<=b.length+65537:=by simp [eN,yI];omega
theorem qV (b x:By) (hb:b.length<2 ^ 39):vT b x=some (eN b x):=by
 unfold vT;refine bd (a:=x.take 65535) ?_ ?_
 ·by_cases h:65535<x.length
  ·refine ct (by simp;omega) ?_;exact bd (a:=x.take 65535) (by rw [show (0:Int)=((0:Nat):Int) from rfl,show (65535:Int)=((65535:Nat):Int) from rfl,uL (by omega) (by omega)];simp) rfl
  ·refine cf (by simp;omega) ?_;rw [Q2 (by omega)]
 ·refine bd (uV b 2 _ (by omega) (by omega) (by omega)) ?_;refine bd (yF (by rw [yI];simp;omega)) ?_;rfl
theorem zDy (b x:By) (hb:b.length<2 ^ 39):fV b x=some (eN b x):=by
 unfold fV;refine bd (a:=x.take 65535) ?_ ?_
 ·by_cases h:65535<x.length
  ·rw [if_pos (by omega),show (0:Int)=((0:Nat):Int) from rfl,show (65535:Int)=((65535:Nat):Int) from rfl,uL (by omega) (by omega)];simp
  ·rw [if_neg (by omega),show (0:Int)=((0:Nat):Int) from rfl,uL (by omega) (by omega)];simp;rw [Q2 (by omega)]
 ·refine bd (tT b 2 _ (by omega) (by omega) (by omega)) ?_;refine bd (yF (by rw [yI];simp;omega)) ?_;rfl
theorem uB (a b:By) (ha:a.length<2 ^ 40):xY a b=some (a==b):=by
 unfold xY;by_cases h:a.length=b.length
 ·refine cf (by simp;omega) ?_;have:∃ r,zK (n5 a b) FU 0=some r/\(match r with | .inl r=>r=false/\a≠b | .inr _=>a=b):=by
   refine zAg (λs=>∃ k:Nat,s=(k:Int)/\k<=a.length/\a.take k=b.take k) (λs=>a.length - s.toNat) _ (λs hs=>?_) FU 0 ⟨0,rfl,by omega,by simp⟩ (xI (by omega));obtain ⟨k,rfl,hk,he⟩:=hs;by_cases hk2:k<a.length
   ·by_cases hv:a[k]=b[k]
    ·refine .inl ⟨((k+1:Nat):Int),?_,⟨k+1,rfl,by omega,?_⟩,by simp;omega⟩
     ·unfold n5;refine ct (dlt hk2) ?_;refine bd (yT hk2) ?_;refine bd (yT (h▸hk2)) ?_;refine cf (by rw [hv];simp) ?_;rw [yM (by omega)]
     ·rw [Q8,Q8,he];simp [hk2,hv,h▸hk2]
    ·refine .inr ⟨.inl false,?_,rfl,λe=>hv (by subst e;rfl)⟩;unfold n5;refine ct (dlt hk2) ?_;refine bd (yT hk2) ?_;refine bd (yT (h▸hk2)) ?_;refine ct ?_ rfl;simp only [bne_iff_ne,ne_eq];intro e;exact hv (UInt8.toNat_inj.mp (by omega))
   ·refine .inr ⟨.inr (),?_,?_⟩
    ·unfold n5;exact cf (dge (by omega)) rfl
    ·have e1:a.take k=a:=Q2 (by omega);have e2:b.take k=b:=Q2 (by omega);rw [e1,e2] at he;exact he
  obtain ⟨r,h1,h2⟩:=this;refine bd h1 ?_;cases r with
  | inl r=>obtain ⟨rfl,h3⟩:=h2;simp [h3]
  | inr u=>simp [h2]
 ·refine ct (by simp;omega) ?_;have:a≠b:=λe=>h (by rw [e]);simp [this]
theorem kF (a b:By):qJ a b=some (a==b):=rfl
theorem zAn (b:By) (h:b.length<2 ^ 40):uR b=some b:=by
 unfold uR;refine bd (yF (by simp;omega)) ?_;simp
set_option maxRecDepth 100000
structure RS where
 b:By
 at':Nat
 e:Int
def RS.W (r:RS):zO:=⟨r.b,(r.at':Int),r.e⟩
def RS.R (r:RS):zE:=⟨r.b,(r.at':Int),r.e⟩
def RS.Ok (r:RS):Prop:=r.at'<=r.b.length/\r.b.length<2 ^ 40
def RS.err (r:RS) (e:Int):RS:=⟨r.b,r.at',e⟩
def RS.to (r:RS) (n:Nat):RS:=⟨r.b,r.at'+n,r.e⟩
def RS.left (r:RS):Nat:=r.b.length - r.at'
def RS.get (r:RS) (n:Nat):By:=(r.b.drop r.at').take n
theorem RS.get_len (r:RS) (n:Nat) (h:n<=r.left):(r.get n).length=n:=by simp [RS.get,RS.left] at *;omega
def uN (r:RS) (n:Nat):By×RS:=if r.e≠0 then ([],r) else if r.left<n then ([],r.err 2) else (r.get n,r.to n)
def beV (l:By):Nat->Int
 | 0=>0
 | k+1=>ior .u64 (tL .u64 (beV l k) 8) (Q4.wrap ((l.getD k 0).toNat:Int))
def yG (r:RS) (n:Nat):Int×RS:=
 if r.e≠0 then (0,r) else if r.left<n then (0,r.err 2) else if 9223372036854775808<=beV (r.get n) n then (0,r.err 4) else (Q0.wrap (beV (r.get n) n),r.to n)
def v2 (r:RS):Nat:=(r.b.getD r.at' 0).toNat*256+(r.b.getD (r.at'+1) 0).toNat
def yX (r:RS) (most:Nat):By×RS:=
 if r.e≠0 then ([],r) else if r.left<2 then ([],r.err 2) else if most<v2 r then ([],r.err 4) else if r.left<2+v2 r then ([],r.err 2) else ((r.b.drop (r.at'+2)).take (v2 r),r.to (2+v2 r))
def qT (r:RS):Int:=if r.e=0/\0<r.left then 3 else r.e
theorem zHg (r:RS) (n:Nat) (h:r.Ok):(uN r n).2.Ok:=by
 unfold uN;split
 ·exact h
 split
 ·exact h
 ·obtain ⟨h1,h2⟩:=h;exact ⟨by simp only [RS.to,RS.left] at *;omega,h2⟩
theorem vA (r:RS) (n:Nat) (h:r.Ok):(yG r n).2.Ok:=by
 unfold yG;split
 ·exact h
 split
 ·exact h
 split
 ·exact h
 ·obtain ⟨h1,h2⟩:=h;exact ⟨by simp only [RS.to,RS.left] at *;omega,h2⟩
theorem nT (r:RS) (n:Nat) (h:r.Ok):(yX r n).2.Ok:=by
 unfold yX;split
 ·exact h
 split
 ·exact h
 split
 ·exact h
 split
 ·exact h
 ·obtain ⟨h1,h2⟩:=h;exact ⟨by simp only [RS.to,RS.left] at *;omega,h2⟩
theorem dV (r:RS) (h:r.Ok):Q0.wrap ((r.b.length:Int) - (r.at':Int))=(r.left:Int):=by
 obtain ⟨h1,h2⟩:=h;rw [zZ (by omega) (by omega)];simp only [RS.left];omega
theorem zL2 (r:zO) (a n:Nat) (h1:a<=r.b_.length) (h2:r.b_.length<2 ^ 40) (hn:r.b_.length - a<n):xA r (a:Int) (n:Int)=some ([],2,r):=by
 unfold xA;refine ct ?_ rfl;rw [zZ (by omega) (by omega)];simp;omega
theorem zJ2 (r:zO) (a n:Nat) (h2:r.b_.length<2 ^ 40) (hn:a+n<=r.b_.length):xA r (a:Int) (n:Int)=some ((r.b_.drop a).take n,0,r):=by
 unfold xA;refine cf ?_ ?_
 ·rw [zZ (by omega) (by omega)];simp;omega
 ·refine bd (a:=(r.b_.drop a).take n) ?_ rfl;rw [zZ (by omega) (by omega),show (a:Int)+(n:Int)=((a+n:Nat):Int) by omega,uL (by omega) (by omega),Qr]
theorem zK2 (r:RS) (n:Nat) (h:r.Ok) (hn:r.left<n):xA r.W (r.at':Int) (n:Int)=some ([],2,r.W):=zL2 r.W r.at' n h.1 h.2 hn
theorem zH8 (r:RS) (n:Nat) (h:r.Ok) (hn:n<=r.left):xA r.W (r.at':Int) (n:Int)=some (r.get n,0,r.W):=
 zJ2 r.W r.at' n h.2 (by have:=h.1;simp only [RS.left] at hn;show r.at'+n<=r.b.length;omega)
theorem zGs (r:RS) (n:Nat) (h:r.Ok) (he:r.e=0) (hn:r.left<n):xM r.R (n:Int)=some (false,(r.err 2).R):=by
 unfold xM RS.R;refine bd (a:=2) ?_ rfl;refine bd (a:=true) ?_ rfl;refine ct (by simp [he]) ?_;show some (decide (Q0.wrap ((r.b.length:Int) - (r.at':Int))<(n:Int)))=some true;rw [dV r h,dlt hn]
theorem zC4 (r:RS) (n:Nat) (h:r.Ok) (he:r.e=0) (hn:n<=r.left):xM r.R (n:Int)=some (true,r.R):=by
 unfold xM RS.R;refine bd (a:=0) ?_ (by simp [he]);refine bd (a:=false) ?_ (by simp [he]);refine ct (by simp [he]) ?_;show some (decide (Q0.wrap ((r.b.length:Int) - (r.at':Int))<(n:Int)))=some false;rw [dV r h,dge hn]
theorem b0 (h:e=0):(e != 0)=false:=by subst h;rfl
theorem b1 (h:e≠0):(e != 0)=true:=by simp [h]
theorem c0 (h:e=0):(e==0)=true:=by subst h;rfl
theorem c1 (h:e≠0):(e==0)=false:=by simp [h]
theorem zNf (n:Nat):decide ((n:Int)<0)=false:=by simp
theorem nN (r:RS) (n:Nat) (h:r.Ok):vY r.W (n:Int)=some ((uN r n).1,(uN r n).2.W):=by
 unfold vY;by_cases he:r.e=0
 ·refine cf (b0 he) ?_;refine cf (zNf n) ?_;by_cases hn:r.left<n
  ·refine bd (zK2 r n h hn) ?_;refine ct rfl ?_;rw [show uN r n=([],r.err 2) by simp [uN,he,hn]];rfl
  ·refine bd (zH8 r n h (by omega)) ?_;refine cf rfl ?_;have hl:=RS.get_len r n (by omega);obtain ⟨h1,h2⟩:=h;refine bd (a:=r.get n) (by rw [yF (by simp;simp only [RS.left] at hn;omega)];simp) ?_;show some (r.get n,(⟨r.b,Q0.wrap ((r.at':Int)+(n:Int)),r.e⟩:zO))=_;have hn':=hn;simp only [RS.left] at hn';rw [zZ (by omega) (by omega),show (r.at':Int)+(n:Int)=((r.at'+n:Nat):Int) by omega];rw [show uN r n=(r.get n,r.to n) by simp [uN,he,hn]];rfl
 ·refine ct (b1 he) ?_;rw [show uN r n=([],r) by simp [uN,he]]
theorem zG8 (r:RS) (n:Nat) (h:r.Ok):rJ r.R (n:Int)=some ((uN r n).1,(uN r n).2.R):=by
 unfold rJ;by_cases he:r.e=0
 ·refine bd (a:=0) ?_ ?_
  ·refine bd (a:=false) ?_ (congrArg some he);refine ct (c0 he) ?_;exact congrArg some (zNf n)
  ·have hr:(⟨r.R.B,r.R.At,0⟩:zE)=r.R:=by simp [RS.R,he]
   rw [hr];by_cases hn:r.left<n
   ·refine bd (a:=(true,r.b,(r.at':Int),2)) ?_ ?_
    ·refine cf rfl ?_;exact bd (zGs r n h he hn) rfl
    ·refine ct rfl ?_;rw [show uN r n=([],r.err 2) by simp [uN,he,hn]];rfl
   ·refine bd (a:=(false,r.b,(r.at':Int),r.e)) ?_ ?_
    ·refine cf rfl ?_;exact bd (zC4 r n h he (by omega)) rfl
    ·refine cf rfl ?_;have hl:=RS.get_len r n (by omega);obtain ⟨h1,h2⟩:=h;have hn':=hn;simp only [RS.left] at hn';rw [zZ (n:=(r.at':Int)+(n:Int)) (by omega) (by omega),zZ (n:=(r.at':Int)+(n:Int) - (n:Int)) (by omega) (by omega),show (r.at':Int)+(n:Int) - (n:Int)=(r.at':Int) by omega,show (r.at':Int)+(n:Int)=((r.at'+n:Nat):Int) by omega];refine ltk ?_;refine bd (a:=r.get n) (by rw [uL (by omega) (by omega),Qr];rfl) ?_;refine bd (a:=r.get n) (by rw [yF (by simp;simp only [RS.left] at hn;omega)];simp) ?_;rw [show uN r n=(r.get n,r.to n) by simp [uN,he,hn]];rfl
 ·refine bd (a:=r.e) ?_ ?_
  ·refine bd (a:=false) ?_ rfl;exact cf (c1 he) rfl
  ·refine bd (a:=(true,r.b,(r.at':Int),r.e)) (ct (b1 he) rfl) ?_;refine ct rfl ?_;rw [show uN r n=([],r) by simp [uN,he]];rfl
theorem yBn (l:By) (hl:l.length<2 ^ 40):zK (sM l) FU (0,0)=some (beV l l.length):=by
 refine yB l.length (λi=>(beV l i,(i:Int))) rfl (λi hi=>?_) ?_ (xI (by omega))
 ·unfold sM;refine ct (dlt hi) ?_;refine bd (yT hi) ?_;refine ltk ?_;rw [yM (show i<2 ^ 40 by omega)];simp [beV,hi]
 ·unfold sM;exact cf (dge (Q6 _)) rfl
theorem yEm (b:By) (at' n:Nat) (h:at'+n<=b.length) (hl:b.length<2 ^ 40):zK (sI (n:Int) b (at':Int)) FU (0,0)=some (beV ((b.drop at').take n) n):=by
 refine yB n (λi=>(beV ((b.drop at').take n) i,(i:Int))) rfl (λi hi=>?_) ?_ (xI (by omega))
 ·unfold sI;refine ct (dlt hi) ?_;refine bd (a:=((b.drop at').take n).getD i 0) ?_ ?_
  ·rw [zZ (by omega) (by omega),show (at':Int)+(i:Int)=((at'+i:Nat):Int) by omega,yT (by omega)];have h5:i<((b.drop at').take n).length:=by simp;omega
   rw [List.getD_eq_getElem?_getD,List.getElem?_eq_getElem h5];simp
  ·refine ltk ?_;rw [yM (show i<2 ^ 40 by omega)];rfl
 ·unfold sI;exact cf (dge (Q6 _)) rfl
theorem yZ (r:RS) (n:Nat) (h:r.Ok) (h1:1<=n) (h8:n<=8):y0 r.W (n:Int)=some ((yG r n).1,(yG r n).2.W):=by
 unfold y0;by_cases he:r.e=0
 ·refine cf (b0 he) ?_;refine bd (a:=false) (cf (by simp;omega) (congrArg some (by simp;omega))) ?_;refine cf rfl ?_;by_cases hn:r.left<n
  ·refine bd (zK2 r n h hn) ?_;refine ct rfl ?_;rw [show yG r n=(0,r.err 2) by simp [yG,he,hn]];rfl
  ·refine bd (zH8 r n h (by omega)) ?_;refine cf rfl ?_;have hl:=RS.get_len r n (by omega);refine bd (a:=beV (r.get n) n) ((yBn _ (by omega)).trans (by rw [hl])) ?_;by_cases hv:9223372036854775808<=beV (r.get n) n
   ·refine ct (by simp;omega) ?_;rw [show yG r n=(0,r.err 4) by simp [yG,he,hn,hv]];rfl
   ·refine cf (by simp;omega) ?_;obtain ⟨h1,h2⟩:=h;show some (_,(⟨r.b,Q0.wrap ((r.at':Int)+(n:Int)),r.e⟩:zO))=_;have hn':=hn;simp only [RS.left] at hn';rw [zZ (n:=(r.at':Int)+(n:Int)) (by omega) (by omega),show (r.at':Int)+(n:Int)=((r.at'+n:Nat):Int) by omega];rw [show yG r n=(Q0.wrap (beV (r.get n) n),r.to n) by simp [yG,he,hn,hv]];rfl
 ·refine ct (b1 he) ?_;rw [show yG r n=(0,r) by simp [yG,he]]
theorem uK (r:RS) (n:Nat) (h:r.Ok) (h1:1<=n) (h8:n<=8):xH r.R (n:Int)=some ((yG r n).1,(yG r n).2.R):=by
 unfold xH;by_cases he:r.e=0
 ·refine bd (a:=0) ?_ ?_
  ·refine bd (a:=false) ?_ (congrArg some he);refine ct (c0 he) ?_;exact cf (by simp;omega) (congrArg some (by simp;omega))
  ·have hr:(⟨r.R.B,r.R.At,0⟩:zE)=r.R:=by simp [RS.R,he]
   rw [hr];by_cases hn:r.left<n
   ·refine bd (a:=(true,r.b,(r.at':Int),2)) ?_ ?_
    ·refine cf rfl ?_;exact bd (zGs r n h he hn) rfl
    ·refine ct rfl ?_;rw [show yG r n=(0,r.err 2) by simp [yG,he,hn]];rfl
   ·refine bd (a:=(false,r.b,(r.at':Int),r.e)) ?_ ?_
    ·refine cf rfl ?_;exact bd (zC4 r n h he (by omega)) rfl
    ·refine cf rfl ?_;obtain ⟨h1,h2⟩:=h;have hn':=hn;simp only [RS.left] at hn';refine bd (a:=beV (r.get n) n) (yEm r.b r.at' n (by omega) h2) ?_;by_cases hv:9223372036854775808<=beV (r.get n) n
     ·refine ct (by simp;omega) ?_;rw [show yG r n=(0,r.err 4) by simp [yG,he,hn,hv]];rfl
     ·refine cf (by simp;omega) ?_;rw [zZ (n:=(r.at':Int)+(n:Int)) (by omega) (by omega),show (r.at':Int)+(n:Int)=((r.at'+n:Nat):Int) by omega];rw [show yG r n=(Q0.wrap (beV (r.get n) n),r.to n) by simp [yG,he,hn,hv]];rfl
 ·refine bd (a:=r.e) ?_ ?_
  ·refine bd (a:=false) ?_ rfl;exact cf (c1 he) rfl
  ·refine bd (a:=(true,r.b,(r.at':Int),r.e)) (ct (b1 he) rfl) ?_;refine ct rfl ?_;rw [show yG r n=(0,r) by simp [yG,he]];rfl
theorem zW4 (x y:UInt8):ior .i64 (tL .i64 (Q0.wrap (x.toNat:Int)) 8) (Q0.wrap (y.toNat:Int))=((x.toNat*256+y.toNat:Nat):Int):=by
 have hx:=x.toNat_lt;have hy:=y.toNat_lt;rw [zZ (by omega) (by omega),zZ (by omega) (by omega)];have e1:tL .i64 (x.toNat:Int) 8=((x.toNat*256:Nat):Int):=by
  show Q0.wrap ((x.toNat:Int)*256)=_;rw [zZ (by omega) (by omega)];omega
 rw [e1];unfold ior;have e2:(Q3 Q0.bits ((x.toNat*256:Nat):Int) ||| Q3 Q0.bits (y.toNat:Int)).toNat=x.toNat*256+y.toNat:=by
  show (Q3 64 ((x.toNat*256:Nat):Int) ||| Q3 64 (y.toNat:Int)).toNat=_;rw [Q7,Q7,BitVec.toNat_or,Qa,Qa,Qc (by omega),Qc (by omega)];rw [Nat.mul_comm,show (256:Nat)=2 ^ 8 from rfl,<- Nat.two_pow_add_eq_or_of_lt (by omega)]
 rw [e2,zZ (by omega) (by omega)]
theorem ig (h:i<l.length):idx l (i:Int)=some (l.getD i 0):=by rw [yT h];simp [h]
theorem vL (r:RS) (m:Nat) (h:r.Ok):wJ r.W (m:Int)=some ((yX r m).1,(yX r m).2.W):=by
 have hv:v2 r<65536:=by
  have h1:=(r.b.getD r.at' 0).toNat_lt;have h2:=(r.b.getD (r.at'+1) 0).toNat_lt;unfold v2;omega
 unfold wJ;by_cases he:r.e=0
 ·refine cf (b0 he) ?_;by_cases hn:r.left<2
  ·refine bd (zK2 r 2 h hn) ?_;refine ct rfl ?_;rw [show yX r m=([],r.err 2) by simp [yX,he,hn]];rfl
  ·refine bd (zH8 r 2 h (by omega)) ?_;refine cf rfl ?_;have hl:=RS.get_len r 2 (by omega);have hn':=hn;simp only [RS.left] at hn';refine bd (a:=r.b.getD r.at' 0) ?_ ?_
   ·refine (ig (l:=r.get 2) (i:=0) (by omega)).trans ?_;simp [RS.get]
   refine bd (a:=r.b.getD (r.at'+1) 0) ?_ ?_
   ·refine (ig (l:=r.get 2) (i:=1) (by omega)).trans ?_;simp [RS.get]
   refine ltk ?_;rw [zW4];show (bif decide ((m:Int)<(v2 r:Int)) then _ else _)=_;by_cases hm:m<v2 r
   ·refine ct (dlt hm) ?_;rw [show yX r m=([],r.err 4) by simp [yX,he,hn,hm]];rfl
   ·refine cf (dge (by omega)) ?_;obtain ⟨h1,h2⟩:=h;have hw:Q0.wrap ((r.at':Int)+2)=(((r.at'+2:Nat)):Int):=by rw [zZ (by omega) (by omega)];omega
    show ((xA r.W (Q0.wrap ((r.at':Int)+2)) (v2 r:Int)).bind _)=_;rw [hw];by_cases hk:r.left<2+v2 r
    ·refine bd (a:=([],2,r.W)) ?_ ?_
     ·exact zL2 r.W (r.at'+2) (v2 r) (by show r.at'+2<=r.b.length;omega) h2 (by simp only [RS.left] at hk;show r.b.length - (r.at'+2)<v2 r;omega)
     ·refine ct rfl ?_;rw [show yX r m=([],r.err 2) by simp [yX,he,hn,hm,hk]];rfl
    ·have hk':=hk;simp only [RS.left] at hk';refine bd (zJ2 r.W (r.at'+2) (v2 r) h2 (by show r.at'+2+v2 r<=r.b.length;omega)) ?_;refine cf rfl ?_;refine ltk ?_;refine bd (a:=(r.b.drop (r.at'+2)).take (v2 r)) ?_ ?_
     ·refine (yF (by simp;omega)).trans ?_;rfl
     ·show some (_,(⟨r.b,Q0.wrap ((r.at':Int)+Q0.wrap (2+(v2 r:Int))),r.e⟩:zO))=_;rw [zZ (n:=2+(v2 r:Int)) (by omega) (by omega),zZ (by omega) (by omega),show (r.at':Int)+(2+(v2 r:Int))=((r.at'+(2+v2 r):Nat):Int) by omega];rw [show yX r m=((r.b.drop (r.at'+2)).take (v2 r),r.to (2+v2 r)) by simp [yX,he,hn,hm,hk]];rfl
 ·refine ct (b1 he) ?_;rw [show yX r m=([],r) by simp [yX,he]]
theorem n6 (r:RS) (m:Nat) (h:r.Ok):wL r.R (m:Int)=some ((yX r m).1,(yX r m).2.R):=by
 have hv:v2 r<65536:=by
  have h1:=(r.b.getD r.at' 0).toNat_lt;have h2:=(r.b.getD (r.at'+1) 0).toNat_lt;unfold v2;omega
 unfold wL;by_cases he:r.e=0
 ·by_cases hn:r.left<2
  ·refine bd (a:=(true,r.b,(r.at':Int),2)) (cf (b0 he) (bd (zGs r 2 h he hn) rfl)) ?_;refine ct rfl ?_;rw [show yX r m=([],r.err 2) by simp [yX,he,hn]];rfl
  ·refine bd (a:=(false,r.b,(r.at':Int),r.e)) (cf (b0 he) (bd (zC4 r 2 h he (by omega)) rfl)) ?_;refine cf rfl ?_;have hn':=hn;simp only [RS.left] at hn';have h':=h;obtain ⟨h1,h2⟩:=h';refine bd (a:=r.b.getD r.at' 0) (ig (by omega)) ?_;refine bd (a:=r.b.getD (r.at'+1) 0) (by rw [yM (by omega)];exact ig (by omega)) ?_;refine ltk ?_;rw [zW4];show (bif decide ((m:Int)<(v2 r:Int)) then _ else _)=_;by_cases hm:m<v2 r
   ·refine ct (dlt hm) ?_;rw [show yX r m=([],r.err 4) by simp [yX,he,hn,hm]];rfl
   ·refine cf (dge (by omega)) ?_;have hw:Q0.wrap (2+(v2 r:Int))=((2+v2 r:Nat):Int):=by rw [zZ (by omega) (by omega)];omega
    show ((xM r.R (Q0.wrap (2+(v2 r:Int)))).bind λp=>bif !p.1 then _ else lt (Q0.wrap (p.2.At+Q0.wrap (2+(v2 r:Int)))) _)=_;rw [hw];by_cases hk:r.left<2+v2 r
    ·refine bd (zGs r (2+v2 r) h he hk) ?_;refine ct rfl ?_;rw [show yX r m=([],r.err 2) by simp [yX,he,hn,hm,hk]]
    ·have hk':=hk;simp only [RS.left] at hk';refine bd (zC4 r (2+v2 r) h he (by omega)) ?_;refine cf rfl ?_;refine ltk ?_;show ((sub r.b (Q0.wrap (Q0.wrap ((r.at':Int)+((2+v2 r:Nat):Int)) - (v2 r:Int))) (Q0.wrap ((r.at':Int)+((2+v2 r:Nat):Int)))).bind λz=>(yN 1 [] z).bind λy=>some (y,zE.mk r.b (Q0.wrap ((r.at':Int)+((2+v2 r:Nat):Int))) r.e))=_;rw [zZ (n:=(r.at':Int)+((2+v2 r:Nat):Int)) (by omega) (by omega),show (r.at':Int)+((2+v2 r:Nat):Int)=((r.at'+(2+v2 r):Nat):Int) by omega,zZ (by omega) (by omega),show ((r.at'+(2+v2 r):Nat):Int) - (v2 r:Int)=((r.at'+2:Nat):Int) by omega];refine bd (a:=(r.b.drop (r.at'+2)).take (v2 r)) (by rw [uL (by omega) (by omega)];congr 2;omega) ?_;refine bd (a:=(r.b.drop (r.at'+2)).take (v2 r)) ((yF (by simp;omega)).trans rfl) ?_;rw [show yX r m=((r.b.drop (r.at'+2)).take (v2 r),r.to (2+v2 r)) by simp [yX,he,hn,hm,hk]];rfl
 ·refine bd (a:=(true,r.b,(r.at':Int),r.e)) (ct (b1 he) rfl) ?_;refine ct rfl ?_;rw [show yX r m=([],r) by simp [yX,he]];rfl
theorem aK (r:RS) (h:r.Ok):rN r.W=some (qT r,r.W):=by
 unfold rN;by_cases he:r.e=0
 ·refine bd (a:=(decide (0<(r.left:Int)),r.b,(r.at':Int),r.e)) (ct (c0 he) ?_) ?_
  ·show some (decide (0<Q0.wrap ((r.b.length:Int) - (r.at':Int))),r.b,(r.at':Int),r.e)=_;rw [dV r h]
  ·by_cases hl:0<r.left
   ·refine ct (by simp;omega) ?_;simp only [qT,he,hl];rw [<- he];rfl
   ·refine cf (by simp;omega) ?_;simp only [qT,he,hl];rw [<- he];simp [RS.W]
 ·refine bd (a:=(false,r.b,(r.at':Int),r.e)) (cf (c1 he) rfl) ?_;refine cf rfl ?_;simp only [qT,he];simp [RS.W]
theorem zIo (r:RS) (h:r.Ok):rM r.R=some (qT r,r.R):=by
 unfold rM;by_cases he:r.e=0
 ·refine bd (a:=(decide (0<(r.left:Int)),r.b,(r.at':Int),r.e)) (ct (c0 he) ?_) ?_
  ·show some (decide (0<Q0.wrap ((r.b.length:Int) - (r.at':Int))),r.b,(r.at':Int),r.e)=_;rw [dV r h]
  ·by_cases hl:0<r.left
   ·refine ct (by simp;omega) ?_;simp only [qT,he,hl];rw [<- he];rfl
   ·refine cf (by simp;omega) ?_;simp only [qT,he,hl];rw [<- he];simp [RS.R]
 ·refine bd (a:=(false,r.b,(r.at':Int),r.e)) (cf (c1 he) rfl) ?_;refine cf rfl ?_;simp only [qT,he];simp [RS.R]
set_option maxRecDepth 100000
theorem tY (n:Nat):(u8 (n:Int)).toNat=n % 256:=by
 have:((n:Int) % 256).toNat=n % 256:=by omega
 rw [u8,this];simp
theorem zW2 (n k:Nat) (h:n<2 ^ 62) (hk:k<2 ^ 62):xG .i64 (n:Int) (k:Int)=((n &&& k:Nat):Int):=by
 have e:(Q3 Q0.bits (n:Int) &&& Q3 Q0.bits (k:Int)).toNat=n &&& k:=by
  show (Q3 64 (n:Int) &&& Q3 64 (k:Int)).toNat=_;rw [Q7,Q7,Qv,Qa,Qa,Qc (by omega),Qc (by omega)]
 unfold xG;have h3:n &&& k<=n:=Nat.and_le_left;rw [e,zZ (by omega) (by omega)]
theorem zUq (n:Nat) (h:n<2 ^ 62):xG .i64 (n:Int) 15=((n % 16:Nat):Int):=by
 rw [show (15:Int)=((15:Nat):Int) from rfl,zW2 n 15 h (by decide),Qe n 4]
theorem zW1 (n:Nat) (h:n<2 ^ 62):xG .i64 (n:Int) 1=((n % 2:Nat):Int):=by
 rw [show (1:Int)=((1:Nat):Int) from rfl,zW2 n 1 h (by decide),Qe n 1]
theorem zNr (k:IntKind) (n j:Nat) (h:j<=k.bits):xE k (n:Int) (j:Int)=((n / 2 ^ j:Nat):Int):=by
 unfold xE;rw [Int.toNat_natCast,Nat.min_eq_left h,Int.fdiv_eq_ediv_of_nonneg _ (by have:(0:Int)<2 ^ j:=Int.pow_pos (by decide);omega)];rw [Int.natCast_ediv];simp
theorem zSx (x:UInt8):Q0.wrap ((u8 (xE .u8 (x.toNat:Int) 4)).toNat:Int)=((x.toNat / 16:Nat):Int):=by
 have hx:=x.toNat_lt;rw [show (4:Int)=((4:Nat):Int) from rfl,zNr .u8 x.toNat 4 (by decide),tY,zZ (by omega) (by omega)];omega
theorem zSy (x:UInt8):Q0.wrap ((u8 (xG .u8 (x.toNat:Int) 15)).toNat:Int)=((x.toNat % 16:Nat):Int):=by
 have hx:=x.toNat_lt;have e:xG .u8 (x.toNat:Int) 15=((x.toNat % 16:Nat):Int):=by
  have e:(Q3 W5.bits (x.toNat:Int) &&& Q3 W5.bits 15).toNat=x.toNat % 16:=by
   show (Q3 8 (x.toNat:Int) &&& Q3 8 ((15:Nat):Int)).toNat=_;rw [Q7,Q7,Qv,Qa,Qa,Qc (by omega),Qc (by omega)];exact Qe x.toNat 4
  unfold xG;rw [e,IntKind.wrap_u8];omega
 rw [e,tY,zZ (by omega) (by omega)];omega
def nb (x:UInt8):List Nat:=[x.toNat / 16,x.toNat % 16]
def nbs (h:By):List Nat:=h.flatMap nb
def sm (h:By):Nat:=(h.map λx=>30 - x.toNat / 16 - x.toNat % 16).sum
theorem zQa (l:By) (i:Nat) (hi:i<l.length):sm (l.take (i+1))=sm (l.take i)+(30 - l[i].toNat / 16 - l[i].toNat % 16):=by
 unfold sm;rw [Q8,Qx,Qy];simp only [hi,List.getElem?_eq_getElem,Option.toList_some,Qh,W3,Qi,W4];omega
theorem zM1 (l:By):sm l<=30*l.length:=by
 induction l with
 | nil=>simp [sm]
 | cons a r ih=>simp only [sm,Qh,Qi,Qb] at ih ⊢;omega
theorem zL0 (l:By) (i:Nat) (hi:i<l.length):nbs (l.take (i+1))=nbs (l.take i)++nb l[i]:=by
 unfold nbs;rw [Q8,Qp];simp [hi]
theorem zC5 (l:By):(nbs l).length=2*l.length:=by
 induction l with
 | nil=>rfl
 | cons a r ih=>simp [nbs,nb] at ih ⊢;omega
def kI (l:List Nat):List Int:=l.map λ(n:Nat)=>(n:Int)
theorem zIq (a b:List Nat):kI (a++b)=kI a++kI b:=by simp [kI]
theorem zD4 (a:List Nat):(kI a).length=a.length:=by simp [kI]
theorem zIn {l:List Nat} (h:i<l.length):idx (kI l) (i:Int)=some ((l.getD i 0:Nat):Int):=by
 rw [yT (by rw [zD4];exact h)];simp [kI,h]
theorem zV8 (x:UInt8) (out:List Nat) (s:Nat) (ho:out.length<2 ^ 20) (hs:s<2 ^ 40):zK (mF x) FU (kI out,(s:Int),0)=some (kI (out++nb x),((s+(30 - x.toNat / 16 - x.toNat % 16):Nat):Int)):=by
 have hx:=x.toNat_lt;refine yB 2 (λi=>(kI (out++(nb x).take i),((s+(if i=0 then 0 else if i=1 then 15 - x.toNat / 16 else 30 - x.toNat / 16 - x.toNat % 16):Nat):Int),(i:Int))) (by simp) (λi hi=>?_) ?_ (xI (by decide))
 ·unfold mF;refine ct (dlt (b:=2) hi) ?_;rw [zSx,zSy];rcases i with _ | _ | i
  ·refine bd (a:=((x.toNat / 16:Nat):Int)) rfl ?_;refine bd (yF (by simp [kI];omega)) ?_;refine ltk ?_;have e:Q0.wrap (((s+0:Nat):Int)+Q0.wrap (15 - ((x.toNat / 16:Nat):Int)))=((s+(15 - x.toNat / 16):Nat):Int):=by
    rw [zZ (n:=15 - _) (by omega) (by omega),zZ (by omega) (by omega)];omega
   show some (Sum.inl (_,Q0.wrap (((s+0:Nat):Int)+Q0.wrap (15 - ((x.toNat / 16:Nat):Int))),Q0.wrap (((0:Nat):Int)+1)))=_;rw [e,yM (by decide)];simp [kI,nb]
  ·refine bd (a:=((x.toNat % 16:Nat):Int)) rfl ?_;refine bd (yF (by simp [kI];omega)) ?_;refine ltk ?_;have e:Q0.wrap (((s+(15 - x.toNat / 16):Nat):Int)+Q0.wrap (15 - ((x.toNat % 16:Nat):Int)))=((s+(30 - x.toNat / 16 - x.toNat % 16):Nat):Int):=by
    rw [zZ (n:=15 - _) (by omega) (by omega),zZ (by omega) (by omega)];omega
   show some (Sum.inl (_,Q0.wrap (((s+(15 - x.toNat / 16):Nat):Int)+Q0.wrap (15 - ((x.toNat % 16:Nat):Int))),Q0.wrap (((1:Nat):Int)+1)))=_;rw [e,yM (by decide)];simp [kI,nb]
  ·omega
 ·rfl
def jK (m:By):List Nat:=nbs ((hs 4 [m]).take 16)++[sm ((hs 4 [m]).take 16) / 256,sm ((hs 4 [m]).take 16) / 16 % 16,sm ((hs 4 [m]).take 16) % 16]
theorem pI (tag:Int) (fs:List By):((hs tag fs).take 16).length=16:=by simp [zFd]
theorem zEc (m:By):(jK m).length=35:=by have:=pI 4 [m];simp [jK,zC5,-List.length_take,this]
theorem zC7 (tag:Int) (fs:List By):sub (hs tag fs) 0 16=some ((hs tag fs).take 16):=by
 have:=zFd tag fs;rw [show (0:Int)=((0:Nat):Int) from rfl,show (16:Int)=((16:Nat):Int) from rfl,uL (by omega) (by omega)];simp
theorem zWh (a:By):tot [a]=4+a.length:=by simp [tot]
theorem zOs (a b:By):tot [a,b]=8+a.length+b.length:=by simp [tot];omega
theorem zV1 (a b c:By):tot [a,b,c]=12+a.length+b.length+c.length:=by simp [tot];omega
theorem zOd (m:By) (hm:m.length<2 ^ 31):mV m=some (kI (jK m)):=by
 unfold mV;refine bd (iK 4 [m] (by rw [zWh];omega)) ?_;refine bd (zC7 4 [m]) ?_;have hl:=pI 4 [m];unfold jK;generalize (hs 4 [m]).take 16=h at hl ⊢;have hsm:=zM1 h;refine bd (a:=(kI (nbs h),(sm h:Int))) ?_ ?_
 ·refine yB h.length (λi=>(kI (nbs (h.take i)),(sm (h.take i):Int),(i:Int))) rfl (λi hi=>?_) ?_ (xI (by omega))
  ·have h1:=zM1 (h.take i);have h2:=zC5 (h.take i);have h3:(h.take i).length=i:=by simp;omega
   unfold mS;refine ct (dlt hi) ?_;refine bd (yT hi) ?_;refine bd (zV8 _ _ _ (by omega) (by omega)) ?_;rw [zQa h i hi,zL0 h i hi,yM (show i<2 ^ 40 by omega)]
  ·unfold mS;refine cf (dge (Q6 _)) ?_;simp
 ·have h2:=zC5 h;show ((yN 8 (kI (nbs h)) [xE .i64 (sm h:Int) ((8:Nat):Int),xG .i64 (xE .i64 (sm h:Int) ((4:Nat):Int)) 15,xG .i64 (sm h:Int) 15]).bind λv=>some v)=_;rw [zNr .i64 _ 8 (by decide),zNr .i64 _ 4 (by decide),zUq _ (by omega),zUq _ (by omega)];refine bd (yF (by rw [zD4];simp;omega)) ?_;rw [zIq];rfl
theorem zH1 (m:By) (hm:m.length<2 ^ 31):kE m=some (kI (jK m)):=by
 unfold kE;refine bd (kK 4 [m] (by rw [zWh];omega)) ?_;refine bd (zC7 4 [m]) ?_;have hl:=pI 4 [m];unfold jK;generalize (hs 4 [m]).take 16=h at hl ⊢;have hsm:=zM1 h;refine bd (a:=(kI (nbs h),(sm h:Int))) ?_ ?_
 ·refine yB 16 (λi=>(kI (nbs (h.take i)),(sm (h.take i):Int),(i:Int))) rfl (λi hi=>?_) ?_ (xI (by omega))
  ·have h1:=zM1 (h.take i);have h2:=zC5 (h.take i);have h3:(h.take i).length=i:=by simp;omega
   have hi':i<h.length:=by omega
   have hx:=h[i].toNat_lt;unfold iP;refine ct (dlt (b:=16) hi) ?_;refine bd (yT hi') ?_;refine bd (yT hi') ?_;rw [zSx,zSy];refine bd (a:=kI (nbs (h.take (i+1)))) ?_ ?_
   ·rw [yF (by rw [zD4];simp;omega),zL0 h i hi',zIq];rfl
   refine bd (yT hi') ?_;refine ltk ?_;refine bd (yT hi') ?_;refine ltk ?_;rw [zSx,zSy,zQa h i hi',yM (show i<2 ^ 40 by omega)];rw [zZ (n:=30 - _) (by omega) (by omega),zZ (n:=30 - _ - _) (by omega) (by omega),zZ (by omega) (by omega)];congr 4;omega
  ·unfold iP;refine cf rfl ?_;rw [Q2 (by omega)]
 ·have h2:=zC5 h;show ((yN 8 (kI (nbs h)) [Q0.wrap (Qt (sm h:Int) 256),Qu (Q0.wrap (Qt (sm h:Int) 16)) 16,Qu (sm h:Int) 16]).bind λv=>some v)=_;have e1:Q0.wrap (Qt (sm h:Int) 256)=((sm h / 256:Nat):Int):=by rw [Qj (by omega),zZ (by omega) (by omega)];omega
  have e2:Q0.wrap (Qt (sm h:Int) 16)=((sm h / 16:Nat):Int):=by rw [Qj (by omega),zZ (by omega) (by omega)];omega
  have e3:Qu ((sm h / 16:Nat):Int) 16=((sm h / 16 % 16:Nat):Int):=by rw [Q5 (by omega)];omega
  have e4:Qu (sm h:Int) 16=((sm h % 16:Nat):Int):=by rw [Q5 (by omega)];omega
  rw [e1,e2,e3,e4];refine bd (yF (by rw [zD4];simp;omega)) ?_;rw [zIq];rfl
def chn (leaf c p:Nat) (x:By):Nat->By
 | 0=>x
 | k+1=>(hs 1 [[u8 (leaf:Int),u8 (c:Int),u8 ((p+k:Nat):Int)],chn leaf c p x k]).take 16
theorem jL (leaf c p:Nat) (x:By) (hx:x.length=16):∀ k,(chn leaf c p x k).length=16
 | 0=>hx
 | _+1=>pI _ _
theorem zFg (leaf c p t:Nat) (x:By) (hx:x.length=16) (hp:p<=t) (ht:t<2 ^ 30):m5 (leaf:Int) (c:Int) (p:Int) (t:Int) x=some (chn leaf c p x (t - p)):=by
 unfold m5;refine bd ?_ rfl;refine yB (t - p) (λi=>(chn leaf c p x i,((p+i:Nat):Int))) rfl (λi hi=>?_) ?_ (xI (by omega))
 ·have hl:=jL leaf c p x hx i;unfold fL;refine ct (dlt (by omega)) ?_;refine bd (kK _ _ (by rw [zOs];simp;omega)) ?_;refine bd (zC7 _ _) ?_;rw [yM (show p+i<2 ^ 40 by omega)];rfl
 ·unfold fL;exact cf (dge (by omega)) rfl
theorem zQ0 (leaf c p:Nat) (x:By) (hx:x.length=16) (hp:p<=15):zK (xU (leaf:Int) (c:Int)) FU (x,(p:Int))=some (chn leaf c p x (15 - p)):=by
 refine yB (15 - p) (λi=>(chn leaf c p x i,((p+i:Nat):Int))) rfl (λi hi=>?_) ?_ (xI (by omega))
 ·have hl:=jL leaf c p x hx i;unfold xU;refine bd (a:=15) rfl ?_;refine ct (dlt (b:=15) (by omega)) ?_;refine bd (a:=chn leaf c p x (i+1)) ?_ ?_
  ·unfold dS;refine bd (iK _ _ (by rw [zOs];simp;omega)) ?_;exact bd (zC7 _ _) rfl
  ·rw [yM (show p+i<2 ^ 40 by omega)];rfl
 ·unfold xU;refine bd (a:=15) rfl ?_;exact cf (dge (b:=15) (by omega)) rfl
def nod (sig:By) (i:Nat):By:=(sig.drop (16*i)).take 16
def zFv (leaf:Nat) (d:List Nat) (sig:By):Nat->By
 | 0=>[]
 | i+1=>zFv leaf d sig i++chn leaf i (d.getD i 0) (nod sig i) (15 - d.getD i 0)
theorem zKt (sig:By) (hs:sig.length=560) (i:Nat) (hi:i<35):(nod sig i).length=16:=by simp [nod];omega
theorem cX (leaf:Nat) (d:List Nat) (sig:By) (hs:sig.length=560):∀ i,i<=35->(zFv leaf d sig i).length=16*i
 | 0,_=>rfl
 | i+1,h=>by
  have h1:=cX leaf d sig hs i (by omega);have h2:=jL leaf i (d.getD i 0) (nod sig i) (zKt sig hs i (by omega)) (15 - d.getD i 0);simp only [zFv,Qd,h1,h2];omega
theorem zUu (leaf:Nat) (d:List Nat) (sig:By) (hs:sig.length=560) (hd:d.length=35) (h15:∀ i,i<35->d.getD i 0<=15):wC (leaf:Int) sig (kI d)=some (zFv leaf d sig 35):=by
 unfold wC;refine bd ?_ rfl;refine yB 35 (λi=>(zFv leaf d sig i,(i:Int))) rfl (λi hi=>?_) ?_ (xI (by omega))
 ·have hl:=cX leaf d sig hs i (by omega);have hn:=zKt sig hs i hi;have hc:=jL leaf i (d.getD i 0) (nod sig i) hn (15 - d.getD i 0);unfold uI;refine ct (dlt (b:=35) hi) ?_;refine bd (a:=nod sig i) ?_ ?_
  ·unfold nE;refine bd ?_ rfl;rw [zZ (n:=(i:Int)+1) (by omega) (by omega),zZ (by omega) (by omega),zZ (by omega) (by omega),show (i:Int)*16=((16*i:Nat):Int) by omega,show ((i:Int)+1)*16=((16*i+16:Nat):Int) by omega,uL (by omega) (by omega)];simp [nod]
  refine bd (a:=((d.getD i 0:Nat):Int)) ?_ ?_
  ·unfold nB;exact bd (zIn (by omega)) rfl
  refine bd (zQ0 leaf i _ _ hn (h15 i hi)) ?_;refine bd (yF (by omega)) ?_;rw [yM (show i<2 ^ 40 by omega)];rfl
 ·generalize zFv leaf d sig 35=S;rfl
theorem zUk (leaf:Nat) (d:List Nat) (sig:By) (hs:sig.length=560) (hd:d.length=35) (h15:∀ i,i<35->d.getD i 0<=15):zK (k9 (leaf:Int) sig (kI d)) FU ([],0)=some (zFv leaf d sig 35):=by
 refine yB 35 (λi=>(zFv leaf d sig i,(i:Int))) rfl (λi hi=>?_) ?_ (xI (by omega))
 ·have hl:=cX leaf d sig hs i (by omega);have hn:=zKt sig hs i hi;have hc:=jL leaf i (d.getD i 0) (nod sig i) hn (15 - d.getD i 0);unfold k9;refine ct (dlt (b:=35) hi) ?_;refine bd (zIn (by omega)) ?_;refine bd (a:=nod sig i) ?_ ?_
  ·rw [zZ (n:=16*(i:Int)) (by omega) (by omega),zZ (by omega) (by omega),show 16*(i:Int)=((16*i:Nat):Int) by omega,show ((16*i:Nat):Int)+16=((16*i+16:Nat):Int) by omega,uL (by omega) (by omega)];simp [nod]
  refine bd (zFg leaf i _ 15 _ hn (h15 i hi) (by decide)) ?_;refine bd (yF (by omega)) ?_;rw [yM (show i<2 ^ 40 by omega)];rfl
 ·generalize zFv leaf d sig 35=S;rfl
theorem zYi (l:By):∀ n∈nbs l,n<=15:=by
 intro n hn;simp only [nbs,List.mem_flatMap,nb] at hn;obtain ⟨x,_,hx⟩:=hn;have:=x.toNat_lt;simp at hx;omega
theorem zGl (m:By):∀ i,i<35->(jK m).getD i 0<=15:=by
 intro i hi;have hl:=zEc m;have:(jK m).getD i 0∈jK m:=by
  rw [List.getD_eq_getElem?_getD,List.getElem?_eq_getElem (by omega)];exact Qg _
 generalize (jK m).getD i 0=v at this ⊢;unfold jK at this;have hs':=zM1 ((hs 4 [m]).take 16);have hl2:=pI 4 [m];rw [List.mem_append] at this;rcases this with h | h
 ·exact zYi _ _ h
 ·simp only [List.mem_cons,List.not_mem_nil,or_false] at h;omega
def zBm (leaf:Nat) (m sig:By):By:=(hs 2 [[u8 (leaf:Int)],zFv leaf (jK m) sig 35]).take 16
theorem zNu (leaf:Nat) (m sig:By) (hl:leaf<256) (hm:m.length<2 ^ 31) (hs:sig.length=560):o7 (leaf:Int) m sig=some (zBm leaf m sig,true):=by
 have he:=cX leaf (jK m) sig hs 35 (by omega);unfold o7;refine bd (a:=false) ?_ ?_
 ·refine bd (a:=true) ?_ ?_
  ·unfold fC;refine bd (a:=true) (ct (by simp) (congrArg some (by simp;omega))) rfl
  ·refine cf rfl ?_;simp [hs]
 refine cf rfl ?_;refine bd (zOd m hm) ?_;refine bd (zUu leaf _ sig hs (zEc m) (zGl m)) ?_;refine bd (a:=zBm leaf m sig) ?_ rfl;unfold fQ;refine bd (iK _ _ (by rw [zOs,he];simp)) ?_;exact bd (zC7 _ _) rfl
theorem zMh (leaf:Nat) (m sig:By) (hl:leaf<256) (hm:m.length<2 ^ 31) (hs:sig.length=560):jZ (leaf:Int) m sig=some (zBm leaf m sig,true):=by
 have he:=cX leaf (jK m) sig hs 35 (by omega);unfold jZ;refine bd (a:=false) (cf (zNf leaf) (cf (by simp;omega) (by simp [hs]))) ?_;refine cf rfl ?_;refine bd (zH1 m hm) ?_;refine bd (zUk leaf _ sig hs (zEc m) (zGl m)) ?_;refine bd (a:=zBm leaf m sig) ?_ rfl;unfold iE;refine bd (kK _ _ (by rw [zOs,he];simp)) ?_;exact bd (zC7 _ _) rfl
set_option maxRecDepth 100000
def par (h i:Nat) (l r:By):By:=(hs 3 [[u8 (h:Int),u8 (i:Int)],l,r]).take 16
theorem zNh (h i:Nat) (l r:By) (hl:l.length=16) (hr:r.length=16):gO (h:Int) (i:Int) l r=some (par h i l r):=by
 unfold gO;refine bd (iK _ _ (by rw [zV1,hl,hr];simp)) ?_;exact bd (zC7 _ _) rfl
theorem zLm (h i:Nat) (l r:By) (hl:l.length=16) (hr:r.length=16):iA (h:Int) (i:Int) l r=some (par h i l r):=by
 unfold iA;refine bd (kK _ _ (by rw [zV1,hl,hr];simp)) ?_;exact bd (zC7 _ _) rfl
def nd (path:List By) (i:Nat) (leaf:By):Nat->By
 | 0=>leaf
 | k+1=>if i / 2 ^ k % 2=1 then par k (i / 2 ^ (k+1)) (path.getD k []) (nd path i leaf k) else par k (i / 2 ^ (k+1)) (nd path i leaf k) (path.getD k [])
theorem zN5 (path:List By) (i:Nat) (leaf:By) (hl:leaf.length=16):∀ k,(nd path i leaf k).length=16
 | 0=>hl
 | k+1=>by
  unfold nd;split<;>exact pI _ _
theorem zD2 {l:List By} (h:i<l.length):idx l (i:Int)=some (l.getD i []):=by rw [yT h];simp [h]
theorem half (i k:Nat):i / 2 ^ k / 2=i / 2 ^ (k+1):=by rw [Nat.div_div_eq_div_mul,Nat.pow_succ]
theorem zI3 (leaf:By) (i:Nat) (path:List By) (hl:leaf.length=16) (hp:path.length<=3) (h16:∀ k,k<path.length->(path.getD k []).length=16) (hi:i<2 ^ path.length) (h8:i<256):dO leaf (i:Int) path=some (nd path i leaf path.length):=by
 unfold dO;refine bd (a:=false) ?_ ?_
 ·refine cf (by simp;omega) ?_;refine cf (zNf i) ?_;congr 1;have h4:path.length=0∨path.length=1∨path.length=2∨path.length=3:=by omega
  rcases h4 with h | h | h | h<;>rw [h] at hi ⊢ <;> (rw [decide_eq_false_iff_not];show ¬ (_:Int)<=(i:Int))
  ·show ¬ (1:Int)<=i;omega
  ·show ¬ (2:Int)<=i;omega
  ·show ¬ (4:Int)<=i;omega
  ·show ¬ (8:Int)<=i;omega
 refine cf rfl ?_;refine bd (a:=leaf) (by rw [yF (by simp;omega)];simp) ?_;refine bd ?_ rfl;refine yB path.length (λk=>(((i / 2 ^ k:Nat):Int),nd path i leaf k,(k:Int))) (by simp [nd]) (λk hk=>?_) ?_ (xI (by omega))
 ·have hn:=zN5 path i leaf hl k;have hq:=h16 k hk;have hd:i / 2 ^ k<=i:=Qz _ _;unfold fO;refine ct (dlt hk) ?_;refine bd (zD2 hk) ?_;rw [zW1 _ (by omega),show (1:Int)=((1:Nat):Int) from rfl,zNr .i64 _ 1 (by decide),Nat.pow_one,half];by_cases hb:i / 2 ^ k % 2=1
  ·refine bd (ct (by rw [hb];rfl) rfl) ?_;refine bd (zNh k _ _ _ hq hn) ?_;rw [show ((1:Nat):Int)=1 from rfl,yM (show k<2 ^ 40 by omega)];simp only [nd,if_pos hb]
  ·refine bd (cf (by
            have:i / 2 ^ k % 2=0:=by omega
            rw [this];rfl) rfl) ?_
   refine bd (zNh k _ _ _ hn hq) ?_;rw [show ((1:Nat):Int)=1 from rfl,yM (show k<2 ^ 40 by omega)];simp only [nd,if_neg hb]
 ·unfold fO;exact cf (dge (Q6 _)) rfl
theorem zKh (leaf:By) (i:Nat) (path:List By) (hl:leaf.length=16) (hp:path.length<=3) (h16:∀ k,k<path.length->(path.getD k []).length=16) (hi:i<2 ^ path.length) (h8:i<256):dM leaf (i:Int) path=some (nd path i leaf path.length):=by
 unfold dM;refine bd (a:=false) ?_ ?_
 ·refine cf (by simp;omega) ?_;refine cf (zNf i) ?_;congr 1;have h4:path.length=0∨path.length=1∨path.length=2∨path.length=3:=by omega
  rcases h4 with h | h | h | h<;>rw [h] at hi ⊢ <;> (rw [decide_eq_false_iff_not];show ¬ (_:Int)<=(i:Int))
  ·show ¬ (1:Int)<=i;omega
  ·show ¬ (2:Int)<=i;omega
  ·show ¬ (4:Int)<=i;omega
  ·show ¬ (8:Int)<=i;omega
 refine cf rfl ?_;refine bd (zAn leaf (by omega)) ?_;refine bd ?_ rfl;refine yB path.length (λk=>(((i / 2 ^ k:Nat):Int),nd path i leaf k,(k:Int))) (by simp [nd]) (λk hk=>?_) ?_ (xI (by omega))
 ·have hn:=zN5 path i leaf hl k;have hq:=h16 k hk;have hd:i / 2 ^ k<=i:=Qz _ _;have e1:Qu ((i / 2 ^ k:Nat):Int) 2=((i / 2 ^ k % 2:Nat):Int):=by
   generalize i / 2 ^ k=q;rw [Q5 (by omega)];omega
  have e2:Q0.wrap (Qt ((i / 2 ^ k:Nat):Int) 2)=((i / 2 ^ (k+1):Nat):Int):=by
   rw [<- half];generalize i / 2 ^ k=q at hd ⊢;rw [Qj (by omega),zZ (by omega) (by omega)];omega
  unfold fF;refine ct (dlt hk) ?_;rw [e1,e2];by_cases hb:i / 2 ^ k % 2=1
  ·refine bd (a:=nd path i leaf (k+1)) (cf (by rw [hb];rfl) ?_) ?_
   ·refine bd (zD2 hk) ?_;refine bd (zLm k _ _ _ hq hn) ?_;simp only [nd,if_pos hb]
   ·rw [yM (show k<2 ^ 40 by omega)]
  ·refine bd (a:=nd path i leaf (k+1)) (ct (by
                           have:i / 2 ^ k % 2=0:=by omega
                           rw [this];rfl) ?_) ?_
   ·refine bd (zD2 hk) ?_;refine bd (zLm k _ _ _ hn hq) ?_;simp only [nd,if_neg hb]
   ·rw [yM (show k<2 ^ 40 by omega)]
 ·unfold fF;exact cf (dge (Q6 _)) rfl
def cS (sig:By) (h:Nat):List By:=(Qw h).map λ(j:Nat)=>(sig.drop (561+16*j)).take 16
theorem mC (sig:By) (h:Nat):(cS sig h).length=h:=by simp [cS]
theorem zJy (sig:By) (h:Nat):cS sig (h+1)=cS sig h++[(sig.drop (561+16*h)).take 16]:=by simp [cS,Qs]
theorem zP9 (sig:By) (h:Nat) (hs:sig.length=561+16*h):∀ k,k<(cS sig h).length->((cS sig h).getD k []).length=16:=by
 intro k hk;rw [mC] at hk;simp [cS,hk];omega
def vrf (pub m sig:By):Int×Bool:=
 if pub.length≠17∨3<(pub.getD 0 0).toNat then (0,false)
 else if sig.length≠561+16*(pub.getD 0 0).toNat∨2 ^ (pub.getD 0 0).toNat<=(sig.getD 0 0).toNat then (0,false)
 else if nd (cS sig (pub.getD 0 0).toNat) (sig.getD 0 0).toNat (zBm (sig.getD 0 0).toNat m ((sig.drop 1).take 560)) (pub.getD 0 0).toNat=pub.drop 1 then (((sig.getD 0 0).toNat:Int),true) else (0,false)
theorem wb (x:UInt8):Q0.wrap (x.toNat:Int)=(x.toNat:Int):=by
 have:=x.toNat_lt;rw [zZ (by omega) (by omega)]
theorem zWg (h:Nat) (hh:h<=3):tL .i64 1 (Q4.wrap (h:Int))=((2 ^ h:Nat):Int):=by
 have h4:h=0∨h=1∨h=2∨h=3:=by omega
 rcases h4 with h | h | h | h<;>subst h<;>rfl
theorem zTi (sig:By) (h:Nat) (hs:sig.length=561+16*h) (hh:h<=3):zK pJ FU ([],sig.drop 561)=some (cS sig h):=by
 refine yB h (λi=>(cS sig i,sig.drop (561+16*i))) (by simp [cS]) (λi hi=>?_) ?_ (xI (by omega))
 ·have hd:(sig.drop (561+16*i)).length=16*(h - i):=by simp;omega
  unfold pJ;refine ct (by simp;omega) ?_;refine bd (a:=(sig.drop (561+16*i)).take 16) (by rw [show (0:Int)=((0:Nat):Int) from rfl,show (16:Int)=((16:Nat):Int) from rfl,uL (by omega) (by omega)];simp) ?_;refine bd (yF (by rw [mC];simp;omega)) ?_;refine bd (a:=sig.drop (561+16*(i+1))) (by rw [show (16:Int)=((16:Nat):Int) from rfl,uL (by omega) (by omega),W0,Q2 (by simp;omega)];congr 2) ?_;rw [zJy]
 ·unfold pJ;refine cf (by simp;omega) rfl
theorem zU5 (sig:By) (x:UInt8) (h:Nat) (hx:x.toNat=h) (hs:sig.length=561+16*h) (hh:h<=3):zK (mP sig x) FU (561,[],0)=some (cS sig h):=by
 refine yB h (λi=>(((561+16*i:Nat):Int),cS sig i,(i:Int))) rfl (λi hi=>?_) ?_ (xI (by omega))
 ·unfold mP;rw [wb,hx];refine ct (dlt hi) ?_;rw [zZ (n:=((561+16*i:Nat):Int)+16) (by omega) (by omega),show ((561+16*i:Nat):Int)+16=((561+16*(i+1):Nat):Int) by omega];refine bd (a:=(sig.drop (561+16*i)).take 16) (by rw [uL (by omega) (by omega)];congr 2;omega) ?_;refine bd (yF (by rw [mC];simp;omega)) ?_;rw [zJy,yM (show i<2 ^ 40 by omega)]
 ·unfold mP;rw [wb,hx];exact cf (dge (Q6 _)) rfl
theorem zHk (h:a<=l.length):sub l (a:Int) (l.length:Int)=some (l.drop a):=by
 rw [uL h (Q6 _),Q2 (by simp)]
theorem zO2 (pub m sig:By) (hm:m.length<2 ^ 31) (hp:pub.length<2 ^ 40) (hg:sig.length<2 ^ 40):lG pub m sig=some (vrf pub m sig):=by
 unfold lG;by_cases hl:pub.length=17
 case neg=>
  refine bd (a:=true) (ct (by simp;omega) rfl) ?_;refine ct rfl ?_;rw [vrf,if_pos (.inl hl)]
 have h0:idx pub 0=some (pub.getD 0 0):=ig (i:=0) (by omega);by_cases h3:3<(pub.getD 0 0).toNat
 ·refine bd (a:=true) (cf (by simp;omega) ?_) ?_
  ·refine bd h0 ?_;refine bd (a:=false) ?_ rfl;unfold jX;refine bd (a:=false) ?_ rfl;rw [wb];refine ct (by simp) ?_;refine congrArg some ?_;rw [decide_eq_false_iff_not];omega
  ·refine ct rfl ?_;rw [vrf,if_pos (.inr h3)]
 refine bd (a:=false) (cf (by simp;omega) ?_) ?_
 ·refine bd h0 ?_;refine bd (a:=true) ?_ rfl;unfold jX;refine bd (a:=true) ?_ rfl;rw [wb];refine ct (by simp) ?_;refine congrArg some ?_;rw [decide_eq_true_iff];omega
 refine cf rfl ?_;refine bd h0 ?_;rw [wb];have hx:∃ h,(pub.getD 0 0).toNat=h:=⟨_,rfl⟩;obtain ⟨h,hx⟩:=hx;rw [hx] at h3 ⊢;rw [vrf,hx,if_neg (by omega)];have e1:Q0.wrap (561+Q0.wrap (16*(h:Int)))=((561+16*h:Nat):Int):=by rw [zZ (n:=16*(h:Int)) (by omega) (by omega),zZ (by omega) (by omega)];omega
 by_cases hs:sig.length=561+16*h
 case neg=>
  refine bd (a:=true) (ltk ?_) ?_
  ·rw [e1];exact ct (by simp;omega) rfl
  ·refine ct rfl ?_;rw [if_pos (.inl hs)]
 have hs0:idx sig 0=some (sig.getD 0 0):=ig (i:=0) (by omega);have hy:∃ i,(sig.getD 0 0).toNat=i:=⟨_,rfl⟩;obtain ⟨i,hy⟩:=hy;have hi8:i<256:=by have:=(sig.getD 0 0).toNat_lt;omega
 by_cases hb:2 ^ h<=i
 ·refine bd (a:=true) (ltk ?_) ?_
  ·rw [e1];refine cf (by simp;omega) ?_;refine bd hs0 ?_;refine ltk ?_;rw [wb,zWg h (by omega),hy];simp;exact_mod_cast hb
  ·refine ct rfl ?_;rw [hy,if_pos (.inr hb)]
 refine bd (a:=false) (ltk ?_) ?_
 ·rw [e1];refine cf (by simp;omega) ?_;refine bd hs0 ?_;refine ltk ?_;rw [wb,zWg h (by omega),hy];simp;exact_mod_cast (by omega:i<2 ^ h)
 refine cf rfl ?_;refine bd hs0 ?_;rw [wb,hy,if_neg (by omega)];refine bd (a:=(sig.drop 1).take 560) (uL (a:=1) (b:=561) (by omega) (by omega)) ?_;refine bd (zNu i m _ hi8 hm (by simp;omega)) ?_;refine cf rfl ?_;refine bd (zHk (a:=561) (by omega)) ?_;refine bd (zTi sig h hs (by omega)) ?_;refine bd (zI3 _ i _ (pI _ _) (by rw [mC];omega) (zP9 sig h hs) (by rw [mC];omega) hi8) ?_;refine bd (zHk (a:=1) (by omega)) ?_;rw [mC];generalize nd (cS sig h) i (zBm i m ((sig.drop 1).take 560)) h=N;by_cases hN:N=pub.drop 1
 ·rw [if_pos hN];exact cf (by rw [hN];simp) rfl
 ·rw [if_neg hN];exact ct (by simp [-W2,hN]) rfl
theorem zN6 (pub m sig:By) (hm:m.length<2 ^ 31) (hp:pub.length<2 ^ 40) (hg:sig.length<2 ^ 40):gZ pub m sig=some (vrf pub m sig):=by
 unfold gZ;by_cases hl:pub.length=17
 case neg=>
  refine bd (a:=true) (ct (by simp;omega) rfl) ?_;refine ct rfl ?_;rw [vrf,if_pos (.inl hl)]
 have h0:idx pub 0=some (pub.getD 0 0):=ig (i:=0) (by omega);by_cases h3:3<(pub.getD 0 0).toNat
 ·refine bd (a:=true) (cf (by simp;omega) ?_) ?_
  ·refine bd h0 ?_;rw [wb];refine congrArg some ?_;rw [decide_eq_true_iff];omega
  ·refine ct rfl ?_;rw [vrf,if_pos (.inr h3)]
 refine bd (a:=false) (cf (by simp;omega) ?_) ?_
 ·refine bd h0 ?_;rw [wb];refine congrArg some ?_;rw [decide_eq_false_iff_not];omega
 refine cf rfl ?_;refine bd h0 ?_;have hx:∃ h,(pub.getD 0 0).toNat=h:=⟨_,rfl⟩;obtain ⟨h,hx⟩:=hx;rw [wb,hx];rw [hx] at h3;rw [vrf,hx,if_neg (by omega)];have e1:Q0.wrap (561+Q0.wrap (16*(h:Int)))=((561+16*h:Nat):Int):=by rw [zZ (n:=16*(h:Int)) (by omega) (by omega),zZ (by omega) (by omega)];omega
 by_cases hs:sig.length=561+16*h
 case neg=>
  refine bd (a:=true) (ltk ?_) ?_
  ·rw [e1];exact ct (by simp;omega) rfl
  ·refine ct rfl ?_;rw [if_pos (.inl hs)]
 have hs0:idx sig 0=some (sig.getD 0 0):=ig (i:=0) (by omega);have hy:∃ i,(sig.getD 0 0).toNat=i:=⟨_,rfl⟩;obtain ⟨i,hy⟩:=hy;have hi8:i<256:=by have:=(sig.getD 0 0).toNat_lt;omega
 by_cases hb:2 ^ h<=i
 ·refine bd (a:=true) (ltk ?_) ?_
  ·rw [e1];refine cf (by simp;omega) ?_;refine bd hs0 ?_;refine ltk ?_;rw [wb,zWg h (by omega),hy];simp;exact_mod_cast hb
  ·refine ct rfl ?_;rw [hy,if_pos (.inr hb)]
 refine bd (a:=false) (ltk ?_) ?_
 ·rw [e1];refine cf (by simp;omega) ?_;refine bd hs0 ?_;refine ltk ?_;rw [wb,zWg h (by omega),hy];simp;exact_mod_cast (by omega:i<2 ^ h)
 refine cf rfl ?_;refine bd hs0 ?_;rw [wb,hy,if_neg (by omega)];refine bd (a:=(sig.drop 1).take 560) (uL (a:=1) (b:=561) (by omega) (by omega)) ?_;refine bd (zMh i m _ hi8 hm (by simp;omega)) ?_;refine bd (zU5 sig _ h hx hs (by omega)) ?_;have ht:=zN5 (cS sig h) i (zBm i m ((sig.drop 1).take 560)) (pI _ _) h;refine bd (zKh _ i _ (pI _ _) (by rw [mC];omega) (zP9 sig h hs) (by rw [mC];omega) hi8) ?_;refine bd (zHk (a:=1) (by omega)) ?_;rw [mC];generalize nd (cS sig h) i (zBm i m ((sig.drop 1).take 560)) h=N at ht ⊢;refine bd (uB _ _ (by omega)) ?_;by_cases hN:N=pub.drop 1
 ·rw [if_pos hN];exact cf (by rw [hN];simp) rfl
 ·rw [if_neg hN];exact ct (by simp [-W2,hN]) rfl
set_option maxRecDepth 100000
theorem zTc (p:zN):sG p=kB p:=by
 unfold sG kB o9 uQ;unfold bne;generalize decide (p.Kind<1)=c1;generalize decide (3<p.Kind)=c2;generalize decide (p.Attr<0)=c3;generalize decide (7<p.Attr)=c4;generalize (xG .i64 p.Attr 4==0)=c5;generalize (p.Kind==2)=c6;generalize (xG .i64 p.Attr 1==0)=c7;generalize ((p.Policy.length:Int)==0)=c8;generalize decide (p.Height<0)=c9;generalize decide (3<p.Height)=c10;generalize (p.Height==0)=c11;generalize ((p.Policy.length:Int)==32)=c12;cases c1
 ·cases c2
  ·cases c3
   ·cases c4
    ·cases c5<;>cases c6<;>cases c7<;>cases c8<;>first | rfl | (cases c9<;>first | rfl | (cases c10<;>first | rfl | (cases c11<;>cases c12<;>rfl)))
    ·rfl
   ·rfl
  ·rfl
 ·rfl
theorem tb {β:Type} {o:Option α} {f:α->Option β} (h:∃ a,o=some a) (k:∀ a,∃ r,f a=some r):∃ r,o.bind f=some r:=by
 obtain ⟨a,rfl⟩:=h;exact k a
theorem tc {c:Bool} {a b:Option α} (h:∃ r,a=some r) (k:∃ r,b=some r):∃ r,(bif c then a else b)=some r:=by cases c<;>assumption
theorem zN0 (p:zN):∃ e,sG p=some e:=by
 unfold sG o9;repeat' first | exact ⟨_,rfl⟩ | refine tb ?_ (λ_=>?_) | refine tc ?_ ?_
def chk (p:zN):Int:=(sG p).getD 0
theorem fE (p:zN):sG p=some (chk p):=by
 obtain ⟨e,h⟩:=zN0 p;rw [chk,h];rfl
theorem zK6 (p:zN):kB p=some (chk p):=by rw [<- zTc,fE]
def enc (p:zN):By:=eN (eN [u8 p.Kind,u8 p.Attr,u8 p.Height] p.Policy) p.Unique
theorem zQg (p:zN):(enc p).length<=131077:=by
 have h1:=tA [u8 p.Kind,u8 p.Attr,u8 p.Height] p.Policy;have h2:=tA (eN [u8 p.Kind,u8 p.Attr,u8 p.Height] p.Policy) p.Unique;simp only [Qb,Qm] at h1;unfold enc;omega
def nm (p:zN):By:=hs 6 [enc p]
theorem zLq (p:zN):zAy p=some (nm p):=by
 have hl:=zQg p;have h1:=tA [u8 p.Kind,u8 p.Attr,u8 p.Height] p.Policy;simp only [Qb,Qm] at h1;unfold zAy cY;refine bd (bd (zDy _ _ (by simp)) (bd (zDy _ _ (by omega)) rfl)) ?_;exact bd (iK _ _ (by rw [zWh];show 4+(enc p).length<_;omega)) rfl
theorem bW (p:zN):iI p=some (nm p):=by
 have hl:=zQg p;have h1:=tA [u8 p.Kind,u8 p.Attr,u8 p.Height] p.Policy;simp only [Qb,Qm] at h1;unfold iI dE;refine bd (bd (qV _ _ (by simp)) (bd (qV _ _ (by omega)) rfl)) ?_;exact bd (kK _ _ (by rw [zWh];show 4+(enc p).length<_;omega)) rfl
def nnc (nonce:By) (machine:Int) (log:By):By:=hs 23 [nonce,vI [] 2 machine,log]
theorem zT6 (nonce:By) (machine:Int) (log:By) (h1:nonce.length<2 ^ 30) (h2:log.length<2 ^ 30):mM nonce machine log=some (nnc nonce machine log):=by
 unfold mM;refine bd (tT [] 2 machine (by omega) (by omega) (by simp)) ?_;exact bd (iK _ _ (by rw [zV1,yI];simp;omega)) rfl
theorem zEy (nonce:By) (machine:Int) (log:By) (h1:nonce.length<2 ^ 30) (h2:log.length<2 ^ 30):l9 nonce machine log=some (nnc nonce machine log):=by
 unfold l9;refine bd (uV [] 2 machine (by omega) (by omega) (by simp)) ?_;exact bd (kK _ _ (by rw [zV1,yI];simp;omega)) rfl
def d0 (b:By):RS:=⟨b,0,0⟩
def d1 (b:By):=uN (d0 b) 4
def d2 (b:By):=yX (d1 b).2 32
def d3 (b:By):=yX (d2 b).2 128
def d4 (b:By):=yG (d3 b).2 8
def d5 (b:By):=yG (d4 b).2 8
def d6 (b:By):=yG (d5 b).2 8
def d7 (b:By):=yG (d6 b).2 1
def d8 (b:By):=yG (d7 b).2 8
def d9 (b:By):=yG (d8 b).2 2
def d10 (b:By):=yG (d9 b).2 2
def d11 (b:By):=uN (d10 b).2 32
def sU:zM:=⟨[],[],0,0,0,false,0,⟨0,0⟩,[]⟩
def att (b:By):zM×Int:=
 if (d1 b).2.e≠0 then (sU,(d1 b).2.e)
 else if (d1 b).1≠[83,87,81,49] then (sU,5)
 else if qT (d11 b).2≠0 then (sU,qT (d11 b).2)
 else if (d2 b).1.length≠32∨1<(d7 b).1 then (sU,1)
 else (⟨(d2 b).1,(d3 b).1,(d4 b).1,(d5 b).1,(d6 b).1,(d7 b).1==1,(d8 b).1,⟨(d9 b).1,(d10 b).1⟩,(d11 b).1⟩,0)
theorem zSh (b:By) (h:b.length<2 ^ 40):(d0 b).Ok:=⟨Nat.zero_le _,h⟩
theorem zVg (r:RS) (n:Nat):(uN r n).2.b=r.b:=by unfold uN;split<;>(try split)<;>rfl
theorem zPx (r:RS) (n:Nat):(uN r n).1.length<=r.b.length:=by
 unfold uN;split
 ·simp
 split
 ·simp
 ·simp [RS.get];omega
theorem iL (r:RS) (n:Nat):(yG r n).2.b=r.b:=by unfold yG;split<;>(try split)<;>(try split)<;>rfl
theorem zHq (r:RS) (n:Nat):(yX r n).2.b=r.b:=by unfold yX;split<;>(try split)<;>(try split)<;>(try split)<;>rfl
theorem zNs (r:RS) (n:Nat):(yX r n).1.length<=r.b.length:=by
 unfold yX;split
 ·simp
 split
 ·simp
 split
 ·simp
 split
 ·simp
 ·simp;omega
theorem zT1 (b:By) (h:b.length<2 ^ 40):(d1 b).2.Ok:=zHg _ _ (zSh b h)
theorem zRy (b:By) (h:b.length<2 ^ 40):(d2 b).2.Ok:=nT _ _ (zT1 b h)
theorem zS7 (b:By) (h:b.length<2 ^ 40):(d3 b).2.Ok:=nT _ _ (zRy b h)
theorem zUy (b:By) (h:b.length<2 ^ 40):(d4 b).2.Ok:=vA _ _ (zS7 b h)
theorem zSu (b:By) (h:b.length<2 ^ 40):(d5 b).2.Ok:=vA _ _ (zUy b h)
theorem zVf (b:By) (h:b.length<2 ^ 40):(d6 b).2.Ok:=vA _ _ (zSu b h)
theorem zUh (b:By) (h:b.length<2 ^ 40):(d7 b).2.Ok:=vA _ _ (zVf b h)
theorem zSo (b:By) (h:b.length<2 ^ 40):(d8 b).2.Ok:=vA _ _ (zUh b h)
theorem zW7 (b:By) (h:b.length<2 ^ 40):(d9 b).2.Ok:=vA _ _ (zSo b h)
theorem zNz (b:By) (h:b.length<2 ^ 40):(d10 b).2.Ok:=vA _ _ (zW7 b h)
theorem zRw (b:By) (h:b.length<2 ^ 40):(d11 b).2.Ok:=zHg _ _ (zNz b h)
theorem zPn (b:By) (h:b.length<2 ^ 40):(att b).1.Key.length<2 ^ 40/\(att b).1.Nonce.length<2 ^ 40/\(att b).1.Digest.length<2 ^ 40:=by
 have e1:(d1 b).2.b=b:=zVg _ _;have e2:(d2 b).2.b=b:=(zHq _ _).trans e1;have e3:(d3 b).2.b=b:=(zHq _ _).trans e2;have e4:(d4 b).2.b=b:=(iL _ _).trans e3;have e5:(d5 b).2.b=b:=(iL _ _).trans e4;have e6:(d6 b).2.b=b:=(iL _ _).trans e5;have e7:(d7 b).2.b=b:=(iL _ _).trans e6;have e8:(d8 b).2.b=b:=(iL _ _).trans e7;have e9:(d9 b).2.b=b:=(iL _ _).trans e8;have e10:(d10 b).2.b=b:=(iL _ _).trans e9;have l2:(d2 b).1.length<=b.length:=by have:=zNs (d1 b).2 32;rw [e1] at this;exact this
 have l3:(d3 b).1.length<=b.length:=by have:=zNs (d2 b).2 128;rw [e2] at this;exact this
 have l11:(d11 b).1.length<=b.length:=by have:=zPx (d10 b).2 32;rw [e10] at this;exact this
 unfold att;split
 ·simp [sU]
 split
 ·simp [sU]
 split
 ·simp [sU]
 split
 ·simp [sU]
 ·exact ⟨by show (d2 b).1.length<_;omega,by show (d3 b).1.length<_;omega,by show (d11 b).1.length<_;omega⟩
theorem zXm (r:RS) (hr:r.Ok):zK pG FU (0,0,0,r.W.b_,r.W.at_,r.W.e_)=some ((yG r 2).1,(yG (yG r 2).2 2).1,(yG (yG r 2).2 2).2.W.b_,(yG (yG r 2).2 2).2.W.at_,(yG (yG r 2).2 2).2.W.e_):=by
 have h1:=vA r 2 hr;refine yB 2 (λi=>match i with
  | 0=>((0:Int),0,0,r.W.b_,r.W.at_,r.W.e_)
  | 1=>(1,(yG r 2).1,0,(yG r 2).2.W.b_,(yG r 2).2.W.at_,(yG r 2).2.W.e_)
  | _=>(2,(yG r 2).1,(yG (yG r 2).2 2).1,(yG (yG r 2).2 2).2.W.b_,(yG (yG r 2).2 2).2.W.at_,(yG (yG r 2).2 2).2.W.e_)) rfl (λi hi=>?_) ?_ (xI (by decide))
 case refine_2=>rfl
 rcases i with _ | _ | i
 ·unfold pG;refine ct rfl ?_;refine bd (bd (yZ r 2 hr (by omega) (by omega)) rfl) ?_;rfl
 ·unfold pG;refine ct rfl ?_;refine bd (bd (yZ (yG r 2).2 2 h1 (by omega) (by omega)) rfl) ?_;rfl
 ·omega
theorem yAg (b:By) (h:b.length<2 ^ 40):lO b=some (att b):=by
 unfold lO;refine bd (a:=(d0 b).W) ?_ ?_
 ·unfold kL;refine bd (a:=b) (by rw [yF (by simp;omega)];simp) rfl
 refine bd (nN (d0 b) 4 (zSh b h)) ?_;refine bd (a:=((d1 b).2.e,(d1 b).2.W)) rfl ?_;unfold att;by_cases he:(d1 b).2.e=0
 case neg=>
  rw [if_pos he];refine ct (b1 he) ?_;rfl
 rw [if_neg (by simpa using he)];refine cf (b0 he) ?_;by_cases hm:(d1 b).1=[83,87,81,49]
 case neg=>
  rw [if_pos hm];refine ct ?_ rfl;show (!((d1 b).1==[83,87,81,49]))=true;simp [hm]
 rw [if_neg (by simpa using hm)];refine cf ?_ ?_
 ·show (!((d1 b).1==[83,87,81,49]))=false;simp [hm]
 refine bd (vL (d1 b).2 32 (zT1 b h)) ?_;refine bd (vL (d2 b).2 128 (zRy b h)) ?_;refine bd (yZ (d3 b).2 8 (zS7 b h) (by omega) (by omega)) ?_;refine bd (yZ (d4 b).2 8 (zUy b h) (by omega) (by omega)) ?_;refine bd (yZ (d5 b).2 8 (zSu b h) (by omega) (by omega)) ?_;refine bd (yZ (d6 b).2 1 (zVf b h) (by omega) (by omega)) ?_;refine bd (yZ (d7 b).2 8 (zUh b h) (by omega) (by omega)) ?_;refine bd (zXm (d8 b).2 (zSo b h)) ?_;refine bd (nN (d10 b).2 32 (zNz b h)) ?_;refine bd (aK (d11 b).2 (zRw b h)) ?_;by_cases hn:qT (d11 b).2=0
 case neg=>
  rw [if_pos hn];exact ct (b1 hn) rfl
 rw [if_neg (by simpa using hn)];refine cf (b0 hn) ?_;show ((bif ((d2 b).1.length:Int) != 32 then some true else some (decide (1<(d7 b).1))).bind λv=>bif v then some (sU,1) else some (zM.mk (d2 b).1 (d3 b).1 (d4 b).1 (d5 b).1 (d6 b).1 ((d7 b).1==1) (d8 b).1 ⟨(d9 b).1,(d10 b).1⟩ (d11 b).1,0))=_;by_cases hl:(d2 b).1.length=32
 ·by_cases h7:1<(d7 b).1
  ·rw [if_pos (.inr h7)];refine bd (a:=true) (cf (by simp;omega) (by simp;exact h7)) rfl
  ·rw [if_neg (by omega)];refine bd (a:=false) (cf (by simp;omega) (by simp;omega)) rfl
 ·rw [if_pos (.inl hl)];refine bd (a:=true) (ct (by simp;omega) rfl) rfl
theorem zOo (b:By) (h:b.length<2 ^ 40):jY b=some (att b):=by
 unfold jY;refine bd (a:=(d0 b).R) rfl ?_;refine bd (zG8 (d0 b) 4 (zSh b h)) ?_;unfold att;by_cases he:(d1 b).2.e=0
 case neg=>
  rw [if_pos he];exact ct (b1 he) rfl
 rw [if_neg (by simpa using he)];refine cf (b0 he) ?_;refine bd (a:=[83,87,81,49]) rfl ?_;refine bd (uB (d1 b).1 _ (by have:=zPx (d0 b) 4;have e:(d0 b).b=b:=rfl;rw [e] at this;show (uN (d0 b) 4).1.length<_;omega)) ?_;by_cases hm:(d1 b).1=[83,87,81,49]
 case neg=>
  rw [if_pos hm];refine ct ?_ rfl;simp [hm]
 rw [if_neg (by simpa using hm)];refine cf (by simp [hm]) ?_;refine bd (n6 (d1 b).2 32 (zT1 b h)) ?_;refine bd (n6 (d2 b).2 128 (zRy b h)) ?_;refine bd (uK (d3 b).2 8 (zS7 b h) (by omega) (by omega)) ?_;refine bd (uK (d4 b).2 8 (zUy b h) (by omega) (by omega)) ?_;refine bd (uK (d5 b).2 8 (zSu b h) (by omega) (by omega)) ?_;refine bd (uK (d6 b).2 1 (zVf b h) (by omega) (by omega)) ?_;refine bd (uK (d7 b).2 8 (zUh b h) (by omega) (by omega)) ?_;refine bd (uK (d8 b).2 2 (zSo b h) (by omega) (by omega)) ?_;refine bd (uK (d9 b).2 2 (zW7 b h) (by omega) (by omega)) ?_;refine bd (zG8 (d10 b).2 32 (zNz b h)) ?_;refine bd (zIo (d11 b).2 (zRw b h)) ?_;by_cases hn:qT (d11 b).2=0
 case neg=>
  rw [if_pos hn];exact ct (b1 hn) rfl
 rw [if_neg (by simpa using hn)];refine cf (b0 hn) ?_;show ((bif ((d2 b).1.length:Int) != 32 then some true else some (decide (1<(d7 b).1))).bind λv=>bif v then some (sU,1) else some (zM.mk (d2 b).1 (d3 b).1 (d4 b).1 (d5 b).1 (d6 b).1 ((d7 b).1==1) (d8 b).1 ⟨(d9 b).1,(d10 b).1⟩ (d11 b).1,0))=_;by_cases hl:(d2 b).1.length=32
 ·by_cases h7:1<(d7 b).1
  ·rw [if_pos (.inr h7)];refine bd (a:=true) (cf (by simp;omega) (by simp;exact h7)) rfl
  ·rw [if_neg (by omega)];refine bd (a:=false) (cf (by simp;omega) (by simp;omega)) rfl
 ·rw [if_pos (.inl hl)];refine bd (a:=true) (ct (by simp;omega) rfl) rfl
set_option maxRecDepth 100000
def vq (k:zN) (b sig:By):zM×Int×Int:=
 if chk k≠0 then (sU,0,chk k)
 else if k.Kind≠2 then (sU,0,19)
 else if xG .i64 k.Attr 4=0 then (sU,0,20)
 else if (vrf k.Unique b sig).2=false then (sU,0,17)
 else if (att b).2≠0 then (sU,0,(att b).2)
 else if (att b).1.Key≠nm k then (sU,0,16)
 else ((att b).1,(vrf k.Unique b sig).1,0)
theorem zNx (k:zN) (b sig:By) (hb:b.length<2 ^ 31) (hs:sig.length<2 ^ 40) (hk:k.Unique.length<2 ^ 40):lC k b sig=some (vq k b sig):=by
 unfold lC vq;refine bd (fE k) ?_;by_cases h1:chk k=0
 case neg=>rw [if_pos h1];exact ct (b1 h1) rfl
 rw [if_neg (by simpa using h1)];refine cf (b0 h1) ?_;by_cases h2:k.Kind=2
 case neg=>rw [if_pos h2];exact ct (by simp [h2]) rfl
 rw [if_neg (by simpa using h2)];refine cf (by simp [h2]) ?_;by_cases h3:xG .i64 k.Attr 4=0
 ·rw [if_pos h3];exact ct (by simp [h3]) rfl
 rw [if_neg h3];refine cf (by simp [h3]) ?_;refine bd (zO2 k.Unique b sig hb hk hs) ?_;generalize vrf k.Unique b sig=V;obtain ⟨v1,v2⟩:=V;cases v2
 ·rfl
 refine cf rfl ?_;rw [if_neg (by simp)];refine bd (yAg b (by omega)) ?_;generalize att b=A;obtain ⟨a1,a2⟩:=A;by_cases h5:a2=0
 case neg=>rw [if_pos h5];exact ct (b1 h5) rfl
 rw [if_neg (by simpa using h5)];refine cf (b0 h5) ?_;refine bd (zLq k) ?_;by_cases h6:a1.Key=nm k
 case neg=>rw [if_pos h6];exact ct (by simp [h6]) rfl
 rw [if_neg (by simpa using h6)];exact cf (by simp [h6]) rfl
theorem zMe (k:zN) (b sig:By) (hb:b.length<2 ^ 31) (hs:sig.length<2 ^ 40) (hk:k.Unique.length<2 ^ 40):jM k b sig=some (vq k b sig):=by
 unfold jM vq;refine bd (zK6 k) ?_;by_cases h1:chk k=0
 case neg=>rw [if_pos h1];exact ct (b1 h1) rfl
 rw [if_neg (by simpa using h1)];refine cf (b0 h1) ?_;by_cases h2:k.Kind=2
 case neg=>rw [if_pos h2];exact ct (by simp [h2]) rfl
 rw [if_neg (by simpa using h2)];refine cf (by simp [h2]) ?_;by_cases h3:xG .i64 k.Attr 4=0
 ·rw [if_pos h3];exact ct (by simp [h3]) rfl
 rw [if_neg h3];refine cf (by simp [h3]) ?_;refine bd (zN6 k.Unique b sig hb hk hs) ?_;generalize vrf k.Unique b sig=V;obtain ⟨v1,v2⟩:=V;cases v2
 ·rfl
 refine cf rfl ?_;rw [if_neg (by simp)];have hl:=(zPn b (by omega)).1;refine bd (zOo b (by omega)) ?_;generalize att b=A at hl ⊢;obtain ⟨a1,a2⟩:=A;by_cases h5:a2=0
 case neg=>rw [if_pos h5];exact ct (b1 h5) rfl
 rw [if_neg (by simpa using h5)];refine cf (b0 h5) ?_;refine bd (bW k) ?_;refine bd (uB _ _ hl) ?_;by_cases h6:a1.Key=nm k
 case neg=>rw [if_pos h6];exact ct (by simp [h6]) rfl
 rw [if_neg (by simpa using h6)];exact cf (by simp [h6]) rfl
theorem zZq (k:zN) (b sig:By) (hb:b.length<2 ^ 40):(vq k b sig).1.Key.length<2 ^ 40/\(vq k b sig).1.Nonce.length<2 ^ 40/\(vq k b sig).1.Digest.length<2 ^ 40:=by
 have h:=zPn b hb;have hn:sU.Key.length<2 ^ 40/\sU.Nonce.length<2 ^ 40/\sU.Digest.length<2 ^ 40:=by simp [sU]
 unfold vq;split
 ·exact hn
 split
 ·exact hn
 split
 ·exact hn
 split
 ·exact hn
 split
 ·exact hn
 split
 ·exact hn
 ·exact h
def qf (b sig:By):List zN->Int->Option zM×Int
 | [],e=>(none,e)
 | k :: r,_=>if (vq k b sig).2.2=0 then (some (vq k b sig).1,0) else qf b sig r (vq k b sig).2.2
def qt (x:yC) (keys:List zN) (nonce:By):zM×Int:=
 match qf x.Attest x.Signature keys 17 with
 | (some a,_)=>if a.Nonce=nnc nonce x.Machine x.Log then (a,0) else (sU,45)
 | (none,e)=>(sU,e)
theorem zE8 {l:List α} {k:Nat} (h:k<l.length):l.drop k=l[k] :: l.drop (k+1):=List.drop_eq_getElem_cons h
structure zWq (x:yC) (keys:List zN) (nonce:By):Prop where
 b:x.Attest.length<2 ^ 30
 s:x.Signature.length<2 ^ 30
 l:x.Log.length<2 ^ 30
 n:nonce.length<2 ^ 30
 kl:keys.length<2 ^ 30
 k:∀ p∈keys,p.Unique.length<2 ^ 40
theorem zAe (x:yC) (keys:List zN) (nonce:By) (h:zWq x keys nonce):mL x keys nonce=some (qt x keys nonce):=by
 unfold mL;have:=h.kl;obtain ⟨r,hr,hq⟩:=zAg (step:=tS x keys)
  (λs=>∃ k:Nat,s.2.1=(k:Int)/\k<=keys.length/\s.1≠0/\qf x.Attest x.Signature (keys.drop k) s.1=qf x.Attest x.Signature keys 17)
  (λs=>keys.length - s.2.1.toNat)
  (λr=>(qf x.Attest x.Signature keys 17=(none,r.1)/\r.1≠0)∨∃ a:zM,qf x.Attest x.Signature keys 17=(some a,0)/\r=(0,a.Key,a.Nonce,a.Resets,a.Restarts,a.Clock,a.Safe,a.Updates,a.Selection.a0,a.Selection.a1,a.Digest))
  (λs hs=>by
   obtain ⟨e,i,f1,f2,f3,f4,f5,f6,f7,f8,f9,f10⟩:=s;obtain ⟨k,rfl,hk,he,hq⟩:=hs;simp only at he hq;by_cases hk2:k<keys.length
   ·have hv:=zNx keys[k] x.Attest x.Signature (by have:=h.b;omega) (by have:=h.s;omega) (h.k _ (Qg hk2));rw [zE8 hk2,qf] at hq;generalize vq keys[k] x.Attest x.Signature=V at hv hq;obtain ⟨v1,v2,v3⟩:=V;simp only at hq;by_cases hz:v3=0
    ·rw [if_pos hz] at hq;refine .inr ⟨(0,v1.Key,v1.Nonce,v1.Resets,v1.Restarts,v1.Clock,v1.Safe,v1.Updates,v1.Selection.a0,v1.Selection.a1,v1.Digest),?_,.inr ⟨_,hq.symm,rfl⟩⟩;subst hz;unfold tS;refine ct (dlt hk2) ?_;refine bd (yT hk2) ?_;exact bd hv rfl
    ·rw [if_neg hz] at hq;refine .inl ⟨(v3,((k+1:Nat):Int),v1.Key,v1.Nonce,v1.Resets,v1.Restarts,v1.Clock,v1.Safe,v1.Updates,v1.Selection.a0,v1.Selection.a1,v1.Digest),?_,⟨k+1,rfl,by omega,hz,hq⟩,?_⟩
     ·unfold tS;refine ct (dlt hk2) ?_;refine bd (yT hk2) ?_;refine bd hv ?_;refine cf (c1 hz) ?_;rw [yM (by omega)]
     ·simp;omega
   ·refine .inr ⟨(e,f1,f2,f3,f4,f5,f6,f7,f8,f9,f10),?_,.inl ⟨?_,he⟩⟩
    ·unfold tS;exact cf (dge (by omega)) rfl
    ·rw [Ql (by omega)] at hq;exact hq.symm) FU (17,0,[],[],0,0,0,false,0,0,0,[]) ⟨0,rfl,by omega,by decide,rfl⟩ (xI (by simp;omega))
 refine bd hr ?_;unfold qt;rcases hq with ⟨h1,h2⟩ | ⟨a,h1,h2⟩
 ·rw [h1];obtain ⟨e,f⟩:=r;exact ct (b1 h2) rfl
 ·subst h2;rw [h1];refine cf rfl ?_;refine bd (zT6 _ _ _ h.n h.l) ?_;refine bd (kF _ _) ?_;by_cases hn:a.Nonce=nnc nonce x.Machine x.Log
  ·simp only [hn,if_pos];refine cf (by simp) ?_;rw [<- hn]
  ·simp only [hn,if_false];exact ct (by simp [hn]) rfl
theorem zRl (x:yC) (keys:List zN) (nonce:By) (h:zWq x keys nonce):l8 x keys nonce=some (qt x keys nonce):=by
 unfold l8;have:=h.kl;obtain ⟨r,hr,hq⟩:=zAg (step:=qW x keys nonce)
  (λs=>∃ k:Nat,s.2=(k:Int)/\k<=keys.length/\s.1≠0/\qf x.Attest x.Signature (keys.drop k) s.1=qf x.Attest x.Signature keys 17)
  (λs=>keys.length - s.2.toNat)
  (λr=>match r with
   | .inr e=>qf x.Attest x.Signature keys 17=(none,e)
   | .inl v=>∃ a:zM,qf x.Attest x.Signature keys 17=(some a,0)/\v=if a.Nonce=nnc nonce x.Machine x.Log then (a,0) else (sU,45))
  (λs hs=>by
   obtain ⟨e,i⟩:=s;obtain ⟨k,rfl,hk,he,hq⟩:=hs;simp only at he hq;by_cases hk2:k<keys.length
   ·have hv:=zMe keys[k] x.Attest x.Signature (by have:=h.b;omega) (by have:=h.s;omega) (h.k _ (Qg hk2));have hl:=zZq keys[k] x.Attest x.Signature (by have:=h.b;omega);rw [zE8 hk2,qf] at hq;generalize vq keys[k] x.Attest x.Signature=V at hv hq hl;obtain ⟨v1,v2,v3⟩:=V;simp only at hq hl;by_cases hz:v3=0
    ·rw [if_pos hz] at hq;refine .inr ⟨.inl (if v1.Nonce=nnc nonce x.Machine x.Log then (v1,0) else (sU,45)),?_,⟨_,hq.symm,rfl⟩⟩;unfold qW;refine ct (dlt hk2) ?_;refine bd (yT hk2) ?_;refine bd hv ?_;refine ct (c0 hz) ?_;refine bd (zEy _ _ _ h.n h.l) ?_;refine bd (uB _ _ hl.2.1) ?_;by_cases hn:v1.Nonce=nnc nonce x.Machine x.Log
     ·rw [if_pos hn];exact cf (by simp [hn]) rfl
     ·rw [if_neg hn];exact ct (by simp [hn]) rfl
    ·rw [if_neg hz] at hq;refine .inl ⟨(v3,((k+1:Nat):Int)),?_,⟨k+1,rfl,by omega,hz,hq⟩,?_⟩
     ·unfold qW;refine ct (dlt hk2) ?_;refine bd (yT hk2) ?_;refine bd hv ?_;refine cf (c1 hz) ?_;rw [yM (by omega)]
     ·simp;omega
   ·refine .inr ⟨.inr e,?_,?_⟩
    ·unfold qW;exact cf (dge (by omega)) rfl
    ·rw [Ql (by omega)] at hq;exact hq.symm) FU (17,0) ⟨0,rfl,by omega,by decide,rfl⟩ (xI (by simp;omega))
 refine bd hr ?_;unfold qt;cases r with
 | inl v=>
  obtain ⟨a,h1,h2⟩:=hq;rw [h1,h2]
 | inr e=>
  rw [hq];rfl
end Go.Proofs.TT
namespace Go.Sw
open Go
variable {a b:Nat}{i:Int}{j:Nat}{α β:Type}{P:α->Prop}{f:α->Option β}{l:List α}{o:Option α}
def Def (o:Option α) (P:α->Prop):Prop:=∃ a,o=some a/\P a
theorem Def.bd {Q:β->Prop} (h:Def o P) (k:∀ a,P a->Def (f a) Q):Def (o.bind f) Q:=by
 obtain ⟨a,rfl,h⟩:=h;exact k a h
theorem Def.s {a:α} {Q:α->Prop} (h:Q a):Def (some a) Q:=⟨a,rfl,h⟩
theorem Def.of {a:α} {Q:α->Prop} (e:o=some a) (h:Q a):Def o Q:=⟨a,e,h⟩
theorem Def.c {b:Bool} {x y:Option α} {Q:α->Prop} (h:b=true->Def x Q) (k:b=false->Def y Q):Def (bif b then x else y) Q:=by
 cases b
 ·exact k rfl
 ·exact h rfl
theorem Def.ck {b:Bool} (h:b=true):Def (Go.Sw.ck b) (λ_=>True):=⟨(),ckT h,trivial⟩
theorem Def.lt {e:α} {Q:β->Prop} (k:Def (f e) Q):Def (Go.Sw.lt e f) Q:=k
theorem Def.mono {Q:α->Prop} (h:Def o P) (k:∀ a,P a->Q a):Def o Q:=by
 obtain ⟨a,e,h⟩:=h;exact ⟨a,e,k a h⟩
theorem Def.get (d:α) (h:Def o P):o=some (o.getD d)/\P (o.getD d):=by
 obtain ⟨a,rfl,h⟩:=h;exact ⟨rfl,h⟩
theorem Def.loop {X Y:Type} {step:X->Option (X ⊕ Y)} {s:X} {Q:Y->Prop} (I:X->Prop) (m:X->Nat)
  (h:∀ s,I s->Def (step s) (λr=>match r with | .inl s'=>I s'/\m s'<m s | .inr r=>Q r)) (h0:I s) (hm:m s<2 ^ 64):Def (zK step FU s) Q:=by
 refine zAg I m Q (λs hs=>?_) FU s h0 (xI hm);obtain ⟨r,e,hr⟩:=h s hs;cases r with
 | inl s'=>exact .inl ⟨s',e,hr.1,hr.2⟩
 | inr r=>exact .inr ⟨r,e,hr⟩
theorem Def.app {m:List α} (h:(l.length+m.length)*b<=140737488355328):Def (yN b l m) (λr=>r=l++m):=⟨_,yF h,rfl⟩
theorem Def.idx (h0:0<=i) (h:i<l.length):Def (Go.Sw.idx l i) (λr=>r∈l):=by
 obtain ⟨n,rfl⟩:=Qk h0;exact ⟨_,yT (by omega),Qg _⟩
theorem Def.sub {a b:Int} (h0:0<=a) (h1:a<=b) (h2:b<=l.length):Def (Go.Sw.sub l a b) (λr=>r=(l.drop a.toNat).take (b.toNat - a.toNat)):=by
 obtain ⟨n,rfl⟩:=Qk h0;obtain ⟨m,rfl⟩:=Qk (by omega:0<=b);exact ⟨_,uL (by omega) (by omega),rfl⟩
theorem Def.ixN {n:Nat} (h0:0<=i) (h:i<n):Def (Go.Sw.ixN n i) (λj=>j=i.toNat/\j<n):=by
 refine ⟨i.toNat,?_,rfl,by omega⟩;simp [Go.Sw.ixN,h0,h]
theorem Def.upd {u:α} (h:j<l.length):Def (vJ l j u) (λr=>r=l.set j u):=⟨_,by simp [vJ,h],rfl⟩
theorem Def.at (h:j<l.length):Def (l[j]?) (λr=>r∈l):=⟨l[j],by simp [h],Qg _⟩
theorem Def.mkN {n:Int} (h0:0<=n) (h:n<2 ^ 40):Def (mkN 1 n) (λj=>j=n.toNat):=⟨n.toNat,by unfold Go.Sw.mkN;rw [if_pos ⟨h0,by omega⟩],rfl⟩
theorem zLg (h:a=b):Nat.beq a b=true:=by subst h;exact Nat.beq_refl a
theorem cO (h:a<=b):Nat.ble a b=true:=Nat.ble_eq.mpr h
end Go.Sw
namespace Go.Proofs.TT
open Go Go.Sw
set_option maxRecDepth 100000
theorem zDl (b:By) (h:b.length<2 ^ 40):Def (wT b) (λr=>r.length=32):=Def.of (zAp b h) (jU b)
theorem zWp (key b:By) (hk:key.length<2 ^ 30) (hb:b.length<2 ^ 30):Def (zDs key b) (λr=>r.length=32):=by
 unfold zDs;refine Def.bd (P:=λk=>k.length<=64) ?_ (λk hk=>?_)
 ·refine Def.c (λ_=>?_) (λh=>Def.s (by simp at h;omega));refine Def.bd (zDl key (by omega)) (λr hr=>Def.s (by omega))
 refine Def.bd (Def.mkN (by decide) (by decide)) (λn hn=>?_);subst hn;refine Def.bd (Def.mkN (by decide) (by decide)) (λn hn=>?_);subst hn;refine Def.bd (P:=λr=>r.1.length=64/\r.2.length=64) ?_ (λr hr=>?_)
 ·refine Def.loop (λs=>0<=s.1/\s.1<=64/\s.2.1.length=64/\s.2.2.length=64) (λs=>(64 - s.1).toNat) (λs hs=>?_) ⟨by decide,by decide,by simp,by simp⟩ (by decide);obtain ⟨i,u,v⟩:=s;obtain ⟨h0,h1,h2,h3⟩:=hs;simp only at h0 h1 h2 h3;unfold zFk;refine Def.c (λh=>?_) (λh=>Def.s ⟨h2,h3⟩);rw [decide_eq_true_iff] at h;refine Def.bd (P:=λ_=>True) ?_ (λx _=>?_)
  ·refine Def.c (λh=>?_) (λ_=>Def.s trivial);rw [decide_eq_true_iff] at h;exact Def.bd (Def.idx h0 h) (λ_ _=>Def.s trivial)
  refine Def.bd (Def.ixN h0 (by show i<((64:Nat):Int);omega)) (λj hj=>?_);refine Def.bd (Def.upd (by have:=hj.2;have e:(64:Int).toNat=64:=rfl;omega)) (λu' hu=>?_);refine Def.bd (Def.ixN h0 (by show i<((64:Nat):Int);omega)) (λj hj=>?_);refine Def.bd (Def.upd (by have:=hj.2;have e:(64:Int).toNat=64:=rfl;omega)) (λv' hv=>?_);refine Def.s ?_;subst hu hv;rw [zZ (by omega) (by omega)];simp only [List.length_set];omega
 obtain ⟨u,v⟩:=r;obtain ⟨h1,h2⟩:=hr;simp only at h1 h2;refine Def.bd (Def.ck (zLg h1)) (λ_ _=>?_);refine Def.bd (Def.ck (cO (by decide))) (λ_ _=>?_);refine Def.bd (Def.ck (zLg h2)) (λ_ _=>?_);refine Def.bd (Def.ck (cO (by decide))) (λ_ _=>?_);refine Def.bd (Def.app (by omega)) (λw hw=>?_);have hwl:w.length=u.length+b.length:=by rw [hw];simp
 refine Def.bd (zDl w (by omega)) (λr hr=>?_);refine Def.bd (Def.app (by omega)) (λw hw=>?_);have hwl:w.length=v.length+r.length:=by rw [hw];simp
 exact Def.bd (zDl w (by omega)) (λr hr=>Def.s hr)
theorem zHi (key label ctx:By) (n:Int) (hk:key.length<2 ^ 30) (hl:label.length<2 ^ 20) (hc:ctx.length<2 ^ 20) (h1:1<=n) (h2:n<=1024):Def (lZ key label ctx n) (λr=>r.length=n.toNat):=by
 unfold lZ;refine Def.bd (P:=λb=>b=false) (Def.c (λh=>?_) (λ_=>Def.s ?_)) (λb hb=>?_)
 ·simp at h;omega
 ·simp;omega
 subst hb;refine Def.bd (P:=λr=>n<=r.length) ?_ (λr hr=>?_)
 ·refine Def.loop (λs=>s.1.length<=1024+32/\0<=s.2/\s.2<=2 ^ 40 - (n - s.1.length).toNat) (λs=>(n - s.1.length).toNat) (λs hs=>?_) ⟨by simp,by decide,by simp;omega⟩ (by simp;omega);obtain ⟨out,i⟩:=s;obtain ⟨g1,g2,g3⟩:=hs;simp only at g1 g2 g3;unfold bI;refine Def.c (λh=>?_) (λh=>Def.s (by simp at h;exact h));rw [decide_eq_true_iff] at h;refine Def.bd (P:=λr=>r.length=4) (Def.s rfl) (λa ha=>?_);refine Def.bd (Def.app (by omega)) (λb hb=>?_);have hbl:b.length=a.length+label.length:=by rw [hb];simp
  refine Def.bd (Def.app (by simp;omega)) (λc hcc=>?_);have hcl:c.length=b.length+1:=by rw [hcc];simp
  refine Def.bd (Def.app (by omega)) (λd hd=>?_);have hdl:d.length=c.length+ctx.length:=by rw [hd];simp
  refine Def.bd (P:=λr=>r.length=4) (Def.s rfl) (λe he=>?_);refine Def.bd (Def.app (by omega)) (λf hf=>?_);have hfl:f.length=d.length+e.length:=by rw [hf];simp
  refine Def.bd (zWp key f hk (by omega)) (λg hg=>?_);refine Def.bd (Def.app (by omega)) (λo ho=>?_);have hol:o.length=out.length+g.length:=by rw [ho];simp
  refine Def.s ?_;rw [zZ (by omega) (by omega)];simp only;omega
 refine Def.bd (Def.sub (by decide) (by omega) hr) (λx hx=>Def.s ?_);rw [hx];simp;omega
set_option maxRecDepth 100000
def ls (seed:By):By:=(sE seed 1).getD []
theorem zPj (seed:By) (h:seed.length<2 ^ 30):sE seed 1=some (ls seed)/\(ls seed).length=32:=by
 have:Def (sE seed 1) (λr=>r.length=32):=by
  unfold sE;exact Def.bd (zHi seed _ _ 32 h (by simp) (by simp) (by decide) (by decide)) (λr hr=>Def.s hr)
 exact Def.get [] this
def stt (s:By) (leaf c:Nat):By:=(nJ s (leaf:Int) (c:Int)).getD []
theorem zLw (s:By) (leaf c:Nat) (h:s.length<2 ^ 30):nJ s (leaf:Int) (c:Int)=some (stt s leaf c)/\(stt s leaf c).length=16:=by
 have:Def (nJ s (leaf:Int) (c:Int)) (λr=>r.length=16):=by
  unfold nJ;exact Def.bd (zHi s _ _ 16 h (by simp) (by simp) (by decide) (by decide)) (λr hr=>Def.s hr)
 exact Def.get [] this
def p9 (s:By) (leaf:Nat) (d:Nat->Nat):Nat->By
 | 0=>[]
 | i+1=>p9 s leaf d i++chn leaf i 0 (stt s leaf i) (d i)
theorem nO (s:By) (leaf:Nat) (d:Nat->Nat) (h:s.length<2 ^ 30):∀ i,(p9 s leaf d i).length=16*i
 | 0=>rfl
 | i+1=>by
  have h1:=nO s leaf d h i;have h2:=jL leaf i 0 (stt s leaf i) (zLw s leaf i h).2 (d i);simp only [p9,Qd,h1,h2];omega
def pk (s:By) (leaf:Nat):By:=(hs 2 [[u8 (leaf:Int)],p9 s leaf (λ_=>15) 35]).take 16
theorem zB2 (s:By) (leaf:Nat):(pk s leaf).length=16:=pI _ _
theorem zOc (s:By) (leaf:Nat) (h:s.length<2 ^ 30) (hl:leaf<=255):fA s (leaf:Int)=some (pk s leaf):=by
 unfold fA;refine bd (a:=false) (cf (zNf leaf) (congrArg some (by simp;omega))) ?_;refine cf rfl ?_;refine bd (a:=p9 s leaf (λ_=>15) 35) ?_ ?_
 ·refine yB 35 (λi=>(p9 s leaf (λ_=>15) i,(i:Int))) rfl (λi hi=>?_) ?_ (xI (by omega))
  ·have h1:=nO s leaf (λ_=>15) h i;obtain ⟨e,h2⟩:=zLw s leaf i h;have h3:=jL leaf i 0 (stt s leaf i) h2 15;unfold aF;refine ct (dlt (b:=35) hi) ?_;refine bd e ?_;refine bd (a:=chn leaf i 0 (stt s leaf i) 15) (zFg leaf i 0 15 _ h2 (by omega) (by omega)) ?_;refine bd (yF (by omega)) ?_;rw [yM (show i<2 ^ 40 by omega)];rfl
  ·generalize p9 s leaf (λ_=>15) 35=S;rfl
 ·refine bd (a:=pk s leaf) ?_ rfl;have h1:=nO s leaf (λ_=>15) h 35;unfold iE;refine bd (kK _ _ (by rw [zOs,h1];simp)) ?_;exact bd (zC7 _ _) rfl
theorem zHz (seed:By) (h:seed.length<2 ^ 30):kG seed 1=some [pk (ls seed) 0,pk (ls seed) 1]:=by
 obtain ⟨e,h2⟩:=zPj seed h;unfold kG;refine bd e ?_;refine bd ?_ rfl;generalize ls seed=s at h2;refine yB 2 (λi=>([pk s 0,pk s 1].take i,(i:Int))) rfl (λi hi=>?_) ?_ (xI (by decide))
 ·unfold bJ;refine ct (dlt (b:=2) hi) ?_;refine bd (zOc s i (by omega) (by omega)) ?_;refine bd (yF (by simp;omega)) ?_;rw [yM (show i<2 ^ 40 by omega)];rcases i with _ | _ | i
  ·rfl
  ·rfl
  ·omega
 ·rfl
theorem zOp (p q:By) (hp:p.length=16) (hq:q.length=16):zD0 0 [p,q]=some [par 0 0 p q]:=by
 unfold zD0;refine bd ?_ rfl;refine yB 1 (λi=>([par 0 0 p q].take i,(i:Int))) rfl (λi hi=>?_) ?_ (xI (by decide))
 ·have:i=0:=by omega
  subst this;unfold zIv;refine ct rfl ?_;refine bd (a:=p) rfl ?_;refine bd (a:=q) rfl ?_;refine bd (zLm 0 0 p q hp hq) ?_;exact bd (yF (by simp)) rfl
 ·rfl
theorem zRx (p q:By) (hp:p.length=16) (hq:q.length=16):zAk [p,q]=some (par 0 0 p q):=by
 unfold zAk;refine bd (a:=true) rfl ?_;refine cf rfl ?_;refine bd (a:=[par 0 0 p q]) ?_ ?_
 ·refine yB 1 (λi=>(if i=0 then [p,q] else [par 0 0 p q],(i:Int))) rfl (λi hi=>?_) ?_ (xI (by decide))
  ·have:i=0:=by omega
   subst this;unfold zDe;refine ct rfl ?_;exact bd (zOp p q hp hq) rfl
  ·rfl
 ·refine bd (a:=par 0 0 p q) rfl ?_;exact bd (zAn _ (by
              have:(par 0 0 p q).length=16:=pI _ _;omega)) rfl
def zK4 (seed:By):By:=[u8 1]++par 0 0 (pk (ls seed) 0) (pk (ls seed) 1)
theorem bP (seed:By):(zK4 seed).length=17:=by
 have:(par 0 0 (pk (ls seed) 0) (pk (ls seed) 1)).length=16:=pI _ _;simp [zK4,this]
theorem zFm (seed:By) (h:seed.length<2 ^ 30):fB seed 1=some (zK4 seed):=by
 have hl:(par 0 0 (pk (ls seed) 0) (pk (ls seed) 1)).length=16:=pI _ _;unfold fB;refine bd (a:=false) rfl ?_;refine cf rfl ?_;refine bd (zHz seed h) ?_;refine bd (zRx _ _ (zB2 _ _) (zB2 _ _)) ?_;exact bd (yF (by rw [hl];decide)) rfl
theorem zR5 (s:By) (leaf:Nat) (m:By) (h:s.length<2 ^ 30) (hl:leaf<=255) (hm:m.length<2 ^ 31):zAr s (leaf:Int) m=some (p9 s leaf (λi=>(jK m).getD i 0) 35):=by
 have hd:=zEc m;have h15:=zGl m;have ed:=zH1 m hm;unfold zAr;refine bd (a:=false) (cf (zNf leaf) (congrArg some (by simp;omega))) ?_;refine cf rfl ?_;refine bd ed ?_;generalize jK m=D at hd h15;refine bd ?_ rfl;refine yB 35 (λi=>(p9 s leaf (λi=>D.getD i 0) i,(i:Int))) rfl (λi hi=>?_) ?_ (xI (by omega))
 ·have h1:=nO s leaf (λi=>D.getD i 0) h i;obtain ⟨e,h2⟩:=zLw s leaf i h;have h3:=jL leaf i 0 (stt s leaf i) h2 (D.getD i 0);have h4:=h15 i hi;unfold zC2;refine ct (dlt (b:=35) hi) ?_;refine bd (zIn (by omega)) ?_;refine bd e ?_;refine bd (zFg leaf i 0 (D.getD i 0) _ h2 (by omega) (by omega)) ?_;refine bd (yF (by rw [Nat.sub_zero];omega)) ?_;rw [yM (show i<2 ^ 40 by omega)];rfl
 ·generalize p9 s leaf (λi=>D.getD i 0) 35=S;rfl
theorem zTa (p q:By) (hp:p.length=16) (hq:q.length=16) (leaf:Nat) (hl:leaf<=1):zAd (leaf:Int) [p,q]=some [if leaf=0 then q else p]:=by
 unfold zAd;have hle:leaf=0∨leaf=1:=by omega
 rcases hle with rfl | rfl
 ·refine bd (a:=false) rfl ?_;refine cf rfl ?_;refine bd ?_ rfl;refine yB 1 (λi=>(0,if i=0 then [] else [q],if i=0 then [p,q] else [par 0 0 p q],(i:Int))) rfl (λi hi=>?_) ?_ (xI (by decide))
  ·have:i=0:=by omega
   subst this;unfold eV;refine ct rfl ?_;refine bd (a:=q) rfl ?_;refine bd (zAn q (by omega)) ?_;refine bd (yF (by simp)) ?_;exact bd (zOp p q hp hq) rfl
  ·rfl
 ·refine bd (a:=false) rfl ?_;refine cf rfl ?_;refine bd ?_ rfl;refine yB 1 (λi=>(if i=0 then 1 else 0,if i=0 then [] else [p],if i=0 then [p,q] else [par 0 0 p q],(i:Int))) rfl (λi hi=>?_) ?_ (xI (by decide))
  ·have:i=0:=by omega
   subst this;unfold eV;refine ct rfl ?_;refine bd (a:=p) rfl ?_;refine bd (zAn p (by omega)) ?_;refine bd (yF (by simp)) ?_;exact bd (zOp p q hp hq) rfl
  ·rfl
def zEs (seed:By) (leaf:Nat) (m:By):By:=([u8 (leaf:Int)]++p9 (ls seed) leaf (λi=>(jK m).getD i 0) 35)++(if leaf=0 then pk (ls seed) 1 else pk (ls seed) 0)
theorem zJ4 (seed:By) (leaf:Nat) (m:By) (h:seed.length<2 ^ 30) (hl:leaf<=1) (hm:m.length<2 ^ 31):zAm seed 1 (leaf:Int) m=some (zEs seed leaf m):=by
 obtain ⟨e,h2⟩:=zPj seed h;have hw:=nO (ls seed) leaf (λi=>(jK m).getD i 0) (by omega) 35;unfold zAm;refine bd (a:=false) ?_ ?_
 ·refine cf rfl (cf rfl (cf (zNf leaf) (congrArg some ?_)));rw [show tL .i64 1 (Q4.wrap 1)=2 from rfl,decide_eq_false_iff_not];omega
 refine cf rfl ?_;refine bd e ?_;refine bd (zR5 (ls seed) leaf m (by omega) (by omega) hm) ?_;refine bd (yF (by rw [hw];simp)) ?_;refine bd (zHz seed h) ?_;refine bd (zTa _ _ (zB2 _ _) (zB2 _ _) leaf hl) ?_;refine bd ?_ rfl;have hx:(if leaf=0 then pk (ls seed) 1 else pk (ls seed) 0).length=16:=by split<;>exact zB2 _ _
 unfold zEs;generalize (if leaf=0 then pk (ls seed) 1 else pk (ls seed) 0)=x at hx;generalize hg:[u8 (leaf:Int)]++p9 (ls seed) leaf (λi=>(jK m).getD i 0) 35=g;have hgl:g.length=561:=by rw [<- hg,Qd,hw];rfl
 refine yB 1 (λi=>(if i=0 then g else g++x,(i:Int))) rfl (λi hi=>?_) ?_ (xI (by decide))
 ·have:i=0:=by omega
  subst this;unfold zDc;refine ct rfl ?_;refine bd (a:=x) rfl ?_;exact bd (yF (by simp;omega)) rfl
 ·rfl
theorem zM6 (seed:By) (leaf:Nat) (m:By) (h:seed.length<2 ^ 30):(zEs seed leaf m).length=577:=by
 obtain ⟨e,h2⟩:=zPj seed h;have hw:=nO (ls seed) leaf (λi=>(jK m).getD i 0) (by omega) 35;have hx:(if leaf=0 then pk (ls seed) 1 else pk (ls seed) 0).length=16:=by split<;>exact zB2 _ _
 simp only [zEs,Qd,hw,hx,Qb,Qm]
theorem zO6 (leaf c:Nat) (x:By) (d:Nat):∀ k,chn leaf c d (chn leaf c 0 x d) k=chn leaf c 0 x (d+k)
 | 0=>rfl
 | k+1=>by
  have h:=zO6 leaf c x d k;rw [<- Nat.add_assoc];simp only [chn,h,Nat.zero_add]
theorem zUx (s:By) (leaf:Nat) (d:Nat->Nat) (h:s.length<2 ^ 30):∀ n i,i<n->nod (p9 s leaf d n) i=chn leaf i 0 (stt s leaf i) (d i):=by
 intro n;induction n with
 | zero=>intro i hi;omega
 | succ n ih=>
  intro i hi;have hl:=nO s leaf d h n;have hc:=jL leaf i 0 (stt s leaf i) (zLw s leaf i h).2 (d i);by_cases hin:i<n
  ·rw [<- ih i hin];unfold nod;show W1 16 (List.drop (16*i) (p9 s leaf d n++_))=_;rw [Qn (by omega),Qo (by simp;omega)]
  ·have:i=n:=by omega
   subst this;unfold nod;show W1 16 (List.drop (16*i) (p9 s leaf d i++_))=_;rw [<- hl,List.drop_left,Q2 (by omega)]
theorem zNb (s:By) (leaf:Nat) (D:List Nat) (h:s.length<2 ^ 30) (h15:∀ i,i<35->D.getD i 0<=15):∀ n,n<=35->zFv leaf D (p9 s leaf (λi=>D.getD i 0) 35) n=p9 s leaf (λ_=>15) n
 | 0,_=>rfl
 | n+1,hn=>by
  have ih:=zNb s leaf D h h15 n (by omega);show zFv leaf D (p9 s leaf (λi=>D.getD i 0) 35) n++chn leaf n (D.getD n 0) (nod (p9 s leaf (λi=>D.getD i 0) 35) n) (15 - D.getD n 0)=p9 s leaf (λ_=>15) n++chn leaf n 0 (stt s leaf n) 15;rw [ih,zUx s leaf _ h 35 n (by omega),zO6];have:=h15 n (by omega);rw [show D.getD n 0+(15 - D.getD n 0)=15 by omega]
theorem zOn (s:By) (leaf:Nat) (m:By) (h:s.length<2 ^ 30):zBm leaf m (p9 s leaf (λi=>(jK m).getD i 0) 35)=pk s leaf:=by
 unfold zBm pk;rw [zNb s leaf (jK m) h (zGl m) 35 (by omega)]
theorem yBb (leaf:Nat) (W x:By) (hw:W.length=560) (hx:x.length=16) (hl:leaf<=1) :
  (([u8 (leaf:Int)]++W)++x).length=577/\((([u8 (leaf:Int)]++W)++x).getD 0 0).toNat=leaf/\((([u8 (leaf:Int)]++W)++x).drop 1).take 560=W/\cS (([u8 (leaf:Int)]++W)++x) 1=[x]:=by
 refine ⟨by simp [hw,hx],?_,?_,?_⟩
 ·show (u8 (leaf:Int)).toNat=leaf;rw [tY];omega
 ·show W1 560 (W++x)=W;rw [Qo (by omega),Q2 (by omega)]
 ·show [((([u8 (leaf:Int)]++W)++x).drop (561+16*0)).take 16]=_;rw [Qn (by simp [hw]),List.drop_of_length_le (by simp [hw]),List.nil_append,Q2 (by omega)]
theorem zSp (seed:By) (leaf:Nat) (m:By) (h:seed.length<2 ^ 30) (hl:leaf<=1):vrf (zK4 seed) m (zEs seed leaf m)=((leaf:Int),true):=by
 obtain ⟨e,h2⟩:=zPj seed h;have hw:=nO (ls seed) leaf (λi=>(jK m).getD i 0) (by omega) 35;have hr:=zOn (ls seed) leaf m (by omega);have hp:=bP seed;have e0:((zK4 seed).getD 0 0).toNat=1:=rfl;have e2:(zK4 seed).drop 1=par 0 0 (pk (ls seed) 0) (pk (ls seed) 1):=rfl;have hx:(if leaf=0 then pk (ls seed) 1 else pk (ls seed) 0).length=16:=by split<;>exact zB2 _ _
 unfold vrf zEs;generalize p9 (ls seed) leaf (λi=>(jK m).getD i 0) 35=W at hw hr ⊢;obtain ⟨p1,p2,p3,p4⟩:=yBb leaf W _ hw hx hl;rw [e0,p2,p3,p4,e2,hr,if_neg (by omega),if_neg (by omega)];have hle:leaf=0∨leaf=1:=by omega
 rcases hle with rfl | rfl<;>exact if_pos rfl
end Go.Proofs.TT
