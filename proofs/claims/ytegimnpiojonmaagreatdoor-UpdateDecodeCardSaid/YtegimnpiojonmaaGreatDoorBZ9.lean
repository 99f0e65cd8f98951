/- UpdateDecode holds for all inputs -/
import Derived.Test.YtegimnpiojonmaaGreatDoorBZ3
import Derived.Test.YtegimnpiojonmaaGreatDoorBZ6
import Derived.Test.YtegimnpiojonmaaGreatDoorBZ5
set_option linter.all false
open Go.IntKind renaming u32 -> Q0, i64 -> Q1, u64 -> Q9, wrap_u64 -> Qy, wrap_u32 -> W5
open BitVec renaming ofInt -> Q2, toNat_ofNat -> Q7, toNat_shiftLeft -> Qc, toNat_ushiftRight -> Qg, toNat_add -> Qh, ofInt_natCast -> Qi, toNat_or -> Qm, allOnes_xor -> W3, toNat_xor -> W7
open List renaming take_of_length_le -> Q3, drop_eq_getElem_cons -> Q4, replicate -> Q5, append_assoc -> Qd, take_add_one -> Qe, length_append -> Qn, map_cons -> Qo, sum_cons -> Qu, drop_of_length_le -> W0, flatMap_append -> W2, getElem_mem -> W8, range -> W9, range_succ -> Wa, map_append -> Wb
open Int renaming eq_ofNat_of_zero_le -> Q6, tmod_eq_emod_of_nonneg -> Qs, fdiv_eq_ediv_of_nonneg -> Qt, toNat_natCast -> Qv
open Nat renaming le_of_ble_eq_true -> Q8, shiftRight -> Qa, mod_eq_of_lt -> Qb, add -> Qf, le_refl -> Qj, xor -> Qk, land -> Qp, mod -> Qr, shiftRight_eq_div_pow -> Qw, ble -> Qx, min_eq_left -> Qz, shiftLeft -> W1, xor_lt_two_pow -> W4, shiftLeft_eq -> W6
open UInt8 renaming ofNat -> Ql
open Bool renaming and_eq_true -> Qq
namespace Go.Sw
open Go
variable {b:Nat}{c:Bool}{n:Int}{α β:Type}{a:α}{f:α->Option β}{l:List α}{r:Option β}
theorem zTh {X Y:Type} {step:X->Option (X ⊕ Y)} {r:Y} (n:Nat) (s:Nat->X) (h:∀ i,i<n->step (s i)=some (.inl (s (i+1)))) (he:step (s n)=some (.inr r)) :
  ∀ (d k fuel:Nat),k+d=n->d<fuel->zT step fuel (s k)=some r:=by
 intro d;induction d with
 | zero=>
  intro k fuel hk hf;obtain ⟨f,rfl⟩:∃ f,fuel=f+1:=⟨fuel - 1,by omega⟩;have:k=n:=by omega
  subst this;simp [zT,he]
 | succ d ih=>
  intro k fuel hk hf;obtain ⟨f,rfl⟩:∃ f,fuel=f+1:=⟨fuel - 1,by omega⟩;simp only [zT,h k (by omega)];exact ih (k+1) f (by omega) (by omega)
theorem vF {X Y:Type} {step:X->Option (X ⊕ Y)} {r:Y} {x:X} (n:Nat) (s:Nat->X) (h0:s 0=x) (h:∀ i,i<n->step (s i)=some (.inl (s (i+1)))) (he:step (s n)=some (.inr r)) {fuel:Nat} (hf:n<fuel) :
  zT step fuel x=some r:=by
 subst h0;exact zTh n s h he n 0 fuel (by omega) hf
theorem zO9 {X Y:Type} {step:X->Option (X ⊕ Y)} (I:X->Prop) (m:X->Nat) (Q:Y->Prop)
  (h:∀ s,I s->(∃ s',step s=some (.inl s')/\I s'/\m s'<m s)∨(∃ r,step s=some (.inr r)/\Q r)) :
  ∀ (fuel:Nat) (s:X),I s->m s<fuel->∃ r,zT step fuel s=some r/\Q r:=by
 intro fuel;induction fuel with
 | zero=>intro s _ hm;omega
 | succ f ih=>
  intro s hs hm;rcases h s hs with ⟨s',h1,h2,h3⟩ | ⟨r,h1,h2⟩
  ·obtain ⟨r,h4,h5⟩:=ih s' h2 (by omega);exact ⟨r,by simp [zT,h1,h4],h5⟩
  ·exact ⟨r,by simp [zT,h1],h2⟩
theorem sT {n:Nat} (h:n<2 ^ 64):n<FU:=by
 have:(2:Nat) ^ 64<FU:=by decide
 omega
theorem xU (h1:-9223372036854775808<=n) (h2:n<=9223372036854775807):Q1.wrap n=n:=by rw [IntKind.wrap_i64];omega
theorem yEt (h1:0<=n) (h2:n<=4294967295):Q0.wrap n=n:=by rw [W5];omega
theorem zG1 (h1:0<=n) (h2:n<=18446744073709551615):Q9.wrap n=n:=by rw [Qy];omega
theorem xZ {m:List α} (h:(l.length+m.length)*b<=140737488355328):xB b l m=some (l++m):=by
 simp [xB,LIM,h]
theorem xO {i:Nat} (h:i<l.length):idx l (i:Int)=some l[i]:=by
 simp [idx,h]
theorem kT {a:Nat} (h:a<=b) (h2:b<=l.length):sub l (a:Int) (b:Int)=some ((l.drop a).take (b - a)):=by
 have:(0:Int)<=a/\(a:Int)<=b/\(b:Int)<=l.length:=⟨by omega,by omega,by omega⟩;simp [sub,this]
theorem bd {o:Option α} (h:o=some a) (k:f a=r):o.bind f=r:=by subst h;exact k
theorem ltk {e:α} (k:f e=r):lt e f=r:=k
theorem ct {b r:α} (h:c=true) (k:a=r):(bif c then a else b)=r:=by subst h;exact k
theorem cf {b r:α} (h:c=false) (k:b=r):(bif c then a else b)=r:=by subst h;exact k
theorem ckT (h:c=true):ck c=some ():=by subst h;rfl
end Go.Sw
namespace Go.Proofs.TT
open Go Go.Sw
set_option maxRecDepth 100000
variable {a b:Nat}{e:Int}{i:Nat}{l:List Int}{m n t:Nat}{x:By}
def rr (x n:Int):Int:=ior .u32 (wK .u32 x n) (lT .u32 x (32 - n))
theorem zWn (k:IntKind) (a b:Int):ior k a b=ior k b a:=by simp [ior,BitVec.or_comm]
theorem jF (x:Int) (n m:Int) (h:uJ .u64 (Q9.wrap n) 31=32 - m) (h0:0<=m) (h1:m<=32):zU x n=some (rr x m):=by
 have h2:Q9.wrap (32 - (32 - m))=m:=by rw [Qy];omega
 have h3:(0:Int)<=32 - m:=by omega
 have h4:decide ((0:Int)<=32 - m)=true:=by simpa using h3
 have h5:decide ((0:Int)<=m)=true:=by simpa using h0
 simp only [zU,ck,lt,h,h2,h4,h5,rr,cond_true,Option.bind_some];rw [zWn]
def K2:List Int:=wJ
def a8 (s:A8 Int):List Int:=[s.a0,s.a1,s.a2,s.a3,s.a4,s.a5,s.a6,s.a7]
def t1 (s:A8 Int) (k w:Int):Int:=
 Q0.wrap (Q0.wrap (Q0.wrap (Q0.wrap (s.a7+tD .u32 (tD .u32 (rr s.a4 6) (rr s.a4 11)) (rr s.a4 25))+tD .u32 (uJ .u32 s.a4 s.a5) (uJ .u32 (zQu .u32 s.a4) s.a6))+k)+w)
def t2 (s:A8 Int):Int:=Q0.wrap (tD .u32 (tD .u32 (rr s.a0 2) (rr s.a0 13)) (rr s.a0 22)+tD .u32 (tD .u32 (uJ .u32 s.a0 s.a1) (uJ .u32 s.a0 s.a2)) (uJ .u32 s.a1 s.a2))
def rnd (s:A8 Int) (k w:Int):A8 Int:=⟨Q0.wrap (t1 s k w+t2 s),s.a0,s.a1,s.a2,Q0.wrap (s.a3+t1 s k w),s.a4,s.a5,s.a6⟩
def iC (w:List Int) (s:A8 Int):Nat->A8 Int
 | 0=>s
 | n+1=>rnd (iC w s n) (K2.getD n 0) (w.getD n 0)
theorem kM (h:t<n):ixN n (t:Int)=some t:=by
 have:(0:Int)<=t/\(t:Int)<n:=⟨by omega,by omega⟩;simp [ixN,this]
theorem zGl (h:t<l.length):l[t]? = some (l.getD t 0):=by simp [h]
theorem uU (h:t<2 ^ 40):Q1.wrap ((t:Int)+1)=((t+1:Nat):Int):=by rw [xU (by omega) (by omega)];simp
section
variable (a b c d e f g h:Int)
end
theorem dlt (h:a<b):decide ((a:Int)<(b:Int))=true:=by simp;exact h
theorem dge (h:b<=a):decide ((a:Int)<(b:Int))=false:=by simp;omega
theorem zZd (w:List Int) (s:A8 Int) (i:Nat) (hi:i<64) (hw:w.length=64):tZ w ((i:Int),s.a0,s.a1,s.a2,s.a3,s.a4,s.a5,s.a6,s.a7) =
  some (.inl (((i+1:Nat):Int),(rnd s (K2.getD i 0) (w.getD i 0)).a0,(rnd s (K2.getD i 0) (w.getD i 0)).a1,(rnd s (K2.getD i 0) (w.getD i 0)).a2,(rnd s (K2.getD i 0) (w.getD i 0)).a3,(rnd s (K2.getD i 0) (w.getD i 0)).a4,(rnd s (K2.getD i 0) (w.getD i 0)).a5,(rnd s (K2.getD i 0) (w.getD i 0)).a6,(rnd s (K2.getD i 0) (w.getD i 0)).a7)):=by
 have e1:decide ((i:Int)<64)=true:=dlt (b:=64) hi;have e2:∀ x,zU x (-6)=some (rr x 6):=λx=>jF x _ 6 (by decide) (by decide) (by decide);have e3:∀ x,zU x (-11)=some (rr x 11):=λx=>jF x _ 11 (by decide) (by decide) (by decide);have e4:∀ x,zU x (-25)=some (rr x 25):=λx=>jF x _ 25 (by decide) (by decide) (by decide);have e5:∀ x,zU x (-2)=some (rr x 2):=λx=>jF x _ 2 (by decide) (by decide) (by decide);have e6:∀ x,zU x (-13)=some (rr x 13):=λx=>jF x _ 13 (by decide) (by decide) (by decide);have e7:∀ x,zU x (-22)=some (rr x 22):=λx=>jF x _ 22 (by decide) (by decide) (by decide);have k1:idx wJ (i:Int)=some (K2.getD i 0):=by rw [xO (show i<wJ.length from hi)];simp [K2,show i<wJ.length from hi]
 have k2:w[i]? = some (w.getD i 0):=zGl (by omega);unfold tZ;refine ct e1 ?_;refine bd (e2 _) ?_;refine bd (e3 _) ?_;refine bd (e4 _) ?_;refine ltk ?_;refine ltk ?_;refine bd k1 ?_;refine ltk ?_;refine bd (kM hi) ?_;refine bd k2 ?_;refine bd (e5 _) ?_;refine bd (e6 _) ?_;refine bd (e7 _) ?_;refine ltk ?_;refine ltk ?_;refine ltk ?_;refine ltk ?_;rw [uU (show i<2 ^ 40 by omega)];rfl
theorem zZ1 (w:List Int) (hw:w.length=64) (s:A8 Int):zT (tZ w) FU (0,s.a0,s.a1,s.a2,s.a3,s.a4,s.a5,s.a6,s.a7)=some ((iC w s 64).a0,(iC w s 64).a1,(iC w s 64).a2,(iC w s 64).a3,(iC w s 64).a4,(iC w s 64).a5,(iC w s 64).a6,(iC w s 64).a7):=by
 refine vF 64 (λi=>((i:Int),(iC w s i).a0,(iC w s i).a1,(iC w s i).a2,(iC w s i).a3,(iC w s i).a4,(iC w s i).a5,(iC w s i).a6,(iC w s i).a7)) rfl (λi hi=>zZd w _ i hi hw) ?_ (sT (by decide));generalize iC w s 64=S;rfl
set_option maxRecDepth 100000
theorem zVf {l:By} {z:Int} (hz:z=(n:Int)) (h:n<l.length):idx l z=some (l.getD n 0):=by
 subst hz;simp [idx,h]
theorem zSx {α:Type} {l:List α} {j:Nat} {u:α} (h:j<l.length):qG l j u=some (l.set j u):=by simp [qG,h]
def byt (b:By) (n:Nat):Int:=Q0.wrap (((b.getD n 0).toNat:Nat):Int)
def wd (b:By) (t:Nat):Int:=ior .u32 (ior .u32 (ior .u32 (lT .u32 (byt b (4*t)) 24) (lT .u32 (byt b (4*t+1)) 16)) (lT .u32 (byt b (4*t+2)) 8)) (byt b (4*t+3))
theorem zYn (b:By) (t:Nat) (h:4*t+3<b.length) (h2:t<2 ^ 20):oH b (t:Int)=some (wd b t):=by
 have e0:Q1.wrap (4*(t:Int))=((4*t:Nat):Int):=by rw [xU (by omega) (by omega)];simp
 unfold oH;rw [e0];refine bd (zVf rfl (by omega)) ?_;refine bd (zVf (n:=4*t+1) (by rw [xU (by omega) (by omega)];simp) (by omega)) ?_;refine ltk ?_;refine bd (zVf (n:=4*t+2) (by rw [xU (by omega) (by omega)];simp) (by omega)) ?_;refine ltk ?_;refine bd (zVf (n:=4*t+3) (by rw [xU (by omega) (by omega)];simp) (by omega)) ?_;rfl
theorem zWy:oH=oH:=rfl
def s0 (x:Int):Int:=tD .u32 (tD .u32 (rr x 7) (rr x 18)) (wK .u32 x 3)
def s1 (x:Int):Int:=tD .u32 (tD .u32 (rr x 17) (rr x 19)) (wK .u32 x 10)
def wv (b:By) (w:List Int) (t:Nat):Int:=
 if t<16 then wd b t else Q0.wrap (Q0.wrap (Q0.wrap (s1 (w.getD (t - 2) 0)+w.getD (t - 7) 0)+s0 (w.getD (t - 15) 0))+w.getD (t - 16) 0)
def zB9 (b:By):Nat->List Int
 | 0=>Q5 64 0
 | t+1=>(zB9 b t).set t (wv b (zB9 b t) t)
theorem zD1 (b:By):∀ t,(zB9 b t).length=64
 | 0=>rfl
 | t+1=>by simp [zB9,zD1 b t]
theorem yGn (b:By) (w:List Int) (i:Nat) (hi:i<64) (hw:w.length=64) (hb:b.length=64):sB b ((i:Int),w)=some (.inl (((i+1:Nat):Int),w.set i (wv b w i))):=by
 have hiw:i<w.length:=by omega
 unfold sB;refine ct (dlt (b:=64) hi) ?_;refine bd (a:=w.set i (wv b w i)) ?_ (by rw [uU (show i<2 ^ 40 by omega)]);by_cases h:i<16
 ·refine ct (dlt (b:=16) h) ?_;rw [zWy];refine bd (zYn b i (by omega) (by omega)) ?_;refine bd (kM hi) ?_;refine bd (zSx hiw) ?_;simp [wv,h]
 refine cf (dge (b:=16) (by omega)) ?_;have x15:ixN 64 (Q1.wrap ((i:Int) - 15))=some (i - 15):=by rw [xU (by omega) (by omega),show (i:Int) - 15=((i - 15:Nat):Int) by omega];exact kM (by omega)
 have x2:ixN 64 (Q1.wrap ((i:Int) - 2))=some (i - 2):=by rw [xU (by omega) (by omega),show (i:Int) - 2=((i - 2:Nat):Int) by omega];exact kM (by omega)
 have x7:ixN 64 (Q1.wrap ((i:Int) - 7))=some (i - 7):=by rw [xU (by omega) (by omega),show (i:Int) - 7=((i - 7:Nat):Int) by omega];exact kM (by omega)
 have x16:ixN 64 (Q1.wrap ((i:Int) - 16))=some (i - 16):=by rw [xU (by omega) (by omega),show (i:Int) - 16=((i - 16:Nat):Int) by omega];exact kM (by omega)
 have w15:w[i - 15]? = some (w.getD (i - 15) 0):=zGl (by omega);have w2:w[i - 2]? = some (w.getD (i - 2) 0):=zGl (by omega);have w7:w[i - 7]? = some (w.getD (i - 7) 0):=zGl (by omega);have w16:w[i - 16]? = some (w.getD (i - 16) 0):=zGl (by omega);have e7:∀ x,zU x (-7)=some (rr x 7):=λx=>jF x _ 7 (by decide) (by decide) (by decide);have e18:∀ x,zU x (-18)=some (rr x 18):=λx=>jF x _ 18 (by decide) (by decide) (by decide);have e17:∀ x,zU x (-17)=some (rr x 17):=λx=>jF x _ 17 (by decide) (by decide) (by decide);have e19:∀ x,zU x (-19)=some (rr x 19):=λx=>jF x _ 19 (by decide) (by decide) (by decide);refine bd (x15) ?_;refine bd (w15) ?_;refine bd (x2) ?_;refine bd (w2) ?_;refine bd (e7 _) ?_;refine bd (e18 _) ?_;refine bd (e17 _) ?_;refine bd (e19 _) ?_;refine bd (x7) ?_;refine bd (w7) ?_;refine ltk ?_;refine ltk ?_;refine bd (x16) ?_;refine bd (w16) ?_;refine bd (kM hi) ?_;refine bd (zSx hiw) ?_;simp only [wv,h,if_false];rfl
theorem yAm (b:By) (hb:b.length=64):zT (sB b) FU (0,Q5 64 0)=some (zB9 b 64):=by
 refine vF 64 (λi=>((i:Int),zB9 b i)) rfl (λi hi=>yGn b _ i hi (zD1 b i) hb) ?_ (sT (by decide));generalize zB9 b 64=S;rfl
def pL (x:By) (n:Nat):By:=(x.drop n).take 64
set_option maxRecDepth 100000
def zV8 (h s:A8 Int):A8 Int:=⟨Q0.wrap (h.a0+s.a0),Q0.wrap (h.a1+s.a1),Q0.wrap (h.a2+s.a2),Q0.wrap (h.a3+s.a3),Q0.wrap (h.a4+s.a4),Q0.wrap (h.a5+s.a5),Q0.wrap (h.a6+s.a6),Q0.wrap (h.a7+s.a7)⟩
def zSc (h s:List Int):Nat->List Int
 | 0=>h
 | i+1=>(zSc h s i).set i (Q0.wrap ((zSc h s i).getD i 0+s.getD i 0))
theorem zQ4 (h s:List Int):∀ i,(zSc h s i).length=h.length
 | 0=>rfl
 | i+1=>by simp [zSc,zQ4 h s i]
theorem yCk (h s:A8 Int):zSc (a8 h) (a8 s) 8=a8 (zV8 h s):=rfl
def zDi (h:A8 Int) (b:By):A8 Int:=zV8 h (iC (zB9 b 64) h 64)
theorem yB7 (h s:A8 Int):zT (uN s.a0 s.a1 s.a2 s.a3 s.a4 s.a5 s.a6 s.a7) FU (0,[h.a0,h.a1,h.a2,h.a3,h.a4,h.a5,h.a6,h.a7])=some (zV8 h s):=by
 refine vF 8 (λi=>((i:Int),zSc (a8 h) (a8 s) i)) rfl (λi hi=>?_) ?_ (sT (by decide))
 ·have hl:(zSc (a8 h) (a8 s) i).length=8:=zQ4 _ _ _;unfold uN;refine ct (dlt (b:=8) hi) ?_;refine bd (kM hi) ?_;refine bd (zGl (by omega)) ?_;refine bd (kM hi) ?_;refine bd (a:=(a8 s).getD i 0) (zGl (l:=a8 s) hi) ?_;refine bd (kM hi) ?_;refine bd (zSx (by omega)) ?_;rw [uU (show i<2 ^ 40 by omega)];rfl
 ·show uN s.a0 s.a1 s.a2 s.a3 s.a4 s.a5 s.a6 s.a7 (((8:Nat):Int),zSc (a8 h) (a8 s) 8)=_;rw [yCk];unfold uN;refine cf rfl ?_;refine bd (a:=zV8 h s) rfl rfl
theorem zRk (h:A8 Int) (b:By) (hb:b.length=64):rX h b=some (zDi h b):=by
 unfold rX;refine bd (yAm b hb) ?_;refine bd (zZ1 _ (zD1 b 64) h) ?_;refine bd (yB7 h _) ?_;rfl
def zZx:A8 Int:=⟨1779033703,3144134277,1013904242,2773480762,1359893119,2600822924,528734635,1541459225⟩
def hsh (x:By):Nat->A8 Int
 | 0=>zZx
 | i+1=>zDi (hsh x i) (pL x (64*i))
def st8 (p:By) (h:A8 Int):By×Int×Int×Int×Int×Int×Int×Int×Int:=(p,h.a0,h.a1,h.a2,h.a3,h.a4,h.a5,h.a6,h.a7)
theorem zSr (x:By) (n:Nat) (hx:x.length=64*n) (hl:x.length<2 ^ 48):zT lN FU (st8 x zZx)=some ((hsh x n).a0,(hsh x n).a1,(hsh x n).a2,(hsh x n).a3,(hsh x n).a4,(hsh x n).a5,(hsh x n).a6,(hsh x n).a7):=by
 refine vF n (λi=>st8 (x.drop (64*i)) (hsh x i)) (by simp [hsh]) (λi hi=>?_) ?_ (sT (by omega))
 ·have hd:(x.drop (64*i)).length=x.length - 64*i:=by simp
  unfold lN st8;refine ct (by simp;omega) ?_;refine bd (a:=pL x (64*i)) (by rw [show (0:Int)=((0:Nat):Int) from rfl,show (64:Int)=((64:Nat):Int) from rfl,kT (by omega) (by omega)];simp [pL]) ?_;refine bd (zRk _ _ (by simp [pL];omega)) ?_;refine bd (a:=x.drop (64*(i+1))) (by rw [show (64:Int)=((64:Nat):Int) from rfl,kT (by omega) (by omega)];rw [List.drop_drop,Q3 (by simp;omega)];congr 2) ?_;rfl
 ·have hd:x.drop (64*n)=[]:=List.drop_eq_nil_of_le (by omega);show lN (st8 (x.drop (64*n)) (hsh x n))=_;rw [hd];generalize hsh x n=S;rfl
def zs (n:Nat):Nat:=(119 - n % 64) % 64
def be8 (n:Int) (k:Nat):By:=(W9 k).map λ(j:Nat)=>u8 (wK .u64 n (56 - 8*(j:Int)))
theorem zTo (n:Int) (k:Nat):(be8 n k).length=k:=by simp [be8]
theorem zXs (n:Int) (k:Nat):be8 n (k+1)=be8 n k++[u8 (wK .u64 n (56 - 8*(k:Int)))]:=by simp [be8,Wa]
def yF5 (b:By):Int:=Q9.wrap (Q9.wrap (b.length:Int)*8)
def zO3 (b:By):By:=(b++[128]++Q5 (zs b.length) 0)++be8 (yF5 b) 8
theorem zR3 (b:By):(zO3 b).length=b.length+9+zs b.length:=by simp [zO3,zTo];omega
theorem zSj (b:By):(zO3 b).length % 64=0:=by rw [zR3];unfold zs;omega
theorem zU1 (b:By) (hb:b.length<2 ^ 40):zT qJ FU (b++[128])=some (b++[128]++Q5 (zs b.length) 0):=by
 have hz:zs b.length<64:=by unfold zs;omega
 refine vF (zs b.length) (λi=>b++[128]++Q5 i 0) (by simp) (λi hi=>?_) ?_ (sT (by omega))
 ·have hl:(b++[128]++Q5 i 0).length=b.length+1+i:=by simp;omega
  unfold qJ;refine ct ?_ ?_
  ·rw [hl];simp only [bne_iff_ne,ne_eq];rw [Qs (by omega)];unfold zs at hi;omega
  ·refine bd (xZ (by rw [hl];simp;omega)) ?_;rw [Qd,<- List.replicate_succ']
 ·have hl:(b++[128]++Q5 (zs b.length) 0).length=b.length+1+zs b.length:=by simp;omega
  unfold qJ;refine cf ?_ rfl;rw [hl];simp only [bne_eq_false_iff_eq];rw [Qs (by omega)];unfold zs;omega
theorem zY4:qJ=qJ:=rfl
theorem zXm (x:By) (n:Int) (hx:x.length<2 ^ 41):zT (cM n) FU (x,56)=some (x++be8 n 8):=by
 refine vF 8 (λi=>(x++be8 n i,56 - 8*(i:Int))) (by simp [be8]) (λi hi=>?_) ?_ (sT (by decide))
 ·unfold cM;refine ct (by simp;omega) ?_;rw [zG1 (n:=56 - 8*(i:Int)) (by omega) (by omega)];refine bd (xZ (by simp [zTo];omega)) ?_;rw [xU (by omega) (by omega),Qd,<- zXs,show (56:Int) - 8*(i:Int) - 8=56 - 8*((i+1:Nat):Int) by omega]
 ·generalize be8 n 8=S;rfl
theorem zTd (b:By) (hb:b.length<2 ^ 40):eS b=some (zO3 b):=by
 have hz:zs b.length<64:=by unfold zs;omega
 unfold eS;refine bd (a:=b.length+72) (by unfold mkN;rw [xU (by omega) (by omega),if_pos (by omega)];congr 1) ?_;refine bd (a:=b) (by rw [xZ (by simp;omega)];simp) ?_;refine bd (xZ (by simp;omega)) ?_;rw [zY4];refine bd (zU1 b hb) ?_;refine ltk ?_;refine bd (zXm _ _ (by simp;omega)) ?_;rfl
def be4 (w:Int):By:=[u8 (wK .u32 w 24),u8 (wK .u32 w 16),u8 (wK .u32 w 8),u8 w]
theorem zXi (l:List Int):(l.flatMap be4).length=4*l.length:=by
 induction l with
 | nil=>rfl
 | cons a r ih=>simp [ih,be4];omega
theorem zX5 (l:List Int) (i:Nat) (hi:i<l.length):(l.take (i+1)).flatMap be4=(l.take i).flatMap be4++be4 (l.getD i 0):=by
 rw [Qe,W2];congr 1;simp [hi]
theorem idxI (h:i<l.length):idx l (i:Int)=some (l.getD i 0):=by rw [xO h];simp [h]
theorem zVg (l:List Int) (hl:l.length<2 ^ 20):nS l=some (l.flatMap be4):=by
 have:zT (oJ l) FU ([],0)=some (l.flatMap be4):=by
  refine vF l.length (λi=>((l.take i).flatMap be4,(i:Int))) (by simp) (λi hi=>?_) ?_ (sT (by omega))
  ·unfold oJ;refine ct (dlt hi) ?_;refine bd (idxI hi) ?_;refine bd (xZ (by rw [zXi];simp;omega)) ?_;rw [zX5 l i hi,uU (show i<2 ^ 40 by omega)];rfl
  ·unfold oJ;refine cf (dge (Qj _)) ?_;simp
 unfold nS;refine bd (a:=4*l.length) (by unfold mkN;rw [xU (by omega) (by omega),if_pos (by omega)];congr 1) ?_;exact bd this rfl
def sha (b:By):By:=(a8 (hsh (zO3 b) ((zO3 b).length / 64))).flatMap be4
theorem zX9 (b:By):(sha b).length=32:=by unfold sha;rw [zXi];rfl
theorem zQm (b:By) (hb:b.length<2 ^ 40):jY 1 b=some (sha b):=by
 have hz:zs b.length<64:=by unfold zs;omega
 have h1:=zR3 b;have h2:=zSj b;unfold jY;refine cf rfl ?_;refine ct rfl ?_;refine bd (zTd b hb) ?_;refine bd (zSr (zO3 b) ((zO3 b).length / 64) (by omega) (by omega)) ?_;refine bd (zVg _ (by simp)) ?_;rfl
abbrev B3:=BitVec 32
def io (v:B3):Int:=(v.toNat:Int)
def rb (v:B3) (r s:Nat):B3:=(v >>> r) ||| (v <<< s)
def S1b (e:B3):B3:=(rb e 6 26 ^^^ rb e 11 21) ^^^ rb e 25 7
def S0b (e:B3):B3:=(rb e 2 30 ^^^ rb e 13 19) ^^^ rb e 22 10
def s0b (e:B3):B3:=(rb e 7 25 ^^^ rb e 18 14) ^^^ (e >>> 3)
def s1b (e:B3):B3:=(rb e 17 15 ^^^ rb e 19 13) ^^^ (e >>> 10)
def t1b (s:A8 B3) (k w:B3):B3:=s.a7+S1b s.a4+((s.a4 &&& s.a5) ^^^ (~~~s.a4 &&& s.a6))+k+w
def t2b (s:A8 B3):B3:=S0b s.a0+(((s.a0 &&& s.a1) ^^^ (s.a0 &&& s.a2)) ^^^ (s.a1 &&& s.a2))
def rB (s:A8 B3) (k w:B3):A8 B3:=⟨t1b s k w+t2b s,s.a0,s.a1,s.a2,s.a3+t1b s k w,s.a4,s.a5,s.a6⟩
def ioA (s:A8 B3):A8 Int:=⟨io s.a0,io s.a1,io s.a2,io s.a3,io s.a4,io s.a5,io s.a6,io s.a7⟩
theorem wu (x:Int):Q0.wrap x=x % 4294967296:=by rw [W5]
theorem ofI (v:B3):Q2 32 (io v)=v:=by unfold io;simp
theorem yEo (v:B3):0<=io v/\io v<4294967296:=⟨by unfold io;omega,by unfold io;have:=v.isLt;omega⟩
theorem zMm (v:B3):Q0.wrap (io v)=io v:=by rw [wu];have:=yEo v;omega
theorem zJ8 (a b:B3):tD .u32 (io a) (io b)=io (a ^^^ b):=by
 show Q0.wrap ((Q2 32 (io a) ^^^ Q2 32 (io b)).toNat:Int)=_;rw [ofI,ofI];exact zMm _
theorem zVy (a b:B3):uJ .u32 (io a) (io b)=io (a &&& b):=by
 show Q0.wrap ((Q2 32 (io a) &&& Q2 32 (io b)).toNat:Int)=_;rw [ofI,ofI];exact zMm _
theorem zTs (a b:B3):ior .u32 (io a) (io b)=io (a ||| b):=by
 show Q0.wrap ((Q2 32 (io a) ||| Q2 32 (io b)).toNat:Int)=_;rw [ofI,ofI];exact zMm _
theorem yB1 (a:B3):zQu .u32 (io a)=io (~~~a):=by
 show Q0.wrap ((Q2 32 4294967295 ^^^ Q2 32 (io a)).toNat:Int)=_;rw [ofI,show (Q2 32 4294967295:B3)=BitVec.allOnes 32 from rfl,W3];exact zMm _
theorem zNv (a:B3) (n:Nat) (h:n<=32):wK .u32 (io a) (n:Int)=io (a >>> n):=by
 unfold wK io;rw [show min (n:Int).toNat Q0.bits=n from Qz h,Qg,Qw];rw [show ((2:Int) ^ n)=((2 ^ n:Nat):Int) by simp];exact Qt _ (Int.natCast_nonneg _)
theorem zP8 (a:B3) (n:Nat) (h:n<=32):lT .u32 (io a) (n:Int)=io (a <<< n):=by
 unfold lT io;rw [show min (n:Int).toNat Q0.bits=n from Qz h,Qc,W6,wu];rw [show ((2:Int) ^ n)=((2 ^ n:Nat):Int) by simp];omega
theorem zGp (a b:B3):Q0.wrap (io a+io b)=io (a+b):=by
 rw [wu];unfold io;rw [Qh];omega
theorem zFq (a:B3) (r:Nat) (h:r<=32):rr (io a) (r:Int)=io (rb a r (32 - r)):=by
 unfold rr rb;rw [zNv a r h,show (32:Int) - (r:Int)=((32 - r:Nat):Int) by omega,zP8 a (32 - r) (by omega),zTs]
theorem yDm (s:A8 B3) (k w:B3):t1 (ioA s) (io k) (io w)=io (t1b s k w):=by
 have e1:rr (io s.a4) 6=io (rb s.a4 6 26):=zFq s.a4 6 (by decide);have e2:rr (io s.a4) 11=io (rb s.a4 11 21):=zFq s.a4 11 (by decide);have e3:rr (io s.a4) 25=io (rb s.a4 25 7):=zFq s.a4 25 (by decide);unfold t1 t1b S1b ioA;simp only [e1,e2,e3,zJ8,zVy,yB1,zGp]
theorem yF1 (s:A8 B3):t2 (ioA s)=io (t2b s):=by
 have e1:rr (io s.a0) 2=io (rb s.a0 2 30):=zFq s.a0 2 (by decide);have e2:rr (io s.a0) 13=io (rb s.a0 13 19):=zFq s.a0 13 (by decide);have e3:rr (io s.a0) 22=io (rb s.a0 22 10):=zFq s.a0 22 (by decide);unfold t2 t2b S0b ioA;simp only [e1,e2,e3,zJ8,zVy,zGp]
theorem yAz (s:A8 B3) (k w:B3):rnd (ioA s) (io k) (io w)=ioA (rB s k w):=by
 have e1:=yDm s k w;have e2:=yF1 s;unfold rnd;rw [e1,e2];simp only [ioA,rB,zGp]
theorem zZt (a b:B3):Qp a.toNat b.toNat=(a &&& b).toNat:=(BitVec.toNat_and a b).symm
theorem zM4 (a b:B3):Qk a.toNat b.toNat=(a ^^^ b).toNat:=(W7 a b).symm
theorem zZs (a:B3):Qk 4294967295 a.toNat=(~~~a).toNat:=by
 rw [show (4294967295:Nat)=(BitVec.allOnes 32:B3).toNat from rfl,zM4,W3]
theorem zY9 (a:B3) (r s:Nat):rn a.toNat r s=(rb a r s).toNat:=by
 unfold rn rb;rw [Qm,Qg,Qc];rfl
theorem zZq (a:B3) (r:Nat):Qa a.toNat r=(a >>> r).toNat:=(Qg a r).symm
theorem n_S1 (a:B3):S1n a.toNat=(S1b a).toNat:=by unfold S1n S1b;simp only [zY9,zM4]
theorem n_S0 (a:B3):S0n a.toNat=(S0b a).toNat:=by unfold S0n S0b;simp only [zY9,zM4]
theorem n_s1 (a:B3):s1n a.toNat=(s1b a).toNat:=by unfold s1n s1b;simp only [zY9,zM4,zZq]
theorem n_s0 (a:B3):s0n a.toNat=(s0b a).toNat:=by unfold s0n s0b;simp only [zY9,zM4,zZq]
def kB (n:Nat):B3:=BitVec.ofNat 32 (ksN.getD n 0)
def rsN (S:Nat->B3) (s:A8 B3):Nat->A8 B3
 | 0=>s
 | n+1=>rB (rsN S s n) (kB n) (S n)
theorem zUd:ksN.length=64:=rfl
theorem zW1 {R:Type} (fin:Nat->Nat->Nat->Nat->Nat->Nat->Nat->Nat->R) (S:Nat->B3) (hS:∀ t,S (t+16)=s1b (S (t+14))+S (t+9)+s0b (S (t+1))+S t) (s0:A8 B3):∀ m t,m+t=64 ->
  goK fin (ksN.drop t) (S t).toNat (S (t+1)).toNat (S (t+2)).toNat (S (t+3)).toNat (S (t+4)).toNat (S (t+5)).toNat (S (t+6)).toNat (S (t+7)).toNat (S (t+8)).toNat (S (t+9)).toNat (S (t+10)).toNat (S (t+11)).toNat (S (t+12)).toNat (S (t+13)).toNat (S (t+14)).toNat (S (t+15)).toNat (rsN S s0 t).a0.toNat (rsN S s0 t).a1.toNat (rsN S s0 t).a2.toNat (rsN S s0 t).a3.toNat (rsN S s0 t).a4.toNat (rsN S s0 t).a5.toNat (rsN S s0 t).a6.toNat (rsN S s0 t).a7.toNat =
  fin (rsN S s0 64).a0.toNat (rsN S s0 64).a1.toNat (rsN S s0 64).a2.toNat (rsN S s0 64).a3.toNat (rsN S s0 64).a4.toNat (rsN S s0 64).a5.toNat (rsN S s0 64).a6.toNat (rsN S s0 64).a7.toNat
 | 0,t,h=>by
  obtain rfl:t=64:=by omega
  rw [show ksN.drop 64=[] from W0 (by rw [zUd];omega)];rfl
 | m+1,t,h=>by
  have hk:ksN.drop t=ksN.getD t 0 :: ksN.drop (t+1):=by
   have:t<ksN.length:=by rw [zUd];omega
   rw [Q4 this];simp [this]
  have ih:=zW1 fin S hS s0 m (t+1) (by omega);refine Eq.trans ?_ ih;rw [hk];generalize hs:rsN S s0 t=s;have hs2:rsN S s0 (t+1)=rB s (kB t) (S t):=by rw [<- hs];rfl
  rw [hs2];have hkt:ksN.getD t 0 % 4294967296=(kB t).toNat:=by unfold kB;rw [Q7]
  have ea:Qr (Qf (Qf (Qf (Qf (Qf s.a7.toNat (S1n s.a4.toNat)) (Qk (Qp s.a4.toNat s.a5.toNat) (Qp (Qk 4294967295 s.a4.toNat) s.a6.toNat))) (ksN.getD t 0)) (S t).toNat) (Qf (S0n s.a0.toNat) (Qk (Qk (Qp s.a0.toNat s.a1.toNat) (Qp s.a0.toNat s.a2.toNat)) (Qp s.a1.toNat s.a2.toNat)))) 4294967296=(rB s (kB t) (S t)).a0.toNat:=by
   simp only [n_S1,n_S0,zZs,zZt,zM4];simp only [rB,t1b,t2b,Qh,<- hkt];show ((((_+_)+_)+_)+_+(_+_)) % 4294967296=_;omega
  have ee:Qr (Qf s.a3.toNat (Qf (Qf (Qf (Qf s.a7.toNat (S1n s.a4.toNat)) (Qk (Qp s.a4.toNat s.a5.toNat) (Qp (Qk 4294967295 s.a4.toNat) s.a6.toNat))) (ksN.getD t 0)) (S t).toNat)) 4294967296=(rB s (kB t) (S t)).a4.toNat:=by
   simp only [n_S1,zZs,zZt,zM4];simp only [rB,t1b,Qh,<- hkt];show (_+((((_+_)+_)+_)+_)) % 4294967296=_;omega
  have ew:Qr (Qf (Qf (Qf (s1n (S (t+14)).toNat) (S (t+9)).toNat) (s0n (S (t+1)).toNat)) (S t).toNat) 4294967296=(S (t+1+15)).toNat:=by
   rw [show t+1+15=t+16 by omega,hS t];simp only [n_s1,n_s0,Qh];show (((_+_)+_)+_) % 4294967296=_;omega
  simp only [goK,zK2];rw [ea,ee,ew];rfl
def yB (b:By) (n:Nat):B3:=BitVec.ofNat 32 (b.getD n 0).toNat
def wB (b:By) (t:Nat):B3:=(((yB b (4*t) <<< 24) ||| (yB b (4*t+1) <<< 16)) ||| (yB b (4*t+2) <<< 8)) ||| yB b (4*t+3)
theorem zP0 (b:By) (n:Nat):byt b n=io (yB b n):=by
 unfold byt yB io;rw [wu,Q7];have:=(b.getD n 0).toNat_lt;omega
theorem yGc (b:By) (t:Nat):wd b t=io (wB b t):=by
 unfold wd wB;rw [zP0,zP0,zP0,zP0,show (24:Int)=((24:Nat):Int) from rfl,show (16:Int)=((16:Nat):Int) from rfl,show (8:Int)=((8:Nat):Int) from rfl,zP8 _ _ (by decide),zP8 _ _ (by decide),zP8 _ _ (by decide),zTs,zTs,zTs]
def Sx (f:Nat->B3) (n:Nat):B3:=if n<16 then f n else s1b (Sx f (n - 2))+Sx f (n - 7)+s0b (Sx f (n - 15))+Sx f (n - 16)
termination_by n
theorem yCy (f:Nat->B3) (t:Nat):Sx f (t+16)=s1b (Sx f (t+14))+Sx f (t+9)+s0b (Sx f (t+1))+Sx f t:=by
 rw [Sx,if_neg (by omega)];simp only [show t+16 - 2=t+14 by omega,show t+16 - 7=t+9 by omega,show t+16 - 15=t+1 by omega,show t+16 - 16=t by omega]
theorem yFb (f:Nat->B3) (h:¬ n<16):Sx f n=s1b (Sx f (n - 2))+Sx f (n - 7)+s0b (Sx f (n - 15))+Sx f (n - 16):=by rw [Sx,if_neg h]
theorem zZr (f:Nat->B3) (h:t<16):Sx f t=f t:=by rw [Sx,if_pos h]
theorem yE9 (a:B3):s1 (io a)=io (s1b a):=by
 unfold s1 s1b;rw [show (17:Int)=((17:Nat):Int) from rfl,show (19:Int)=((19:Nat):Int) from rfl,show (10:Int)=((10:Nat):Int) from rfl,zFq _ _ (by decide),zFq _ _ (by decide),zNv _ _ (by decide),zJ8,zJ8]
theorem yE8 (a:B3):s0 (io a)=io (s0b a):=by
 unfold s0 s0b;rw [show (7:Int)=((7:Nat):Int) from rfl,show (18:Int)=((18:Nat):Int) from rfl,show (3:Int)=((3:Nat):Int) from rfl,zFq _ _ (by decide),zFq _ _ (by decide),zNv _ _ (by decide),zJ8,zJ8]
theorem zRg (b:By):∀ t,t<=64->∀ i,i<t->(zB9 b t).getD i 0=io (Sx (wB b) i)
 | 0,_,i,h=>by omega
 | t+1,ht,i,h=>by
  have ih:=zRg b t (by omega);have hl:=zD1 b t;unfold zB9;rw [List.getD_eq_getElem?_getD,List.getElem?_set];by_cases e:t=i
  ·subst e;rw [if_pos rfl,if_pos (by omega)];simp only [Option.getD_some];unfold wv;by_cases h16:t<16
   ·rw [if_pos h16,yGc,zZr _ h16]
   ·rw [if_neg h16,ih _ (by omega),ih _ (by omega),ih _ (by omega),ih _ (by omega),yE9,yE8,zGp,zGp,zGp,yFb (n:=t) _ h16]
  ·rw [if_neg e,<- List.getD_eq_getElem?_getD];exact ih i (by omega)
theorem yFs:∀ n:Fin 64,K2.getD n.1 0=io (kB n.1):=by decide +kernel
theorem zT2 (b:By) (s:A8 B3):∀ n,n<=64->iC (zB9 b 64) (ioA s) n=ioA (rsN (Sx (wB b)) s n)
 | 0,_=>rfl
 | n+1,h=>by
  unfold iC rsN;rw [zT2 b s n (by omega),yFs ⟨n,by omega⟩,zRg b 64 (Qj _) n (by omega),yAz]
def aL (h s:A8 B3):A8 B3:=⟨h.a0+s.a0,h.a1+s.a1,h.a2+s.a2,h.a3+s.a3,h.a4+s.a4,h.a5+s.a5,h.a6+s.a6,h.a7+s.a7⟩
theorem zSf (b:By) (s:A8 B3):zDi (ioA s) b=ioA (aL s (rsN (Sx (wB b)) s 64)):=by
 unfold zDi;rw [zT2 b s 64 (Qj _)];unfold zV8 aL ioA;simp only [zGp]
def Wn (x:By) (m:Nat):Nat:=Nat.lor (Nat.lor (Nat.lor (W1 (x.getD m 0).toNat 24) (W1 (x.getD (m+1) 0).toNat 16)) (W1 (x.getD (m+2) 0).toNat 8)) (x.getD (m+3) 0).toNat
theorem nH {R:Type} {k:Nat->By->R} {d:R} (h:m+4<=x.length):rd4 (x.drop m) k d=k (Wn x m) (x.drop (m+4)):=by
 rw [Q4 (show m<x.length by omega),Q4 (show m+1<x.length by omega),Q4 (show m+1+1<x.length by omega),Q4 (show m+1+1+1<x.length by omega)];have g:∀ j (hj:j<x.length),x.getD j 0=x[j]:=λj hj=>by simp [hj]
 unfold rd4 Wn;simp only [zK2];rw [g m (by omega),g (m+1) (by omega),g (m+2) (by omega),g (m+3) (by omega)]
theorem zTj (h:a<256) (hn:n<=24):a <<< n<4294967296:=by
 rw [W6];have:2 ^ n<=2 ^ 24:=Nat.pow_le_pow_right (by decide) hn
 calc a*2 ^ n<=255*2 ^ 24:=Nat.mul_le_mul (by omega) this
  _<4294967296:=by decide
theorem yGo (x:By) (n t:Nat) (ht:t<16) (hn:n+64<=x.length):Wn x (n+4*t)=(wB (pL x n) t).toNat:=by
 have g:∀ j,j<64->(pL x n).getD j 0=x.getD (n+j) 0:=λj hj=>by
  unfold pL;rw [List.getD_eq_getElem?_getD,List.getElem?_take,if_pos hj,List.getElem?_drop,<- List.getD_eq_getElem?_getD]
 have y:∀ j,(yB (pL x n) j).toNat=((pL x n).getD j 0).toNat:=λj=>by
  unfold yB;rw [Q7];have:=((pL x n).getD j 0).toNat_lt;omega
 have z:∀ j,((pL x n).getD j 0).toNat<256:=λj=>((pL x n).getD j 0).toNat_lt;unfold Wn wB;rw [Qm,Qm,Qm,Qc,Qc,Qc,y,y,y,y,
  Qb (zTj (z _) (by decide)),Qb (zTj (z _) (by decide)),Qb (zTj (z _) (by decide)),g _ (by omega),g _ (by omega),g _ (by omega),g _ (by omega)]
 rfl
theorem zYk {R:Type} {k:Nat->Nat->Nat->Nat->Nat->Nat->Nat->Nat->Nat->Nat->Nat->Nat->Nat->Nat->Nat->Nat ->  By->R} {d:R} (h:m+64<=x.length):zU3 (x.drop m) k d=k (Wn x m) (Wn x (m+4)) (Wn x (m+8)) (Wn x (m+12)) (Wn x (m+16)) (Wn x (m+20)) (Wn x (m+24)) (Wn x (m+28)) (Wn x (m+32)) (Wn x (m+36)) (Wn x (m+40)) (Wn x (m+44)) (Wn x (m+48)) (Wn x (m+52)) (Wn x (m+56)) (Wn x (m+60)) (x.drop (m+64)):=by
 unfold zU3;rw [nH (by omega),nH (by omega),nH (by omega),nH (by omega),nH (by omega),nH (by omega),nH (by omega),nH (by omega),nH (by omega),nH (by omega),nH (by omega),nH (by omega),nH (by omega),nH (by omega),nH (by omega),nH (by omega)]
theorem u8N (a:B3) (n:Nat) (h:n<=32):Ql (Qr (Qa a.toNat n) 256)=u8 (wK .u32 (io a) (n:Int)):=by
 rw [zNv a n h];unfold u8 io;rw [Qg];congr 1
theorem yCz (s:A8 B3):zZ6 s.a0.toNat s.a1.toNat s.a2.toNat s.a3.toNat s.a4.toNat s.a5.toNat s.a6.toNat s.a7.toNat=(a8 (ioA s)).flatMap be4:=by
 have e24:∀ a:B3,Ql (Qr (Qa a.toNat 24) 256)=u8 (wK .u32 (io a) 24):=λa=>u8N a 24 (by decide);have e16:∀ a:B3,Ql (Qr (Qa a.toNat 16) 256)=u8 (wK .u32 (io a) 16):=λa=>u8N a 16 (by decide);have e8:∀ a:B3,Ql (Qr (Qa a.toNat 8) 256)=u8 (wK .u32 (io a) 8):=λa=>u8N a 8 (by decide);have e0:∀ a:B3,Ql (Qr (Qa a.toNat 0) 256)=u8 (io a):=λa=>by
  rw [u8N a 0 (by decide),zNv a 0 (by decide),BitVec.ushiftRight_zero]
 unfold zZ6;simp only [zK2,e24,e16,e8,e0];rfl
theorem zYb {R:Type} (fin:Nat->Nat->Nat->Nat->Nat->Nat->Nat->Nat->R) (S:Nat->B3) (hS:∀ t,S (t+16)=s1b (S (t+14))+S (t+9)+s0b (S (t+1))+S t) (s0:A8 B3):goK fin ksN (S 0).toNat (S 1).toNat (S 2).toNat (S 3).toNat (S 4).toNat (S 5).toNat (S 6).toNat (S 7).toNat (S 8).toNat (S 9).toNat (S 10).toNat (S 11).toNat (S 12).toNat (S 13).toNat (S 14).toNat (S 15).toNat s0.a0.toNat s0.a1.toNat s0.a2.toNat s0.a3.toNat s0.a4.toNat s0.a5.toNat s0.a6.toNat s0.a7.toNat=fin (rsN S s0 64).a0.toNat (rsN S s0 64).a1.toNat (rsN S s0 64).a2.toNat (rsN S s0 64).a3.toNat (rsN S s0 64).a4.toNat (rsN S s0 64).a5.toNat (rsN S s0 64).a6.toNat (rsN S s0 64).a7.toNat:=by
 have h:=zW1 fin S hS s0 64 0 rfl;rw [show rsN S s0 0=s0 from rfl,List.drop_zero] at h;simp only [Nat.zero_add] at h;exact h
theorem zVo (n:Nat) (l:By) (a b c d e f g h:Nat):zP1 (n+1) l a b c d e f g h=zU3 l (λw0 w1 w2 w3 w4 w5 w6 w7 w8 w9 w10 w11 w12 w13 w14 w15 r=>goK (λa' b' c' d' e' f' g' h'=>zP1 n r ((a+a') % 4294967296) ((b+b') % 4294967296) ((c+c') % 4294967296) ((d+d') % 4294967296) ((e+e') % 4294967296) ((f+f') % 4294967296) ((g+g') % 4294967296) ((h+h') % 4294967296)) ksN w0 w1 w2 w3 w4 w5 w6 w7 w8 w9 w10 w11 w12 w13 w14 w15 a b c d e f g h) []:=by
 show zU3 l _ []=_;refine congrArg (λk=>zU3 l k []) ?_;funext w0 w1 w2 w3 w4 w5 w6 w7 w8 w9 w10 w11 w12 w13 w14 w15 r;refine congrArg (λk=>goK k ksN w0 w1 w2 w3 w4 w5 w6 w7 w8 w9 w10 w11 w12 w13 w14 w15 a b c d e f g h) ?_;funext a' b' c' d' e' f' g' h';simp only [zK2];rfl
theorem yAp (s T:A8 B3) (n:Nat) (l:By):zP1 n l ((s.a0.toNat+T.a0.toNat) % 4294967296) ((s.a1.toNat+T.a1.toNat) % 4294967296) ((s.a2.toNat+T.a2.toNat) % 4294967296) ((s.a3.toNat+T.a3.toNat) % 4294967296) ((s.a4.toNat+T.a4.toNat) % 4294967296) ((s.a5.toNat+T.a5.toNat) % 4294967296) ((s.a6.toNat+T.a6.toNat) % 4294967296) ((s.a7.toNat+T.a7.toNat) % 4294967296)=zP1 n l (aL s T).a0.toNat (aL s T).a1.toNat (aL s T).a2.toNat (aL s T).a3.toNat (aL s T).a4.toNat (aL s T).a5.toNat (aL s T).a6.toNat (aL s T).a7.toNat:=by
 unfold aL;simp only [Qh]
theorem zUr (x:By) (m n:Nat) (s:A8 B3) (h:m+64<=x.length):zP1 (n+1) (x.drop m) s.a0.toNat s.a1.toNat s.a2.toNat s.a3.toNat s.a4.toNat s.a5.toNat s.a6.toNat s.a7.toNat=zP1 n (x.drop (m+64)) (aL s (rsN (Sx (wB (pL x m))) s 64)).a0.toNat (aL s (rsN (Sx (wB (pL x m))) s 64)).a1.toNat (aL s (rsN (Sx (wB (pL x m))) s 64)).a2.toNat (aL s (rsN (Sx (wB (pL x m))) s 64)).a3.toNat (aL s (rsN (Sx (wB (pL x m))) s 64)).a4.toNat (aL s (rsN (Sx (wB (pL x m))) s 64)).a5.toNat (aL s (rsN (Sx (wB (pL x m))) s 64)).a6.toNat (aL s (rsN (Sx (wB (pL x m))) s 64)).a7.toNat:=by
 rw [zVo,zYk h];have hw:∀ t,t<16->Wn x (m+4*t)=(Sx (wB (pL x m)) t).toNat:=λt ht=>by rw [yGo x _ t ht h,zZr _ ht]
 have hw0:Wn x m=_:=hw 0 (by decide);have hw1:Wn x (m+4)=_:=hw 1 (by decide);have hw2:Wn x (m+8)=_:=hw 2 (by decide);have hw3:Wn x (m+12)=_:=hw 3 (by decide);have hw4:Wn x (m+16)=_:=hw 4 (by decide);have hw5:Wn x (m+20)=_:=hw 5 (by decide);have hw6:Wn x (m+24)=_:=hw 6 (by decide);have hw7:Wn x (m+28)=_:=hw 7 (by decide);have hw8:Wn x (m+32)=_:=hw 8 (by decide);have hw9:Wn x (m+36)=_:=hw 9 (by decide);have hw10:Wn x (m+40)=_:=hw 10 (by decide);have hw11:Wn x (m+44)=_:=hw 11 (by decide);have hw12:Wn x (m+48)=_:=hw 12 (by decide);have hw13:Wn x (m+52)=_:=hw 13 (by decide);have hw14:Wn x (m+56)=_:=hw 14 (by decide);have hw15:Wn x (m+60)=_:=hw 15 (by decide);rw [hw0,hw1,hw2,hw3,hw4,hw5,hw6,hw7,hw8,hw9,hw10,hw11,hw12,hw13,hw14,hw15,zYb _ (Sx (wB (pL x m))) (yCy _) s];exact yAp s _ n _
theorem zYh (x:By) (n:Nat):∀ i (s:A8 B3),x.length=64*(i+n)->hsh x i=ioA s->zP1 n (x.drop (64*i)) s.a0.toNat s.a1.toNat s.a2.toNat s.a3.toNat s.a4.toNat s.a5.toNat s.a6.toNat s.a7.toNat=(a8 (hsh x (i+n))).flatMap be4:=by
 induction n with
 | zero=>
  intro i s hl hs;refine (yCz s).trans ?_;rw [Nat.add_zero,hs]
 | succ n ih=>
  intro i s hl hs;have hle:64*i+64<=x.length:=by omega
  refine (zUr x (64*i) n s hle).trans ?_;have hs2:hsh x (i+1)=ioA (aL s (rsN (Sx (wB (pL x (64*i)))) s 64)):=by
   show zDi (hsh x i) _=_;rw [hs,zSf]
  have ih:=ih (i+1) _ (by omega) hs2;rw [show i+(n+1)=i+1+n by omega,<- ih,show 64*(i+1)=64*i+64 by omega]
theorem zMp (b:By):zS0 b=sha b:=by
 have hm:=zSj b;have h:=zYh (zO3 b) ((zO3 b).length / 64) 0 ⟨1779033703,3144134277,1013904242,2773480762,1359893119,2600822924,528734635,1541459225⟩ (by omega) rfl;rw [Nat.zero_add] at h;exact h
set_option maxRecDepth 100000
def hd4 (n:Nat):By:=[u8 (wK .i64 (n:Int) 24),u8 (wK .i64 (n:Int) 16),u8 (wK .i64 (n:Int) 8),u8 (n:Int)]
theorem yGq (n:Nat) (h:n<2 ^ 32):[u8 (wK .u32 (Q0.wrap (n:Int)) 24),u8 (wK .u32 (Q0.wrap (n:Int)) 16),u8 (wK .u32 (Q0.wrap (n:Int)) 8),u8 (Q0.wrap (n:Int))]=hd4 n:=by
 rw [yEt (by omega) (by omega)];rfl
def zVx (fs:List By):By:=fs.flatMap λf=>hd4 f.length++f
def frm (tag:Int) (fs:List By):By:=u8 tag :: zVx fs
def tot (fs:List By):Nat:=(fs.map λf=>4+f.length).sum
theorem zW6 (fs:List By):(zVx fs).length=tot fs:=by
 induction fs with
 | nil=>rfl
 | cons f r ih=>simp only [zVx,tot,List.flatMap_cons,Qn,Qo,Qu] at ih ⊢;rw [ih];simp [hd4]
theorem zUb (tag:Int) (fs:List By):(frm tag fs).length=1+tot fs:=by simp [frm,zW6];omega
theorem zV5 (tag:Int) (fs:List By) (i:Nat) (hi:i<fs.length):frm tag (fs.take (i+1))=(frm tag (fs.take i)++hd4 (fs[i]).length)++fs[i]:=by
 unfold frm zVx;rw [Qe,W2];simp [hi]
theorem zWs (fs:List By):∀ i,tot (fs.take i)<=tot fs:=by
 induction fs with
 | nil=>intro i;simp
 | cons f r ih=>
  intro i;cases i with
  | zero=>simp [tot]
  | succ j=>have:=ih j;simp only [tot,List.take_succ_cons,Qo,Qu] at this ⊢;omega
theorem zY8 (fs:List By):fs.length<=tot fs:=by
 induction fs with
 | nil=>simp
 | cons f r ih=>simp only [tot,List.length_cons,Qo,Qu] at ih ⊢;omega
theorem zYg (fs:List By) (i:Nat) (hi:i<fs.length):tot (fs.take i)+4+(fs[i]).length<=tot fs:=by
 have h:=zWs fs (i+1);have e:tot (fs.take (i+1))=tot (fs.take i)+(4+(fs[i]).length):=by
  unfold tot;rw [Qe,Wb,List.sum_append];simp only [hi,List.getElem?_eq_getElem,Option.toList_some,Qo,List.map_nil,Qu,List.sum_nil];omega
 omega
theorem zVd (tag:Int) (fs:List By) (h:tot fs<2 ^ 32):oM tag fs=some (frm tag fs):=by
 have h1:=zY8 fs;have:zT (nX fs) FU ([u8 tag],0)=some (frm tag fs):=by
  refine vF fs.length (λi=>(frm tag (fs.take i),(i:Int))) (by simp [frm,zVx]) (λi hi=>?_) ?_ (sT (by omega))
  ·have h2:=zYg fs i hi;have h3:=zUb tag (fs.take i);unfold nX;refine ct (dlt hi) ?_;refine bd (xO hi) ?_;rw [yGq _ (by omega)];refine bd (xZ (by simp [hd4];omega)) ?_;refine bd (xZ (by simp [hd4];omega)) ?_;rw [zV5 tag fs i hi,uU (show i<2 ^ 40 by omega)]
  ·unfold nX;refine cf (dge (Qj _)) ?_;simp
 unfold oM;exact bd this rfl
theorem iQ (a:Int) (b:By):uF a b=jY a b:=by
 unfold uF;cases h:(a==1&&Qx b.length 1048576) with
 | false=>rfl
 | true=>
  simp only [Qq,beq_iff_eq] at h;have hl:=Q8 h.2;rw [cond_true,h.1,zQm b (by omega),zMp]
theorem zVu (b:By) (h:b.length<2 ^ 40):uF 1 b=some (sha b):=(iQ 1 b).trans (zQm b h)
def hs (tag:Int) (fs:List By):By:=sha (frm tag fs)
theorem zVq (tag:Int) (fs:List By) (h:tot fs<2 ^ 32):mW tag fs=some (hs tag fs):=by
 unfold mW;refine bd (zVd tag fs h) ?_;exact bd (zVu _ (by rw [zUb];omega)) rfl
theorem zJh (tag:Int) (fs:List By):wZ tag fs=mW tag fs:=by
 unfold wZ;cases h:Qx (fs.map λf=>4+f.length).sum 1000000 with
 | false=>rfl
 | true=>
  have hl:tot fs<=1000000:=Q8 h;rw [cond_true,zVq tag fs (by omega),zMp];rfl
def beN (n:Int) (size k:Nat):By:=(W9 k).map λ(j:Nat)=>u8 (wK .u64 (Q9.wrap n) (8*((size:Int) - 1 - (j:Int))))
theorem tG (n:Int) (size k:Nat):(beN n size k).length=k:=by simp [beN]
theorem zOg (n:Int) (size k:Nat):beN n size (k+1)=beN n size k++[u8 (wK .u64 (Q9.wrap n) (8*((size:Int) - 1 - (k:Int))))]:=by simp [beN,Wa]
def vQ (b:By) (size:Nat) (n:Int):By:=b++beN n size size
theorem uH (b:By) (size:Nat) (n:Int):(vQ b size n).length=b.length+size:=by simp [vQ,tG]
theorem zCs (b:By) (size:Nat) (n:Int) (h1:1<=size) (h8:size<=8) (hb:b.length<2 ^ 40):qK b (size:Int) n=some (vQ b size n):=by
 have:zT (gC n) FU (b,(size:Int) - 1)=some (vQ b size n):=by
  refine vF size (λi=>(b++beN n size i,(size:Int) - 1 - (i:Int))) (by simp [beN]) (λi hi=>?_) ?_ (sT (by omega))
  ·unfold gC;refine ct (by simp;omega) ?_;refine ltk ?_;rw [zG1 (n:=(size:Int) - 1 - (i:Int)) (by omega) (by omega),zG1 (n:=8*((size:Int) - 1 - (i:Int))) (by omega) (by omega)];refine bd (xZ (by simp [tG];omega)) ?_;rw [xU (by omega) (by omega),Qd,<- zOg,show (size:Int) - 1 - (i:Int) - 1=(size:Int) - 1 - ((i+1:Nat):Int) by omega]
  ·unfold gC;refine cf (by simp;omega) rfl
 unfold qK;refine bd (a:=b) (by rw [xZ (by simp;omega)];simp) ?_;refine bd (a:=false) (cf (by simp;omega) (congrArg some (by simp;omega))) ?_;rw [xU (by omega) (by omega)];exact bd this rfl
theorem zZp (k:IntKind) (n j:Nat) (h:j<=k.bits):wK k (n:Int) (j:Int)=((n / 2 ^ j:Nat):Int):=by
 unfold wK;rw [Qv,Qz h,Qt _ (by have:(0:Int)<2 ^ j:=Int.pow_pos (by decide);omega)];rw [Int.natCast_ediv];simp
theorem zS9 (n:Int) (s:Nat) (h:s<=8):∀ k,k<=s->beK (Q9.wrap n).toNat k=(W9 k).map λ(j:Nat)=>u8 (wK .u64 (Q9.wrap n) (8*((k:Int) - 1 - (j:Int))))
 | 0,_=>rfl
 | k+1,hk=>by
  have hw:0<=Q9.wrap n:=by rw [Qy];omega
  obtain ⟨m,hm⟩:=Q6 hw;have ih:=zS9 n s h k (by omega);unfold beK;rw [zK2,ih,List.range_succ_eq_map,Qo,List.map_map];rw [hm];have e:(8*(((k+1:Nat):Int) - 1 - ((0:Nat):Int)))=((8*k:Nat):Int):=by omega
  rw [e,zZp _ _ _ (by show 8*k<=64;omega)];congr 1
  ·unfold u8;congr 1;show Qr (Qa m (Nat.mul 8 k)) 256=_;have:Qa m (Nat.mul 8 k)=m / 2 ^ (8*k):=Qw m (8*k);rw [this];show m / 2 ^ (8*k) % 256=(((m / 2 ^ (8*k):Nat):Int) % 256).toNat;omega
  ·refine List.map_congr_left λj _=>?_;show u8 _=u8 _;rw [show (8*(((k+1:Nat):Int) - 1 - ((j+1:Nat):Int)))=8*((k:Int) - 1 - (j:Int)) by omega]
theorem zE3 (b:By) (size:Nat) (n:Int) (h1:1<=size) (h8:size<=8) (hb:b.length<2 ^ 40):kQ b (size:Int) n=some (vQ b size n):=by
 have:zT (jE n) FU (b,(size:Int) - 1)=some (vQ b size n):=by
  refine vF size (λi=>(b++beN n size i,(size:Int) - 1 - (i:Int))) (by simp [beN]) (λi hi=>?_) ?_ (sT (by omega))
  ·unfold jE;refine ct (by simp;omega) ?_;refine ltk ?_;rw [xU (n:=8*((size:Int) - 1 - (i:Int))) (by omega) (by omega),zG1 (n:=8*((size:Int) - 1 - (i:Int))) (by omega) (by omega)];refine bd (xZ (by simp [tG];omega)) ?_;rw [xU (by omega) (by omega),Qd,<- zOg,show (size:Int) - 1 - (i:Int) - 1=(size:Int) - 1 - ((i+1:Nat):Int) by omega]
  ·unfold jE;refine cf (by simp;omega) rfl
 unfold kQ;refine bd (a:=b) (by rw [xZ (by simp;omega)];simp) ?_;refine bd (a:=false) (cf (by simp;omega) (congrArg some (by simp;omega))) ?_;rw [xU (by omega) (by omega)];exact bd this rfl
theorem zMu (b:By) (size:Nat) (n:Int) (h1:1<=size) (h8:size<=8) (hb:b.length<2 ^ 40):mL b (size:Int) n=some (vQ b size n):=by
 have:zT (lE n) FU (b,(size:Int) - 1)=some (vQ b size n):=by
  refine vF size (λi=>(b++beN n size i,(size:Int) - 1 - (i:Int))) (by simp [beN]) (λi hi=>?_) ?_ (sT (by omega))
  ·unfold lE;refine ct (by simp;omega) ?_;refine ltk ?_;rw [xU (n:=8*((size:Int) - 1 - (i:Int))) (by omega) (by omega),zG1 (n:=8*((size:Int) - 1 - (i:Int))) (by omega) (by omega)];refine bd (xZ (by simp [tG];omega)) ?_;rw [xU (by omega) (by omega),Qd,<- zOg,show (size:Int) - 1 - (i:Int) - 1=(size:Int) - 1 - ((i+1:Nat):Int) by omega]
  ·unfold lE;refine cf (by simp;omega) rfl
 unfold mL;refine bd (a:=b) (by rw [xZ (by simp;omega)];simp) ?_;refine bd (a:=false) (cf (by simp;omega) (congrArg some (by simp;omega))) ?_;rw [xU (by omega) (by omega)];exact bd this rfl
theorem zCr (b:By) (size n:Int):yW b size n=kQ b size n:=by
 unfold yW;cases h:(decide (1<=size)&&decide (size<=8)) with
 | false=>rfl
 | true=>
  simp only [Qq,decide_eq_true_eq] at h;obtain ⟨m,rfl⟩:=Q6 (show 0<=size by omega);rw [cond_true,zZo];cases hb:Qx b.length 1000000 with
  | false=>rfl
  | true=>
   have hl:=Q8 hb;rw [cond_true,zK2,zE3 b m n (by omega) (by omega) (by omega),Qv,zS9 n m (by omega) m (Qj _)];rfl
theorem oS (b:By) (size:Nat) (n:Int) (h1:1<=size) (h8:size<=8) (hb:b.length<2 ^ 40):yW b (size:Int) n=some (vQ b size n):=(zCr b _ n).trans (zE3 b size n h1 h8 hb)
theorem wU (b:By) (k:Nat) (n:Int) (h1:1<=k) (h8:k<=8) (hb:b.length<2 ^ 30):yW b (k:Int) n=some (b++beN n k k):=oS b k n h1 h8 (by omega)
theorem zLd (b:By) (size n:Int):kN b size n=mL b size n:=by
 unfold kN;cases h:(decide (1<=size)&&decide (size<=8)) with
 | false=>rfl
 | true=>
  simp only [Qq,decide_eq_true_eq] at h;obtain ⟨m,rfl⟩:=Q6 (show 0<=size by omega);rw [cond_true,zZo];cases hb:Qx b.length 1000000 with
  | false=>rfl
  | true=>
   have hl:=Q8 hb;rw [cond_true,zK2,zMu b m n (by omega) (by omega) (by omega),Qv,zS9 n m (by omega) m (Qj _)];rfl
def iU (b x:By):By:=vQ b 2 ((x.take 65535).length:Int)++x.take 65535
theorem oU (b x:By):(iU b x).length<=b.length+65537:=by simp [iU,uH];omega
theorem jI (b x:By) (hb:b.length<2 ^ 39):rA b x=some (iU b x):=by
 unfold rA;refine bd (a:=x.take 65535) ?_ ?_
 ·by_cases h:65535<x.length
  ·refine ct (by simp;omega) ?_;exact bd (a:=x.take 65535) (by rw [show (0:Int)=((0:Nat):Int) from rfl,show (65535:Int)=((65535:Nat):Int) from rfl,kT (by omega) (by omega)];simp) rfl
  ·refine cf (by simp;omega) ?_;rw [Q3 (by omega)]
 ·refine bd (zCs b 2 _ (by omega) (by omega) (by omega)) ?_;refine bd (xZ (by rw [uH];simp;omega)) ?_;rfl
theorem sO (b x:By) (hb:b.length<2 ^ 39):xJ b x=some (iU b x):=by
 unfold xJ;refine bd (a:=x.take 65535) ?_ ?_
 ·by_cases h:65535<x.length
  ·rw [if_pos (by omega),show (0:Int)=((0:Nat):Int) from rfl,show (65535:Int)=((65535:Nat):Int) from rfl,kT (by omega) (by omega)];simp
  ·rw [if_neg (by omega),show (0:Int)=((0:Nat):Int) from rfl,kT (by omega) (by omega)];simp;rw [Q3 (by omega)]
 ·refine bd (oS b 2 _ (by omega) (by omega) (by omega)) ?_;refine bd (xZ (by rw [uH];simp;omega)) ?_;rfl
theorem zCe (a b:By) (ha:a.length<2 ^ 40):oZ a b=some (a==b):=by
 unfold oZ;by_cases h:a.length=b.length
 ·refine cf (by simp;omega) ?_;have:∃ r,zT (lK a b) FU 0=some r/\(match r with | .inl r=>r=false/\a≠b | .inr _=>a=b):=by
   refine zO9 (λs=>∃ k:Nat,s=(k:Int)/\k<=a.length/\a.take k=b.take k) (λs=>a.length - s.toNat) _ (λs hs=>?_) FU 0 ⟨0,rfl,by omega,by simp⟩ (sT (by omega));obtain ⟨k,rfl,hk,he⟩:=hs;by_cases hk2:k<a.length
   ·by_cases hv:a[k]=b[k]
    ·refine .inl ⟨((k+1:Nat):Int),?_,⟨k+1,rfl,by omega,?_⟩,by simp;omega⟩
     ·unfold lK;refine ct (dlt hk2) ?_;refine bd (xO hk2) ?_;refine bd (xO (h▸hk2)) ?_;refine cf (by rw [hv];simp) ?_;rw [uU (by omega)]
     ·rw [Qe,Qe,he];simp [hk2,hv,h▸hk2]
    ·refine .inr ⟨.inl false,?_,rfl,λe=>hv (by subst e;rfl)⟩;unfold lK;refine ct (dlt hk2) ?_;refine bd (xO hk2) ?_;refine bd (xO (h▸hk2)) ?_;refine ct ?_ rfl;simp only [bne_iff_ne,ne_eq];intro e;exact hv (UInt8.toNat_inj.mp (by omega))
   ·refine .inr ⟨.inr (),?_,?_⟩
    ·unfold lK;exact cf (dge (by omega)) rfl
    ·have e1:a.take k=a:=Q3 (by omega);have e2:b.take k=b:=Q3 (by omega);rw [e1,e2] at he;exact he
  obtain ⟨r,h1,h2⟩:=this;refine bd h1 ?_;cases r with
  | inl r=>obtain ⟨rfl,h3⟩:=h2;simp [h3]
  | inr u=>simp [h2]
 ·refine ct (by simp;omega) ?_;have:a≠b:=λe=>h (by rw [e]);simp [this]
set_option maxRecDepth 100000
structure RS where
 b:By
 at':Nat
 e:Int
def RS.W (r:RS):zO:=⟨r.b,(r.at':Int),r.e⟩
def RS.Ok (r:RS):Prop:=r.at'<=r.b.length/\r.b.length<2 ^ 40
def RS.err (r:RS) (e:Int):RS:=⟨r.b,r.at',e⟩
def RS.to (r:RS) (n:Nat):RS:=⟨r.b,r.at'+n,r.e⟩
def RS.left (r:RS):Nat:=r.b.length - r.at'
def RS.get (r:RS) (n:Nat):By:=(r.b.drop r.at').take n
theorem RS.get_len (r:RS) (n:Nat) (h:n<=r.left):(r.get n).length=n:=by simp [RS.get,RS.left] at *;omega
def beV (l:By):Nat->Int
 | 0=>0
 | k+1=>ior .u64 (lT .u64 (beV l k) 8) (Q9.wrap ((l.getD k 0).toNat:Int))
def wI (r:RS) (n:Nat):Int×RS:=
 if r.e≠0 then (0,r) else if r.left<n then (0,r.err 2) else if 9223372036854775808<=beV (r.get n) n then (0,r.err 4) else (Q1.wrap (beV (r.get n) n),r.to n)
def v2 (r:RS):Nat:=(r.b.getD r.at' 0).toNat*256+(r.b.getD (r.at'+1) 0).toNat
def xT (r:RS) (most:Nat):By×RS:=
 if r.e≠0 then ([],r) else if r.left<2 then ([],r.err 2) else if most<v2 r then ([],r.err 4) else if r.left<2+v2 r then ([],r.err 2) else ((r.b.drop (r.at'+2)).take (v2 r),r.to (2+v2 r))
def iY (r:RS):Int:=if r.e=0/\0<r.left then 3 else r.e
theorem aK (r:RS) (n:Nat) (h:r.Ok):(wI r n).2.Ok:=by
 unfold wI;split
 ·exact h
 split
 ·exact h
 split
 ·exact h
 ·obtain ⟨h1,h2⟩:=h;exact ⟨by simp only [RS.to,RS.left] at *;omega,h2⟩
theorem zJc (r:RS) (n:Nat) (h:r.Ok):(xT r n).2.Ok:=by
 unfold xT;split
 ·exact h
 split
 ·exact h
 split
 ·exact h
 split
 ·exact h
 ·obtain ⟨h1,h2⟩:=h;exact ⟨by simp only [RS.to,RS.left] at *;omega,h2⟩
theorem zMj (r:RS) (h:r.Ok):Q1.wrap ((r.b.length:Int) - (r.at':Int))=(r.left:Int):=by
 obtain ⟨h1,h2⟩:=h;rw [xU (by omega) (by omega)];simp only [RS.left];omega
theorem zR6 (r:zO) (a n:Nat) (h1:a<=r.b_.length) (h2:r.b_.length<2 ^ 40) (hn:r.b_.length - a<n):xQ r (a:Int) (n:Int)=some ([],2,r):=by
 unfold xQ;refine ct ?_ rfl;rw [xU (by omega) (by omega)];simp;omega
theorem zPr (r:zO) (a n:Nat) (h2:r.b_.length<2 ^ 40) (hn:a+n<=r.b_.length):xQ r (a:Int) (n:Int)=some ((r.b_.drop a).take n,0,r):=by
 unfold xQ;refine cf ?_ ?_
 ·rw [xU (by omega) (by omega)];simp;omega
 ·refine bd (a:=(r.b_.drop a).take n) ?_ rfl;rw [xU (by omega) (by omega),show (a:Int)+(n:Int)=((a+n:Nat):Int) by omega,kT (by omega) (by omega),Nat.add_sub_cancel_left]
theorem zTw (r:RS) (n:Nat) (h:r.Ok) (hn:r.left<n):xQ r.W (r.at':Int) (n:Int)=some ([],2,r.W):=zR6 r.W r.at' n h.1 h.2 hn
theorem zRh (r:RS) (n:Nat) (h:r.Ok) (hn:n<=r.left):xQ r.W (r.at':Int) (n:Int)=some (r.get n,0,r.W):=
 zPr r.W r.at' n h.2 (by have:=h.1;simp only [RS.left] at hn;show r.at'+n<=r.b.length;omega)
theorem b0 (h:e=0):(e != 0)=false:=by subst h;rfl
theorem b1 (h:e≠0):(e != 0)=true:=by simp [h]
theorem c0 (h:e=0):(e==0)=true:=by subst h;rfl
theorem c1 (h:e≠0):(e==0)=false:=by simp [h]
theorem yEs (l:By) (hl:l.length<2 ^ 40):zT (sV l) FU (0,0)=some (beV l l.length):=by
 refine vF l.length (λi=>(beV l i,(i:Int))) rfl (λi hi=>?_) ?_ (sT (by omega))
 ·unfold sV;refine ct (dlt hi) ?_;refine bd (xO hi) ?_;refine ltk ?_;rw [uU (show i<2 ^ 40 by omega)];simp [beV,hi]
 ·unfold sV;exact cf (dge (Qj _)) rfl
theorem bD (r:RS) (n:Nat) (h:r.Ok) (h1:1<=n) (h8:n<=8):yG r.W (n:Int)=some ((wI r n).1,(wI r n).2.W):=by
 unfold yG;by_cases he:r.e=0
 ·refine cf (b0 he) ?_;refine bd (a:=false) (cf (by simp;omega) (congrArg some (by simp;omega))) ?_;refine cf rfl ?_;by_cases hn:r.left<n
  ·refine bd (zTw r n h hn) ?_;refine ct rfl ?_;rw [show wI r n=(0,r.err 2) by simp [wI,he,hn]];rfl
  ·refine bd (zRh r n h (by omega)) ?_;refine cf rfl ?_;have hl:=RS.get_len r n (by omega);refine bd (a:=beV (r.get n) n) ((yEs _ (by omega)).trans (by rw [hl])) ?_;by_cases hv:9223372036854775808<=beV (r.get n) n
   ·refine ct (by simp;omega) ?_;rw [show wI r n=(0,r.err 4) by simp [wI,he,hn,hv]];rfl
   ·refine cf (by simp;omega) ?_;obtain ⟨h1,h2⟩:=h;show some (_,(⟨r.b,Q1.wrap ((r.at':Int)+(n:Int)),r.e⟩:zO))=_;have hn':=hn;simp only [RS.left] at hn';rw [xU (n:=(r.at':Int)+(n:Int)) (by omega) (by omega),show (r.at':Int)+(n:Int)=((r.at'+n:Nat):Int) by omega];rw [show wI r n=(Q1.wrap (beV (r.get n) n),r.to n) by simp [wI,he,hn,hv]];rfl
 ·refine ct (b1 he) ?_;rw [show wI r n=(0,r) by simp [wI,he]]
theorem zZu (x y:UInt8):ior .i64 (lT .i64 (Q1.wrap (x.toNat:Int)) 8) (Q1.wrap (y.toNat:Int))=((x.toNat*256+y.toNat:Nat):Int):=by
 have hx:=x.toNat_lt;have hy:=y.toNat_lt;rw [xU (by omega) (by omega),xU (by omega) (by omega)];have e1:lT .i64 (x.toNat:Int) 8=((x.toNat*256:Nat):Int):=by
  show Q1.wrap ((x.toNat:Int)*256)=_;rw [xU (by omega) (by omega)];omega
 rw [e1];unfold ior;have e2:(Q2 Q1.bits ((x.toNat*256:Nat):Int) ||| Q2 Q1.bits (y.toNat:Int)).toNat=x.toNat*256+y.toNat:=by
  show (Q2 64 ((x.toNat*256:Nat):Int) ||| Q2 64 (y.toNat:Int)).toNat=_;rw [Qi,Qi,Qm,Q7,Q7,Qb (by omega),Qb (by omega)];rw [Nat.mul_comm,show (256:Nat)=2 ^ 8 from rfl,<- Nat.two_pow_add_eq_or_of_lt (by omega)]
 rw [e2,xU (by omega) (by omega)]
theorem ig {l:By} (h:i<l.length):idx l (i:Int)=some (l.getD i 0):=by rw [xO h];simp [h]
theorem jC (r:RS) (m:Nat) (h:r.Ok):yO r.W (m:Int)=some ((xT r m).1,(xT r m).2.W):=by
 have hv:v2 r<65536:=by
  have h1:=(r.b.getD r.at' 0).toNat_lt;have h2:=(r.b.getD (r.at'+1) 0).toNat_lt;unfold v2;omega
 unfold yO;by_cases he:r.e=0
 ·refine cf (b0 he) ?_;by_cases hn:r.left<2
  ·refine bd (zTw r 2 h hn) ?_;refine ct rfl ?_;rw [show xT r m=([],r.err 2) by simp [xT,he,hn]];rfl
  ·refine bd (zRh r 2 h (by omega)) ?_;refine cf rfl ?_;have hl:=RS.get_len r 2 (by omega);have hn':=hn;simp only [RS.left] at hn';refine bd (a:=r.b.getD r.at' 0) ?_ ?_
   ·refine (ig (l:=r.get 2) (i:=0) (by omega)).trans ?_;simp [RS.get]
   refine bd (a:=r.b.getD (r.at'+1) 0) ?_ ?_
   ·refine (ig (l:=r.get 2) (i:=1) (by omega)).trans ?_;simp [RS.get]
   refine ltk ?_;rw [zZu];show (bif decide ((m:Int)<(v2 r:Int)) then _ else _)=_;by_cases hm:m<v2 r
   ·refine ct (dlt hm) ?_;rw [show xT r m=([],r.err 4) by simp [xT,he,hn,hm]];rfl
   ·refine cf (dge (by omega)) ?_;obtain ⟨h1,h2⟩:=h;have hw:Q1.wrap ((r.at':Int)+2)=(((r.at'+2:Nat)):Int):=by rw [xU (by omega) (by omega)];omega
    show ((xQ r.W (Q1.wrap ((r.at':Int)+2)) (v2 r:Int)).bind _)=_;rw [hw];by_cases hk:r.left<2+v2 r
    ·refine bd (a:=([],2,r.W)) ?_ ?_
     ·exact zR6 r.W (r.at'+2) (v2 r) (by show r.at'+2<=r.b.length;omega) h2 (by simp only [RS.left] at hk;show r.b.length - (r.at'+2)<v2 r;omega)
     ·refine ct rfl ?_;rw [show xT r m=([],r.err 2) by simp [xT,he,hn,hm,hk]];rfl
    ·have hk':=hk;simp only [RS.left] at hk';refine bd (zPr r.W (r.at'+2) (v2 r) h2 (by show r.at'+2+v2 r<=r.b.length;omega)) ?_;refine cf rfl ?_;refine ltk ?_;refine bd (a:=(r.b.drop (r.at'+2)).take (v2 r)) ?_ ?_
     ·refine (xZ (by simp;omega)).trans ?_;rfl
     ·show some (_,(⟨r.b,Q1.wrap ((r.at':Int)+Q1.wrap (2+(v2 r:Int))),r.e⟩:zO))=_;rw [xU (n:=2+(v2 r:Int)) (by omega) (by omega),xU (by omega) (by omega),show (r.at':Int)+(2+(v2 r:Int))=((r.at'+(2+v2 r):Nat):Int) by omega];rw [show xT r m=((r.b.drop (r.at'+2)).take (v2 r),r.to (2+v2 r)) by simp [xT,he,hn,hm,hk]];rfl
 ·refine ct (b1 he) ?_;rw [show xT r m=([],r) by simp [xT,he]]
theorem dP (r:RS) (h:r.Ok):xN r.W=some (iY r,r.W):=by
 unfold xN;by_cases he:r.e=0
 ·refine bd (a:=(decide (0<(r.left:Int)),r.b,(r.at':Int),r.e)) (ct (c0 he) ?_) ?_
  ·show some (decide (0<Q1.wrap ((r.b.length:Int) - (r.at':Int))),r.b,(r.at':Int),r.e)=_;rw [zMj r h]
  ·by_cases hl:0<r.left
   ·refine ct (by simp;omega) ?_;simp only [iY,he,hl];rw [<- he];rfl
   ·refine cf (by simp;omega) ?_;simp only [iY,he,hl];rw [<- he];simp [RS.W]
 ·refine bd (a:=(false,r.b,(r.at':Int),r.e)) (cf (c1 he) rfl) ?_;refine cf rfl ?_;simp only [iY,he];simp [RS.W]
end Go.Proofs.TT
namespace Go.Sw
open Go
variable {a b:Nat}{i:Int}{j:Nat}{α:Type}{P:α->Prop}{l:List α}{o:Option α}
def Def (o:Option α) (P:α->Prop):Prop:=∃ a,o=some a/\P a
theorem Def.bd {β:Type} {f:α->Option β} {Q:β->Prop} (h:Def o P) (k:∀ a,P a->Def (f a) Q):Def (o.bind f) Q:=by
 obtain ⟨a,rfl,h⟩:=h;exact k a h
theorem Def.s {a:α} {Q:α->Prop} (h:Q a):Def (some a) Q:=⟨a,rfl,h⟩
theorem Def.of {a:α} {Q:α->Prop} (e:o=some a) (h:Q a):Def o Q:=⟨a,e,h⟩
theorem Def.c {b:Bool} {x y:Option α} {Q:α->Prop} (h:b=true->Def x Q) (k:b=false->Def y Q):Def (bif b then x else y) Q:=by
 cases b
 ·exact k rfl
 ·exact h rfl
theorem Def.ck {b:Bool} (h:b=true):Def (Go.Sw.ck b) (λ_=>True):=⟨(),ckT h,trivial⟩
theorem Def.mono {Q:α->Prop} (h:Def o P) (k:∀ a,P a->Q a):Def o Q:=by
 obtain ⟨a,e,h⟩:=h;exact ⟨a,e,k a h⟩
theorem Def.get (d:α) (h:Def o P):o=some (o.getD d)/\P (o.getD d):=by
 obtain ⟨a,rfl,h⟩:=h;exact ⟨rfl,h⟩
theorem Def.loop {X Y:Type} {step:X->Option (X ⊕ Y)} {s:X} {Q:Y->Prop} (I:X->Prop) (m:X->Nat)
  (h:∀ s,I s->Def (step s) (λr=>match r with | .inl s'=>I s'/\m s'<m s | .inr r=>Q r)) (h0:I s) (hm:m s<2 ^ 64):Def (zT step FU s) Q:=by
 refine zO9 I m Q (λs hs=>?_) FU s h0 (sT hm);obtain ⟨r,e,hr⟩:=h s hs;cases r with
 | inl s'=>exact .inl ⟨s',e,hr.1,hr.2⟩
 | inr r=>exact .inr ⟨r,e,hr⟩
theorem Def.app {m:List α} (h:(l.length+m.length)*b<=140737488355328):Def (xB b l m) (λr=>r=l++m):=⟨_,xZ h,rfl⟩
theorem Def.idx (h0:0<=i) (h:i<l.length):Def (Go.Sw.idx l i) (λr=>r∈l):=by
 obtain ⟨n,rfl⟩:=Q6 h0;exact ⟨_,xO (by omega),W8 _⟩
theorem Def.sub {a b:Int} (h0:0<=a) (h1:a<=b) (h2:b<=l.length):Def (Go.Sw.sub l a b) (λr=>r=(l.drop a.toNat).take (b.toNat - a.toNat)):=by
 obtain ⟨n,rfl⟩:=Q6 h0;obtain ⟨m,rfl⟩:=Q6 (by omega:0<=b);exact ⟨_,kT (by omega) (by omega),rfl⟩
theorem Def.ixN {n:Nat} (h0:0<=i) (h:i<n):Def (Go.Sw.ixN n i) (λj=>j=i.toNat/\j<n):=by
 refine ⟨i.toNat,?_,rfl,by omega⟩;simp [Go.Sw.ixN,h0,h]
theorem Def.upd {u:α} (h:j<l.length):Def (qG l j u) (λr=>r=l.set j u):=⟨_,by simp [qG,h],rfl⟩
theorem Def.at (h:j<l.length):Def (l[j]?) (λr=>r∈l):=⟨l[j],by simp [h],W8 _⟩
theorem Def.mkN {n:Int} (h0:0<=n) (h:n<2 ^ 40):Def (mkN 1 n) (λj=>j=n.toNat):=⟨n.toNat,by unfold Go.Sw.mkN;rw [if_pos ⟨h0,by omega⟩],rfl⟩
theorem beqT (h:a=b):Nat.beq a b=true:=by subst h;exact Nat.beq_refl a
theorem zYa (h:a<=b):Qx a b=true:=Nat.ble_eq.mpr h
end Go.Sw
namespace Go.Proofs.TT
open Go Go.Sw
set_option maxRecDepth 100000
set_option maxRecDepth 100000
theorem yBp (x w:UInt8):u8 (tD .u8 (x.toNat:Int) (w.toNat:Int))=Ql (Qk x.toNat w.toNat):=by
 have hx:=x.toNat_lt;have hw:=w.toNat_lt;have e:tD .u8 (x.toNat:Int) (w.toNat:Int)=((Qk x.toNat w.toNat:Nat):Int):=by
  show IntKind.u8.wrap ((Q2 8 (x.toNat:Int) ^^^ Q2 8 (w.toNat:Int)).toNat:Int)=_;rw [W7,Qi,Qi,Q7,Q7,Qb hx,Qb hw,IntKind.wrap_u8];have:x.toNat ^^^ w.toNat<2 ^ 8:=W4 hx hw;show ((x.toNat ^^^ w.toNat:Nat):Int) % 256=((x.toNat ^^^ w.toNat:Nat):Int);omega
 rw [e];unfold u8;congr 1;have:x.toNat ^^^ w.toNat<2 ^ 8:=W4 hx hw;show (((x.toNat ^^^ w.toNat:Nat):Int) % 256).toNat=x.toNat ^^^ w.toNat;omega
theorem zUn (w:UInt8) (c:By) (hc:c.length<=64):fR w c=some (mkK w.toNat c,c):=by
 generalize hX:c++Q5 (64 - c.length) (0:UInt8)=X;have hl:X.length=64:=by rw [<- hX];simp;omega
 have hcp:cpy (Q5 64 (0:UInt8)) c=X:=by
  rw [<- hX];unfold cpy;rw [List.length_replicate,Q3 hc,List.drop_replicate]
 let f:UInt8->UInt8:=λx=>Ql (Qk x.toNat w.toNat);have hm:mkK w.toNat c=X.map f:=by unfold mkK;rw [hX]
 rw [hm];unfold fR;have h64:mkN 1 64=some 64:=rfl;refine bd h64 (bd (a:=()) (by simp [ck]) ?_);show ((zT (kY w 64) FU (0,cpy (Q5 64 (0:UInt8)) c):Option By).bind _)=_;rw [hcp];refine bd (a:=X.map f) (vF 64 (λi=>((i:Int),(X.take i).map f++X.drop i)) (by simp) (λi hi=>?_) ?_ (sT (by decide))) ?_
 ·unfold kY;have hi':i<X.length:=by omega
  have hA:((X.take i).map f).length=i:=by simp;omega
  have hg:((X.take i).map f++X.drop i)[i]? = some X[i]:=by
   rw [List.getElem?_append_right (by omega),hA,Nat.sub_self,List.getElem?_drop,Nat.add_zero,List.getElem?_eq_getElem hi']
  have hu:qG ((X.take i).map f++X.drop i) i (f X[i])=some ((X.take (i+1)).map f++X.drop (i+1)):=by
   unfold qG;rw [if_pos (by rw [Qn,hA,List.length_drop];omega)];congr 1;have e:(X.take (i+1)).map f=(X.take i).map f++[f X[i]]:=by
    rw [Qe,List.getElem?_eq_getElem hi',Wb];rfl
   rw [List.set_append_right _ _ (by omega),hA,Nat.sub_self,Q4 hi',List.set_cons_zero,e,Qd];rfl
  refine ct (by simp;omega) (bd (kM hi) (bd hg (bd (kM hi) (bd (a:=(X.take (i+1)).map f++X.drop (i+1)) ?_ ?_))))
  ·rw [yBp];exact hu
  ·rw [uU (by omega)]
 ·unfold kY;refine cf (by simp) ?_;rw [Q3 (by omega),W0 (by omega),List.append_nil]
 ·refine bd (a:=()) (by simp [ck,hl]) (bd (a:=()) rfl rfl)
theorem zT1 (w:Nat) (c:By) (h:c.length<=64):(mkK w c).length=64:=by unfold mkK;simp;omega
theorem zQe (key b:By):zHz key b=zCm key b:=by
 unfold zHz;cases h:(Qx key.length 64&&Qx b.length 1000000) with
 | false=>rfl
 | true=>
  simp only [Qq] at h;have h1:=Q8 h.1;have h2:=Q8 h.2;have l1:=zT1 54 key h1;have l2:=zT1 92 key h1;have ks:∀ x:By,x.length<2 ^ 40->uF 1 x=some (zS0 x):=λx hx=>by rw [iQ,zQm x hx,zMp]
  have kl:(zS0 (mkK 54 key++b)).length=32:=by rw [zMp];exact zX9 _
  rw [cond_true];refine (show zCm key b=some _ from ?_).symm;unfold zCm;have hd:decide (64<(key.length:Int))=false:=by simp;omega
  rw [hd,cond_false];refine bd (a:=key) rfl ?_;refine bd (zUn 54 key h1) ?_;refine bd (xZ (b:=1) (l:=mkK 54 key) (m:=b) (by omega)) ?_;refine bd (ks _ (by rw [Qn];omega)) ?_;refine bd (zUn 92 key h1) ?_;refine bd (xZ (b:=1) (l:=mkK 92 key) (by omega)) ?_;refine bd (ks _ (by rw [Qn];omega)) rfl
end Go.Proofs.TT
