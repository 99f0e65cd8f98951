/- A part. -/
import Derived.Test.YtkalaoahbicflaaGreatDoorCZ4
set_option maxRecDepth 100000
set_option linter.all false
open Go.IntKind renaming i64 -> Q0, u32 -> Q1, u64 -> Qb, wrap_u64 -> Qv, wrap_u8 -> Qy, u8 -> W7
open List renaming take_of_length_le -> Q2, replicate -> Q3, length_append -> Q6, take_append_getElem -> Q9, take_add_one -> Qc, length_cons -> Qe, drop_eq_nil_of_le -> Qf, append_assoc -> Qh, getElem_mem -> Qj, range -> Qm, length_take -> Qn, map_cons -> Qo, sum_cons -> Qp, length_nil -> Qq, drop_zero -> Qs, range_succ -> Qx, flatMap_append -> W4, drop_eq_getElem_cons -> W6, mem_cons_of_mem -> Wb, mem_map -> We, foldl_append -> Wf, not_mem_nil -> Wh, map_append -> Wk, foldl_cons -> Wo, mem_cons -> Wp, map_nil -> Wr, sum_nil -> Ws
open BitVec renaming ofInt_natCast -> Q4, toNat_ofNat -> Q8, ofInt -> Qi, toNat_xor -> Wi, toNat_or -> Wl
open Nat renaming le_refl -> Q5, mod_eq_of_lt -> Qa, xor_lt_two_pow -> Qr, sub_self -> Qz, pow_le_pow_right -> W1, add_sub_cancel_left -> W9, pow_succ -> Wd, le_of_not_lt -> Wj, div_le_self -> Wm, two_pow_pos -> Wn
open Option renaming bind_some -> Q7, toList_some -> Wc
open Int renaming tmod_eq_emod_of_nonneg -> Qd, tdiv_eq_ediv_of_nonneg -> Qg, eq_ofNat_of_zero_le -> Qk, toNat_natCast -> Qt, tdiv -> Qw, tmod -> Wa
open UInt8 renaming toNat_inj -> Ql
open Bool renaming or_false -> Qu, or_true -> W2, true_or -> W3, and_eq_true -> W8, eq_false_iff -> Wg, true_and -> Wq
open Option.some renaming inj -> W0
open Classical renaming not_not -> W5
namespace Go.Sw
open Go
variable {b:Nat}{c:Bool}{n:Int}{α β:Type}{a:α}{f:α->Option β}{l:List α}{r:Option β}
def zRg {X Y:Type} {step:X->Option (X ⊕ Y)} {r:Y} (n:Nat) (s:Nat->X) (h:∀ i,i<n->step (s i)=some (.inl (s (i+1)))) (he:step (s n)=some (.inr r)) :
  ∀ (d k fuel:Nat),k+d=n->d<fuel->zP step fuel (s k)=some r:=by
 intro d;induction d with
 | zero=>
  intro k fuel hk hf;obtain ⟨f,rfl⟩:∃ f,fuel=f+1:=⟨fuel - 1,jh⟩;have:k=n:=jh
  subst this;simp [zP,he]
 | succ d ih=>
  intro k fuel hk hf;obtain ⟨f,rfl⟩:∃ f,fuel=f+1:=⟨fuel - 1,jh⟩;simp only [zP,h k jh];exact ih (k+1) f jh jh
def yF {X Y:Type} {step:X->Option (X ⊕ Y)} {r:Y} {x:X} (n:Nat) (s:Nat->X) (h0:s 0=x) (h:∀ i,i<n->step (s i)=some (.inl (s (i+1)))) (he:step (s n)=some (.inr r)) {fuel:Nat} (hf:n<fuel) :
  zP step fuel x=some r:=by
 subst h0;exact zRg n s h he n 0 fuel jh hf
def zKo {X Y:Type} {step:X->Option (X ⊕ Y)} (I:X->Prop) (m:X->Nat) (Q:Y->Prop)
  (h:∀ s,I s->(∃ s',step s=some (.inl s')/\I s'/\m s'<m s)∨(∃ r,step s=some (.inr r)/\Q r)) :
  ∀ (fuel:Nat) (s:X),I s->m s<fuel->∃ r,zP step fuel s=some r/\Q r:=by
 intro fuel;induction fuel with
 | zero=>intro s _ hm;omega
 | succ f ih=>
  intro s hs hm;rcases h s hs with ⟨s',h1,h2,h3⟩ | ⟨r,h1,h2⟩
  ·obtain ⟨r,h4,h5⟩:=ih s' h2 jh;exact ⟨r,by simp [zP,h1,h4],h5⟩
  ·exact ⟨r,by simp [zP,h1],h2⟩
def xJ {n:Nat} (h:n<2 ^ 64):n<FU:=by
 have:(2:Nat) ^ 64<FU:=ji
 omega
def yI (h1:-9223372036854775808<=n) (h2:n<=9223372036854775807):Q0.wrap n=n:=by rw [IntKind.wrap_i64];omega
def yOy (h1:0<=n) (h2:n<=4294967295):Q1.wrap n=n:=by rw [IntKind.wrap_u32];omega
def zD1 (h1:0<=n) (h2:n<=18446744073709551615):Qb.wrap n=n:=by rw [Qv];omega
def yC {m:List α} (h:(l.length+m.length)*b<=140737488355328):yM b l m=some (l++m):=by
 simp [yM,LIM,h]
def yX {i:Nat} (h:i<l.length):idx l (i:Int)=some l[i]:=by
 simp [idx,h]
def uW {a:Nat} (h:a<=b) (h2:b<=l.length):sub l (a:Int) (b:Int)=some ((l.drop a).take (b - a)):=by
 have:(0:Int)<=a/\(a:Int)<=b/\(b:Int)<=l.length:=⟨jh,jh,jh⟩;simp [sub,this]
def bd {o:Option α} (h:o=some a) (k:f a=r):o.bind f=r:=by subst h;exact k
def ltk {e:α} (k:f e=r):lt e f=r:=k
def ct {b r:α} (h:c=true) (k:a=r):(bif c then a else b)=r:=by subst h;exact k
def cf {b r:α} (h:c=false) (k:b=r):(bif c then a else b)=r:=by subst h;exact k
def ckT (h:c=true):ck c=some ():=by subst h;rfl
end Go.Sw
namespace Go.Proofs.TT
open Go Go.Sw
variable {a b:Nat}{e:Int}{i:Nat}{l:List Int}{n t:Nat}
def rr (x n:Int):Int:=ior .u32 (xT .u32 x n) (qW .u32 x (32 - n))
def zM5 (k:IntKind) (a b:Int):ior k a b=ior k b a:=by simp [ior,BitVec.or_comm]
def jW (x n:Int) (h0:0<=n) (h1:n<=32):xP x n=some (rr x n):=by
 have h2:Qb.wrap (32 - n)=32 - n:=by rw [Qv];omega
 have h3:decide (0<=n)=true:=by simpa using h0
 simp only [xP,ck,lt,h2,h3,rr,cond_true,Q7]
def lN (x:Int) (n m:Int) (h:xB .u64 (Qb.wrap n) 31=32 - m) (h0:0<=m) (h1:m<=32):zR x n=some (rr x m):=by
 have h2:Qb.wrap (32 - (32 - m))=m:=by rw [Qv];omega
 have h3:(0:Int)<=32 - m:=jh
 have h4:decide ((0:Int)<=32 - m)=true:=by simpa using h3
 have h5:decide ((0:Int)<=m)=true:=by simpa using h0
 simp only [zR,ck,lt,h,h2,h4,h5,rr,cond_true,Q7];rw [zM5]
def K2:List Int:=wQ
def yJ4:K2.length=64:=rfl
def zMc:mX=some K2:=rfl
def a8 (s:A8 Int):List Int:=[s.a0,s.a1,s.a2,s.a3,s.a4,s.a5,s.a6,s.a7]
def t1 (s:A8 Int) (k w:Int):Int:=
 Q1.wrap (Q1.wrap (Q1.wrap (Q1.wrap (s.a7+xK .u32 (xK .u32 (rr s.a4 6) (rr s.a4 11)) (rr s.a4 25))+xK .u32 (xB .u32 s.a4 s.a5) (xB .u32 (zMn .u32 s.a4) s.a6))+k)+w)
def t2 (s:A8 Int):Int:=Q1.wrap (xK .u32 (xK .u32 (rr s.a0 2) (rr s.a0 13)) (rr s.a0 22)+xK .u32 (xK .u32 (xB .u32 s.a0 s.a1) (xB .u32 s.a0 s.a2)) (xB .u32 s.a1 s.a2))
def rnd (s:A8 Int) (k w:Int):A8 Int:=⟨Q1.wrap (t1 s k w+t2 s),s.a0,s.a1,s.a2,Q1.wrap (s.a3+t1 s k w),s.a4,s.a5,s.a6⟩
def fQ (w:List Int) (s:A8 Int):Nat->A8 Int
 | 0=>s
 | n+1=>rnd (fQ w s n) (K2.getD n 0) (w.getD n 0)
def tH (h:t<n):ixN n (t:Int)=some t:=by
 have:(0:Int)<=t/\(t:Int)<n:=⟨jh,jh⟩;simp [ixN,this]
def mW (h:t<l.length):l[t]? = some (l.getD t 0):=by simp [h]
def yO (h:t<2 ^ 40):Q0.wrap ((t:Int)+1)=((t+1:Nat):Int):=by rw [yI jh jh];simp
section
variable (a b c d e f g h:Int)
def yO1:idx [a,b,c,d,e,f,g,h] 0=some a:=rfl
def yCq:idx [a,b,c,d,e,f,g,h] 1=some b:=rfl
def zZ6:idx [a,b,c,d,e,f,g,h] 2=some c:=rfl
def yOw:idx [a,b,c,d,e,f,g,h] 3=some d:=rfl
def yO5:idx [a,b,c,d,e,f,g,h] 4=some e:=rfl
def yJv:idx [a,b,c,d,e,f,g,h] 5=some f:=rfl
def yJp:idx [a,b,c,d,e,f,g,h] 6=some g:=rfl
def yPi:idx [a,b,c,d,e,f,g,h] 7=some h:=rfl
end
def dlt (h:a<b):decide ((a:Int)<(b:Int))=true:=by simp;exact h
def dge (h:b<=a):decide ((a:Int)<(b:Int))=false:=by simp;omega
def yHi (w:List Int) (s:A8 Int) (i:Nat) (hi:i<64) (hw:w.length=64):mK K2 w (a8 s,(i:Int))=some (.inl (a8 (rnd s (K2.getD i 0) (w.getD i 0)),((i+1:Nat):Int))):=by
 have e1:decide ((i:Int)<64)=true:=dlt (b:=64) hi;have e2:∀ x,xP x 6=some (rr x 6):=λx=>jW x 6 ji ji;have e3:∀ x,xP x 11=some (rr x 11):=λx=>jW x 11 ji ji;have e4:∀ x,xP x 25=some (rr x 25):=λx=>jW x 25 ji ji;have e5:∀ x,xP x 2=some (rr x 2):=λx=>jW x 2 ji ji;have e6:∀ x,xP x 13=some (rr x 13):=λx=>jW x 13 ji ji;have e7:∀ x,xP x 22=some (rr x 22):=λx=>jW x 22 ji ji;have k1:K2[i]? = some (K2.getD i 0):=mW (by rw [yJ4];exact hi);have k2:w[i]? = some (w.getD i 0):=mW jh;unfold mK a8;refine ct e1 ?_;refine bd (yO1 _ _ _ _ _ _ _ _) ?_;refine bd (yO5 _ _ _ _ _ _ _ _) ?_;refine bd (yPi _ _ _ _ _ _ _ _) ?_;refine bd (e2 _) ?_;refine bd (e3 _) ?_;refine bd (e4 _) ?_;refine ltk ?_;refine bd (yJv _ _ _ _ _ _ _ _) ?_;refine bd (yJp _ _ _ _ _ _ _ _) ?_;refine ltk ?_;refine bd (tH hi) ?_;refine bd k1 ?_;refine ltk ?_;refine bd (tH hi) ?_;refine bd k2 ?_;refine bd (e5 _) ?_;refine bd (e6 _) ?_;refine bd (e7 _) ?_;refine bd (yCq _ _ _ _ _ _ _ _) ?_;refine bd (zZ6 _ _ _ _ _ _ _ _) ?_;refine ltk ?_;refine bd (yCq _ _ _ _ _ _ _ _) ?_;refine bd (zZ6 _ _ _ _ _ _ _ _) ?_;refine ltk ?_;refine ltk ?_;refine bd (yCq _ _ _ _ _ _ _ _) ?_;refine bd (zZ6 _ _ _ _ _ _ _ _) ?_;refine bd (yOw _ _ _ _ _ _ _ _) ?_;refine ltk ?_;refine bd (yJv _ _ _ _ _ _ _ _) ?_;refine bd (yJp _ _ _ _ _ _ _ _) ?_;rw [yO (show i<2 ^ 40 by omega)];rfl
def yLy (w:List Int) (hw:w.length=64) (s:A8 Int):zP (mK K2 w) FU (a8 s,0)=some (a8 (fQ w s 64)):=by
 refine yF 64 (λi=>(a8 (fQ w s i),(i:Int))) rfl (λi hi=>yHi w _ i hi hw) ?_ (xJ ji);generalize fQ w s 64=S;rfl
def yIn (w:List Int) (s:A8 Int) (i:Nat) (hi:i<64) (hw:w.length=64):tN w ((i:Int),s.a0,s.a1,s.a2,s.a3,s.a4,s.a5,s.a6,s.a7) =
  some (.inl (((i+1:Nat):Int),(rnd s (K2.getD i 0) (w.getD i 0)).a0,(rnd s (K2.getD i 0) (w.getD i 0)).a1,(rnd s (K2.getD i 0) (w.getD i 0)).a2,(rnd s (K2.getD i 0) (w.getD i 0)).a3,(rnd s (K2.getD i 0) (w.getD i 0)).a4,(rnd s (K2.getD i 0) (w.getD i 0)).a5,(rnd s (K2.getD i 0) (w.getD i 0)).a6,(rnd s (K2.getD i 0) (w.getD i 0)).a7)):=by
 have e1:decide ((i:Int)<64)=true:=dlt (b:=64) hi;have e2:∀ x,zR x (-6)=some (rr x 6):=λx=>lN x _ 6 ji ji ji;have e3:∀ x,zR x (-11)=some (rr x 11):=λx=>lN x _ 11 ji ji ji;have e4:∀ x,zR x (-25)=some (rr x 25):=λx=>lN x _ 25 ji ji ji;have e5:∀ x,zR x (-2)=some (rr x 2):=λx=>lN x _ 2 ji ji ji;have e6:∀ x,zR x (-13)=some (rr x 13):=λx=>lN x _ 13 ji ji ji;have e7:∀ x,zR x (-22)=some (rr x 22):=λx=>lN x _ 22 ji ji ji;have k1:idx wQ (i:Int)=some (K2.getD i 0):=by rw [yX (show i<wQ.length from hi)];simp [K2,show i<wQ.length from hi]
 have k2:w[i]? = some (w.getD i 0):=mW jh;unfold tN;refine ct e1 ?_;refine bd (e2 _) ?_;refine bd (e3 _) ?_;refine bd (e4 _) ?_;refine ltk ?_;refine ltk ?_;refine bd k1 ?_;refine ltk ?_;refine bd (tH hi) ?_;refine bd k2 ?_;refine bd (e5 _) ?_;refine bd (e6 _) ?_;refine bd (e7 _) ?_;refine ltk ?_;refine ltk ?_;refine ltk ?_;refine ltk ?_;rw [yO (show i<2 ^ 40 by omega)];rfl
def yLn (w:List Int) (hw:w.length=64) (s:A8 Int):zP (tN w) FU (0,s.a0,s.a1,s.a2,s.a3,s.a4,s.a5,s.a6,s.a7)=some ((fQ w s 64).a0,(fQ w s 64).a1,(fQ w s 64).a2,(fQ w s 64).a3,(fQ w s 64).a4,(fQ w s 64).a5,(fQ w s 64).a6,(fQ w s 64).a7):=by
 refine yF 64 (λi=>((i:Int),(fQ w s i).a0,(fQ w s i).a1,(fQ w s i).a2,(fQ w s i).a3,(fQ w s i).a4,(fQ w s i).a5,(fQ w s i).a6,(fQ w s i).a7)) rfl (λi hi=>yIn w _ i hi hw) ?_ (xJ ji);generalize fQ w s 64=S;rfl
def zWf {l:By} {z:Int} (hz:z=(n:Int)) (h:n<l.length):idx l z=some (l.getD n 0):=by
 subst hz;simp [idx,h]
def zGp {α:Type} {l:List α} {j:Nat} {u:α} (h:j<l.length):wY l j u=some (l.set j u):=by simp [wY,h]
def byt (b:By) (n:Nat):Int:=Q1.wrap (((b.getD n 0).toNat:Nat):Int)
def wd (b:By) (t:Nat):Int:=ior .u32 (ior .u32 (ior .u32 (qW .u32 (byt b (4*t)) 24) (qW .u32 (byt b (4*t+1)) 16)) (qW .u32 (byt b (4*t+2)) 8)) (byt b (4*t+3))
def zL5 (b:By) (t:Nat) (h:4*t+3<b.length) (h2:t<2 ^ 20):eU b (t:Int)=some (wd b t):=by
 have e0:Q0.wrap (4*(t:Int))=((4*t:Nat):Int):=by rw [yI jh jh];simp
 unfold eU;rw [e0];refine bd (zWf rfl jh) ?_;refine bd (zWf (n:=4*t+1) (by rw [yI jh jh];simp) jh) ?_;refine ltk ?_;refine bd (zWf (n:=4*t+2) (by rw [yI jh jh];simp) jh) ?_;refine ltk ?_;refine bd (zWf (n:=4*t+3) (by rw [yI jh jh];simp) jh) ?_;rfl
def zOi:cO=eU:=rfl
def s0 (x:Int):Int:=xK .u32 (xK .u32 (rr x 7) (rr x 18)) (xT .u32 x 3)
def s1 (x:Int):Int:=xK .u32 (xK .u32 (rr x 17) (rr x 19)) (xT .u32 x 10)
def wv (b:By) (w:List Int) (t:Nat):Int:=
 if t<16 then wd b t else Q1.wrap (Q1.wrap (Q1.wrap (s1 (w.getD (t - 2) 0)+w.getD (t - 7) 0)+s0 (w.getD (t - 15) 0))+w.getD (t - 16) 0)
def zB7 (b:By):Nat->List Int
 | 0=>Q3 64 0
 | t+1=>(zB7 b t).set t (wv b (zB7 b t) t)
def bZ (b:By):∀ t,(zB7 b t).length=64
 | 0=>rfl
 | t+1=>by simp [zB7,bZ b t]
def yNy (b:By) (w:List Int) (i:Nat) (hi:i<64) (hw:w.length=64) (hb:b.length=64):tO b ((i:Int),w)=some (.inl (((i+1:Nat):Int),w.set i (wv b w i))):=by
 have hiw:i<w.length:=jh
 unfold tO;refine ct (dlt (b:=64) hi) ?_;refine bd (a:=w.set i (wv b w i)) ?_ (by rw [yO (show i<2 ^ 40 by omega)]);by_cases h:i<16
 ·refine ct (dlt (b:=16) h) ?_;rw [zOi];refine bd (zL5 b i jh jh) ?_;refine bd (tH hi) ?_;refine bd (zGp hiw) ?_;simp [wv,h]
 refine cf (dge (b:=16) jh) ?_;have x15:ixN 64 (Q0.wrap ((i:Int) - 15))=some (i - 15):=by rw [yI jh jh,show (i:Int) - 15=((i - 15:Nat):Int) by omega];exact tH jh
 have x2:ixN 64 (Q0.wrap ((i:Int) - 2))=some (i - 2):=by rw [yI jh jh,show (i:Int) - 2=((i - 2:Nat):Int) by omega];exact tH jh
 have x7:ixN 64 (Q0.wrap ((i:Int) - 7))=some (i - 7):=by rw [yI jh jh,show (i:Int) - 7=((i - 7:Nat):Int) by omega];exact tH jh
 have x16:ixN 64 (Q0.wrap ((i:Int) - 16))=some (i - 16):=by rw [yI jh jh,show (i:Int) - 16=((i - 16:Nat):Int) by omega];exact tH jh
 have w15:w[i - 15]? = some (w.getD (i - 15) 0):=mW jh;have w2:w[i - 2]? = some (w.getD (i - 2) 0):=mW jh;have w7:w[i - 7]? = some (w.getD (i - 7) 0):=mW jh;have w16:w[i - 16]? = some (w.getD (i - 16) 0):=mW jh;have e7:∀ x,zR x (-7)=some (rr x 7):=λx=>lN x _ 7 ji ji ji;have e18:∀ x,zR x (-18)=some (rr x 18):=λx=>lN x _ 18 ji ji ji;have e17:∀ x,zR x (-17)=some (rr x 17):=λx=>lN x _ 17 ji ji ji;have e19:∀ x,zR x (-19)=some (rr x 19):=λx=>lN x _ 19 ji ji ji;refine bd (x15) ?_;refine bd (w15) ?_;refine bd (x2) ?_;refine bd (w2) ?_;refine bd (e7 _) ?_;refine bd (e18 _) ?_;refine bd (e17 _) ?_;refine bd (e19 _) ?_;refine bd (x7) ?_;refine bd (w7) ?_;refine ltk ?_;refine ltk ?_;refine bd (x16) ?_;refine bd (w16) ?_;refine bd (tH hi) ?_;refine bd (zGp hiw) ?_;simp only [wv,h,if_false];rfl
def yMz (b:By) (hb:b.length=64):zP (tO b) FU (0,Q3 64 0)=some (zB7 b 64):=by
 refine yF 64 (λi=>((i:Int),zB7 b i)) rfl (λi hi=>yNy b _ i hi (bZ b i) hb) ?_ (xJ ji);generalize zB7 b 64=S;rfl
def qG (x:By) (n:Nat):By:=(x.drop n).take 64
def yNs (x:By) (at':Nat) (w:List Int) (i:Nat) (hi:i<64) (hw:w.length=64) (hx:at'+64<=x.length) (hl:x.length<2 ^ 48):lG x (at':Int) ((i:Int),w)=some (.inl (((i+1:Nat):Int),w.set i (wv (qG x at') w i))):=by
 have hiw:i<w.length:=jh
 have hbl:(qG x at').length=64:=by simp [qG];omega
 unfold lG;refine ct (dlt (b:=64) hi) ?_;refine bd (a:=w.set i (wv (qG x at') w i)) ?_ (by rw [yO (show i<2 ^ 40 by omega)]);by_cases h:i<16
 ·refine ct (dlt (b:=16) h) ?_;have hs:sub x (at':Int) (Q0.wrap ((at':Int)+64))=some (qG x at'):=by
   rw [yI jh jh,show (at':Int)+64=((at'+64:Nat):Int) by simp,uW jh hx];simp [qG]
  refine bd hs ?_;refine bd (zL5 _ i jh jh) ?_;refine bd (tH hi) ?_;refine bd (zGp hiw) ?_;simp [wv,h]
 refine cf (dge (b:=16) jh) ?_;have x15:ixN 64 (Q0.wrap ((i:Int) - 15))=some (i - 15):=by rw [yI jh jh,show (i:Int) - 15=((i - 15:Nat):Int) by omega];exact tH jh
 have x2:ixN 64 (Q0.wrap ((i:Int) - 2))=some (i - 2):=by rw [yI jh jh,show (i:Int) - 2=((i - 2:Nat):Int) by omega];exact tH jh
 have x7:ixN 64 (Q0.wrap ((i:Int) - 7))=some (i - 7):=by rw [yI jh jh,show (i:Int) - 7=((i - 7:Nat):Int) by omega];exact tH jh
 have x16:ixN 64 (Q0.wrap ((i:Int) - 16))=some (i - 16):=by rw [yI jh jh,show (i:Int) - 16=((i - 16:Nat):Int) by omega];exact tH jh
 have w15:w[i - 15]? = some (w.getD (i - 15) 0):=mW jh;have w2:w[i - 2]? = some (w.getD (i - 2) 0):=mW jh;have w7:w[i - 7]? = some (w.getD (i - 7) 0):=mW jh;have w16:w[i - 16]? = some (w.getD (i - 16) 0):=mW jh;have e7:∀ x,xP x 7=some (rr x 7):=λx=>jW x 7 ji ji;have e18:∀ x,xP x 18=some (rr x 18):=λx=>jW x 18 ji ji;have e17:∀ x,xP x 17=some (rr x 17):=λx=>jW x 17 ji ji;have e19:∀ x,xP x 19=some (rr x 19):=λx=>jW x 19 ji ji;refine bd (x15) ?_;refine bd (w15) ?_;refine bd (e7 _) ?_;refine bd (x15) ?_;refine bd (w15) ?_;refine bd (e18 _) ?_;refine bd (x15) ?_;refine bd (w15) ?_;refine bd (x2) ?_;refine bd (w2) ?_;refine bd (e17 _) ?_;refine bd (x2) ?_;refine bd (w2) ?_;refine bd (e19 _) ?_;refine bd (x2) ?_;refine bd (w2) ?_;refine bd (x7) ?_;refine bd (w7) ?_;refine ltk ?_;refine ltk ?_;refine bd (x16) ?_;refine bd (w16) ?_;refine bd (tH hi) ?_;refine bd (zGp hiw) ?_;simp only [wv,h,if_false];rfl
def yL8 (x:By) (at':Nat) (hx:at'+64<=x.length) (hl:x.length<2 ^ 48):zP (lG x (at':Int)) FU (0,Q3 64 0)=some (zB7 (qG x at') 64):=by
 refine yF 64 (λi=>((i:Int),zB7 (qG x at') i)) rfl (λi hi=>yNs x at' _ i hi (bZ _ i) hx hl) ?_ (xJ ji);generalize zB7 (qG x at') 64=S;rfl
def zXr (h s:A8 Int):A8 Int:=⟨Q1.wrap (h.a0+s.a0),Q1.wrap (h.a1+s.a1),Q1.wrap (h.a2+s.a2),Q1.wrap (h.a3+s.a3),Q1.wrap (h.a4+s.a4),Q1.wrap (h.a5+s.a5),Q1.wrap (h.a6+s.a6),Q1.wrap (h.a7+s.a7)⟩
def zH1 (h s:List Int):Nat->List Int
 | 0=>h
 | i+1=>(zH1 h s i).set i (Q1.wrap ((zH1 h s i).getD i 0+s.getD i 0))
def zIs (h s:List Int):∀ i,(zH1 h s i).length=h.length
 | 0=>rfl
 | i+1=>by simp [zH1,zIs h s i]
def yCe (h s:A8 Int):zH1 (a8 h) (a8 s) 8=a8 (zXr h s):=rfl
def zNi (h:A8 Int) (b:By):A8 Int:=zXr h (fQ (zB7 b 64) h 64)
def yLl (h s:A8 Int):zP (eZ (a8 s)) FU (0,a8 h)=some (a8 (zXr h s)):=by
 rw [<- yCe];refine yF 8 (λi=>((i:Int),zH1 (a8 h) (a8 s) i)) rfl (λi hi=>?_) ?_ (xJ ji)
 ·have hl:(zH1 (a8 h) (a8 s) i).length=8:=zIs _ _ _;unfold eZ;refine ct (dlt (b:=8) hi) ?_;refine bd (tH hi) ?_;refine bd (mW jh) ?_;refine bd (a:=(a8 s).getD i 0) (by rw [yX (show i<(a8 s).length from hi)];simp [show i<(a8 s).length from hi]) ?_;refine bd (tH hi) ?_;refine bd (zGp jh) ?_;rw [yO (show i<2 ^ 40 by omega)];rfl
 ·generalize zH1 (a8 h) (a8 s) 8=S;rfl
def yNo (h s:A8 Int):zP (vZ s.a0 s.a1 s.a2 s.a3 s.a4 s.a5 s.a6 s.a7) FU (0,[h.a0,h.a1,h.a2,h.a3,h.a4,h.a5,h.a6,h.a7])=some (zXr h s):=by
 refine yF 8 (λi=>((i:Int),zH1 (a8 h) (a8 s) i)) rfl (λi hi=>?_) ?_ (xJ ji)
 ·have hl:(zH1 (a8 h) (a8 s) i).length=8:=zIs _ _ _;unfold vZ;refine ct (dlt (b:=8) hi) ?_;refine bd (tH hi) ?_;refine bd (mW jh) ?_;refine bd (tH hi) ?_;refine bd (a:=(a8 s).getD i 0) (mW (l:=a8 s) hi) ?_;refine bd (tH hi) ?_;refine bd (zGp jh) ?_;rw [yO (show i<2 ^ 40 by omega)];rfl
 ·show vZ s.a0 s.a1 s.a2 s.a3 s.a4 s.a5 s.a6 s.a7 (((8:Nat):Int),zH1 (a8 h) (a8 s) 8)=_;rw [yCe];unfold vZ;refine cf rfl ?_;refine bd (a:=zXr h s) rfl rfl
def zMz (h:A8 Int) (b:By) (hb:b.length=64):rJ h b=some (zNi h b):=by
 unfold rJ;refine bd (yMz b hb) ?_;refine bd (yLn _ (bZ b 64) h) ?_;refine bd (yNo h _) ?_;rfl
def zYx:A8 Int:=⟨1779033703,3144134277,1013904242,2773480762,1359893119,2600822924,528734635,1541459225⟩
def hsh (x:By):Nat->A8 Int
 | 0=>zYx
 | i+1=>zNi (hsh x i) (qG x (64*i))
def st8 (p:By) (h:A8 Int):By×Int×Int×Int×Int×Int×Int×Int×Int:=(p,h.a0,h.a1,h.a2,h.a3,h.a4,h.a5,h.a6,h.a7)
def zQ9 (x:By) (n:Nat) (hx:x.length=64*n) (hl:x.length<2 ^ 48):zP iF FU (st8 x zYx)=some ((hsh x n).a0,(hsh x n).a1,(hsh x n).a2,(hsh x n).a3,(hsh x n).a4,(hsh x n).a5,(hsh x n).a6,(hsh x n).a7):=by
 refine yF n (λi=>st8 (x.drop (64*i)) (hsh x i)) (by simp [hsh]) (λi hi=>?_) ?_ (xJ jh)
 ·have hd:(x.drop (64*i)).length=x.length - 64*i:=by simp
  unfold iF st8;refine ct jl ?_;refine bd (a:=qG x (64*i)) (by rw [show (0:Int)=((0:Nat):Int) from rfl,show (64:Int)=((64:Nat):Int) from rfl,uW jh jh];simp [qG]) ?_;refine bd (zMz _ _ (by simp [qG];omega)) ?_;refine bd (a:=x.drop (64*(i+1))) (by rw [show (64:Int)=((64:Nat):Int) from rfl,uW jh jh];rw [List.drop_drop,Q2 jl];congr 2) ?_;rfl
 ·have hd:x.drop (64*n)=[]:=Qf jh;show iF (st8 (x.drop (64*n)) (hsh x n))=_;rw [hd];generalize hsh x n=S;rfl
def zP9 (x:By) (n:Nat) (hx:x.length=64*n) (hl:x.length<2 ^ 47):zP (qQ K2 x) FU (0,a8 zYx)=some (a8 (hsh x n)):=by
 refine yF n (λi=>(((64*i:Nat):Int),a8 (hsh x i))) rfl (λi hi=>?_) ?_ (xJ jh)
 ·unfold qQ;refine ct (dlt jh) ?_;refine bd (yL8 x (64*i) jh jh) ?_;refine bd (ckT rfl) ?_;refine bd (a:=a8 (hsh x i)) (by rw [yC (by simp [a8])];rfl) ?_;refine bd (yLy _ (bZ _ 64) _) ?_;refine bd (yLl _ _) ?_;rw [yI jh jh,show ((64*i:Nat):Int)+64=((64*(i+1):Nat):Int) by omega];rfl
 ·show qQ K2 x (((64*n:Nat):Int),a8 (hsh x n))=_;unfold qQ;exact cf (dge jh) rfl
def zs (n:Nat):Nat:=(119 - n % 64) % 64
def be8 (n:Int) (k:Nat):By:=(Qm k).map λ(j:Nat)=>u8 (xT .u64 n (56 - 8*(j:Int)))
def zMf (n:Int) (k:Nat):(be8 n k).length=k:=by simp [be8]
def zN4 (n:Int) (k:Nat):be8 n (k+1)=be8 n k++[u8 (xT .u64 n (56 - 8*(k:Int)))]:=by simp [be8,Qx]
def yN2 (b:By):Int:=Qb.wrap (Qb.wrap (b.length:Int)*8)
def zEv (b:By):By:=(b++[128]++Q3 (zs b.length) 0)++be8 (yN2 b) 8
def zF0 (b:By):(zEv b).length=b.length+9+zs b.length:=by simp [zEv,zMf];omega
def zIi (b:By):(zEv b).length % 64=0:=by rw [zF0];unfold zs;omega
def zKw (b:By) (hb:b.length<2 ^ 40):zP hP FU (b++[128])=some (b++[128]++Q3 (zs b.length) 0):=by
 have hz:zs b.length<64:=by unfold zs;omega
 refine yF (zs b.length) (λi=>b++[128]++Q3 i 0) jk (λi hi=>?_) ?_ (xJ jh)
 ·have hl:(b++[128]++Q3 i 0).length=b.length+1+i:=by simp;omega
  unfold hP;refine ct ?_ ?_
  ·rw [hl];simp only [bne_iff_ne,ne_eq];rw [Qd jh];unfold zs at hi;omega
  ·refine bd (yC (by rw [hl];simp;omega)) ?_;rw [Qh,<- List.replicate_succ']
 ·have hl:(b++[128]++Q3 (zs b.length) 0).length=b.length+1+zs b.length:=by simp;omega
  unfold hP;refine cf ?_ rfl;rw [hl];simp only [bne_eq_false_iff_eq];rw [Qd jh];unfold zs;omega
def yIi:zD2=hP:=rfl
def yAn (x:By) (n:Int) (hx:x.length<2 ^ 41):zP (zB6 n) FU (x,7)=some (x++be8 n 8):=by
 refine yF 8 (λi=>(x++be8 n i,7 - (i:Int))) (by simp [be8]) (λi hi=>?_) ?_ (xJ ji)
 ·unfold zB6;refine ct jl ?_;refine ltk ?_;have e:Qb.wrap (8*Qb.wrap (7 - (i:Int)))=56 - 8*(i:Int):=by
   rw [zD1 (n:=7 - (i:Int)) jh jh,zD1 jh jh];omega
  rw [e];refine bd (yC (by simp [zMf];omega)) ?_;rw [yI jh jh,Qh,<- zN4,show (7:Int) - (i:Int) - 1=7 - ((i+1:Nat):Int) by omega]
 ·generalize be8 n 8=S;rfl
def yBh (x:By) (n:Int) (hx:x.length<2 ^ 41):zP (bY n) FU (x,56)=some (x++be8 n 8):=by
 refine yF 8 (λi=>(x++be8 n i,56 - 8*(i:Int))) (by simp [be8]) (λi hi=>?_) ?_ (xJ ji)
 ·unfold bY;refine ct jl ?_;rw [zD1 (n:=56 - 8*(i:Int)) jh jh];refine bd (yC (by simp [zMf];omega)) ?_;rw [yI jh jh,Qh,<- zN4,show (56:Int) - 8*(i:Int) - 8=56 - 8*((i+1:Nat):Int) by omega]
 ·generalize be8 n 8=S;rfl
def zI6 (b:By) (hb:b.length<2 ^ 40):zCs b=some (zEv b):=by
 have hz:zs b.length<64:=by unfold zs;omega
 unfold zCs;refine bd (a:=b) (by rw [yC jl];simp) ?_;refine bd (yC jl) ?_;refine bd (zKw b hb) ?_;refine ltk ?_;refine bd (yAn _ _ jl) ?_;rfl
def zPz (b:By) (hb:b.length<2 ^ 40):dE b=some (zEv b):=by
 have hz:zs b.length<64:=by unfold zs;omega
 unfold dE;refine bd (a:=b.length+72) (by unfold mkN;rw [yI jh jh,if_pos jh];congr 1) ?_;refine bd (a:=b) (by rw [yC jl];simp) ?_;refine bd (yC jl) ?_;rw [yIi];refine bd (zKw b hb) ?_;refine ltk ?_;refine bd (yBh _ _ jl) ?_;rfl
def be4 (w:Int):By:=[u8 (xT .u32 w 24),u8 (xT .u32 w 16),u8 (xT .u32 w 8),u8 w]
def zLq (l:List Int):(l.flatMap be4).length=4*l.length:=by
 induction l with
 | nil=>rfl
 | cons a r ih=>simp [ih,be4];omega
def zSc (l:List Int) (i:Nat) (hi:i<l.length):(l.take (i+1)).flatMap be4=(l.take i).flatMap be4++be4 (l.getD i 0):=by
 rw [Qc,W4];congr 1;simp [hi]
def yBu (h:i<l.length):idx l (i:Int)=some (l.getD i 0):=by rw [yX h];simp [h]
def zO1 (l:List Int) (hl:l.length<2 ^ 20):dK l=some (l.flatMap be4):=by
 have:zP (iG l) FU ([],0)=some (l.flatMap be4):=by
  refine yF l.length (λi=>((l.take i).flatMap be4,(i:Int))) jk (λi hi=>?_) ?_ (xJ jh)
  ·unfold iG;refine ct (dlt hi) ?_;refine bd (yBu hi) ?_;refine bd (yBu hi) ?_;refine bd (yBu hi) ?_;refine bd (yBu hi) ?_;refine bd (yC (by rw [zLq];simp;omega)) ?_;rw [zSc l i hi,yO (show i<2 ^ 40 by omega)];rfl
  ·unfold iG;refine cf (dge (Q5 _)) ?_;simp
 unfold dK;exact bd this rfl
def zUj (l:List Int) (hl:l.length<2 ^ 20):oU l=some (l.flatMap be4):=by
 have:zP (pO l) FU ([],0)=some (l.flatMap be4):=by
  refine yF l.length (λi=>((l.take i).flatMap be4,(i:Int))) jk (λi hi=>?_) ?_ (xJ jh)
  ·unfold pO;refine ct (dlt hi) ?_;refine bd (yBu hi) ?_;refine bd (yC (by rw [zLq];simp;omega)) ?_;rw [zSc l i hi,yO (show i<2 ^ 40 by omega)];rfl
  ·unfold pO;refine cf (dge (Q5 _)) ?_;simp
 unfold oU;refine bd (a:=4*l.length) (by unfold mkN;rw [yI jh jh,if_pos jh];congr 1) ?_;exact bd this rfl
def sha (b:By):By:=(a8 (hsh (zEv b) ((zEv b).length / 64))).flatMap be4
def eE (b:By):(sha b).length=32:=by unfold sha;rw [zLq];rfl
def cR (b:By) (hb:b.length<2 ^ 40):uJ b=some (sha b):=by
 have hz:zs b.length<64:=by unfold zs;omega
 have h1:=zF0 b;have h2:=zIi b;unfold uJ;refine bd zMc ?_;refine bd (ckT rfl) ?_;refine bd (zI6 b hb) ?_;refine bd (zP9 (zEv b) ((zEv b).length / 64) jh jh) ?_;refine bd (ckT rfl) ?_;refine bd (zO1 _ (by simp [a8])) ?_;rfl
def yG7 (b:By) (hb:b.length<2 ^ 40):zAv 1 b=some (sha b):=by
 have hz:zs b.length<64:=by unfold zs;omega
 have h1:=zF0 b;have h2:=zIi b;unfold zAv;refine cf rfl ?_;refine ct rfl ?_;refine bd (zPz b hb) ?_;refine bd (zQ9 (zEv b) ((zEv b).length / 64) jh jh) ?_;refine bd (zUj _ jk) ?_;rfl
def hd4 (n:Nat):By:=[u8 (xT .i64 (n:Int) 24),u8 (xT .i64 (n:Int) 16),u8 (xT .i64 (n:Int) 8),u8 (n:Int)]
def yOk (n:Nat) (h:n<2 ^ 32):[u8 (xT .u32 (Q1.wrap (n:Int)) 24),u8 (xT .u32 (Q1.wrap (n:Int)) 16),u8 (xT .u32 (Q1.wrap (n:Int)) 8),u8 (Q1.wrap (n:Int))]=hd4 n:=by
 rw [yOy jh jh];rfl
def zU6 (fs:List By):By:=fs.flatMap λf=>hd4 f.length++f
def frm (tag:Int) (fs:List By):By:=u8 tag :: zU6 fs
def tot (fs:List By):Nat:=(fs.map λf=>4+f.length).sum
def yDb (fs:List By):(zU6 fs).length=tot fs:=by
 induction fs with
 | nil=>rfl
 | cons f r ih=>simp only [zU6,tot,List.flatMap_cons,Q6,Qo,Qp] at ih ⊢;rw [ih];simp [hd4]
def eF (tag:Int) (fs:List By):(frm tag fs).length=1+tot fs:=by simp [frm,yDb];omega
def zOj (tag:Int) (fs:List By) (i:Nat) (hi:i<fs.length):frm tag (fs.take (i+1))=(frm tag (fs.take i)++hd4 (fs[i]).length)++fs[i]:=by
 unfold frm zU6;rw [Qc,W4];simp [hi]
def yCr (fs:List By):∀ i,tot (fs.take i)<=tot fs:=by
 induction fs with
 | nil=>intro i;simp
 | cons f r ih=>
  intro i;cases i with
  | zero=>simp [tot]
  | succ j=>have:=ih j;simp only [tot,List.take_succ_cons,Qo,Qp] at this ⊢;omega
def zT3 (fs:List By):fs.length<=tot fs:=by
 induction fs with
 | nil=>simp
 | cons f r ih=>simp only [tot,Qe,Qo,Qp] at ih ⊢;omega
def zTy (fs:List By) (i:Nat) (hi:i<fs.length):tot (fs.take i)+4+(fs[i]).length<=tot fs:=by
 have h:=yCr fs (i+1);have e:tot (fs.take (i+1))=tot (fs.take i)+(4+(fs[i]).length):=by
  unfold tot;rw [Qc,Wk,List.sum_append];simp only [hi,List.getElem?_eq_getElem,Wc,Qo,Wr,Qp,Ws];omega
 omega
def eS (tag:Int) (fs:List By) (h:tot fs<2 ^ 32):rI tag fs=some (frm tag fs):=by
 have h1:=zT3 fs;have:zP (jX fs) FU ([u8 tag],0)=some (frm tag fs):=by
  refine yF fs.length (λi=>(frm tag (fs.take i),(i:Int))) (by simp [frm,zU6]) (λi hi=>?_) ?_ (xJ jh)
  ·have h2:=zTy fs i hi;have h3:=eF tag (fs.take i);unfold jX;refine ct (dlt hi) ?_;refine bd (yX hi) ?_;refine bd (yC jl) ?_;refine bd (yX hi) ?_;refine bd (yC jl) ?_;rw [zOj tag fs i hi,yO (show i<2 ^ 40 by omega)];rfl
  ·unfold jX;refine cf (dge (Q5 _)) ?_;simp
 unfold rI;exact bd this rfl
def zU8 (tag:Int) (fs:List By) (h:tot fs<2 ^ 32):eD tag fs=some (frm tag fs):=by
 have h1:=zT3 fs;have:zP (nJ fs) FU ([u8 tag],0)=some (frm tag fs):=by
  refine yF fs.length (λi=>(frm tag (fs.take i),(i:Int))) (by simp [frm,zU6]) (λi hi=>?_) ?_ (xJ jh)
  ·have h2:=zTy fs i hi;have h3:=eF tag (fs.take i);unfold nJ;refine ct (dlt hi) ?_;refine bd (yX hi) ?_;rw [yOk _ jh];refine bd (yC (by simp [hd4];omega)) ?_;refine bd (yC (by simp [hd4];omega)) ?_;rw [zOj tag fs i hi,yO (show i<2 ^ 40 by omega)]
  ·unfold nJ;refine cf (dge (Q5 _)) ?_;simp
 unfold eD;exact bd this rfl
def hs (tag:Int) (fs:List By):By:=sha (frm tag fs)
def gQ (tag:Int) (fs:List By):(hs tag fs).length=32:=eE _
def rR (tag:Int) (fs:List By) (h:tot fs<2 ^ 32):tB tag fs=some (hs tag fs):=by
 unfold tB;refine bd (eS tag fs h) ?_;exact bd (cR _ (by rw [eF];omega)) rfl
def zIc (tag:Int) (fs:List By) (h:tot fs<2 ^ 32):mC tag fs=some (hs tag fs):=by
 unfold mC;refine bd (zU8 tag fs h) ?_;exact bd (yG7 _ (by rw [eF];omega)) rfl
def beN (n:Int) (size k:Nat):By:=(Qm k).map λ(j:Nat)=>u8 (xT .u64 (Qb.wrap n) (8*((size:Int) - 1 - (j:Int))))
def zE3 (n:Int) (size k:Nat):(beN n size k).length=k:=by simp [beN]
def zNl (n:Int) (size k:Nat):beN n size (k+1)=beN n size k++[u8 (xT .u64 (Qb.wrap n) (8*((size:Int) - 1 - (k:Int))))]:=by simp [beN,Qx]
def wW (b:By) (size:Nat) (n:Int):By:=b++beN n size size
def yL (b:By) (size:Nat) (n:Int):(wW b size n).length=b.length+size:=by simp [wW,zE3]
def uI (b:By) (size:Nat) (n:Int) (h1:1<=size) (h8:size<=8) (hb:b.length<2 ^ 40):xZ b (size:Int) n=some (wW b size n):=by
 have:zP (fX n) FU (b,(size:Int) - 1)=some (wW b size n):=by
  refine yF size (λi=>(b++beN n size i,(size:Int) - 1 - (i:Int))) (by simp [beN]) (λi hi=>?_) ?_ (xJ jh)
  ·unfold fX;refine ct jl ?_;refine ltk ?_;rw [zD1 (n:=(size:Int) - 1 - (i:Int)) jh jh,zD1 (n:=8*((size:Int) - 1 - (i:Int))) jh jh];refine bd (yC (by simp [zE3];omega)) ?_;rw [yI jh jh,Qh,<- zNl,show (size:Int) - 1 - (i:Int) - 1=(size:Int) - 1 - ((i+1:Nat):Int) by omega]
  ·unfold fX;refine cf jl rfl
 unfold xZ;refine bd (a:=b) (by rw [yC jl];simp) ?_;refine bd (a:=false) (cf jl (congrArg some jl)) ?_;rw [yI jh jh];exact bd this rfl
def rK (b:By) (size:Nat) (n:Int) (h1:1<=size) (h8:size<=8) (hb:b.length<2 ^ 40):pP b (size:Int) n=some (wW b size n):=by
 have:zP (fK n) FU (b,(size:Int) - 1)=some (wW b size n):=by
  refine yF size (λi=>(b++beN n size i,(size:Int) - 1 - (i:Int))) (by simp [beN]) (λi hi=>?_) ?_ (xJ jh)
  ·unfold fK;refine ct jl ?_;refine ltk ?_;rw [yI (n:=8*((size:Int) - 1 - (i:Int))) jh jh,zD1 (n:=8*((size:Int) - 1 - (i:Int))) jh jh];refine bd (yC (by simp [zE3];omega)) ?_;rw [yI jh jh,Qh,<- zNl,show (size:Int) - 1 - (i:Int) - 1=(size:Int) - 1 - ((i+1:Nat):Int) by omega]
  ·unfold fK;refine cf jl rfl
 unfold pP;refine bd (a:=b) (by rw [yC jl];simp) ?_;refine bd (a:=false) (cf jl (congrArg some jl)) ?_;rw [yI jh jh];exact bd this rfl
def wE (b x:By):By:=wW b 2 ((x.take 65535).length:Int)++x.take 65535
def vF (b x:By):(wE b x).length<=b.length+65537:=by simp [wE,yL];omega
def tY (b x:By) (hb:b.length<2 ^ 39):vJ b x=some (wE b x):=by
 unfold vJ;refine bd (a:=x.take 65535) ?_ ?_
 ·by_cases h:65535<x.length
  ·refine ct jl ?_;exact bd (a:=x.take 65535) (by rw [show (0:Int)=((0:Nat):Int) from rfl,show (65535:Int)=((65535:Nat):Int) from rfl,uW jh jh];simp) rfl
  ·refine cf jl ?_;rw [Q2 jh]
 ·refine bd (uI b 2 _ jh jh jh) ?_;refine bd (yC (by rw [yL];simp;omega)) ?_;rfl
def pX (b x:By) (hb:b.length<2 ^ 39):jA b x=some (wE b x):=by
 unfold jA;refine bd (a:=x.take 65535) ?_ ?_
 ·by_cases h:65535<x.length
  ·rw [if_pos jh,show (0:Int)=((0:Nat):Int) from rfl,show (65535:Int)=((65535:Nat):Int) from rfl,uW jh jh];simp
  ·rw [if_neg jh,show (0:Int)=((0:Nat):Int) from rfl,uW jh jh];simp;rw [Q2 jh]
 ·refine bd (rK b 2 _ jh jh jh) ?_;refine bd (yC (by rw [yL];simp;omega)) ?_;rfl
def oS (a b:By) (ha:a.length<2 ^ 40):vC a b=some (a==b):=by
 unfold vC;by_cases h:a.length=b.length
 ·refine cf jl ?_;have:∃ r,zP (mT a b) FU 0=some r/\(match r with | .inl r=>r=false/\a≠b | .inr _=>a=b):=by
   refine zKo (λs=>∃ k:Nat,s=(k:Int)/\k<=a.length/\a.take k=b.take k) (λs=>a.length - s.toNat) _ (λs hs=>?_) FU 0 ⟨0,rfl,jh,jk⟩ (xJ jh);obtain ⟨k,rfl,hk,he⟩:=hs;by_cases hk2:k<a.length
   ·by_cases hv:a[k]=b[k]
    ·refine .inl ⟨((k+1:Nat):Int),?_,⟨k+1,rfl,jh,?_⟩,jl⟩
     ·unfold mT;refine ct (dlt hk2) ?_;refine bd (yX hk2) ?_;refine bd (yX (h▸hk2)) ?_;refine cf (by rw [hv];simp) ?_;rw [yO jh]
     ·rw [Qc,Qc,he];simp [hk2,hv,h▸hk2]
    ·refine .inr ⟨.inl false,?_,rfl,λe=>hv (by subst e;rfl)⟩;unfold mT;refine ct (dlt hk2) ?_;refine bd (yX hk2) ?_;refine bd (yX (h▸hk2)) ?_;refine ct ?_ rfl;simp only [bne_iff_ne,ne_eq];intro e;exact hv (Ql.mp jh)
   ·refine .inr ⟨.inr (),?_,?_⟩
    ·unfold mT;exact cf (dge jh) rfl
    ·have e1:a.take k=a:=Q2 jh;have e2:b.take k=b:=Q2 jh;rw [e1,e2] at he;exact he
  obtain ⟨r,h1,h2⟩:=this;refine bd h1 ?_;cases r with
  | inl r=>obtain ⟨rfl,h3⟩:=h2;simp [h3]
  | inr u=>simp [h2]
 ·refine ct jl ?_;have:a≠b:=λe=>h (by rw [e]);simp [this]
def lU (b:By) (h:b.length<2 ^ 40):wR b=some b:=by
 unfold wR;refine bd (yC jl) ?_;simp
structure RS where
 b:By
 at':Nat
 e:Int
def RS.W (r:RS):yY:=⟨r.b,(r.at':Int),r.e⟩
def RS.R (r:RS):zQ:=⟨r.b,(r.at':Int),r.e⟩
def RS.Ok (r:RS):Prop:=r.at'<=r.b.length/\r.b.length<2 ^ 40
def RS.err (r:RS) (e:Int):RS:=⟨r.b,r.at',e⟩
def RS.to (r:RS) (n:Nat):RS:=⟨r.b,r.at'+n,r.e⟩
def RS.left (r:RS):Nat:=r.b.length - r.at'
def RS.get (r:RS) (n:Nat):By:=(r.b.drop r.at').take n
def RS.get_len (r:RS) (n:Nat) (h:n<=r.left):(r.get n).length=n:=by simp [RS.get,RS.left] at *;omega
def cM (r:RS) (n:Nat):By×RS:=if r.e≠0 then ([],r) else if r.left<n then ([],r.err 2) else (r.get n,r.to n)
def beV (l:By):Nat->Int
 | 0=>0
 | k+1=>ior .u64 (qW .u64 (beV l k) 8) (Qb.wrap ((l.getD k 0).toNat:Int))
def wS (r:RS) (n:Nat):Int×RS:=
 if r.e≠0 then (0,r) else if r.left<n then (0,r.err 2) else if 9223372036854775808<=beV (r.get n) n then (0,r.err 4) else (Q0.wrap (beV (r.get n) n),r.to n)
def v2 (r:RS):Nat:=(r.b.getD r.at' 0).toNat*256+(r.b.getD (r.at'+1) 0).toNat
def wG (r:RS) (most:Nat):By×RS:=
 if r.e≠0 then ([],r) else if r.left<2 then ([],r.err 2) else if most<v2 r then ([],r.err 4) else if r.left<2+v2 r then ([],r.err 2) else ((r.b.drop (r.at'+2)).take (v2 r),r.to (2+v2 r))
def iS (r:RS):Int:=if r.e=0/\0<r.left then 3 else r.e
def zZk (r:RS) (n:Nat) (h:r.Ok):(cM r n).2.Ok:=by
 unfold cM;split
 ·exact h
 split
 ·exact h
 ·obtain ⟨z,g⟩:=h;exact ⟨by simp only [RS.to,RS.left] at *;omega,g⟩
def zGf (r:RS) (n:Nat) (h:r.Ok):(wS r n).2.Ok:=by
 unfold wS;split
 ·exact h
 split
 ·exact h
 split
 ·exact h
 ·obtain ⟨z,g⟩:=h;exact ⟨by simp only [RS.to,RS.left] at *;omega,g⟩
def jE (r:RS) (n:Nat) (h:r.Ok):(wG r n).2.Ok:=by
 unfold wG;split
 ·exact h
 split
 ·exact h
 split
 ·exact h
 split
 ·exact h
 ·obtain ⟨z,g⟩:=h;exact ⟨by simp only [RS.to,RS.left] at *;omega,g⟩
def zMk (r:RS) (h:r.Ok):Q0.wrap ((r.b.length:Int) - (r.at':Int))=(r.left:Int):=by
 obtain ⟨g,z⟩:=h;rw [yI jh jh];simp only [RS.left];omega
def zX5 (r:yY) (a n:Nat) (D:a<=r.b_.length) (A:r.b_.length<2 ^ 40) (z:r.b_.length - a<n):uE r (a:Int) (n:Int)=some ([],2,r):=by
 refine ct ?_ rfl;rw [yI jh jh];simp;omega
def zVg (r:yY) (a n:Nat) (D:r.b_.length<2 ^ 40) (A:a+n<=r.b_.length):uE r (a:Int) (n:Int)=some ((r.b_.drop a).take n,0,r):=by
 refine cf ?_ ?_
 ·rw [yI jh jh];simp;omega
 ·refine bd ?_ rfl;rw [yI jh jh,show  a  + (n:Int)=((a+n:Nat):Int) by omega,uW jh jh,W9]
def yG5 (r:RS) (n:Nat) (h:r.Ok) (z:r.left<n):uE r.W (r.at':Int) (n:Int)=some ([],2,r.W):=zX5 _ _ n h.1 h.2 z
def yAh (r:RS) (n:Nat) (h:r.Ok) (z:n<=r.left):uE r.W (r.at':Int) (n:Int)=some (r.get n,0,r.W):=
 zVg _ _ n h.2 (by have:=h.1;simp only [RS.left] at z;show r.at'+n<=r.b.length;omega)
def zHw (r:RS) (n:Nat) (h:r.Ok) (F:r.e=0) (E:r.left<n):xN r.R (n:Int)=some (false,(r.err 2).R):=by
 unfold xN RS.R;refine bd (a:=2) ?_ rfl;refine bd (a:=true) ?_ rfl;refine ct (by simp [F]) ?_;rw [zMk r h,dlt E]
def zFc (r:RS) (n:Nat) (h:r.Ok) (D:r.e=0) (F:n<=r.left):xN r.R (n:Int)=some (true,r.R):=by
 unfold xN RS.R;refine bd (a:=0) ?_ (by simp [D]);refine bd (a:=false) ?_ (by simp [D]);refine ct (by simp [D]) ?_;rw [zMk r h,dge F]
def b0 (h:e=0):(e != 0)=false:=by simp_all
def b1 (h:e≠0):(e != 0)=true:=by simp [h]
def c0 (h:e=0):(e==0)=true:=by simp_all
def c1 (h:e≠0):(e==0)=false:=by simp [h]
def zLr (n:Nat):decide ((n:Int)<0)=false:=by simp
def zQl (r:RS) (n:Nat) (h:r.Ok):nM r.R (n:Int)=some ((cM r n).1,(cM r n).2.R):=by
 unfold nM;by_cases z:r.e=0
 ·refine bd (a:=0) ?_ ?_
  ·refine bd (a:=false) ?_ (congrArg some z);refine ct (c0 z) ?_;exact congrArg some (zLr n)
  ·have G:(⟨r.R.B,r.R.At,0⟩:zQ)=r.R:=by simp [RS.R,z]
   rw [G];by_cases D:r.left<n
   ·refine bd (a:=(true,r.b,(r.at':Int),2)) ?_ ?_
    ·refine cf rfl ?_;exact bd (zHw r n h z D) rfl
    ·refine ct rfl ?_;rw [show cM r n=([],r.err 2) by simp [cM,z,D]];rfl
   ·refine bd (a:=(false,r.b,(r.at':Int),r.e)) ?_ ?_
    ·refine cf rfl ?_;exact bd (zFc r n h z jh) rfl
    ·refine cf rfl ?_;have H:=RS.get_len r n jh;obtain ⟨I,J⟩:=h;have F:=D;simp only [RS.left] at F;rw [yI (n:=(r.at':Int)+(n:Int)) jh jh,yI (n:=(r.at':Int)+(n:Int) - (n:Int)) jh jh,show (r.at':Int)+(n:Int) - (n:Int)=(r.at':Int) by omega,show (r.at':Int)+(n:Int)=((r.at'+n:Nat):Int) by omega];refine ltk ?_;refine bd (a:=r.get n) (by rw [uW jh jh,W9];rfl) ?_;refine bd (a:=r.get n) (by rw [yC (by simp;simp only [RS.left] at D;omega)];simp) ?_;rw [show cM r n=(r.get n,r.to n) by simp [cM,z,D]];rfl
 ·refine bd (a:=r.e) ?_ ?_
  ·refine bd (a:=false) ?_ rfl;exact cf (c1 z) rfl
  ·refine bd (a:=(true,r.b,(r.at':Int),r.e)) (ct (b1 z) rfl) ?_;refine ct rfl ?_;rw [show cM r n=([],r) by simp [cM,z]];rfl
def yNw (l:By) (A:l.length<2 ^ 40):zP (fC l) FU (0,0)=some (beV l l.length):=by
 refine yF l.length (λi=>(beV l i,(i:Int))) rfl (λi g=>?_) ?_ (xJ jh)
 ·refine ct (dlt g) ?_;refine bd (yX g) ?_;refine ltk ?_;rw [yO (show i<2 ^ 40 by omega)];simp [beV,g]
 ·exact cf (dge (Q5 _)) rfl
def yP0 (b:By) (g n:Nat) (h:g+n<=b.length) (H:b.length<2 ^ 40):zP (sT (n:Int) b (g:Int)) FU (0,0)=some (beV ((b.drop g).take n) n):=by
 refine yF n (λi=>(beV ((b.drop g).take n) i,(i:Int))) rfl (λi F=>?_) ?_ (xJ jh)
 ·unfold sT;refine ct (dlt F) ?_;refine bd (a:=((b.drop g).take n).getD i 0) ?_ ?_
  ·rw [yI jh jh,show (g:Int)+(i:Int)=((g+i:Nat):Int) by omega,yX jh];have G:i<((b.drop g).take n).length:=by simp;omega
   simp_all
  ·refine ltk ?_;rw [yO (show i<2 ^ 40 by omega)];rfl
 ·unfold sT;exact cf (dge (Q5 _)) rfl
def zJ9 (r:RS) (n:Nat) (h:r.Ok) (H:1<=n) (J:n<=8):sY r.W (n:Int)=some ((wS r n).1,(wS r n).2.W):=by
 unfold sY;by_cases z:r.e=0
 ·refine cf (b0 z) ?_;refine bd (a:=false) (cf jl (congrArg some jl)) ?_;refine cf rfl ?_;by_cases A:r.left<n
  ·refine bd (yG5 r n h A) ?_;refine ct rfl ?_;rw [show wS r n=(0,r.err 2) by simp [wS,z,A]];rfl
  ·refine bd (yAh r n h jh) ?_;refine cf rfl ?_;have I:=RS.get_len r n jh;refine bd (a:=beV (r.get n) n) ((yNw _ jh).trans (by rw [I])) ?_;by_cases G:9223372036854775808<=beV (r.get n) n
   ·refine ct jl ?_;rw [show wS r n=(0,r.err 4) by simp [wS,z,A,G]];rfl
   ·refine cf jl ?_;obtain ⟨H,K⟩:=h;show some (_,(⟨r.b,Q0.wrap ((r.at':Int)+(n:Int)),r.e⟩:yY))=_;have E:=A;simp only [RS.left] at E;rw [yI (n:=(r.at':Int)+(n:Int)) jh jh,show (r.at':Int)+(n:Int)=((r.at'+n:Nat):Int) by omega];rw [show wS r n=(Q0.wrap (beV (r.get n) n),r.to n) by simp [wS,z,A,G]];rfl
 ·refine ct (b1 z) ?_;rw [show wS r n=(0,r) by simp [wS,z]]
def kA (r:RS) (n:Nat) (h:r.Ok) (H:1<=n) (K:n<=8):uD r.R (n:Int)=some ((wS r n).1,(wS r n).2.R):=by
 unfold uD;by_cases g:r.e=0
 ·refine bd (a:=0) ?_ ?_
  ·refine bd (a:=false) ?_ (congrArg some g);refine ct (c0 g) ?_;exact cf jl (congrArg some jl)
  ·have I:(⟨r.R.B,r.R.At,0⟩:zQ)=r.R:=by simp [RS.R,g]
   rw [I];by_cases D:r.left<n
   ·refine bd (a:=(true,r.b,(r.at':Int),2)) ?_ ?_
    ·refine cf rfl ?_;exact bd (zHw r n h g D) rfl
    ·refine ct rfl ?_;rw [show wS r n=(0,r.err 2) by simp [wS,g,D]];rfl
   ·refine bd (a:=(false,r.b,(r.at':Int),r.e)) ?_ ?_
    ·refine cf rfl ?_;exact bd (zFc r n h g jh) rfl
    ·refine cf rfl ?_;obtain ⟨H,J⟩:=h;have F:=D;simp only [RS.left] at F;refine bd (a:=beV (r.get n) n) (yP0 r.b r.at' n jh J) ?_;by_cases G:9223372036854775808<=beV (r.get n) n
     ·refine ct jl ?_;rw [show wS r n=(0,r.err 4) by simp [wS,g,D,G]];rfl
     ·refine cf jl ?_;rw [yI (n:=(r.at':Int)+(n:Int)) jh jh,show (r.at':Int)+(n:Int)=((r.at'+n:Nat):Int) by omega];rw [show wS r n=(Q0.wrap (beV (r.get n) n),r.to n) by simp [wS,g,D,G]];rfl
 ·refine bd (a:=r.e) ?_ ?_
  ·refine bd (a:=false) ?_ rfl;exact cf (c1 g) rfl
  ·refine bd (a:=(true,r.b,(r.at':Int),r.e)) (ct (b1 g) rfl) ?_;refine ct rfl ?_;rw [show wS r n=(0,r) by simp [wS,g]];rfl
def yPm (x y:UInt8):ior .i64 (qW .i64 (Q0.wrap (x.toNat:Int)) 8) (Q0.wrap (y.toNat:Int))=((x.toNat*256+y.toNat:Nat):Int):=by
 have F:=x.toNat_lt;have E:=y.toNat_lt;rw [yI jh jh,yI jh jh];have A:qW .i64 (x.toNat:Int) 8=((x.toNat*256:Nat):Int):=by
  show Q0.wrap ((x.toNat:Int)*256)=_;rw [yI jh jh];omega
 rw [A];unfold ior;have D:(Qi Q0.bits ((x.toNat*256:Nat):Int) ||| Qi Q0.bits (y.toNat:Int)).toNat=x.toNat*256+y.toNat:=by
  show (Qi 64 ((x.toNat*256:Nat):Int) ||| Qi 64 (y.toNat:Int)).toNat=_;rw [Q4,Q4,Wl,Q8,Q8,Qa jh,Qa jh];rw [Nat.mul_comm,show (256:Nat)=2 ^ 8 from rfl,<- Nat.two_pow_add_eq_or_of_lt jh]
 rw [D,yI jh jh]
def ig {l:By} (h:i<l.length):idx l (i:Int)=some (l.getD i 0):=by rw [yX h];simp [h]
def rO (r:RS) (m:Nat) (h:r.Ok):wJ r.R (m:Int)=some ((wG r m).1,(wG r m).2.R):=by
 have hv:v2 r<65536:=by
  have U:=(r.b.getD r.at' 0).toNat_lt;have W:=(r.b.getD (r.at'+1) 0).toNat_lt;unfold v2;omega
 unfold wJ;by_cases A:r.e=0
 ·by_cases F:r.left<2
  ·refine bd (a:=(true,r.b,(r.at':Int),2)) (cf (b0 A) (bd (zHw r 2 h A F) rfl)) ?_;refine ct rfl ?_;rw [show wG r m=([],r.err 2) by simp [wG,A,F]];rfl
  ·refine bd (a:=(false,r.b,(r.at':Int),r.e)) (cf (b0 A) (bd (zFc r 2 h A jh) rfl)) ?_;refine cf rfl ?_;have L:=F;simp only [RS.left] at L;have h':=h;obtain ⟨U,W⟩:=h';refine bd (a:=r.b.getD r.at' 0) (ig jh) ?_;refine bd (a:=r.b.getD (r.at'+1) 0) (by rw [yO jh];exact ig jh) ?_;refine ltk ?_;rw [yPm];show (bif decide ((m:Int)<(v2 r:Int)) then _ else _)=_;by_cases I:m<v2 r
   ·refine ct (dlt I) ?_;rw [show wG r m=([],r.err 4) by simp [wG,A,F,I]];rfl
   ·refine cf (dge jh) ?_;have V:Q0.wrap (2+(v2 r:Int))=((2+v2 r:Nat):Int):=by rw [yI jh jh];omega
    show ((xN r.R (Q0.wrap (2+(v2 r:Int)))).bind λp=>bif !p.1 then _ else lt (Q0.wrap (p.2.At+Q0.wrap (2+(v2 r:Int)))) _)=_;rw [V];by_cases J:r.left<2+v2 r
    ·refine bd (zHw r (2+v2 r) h A J) ?_;refine ct rfl ?_;rw [show wG r m=([],r.err 2) by simp [wG,A,F,I,J]]
    ·have N:=J;simp only [RS.left] at N;refine bd (zFc r (2+v2 r) h A jh) ?_;refine cf rfl ?_;refine ltk ?_;show ((sub r.b (Q0.wrap (Q0.wrap ((r.at':Int)+((2+v2 r:Nat):Int)) - (v2 r:Int))) (Q0.wrap ((r.at':Int)+((2+v2 r:Nat):Int)))).bind λz=>(yM 1 [] z).bind λy=>some (y,zQ.mk r.b (Q0.wrap ((r.at':Int)+((2+v2 r:Nat):Int))) r.e))=_;rw [yI (n:=(r.at':Int)+((2+v2 r:Nat):Int)) jh jh,show (r.at':Int)+((2+v2 r:Nat):Int)=((r.at'+(2+v2 r):Nat):Int) by omega,yI jh jh,show ((r.at'+(2+v2 r):Nat):Int) - (v2 r:Int)=((r.at'+2:Nat):Int) by omega];refine bd (a:=(r.b.drop (r.at'+2)).take (v2 r)) (by rw [uW jh jh];congr 2;omega) ?_;refine bd (a:=(r.b.drop (r.at'+2)).take (v2 r)) ((yC jl).trans rfl) ?_;rw [show wG r m=((r.b.drop (r.at'+2)).take (v2 r),r.to (2+v2 r)) by simp [wG,A,F,I,J]];rfl
 ·refine bd (a:=(true,r.b,(r.at':Int),r.e)) (ct (b1 A) rfl) ?_;refine ct rfl ?_;rw [show wG r m=([],r) by simp [wG,A]];rfl
def zEy (r:RS) (h:r.Ok):tU r.R=some (iS r,r.R):=by
 unfold tU;by_cases z:r.e=0
 ·refine bd (a:=(decide (0<(r.left:Int)),r.b,(r.at':Int),r.e)) (ct (c0 z) ?_) ?_
  ·show some (decide (0<Q0.wrap ((r.b.length:Int) - (r.at':Int))),r.b,(r.at':Int),r.e)=_;rw [zMk r h]
  ·by_cases E:0<r.left
   ·refine ct jl ?_;simp only [iS,z,E];rw [<- z];rfl
   ·refine cf jl ?_;simp only [iS,z,E];rw [<- z];simp [RS.R]
 ·refine bd (cf (c1 z) rfl) ?_;refine cf rfl ?_;simp only [iS,z];simp [RS.R]
end Go.Proofs.TT
namespace Go.Sw
open Go
variable {a b:Nat}{i:Int}{j:Nat}{α β:Type}{P:α->Prop}{f:α->Option β}{l:List α}{o:Option α}
def Def (o:Option α) (P:α->Prop):Prop:=∃ a,o=some a/\P a
def Def.bd {Q:β->Prop} (h:Def o P) (k:∀ a,P a->Def (f a) Q):Def (o.bind f) Q:=by
 obtain ⟨a,rfl,h⟩:=h;exact k a h
def Def.s {a:α} {Q:α->Prop} (h:Q a):Def (some a) Q:=⟨a,rfl,h⟩
def Def.of {a:α} {Q:α->Prop} (e:o=some a) (h:Q a):Def o Q:=⟨a,e,h⟩
def Def.c {b:Bool} {x y:Option α} {Q:α->Prop} (h:b=true->Def x Q) (k:b=false->Def y Q):Def (bif b then x else y) Q:=by
 cases b
 ·exact k rfl
 ·exact h rfl
def Def.ck {b:Bool} (h:b=true):Def (Go.Sw.ck b) (λ_=>True):=⟨(),ckT h,trivial⟩
def Def.lt {e:α} {Q:β->Prop} (k:Def (f e) Q):Def (Go.Sw.lt e f) Q:=k
def Def.mono {Q:α->Prop} (h:Def o P) (k:∀ a,P a->Q a):Def o Q:=by
 obtain ⟨a,e,h⟩:=h;exact ⟨a,e,k a h⟩
def Def.get (d:α) (h:Def o P):o=some (o.getD d)/\P (o.getD d):=by
 obtain ⟨a,rfl,h⟩:=h;exact ⟨rfl,h⟩
def Def.loop {X Y:Type} {step:X->Option (X ⊕ Y)} {s:X} {Q:Y->Prop} (I:X->Prop) (m:X->Nat)
  (h:∀ s,I s->Def (step s) (λr=>match r with | .inl s'=>I s'/\m s'<m s | .inr r=>Q r)) (h0:I s) (hm:m s<2 ^ 64):Def (zP step FU s) Q:=by
 refine zKo I m Q (λs hs=>?_) FU s h0 (xJ hm);obtain ⟨r,e,hr⟩:=h s hs;cases r with
 | inl s'=>exact .inl ⟨s',e,hr.1,hr.2⟩
 | inr r=>exact .inr ⟨r,e,hr⟩
def Def.app {m:List α} (h:(l.length+m.length)*b<=140737488355328):Def (yM b l m) (λr=>r=l++m):=⟨_,yC h,rfl⟩
def Def.idx (h0:0<=i) (h:i<l.length):Def (Go.Sw.idx l i) (λr=>r∈l):=by
 obtain ⟨n,rfl⟩:=Qk h0;exact ⟨_,yX jh,Qj _⟩
def Def.sub {a b:Int} (h0:0<=a) (h1:a<=b) (h2:b<=l.length):Def (Go.Sw.sub l a b) (λr=>r=(l.drop a.toNat).take (b.toNat - a.toNat)):=by
 obtain ⟨n,rfl⟩:=Qk h0;obtain ⟨m,rfl⟩:=Qk (by omega:0<=b);exact ⟨_,uW jh jh,rfl⟩
def Def.ixN {n:Nat} (h0:0<=i) (h:i<n):Def (Go.Sw.ixN n i) (λj=>j=i.toNat/\j<n):=by
 refine ⟨i.toNat,?_,rfl,jh⟩;simp [Go.Sw.ixN,h0,h]
def Def.upd {u:α} (h:j<l.length):Def (wY l j u) (λr=>r=l.set j u):=⟨_,by simp [wY,h],rfl⟩
def Def.at (h:j<l.length):Def (l[j]?) (λr=>r∈l):=⟨l[j],by simp [h],Qj _⟩
def Def.mkN {n:Int} (h0:0<=n) (h:n<2 ^ 40):Def (mkN 1 n) (λj=>j=n.toNat):=⟨n.toNat,by unfold Go.Sw.mkN;rw [if_pos ⟨h0,jh⟩],rfl⟩
def zKa (h:a=b):Nat.beq a b=true:=by subst h;exact Nat.beq_refl a
def zLg (h:a<=b):Nat.ble a b=true:=Nat.ble_eq.mpr h
end Go.Sw
namespace Go.Proofs.TT
open Go Go.Sw
end Go.Proofs.TT
namespace Go.Sw
open Go
def zCt {X Y:Type} {s1 s2:X->Option (X ⊕ Y)} (I:X->Prop) (h:∀ s,I s->s1 s=s2 s/\Def (s2 s) (λr=>∀ s',r=.inl s'->I s')):∀ (n:Nat) (s:X),I s->zP s1 n s=zP s2 n s
 | 0,_,_=>rfl
 | n+1,s,hs=>by
  obtain ⟨e,r,hr,hI⟩:=h s hs;simp only [zP];rw [e,hr];cases r with
  | inl s'=>exact zCt I h n s' (hI s' rfl)
  | inr y=>rfl
end Go.Sw
namespace Go.Proofs.TT
open Go Go.Sw
variable {H a:Nat}{auth:By}{b:Int}{data:By}{h i j k:Nat}{l:List By}{p:zM}{parent:zK}{t:zM}{α:Type}
def dT {p:Prop} [Decidable p] (h:decide p=true):p:=by simpa using h
def dF {p:Prop} [Decidable p] (h:decide p=false):¬ p:=by simpa using h
def two {X Y:Type} {step:X->Option (X ⊕ Y)} {a b c:X} {r:Y} (h0:step a=some (.inl b)) (h1:step b=some (.inl c)) (h2:step c=some (.inr r)):zP step FU a=some r:=by
 refine yF 2 (λi=>match i with | 0=>a | 1=>b | _=>c) rfl (λi hi=>?_) h2 (xJ ji);have:i=0∨i=1:=jh
 rcases this with rfl | rfl
 ·exact h0
 ·exact h1
def yM3 (x n m:Int) (h:xB .u64 (Qb.wrap n) 31=32 - m) (hn:n=32 - m) (h0:0<=m) (h1:m<=32):zR x n=sW x n:=by
 rw [lN x n m h h0 h1];subst hn;have h2:Qb.wrap (32 - (32 - m))=m:=by rw [Qv];omega
 have h4:decide ((0:Int)<=32 - m)=true:=by simp;omega
 simp only [sW,ck,lt,h2,h4,rr,cond_true,Q7];rw [zM5]
def rot1 (x:Int):zR x 1=sW x 1:=yM3 x 1 31 ji ji ji ji
def rot5 (x:Int):zR x 5=sW x 5:=yM3 x 5 27 ji ji ji ji
def yOl (x:Int):zR x 30=sW x 30:=yM3 x 30 2 ji ji ji ji
def zH3 (x n:Int) (h0:0<=n):Def (sW x n) (λ_=>True):=by
 unfold sW;refine Def.bd (Def.ck (by simpa using h0)) (λ_ _=>?_);exact Def.lt (Def.s trivial)
def w80 {w:List Int} (hw:w.length=80) (hj:j<80):Def (w[j]?) (λ_=>True):=(Def.at jh).mono λ_ _=>trivial
def ixw {n:Nat} (hn:j<n) (z:Int) (hz:z=(j:Int)):Def (Go.Sw.ixN n z) (λr=>r=j):=by
 subst hz;exact (Def.ixN jh jh).mono λa h=>by rw [h.1];simp
def s1_s (x:By) (at' i:Nat) (w:List Int) (h:at'+64<=x.length) (hb:x.length<2 ^ 42) (hi:i<=80) (hw:w.length=80) :
  Def (tW x (at':Int) ((i:Int),w)) (λr=>match r with | .inl s=>∃ w',s=(((i+1:Nat):Int),w')/\i<80/\w'.length=80 | .inr w=>w.length=80):=by
 unfold tW;refine Def.c (λh=>?_) (λ_=>Def.s hw);have hi2:i<80:=by have:=dT h;omega
 have up:∀ v,Def ((Go.Sw.ixN 80 (i:Int)).bind λj=>(wY w j v).bind λw=>some w) (λw'=>w'.length=80):=λv=>by
  refine Def.bd (ixw hi2 _ rfl) (λj hj=>?_);subst hj;exact Def.bd (Def.upd jh) (λr hr=>Def.s (by rw [hr];simpa using hw))
 refine Def.bd (P:=λw'=>w'.length=80) ?_ (λw' hw'=>Def.s ⟨w',by rw [yO jh],hi2,hw'⟩);refine Def.c (λh16=>?_) (λh16=>?_)
 ·have h16':i<16:=by have:=dT h16;omega
  rw [yI jh jh];refine Def.bd (Def.sub jh jh jh) (λy hy=>?_);have hyl:y.length=64:=by rw [hy];simp;omega
  exact Def.bd (P:=λ_=>True) (Def.of (zL5 y i jh jh) trivial) (λv _=>up v)
 ·have h16':16<=i:=by have:=dF h16;omega
  have wr:∀ k:Nat,k<=16->Q0.wrap ((i:Int) - (k:Int))=((i - k:Nat):Int):=λk hk=>by rw [yI jh jh];omega
  refine Def.bd (ixw (show i - 3<80 by omega) _ (wr 3 jh)) (λj hj=>?_);refine Def.bd (w80 hw jh) (λ_ _=>?_);refine Def.bd (ixw (show i - 8<80 by omega) _ (wr 8 jh)) (λj hj=>?_);refine Def.bd (w80 hw jh) (λ_ _=>?_);refine Def.bd (ixw (show i - 14<80 by omega) _ (wr 14 jh)) (λj hj=>?_);refine Def.bd (w80 hw jh) (λ_ _=>?_);refine Def.bd (ixw (show i - 16<80 by omega) _ (wr 16 jh)) (λj hj=>?_);refine Def.bd (w80 hw jh) (λ_ _=>?_);refine Def.lt ?_;exact Def.bd (zH3 _ _ ji) (λv _=>up v)
def s1_e (x:By) (at' i:Nat) (w:List Int) (h:at'+64<=x.length) (hb:x.length<2 ^ 42):uQ (qG x at') ((i:Int),w)=tW x (at':Int) ((i:Int),w):=by
 unfold uQ tW;have hs:sub x (at':Int) (Q0.wrap ((at':Int)+64))=some (qG x at'):=by
  rw [yI jh jh,show (at':Int)+64=((at'+64:Nat):Int) by omega,uW jh jh];simp [qG]
 simp only [rot1,hs,zOi,Q7]
def yNr (x:By) (at':Nat) (h:at'+64<=x.length) (hb:x.length<2 ^ 42) :
  Def (zP (tW x (at':Int)) FU (0,Q3 80 0)) (λw=>w.length=80/\zP (uQ (qG x at')) FU (0,Q3 80 0)=some w):=by
 have e:zP (uQ (qG x at')) FU (0,Q3 80 0)=zP (tW x (at':Int)) FU (0,Q3 80 0):=by
  refine zCt (λs=>∃ i:Nat,s.1=(i:Int)/\i<=80/\s.2.length=80) (λs hs=>?_) _ _ ⟨0,rfl,jh,jk⟩;obtain ⟨i',w⟩:=s;obtain ⟨i,h1,hi,hw⟩:=hs;have h1:i'=(i:Int):=h1;subst h1;refine ⟨s1_e x at' i w h hb,(s1_s x at' i w h hb hi hw).mono λr hr s' hs'=>?_⟩;subst hs';obtain ⟨w',rfl,h2,h3⟩:=hr;exact ⟨i+1,rfl,jh,h3⟩
 rw [e];obtain ⟨w,h1,h2⟩:Def (zP (tW x (at':Int)) FU (0,Q3 80 0)) (λw=>w.length=80):=by
  refine Def.loop (λs=>∃ i:Nat,s.1=(i:Int)/\i<=80/\s.2.length=80) (λs=>80 - s.1.toNat) (λs hs=>?_) ⟨0,rfl,jh,jk⟩ jk;obtain ⟨i',w⟩:=s;obtain ⟨i,h1,hi,hw⟩:=hs;have h1:i'=(i:Int):=h1;subst h1;refine (s1_s x at' i w h hb hi hw).mono λr hr=>?_;cases r with
  | inl s'=>
   obtain ⟨w',rfl,h2,h3⟩:=hr;exact ⟨⟨i+1,rfl,jh,h3⟩,by simp only [Qt];omega⟩
  | inr w=>exact hr
 exact ⟨w,h1,h2,h1⟩
def r1_s (w:List Int) (hw:w.length=80) (a b c d e:Int) (i:Nat) (hi:i<=80) :
  Def (sB w (a,b,c,d,e,(i:Int))) (λr=>match r with | .inl s=>s.2.2.2.2.2=((i+1:Nat):Int)/\i<80 | .inr _=>True):=by
 unfold sB;refine Def.c (λh=>?_) (λ_=>Def.s trivial);have hi2:i<80:=by have:=dT h;omega
 refine Def.bd (P:=λ_=>True) ?_ (λx _=>?_)
 ·exact Def.c (λ_=>Def.lt (Def.s trivial)) (λ_=>Def.c (λ_=>Def.s trivial) (λ_=>Def.c (λ_=>Def.lt (Def.s trivial)) (λ_=>Def.s trivial)))
 obtain ⟨f,k⟩:=x;refine Def.bd (zH3 _ _ ji) (λ_ _=>?_);refine Def.lt ?_;refine Def.bd (ixw hi2 _ rfl) (λj hj=>?_);refine Def.bd (w80 hw jh) (λ_ _=>?_);refine Def.lt ?_;refine Def.bd (zH3 _ _ ji) (λ_ _=>Def.s ?_);exact ⟨yO jh,hi2⟩
def r1_e (w:List Int) (a b c d e:Int) (i:Nat) (hi:i<=80):uU w (a,b,c,d,e,(i:Int))=sB w (a,b,c,d,e,(i:Int)):=by
 have hq:Q0.wrap (Qw (i:Int) 20)=((i / 20:Nat):Int):=by
  rw [show Qw (i:Int) 20=((i / 20:Nat):Int) from rfl];exact yI jh jh
 unfold uU sB;simp only [rot5,yOl,hq];by_cases h1:i<20
 ·rw [show (((i / 20:Nat):Int)==0)=true by simp;omega,show decide ((i:Int)<20)=true by simp;omega];rfl
 by_cases h2:i<40
 ·rw [show (((i / 20:Nat):Int)==0)=false by simp;omega,show decide ((i:Int)<20)=false by simp;omega,show (((i / 20:Nat):Int)==1)=true by simp;omega,show decide ((i:Int)<40)=true by simp;omega];rfl
 by_cases h3:i<60
 ·rw [show (((i / 20:Nat):Int)==0)=false by simp;omega,show decide ((i:Int)<20)=false by simp;omega,show (((i / 20:Nat):Int)==1)=false by simp;omega,show decide ((i:Int)<40)=false by simp;omega,show (((i / 20:Nat):Int)==2)=true by simp;omega,show decide ((i:Int)<60)=true by simp;omega]
 ·by_cases h4:i<80
  ·rw [show (((i / 20:Nat):Int)==0)=false by simp;omega,show decide ((i:Int)<20)=false by simp;omega,show (((i / 20:Nat):Int)==1)=false by simp;omega,show decide ((i:Int)<40)=false by simp;omega,show (((i / 20:Nat):Int)==2)=false by simp;omega,show decide ((i:Int)<60)=false by simp;omega]
  ·rw [show decide ((i:Int)<80)=false by simp;omega];rfl
def yOb (w:List Int) (hw:w.length=80) (a b c d e:Int):Def (zP (sB w) FU (a,b,c,d,e,0)) (λr=>zP (uU w) FU (a,b,c,d,e,0)=some r):=by
 have e1:zP (uU w) FU (a,b,c,d,e,0)=zP (sB w) FU (a,b,c,d,e,0):=by
  refine zCt (λs=>∃ i:Nat,s.2.2.2.2.2=(i:Int)/\i<=80) (λs hs=>?_) _ _ ⟨0,rfl,jh⟩;obtain ⟨a,b,c,d,e,v⟩:=s;obtain ⟨i,h1,hi⟩:=hs;have h1:v=(i:Int):=h1;subst h1;refine ⟨r1_e w a b c d e i hi,(r1_s w hw a b c d e i hi).mono λr hr s' hs'=>?_⟩;subst hs';exact ⟨i+1,hr.1,by have:=hr.2;omega⟩
 rw [e1];obtain ⟨r,h1,_⟩:Def (zP (sB w) FU (a,b,c,d,e,0)) (λ_=>True):=by
  refine Def.loop (λs=>∃ i:Nat,s.2.2.2.2.2=(i:Int)/\i<=80) (λs=>80 - s.2.2.2.2.2.toNat) (λs hs=>?_) ⟨0,rfl,jh⟩ jk;obtain ⟨a,b,c,d,e,v⟩:=s;obtain ⟨i,h1,hi⟩:=hs;have h1:v=(i:Int):=h1;subst h1;refine (r1_s w hw a b c d e i hi).mono λr hr=>?_;cases r with
  | inl s'=>exact ⟨⟨i+1,hr.1,by have:=hr.2;omega⟩,by rw [hr.1];simp only [Qt];have:=hr.2;omega⟩
  | inr r=>trivial
 exact ⟨r,h1,h1⟩
def a5 (s:A5 Int):List Int:=[s.a0,s.a1,s.a2,s.a3,s.a4]
def zX2 (h:A5 Int) (b:By):A5 Int:=(tC h b).getD h
def blk1 (x:By) (at':Nat) (h:A5 Int) (hx:at'+64<=x.length) (hb:x.length<2 ^ 42) :
  tC h (qG x at')=some (zX2 h (qG x at'))/\pL x (a5 h,(at':Int))=some (.inl (a5 (zX2 h (qG x at')),((at'+64:Nat):Int))):=by
 obtain ⟨w,hw1,hw2,hw3⟩:=yNr x at' hx hb;obtain ⟨⟨a,b,c,d,e⟩,hr1,hr2⟩:=yOb w hw2 h.a0 h.a1 h.a2 h.a3 h.a4;have e1:tC h (qG x at')=some ⟨Q1.wrap (h.a0+a),Q1.wrap (h.a1+b),Q1.wrap (h.a2+c),Q1.wrap (h.a3+d),Q1.wrap (h.a4+e)⟩:=by
  unfold tC;refine bd hw3 ?_;exact bd hr2 rfl
 have e2:zX2 h (qG x at')=⟨Q1.wrap (h.a0+a),Q1.wrap (h.a1+b),Q1.wrap (h.a2+c),Q1.wrap (h.a3+d),Q1.wrap (h.a4+e)⟩:=by
  unfold zX2;rw [e1];rfl
 rw [e2];refine ⟨e1,?_⟩;unfold pL;refine ct (dlt jh) ?_;refine bd hw1 ?_;refine bd (a:=h.a0) rfl ?_;refine bd (a:=h.a1) rfl ?_;refine bd (a:=h.a2) rfl ?_;refine bd (a:=h.a3) rfl ?_;refine bd (a:=h.a4) rfl ?_;refine bd hr1 ?_;refine bd (a:=h.a0) rfl ?_;refine bd (a:=h.a1) rfl ?_;refine bd (a:=h.a2) rfl ?_;refine bd (a:=h.a3) rfl ?_;refine bd (a:=h.a4) rfl ?_;rw [yI jh jh,show (at':Int)+64=((at'+64:Nat):Int) by omega];rfl
def yJi:A5 Int:=⟨1732584193,4023233417,2562383102,271733878,3285377520⟩
def zVh (x:By):Nat->A5 Int
 | 0=>yJi
 | i+1=>zX2 (zVh x i) (qG x (64*i))
def zNb (x:By) (n:Nat) (hx:x.length=64*n) (hl:x.length<2 ^ 42):zP (pL x) FU (a5 yJi,0)=some (a5 (zVh x n)):=by
 refine yF n (λi=>(a5 (zVh x i),((64*i:Nat):Int))) rfl (λi hi=>?_) ?_ (xJ jh)
 ·exact (blk1 x (64*i) (zVh x i) jh hl).2
 ·show pL x (a5 (zVh x n),((64*n:Nat):Int))=_;unfold pL;exact cf (dge jh) rfl
def zKc (b:By):By:=(a5 (zVh (zEv b) ((zEv b).length / 64))).flatMap be4
def zJq (b:By):(zKc b).length=20:=by unfold zKc;rw [zLq];rfl
def yA3 (b:By) (hb:b.length<2 ^ 40):zDl b=some (zKc b):=by
 have hz:zs b.length<64:=by unfold zs;omega
 have h1:=zF0 b;have h2:=zIi b;unfold zDl;refine bd (zI6 b hb) ?_;refine bd (zNb (zEv b) ((zEv b).length / 64) jh jh) ?_;exact bd (zO1 _ (by simp [a5])) rfl
def eT {l:List α} (h:k<l.length):l.drop k=l[k] :: l.drop (k+1):=W6 h
def yI4 (k:IntKind) (n j:Nat) (h:j<=k.bits):xT k (n:Int) (j:Int)=((n / 2 ^ j:Nat):Int):=by
 unfold xT;rw [Qt,Nat.min_eq_left h,Int.fdiv_eq_ediv_of_nonneg _ (by have:(0:Int)<2 ^ j:=Int.pow_pos ji;omega)];rw [Int.natCast_ediv];simp
def wb (x:UInt8):Q0.wrap (x.toNat:Int)=(x.toNat:Int):=by
 have:=x.toNat_lt;rw [yI jh jh]
def qS (n:Nat):(u8 (n:Int)).toNat=n % 256:=by
 have:((n:Int) % 256).toNat=n % 256:=jh
 rw [u8,this];simp
def zCd (h:i<l.length):idx l (i:Int)=some (l.getD i []):=by rw [yX h];simp [h]
def yJx (x:UInt8):Q0.wrap ((u8 (xT .u8 (x.toNat:Int) 4)).toNat:Int)=((x.toNat / 16:Nat):Int):=by
 have hx:=x.toNat_lt;rw [show (4:Int)=((4:Nat):Int) from rfl,yI4 .u8 x.toNat 4 ji,qS,yI jh jh];omega
def yI2 (x:UInt8):Q0.wrap ((u8 (xB .u8 (x.toNat:Int) 15)).toNat:Int)=((x.toNat % 16:Nat):Int):=by
 have hx:=x.toNat_lt;have e:xB .u8 (x.toNat:Int) 15=((x.toNat % 16:Nat):Int):=by
  have e:(Qi W7.bits (x.toNat:Int) &&& Qi W7.bits 15).toNat=x.toNat % 16:=by
   show (Qi 8 (x.toNat:Int) &&& Qi 8 ((15:Nat):Int)).toNat=_;rw [Q4,Q4,BitVec.toNat_and,Q8,Q8,Qa jh,Qa jh];exact Nat.and_two_pow_sub_one_eq_mod x.toNat 4
  unfold xB;rw [e,Qy];omega
 rw [e,qS,yI jh jh];omega
def nb (x:UInt8):List Nat:=[x.toNat / 16,x.toNat % 16]
def nbs (h:By):List Nat:=h.flatMap nb
def sm (h:By):Nat:=(h.map λx=>30 - x.toNat / 16 - x.toNat % 16).sum
def yFj (l:By) (i:Nat) (hi:i<l.length):sm (l.take (i+1))=sm (l.take i)+(30 - l[i].toNat / 16 - l[i].toNat % 16):=by
 unfold sm;rw [Qc,Wk,List.sum_append];simp only [hi,List.getElem?_eq_getElem,Wc,Qo,Wr,Qp,Ws];omega
def zXy (l:By):sm l<=30*l.length:=by
 induction l with
 | nil=>simp [sm]
 | cons a r ih=>simp only [sm,Qo,Qp,Qe] at ih ⊢;omega
def yC8 (l:By) (i:Nat) (hi:i<l.length):nbs (l.take (i+1))=nbs (l.take i)++nb l[i]:=by
 unfold nbs;rw [Qc,W4];simp [hi]
def zLa (l:By):(nbs l).length=2*l.length:=by
 induction l with
 | nil=>rfl
 | cons a r ih=>simp [nbs,nb] at ih ⊢;omega
def zFq (l:List Nat):List Int:=l.map λ(n:Nat)=>(n:Int)
def zOg (a b:List Nat):zFq (a++b)=zFq a++zFq b:=by simp [zFq]
def zJa (a:List Nat):(zFq a).length=a.length:=by simp [zFq]
def zNd {l:List Nat} (h:i<l.length):idx (zFq l) (i:Int)=some ((l.getD i 0:Nat):Int):=by
 rw [yX (by rw [zJa];exact h)];simp [zFq,h]
def zEe (m:By):List Nat:=nbs ((hs 4 [m]).take 16)++[sm ((hs 4 [m]).take 16) / 256,sm ((hs 4 [m]).take 16) / 16 % 16,sm ((hs 4 [m]).take 16) % 16]
def eA (tag:Int) (fs:List By):((hs tag fs).take 16).length=16:=by simp [gQ]
def zIu (m:By):(zEe m).length=35:=by have:=eA 4 [m];simp [zEe,zLa,-Qn,this]
def zMs (tag:Int) (fs:List By):sub (hs tag fs) 0 16=some ((hs tag fs).take 16):=by
 have:=gQ tag fs;rw [show (0:Int)=((0:Nat):Int) from rfl,show (16:Int)=((16:Nat):Int) from rfl,uW jh jh];simp
def yLe (a:By):tot [a]=4+a.length:=by simp [tot]
def zVy (a b:By):tot [a,b]=8+a.length+b.length:=by simp [tot];omega
def zX0 (a b c:By):tot [a,b,c]=12+a.length+b.length+c.length:=by simp [tot];omega
def zJp (m:By) (hm:m.length<2 ^ 31):hY m=some (zFq (zEe m)):=by
 unfold hY;refine bd (rR 4 [m] (by rw [yLe];omega)) ?_;refine bd (zMs 4 [m]) ?_;have hl:=eA 4 [m];unfold zEe;generalize (hs 4 [m]).take 16=h at hl ⊢;have hsm:=zXy h;refine bd (a:=(zFq (nbs h),(sm h:Int))) ?_ ?_
 ·refine yF 16 (λi=>(zFq (nbs (h.take i)),(sm (h.take i):Int),(i:Int))) rfl (λi hi=>?_) ?_ (xJ jh)
  ·have h1:=zXy (h.take i);have h2:=zLa (h.take i);have h3:(h.take i).length=i:=by simp;omega
   have hi':i<h.length:=jh
   have hx:=h[i].toNat_lt;unfold cE;refine ct (dlt (b:=16) hi) ?_;refine bd (yX hi') ?_;refine bd (yX hi') ?_;rw [yJx,yI2];refine bd (a:=zFq (nbs (h.take (i+1)))) ?_ ?_
   ·rw [yC (by rw [zJa];simp;omega),yC8 h i hi',zOg];rfl
   refine bd (yX hi') ?_;refine ltk ?_;refine bd (yX hi') ?_;refine ltk ?_;rw [yJx,yI2,yFj h i hi',yO (show i<2 ^ 40 by omega)];rw [yI (n:=30 - _) jh jh,yI (n:=30 - _ - _) jh jh,yI jh jh];congr 4;omega
  ·unfold cE;refine cf rfl ?_;rw [Q2 jh]
 ·have h2:=zLa h;show ((yM 8 (zFq (nbs h)) [Q0.wrap (Qw (sm h:Int) 256),Wa (Q0.wrap (Qw (sm h:Int) 16)) 16,Wa (sm h:Int) 16]).bind λv=>some v)=_;have e1:Q0.wrap (Qw (sm h:Int) 256)=((sm h / 256:Nat):Int):=by rw [Qg jh,yI jh jh];omega
  have e2:Q0.wrap (Qw (sm h:Int) 16)=((sm h / 16:Nat):Int):=by rw [Qg jh,yI jh jh];omega
  have e3:Wa ((sm h / 16:Nat):Int) 16=((sm h / 16 % 16:Nat):Int):=by rw [Qd jh];omega
  have e4:Wa (sm h:Int) 16=((sm h % 16:Nat):Int):=by rw [Qd jh];omega
  rw [e1,e2,e3,e4];refine bd (yC (by rw [zJa];simp;omega)) ?_;rw [zOg];rfl
def chn (leaf c p:Nat) (x:By):Nat->By
 | 0=>x
 | k+1=>(hs 1 [[u8 (leaf:Int),u8 (c:Int),u8 ((p+k:Nat):Int)],chn leaf c p x k]).take 16
def zC9 (leaf c p:Nat) (x:By) (hx:x.length=16):∀ k,(chn leaf c p x k).length=16
 | 0=>hx
 | _+1=>eA _ _
def zGc (leaf c p t:Nat) (x:By) (hx:x.length=16) (hp:p<=t) (ht:t<2 ^ 30):jJ (leaf:Int) (c:Int) (p:Int) (t:Int) x=some (chn leaf c p x (t - p)):=by
 unfold jJ;refine bd ?_ rfl;refine yF (t - p) (λi=>(chn leaf c p x i,((p+i:Nat):Int))) rfl (λi hi=>?_) ?_ (xJ jh)
 ·have hl:=zC9 leaf c p x hx i;unfold bW;refine ct (dlt jh) ?_;refine bd (rR _ _ (by rw [zVy];simp;omega)) ?_;refine bd (zMs _ _) ?_;rw [yO (show p+i<2 ^ 40 by omega)];rfl
 ·unfold bW;exact cf (dge jh) rfl
def nod (sig:By) (i:Nat):By:=(sig.drop (16*i)).take 16
def zQz (leaf:Nat) (d:List Nat) (sig:By):Nat->By
 | 0=>[]
 | i+1=>zQz leaf d sig i++chn leaf i (d.getD i 0) (nod sig i) (15 - d.getD i 0)
def zSq (sig:By) (hs:sig.length=560) (i:Nat) (hi:i<35):(nod sig i).length=16:=by simp [nod];omega
def zIw (leaf:Nat) (d:List Nat) (sig:By) (hs:sig.length=560):∀ i,i<=35->(zQz leaf d sig i).length=16*i
 | 0,_=>rfl
 | i+1,h=>by
  have h1:=zIw leaf d sig hs i jh;have h2:=zC9 leaf i (d.getD i 0) (nod sig i) (zSq sig hs i jh) (15 - d.getD i 0);simp only [zQz,Q6,h1,h2];omega
def yC1 (leaf:Nat) (d:List Nat) (sig:By) (hs:sig.length=560) (hd:d.length=35) (h15:∀ i,i<35->d.getD i 0<=15):zP (gU (leaf:Int) sig (zFq d)) FU ([],0)=some (zQz leaf d sig 35):=by
 refine yF 35 (λi=>(zQz leaf d sig i,(i:Int))) rfl (λi hi=>?_) ?_ (xJ jh)
 ·have hl:=zIw leaf d sig hs i jh;have hn:=zSq sig hs i hi;have hc:=zC9 leaf i (d.getD i 0) (nod sig i) hn (15 - d.getD i 0);unfold gU;refine ct (dlt (b:=35) hi) ?_;refine bd (zNd jh) ?_;refine bd (a:=nod sig i) ?_ ?_
  ·rw [yI (n:=16*(i:Int)) jh jh,yI jh jh,show 16*(i:Int)=((16*i:Nat):Int) by omega,show ((16*i:Nat):Int)+16=((16*i+16:Nat):Int) by omega,uW jh jh];simp [nod]
  refine bd (zGc leaf i _ 15 _ hn (h15 i hi) ji) ?_;refine bd (yC jh) ?_;rw [yO (show i<2 ^ 40 by omega)];rfl
 ·generalize zQz leaf d sig 35=S;rfl
def yJ8 (l:By):∀ n∈nbs l,n<=15:=by
 intro n hn;simp only [nbs,List.mem_flatMap,nb] at hn;obtain ⟨x,_,hx⟩:=hn;have:=x.toNat_lt;simp at hx;omega
def zSi (m:By):∀ i,i<35->(zEe m).getD i 0<=15:=by
 intro i hi;have hl:=zIu m;have:(zEe m).getD i 0∈zEe m:=by
  rw [List.getD_eq_getElem?_getD,List.getElem?_eq_getElem jh];exact Qj _
 generalize (zEe m).getD i 0=v at this ⊢;unfold zEe at this;have hs':=zXy ((hs 4 [m]).take 16);have hl2:=eA 4 [m];rw [List.mem_append] at this;rcases this with h | h
 ·exact yJ8 _ _ h
 ·simp only [Wp,Wh,or_false] at h;omega
def zOd (leaf:Nat) (m sig:By):By:=(hs 2 [[u8 (leaf:Int)],zQz leaf (zEe m) sig 35]).take 16
def zN5 (leaf:Nat) (m sig:By) (hl:leaf<256) (hm:m.length<2 ^ 31) (hs:sig.length=560):fJ (leaf:Int) m sig=some (zOd leaf m sig,true):=by
 have he:=zIw leaf (zEe m) sig hs 35 jh;unfold fJ;refine bd (a:=false) (cf (zLr leaf) (cf jl (by simp [hs]))) ?_;refine cf rfl ?_;refine bd (zJp m hm) ?_;refine bd (yC1 leaf _ sig hs (zIu m) (zSi m)) ?_;refine bd (a:=zOd leaf m sig) ?_ rfl;unfold dY;refine bd (rR _ _ (by rw [zVy,he];simp)) ?_;exact bd (zMs _ _) rfl
def par (h i:Nat) (l r:By):By:=(hs 3 [[u8 (h:Int),u8 (i:Int)],l,r]).take 16
def zLv (h i:Nat) (l r:By) (hl:l.length=16) (hr:r.length=16):eV (h:Int) (i:Int) l r=some (par h i l r):=by
 unfold eV;refine bd (rR _ _ (by rw [zX0,hl,hr];simp)) ?_;exact bd (zMs _ _) rfl
def nd (path:List By) (i:Nat) (leaf:By):Nat->By
 | 0=>leaf
 | k+1=>if i / 2 ^ k % 2=1 then par k (i / 2 ^ (k+1)) (path.getD k []) (nd path i leaf k) else par k (i / 2 ^ (k+1)) (nd path i leaf k) (path.getD k [])
def zZ8 (path:List By) (i:Nat) (leaf:By) (hl:leaf.length=16):∀ k,(nd path i leaf k).length=16
 | 0=>hl
 | k+1=>by
  unfold nd;split<;>exact eA _ _
def half (i k:Nat):i / 2 ^ k / 2=i / 2 ^ (k+1):=by rw [Nat.div_div_eq_div_mul,Wd]
def zK4 (leaf:By) (i:Nat) (path:List By) (hl:leaf.length=16) (hp:path.length<=3) (h16:∀ k,k<path.length->(path.getD k []).length=16) (hi:i<2 ^ path.length) (h8:i<256):zBb leaf (i:Int) path=some (nd path i leaf path.length):=by
 unfold zBb;refine bd (a:=false) ?_ ?_
 ·refine cf jl ?_;refine cf (zLr i) ?_;congr 1;have h4:path.length=0∨path.length=1∨path.length=2∨path.length=3:=jh
  rcases h4 with h | h | h | h<;>rw [h] at hi ⊢ <;> (rw [decide_eq_false_iff_not];show ¬ (_:Int)<=(i:Int))
  ·show ¬ (1:Int)<=i;omega
  ·show ¬ (2:Int)<=i;omega
  ·show ¬ (4:Int)<=i;omega
  ·show ¬ (8:Int)<=i;omega
 refine cf rfl ?_;refine bd (lU leaf jh) ?_;refine bd ?_ rfl;refine yF path.length (λk=>(((i / 2 ^ k:Nat):Int),nd path i leaf k,(k:Int))) (by simp [nd]) (λk hk=>?_) ?_ (xJ jh)
 ·have hn:=zZ8 path i leaf hl k;have hq:=h16 k hk;have hd:i / 2 ^ k<=i:=Wm _ _;have e1:Wa ((i / 2 ^ k:Nat):Int) 2=((i / 2 ^ k % 2:Nat):Int):=by
   generalize i / 2 ^ k=q;rw [Qd jh];omega
  have e2:Q0.wrap (Qw ((i / 2 ^ k:Nat):Int) 2)=((i / 2 ^ (k+1):Nat):Int):=by
   rw [<- half];generalize i / 2 ^ k=q at hd ⊢;rw [Qg jh,yI jh jh];omega
  unfold bI;refine ct (dlt hk) ?_;rw [e1,e2];by_cases hb:i / 2 ^ k % 2=1
  ·refine bd (a:=nd path i leaf (k+1)) (cf (by rw [hb];rfl) ?_) ?_
   ·refine bd (zCd hk) ?_;refine bd (zLv k _ _ _ hq hn) ?_;simp only [nd,if_pos hb]
   ·rw [yO (show k<2 ^ 40 by omega)]
  ·refine bd (a:=nd path i leaf (k+1)) (ct (by
                           have:i / 2 ^ k % 2=0:=jh
                           rw [this];rfl) ?_) ?_
   ·refine bd (zCd hk) ?_;refine bd (zLv k _ _ _ hn hq) ?_;simp only [nd,if_neg hb]
   ·rw [yO (show k<2 ^ 40 by omega)]
 ·unfold bI;exact cf (dge (Q5 _)) rfl
def zGu (sig:By) (h:Nat):List By:=(Qm h).map λ(j:Nat)=>(sig.drop (561+16*j)).take 16
def zCa (sig:By) (h:Nat):(zGu sig h).length=h:=by simp [zGu]
def zWa (sig:By) (h:Nat):zGu sig (h+1)=zGu sig h++[(sig.drop (561+16*h)).take 16]:=by simp [zGu,Qx]
def yIx (sig:By) (h:Nat) (hs:sig.length=561+16*h):∀ k,k<(zGu sig h).length->((zGu sig h).getD k []).length=16:=by
 intro k hk;rw [zCa] at hk;simp [zGu,hk];omega
def vrf (pub m sig:By):Int×Bool:=
 if pub.length≠17∨3<(pub.getD 0 0).toNat then (0,false)
 else if sig.length≠561+16*(pub.getD 0 0).toNat∨2 ^ (pub.getD 0 0).toNat<=(sig.getD 0 0).toNat then (0,false)
 else if nd (zGu sig (pub.getD 0 0).toNat) (sig.getD 0 0).toNat (zOd (sig.getD 0 0).toNat m ((sig.drop 1).take 560)) (pub.getD 0 0).toNat=pub.drop 1 then (((sig.getD 0 0).toNat:Int),true) else (0,false)
def zVr (h:Nat) (hh:h<=3):qW .i64 1 (Qb.wrap (h:Int))=((2 ^ h:Nat):Int):=by
 have h4:h=0∨h=1∨h=2∨h=3:=jh
 rcases h4 with h | h | h | h<;>subst h<;>rfl
def yBd (sig:By) (x:UInt8) (h:Nat) (hx:x.toNat=h) (hs:sig.length=561+16*h) (hh:h<=3):zP (kB sig x) FU (561,[],0)=some (zGu sig h):=by
 refine yF h (λi=>(((561+16*i:Nat):Int),zGu sig i,(i:Int))) rfl (λi hi=>?_) ?_ (xJ jh)
 ·unfold kB;rw [wb,hx];refine ct (dlt hi) ?_;rw [yI (n:=((561+16*i:Nat):Int)+16) jh jh,show ((561+16*i:Nat):Int)+16=((561+16*(i+1):Nat):Int) by omega];refine bd (a:=(sig.drop (561+16*i)).take 16) (by rw [uW jh jh];congr 2;omega) ?_;refine bd (yC (by rw [zCa];simp;omega)) ?_;rw [zWa,yO (show i<2 ^ 40 by omega)]
 ·unfold kB;rw [wb,hx];exact cf (dge (Q5 _)) rfl
def yB2 {l:By} (h:a<=l.length):sub l (a:Int) (l.length:Int)=some (l.drop a):=by
 rw [uW h (Q5 _),Q2 jk]
def zQc (pub m sig:By) (hm:m.length<2 ^ 31) (hp:pub.length<2 ^ 40) (hg:sig.length<2 ^ 40):gC pub m sig=some (vrf pub m sig):=by
 unfold gC;by_cases hl:pub.length=17
 case neg=>
  refine bd (a:=true) (ct jl rfl) ?_;refine ct rfl ?_;rw [vrf,if_pos (.inl hl)]
 have h0:idx pub 0=some (pub.getD 0 0):=ig (i:=0) jh;by_cases h3:3<(pub.getD 0 0).toNat
 ·refine bd (a:=true) (cf jl ?_) ?_
  ·refine bd h0 ?_;rw [wb];refine congrArg some ?_;rw [decide_eq_true_iff];omega
  ·refine ct rfl ?_;rw [vrf,if_pos (.inr h3)]
 refine bd (a:=false) (cf jl ?_) ?_
 ·refine bd h0 ?_;rw [wb];refine congrArg some ?_;rw [decide_eq_false_iff_not];omega
 refine cf rfl ?_;refine bd h0 ?_;have hx:∃ h,(pub.getD 0 0).toNat=h:=⟨_,rfl⟩;obtain ⟨h,hx⟩:=hx;rw [wb,hx];rw [hx] at h3;rw [vrf,hx,if_neg jh];have e1:Q0.wrap (561+Q0.wrap (16*(h:Int)))=((561+16*h:Nat):Int):=by rw [yI (n:=16*(h:Int)) jh jh,yI jh jh];omega
 by_cases hs:sig.length=561+16*h
 case neg=>
  refine bd (a:=true) (ltk ?_) ?_
  ·rw [e1];exact ct jl rfl
  ·refine ct rfl ?_;rw [if_pos (.inl hs)]
 have hs0:idx sig 0=some (sig.getD 0 0):=ig (i:=0) jh;have hy:∃ i,(sig.getD 0 0).toNat=i:=⟨_,rfl⟩;obtain ⟨i,hy⟩:=hy;have hi8:i<256:=by have:=(sig.getD 0 0).toNat_lt;omega
 by_cases hb:2 ^ h<=i
 ·refine bd (a:=true) (ltk ?_) ?_
  ·rw [e1];refine cf jl ?_;refine bd hs0 ?_;refine ltk ?_;rw [wb,zVr h jh,hy];simp;exact_mod_cast hb
  ·refine ct rfl ?_;rw [hy,if_pos (.inr hb)]
 refine bd (a:=false) (ltk ?_) ?_
 ·rw [e1];refine cf jl ?_;refine bd hs0 ?_;refine ltk ?_;rw [wb,zVr h jh,hy];simp;exact_mod_cast (by omega:i<2 ^ h)
 refine cf rfl ?_;refine bd hs0 ?_;rw [wb,hy,if_neg jh];refine bd (a:=(sig.drop 1).take 560) (uW (a:=1) (b:=561) jh jh) ?_;refine bd (zN5 i m _ hi8 hm jl) ?_;refine bd (yBd sig _ h hx hs jh) ?_;have ht:=zZ8 (zGu sig h) i (zOd i m ((sig.drop 1).take 560)) (eA _ _) h;refine bd (zK4 _ i _ (eA _ _) (by rw [zCa];omega) (yIx sig h hs) (by rw [zCa];omega) hi8) ?_;refine bd (yB2 (a:=1) jh) ?_;rw [zCa];generalize nd (zGu sig h) i (zOd i m ((sig.drop 1).take 560)) h=N at ht ⊢;refine bd (oS _ _ jh) ?_;by_cases hN:N=pub.drop 1
 ·rw [if_pos hN];exact cf (by rw [hN];simp) rfl
 ·rw [if_neg hN];exact ct (by simp [-List.drop_one,hN]) rfl
def zIj {l c:List α} (h:l.length=c.length) (hi:i<l.length):wY (l.take i++c.drop i) i l[i]=some (l.take (i+1)++c.drop (i+1)):=by
 have hl:(l.take i).length=i:=by simp;omega
 unfold wY;rw [if_pos jl,List.set_append,if_neg jh,hl,Qz,W6 (l:=c) jh,List.set_cons_zero,<- Q9 hi,Qh];rfl
def pad (x:Int) (k:By):By:=(Qm 64).map λi=>u8 (xK .u8 ((k.getD i 0).toNat:Int) x)
def zLs (x:Int) (k:By):(pad x k).length=64:=by simp [pad]
def zZo (x:Int) (k:By) (h:i<64):(pad x k)[i]'(by rw [zLs];exact h)=u8 (xK .u8 ((k.getD i 0).toNat:Int) x):=by simp [pad]
def zP3 (key:By):By:=if 64<key.length then sha key else key
def mc (key b:By):By:=sha (pad 92 (zP3 key)++sha (pad 54 (zP3 key)++b))
def zQo (key b:By):(mc key b).length=32:=eE _
def yBt (key:By):(zP3 key).length<=64:=by unfold zP3;split<;>simp_all [eE];
def zLx (key b:By) (hk:key.length<2 ^ 39) (hb:b.length<2 ^ 39):aK key b=some (mc key b):=by
 unfold aK;refine bd (a:=zP3 key) ?_ ?_
 ·unfold zP3;by_cases h:64<key.length
  ·refine ct (dlt (a:=64) h) ?_;rw [if_pos h];exact bd (cR key jh) rfl
  ·refine cf jl ?_;rw [if_neg h]
 have hk2:=yBt key;unfold mc;generalize zP3 key=k at hk2 ⊢;refine bd (a:=64) rfl ?_;refine bd (a:=64) rfl ?_;have h1:=zLs 54 k;have h2:=zLs 92 k;refine bd (a:=(pad 54 k,pad 92 k)) ?_ ?_
 ·refine yF 64 (λi=>((i:Int),(pad 54 k).take i++(Q3 64 (0:UInt8)).drop i,(pad 92 k).take i++(Q3 64 (0:UInt8)).drop i)) jk (λi hi=>?_) ?_ (xJ jh)
  ·unfold zCw;refine ct (dlt (b:=64) hi) ?_;refine bd (a:=k.getD i 0) ?_ ?_
   ·by_cases h:i<k.length
    ·exact ct (dlt h) (bd (ig h) rfl)
    ·refine cf (dge jh) ?_;simp [List.getElem?_eq_none (show k.length<=i by omega)]
   refine bd (tH hi) ?_;have e1:=zIj (l:=pad 54 k) (c:=Q3 64 (0:UInt8)) (i:=i) (by simp [h1]) jh;rw [zZo 54 k hi] at e1;refine bd e1 ?_;refine bd (tH hi) ?_;have e2:=zIj (l:=pad 92 k) (c:=Q3 64 (0:UInt8)) (i:=i) (by simp [h2]) jh;rw [zZo 92 k hi] at e2;refine bd e2 ?_;rw [yO (show i<2 ^ 40 by omega)]
  ·unfold zCw;refine cf rfl ?_;rw [Q2 jh,Q2 jh];simp
 ·refine bd (ckT (zKa h1)) ?_;refine bd (ckT rfl) ?_;refine bd (ckT (zKa h2)) ?_;refine bd (ckT rfl) ?_;refine bd (yC (by rw [h1];omega)) ?_;refine bd (cR _ (by rw [Q6,h1];omega)) ?_;refine bd (yC (by rw [h2,eE];decide)) ?_;exact bd (cR _ (by rw [Q6,h2,eE];decide)) rfl
def dvB (key label ctx:By) (n i:Nat):By:=mc key (hd4 i++((label++[0]++ctx)++hd4 (8*n)))
def dvS (key label ctx:By) (n:Nat):Nat->By
 | 0=>[]
 | i+1=>dvS key label ctx n i++dvB key label ctx n (i+1)
def zFw (key label ctx:By) (n:Nat):∀ i,(dvS key label ctx n i).length=32*i
 | 0=>rfl
 | i+1=>by simp [dvS,zFw key label ctx n i,dvB,zQo];omega
def dv (key label ctx:By) (n:Nat):By:=if n<1∨1024<n then [] else (dvS key label ctx n ((n+31) / 32)).take n
def bG (key label ctx:By) (n:Nat) (h:n<=1024):(dv key label ctx n).length=n:=by
 unfold dv;split
 ·simp;omega
 ·rw [Qn,zFw];omega
def yFn (n:Nat):zDg (n:Int)=some (hd4 n):=rfl
def zFb (n:Nat):(hd4 n).length=4:=rfl
def or2 (n:Nat):(bif decide ((n:Int)<1) then (some true) else some (decide (1024<(n:Int))):Option Bool)=some (decide (n<1∨1024<n)):=by
 by_cases h:n<1
 ·refine ct jl (congrArg some ?_);symm;simp [h]
 ·refine cf jl (congrArg some ?_);by_cases h2:1024<n<;>simp [h2]<;>omega
def tK (key label ctx:By) (n:Nat) (hk:key.length<2 ^ 30) (hl:label.length<2 ^ 20) (hc:ctx.length<2 ^ 20):wU key label ctx (n:Int)=some (dv key label ctx n):=by
 unfold wU dv;refine bd (or2 n) ?_;by_cases h:n<1∨1024<n
 ·rw [if_pos h];exact ct (by simpa using h) rfl
 rw [if_neg h];refine cf (by simpa using h) ?_;refine bd (a:=dvS key label ctx n ((n+31) / 32)) ?_ ?_
 ·refine yF ((n+31) / 32) (λi=>(dvS key label ctx n i,((i+1:Nat):Int))) rfl (λi hi=>?_) ?_ (xJ jh)
  ·have h1:=zFw key label ctx n i;unfold dB;refine ct (dlt jh) ?_;refine bd (yFn (i+1)) ?_;refine bd (yC (by rw [zFb];omega)) ?_;refine bd (yC (by simp [zFb];omega)) ?_;refine bd (yC (by simp [zFb];omega)) ?_;refine bd (a:=hd4 (8*n)) ?_ ?_
   ·rw [yI jh jh,show (8:Int)*(n:Int)=((8*n:Nat):Int) by omega];rfl
   refine bd (yC (by simp [zFb];omega)) ?_;refine bd (zLx key _ jh (by simp [zFb];omega)) ?_;refine bd (yC (by rw [h1,zQo];omega)) ?_;rw [yO (show i+1<2 ^ 40 by omega)];simp [dvS,dvB]
  ·unfold dB;exact cf (dge (by rw [zFw];omega)) rfl
 ·have h1:=zFw key label ctx n ((n+31) / 32);refine bd (a:=(dvS key label ctx n ((n+31) / 32)).take n) ?_ rfl;rw [show (0:Int)=((0:Nat):Int) from rfl,uW jh jh];simp
def b8 (x y:UInt8):u8 (ior .u8 (x.toNat:Int) ((u8 (xK .u8 (y.toNat:Int) (y.toNat:Int))).toNat:Int))=x:=by
 have e:xK .u8 (y.toNat:Int) (y.toNat:Int)=0:=by unfold xK;simp;rfl
 rw [e];have e2:ior .u8 (x.toNat:Int) ((u8 0).toNat:Int)=(x.toNat:Int):=by
  have hx:=x.toNat_lt;unfold ior;rw [show ((u8 0).toNat:Int)=((0:Nat):Int) from rfl,Q4,Q4];simp only [BitVec.or_zero,BitVec.ofNat_eq_ofNat,Q8,show W7.bits=8 from rfl];rw [Qy];omega
 rw [e2];apply Ql.1;have hx:=x.toNat_lt;rw [qS];omega
def b9 (x y z:UInt8) (h:y≠z):u8 (ior .u8 (x.toNat:Int) ((u8 (xK .u8 (y.toNat:Int) (z.toNat:Int))).toNat:Int))≠0:=by
 have hx:=x.toNat_lt;have hy:=y.toNat_lt;have hz:=z.toNat_lt;have e:(u8 (xK .u8 (y.toNat:Int) (z.toNat:Int))).toNat=y.toNat ^^^ z.toNat:=by
  have h8:y.toNat ^^^ z.toNat<2 ^ 8:=Qr hy hz;unfold xK;rw [Q4,Q4,Wi,Q8,Q8,show W7.bits=8 from rfl,Qa hy,Qa hz,Qy,show ((y.toNat ^^^ z.toNat:Nat):Int) % 256=(((y.toNat ^^^ z.toNat):Nat):Int) by omega,qS];omega
 have e2:(u8 (ior .u8 (x.toNat:Int) (((y.toNat ^^^ z.toNat):Nat):Int))).toNat=x.toNat ||| (y.toNat ^^^ z.toNat):=by
  have h8:y.toNat ^^^ z.toNat<2 ^ 8:=Qr hy hz;have h9:x.toNat ||| (y.toNat ^^^ z.toNat)<2 ^ 8:=Nat.or_lt_two_pow hx h8;unfold ior;rw [Q4,Q4,Wl,Q8,Q8,show W7.bits=8 from rfl,Qa hx,Qa h8,Qy,show ((x.toNat ||| (y.toNat ^^^ z.toNat):Nat):Int) % 256=((x.toNat ||| (y.toNat ^^^ z.toNat):Nat):Int) by omega,qS];omega
 rw [e];intro h0;have h1:(u8 (ior .u8 (x.toNat:Int) (((y.toNat ^^^ z.toNat):Nat):Int))).toNat=0:=by rw [h0];rfl
 rw [e2] at h1;have h2:y.toNat ^^^ z.toNat=0:=by have:y.toNat ^^^ z.toNat<=x.toNat ||| (y.toNat ^^^ z.toNat):=Nat.right_le_or;omega
 have h3:=congrArg (y.toNat ^^^ ·) h2;simp only [<- Nat.xor_assoc,Nat.xor_self,Nat.zero_xor,Nat.xor_zero] at h3;exact h (Ql.1 h3.symm)
def zLe (a b:By) (ha:a.length<2 ^ 40):zDk a b=some (a==b):=by
 unfold zDk;by_cases h:a.length=b.length
 ·refine cf jl ?_;have:Def (zP (zA4 a b) FU (0,0)) (λr=>r=0↔a=b):=by
   refine Def.loop (λs=>∃ k:Nat,s.2=(k:Int)/\k<=a.length/\(s.1=0↔a.take k=b.take k)) (λs=>a.length - s.2.toNat) (λs hs=>?_) ⟨0,rfl,jh,jk⟩ jl;obtain ⟨d,x⟩:=s;obtain ⟨k,h1,hk,he⟩:=hs;simp only at h1 he;subst h1;unfold zA4;by_cases hk2:k<a.length
   ·refine Def.of (ct (dlt hk2) (bd (yX hk2) (bd (yX (h▸hk2)) rfl))) ⟨⟨k+1,yO jh,jh,?_⟩,?_⟩
    ·have hkb:k<b.length:=h▸hk2;have et:(a.take (k+1)=b.take (k+1))↔(a.take k=b.take k/\a[k]=b[k]):=by
      rw [<- Q9 hk2,<- Q9 hkb];constructor
      ·intro e;have:=List.append_inj e jl;exact ⟨this.1,by simpa using this.2⟩
      ·rintro ⟨e1,e2⟩;rw [e1,e2]
     rw [et];by_cases hv:a[k]=b[k]
     ·rw [hv,b8];exact ⟨λe=>⟨he.1 e,rfl⟩,λe=>he.2 e.1⟩
     ·exact ⟨λe=>absurd e (b9 _ _ _ hv),λe=>absurd e.2 hv⟩
    ·rw [yO jh];simp only [Qt];omega
   ·have:k=a.length:=jh
    subst this;refine Def.of (cf (dge (Q5 _)) rfl) ?_;show d=0↔a=b;rw [he,Q2 (Q5 _),Q2 jh]
  obtain ⟨r,e,hr⟩:=this;refine bd e (congrArg some ?_);by_cases hab:a=b
  ·subst hab;rw [hr.2 rfl];exact (beq_self_eq_true a).symm
  ·have hne:r≠0:=λe=>hab (hr.1 e);have:r.toNat≠0:=λe=>hne (Ql.1 e);have e1:(a==b)=false:=by simpa using hab
   rw [e1,beq_eq_false_iff_ne];omega
 ·refine ct jl ?_;have:a≠b:=λe=>h (by rw [e]);simp [this]
def zPi (b k:By):By:=(Qm b.length).map λi=>u8 (xK .u8 ((b.getD i 0).toNat:Int) ((k.getD i 0).toNat:Int))
def zJt (b k:By):(zPi b k).length=b.length:=by simp [zPi]
def yIm (b k:By) (h:i<b.length):(zPi b k)[i]'(by rw [zJt];exact h)=u8 (xK .u8 ((b.getD i 0).toNat:Int) ((k.getD i 0).toNat:Int)):=by simp [zPi]
def zUy:By:=[101,110,99,114,121,112,116]
def autL:By:=[97,117,116,104,101,110,116,105,99,97,116,101]
def zJ1 (key nonce b:By):By:=zPi b (dv key zUy nonce b.length)
def zF1 (key nonce b:By):(zJ1 key nonce b).length=b.length:=zJt _ _
def mk1 (n:Nat) (h:n<2 ^ 40):mkN 1 (n:Int)=some n:=by unfold mkN;rw [if_pos ⟨jh,jh⟩];simp
def zI8 (key nonce b:By) (hk:key.length<2 ^ 30) (hn:nonce.length<2 ^ 20) (hb:b.length<=1024):nX key nonce b=some (zJ1 key nonce b):=by
 unfold nX;refine bd (tK key _ nonce b.length hk ji hn) ?_;have hd:=bG key zUy nonce b.length hb;have hx:=zJt b (dv key zUy nonce b.length);refine bd (mk1 b.length jh) ?_;refine bd (a:=zJ1 key nonce b) ?_ ?_
 ·unfold zJ1;refine yF b.length (λi=>((i:Int),(zPi b (dv key zUy nonce b.length)).take i++(Q3 b.length (0:UInt8)).drop i)) jk (λi hi=>?_) ?_ (xJ jh)
  ·unfold dJ;refine ct (dlt hi) ?_;refine bd (ig hi) ?_;refine bd (ig (l:=dv key zUy nonce b.length) jh) ?_;refine bd (tH hi) ?_;have e1:=zIj (l:=zPi b (dv key zUy nonce b.length)) (c:=Q3 b.length (0:UInt8)) (i:=i) (by simp [hx]) jh;rw [yIm _ _ hi] at e1;refine bd e1 ?_;rw [yO (show i<2 ^ 40 by omega)]
  ·unfold dJ;refine cf (dge (Q5 _)) ?_;rw [Q2 jh,List.drop_of_length_le jk,List.append_nil]
 ·refine bd (ckT (zKa (zF1 key nonce b))) ?_;exact bd (ckT (zLg jh)) rfl
def zY7 (key nonce ad c:By):By:=mc (dv key autL nonce 32) (frm 0 [ad,nonce,c])
def zIb (key nonce ad c:By):(zY7 key nonce ad c).length=32:=zQo _ _
def zS8 (key nonce ad c:By) (hk:key.length<2 ^ 30) (hn:nonce.length<2 ^ 20) (ha:ad.length<2 ^ 20) (hc:c.length<2 ^ 20):aF key nonce ad c=some (zY7 key nonce ad c):=by
 have h3:=zX0 ad nonce c;unfold aF;refine bd (tK key _ nonce 32 hk ji hn) ?_;refine bd (eS 0 _ jh) ?_;exact bd (zLx _ _ (by rw [bG _ _ _ _ ji];decide) (by rw [eF];omega)) rfl
def zMy (key nonce ad plain:By):By:=if 64<nonce.length∨1024<plain.length then [] else wE (wE [] nonce) (zJ1 key nonce plain)++zY7 key nonce ad (zJ1 key nonce plain)
def or3 (a b:By) (m n:Nat):(bif decide ((m:Int)<(a.length:Int)) then (some true) else some (decide ((n:Int)<(b.length:Int))):Option Bool)=some (decide (m<a.length∨n<b.length)):=by
 by_cases h:m<a.length
 ·refine ct jl (congrArg some ?_);symm;simp [h]
 ·refine cf jl (congrArg some ?_);by_cases h2:n<b.length<;>simp [h2]<;>omega
def zYj (key nonce ad plain:By) (hk:key.length<2 ^ 30) (ha:ad.length<2 ^ 20):zDb key nonce ad plain=some (zMy key nonce ad plain):=by
 unfold zDb zMy;refine bd (or3 nonce plain 64 1024) ?_;by_cases h:64<nonce.length∨1024<plain.length
 ·rw [if_pos h];exact ct (by simpa using h) rfl
 rw [if_neg h];have h1:=zF1 key nonce plain;have h2:=vF [] nonce;have h3:=vF (wE [] nonce) (zJ1 key nonce plain);refine cf (by simpa using h) ?_;refine bd (zI8 key nonce plain hk jh jh) ?_;refine bd (tY [] nonce ji) ?_;refine bd (tY _ _ (by simp at h2;omega)) ?_;refine bd (zS8 key nonce ad _ hk jh ha jh) ?_;refine bd (yC (by rw [zIb];simp at h2;omega)) ?_;rfl
def rs0 (b:By):RS:=⟨b,0,0⟩
def zGe {b:By} (h:b.length<2 ^ 40):(rs0 b).Ok:=⟨Nat.zero_le _,h⟩
def wnew (b:By) (h:b.length<2 ^ 40):zCe b=some (rs0 b).W:=by
 unfold zCe;refine bd (yC jl) rfl
def zZx (b:By):aN b=some (rs0 b).R:=rfl
def yFw (r:RS) (n:Nat):(cM r n).1.length<=n:=by
 unfold cM;split
 ·simp
 split
 ·simp
 ·simp [RS.get];omega
def iU (r:RS) (n:Nat):(wG r n).1.length<=n:=by
 unfold wG;split
 ·simp
 split
 ·simp
 split
 ·simp
 split
 ·simp
 ·simp;omega
def yKh (key ad:By) (x y z:By×RS):By×Int:=if iS z.2≠0 then ([],iS z.2) else if z.1≠zY7 key x.1 ad y.1 then ([],18) else (zJ1 key x.1 y.1,0)
def zDz (key ad b:By):By×Int:=yKh key ad (wG (rs0 b) 64) (wG (wG (rs0 b) 64).2 1024) (cM (wG (wG (rs0 b) 64).2 1024).2 32)
def zUz (key ad b:By):(zDz key ad b).1.length<=1024:=by
 have h:=iU (wG (rs0 b) 64).2 1024;unfold zDz yKh;split
 ·simp
 split
 ·simp
 ·rw [zF1];exact h
def zX7 (key ad b:By) (hk:key.length<2 ^ 30) (ha:ad.length<2 ^ 20) (hb:b.length<2 ^ 40):zDn key ad b=some (zDz key ad b):=by
 have o0:=zGe hb;have o1:=jE (rs0 b) 64 o0;have o2:=jE (wG (rs0 b) 64).2 1024 o1;have o3:=zZk (wG (wG (rs0 b) 64).2 1024).2 32 o2;have l1:=iU (rs0 b) 64;have l2:=iU (wG (rs0 b) 64).2 1024;unfold zDn zDz;refine bd (zZx b) ?_;refine bd (rO _ 64 o0) ?_;refine bd (rO _ 1024 o1) ?_;refine bd (zQl _ 32 o2) ?_;refine bd (zEy _ o3) ?_;have l3:=yFw (wG (wG (rs0 b) 64).2 1024).2 32;generalize cM (wG (wG (rs0 b) 64).2 1024).2 32=z at *;generalize wG (wG (rs0 b) 64).2 1024=y at *;generalize wG (rs0 b) 64=x at *;unfold yKh;by_cases h:iS z.2=0
 ·refine cf (b0 h) ?_;simp only [h,ne_eq,not_true_eq_false,if_false];refine bd (zS8 key x.1 ad y.1 hk jh ha jh) ?_;refine bd (oS z.1 _ jh) ?_;by_cases h2:z.1=zY7 key x.1 ad y.1
  ·refine cf (by simp [h2]) ?_;rw [if_neg (by simp [h2])];exact bd (zI8 key x.1 y.1 hk jh l2) rfl
  ·refine ct (by simp [h2]) ?_;rw [if_pos h2]
 ·refine ct (b1 h) ?_;rw [if_pos h]
def tb {β:Type} {o:Option α} {f:α->Option β} (h:∃ a,o=some a) (k:∀ a,∃ r,f a=some r):∃ r,o.bind f=some r:=by
 obtain ⟨a,rfl⟩:=h;exact k a
def tc {c:Bool} {a b:Option α} (h:∃ r,a=some r) (k:∃ r,b=some r):∃ r,(bif c then a else b)=some r:=by cases c<;>assumption
def zPs (p:zM):∃ e,uY p=some e:=by
 unfold uY wI;repeat' first | exact ⟨_,rfl⟩ | refine tb ?_ (λ_=>?_) | refine tc ?_ ?_
def chk (p:zM):Int:=(uY p).getD 0
def eN (p:zM):uY p=some (chk p):=by
 obtain ⟨e,h⟩:=zPs p;rw [chk,h];rfl
def enc (p:zM):By:=wE (wE [u8 p.Kind,u8 p.Attr,u8 p.Height] p.Policy) p.Unique
def zHn (p:zM):(enc p).length<=131077:=by
 have h1:=vF [u8 p.Kind,u8 p.Attr,u8 p.Height] p.Policy;have h2:=vF (wE [u8 p.Kind,u8 p.Attr,u8 p.Height] p.Policy) p.Unique;simp only [Qe,Qq] at h1;unfold enc;omega
def nm (p:zM):By:=hs 6 [enc p]
def zMj (p:zM):zDc p=some (nm p):=by
 have hl:=zHn p;have h1:=vF [u8 p.Kind,u8 p.Attr,u8 p.Height] p.Policy;simp only [Qe,Qq] at h1;unfold zDc zCk;refine bd (bd (pX _ _ jk) (bd (pX _ _ jh) rfl)) ?_;exact bd (zIc _ _ (by rw [yLe];show 4+(enc p).length<_;omega)) rfl
def pA (p:zM):uO p=some (nm p):=by
 have hl:=zHn p;have h1:=vF [u8 p.Kind,u8 p.Attr,u8 p.Height] p.Policy;simp only [Qe,Qq] at h1;unfold uO wZ;refine bd (bd (tY _ _ jk) (bd (tY _ _ jh) rfl)) ?_;exact bd (rR _ _ (by rw [yLe];show 4+(enc p).length<_;omega)) rfl
def c0' {a:Int} (h:a=b):(a==b)=true:=by subst h;exact beq_self_eq_true _
def c1' {a:Int} (h:a≠b):(a==b)=false:=by simpa using h
def rX (p:zM):wZ p=some (enc p):=by
 have h1:=vF [u8 p.Kind,u8 p.Attr,u8 p.Height] p.Policy;simp only [Qe,Qq] at h1;unfold wZ;exact bd (tY _ _ jk) (bd (tY _ _ jh) rfl)
def zB8 (p:zM):(nm p).length=32:=gQ _ _
structure kH (p:zM):Prop where
 k1:1<=p.Kind
 k3:p.Kind<=3
 h0:0<=p.Height
 h3:p.Height<=3
 pl:p.Policy.length=0∨p.Policy.length=32
 un:p.Unique.length=if p.Kind=2 then 17 else 32
def zYa (h:chk p=0):kH p:=by
 have e:=eN p;rw [h] at e;unfold uY wI at e;have key:∀ {o:Option Bool} {x:Int} {y:Option Int},x≠0->(o.bind λv=>bif v then some x else y)=some 0->o=some false/\y=some 0:=λ{o x y} hx h=>by
  cases o with
  | none=>cases h
  | some v=>cases v with
   | false=>exact ⟨rfl,h⟩
   | true=>exact absurd (W0 h) hx
 obtain ⟨e1,e⟩:=key ji e;obtain ⟨_,e⟩:=key ji e;obtain ⟨e3,_⟩:=key ji e;have c:∀ {b:Bool} {x:Option Bool},(bif b then some true else x)=some false->b=false/\x=some false:=λ{b x} h=>by cases b;exact ⟨rfl,h⟩;cases h
 obtain ⟨a1,a2⟩:=c e1;obtain ⟨a3,e4⟩:=c e3;obtain ⟨a4,e5⟩:=c e4;have h1:=of_decide_eq_false a1;have h2:=of_decide_eq_false (W0 a2);have h3:=of_decide_eq_false a3;have h4:=of_decide_eq_false a4;have hu:∀ {z:Option Bool},z=some false->z=(bif ((p.Policy.length:Int) != 0) then (bif ((p.Policy.length:Int) != 32) then some true else ((bif (p.Kind==2) then some 17 else some 32:Option Int).bind λv=>some ((p.Unique.length:Int) != v))) else ((bif (p.Kind==2) then some 17 else some 32:Option Int).bind λv=>some ((p.Unique.length:Int) != v))) ->
   (p.Policy.length=0∨p.Policy.length=32)/\p.Unique.length=if p.Kind=2 then 17 else 32:=λ{z} hz e=>by
  rw [hz] at e;have hx:∀ {w:Option Bool},w=some false->w=((bif (p.Kind==2) then some 17 else some 32:Option Int).bind λv=>some ((p.Unique.length:Int) != v))->p.Unique.length=if p.Kind=2 then 17 else 32:=λ{w} hw e=>by
   rw [hw] at e;by_cases hk:p.Kind=2
   ·rw [show (p.Kind==2)=true by simpa using hk] at e;have:=W0 e;rw [if_pos hk];simp at this;omega
   ·rw [show (p.Kind==2)=false by simpa using hk] at e;have:=W0 e;rw [if_neg hk];simp at this;omega
  by_cases hp:(p.Policy.length:Int)=0
  ·simp only [hp,bne_self_eq_false,cond_false] at e;exact ⟨.inl jh,hx rfl e⟩
  ·by_cases hq:(p.Policy.length:Int)=32
   ·have:((p.Policy.length:Int) != 0)=true:=by simpa using hp
    rw [this] at e;simp only [hq,bne_self_eq_false,cond_false,cond_true] at e;exact ⟨.inr jh,hx rfl e⟩
   ·have i1:((p.Policy.length:Int) != 0)=true:=by simpa using hp
    have i2:((p.Policy.length:Int) != 32)=true:=by simpa using hq
    rw [i1,i2] at e;cases e
 have hfin:(p.Policy.length=0∨p.Policy.length=32)/\p.Unique.length=if p.Kind=2 then 17 else 32:=by
  by_cases hh:p.Height=0
  ·rw [show (p.Height != 0)=false by simp [hh]] at e5;exact hu e5 rfl
  ·rw [show (p.Height != 0)=true by simpa using hh] at e5;exact hu (c e5).2 rfl
 exact ⟨jh,jh,jh,jh,hfin.1,hfin.2⟩
def ixn (x:zF):By:=hs 7 [wW [u8 x.N,u8 x.Kind,u8 x.Attr] 2 x.Size++[if x.Written=true then 1 else 0],x.Policy]
def yLa (x:zF) (h:x.Policy.length<2 ^ 20):mU x=some (ixn x):=by
 unfold mU;refine bd (rK _ 2 _ ji ji jk) (bd (a:=if x.Written=true then 1 else 0) (by cases x.Written<;>rfl) (bd (yC (by rw [yL];simp)) (bd (zIc _ _ ?_) rfl)));simp [tot,yL];omega
def rixn (x:zF) (h:x.Policy.length<2 ^ 20):tR x=some (ixn x):=by
 unfold tR;refine bd (a:=wW [u8 x.N,u8 x.Kind,u8 x.Attr] 2 x.Size++[if x.Written=true then 1 else 0]) ?_ (bd (rR _ _ ?_) rfl)
 ·unfold gV;refine bd (a:=if x.Written=true then 1 else 0) (by cases x.Written<;>rfl) (bd (uI _ 2 _ ji ji jk) (bd (yC (by rw [yL];simp)) ?_));cases x.Written<;>rfl
 ·simp [tot,yL];omega
def hnm (h:Int):By:=if h<0∨3<h then [] else hs 11 [[u8 h]]
def or4 (h a b:Int):(bif decide (h<a) then (some true) else some (decide (b<h)):Option Bool)=some (decide (h<a∨b<h)):=by
 by_cases h1:h<a
 ·refine ct (by simpa using h1) (congrArg some ?_);symm;simp [h1]
 ·refine cf (by simpa using h1) (congrArg some ?_);simp [h1]
def zZp (h:Int):rN h=some (hnm h):=by
 unfold rN hnm;refine bd (or4 h 0 3) ?_;by_cases g:h<0∨3<h
 ·rw [if_pos g];exact ct (by simpa using g) rfl
 ·rw [if_neg g];refine cf (by simpa using g) ?_;exact bd (zIc 11 _ (by simp [tot])) rfl
def zRw (h:Int):sV h=some (hnm h):=by
 unfold sV hnm;refine bd (or4 h 0 3) ?_;by_cases g:h<0∨3<h
 ·rw [if_pos g];exact ct (by simpa using g) rfl
 ·rw [if_neg g];refine cf (by simpa using g) ?_;exact bd (rR 11 _ (by simp [tot])) rfl
def zSb (x:zF):(ixn x).length=32:=gQ _ _
def zT1 (h:Int):(hnm h).length<=32:=by unfold hnm;split<;>simp [gQ]
def p0:zM:=⟨0,0,0,[],[]⟩
def yCh (a b c:Int×RS) (d e:By×RS):zM×Int:=
 if iS e.2≠0 then (p0,iS e.2) else if chk ⟨a.1,b.1,c.1,d.1,e.1⟩≠0 then (p0,chk ⟨a.1,b.1,c.1,d.1,e.1⟩) else (⟨a.1,b.1,c.1,d.1,e.1⟩,0)
def ad1 (b:By):=wS (rs0 b) 1
def ad2 (b:By):=wS (ad1 b).2 1
def ad3 (b:By):=wS (ad2 b).2 1
def ad4 (b:By):=wG (ad3 b).2 32
def ad5 (b:By):=wG (ad4 b).2 32
def zVw (b:By):zM×Int:=yCh (ad1 b) (ad2 b) (ad3 b) (ad4 b) (ad5 b)
def yGe (b:By):(zVw b).2=0->chk (zVw b).1=0:=by
 unfold zVw yCh;split
 ·intro h;contradiction
 split
 ·intro h;contradiction
 ·rename_i h1 h;intro _;exact W5.1 h
def zM4 (b:By) (hb:b.length<2 ^ 40):lE b=some (zVw b):=by
 have o0:=zGe hb;have o1:(ad1 b).2.Ok:=zGf _ 1 o0;have o2:(ad2 b).2.Ok:=zGf _ 1 o1;have o3:(ad3 b).2.Ok:=zGf _ 1 o2;have o4:(ad4 b).2.Ok:=jE _ 32 o3;have o5:(ad5 b).2.Ok:=jE _ 32 o4;unfold lE zVw;refine bd (zZx b) ?_;refine bd (kA _ 1 o0 ji ji) ?_;refine bd (kA _ 1 o1 ji ji) ?_;refine bd (kA _ 1 o2 ji ji) ?_;refine bd (rO _ 32 o3) ?_;refine bd (rO _ 32 o4) ?_;refine bd (zEy _ o5) ?_;show Option.bind (bif (iS (ad5 b).2==0) then (uY ⟨(ad1 b).1,(ad2 b).1,(ad3 b).1,(ad4 b).1,(ad5 b).1⟩).bind λv=>some v else some (iS (ad5 b).2)) (λe=>bif (e != 0) then some (p0,e) else some (⟨(ad1 b).1,(ad2 b).1,(ad3 b).1,(ad4 b).1,(ad5 b).1⟩,0))=_;rw [eN];unfold yCh;generalize chk ⟨(ad1 b).1,(ad2 b).1,(ad3 b).1,(ad4 b).1,(ad5 b).1⟩=c;by_cases h:iS (ad5 b).2=0
 ·rw [if_neg (by simp [h])];refine bd (ct (c0 h) rfl) ?_;by_cases h2:c=0
  ·rw [if_neg (by simp [h2])];exact cf (b0 h2) rfl
  ·rw [if_pos h2];exact ct (b1 h2) rfl
 ·rw [if_pos h];exact bd (cf (c1 h) rfl) (ct (b1 h) rfl)
def sgL:By:=[115,105,103,110,101,114]
def chL:By:=[99,104,97,105,110]
def lsd (seed:By) (h:Nat):By:=dv seed sgL [u8 (h:Int)] 32
def zTx (seed:By) (h:Nat):(lsd seed h).length=32:=bG _ _ _ _ ji
def zTk (seed:By) (h:Nat) (hs:seed.length<2 ^ 30):jZ seed (h:Int)=some (lsd seed h):=bd (tK seed _ _ 32 hs ji jk) rfl
def st0 (s:By) (leaf c:Nat):By:=dv s chL [u8 (leaf:Int),u8 (c:Int)] 16
def zFx (s:By) (leaf c:Nat):(st0 s leaf c).length=16:=bG _ _ _ _ ji
def zRx (s:By) (leaf c:Nat) (hs:s.length<2 ^ 30):aY s (leaf:Int) (c:Int)=some (st0 s leaf c):=bd (tK s _ _ 16 hs ji jk) rfl
def wlk (s:By) (leaf:Nat) (d:Nat->Nat):Nat->By
 | 0=>[]
 | i+1=>wlk s leaf d i++chn leaf i 0 (st0 s leaf i) (d i)
def zC6 (s:By) (leaf:Nat) (d:Nat->Nat):∀ i,(wlk s leaf d i).length=16*i
 | 0=>rfl
 | i+1=>by simp only [wlk,Q6,zC6 s leaf d i,zC9 leaf i 0 _ (zFx s leaf i) (d i)];omega
def opk (s:By) (leaf:Nat):By:=(hs 2 [[u8 (leaf:Int)],wlk s leaf (λ_=>15) 35]).take 16
def yH3 (s:By) (leaf:Nat):(opk s leaf).length=16:=eA _ _
def v255 (leaf:Nat) (h:leaf<=255):(bif decide ((leaf:Int)<0) then (some true) else some (decide (255<(leaf:Int))):Option Bool)=some false:=cf (zLr leaf) (congrArg some jl)
def yHt (s:By) (leaf:Nat) (hs:s.length<2 ^ 30) (hl:leaf<=255):cS s (leaf:Int)=some (opk s leaf):=by
 unfold cS;refine bd (v255 leaf hl) ?_;refine cf rfl ?_;refine bd (a:=wlk s leaf (λ_=>15) 35) ?_ ?_
 ·refine yF 35 (λi=>(wlk s leaf (λ_=>15) i,(i:Int))) rfl (λi hi=>?_) ?_ (xJ jh)
  ·have h1:=zC6 s leaf (λ_=>15) i;have h3:=zC9 leaf i 0 _ (zFx s leaf i) 15;unfold zCu;refine ct (dlt (b:=35) hi) ?_;refine bd (zRx s leaf i hs) ?_;refine bd (zGc leaf i 0 15 _ (zFx s leaf i) jh jh) ?_;refine bd (yC (by rw [Nat.sub_zero];omega)) ?_;rw [yO (show i<2 ^ 40 by omega)];rfl
  ·generalize wlk s leaf (λ_=>15) 35=S;rfl
 ·have h1:=zC6 s leaf (λ_=>15) 35;refine bd ?_ rfl;unfold dY;refine bd (rR 2 _ (by rw [zVy,h1];simp)) ?_;exact bd (zMs _ _) rfl
def osg (s:By) (leaf:Nat) (m:By):By:=wlk s leaf (λi=>(zEe m).getD i 0) 35
def yIf (s:By) (leaf:Nat) (m:By) (h:s.length<2 ^ 30) (hl:leaf<=255) (hm:m.length<2 ^ 31):zDo s (leaf:Int) m=some (osg s leaf m):=by
 have hd:=zIu m;have h15:=zSi m;unfold zDo osg;refine bd (v255 leaf hl) ?_;refine cf rfl ?_;refine bd (zJp m hm) ?_;generalize zEe m=D at hd h15;refine bd ?_ rfl;refine yF 35 (λi=>(wlk s leaf (λi=>D.getD i 0) i,(i:Int))) rfl (λi hi=>?_) ?_ (xJ jh)
 ·have h1:=zC6 s leaf (λi=>D.getD i 0) i;have h3:=zC9 leaf i 0 _ (zFx s leaf i) (D.getD i 0);have h4:=h15 i hi;unfold zE7;refine ct (dlt (b:=35) hi) ?_;refine bd (zNd jh) ?_;refine bd (zRx s leaf i h) ?_;refine bd (zGc leaf i 0 (D.getD i 0) _ (zFx s leaf i) jh jh) ?_;refine bd (yC (by rw [Nat.sub_zero];omega)) ?_;rw [yO (show i<2 ^ 40 by omega)];rfl
 ·generalize wlk s leaf (λi=>D.getD i 0) 35=S;rfl
def lvs (seed:By) (h:Nat):List By:=(Qm (2 ^ h)).map λi=>opk (lsd seed h) i
def zK7 (seed:By) (h:Nat):(lvs seed h).length=2 ^ h:=by simp [lvs]
def yKu (seed:By) (h:Nat):∀ x∈lvs seed h,x.length=16:=λx hx=>by
 obtain ⟨i,_,rfl⟩:=We.1 hx;exact yH3 _ _
def yIp (hh:h<=3):2 ^ h<=8:=W1 ji hh
def yAb (seed:By) (h i:Nat) (hi:i<2 ^ h):(lvs seed h).take (i+1)=(lvs seed h).take i++[opk (lsd seed h) i]:=by
 rw [<- Q9 (by rw [zK7];exact hi)];simp [lvs]
def zSf (seed:By) (h:Nat) (hs:seed.length<2 ^ 30) (hh:h<=3):iN seed (h:Int)=some (lvs seed h):=by
 have h8:=yIp hh;have hl:=zK7 seed h;unfold iN;refine bd (zTk seed h hs) ?_;refine bd ?_ rfl;refine yF (2 ^ h) (λi=>((lvs seed h).take i,(i:Int))) rfl (λi hi=>?_) ?_ (xJ jh)
 ·unfold dI;rw [zVr h hh];refine ct (dlt hi) ?_;refine bd (yHt _ i (by rw [zTx];decide) jh) ?_;refine bd (yC jl) ?_;rw [yO (show i<2 ^ 40 by omega),yAb seed h i hi]
 ·unfold dI;rw [zVr h hh];refine cf (dge (Q5 _)) ?_;rw [Q2 jh]
def nxt (h:Nat) (l:List By):List By:=(Qm (l.length / 2)).map λi=>par h i (l.getD (2*i) []) (l.getD (2*i+1) [])
def lv (l:List By):Nat->List By
 | 0=>l
 | h+1=>nxt h (lv l h)
def yFx (h i:Nat) (a b:By):(par h i a b).length=16:=eA _ _
def zHy (h:Nat) (l:List By):(nxt h l).length=l.length / 2:=by simp [nxt]
def yMs (h:Nat) (l:List By):∀ x∈nxt h l,x.length=16:=λx hx=>by
 obtain ⟨i,_,rfl⟩:=We.1 hx;exact yFx _ _ _ _
structure Lvs (l:List By) (H:Nat):Prop where
 n:l.length=2 ^ H
 s:∀ x∈l,x.length=16
 h:H<=3
def Lvs.len (g:Lvs l H):∀ k,k<=H->(lv l k).length=2 ^ (H - k)
 | 0,_=>g.n
 | k+1,hk=>by
  show (nxt k (lv l k)).length=_;rw [zHy,g.len k jh,show H - k=(H - (k+1))+1 by omega,Wd];omega
def Lvs.m (g:Lvs l H):∀ k,∀ x∈lv l k,x.length=16
 | 0=>g.s
 | k+1=>yMs k (lv l k)
def zNq (h:∀ x∈l,x.length=16) (hi:i<l.length):(l.getD i []).length=16:=by
 have:l.getD i []=l[i]:=by simp [hi]
 rw [this];exact h _ (Qj _)
def zZ5 (h:Nat) (l:List By) (i:Nat) (hi:i<l.length / 2):(nxt h l).take (i+1)=(nxt h l).take i++[par h i (l.getD (2*i) []) (l.getD (2*i+1) [])]:=by
 rw [<- Q9 (by rw [zHy];exact hi)];simp [nxt]
def w2 (i:Nat) (h:i<2 ^ 40):Q0.wrap (2*(i:Int))=((2*i:Nat):Int):=by rw [yI jh jh];omega
def yAw (h:Nat) (l:List By) (h8:l.length<=8) (h16:∀ x∈l,x.length=16):zFp (h:Int) l=some (nxt h l):=by
 unfold zFp;refine bd ?_ rfl;refine yF (l.length / 2) (λi=>((nxt h l).take i,(i:Int))) rfl (λi hi=>?_) ?_ (xJ jh)
 ·have h1:=zHy h l;unfold zEm;dsimp only;rw [w2 i jh,yO (show 2*i<2 ^ 40 by omega)];refine ct (dlt jh) ?_;refine bd (zCd (l:=l) jh) ?_;refine bd (zCd (l:=l) jh) ?_;refine bd (zLv h i _ _ (zNq h16 jh) (zNq h16 jh)) ?_;refine bd (yC jl) ?_;rw [yO (show i<2 ^ 40 by omega),zZ5 h l i hi]
 ·unfold zEm;dsimp only;rw [w2 (l.length / 2) jh,yO (show 2*(l.length / 2)<2 ^ 40 by omega)];refine cf (dge jh) ?_;rw [Q2 (by rw [zHy];exact Q5 _)]
def zR6 (h:H<=3):zDe ((2 ^ H:Nat):Int)=some true:=by
 have:H=0∨H=1∨H=2∨H=3:=jh
 rcases this with rfl | rfl | rfl | rfl<;>rfl
def root (l:List By) (H:Nat):By:=(lv l H).getD 0 []
def Lvs.root (g:Lvs l H):(root l H).length=16:=zNq (g.m H) (by rw [g.len H (Q5 _),Qz];decide)
def pw {b:Nat} (h:a<b):2<=2 ^ (b - a):=by
 obtain ⟨k,rfl⟩:∃ k,b=a+(k+1):=⟨b - a - 1,jh⟩;rw [show a+(k+1) - a=k+1 by omega,Wd];have:=Wn k;omega
def zZq (g:Lvs l H):zDm l=some (root l H):=by
 have hh:=g.h;unfold zDm;refine bd (a:=true) (by rw [g.n];exact zR6 g.h) ?_;refine cf rfl ?_;refine bd (a:=lv l H) ?_ ?_
 ·refine yF H (λi=>(lv l i,(i:Int))) rfl (λi hi=>?_) ?_ (xJ jh)
  ·have h1:=g.len i jh;have h2:2 ^ (H - i)<=2 ^ 3:=W1 ji jh;have h3:=pw hi;unfold zAy;refine ct jl ?_;refine bd (yAw i _ jh (g.m i)) ?_;rw [yO (show i<2 ^ 40 by omega)];rfl
  ·have h1:=g.len H (Q5 _);rw [Qz] at h1;unfold zAy;exact cf jl rfl
 ·have h1:=g.len H (Q5 _);rw [Qz] at h1;refine bd (zCd (l:=lv l H) (i:=0) jh) ?_;exact bd (lU _ (by have:=g.root;unfold root at this;omega)) rfl
def pub (seed:By) (h:Nat):By:=[u8 (h:Int)]++root (lvs seed h) h
def zOn (seed:By) (hh:h<=3):Lvs (lvs seed h) h:=⟨zK7 seed h,yKu seed h,hh⟩
def zSo (seed:By) (hh:h<=3):(pub seed h).length=17:=by have:=(zOn seed hh).root;simp [pub,this]
def zIh (seed:By) (h:Nat) (hs:seed.length<2 ^ 30) (hh:h<=3):mD seed (h:Int)=some (pub seed h):=by
 unfold mD;refine bd (a:=false) (cf (zLr h) (congrArg some jl)) ?_;refine cf rfl ?_;refine bd (zSf seed h hs hh) ?_;refine bd (zZq (zOn seed hh)) ?_;exact bd (yC (by rw [(zOn seed hh).root];simp)) rfl
def dgt {b:Nat} (h:b<a):decide ((a:Int)<=(b:Int))=false:=by simp;omega
def hf2 (q:Nat) (h:q<2 ^ 40):Q0.wrap (Qw (q:Int) 2)=((q / 2:Nat):Int):=by
 rw [Qg jh,yI jh jh];omega
def yPy (n:Nat) (h:n<2 ^ 62):xK .i64 (n:Int) 1=((n ^^^ 1:Nat):Int):=by
 have h3:n ^^^ 1<2 ^ 62:=Qr h ji;unfold xK;rw [show (1:Int)=((1:Nat):Int) from rfl,Q4,Q4,Wi,Q8,Q8,show Q0.bits=64 from rfl,Qa jh,Qa ji,yI jh jh]
def zMv (l:List By) (i n:Nat):List By:=(Qm n).map λk=>(lv l k).getD (i / 2 ^ k ^^^ 1) []
def zI2 (l:List By) (i n:Nat):(zMv l i n).length=n:=by simp [zMv]
def Lvs.sib (g:Lvs l H) (hi:i<2 ^ H) (hk:k<H):i / 2 ^ k ^^^ 1<(lv l k).length:=by
 rw [g.len k jh];refine Qr ?_ ?_
 ·rw [Nat.div_lt_iff_lt_mul (Wn k),<- Nat.pow_add,show H - k+k=H by omega];exact hi
 ·have:=pw hk;omega
def zNc (g:Lvs l H) (hi:i<2 ^ H):zC8 (i:Int) l=some (zMv l i H):=by
 have hh:=g.h;have h8:=yIp g.h;unfold zC8;refine bd (a:=false) ?_ ?_
 ·refine bd (a:=true) (by rw [g.n];exact zR6 g.h) ?_;exact cf rfl (cf (zLr i) (congrArg some (by rw [g.n];exact dgt hi)))
 refine cf rfl ?_;refine bd ?_ rfl;refine yF H (λk=>(((i / 2 ^ k:Nat):Int),zMv l i k,lv l k,(k:Int))) (by simp [zMv,lv]) (λk hk=>?_) ?_ (xJ jh)
 ·have h1:=g.len k jh;have h2:2 ^ (H - k)<=2 ^ 3:=W1 ji jh;have h3:=pw hk;have h4:i / 2 ^ k<=i:=Wm _ _;have h5:=g.sib hi hk;unfold zAe;refine ct jl ?_;rw [yPy _ jh];refine bd (zCd h5) ?_;refine bd (lU _ (by rw [zNq (g.m k) h5];decide)) ?_;refine bd (yC (by rw [zI2];simp;omega)) ?_;refine bd (yAw k _ jh (g.m k)) ?_;rw [yO (show k<2 ^ 40 by omega)];have e1:=(hf2 (i / 2 ^ k) jh).trans (by rw [half]);rw [e1];congr 3;simp [zMv,Qx,lv]
 ·have h1:=g.len H (Q5 _);rw [Qz] at h1;unfold zAe;exact cf jl rfl
def sig (seed:By) (h leaf:Nat) (m:By):By:=(zMv (lvs seed h) leaf h).foldl (· ++ ·) ([u8 (leaf:Int)]++osg (lsd seed h) leaf m)
def zUv {step:(By×Int)->Option ((By×Int) ⊕ By)} (ps:List By) (a:By) (hp:ps.length<=3) (h16:∀ x∈ps,x.length=16) (ha:a.length<2 ^ 30)
  (hst:∀ o k,step (o,k)=bif decide (k<(ps.length:Int)) then (idx ps k).bind λv=>(yM 1 o v).bind λw=>some (.inl (w,Q0.wrap (k+1))) else some (.inr o)):zP step FU (a,0)=some (ps.foldl (· ++ ·) a):=by
 have hlen:∀ k,k<=ps.length->((ps.take k).foldl (· ++ ·) a).length=a.length+16*k:=λk hk=>by
  induction k with
  | zero=>simp
  | succ k ih=>
   rw [<- Q9 jh,Wf];simp only [Wo,List.foldl_nil,Q6,ih jh,h16 _ (Qj (show k<ps.length by omega))];omega
 refine yF ps.length (λk=>((ps.take k).foldl (· ++ ·) a,(k:Int))) rfl (λk hk=>?_) ?_ (xJ jh)
 ·rw [hst];refine ct (dlt hk) ?_;refine bd (yX hk) ?_;refine bd (yC (by rw [hlen k jh,h16 _ (Qj hk)];omega)) ?_;rw [yO (show k<2 ^ 40 by omega),<- Q9 hk,Wf];rfl
 ·rw [hst];refine cf (dge (Q5 _)) ?_;rw [Q2 (Q5 _)]
def zS3 (g:Lvs l H) (hi:i<2 ^ H):∀ x∈zMv l i H,x.length=16:=λx hx=>by
 obtain ⟨k,hk,rfl⟩:=We.1 hx;exact zNq (g.m k) (g.sib hi (List.mem_range.1 hk))
def zNa (seed:By) (h leaf:Nat) (m:By) (hs:seed.length<2 ^ 30) (hh:h<=3) (hl:leaf<2 ^ h) (hm:m.length<2 ^ 31):kT seed (h:Int) (leaf:Int) m=some (sig seed h leaf m):=by
 have h8:=yIp hh;have g:=zOn seed hh;have hw:=zC6 (lsd seed h) leaf (λi=>(zEe m).getD i 0) 35;unfold kT;refine bd (a:=false) (cf (zLr h) (cf jl (cf (zLr leaf) (congrArg some (by rw [zVr h hh];exact dgt hl))))) ?_;refine cf rfl ?_;refine bd (zTk seed h hs) ?_;refine bd (yIf _ leaf m (by rw [zTx];decide) jh hm) ?_;refine bd (yC (by unfold osg;rw [hw];simp)) ?_;refine bd (zSf seed h hs hh) ?_;refine bd (zNc g hl) ?_;refine bd ?_ rfl;exact zUv _ _ (by rw [zI2];exact hh) (zS3 g hl) (by unfold osg;rw [Q6,hw];simp) (λ_ _=>rfl)
def zSa (seed:By) (h leaf:Nat) (m:By) (hh:h<=3) (hl:leaf<2 ^ h):(sig seed h leaf m).length=561+16*h:=by
 have hw:=zC6 (lsd seed h) leaf (λi=>(zEe m).getD i 0) 35;have key:∀ (ps:List By) (a:By),(∀ x∈ps,x.length=16)->(ps.foldl (· ++ ·) a).length=a.length+16*ps.length:=λps=>by
  induction ps with
  | nil=>intro a _;simp
  | cons x r ih=>intro a hx;rw [Wo,ih _ (λy hy=>hx y (Wb _ hy)),Q6,hx x jk,Qe];omega
 unfold sig;rw [key _ _ (zS3 (zOn seed hh) hl),zI2,Q6];unfold osg;rw [hw];simp
def uqs (k:Int):Nat:=if k=2 then 17 else 32
def yIk (k:Int):wI k=some ((uqs k:Nat):Int):=by
 unfold wI uqs;by_cases h:k=2
 ·rw [if_pos h];exact ct (c0' h) rfl
 ·rw [if_neg h];exact cf (c1' h) rfl
def zX4 (k:Int):uqs k<=32:=by unfold uqs;split<;>decide
def unq (s:zK) (k h:Int):By:=if k=2 then pub s.Seed h.toNat else hs 13 [s.Seed,s.Data]
def zTg (s:zK) (k h:Int) (hh:h<=3):(unq s k h).length=uqs k:=by
 unfold unq uqs;split
 ·exact zSo _ jh
 ·exact gQ _ _
def zSm (s:zK) (k h:Int) (h0:0<=h) (hh:h<=3) (hs:s.Seed.length<2 ^ 20) (hd:s.Data.length<2 ^ 20):pW s k h=some (unq s k h):=by
 obtain ⟨n,rfl⟩:=Qk h0;unfold pW unq;by_cases g:k=2
 ·rw [if_pos g];exact ct (c0' g) (bd (zIh _ n jh jh) rfl)
 ·rw [if_neg g];exact cf (c1' g) (bd (rR 13 _ (by rw [zVy];omega)) rfl)
def sn0:zK:=⟨[],[],[]⟩
def sdL:By:=[115,101,101,100]
def tz (t:zM):zM:=⟨t.Kind,t.Attr,t.Height,t.Policy,Q3 (uqs t.Kind) 0⟩
def mkE (t:zM) (auth data:By):Int:=if chk (tz t)≠0 then chk (tz t) else if 32<auth.length∨128<data.length then 4 else if 0<data.length/\t.Kind≠3 then 1 else 0
def mkS' (secret:By) (auth data:By):zK:=⟨auth,dv secret sdL [] 32,data⟩
def mkO (secret:By) (t:zM) (auth data:By):zM×zK×Int:=
 if mkE t auth data≠0 then (p0,sn0,mkE t auth data) else (⟨t.Kind,t.Attr,t.Height,t.Policy,unq (mkS' secret auth data) t.Kind t.Height⟩,mkS' secret auth data,0)
def yC6 (h:mkE t auth data=0):kH (tz t)/\auth.length<=32/\data.length<=128:=by
 unfold mkE at h;split at h
 ·rename_i g;exact absurd h g
 rename_i g;split at h
 ·cases h
 rename_i g2;exact ⟨zYa (W5.1 g),Wj λa=>g2 (.inl a),Wj λa=>g2 (.inr a)⟩
def or5 (a b:By):(bif decide (32<(a.length:Int)) then (some true) else some (decide (128<(b.length:Int))):Option Bool)=some (decide (32<a.length∨128<b.length)):=or3 a b 32 128
def an6 (d:By) (k:Int):(bif decide (0<(d.length:Int)) then (some (k != 3)) else some false:Option Bool)=some (decide (0<d.length/\k≠3)):=by
 by_cases h:0<d.length
 ·refine ct (by simpa using h) (congrArg some ?_);by_cases g:k=3<;>simp [h,g]
 ·refine cf (decide_eq_false jh) (congrArg some ?_);simp [h]
def zI5 (secret:By) (t:zM) (auth data:By) (hs:secret.length<2 ^ 30):jH secret t auth data=some (mkO secret t auth data):=by
 have hu:=zX4 t.Kind;unfold jH mkO;refine bd (yIk _) ?_;refine bd (mk1 _ jh) ?_;refine bd (ckT (zKa jk)) ?_;refine bd (ckT (zLg jh)) ?_;refine bd (eN (tz t)) ?_;refine bd (a:=mkE t auth data) ?_ ?_
 ·unfold mkE;by_cases h:chk (tz t)=0
  ·rw [if_neg (by simp [h])];refine cf (b0 h) ?_;refine bd (or5 auth data) ?_;by_cases h2:32<auth.length∨128<data.length
   ·rw [if_pos h2];exact ct (by simpa using h2) rfl
   rw [if_neg h2];refine cf (by simpa using h2) ?_;refine bd (an6 data t.Kind) ?_;by_cases h3:0<data.length/\t.Kind≠3
   ·rw [if_pos h3];exact ct (decide_eq_true h3) rfl
   rw [if_neg h3];exact cf (decide_eq_false h3) (congrArg some h)
  ·rw [if_pos h];exact ct (b1 h) rfl
 ·by_cases h:mkE t auth data=0
  ·rw [if_neg (by simp [h])];obtain ⟨g1,g2,g3⟩:=yC6 h;refine cf (b0 h) ?_;refine bd (tK secret _ [] 32 hs ji ji) ?_;exact bd (zSm _ t.Kind t.Height g1.h0 g1.h3 (by show (dv _ _ _ 32).length<_;rw [bG _ _ _ _ ji];decide) (by show data.length<_;omega)) rfl
  ·rw [if_pos h];exact ct (b1 h) rfl
structure zBn (s:zK):Prop where
 au:s.Auth.length<=32
 sd:s.Seed.length<=32
 dt:s.Data.length<=128
def yGn {u:By} (h:kH (tz p)) (hu:u.length=uqs p.Kind):kH ⟨p.Kind,p.Attr,p.Height,p.Policy,u⟩:=⟨h.k1,h.k3,h.h0,h.h3,h.pl,hu⟩
def zPy {secret:By} (h:(mkO secret t auth data).2.2=0):kH (mkO secret t auth data).1/\zBn (mkO secret t auth data).2.1:=by
 unfold mkO at h ⊢;split at h
 ·rename_i g;exact absurd h g
 rename_i g;have e:=W5.1 g;obtain ⟨g1,g2,g3⟩:=yC6 e;rw [if_neg g];exact ⟨yGn g1 (zTg _ _ _ g1.h3),g2,by show (dv _ _ _ 32).length<=32;rw [bG _ _ _ _ ji];decide,g3⟩
def prL:By:=[112,114,105,118,97,116,101]
def zGa (parent:zK) (p:zM):By:=dv parent.Seed prL (nm p) 32
def zMu (parent:zK) (p:zM):(zGa parent p).length=32:=bG _ _ _ _ ji
def zEt (s:zK):By:=wE (wE (wE [] s.Auth) s.Seed) s.Data
def zH8 (parent:zK) (p:zM) (s:zK):By:=zMy (zGa parent p) ((nm p).take 16) (enc p) (zEt s)
def yLs {l:By} (h:l.length=32):sub l 0 16=some (l.take 16):=by
 rw [show (0:Int)=((0:Nat):Int) from rfl,show (16:Int)=((16:Nat):Int) from rfl,uW jh jh];simp
def zG3 (parent:zK) (p:zM) (s:zK) (hp:parent.Seed.length<2 ^ 30):nF parent p s=some (zH8 parent p s):=by
 have he:=zHn p;have h1:=vF [] s.Auth;have h2:=vF (wE [] s.Auth) s.Seed;unfold nF;refine bd (pA p) ?_;refine bd (tY _ _ ji) ?_;refine bd (tY _ _ (by simp at h1;omega)) ?_;refine bd (tY _ _ (by simp at h1;omega)) ?_;refine bd (a:=zGa parent p) (bd (tK _ _ _ 32 hp ji (by rw [zB8];decide)) rfl) ?_;refine bd (yLs (zB8 p)) ?_;refine bd (rX p) ?_;exact bd (zYj _ _ _ _ (by rw [zMu];decide) jh) rfl
def zMa (parent:zK) (p:zM) (s:zK) (hp:parent.Seed.length<2 ^ 30):mQ parent p s=some (zH8 parent p s):=(show mQ parent p s=nF parent p s from rfl).trans (zG3 parent p s hp)
def yGb {s:zK} (h:zBn s):32<=(zH8 parent p s).length/\(zH8 parent p s).length<2 ^ 20:=by
 have e1:(wE [] s.Auth).length=2+s.Auth.length:=by simp [wE,yL];have:=h.au;omega
 have e2:(wE (wE [] s.Auth) s.Seed).length=4+s.Auth.length+s.Seed.length:=by unfold wE at *;simp only [Q6,yL,Qn] at *;have:=h.sd;omega
 have e3:(zEt s).length=6+s.Auth.length+s.Seed.length+s.Data.length:=by unfold zEt wE at *;simp only [Q6,yL,Qn] at *;have:=h.dt;omega
 have h1:=h.au;have h2:=h.sd;have h3:=h.dt;unfold zH8 zMy;rw [if_neg (by simp only [Qn,zB8];omega)];have l1:=vF [] ((nm p).take 16);have l2:=vF (wE [] ((nm p).take 16)) (zJ1 (zGa parent p) ((nm p).take 16) (zEt s));simp only [Q6,zIb];simp only [Qq] at l1;omega
def yKr (p:zM) (x y z:By×RS):zK×Int:=
 if iS z.2≠0 then (sn0,iS z.2) else if unq ⟨x.1,y.1,z.1⟩ p.Kind p.Height≠p.Unique then (sn0,18) else (⟨x.1,y.1,z.1⟩,0)
def wr1 (b:By):=wG (rs0 b) 32
def wr2 (b:By):=wG (wr1 b).2 32
def wr3 (b:By):=wG (wr2 b).2 128
def zM9 (parent:zK) (p:zM) (b:By):zK×Int:=
 if (zDz (zGa parent p) (enc p) b).2≠0 then (sn0,(zDz (zGa parent p) (enc p) b).2) else yKr p (wr1 (zDz (zGa parent p) (enc p) b).1) (wr2 (zDz (zGa parent p) (enc p) b).1) (wr3 (zDz (zGa parent p) (enc p) b).1)
def zZ2 {b:By}:zBn (zM9 parent p b).1:=by
 have o:zBn sn0:=⟨ji,ji,ji⟩;unfold zM9;split
 ·exact o
 unfold yKr;split
 ·exact o
 split
 ·exact o
 ·exact ⟨iU _ 32,iU _ 32,iU _ 128⟩
def zUq (parent:zK) (p:zM) (b:By) (hp:parent.Seed.length<2 ^ 30) (h0:0<=p.Height) (h3:p.Height<=3) (hb:b.length<2 ^ 40):zAo parent p b=some (zM9 parent p b):=by
 have he:=zHn p;have hl:=zUz (zGa parent p) (enc p) b;unfold zAo zM9;refine bd (pA p) ?_;refine bd (a:=zGa parent p) (bd (tK _ _ _ 32 hp ji (by rw [zB8];decide)) rfl) ?_;refine bd (rX p) ?_;refine bd (zX7 _ _ _ (by rw [zMu];decide) jh hb) ?_;generalize zDz (zGa parent p) (enc p) b=x at hl;by_cases h:x.2=0
 ·rw [if_neg (by simp [h])];refine cf (b0 h) ?_;have o0:=zGe (b:=x.1) jh;have o1:(wr1 x.1).2.Ok:=jE _ 32 o0;have o2:(wr2 x.1).2.Ok:=jE _ 32 o1;have o3:(wr3 x.1).2.Ok:=jE _ 128 o2;have l2:(wr2 x.1).1.length<=32:=iU _ 32;have l3:(wr3 x.1).1.length<=128:=iU _ 128;refine bd (zZx _) ?_;refine bd (rO _ 32 o0) ?_;refine bd (rO _ 32 o1) ?_;refine bd (rO _ 128 o2) ?_;refine bd (zEy _ o3) ?_;show (bif (iS (wr3 x.1).2 != 0) then some (sn0,iS (wr3 x.1).2) else (pW ⟨(wr1 x.1).1,(wr2 x.1).1,(wr3 x.1).1⟩ p.Kind p.Height).bind _)=_;unfold yKr;by_cases h2:iS (wr3 x.1).2=0
  ·rw [if_neg (by simp [h2])];refine cf (b0 h2) ?_;refine bd (zSm _ _ _ h0 h3 (by show (wr2 x.1).1.length<_;omega) (by show (wr3 x.1).1.length<_;omega)) ?_;have hu:=zTg ⟨(wr1 x.1).1,(wr2 x.1).1,(wr3 x.1).1⟩ p.Kind p.Height h3;have hu2:=zX4 p.Kind;refine bd (oS _ _ jh) ?_;by_cases h4:unq ⟨(wr1 x.1).1,(wr2 x.1).1,(wr3 x.1).1⟩ p.Kind p.Height=p.Unique
   ·rw [if_neg (by simp [h4])];exact cf (by simp [h4]) rfl
   ·rw [if_pos h4];exact ct (by simp [h4]) rfl
  ·rw [if_pos h2];exact ct (b1 h2) rfl
 ·rw [if_pos h];exact ct (b1 h) rfl
end Go.Proofs.TT
namespace Go.Sw
open Go
variable {c d:Bool}{o:Option Bool}
def cc {α:Type} {a b:Option α} {x y:α} (h:c=true->a=some x) (k:c=false->b=some y):(bif c then a else b)=some (bif c then x else y):=by cases c<;>first  | simp_all
def oA (c d:Bool):(bif c then some d else some false:Option Bool)=some (c&&d):=by cases c<;>rfl
def oO (c d:Bool):(bif c then some true else some d:Option Bool)=some (c||d):=by cases c<;>rfl
def oA' (h:c=true->o=some d):(bif c then o else some false:Option Bool)=some (c&&d):=by cases c<;>first  | simp_all
def oO' (h:c=false->o=some d):(bif c then some true else o:Option Bool)=some (c||d):=by cases c<;>first  | simp_all
def oD' (h:c=false->o=some d):(bif c then some c else o:Option Bool)=some (c||d):=by cases c<;>first  | simp_all
end Go.Sw
namespace Go.Proofs.TT
open Go Go.Sw
variable {a:zH}{b:Bool}{d:By}{α:Type}
def z32:By:=Q3 32 0
def zTw:z32.length=32:=rfl
def zRb:jG=some z32:=rfl
def lQ (n lo hi:Int):Bool:=decide (lo<=n)&&decide (n<=hi)
def zRh {n lo hi:Int}:lQ n lo hi=true↔lo<=n/\n<=hi:=by simp [lQ]
def arg (b:Bool):Int:=bif b then 0 else 1
def zOl (e:Int) (b:By):Int:=bif (e==0)&&decide (128<(b.length:Int)) then 4 else e
def l32 (b:By):Bool:=(b.length:Int)==32
def zG0 {b:By}:l32 b=true↔b.length=32:=by simp [l32];omega
def brs (l:List By):Bool:=lQ l.length 2 8&&l.all l32
def pcv (a:zH):Int:=
 bif a.Kind==1 then arg (lQ a.Selection.a0 0 65535&&(lQ a.Selection.a1 0 65535&&l32 a.Digest)) else
 bif a.Kind==2 then arg (lQ a.N 1 31) else
 bif a.Kind==3 then arg (lQ a.N 1 255) else
 bif a.Kind==4 then zOl (arg (lQ a.Op 0 3&&l32 a.Name)) a.Operand else
 bif a.Kind==5 then arg (lQ a.Op 0 3&&lQ a.N 0 1099511627776) else
 bif (a.Kind==6)||(a.Kind==9) then zOl (arg (l32 a.Name)) a.Ref else
 bif a.Kind==7 then 0 else
 bif a.Kind==8 then arg (brs a.Branches) else 19
def all_take {l:List α} {p:α->Bool} {i:Nat} (h:i<l.length):(l.take (i+1)).all p=((l.take i).all p&&p l[i]):=by
 rw [Qc,List.all_append,List.getElem?_eq_getElem h];simp
def rbrs (l:List By):jU l=some (brs l):=by
 unfold jU brs;refine bd (oO _ _) ?_;by_cases h:2<=l.length/\l.length<=8
 ·have e:lQ l.length 2 8=true:=zRh.2 jh;rw [e,Wq];refine cf jl ?_;have I:∀ (d k:Nat),k+d=l.length->∀ z,d<z->zP (pS l) z (k:Int)=some (bif (l.drop k).all l32 then .inr () else .inl false):=by
   intro d;induction d with
   | zero=>
    intro k S z V;obtain ⟨f,rfl⟩:∃ f,z=f+1:=⟨z - 1,jh⟩;have:(l.drop k)=[]:=Qf jh;rw [this];simp only [zP,pS];rw [show decide ((k:Int)<l.length)=false from decide_eq_false jh];rfl
   | succ d R=>
    intro k S z V;obtain ⟨f,rfl⟩:∃ f,z=f+1:=⟨z - 1,jh⟩;have G:k<l.length:=jh
    rw [eT G,List.all_cons];simp only [zP,pS];rw [show decide ((k:Int)<l.length)=true from decide_eq_true jh,yX G];by_cases g:l32 l[k]=true
    ·rw [g,Wq,<- R (k+1) jh f jh];have J:=zG0.1 g;simp only [cond_true,Q7];rw [show ((l[k].length:Int) != 32)=false by rw [J];rfl,yI jh jh];rfl
    ·have J:l[k].length≠32:=λq=>g (zG0.2 q);simp only [cond_true,Q7];rw [Wg.2 g,show ((l[k].length:Int) != 32)=true by have N:(l[k].length:Int)≠32:=by { omega };simpa using N];rfl
  refine bd (I l.length 0 jh FU (xJ jh)) ?_;rw [Qs];cases l.all l32<;>rfl
 ·have e:lQ l.length 2 8=false:=Wg.2 λq=>h (by have:=zRh.1 q;omega);rw [e];refine ct jl rfl
def zYu (nm z:By):dA nm z=some (zOl (arg (l32 nm)) z):=by
 unfold dA zOl l32;by_cases h:nm.length=32
 ·refine cf jm ?_;rw [c0' (show (nm.length:Int)=32 by omega)];exact cc (λ_=>rfl) (λ_=>rfl)
 ·have A:(nm.length:Int)≠32:=jh
  refine ct jm ?_;rw [c1' (show (nm.length:Int)≠32 by omega)];rfl
def zGm (b:Bool):(bif !b then (some 1) else some 0:Option Int)=some (arg b):=by cases b<;>rfl
def bi {α:Type} {o:Option (Int ⊕ Bool)} (h:o=some (.inr b)):(o.bind λj=>match j with | .inl r=>some r | .inr D=>(bif !D then (some 1) else some 0))=some (arg b):=by
 subst h;exact zGm b
def bT (a:zH):kQ a=some (pcv a):=by
 unfold kQ pcv;cases N:(a.Kind==1)
 case true=>
  simp only [cond_true,cond_false];refine bd (a:=.inr (lQ a.Selection.a0 0 65535&&(lQ a.Selection.a1 0 65535&&l32 a.Digest))) ?_ (by exact zGm _);refine bd (a:=lQ a.Selection.a0 0 65535&&lQ a.Selection.a1 0 65535) ?_ ?_
  ·unfold zAz lQ;refine bd (a:=_) ((oA' λ_=>oA' λ_=>oA _ _)) ?_;simp only [Bool.and_assoc]
  ·cases lQ a.Selection.a0 0 65535<;>cases lQ a.Selection.a1 0 65535<;>rfl
 cases S:(a.Kind==2)
 case true=>
  simp only [cond_true,cond_false];exact bd (a:=.inr (lQ a.N 1 31)) (by unfold lQ;cases decide (1<=a.N)<;>rfl) (by exact zGm _)
 cases K:(a.Kind==3)
 case true=>
  simp only [cond_true,cond_false];exact bd (a:=.inr (lQ a.N 1 255)) (by unfold lQ;cases decide (1<=a.N)<;>rfl) (by exact zGm _)
 cases L:(a.Kind==4)
 case true=>
  simp only [cond_true,cond_false];refine bd (a:=.inl (zOl (arg (lQ a.Op 0 3&&l32 a.Name)) a.Operand)) (bd (oO _ _) ?_) rfl;have e:lQ a.Op 0 3=!(decide (a.Op<0)||decide (3<a.Op)):=by
   unfold lQ;by_cases g:a.Op<0<;>by_cases I:3<a.Op<;>simp [g,I]<;>omega
  rw [e];cases decide (a.Op<0)||decide (3<a.Op)
  ·exact bd (zYu _ _) rfl
  ·rfl
 cases J:(a.Kind==5)
 case true=>
  simp only [cond_true,cond_false];refine bd (a:=.inr (lQ a.Op 0 3&&lQ a.N 0 1099511627776)) ?_ (by exact zGm _);unfold lQ;cases decide (0<=a.Op)<;>cases decide (a.Op<=3)<;>cases decide (0<=a.N)<;>rfl
 have H:(bif (a.Kind==6) then some (a.Kind==6) else some (a.Kind==9):Option Bool)=some ((a.Kind==6)||(a.Kind==9)):=by cases a.Kind==6<;>rfl
 cases G:((a.Kind==6)||(a.Kind==9))
 case true=>
  simp only [cond_true,cond_false];exact bd (a:=.inl (zOl (arg (l32 a.Name)) a.Ref)) (bd (H.trans (congrArg some G)) (bd (zYu _ _) rfl)) rfl
 cases T:(a.Kind==7)
 case true=>
  simp only [cond_true,cond_false];exact bd (a:=.inr true) (bd (H.trans (congrArg some G)) rfl) rfl
 cases R:(a.Kind==8)
 case true=>
  simp only [cond_true,cond_false];exact bd (a:=.inr (brs a.Branches)) (bd (H.trans (congrArg some G)) (bd (rbrs _) rfl)) (by exact zGm _)
 simp only [cond_true,cond_false];exact bd (a:=.inl 19) (bd (H.trans (congrArg some G)) rfl) rfl
def pfl (d:By) (a:zH):List By:=
 bif a.Kind==1 then [d,wW (wW [] 2 a.Selection.a0) 2 a.Selection.a1,a.Digest] else
 bif (a.Kind==2)||(a.Kind==3) then [d,[u8 a.N]] else
 bif a.Kind==4 then [d,[u8 a.Op],a.Operand,a.Name] else
 bif a.Kind==5 then [d,[u8 a.Op],wW [] 8 a.N] else
 bif a.Kind==6 then [d,a.Name,a.Ref] else
 bif a.Kind==8 then a.Branches else
 bif a.Kind==9 then [a.Name,a.Ref] else [d]
def yA8 {x:By} (h:zOl (arg b) x=0):b=true/\x.length<=128:=by
 unfold zOl at h;cases b
 ·exact absurd h (show ¬ (1)=0 by decide)
 ·refine ⟨rfl,?_⟩;cases e:decide (128<(x.length:Int))
  ·have:=dF e;omega
  ·rw [e] at h;exact absurd h ji
def yK5 (h:arg b=0):b=true:=by cases b<;>first | rfl | exact absurd h ji
def yK9 {l:List By} (h:∀ x∈l,x.length<=2 ^ 20) (n:Nat) (z:l.length<=n):tot l<=n*(2 ^ 20+4):=by
 induction l generalizing n with
 | nil=>simp [tot]
 | cons x l E=>
  have G:=h x jk;simp only [Qe] at z;have F:=E (λy A=>h y (Wb _ A)) (n - 1) jh;have e:tot (x :: l)=4+x.length+tot l:=by rfl
  omega
def zTz (G:d.length<=2 ^ 20) (h:pcv a=0):(pfl d a).length<=8/\tot (pfl d a)<2 ^ 30:=by
 have H:(pfl d a).length<=8/\∀ x∈pfl d a,x.length<=2 ^ 20:=by
  unfold pcv at h;unfold pfl;cases S:(a.Kind==1)
  case true=>
   rw [S] at h;have g:=yK5 h;simp only [W8] at g;have J:=zG0.1 g.2.2;refine ⟨jk,λx z=>?_⟩;simp only [cond_true,Wp,Wh,or_false] at z;rcases z with rfl | rfl | rfl
   ·exact G
   ·rw [yL,yL];simp
   ·omega
  cases W:(a.Kind==2)
  case true=>refine ⟨jk,λx z=>?_⟩;simp at z;rcases z with rfl | rfl;exact G;simp
  cases V:(a.Kind==3)
  case true=>refine ⟨jk,λx z=>?_⟩;simp at z;rcases z with rfl | rfl;exact G;simp
  rw [S,W,V] at h;cases R:(a.Kind==4)
  case true=>
   rw [R] at h;have g:=yA8 h;have K:=g.1;simp only [W8] at K;have J:=zG0.1 K.2;refine ⟨jk,λx z=>?_⟩;simp at z;rcases z with rfl | rfl | rfl | rfl
   ·exact G
   ·simp
   ·omega
   ·omega
  cases T:(a.Kind==5)
  case true=>refine ⟨jk,λx z=>?_⟩;simp at z;rcases z with rfl | rfl | rfl;exact G;simp;rw [yL];simp
  rw [R,T] at h;cases N:(a.Kind==6)
  case true=>
   rw [N] at h;have g:=yA8 h;have J:=zG0.1 g.1;refine ⟨jk,λx z=>?_⟩;simp at z;rcases z with rfl | rfl | rfl
   ·exact G
   ·omega
   ·omega
  cases L:(a.Kind==9)
  case true=>
   rw [N,L] at h;have g:=yA8 h;have J:=zG0.1 g.1;have I:(a.Kind==8)=false:=by have:=eq_of_beq L;rw [this];rfl
   rw [I];refine ⟨jk,λx z=>?_⟩;simp at z;rcases z with rfl | rfl
   ·omega
   ·omega
  cases I:(a.Kind==8)
  case true=>
   have U:(a.Kind==7)=false:=by have:=eq_of_beq I;rw [this];rfl
   rw [N,L,U,I] at h;have g:=yK5 h;unfold brs at g;simp only [W8] at g;have K:=zRh.1 g.1;refine ⟨by show a.Branches.length<=8;omega,λx z=>?_⟩;have:=zG0.1 (List.all_eq_true.1 g.2 x z);omega
  refine ⟨jk,λx z=>?_⟩;simp at z;subst z;exact G
 exact ⟨H.1,by have:=yK9 H.2 8 H.1;omega⟩
def aP (x:By) (l:List By):tot (x :: l)=4+x.length+tot l:=rfl
def pex (d:By) (a:zH):By:=if pcv a=0 then hs 8 ([u8 a.Kind] :: pfl d a) else []
def zFr (d:By) (a:zH):(pex d a).length<=32:=by
 unfold pex;split
 ·rw [gQ];decide
 simp
def yMl (L:d.length<=2 ^ 20) (h:pcv a=0):zAm d a=some (frm 8 ([u8 a.Kind] :: pfl d a)):=by
 obtain ⟨z,T⟩:=zTz L h;unfold zAm;refine bd (a:=[u8 a.Kind] :: pfl d a) ?_ (bd (eS 8 _ (by rw [aP];simp;omega)) rfl);have A:=h;unfold pcv at A;unfold pfl at z ⊢;cases R:(a.Kind==1)
 case true=>
  rfl
 rw [R] at A z;cases N:(a.Kind==2)
 case true=>
  simp only [cond_true,cond_false,W2,W3,Qu,Q7];exact bd (yC jk) rfl
 cases K:(a.Kind==3)
 case true=>
  simp only [cond_true,cond_false,W2,W3,Qu,Q7];exact bd (yC jk) rfl
 rw [N,K] at A z;cases J:(a.Kind==4)
 case true=>
  simp only [cond_true,cond_false,W2,W3,Qu,Q7];exact bd (yC jk) rfl
 cases H:(a.Kind==5)
 case true=>
  rfl
 rw [J,H] at A z;cases S:(a.Kind==6)
 case true=>
  simp only [cond_true,cond_false,W2,W3,Qu,Q7];exact bd (yC jk) rfl
 rw [S] at A z;cases F:(a.Kind==7)
 case true=>
  have e:=eq_of_beq F;rw [e];simp only [cond_true,cond_false,Q7];exact bd (yC jk) rfl
 cases G:(a.Kind==8)
 case true=>
  rw [G] at z;have z:a.Branches.length<=8:=z;simp only [cond_true,cond_false,Q7];exact bd (yC jl) rfl
 cases I:(a.Kind==9)
 case true=>
  simp only [cond_true,cond_false,W2,W3,Qu,Q7];exact bd (yC jk) rfl
 rw [I,F,G] at A;exact absurd A (show ¬ (19:Int)=0 by decide)
def mV (d:By) (a:zH) (z:d.length<=2 ^ 20):tV d a=some (pex d a):=by
 unfold tV pex;refine bd (bT a) ?_;by_cases g:pcv a=0
 ·obtain ⟨D,E⟩:=zTz z g;rw [if_pos g];refine cf (b0 g) (bd (yMl z g) (bd (cR _ ?_) rfl));rw [eF,aP];simp;omega
 ·rw [if_neg g];exact ct (b1 g) rfl
def trm:By->By
 | []=>[]
 | x :: l=>if x=0 then trm l else x :: l
def yHk (l:By):(trm l).length<=l.length:=by
 induction l with
 | nil=>simp [trm]
 | cons x l D=>unfold trm;split<;>simp;omega
def u0 (x:UInt8):((x.toNat:Int)==0)=decide (x=0):=by
 by_cases h:x=0
 ·simp_all
 ·have:=λg=>h (Ql.1 g);simp_all
def rstl (b:By):∀ d i z:Nat,i+d=b.length->d<z->b.length<2 ^ 40->∃ j:Nat,zP (qC b) z (i:Int)=some (j:Int)/\j<=b.length/\b.drop j=trm (b.drop i):=by
 intro d;induction d with
 | zero=>
  intro i z h L G;obtain ⟨f,rfl⟩:∃ f,z=f+1:=⟨z - 1,jh⟩;have e:qC b (i:Int)=some (.inr (i:Int)):=by unfold qC;exact bd (cf (decide_eq_false jh) rfl) rfl
  refine ⟨i,by simp only [zP,e],jh,?_⟩;have:b.drop i=[]:=Qf jh;rw [this];rfl
 | succ d J=>
  intro i z h L G;obtain ⟨f,rfl⟩:∃ f,z=f+1:=⟨z - 1,jh⟩;have E:i<b.length:=jh
  have e:qC b (i:Int)=some (if b[i]=0 then .inl ((i+1:Nat):Int) else .inr (i:Int)):=by
   unfold qC;refine bd (a:=decide (b[i]=0)) (ct (decide_eq_true jh) (bd (yX E) (congrArg some (u0 _)))) ?_;by_cases g:b[i]=0
   ·rw [decide_eq_true g,if_pos g,yI jh jh];rfl
   ·rw [decide_eq_false g,if_neg g];rfl
  rw [eT E];unfold trm;by_cases g:b[i]=0
  ·rw [if_pos g] at e ⊢;obtain ⟨j,N,S,K⟩:=J (i+1) f jh jh G;exact ⟨j,by simp only [zP,e];exact N,S,K⟩
  ·rw [if_neg g] at e ⊢;exact ⟨i,by simp only [zP,e],jh,eT E⟩
def zOh (l:By) (h:l.length<2 ^ 40):zBh l=some (trm l):=by
 obtain ⟨j,D,A,z⟩:=rstl l l.length 0 FU jh (xJ jh) h;refine bd D (bd ?_ rfl);rw [uW A (Q5 _),Q2 jk,z,Qs]
def ltB:By->By->Bool
 | x :: a,y :: b=>if x≠y then decide (x<y) else ltB a b
 | _,_=>false
def zYz (a b:By) (W:a.length=b.length) (U:a.length<2 ^ 40):∀ d i z:Nat,i+d=a.length->d<z->∃ r,zP (oH a b) z (i:Int)=some r/\(match r with | .inl x=>x | .inr _=>false)=ltB (a.drop i) (b.drop i):=by
 intro d;induction d with
 | zero=>
  intro i z h T;obtain ⟨f,rfl⟩:∃ f,z=f+1:=⟨z - 1,jh⟩;have e:oH a b (i:Int)=some (.inr (.inr ())):=by unfold oH;exact cf (decide_eq_false jh) rfl
  refine ⟨.inr (),by simp only [zP,e],?_⟩;have:a.drop i=[]:=Qf jh;rw [this];rfl
 | succ d N=>
  intro i z h T;obtain ⟨f,rfl⟩:∃ f,z=f+1:=⟨z - 1,jh⟩;have H:i<a.length:=jh
  have I:i<b.length:=jh
  have e:oH a b (i:Int)=some (if a[i]≠b[i] then .inr (.inl (decide (a[i]<b[i]))) else .inl ((i+1:Nat):Int)):=by
   unfold oH;refine ct (decide_eq_true jh) (bd (yX H) (bd (yX I) ?_));by_cases g:a[i]=b[i]
   ·rw [if_neg (by simp [g])];refine cf (by simp [g]) ?_;rw [yI jh jh];rfl
   ·have V:a[i].toNat≠b[i].toNat:=λq=>g (Ql.1 q);rw [if_pos g];refine ct (by simpa using (show (a[i].toNat:Int)≠b[i].toNat by omega)) (bd (yX H) (bd (yX I) ?_));rw [show decide (((a[i]).toNat:Int)<(b[i]).toNat)=decide (a[i]<b[i]) from decide_eq_decide.2 (by rw [UInt8.lt_iff_toNat_lt];omega)]
  rw [eT H,eT I];unfold ltB;by_cases g:a[i]≠b[i]
  ·rw [if_pos g] at e ⊢;exact ⟨.inl _,by simp only [zP,e],rfl⟩
  ·rw [if_neg g] at e ⊢;obtain ⟨r,S,R⟩:=N (i+1) f jh jh;exact ⟨r,by simp only [zP,e];exact S,R⟩
def lss (a b:By):Bool:=if (trm a).length≠(trm b).length then decide ((trm a).length<(trm b).length) else ltB (trm a) (trm b)
def zC7 (a b:By) (F:a.length<2 ^ 40) (G:b.length<2 ^ 40):oC a b=some (lss a b):=by
 have J:=yHk a;unfold oC lss;refine bd (zOh a F) (bd (zOh b G) ?_);by_cases g:(trm a).length=(trm b).length
 ·rw [if_neg (by simp [g])];obtain ⟨r,H,E⟩:=zYz (trm a) (trm b) g jh (trm a).length 0 FU jh (xJ jh);refine cf (by rw [g];simp) (bd H ?_);rw [Qs,Qs] at E;rw [<- E];cases r<;>rfl
 ·rw [if_pos g];refine ct (by simpa using (show ((trm a).length:Int)≠(trm b).length by omega)) ?_;simp
def pcm (op:Int) (a b:By):Bool:=
 bif op==0 then !lss a b&&!lss b a else bif op==1 then lss a b||lss b a else bif op==2 then lss a b else bif op==3 then !lss a b else false
def zJk (D:Int) (a b:By) (z:a.length<2 ^ 40) (g:b.length<2 ^ 40):eM D a b=some (pcm D a b):=by
 unfold eM pcm;refine cc (λ_=>?_) λ_=>cc (λ_=>?_) λ_=>cc (λ_=>?_) λ_=>cc (λ_=>?_) λ_=>rfl
 ·refine bd (bd (zC7 a b z g) ?_) rfl;exact oA' λ_=>bd (zC7 b a g z) rfl
 ·refine bd (bd (zC7 a b z g) ?_) rfl;exact oO' λ_=>bd (zC7 b a g z) rfl
 ·exact bd (zC7 a b z g) rfl
 ·exact bd (zC7 a b z g) rfl
def pdg:List zH->By->Option By
 | [],d=>some d
 | a :: l,d=>if pex d a=[] then none else pdg l (pex d a)
def zS0:∀ (l:List zH) (d:By),d.length<=32->((pdg l d).getD []).length<=32
 | [],d,h=>h
 | a :: l,d,h=>by
  unfold pdg;split
  ·decide
  ·exact zS0 l _ (zFr _ _)
def zZi (l:List zH) (R:l.length<2 ^ 40):∀ k i z:Nat,i+k=l.length->k<z->∀ d:By,d.length<=32->zP (sX l) z (d,(i:Int))=some (match pdg (l.drop i) d with | none=>.inl [] | some x=>.inr x):=by
 intro k;induction k with
 | zero=>
  intro i z h K d L;obtain ⟨f,rfl⟩:∃ f,z=f+1:=⟨z - 1,jh⟩;have e:sX l (d,(i:Int))=some (.inr (.inr d)):=by unfold sX;exact cf (decide_eq_false jh) rfl
  have:l.drop i=[]:=Qf jh;simp only [zP,e,this];rfl
 | succ k N=>
  intro i z h K d L;obtain ⟨f,rfl⟩:∃ f,z=f+1:=⟨z - 1,jh⟩;have G:i<l.length:=jh
  have e:sX l (d,(i:Int))=some (if pex d l[i]=[] then .inr (.inl []) else .inl (pex d l[i],((i+1:Nat):Int))):=by
   unfold sX;refine ct (decide_eq_true jh) (bd (yX G) (bd (mV d _ jh) ?_));by_cases g:pex d l[i]=[]
   ·rw [if_pos g];exact ct (by rw [g];rfl) rfl
   ·rw [if_neg g,yI jh jh];refine cf ?_ rfl;have:(pex d l[i]).length≠0:=λq=>g (List.eq_nil_of_length_eq_zero q);simp;exact g
  rw [eT G];unfold pdg;by_cases g:pex d l[i]=[]
  ·rw [if_pos g] at e ⊢;simp only [zP,e]
  ·rw [if_neg g] at e ⊢;simp only [zP,e];exact N (i+1) f jh jh _ (zFr _ _)
def zIg (l:List zH) (A:l.length<2 ^ 40):gI l=some ((pdg l z32).getD []):=by
 refine bd zRb (bd (zZi l A l.length 0 FU jh (xJ jh) _ ji) ?_);rw [Qs];cases pdg l _<;>rfl
end Go.Proofs.TT
