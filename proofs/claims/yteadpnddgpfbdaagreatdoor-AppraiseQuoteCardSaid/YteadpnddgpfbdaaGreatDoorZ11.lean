/- AppraiseQuote (law 37: the program and the reference say the same of a quote, or give the same error) is proved for every input, under no condition of ours; this text is a part of that proof. -/
import Derived.Test.YteadpnddgpfbdaaGreatDoorZ4
import Derived.Test.YteadpnddgpfbdaaGreatDoorZ5
set_option linter.all false
namespace Go.Sw
open Go
theorem loopT_from {X Y:Type} {step:X->Option (X ⊕ Y)} {r:Y} (n:Nat) (s:Nat->X) (h:∀ i,i<n->step (s i)=some (.inl (s (i+1)))) (he:step (s n)=some (.inr r)) :
  ∀ (d k fuel:Nat),k+d=n->d<fuel->loopT step fuel (s k)=some r:=by
 intro d
 induction d with
 | zero=>
  intro k fuel hk hf
  obtain ⟨f,rfl⟩:∃ f,fuel=f+1:=⟨fuel - 1,by omega⟩
  have:k=n:=by omega
  subst this
  simp [loopT,he]
 | succ d ih=>
  intro k fuel hk hf
  obtain ⟨f,rfl⟩:∃ f,fuel=f+1:=⟨fuel - 1,by omega⟩
  simp only [loopT,h k (by omega)]
  exact ih (k+1) f (by omega) (by omega)
theorem loopT_run {X Y:Type} {step:X->Option (X ⊕ Y)} {r:Y} {x:X} (n:Nat) (s:Nat->X) (h0:s 0=x) (h:∀ i,i<n->step (s i)=some (.inl (s (i+1)))) (he:step (s n)=some (.inr r)) {fuel:Nat} (hf:n<fuel) :
  loopT step fuel x=some r:=by
 subst h0
 exact loopT_from n s h he n 0 fuel (by omega) hf
theorem loopT_inv {X Y:Type} {step:X->Option (X ⊕ Y)} (I:X->Prop) (m:X->Nat) (Q:Y->Prop)
  (h:∀ s,I s->(∃ s',step s=some (.inl s')/\I s'/\m s'<m s)∨(∃ r,step s=some (.inr r)/\Q r)) :
  ∀ (fuel:Nat) (s:X),I s->m s<fuel->∃ r,loopT step fuel s=some r/\Q r:=by
 intro fuel
 induction fuel with
 | zero=>intro s _ hm;omega
 | succ f ih=>
  intro s hs hm
  rcases h s hs with ⟨s',h1,h2,h3⟩ | ⟨r,h1,h2⟩
  ·obtain ⟨r,h4,h5⟩:=ih s' h2 (by omega)
   exact ⟨r,by simp [loopT,h1,h4],h5⟩
  ·exact ⟨r,by simp [loopT,h1],h2⟩
theorem lt_FU {n:Nat} (h:n<2 ^ 64):n<FU:=by
 have:(2:Nat) ^ 64<FU:=by decide
 omega
theorem wrapI {n:Int} (h1:-9223372036854775808<=n) (h2:n<=9223372036854775807):IntKind.i64.wrap n=n:=by rw [IntKind.wrap_i64];omega
theorem wrapU {n:Int} (h1:0<=n) (h2:n<=4294967295):IntKind.u32.wrap n=n:=by rw [IntKind.wrap_u32];omega
theorem wrapL {n:Int} (h1:0<=n) (h2:n<=18446744073709551615):IntKind.u64.wrap n=n:=by rw [IntKind.wrap_u64];omega
theorem appL_eq {α:Type} {b:Nat} {l m:List α} (h:(l.length+m.length)*b<=140737488355328):appL b l m=some (l++m):=by
 simp [appL,LIM,h]
theorem idx_eq {α:Type} {l:List α} {i:Nat} (h:i<l.length):idx l (i:Int)=some l[i]:=by
 simp [idx,h]
theorem sub_eq {α:Type} {l:List α} {a b:Nat} (h:a<=b) (h2:b<=l.length):sub l (a:Int) (b:Int)=some ((l.drop a).take (b - a)):=by
 have:(0:Int)<=a/\(a:Int)<=b/\(b:Int)<=l.length:=⟨by omega,by omega,by omega⟩
 simp [sub,this]
theorem bd {α β:Type} {o:Option α} {a:α} {f:α->Option β} {r:Option β} (h:o=some a) (k:f a=r):o.bind f=r:=by subst h;exact k
theorem ltk {α β:Type} {e:α} {f:α->Option β} {r:Option β} (k:f e=r):lt e f=r:=k
theorem ct {α:Type} {c:Bool} {a b r:α} (h:c=true) (k:a=r):(bif c then a else b)=r:=by subst h;exact k
theorem cf {α:Type} {c:Bool} {a b r:α} (h:c=false) (k:b=r):(bif c then a else b)=r:=by subst h;exact k
theorem ckT {c:Bool} (h:c=true):ck c=some ():=by subst h;rfl
end Go.Sw
namespace Go.Proofs.TT
open Go Go.Sw
set_option maxRecDepth 100000
def rr (x n:Int):Int:=ior .u32 (ishr .u32 x n) (ishl .u32 x (32 - n))
theorem ior_comm (k:IntKind) (a b:Int):ior k a b=ior k b a:=by simp [ior,BitVec.or_comm]
theorem rotr_eq (x n:Int) (h0:0<=n) (h1:n<=32):ref1_rotr x n=some (rr x n):=by
 have h2:IntKind.u64.wrap (32 - n)=32 - n:=by rw [IntKind.wrap_u64];omega
 have h3:decide (0<=n)=true:=by simpa using h0
 simp only [ref1_rotr,ck,lt,h2,h3,rr,cond_true,Option.bind_some]
theorem rotl_eq (x:Int) (n m:Int) (h:iand .u64 (IntKind.u64.wrap n) 31=32 - m) (h0:0<=m) (h1:m<=32):math_bits_RotateLeft32 x n=some (rr x m):=by
 have h2:IntKind.u64.wrap (32 - (32 - m))=m:=by rw [IntKind.wrap_u64];omega
 have h3:(0:Int)<=32 - m:=by omega
 have h4:decide ((0:Int)<=32 - m)=true:=by simpa using h3
 have h5:decide ((0:Int)<=m)=true:=by simpa using h0
 simp only [math_bits_RotateLeft32,ck,lt,h,h2,h4,h5,rr,cond_true,Option.bind_some]
 rw [ior_comm]
def K2:List Int:=gd1
theorem K2_len:K2.length=64:=rfl
theorem constants_eq:ref1_constants=some K2:=rfl
def a8 (s:A8 Int):List Int:=[s.a0,s.a1,s.a2,s.a3,s.a4,s.a5,s.a6,s.a7]
def t1 (s:A8 Int) (k w:Int):Int:=
 IntKind.u32.wrap (IntKind.u32.wrap (IntKind.u32.wrap (IntKind.u32.wrap (s.a7+ixor .u32 (ixor .u32 (rr s.a4 6) (rr s.a4 11)) (rr s.a4 25))+ixor .u32 (iand .u32 s.a4 s.a5) (iand .u32 (icom .u32 s.a4) s.a6))+k)+w)
def t2 (s:A8 Int):Int:=IntKind.u32.wrap (ixor .u32 (ixor .u32 (rr s.a0 2) (rr s.a0 13)) (rr s.a0 22)+ixor .u32 (ixor .u32 (iand .u32 s.a0 s.a1) (iand .u32 s.a0 s.a2)) (iand .u32 s.a1 s.a2))
def rnd (s:A8 Int) (k w:Int):A8 Int:=⟨IntKind.u32.wrap (t1 s k w+t2 s),s.a0,s.a1,s.a2,IntKind.u32.wrap (s.a3+t1 s k w),s.a4,s.a5,s.a6⟩
def rnds (w:List Int) (s:A8 Int):Nat->A8 Int
 | 0=>s
 | n+1=>rnd (rnds w s n) (K2.getD n 0) (w.getD n 0)
theorem ixN_eq {n t:Nat} (h:t<n):ixN n (t:Int)=some t:=by
 have:(0:Int)<=t/\(t:Int)<n:=⟨by omega,by omega⟩
 simp [ixN,this]
theorem get_eq {l:List Int} {t:Nat} (h:t<l.length):l[t]? = some (l.getD t 0):=by simp [h]
theorem wrapS {t:Nat} (h:t<2 ^ 40):IntKind.i64.wrap ((t:Int)+1)=((t+1:Nat):Int):=by rw [wrapI (by omega) (by omega)];simp
section
variable (a b c d e f g h:Int)
theorem idx80:idx [a,b,c,d,e,f,g,h] 0=some a:=rfl
theorem idx81:idx [a,b,c,d,e,f,g,h] 1=some b:=rfl
theorem idx82:idx [a,b,c,d,e,f,g,h] 2=some c:=rfl
theorem idx83:idx [a,b,c,d,e,f,g,h] 3=some d:=rfl
theorem idx84:idx [a,b,c,d,e,f,g,h] 4=some e:=rfl
theorem idx85:idx [a,b,c,d,e,f,g,h] 5=some f:=rfl
theorem idx86:idx [a,b,c,d,e,f,g,h] 6=some g:=rfl
theorem idx87:idx [a,b,c,d,e,f,g,h] 7=some h:=rfl
end
theorem dlt {a b:Nat} (h:a<b):decide ((a:Int)<(b:Int))=true:=by simp;exact h
theorem dge {a b:Nat} (h:b<=a):decide ((a:Int)<(b:Int))=false:=by simp;omega
theorem ref_rnd (w:List Int) (s:A8 Int) (i:Nat) (hi:i<64) (hw:w.length=64):ref1_Sum256_l2 K2 w (a8 s,(i:Int))=some (.inl (a8 (rnd s (K2.getD i 0) (w.getD i 0)),((i+1:Nat):Int))):=by
 have e1:decide ((i:Int)<64)=true:=dlt (b:=64) hi
 have e2:∀ x,ref1_rotr x 6=some (rr x 6):=λx=>rotr_eq x 6 (by decide) (by decide)
 have e3:∀ x,ref1_rotr x 11=some (rr x 11):=λx=>rotr_eq x 11 (by decide) (by decide)
 have e4:∀ x,ref1_rotr x 25=some (rr x 25):=λx=>rotr_eq x 25 (by decide) (by decide)
 have e5:∀ x,ref1_rotr x 2=some (rr x 2):=λx=>rotr_eq x 2 (by decide) (by decide)
 have e6:∀ x,ref1_rotr x 13=some (rr x 13):=λx=>rotr_eq x 13 (by decide) (by decide)
 have e7:∀ x,ref1_rotr x 22=some (rr x 22):=λx=>rotr_eq x 22 (by decide) (by decide)
 have k1:K2[i]? = some (K2.getD i 0):=get_eq (by rw [K2_len];exact hi)
 have k2:w[i]? = some (w.getD i 0):=get_eq (by omega)
 unfold ref1_Sum256_l2 a8
 refine ct e1 ?_
 refine bd (idx80 _ _ _ _ _ _ _ _) ?_
 refine bd (idx84 _ _ _ _ _ _ _ _) ?_
 refine bd (idx87 _ _ _ _ _ _ _ _) ?_
 refine bd (e2 _) ?_
 refine bd (e3 _) ?_
 refine bd (e4 _) ?_
 refine ltk ?_
 refine bd (idx85 _ _ _ _ _ _ _ _) ?_
 refine bd (idx86 _ _ _ _ _ _ _ _) ?_
 refine ltk ?_
 refine bd (ixN_eq hi) ?_
 refine bd k1 ?_
 refine ltk ?_
 refine bd (ixN_eq hi) ?_
 refine bd k2 ?_
 refine bd (e5 _) ?_
 refine bd (e6 _) ?_
 refine bd (e7 _) ?_
 refine bd (idx81 _ _ _ _ _ _ _ _) ?_
 refine bd (idx82 _ _ _ _ _ _ _ _) ?_
 refine ltk ?_
 refine bd (idx81 _ _ _ _ _ _ _ _) ?_
 refine bd (idx82 _ _ _ _ _ _ _ _) ?_
 refine ltk ?_
 refine ltk ?_
 refine bd (idx81 _ _ _ _ _ _ _ _) ?_
 refine bd (idx82 _ _ _ _ _ _ _ _) ?_
 refine bd (idx83 _ _ _ _ _ _ _ _) ?_
 refine ltk ?_
 refine bd (idx85 _ _ _ _ _ _ _ _) ?_
 refine bd (idx86 _ _ _ _ _ _ _ _) ?_
 rw [wrapS (show i<2 ^ 40 by omega)]
 rfl
theorem ref_l2 (w:List Int) (hw:w.length=64) (s:A8 Int):loopT (ref1_Sum256_l2 K2 w) FU (a8 s,0)=some (a8 (rnds w s 64)):=by
 refine loopT_run 64 (λi=>(a8 (rnds w s i),(i:Int))) rfl (λi hi=>ref_rnd w _ i hi hw) ?_ (lt_FU (by decide))
 generalize rnds w s 64=S
 rfl
theorem dig_rnd (w:List Int) (s:A8 Int) (i:Nat) (hi:i<64) (hw:w.length=64):digest_compress256_l2 w ((i:Int),s.a0,s.a1,s.a2,s.a3,s.a4,s.a5,s.a6,s.a7) =
  some (.inl (((i+1:Nat):Int),(rnd s (K2.getD i 0) (w.getD i 0)).a0,(rnd s (K2.getD i 0) (w.getD i 0)).a1,(rnd s (K2.getD i 0) (w.getD i 0)).a2,(rnd s (K2.getD i 0) (w.getD i 0)).a3,(rnd s (K2.getD i 0) (w.getD i 0)).a4,(rnd s (K2.getD i 0) (w.getD i 0)).a5,(rnd s (K2.getD i 0) (w.getD i 0)).a6,(rnd s (K2.getD i 0) (w.getD i 0)).a7)):=by
 have e1:decide ((i:Int)<64)=true:=dlt (b:=64) hi
 have e2:∀ x,math_bits_RotateLeft32 x (-6)=some (rr x 6):=λx=>rotl_eq x _ 6 (by decide) (by decide) (by decide)
 have e3:∀ x,math_bits_RotateLeft32 x (-11)=some (rr x 11):=λx=>rotl_eq x _ 11 (by decide) (by decide) (by decide)
 have e4:∀ x,math_bits_RotateLeft32 x (-25)=some (rr x 25):=λx=>rotl_eq x _ 25 (by decide) (by decide) (by decide)
 have e5:∀ x,math_bits_RotateLeft32 x (-2)=some (rr x 2):=λx=>rotl_eq x _ 2 (by decide) (by decide) (by decide)
 have e6:∀ x,math_bits_RotateLeft32 x (-13)=some (rr x 13):=λx=>rotl_eq x _ 13 (by decide) (by decide) (by decide)
 have e7:∀ x,math_bits_RotateLeft32 x (-22)=some (rr x 22):=λx=>rotl_eq x _ 22 (by decide) (by decide) (by decide)
 have k1:idx gd1 (i:Int)=some (K2.getD i 0):=by rw [idx_eq (show i<gd1.length from hi)];simp [K2,show i<gd1.length from hi]
 have k2:w[i]? = some (w.getD i 0):=get_eq (by omega)
 unfold digest_compress256_l2
 refine ct e1 ?_
 refine bd (e2 _) ?_
 refine bd (e3 _) ?_
 refine bd (e4 _) ?_
 refine ltk ?_
 refine ltk ?_
 refine bd k1 ?_
 refine ltk ?_
 refine bd (ixN_eq hi) ?_
 refine bd k2 ?_
 refine bd (e5 _) ?_
 refine bd (e6 _) ?_
 refine bd (e7 _) ?_
 refine ltk ?_
 refine ltk ?_
 refine ltk ?_
 refine ltk ?_
 rw [wrapS (show i<2 ^ 40 by omega)]
 rfl
theorem dig_l2 (w:List Int) (hw:w.length=64) (s:A8 Int):loopT (digest_compress256_l2 w) FU (0,s.a0,s.a1,s.a2,s.a3,s.a4,s.a5,s.a6,s.a7)=some ((rnds w s 64).a0,(rnds w s 64).a1,(rnds w s 64).a2,(rnds w s 64).a3,(rnds w s 64).a4,(rnds w s 64).a5,(rnds w s 64).a6,(rnds w s 64).a7):=by
 refine loopT_run 64 (λi=>((i:Int),(rnds w s i).a0,(rnds w s i).a1,(rnds w s i).a2,(rnds w s i).a3,(rnds w s i).a4,(rnds w s i).a5,(rnds w s i).a6,(rnds w s i).a7)) rfl (λi hi=>dig_rnd w _ i hi hw) ?_ (lt_FU (by decide))
 generalize rnds w s 64=S
 rfl
end Go.Proofs.TT
namespace Go.Proofs.TT
open Go Go.Sw
set_option maxRecDepth 100000
theorem idxB {l:List UInt8} {z:Int} {n:Nat} (hz:z=(n:Int)) (h:n<l.length):idx l z=some (l.getD n 0):=by
 subst hz
 simp [idx,h]
theorem upd_eq {α:Type} {l:List α} {j:Nat} {u:α} (h:j<l.length):updN l j u=some (l.set j u):=by simp [updN,h]
def byt (b:List UInt8) (n:Nat):Int:=IntKind.u32.wrap (((b.getD n 0).toNat:Nat):Int)
def wd (b:List UInt8) (t:Nat):Int:=ior .u32 (ior .u32 (ior .u32 (ishl .u32 (byt b (4*t)) 24) (ishl .u32 (byt b (4*t+1)) 16)) (ishl .u32 (byt b (4*t+2)) 8)) (byt b (4*t+3))
theorem word_eq (b:List UInt8) (t:Nat) (h:4*t+3<b.length) (h2:t<2 ^ 20):ref1_word b (t:Int)=some (wd b t):=by
 have e0:IntKind.i64.wrap (4*(t:Int))=((4*t:Nat):Int):=by rw [wrapI (by omega) (by omega)];simp
 unfold ref1_word
 rw [e0]
 refine bd (idxB rfl (by omega)) ?_
 refine bd (idxB (n:=4*t+1) (by rw [wrapI (by omega) (by omega)];simp) (by omega)) ?_
 refine ltk ?_
 refine bd (idxB (n:=4*t+2) (by rw [wrapI (by omega) (by omega)];simp) (by omega)) ?_
 refine ltk ?_
 refine bd (idxB (n:=4*t+3) (by rw [wrapI (by omega) (by omega)];simp) (by omega)) ?_
 rfl
theorem dword_eq:digest_word=ref1_word:=rfl
def s0 (x:Int):Int:=ixor .u32 (ixor .u32 (rr x 7) (rr x 18)) (ishr .u32 x 3)
def s1 (x:Int):Int:=ixor .u32 (ixor .u32 (rr x 17) (rr x 19)) (ishr .u32 x 10)
def wv (b:List UInt8) (w:List Int) (t:Nat):Int:=
 if t<16 then wd b t else IntKind.u32.wrap (IntKind.u32.wrap (IntKind.u32.wrap (s1 (w.getD (t - 2) 0)+w.getD (t - 7) 0)+s0 (w.getD (t - 15) 0))+w.getD (t - 16) 0)
def sched (b:List UInt8):Nat->List Int
 | 0=>List.replicate 64 0
 | t+1=>(sched b t).set t (wv b (sched b t) t)
theorem sched_len (b:List UInt8):∀ t,(sched b t).length=64
 | 0=>rfl
 | t+1=>by simp [sched,sched_len b t]
theorem dig_w (b:List UInt8) (w:List Int) (i:Nat) (hi:i<64) (hw:w.length=64) (hb:b.length=64):digest_compress256_l1 b ((i:Int),w)=some (.inl (((i+1:Nat):Int),w.set i (wv b w i))):=by
 have hiw:i<w.length:=by omega
 unfold digest_compress256_l1
 refine ct (dlt (b:=64) hi) ?_
 refine bd (a:=w.set i (wv b w i)) ?_ (by rw [wrapS (show i<2 ^ 40 by omega)])
 by_cases h:i<16
 ·refine ct (dlt (b:=16) h) ?_
  rw [dword_eq]
  refine bd (word_eq b i (by omega) (by omega)) ?_
  refine bd (ixN_eq hi) ?_
  refine bd (upd_eq hiw) ?_
  simp [wv,h]
 refine cf (dge (b:=16) (by omega)) ?_
 have x15:ixN 64 (IntKind.i64.wrap ((i:Int) - 15))=some (i - 15):=by rw [wrapI (by omega) (by omega),show (i:Int) - 15=((i - 15:Nat):Int) by omega];exact ixN_eq (by omega)
 have x2:ixN 64 (IntKind.i64.wrap ((i:Int) - 2))=some (i - 2):=by rw [wrapI (by omega) (by omega),show (i:Int) - 2=((i - 2:Nat):Int) by omega];exact ixN_eq (by omega)
 have x7:ixN 64 (IntKind.i64.wrap ((i:Int) - 7))=some (i - 7):=by rw [wrapI (by omega) (by omega),show (i:Int) - 7=((i - 7:Nat):Int) by omega];exact ixN_eq (by omega)
 have x16:ixN 64 (IntKind.i64.wrap ((i:Int) - 16))=some (i - 16):=by rw [wrapI (by omega) (by omega),show (i:Int) - 16=((i - 16:Nat):Int) by omega];exact ixN_eq (by omega)
 have w15:w[i - 15]? = some (w.getD (i - 15) 0):=get_eq (by omega)
 have w2:w[i - 2]? = some (w.getD (i - 2) 0):=get_eq (by omega)
 have w7:w[i - 7]? = some (w.getD (i - 7) 0):=get_eq (by omega)
 have w16:w[i - 16]? = some (w.getD (i - 16) 0):=get_eq (by omega)
 have e7:∀ x,math_bits_RotateLeft32 x (-7)=some (rr x 7):=λx=>rotl_eq x _ 7 (by decide) (by decide) (by decide)
 have e18:∀ x,math_bits_RotateLeft32 x (-18)=some (rr x 18):=λx=>rotl_eq x _ 18 (by decide) (by decide) (by decide)
 have e17:∀ x,math_bits_RotateLeft32 x (-17)=some (rr x 17):=λx=>rotl_eq x _ 17 (by decide) (by decide) (by decide)
 have e19:∀ x,math_bits_RotateLeft32 x (-19)=some (rr x 19):=λx=>rotl_eq x _ 19 (by decide) (by decide) (by decide)
 refine bd (x15) ?_
 refine bd (w15) ?_
 refine bd (x2) ?_
 refine bd (w2) ?_
 refine bd (e7 _) ?_
 refine bd (e18 _) ?_
 refine bd (e17 _) ?_
 refine bd (e19 _) ?_
 refine bd (x7) ?_
 refine bd (w7) ?_
 refine ltk ?_
 refine ltk ?_
 refine bd (x16) ?_
 refine bd (w16) ?_
 refine bd (ixN_eq hi) ?_
 refine bd (upd_eq hiw) ?_
 simp only [wv,h,if_false]
 rfl
theorem dig_l1 (b:List UInt8) (hb:b.length=64):loopT (digest_compress256_l1 b) FU (0,List.replicate 64 0)=some (sched b 64):=by
 refine loopT_run 64 (λi=>((i:Int),sched b i)) rfl (λi hi=>dig_w b _ i hi (sched_len b i) hb) ?_ (lt_FU (by decide))
 generalize sched b 64=S
 rfl
def blkOf (x:List UInt8) (n:Nat):List UInt8:=(x.drop n).take 64
theorem ref_w (x:List UInt8) (at':Nat) (w:List Int) (i:Nat) (hi:i<64) (hw:w.length=64) (hx:at'+64<=x.length) (hl:x.length<2 ^ 48):ref1_Sum256_l1 x (at':Int) ((i:Int),w)=some (.inl (((i+1:Nat):Int),w.set i (wv (blkOf x at') w i))):=by
 have hiw:i<w.length:=by omega
 have hbl:(blkOf x at').length=64:=by simp [blkOf];omega
 unfold ref1_Sum256_l1
 refine ct (dlt (b:=64) hi) ?_
 refine bd (a:=w.set i (wv (blkOf x at') w i)) ?_ (by rw [wrapS (show i<2 ^ 40 by omega)])
 by_cases h:i<16
 ·refine ct (dlt (b:=16) h) ?_
  have hs:sub x (at':Int) (IntKind.i64.wrap ((at':Int)+64))=some (blkOf x at'):=by
   rw [wrapI (by omega) (by omega),show (at':Int)+64=((at'+64:Nat):Int) by simp,sub_eq (by omega) hx]
   simp [blkOf]
  refine bd hs ?_
  refine bd (word_eq _ i (by omega) (by omega)) ?_
  refine bd (ixN_eq hi) ?_
  refine bd (upd_eq hiw) ?_
  simp [wv,h]
 refine cf (dge (b:=16) (by omega)) ?_
 have x15:ixN 64 (IntKind.i64.wrap ((i:Int) - 15))=some (i - 15):=by rw [wrapI (by omega) (by omega),show (i:Int) - 15=((i - 15:Nat):Int) by omega];exact ixN_eq (by omega)
 have x2:ixN 64 (IntKind.i64.wrap ((i:Int) - 2))=some (i - 2):=by rw [wrapI (by omega) (by omega),show (i:Int) - 2=((i - 2:Nat):Int) by omega];exact ixN_eq (by omega)
 have x7:ixN 64 (IntKind.i64.wrap ((i:Int) - 7))=some (i - 7):=by rw [wrapI (by omega) (by omega),show (i:Int) - 7=((i - 7:Nat):Int) by omega];exact ixN_eq (by omega)
 have x16:ixN 64 (IntKind.i64.wrap ((i:Int) - 16))=some (i - 16):=by rw [wrapI (by omega) (by omega),show (i:Int) - 16=((i - 16:Nat):Int) by omega];exact ixN_eq (by omega)
 have w15:w[i - 15]? = some (w.getD (i - 15) 0):=get_eq (by omega)
 have w2:w[i - 2]? = some (w.getD (i - 2) 0):=get_eq (by omega)
 have w7:w[i - 7]? = some (w.getD (i - 7) 0):=get_eq (by omega)
 have w16:w[i - 16]? = some (w.getD (i - 16) 0):=get_eq (by omega)
 have e7:∀ x,ref1_rotr x 7=some (rr x 7):=λx=>rotr_eq x 7 (by decide) (by decide)
 have e18:∀ x,ref1_rotr x 18=some (rr x 18):=λx=>rotr_eq x 18 (by decide) (by decide)
 have e17:∀ x,ref1_rotr x 17=some (rr x 17):=λx=>rotr_eq x 17 (by decide) (by decide)
 have e19:∀ x,ref1_rotr x 19=some (rr x 19):=λx=>rotr_eq x 19 (by decide) (by decide)
 refine bd (x15) ?_
 refine bd (w15) ?_
 refine bd (e7 _) ?_
 refine bd (x15) ?_
 refine bd (w15) ?_
 refine bd (e18 _) ?_
 refine bd (x15) ?_
 refine bd (w15) ?_
 refine bd (x2) ?_
 refine bd (w2) ?_
 refine bd (e17 _) ?_
 refine bd (x2) ?_
 refine bd (w2) ?_
 refine bd (e19 _) ?_
 refine bd (x2) ?_
 refine bd (w2) ?_
 refine bd (x7) ?_
 refine bd (w7) ?_
 refine ltk ?_
 refine ltk ?_
 refine bd (x16) ?_
 refine bd (w16) ?_
 refine bd (ixN_eq hi) ?_
 refine bd (upd_eq hiw) ?_
 simp only [wv,h,if_false]
 rfl
theorem ref_l1 (x:List UInt8) (at':Nat) (hx:at'+64<=x.length) (hl:x.length<2 ^ 48):loopT (ref1_Sum256_l1 x (at':Int)) FU (0,List.replicate 64 0)=some (sched (blkOf x at') 64):=by
 refine loopT_run 64 (λi=>((i:Int),sched (blkOf x at') i)) rfl (λi hi=>ref_w x at' _ i hi (sched_len _ i) hx hl) ?_ (lt_FU (by decide))
 generalize sched (blkOf x at') 64=S
 rfl
end Go.Proofs.TT
namespace Go.Proofs.TT
open Go Go.Sw
set_option maxRecDepth 100000
def addS (h s:A8 Int):A8 Int:=⟨IntKind.u32.wrap (h.a0+s.a0),IntKind.u32.wrap (h.a1+s.a1),IntKind.u32.wrap (h.a2+s.a2),IntKind.u32.wrap (h.a3+s.a3),IntKind.u32.wrap (h.a4+s.a4),IntKind.u32.wrap (h.a5+s.a5),IntKind.u32.wrap (h.a6+s.a6),IntKind.u32.wrap (h.a7+s.a7)⟩
def addF (h s:List Int):Nat->List Int
 | 0=>h
 | i+1=>(addF h s i).set i (IntKind.u32.wrap ((addF h s i).getD i 0+s.getD i 0))
theorem addF_len (h s:List Int):∀ i,(addF h s i).length=h.length
 | 0=>rfl
 | i+1=>by simp [addF,addF_len h s i]
theorem addF_8 (h s:A8 Int):addF (a8 h) (a8 s) 8=a8 (addS h s):=rfl
def compress (h:A8 Int) (b:List UInt8):A8 Int:=addS h (rnds (sched b 64) h 64)
theorem ref_l3 (h s:A8 Int):loopT (ref1_Sum256_l3 (a8 s)) FU (0,a8 h)=some (a8 (addS h s)):=by
 rw [<- addF_8]
 refine loopT_run 8 (λi=>((i:Int),addF (a8 h) (a8 s) i)) rfl (λi hi=>?_) ?_ (lt_FU (by decide))
 ·have hl:(addF (a8 h) (a8 s) i).length=8:=addF_len _ _ _
  unfold ref1_Sum256_l3
  refine ct (dlt (b:=8) hi) ?_
  refine bd (ixN_eq hi) ?_
  refine bd (get_eq (by omega)) ?_
  refine bd (a:=(a8 s).getD i 0) (by rw [idx_eq (show i<(a8 s).length from hi)];simp [show i<(a8 s).length from hi]) ?_
  refine bd (ixN_eq hi) ?_
  refine bd (upd_eq (by omega)) ?_
  rw [wrapS (show i<2 ^ 40 by omega)]
  rfl
 ·generalize addF (a8 h) (a8 s) 8=S
  rfl
theorem dig_l3 (h s:A8 Int):loopT (digest_compress256_l3 s.a0 s.a1 s.a2 s.a3 s.a4 s.a5 s.a6 s.a7) FU (0,[h.a0,h.a1,h.a2,h.a3,h.a4,h.a5,h.a6,h.a7])=some (addS h s):=by
 refine loopT_run 8 (λi=>((i:Int),addF (a8 h) (a8 s) i)) rfl (λi hi=>?_) ?_ (lt_FU (by decide))
 ·have hl:(addF (a8 h) (a8 s) i).length=8:=addF_len _ _ _
  unfold digest_compress256_l3
  refine ct (dlt (b:=8) hi) ?_
  refine bd (ixN_eq hi) ?_
  refine bd (get_eq (by omega)) ?_
  refine bd (ixN_eq hi) ?_
  refine bd (a:=(a8 s).getD i 0) (get_eq (l:=a8 s) hi) ?_
  refine bd (ixN_eq hi) ?_
  refine bd (upd_eq (by omega)) ?_
  rw [wrapS (show i<2 ^ 40 by omega)]
  rfl
 ·show digest_compress256_l3 s.a0 s.a1 s.a2 s.a3 s.a4 s.a5 s.a6 s.a7 (((8:Nat):Int),addF (a8 h) (a8 s) 8)=_
  rw [addF_8]
  unfold digest_compress256_l3
  refine cf rfl ?_
  refine bd (a:=addS h s) rfl rfl
theorem compress_eq (h:A8 Int) (b:List UInt8) (hb:b.length=64):digest_compress256 h b=some (compress h b):=by
 unfold digest_compress256
 refine bd (dig_l1 b hb) ?_
 refine bd (dig_l2 _ (sched_len b 64) h) ?_
 refine bd (dig_l3 h _) ?_
 rfl
def init8:A8 Int:=⟨1779033703,3144134277,1013904242,2773480762,1359893119,2600822924,528734635,1541459225⟩
def hsh (x:List UInt8):Nat->A8 Int
 | 0=>init8
 | i+1=>compress (hsh x i) (blkOf x (64*i))
def st8 (p:List UInt8) (h:A8 Int):List UInt8×Int×Int×Int×Int×Int×Int×Int×Int:=(p,h.a0,h.a1,h.a2,h.a3,h.a4,h.a5,h.a6,h.a7)
theorem dig_blocks (x:List UInt8) (n:Nat) (hx:x.length=64*n) (hl:x.length<2 ^ 48):loopT digest_Sum_l2 FU (st8 x init8)=some ((hsh x n).a0,(hsh x n).a1,(hsh x n).a2,(hsh x n).a3,(hsh x n).a4,(hsh x n).a5,(hsh x n).a6,(hsh x n).a7):=by
 refine loopT_run n (λi=>st8 (x.drop (64*i)) (hsh x i)) (by simp [hsh]) (λi hi=>?_) ?_ (lt_FU (by omega))
 ·have hd:(x.drop (64*i)).length=x.length - 64*i:=by simp
  unfold digest_Sum_l2 st8
  refine ct (by simp;omega) ?_
  refine bd (a:=blkOf x (64*i)) (by rw [show (0:Int)=((0:Nat):Int) from rfl,show (64:Int)=((64:Nat):Int) from rfl,sub_eq (by omega) (by omega)];simp [blkOf]) ?_
  refine bd (compress_eq _ _ (by simp [blkOf];omega)) ?_
  refine bd (a:=x.drop (64*(i+1))) (by rw [show (64:Int)=((64:Nat):Int) from rfl,sub_eq (by omega) (by omega)];rw [List.drop_drop,List.take_of_length_le (by simp;omega)];congr 2) ?_
  rfl
 ·have hd:x.drop (64*n)=[]:=List.drop_eq_nil_of_le (by omega)
  show digest_Sum_l2 (st8 (x.drop (64*n)) (hsh x n))=_
  rw [hd]
  generalize hsh x n=S
  rfl
theorem ref_blocks (x:List UInt8) (n:Nat) (hx:x.length=64*n) (hl:x.length<2 ^ 47):loopT (ref1_Sum256_l4 K2 x) FU (0,a8 init8)=some (a8 (hsh x n)):=by
 refine loopT_run n (λi=>(((64*i:Nat):Int),a8 (hsh x i))) rfl (λi hi=>?_) ?_ (lt_FU (by omega))
 ·unfold ref1_Sum256_l4
  refine ct (dlt (by omega)) ?_
  refine bd (ref_l1 x (64*i) (by omega) (by omega)) ?_
  refine bd (ckT rfl) ?_
  refine bd (a:=a8 (hsh x i)) (by rw [appL_eq (by simp [a8])];rfl) ?_
  refine bd (ref_l2 _ (sched_len _ 64) _) ?_
  refine bd (ref_l3 _ _) ?_
  rw [wrapI (by omega) (by omega),show ((64*i:Nat):Int)+64=((64*(i+1):Nat):Int) by omega]
  rfl
 ·show ref1_Sum256_l4 K2 x (((64*n:Nat):Int),a8 (hsh x n))=_
  unfold ref1_Sum256_l4
  exact cf (dge (by omega)) rfl
def zs (n:Nat):Nat:=(119 - n % 64) % 64
def be8 (n:Int) (k:Nat):List UInt8:=(List.range k).map λ(j:Nat)=>u8 (ishr .u64 n (56 - 8*(j:Int)))
theorem be8_len (n:Int) (k:Nat):(be8 n k).length=k:=by simp [be8]
theorem be8_succ (n:Int) (k:Nat):be8 n (k+1)=be8 n k++[u8 (ishr .u64 n (56 - 8*(k:Int)))]:=by simp [be8,List.range_succ]
def bits8 (b:List UInt8):Int:=IntKind.u64.wrap (IntKind.u64.wrap (b.length:Int)*8)
def padS (b:List UInt8):List UInt8:=(b++[128]++List.replicate (zs b.length) 0)++be8 (bits8 b) 8
theorem padS_len (b:List UInt8):(padS b).length=b.length+9+zs b.length:=by simp [padS,be8_len];omega
theorem padS_mod (b:List UInt8):(padS b).length % 64=0:=by rw [padS_len];unfold zs;omega
theorem pad_zeros (b:List UInt8) (hb:b.length<2 ^ 40):loopT ref1_pad_l1 FU (b++[128])=some (b++[128]++List.replicate (zs b.length) 0):=by
 have hz:zs b.length<64:=by unfold zs;omega
 refine loopT_run (zs b.length) (λi=>b++[128]++List.replicate i 0) (by simp) (λi hi=>?_) ?_ (lt_FU (by omega))
 ·have hl:(b++[128]++List.replicate i 0).length=b.length+1+i:=by simp;omega
  unfold ref1_pad_l1
  refine ct ?_ ?_
  ·rw [hl]
   simp only [bne_iff_ne,ne_eq]
   rw [Int.tmod_eq_emod_of_nonneg (by omega)]
   unfold zs at hi
   omega
  ·refine bd (appL_eq (by rw [hl];simp;omega)) ?_
   rw [List.append_assoc,<- List.replicate_succ']
 ·have hl:(b++[128]++List.replicate (zs b.length) 0).length=b.length+1+zs b.length:=by simp;omega
  unfold ref1_pad_l1
  refine cf ?_ rfl
  rw [hl]
  simp only [bne_eq_false_iff_eq]
  rw [Int.tmod_eq_emod_of_nonneg (by omega)]
  unfold zs
  omega
theorem dpad_l1:digest_pad_l1=ref1_pad_l1:=rfl
theorem ref_pad2 (x:List UInt8) (n:Int) (hx:x.length<2 ^ 41):loopT (ref1_pad_l2 n) FU (x,7)=some (x++be8 n 8):=by
 refine loopT_run 8 (λi=>(x++be8 n i,7 - (i:Int))) (by simp [be8]) (λi hi=>?_) ?_ (lt_FU (by decide))
 ·unfold ref1_pad_l2
  refine ct (by simp;omega) ?_
  refine ltk ?_
  have e:IntKind.u64.wrap (8*IntKind.u64.wrap (7 - (i:Int)))=56 - 8*(i:Int):=by
   rw [wrapL (n:=7 - (i:Int)) (by omega) (by omega),wrapL (by omega) (by omega)];omega
  rw [e]
  refine bd (appL_eq (by simp [be8_len];omega)) ?_
  rw [wrapI (by omega) (by omega),List.append_assoc,<- be8_succ,show (7:Int) - (i:Int) - 1=7 - ((i+1:Nat):Int) by omega]
 ·generalize be8 n 8=S
  rfl
theorem dig_pad2 (x:List UInt8) (n:Int) (hx:x.length<2 ^ 41):loopT (digest_pad_l2 n) FU (x,56)=some (x++be8 n 8):=by
 refine loopT_run 8 (λi=>(x++be8 n i,56 - 8*(i:Int))) (by simp [be8]) (λi hi=>?_) ?_ (lt_FU (by decide))
 ·unfold digest_pad_l2
  refine ct (by simp;omega) ?_
  rw [wrapL (n:=56 - 8*(i:Int)) (by omega) (by omega)]
  refine bd (appL_eq (by simp [be8_len];omega)) ?_
  rw [wrapI (by omega) (by omega),List.append_assoc,<- be8_succ,show (56:Int) - 8*(i:Int) - 8=56 - 8*((i+1:Nat):Int) by omega]
 ·generalize be8 n 8=S
  rfl
theorem ref_pad_eq (b:List UInt8) (hb:b.length<2 ^ 40):ref1_pad b=some (padS b):=by
 have hz:zs b.length<64:=by unfold zs;omega
 unfold ref1_pad
 refine bd (a:=b) (by rw [appL_eq (by simp;omega)];simp) ?_
 refine bd (appL_eq (by simp;omega)) ?_
 refine bd (pad_zeros b hb) ?_
 refine ltk ?_
 refine bd (ref_pad2 _ _ (by simp;omega)) ?_
 rfl
theorem dig_pad_eq (b:List UInt8) (hb:b.length<2 ^ 40):digest_pad b=some (padS b):=by
 have hz:zs b.length<64:=by unfold zs;omega
 unfold digest_pad
 refine bd (a:=b.length+72) (by unfold mkN;rw [wrapI (by omega) (by omega),if_pos (by omega)];congr 1) ?_
 refine bd (a:=b) (by rw [appL_eq (by simp;omega)];simp) ?_
 refine bd (appL_eq (by simp;omega)) ?_
 rw [dpad_l1]
 refine bd (pad_zeros b hb) ?_
 refine ltk ?_
 refine bd (dig_pad2 _ _ (by simp;omega)) ?_
 rfl
def be4 (w:Int):List UInt8:=[u8 (ishr .u32 w 24),u8 (ishr .u32 w 16),u8 (ishr .u32 w 8),u8 w]
theorem fm_len (l:List Int):(l.flatMap be4).length=4*l.length:=by
 induction l with
 | nil=>rfl
 | cons a r ih=>simp [ih,be4];omega
theorem fm_take (l:List Int) (i:Nat) (hi:i<l.length):(l.take (i+1)).flatMap be4=(l.take i).flatMap be4++be4 (l.getD i 0):=by
 rw [List.take_add_one,List.flatMap_append]
 congr 1
 simp [hi]
theorem idxI {l:List Int} {i:Nat} (h:i<l.length):idx l (i:Int)=some (l.getD i 0):=by rw [idx_eq h];simp [h]
theorem bytes_eq (l:List Int) (hl:l.length<2 ^ 20):ref1_bytes l=some (l.flatMap be4):=by
 have:loopT (ref1_bytes_l1 l) FU ([],0)=some (l.flatMap be4):=by
  refine loopT_run l.length (λi=>((l.take i).flatMap be4,(i:Int))) (by simp) (λi hi=>?_) ?_ (lt_FU (by omega))
  ·unfold ref1_bytes_l1
   refine ct (dlt hi) ?_
   refine bd (idxI hi) ?_
   refine bd (idxI hi) ?_
   refine bd (idxI hi) ?_
   refine bd (idxI hi) ?_
   refine bd (appL_eq (by rw [fm_len];simp;omega)) ?_
   rw [fm_take l i hi,wrapS (show i<2 ^ 40 by omega)]
   rfl
  ·unfold ref1_bytes_l1
   refine cf (dge (Nat.le_refl _)) ?_
   simp
 unfold ref1_bytes
 exact bd this rfl
theorem spread_eq (l:List Int) (hl:l.length<2 ^ 20):digest_spread l=some (l.flatMap be4):=by
 have:loopT (digest_spread_l1 l) FU ([],0)=some (l.flatMap be4):=by
  refine loopT_run l.length (λi=>((l.take i).flatMap be4,(i:Int))) (by simp) (λi hi=>?_) ?_ (lt_FU (by omega))
  ·unfold digest_spread_l1
   refine ct (dlt hi) ?_
   refine bd (idxI hi) ?_
   refine bd (appL_eq (by rw [fm_len];simp;omega)) ?_
   rw [fm_take l i hi,wrapS (show i<2 ^ 40 by omega)]
   rfl
  ·unfold digest_spread_l1
   refine cf (dge (Nat.le_refl _)) ?_
   simp
 unfold digest_spread
 refine bd (a:=4*l.length) (by unfold mkN;rw [wrapI (by omega) (by omega),if_pos (by omega)];congr 1) ?_
 exact bd this rfl
def sha (b:List UInt8):List UInt8:=(a8 (hsh (padS b) ((padS b).length / 64))).flatMap be4
theorem sha_len (b:List UInt8):(sha b).length=32:=by unfold sha;rw [fm_len];rfl
theorem ref_sha (b:List UInt8) (hb:b.length<2 ^ 40):ref1_Sum256 b=some (sha b):=by
 have hz:zs b.length<64:=by unfold zs;omega
 have h1:=padS_len b
 have h2:=padS_mod b
 unfold ref1_Sum256
 refine bd constants_eq ?_
 refine bd (ckT rfl) ?_
 refine bd (ref_pad_eq b hb) ?_
 refine bd (ref_blocks (padS b) ((padS b).length / 64) (by omega) (by omega)) ?_
 refine bd (ckT rfl) ?_
 refine bd (bytes_eq _ (by simp [a8])) ?_
 rfl
theorem dig_sha (b:List UInt8) (hb:b.length<2 ^ 40):digest_Sum 1 b=some (sha b):=by
 have hz:zs b.length<64:=by unfold zs;omega
 have h1:=padS_len b
 have h2:=padS_mod b
 unfold digest_Sum
 refine cf rfl ?_
 refine ct rfl ?_
 refine bd (dig_pad_eq b hb) ?_
 refine bd (dig_blocks (padS b) ((padS b).length / 64) (by omega) (by omega)) ?_
 refine bd (spread_eq _ (by simp)) ?_
 rfl
end Go.Proofs.TT
namespace Go.Proofs.TT
open Go Go.Sw
set_option maxRecDepth 100000
def hd4 (n:Nat):List UInt8:=[u8 (ishr .i64 (n:Int) 24),u8 (ishr .i64 (n:Int) 16),u8 (ishr .i64 (n:Int) 8),u8 (n:Int)]
theorem hd4_u (n:Nat) (h:n<2 ^ 32):[u8 (ishr .u32 (IntKind.u32.wrap (n:Int)) 24),u8 (ishr .u32 (IntKind.u32.wrap (n:Int)) 16),u8 (ishr .u32 (IntKind.u32.wrap (n:Int)) 8),u8 (IntKind.u32.wrap (n:Int))]=hd4 n:=by
 rw [wrapU (by omega) (by omega)]
 rfl
def flds (fs:List (List UInt8)):List UInt8:=fs.flatMap λf=>hd4 f.length++f
def frm (tag:Int) (fs:List (List UInt8)):List UInt8:=u8 tag :: flds fs
def tot (fs:List (List UInt8)):Nat:=(fs.map λf=>4+f.length).sum
theorem flds_len (fs:List (List UInt8)):(flds fs).length=tot fs:=by
 induction fs with
 | nil=>rfl
 | cons f r ih=>simp only [flds,tot,List.flatMap_cons,List.length_append,List.map_cons,List.sum_cons] at ih ⊢;rw [ih];simp [hd4]
theorem frm_len (tag:Int) (fs:List (List UInt8)):(frm tag fs).length=1+tot fs:=by simp [frm,flds_len];omega
theorem frm_take (tag:Int) (fs:List (List UInt8)) (i:Nat) (hi:i<fs.length):frm tag (fs.take (i+1))=(frm tag (fs.take i)++hd4 (fs[i]).length)++fs[i]:=by
 unfold frm flds
 rw [List.take_add_one,List.flatMap_append]
 simp [hi]
theorem tot_take (fs:List (List UInt8)):∀ i,tot (fs.take i)<=tot fs:=by
 induction fs with
 | nil=>intro i;simp
 | cons f r ih=>
  intro i
  cases i with
  | zero=>simp [tot]
  | succ j=>have:=ih j;simp only [tot,List.take_succ_cons,List.map_cons,List.sum_cons] at this ⊢;omega
theorem tot_one (fs:List (List UInt8)):fs.length<=tot fs:=by
 induction fs with
 | nil=>simp
 | cons f r ih=>simp only [tot,List.length_cons,List.map_cons,List.sum_cons] at ih ⊢;omega
theorem tot_mem (fs:List (List UInt8)) (i:Nat) (hi:i<fs.length):tot (fs.take i)+4+(fs[i]).length<=tot fs:=by
 have h:=tot_take fs (i+1)
 have e:tot (fs.take (i+1))=tot (fs.take i)+(4+(fs[i]).length):=by
  unfold tot
  rw [List.take_add_one,List.map_append,List.sum_append]
  simp only [hi,List.getElem?_eq_getElem,Option.toList_some,List.map_cons,List.map_nil,List.sum_cons,List.sum_nil]
  omega
 omega
theorem ref_Frame (tag:Int) (fs:List (List UInt8)) (h:tot fs<2 ^ 32):ref1_Frame tag fs=some (frm tag fs):=by
 have h1:=tot_one fs
 have:loopT (ref1_Frame_l1 fs) FU ([u8 tag],0)=some (frm tag fs):=by
  refine loopT_run fs.length (λi=>(frm tag (fs.take i),(i:Int))) (by simp [frm,flds]) (λi hi=>?_) ?_ (lt_FU (by omega))
  ·have h2:=tot_mem fs i hi
   have h3:=frm_len tag (fs.take i)
   unfold ref1_Frame_l1
   refine ct (dlt hi) ?_
   refine bd (idx_eq hi) ?_
   refine bd (appL_eq (by simp;omega)) ?_
   refine bd (idx_eq hi) ?_
   refine bd (appL_eq (by simp;omega)) ?_
   rw [frm_take tag fs i hi,wrapS (show i<2 ^ 40 by omega)]
   rfl
  ·unfold ref1_Frame_l1
   refine cf (dge (Nat.le_refl _)) ?_
   simp
 unfold ref1_Frame
 exact bd this rfl
theorem dig_Frame (tag:Int) (fs:List (List UInt8)) (h:tot fs<2 ^ 32):digest_Frame tag fs=some (frm tag fs):=by
 have h1:=tot_one fs
 have:loopT (digest_Frame_l1 fs) FU ([u8 tag],0)=some (frm tag fs):=by
  refine loopT_run fs.length (λi=>(frm tag (fs.take i),(i:Int))) (by simp [frm,flds]) (λi hi=>?_) ?_ (lt_FU (by omega))
  ·have h2:=tot_mem fs i hi
   have h3:=frm_len tag (fs.take i)
   unfold digest_Frame_l1
   refine ct (dlt hi) ?_
   refine bd (idx_eq hi) ?_
   rw [hd4_u _ (by omega)]
   refine bd (appL_eq (by simp [hd4];omega)) ?_
   refine bd (appL_eq (by simp [hd4];omega)) ?_
   rw [frm_take tag fs i hi,wrapS (show i<2 ^ 40 by omega)]
  ·unfold digest_Frame_l1
   refine cf (dge (Nat.le_refl _)) ?_
   simp
 unfold digest_Frame
 exact bd this rfl
def hs (tag:Int) (fs:List (List UInt8)):List UInt8:=sha (frm tag fs)
theorem hs_len (tag:Int) (fs:List (List UInt8)):(hs tag fs).length=32:=sha_len _
theorem ref_Hash (tag:Int) (fs:List (List UInt8)) (h:tot fs<2 ^ 32):ref1_Hash tag fs=some (hs tag fs):=by
 unfold ref1_Hash
 refine bd (ref_Frame tag fs h) ?_
 exact bd (ref_sha _ (by rw [frm_len];omega)) rfl
theorem dig_Hash (tag:Int) (fs:List (List UInt8)) (h:tot fs<2 ^ 32):digest_Hash tag fs=some (hs tag fs):=by
 unfold digest_Hash
 refine bd (dig_Frame tag fs h) ?_
 exact bd (dig_sha _ (by rw [frm_len];omega)) rfl
def beN (n:Int) (size k:Nat):List UInt8:=(List.range k).map λ(j:Nat)=>u8 (ishr .u64 (IntKind.u64.wrap n) (8*((size:Int) - 1 - (j:Int))))
theorem beN_len (n:Int) (size k:Nat):(beN n size k).length=k:=by simp [beN]
theorem beN_succ (n:Int) (size k:Nat):beN n size (k+1)=beN n size k++[u8 (ishr .u64 (IntKind.u64.wrap n) (8*((size:Int) - 1 - (k:Int))))]:=by simp [beN,List.range_succ]
def uintB (b:List UInt8) (size:Nat) (n:Int):List UInt8:=b++beN n size size
theorem uintB_len (b:List UInt8) (size:Nat) (n:Int):(uintB b size n).length=b.length+size:=by simp [uintB,beN_len]
theorem ref_Uint (b:List UInt8) (size:Nat) (n:Int) (h1:1<=size) (h8:size<=8) (hb:b.length<2 ^ 40):ref3_Uint b (size:Int) n=some (uintB b size n):=by
 have:loopT (ref3_Uint_l1 n) FU (b,(size:Int) - 1)=some (uintB b size n):=by
  refine loopT_run size (λi=>(b++beN n size i,(size:Int) - 1 - (i:Int))) (by simp [beN]) (λi hi=>?_) ?_ (lt_FU (by omega))
  ·unfold ref3_Uint_l1
   refine ct (by simp;omega) ?_
   refine ltk ?_
   rw [wrapL (n:=(size:Int) - 1 - (i:Int)) (by omega) (by omega),wrapL (n:=8*((size:Int) - 1 - (i:Int))) (by omega) (by omega)]
   refine bd (appL_eq (by simp [beN_len];omega)) ?_
   rw [wrapI (by omega) (by omega),List.append_assoc,<- beN_succ,show (size:Int) - 1 - (i:Int) - 1=(size:Int) - 1 - ((i+1:Nat):Int) by omega]
  ·unfold ref3_Uint_l1
   refine cf (by simp;omega) rfl
 unfold ref3_Uint
 refine bd (a:=b) (by rw [appL_eq (by simp;omega)];simp) ?_
 refine bd (a:=false) (cf (by simp;omega) (congrArg some (by simp;omega))) ?_
 rw [wrapI (by omega) (by omega)]
 exact bd this rfl
theorem wire_Uint_eq (b:List UInt8) (size:Nat) (n:Int) (h1:1<=size) (h8:size<=8) (hb:b.length<2 ^ 40):wire_Uint b (size:Int) n=some (uintB b size n):=by
 have:loopT (wire_Uint_l1 n) FU (b,(size:Int) - 1)=some (uintB b size n):=by
  refine loopT_run size (λi=>(b++beN n size i,(size:Int) - 1 - (i:Int))) (by simp [beN]) (λi hi=>?_) ?_ (lt_FU (by omega))
  ·unfold wire_Uint_l1
   refine ct (by simp;omega) ?_
   refine ltk ?_
   rw [wrapI (n:=8*((size:Int) - 1 - (i:Int))) (by omega) (by omega),wrapL (n:=8*((size:Int) - 1 - (i:Int))) (by omega) (by omega)]
   refine bd (appL_eq (by simp [beN_len];omega)) ?_
   rw [wrapI (by omega) (by omega),List.append_assoc,<- beN_succ,show (size:Int) - 1 - (i:Int) - 1=(size:Int) - 1 - ((i+1:Nat):Int) by omega]
  ·unfold wire_Uint_l1
   refine cf (by simp;omega) rfl
 unfold wire_Uint
 refine bd (a:=b) (by rw [appL_eq (by simp;omega)];simp) ?_
 refine bd (a:=false) (cf (by simp;omega) (congrArg some (by simp;omega))) ?_
 rw [wrapI (by omega) (by omega)]
 exact bd this rfl
def blobB (b x:List UInt8):List UInt8:=uintB b 2 ((x.take 65535).length:Int)++x.take 65535
theorem blobB_len (b x:List UInt8):(blobB b x).length<=b.length+65537:=by simp [blobB,uintB_len];omega
theorem ref_Blob (b x:List UInt8) (hb:b.length<2 ^ 39):ref3_Blob b x=some (blobB b x):=by
 unfold ref3_Blob
 refine bd (a:=x.take 65535) ?_ ?_
 ·by_cases h:65535<x.length
  ·refine ct (by simp;omega) ?_
   exact bd (a:=x.take 65535) (by rw [show (0:Int)=((0:Nat):Int) from rfl,show (65535:Int)=((65535:Nat):Int) from rfl,sub_eq (by omega) (by omega)];simp) rfl
  ·refine cf (by simp;omega) ?_
   rw [List.take_of_length_le (by omega)]
 ·refine bd (ref_Uint b 2 _ (by omega) (by omega) (by omega)) ?_
  refine bd (appL_eq (by rw [uintB_len];simp;omega)) ?_
  rfl
theorem wire_Blob_eq (b x:List UInt8) (hb:b.length<2 ^ 39):wire_Blob b x=some (blobB b x):=by
 unfold wire_Blob
 refine bd (a:=x.take 65535) ?_ ?_
 ·by_cases h:65535<x.length
  ·rw [if_pos (by omega),show (0:Int)=((0:Nat):Int) from rfl,show (65535:Int)=((65535:Nat):Int) from rfl,sub_eq (by omega) (by omega)];simp
  ·rw [if_neg (by omega),show (0:Int)=((0:Nat):Int) from rfl,sub_eq (by omega) (by omega)]
   simp
   rw [List.take_of_length_le (by omega)]
 ·refine bd (wire_Uint_eq b 2 _ (by omega) (by omega) (by omega)) ?_
  refine bd (appL_eq (by rw [uintB_len];simp;omega)) ?_
  rfl
theorem ref_Same (a b:List UInt8) (ha:a.length<2 ^ 40):ref1_Same a b=some (a==b):=by
 unfold ref1_Same
 by_cases h:a.length=b.length
 ·refine cf (by simp;omega) ?_
  have:∃ r,loopT (ref1_Same_l1 a b) FU 0=some r/\(match r with | .inl r=>r=false/\a≠b | .inr _=>a=b):=by
   refine loopT_inv (λs=>∃ k:Nat,s=(k:Int)/\k<=a.length/\a.take k=b.take k) (λs=>a.length - s.toNat) _ (λs hs=>?_) FU 0 ⟨0,rfl,by omega,by simp⟩ (lt_FU (by omega))
   obtain ⟨k,rfl,hk,he⟩:=hs
   by_cases hk2:k<a.length
   ·by_cases hv:a[k]=b[k]
    ·refine .inl ⟨((k+1:Nat):Int),?_,⟨k+1,rfl,by omega,?_⟩,by simp;omega⟩
     ·unfold ref1_Same_l1
      refine ct (dlt hk2) ?_
      refine bd (idx_eq hk2) ?_
      refine bd (idx_eq (h▸hk2)) ?_
      refine cf (by rw [hv];simp) ?_
      rw [wrapS (by omega)]
     ·rw [List.take_add_one,List.take_add_one,he]
      simp [hk2,hv,h▸hk2]
    ·refine .inr ⟨.inl false,?_,rfl,λe=>hv (by subst e;rfl)⟩
     unfold ref1_Same_l1
     refine ct (dlt hk2) ?_
     refine bd (idx_eq hk2) ?_
     refine bd (idx_eq (h▸hk2)) ?_
     refine ct ?_ rfl
     simp only [bne_iff_ne,ne_eq]
     intro e
     exact hv (UInt8.toNat_inj.mp (by omega))
   ·refine .inr ⟨.inr (),?_,?_⟩
    ·unfold ref1_Same_l1
     exact cf (dge (by omega)) rfl
    ·have e1:a.take k=a:=List.take_of_length_le (by omega)
     have e2:b.take k=b:=List.take_of_length_le (by omega)
     rw [e1,e2] at he
     exact he
  obtain ⟨r,h1,h2⟩:=this
  refine bd h1 ?_
  cases r with
  | inl r=>obtain ⟨rfl,h3⟩:=h2;simp [h3]
  | inr u=>simp [h2]
 ·refine ct (by simp;omega) ?_
  have:a≠b:=λe=>h (by rw [e])
  simp [this]
theorem equal_eq (a b:List UInt8):bytes_Equal a b=some (a==b):=rfl
theorem copy_eq (b:List UInt8) (h:b.length<2 ^ 40):ref1_Copy b=some b:=by
 unfold ref1_Copy
 refine bd (appL_eq (by simp;omega)) ?_
 simp
end Go.Proofs.TT
namespace Go.Proofs.TT
open Go Go.Sw
set_option maxRecDepth 100000
structure RS where
 b:List UInt8
 at':Nat
 e:Int
def RS.W (r:RS):wire_Reader:=⟨r.b,(r.at':Int),r.e⟩
def RS.R (r:RS):sealwrightref3_Reader:=⟨r.b,(r.at':Int),r.e⟩
def RS.Ok (r:RS):Prop:=r.at'<=r.b.length/\r.b.length<2 ^ 40
def RS.err (r:RS) (e:Int):RS:=⟨r.b,r.at',e⟩
def RS.to (r:RS) (n:Nat):RS:=⟨r.b,r.at'+n,r.e⟩
def RS.left (r:RS):Nat:=r.b.length - r.at'
def RS.get (r:RS) (n:Nat):List UInt8:=(r.b.drop r.at').take n
theorem RS.get_len (r:RS) (n:Nat) (h:n<=r.left):(r.get n).length=n:=by simp [RS.get,RS.left] at *;omega
def rdRaw (r:RS) (n:Nat):List UInt8×RS:=if r.e≠0 then ([],r) else if r.left<n then ([],r.err 2) else (r.get n,r.to n)
def beV (l:List UInt8):Nat->Int
 | 0=>0
 | k+1=>ior .u64 (ishl .u64 (beV l k) 8) (IntKind.u64.wrap ((l.getD k 0).toNat:Int))
def rdUint (r:RS) (n:Nat):Int×RS:=
 if r.e≠0 then (0,r) else if r.left<n then (0,r.err 2) else if 9223372036854775808<=beV (r.get n) n then (0,r.err 4) else (IntKind.i64.wrap (beV (r.get n) n),r.to n)
def v2 (r:RS):Nat:=(r.b.getD r.at' 0).toNat*256+(r.b.getD (r.at'+1) 0).toNat
def rdBlob (r:RS) (most:Nat):List UInt8×RS:=
 if r.e≠0 then ([],r) else if r.left<2 then ([],r.err 2) else if most<v2 r then ([],r.err 4) else if r.left<2+v2 r then ([],r.err 2) else ((r.b.drop (r.at'+2)).take (v2 r),r.to (2+v2 r))
def rdEnd (r:RS):Int:=if r.e=0/\0<r.left then 3 else r.e
theorem rdRaw_ok (r:RS) (n:Nat) (h:r.Ok):(rdRaw r n).2.Ok:=by
 unfold rdRaw
 split
 ·exact h
 split
 ·exact h
 ·obtain ⟨h1,h2⟩:=h
  exact ⟨by simp only [RS.to,RS.left] at *;omega,h2⟩
theorem rdUint_ok (r:RS) (n:Nat) (h:r.Ok):(rdUint r n).2.Ok:=by
 unfold rdUint
 split
 ·exact h
 split
 ·exact h
 split
 ·exact h
 ·obtain ⟨h1,h2⟩:=h
  exact ⟨by simp only [RS.to,RS.left] at *;omega,h2⟩
theorem rdBlob_ok (r:RS) (n:Nat) (h:r.Ok):(rdBlob r n).2.Ok:=by
 unfold rdBlob
 split
 ·exact h
 split
 ·exact h
 split
 ·exact h
 split
 ·exact h
 ·obtain ⟨h1,h2⟩:=h
  exact ⟨by simp only [RS.to,RS.left] at *;omega,h2⟩
theorem left_eq (r:RS) (h:r.Ok):IntKind.i64.wrap ((r.b.length:Int) - (r.at':Int))=(r.left:Int):=by
 obtain ⟨h1,h2⟩:=h
 rw [wrapI (by omega) (by omega)]
 simp only [RS.left];omega
theorem takeA_no (r:wire_Reader) (a n:Nat) (h1:a<=r.b_.length) (h2:r.b_.length<2 ^ 40) (hn:r.b_.length - a<n):wire_Reader_take r (a:Int) (n:Int)=some ([],2,r):=by
 unfold wire_Reader_take
 refine ct ?_ rfl
 rw [wrapI (by omega) (by omega)]
 simp;omega
theorem takeA_yes (r:wire_Reader) (a n:Nat) (h2:r.b_.length<2 ^ 40) (hn:a+n<=r.b_.length):wire_Reader_take r (a:Int) (n:Int)=some ((r.b_.drop a).take n,0,r):=by
 unfold wire_Reader_take
 refine cf ?_ ?_
 ·rw [wrapI (by omega) (by omega)]
  simp;omega
 ·refine bd (a:=(r.b_.drop a).take n) ?_ rfl
  rw [wrapI (by omega) (by omega),show (a:Int)+(n:Int)=((a+n:Nat):Int) by omega,sub_eq (by omega) (by omega),Nat.add_sub_cancel_left]
theorem take_no (r:RS) (n:Nat) (h:r.Ok) (hn:r.left<n):wire_Reader_take r.W (r.at':Int) (n:Int)=some ([],2,r.W):=takeA_no r.W r.at' n h.1 h.2 hn
theorem take_yes (r:RS) (n:Nat) (h:r.Ok) (hn:n<=r.left):wire_Reader_take r.W (r.at':Int) (n:Int)=some (r.get n,0,r.W):=
 takeA_yes r.W r.at' n h.2 (by have:=h.1;simp only [RS.left] at hn;show r.at'+n<=r.b.length;omega)
theorem need_no (r:RS) (n:Nat) (h:r.Ok) (he:r.e=0) (hn:r.left<n):ref3_Reader_need r.R (n:Int)=some (false,(r.err 2).R):=by
 unfold ref3_Reader_need RS.R
 refine bd (a:=2) ?_ rfl
 refine bd (a:=true) ?_ rfl
 refine ct (by simp [he]) ?_
 show some (decide (IntKind.i64.wrap ((r.b.length:Int) - (r.at':Int))<(n:Int)))=some true
 rw [left_eq r h,dlt hn]
theorem need_yes (r:RS) (n:Nat) (h:r.Ok) (he:r.e=0) (hn:n<=r.left):ref3_Reader_need r.R (n:Int)=some (true,r.R):=by
 unfold ref3_Reader_need RS.R
 refine bd (a:=0) ?_ (by simp [he])
 refine bd (a:=false) ?_ (by simp [he])
 refine ct (by simp [he]) ?_
 show some (decide (IntKind.i64.wrap ((r.b.length:Int) - (r.at':Int))<(n:Int)))=some false
 rw [left_eq r h,dge hn]
theorem b0 {e:Int} (h:e=0):(e != 0)=false:=by subst h;rfl
theorem b1 {e:Int} (h:e≠0):(e != 0)=true:=by simp [h]
theorem c0 {e:Int} (h:e=0):(e==0)=true:=by subst h;rfl
theorem c1 {e:Int} (h:e≠0):(e==0)=false:=by simp [h]
theorem nneg (n:Nat):decide ((n:Int)<0)=false:=by simp
theorem wire_Raw_eq (r:RS) (n:Nat) (h:r.Ok):wire_Reader_Raw r.W (n:Int)=some ((rdRaw r n).1,(rdRaw r n).2.W):=by
 unfold wire_Reader_Raw
 by_cases he:r.e=0
 ·refine cf (b0 he) ?_
  refine cf (nneg n) ?_
  by_cases hn:r.left<n
  ·refine bd (take_no r n h hn) ?_
   refine ct rfl ?_
   rw [show rdRaw r n=([],r.err 2) by simp [rdRaw,he,hn]]
   rfl
  ·refine bd (take_yes r n h (by omega)) ?_
   refine cf rfl ?_
   have hl:=RS.get_len r n (by omega)
   obtain ⟨h1,h2⟩:=h
   refine bd (a:=r.get n) (by rw [appL_eq (by simp;simp only [RS.left] at hn;omega)];simp) ?_
   show some (r.get n,(⟨r.b,IntKind.i64.wrap ((r.at':Int)+(n:Int)),r.e⟩:wire_Reader))=_
   have hn':=hn
   simp only [RS.left] at hn'
   rw [wrapI (by omega) (by omega),show (r.at':Int)+(n:Int)=((r.at'+n:Nat):Int) by omega]
   rw [show rdRaw r n=(r.get n,r.to n) by simp [rdRaw,he,hn]]
   rfl
 ·refine ct (b1 he) ?_
  rw [show rdRaw r n=([],r) by simp [rdRaw,he]]
theorem ref_Raw_eq (r:RS) (n:Nat) (h:r.Ok):ref3_Reader_Raw r.R (n:Int)=some ((rdRaw r n).1,(rdRaw r n).2.R):=by
 unfold ref3_Reader_Raw
 by_cases he:r.e=0
 ·refine bd (a:=0) ?_ ?_
  ·refine bd (a:=false) ?_ (congrArg some he)
   refine ct (c0 he) ?_
   exact congrArg some (nneg n)
  ·have hr:(⟨r.R.B,r.R.At,0⟩:sealwrightref3_Reader)=r.R:=by simp [RS.R,he]
   rw [hr]
   by_cases hn:r.left<n
   ·refine bd (a:=(true,r.b,(r.at':Int),2)) ?_ ?_
    ·refine cf rfl ?_
     exact bd (need_no r n h he hn) rfl
    ·refine ct rfl ?_
     rw [show rdRaw r n=([],r.err 2) by simp [rdRaw,he,hn]]
     rfl
   ·refine bd (a:=(false,r.b,(r.at':Int),r.e)) ?_ ?_
    ·refine cf rfl ?_
     exact bd (need_yes r n h he (by omega)) rfl
    ·refine cf rfl ?_
     have hl:=RS.get_len r n (by omega)
     obtain ⟨h1,h2⟩:=h
     have hn':=hn
     simp only [RS.left] at hn'
     rw [wrapI (n:=(r.at':Int)+(n:Int)) (by omega) (by omega),wrapI (n:=(r.at':Int)+(n:Int) - (n:Int)) (by omega) (by omega),show (r.at':Int)+(n:Int) - (n:Int)=(r.at':Int) by omega,show (r.at':Int)+(n:Int)=((r.at'+n:Nat):Int) by omega]
     refine ltk ?_
     refine bd (a:=r.get n) (by rw [sub_eq (by omega) (by omega),Nat.add_sub_cancel_left];rfl) ?_
     refine bd (a:=r.get n) (by rw [appL_eq (by simp;simp only [RS.left] at hn;omega)];simp) ?_
     rw [show rdRaw r n=(r.get n,r.to n) by simp [rdRaw,he,hn]]
     rfl
 ·refine bd (a:=r.e) ?_ ?_
  ·refine bd (a:=false) ?_ rfl
   exact cf (c1 he) rfl
  ·refine bd (a:=(true,r.b,(r.at':Int),r.e)) (ct (b1 he) rfl) ?_
   refine ct rfl ?_
   rw [show rdRaw r n=([],r) by simp [rdRaw,he]]
   rfl
theorem bev_w (l:List UInt8) (hl:l.length<2 ^ 40):loopT (wire_Reader_Uint_l1 l) FU (0,0)=some (beV l l.length):=by
 refine loopT_run l.length (λi=>(beV l i,(i:Int))) rfl (λi hi=>?_) ?_ (lt_FU (by omega))
 ·unfold wire_Reader_Uint_l1
  refine ct (dlt hi) ?_
  refine bd (idx_eq hi) ?_
  refine ltk ?_
  rw [wrapS (show i<2 ^ 40 by omega)]
  simp [beV,hi]
 ·unfold wire_Reader_Uint_l1
  exact cf (dge (Nat.le_refl _)) rfl
theorem bev_r (b:List UInt8) (at' n:Nat) (h:at'+n<=b.length) (hl:b.length<2 ^ 40):loopT (ref3_Reader_Uint_l1 (n:Int) b (at':Int)) FU (0,0)=some (beV ((b.drop at').take n) n):=by
 refine loopT_run n (λi=>(beV ((b.drop at').take n) i,(i:Int))) rfl (λi hi=>?_) ?_ (lt_FU (by omega))
 ·unfold ref3_Reader_Uint_l1
  refine ct (dlt hi) ?_
  refine bd (a:=((b.drop at').take n).getD i 0) ?_ ?_
  ·rw [wrapI (by omega) (by omega),show (at':Int)+(i:Int)=((at'+i:Nat):Int) by omega,idx_eq (by omega)]
   have h5:i<((b.drop at').take n).length:=by simp;omega
   rw [List.getD_eq_getElem?_getD,List.getElem?_eq_getElem h5]
   simp
  ·refine ltk ?_
   rw [wrapS (show i<2 ^ 40 by omega)]
   rfl
 ·unfold ref3_Reader_Uint_l1
  exact cf (dge (Nat.le_refl _)) rfl
theorem wire_RUint_eq (r:RS) (n:Nat) (h:r.Ok) (h1:1<=n) (h8:n<=8):wire_Reader_Uint r.W (n:Int)=some ((rdUint r n).1,(rdUint r n).2.W):=by
 unfold wire_Reader_Uint
 by_cases he:r.e=0
 ·refine cf (b0 he) ?_
  refine bd (a:=false) (cf (by simp;omega) (congrArg some (by simp;omega))) ?_
  refine cf rfl ?_
  by_cases hn:r.left<n
  ·refine bd (take_no r n h hn) ?_
   refine ct rfl ?_
   rw [show rdUint r n=(0,r.err 2) by simp [rdUint,he,hn]]
   rfl
  ·refine bd (take_yes r n h (by omega)) ?_
   refine cf rfl ?_
   have hl:=RS.get_len r n (by omega)
   refine bd (a:=beV (r.get n) n) ((bev_w _ (by omega)).trans (by rw [hl])) ?_
   by_cases hv:9223372036854775808<=beV (r.get n) n
   ·refine ct (by simp;omega) ?_
    rw [show rdUint r n=(0,r.err 4) by simp [rdUint,he,hn,hv]]
    rfl
   ·refine cf (by simp;omega) ?_
    obtain ⟨h1,h2⟩:=h
    show some (_,(⟨r.b,IntKind.i64.wrap ((r.at':Int)+(n:Int)),r.e⟩:wire_Reader))=_
    have hn':=hn
    simp only [RS.left] at hn'
    rw [wrapI (n:=(r.at':Int)+(n:Int)) (by omega) (by omega),show (r.at':Int)+(n:Int)=((r.at'+n:Nat):Int) by omega]
    rw [show rdUint r n=(IntKind.i64.wrap (beV (r.get n) n),r.to n) by simp [rdUint,he,hn,hv]]
    rfl
 ·refine ct (b1 he) ?_
  rw [show rdUint r n=(0,r) by simp [rdUint,he]]
theorem ref_RUint_eq (r:RS) (n:Nat) (h:r.Ok) (h1:1<=n) (h8:n<=8):ref3_Reader_Uint r.R (n:Int)=some ((rdUint r n).1,(rdUint r n).2.R):=by
 unfold ref3_Reader_Uint
 by_cases he:r.e=0
 ·refine bd (a:=0) ?_ ?_
  ·refine bd (a:=false) ?_ (congrArg some he)
   refine ct (c0 he) ?_
   exact cf (by simp;omega) (congrArg some (by simp;omega))
  ·have hr:(⟨r.R.B,r.R.At,0⟩:sealwrightref3_Reader)=r.R:=by simp [RS.R,he]
   rw [hr]
   by_cases hn:r.left<n
   ·refine bd (a:=(true,r.b,(r.at':Int),2)) ?_ ?_
    ·refine cf rfl ?_
     exact bd (need_no r n h he hn) rfl
    ·refine ct rfl ?_
     rw [show rdUint r n=(0,r.err 2) by simp [rdUint,he,hn]]
     rfl
   ·refine bd (a:=(false,r.b,(r.at':Int),r.e)) ?_ ?_
    ·refine cf rfl ?_
     exact bd (need_yes r n h he (by omega)) rfl
    ·refine cf rfl ?_
     obtain ⟨h1,h2⟩:=h
     have hn':=hn
     simp only [RS.left] at hn'
     refine bd (a:=beV (r.get n) n) (bev_r r.b r.at' n (by omega) h2) ?_
     by_cases hv:9223372036854775808<=beV (r.get n) n
     ·refine ct (by simp;omega) ?_
      rw [show rdUint r n=(0,r.err 4) by simp [rdUint,he,hn,hv]]
      rfl
     ·refine cf (by simp;omega) ?_
      rw [wrapI (n:=(r.at':Int)+(n:Int)) (by omega) (by omega),show (r.at':Int)+(n:Int)=((r.at'+n:Nat):Int) by omega]
      rw [show rdUint r n=(IntKind.i64.wrap (beV (r.get n) n),r.to n) by simp [rdUint,he,hn,hv]]
      rfl
 ·refine bd (a:=r.e) ?_ ?_
  ·refine bd (a:=false) ?_ rfl
   exact cf (c1 he) rfl
  ·refine bd (a:=(true,r.b,(r.at':Int),r.e)) (ct (b1 he) rfl) ?_
   refine ct rfl ?_
   rw [show rdUint r n=(0,r) by simp [rdUint,he]]
   rfl
theorem v2_eq (x y:UInt8):ior .i64 (ishl .i64 (IntKind.i64.wrap (x.toNat:Int)) 8) (IntKind.i64.wrap (y.toNat:Int))=((x.toNat*256+y.toNat:Nat):Int):=by
 have hx:=x.toNat_lt
 have hy:=y.toNat_lt
 rw [wrapI (by omega) (by omega),wrapI (by omega) (by omega)]
 have e1:ishl .i64 (x.toNat:Int) 8=((x.toNat*256:Nat):Int):=by
  show IntKind.i64.wrap ((x.toNat:Int)*256)=_
  rw [wrapI (by omega) (by omega)];omega
 rw [e1]
 unfold ior
 have e2:(BitVec.ofInt IntKind.i64.bits ((x.toNat*256:Nat):Int) ||| BitVec.ofInt IntKind.i64.bits (y.toNat:Int)).toNat=x.toNat*256+y.toNat:=by
  show (BitVec.ofInt 64 ((x.toNat*256:Nat):Int) ||| BitVec.ofInt 64 (y.toNat:Int)).toNat=_
  rw [BitVec.ofInt_natCast,BitVec.ofInt_natCast,BitVec.toNat_or,BitVec.toNat_ofNat,BitVec.toNat_ofNat,Nat.mod_eq_of_lt (by omega),Nat.mod_eq_of_lt (by omega)]
  rw [Nat.mul_comm,show (256:Nat)=2 ^ 8 from rfl,<- Nat.two_pow_add_eq_or_of_lt (by omega)]
 rw [e2,wrapI (by omega) (by omega)]
theorem ig {l:List UInt8} {i:Nat} (h:i<l.length):idx l (i:Int)=some (l.getD i 0):=by rw [idx_eq h];simp [h]
theorem wire_RBlob_eq (r:RS) (m:Nat) (h:r.Ok):wire_Reader_Blob r.W (m:Int)=some ((rdBlob r m).1,(rdBlob r m).2.W):=by
 have hv:v2 r<65536:=by
  have h1:=(r.b.getD r.at' 0).toNat_lt
  have h2:=(r.b.getD (r.at'+1) 0).toNat_lt
  unfold v2;omega
 unfold wire_Reader_Blob
 by_cases he:r.e=0
 ·refine cf (b0 he) ?_
  by_cases hn:r.left<2
  ·refine bd (take_no r 2 h hn) ?_
   refine ct rfl ?_
   rw [show rdBlob r m=([],r.err 2) by simp [rdBlob,he,hn]]
   rfl
  ·refine bd (take_yes r 2 h (by omega)) ?_
   refine cf rfl ?_
   have hl:=RS.get_len r 2 (by omega)
   have hn':=hn
   simp only [RS.left] at hn'
   refine bd (a:=r.b.getD r.at' 0) ?_ ?_
   ·refine (ig (l:=r.get 2) (i:=0) (by omega)).trans ?_
    simp [RS.get]
   refine bd (a:=r.b.getD (r.at'+1) 0) ?_ ?_
   ·refine (ig (l:=r.get 2) (i:=1) (by omega)).trans ?_
    simp [RS.get]
   refine ltk ?_
   rw [v2_eq]
   show (bif decide ((m:Int)<(v2 r:Int)) then _ else _)=_
   by_cases hm:m<v2 r
   ·refine ct (dlt hm) ?_
    rw [show rdBlob r m=([],r.err 4) by simp [rdBlob,he,hn,hm]]
    rfl
   ·refine cf (dge (by omega)) ?_
    obtain ⟨h1,h2⟩:=h
    have hw:IntKind.i64.wrap ((r.at':Int)+2)=(((r.at'+2:Nat)):Int):=by rw [wrapI (by omega) (by omega)];omega
    show ((wire_Reader_take r.W (IntKind.i64.wrap ((r.at':Int)+2)) (v2 r:Int)).bind _)=_
    rw [hw]
    by_cases hk:r.left<2+v2 r
    ·refine bd (a:=([],2,r.W)) ?_ ?_
     ·exact takeA_no r.W (r.at'+2) (v2 r) (by show r.at'+2<=r.b.length;omega) h2 (by simp only [RS.left] at hk;show r.b.length - (r.at'+2)<v2 r;omega)
     ·refine ct rfl ?_
      rw [show rdBlob r m=([],r.err 2) by simp [rdBlob,he,hn,hm,hk]]
      rfl
    ·have hk':=hk
     simp only [RS.left] at hk'
     refine bd (takeA_yes r.W (r.at'+2) (v2 r) h2 (by show r.at'+2+v2 r<=r.b.length;omega)) ?_
     refine cf rfl ?_
     refine ltk ?_
     refine bd (a:=(r.b.drop (r.at'+2)).take (v2 r)) ?_ ?_
     ·refine (appL_eq (by simp;omega)).trans ?_
      rfl
     ·show some (_,(⟨r.b,IntKind.i64.wrap ((r.at':Int)+IntKind.i64.wrap (2+(v2 r:Int))),r.e⟩:wire_Reader))=_
      rw [wrapI (n:=2+(v2 r:Int)) (by omega) (by omega),wrapI (by omega) (by omega),show (r.at':Int)+(2+(v2 r:Int))=((r.at'+(2+v2 r):Nat):Int) by omega]
      rw [show rdBlob r m=((r.b.drop (r.at'+2)).take (v2 r),r.to (2+v2 r)) by simp [rdBlob,he,hn,hm,hk]]
      rfl
 ·refine ct (b1 he) ?_
  rw [show rdBlob r m=([],r) by simp [rdBlob,he]]
theorem ref_RBlob_eq (r:RS) (m:Nat) (h:r.Ok):ref3_Reader_Blob r.R (m:Int)=some ((rdBlob r m).1,(rdBlob r m).2.R):=by
 have hv:v2 r<65536:=by
  have h1:=(r.b.getD r.at' 0).toNat_lt
  have h2:=(r.b.getD (r.at'+1) 0).toNat_lt
  unfold v2;omega
 unfold ref3_Reader_Blob
 by_cases he:r.e=0
 ·by_cases hn:r.left<2
  ·refine bd (a:=(true,r.b,(r.at':Int),2)) (cf (b0 he) (bd (need_no r 2 h he hn) rfl)) ?_
   refine ct rfl ?_
   rw [show rdBlob r m=([],r.err 2) by simp [rdBlob,he,hn]]
   rfl
  ·refine bd (a:=(false,r.b,(r.at':Int),r.e)) (cf (b0 he) (bd (need_yes r 2 h he (by omega)) rfl)) ?_
   refine cf rfl ?_
   have hn':=hn
   simp only [RS.left] at hn'
   have h':=h
   obtain ⟨h1,h2⟩:=h'
   refine bd (a:=r.b.getD r.at' 0) (ig (by omega)) ?_
   refine bd (a:=r.b.getD (r.at'+1) 0) (by rw [wrapS (by omega)];exact ig (by omega)) ?_
   refine ltk ?_
   rw [v2_eq]
   show (bif decide ((m:Int)<(v2 r:Int)) then _ else _)=_
   by_cases hm:m<v2 r
   ·refine ct (dlt hm) ?_
    rw [show rdBlob r m=([],r.err 4) by simp [rdBlob,he,hn,hm]]
    rfl
   ·refine cf (dge (by omega)) ?_
    have hw:IntKind.i64.wrap (2+(v2 r:Int))=((2+v2 r:Nat):Int):=by rw [wrapI (by omega) (by omega)];omega
    show ((ref3_Reader_need r.R (IntKind.i64.wrap (2+(v2 r:Int)))).bind λp=>bif !p.1 then _ else lt (IntKind.i64.wrap (p.2.At+IntKind.i64.wrap (2+(v2 r:Int)))) _)=_
    rw [hw]
    by_cases hk:r.left<2+v2 r
    ·refine bd (need_no r (2+v2 r) h he hk) ?_
     refine ct rfl ?_
     rw [show rdBlob r m=([],r.err 2) by simp [rdBlob,he,hn,hm,hk]]
    ·have hk':=hk
     simp only [RS.left] at hk'
     refine bd (need_yes r (2+v2 r) h he (by omega)) ?_
     refine cf rfl ?_
     refine ltk ?_
     show ((sub r.b (IntKind.i64.wrap (IntKind.i64.wrap ((r.at':Int)+((2+v2 r:Nat):Int)) - (v2 r:Int))) (IntKind.i64.wrap ((r.at':Int)+((2+v2 r:Nat):Int)))).bind λz=>(appL 1 [] z).bind λy=>some (y,sealwrightref3_Reader.mk r.b (IntKind.i64.wrap ((r.at':Int)+((2+v2 r:Nat):Int))) r.e))=_
     rw [wrapI (n:=(r.at':Int)+((2+v2 r:Nat):Int)) (by omega) (by omega),show (r.at':Int)+((2+v2 r:Nat):Int)=((r.at'+(2+v2 r):Nat):Int) by omega,wrapI (by omega) (by omega),show ((r.at'+(2+v2 r):Nat):Int) - (v2 r:Int)=((r.at'+2:Nat):Int) by omega]
     refine bd (a:=(r.b.drop (r.at'+2)).take (v2 r)) (by rw [sub_eq (by omega) (by omega)];congr 2;omega) ?_
     refine bd (a:=(r.b.drop (r.at'+2)).take (v2 r)) ((appL_eq (by simp;omega)).trans rfl) ?_
     rw [show rdBlob r m=((r.b.drop (r.at'+2)).take (v2 r),r.to (2+v2 r)) by simp [rdBlob,he,hn,hm,hk]]
     rfl
 ·refine bd (a:=(true,r.b,(r.at':Int),r.e)) (ct (b1 he) rfl) ?_
  refine ct rfl ?_
  rw [show rdBlob r m=([],r) by simp [rdBlob,he]]
  rfl
theorem wire_End_eq (r:RS) (h:r.Ok):wire_Reader_End r.W=some (rdEnd r,r.W):=by
 unfold wire_Reader_End
 by_cases he:r.e=0
 ·refine bd (a:=(decide (0<(r.left:Int)),r.b,(r.at':Int),r.e)) (ct (c0 he) ?_) ?_
  ·show some (decide (0<IntKind.i64.wrap ((r.b.length:Int) - (r.at':Int))),r.b,(r.at':Int),r.e)=_
   rw [left_eq r h]
  ·by_cases hl:0<r.left
   ·refine ct (by simp;omega) ?_
    simp only [rdEnd,he,hl];rw [<- he];rfl
   ·refine cf (by simp;omega) ?_
    simp only [rdEnd,he,hl];rw [<- he];simp [RS.W]
 ·refine bd (a:=(false,r.b,(r.at':Int),r.e)) (cf (c1 he) rfl) ?_
  refine cf rfl ?_
  simp only [rdEnd,he];simp [RS.W]
theorem ref_End_eq (r:RS) (h:r.Ok):ref3_Reader_End r.R=some (rdEnd r,r.R):=by
 unfold ref3_Reader_End
 by_cases he:r.e=0
 ·refine bd (a:=(decide (0<(r.left:Int)),r.b,(r.at':Int),r.e)) (ct (c0 he) ?_) ?_
  ·show some (decide (0<IntKind.i64.wrap ((r.b.length:Int) - (r.at':Int))),r.b,(r.at':Int),r.e)=_
   rw [left_eq r h]
  ·by_cases hl:0<r.left
   ·refine ct (by simp;omega) ?_
    simp only [rdEnd,he,hl];rw [<- he];rfl
   ·refine cf (by simp;omega) ?_
    simp only [rdEnd,he,hl];rw [<- he];simp [RS.R]
 ·refine bd (a:=(false,r.b,(r.at':Int),r.e)) (cf (c1 he) rfl) ?_
  refine cf rfl ?_
  simp only [rdEnd,he];simp [RS.R]
end Go.Proofs.TT
namespace Go.Proofs.TT
open Go Go.Sw
set_option maxRecDepth 100000
theorem u8_toNat (n:Nat):(u8 (n:Int)).toNat=n % 256:=by
 have:((n:Int) % 256).toNat=n % 256:=by omega
 rw [u8,this];simp
theorem iandM (n k:Nat) (h:n<2 ^ 62) (hk:k<2 ^ 62):iand .i64 (n:Int) (k:Int)=((n &&& k:Nat):Int):=by
 have e:(BitVec.ofInt IntKind.i64.bits (n:Int) &&& BitVec.ofInt IntKind.i64.bits (k:Int)).toNat=n &&& k:=by
  show (BitVec.ofInt 64 (n:Int) &&& BitVec.ofInt 64 (k:Int)).toNat=_
  rw [BitVec.ofInt_natCast,BitVec.ofInt_natCast,BitVec.toNat_and,BitVec.toNat_ofNat,BitVec.toNat_ofNat,Nat.mod_eq_of_lt (by omega),Nat.mod_eq_of_lt (by omega)]
 unfold iand
 have h3:n &&& k<=n:=Nat.and_le_left
 rw [e,wrapI (by omega) (by omega)]
theorem iand15 (n:Nat) (h:n<2 ^ 62):iand .i64 (n:Int) 15=((n % 16:Nat):Int):=by
 rw [show (15:Int)=((15:Nat):Int) from rfl,iandM n 15 h (by decide),Nat.and_two_pow_sub_one_eq_mod n 4]
theorem iand1 (n:Nat) (h:n<2 ^ 62):iand .i64 (n:Int) 1=((n % 2:Nat):Int):=by
 rw [show (1:Int)=((1:Nat):Int) from rfl,iandM n 1 h (by decide),Nat.and_two_pow_sub_one_eq_mod n 1]
theorem ishrN (k:IntKind) (n j:Nat) (h:j<=k.bits):ishr k (n:Int) (j:Int)=((n / 2 ^ j:Nat):Int):=by
 unfold ishr
 rw [Int.toNat_natCast,Nat.min_eq_left h,Int.fdiv_eq_ediv_of_nonneg _ (by have:(0:Int)<2 ^ j:=Int.pow_pos (by decide);omega)]
 rw [Int.natCast_ediv];simp
theorem hi_eq (x:UInt8):IntKind.i64.wrap ((u8 (ishr .u8 (x.toNat:Int) 4)).toNat:Int)=((x.toNat / 16:Nat):Int):=by
 have hx:=x.toNat_lt
 rw [show (4:Int)=((4:Nat):Int) from rfl,ishrN .u8 x.toNat 4 (by decide),u8_toNat,wrapI (by omega) (by omega)]
 omega
theorem lo_eq (x:UInt8):IntKind.i64.wrap ((u8 (iand .u8 (x.toNat:Int) 15)).toNat:Int)=((x.toNat % 16:Nat):Int):=by
 have hx:=x.toNat_lt
 have e:iand .u8 (x.toNat:Int) 15=((x.toNat % 16:Nat):Int):=by
  have e:(BitVec.ofInt IntKind.u8.bits (x.toNat:Int) &&& BitVec.ofInt IntKind.u8.bits 15).toNat=x.toNat % 16:=by
   show (BitVec.ofInt 8 (x.toNat:Int) &&& BitVec.ofInt 8 ((15:Nat):Int)).toNat=_
   rw [BitVec.ofInt_natCast,BitVec.ofInt_natCast,BitVec.toNat_and,BitVec.toNat_ofNat,BitVec.toNat_ofNat,Nat.mod_eq_of_lt (by omega),Nat.mod_eq_of_lt (by omega)]
   exact Nat.and_two_pow_sub_one_eq_mod x.toNat 4
  unfold iand
  rw [e,IntKind.wrap_u8];omega
 rw [e,u8_toNat,wrapI (by omega) (by omega)]
 omega
def nb (x:UInt8):List Nat:=[x.toNat / 16,x.toNat % 16]
def nbs (h:List UInt8):List Nat:=h.flatMap nb
def sm (h:List UInt8):Nat:=(h.map λx=>30 - x.toNat / 16 - x.toNat % 16).sum
theorem sm_take (l:List UInt8) (i:Nat) (hi:i<l.length):sm (l.take (i+1))=sm (l.take i)+(30 - l[i].toNat / 16 - l[i].toNat % 16):=by
 unfold sm
 rw [List.take_add_one,List.map_append,List.sum_append]
 simp only [hi,List.getElem?_eq_getElem,Option.toList_some,List.map_cons,List.map_nil,List.sum_cons,List.sum_nil]
 omega
theorem sm_le (l:List UInt8):sm l<=30*l.length:=by
 induction l with
 | nil=>simp [sm]
 | cons a r ih=>simp only [sm,List.map_cons,List.sum_cons,List.length_cons] at ih ⊢;omega
theorem nbs_take (l:List UInt8) (i:Nat) (hi:i<l.length):nbs (l.take (i+1))=nbs (l.take i)++nb l[i]:=by
 unfold nbs
 rw [List.take_add_one,List.flatMap_append]
 simp [hi]
theorem nbs_len (l:List UInt8):(nbs l).length=2*l.length:=by
 induction l with
 | nil=>rfl
 | cons a r ih=>simp [nbs,nb] at ih ⊢;omega
def ints (l:List Nat):List Int:=l.map λ(n:Nat)=>(n:Int)
theorem ints_app (a b:List Nat):ints (a++b)=ints a++ints b:=by simp [ints]
theorem ints_len (a:List Nat):(ints a).length=a.length:=by simp [ints]
theorem ints_idx {l:List Nat} {i:Nat} (h:i<l.length):idx (ints l) (i:Int)=some ((l.getD i 0:Nat):Int):=by
 rw [idx_eq (by rw [ints_len];exact h)];simp [ints,h]
theorem dig_nib (x:UInt8) (out:List Nat) (s:Nat) (ho:out.length<2 ^ 20) (hs:s<2 ^ 40):loopT (onetime_Digits_l1 x) FU (ints out,(s:Int),0)=some (ints (out++nb x),((s+(30 - x.toNat / 16 - x.toNat % 16):Nat):Int)):=by
 have hx:=x.toNat_lt
 refine loopT_run 2 (λi=>(ints (out++(nb x).take i),((s+(if i=0 then 0 else if i=1 then 15 - x.toNat / 16 else 30 - x.toNat / 16 - x.toNat % 16):Nat):Int),(i:Int))) (by simp) (λi hi=>?_) ?_ (lt_FU (by decide))
 ·unfold onetime_Digits_l1
  refine ct (dlt (b:=2) hi) ?_
  rw [hi_eq,lo_eq]
  rcases i with _ | _ | i
  ·refine bd (a:=((x.toNat / 16:Nat):Int)) rfl ?_
   refine bd (appL_eq (by simp [ints];omega)) ?_
   refine ltk ?_
   have e:IntKind.i64.wrap (((s+0:Nat):Int)+IntKind.i64.wrap (15 - ((x.toNat / 16:Nat):Int)))=((s+(15 - x.toNat / 16):Nat):Int):=by
    rw [wrapI (n:=15 - _) (by omega) (by omega),wrapI (by omega) (by omega)];omega
   show some (Sum.inl (_,IntKind.i64.wrap (((s+0:Nat):Int)+IntKind.i64.wrap (15 - ((x.toNat / 16:Nat):Int))),IntKind.i64.wrap (((0:Nat):Int)+1)))=_
   rw [e,wrapS (by decide)]
   simp [ints,nb]
  ·refine bd (a:=((x.toNat % 16:Nat):Int)) rfl ?_
   refine bd (appL_eq (by simp [ints];omega)) ?_
   refine ltk ?_
   have e:IntKind.i64.wrap (((s+(15 - x.toNat / 16):Nat):Int)+IntKind.i64.wrap (15 - ((x.toNat % 16:Nat):Int)))=((s+(30 - x.toNat / 16 - x.toNat % 16):Nat):Int):=by
    rw [wrapI (n:=15 - _) (by omega) (by omega),wrapI (by omega) (by omega)];omega
   show some (Sum.inl (_,IntKind.i64.wrap (((s+(15 - x.toNat / 16):Nat):Int)+IntKind.i64.wrap (15 - ((x.toNat % 16:Nat):Int))),IntKind.i64.wrap (((1:Nat):Int)+1)))=_
   rw [e,wrapS (by decide)]
   simp [ints,nb]
  ·omega
 ·rfl
def digs (m:List UInt8):List Nat:=nbs ((hs 4 [m]).take 16)++[sm ((hs 4 [m]).take 16) / 256,sm ((hs 4 [m]).take 16) / 16 % 16,sm ((hs 4 [m]).take 16) % 16]
theorem t16_len (tag:Int) (fs:List (List UInt8)):((hs tag fs).take 16).length=16:=by simp [hs_len]
theorem digs_len (m:List UInt8):(digs m).length=35:=by have:=t16_len 4 [m];simp [digs,nbs_len,-List.length_take,this]
theorem sub16 (tag:Int) (fs:List (List UInt8)):sub (hs tag fs) 0 16=some ((hs tag fs).take 16):=by
 have:=hs_len tag fs
 rw [show (0:Int)=((0:Nat):Int) from rfl,show (16:Int)=((16:Nat):Int) from rfl,sub_eq (by omega) (by omega)];simp
theorem tot1 (a:List UInt8):tot [a]=4+a.length:=by simp [tot]
theorem tot2 (a b:List UInt8):tot [a,b]=8+a.length+b.length:=by simp [tot];omega
theorem tot3 (a b c:List UInt8):tot [a,b,c]=12+a.length+b.length+c.length:=by simp [tot];omega
theorem one_Digits (m:List UInt8) (hm:m.length<2 ^ 31):onetime_Digits m=some (ints (digs m)):=by
 unfold onetime_Digits
 refine bd (dig_Hash 4 [m] (by rw [tot1];omega)) ?_
 refine bd (sub16 4 [m]) ?_
 have hl:=t16_len 4 [m]
 unfold digs
 generalize (hs 4 [m]).take 16=h at hl ⊢
 have hsm:=sm_le h
 refine bd (a:=(ints (nbs h),(sm h:Int))) ?_ ?_
 ·refine loopT_run h.length (λi=>(ints (nbs (h.take i)),(sm (h.take i):Int),(i:Int))) rfl (λi hi=>?_) ?_ (lt_FU (by omega))
  ·have h1:=sm_le (h.take i)
   have h2:=nbs_len (h.take i)
   have h3:(h.take i).length=i:=by simp;omega
   unfold onetime_Digits_l2
   refine ct (dlt hi) ?_
   refine bd (idx_eq hi) ?_
   refine bd (dig_nib _ _ _ (by omega) (by omega)) ?_
   rw [sm_take h i hi,nbs_take h i hi,wrapS (show i<2 ^ 40 by omega)]
  ·unfold onetime_Digits_l2
   refine cf (dge (Nat.le_refl _)) ?_
   simp
 ·have h2:=nbs_len h
  show ((appL 8 (ints (nbs h)) [ishr .i64 (sm h:Int) ((8:Nat):Int),iand .i64 (ishr .i64 (sm h:Int) ((4:Nat):Int)) 15,iand .i64 (sm h:Int) 15]).bind λv=>some v)=_
  rw [ishrN .i64 _ 8 (by decide),ishrN .i64 _ 4 (by decide),iand15 _ (by omega),iand15 _ (by omega)]
  refine bd (appL_eq (by rw [ints_len];simp;omega)) ?_
  rw [ints_app]
  rfl
theorem ref_Digits (m:List UInt8) (hm:m.length<2 ^ 31):ref5_Digits m=some (ints (digs m)):=by
 unfold ref5_Digits
 refine bd (ref_Hash 4 [m] (by rw [tot1];omega)) ?_
 refine bd (sub16 4 [m]) ?_
 have hl:=t16_len 4 [m]
 unfold digs
 generalize (hs 4 [m]).take 16=h at hl ⊢
 have hsm:=sm_le h
 refine bd (a:=(ints (nbs h),(sm h:Int))) ?_ ?_
 ·refine loopT_run 16 (λi=>(ints (nbs (h.take i)),(sm (h.take i):Int),(i:Int))) rfl (λi hi=>?_) ?_ (lt_FU (by omega))
  ·have h1:=sm_le (h.take i)
   have h2:=nbs_len (h.take i)
   have h3:(h.take i).length=i:=by simp;omega
   have hi':i<h.length:=by omega
   have hx:=h[i].toNat_lt
   unfold ref5_Digits_l1
   refine ct (dlt (b:=16) hi) ?_
   refine bd (idx_eq hi') ?_
   refine bd (idx_eq hi') ?_
   rw [hi_eq,lo_eq]
   refine bd (a:=ints (nbs (h.take (i+1)))) ?_ ?_
   ·rw [appL_eq (by rw [ints_len];simp;omega),nbs_take h i hi',ints_app];rfl
   refine bd (idx_eq hi') ?_
   refine ltk ?_
   refine bd (idx_eq hi') ?_
   refine ltk ?_
   rw [hi_eq,lo_eq,sm_take h i hi',wrapS (show i<2 ^ 40 by omega)]
   rw [wrapI (n:=30 - _) (by omega) (by omega),wrapI (n:=30 - _ - _) (by omega) (by omega),wrapI (by omega) (by omega)]
   congr 4
   omega
  ·unfold ref5_Digits_l1
   refine cf rfl ?_
   rw [List.take_of_length_le (by omega)]
 ·have h2:=nbs_len h
  show ((appL 8 (ints (nbs h)) [IntKind.i64.wrap (Int.tdiv (sm h:Int) 256),Int.tmod (IntKind.i64.wrap (Int.tdiv (sm h:Int) 16)) 16,Int.tmod (sm h:Int) 16]).bind λv=>some v)=_
  have e1:IntKind.i64.wrap (Int.tdiv (sm h:Int) 256)=((sm h / 256:Nat):Int):=by rw [Int.tdiv_eq_ediv_of_nonneg (by omega),wrapI (by omega) (by omega)];omega
  have e2:IntKind.i64.wrap (Int.tdiv (sm h:Int) 16)=((sm h / 16:Nat):Int):=by rw [Int.tdiv_eq_ediv_of_nonneg (by omega),wrapI (by omega) (by omega)];omega
  have e3:Int.tmod ((sm h / 16:Nat):Int) 16=((sm h / 16 % 16:Nat):Int):=by rw [Int.tmod_eq_emod_of_nonneg (by omega)];omega
  have e4:Int.tmod (sm h:Int) 16=((sm h % 16:Nat):Int):=by rw [Int.tmod_eq_emod_of_nonneg (by omega)];omega
  rw [e1,e2,e3,e4]
  refine bd (appL_eq (by rw [ints_len];simp;omega)) ?_
  rw [ints_app]
  rfl
def chn (leaf c p:Nat) (x:List UInt8):Nat->List UInt8
 | 0=>x
 | k+1=>(hs 1 [[u8 (leaf:Int),u8 (c:Int),u8 ((p+k:Nat):Int)],chn leaf c p x k]).take 16
theorem chn_len (leaf c p:Nat) (x:List UInt8) (hx:x.length=16):∀ k,(chn leaf c p x k).length=16
 | 0=>hx
 | _+1=>t16_len _ _
theorem ref_steps (leaf c p t:Nat) (x:List UInt8) (hx:x.length=16) (hp:p<=t) (ht:t<2 ^ 30):ref5_steps (leaf:Int) (c:Int) (p:Int) (t:Int) x=some (chn leaf c p x (t - p)):=by
 unfold ref5_steps
 refine bd ?_ rfl
 refine loopT_run (t - p) (λi=>(chn leaf c p x i,((p+i:Nat):Int))) rfl (λi hi=>?_) ?_ (lt_FU (by omega))
 ·have hl:=chn_len leaf c p x hx i
  unfold ref5_steps_l1
  refine ct (dlt (by omega)) ?_
  refine bd (ref_Hash _ _ (by rw [tot2];simp;omega)) ?_
  refine bd (sub16 _ _) ?_
  rw [wrapS (show p+i<2 ^ 40 by omega)]
  rfl
 ·unfold ref5_steps_l1
  exact cf (dge (by omega)) rfl
theorem one_steps (leaf c p:Nat) (x:List UInt8) (hx:x.length=16) (hp:p<=15):loopT (onetime_walkF183F186F187_l1 (leaf:Int) (c:Int)) FU (x,(p:Int))=some (chn leaf c p x (15 - p)):=by
 refine loopT_run (15 - p) (λi=>(chn leaf c p x i,((p+i:Nat):Int))) rfl (λi hi=>?_) ?_ (lt_FU (by omega))
 ·have hl:=chn_len leaf c p x hx i
  unfold onetime_walkF183F186F187_l1
  refine bd (a:=15) rfl ?_
  refine ct (dlt (b:=15) (by omega)) ?_
  refine bd (a:=chn leaf c p x (i+1)) ?_ ?_
  ·unfold onetime_next
   refine bd (dig_Hash _ _ (by rw [tot2];simp;omega)) ?_
   exact bd (sub16 _ _) rfl
  ·rw [wrapS (show p+i<2 ^ 40 by omega)]
   rfl
 ·unfold onetime_walkF183F186F187_l1
  refine bd (a:=15) rfl ?_
  exact cf (dge (b:=15) (by omega)) rfl
def nod (sig:List UInt8) (i:Nat):List UInt8:=(sig.drop (16*i)).take 16
def ends (leaf:Nat) (d:List Nat) (sig:List UInt8):Nat->List UInt8
 | 0=>[]
 | i+1=>ends leaf d sig i++chn leaf i (d.getD i 0) (nod sig i) (15 - d.getD i 0)
theorem nod_len (sig:List UInt8) (hs:sig.length=560) (i:Nat) (hi:i<35):(nod sig i).length=16:=by simp [nod];omega
theorem ends_len (leaf:Nat) (d:List Nat) (sig:List UInt8) (hs:sig.length=560):∀ i,i<=35->(ends leaf d sig i).length=16*i
 | 0,_=>rfl
 | i+1,h=>by
  have h1:=ends_len leaf d sig hs i (by omega)
  have h2:=chn_len leaf i (d.getD i 0) (nod sig i) (nod_len sig hs i (by omega)) (15 - d.getD i 0)
  simp only [ends,List.length_append,h1,h2];omega
theorem one_walk (leaf:Nat) (d:List Nat) (sig:List UInt8) (hs:sig.length=560) (hd:d.length=35) (h15:∀ i,i<35->d.getD i 0<=15):onetime_walkF183F186F187 (leaf:Int) sig (ints d)=some (ends leaf d sig 35):=by
 unfold onetime_walkF183F186F187
 refine bd ?_ rfl
 refine loopT_run 35 (λi=>(ends leaf d sig i,(i:Int))) rfl (λi hi=>?_) ?_ (lt_FU (by omega))
 ·have hl:=ends_len leaf d sig hs i (by omega)
  have hn:=nod_len sig hs i hi
  have hc:=chn_len leaf i (d.getD i 0) (nod sig i) hn (15 - d.getD i 0)
  unfold onetime_walkF183F186F187_l2
  refine ct (dlt (b:=35) hi) ?_
  refine bd (a:=nod sig i) ?_ ?_
  ·unfold onetime_RecoverC1P
   refine bd ?_ rfl
   rw [wrapI (n:=(i:Int)+1) (by omega) (by omega),wrapI (by omega) (by omega),wrapI (by omega) (by omega),show (i:Int)*16=((16*i:Nat):Int) by omega,show ((i:Int)+1)*16=((16*i+16:Nat):Int) by omega,sub_eq (by omega) (by omega)]
   simp [nod]
  refine bd (a:=((d.getD i 0:Nat):Int)) ?_ ?_
  ·unfold onetime_RecoverC2P
   exact bd (ints_idx (by omega)) rfl
  refine bd (one_steps leaf i _ _ hn (h15 i hi)) ?_
  refine bd (appL_eq (by omega)) ?_
  rw [wrapS (show i<2 ^ 40 by omega)]
  rfl
 ·generalize ends leaf d sig 35=S
  rfl
theorem ref_walk (leaf:Nat) (d:List Nat) (sig:List UInt8) (hs:sig.length=560) (hd:d.length=35) (h15:∀ i,i<35->d.getD i 0<=15):loopT (ref5_Recover_l1 (leaf:Int) sig (ints d)) FU ([],0)=some (ends leaf d sig 35):=by
 refine loopT_run 35 (λi=>(ends leaf d sig i,(i:Int))) rfl (λi hi=>?_) ?_ (lt_FU (by omega))
 ·have hl:=ends_len leaf d sig hs i (by omega)
  have hn:=nod_len sig hs i hi
  have hc:=chn_len leaf i (d.getD i 0) (nod sig i) hn (15 - d.getD i 0)
  unfold ref5_Recover_l1
  refine ct (dlt (b:=35) hi) ?_
  refine bd (ints_idx (by omega)) ?_
  refine bd (a:=nod sig i) ?_ ?_
  ·rw [wrapI (n:=16*(i:Int)) (by omega) (by omega),wrapI (by omega) (by omega),show 16*(i:Int)=((16*i:Nat):Int) by omega,show ((16*i:Nat):Int)+16=((16*i+16:Nat):Int) by omega,sub_eq (by omega) (by omega)]
   simp [nod]
  refine bd (ref_steps leaf i _ 15 _ hn (h15 i hi) (by decide)) ?_
  refine bd (appL_eq (by omega)) ?_
  rw [wrapS (show i<2 ^ 40 by omega)]
  rfl
 ·generalize ends leaf d sig 35=S
  rfl
theorem nbs_15 (l:List UInt8):∀ n∈nbs l,n<=15:=by
 intro n hn
 simp only [nbs,List.mem_flatMap,nb] at hn
 obtain ⟨x,_,hx⟩:=hn
 have:=x.toNat_lt
 simp at hx
 omega
theorem digs_15 (m:List UInt8):∀ i,i<35->(digs m).getD i 0<=15:=by
 intro i hi
 have hl:=digs_len m
 have:(digs m).getD i 0∈digs m:=by
  rw [List.getD_eq_getElem?_getD,List.getElem?_eq_getElem (by omega)]
  exact List.getElem_mem _
 generalize (digs m).getD i 0=v at this ⊢
 unfold digs at this
 have hs':=sm_le ((hs 4 [m]).take 16)
 have hl2:=t16_len 4 [m]
 rw [List.mem_append] at this
 rcases this with h | h
 ·exact nbs_15 _ _ h
 ·simp only [List.mem_cons,List.not_mem_nil,or_false] at h
  omega
def recov (leaf:Nat) (m sig:List UInt8):List UInt8:=(hs 2 [[u8 (leaf:Int)],ends leaf (digs m) sig 35]).take 16
theorem one_Recover (leaf:Nat) (m sig:List UInt8) (hl:leaf<256) (hm:m.length<2 ^ 31) (hs:sig.length=560):onetime_Recover (leaf:Int) m sig=some (recov leaf m sig,true):=by
 have he:=ends_len leaf (digs m) sig hs 35 (by omega)
 unfold onetime_Recover
 refine bd (a:=false) ?_ ?_
 ·refine bd (a:=true) ?_ ?_
  ·unfold onetime_valid
   refine bd (a:=true) (ct (by simp) (congrArg some (by simp;omega))) rfl
  ·refine cf rfl ?_
   simp [hs]
 refine cf rfl ?_
 refine bd (one_Digits m hm) ?_
 refine bd (one_walk leaf _ sig hs (digs_len m) (digs_15 m)) ?_
 refine bd (a:=recov leaf m sig) ?_ rfl
 unfold onetime_value
 refine bd (dig_Hash _ _ (by rw [tot2,he];simp)) ?_
 exact bd (sub16 _ _) rfl
theorem ref_Recover (leaf:Nat) (m sig:List UInt8) (hl:leaf<256) (hm:m.length<2 ^ 31) (hs:sig.length=560):ref5_Recover (leaf:Int) m sig=some (recov leaf m sig,true):=by
 have he:=ends_len leaf (digs m) sig hs 35 (by omega)
 unfold ref5_Recover
 refine bd (a:=false) (cf (nneg leaf) (cf (by simp;omega) (by simp [hs]))) ?_
 refine cf rfl ?_
 refine bd (ref_Digits m hm) ?_
 refine bd (ref_walk leaf _ sig hs (digs_len m) (digs_15 m)) ?_
 refine bd (a:=recov leaf m sig) ?_ rfl
 unfold ref5_value
 refine bd (ref_Hash _ _ (by rw [tot2,he];simp)) ?_
 exact bd (sub16 _ _) rfl
end Go.Proofs.TT
namespace Go.Proofs.TT
open Go Go.Sw
set_option maxRecDepth 100000
def par (h i:Nat) (l r:List UInt8):List UInt8:=(hs 3 [[u8 (h:Int),u8 (i:Int)],l,r]).take 16
theorem tree_par (h i:Nat) (l r:List UInt8) (hl:l.length=16) (hr:r.length=16):tree_parent (h:Int) (i:Int) l r=some (par h i l r):=by
 unfold tree_parent
 refine bd (dig_Hash _ _ (by rw [tot3,hl,hr];simp)) ?_
 exact bd (sub16 _ _) rfl
theorem ref_par (h i:Nat) (l r:List UInt8) (hl:l.length=16) (hr:r.length=16):ref6_join (h:Int) (i:Int) l r=some (par h i l r):=by
 unfold ref6_join
 refine bd (ref_Hash _ _ (by rw [tot3,hl,hr];simp)) ?_
 exact bd (sub16 _ _) rfl
def nd (path:List (List UInt8)) (i:Nat) (leaf:List UInt8):Nat->List UInt8
 | 0=>leaf
 | k+1=>if i / 2 ^ k % 2=1 then par k (i / 2 ^ (k+1)) (path.getD k []) (nd path i leaf k) else par k (i / 2 ^ (k+1)) (nd path i leaf k) (path.getD k [])
theorem nd_len (path:List (List UInt8)) (i:Nat) (leaf:List UInt8) (hl:leaf.length=16):∀ k,(nd path i leaf k).length=16
 | 0=>hl
 | k+1=>by
  unfold nd
  split<;>exact t16_len _ _
theorem getL {l:List (List UInt8)} {i:Nat} (h:i<l.length):idx l (i:Int)=some (l.getD i []):=by rw [idx_eq h];simp [h]
theorem half (i k:Nat):i / 2 ^ k / 2=i / 2 ^ (k+1):=by rw [Nat.div_div_eq_div_mul,Nat.pow_succ]
theorem tree_Climb_eq (leaf:List UInt8) (i:Nat) (path:List (List UInt8)) (hl:leaf.length=16) (hp:path.length<=3) (h16:∀ k,k<path.length->(path.getD k []).length=16) (hi:i<2 ^ path.length) (h8:i<256):tree_Climb leaf (i:Int) path=some (nd path i leaf path.length):=by
 unfold tree_Climb
 refine bd (a:=false) ?_ ?_
 ·refine cf (by simp;omega) ?_
  refine cf (nneg i) ?_
  congr 1
  have h4:path.length=0∨path.length=1∨path.length=2∨path.length=3:=by omega
  rcases h4 with h | h | h | h<;>rw [h] at hi ⊢ <;> (rw [decide_eq_false_iff_not];show ¬ (_:Int)<=(i:Int))
  ·show ¬ (1:Int)<=i;omega
  ·show ¬ (2:Int)<=i;omega
  ·show ¬ (4:Int)<=i;omega
  ·show ¬ (8:Int)<=i;omega
 refine cf rfl ?_
 refine bd (a:=leaf) (by rw [appL_eq (by simp;omega)];simp) ?_
 refine bd ?_ rfl
 refine loopT_run path.length (λk=>(((i / 2 ^ k:Nat):Int),nd path i leaf k,(k:Int))) (by simp [nd]) (λk hk=>?_) ?_ (lt_FU (by omega))
 ·have hn:=nd_len path i leaf hl k
  have hq:=h16 k hk
  have hd:i / 2 ^ k<=i:=Nat.div_le_self _ _
  unfold tree_Climb_l1
  refine ct (dlt hk) ?_
  refine bd (getL hk) ?_
  rw [iand1 _ (by omega),show (1:Int)=((1:Nat):Int) from rfl,ishrN .i64 _ 1 (by decide),Nat.pow_one,half]
  by_cases hb:i / 2 ^ k % 2=1
  ·refine bd (ct (by rw [hb];rfl) rfl) ?_
   refine bd (tree_par k _ _ _ hq hn) ?_
   rw [show ((1:Nat):Int)=1 from rfl,wrapS (show k<2 ^ 40 by omega)]
   simp only [nd,if_pos hb]
  ·refine bd (cf (by
            have:i / 2 ^ k % 2=0:=by omega
            rw [this];rfl) rfl) ?_
   refine bd (tree_par k _ _ _ hn hq) ?_
   rw [show ((1:Nat):Int)=1 from rfl,wrapS (show k<2 ^ 40 by omega)]
   simp only [nd,if_neg hb]
 ·unfold tree_Climb_l1
  exact cf (dge (Nat.le_refl _)) rfl
theorem ref_Climb_eq (leaf:List UInt8) (i:Nat) (path:List (List UInt8)) (hl:leaf.length=16) (hp:path.length<=3) (h16:∀ k,k<path.length->(path.getD k []).length=16) (hi:i<2 ^ path.length) (h8:i<256):ref6_Climb leaf (i:Int) path=some (nd path i leaf path.length):=by
 unfold ref6_Climb
 refine bd (a:=false) ?_ ?_
 ·refine cf (by simp;omega) ?_
  refine cf (nneg i) ?_
  congr 1
  have h4:path.length=0∨path.length=1∨path.length=2∨path.length=3:=by omega
  rcases h4 with h | h | h | h<;>rw [h] at hi ⊢ <;> (rw [decide_eq_false_iff_not];show ¬ (_:Int)<=(i:Int))
  ·show ¬ (1:Int)<=i;omega
  ·show ¬ (2:Int)<=i;omega
  ·show ¬ (4:Int)<=i;omega
  ·show ¬ (8:Int)<=i;omega
 refine cf rfl ?_
 refine bd (copy_eq leaf (by omega)) ?_
 refine bd ?_ rfl
 refine loopT_run path.length (λk=>(((i / 2 ^ k:Nat):Int),nd path i leaf k,(k:Int))) (by simp [nd]) (λk hk=>?_) ?_ (lt_FU (by omega))
 ·have hn:=nd_len path i leaf hl k
  have hq:=h16 k hk
  have hd:i / 2 ^ k<=i:=Nat.div_le_self _ _
  have e1:Int.tmod ((i / 2 ^ k:Nat):Int) 2=((i / 2 ^ k % 2:Nat):Int):=by
   generalize i / 2 ^ k=q
   rw [Int.tmod_eq_emod_of_nonneg (by omega)];omega
  have e2:IntKind.i64.wrap (Int.tdiv ((i / 2 ^ k:Nat):Int) 2)=((i / 2 ^ (k+1):Nat):Int):=by
   rw [<- half]
   generalize i / 2 ^ k=q at hd ⊢
   rw [Int.tdiv_eq_ediv_of_nonneg (by omega),wrapI (by omega) (by omega)];omega
  unfold ref6_Climb_l1
  refine ct (dlt hk) ?_
  rw [e1,e2]
  by_cases hb:i / 2 ^ k % 2=1
  ·refine bd (a:=nd path i leaf (k+1)) (cf (by rw [hb];rfl) ?_) ?_
   ·refine bd (getL hk) ?_
    refine bd (ref_par k _ _ _ hq hn) ?_
    simp only [nd,if_pos hb]
   ·rw [wrapS (show k<2 ^ 40 by omega)]
  ·refine bd (a:=nd path i leaf (k+1)) (ct (by
                           have:i / 2 ^ k % 2=0:=by omega
                           rw [this];rfl) ?_) ?_
   ·refine bd (getL hk) ?_
    refine bd (ref_par k _ _ _ hn hq) ?_
    simp only [nd,if_neg hb]
   ·rw [wrapS (show k<2 ^ 40 by omega)]
 ·unfold ref6_Climb_l1
  exact cf (dge (Nat.le_refl _)) rfl
def pths (sig:List UInt8) (h:Nat):List (List UInt8):=(List.range h).map λ(j:Nat)=>(sig.drop (561+16*j)).take 16
theorem pths_len (sig:List UInt8) (h:Nat):(pths sig h).length=h:=by simp [pths]
theorem pths_succ (sig:List UInt8) (h:Nat):pths sig (h+1)=pths sig h++[(sig.drop (561+16*h)).take 16]:=by simp [pths,List.range_succ]
theorem pths_16 (sig:List UInt8) (h:Nat) (hs:sig.length=561+16*h):∀ k,k<(pths sig h).length->((pths sig h).getD k []).length=16:=by
 intro k hk
 rw [pths_len] at hk
 simp [pths,hk]
 omega
def vrf (pub m sig:List UInt8):Int×Bool:=
 if pub.length≠17∨3<(pub.getD 0 0).toNat then (0,false)
 else if sig.length≠561+16*(pub.getD 0 0).toNat∨2 ^ (pub.getD 0 0).toNat<=(sig.getD 0 0).toNat then (0,false)
 else if nd (pths sig (pub.getD 0 0).toNat) (sig.getD 0 0).toNat (recov (sig.getD 0 0).toNat m ((sig.drop 1).take 560)) (pub.getD 0 0).toNat=pub.drop 1 then (((sig.getD 0 0).toNat:Int),true) else (0,false)
theorem wb (x:UInt8):IntKind.i64.wrap (x.toNat:Int)=(x.toNat:Int):=by
 have:=x.toNat_lt
 rw [wrapI (by omega) (by omega)]
theorem shl2 (h:Nat) (hh:h<=3):ishl .i64 1 (IntKind.u64.wrap (h:Int))=((2 ^ h:Nat):Int):=by
 have h4:h=0∨h=1∨h=2∨h=3:=by omega
 rcases h4 with h | h | h | h<;>subst h<;>rfl
theorem sig_path (sig:List UInt8) (h:Nat) (hs:sig.length=561+16*h) (hh:h<=3):loopT signer_Verify_l1 FU ([],sig.drop 561)=some (pths sig h):=by
 refine loopT_run h (λi=>(pths sig i,sig.drop (561+16*i))) (by simp [pths]) (λi hi=>?_) ?_ (lt_FU (by omega))
 ·have hd:(sig.drop (561+16*i)).length=16*(h - i):=by simp;omega
  unfold signer_Verify_l1
  refine ct (by simp;omega) ?_
  refine bd (a:=(sig.drop (561+16*i)).take 16) (by rw [show (0:Int)=((0:Nat):Int) from rfl,show (16:Int)=((16:Nat):Int) from rfl,sub_eq (by omega) (by omega)];simp) ?_
  refine bd (appL_eq (by rw [pths_len];simp;omega)) ?_
  refine bd (a:=sig.drop (561+16*(i+1))) (by rw [show (16:Int)=((16:Nat):Int) from rfl,sub_eq (by omega) (by omega),List.drop_drop,List.take_of_length_le (by simp;omega)];congr 2) ?_
  rw [pths_succ]
 ·unfold signer_Verify_l1
  refine cf (by simp;omega) rfl
theorem ref_path (sig:List UInt8) (x:UInt8) (h:Nat) (hx:x.toNat=h) (hs:sig.length=561+16*h) (hh:h<=3):loopT (ref7_Verify_l1 sig x) FU (561,[],0)=some (pths sig h):=by
 refine loopT_run h (λi=>(((561+16*i:Nat):Int),pths sig i,(i:Int))) rfl (λi hi=>?_) ?_ (lt_FU (by omega))
 ·unfold ref7_Verify_l1
  rw [wb,hx]
  refine ct (dlt hi) ?_
  rw [wrapI (n:=((561+16*i:Nat):Int)+16) (by omega) (by omega),show ((561+16*i:Nat):Int)+16=((561+16*(i+1):Nat):Int) by omega]
  refine bd (a:=(sig.drop (561+16*i)).take 16) (by rw [sub_eq (by omega) (by omega)];congr 2;omega) ?_
  refine bd (appL_eq (by rw [pths_len];simp;omega)) ?_
  rw [pths_succ,wrapS (show i<2 ^ 40 by omega)]
 ·unfold ref7_Verify_l1
  rw [wb,hx]
  exact cf (dge (Nat.le_refl _)) rfl
theorem sub_tail {l:List UInt8} {a:Nat} (h:a<=l.length):sub l (a:Int) (l.length:Int)=some (l.drop a):=by
 rw [sub_eq h (Nat.le_refl _),List.take_of_length_le (by simp)]
theorem sig_Verify (pub m sig:List UInt8) (hm:m.length<2 ^ 31) (hp:pub.length<2 ^ 40) (hg:sig.length<2 ^ 40):signer_Verify pub m sig=some (vrf pub m sig):=by
 unfold signer_Verify
 by_cases hl:pub.length=17
 case neg=>
  refine bd (a:=true) (ct (by simp;omega) rfl) ?_
  refine ct rfl ?_
  rw [vrf,if_pos (.inl hl)]
 have h0:idx pub 0=some (pub.getD 0 0):=ig (i:=0) (by omega)
 by_cases h3:3<(pub.getD 0 0).toNat
 ·refine bd (a:=true) (cf (by simp;omega) ?_) ?_
  ·refine bd h0 ?_
   refine bd (a:=false) ?_ rfl
   unfold signer_valid
   refine bd (a:=false) ?_ rfl
   rw [wb]
   refine ct (by simp) ?_
   refine congrArg some ?_
   rw [decide_eq_false_iff_not];omega
  ·refine ct rfl ?_
   rw [vrf,if_pos (.inr h3)]
 refine bd (a:=false) (cf (by simp;omega) ?_) ?_
 ·refine bd h0 ?_
  refine bd (a:=true) ?_ rfl
  unfold signer_valid
  refine bd (a:=true) ?_ rfl
  rw [wb]
  refine ct (by simp) ?_
  refine congrArg some ?_
  rw [decide_eq_true_iff];omega
 refine cf rfl ?_
 refine bd h0 ?_
 rw [wb]
 have hx:∃ h,(pub.getD 0 0).toNat=h:=⟨_,rfl⟩
 obtain ⟨h,hx⟩:=hx
 rw [hx] at h3 ⊢
 rw [vrf,hx,if_neg (by omega)]
 have e1:IntKind.i64.wrap (561+IntKind.i64.wrap (16*(h:Int)))=((561+16*h:Nat):Int):=by rw [wrapI (n:=16*(h:Int)) (by omega) (by omega),wrapI (by omega) (by omega)];omega
 by_cases hs:sig.length=561+16*h
 case neg=>
  refine bd (a:=true) (ltk ?_) ?_
  ·rw [e1]
   exact ct (by simp;omega) rfl
  ·refine ct rfl ?_
   rw [if_pos (.inl hs)]
 have hs0:idx sig 0=some (sig.getD 0 0):=ig (i:=0) (by omega)
 have hy:∃ i,(sig.getD 0 0).toNat=i:=⟨_,rfl⟩
 obtain ⟨i,hy⟩:=hy
 have hi8:i<256:=by have:=(sig.getD 0 0).toNat_lt;omega
 by_cases hb:2 ^ h<=i
 ·refine bd (a:=true) (ltk ?_) ?_
  ·rw [e1]
   refine cf (by simp;omega) ?_
   refine bd hs0 ?_
   refine ltk ?_
   rw [wb,shl2 h (by omega),hy]
   simp;exact_mod_cast hb
  ·refine ct rfl ?_
   rw [hy,if_pos (.inr hb)]
 refine bd (a:=false) (ltk ?_) ?_
 ·rw [e1]
  refine cf (by simp;omega) ?_
  refine bd hs0 ?_
  refine ltk ?_
  rw [wb,shl2 h (by omega),hy]
  simp;exact_mod_cast (by omega:i<2 ^ h)
 refine cf rfl ?_
 refine bd hs0 ?_
 rw [wb,hy,if_neg (by omega)]
 refine bd (a:=(sig.drop 1).take 560) (sub_eq (a:=1) (b:=561) (by omega) (by omega)) ?_
 refine bd (one_Recover i m _ hi8 hm (by simp;omega)) ?_
 refine cf rfl ?_
 refine bd (sub_tail (a:=561) (by omega)) ?_
 refine bd (sig_path sig h hs (by omega)) ?_
 refine bd (tree_Climb_eq _ i _ (t16_len _ _) (by rw [pths_len];omega) (pths_16 sig h hs) (by rw [pths_len];omega) hi8) ?_
 refine bd (sub_tail (a:=1) (by omega)) ?_
 rw [pths_len]
 generalize nd (pths sig h) i (recov i m ((sig.drop 1).take 560)) h=N
 by_cases hN:N=pub.drop 1
 ·rw [if_pos hN]
  exact cf (by rw [hN];simp) rfl
 ·rw [if_neg hN]
  exact ct (by simp [-List.drop_one,hN]) rfl
theorem ref_Verify (pub m sig:List UInt8) (hm:m.length<2 ^ 31) (hp:pub.length<2 ^ 40) (hg:sig.length<2 ^ 40):ref7_Verify pub m sig=some (vrf pub m sig):=by
 unfold ref7_Verify
 by_cases hl:pub.length=17
 case neg=>
  refine bd (a:=true) (ct (by simp;omega) rfl) ?_
  refine ct rfl ?_
  rw [vrf,if_pos (.inl hl)]
 have h0:idx pub 0=some (pub.getD 0 0):=ig (i:=0) (by omega)
 by_cases h3:3<(pub.getD 0 0).toNat
 ·refine bd (a:=true) (cf (by simp;omega) ?_) ?_
  ·refine bd h0 ?_
   rw [wb]
   refine congrArg some ?_
   rw [decide_eq_true_iff];omega
  ·refine ct rfl ?_
   rw [vrf,if_pos (.inr h3)]
 refine bd (a:=false) (cf (by simp;omega) ?_) ?_
 ·refine bd h0 ?_
  rw [wb]
  refine congrArg some ?_
  rw [decide_eq_false_iff_not];omega
 refine cf rfl ?_
 refine bd h0 ?_
 have hx:∃ h,(pub.getD 0 0).toNat=h:=⟨_,rfl⟩
 obtain ⟨h,hx⟩:=hx
 rw [wb,hx]
 rw [hx] at h3
 rw [vrf,hx,if_neg (by omega)]
 have e1:IntKind.i64.wrap (561+IntKind.i64.wrap (16*(h:Int)))=((561+16*h:Nat):Int):=by rw [wrapI (n:=16*(h:Int)) (by omega) (by omega),wrapI (by omega) (by omega)];omega
 by_cases hs:sig.length=561+16*h
 case neg=>
  refine bd (a:=true) (ltk ?_) ?_
  ·rw [e1]
   exact ct (by simp;omega) rfl
  ·refine ct rfl ?_
   rw [if_pos (.inl hs)]
 have hs0:idx sig 0=some (sig.getD 0 0):=ig (i:=0) (by omega)
 have hy:∃ i,(sig.getD 0 0).toNat=i:=⟨_,rfl⟩
 obtain ⟨i,hy⟩:=hy
 have hi8:i<256:=by have:=(sig.getD 0 0).toNat_lt;omega
 by_cases hb:2 ^ h<=i
 ·refine bd (a:=true) (ltk ?_) ?_
  ·rw [e1]
   refine cf (by simp;omega) ?_
   refine bd hs0 ?_
   refine ltk ?_
   rw [wb,shl2 h (by omega),hy]
   simp;exact_mod_cast hb
  ·refine ct rfl ?_
   rw [hy,if_pos (.inr hb)]
 refine bd (a:=false) (ltk ?_) ?_
 ·rw [e1]
  refine cf (by simp;omega) ?_
  refine bd hs0 ?_
  refine ltk ?_
  rw [wb,shl2 h (by omega),hy]
  simp;exact_mod_cast (by omega:i<2 ^ h)
 refine cf rfl ?_
 refine bd hs0 ?_
 rw [wb,hy,if_neg (by omega)]
 refine bd (a:=(sig.drop 1).take 560) (sub_eq (a:=1) (b:=561) (by omega) (by omega)) ?_
 refine bd (ref_Recover i m _ hi8 hm (by simp;omega)) ?_
 refine bd (ref_path sig _ h hx hs (by omega)) ?_
 have ht:=nd_len (pths sig h) i (recov i m ((sig.drop 1).take 560)) (t16_len _ _) h
 refine bd (ref_Climb_eq _ i _ (t16_len _ _) (by rw [pths_len];omega) (pths_16 sig h hs) (by rw [pths_len];omega) hi8) ?_
 refine bd (sub_tail (a:=1) (by omega)) ?_
 rw [pths_len]
 generalize nd (pths sig h) i (recov i m ((sig.drop 1).take 560)) h=N at ht ⊢
 refine bd (ref_Same _ _ (by omega)) ?_
 by_cases hN:N=pub.drop 1
 ·rw [if_pos hN]
  exact cf (by rw [hN];simp) rfl
 ·rw [if_neg hN]
  exact ct (by simp [-List.drop_one,hN]) rfl
end Go.Proofs.TT
namespace Go.Proofs.TT
open Go Go.Sw
set_option maxRecDepth 100000
theorem check_eq (p:api_Public):area_Check p=ref10_Check p:=by
 unfold area_Check ref10_Check area_uniqueSize ref10_UniqueSize
 unfold bne
 generalize decide (p.Kind<1)=c1
 generalize decide (3<p.Kind)=c2
 generalize decide (p.Attr<0)=c3
 generalize decide (7<p.Attr)=c4
 generalize (iand .i64 p.Attr 4==0)=c5
 generalize (p.Kind==2)=c6
 generalize (iand .i64 p.Attr 1==0)=c7
 generalize ((p.Policy.length:Int)==0)=c8
 generalize decide (p.Height<0)=c9
 generalize decide (3<p.Height)=c10
 generalize (p.Height==0)=c11
 generalize ((p.Policy.length:Int)==32)=c12
 cases c1
 ·cases c2
  ·cases c3
   ·cases c4
    ·cases c5<;>cases c6<;>cases c7<;>cases c8<;>first | rfl | (cases c9<;>first | rfl | (cases c10<;>first | rfl | (cases c11<;>cases c12<;>rfl)))
    ·rfl
   ·rfl
  ·rfl
 ·rfl
theorem tb {α β:Type} {o:Option α} {f:α->Option β} (h:∃ a,o=some a) (k:∀ a,∃ r,f a=some r):∃ r,o.bind f=some r:=by
 obtain ⟨a,rfl⟩:=h
 exact k a
theorem tc {α:Type} {c:Bool} {a b:Option α} (h:∃ r,a=some r) (k:∃ r,b=some r):∃ r,(bif c then a else b)=some r:=by cases c<;>assumption
theorem check_some (p:api_Public):∃ e,area_Check p=some e:=by
 unfold area_Check area_uniqueSize
 repeat' first | exact ⟨_,rfl⟩ | refine tb ?_ (λ_=>?_) | refine tc ?_ ?_
def chk (p:api_Public):Int:=(area_Check p).getD 0
theorem area_Check_eq (p:api_Public):area_Check p=some (chk p):=by
 obtain ⟨e,h⟩:=check_some p
 rw [chk,h];rfl
theorem ref_Check_eq (p:api_Public):ref10_Check p=some (chk p):=by rw [<- check_eq,area_Check_eq]
def enc (p:api_Public):List UInt8:=blobB (blobB [u8 p.Kind,u8 p.Attr,u8 p.Height] p.Policy) p.Unique
theorem enc_len (p:api_Public):(enc p).length<=131077:=by
 have h1:=blobB_len [u8 p.Kind,u8 p.Attr,u8 p.Height] p.Policy
 have h2:=blobB_len (blobB [u8 p.Kind,u8 p.Attr,u8 p.Height] p.Policy) p.Unique
 simp only [List.length_cons,List.length_nil] at h1
 unfold enc;omega
def nm (p:api_Public):List UInt8:=hs 6 [enc p]
theorem area_Name_eq (p:api_Public):area_Name p=some (nm p):=by
 have hl:=enc_len p
 have h1:=blobB_len [u8 p.Kind,u8 p.Attr,u8 p.Height] p.Policy
 simp only [List.length_cons,List.length_nil] at h1
 unfold area_Name area_Encode
 refine bd (bd (wire_Blob_eq _ _ (by simp)) (bd (wire_Blob_eq _ _ (by omega)) rfl)) ?_
 exact bd (dig_Hash _ _ (by rw [tot1];show 4+(enc p).length<_;omega)) rfl
theorem ref_Name_eq (p:api_Public):ref10_Name p=some (nm p):=by
 have hl:=enc_len p
 have h1:=blobB_len [u8 p.Kind,u8 p.Attr,u8 p.Height] p.Policy
 simp only [List.length_cons,List.length_nil] at h1
 unfold ref10_Name ref10_Encode
 refine bd (bd (ref_Blob _ _ (by simp)) (bd (ref_Blob _ _ (by omega)) rfl)) ?_
 exact bd (ref_Hash _ _ (by rw [tot1];show 4+(enc p).length<_;omega)) rfl
def nnc (nonce:List UInt8) (machine:Int) (log:List UInt8):List UInt8:=hs 23 [nonce,uintB [] 2 machine,log]
theorem ev_Nonce (nonce:List UInt8) (machine:Int) (log:List UInt8) (h1:nonce.length<2 ^ 30) (h2:log.length<2 ^ 30):evidence_Nonce nonce machine log=some (nnc nonce machine log):=by
 unfold evidence_Nonce
 refine bd (wire_Uint_eq [] 2 machine (by omega) (by omega) (by simp)) ?_
 exact bd (dig_Hash _ _ (by rw [tot3,uintB_len];simp;omega)) rfl
theorem ref_Nonce (nonce:List UInt8) (machine:Int) (log:List UInt8) (h1:nonce.length<2 ^ 30) (h2:log.length<2 ^ 30):ref36_Nonce nonce machine log=some (nnc nonce machine log):=by
 unfold ref36_Nonce
 refine bd (ref_Uint [] 2 machine (by omega) (by omega) (by simp)) ?_
 exact bd (ref_Hash _ _ (by rw [tot3,uintB_len];simp;omega)) rfl
def d0 (b:List UInt8):RS:=⟨b,0,0⟩
def d1 (b:List UInt8):=rdRaw (d0 b) 4
def d2 (b:List UInt8):=rdBlob (d1 b).2 32
def d3 (b:List UInt8):=rdBlob (d2 b).2 128
def d4 (b:List UInt8):=rdUint (d3 b).2 8
def d5 (b:List UInt8):=rdUint (d4 b).2 8
def d6 (b:List UInt8):=rdUint (d5 b).2 8
def d7 (b:List UInt8):=rdUint (d6 b).2 1
def d8 (b:List UInt8):=rdUint (d7 b).2 8
def d9 (b:List UInt8):=rdUint (d8 b).2 2
def d10 (b:List UInt8):=rdUint (d9 b).2 2
def d11 (b:List UInt8):=rdRaw (d10 b).2 32
def noAtt:api_Attest:=⟨[],[],0,0,0,false,0,⟨0,0⟩,[]⟩
def att (b:List UInt8):api_Attest×Int:=
 if (d1 b).2.e≠0 then (noAtt,(d1 b).2.e)
 else if (d1 b).1≠[83,87,81,49] then (noAtt,5)
 else if rdEnd (d11 b).2≠0 then (noAtt,rdEnd (d11 b).2)
 else if (d2 b).1.length≠32∨1<(d7 b).1 then (noAtt,1)
 else (⟨(d2 b).1,(d3 b).1,(d4 b).1,(d5 b).1,(d6 b).1,(d7 b).1==1,(d8 b).1,⟨(d9 b).1,(d10 b).1⟩,(d11 b).1⟩,0)
theorem d0_ok (b:List UInt8) (h:b.length<2 ^ 40):(d0 b).Ok:=⟨Nat.zero_le _,h⟩
theorem rdRaw_b (r:RS) (n:Nat):(rdRaw r n).2.b=r.b:=by unfold rdRaw;split<;>(try split)<;>rfl
theorem rdRaw_l (r:RS) (n:Nat):(rdRaw r n).1.length<=r.b.length:=by
 unfold rdRaw
 split
 ·simp
 split
 ·simp
 ·simp [RS.get];omega
theorem rdUint_b (r:RS) (n:Nat):(rdUint r n).2.b=r.b:=by unfold rdUint;split<;>(try split)<;>(try split)<;>rfl
theorem rdBlob_b (r:RS) (n:Nat):(rdBlob r n).2.b=r.b:=by unfold rdBlob;split<;>(try split)<;>(try split)<;>(try split)<;>rfl
theorem rdBlob_l (r:RS) (n:Nat):(rdBlob r n).1.length<=r.b.length:=by
 unfold rdBlob
 split
 ·simp
 split
 ·simp
 split
 ·simp
 split
 ·simp
 ·simp;omega
theorem d1_ok (b:List UInt8) (h:b.length<2 ^ 40):(d1 b).2.Ok:=rdRaw_ok _ _ (d0_ok b h)
theorem d2_ok (b:List UInt8) (h:b.length<2 ^ 40):(d2 b).2.Ok:=rdBlob_ok _ _ (d1_ok b h)
theorem d3_ok (b:List UInt8) (h:b.length<2 ^ 40):(d3 b).2.Ok:=rdBlob_ok _ _ (d2_ok b h)
theorem d4_ok (b:List UInt8) (h:b.length<2 ^ 40):(d4 b).2.Ok:=rdUint_ok _ _ (d3_ok b h)
theorem d5_ok (b:List UInt8) (h:b.length<2 ^ 40):(d5 b).2.Ok:=rdUint_ok _ _ (d4_ok b h)
theorem d6_ok (b:List UInt8) (h:b.length<2 ^ 40):(d6 b).2.Ok:=rdUint_ok _ _ (d5_ok b h)
theorem d7_ok (b:List UInt8) (h:b.length<2 ^ 40):(d7 b).2.Ok:=rdUint_ok _ _ (d6_ok b h)
theorem d8_ok (b:List UInt8) (h:b.length<2 ^ 40):(d8 b).2.Ok:=rdUint_ok _ _ (d7_ok b h)
theorem d9_ok (b:List UInt8) (h:b.length<2 ^ 40):(d9 b).2.Ok:=rdUint_ok _ _ (d8_ok b h)
theorem d10_ok (b:List UInt8) (h:b.length<2 ^ 40):(d10 b).2.Ok:=rdUint_ok _ _ (d9_ok b h)
theorem d11_ok (b:List UInt8) (h:b.length<2 ^ 40):(d11 b).2.Ok:=rdRaw_ok _ _ (d10_ok b h)
theorem att_len (b:List UInt8) (h:b.length<2 ^ 40):(att b).1.Key.length<2 ^ 40/\(att b).1.Nonce.length<2 ^ 40/\(att b).1.Digest.length<2 ^ 40:=by
 have e1:(d1 b).2.b=b:=rdRaw_b _ _
 have e2:(d2 b).2.b=b:=(rdBlob_b _ _).trans e1
 have e3:(d3 b).2.b=b:=(rdBlob_b _ _).trans e2
 have e4:(d4 b).2.b=b:=(rdUint_b _ _).trans e3
 have e5:(d5 b).2.b=b:=(rdUint_b _ _).trans e4
 have e6:(d6 b).2.b=b:=(rdUint_b _ _).trans e5
 have e7:(d7 b).2.b=b:=(rdUint_b _ _).trans e6
 have e8:(d8 b).2.b=b:=(rdUint_b _ _).trans e7
 have e9:(d9 b).2.b=b:=(rdUint_b _ _).trans e8
 have e10:(d10 b).2.b=b:=(rdUint_b _ _).trans e9
 have l2:(d2 b).1.length<=b.length:=by have:=rdBlob_l (d1 b).2 32;rw [e1] at this;exact this
 have l3:(d3 b).1.length<=b.length:=by have:=rdBlob_l (d2 b).2 128;rw [e2] at this;exact this
 have l11:(d11 b).1.length<=b.length:=by have:=rdRaw_l (d10 b).2 32;rw [e10] at this;exact this
 unfold att
 split
 ·simp [noAtt]
 split
 ·simp [noAtt]
 split
 ·simp [noAtt]
 split
 ·simp [noAtt]
 ·exact ⟨by show (d2 b).1.length<_;omega,by show (d3 b).1.length<_;omega,by show (d11 b).1.length<_;omega⟩
theorem sel_eq (r:RS) (hr:r.Ok):loopT attest_Decode_l1 FU (0,0,0,r.W.b_,r.W.at_,r.W.e_)=some ((rdUint r 2).1,(rdUint (rdUint r 2).2 2).1,(rdUint (rdUint r 2).2 2).2.W.b_,(rdUint (rdUint r 2).2 2).2.W.at_,(rdUint (rdUint r 2).2 2).2.W.e_):=by
 have h1:=rdUint_ok r 2 hr
 refine loopT_run 2 (λi=>match i with
  | 0=>((0:Int),0,0,r.W.b_,r.W.at_,r.W.e_)
  | 1=>(1,(rdUint r 2).1,0,(rdUint r 2).2.W.b_,(rdUint r 2).2.W.at_,(rdUint r 2).2.W.e_)
  | _=>(2,(rdUint r 2).1,(rdUint (rdUint r 2).2 2).1,(rdUint (rdUint r 2).2 2).2.W.b_,(rdUint (rdUint r 2).2 2).2.W.at_,(rdUint (rdUint r 2).2 2).2.W.e_)) rfl (λi hi=>?_) ?_ (lt_FU (by decide))
 case refine_2=>rfl
 rcases i with _ | _ | i
 ·unfold attest_Decode_l1
  refine ct rfl ?_
  refine bd (bd (wire_RUint_eq r 2 hr (by omega) (by omega)) rfl) ?_
  rfl
 ·unfold attest_Decode_l1
  refine ct rfl ?_
  refine bd (bd (wire_RUint_eq (rdUint r 2).2 2 h1 (by omega) (by omega)) rfl) ?_
  rfl
 ·omega
theorem dec_eq (b:List UInt8) (h:b.length<2 ^ 40):attest_Decode b=some (att b):=by
 unfold attest_Decode
 refine bd (a:=(d0 b).W) ?_ ?_
 ·unfold wire_New
  refine bd (a:=b) (by rw [appL_eq (by simp;omega)];simp) rfl
 refine bd (wire_Raw_eq (d0 b) 4 (d0_ok b h)) ?_
 refine bd (a:=((d1 b).2.e,(d1 b).2.W)) rfl ?_
 unfold att
 by_cases he:(d1 b).2.e=0
 case neg=>
  rw [if_pos he]
  refine ct (b1 he) ?_
  rfl
 rw [if_neg (by simpa using he)]
 refine cf (b0 he) ?_
 by_cases hm:(d1 b).1=[83,87,81,49]
 case neg=>
  rw [if_pos hm]
  refine ct ?_ rfl
  show (!((d1 b).1==[83,87,81,49]))=true
  simp [hm]
 rw [if_neg (by simpa using hm)]
 refine cf ?_ ?_
 ·show (!((d1 b).1==[83,87,81,49]))=false
  simp [hm]
 refine bd (wire_RBlob_eq (d1 b).2 32 (d1_ok b h)) ?_
 refine bd (wire_RBlob_eq (d2 b).2 128 (d2_ok b h)) ?_
 refine bd (wire_RUint_eq (d3 b).2 8 (d3_ok b h) (by omega) (by omega)) ?_
 refine bd (wire_RUint_eq (d4 b).2 8 (d4_ok b h) (by omega) (by omega)) ?_
 refine bd (wire_RUint_eq (d5 b).2 8 (d5_ok b h) (by omega) (by omega)) ?_
 refine bd (wire_RUint_eq (d6 b).2 1 (d6_ok b h) (by omega) (by omega)) ?_
 refine bd (wire_RUint_eq (d7 b).2 8 (d7_ok b h) (by omega) (by omega)) ?_
 refine bd (sel_eq (d8 b).2 (d8_ok b h)) ?_
 refine bd (wire_Raw_eq (d10 b).2 32 (d10_ok b h)) ?_
 refine bd (wire_End_eq (d11 b).2 (d11_ok b h)) ?_
 by_cases hn:rdEnd (d11 b).2=0
 case neg=>
  rw [if_pos hn]
  exact ct (b1 hn) rfl
 rw [if_neg (by simpa using hn)]
 refine cf (b0 hn) ?_
 show ((bif ((d2 b).1.length:Int) != 32 then some true else some (decide (1<(d7 b).1))).bind λv=>bif v then some (noAtt,1) else some (api_Attest.mk (d2 b).1 (d3 b).1 (d4 b).1 (d5 b).1 (d6 b).1 ((d7 b).1==1) (d8 b).1 ⟨(d9 b).1,(d10 b).1⟩ (d11 b).1,0))=_
 by_cases hl:(d2 b).1.length=32
 ·by_cases h7:1<(d7 b).1
  ·rw [if_pos (.inr h7)]
   refine bd (a:=true) (cf (by simp;omega) (by simp;exact h7)) rfl
  ·rw [if_neg (by omega)]
   refine bd (a:=false) (cf (by simp;omega) (by simp;omega)) rfl
 ·rw [if_pos (.inl hl)]
  refine bd (a:=true) (ct (by simp;omega) rfl) rfl
theorem ref_dec_eq (b:List UInt8) (h:b.length<2 ^ 40):ref16_Decode b=some (att b):=by
 unfold ref16_Decode
 refine bd (a:=(d0 b).R) rfl ?_
 refine bd (ref_Raw_eq (d0 b) 4 (d0_ok b h)) ?_
 unfold att
 by_cases he:(d1 b).2.e=0
 case neg=>
  rw [if_pos he]
  exact ct (b1 he) rfl
 rw [if_neg (by simpa using he)]
 refine cf (b0 he) ?_
 refine bd (a:=[83,87,81,49]) rfl ?_
 refine bd (ref_Same (d1 b).1 _ (by have:=rdRaw_l (d0 b) 4;have e:(d0 b).b=b:=rfl;rw [e] at this;show (rdRaw (d0 b) 4).1.length<_;omega)) ?_
 by_cases hm:(d1 b).1=[83,87,81,49]
 case neg=>
  rw [if_pos hm]
  refine ct ?_ rfl
  simp [hm]
 rw [if_neg (by simpa using hm)]
 refine cf (by simp [hm]) ?_
 refine bd (ref_RBlob_eq (d1 b).2 32 (d1_ok b h)) ?_
 refine bd (ref_RBlob_eq (d2 b).2 128 (d2_ok b h)) ?_
 refine bd (ref_RUint_eq (d3 b).2 8 (d3_ok b h) (by omega) (by omega)) ?_
 refine bd (ref_RUint_eq (d4 b).2 8 (d4_ok b h) (by omega) (by omega)) ?_
 refine bd (ref_RUint_eq (d5 b).2 8 (d5_ok b h) (by omega) (by omega)) ?_
 refine bd (ref_RUint_eq (d6 b).2 1 (d6_ok b h) (by omega) (by omega)) ?_
 refine bd (ref_RUint_eq (d7 b).2 8 (d7_ok b h) (by omega) (by omega)) ?_
 refine bd (ref_RUint_eq (d8 b).2 2 (d8_ok b h) (by omega) (by omega)) ?_
 refine bd (ref_RUint_eq (d9 b).2 2 (d9_ok b h) (by omega) (by omega)) ?_
 refine bd (ref_Raw_eq (d10 b).2 32 (d10_ok b h)) ?_
 refine bd (ref_End_eq (d11 b).2 (d11_ok b h)) ?_
 by_cases hn:rdEnd (d11 b).2=0
 case neg=>
  rw [if_pos hn]
  exact ct (b1 hn) rfl
 rw [if_neg (by simpa using hn)]
 refine cf (b0 hn) ?_
 show ((bif ((d2 b).1.length:Int) != 32 then some true else some (decide (1<(d7 b).1))).bind λv=>bif v then some (noAtt,1) else some (api_Attest.mk (d2 b).1 (d3 b).1 (d4 b).1 (d5 b).1 (d6 b).1 ((d7 b).1==1) (d8 b).1 ⟨(d9 b).1,(d10 b).1⟩ (d11 b).1,0))=_
 by_cases hl:(d2 b).1.length=32
 ·by_cases h7:1<(d7 b).1
  ·rw [if_pos (.inr h7)]
   refine bd (a:=true) (cf (by simp;omega) (by simp;exact h7)) rfl
  ·rw [if_neg (by omega)]
   refine bd (a:=false) (cf (by simp;omega) (by simp;omega)) rfl
 ·rw [if_pos (.inl hl)]
  refine bd (a:=true) (ct (by simp;omega) rfl) rfl
end Go.Proofs.TT
namespace Go.Proofs.TT
open Go Go.Sw
set_option maxRecDepth 100000
def vq (k:api_Public) (b sig:List UInt8):api_Attest×Int×Int:=
 if chk k≠0 then (noAtt,0,chk k)
 else if k.Kind≠2 then (noAtt,0,19)
 else if iand .i64 k.Attr 4=0 then (noAtt,0,20)
 else if (vrf k.Unique b sig).2=false then (noAtt,0,17)
 else if (att b).2≠0 then (noAtt,0,(att b).2)
 else if (att b).1.Key≠nm k then (noAtt,0,16)
 else ((att b).1,(vrf k.Unique b sig).1,0)
theorem att_Verify (k:api_Public) (b sig:List UInt8) (hb:b.length<2 ^ 31) (hs:sig.length<2 ^ 40) (hk:k.Unique.length<2 ^ 40):attest_Verify k b sig=some (vq k b sig):=by
 unfold attest_Verify vq
 refine bd (area_Check_eq k) ?_
 by_cases h1:chk k=0
 case neg=>rw [if_pos h1];exact ct (b1 h1) rfl
 rw [if_neg (by simpa using h1)]
 refine cf (b0 h1) ?_
 by_cases h2:k.Kind=2
 case neg=>rw [if_pos h2];exact ct (by simp [h2]) rfl
 rw [if_neg (by simpa using h2)]
 refine cf (by simp [h2]) ?_
 by_cases h3:iand .i64 k.Attr 4=0
 ·rw [if_pos h3];exact ct (by simp [h3]) rfl
 rw [if_neg h3]
 refine cf (by simp [h3]) ?_
 refine bd (sig_Verify k.Unique b sig hb hk hs) ?_
 generalize vrf k.Unique b sig=V
 obtain ⟨v1,v2⟩:=V
 cases v2
 ·rfl
 refine cf rfl ?_
 rw [if_neg (by simp)]
 refine bd (dec_eq b (by omega)) ?_
 generalize att b=A
 obtain ⟨a1,a2⟩:=A
 by_cases h5:a2=0
 case neg=>rw [if_pos h5];exact ct (b1 h5) rfl
 rw [if_neg (by simpa using h5)]
 refine cf (b0 h5) ?_
 refine bd (area_Name_eq k) ?_
 by_cases h6:a1.Key=nm k
 case neg=>rw [if_pos h6];exact ct (by simp [h6]) rfl
 rw [if_neg (by simpa using h6)]
 exact cf (by simp [h6]) rfl
theorem ref_QVerify (k:api_Public) (b sig:List UInt8) (hb:b.length<2 ^ 31) (hs:sig.length<2 ^ 40) (hk:k.Unique.length<2 ^ 40):ref16_Verify k b sig=some (vq k b sig):=by
 unfold ref16_Verify vq
 refine bd (ref_Check_eq k) ?_
 by_cases h1:chk k=0
 case neg=>rw [if_pos h1];exact ct (b1 h1) rfl
 rw [if_neg (by simpa using h1)]
 refine cf (b0 h1) ?_
 by_cases h2:k.Kind=2
 case neg=>rw [if_pos h2];exact ct (by simp [h2]) rfl
 rw [if_neg (by simpa using h2)]
 refine cf (by simp [h2]) ?_
 by_cases h3:iand .i64 k.Attr 4=0
 ·rw [if_pos h3];exact ct (by simp [h3]) rfl
 rw [if_neg h3]
 refine cf (by simp [h3]) ?_
 refine bd (ref_Verify k.Unique b sig hb hk hs) ?_
 generalize vrf k.Unique b sig=V
 obtain ⟨v1,v2⟩:=V
 cases v2
 ·rfl
 refine cf rfl ?_
 rw [if_neg (by simp)]
 have hl:=(att_len b (by omega)).1
 refine bd (ref_dec_eq b (by omega)) ?_
 generalize att b=A at hl ⊢
 obtain ⟨a1,a2⟩:=A
 by_cases h5:a2=0
 case neg=>rw [if_pos h5];exact ct (b1 h5) rfl
 rw [if_neg (by simpa using h5)]
 refine cf (b0 h5) ?_
 refine bd (ref_Name_eq k) ?_
 refine bd (ref_Same _ _ hl) ?_
 by_cases h6:a1.Key=nm k
 case neg=>rw [if_pos h6];exact ct (by simp [h6]) rfl
 rw [if_neg (by simpa using h6)]
 exact cf (by simp [h6]) rfl
theorem vq_len (k:api_Public) (b sig:List UInt8) (hb:b.length<2 ^ 40):(vq k b sig).1.Key.length<2 ^ 40/\(vq k b sig).1.Nonce.length<2 ^ 40/\(vq k b sig).1.Digest.length<2 ^ 40:=by
 have h:=att_len b hb
 have hn:noAtt.Key.length<2 ^ 40/\noAtt.Nonce.length<2 ^ 40/\noAtt.Digest.length<2 ^ 40:=by simp [noAtt]
 unfold vq
 split
 ·exact hn
 split
 ·exact hn
 split
 ·exact hn
 split
 ·exact hn
 split
 ·exact hn
 split
 ·exact hn
 ·exact h
def qf (b sig:List UInt8):List api_Public->Int->Option api_Attest×Int
 | [],e=>(none,e)
 | k :: r,_=>if (vq k b sig).2.2=0 then (some (vq k b sig).1,0) else qf b sig r (vq k b sig).2.2
def qt (x:api_Evidence) (keys:List api_Public) (nonce:List UInt8):api_Attest×Int:=
 match qf x.Attest x.Signature keys 17 with
 | (some a,_)=>if a.Nonce=nnc nonce x.Machine x.Log then (a,0) else (noAtt,45)
 | (none,e)=>(noAtt,e)
theorem qf_len (b sig:List UInt8) (hb:b.length<2 ^ 40) (a:api_Attest):∀ (ks:List api_Public) (e:Int),(qf b sig ks e).1=some a->a.Key.length<2 ^ 40/\a.Nonce.length<2 ^ 40/\a.Digest.length<2 ^ 40
 | [],e,h=>by simp [qf] at h
 | k :: r,e,h=>by
  unfold qf at h
  split at h
  ·have:=vq_len k b sig hb
   simp at h
   subst h
   exact this
  ·exact qf_len b sig hb a r _ h
theorem drop_cons {α:Type} {l:List α} {k:Nat} (h:k<l.length):l.drop k=l[k] :: l.drop (k+1):=List.drop_eq_getElem_cons h
structure EvOk (x:api_Evidence) (keys:List api_Public) (nonce:List UInt8):Prop where
 b:x.Attest.length<2 ^ 30
 s:x.Signature.length<2 ^ 30
 l:x.Log.length<2 ^ 30
 n:nonce.length<2 ^ 30
 kl:keys.length<2 ^ 30
 k:∀ p∈keys,p.Unique.length<2 ^ 40
theorem app_Quote (x:api_Evidence) (keys:List api_Public) (nonce:List UInt8) (h:EvOk x keys nonce):appraise_Quote x keys nonce=some (qt x keys nonce):=by
 unfold appraise_Quote
 have:=h.kl
 obtain ⟨r,hr,hq⟩:=loopT_inv (step:=appraise_Quote_l1 x keys)
  (λs=>∃ k:Nat,s.2.1=(k:Int)/\k<=keys.length/\s.1≠0/\qf x.Attest x.Signature (keys.drop k) s.1=qf x.Attest x.Signature keys 17)
  (λs=>keys.length - s.2.1.toNat)
  (λr=>(qf x.Attest x.Signature keys 17=(none,r.1)/\r.1≠0)∨∃ a:api_Attest,qf x.Attest x.Signature keys 17=(some a,0)/\r=(0,a.Key,a.Nonce,a.Resets,a.Restarts,a.Clock,a.Safe,a.Updates,a.Selection.a0,a.Selection.a1,a.Digest))
  (λs hs=>by
   obtain ⟨e,i,f1,f2,f3,f4,f5,f6,f7,f8,f9,f10⟩:=s
   obtain ⟨k,rfl,hk,he,hq⟩:=hs
   simp only at he hq
   by_cases hk2:k<keys.length
   ·have hv:=att_Verify keys[k] x.Attest x.Signature (by have:=h.b;omega) (by have:=h.s;omega) (h.k _ (List.getElem_mem hk2))
    rw [drop_cons hk2,qf] at hq
    generalize vq keys[k] x.Attest x.Signature=V at hv hq
    obtain ⟨v1,v2,v3⟩:=V
    simp only at hq
    by_cases hz:v3=0
    ·rw [if_pos hz] at hq
     refine .inr ⟨(0,v1.Key,v1.Nonce,v1.Resets,v1.Restarts,v1.Clock,v1.Safe,v1.Updates,v1.Selection.a0,v1.Selection.a1,v1.Digest),?_,.inr ⟨_,hq.symm,rfl⟩⟩
     subst hz
     unfold appraise_Quote_l1
     refine ct (dlt hk2) ?_
     refine bd (idx_eq hk2) ?_
     exact bd hv rfl
    ·rw [if_neg hz] at hq
     refine .inl ⟨(v3,((k+1:Nat):Int),v1.Key,v1.Nonce,v1.Resets,v1.Restarts,v1.Clock,v1.Safe,v1.Updates,v1.Selection.a0,v1.Selection.a1,v1.Digest),?_,⟨k+1,rfl,by omega,hz,hq⟩,?_⟩
     ·unfold appraise_Quote_l1
      refine ct (dlt hk2) ?_
      refine bd (idx_eq hk2) ?_
      refine bd hv ?_
      refine cf (c1 hz) ?_
      rw [wrapS (by omega)]
     ·simp;omega
   ·refine .inr ⟨(e,f1,f2,f3,f4,f5,f6,f7,f8,f9,f10),?_,.inl ⟨?_,he⟩⟩
    ·unfold appraise_Quote_l1
     exact cf (dge (by omega)) rfl
    ·rw [List.drop_eq_nil_of_le (by omega)] at hq
     exact hq.symm) FU (17,0,[],[],0,0,0,false,0,0,0,[]) ⟨0,rfl,by omega,by decide,rfl⟩ (lt_FU (by simp;omega))
 refine bd hr ?_
 unfold qt
 rcases hq with ⟨h1,h2⟩ | ⟨a,h1,h2⟩
 ·rw [h1]
  obtain ⟨e,f⟩:=r
  exact ct (b1 h2) rfl
 ·subst h2
  rw [h1]
  refine cf rfl ?_
  refine bd (ev_Nonce _ _ _ h.n h.l) ?_
  refine bd (equal_eq _ _) ?_
  by_cases hn:a.Nonce=nnc nonce x.Machine x.Log
  ·simp only [hn,if_pos]
   refine cf (by simp) ?_
   rw [<- hn]
  ·simp only [hn,if_false]
   exact ct (by simp [hn]) rfl
theorem ref_Quote (x:api_Evidence) (keys:List api_Public) (nonce:List UInt8) (h:EvOk x keys nonce):ref36_Quote x keys nonce=some (qt x keys nonce):=by
 unfold ref36_Quote
 have:=h.kl
 obtain ⟨r,hr,hq⟩:=loopT_inv (step:=ref36_Quote_l1 x keys nonce)
  (λs=>∃ k:Nat,s.2=(k:Int)/\k<=keys.length/\s.1≠0/\qf x.Attest x.Signature (keys.drop k) s.1=qf x.Attest x.Signature keys 17)
  (λs=>keys.length - s.2.toNat)
  (λr=>match r with
   | .inr e=>qf x.Attest x.Signature keys 17=(none,e)
   | .inl v=>∃ a:api_Attest,qf x.Attest x.Signature keys 17=(some a,0)/\v=if a.Nonce=nnc nonce x.Machine x.Log then (a,0) else (noAtt,45))
  (λs hs=>by
   obtain ⟨e,i⟩:=s
   obtain ⟨k,rfl,hk,he,hq⟩:=hs
   simp only at he hq
   by_cases hk2:k<keys.length
   ·have hv:=ref_QVerify keys[k] x.Attest x.Signature (by have:=h.b;omega) (by have:=h.s;omega) (h.k _ (List.getElem_mem hk2))
    have hl:=vq_len keys[k] x.Attest x.Signature (by have:=h.b;omega)
    rw [drop_cons hk2,qf] at hq
    generalize vq keys[k] x.Attest x.Signature=V at hv hq hl
    obtain ⟨v1,v2,v3⟩:=V
    simp only at hq hl
    by_cases hz:v3=0
    ·rw [if_pos hz] at hq
     refine .inr ⟨.inl (if v1.Nonce=nnc nonce x.Machine x.Log then (v1,0) else (noAtt,45)),?_,⟨_,hq.symm,rfl⟩⟩
     unfold ref36_Quote_l1
     refine ct (dlt hk2) ?_
     refine bd (idx_eq hk2) ?_
     refine bd hv ?_
     refine ct (c0 hz) ?_
     refine bd (ref_Nonce _ _ _ h.n h.l) ?_
     refine bd (ref_Same _ _ hl.2.1) ?_
     by_cases hn:v1.Nonce=nnc nonce x.Machine x.Log
     ·rw [if_pos hn]
      exact cf (by simp [hn]) rfl
     ·rw [if_neg hn]
      exact ct (by simp [hn]) rfl
    ·rw [if_neg hz] at hq
     refine .inl ⟨(v3,((k+1:Nat):Int)),?_,⟨k+1,rfl,by omega,hz,hq⟩,?_⟩
     ·unfold ref36_Quote_l1
      refine ct (dlt hk2) ?_
      refine bd (idx_eq hk2) ?_
      refine bd hv ?_
      refine cf (c1 hz) ?_
      rw [wrapS (by omega)]
     ·simp;omega
   ·refine .inr ⟨.inr e,?_,?_⟩
    ·unfold ref36_Quote_l1
     exact cf (dge (by omega)) rfl
    ·rw [List.drop_eq_nil_of_le (by omega)] at hq
     exact hq.symm) FU (17,0) ⟨0,rfl,by omega,by decide,rfl⟩ (lt_FU (by simp;omega))
 refine bd hr ?_
 unfold qt
 cases r with
 | inl v=>
  obtain ⟨a,h1,h2⟩:=hq
  rw [h1,h2]
 | inr e=>
  rw [hq]
  rfl
theorem same_self (a:api_Attest) (h:a.Key.length<2 ^ 40/\a.Nonce.length<2 ^ 40/\a.Digest.length<2 ^ 40):ref16_Same a a=some true:=by
 unfold ref16_Same
 refine bd (a:=true) ?_ rfl
 refine bd (a:=true) ((ref_Same _ _ h.1).trans (by simp)) ?_
 refine ct rfl ?_
 refine bd (a:=true) ((ref_Same _ _ h.2.1).trans (by simp)) ?_
 refine ct rfl ?_
 refine ct (by simp) (ct (by simp) (ct (by simp) (ct (by simp) (ct (by simp) (ct (by simp) ?_)))))
 exact bd (a:=true) ((ref_Same _ _ h.2.2).trans (by simp)) rfl
theorem qt_len (x:api_Evidence) (keys:List api_Public) (nonce:List UInt8) (hb:x.Attest.length<2 ^ 40):(qt x keys nonce).1.Key.length<2 ^ 40/\(qt x keys nonce).1.Nonce.length<2 ^ 40/\(qt x keys nonce).1.Digest.length<2 ^ 40:=by
 have hn:noAtt.Key.length<2 ^ 40/\noAtt.Nonce.length<2 ^ 40/\noAtt.Digest.length<2 ^ 40:=by simp [noAtt]
 have h:=λa=>qf_len x.Attest x.Signature hb a keys 17
 unfold qt
 generalize qf x.Attest x.Signature keys 17=Q at h
 obtain ⟨o,e⟩:=Q
 cases o with
 | none=>exact hn
 | some a=>
  simp only
  split
  ·exact h a rfl
  ·exact hn
theorem quote_loop (raw v:api_Evidence) (keys:List api_Public) (n p q s:List UInt8) (h1:EvOk v keys n) (h2:EvOk (api_Evidence.mk raw.Machine p q s) keys n):loopT (law37_AppraiseQuote_l1 raw v keys n p q s) FU 0=some (.inr ()):=by
 have st:∀ (i:Nat) (x:api_Evidence),i<2->idx [v,api_Evidence.mk raw.Machine p q s] (i:Int)=some x->EvOk x keys n->law37_AppraiseQuote_l1 raw v keys n p q s (i:Int)=some (.inl ((i+1:Nat):Int)):=by
  intro i x hi hx hk
  unfold law37_AppraiseQuote_l1
  refine ct (dlt (b:=2) hi) ?_
  refine bd hx ?_
  have e1:=app_Quote x keys n hk
  have e2:=ref_Quote x keys n hk
  have hl:=qt_len x keys n (by have:=hk.b;omega)
  generalize qt x keys n=Q at hl e1 e2
  obtain ⟨a,e⟩:=Q
  refine bd e1 ?_
  refine bd e2 ?_
  refine bd (a:=false) ?_ ?_
  ·refine cf (by simp) ?_
   by_cases he:e=0
   ·refine ct (c0 he) ?_
    exact bd (same_self a hl) rfl
   ·exact cf (c1 he) rfl
  ·refine cf rfl ?_
   rw [wrapS (by omega)]
 refine loopT_run 2 (λi=>(i:Int)) rfl (λi hi=>?_) ?_ (lt_FU (by decide))
 ·rcases i with _ | _ | i
  ·exact st 0 v (by omega) rfl h1
  ·exact st 1 _ (by omega) rfl h2
  ·omega
 ·rfl
end Go.Proofs.TT
namespace Go.Sw
open Go
def Def {α:Type} (o:Option α) (P:α->Prop):Prop:=∃ a,o=some a/\P a
theorem Def.bd {α β:Type} {o:Option α} {P:α->Prop} {f:α->Option β} {Q:β->Prop} (h:Def o P) (k:∀ a,P a->Def (f a) Q):Def (o.bind f) Q:=by
 obtain ⟨a,rfl,h⟩:=h
 exact k a h
theorem Def.s {α:Type} {a:α} {Q:α->Prop} (h:Q a):Def (some a) Q:=⟨a,rfl,h⟩
theorem Def.of {α:Type} {o:Option α} {a:α} {Q:α->Prop} (e:o=some a) (h:Q a):Def o Q:=⟨a,e,h⟩
theorem Def.c {α:Type} {b:Bool} {x y:Option α} {Q:α->Prop} (h:b=true->Def x Q) (k:b=false->Def y Q):Def (bif b then x else y) Q:=by
 cases b
 ·exact k rfl
 ·exact h rfl
theorem Def.ck {b:Bool} (h:b=true):Def (Go.Sw.ck b) (λ_=>True):=⟨(),ckT h,trivial⟩
theorem Def.lt {α β:Type} {e:α} {f:α->Option β} {Q:β->Prop} (k:Def (f e) Q):Def (Go.Sw.lt e f) Q:=k
theorem Def.mono {α:Type} {o:Option α} {P Q:α->Prop} (h:Def o P) (k:∀ a,P a->Q a):Def o Q:=by
 obtain ⟨a,e,h⟩:=h
 exact ⟨a,e,k a h⟩
theorem Def.get {α:Type} {o:Option α} {P:α->Prop} (d:α) (h:Def o P):o=some (o.getD d)/\P (o.getD d):=by
 obtain ⟨a,rfl,h⟩:=h
 exact ⟨rfl,h⟩
theorem Def.loop {X Y:Type} {step:X->Option (X ⊕ Y)} {s:X} {Q:Y->Prop} (I:X->Prop) (m:X->Nat)
  (h:∀ s,I s->Def (step s) (λr=>match r with | .inl s'=>I s'/\m s'<m s | .inr r=>Q r)) (h0:I s) (hm:m s<2 ^ 64):Def (loopT step FU s) Q:=by
 refine loopT_inv I m Q (λs hs=>?_) FU s h0 (lt_FU hm)
 obtain ⟨r,e,hr⟩:=h s hs
 cases r with
 | inl s'=>exact .inl ⟨s',e,hr.1,hr.2⟩
 | inr r=>exact .inr ⟨r,e,hr⟩
theorem Def.app {α:Type} {b:Nat} {l m:List α} (h:(l.length+m.length)*b<=140737488355328):Def (appL b l m) (λr=>r=l++m):=⟨_,appL_eq h,rfl⟩
theorem Def.idx {α:Type} {l:List α} {i:Int} (h0:0<=i) (h:i<l.length):Def (Go.Sw.idx l i) (λr=>r∈l):=by
 obtain ⟨n,rfl⟩:=Int.eq_ofNat_of_zero_le h0
 exact ⟨_,idx_eq (by omega),List.getElem_mem _⟩
theorem Def.sub {α:Type} {l:List α} {a b:Int} (h0:0<=a) (h1:a<=b) (h2:b<=l.length):Def (Go.Sw.sub l a b) (λr=>r=(l.drop a.toNat).take (b.toNat - a.toNat)):=by
 obtain ⟨n,rfl⟩:=Int.eq_ofNat_of_zero_le h0
 obtain ⟨m,rfl⟩:=Int.eq_ofNat_of_zero_le (by omega:0<=b)
 exact ⟨_,sub_eq (by omega) (by omega),rfl⟩
theorem Def.ixN {n:Nat} {i:Int} (h0:0<=i) (h:i<n):Def (Go.Sw.ixN n i) (λj=>j=i.toNat/\j<n):=by
 refine ⟨i.toNat,?_,rfl,by omega⟩
 simp [Go.Sw.ixN,h0,h]
theorem Def.upd {α:Type} {l:List α} {j:Nat} {u:α} (h:j<l.length):Def (updN l j u) (λr=>r=l.set j u):=⟨_,by simp [updN,h],rfl⟩
theorem Def.at {α:Type} {l:List α} {j:Nat} (h:j<l.length):Def (l[j]?) (λr=>r∈l):=⟨l[j],by simp [h],List.getElem_mem _⟩
theorem Def.mkN {n:Int} (h0:0<=n) (h:n<2 ^ 40):Def (mkN 1 n) (λj=>j=n.toNat):=⟨n.toNat,by unfold Go.Sw.mkN;rw [if_pos ⟨h0,by omega⟩],rfl⟩
theorem beqT {a b:Nat} (h:a=b):Nat.beq a b=true:=by subst h;exact Nat.beq_refl a
theorem bleT {a b:Nat} (h:a<=b):Nat.ble a b=true:=Nat.ble_eq.mpr h
end Go.Sw
namespace Go.Proofs.TT
open Go Go.Sw
set_option maxRecDepth 100000
theorem sha_def (b:List UInt8) (h:b.length<2 ^ 40):Def (ref1_Sum256 b) (λr=>r.length=32):=Def.of (ref_sha b h) (sha_len b)
theorem mac_def (key b:List UInt8) (hk:key.length<2 ^ 30) (hb:b.length<2 ^ 30):Def (ref2_Mac key b) (λr=>r.length=32):=by
 unfold ref2_Mac
 refine Def.bd (P:=λk=>k.length<=64) ?_ (λk hk=>?_)
 ·refine Def.c (λ_=>?_) (λh=>Def.s (by simp at h;omega))
  refine Def.bd (sha_def key (by omega)) (λr hr=>Def.s (by omega))
 refine Def.bd (Def.mkN (by decide) (by decide)) (λn hn=>?_)
 subst hn
 refine Def.bd (Def.mkN (by decide) (by decide)) (λn hn=>?_)
 subst hn
 refine Def.bd (P:=λr=>r.1.length=64/\r.2.length=64) ?_ (λr hr=>?_)
 ·refine Def.loop (λs=>0<=s.1/\s.1<=64/\s.2.1.length=64/\s.2.2.length=64) (λs=>(64 - s.1).toNat) (λs hs=>?_) ⟨by decide,by decide,by simp,by simp⟩ (by decide)
  obtain ⟨i,u,v⟩:=s
  obtain ⟨h0,h1,h2,h3⟩:=hs
  simp only at h0 h1 h2 h3
  unfold ref2_Mac_l1
  refine Def.c (λh=>?_) (λh=>Def.s ⟨h2,h3⟩)
  rw [decide_eq_true_iff] at h
  refine Def.bd (P:=λ_=>True) ?_ (λx _=>?_)
  ·refine Def.c (λh=>?_) (λ_=>Def.s trivial)
   rw [decide_eq_true_iff] at h
   exact Def.bd (Def.idx h0 h) (λ_ _=>Def.s trivial)
  refine Def.bd (Def.ixN h0 (by show i<((64:Nat):Int);omega)) (λj hj=>?_)
  refine Def.bd (Def.upd (by have:=hj.2;have e:(64:Int).toNat=64:=rfl;omega)) (λu' hu=>?_)
  refine Def.bd (Def.ixN h0 (by show i<((64:Nat):Int);omega)) (λj hj=>?_)
  refine Def.bd (Def.upd (by have:=hj.2;have e:(64:Int).toNat=64:=rfl;omega)) (λv' hv=>?_)
  refine Def.s ?_
  subst hu hv
  rw [wrapI (by omega) (by omega)]
  simp only [List.length_set]
  omega
 obtain ⟨u,v⟩:=r
 obtain ⟨h1,h2⟩:=hr
 simp only at h1 h2
 refine Def.bd (Def.ck (beqT h1)) (λ_ _=>?_)
 refine Def.bd (Def.ck (bleT (by decide))) (λ_ _=>?_)
 refine Def.bd (Def.ck (beqT h2)) (λ_ _=>?_)
 refine Def.bd (Def.ck (bleT (by decide))) (λ_ _=>?_)
 refine Def.bd (Def.app (by omega)) (λw hw=>?_)
 have hwl:w.length=u.length+b.length:=by rw [hw];simp
 refine Def.bd (sha_def w (by omega)) (λr hr=>?_)
 refine Def.bd (Def.app (by omega)) (λw hw=>?_)
 have hwl:w.length=v.length+r.length:=by rw [hw];simp
 exact Def.bd (sha_def w (by omega)) (λr hr=>Def.s hr)
theorem derive_def (key label ctx:List UInt8) (n:Int) (hk:key.length<2 ^ 30) (hl:label.length<2 ^ 20) (hc:ctx.length<2 ^ 20) (h1:1<=n) (h2:n<=1024):Def (ref2_Derive key label ctx n) (λr=>r.length=n.toNat):=by
 unfold ref2_Derive
 refine Def.bd (P:=λb=>b=false) (Def.c (λh=>?_) (λ_=>Def.s ?_)) (λb hb=>?_)
 ·simp at h;omega
 ·simp;omega
 subst hb
 refine Def.bd (P:=λr=>n<=r.length) ?_ (λr hr=>?_)
 ·refine Def.loop (λs=>s.1.length<=1024+32/\0<=s.2/\s.2<=2 ^ 40 - (n - s.1.length).toNat) (λs=>(n - s.1.length).toNat) (λs hs=>?_) ⟨by simp,by decide,by simp;omega⟩ (by simp;omega)
  obtain ⟨out,i⟩:=s
  obtain ⟨g1,g2,g3⟩:=hs
  simp only at g1 g2 g3
  unfold ref2_Derive_l1
  refine Def.c (λh=>?_) (λh=>Def.s (by simp at h;exact h))
  rw [decide_eq_true_iff] at h
  refine Def.bd (P:=λr=>r.length=4) (Def.s rfl) (λa ha=>?_)
  refine Def.bd (Def.app (by omega)) (λb hb=>?_)
  have hbl:b.length=a.length+label.length:=by rw [hb];simp
  refine Def.bd (Def.app (by simp;omega)) (λc hcc=>?_)
  have hcl:c.length=b.length+1:=by rw [hcc];simp
  refine Def.bd (Def.app (by omega)) (λd hd=>?_)
  have hdl:d.length=c.length+ctx.length:=by rw [hd];simp
  refine Def.bd (P:=λr=>r.length=4) (Def.s rfl) (λe he=>?_)
  refine Def.bd (Def.app (by omega)) (λf hf=>?_)
  have hfl:f.length=d.length+e.length:=by rw [hf];simp
  refine Def.bd (mac_def key f hk (by omega)) (λg hg=>?_)
  refine Def.bd (Def.app (by omega)) (λo ho=>?_)
  have hol:o.length=out.length+g.length:=by rw [ho];simp
  refine Def.s ?_
  rw [wrapI (by omega) (by omega)]
  simp only
  omega
 refine Def.bd (Def.sub (by decide) (by omega) hr) (λx hx=>Def.s ?_)
 rw [hx];simp;omega
end Go.Proofs.TT
