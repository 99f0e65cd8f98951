/- AppraiseQuote (law 37: the program and the reference say the same of a quote, or give the same error) is proved for every input, under no condition of ours; this text is a part of that proof. -/
import Derived.Test.YteadpnddgpfbdaaGreatDoorZ11
set_option linter.all false
namespace Go.Proofs.TT
open Go Go.Sw
set_option maxRecDepth 100000
def ls (seed:List UInt8):List UInt8:=(ref7_leafSeed seed 1).getD []
theorem ls_eq (seed:List UInt8) (h:seed.length<2 ^ 30):ref7_leafSeed seed 1=some (ls seed)/\(ls seed).length=32:=by
 have:Def (ref7_leafSeed seed 1) (λr=>r.length=32):=by
  unfold ref7_leafSeed
  exact Def.bd (derive_def seed _ _ 32 h (by simp) (by simp) (by decide) (by decide)) (λr hr=>Def.s hr)
 exact Def.get [] this
def stt (s:List UInt8) (leaf c:Nat):List UInt8:=(ref5_start s (leaf:Int) (c:Int)).getD []
theorem stt_eq (s:List UInt8) (leaf c:Nat) (h:s.length<2 ^ 30):ref5_start s (leaf:Int) (c:Int)=some (stt s leaf c)/\(stt s leaf c).length=16:=by
 have:Def (ref5_start s (leaf:Int) (c:Int)) (λr=>r.length=16):=by
  unfold ref5_start
  exact Def.bd (derive_def s _ _ 16 h (by simp) (by simp) (by decide) (by decide)) (λr hr=>Def.s hr)
 exact Def.get [] this
def walkT (s:List UInt8) (leaf:Nat) (d:Nat->Nat):Nat->List UInt8
 | 0=>[]
 | i+1=>walkT s leaf d i++chn leaf i 0 (stt s leaf i) (d i)
theorem walkT_len (s:List UInt8) (leaf:Nat) (d:Nat->Nat) (h:s.length<2 ^ 30):∀ i,(walkT s leaf d i).length=16*i
 | 0=>rfl
 | i+1=>by
  have h1:=walkT_len s leaf d h i
  have h2:=chn_len leaf i 0 (stt s leaf i) (stt_eq s leaf i h).2 (d i)
  simp only [walkT,List.length_append,h1,h2];omega
def pk (s:List UInt8) (leaf:Nat):List UInt8:=(hs 2 [[u8 (leaf:Int)],walkT s leaf (λ_=>15) 35]).take 16
theorem pk_len (s:List UInt8) (leaf:Nat):(pk s leaf).length=16:=t16_len _ _
theorem ref_Public (s:List UInt8) (leaf:Nat) (h:s.length<2 ^ 30) (hl:leaf<=255):ref5_Public s (leaf:Int)=some (pk s leaf):=by
 unfold ref5_Public
 refine bd (a:=false) (cf (nneg leaf) (congrArg some (by simp;omega))) ?_
 refine cf rfl ?_
 refine bd (a:=walkT s leaf (λ_=>15) 35) ?_ ?_
 ·refine loopT_run 35 (λi=>(walkT s leaf (λ_=>15) i,(i:Int))) rfl (λi hi=>?_) ?_ (lt_FU (by omega))
  ·have h1:=walkT_len s leaf (λ_=>15) h i
   obtain ⟨e,h2⟩:=stt_eq s leaf i h
   have h3:=chn_len leaf i 0 (stt s leaf i) h2 15
   unfold ref5_Public_l1
   refine ct (dlt (b:=35) hi) ?_
   refine bd e ?_
   refine bd (a:=chn leaf i 0 (stt s leaf i) 15) (ref_steps leaf i 0 15 _ h2 (by omega) (by omega)) ?_
   refine bd (appL_eq (by omega)) ?_
   rw [wrapS (show i<2 ^ 40 by omega)]
   rfl
  ·generalize walkT s leaf (λ_=>15) 35=S
   rfl
 ·refine bd (a:=pk s leaf) ?_ rfl
  have h1:=walkT_len s leaf (λ_=>15) h 35
  unfold ref5_value
  refine bd (ref_Hash _ _ (by rw [tot2,h1];simp)) ?_
  exact bd (sub16 _ _) rfl
theorem ref_leaves (seed:List UInt8) (h:seed.length<2 ^ 30):ref7_leaves seed 1=some [pk (ls seed) 0,pk (ls seed) 1]:=by
 obtain ⟨e,h2⟩:=ls_eq seed h
 unfold ref7_leaves
 refine bd e ?_
 refine bd ?_ rfl
 generalize ls seed=s at h2
 refine loopT_run 2 (λi=>([pk s 0,pk s 1].take i,(i:Int))) rfl (λi hi=>?_) ?_ (lt_FU (by decide))
 ·unfold ref7_leaves_l1
  refine ct (dlt (b:=2) hi) ?_
  refine bd (ref_Public s i (by omega) (by omega)) ?_
  refine bd (appL_eq (by simp;omega)) ?_
  rw [wrapS (show i<2 ^ 40 by omega)]
  rcases i with _ | _ | i
  ·rfl
  ·rfl
  ·omega
 ·rfl
theorem ref_up (p q:List UInt8) (hp:p.length=16) (hq:q.length=16):ref6_up 0 [p,q]=some [par 0 0 p q]:=by
 unfold ref6_up
 refine bd ?_ rfl
 refine loopT_run 1 (λi=>([par 0 0 p q].take i,(i:Int))) rfl (λi hi=>?_) ?_ (lt_FU (by decide))
 ·have:i=0:=by omega
  subst this
  unfold ref6_up_l1
  refine ct rfl ?_
  refine bd (a:=p) rfl ?_
  refine bd (a:=q) rfl ?_
  refine bd (ref_par 0 0 p q hp hq) ?_
  exact bd (appL_eq (by simp)) rfl
 ·rfl
theorem ref_Root (p q:List UInt8) (hp:p.length=16) (hq:q.length=16):ref6_Root [p,q]=some (par 0 0 p q):=by
 unfold ref6_Root
 refine bd (a:=true) rfl ?_
 refine cf rfl ?_
 refine bd (a:=[par 0 0 p q]) ?_ ?_
 ·refine loopT_run 1 (λi=>(if i=0 then [p,q] else [par 0 0 p q],(i:Int))) rfl (λi hi=>?_) ?_ (lt_FU (by decide))
  ·have:i=0:=by omega
   subst this
   unfold ref6_Root_l1
   refine ct rfl ?_
   exact bd (ref_up p q hp hq) rfl
  ·rfl
 ·refine bd (a:=par 0 0 p q) rfl ?_
  exact bd (copy_eq _ (by
              have:(par 0 0 p q).length=16:=t16_len _ _
              omega)) rfl
def pub1 (seed:List UInt8):List UInt8:=[u8 1]++par 0 0 (pk (ls seed) 0) (pk (ls seed) 1)
theorem pub1_len (seed:List UInt8):(pub1 seed).length=17:=by
 have:(par 0 0 (pk (ls seed) 0) (pk (ls seed) 1)).length=16:=t16_len _ _
 simp [pub1,this]
theorem ref_Public1 (seed:List UInt8) (h:seed.length<2 ^ 30):ref7_Public seed 1=some (pub1 seed):=by
 have hl:(par 0 0 (pk (ls seed) 0) (pk (ls seed) 1)).length=16:=t16_len _ _
 unfold ref7_Public
 refine bd (a:=false) rfl ?_
 refine cf rfl ?_
 refine bd (ref_leaves seed h) ?_
 refine bd (ref_Root _ _ (pk_len _ _) (pk_len _ _)) ?_
 exact bd (appL_eq (by rw [hl];decide)) rfl
theorem ref_Sign (s:List UInt8) (leaf:Nat) (m:List UInt8) (h:s.length<2 ^ 30) (hl:leaf<=255) (hm:m.length<2 ^ 31):ref5_Sign s (leaf:Int) m=some (walkT s leaf (λi=>(digs m).getD i 0) 35):=by
 have hd:=digs_len m
 have h15:=digs_15 m
 have ed:=ref_Digits m hm
 unfold ref5_Sign
 refine bd (a:=false) (cf (nneg leaf) (congrArg some (by simp;omega))) ?_
 refine cf rfl ?_
 refine bd ed ?_
 generalize digs m=D at hd h15
 refine bd ?_ rfl
 refine loopT_run 35 (λi=>(walkT s leaf (λi=>D.getD i 0) i,(i:Int))) rfl (λi hi=>?_) ?_ (lt_FU (by omega))
 ·have h1:=walkT_len s leaf (λi=>D.getD i 0) h i
  obtain ⟨e,h2⟩:=stt_eq s leaf i h
  have h3:=chn_len leaf i 0 (stt s leaf i) h2 (D.getD i 0)
  have h4:=h15 i hi
  unfold ref5_Sign_l1
  refine ct (dlt (b:=35) hi) ?_
  refine bd (ints_idx (by omega)) ?_
  refine bd e ?_
  refine bd (ref_steps leaf i 0 (D.getD i 0) _ h2 (by omega) (by omega)) ?_
  refine bd (appL_eq (by rw [Nat.sub_zero];omega)) ?_
  rw [wrapS (show i<2 ^ 40 by omega)]
  rfl
 ·generalize walkT s leaf (λi=>D.getD i 0) 35=S
  rfl
theorem ref_Path (p q:List UInt8) (hp:p.length=16) (hq:q.length=16) (leaf:Nat) (hl:leaf<=1):ref6_Path (leaf:Int) [p,q]=some [if leaf=0 then q else p]:=by
 unfold ref6_Path
 have hle:leaf=0∨leaf=1:=by omega
 rcases hle with rfl | rfl
 ·refine bd (a:=false) rfl ?_
  refine cf rfl ?_
  refine bd ?_ rfl
  refine loopT_run 1 (λi=>(0,if i=0 then [] else [q],if i=0 then [p,q] else [par 0 0 p q],(i:Int))) rfl (λi hi=>?_) ?_ (lt_FU (by decide))
  ·have:i=0:=by omega
   subst this
   unfold ref6_Path_l1
   refine ct rfl ?_
   refine bd (a:=q) rfl ?_
   refine bd (copy_eq q (by omega)) ?_
   refine bd (appL_eq (by simp)) ?_
   exact bd (ref_up p q hp hq) rfl
  ·rfl
 ·refine bd (a:=false) rfl ?_
  refine cf rfl ?_
  refine bd ?_ rfl
  refine loopT_run 1 (λi=>(if i=0 then 1 else 0,if i=0 then [] else [p],if i=0 then [p,q] else [par 0 0 p q],(i:Int))) rfl (λi hi=>?_) ?_ (lt_FU (by decide))
  ·have:i=0:=by omega
   subst this
   unfold ref6_Path_l1
   refine ct rfl ?_
   refine bd (a:=p) rfl ?_
   refine bd (copy_eq p (by omega)) ?_
   refine bd (appL_eq (by simp)) ?_
   exact bd (ref_up p q hp hq) rfl
  ·rfl
def sig1 (seed:List UInt8) (leaf:Nat) (m:List UInt8):List UInt8:=([u8 (leaf:Int)]++walkT (ls seed) leaf (λi=>(digs m).getD i 0) 35)++(if leaf=0 then pk (ls seed) 1 else pk (ls seed) 0)
theorem ref_Sign1 (seed:List UInt8) (leaf:Nat) (m:List UInt8) (h:seed.length<2 ^ 30) (hl:leaf<=1) (hm:m.length<2 ^ 31):ref7_Sign seed 1 (leaf:Int) m=some (sig1 seed leaf m):=by
 obtain ⟨e,h2⟩:=ls_eq seed h
 have hw:=walkT_len (ls seed) leaf (λi=>(digs m).getD i 0) (by omega) 35
 unfold ref7_Sign
 refine bd (a:=false) ?_ ?_
 ·refine cf rfl (cf rfl (cf (nneg leaf) (congrArg some ?_)))
  rw [show ishl .i64 1 (IntKind.u64.wrap 1)=2 from rfl,decide_eq_false_iff_not];omega
 refine cf rfl ?_
 refine bd e ?_
 refine bd (ref_Sign (ls seed) leaf m (by omega) (by omega) hm) ?_
 refine bd (appL_eq (by rw [hw];simp)) ?_
 refine bd (ref_leaves seed h) ?_
 refine bd (ref_Path _ _ (pk_len _ _) (pk_len _ _) leaf hl) ?_
 refine bd ?_ rfl
 have hx:(if leaf=0 then pk (ls seed) 1 else pk (ls seed) 0).length=16:=by split<;>exact pk_len _ _
 unfold sig1
 generalize (if leaf=0 then pk (ls seed) 1 else pk (ls seed) 0)=x at hx
 generalize hg:[u8 (leaf:Int)]++walkT (ls seed) leaf (λi=>(digs m).getD i 0) 35=g
 have hgl:g.length=561:=by rw [<- hg,List.length_append,hw];rfl
 refine loopT_run 1 (λi=>(if i=0 then g else g++x,(i:Int))) rfl (λi hi=>?_) ?_ (lt_FU (by decide))
 ·have:i=0:=by omega
  subst this
  unfold ref7_Sign_l1
  refine ct rfl ?_
  refine bd (a:=x) rfl ?_
  exact bd (appL_eq (by simp;omega)) rfl
 ·rfl
theorem sig1_len (seed:List UInt8) (leaf:Nat) (m:List UInt8) (h:seed.length<2 ^ 30):(sig1 seed leaf m).length=577:=by
 obtain ⟨e,h2⟩:=ls_eq seed h
 have hw:=walkT_len (ls seed) leaf (λi=>(digs m).getD i 0) (by omega) 35
 have hx:(if leaf=0 then pk (ls seed) 1 else pk (ls seed) 0).length=16:=by split<;>exact pk_len _ _
 simp only [sig1,List.length_append,hw,hx,List.length_cons,List.length_nil]
theorem chn_add (leaf c:Nat) (x:List UInt8) (d:Nat):∀ k,chn leaf c d (chn leaf c 0 x d) k=chn leaf c 0 x (d+k)
 | 0=>rfl
 | k+1=>by
  have h:=chn_add leaf c x d k
  rw [<- Nat.add_assoc]
  simp only [chn,h,Nat.zero_add]
theorem walk_nod (s:List UInt8) (leaf:Nat) (d:Nat->Nat) (h:s.length<2 ^ 30):∀ n i,i<n->nod (walkT s leaf d n) i=chn leaf i 0 (stt s leaf i) (d i):=by
 intro n
 induction n with
 | zero=>intro i hi;omega
 | succ n ih=>
  intro i hi
  have hl:=walkT_len s leaf d h n
  have hc:=chn_len leaf i 0 (stt s leaf i) (stt_eq s leaf i h).2 (d i)
  by_cases hin:i<n
  ·rw [<- ih i hin]
   unfold nod
   show List.take 16 (List.drop (16*i) (walkT s leaf d n++_))=_
   rw [List.drop_append_of_le_length (by omega),List.take_append_of_le_length (by simp;omega)]
  ·have:i=n:=by omega
   subst this
   unfold nod
   show List.take 16 (List.drop (16*i) (walkT s leaf d i++_))=_
   rw [<- hl,List.drop_left,List.take_of_length_le (by omega)]
theorem ends_pub (s:List UInt8) (leaf:Nat) (D:List Nat) (h:s.length<2 ^ 30) (h15:∀ i,i<35->D.getD i 0<=15):∀ n,n<=35->ends leaf D (walkT s leaf (λi=>D.getD i 0) 35) n=walkT s leaf (λ_=>15) n
 | 0,_=>rfl
 | n+1,hn=>by
  have ih:=ends_pub s leaf D h h15 n (by omega)
  show ends leaf D (walkT s leaf (λi=>D.getD i 0) 35) n++chn leaf n (D.getD n 0) (nod (walkT s leaf (λi=>D.getD i 0) 35) n) (15 - D.getD n 0)=walkT s leaf (λ_=>15) n++chn leaf n 0 (stt s leaf n) 15
  rw [ih,walk_nod s leaf _ h 35 n (by omega),chn_add]
  have:=h15 n (by omega)
  rw [show D.getD n 0+(15 - D.getD n 0)=15 by omega]
theorem recov_sign (s:List UInt8) (leaf:Nat) (m:List UInt8) (h:s.length<2 ^ 30):recov leaf m (walkT s leaf (λi=>(digs m).getD i 0) 35)=pk s leaf:=by
 unfold recov pk
 rw [ends_pub s leaf (digs m) h (digs_15 m) 35 (by omega)]
theorem parts (leaf:Nat) (W x:List UInt8) (hw:W.length=560) (hx:x.length=16) (hl:leaf<=1) :
  (([u8 (leaf:Int)]++W)++x).length=577/\((([u8 (leaf:Int)]++W)++x).getD 0 0).toNat=leaf/\((([u8 (leaf:Int)]++W)++x).drop 1).take 560=W/\pths (([u8 (leaf:Int)]++W)++x) 1=[x]:=by
 refine ⟨by simp [hw,hx],?_,?_,?_⟩
 ·show (u8 (leaf:Int)).toNat=leaf
  rw [u8_toNat];omega
 ·show List.take 560 (W++x)=W
  rw [List.take_append_of_le_length (by omega),List.take_of_length_le (by omega)]
 ·show [((([u8 (leaf:Int)]++W)++x).drop (561+16*0)).take 16]=_
  rw [List.drop_append_of_le_length (by simp [hw]),List.drop_of_length_le (by simp [hw]),List.nil_append,List.take_of_length_le (by omega)]
theorem vrf_sign (seed:List UInt8) (leaf:Nat) (m:List UInt8) (h:seed.length<2 ^ 30) (hl:leaf<=1):vrf (pub1 seed) m (sig1 seed leaf m)=((leaf:Int),true):=by
 obtain ⟨e,h2⟩:=ls_eq seed h
 have hw:=walkT_len (ls seed) leaf (λi=>(digs m).getD i 0) (by omega) 35
 have hr:=recov_sign (ls seed) leaf m (by omega)
 have hp:=pub1_len seed
 have e0:((pub1 seed).getD 0 0).toNat=1:=rfl
 have e2:(pub1 seed).drop 1=par 0 0 (pk (ls seed) 0) (pk (ls seed) 1):=rfl
 have hx:(if leaf=0 then pk (ls seed) 1 else pk (ls seed) 0).length=16:=by split<;>exact pk_len _ _
 unfold vrf sig1
 generalize walkT (ls seed) leaf (λi=>(digs m).getD i 0) 35=W at hw hr ⊢
 obtain ⟨p1,p2,p3,p4⟩:=parts leaf W _ hw hx hl
 rw [e0,p2,p3,p4,e2,hr,if_neg (by omega),if_neg (by omega)]
 have hle:leaf=0∨leaf=1:=by omega
 rcases hle with rfl | rfl<;>exact if_pos rfl
end Go.Proofs.TT
namespace Go.Proofs.TT
open Go Go.Sw
set_option maxRecDepth 100000
theorem rotl_def (x n:Int) (h0:0<=n):Def (ref1_rotl x n) (λ_=>True):=by
 unfold ref1_rotl
 refine Def.bd (Def.ck (by simpa using h0)) (λ_ _=>?_)
 exact Def.lt (Def.s trivial)
theorem s1_l1 (b:List UInt8) (at':Nat) (h:at'+64<=b.length) (hb:b.length<2 ^ 42):Def (loopT (ref1_Sum1_l1 b (at':Int)) FU (0,List.replicate 80 0)) (λr=>r.length=80):=by
 refine Def.loop (λs=>0<=s.1/\s.1<=80/\s.2.length=80) (λs=>(80 - s.1).toNat) (λs hs=>?_) ⟨by decide,by decide,by simp⟩ (by decide)
 obtain ⟨t,w⟩:=s
 obtain ⟨h0,h1,h2⟩:=hs
 simp only at h0 h1 h2
 unfold ref1_Sum1_l1
 refine Def.c (λh=>?_) (λ_=>Def.s h2)
 rw [decide_eq_true_iff] at h
 refine Def.bd (P:=λr=>r.length=80) ?_ (λw' hw=>Def.s ?_)
 ·refine Def.c (λh16=>?_) (λh16=>?_)
  ·rw [decide_eq_true_iff] at h16
   rw [wrapI (by omega) (by omega)]
   refine Def.bd (Def.sub (by omega) (by omega) (by omega)) (λx hx=>?_)
   have hxl:x.length=64:=by rw [hx];simp;omega
   obtain ⟨n,rfl⟩:=Int.eq_ofNat_of_zero_le h0
   refine Def.bd (P:=λ_=>True) (Def.of (word_eq x n (by omega) (by omega)) trivial) (λv _=>?_)
   refine Def.bd (Def.ixN h0 (by show ((n:Nat):Int)<((80:Nat):Int);omega)) (λj hj=>?_)
   exact Def.bd (Def.upd (by omega)) (λr hr=>Def.s (by rw [hr];simpa using h2))
  ·rw [decide_eq_false_iff_not] at h16
   have e1:∀ k:Int,3<=k->k<=16->IntKind.i64.wrap (t - k)=t - k:=λk hk hk2=>wrapI (by omega) (by omega)
   rw [e1 3 (by decide) (by decide),e1 8 (by decide) (by decide),e1 14 (by decide) (by decide),e1 16 (by decide) (by decide)]
   refine Def.bd (Def.ixN (by omega) (by show _<((80:Nat):Int);omega)) (λj hj=>?_)
   refine Def.bd (Def.at (by omega)) (λ_ _=>?_)
   refine Def.bd (Def.ixN (by omega) (by show _<((80:Nat):Int);omega)) (λj hj=>?_)
   refine Def.bd (Def.at (by omega)) (λ_ _=>?_)
   refine Def.bd (Def.ixN (by omega) (by show _<((80:Nat):Int);omega)) (λj hj=>?_)
   refine Def.bd (Def.at (by omega)) (λ_ _=>?_)
   refine Def.bd (Def.ixN (by omega) (by show _<((80:Nat):Int);omega)) (λj hj=>?_)
   refine Def.bd (Def.at (by omega)) (λ_ _=>?_)
   refine Def.lt ?_
   refine Def.bd (rotl_def _ _ (by decide)) (λ_ _=>?_)
   refine Def.bd (Def.ixN h0 (by show _<((80:Nat):Int);omega)) (λj hj=>?_)
   exact Def.bd (Def.upd (by omega)) (λr hr=>Def.s (by rw [hr];simpa using h2))
 ·rw [wrapI (by omega) (by omega)]
  simp only
  omega
theorem s1_l2 (w:List Int) (hw:w.length=80) (a b c d e:Int):Def (loopT (ref1_Sum1_l2 w) FU (a,b,c,d,e,0)) (λ_=>True):=by
 refine Def.loop (λs=>0<=s.2.2.2.2.2/\s.2.2.2.2.2<=80) (λs=>(80 - s.2.2.2.2.2).toNat) (λs hs=>?_) ⟨Int.le_refl 0,(by decide:(0:Int)<=80)⟩ (by simp)
 obtain ⟨a,b,c,d,e,t⟩:=s
 obtain ⟨h0,h1⟩:=hs
 simp only at h0 h1
 unfold ref1_Sum1_l2
 refine Def.c (λh=>?_) (λ_=>Def.s trivial)
 rw [decide_eq_true_iff] at h
 refine Def.bd (P:=λ_=>True) ?_ (λx _=>?_)
 ·exact Def.c (λ_=>Def.lt (Def.s trivial)) (λ_=>Def.c (λ_=>Def.s trivial) (λ_=>Def.c (λ_=>Def.lt (Def.s trivial)) (λ_=>Def.s trivial)))
 obtain ⟨f,k⟩:=x
 refine Def.bd (rotl_def _ _ (by decide)) (λ_ _=>?_)
 refine Def.lt ?_
 refine Def.bd (Def.ixN h0 (by show _<((80:Nat):Int);omega)) (λj hj=>?_)
 refine Def.bd (Def.at (by omega)) (λ_ _=>?_)
 refine Def.lt ?_
 refine Def.bd (rotl_def _ _ (by decide)) (λ_ _=>Def.s ?_)
 rw [wrapI (by omega) (by omega)]
 simp only
 omega
theorem sum1_def (b:List UInt8) (hb:b.length<2 ^ 40):Def (ref1_Sum1 b) (λr=>r.length=20):=by
 have hz:zs b.length<64:=by unfold zs;omega
 have h1:=padS_len b
 have h2:=padS_mod b
 unfold ref1_Sum1
 refine Def.bd (P:=λr=>r=padS b) (Def.of (ref_pad_eq b hb) rfl) (λp hp=>?_)
 rw [<- hp] at h1 h2
 refine Def.bd (P:=λr=>r.length=5) ?_ (λr hr=>?_)
 ·refine Def.loop (λs=>s.1.length=5/\∃ k:Nat,s.2=((64*k:Nat):Int)/\64*k<=p.length) (λs=>(p.length - s.2).toNat) (λs hs=>?_) ⟨rfl,0,rfl,by omega⟩ (by simp;omega)
  obtain ⟨h,at'⟩:=s
  obtain ⟨g1,k,g2,g3⟩:=hs
  simp only at g1 g2
  subst g2
  unfold ref1_Sum1_l3
  refine Def.c (λhlt=>?_) (λ_=>Def.s g1)
  rw [decide_eq_true_iff] at hlt
  refine Def.bd (s1_l1 p (64*k) (by omega) (by omega)) (λw hw=>?_)
  refine Def.bd (Def.idx (by decide) (by omega)) (λ_ _=>?_)
  refine Def.bd (Def.idx (by decide) (by omega)) (λ_ _=>?_)
  refine Def.bd (Def.idx (by decide) (by omega)) (λ_ _=>?_)
  refine Def.bd (Def.idx (by decide) (by omega)) (λ_ _=>?_)
  refine Def.bd (Def.idx (by decide) (by omega)) (λ_ _=>?_)
  refine Def.bd (s1_l2 w hw _ _ _ _ _) (λx _=>?_)
  obtain ⟨a,b,c,d,e⟩:=x
  refine Def.bd (Def.idx (by decide) (by omega)) (λ_ _=>?_)
  refine Def.bd (Def.idx (by decide) (by omega)) (λ_ _=>?_)
  refine Def.bd (Def.idx (by decide) (by omega)) (λ_ _=>?_)
  refine Def.bd (Def.idx (by decide) (by omega)) (λ_ _=>?_)
  refine Def.bd (Def.idx (by decide) (by omega)) (λ_ _=>?_)
  refine Def.s ?_
  rw [wrapI (by omega) (by omega)]
  refine ⟨⟨rfl,k+1,by simp only;omega,by omega⟩,?_⟩
  simp only
  omega
 ·refine Def.bd (P:=λx=>x.length=20) (Def.of (bytes_eq r (by omega)) (by rw [fm_len];omega)) (λx hx=>Def.s hx)
theorem sum_def (a:Int) (b:List UInt8) (hb:b.length<2 ^ 40):Def (ref1_Sum a b) (λr=>r.length<=32/\(a=0->r.length=20)/\(a=1->r.length=32)):=by
 unfold ref1_Sum
 refine Def.c (λh=>?_) (λh=>Def.c (λh1=>?_) (λh1=>Def.s ?_))
 ·rw [beq_iff_eq] at h
  refine Def.bd (sum1_def b hb) (λr hr=>Def.s ?_)
  omega
 ·rw [beq_iff_eq] at h1
  refine Def.bd (sha_def b hb) (λr hr=>Def.s ?_)
  omega
 ·simp at h h1
  simp [h,h1]
theorem make_def (reg kind active:Int) (data:List UInt8) (hd:data.length<2 ^ 40):Def (ref25_Make reg kind active data) (λe=>e.Register=reg/\e.Kind=kind/\e.Data=data/\e.Digests.length=2):=by
 unfold ref25_Make
 refine Def.bd (P:=λr=>r.length=2) ?_ (λr hr=>?_)
 ·refine Def.loop (λs=>0<=s.1/\s.1<=2/\s.2.length=2) (λs=>(2 - s.1).toNat) (λs hs=>?_) ⟨by decide,by decide,rfl⟩ (by decide)
  obtain ⟨a,v⟩:=s
  obtain ⟨h0,h1,h2⟩:=hs
  simp only at h0 h1 h2
  unfold ref25_Make_l1
  refine Def.c (λh=>?_) (λ_=>Def.s h2)
  rw [decide_eq_true_iff] at h
  refine Def.bd (P:=λr=>r.length=2) ?_ (λw hw=>Def.s ?_)
  ·refine Def.bd (P:=λ_=>True) ?_ (λb _=>?_)
   ·refine Def.bd (P:=λ_=>True) (Def.lt (Def.s trivial)) (λ_ _=>?_)
    exact Def.c (λ_=>Def.s trivial) (λ_=>Def.s trivial)
   refine Def.c (λ_=>?_) (λ_=>Def.s h2)
   refine Def.bd (sum_def a data hd) (λ_ _=>?_)
   refine Def.bd (Def.ixN h0 (by show _<((2:Nat):Int);omega)) (λj hj=>?_)
   exact Def.bd (Def.upd (by omega)) (λr hr=>Def.s (by rw [hr];simpa using h2))
  ·rw [wrapI (by omega) (by omega)]
   simp only
   omega
 refine Def.bd (Def.ck (beqT hr)) (λ_ _=>Def.s ⟨rfl,rfl,rfl,hr⟩)
end Go.Proofs.TT
namespace Go.Proofs.TT
open Go Go.Sw
set_option maxRecDepth 100000
def CdOk (c:sealwrightdraw_Codes):Prop:=c.B.length<=240/\0<=c.At/\c.At<=c.B.length
theorem new_def (b:List UInt8) (n:Int) (h0:0<=n) (h:n<=240):Def (draw_New b n) CdOk:=by
 unfold draw_New
 refine Def.bd (P:=λr=>r.length<=240) ?_ (λr hr=>Def.s ⟨hr,Int.le_refl 0,by simp⟩)
 refine Def.c (λhl=>?_) (λhl=>Def.s ?_)
 ·rw [decide_eq_true_iff] at hl
  refine Def.bd (Def.sub (by decide) h0 (by omega)) (λx hx=>Def.s ?_)
  rw [hx];simp;omega
 ·rw [decide_eq_false_iff_not] at hl
  omega
theorem next_def (c:sealwrightdraw_Codes) (n:Int) (hc:CdOk c) (hn:0<n):Def (draw_Codes_Next c n) (λr=>0<=r.1/\r.1<n/\CdOk r.2):=by
 obtain ⟨h1,h2,h3⟩:=hc
 unfold draw_Codes_Next
 refine Def.c (λh=>Def.s ⟨Int.le_refl 0,hn,h1,h2,h3⟩) (λh=>?_)
 rw [decide_eq_false_iff_not] at h
 rw [wrapI (n:=c.At+1) (by omega) (by omega),wrapI (n:=c.At+1 - 1) (by omega) (by omega)]
 refine Def.bd (Def.idx (by omega) (by omega)) (λv _=>?_)
 refine Def.bd (Def.ck (by simp;omega)) (λ_ _=>?_)
 refine Def.s ?_
 rw [wb]
 refine ⟨?_,?_,h1,by simp only;omega,by simp only;omega⟩
 ·rw [Int.tmod_eq_emod_of_nonneg (by omega)];exact Int.emod_nonneg _ (by omega)
 ·rw [Int.tmod_eq_emod_of_nonneg (by omega)];exact Int.emod_lt_of_pos _ hn
def LnOk (l:List UInt8):Prop:=1<=l.length/\l.length<=8/\∀ x∈l,32<=x.toNat/\x.toNat<=126
theorem line_def (c:sealwrightdraw_Codes) (hc:CdOk c):Def (draw_Codes_Line c) (λr=>LnOk r.1/\CdOk r.2):=by
 unfold draw_Codes_Line
 refine Def.bd (next_def c 6 hc (by decide)) (λr hr=>?_)
 obtain ⟨v,x⟩:=r
 obtain ⟨h0,h1,h2⟩:=hr
 simp only at h0 h1 h2
 refine Def.bd (Def.ixN h0 (by show _<((6:Nat):Int);omega)) (λj hj=>?_)
 refine Def.bd (Def.at (by have:=hj.2;simpa using this)) (λl hl=>?_)
 have hl':LnOk l:=by
  simp only [List.mem_cons,List.not_mem_nil,or_false] at hl
  rcases hl with rfl | rfl | rfl | rfl | rfl | rfl<;>(unfold LnOk;decide)
 refine Def.bd (Def.ck (bleT (by have:=hl'.2.1;omega))) (λ_ _=>?_)
 exact Def.s ⟨hl',h2⟩
def flat (L:List (List UInt8)):List UInt8:=L.flatMap λl=>l++[10]
theorem flat_len (L:List (List UInt8)) (h:∀ l∈L,LnOk l):(flat L).length<=9*L.length:=by
 induction L with
 | nil=>simp [flat]
 | cons a r ih=>
  have h1:=(h a (by simp)).2.1
  have h2:=ih (λl hl=>h l (by simp [hl]))
  simp only [flat,List.flatMap_cons,List.length_append,List.length_cons,List.length_nil] at h2 ⊢
  omega
theorem payload_def (c:sealwrightdraw_Codes) (hc:CdOk c):Def (draw_Codes_Payload c) (λr=>(∃ L,r.1=flat L/\1<=L.length/\L.length<=4/\∀ l∈L,LnOk l)/\CdOk r.2):=by
 unfold draw_Codes_Payload
 refine Def.bd (next_def c 4 hc (by decide)) (λr hr=>?_)
 obtain ⟨v,x⟩:=r
 obtain ⟨h0,h1,h2⟩:=hr
 simp only at h0 h1 h2
 refine Def.bd (P:=λr=>(∃ L,r.1=flat L/\1<=L.length/\L.length<=4/\∀ l∈L,LnOk l)/\CdOk ⟨r.2.1,r.2.2⟩) ?_ (λr hr=>Def.s hr)
 refine Def.loop (λs=>(∃ L,s.1=flat L/\(L.length:Int)+s.2.1=1+v/\∀ l∈L,LnOk l)/\0<=s.2.1/\CdOk ⟨s.2.2.1,s.2.2.2⟩) (λs=>s.2.1.toNat) (λs hs=>?_) ?_ ?_
 ·obtain ⟨b,n,B,A⟩:=s
  obtain ⟨⟨L,g1,g2,g3⟩,g4,g5⟩:=hs
  simp only at g1 g2 g4 g5
  have hfl:=flat_len L g3
  unfold draw_Codes_Payload_l1
  refine Def.c (λh=>?_) (λh=>Def.s ?_)
  ·rw [decide_eq_true_iff] at h
   refine Def.bd (line_def _ g5) (λr hr=>?_)
   obtain ⟨l,y⟩:=r
   obtain ⟨k1,k2⟩:=hr
   simp only at k1 k2
   refine Def.bd (Def.app (by have:=k1.2.1;rw [g1];omega)) (λb1 hb1=>?_)
   refine Def.bd (Def.app (by have:=k1.2.1;rw [hb1,g1];simp;omega)) (λb2 hb2=>Def.s ?_)
   rw [wrapI (by omega) (by omega)]
   refine ⟨⟨⟨L++[l],?_,by simp only [List.length_append,List.length_cons,List.length_nil];omega,?_⟩,by simp only;omega,k2⟩,by simp only;omega⟩
   ·simp only [hb2,hb1,g1,flat,List.flatMap_append,List.flatMap_cons,List.flatMap_nil,List.append_nil,List.append_assoc]
   ·intro z hz
    rw [List.mem_append] at hz
    rcases hz with hz | hz
    ·exact g3 z hz
    ·simp at hz;subst hz;exact k1
  ·rw [decide_eq_false_iff_not] at h
   exact ⟨⟨L,g1,by omega,by omega,g3⟩,g5⟩
 ·refine ⟨⟨[],rfl,?_,by simp⟩,?_,h2⟩
  ·rw [wrapI (by omega) (by omega)];simp
  ·rw [wrapI (by omega) (by omega)];simp only;omega
 ·rw [wrapI (by omega) (by omega)];simp only;omega
theorem of_drop {α:Type} {P:List α} {i:Nat} {c:α} {t:List α} (h:P.drop i=c :: t):idx P (i:Int)=some c/\P.drop (i+1)=t/\i<P.length:=by
 have hi:i<P.length:=by
  apply Decidable.byContradiction
  intro hn
  rw [List.drop_eq_nil_of_le (by omega)] at h
  cases h
 rw [drop_cons hi] at h
 injection h with h1 h2
 exact ⟨by rw [idx_eq hi,h1],h2,hi⟩
theorem lines_eq (x:api_Image) (L:List (List UInt8)) (hp:x.Payload=flat L) (h4:L.length<=4) (hL:∀ l∈L,LnOk l):ref25_Lines x=some L:=by
 have hfl:=flat_len L hL
 have hpl:x.Payload.length<=36:=by rw [hp];omega
 have hd:Def (loopT (ref25_Lines_l1 x) FU ([],[],0)) (λr=>r=.inr (L,[])):=by
  refine Def.loop (λs=>∃ i:Nat,s.2.2=(i:Int)/\i<=x.Payload.length/\((s.1=L/\s.2.1=[]/\x.Payload.drop i=[])∨∃ suf rest,L=s.1++(s.2.1++suf) :: rest/\x.Payload.drop i=suf++10 :: flat rest)) (λs=>x.Payload.length - s.2.2.toNat) (λs hs=>?_) ?_ ?_
  ·obtain ⟨out,line,i'⟩:=s
   obtain ⟨i,g1,g2,g3⟩:=hs
   simp only at g1 g3
   subst g1
   unfold ref25_Lines_l1
   rcases g3 with ⟨k1,k2,k3⟩ | ⟨suf,rest,k1,k2⟩
   ·refine Def.c (λh=>?_) (λ_=>Def.s (by rw [k1,k2]))
    rw [decide_eq_true_iff] at h
    have:=congrArg List.length k3
    simp at this
    omega
   ·have hmem:line++suf∈L:=by rw [k1];simp
    have hln:=hL _ hmem
    have hout:out.length<4:=by have:=congrArg List.length k1;simp at this;omega
    cases suf with
    | nil=>
     obtain ⟨j1,j2,j3⟩:=of_drop (c:=10) (t:=flat rest) k2
     refine Def.c (λ_=>?_) (λh=>by rw [decide_eq_false_iff_not] at h;omega)
     refine Def.bd (P:=λr=>r=.inr (out++[line],[])) ?_ (λr hr=>?_)
     ·refine Def.bd (P:=λc=>c=10) (Def.of j1 rfl) (λc hc=>?_)
      subst hc
      refine Def.c (λ_=>?_) (λh=>by simp at h)
      rw [List.append_nil] at hln
      refine Def.bd (P:=λb=>b=false) (Def.c (λh=>?_) (λ_=>Def.s ?_)) (λb hb=>?_)
      ·have:=hln.1;simp at h;rw [h] at this;simp at this
      ·simp;omega
      subst hb
      refine Def.bd (Def.app (by simp;omega)) (λo ho=>Def.s (by rw [ho]))
     ·subst hr
      refine Def.s ?_
      rw [wrapS (by omega)]
      refine ⟨⟨i+1,rfl,by omega,?_⟩,by simp only [Int.toNat_natCast];omega⟩
      cases rest with
      | nil=>exact .inl ⟨by simp [k1],rfl,j2⟩
      | cons l r=>
       refine .inr ⟨l,r,?_,?_⟩
       ·simp [k1]
       ·rw [j2];simp [flat]
    | cons c suf=>
     obtain ⟨j1,j2,j3⟩:=of_drop (c:=c) (t:=suf++10 :: flat rest) k2
     have hc:=hln.2.2 c (by simp)
     refine Def.c (λ_=>?_) (λh=>by rw [decide_eq_false_iff_not] at h;omega)
     refine Def.bd (P:=λr=>r=.inr (out,line++[c])) ?_ (λr hr=>?_)
     ·refine Def.bd (P:=λd=>d=c) (Def.of j1 rfl) (λd hd=>?_)
      subst hd
      refine Def.c (λh=>by simp at h;omega) (λ_=>?_)
      refine Def.bd (P:=λb=>b=false) (Def.c (λh=>?_) (λ_=>Def.s ?_)) (λb hb=>?_)
      ·simp at h;omega
      ·simp;omega
      subst hb
      have:=hln.2.1
      refine Def.bd (Def.app (by simp at this ⊢;omega)) (λo ho=>Def.s (by rw [ho]))
     ·subst hr
      refine Def.s ?_
      rw [wrapS (by omega)]
      refine ⟨⟨i+1,rfl,by omega,.inr ⟨suf,rest,by simp [k1],j2⟩⟩,by simp only [Int.toNat_natCast];omega⟩
  ·refine ⟨0,rfl,by omega,?_⟩
   cases L with
   | nil=>exact .inl ⟨rfl,rfl,by rw [hp];rfl⟩
   | cons l r=>exact .inr ⟨l,r,by simp,by rw [hp];simp [flat]⟩
  ·rw [hp];simp;omega
 obtain ⟨r,h1,h2⟩:=hd
 subst h2
 unfold ref25_Lines
 refine bd h1 ?_
 rfl
structure GoodIm (x:api_Image):Prop where
 r1:1<=x.Role
 r4:x.Role<=4
 v0:0<=x.Version
 v1:x.Version<=1000000
 n:ref25_Name x.Name=some true
 nl:x.Name.length<=12
 p:x.Payload.length<=64
 l:x.Role=4->∃ L,ref25_Lines x=some L/\1<=L.length/\L.length<=4/\∀ l∈L,l.length<=8
theorem good_Image (x:api_Image) (h:GoodIm x):ref25_Image x=some 0:=by
 obtain ⟨h1,h2,h3,h4,h5,h6,h7,h8⟩:=h
 unfold ref25_Image
 refine bd (a:=false) (cf (by simp;omega) (cf (by simp;omega) (cf (by simp;omega) (congrArg some (by simp;omega))))) ?_
 refine cf rfl ?_
 refine bd h5 ?_
 refine cf rfl ?_
 refine cf (by simp;omega) ?_
 refine bd (a:=false) ?_ rfl
 by_cases h:x.Role=4
 ·refine ct (by simp [h]) ?_
  obtain ⟨L,l1,l2,_⟩:=h8 h
  refine bd l1 ?_
  refine congrArg some ?_
  rw [beq_eq_false_iff_ne];omega
 ·exact cf (by simp [h]) rfl
theorem names_ok:∀ n∈[([97]:List UInt8),[103,114,117,98],[108,105,110,117,120],[110,101,116,45,48],[116,119,101,108,118,101,45,98,121,116,101,115]],ref25_Name n=some true/\n.length<=12:=by
 intro n hn
 simp only [List.mem_cons,List.not_mem_nil,or_false] at hn
 rcases hn with rfl | rfl | rfl | rfl | rfl<;>exact ⟨by decide +kernel,by decide⟩
theorem image_def (c:sealwrightdraw_Codes) (role:Int) (hc:CdOk c) (h1:1<=role) (h4:role<=4):Def (draw_Codes_Image c role) (λr=>GoodIm r.1/\r.1.Role=role/\CdOk r.2):=by
 unfold draw_Codes_Image
 refine Def.bd (P:=λa=>[a.a0,a.a1,a.a2,a.a3,a.a4]=[([97]:List UInt8),[103,114,117,98],[108,105,110,117,120],[110,101,116,45,48],[116,119,101,108,118,101,45,98,121,116,101,115]]) (Def.s rfl) (λa ha=>?_)
 rw [ha]
 refine Def.bd (next_def c 5 hc (by decide)) (λr hr=>?_)
 obtain ⟨v1,c1⟩:=r
 obtain ⟨p1,p2,p3⟩:=hr
 simp only at p1 p2 p3
 refine Def.bd (Def.idx p1 (by simpa using p2)) (λnme hn=>?_)
 obtain ⟨n1,n2⟩:=names_ok nme hn
 refine Def.bd (next_def c1 5 p3 (by decide)) (λr hr=>?_)
 obtain ⟨v2,c2⟩:=r
 obtain ⟨q1,q2,q3⟩:=hr
 simp only at q1 q2 q3
 refine Def.bd (P:=λr=>CdOk ⟨r.1,r.2.1⟩/\0<=r.2.2/\r.2.2<=1000000) ?_ (λr hr=>?_)
 ·refine Def.bd (next_def c2 9 q3 (by decide)) (λr hr=>?_)
  obtain ⟨v3,c3⟩:=r
  obtain ⟨s1,s2,s3⟩:=hr
  simp only at s1 s2 s3
  refine Def.c (λ_=>?_) (λ_=>Def.s ⟨s3,by simp only;omega,by simp only;omega⟩)
  refine Def.bd (next_def c3 3 s3 (by decide)) (λr hr=>?_)
  obtain ⟨v4,c4⟩:=r
  obtain ⟨u1,u2,u3⟩:=hr
  simp only at u1 u2 u3
  refine Def.s ⟨u3,?_,?_⟩<;>(simp only;rw [wrapI (by omega) (by omega)];omega)
 obtain ⟨B,A,ver⟩:=r
 obtain ⟨w1,w2,w3⟩:=hr
 simp only at w1 w2 w3
 refine Def.c (λh=>?_) (λh=>?_)
 ·rw [beq_iff_eq] at h
  refine Def.bd (payload_def _ w1) (λr hr=>?_)
  obtain ⟨pl,c5⟩:=r
  obtain ⟨⟨L,l1,l2,l3,l4⟩,z⟩:=hr
  simp only at l1 z
  have hfl:=flat_len L l4
  refine Def.s ⟨⟨h1,h4,w2,w3,n1,n2,by simp only;rw [l1];omega,λ_=>⟨L,lines_eq _ L l1 l3 l4,l2,l3,λl hl=>(l4 l hl).2.1⟩⟩,rfl,z⟩
 ·have hr4:role≠4:=by simpa using h
  refine Def.bd (next_def _ 7 w1 (by decide)) (λr hr=>?_)
  obtain ⟨v5,c5⟩:=r
  obtain ⟨x1,x2,x3⟩:=hr
  simp only at x1 x2 x3
  refine Def.bd (Def.mkN x1 (by omega)) (λn hn=>?_)
  refine Def.bd (P:=λr=>CdOk ⟨r.1,r.2.1⟩/\r.2.2.length=n) ?_ (λr hr=>?_)
  ·refine Def.loop (λs=>0<=s.1/\s.1<=n/\CdOk ⟨s.2.1,s.2.2.1⟩/\s.2.2.2.length=n) (λs=>((n:Int) - s.1).toNat) (λs hs=>?_) ⟨Int.le_refl 0,by simp,x3,by simp⟩ (by simp;omega)
   obtain ⟨i,B,A,v⟩:=s
   obtain ⟨y1,y2,y3,y4⟩:=hs
   simp only at y1 y2 y3 y4
   unfold draw_Codes_Image_l1
   refine Def.c (λh=>?_) (λ_=>Def.s ⟨y3,y4⟩)
   rw [decide_eq_true_iff] at h
   refine Def.bd (next_def _ 256 y3 (by decide)) (λr hr=>?_)
   obtain ⟨v6,c6⟩:=r
   obtain ⟨_,_,z3⟩:=hr
   refine Def.bd (Def.ixN y1 h) (λj hj=>?_)
   refine Def.bd (Def.upd (by omega)) (λu hu=>Def.s ?_)
   rw [wrapI (by omega) (by omega)]
   refine ⟨⟨by simp only;omega,by simp only;omega,z3,by simp only [hu,List.length_set];exact y4⟩,by simp only;omega⟩
  obtain ⟨B,A,v⟩:=r
  obtain ⟨y1,y2⟩:=hr
  simp only at y1 y2
  refine Def.bd (Def.ck (beqT y2)) (λ_ _=>?_)
  refine Def.bd (Def.ck (bleT (by omega))) (λ_ _=>?_)
  refine Def.s ⟨⟨h1,h4,w2,w3,n1,n2,by simp only;omega,λe=>absurd e hr4⟩,rfl,y1⟩
end Go.Proofs.TT
namespace Go.Proofs.TT
open Go Go.Sw
set_option maxRecDepth 100000
theorem Def.at' {α:Type} {l:List α} {i:Nat} (h:i<l.length):Def (idx l (i:Int)) (λr=>r=l[i]):=⟨_,idx_eq h,rfl⟩
theorem dT {p:Prop} [Decidable p] (h:decide p=true):p:=by simpa using h
theorem dF {p:Prop} [Decidable p] (h:decide p=false):¬ p:=by simpa using h
def Bef (a b:api_Image):Prop:=a.Role<=b.Role/\¬ (a.Role=b.Role/\a.Name=b.Name)
structure GoodCh (l:List api_Image):Prop where
 len:l.length<=8
 im:∀ x∈l,GoodIm x
 prs:l.Pairwise Bef
 h1:∃ x∈l,x.Role=1
 h3:∃ x∈l,x.Role=3
theorem mem_take_succ {α:Type} {l:List α} {i:Nat} (h:i<l.length) {x:α} (hx:x∈l.take (i+1)):x∈l.take i∨x=l[i]:=by
 rw [List.take_add_one,List.mem_append] at hx
 rcases hx with hx | hx
 ·exact .inl hx
 ·right
  simpa [h] using hx
theorem chain_l1 (l:List api_Image) (v:api_Image) (hl:l.length<=20):Def (loopT (draw_Chain_l1 l v) FU (false,0)) (λr=>(r=true->∃ x∈l,x.Role=v.Role)/\(r=false->∀ x∈l,¬ (x.Role=v.Role/\x.Name=v.Name))):=by
 refine Def.loop (λs=>∃ i:Nat,s.2=(i:Int)/\i<=l.length/\(s.1=true->∃ x∈l,x.Role=v.Role)/\(s.1=false->∀ x∈l.take i,¬ (x.Role=v.Role/\x.Name=v.Name))) (λs=>l.length - s.2.toNat) (λs hs=>?_) ⟨0,rfl,by omega,by simp,by simp⟩ (by simp;omega)
 obtain ⟨ag,i'⟩:=s
 obtain ⟨i,g1,g2,g3,g4⟩:=hs
 simp only at g1 g3 g4
 subst g1
 unfold draw_Chain_l1
 refine Def.c (λh=>?_) (λh=>Def.s ⟨g3,λe=>?_⟩)
 ·have hi:i<l.length:=by have:=dT h;omega
  refine Def.bd (P:=λr=>(r=true->∃ x∈l,x.Role=v.Role)/\(r=false->ag=false/\¬ (l[i].Role=v.Role/\l[i].Name=v.Name))) ?_ (λr hr=>?_)
  ·refine Def.c (λha=>Def.s ⟨λ_=>g3 ha,λe=>by simp at e⟩) (λha=>?_)
   refine Def.bd (Def.at' hi) (λy hy=>?_)
   subst hy
   refine Def.c (λhr=>?_) (λhr=>Def.s ⟨λe=>by simp at e,λ_=>⟨ha,λe=>by simp [e.1] at hr⟩⟩)
   rw [beq_iff_eq] at hr
   refine Def.bd (Def.at' hi) (λy hy=>?_)
   subst hy
   refine Def.s ⟨λ_=>⟨_,List.getElem_mem hi,hr⟩,λe=>⟨ha,λe2=>?_⟩⟩
   simp [e2.2] at e
  ·refine Def.s ?_
   rw [wrapS (by omega)]
   refine ⟨⟨i+1,rfl,by omega,hr.1,λe x hx=>?_⟩,by simp only [Int.toNat_natCast];omega⟩
   obtain ⟨k1,k2⟩:=hr.2 e
   rcases mem_take_succ hi hx with hx | rfl
   ·exact g4 k1 x hx
   ·exact k2
 ·have:=dF h
  rw [List.take_of_length_le (by omega)] at g4
  exact g4 e
structure ChI (role:Int) (l:List api_Image):Prop where
 im:∀ x∈l,GoodIm x/\x.Role<=role
 prs:l.Pairwise Bef
 h1:2<=role->∃ x∈l,x.Role=1
 h3:4<=role->∃ x∈l,x.Role=3
theorem chain_l2 (role:Int) (h1:1<=role) (h4:role<=4) (l:List api_Image) (n:Int) (c:sealwrightdraw_Codes) (hc:CdOk c) (hn:0<=n) (hl:(l.length:Int)+n<=2*role) (hI:ChI role l) (hk:role=1∨role=3->1<=n) :
  Def (loopT (draw_Chain_l2 role) FU (l,n,c.B,c.At)) (λr=>(r.1.length:Int)<=2*role/\ChI role r.1/\(role=1∨role=3->∃ x∈r.1,x.Role=role)/\CdOk ⟨r.2.1,r.2.2⟩):=by
 refine Def.loop (λs=>0<=s.2.1/\(s.1.length:Int)+s.2.1<=2*role/\ChI role s.1/\(role=1∨role=3->1<=s.2.1∨∃ x∈s.1,x.Role=role)/\CdOk ⟨s.2.2.1,s.2.2.2⟩) (λs=>s.2.1.toNat) (λs hs=>?_) ⟨hn,hl,hI,λe=>.inl (hk e),hc⟩ (by simp only;omega)
 obtain ⟨l,n,B,A⟩:=s
 obtain ⟨g1,g2,g3,g4,g5⟩:=hs
 simp only at g1 g2 g3 g4 g5
 unfold draw_Chain_l2
 refine Def.c (λh=>?_) (λh=>Def.s ?_)
 ·have hn:=dT h
  refine Def.bd (P:=λr=>(r.1.length:Int)+(n - 1)<=2*role/\ChI role r.1/\(∃ x∈r.1,x.Role=role)/\CdOk ⟨r.2.1,r.2.2⟩) ?_ (λr hr=>?_)
  ·refine Def.bd (image_def _ role g5 h1 h4) (λr hr=>?_)
   obtain ⟨v,c⟩:=r
   obtain ⟨k1,k2,k3⟩:=hr
   simp only at k1 k2 k3
   refine Def.bd (chain_l1 l v (by omega)) (λag ha=>?_)
   refine Def.c (λhg=>?_) (λhg=>?_)
   ·have hgf:ag=false:=by simpa using hg
    refine Def.bd (Def.app (by simp;omega)) (λl' hl'=>Def.s ?_)
    subst hl'
    refine ⟨by simp;omega,⟨λx hx=>?_,?_,λe=>?_,λe=>?_⟩,⟨v,by simp,k2⟩,k3⟩
    ·rw [List.mem_append] at hx
     rcases hx with hx | hx
     ·exact g3.im x hx
     ·simp at hx;subst hx;exact ⟨k1,by omega⟩
    ·rw [List.pairwise_append]
     refine ⟨g3.prs,by simp,λa ha' b hb=>?_⟩
     simp at hb
     subst hb
     exact ⟨by have:=(g3.im a ha').2;omega,ha.2 hgf a ha'⟩
    ·obtain ⟨x,hx,e2⟩:=g3.h1 e
     exact ⟨x,by simp [hx],e2⟩
    ·obtain ⟨x,hx,e2⟩:=g3.h3 e
     exact ⟨x,by simp [hx],e2⟩
   ·have hgt:ag=true:=by simpa using hg
    obtain ⟨x,hx,e⟩:=ha.1 hgt
    exact Def.s ⟨by simp only;omega,g3,⟨x,hx,by omega⟩,k3⟩
  ·obtain ⟨l',B',A'⟩:=r
   obtain ⟨k1,k2,k3,k4⟩:=hr
   simp only at k1 k2 k3 k4
   refine Def.s ?_
   rw [wrapI (by omega) (by omega)]
   exact ⟨⟨by simp only;omega,k1,k2,λ_=>.inr k3,k4⟩,by simp only;omega⟩
 ·have hn:=dF h
  refine ⟨by simp only;omega,g3,λe=>?_,g5⟩
  rcases g4 e with h | h
  ·omega
  ·exact h
theorem chain_def (codes:List UInt8):Def (draw_Chain codes) GoodCh:=by
 unfold draw_Chain
 refine Def.bd (new_def codes 200 (by decide) (by decide)) (λc hc=>?_)
 refine Def.bd (P:=GoodCh) ?_ (λr hr=>Def.s hr)
 refine Def.loop (λs=>1<=s.2.1/\s.2.1<=5/\(s.1.length:Int)<=2*(s.2.1 - 1)/\(∀ x∈s.1,GoodIm x/\x.Role<s.2.1)/\s.1.Pairwise Bef/\(2<=s.2.1->∃ x∈s.1,x.Role=1)/\(4<=s.2.1->∃ x∈s.1,x.Role=3)/\CdOk ⟨s.2.2.1,s.2.2.2⟩) (λs=>(5 - s.2.1).toNat) (λs hs=>?_) ⟨Int.le_refl 1,by simp,by simp,by simp,by simp,by simp,by simp,hc⟩ (by simp)
 obtain ⟨l,role,B,A⟩:=s
 obtain ⟨g1,g2,g3,g4,g5,g6,g7,g8⟩:=hs
 simp only at g1 g2 g3 g4 g5 g6 g7 g8
 unfold draw_Chain_l3
 refine Def.c (λh=>?_) (λh=>Def.s ?_)
 ·have hr:=dT h
  refine Def.bd (next_def _ 3 g8 (by decide)) (λr hr=>?_)
  obtain ⟨v,c1⟩:=r
  obtain ⟨k1,k2,k3⟩:=hr
  simp only at k1 k2 k3
  refine Def.bd (P:=λr=>0<=r.1/\r.1<=2/\(role=1∨role=3->1<=r.1)/\CdOk ⟨r.2.1,r.2.2⟩) ?_ (λr hr=>?_)
  ·refine Def.bd (P:=λb=>b=false->¬ (role=1∨role=3)) ?_ (λb hb=>?_)
   ·refine Def.c (λh=>Def.s (λe=>by simp at e)) (λh=>Def.s (λe=>?_))
    simp at h e
    omega
   refine Def.c (λ_=>?_) (λhf=>Def.s ⟨k1,by simp only;omega,λe=>absurd e (hb hf),k3⟩)
   refine Def.bd (next_def _ 2 k3 (by decide)) (λr hr=>?_)
   obtain ⟨v2,c2⟩:=r
   obtain ⟨j1,j2,j3⟩:=hr
   simp only at j1 j2 j3
   have e:IntKind.i64.wrap (1+v2)=1+v2:=wrapI (by omega) (by omega)
   exact Def.s ⟨by simp only [e];omega,by simp only [e];omega,λ_=>by simp only [e];omega,j3⟩
  obtain ⟨n,B1,A1⟩:=r
  obtain ⟨j1,j2,j3,j4⟩:=hr
  simp only at j1 j2 j3 j4
  refine Def.bd (chain_l2 role g1 hr l n ⟨B1,A1⟩ j4 j1 (by omega) ⟨λx hx=>⟨(g4 x hx).1,by have:=(g4 x hx).2;omega⟩,g5,g6,g7⟩ j3) (λr hr=>?_)
  obtain ⟨l',B2,A2⟩:=r
  obtain ⟨m1,m2,m3,m4⟩:=hr
  simp only at m1 m2 m3 m4
  refine Def.s ?_
  rw [wrapI (by omega) (by omega)]
  refine ⟨⟨by simp only;omega,by simp only;omega,by simp only;omega,λx hx=>⟨(m2.im x hx).1,by have:=(m2.im x hx).2;simp only;omega⟩,m2.prs,λe=>?_,λe=>?_,m4⟩,by simp only;omega⟩
  ·simp only at e
   by_cases h1:role=1
   ·obtain ⟨x,hx,e2⟩:=m3 (.inl h1)
    exact ⟨x,hx,by omega⟩
   ·exact m2.h1 (by omega)
  ·simp only at e
   by_cases h3:role=3
   ·obtain ⟨x,hx,e2⟩:=m3 (.inr h3)
    exact ⟨x,hx,by omega⟩
   ·exact m2.h3 (by omega)
 ·have hr:=dF h
  exact ⟨by omega,λx hx=>(g4 x hx).1,g5,g6 (by omega),g7 (by omega)⟩
theorem pw {l:List api_Image} (h:l.Pairwise Bef) {i j:Nat} (hj:j<l.length) (hij:i<j):Bef (l[i]'(by omega)) l[j]:=List.pairwise_iff_getElem.mp h i j (by omega) hj hij
theorem good_Chain (l:List api_Image) (h:GoodCh l):ref25_Chain l=some 0:=by
 obtain ⟨hlen,him,hp,h1,h3⟩:=h
 have hne:l.length≠0:=by
  obtain ⟨x,hx,_⟩:=h1
  intro e
  rw [List.length_eq_zero_iff] at e
  rw [e] at hx
  simp at hx
 have hl1:∀ i:Nat,i<l.length->Def (loopT (ref25_Chain_l1 l (i:Int)) FU 0) (λr=>r=.inr ()):=by
  intro i hi
  refine Def.loop (λs=>∃ k:Nat,s=(k:Int)/\k<=i) (λs=>i - s.toNat) (λs hs=>?_) ⟨0,rfl,by omega⟩ (by simp;omega)
  obtain ⟨k,rfl,hk⟩:=hs
  unfold ref25_Chain_l1
  refine Def.c (λh=>?_) (λh=>Def.s rfl)
  have hki:=dT h
  have hb:=pw hp hi (show k<i by omega)
  refine Def.bd (P:=λb=>b=false) ?_ (λb hb'=>?_)
  ·refine Def.bd (Def.at' (show k<l.length by omega)) (λy hy=>?_)
   subst hy
   refine Def.bd (Def.at' hi) (λy hy=>?_)
   subst hy
   refine Def.c (λhr=>?_) (λ_=>Def.s rfl)
   rw [beq_iff_eq] at hr
   refine Def.bd (Def.at' (show k<l.length by omega)) (λy hy=>?_)
   subst hy
   refine Def.bd (Def.at' hi) (λy hy=>?_)
   subst hy
   refine Def.s ?_
   rw [beq_eq_false_iff_ne]
   exact λe=>hb.2 ⟨hr,e⟩
  subst hb'
  refine Def.s ?_
  rw [wrapS (by omega)]
  exact ⟨⟨k+1,rfl,by omega⟩,by simp only [Int.toNat_natCast];omega⟩
 have hd:Def (loopT (ref25_Chain_l2 l) FU (false,false,0)) (λr=>r=.inr (true,true)):=by
  refine Def.loop (λs=>∃ i:Nat,s.2.2=(i:Int)/\i<=l.length/\((∃ x∈l.take i,x.Role=1)->s.1=true)/\((∃ x∈l.take i,x.Role=3)->s.2.1=true)) (λs=>l.length - s.2.2.toNat) (λs hs=>?_) ⟨0,rfl,by omega,by simp,by simp⟩ (by simp;omega)
  obtain ⟨f,k,i'⟩:=s
  obtain ⟨i,g1,g2,g3,g4⟩:=hs
  simp only at g1 g3 g4
  subst g1
  unfold ref25_Chain_l2
  refine Def.c (λh=>?_) (λh=>Def.s ?_)
  ·have hi:i<l.length:=by have:=dT h;omega
   refine Def.bd (Def.at' hi) (λy hy=>?_)
   subst hy
   refine Def.bd (P:=λr=>r=0) (Def.of (good_Image _ (him _ (List.getElem_mem hi))) rfl) (λr hr=>?_)
   subst hr
   refine Def.c (λh=>by simp at h) (λ_=>?_)
   refine Def.bd (P:=λb=>b=false) ?_ (λb hb=>?_)
   ·refine Def.c (λh0=>?_) (λ_=>Def.s rfl)
    have h0':=dT h0
    refine Def.bd (Def.at' hi) (λy hy=>?_)
    subst hy
    rw [wrapI (by omega) (by omega),show (i:Int) - 1=((i - 1:Nat):Int) by omega]
    refine Def.bd (Def.at' (show i - 1<l.length by omega)) (λy hy=>?_)
    subst hy
    have hb:=(pw hp hi (show i - 1<i by omega)).1
    refine Def.s ?_
    rw [decide_eq_false_iff_not]
    omega
   subst hb
   refine Def.c (λh=>by simp at h) (λ_=>?_)
   refine Def.bd (hl1 i hi) (λr hr=>?_)
   subst hr
   refine Def.bd (P:=λb=>f=true∨l[i].Role=1->b=true) ?_ (λb1 hb1=>?_)
   ·refine Def.c (λ_=>Def.s (λ_=>rfl)) (λhf=>?_)
    refine Def.bd (Def.at' hi) (λy hy=>?_)
    subst hy
    refine Def.s (λe=>?_)
    rcases e with e | e
    ·rw [hf] at e;cases e
    ·rw [e];rfl
   refine Def.bd (P:=λb=>k=true∨l[i].Role=3->b=true) ?_ (λb2 hb2=>?_)
   ·refine Def.c (λ_=>Def.s (λ_=>rfl)) (λhf=>?_)
    refine Def.bd (Def.at' hi) (λy hy=>?_)
    subst hy
    refine Def.s (λe=>?_)
    rcases e with e | e
    ·rw [hf] at e;cases e
    ·rw [e];rfl
   refine Def.s ?_
   rw [wrapS (by omega)]
   refine ⟨⟨i+1,rfl,by omega,λe=>?_,λe=>?_⟩,by simp only [Int.toNat_natCast];omega⟩
   ·obtain ⟨x,hx,e⟩:=e
    rcases mem_take_succ hi hx with hx | rfl
    ·exact hb1 (.inl (g3 ⟨x,hx,e⟩))
    ·exact hb1 (.inr e)
   ·obtain ⟨x,hx,e⟩:=e
    rcases mem_take_succ hi hx with hx | rfl
    ·exact hb2 (.inl (g4 ⟨x,hx,e⟩))
    ·exact hb2 (.inr e)
  ·have:=dF h
   rw [List.take_of_length_le (by omega)] at g3 g4
   rw [g3 h1,g4 h3]
 obtain ⟨r,e,rfl⟩:=hd
 unfold ref25_Chain
 refine bd (a:=false) (cf ?_ (congrArg some ?_)) ?_
 ·rw [beq_eq_false_iff_ne];omega
 ·rw [decide_eq_false_iff_not];omega
 refine cf rfl ?_
 refine bd e ?_
 rfl
theorem encImage_def (x:api_Image) (h:GoodIm x):Def (ref25_EncodeImage x) (λr=>r.length<2 ^ 20):=by
 have hi:=good_Image x h
 obtain ⟨_,_,_,_,_,h6,h7,_⟩:=h
 unfold ref25_EncodeImage
 refine Def.bd (P:=λr=>r=0) (Def.of hi rfl) (λr hr=>?_)
 subst hr
 refine Def.c (λh=>by simp at h) (λ_=>?_)
 refine Def.bd (P:=λr=>r.length=1) (Def.of (ref_Uint [] 1 _ (by omega) (by omega) (by simp)) (by rw [uintB_len];rfl)) (λa ha=>?_)
 refine Def.bd (P:=λr=>r.length=5) (Def.of (ref_Uint a 4 _ (by omega) (by omega) (by omega)) (by rw [uintB_len];omega)) (λb hb=>?_)
 refine Def.bd (Def.ck (bleT (by omega))) (λ_ _=>?_)
 refine Def.bd (P:=λr=>r.length<=b.length+65537) (Def.of (ref_Blob b _ (by omega)) (blobB_len _ _)) (λc hc=>?_)
 refine Def.bd (P:=λr=>r.length<=c.length+65537) (Def.of (ref_Blob c _ (by omega)) (blobB_len _ _)) (λd hd=>Def.s (by omega))
theorem digests_def (x:api_Image) (active:Int) (h:GoodIm x):Def (ref25_Digests x active) (λr=>r.length=2):=by
 unfold ref25_Digests
 refine Def.bd (encImage_def x h) (λb hb=>?_)
 refine Def.bd (P:=λr=>r.length=2) ?_ (λr hr=>Def.bd (Def.ck (beqT hr)) (λ_ _=>Def.s hr))
 refine Def.loop (λs=>0<=s.1/\s.1<=2/\s.2.length=2) (λs=>(2 - s.1).toNat) (λs hs=>?_) ⟨by decide,by decide,rfl⟩ (by decide)
 obtain ⟨a,v⟩:=s
 obtain ⟨h0,h1,h2⟩:=hs
 simp only at h0 h1 h2
 unfold ref25_Digests_l1
 refine Def.c (λh=>?_) (λ_=>Def.s h2)
 rw [decide_eq_true_iff] at h
 refine Def.bd (P:=λr=>r.length=2) ?_ (λw hw=>Def.s ?_)
 ·refine Def.bd (P:=λ_=>True) ?_ (λb _=>?_)
  ·refine Def.c (λ_=>?_) (λ_=>Def.s trivial)
   exact Def.bd (P:=λ_=>True) (Def.lt (Def.s trivial)) (λ_ _=>Def.s trivial)
  refine Def.c (λ_=>?_) (λ_=>Def.s h2)
  refine Def.bd (sum_def a _ (by omega)) (λ_ _=>?_)
  refine Def.bd (Def.ixN h0 (by show _<((2:Nat):Int);omega)) (λj hj=>?_)
  exact Def.bd (Def.upd (by omega)) (λr hr=>Def.s (by rw [hr];simpa using h2))
 ·rw [wrapI (by omega) (by omega)]
  simp only
  omega
theorem number_def:∀ (k fl:Nat) (n:Int),0<=n->n<10 ^ (k+1)->n<2 ^ 40->k<fl->k<20->Def (ref25_Number fl n) (λr=>r.length<=k+1):=by
 intro k
 induction k with
 | zero=>
  intro fl n h0 h1 _ hf _
  obtain ⟨f,rfl⟩:∃ f,fl=f+1:=⟨fl - 1,by omega⟩
  unfold ref25_Number
  exact Def.c (λ_=>Def.s (by simp)) (λh=>absurd (by simpa using h1) (dF h))
 | succ k ih=>
  intro fl n h0 h1 h2 hf hk
  obtain ⟨f,rfl⟩:∃ f,fl=f+1:=⟨fl - 1,by omega⟩
  have hd:n / 10<10 ^ (k+1):=by
   rw [Int.pow_succ] at h1
   omega
  unfold ref25_Number
  refine Def.c (λ_=>Def.s (by simp)) (λh=>?_)
  rw [Int.tdiv_eq_ediv_of_nonneg h0,wrapI (by omega) (by omega)]
  refine Def.bd (ih f (n / 10) (by omega) hd (by omega) (by omega) (by omega)) (λr hr=>?_)
  exact Def.bd (Def.app (by simp;omega)) (λs hs=>Def.s (by rw [hs];simp;omega))
theorem ofImage_def (x:api_Image) (active:Int) (h:GoodIm x):Def (ref25_OfImage x active) (λ_=>True):=by
 have hi:=good_Image x h
 unfold ref25_OfImage
 refine Def.bd (P:=λ_=>True) ?_ (λb _=>?_)
 ·refine Def.bd (P:=λr=>r=0) (Def.of hi rfl) (λr hr=>?_)
  exact Def.c (λ_=>Def.s trivial) (λ_=>Def.s trivial)
 refine Def.c (λ_=>Def.s trivial) (λ_=>?_)
 refine Def.bd (P:=λ_=>True) ?_ (λr _=>?_)
 ·unfold ref25_Register
  exact Def.c (λ_=>Def.s trivial) (λ_=>Def.c (λ_=>Def.s trivial) (λ_=>Def.c (λ_=>Def.s trivial) (λ_=>Def.c (λ_=>Def.s trivial) (λ_=>Def.s trivial))))
 refine Def.bd (digests_def x active h) (λd _=>?_)
 refine Def.bd (P:=λ_=>True) ?_ (λ_ _=>Def.s trivial)
 unfold ref25_Label
 have hn:=h.nl
 refine Def.bd (Def.ck (bleT (by omega))) (λ_ _=>?_)
 refine Def.bd (Def.app (by simp;omega)) (λa ha=>?_)
 have hv0:=h.v0
 have hv1:=h.v1
 refine Def.bd (number_def 6 RF x.Version hv0 (by show x.Version<10000000;omega) (by omega) (by decide) (by decide)) (λb hb=>?_)
 have hal:a.length=x.Name.length+1:=by rw [ha];simp
 exact Def.bd (Def.app (by omega)) (λ_ _=>Def.s trivial)
theorem events_def (l:List api_Image) (active:Int) (h:GoodCh l) (h1:1<=active) (h3:active<=3):Def (ref25_Events l active) (λr=>8<=r.length/\r.length<=136):=by
 have hc:=good_Chain l h
 have h':=h.len
 have him:=h.im
 unfold ref25_Events
 refine Def.bd (P:=λb=>b=false) ?_ (λb hb=>?_)
 ·refine Def.bd (P:=λr=>r=0) (Def.of hc rfl) (λr hr=>?_)
  subst hr
  refine Def.c (λh=>by simp at h) (λ_=>Def.c (λh=>?_) (λ_=>Def.s ?_))
  ·have:=dT h;omega
  ·rw [decide_eq_false_iff_not];omega
 subst hb
 refine Def.c (λh=>by simp at h) (λ_=>?_)
 refine Def.bd (P:=λr=>8<=r.length/\r.length<=136) ?_ (λr hr=>Def.s hr)
 refine Def.loop (λs=>1<=s.2/\s.2<=5/\(s.1.length:Int)<=8+32*(s.2 - 1)/\(4<=s.2->8<=s.1.length)/\(s.2<=3->(s.1.length:Int)<=32*(s.2 - 1))) (λs=>(5 - s.2).toNat) (λs hs=>?_) ⟨Int.le_refl 1,by simp,by simp,by simp,by simp⟩ (by simp)
 obtain ⟨out,role⟩:=s
 obtain ⟨g1,g2,g3,g4,g5⟩:=hs
 simp only at g1 g2 g3 g4 g5
 unfold ref25_Events_l4
 refine Def.c (λh=>?_) (λh=>Def.s ?_)
 ·have hr:=dT h
  refine Def.bd (P:=λo=>(o.length:Int)<=8+32*(role - 1)/\(3<=role->8<=o.length)/\(role<=2->(o.length:Int)<=32*(role - 1))) ?_ (λo ho=>?_)
  ·refine Def.c (λh=>?_) (λh=>Def.s ⟨by omega,λe=>?_,λe=>g5 (by omega)⟩)
   ·rw [beq_iff_eq] at h
    refine Def.bd (P:=λo=>o.length=out.length+8) ?_ (λo ho=>Def.s ⟨by have:=g5 (by omega);omega,λ_=>by omega,λe=>by omega⟩)
    refine Def.loop (λs=>0<=s.2/\s.2<=8/\(s.1.length:Int)=out.length+s.2) (λs=>(8 - s.2).toNat) (λs hs=>?_) ⟨Int.le_refl 0,by simp,by simp⟩ (by simp)
    obtain ⟨o,i⟩:=s
    obtain ⟨k1,k2,k3⟩:=hs
    simp only at k1 k2 k3
    unfold ref25_Events_l1
    refine Def.c (λh=>?_) (λh=>Def.s ?_)
    ·have:=dT h
     refine Def.bd (P:=λb=>b.length=4) (Def.s rfl) (λb hb=>?_)
     refine Def.bd (make_def i 2 active b (by omega)) (λe _=>?_)
     refine Def.bd (Def.app (by simp;omega)) (λo' ho'=>Def.s ?_)
     rw [wrapI (by omega) (by omega)]
     refine ⟨⟨by simp only;omega,by simp only;omega,by simp only [ho',List.length_append,List.length_cons,List.length_nil];omega⟩,by simp only;omega⟩
    ·have:=dF h
     omega
   ·simp at h
    exact g4 (by omega)
  ·obtain ⟨o1,o2,o3⟩:=ho
   refine Def.bd (P:=λr=>(o.length:Int)<=r.length/\(r.length:Int)<=o.length+32) ?_ (λr hr=>Def.s ?_)
   ·refine Def.loop (λs=>∃ i:Nat,s.2=(i:Int)/\i<=l.length/\(o.length:Int)<=s.1.length/\(s.1.length:Int)<=o.length+4*i) (λs=>l.length - s.2.toNat) (λs hs=>?_) ⟨0,rfl,by omega,by simp,by simp⟩ (by have:=h';simp;omega)
    obtain ⟨u,i'⟩:=s
    obtain ⟨i,k1,k2,k3,k4⟩:=hs
    simp only at k1 k3 k4
    subst k1
    have hlen:=h'
    unfold ref25_Events_l3
    refine Def.c (λh=>?_) (λh=>Def.s ⟨by omega,by omega⟩)
    have hi:i<l.length:=by have:=dT h;omega
    have hg:=him _ (List.getElem_mem hi)
    refine Def.bd (P:=λr=>(u.length:Int)<=r.length/\(r.length:Int)<=u.length+4) ?_ (λr hr=>Def.s ?_)
    ·refine Def.bd (Def.at' hi) (λy hy=>?_)
     subst hy
     refine Def.c (λ_=>Def.s ⟨by omega,by omega⟩) (λhrole=>?_)
     refine Def.c (λ_=>?_) (λh4=>?_)
     ·refine Def.bd (Def.at' hi) (λy hy=>?_)
      subst hy
      refine Def.bd (ofImage_def _ active hg) (λe _=>?_)
      exact Def.bd (Def.app (by simp;omega)) (λr hr=>Def.s ⟨by rw [hr,List.length_append];omega,by rw [hr,List.length_append];simp only [List.length_cons,List.length_nil];omega⟩)
     ·refine Def.bd (Def.at' hi) (λy hy=>?_)
      subst hy
      simp at hrole h4
      obtain ⟨L,l1,l2,l3,l4⟩:=hg.l (by omega)
      refine Def.bd (P:=λr=>r=L) (Def.of l1 rfl) (λr hr=>?_)
      subst hr
      refine Def.bd (P:=λw=>(w.length:Int)=u.length+r.length) ?_ (λw hw=>Def.s ⟨by omega,by omega⟩)
      refine Def.loop (λs=>∃ k:Nat,s.2=(k:Int)/\k<=r.length/\(s.1.length:Int)=u.length+k) (λs=>r.length - s.2.toNat) (λs hs=>?_) ⟨0,rfl,by omega,by simp⟩ (by simp;omega)
      obtain ⟨w,k'⟩:=s
      obtain ⟨k,m1,m2,m3⟩:=hs
      simp only at m1 m3
      subst m1
      unfold ref25_Events_l2
      refine Def.c (λh=>?_) (λh=>Def.s (by have:=dF h;omega))
      have hk:k<r.length:=by have:=dT h;omega
      refine Def.bd (Def.at' hk) (λy hy=>?_)
      subst hy
      have:=l4 _ (List.getElem_mem hk)
      refine Def.bd (make_def 9 3 active _ (by omega)) (λe _=>?_)
      refine Def.bd (Def.app (by simp;omega)) (λo' ho'=>Def.s ?_)
      rw [wrapS (by omega)]
      exact ⟨⟨k+1,rfl,by omega,by simp only [ho',List.length_append,List.length_cons,List.length_nil];omega⟩,by simp only [Int.toNat_natCast];omega⟩
    ·rw [wrapS (by omega)]
     exact ⟨⟨i+1,rfl,by omega,by simp only;omega,by simp only;omega⟩,by simp only [Int.toNat_natCast];omega⟩
   ·rw [wrapI (by omega) (by omega)]
    refine ⟨⟨by simp only;omega,by simp only;omega,by simp only;omega,λe=>?_,λe=>?_⟩,by simp only;omega⟩
    ·simp only at e
     have:=o2 (by omega)
     simp only;omega
    ·simp only at e
     have:=o3 (by omega)
     simp only;omega
 ·have:=dF h
  have:=g4 (by omega)
  omega
end Go.Proofs.TT
namespace Go.Proofs.TT
open Go Go.Sw
set_option maxRecDepth 100000
theorem mod_def (n m:Int) (hm:1<=m) (hm2:m<2 ^ 40):Def (draw_Mod n m) (λr=>0<=r/\r<m):=by
 unfold draw_Mod
 refine Def.c (λh=>by have:=dT h;omega) (λ_=>?_)
 refine Def.bd (Def.ck (by simp;omega)) (λ_ _=>?_)
 have h1:-m<Int.tmod n m:=by
  have:=Int.lt_tmod_of_pos n (by omega:0<m)
  omega
 have h2:Int.tmod n m<m:=Int.tmod_lt_of_pos n (by omega)
 refine Def.bd (P:=λr=>0<=r/\r<m) ?_ (λr hr=>Def.s hr)
 refine Def.c (λh=>Def.s ?_) (λh=>Def.s ?_)
 ·have:=dT h
  rw [wrapI (by omega) (by omega)]
  omega
 ·have:=dF h
  omega
theorem active_def (n:Int):Def (draw_Active n) (λr=>1<=r/\r<=3):=by
 unfold draw_Active
 refine Def.bd (mod_def n 3 (by decide) (by decide)) (λr hr=>Def.s ?_)
 rw [wrapI (by omega) (by omega)];omega
theorem cpy_len {α:Type} (a b:List α):(cpy a b).length=a.length:=by
 unfold cpy;simp;omega
theorem ddigests_def (active:Int) (b:List UInt8):Def (draw_Digests active b) (λ_=>True):=by
 unfold draw_Digests
 refine Def.bd (P:=λr=>r.length=2) ?_ (λr hr=>Def.bd (Def.ck (beqT hr)) (λ_ _=>Def.s trivial))
 refine Def.loop (λs=>0<=s.1/\s.1<=2/\s.2.length=2) (λs=>(2 - s.1).toNat) (λs hs=>?_) ⟨by decide,by decide,rfl⟩ (by decide)
 obtain ⟨a,v⟩:=s
 obtain ⟨h0,h1,h2⟩:=hs
 simp only at h0 h1 h2
 unfold draw_Digests_l1
 refine Def.c (λh=>?_) (λ_=>Def.s h2)
 have ha:=dT h
 refine Def.bd (P:=λr=>r.length=2) ?_ (λw hw=>Def.s ?_)
 ·refine Def.c (λ_=>?_) (λ_=>Def.s h2)
  rw [wrapI (n:=12*a) (by omega) (by omega),wrapI (by omega) (by omega)]
  refine Def.bd (Def.mkN (by omega) (by omega)) (λn hn=>?_)
  refine Def.bd (Def.ck (beqT (by simp))) (λ_ _=>?_)
  refine Def.lt ?_
  have hcl:=cpy_len (List.replicate n (0:UInt8)) b
  rw [List.length_replicate] at hcl
  generalize cpy (List.replicate n (0:UInt8)) b=x at hcl
  refine Def.bd (P:=λr=>r.length=n) ?_ (λy hy=>?_)
  ·refine Def.c (λh=>?_) (λ_=>Def.s hcl)
   have:=dT h
   rw [wrapI (by omega) (by omega)]
   refine Def.bd (Def.ixN (by omega) (by omega)) (λj hj=>?_)
   refine Def.bd (Def.at (by omega)) (λ_ _=>?_)
   refine Def.bd (Def.ixN (by omega) (by omega)) (λj hj=>?_)
   exact Def.bd (Def.upd (by omega)) (λr hr=>Def.s (by rw [hr];simpa using hcl))
  refine Def.bd (Def.ck (beqT hy)) (λ_ _=>?_)
  refine Def.bd (Def.ck (bleT (by omega))) (λ_ _=>?_)
  refine Def.bd (Def.ixN h0 (by show _<((2:Nat):Int);omega)) (λj hj=>?_)
  exact Def.bd (Def.upd (by omega)) (λr hr=>Def.s (by rw [hr];simpa using h2))
 ·rw [wrapI (by omega) (by omega)]
  simp only
  omega
theorem event_def (c:sealwrightdraw_Codes) (active:Int) (hc:CdOk c):Def (draw_Codes_Event c active) (λr=>CdOk r.2):=by
 unfold draw_Codes_Event
 refine Def.bd (line_def c hc) (λr hr=>?_)
 obtain ⟨l,c1⟩:=r
 obtain ⟨hl,k1⟩:=hr
 simp only at hl k1
 have hl1:=hl.1
 have hl2:=hl.2.1
 refine Def.bd (P:=λr=>r.1.length<=8/\CdOk ⟨r.2.1,r.2.2⟩) ?_ (λr hr=>?_)
 ·refine Def.bd (next_def _ 4 k1 (by decide)) (λr hr=>?_)
  obtain ⟨v,c2⟩:=r
  obtain ⟨a1,a2,a3⟩:=hr
  refine Def.c (λ_=>?_) (λ_=>Def.s ⟨hl2,a3⟩)
  refine Def.bd (next_def _ 2 a3 (by decide)) (λr hr=>?_)
  obtain ⟨v,c3⟩:=r
  obtain ⟨b1,b2,b3⟩:=hr
  simp only at b1 b2 b3
  refine Def.bd (Def.sub (by decide) b1 (by omega)) (λx hx=>Def.s ⟨?_,b3⟩)
  simp only;rw [hx];simp;omega
 obtain ⟨dat,B,A⟩:=r
 obtain ⟨hd,k2⟩:=hr
 simp only at hd k2
 refine Def.bd (next_def _ 5 k2 (by decide)) (λr hr=>?_)
 obtain ⟨v5,c5⟩:=r
 obtain ⟨a1,a2,a3⟩:=hr
 simp only at a1 a2 a3
 refine Def.bd (next_def _ 8 a3 (by decide)) (λr hr=>?_)
 obtain ⟨v8,c8⟩:=r
 obtain ⟨b1,b2,b3⟩:=hr
 simp only at b1 b2 b3
 refine Def.bd (Def.idx b1 (by simpa using b2)) (λreg _=>?_)
 refine Def.bd (P:=λr=>r.1.length<=8/\CdOk ⟨r.2.2.1,r.2.2.2⟩) ?_ (λr hr=>?_)
 ·refine Def.bd (P:=λr=>CdOk ⟨r.2.1,r.2.2⟩) ?_ (λr hr=>?_)
  ·refine Def.c (λ_=>?_) (λ_=>Def.s b3)
   refine Def.bd (next_def _ 4 b3 (by decide)) (λr hr=>?_)
   exact Def.s hr.2.2
  obtain ⟨b,B,A⟩:=r
  refine Def.c (λ_=>?_) (λ_=>Def.s ⟨hd,hr⟩)
  refine Def.bd (next_def _ 8 hr (by decide)) (λr hr=>?_)
  exact Def.s ⟨by simp,hr.2.2⟩
 obtain ⟨dat,reg,B,A⟩:=r
 obtain ⟨hd,k3⟩:=hr
 simp only at hd k3
 refine Def.bd (make_def _ _ active dat (by omega)) (λe _=>?_)
 refine Def.bd (P:=λr=>CdOk ⟨r.1,r.2.1⟩) ?_ (λr hr=>Def.s hr)
 refine Def.bd (P:=λr=>CdOk ⟨r.2.1,r.2.2⟩) ?_ (λr hr=>?_)
 ·refine Def.c (λ_=>?_) (λ_=>Def.s k3)
  refine Def.bd (next_def _ 4 k3 (by decide)) (λr hr=>?_)
  exact Def.s hr.2.2
 obtain ⟨b,B,A⟩:=r
 refine Def.c (λ_=>?_) (λ_=>Def.s hr)
 refine Def.bd (next_def _ 4 hr (by decide)) (λr hr=>?_)
 refine Def.bd (ddigests_def active _) (λd _=>?_)
 exact Def.s hr.2.2
theorem cevents_def (c:sealwrightdraw_Codes) (active:Int) (hc:CdOk c):Def (draw_Codes_Events c active 14) (λr=>r.1.length<=14):=by
 unfold draw_Codes_Events
 refine Def.bd (P:=λr=>r.1.length<=14) ?_ (λr hr=>Def.s hr)
 refine Def.loop (λs=>s.1.length<=14/\CdOk ⟨s.2.1,s.2.2⟩) (λs=>14 - s.1.length) (λs hs=>?_) ⟨by simp,hc⟩ (by simp)
 obtain ⟨l,B,A⟩:=s
 obtain ⟨g1,g2⟩:=hs
 simp only at g1 g2
 unfold draw_Codes_Events_l1
 refine Def.bd (P:=λr=>(r.1=true->l.length<14)/\CdOk ⟨r.2.1,r.2.2⟩) ?_ (λr hr=>?_)
 ·refine Def.bd (P:=λr=>CdOk r.2) (Def.s g2) (λr hr=>?_)
  obtain ⟨b,c⟩:=r
  refine Def.c (λ_=>Def.s ⟨λh=>by have:=dT h;omega,hr⟩) (λ_=>Def.s ⟨λh=>by simp at h,hr⟩)
 obtain ⟨b,B,A⟩:=r
 obtain ⟨k1,k2⟩:=hr
 refine Def.c (λhb=>?_) (λ_=>Def.s g1)
 have:=k1 hb
 refine Def.bd (event_def _ active k2) (λr hr=>?_)
 refine Def.bd (Def.app (by simp;omega)) (λl' hl'=>Def.s ?_)
 refine ⟨⟨by simp only [hl',List.length_append,List.length_cons,List.length_nil];omega,hr⟩,by simp only [hl',List.length_append,List.length_cons,List.length_nil];omega⟩
theorem log_def (codes:List UInt8) (active resets:Int) (h1:1<=active) (h3:active<=3):Def (draw_Log codes active resets) (λr=>r.Active=active/\r.Events.length<=200):=by
 unfold draw_Log
 refine Def.bd (new_def codes 240 (by decide) (by decide)) (λc hc=>?_)
 refine Def.bd (mod_def resets 1000 (by decide) (by decide)) (λrs _=>?_)
 refine Def.bd (next_def _ 3 hc (by decide)) (λr hr=>?_)
 obtain ⟨v,c1⟩:=r
 obtain ⟨a1,a2,a3⟩:=hr
 simp only at a1 a2 a3
 refine Def.c (λ_=>?_) (λ_=>?_)
 ·refine Def.bd (cevents_def c1 active a3) (λr hr=>?_)
  exact Def.s ⟨rfl,by
             have:r.1.length<=14:=hr
             show r.1.length<=200
             omega⟩
 ·obtain ⟨b1,b2,b3⟩:=a3
  refine Def.bd (Def.sub b2 b3 (Int.le_refl _)) (λx _=>?_)
  refine Def.bd (chain_def x) (λch hch=>?_)
  refine Def.bd (events_def ch active hch h1 h3) (λev hev=>?_)
  refine Def.bd (next_def _ 4 ⟨b1,b2,b3⟩ (by decide)) (λr hr=>?_)
  obtain ⟨n,c2⟩:=r
  obtain ⟨d1,d2,d3⟩:=hr
  simp only at d1 d2 d3
  refine Def.bd (P:=λl=>l.length<=200) ?_ (λl hl=>Def.s ⟨rfl,hl⟩)
  refine Def.loop (λs=>0<=s.1/\s.1+1<=s.2.1.length/\(s.2.1.length:Int)+s.1<=140/\CdOk ⟨s.2.2.1,s.2.2.2⟩) (λs=>s.1.toNat) (λs hs=>?_) ⟨d1,by simp only;omega,by simp only;omega,d3⟩ (by simp only;omega)
  obtain ⟨n,l,B,A⟩:=s
  obtain ⟨g1,g2,g3,g4⟩:=hs
  simp only at g1 g2 g3 g4
  unfold draw_Log_l1
  refine Def.c (λh=>?_) (λh=>Def.s (by omega))
  have hn:=dT h
  refine Def.bd (next_def _ _ g4 (by omega)) (λr hr=>?_)
  obtain ⟨i,c3⟩:=r
  obtain ⟨i0,i1,i2⟩:=hr
  simp only at i0 i1 i2
  refine Def.bd (next_def _ 5 i2 (by decide)) (λr hr=>?_)
  obtain ⟨o,c4⟩:=r
  obtain ⟨o0,o1,o2⟩:=hr
  simp only at o0 o1 o2
  have slo:∀ k:Int,0<=k->k<=l.length->Def (sub l 0 k) (λr=>(r.length:Int)=k):=by
   intro k h0 hk
   refine Def.mono (Def.sub (by decide) h0 hk) (λr hr=>?_)
   rw [hr];simp;omega
  have shi:∀ k:Int,0<=k->k<=l.length->Def (sub l k (l.length:Int)) (λr=>(r.length:Int)=l.length - k):=by
   intro k h0 hk
   refine Def.mono (Def.sub h0 hk (Int.le_refl _)) (λr hr=>?_)
   rw [hr];simp;omega
  have app:∀ a b:List api_Event,a.length<=1000->b.length<=1000->Def (appL 64 a b) (λr=>r.length=a.length+b.length):=by
   intro a b ha hb
   exact Def.mono (Def.app (by omega)) (λr hr=>by rw [hr];simp)
  refine Def.bd (P:=λr=>(l.length:Int) - 1<=r.1.length/\(r.1.length:Int)<=l.length+1/\CdOk ⟨r.2.1,r.2.2⟩) ?_ (λr hr=>?_)
  ·refine Def.c (λ_=>?_) (λ_=>Def.c (λ_=>?_) (λ_=>Def.c (λ_=>?_) (λ_=>Def.c (λ_=>?_) (λ_=>?_))))
   ·refine Def.bd (slo i i0 (by omega)) (λx hx=>?_)
    refine Def.bd (app [] x (by simp) (by omega)) (λy hy=>?_)
    rw [wrapI (by omega) (by omega)]
    refine Def.bd (shi (i+1) (by omega) (by omega)) (λz hz=>?_)
    simp only [List.length_nil] at hy
    refine Def.bd (app y z (by omega) (by omega)) (λw hw=>Def.s ⟨by simp only;omega,by simp only;omega,o2⟩)
   ·refine Def.bd (slo i i0 (by omega)) (λx hx=>?_)
    refine Def.bd (app [] x (by simp) (by omega)) (λy hy=>?_)
    simp only [List.length_nil] at hy
    refine Def.bd (Def.idx i0 i1) (λe _=>?_)
    refine Def.bd (app y [e] (by omega) (by simp)) (λz hz=>?_)
    simp only [List.length_cons,List.length_nil] at hz
    refine Def.bd (shi i i0 (by omega)) (λw hw=>?_)
    refine Def.bd (app z w (by omega) (by omega)) (λq hq=>Def.s ⟨by simp only;omega,by simp only;omega,o2⟩)
   ·refine Def.bd (next_def _ _ o2 (by omega)) (λr hr=>?_)
    obtain ⟨j,c5⟩:=r
    obtain ⟨j0,j1,j2⟩:=hr
    simp only at j0 j1 j2
    refine Def.bd (app [] l (by simp) (by omega)) (λx hx=>?_)
    simp only [List.length_nil] at hx
    refine Def.bd (Def.ixN j0 (by omega)) (λj hj=>?_)
    refine Def.bd (Def.at hj.2) (λe1 _=>?_)
    refine Def.bd (Def.ixN i0 (by omega)) (λj hj=>?_)
    refine Def.bd (Def.at hj.2) (λe2 _=>?_)
    refine Def.bd (Def.ixN i0 (by omega)) (λj hj=>?_)
    refine Def.bd (Def.upd hj.2) (λx1 hx1=>?_)
    refine Def.bd (Def.ixN j0 (by omega)) (λj hj=>?_)
    have hxl:x1.length=x.length:=by rw [hx1];simp
    refine Def.bd (Def.upd (by rw [hxl];exact hj.2)) (λx2 hx2=>?_)
    have hxl2:x2.length=x1.length:=by rw [hx2];simp
    exact Def.s ⟨by simp only;omega,by simp only;omega,j2⟩
   ·refine Def.bd (slo i i0 (by omega)) (λx hx=>?_)
    refine Def.bd (app [] x (by simp) (by omega)) (λy hy=>?_)
    simp only [List.length_nil] at hy
    refine Def.bd (event_def _ active o2) (λr hr=>?_)
    refine Def.bd (app y [r.1] (by omega) (by simp)) (λz hz=>?_)
    simp only [List.length_cons,List.length_nil] at hz
    refine Def.bd (shi i i0 (by omega)) (λw hw=>?_)
    refine Def.bd (app z w (by omega) (by omega)) (λq hq=>Def.s ⟨by simp only;omega,by simp only;omega,hr⟩)
   ·refine Def.bd (slo i i0 (by omega)) (λx hx=>?_)
    refine Def.bd (app [] x (by simp) (by omega)) (λy hy=>?_)
    simp only [List.length_nil] at hy
    refine Def.bd (make_def 3 5 active _ (by simp)) (λe _=>?_)
    refine Def.bd (app y [e] (by omega) (by simp)) (λz hz=>?_)
    simp only [List.length_cons,List.length_nil] at hz
    refine Def.bd (shi i i0 (by omega)) (λw hw=>?_)
    refine Def.bd (app z w (by omega) (by omega)) (λq hq=>Def.s ⟨by simp only;omega,by simp only;omega,o2⟩)
  obtain ⟨l',B',A'⟩:=r
  obtain ⟨p1,p2,p3⟩:=hr
  simp only at p1 p2 p3
  refine Def.s ?_
  rw [wrapI (by omega) (by omega)]
  exact ⟨⟨by simp only;omega,by simp only;omega,by simp only;omega,p3⟩,by simp only;omega⟩
end Go.Proofs.TT
namespace Go.Proofs.TT
open Go Go.Sw
set_option maxRecDepth 100000
theorem less_def (a b:List UInt8) (ha:a.length<2 ^ 40):Def (ref31_less a b) (λ_=>True):=by
 unfold ref31_less
 refine Def.bd (P:=λ_=>True) ?_ (λr _=>?_)
 ·refine Def.loop (λ(s:Int)=>0<=s/\s<=a.length) (λs=>(a.length - s).toNat) (λs hs=>?_) ⟨by decide,by simp⟩ (by simp;omega)
  obtain ⟨h0,h1⟩:=hs
  unfold ref31_less_l1
  refine Def.bd (P:=λc=>c=true->s<a.length/\s<b.length) ?_ (λc hc=>?_)
  ·refine Def.c (λh=>Def.s (λe=>⟨dT h,dT e⟩)) (λ_=>Def.s (λe=>by simp at e))
  refine Def.c (λhcc=>?_) (λ_=>Def.s trivial)
  obtain ⟨k1,k2⟩:=hc hcc
  refine Def.bd (Def.idx h0 k1) (λ_ _=>?_)
  refine Def.bd (Def.idx h0 k2) (λ_ _=>?_)
  refine Def.c (λ_=>?_) (λ_=>Def.s ?_)
  ·refine Def.bd (Def.idx h0 k1) (λ_ _=>?_)
   exact Def.bd (Def.idx h0 k2) (λ_ _=>Def.s trivial)
  ·rw [wrapI (by omega) (by omega)]
   simp only
   omega
 ·cases r<;>exact Def.s trivial
theorem before_def (a b:api_Entry) (ha:a.Digest.length<2 ^ 40):Def (ref31_Before a b) (λ_=>True):=by
 unfold ref31_Before
 refine Def.c (λ_=>Def.s trivial) (λ_=>Def.c (λ_=>Def.s trivial) (λ_=>Def.c (λ_=>Def.s trivial) (λ_=>?_)))
 exact Def.bd (less_def _ _ ha) (λ_ _=>Def.s trivial)
theorem describe_def (vendor:List UInt8) (version:Int) (l:List api_Image) (h:GoodCh l):Def (ref31_Describe vendor version l) (λm=>m.Entries.length<=8):=by
 have hlen:=h.len
 unfold ref31_Describe
 refine Def.bd (P:=λm=>m.length<=8) ?_ (λm hm=>Def.s hm)
 refine Def.loop (λs=>∃ i:Nat,s.1=(i:Int)/\i<=l.length/\s.2.length<=i/\∀ e∈s.2,e.Digest.length=32) (λs=>l.length - s.1.toNat) (λs hs=>?_) ⟨0,rfl,by omega,by simp,by simp⟩ (by simp;omega)
 obtain ⟨i',m⟩:=s
 obtain ⟨i,g1,g2,g3,g4⟩:=hs
 simp only at g1 g3 g4
 subst g1
 unfold ref31_Describe_l2
 refine Def.c (λh=>?_) (λh=>Def.s (by omega))
 have hi:i<l.length:=by have:=dT h;omega
 have hg:=‹GoodCh l›.im _ (List.getElem_mem hi)
 refine Def.bd (P:=λr=>r.length<=m.length+1/\∀ e∈r,e.Digest.length=32) ?_ (λr hr=>Def.s ?_)
 ·refine Def.bd (Def.at' hi) (λy hy=>?_)
  subst hy
  refine Def.bd (encImage_def _ hg) (λb hb=>?_)
  refine Def.bd (P:=λ_=>True) ?_ (λc _=>?_)
  ·refine Def.c (λ_=>Def.s trivial) (λ_=>?_)
   exact Def.bd (Def.at' hi) (λ_ _=>Def.s trivial)
  refine Def.c (λ_=>Def.s ⟨by omega,g4⟩) (λ_=>?_)
  refine Def.bd (Def.at' hi) (λy1 _=>?_)
  refine Def.bd (Def.at' hi) (λy2 _=>?_)
  refine Def.bd (Def.at' hi) (λy3 _=>?_)
  refine Def.bd (sha_def b (by omega)) (λd hd=>?_)
  refine Def.bd (P:=λ(k:Int)=>0<=k/\k<=m.length) ?_ (λk hk=>?_)
  ·refine Def.loop (λ(s:Int)=>0<=s/\s<=m.length) (λs=>(m.length - s).toNat) (λs hs=>?_) ⟨by decide,by simp⟩ (by simp;omega)
   obtain ⟨k0,k1⟩:=hs
   unfold ref31_Describe_l1
   refine Def.bd (P:=λc=>c=true->s<m.length) ?_ (λc hc=>?_)
   ·refine Def.c (λh=>?_) (λ_=>Def.s (λe=>by simp at e))
    have hs:=dT h
    refine Def.bd (Def.idx k0 hs) (λe he=>?_)
    exact Def.bd (before_def _ _ (by rw [g4 e he];decide)) (λ_ _=>Def.s (λ_=>hs))
   refine Def.c (λh=>Def.s ?_) (λ_=>Def.s ⟨k0,k1⟩)
   have:=hc h
   rw [wrapI (by omega) (by omega)]
   simp only
   omega
  refine Def.bd (P:=λ_=>True) ?_ (λc _=>?_)
  ·refine Def.c (λh=>?_) (λ_=>Def.s trivial)
   refine Def.bd (Def.idx hk.1 (dT h)) (λe he=>?_)
   exact Def.bd (before_def _ _ (by show d.length<_;omega)) (λ_ _=>Def.s trivial)
  refine Def.c (λ_=>Def.s ⟨by omega,g4⟩) (λ_=>?_)
  refine Def.bd (Def.sub (by decide) hk.1 hk.2) (λx hx=>?_)
  have hxl:(x.length:Int)=k:=by rw [hx];simp;omega
  have hxm:∀ e∈x,e∈m:=by
   intro e he
   rw [hx] at he
   exact List.mem_of_mem_drop (List.mem_of_mem_take he)
  refine Def.bd (Def.app (by simp;omega)) (λy hy=>?_)
  rw [List.nil_append] at hy
  subst hy
  refine Def.bd (Def.app (by simp;omega)) (λz hz=>?_)
  refine Def.bd (Def.sub hk.1 hk.2 (Int.le_refl _)) (λw hw=>?_)
  have hwl:(w.length:Int)=m.length - k:=by rw [hw];simp;omega
  have hwm:∀ e∈w,e∈m:=by
   intro e he
   rw [hw] at he
   exact List.mem_of_mem_drop (List.mem_of_mem_take he)
  have hzl:z.length=y.length+1:=by rw [hz];simp
  refine Def.bd (Def.app (by omega)) (λq hq=>Def.s ⟨?_,λe he=>?_⟩)
  ·rw [hq,List.length_append];omega
  ·rw [hq,List.mem_append,hz,List.mem_append] at he
   rcases he with (he | he) | he
   ·exact g4 e (hxm e he)
   ·simp at he;rw [he];exact hd
   ·exact g4 e (hwm e he)
 ·rw [wrapS (by omega)]
  exact ⟨⟨i+1,rfl,by omega,by simp only;omega,hr.2⟩,by simp only [Int.toNat_natCast];omega⟩
theorem rule_def (c:sealwrightdraw_Codes) (hc:CdOk c):Def (draw_Codes_Rule c) (λr=>CdOk r.2):=by
 unfold draw_Codes_Rule
 refine Def.bd (next_def _ 5 hc (by decide)) (λr hr=>?_)
 obtain ⟨v,c1⟩:=r
 obtain ⟨a1,a2,a3⟩:=hr
 simp only at a1 a2 a3
 refine Def.c (λ_=>Def.s a3) (λ_=>Def.c (λ_=>?_) (λ_=>Def.c (λ_=>?_) (λ_=>?_)))
 ·exact Def.bd (line_def _ a3) (λr hr=>Def.s hr.2)
 ·refine Def.bd (next_def _ 7 a3 (by decide)) (λr hr=>?_)
  obtain ⟨v2,c2⟩:=r
  obtain ⟨b1,b2,b3⟩:=hr
  simp only at b1 b2 b3
  refine Def.bd (Def.ixN b1 (by show _<((7:Nat):Int);omega)) (λj hj=>?_)
  exact Def.bd (Def.at (by have:=hj.2;simpa using this)) (λ_ _=>Def.s b3)
 ·refine Def.bd (next_def _ 20 a3 (by decide)) (λr hr=>?_)
  obtain ⟨v2,c2⟩:=r
  obtain ⟨b1,b2,b3⟩:=hr
  simp only at b1 b2 b3
  refine Def.bd (next_def _ 3 b3 (by decide)) (λr hr=>?_)
  obtain ⟨v3,c3⟩:=r
  obtain ⟨d1,d2,d3⟩:=hr
  simp only at d1 d2 d3
  refine Def.bd (Def.idx d1 (by simpa using d2)) (λ_ _=>?_)
  exact Def.bd (next_def _ 30 d3 (by decide)) (λr hr=>Def.s hr.2.2)
theorem manifest_def (c:sealwrightdraw_Codes) (l:List api_Image) (hc:CdOk c) (h:GoodCh l):Def (draw_Codes_Manifest c l) (λr=>CdOk r.2):=by
 unfold draw_Codes_Manifest
 refine Def.bd (next_def _ 4 hc (by decide)) (λr hr=>?_)
 obtain ⟨v,c1⟩:=r
 obtain ⟨a1,a2,a3⟩:=hr
 simp only at a1 a2 a3
 refine Def.bd (P:=λ_=>True) (Def.s trivial) (λvs _=>?_)
 refine Def.bd (next_def _ 3 a3 (by decide)) (λr hr=>?_)
 obtain ⟨v2,c2⟩:=r
 obtain ⟨b1,b2,b3⟩:=hr
 simp only at b1 b2 b3
 refine Def.bd (Def.idx b1 (by simpa using b2)) (λvn _=>?_)
 refine Def.bd (describe_def vn v l h) (λm hm=>?_)
 refine Def.bd (P:=λr=>CdOk ⟨r.1,r.2.1⟩) ?_ (λr hr=>?_)
 ·refine Def.bd (next_def _ 3 b3 (by decide)) (λr hr=>?_)
  obtain ⟨v3,c3⟩:=r
  obtain ⟨d1,d2,d3⟩:=hr
  simp only at d1 d2 d3
  refine Def.c (λ_=>?_) (λ_=>Def.s d3)
  have e:IntKind.i64.wrap ((m.Entries.length:Int)+1)=(m.Entries.length:Int)+1:=wrapI (by omega) (by omega)
  refine Def.bd (next_def _ _ d3 (by rw [e];omega)) (λr hr=>?_)
  obtain ⟨v4,c4⟩:=r
  obtain ⟨e1,e2,e3⟩:=hr
  simp only at e1 e2 e3
  rw [e] at e2
  exact Def.bd (Def.sub (by decide) e1 (by omega)) (λ_ _=>Def.s e3)
 obtain ⟨B,A,es⟩:=r
 have hr':CdOk ⟨B,A⟩:=hr
 have e:IntKind.i64.wrap (v+1)=v+1:=wrapI (by omega) (by omega)
 refine Def.bd (next_def _ _ hr' (by rw [e];omega)) (λr hr=>?_)
 obtain ⟨v5,c5⟩:=r
 obtain ⟨_,_,f3⟩:=hr
 simp only at f3
 refine Def.bd (next_def _ 12 f3 (by decide)) (λr hr=>?_)
 obtain ⟨v6,c6⟩:=r
 obtain ⟨_,_,f3⟩:=hr
 simp only at f3
 refine Def.bd (next_def _ 30 f3 (by decide)) (λr hr=>?_)
 obtain ⟨v7,c7⟩:=r
 obtain ⟨_,_,f3⟩:=hr
 simp only at f3
 refine Def.bd (P:=λr=>CdOk ⟨r.1,r.2.1⟩) ?_ (λr hr=>?_)
 ·refine Def.bd (next_def _ 2 f3 (by decide)) (λr hr=>?_)
  exact Def.c (λ_=>Def.s hr.2.2) (λ_=>Def.s hr.2.2)
 obtain ⟨B,A,m2⟩:=r
 have hr':CdOk ⟨B,A⟩:=hr
 refine Def.bd (next_def _ 4 hr' (by decide)) (λr hr=>?_)
 obtain ⟨n,c8⟩:=r
 obtain ⟨g1,g2,g3⟩:=hr
 simp only at g1 g2 g3
 refine Def.bd (P:=λr=>CdOk ⟨r.1,r.2.1⟩) ?_ (λr hr=>Def.s hr)
 refine Def.loop (λs=>0<=s.1/\s.1+s.2.2.2.length<=4/\CdOk ⟨s.2.1,s.2.2.1⟩) (λs=>s.1.toNat) (λs hs=>?_) ⟨g1,by simp;omega,g3⟩ (by simp only;omega)
 obtain ⟨n,B,A,rs⟩:=s
 obtain ⟨k1,k2,k3⟩:=hs
 simp only at k1 k2 k3
 unfold draw_Codes_Manifest_l1
 refine Def.c (λh=>?_) (λ_=>Def.s k3)
 have:=dT h
 refine Def.bd (rule_def _ k3) (λr hr=>?_)
 refine Def.bd (Def.app (by simp;omega)) (λq hq=>Def.s ?_)
 rw [wrapI (by omega) (by omega)]
 exact ⟨⟨by simp only;omega,by simp only [hq,List.length_append,List.length_cons,List.length_nil];omega,hr⟩,by simp only;omega⟩
theorem manifests_def (codes:List UInt8) (l:List api_Image) (h:GoodCh l):Def (draw_Manifests codes l) (λ_=>True):=by
 unfold draw_Manifests
 refine Def.bd (new_def codes 120 (by decide) (by decide)) (λc hc=>?_)
 refine Def.bd (next_def _ 5 hc (by decide)) (λr hr=>?_)
 obtain ⟨n,c8⟩:=r
 obtain ⟨g1,g2,g3⟩:=hr
 simp only at g1 g2 g3
 refine Def.bd (P:=λ_=>True) ?_ (λ_ _=>Def.s trivial)
 refine Def.loop (λs=>0<=s.2.1/\s.2.1+s.1.length<=5/\CdOk ⟨s.2.2.1,s.2.2.2⟩) (λs=>s.2.1.toNat) (λs hs=>?_) ⟨g1,by simp;omega,g3⟩ (by simp only;omega)
 obtain ⟨ms,n,B,A⟩:=s
 obtain ⟨k1,k2,k3⟩:=hs
 simp only at k1 k2 k3
 unfold draw_Manifests_l1
 refine Def.c (λh=>?_) (λ_=>Def.s trivial)
 have:=dT h
 refine Def.bd (manifest_def _ l k3 ‹GoodCh l›) (λr hr=>?_)
 refine Def.bd (Def.app (by simp;omega)) (λq hq=>Def.s ?_)
 rw [wrapI (by omega) (by omega)]
 exact ⟨⟨by simp only;omega,by simp only [hq,List.length_append,List.length_cons,List.length_nil];omega,hr⟩,by simp only;omega⟩
end Go.Proofs.TT
namespace Go.Proofs.TT
open Go Go.Sw
set_option maxRecDepth 100000
theorem header_def (active resets:Int):Def (ref25_Header active resets) (λr=>r.length<=11):=by
 unfold ref25_Header
 refine Def.bd (P:=λ_=>True) ?_ (λb _=>?_)
 ·exact Def.c (λ_=>Def.s trivial) (λ_=>Def.c (λ_=>Def.s trivial) (λ_=>Def.c (λ_=>Def.s trivial) (λ_=>Def.s trivial)))
 refine Def.c (λ_=>Def.s (by simp)) (λ_=>?_)
 refine Def.bd (Def.app (by simp)) (λa ha=>?_)
 have hal:a.length=5:=by rw [ha];rfl
 refine Def.bd (P:=λr=>r.length=11) (Def.of (ref_Uint a 6 resets (by omega) (by omega) (by omega)) (by rw [uintB_len];omega)) (λr hr=>Def.s (by omega))
def hasB (active a:Int):Bool:=iand .i64 (ishr .i64 active (IntKind.u64.wrap a)) 1==1
def siz (a:Int):Int:=if a=0 then 20 else if a=1 then 32 else 0
theorem size_eq (a:Int):ref1_Size a=some (siz a):=by
 unfold ref1_Size siz
 by_cases h0:a=0
 ·rw [if_pos h0];exact ct (by simp [h0]) rfl
 ·rw [if_neg h0]
  refine cf (by simp [h0]) ?_
  by_cases h1:a=1
  ·rw [if_pos h1];exact ct (by simp [h1]) rfl
  ·rw [if_neg h1];exact cf (by simp [h1]) rfl
def Fit (e:api_Event) (active:Int) (a:Nat):Prop:=((e.Digests.getD a []).length:Int)=if e.Kind≠5/\hasB active (a:Int)=true then siz (a:Int) else 0
theorem fit_def (e:api_Event) (active:Int):Def (ref25_digestsFit e active) (λr=>r=true->e.Digests.length=2/\Fit e active 0/\Fit e active 1):=by
 unfold ref25_digestsFit
 refine Def.c (λ_=>Def.s (λh=>by simp at h)) (λh=>?_)
 have hl:e.Digests.length=2:=by simp at h;omega
 refine Def.bd (P:=λr=>match r with | .inl b=>b=false | .inr _=>Fit e active 0/\Fit e active 1) ?_ (λr hr=>?_)
 ·refine Def.loop (λs=>∃ a:Nat,s=(a:Int)/\a<=2/\∀ b,b<a->Fit e active b) (λs=>2 - s.toNat) (λs hs=>?_) ⟨0,rfl,by omega,λb hb=>by omega⟩ (by simp)
  obtain ⟨a,rfl,ha,hf⟩:=hs
  unfold ref25_digestsFit_l1
  refine Def.c (λh=>?_) (λh=>Def.s ?_)
  ·have ha2:=dT h
   refine Def.bd (P:=λw=>w=if e.Kind≠5/\hasB active (a:Int)=true then siz (a:Int) else 0) ?_ (λw hw=>?_)
   ·refine Def.bd (P:=λb=>b=true↔(e.Kind≠5/\hasB active (a:Int)=true)) ?_ (λb hb=>?_)
    ·refine Def.c (λhk=>?_) (λhk=>Def.s ?_)
     ·refine Def.bd (P:=λb=>b=hasB active (a:Int)) (Def.lt (Def.s rfl)) (λb hb=>Def.s ?_)
      have hk':e.Kind≠5:=by simpa using hk
      rw [hb]
      exact ⟨λh=>⟨hk',h⟩,λh=>h.2⟩
     ·have hk':e.Kind=5:=by simpa using hk
      exact ⟨λh=>by simp at h,λh=>absurd hk' h.1⟩
    ·refine Def.c (λh=>?_) (λh=>Def.s ?_)
     ·refine Def.bd (P:=λr=>r=siz (a:Int)) (Def.of (size_eq _) rfl) (λr hr=>Def.s ?_)
      rw [if_pos (hb.mp h)];exact hr
     ·rw [if_neg (λh2=>by rw [hb.mpr h2] at h;cases h)]
   refine Def.bd (Def.at' (show a<e.Digests.length by omega)) (λd hd=>?_)
   refine Def.c (λ_=>Def.s rfl) (λhne=>Def.s ?_)
   have hne':(d.length:Int)=w:=by simpa using hne
   rw [wrapS (by omega)]
   refine ⟨⟨a+1,rfl,by omega,λb hb=>?_⟩,by simp only [Int.toNat_natCast];omega⟩
   by_cases hba:b<a
   ·exact hf b hba
   ·have:b=a:=by omega
    subst this
    unfold Fit
    rw [<- hw,<- hne',hd]
    have:b<e.Digests.length:=by omega
    simp [this]
  ·have:=dF h
   exact ⟨hf 0 (by omega),hf 1 (by omega)⟩
 ·cases r with
  | inl b=>exact Def.s (λh=>by rw [hr] at h;cases h)
  | inr u=>exact Def.s (λ_=>⟨hl,hr⟩)
structure EvGood (e:api_Event) (active:Int):Prop where
 r0:0<=e.Register
 r1:e.Register<=11
 d:e.Data.length<=64
 l:e.Digests.length=2
 f0:Fit e active 0
 f1:Fit e active 1
theorem ev_def (e:api_Event) (active:Int):Def (ref25_Event e active) (λr=>r=0->EvGood e active):=by
 unfold ref25_Event
 refine Def.bd (P:=λb=>b=false->0<=e.Register/\e.Register<=11) ?_ (λb hb=>?_)
 ·refine Def.c (λ_=>Def.s (λh=>by cases h)) (λ_=>Def.c (λ_=>Def.s (λh=>by cases h)) (λ_=>Def.c (λ_=>Def.s (λh=>by cases h)) (λh1=>Def.c (λ_=>Def.s (λh=>by cases h)) (λh2=>Def.c (λ_=>Def.s (λh=>by cases h)) (λ_=>Def.s (λ_=>?_))))))
  have:=dF h1
  have:=dF h2
  omega
 refine Def.c (λ_=>Def.s (λh=>by cases h)) (λhbf=>?_)
 have hr:=hb hbf
 refine Def.c (λ_=>Def.s (λh=>by cases h)) (λhd=>?_)
 have hd':=dF hd
 refine Def.bd (fit_def e active) (λf hf=>?_)
 refine Def.c (λ_=>Def.s (λh=>by cases h)) (λhft=>Def.s (λ_=>?_))
 obtain ⟨k1,k2,k3⟩:=hf (by simpa using hft)
 exact ⟨hr.1,hr.2,by omega,k1,k2,k3⟩
theorem encEvent_def (e:api_Event):Def (ref25_EncodeEvent e) (λr=>r.length<2 ^ 20):=by
 unfold ref25_EncodeEvent
 refine Def.bd (P:=λb=>b=true->e.Digests.length=2) ?_ (λb hb=>?_)
 ·unfold ref25_Writable
  refine Def.bd (P:=λb=>b=false->e.Digests.length=2) ?_ (λb hb=>?_)
  ·refine Def.c (λ_=>Def.s (λh=>by cases h)) (λ_=>Def.c (λ_=>Def.s (λh=>by cases h)) (λ_=>Def.c (λ_=>Def.s (λh=>by cases h)) (λh1=>Def.c (λ_=>Def.s (λh=>by cases h)) (λh2=>Def.c (λ_=>Def.s (λh=>by cases h)) (λ_=>Def.s (λh=>?_))))))
   simp at h
   omega
  refine Def.c (λ_=>Def.s (λh=>by cases h)) (λhbf=>?_)
  have hl:=hb hbf
  refine Def.bd (P:=λ_=>True) ?_ (λ_ _=>Def.s (λ_=>hl))
  refine Def.bd (Def.idx (by decide) (by omega)) (λ_ _=>?_)
  refine Def.c (λ_=>?_) (λ_=>Def.s trivial)
  exact Def.bd (Def.idx (by decide) (by omega)) (λ_ _=>Def.s trivial)
 refine Def.c (λ_=>Def.s (by simp)) (λhbt=>?_)
 have hl:=hb (by simpa using hbt)
 refine Def.bd (Def.idx (by decide) (by omega)) (λd0 _=>?_)
 refine Def.bd (P:=λr=>r.length<=2+65537) (Def.of (ref_Blob _ _ (by simp)) (blobB_len _ _)) (λa ha=>?_)
 refine Def.bd (Def.idx (by decide) (by omega)) (λd1 _=>?_)
 refine Def.bd (P:=λr=>r.length<=a.length+65537) (Def.of (ref_Blob _ _ (by omega)) (blobB_len _ _)) (λb hb=>?_)
 refine Def.bd (P:=λr=>r.length<=b.length+65537) (Def.of (ref_Blob _ _ (by omega)) (blobB_len _ _)) (λc hc=>Def.s (by omega))
theorem format_def (l:api_Log) (h:l.Events.length<2 ^ 20):Def (ref25_Format l) (λr=>r.1.length<=8192):=by
 unfold ref25_Format
 refine Def.bd (header_def _ _) (λhd hhd=>?_)
 refine Def.c (λ_=>Def.s (by simp)) (λ_=>?_)
 refine Def.bd (P:=λr=>match r with | .inl v=>v.1=[] | .inr _=>True) ?_ (λr hr=>?_)
 ·refine Def.loop (λs=>∃ a:Nat,s=(a:Int)/\a<=l.Events.length) (λs=>l.Events.length - s.toNat) (λs hs=>?_) ⟨0,rfl,by omega⟩ (by simp;omega)
  obtain ⟨a,rfl,ha⟩:=hs
  unfold ref25_Format_l1
  refine Def.c (λh=>?_) (λ_=>Def.s trivial)
  have:=dT h
  refine Def.bd (Def.idx (by omega) this) (λe _=>?_)
  refine Def.bd (ev_def e _) (λr _=>?_)
  refine Def.c (λ_=>Def.s rfl) (λ_=>Def.s ?_)
  rw [wrapS (by omega)]
  exact ⟨⟨a+1,rfl,by omega⟩,by simp only [Int.toNat_natCast];omega⟩
 ·cases r with
  | inl v=>exact Def.s (by rw [hr];simp)
  | inr u=>
   refine Def.c (λ_=>Def.s (by simp)) (λh40=>?_)
   have h40':=dF h40
   refine Def.bd (P:=λb=>b.length<2 ^ 30) ?_ (λb hb=>Def.c (λ_=>Def.s (by simp)) (λh=>Def.s (by have:=dF h;simp only;omega)))
   obtain ⟨K,hK⟩:∃ K:Nat,K=65537:=⟨_,rfl⟩
   refine Def.loop (λs=>∃ a:Nat,s.2=(a:Int)/\a<=l.Events.length/\s.1.length<=11+K*a) (λs=>l.Events.length - s.2.toNat) (λs hs=>?_) ⟨0,rfl,by omega,by simpa using hhd⟩ (by simp;omega)
   obtain ⟨b,a'⟩:=s
   obtain ⟨a,g1,g2,g3⟩:=hs
   simp only at g1 g3
   subst g1
   have hKa:K*a<=K*40:=Nat.mul_le_mul_left K (by omega)
   unfold ref25_Format_l2
   refine Def.c (λh=>?_) (λ_=>Def.s (by omega))
   have:=dT h
   refine Def.bd (Def.idx (by omega) this) (λe _=>?_)
   refine Def.bd (encEvent_def e) (λx hx=>?_)
   refine Def.bd (P:=λr=>r.length<=b.length+65537) (Def.of (ref_Blob _ _ (by omega)) (blobB_len _ _)) (λc hc=>Def.s ?_)
   rw [wrapS (by omega)]
   have hms:K*(a+1)=K*a+K:=Nat.mul_succ K a
   exact ⟨⟨a+1,rfl,by omega,by simp only;omega⟩,by simp only [Int.toNat_natCast];omega⟩
def bnk (n:Nat):List (List UInt8):=List.replicate 12 (List.replicate n 0)++List.replicate 4 (List.replicate n 255)
theorem new1:ref8_New 1=some ⟨[bnk 20,[]],0⟩:=by decide +kernel
theorem new2:ref8_New 2=some ⟨[[],bnk 32],0⟩:=by decide +kernel
theorem new3:ref8_New 3=some ⟨[bnk 20,bnk 32],0⟩:=by decide +kernel
theorem sel1:ref36_Selection 1=some ⟨4095,0⟩:=by decide +kernel
theorem sel2:ref36_Selection 2=some ⟨0,4095⟩:=by decide +kernel
theorem sel3:ref36_Selection 3=some ⟨4095,4095⟩:=by decide +kernel
structure BkOk (active:Int) (r:api_Registers):Prop where
 b:∃ b0 b1,r.Banks=[b0,b1]/\b0.length=(if hasB active 0=true then 16 else 0)/\b1.length=(if hasB active 1=true then 16 else 0)/\(∀ x∈b0,x.length<=32)/\(∀ x∈b1,x.length<=32)
theorem act_eq (b0 b1:List (List UInt8)) (u:Int):ref8_Active ⟨[b0,b1],u⟩ 0=some (decide (0<(b0.length:Int)))/\ref8_Active ⟨[b0,b1],u⟩ 1=some (decide (0<(b1.length:Int))):=⟨rfl,rfl⟩
theorem copyL_def (r:api_Registers) (b0 b1:List (List UInt8)) (hb:r.Banks=[b0,b1]) (l0:b0.length<=16) (l1:b1.length<=16) (h0:∀ x∈b0,x.length<=32) (h1:∀ x∈b1,x.length<=32):ref8_Copy r=some (b0,b1,r.Updates):=by
 have cp:∀ x:List UInt8,x.length<=32->ref1_Copy x=some x:=λx hx=>copy_eq x (by omega)
 unfold ref8_Copy
 refine ct (by rw [hb];rfl) ?_
 refine bd (a:=b0) ?_ ?_
 ·refine loopT_run b0.length (λi=>(b0.take i,(i:Int))) (by simp) (λi hi=>?_) ?_ (lt_FU (by omega))
  ·unfold ref8_Copy_l1
   rw [hb]
   refine bd (a:=b0) rfl ?_
   refine ct (dlt hi) ?_
   refine bd (a:=b0) rfl ?_
   refine bd (idx_eq hi) ?_
   refine bd (cp _ (h0 _ (List.getElem_mem hi))) ?_
   refine bd (appL_eq (by simp;omega)) ?_
   rw [wrapS (show i<2 ^ 40 by omega),List.take_add_one]
   simp [hi]
  ·unfold ref8_Copy_l1
   rw [hb]
   refine bd (a:=b0) rfl ?_
   refine cf (dge (Nat.le_refl _)) ?_
   simp
 refine ct (by rw [hb];rfl) ?_
 refine bd (a:=(b1,b0)) ?_ ?_
 ·refine loopT_run b1.length (λi=>(b1.take i,(i:Int),b0)) (by simp) (λi hi=>?_) ?_ (lt_FU (by omega))
  ·unfold ref8_Copy_l2
   rw [hb]
   refine bd (a:=b1) rfl ?_
   refine ct (dlt hi) ?_
   refine bd (a:=b1) rfl ?_
   refine bd (idx_eq hi) ?_
   refine bd (cp _ (h1 _ (List.getElem_mem hi))) ?_
   refine bd (appL_eq (by simp;omega)) ?_
   rw [wrapS (show i<2 ^ 40 by omega),List.take_add_one]
   simp [hi]
  ·unfold ref8_Copy_l2
   rw [hb]
   refine bd (a:=b1) rfl ?_
   refine cf (dge (Nat.le_refl _)) ?_
   simp
 exact cf (by rw [hb];rfl) rfl
theorem extend_def (r:api_Registers) (active:Int) (e:api_Event) (hr:BkOk active r) (he:EvGood e active) (hk:e.Kind≠5):Def (ref8_Extend r 0 e.Register e.Digests) (λx=>BkOk active x.1):=by
 obtain ⟨⟨b0,b1,hb,l0,l1,m0,m1⟩⟩:=hr
 obtain ⟨r0,r1,_,dl,f0,f1⟩:=he
 obtain ⟨bs,u⟩:=r
 simp only at hb
 subst hb
 have l0':b0.length<=16:=by rw [l0];split<;>omega
 have l1':b1.length<=16:=by rw [l1];split<;>omega
 unfold Fit at f0 f1
 have f0':((e.Digests.getD 0 []).length:Int)<=32:=by rw [f0];split<;>decide
 have f1':((e.Digests.getD 1 []).length:Int)<=32:=by rw [f1];split<;>decide
 have g0:∀ d∈e.Digests,d.length<=32:=by
  intro d hd
  obtain ⟨i,hi,rfl⟩:=List.mem_iff_getElem.mp hd
  have hi2:i=0∨i=1:=by omega
  rcases hi2 with rfl | rfl
  ·have:(e.Digests.getD 0 [])=e.Digests[0]:=by simp [hi]
   rw [<- this]
   omega
  ·have:(e.Digests.getD 1 [])=e.Digests[1]:=by simp [hi]
   rw [<- this]
   omega
 have i0:idx e.Digests 0=some (e.Digests.getD 0 []):=getL (i:=0) (by omega)
 have i1:idx e.Digests 1=some (e.Digests.getD 1 []):=getL (i:=1) (by omega)
 have a0:ref8_Active ⟨[b0,b1],u⟩ 0=some (hasB active 0):=by
  rw [(act_eq b0 b1 u).1,l0];cases hasB active 0<;>rfl
 have a1:ref8_Active ⟨[b0,b1],u⟩ 1=some (hasB active 1):=by
  rw [(act_eq b0 b1 u).2,l1];cases hasB active 1<;>rfl
 unfold ref8_Extend
 refine Def.bd (P:=λb=>b=false) ?_ (λb hb=>?_)
 ·refine Def.c (λh=>by cases h) (λ_=>Def.c (λh=>by cases h) (λ_=>Def.c (λh=>?_) (λ_=>Def.c (λh=>?_) (λ_=>Def.s ?_))))
  ·have:=dT h;omega
  ·have:=dT h;omega
  ·simp;omega
 subst hb
 refine Def.c (λh=>by cases h) (λ_=>?_)
 refine Def.bd (P:=λn=>n=0) ?_ (λn hn=>?_)
 ·unfold ref8_Least
  refine Def.bd (P:=λb=>b=false) (Def.s rfl) (λb hb=>?_)
  subst hb
  refine Def.c (λh=>by cases h) (λ_=>?_)
  have e14:(e.Register==14)=false:=by simp;omega
  have e15:(e.Register==15)=false:=by simp;omega
  rw [e14,e15]
  exact Def.s rfl
 subst hn
 refine Def.c (λh=>by cases h) (λ_=>?_)
 refine Def.bd (P:=λr=>r=.inr ()) ?_ (λr hr=>?_)
 ·refine Def.loop (λs=>s=0∨s=1∨s=2) (λs=>2 - s.toNat) (λs hs=>?_) (.inl rfl) (by simp)
  unfold ref8_Extend_l1
  refine Def.c (λh=>?_) (λh=>Def.s rfl)
  refine Def.bd (P:=λb=>b=false) ?_ (λb hb=>?_)
  ·rcases hs with rfl | rfl | rfl
   ·refine Def.bd (P:=λb=>b=hasB active 0) (Def.of a0 rfl) (λb hb=>?_)
    subst hb
    refine Def.c (λh=>?_) (λ_=>Def.s rfl)
    refine Def.bd (P:=λd=>d=e.Digests.getD 0 []) (Def.of i0 rfl) (λd hd=>Def.s ?_)
    have hh:hasB active 0=false:=by simpa using h
    rw [if_neg (by show ¬ (e.Kind≠5/\hasB active 0=true);rw [hh];simp)] at f0
    rw [decide_eq_false_iff_not,hd];omega
   ·refine Def.bd (P:=λb=>b=hasB active 1) (Def.of a1 rfl) (λb hb=>?_)
    subst hb
    refine Def.c (λh=>?_) (λ_=>Def.s rfl)
    refine Def.bd (P:=λd=>d=e.Digests.getD 1 []) (Def.of i1 rfl) (λd hd=>Def.s ?_)
    have hh:hasB active 1=false:=by simpa using h
    rw [if_neg (by show ¬ (e.Kind≠5/\hasB active 1=true);rw [hh];simp)] at f1
    rw [decide_eq_false_iff_not,hd];omega
   ·cases h
  subst hb
  refine Def.s ?_
  rcases hs with rfl | rfl | rfl
  ·exact ⟨.inr (.inl rfl),by decide⟩
  ·exact ⟨.inr (.inr rfl),by decide⟩
  ·cases h
 subst hr
 refine Def.bd (P:=λr=>r=.inr ()) ?_ (λr hr=>?_)
 ·refine Def.loop (λs=>s=0∨s=1∨s=2) (λs=>2 - s.toNat) (λs hs=>?_) (.inl rfl) (by simp)
  unfold ref8_Extend_l2
  refine Def.c (λh=>?_) (λh=>Def.s rfl)
  refine Def.bd (P:=λb=>b=false) ?_ (λb hb=>?_)
  ·rcases hs with rfl | rfl | rfl
   ·refine Def.bd (P:=λb=>b=hasB active 0) (Def.of a0 rfl) (λb hb=>?_)
    subst hb
    refine Def.c (λh=>?_) (λ_=>Def.s rfl)
    refine Def.bd (P:=λd=>d=e.Digests.getD 0 []) (Def.of i0 rfl) (λd hd=>?_)
    refine Def.bd (P:=λd=>d=siz 0) (Def.of (size_eq 0) rfl) (λz hz=>Def.s ?_)
    rw [if_pos ⟨hk,h⟩] at f0
    rw [hd,hz];simp;exact f0
   ·refine Def.bd (P:=λb=>b=hasB active 1) (Def.of a1 rfl) (λb hb=>?_)
    subst hb
    refine Def.c (λh=>?_) (λ_=>Def.s rfl)
    refine Def.bd (P:=λd=>d=e.Digests.getD 1 []) (Def.of i1 rfl) (λd hd=>?_)
    refine Def.bd (P:=λd=>d=siz 1) (Def.of (size_eq 1) rfl) (λz hz=>Def.s ?_)
    rw [if_pos ⟨hk,h⟩] at f1
    rw [hd,hz];simp;exact f1
   ·cases h
  subst hb
  refine Def.s ?_
  rcases hs with rfl | rfl | rfl
  ·exact ⟨.inr (.inl rfl),by decide⟩
  ·exact ⟨.inr (.inr rfl),by decide⟩
  ·cases h
 subst hr
 refine Def.bd (P:=λx=>x=(b0,b1,u)) (Def.of (copyL_def _ b0 b1 rfl l0' l1' m0 m1) rfl) (λx hx=>?_)
 subst hx
 refine Def.bd (P:=λb=>b.length=b0.length/\∀ x∈b,x.length<=32) ?_ (λc0 hc0=>?_)
 ·refine Def.bd (P:=λb=>b=hasB active 0) (Def.of a0 rfl) (λb hb=>?_)
  subst hb
  refine Def.c (λh=>?_) (λ_=>Def.s ⟨rfl,m0⟩)
  rw [if_pos h] at l0
  refine Def.bd (P:=λb=>b=b0) (Def.s rfl) (λb hb=>?_)
  subst hb
  refine Def.bd (Def.idx r0 (by omega)) (λx hx=>?_)
  have:=m0 x hx
  refine Def.bd (P:=λy=>y=x) (Def.of (copy_eq x (by omega)) rfl) (λy hy=>?_)
  subst hy
  refine Def.bd (P:=λd=>d∈e.Digests) (Def.idx (by decide) (by omega)) (λd hd=>?_)
  have:=g0 d hd
  refine Def.bd (Def.app (by omega)) (λz hz=>?_)
  have hzl:z.length=y.length+d.length:=by rw [hz];simp
  refine Def.bd (sum_def 0 z (by omega)) (λs hs=>?_)
  refine Def.bd (Def.ixN r0 (by omega)) (λj hj=>?_)
  refine Def.bd (Def.upd hj.2) (λq hq=>Def.s ⟨by rw [hq];simp,λx hx=>?_⟩)
  rw [hq] at hx
  rcases List.mem_or_eq_of_mem_set hx with hx | hx
  ·exact m0 x hx
  ·rw [hx];exact hs.1
 refine Def.bd (P:=λb=>b.length=b1.length/\∀ x∈b,x.length<=32) ?_ (λc1 hc1=>?_)
 ·refine Def.bd (P:=λb=>b=hasB active 1) (Def.of a1 rfl) (λb hb=>?_)
  subst hb
  refine Def.c (λh=>?_) (λ_=>Def.s ⟨rfl,m1⟩)
  rw [if_pos h] at l1
  refine Def.bd (P:=λb=>b=b1) (Def.s rfl) (λb hb=>?_)
  subst hb
  refine Def.bd (Def.idx r0 (by omega)) (λx hx=>?_)
  have:=m1 x hx
  refine Def.bd (P:=λy=>y=x) (Def.of (copy_eq x (by omega)) rfl) (λy hy=>?_)
  subst hy
  refine Def.bd (P:=λd=>d∈e.Digests) (Def.idx (by decide) (by omega)) (λd hd=>?_)
  have:=g0 d hd
  refine Def.bd (Def.app (by omega)) (λz hz=>?_)
  have hzl:z.length=y.length+d.length:=by rw [hz];simp
  refine Def.bd (sum_def 1 z (by omega)) (λs hs=>?_)
  refine Def.bd (Def.ixN r0 (by omega)) (λj hj=>?_)
  refine Def.bd (Def.upd hj.2) (λq hq=>Def.s ⟨by rw [hq];simp,λx hx=>?_⟩)
  rw [hq] at hx
  rcases List.mem_or_eq_of_mem_set hx with hx | hx
  ·exact m1 x hx
  ·rw [hx];exact hs.1
 exact Def.s ⟨⟨c0,c1,rfl,by rw [hc0.1,l0],by rw [hc1.1,l1],hc0.2,hc1.2⟩⟩
end Go.Proofs.TT
namespace Go.Proofs.TT
open Go Go.Sw
set_option maxRecDepth 100000
theorem act3 {a:Int} (h1:1<=a) (h3:a<=3):a=1∨a=2∨a=3:=by omega
theorem bnk_len (n:Nat):(bnk n).length=16:=by simp [bnk]
theorem bnk_el (n:Nat) (h:n<=32):∀ x∈bnk n,x.length<=32:=by
 intro x hx
 simp only [bnk,List.mem_append,List.mem_replicate] at hx
 rcases hx with ⟨_,rfl⟩ | ⟨_,rfl⟩<;>simp [h]
theorem new_bk (active:Int) (h1:1<=active) (h3:active<=3):Def (ref8_New active) (BkOk active):=by
 rcases act3 h1 h3 with rfl | rfl | rfl
 ·exact Def.of new1 ⟨⟨_,_,rfl,bnk_len 20,rfl,bnk_el 20 (by omega),by simp⟩⟩
 ·exact Def.of new2 ⟨⟨_,_,rfl,rfl,bnk_len 32,by simp,bnk_el 32 (by omega)⟩⟩
 ·exact Def.of new3 ⟨⟨_,_,rfl,bnk_len 20,bnk_len 32,bnk_el 20 (by omega),bnk_el 32 (by omega)⟩⟩
theorem replay_def (l:api_Log) (h:l.Events.length<2 ^ 20) (h1:1<=l.Active) (h3:l.Active<=3):Def (ref25_Replay l) (λr=>r.2=0->BkOk l.Active r.1):=by
 unfold ref25_Replay
 refine Def.bd (P:=λb=>b=false) ?_ (λb hb=>?_)
 ·refine Def.c (λh=>by have:=dT h;omega) (λ_=>Def.s ?_)
  rw [decide_eq_false_iff_not];omega
 subst hb
 refine Def.c (λh=>by cases h) (λ_=>?_)
 refine Def.bd (P:=λr=>match r with | .inl v=>v.2≠0 | .inr _=>∀ e∈l.Events,EvGood e l.Active) ?_ (λr hr=>?_)
 ·refine Def.loop (λs=>∃ a:Nat,s=(a:Int)/\a<=l.Events.length/\∀ e∈l.Events.take a,EvGood e l.Active) (λs=>l.Events.length - s.toNat) (λs hs=>?_) ⟨0,rfl,by omega,by simp⟩ (by simp;omega)
  obtain ⟨a,rfl,ha,hg⟩:=hs
  unfold ref25_Replay_l1
  refine Def.c (λh=>?_) (λh=>Def.s ?_)
  ·have ha2:a<l.Events.length:=by have:=dT h;omega
   refine Def.bd (Def.at' ha2) (λe he=>?_)
   subst he
   refine Def.bd (ev_def _ _) (λr hr=>?_)
   refine Def.c (λhz=>Def.s (by simpa using hz)) (λhz=>Def.s ?_)
   have hz':r=0:=by simpa using hz
   rw [wrapS (by omega)]
   refine ⟨⟨a+1,rfl,by omega,λe he=>?_⟩,by simp only [Int.toNat_natCast];omega⟩
   rcases mem_take_succ ha2 he with he | rfl
   ·exact hg e he
   ·exact hr hz'
  ·have:=dF h
   rw [List.take_of_length_le (by omega)] at hg
   exact hg
 cases r with
 | inl v=>exact Def.s (λh=>absurd h hr)
 | inr u=>
  have hr':∀ e∈l.Events,EvGood e l.Active:=hr
  refine Def.bd (new_bk _ h1 h3) (λrg hrg=>?_)
  refine Def.bd (P:=λr=>BkOk l.Active ⟨r.1,r.2⟩) ?_ (λr hr=>Def.s (λ_=>hr))
  refine Def.loop (λs=>∃ a:Nat,s.1=(a:Int)/\a<=l.Events.length/\BkOk l.Active ⟨s.2.1,s.2.2⟩) (λs=>l.Events.length - s.1.toNat) (λs hs=>?_) ⟨0,rfl,by omega,hrg⟩ (by simp;omega)
  obtain ⟨a',bs,up⟩:=s
  obtain ⟨a,g1,g2,g3⟩:=hs
  simp only at g1 g3
  subst g1
  unfold ref25_Replay_l2
  refine Def.c (λh=>?_) (λh=>Def.s g3)
  have ha2:a<l.Events.length:=by have:=dT h;omega
  refine Def.bd (P:=λr=>BkOk l.Active ⟨r.1,r.2⟩) ?_ (λr hr=>Def.s ?_)
  ·refine Def.bd (Def.at' ha2) (λe he=>?_)
   subst he
   refine Def.c (λhk=>?_) (λ_=>Def.s g3)
   have hk':l.Events[a].Kind≠5:=by simpa using hk
   refine Def.bd (Def.at' ha2) (λe he=>?_)
   subst he
   refine Def.bd (Def.at' ha2) (λe he=>?_)
   subst he
   exact Def.bd (extend_def _ l.Active _ g3 (hr' _ (List.getElem_mem ha2)) hk') (λr hr=>Def.s hr)
  ·rw [wrapS (by omega)]
   exact ⟨⟨a+1,rfl,by omega,hr⟩,by simp only [Int.toNat_natCast];omega⟩
theorem bit0 (x:Int):(iand .i64 (ishr .i64 0 x) 1==1)=false:=by
 unfold ishr
 rw [Int.zero_fdiv]
 decide
def selOf (active a:Int):Int:=if hasB active a=true then 4095 else 0
theorem sel_def (active:Int) (h1:1<=active) (h3:active<=3):ref36_Selection active=some ⟨selOf active 0,selOf active 1⟩:=by
 rcases act3 h1 h3 with rfl | rfl | rfl
 ·exact sel1
 ·exact sel2
 ·exact sel3
theorem dg_l2 (r:api_Registers) (s:A2 Int) (a:Int) (v:Int) (bk:List (List UInt8)) (hv:((ixN 2 a).bind λj=>[s.a0,s.a1][j]?)=some v) (hi:idx r.Banks a=some bk) (hz:v=0∨bk.length=16) (hb:∀ x∈bk,x.length<=32) (all:List UInt8) (hl:all.length<=600) :
  Def (loopT (ref8_Digest_l2 r s a) FU (all,0)) (λo=>o.length<=all.length+512):=by
 refine Def.loop (λst=>0<=st.2/\st.2<=16/\(st.1.length:Int)<=all.length+32*st.2) (λst=>(16 - st.2).toNat) (λst hs=>?_) ⟨Int.le_refl 0,by simp,by simp⟩ (by simp)
 obtain ⟨o,i⟩:=st
 obtain ⟨g1,g2,g3⟩:=hs
 simp only at g1 g2 g3
 unfold ref8_Digest_l2
 refine Def.c (λh=>?_) (λh=>Def.s (by omega))
 have hi16:=dT h
 refine Def.bd (P:=λx=>(x.length:Int)<=o.length+32) ?_ (λx hx=>Def.s ?_)
 ·have e:∀ (f:Int->Option (List UInt8)),((ixN 2 a).bind λj=>([s.a0,s.a1][j]?).bind f)=f v:=by
   intro f
   rw [<- Option.bind_assoc,hv];rfl
  rw [e]
  refine Def.c (λhbit=>?_) (λ_=>Def.s (by omega))
  have h16:bk.length=16:=by
   rcases hz with h | h
   ·rw [h,bit0] at hbit;cases hbit
   ·exact h
  refine Def.bd (P:=λx=>x=bk) (Def.of hi rfl) (λx hx=>?_)
  subst hx
  refine Def.bd (Def.idx g1 (by omega)) (λy hy=>?_)
  have:=hb y hy
  exact Def.bd (Def.app (by omega)) (λz hz=>Def.s (by rw [hz,List.length_append];omega))
 ·rw [wrapI (by omega) (by omega)]
  exact ⟨⟨by simp only;omega,by simp only;omega,by simp only;omega⟩,by simp only;omega⟩
theorem rdigest_def (r:api_Registers) (active:Int) (hr:BkOk active r):Def (ref8_Digest r ⟨selOf active 0,selOf active 1⟩) (λx=>x.1.length=32∨x.1.length=0):=by
 obtain ⟨⟨b0,b1,hb,l0,l1,m0,m1⟩⟩:=hr
 obtain ⟨bs,u⟩:=r
 simp only at hb
 subst hb
 have s0:0<=selOf active 0/\selOf active 0<=65535:=by unfold selOf;split<;>decide
 have s1:0<=selOf active 1/\selOf active 1<=65535:=by unfold selOf;split<;>decide
 have z0:selOf active 0=0∨b0.length=16:=by unfold selOf;split at l0<;>simp_all
 have z1:selOf active 1=0∨b1.length=16:=by unfold selOf;split at l1<;>simp_all
 generalize selOf active 0=x0 at s0 z0
 generalize selOf active 1=x1 at s1 z1
 unfold ref8_Digest
 refine Def.bd (P:=λr=>r=.inr ()) ?_ (λr hr=>?_)
 ·refine Def.loop (λs=>s=0∨s=1∨s=2) (λs=>2 - s.toNat) (λs hs=>?_) (.inl rfl) (by simp)
  unfold ref8_Digest_l1
  refine Def.c (λh=>?_) (λh=>Def.s rfl)
  refine Def.bd (P:=λb=>b=false) ?_ (λb hb=>?_)
  ·rcases hs with rfl | rfl | rfl
   ·refine Def.c (b:=decide (x0<0)) (λh=>by have:=dT h;omega) (λ_=>?_)
    refine Def.of (a:=decide (65535<x0)) rfl ?_
    rw [decide_eq_false_iff_not];omega
   ·refine Def.c (b:=decide (x1<0)) (λh=>by have:=dT h;omega) (λ_=>?_)
    refine Def.of (a:=decide (65535<x1)) rfl ?_
    rw [decide_eq_false_iff_not];omega
   ·cases h
  subst hb
  refine Def.s ?_
  rcases hs with rfl | rfl | rfl
  ·exact ⟨.inr (.inl rfl),by decide⟩
  ·exact ⟨.inr (.inr rfl),by decide⟩
  ·cases h
 subst hr
 refine Def.bd (P:=λr=>match r with | .inl v=>v.1.length=0 | .inr o=>o.length<=1100) ?_ (λr hr=>?_)
 ·refine Def.loop (λs=>(s.2=0/\s.1=[])∨(s.2=1/\s.1.length<=512)∨(s.2=2/\s.1.length<=1024)) (λs=>2 - s.2.toNat) (λs hs=>?_) (.inl ⟨rfl,rfl⟩) (by simp)
  obtain ⟨o,a⟩:=s
  simp only at hs
  unfold ref8_Digest_l3
  refine Def.c (λh=>?_) (λh=>Def.s ?_)
  ·refine Def.bd (P:=λ_=>True) ?_ (λb _=>?_)
   ·rcases hs with ⟨rfl,_⟩ | ⟨rfl,_⟩ | ⟨rfl,_⟩
    ·refine Def.c (b:=x0 != 0) (λ_=>?_) (λ_=>Def.s trivial)
     exact Def.of (a:=!(decide (0<(b0.length:Int)))) rfl trivial
    ·refine Def.c (b:=x1 != 0) (λ_=>?_) (λ_=>Def.s trivial)
     exact Def.of (a:=!(decide (0<(b1.length:Int)))) rfl trivial
    ·cases h
   refine Def.c (λ_=>Def.s rfl) (λ_=>?_)
   rcases hs with ⟨rfl,rfl⟩ | ⟨rfl,ho⟩ | ⟨rfl,_⟩
   ·refine Def.bd (dg_l2 _ _ 0 x0 b0 rfl rfl z0 m0 [] (by simp)) (λq hq=>Def.s ?_)
    exact ⟨.inr (.inl ⟨rfl,by simpa using hq⟩),by show 2 - (IntKind.i64.wrap (0+1)).toNat<2 - (0:Int).toNat;decide⟩
   ·refine Def.bd (dg_l2 _ _ 1 x1 b1 rfl rfl z1 m1 o (by omega)) (λq hq=>Def.s ?_)
    exact ⟨.inr (.inr ⟨rfl,by simp only;omega⟩),by show 2 - (IntKind.i64.wrap (1+1)).toNat<2 - (1:Int).toNat;decide⟩
   ·cases h
  ·rcases hs with ⟨rfl,_⟩ | ⟨rfl,_⟩ | ⟨rfl,ho⟩
   ·cases h
   ·cases h
   ·simp only;omega
 cases r with
 | inl v=>exact Def.s (.inr hr)
 | inr o=>
  have hr':o.length<=1100:=hr
  refine Def.bd (P:=λx=>x=x0) (Def.s rfl) (λx _=>?_)
  refine Def.bd (P:=λx=>x.length=2) (Def.of (ref_Uint [] 2 _ (by omega) (by omega) (by simp)) (by rw [uintB_len];rfl)) (λa ha=>?_)
  refine Def.bd (P:=λx=>x=x1) (Def.s rfl) (λx _=>?_)
  refine Def.bd (P:=λx=>x.length=4) (Def.of (ref_Uint a 2 _ (by omega) (by omega) (by omega)) (by rw [uintB_len];omega)) (λb hb=>?_)
  exact Def.bd (P:=λx=>x.length=32) (Def.of (ref_Hash _ _ (by rw [tot2];omega)) (hs_len _ _)) (λq hq=>Def.s (.inl hq))
theorem rpdigest_def (l:api_Log) (h:l.Events.length<2 ^ 20) (h1:1<=l.Active) (h3:l.Active<=3):Def (ref25_ReplayDigest l ⟨selOf l.Active 0,selOf l.Active 1⟩) (λ_=>True):=by
 unfold ref25_ReplayDigest
 refine Def.bd (replay_def l h h1 h3) (λr hr=>?_)
 obtain ⟨rg,e⟩:=r
 refine Def.c (λ_=>Def.s trivial) (λhe=>?_)
 have he':e=0:=by simpa using he
 exact Def.bd (rdigest_def rg l.Active (hr he')) (λ_ _=>Def.s trivial)
theorem secret_def (i:Int):Def (draw_QuoteSecret i) (λr=>r.length=32):=by
 unfold draw_QuoteSecret
 exact Def.bd (sha_def _ (by simp)) (λr hr=>Def.s hr)
theorem quoting_def (i:Int):Def (draw_Quoting i) (λp=>p.Unique.length=17):=by
 unfold draw_Quoting
 refine Def.bd (secret_def i) (λr hr=>?_)
 exact Def.bd (P:=λx=>x.length=17) (Def.of (ref_Public1 r (by omega)) (pub1_len r)) (λx hx=>Def.s hx)
theorem quote_def (l:api_Log) (machine key:Int) (nonce:List UInt8) (h:l.Events.length<2 ^ 20) (h1:1<=l.Active) (h3:l.Active<=3) (hn:nonce.length<2 ^ 30):Def (draw_Quote l machine key nonce) (λa=>a.Key.length=32/\a.Nonce.length=32/\a.Digest.length=32):=by
 unfold draw_Quote
 refine Def.bd (format_def l h) (λr hr=>?_)
 obtain ⟨b,e⟩:=r
 have hb:b.length<=8192:=hr
 refine Def.bd (P:=λs=>s=⟨selOf l.Active 0,selOf l.Active 1⟩) (Def.of (sel_def _ h1 h3) rfl) (λs hs=>?_)
 subst hs
 refine Def.bd (rpdigest_def l h h1 h3) (λr _=>?_)
 obtain ⟨d,e2⟩:=r
 refine Def.bd (P:=λd=>d.length=32) ?_ (λd hd=>?_)
 ·refine Def.c (λ_=>?_) (λhd=>Def.s (by simp at hd;omega))
  exact Def.bd (Def.mkN (by decide) (by decide)) (λn hn=>Def.s (by rw [hn];simp))
 refine Def.bd (quoting_def key) (λp hp=>?_)
 refine Def.bd (P:=λx=>x.length=32) (Def.of (ref_Name_eq _) (hs_len _ _)) (λk hk=>?_)
 refine Def.bd (P:=λx=>x.length=32) (Def.of (ref_Nonce _ _ _ hn (by omega)) (hs_len _ _)) (λn hn=>?_)
 exact Def.s ⟨hk,hn,hd⟩
end Go.Proofs.TT
namespace Go.Proofs.TT
open Go Go.Sw
set_option maxRecDepth 100000
theorem uD (b:List UInt8) (size:Nat) (n:Int) (h1:1<=size) (h8:size<=8) (hb:b.length<2 ^ 40):Def (ref3_Uint b (size:Int) n) (λr=>r.length=b.length+size):=Def.of (ref_Uint b size n h1 h8 hb) (uintB_len _ _ _)
theorem bD (b x:List UInt8) (hb:b.length<2 ^ 39):Def (ref3_Blob b x) (λr=>r.length<=b.length+65537):=Def.of (ref_Blob b x hb) (blobB_len _ _)
theorem aenc_def (a:api_Attest) (hd:a.Digest.length=32):Def (ref16_Encode a) (λr=>r.length<2 ^ 20):=by
 unfold ref16_Encode
 refine Def.bd (P:=λr=>r.length=4) (Def.s rfl) (λb0 h0=>?_)
 refine Def.bd (bD b0 _ (by omega)) (λb1 h1=>?_)
 refine Def.bd (bD b1 _ (by omega)) (λb2 h2=>?_)
 refine Def.bd (uD b2 8 _ (by omega) (by omega) (by omega)) (λb3 h3=>?_)
 refine Def.bd (uD b3 8 _ (by omega) (by omega) (by omega)) (λb4 h4=>?_)
 refine Def.bd (uD b4 8 _ (by omega) (by omega) (by omega)) (λb5 h5=>?_)
 refine Def.bd (P:=λ_=>True) (Def.c (λ_=>Def.s trivial) (λ_=>Def.s trivial)) (λsf _=>?_)
 refine Def.bd (Def.app (by simp;omega)) (λb6 h6=>?_)
 have h6':b6.length=b5.length+1:=by rw [h6];simp
 refine Def.bd (uD b6 8 _ (by omega) (by omega) (by omega)) (λb7 h7=>?_)
 refine Def.bd (uD b7 2 _ (by omega) (by omega) (by omega)) (λb8 h8=>?_)
 refine Def.bd (uD b8 2 _ (by omega) (by omega) (by omega)) (λb9 h9=>?_)
 exact Def.bd (Def.app (by omega)) (λq hq=>Def.s (by rw [hq,List.length_append];omega))
theorem evidence_def (l:api_Log) (machine key leaf:Int) (a:api_Attest) (h:l.Events.length<2 ^ 20) (hd:a.Digest.length=32) (h0:0<=leaf) (h1:leaf<=1):Def (draw_Evidence l machine key leaf a) (λx=>x.Attest.length<2 ^ 20/\x.Signature.length<2 ^ 20/\x.Log.length<=8192):=by
 unfold draw_Evidence
 refine Def.bd (format_def l h) (λr hr=>?_)
 obtain ⟨b,e⟩:=r
 refine Def.bd (aenc_def a hd) (λm hm=>?_)
 refine Def.bd (secret_def key) (λs hs=>?_)
 obtain ⟨n,rfl⟩:=Int.eq_ofNat_of_zero_le h0
 have e:iand .i64 (n:Int) 1=((n % 2:Nat):Int):=iand1 n (by omega)
 rw [e]
 refine Def.bd (P:=λx=>x.length=577) (Def.of (ref_Sign1 s (n % 2) m (by omega) (by omega) (by omega)) (sig1_len _ _ _ (by omega))) (λg hg=>?_)
 exact Def.s ⟨hm,by simp only;omega,hr⟩
theorem cut_def (b:List UInt8) (n:Int) (h0:0<=n) (h:n<2 ^ 20):Def (draw_Cut b n) (λr=>r.length<=b.length/\r.length<2 ^ 20):=by
 unfold draw_Cut
 refine Def.c (λh=>?_) (λh=>Def.s ?_)
 ·have:=dT h
  refine Def.bd (Def.sub (by decide) h0 (by omega)) (λx hx=>Def.s ?_)
  have:x.length<=n.toNat/\x.length<=b.length:=by rw [hx];simp;omega
  omega
 ·have:=dF h
  omega
theorem seed_def (b:List UInt8):Def (draw_Seed b) (λ_=>True):=by
 unfold draw_Seed
 refine Def.bd (Def.mkN (by decide) (by decide)) (λn hn=>?_)
 refine Def.bd (Def.ck (beqT (by simp))) (λ_ _=>?_)
 refine Def.lt ?_
 refine Def.bd (Def.ck (beqT (by rw [cpy_len];simp))) (λ_ _=>?_)
 exact Def.bd (Def.ck (bleT (by
                 have e:(32:Int).toNat=32:=rfl
                 omega))) (λ_ _=>Def.s trivial)
theorem wrong_l1 (key n:Int) (a1:List UInt8) (a2 a3 a4 a5:Int) (dg:List UInt8) (ac:Int) (es:List api_Event) (c:sealwrightdraw_Codes) (hc:CdOk c) (h0:0<=n) (hn:n<=2) (hd:dg.length=32) (he:es.length<=200) :
  Def (loopT draw_Wrong_l1 FU (key,n,a1,a2,a3,a4,a5,dg,ac,es,c.B,c.At)) (λr=>r.2.2.2.2.2.2.1.length=32/\r.2.2.2.2.2.2.2.2.1.length<=300/\CdOk ⟨r.2.2.2.2.2.2.2.2.2.1,r.2.2.2.2.2.2.2.2.2.2⟩):=by
 refine Def.loop (λs=>0<=s.2.1/\s.2.1<=2/\s.2.2.2.2.2.2.2.1.length=32/\(s.2.2.2.2.2.2.2.2.2.1.length:Int)+s.2.1<=300/\CdOk ⟨s.2.2.2.2.2.2.2.2.2.2.1,s.2.2.2.2.2.2.2.2.2.2.2⟩) (λs=>s.2.1.toNat) (λs hs=>?_) ⟨h0,hn,hd,by simp only;omega,hc⟩ (by simp only;omega)
 obtain ⟨key,n,a1,a2,a3,a4,a5,dg,ac,es,B,A⟩:=s
 obtain ⟨g1,g2,g3,g4,g5⟩:=hs
 simp only at g1 g2 g3 g4 g5
 unfold draw_Wrong_l1
 refine Def.c (λh=>?_) (λh=>Def.s ⟨g3,by simp only;omega,g5⟩)
 have hn:=dT h
 refine Def.bd (next_def _ 9 g5 (by decide)) (λr hr=>?_)
 obtain ⟨v,c1⟩:=r
 obtain ⟨k1,k2,k3⟩:=hr
 simp only at k1 k2 k3
 refine Def.bd (P:=λr=>r.2.2.2.2.2.2.1.length=32/\(r.2.2.2.2.2.2.2.2.1.length:Int)<=es.length+1/\CdOk ⟨r.2.2.2.2.2.2.2.2.2.1,r.2.2.2.2.2.2.2.2.2.2⟩) ?_ (λr hr=>?_)
 ·have le:(es.length:Int)<=es.length+1:=by omega
  refine Def.c (λ_=>?_) (λ_=>Def.c (λ_=>?_) (λ_=>Def.c (λ_=>?_) (λ_=>Def.c (λ_=>?_) (λ_=>Def.c (λ_=>?_) (λ_=>Def.c (λ_=>?_) (λ_=>Def.c (λ_=>?_) (λ_=>Def.c (λ_=>?_) (λ_=>?_))))))))
  ·refine Def.bd (next_def _ 5 k3 (by decide)) (λr hr=>?_)
   exact Def.bd (seed_def _) (λ_ _=>Def.s ⟨g3,le,hr.2.2⟩)
  ·exact Def.bd (next_def _ 3 k3 (by decide)) (λr hr=>Def.s ⟨g3,le,hr.2.2⟩)
  ·exact Def.bd (next_def _ 3 k3 (by decide)) (λr hr=>Def.s ⟨g3,le,hr.2.2⟩)
  ·refine Def.bd (next_def _ 2 k3 (by decide)) (λr hr=>?_)
   obtain ⟨v2,c2⟩:=r
   obtain ⟨m1,m2,m3⟩:=hr
   simp only at m1 m2 m3
   refine Def.c (λ_=>?_) (λhz=>Def.c (λ_=>?_) (λho=>?_))
   ·exact Def.bd (next_def _ 13 m3 (by decide)) (λr hr=>Def.s ⟨g3,le,hr.2.2⟩)
   ·exact Def.bd (next_def _ 13 m3 (by decide)) (λr hr=>Def.s ⟨g3,le,hr.2.2⟩)
   ·simp at hz ho;omega
  ·refine Def.bd (Def.app (by simp;omega)) (λx hx=>?_)
   rw [List.nil_append] at hx
   subst hx
   refine Def.bd (next_def _ 32 k3 (by decide)) (λr hr=>?_)
   obtain ⟨v2,c2⟩:=r
   obtain ⟨m1,m2,m3⟩:=hr
   simp only at m1 m2 m3
   refine Def.bd (Def.ixN m1 (by omega)) (λj hj=>?_)
   refine Def.bd (Def.at hj.2) (λy _=>?_)
   refine Def.bd (Def.ixN m1 (by omega)) (λj hj=>?_)
   exact Def.bd (Def.upd hj.2) (λz hz=>Def.s ⟨by simp only [hz,List.length_set];exact g3,le,m3⟩)
  ·exact Def.bd (next_def _ 12 k3 (by decide)) (λr hr=>Def.s ⟨g3,le,hr.2.2⟩)
  ·have e:IntKind.i64.wrap ((es.length:Int)+1)=(es.length:Int)+1:=wrapI (by omega) (by omega)
   refine Def.bd (next_def _ _ k3 (by rw [e];omega)) (λr hr=>?_)
   obtain ⟨v2,c2⟩:=r
   obtain ⟨m1,m2,m3⟩:=hr
   simp only at m1 m2 m3
   rw [e] at m2
   refine Def.bd (Def.sub (by decide) m1 (by omega)) (λx hx=>Def.s ⟨g3,?_,m3⟩)
   simp only [hx,List.length_take,List.length_drop];omega
  ·refine Def.bd (Def.app (by simp;omega)) (λx hx=>?_)
   rw [List.nil_append] at hx
   subst hx
   refine Def.bd (event_def _ ac k3) (λr hr=>?_)
   exact Def.bd (Def.app (by simp;omega)) (λy hy=>Def.s ⟨g3,by simp only [hy,List.length_append,List.length_cons,List.length_nil];omega,hr⟩)
  ·exact Def.bd (next_def _ 3 k3 (by decide)) (λr hr=>Def.s ⟨g3,le,hr.2.2⟩)
 ·obtain ⟨key',a1',a2',a3',a4',a5',dg',ac',es',B',A'⟩:=r
  obtain ⟨p1,p2,p3⟩:=hr
  simp only at p1 p2 p3
  refine Def.s ?_
  rw [wrapI (by omega) (by omega)]
  exact ⟨⟨by simp only;omega,by simp only;omega,p1,by simp only;omega,p3⟩,by simp only;omega⟩
theorem wrong_def (codes:List UInt8) (l:api_Log) (machine:Int) (nonce:List UInt8) (he:l.Events.length<=200) (h1:1<=l.Active) (h3:l.Active<=3) (hn:nonce.length<2 ^ 30):Def (draw_Wrong codes l machine nonce) (λx=>x.Attest.length<2 ^ 20/\x.Signature.length<2 ^ 20/\x.Log.length<=8192):=by
 unfold draw_Wrong
 refine Def.bd (new_def codes 30 (by decide) (by decide)) (λc hc=>?_)
 refine Def.bd (next_def _ 2 hc (by decide)) (λr hr=>?_)
 obtain ⟨v,c1⟩:=r
 obtain ⟨k1,k2,k3⟩:=hr
 simp only at k1 k2 k3
 refine Def.lt ?_
 refine Def.bd (quote_def l machine _ nonce (by omega) h1 h3 hn) (λa ha=>?_)
 refine Def.bd (next_def _ 3 k3 (by decide)) (λr hr=>?_)
 obtain ⟨n,c2⟩:=r
 obtain ⟨m1,m2,m3⟩:=hr
 simp only at m1 m2 m3
 refine Def.bd (wrong_l1 _ n _ _ _ _ _ _ _ _ c2 m3 m1 (by omega) ha.2.2 he) (λr hr=>?_)
 obtain ⟨key',a1',a2',a3',a4',a5',dg',ac',es',B',A'⟩:=r
 obtain ⟨p1,p2,p3⟩:=hr
 simp only at p1 p2 p3
 refine Def.bd (next_def _ 2 p3 (by decide)) (λr hr=>?_)
 obtain ⟨lf,c3⟩:=r
 obtain ⟨q1,q2,q3⟩:=hr
 simp only at q1 q2 q3
 refine Def.bd (evidence_def ⟨ac',l.Resets,es'⟩ machine key' lf _ (by simp only;omega) p1 q1 (by omega)) (λx hx=>?_)
 obtain ⟨x1,x2,x3⟩:=hx
 refine Def.bd (next_def _ 8 q3 (by decide)) (λr hr=>?_)
 obtain ⟨w,c4⟩:=r
 obtain ⟨w1,w2,w3⟩:=hr
 simp only at w1 w2 w3
 refine Def.bd (P:=λr=>r.2.1.length<2 ^ 20/\r.2.2.length<=8192) ?_ (λr hr=>Def.s ⟨x1,hr.1,hr.2⟩)
 refine Def.c (λ_=>?_) (λ_=>Def.c (λ_=>?_) (λ_=>Def.c (λ_=>?_) (λ_=>Def.s ⟨x2,x3⟩)))
 ·exact Def.bd (next_def _ 4 w3 (by decide)) (λr _=>Def.s ⟨x2,x3⟩)
 ·refine Def.bd (next_def _ 256 w3 (by decide)) (λr hr=>?_)
  obtain ⟨u,c5⟩:=r
  obtain ⟨u1,u2,u3⟩:=hr
  simp only at u1 u2 u3
  exact Def.bd (cut_def _ u u1 (by omega)) (λs hs=>Def.s ⟨hs.2,x3⟩)
 ·refine Def.c (λhl=>?_) (λ_=>Def.s ⟨x2,x3⟩)
  have hl':=dT hl
  refine Def.bd (Def.app (by simp;omega)) (λy hy=>?_)
  rw [List.nil_append] at hy
  subst hy
  refine Def.bd (next_def _ 256 w3 (by decide)) (λr hr=>?_)
  obtain ⟨u,c5⟩:=r
  obtain ⟨u1,u2,u3⟩:=hr
  simp only at u1 u2 u3
  refine Def.bd (next_def _ 256 u3 (by decide)) (λr hr=>?_)
  obtain ⟨t,c6⟩:=r
  obtain ⟨t1,t2,t3⟩:=hr
  simp only at t1 t2 t3
  refine Def.lt ?_
  have e:IntKind.i64.wrap (IntKind.i64.wrap (u*256)+t)=u*256+t:=by rw [wrapI (n:=u*256) (by omega) (by omega),wrapI (by omega) (by omega)]
  simp only [e]
  refine Def.bd (Def.ck (by rw [Bool.not_eq_true',beq_eq_false_iff_ne];omega)) (λ_ _=>?_)
  have j0:0<=Int.tmod (u*256+t) (x.Log.length:Int):=by rw [Int.tmod_eq_emod_of_nonneg (by omega)];exact Int.emod_nonneg _ (by omega)
  have j1:Int.tmod (u*256+t) (x.Log.length:Int)<x.Log.length:=by rw [Int.tmod_eq_emod_of_nonneg (by omega)];exact Int.emod_lt_of_pos _ hl'
  refine Def.bd (Def.ixN j0 j1) (λj hj=>?_)
  refine Def.bd (Def.at hj.2) (λy _=>?_)
  refine Def.bd (next_def _ 8 t3 (by decide)) (λr hr=>?_)
  refine Def.bd (Def.ixN j0 j1) (λj hj=>?_)
  exact Def.bd (Def.upd hj.2) (λz hz=>Def.s ⟨x2,by simp only [hz,List.length_set];exact x3⟩)
theorem enrolled_def (machine active:Int):Def (draw_Enrolled machine active) (λe=>e.Quoting.length=2/\∀ p∈e.Quoting,p.Unique.length=17):=by
 unfold draw_Enrolled
 refine Def.bd (quoting_def _) (λp hp=>?_)
 refine Def.bd (quoting_def _) (λq hq=>?_)
 refine Def.bd (sha_def _ (by simp)) (λs hs=>?_)
 refine Def.bd (Def.mkN (by decide) (by decide)) (λn hn=>?_)
 refine Def.bd (Def.ck (beqT (by simp))) (λ_ _=>?_)
 refine Def.bd (Def.ck (bleT (by
                 have e:(32:Int).toNat=32:=rfl
                 omega))) (λ_ _=>Def.s ⟨rfl,λx hx=>?_⟩)
 simp only [List.mem_cons,List.not_mem_nil,or_false] at hx
 rcases hx with rfl | rfl
 ·exact hp
 ·exact hq
theorem made_def (codes chain manifests changes:List UInt8) (active machine:Int):Def (law37_made codes chain manifests changes active machine) (λr=>r.2.2.Attest.length<2 ^ 20/\r.2.2.Signature.length<2 ^ 20/\r.2.2.Log.length<=8192):=by
 unfold law37_made
 refine Def.bd (chain_def chain) (λch hch=>?_)
 refine Def.bd (active_def active) (λac hac=>?_)
 refine Def.bd (log_def codes ac 7 hac.1 hac.2) (λl hl=>?_)
 refine Def.bd (new_def codes 4 (by decide) (by decide)) (λc hc=>?_)
 refine Def.bd (P:=λr=>1<=r.1/\r.1<=3/\r.2.2.length<=200) ?_ (λr hr=>?_)
 ·refine Def.bd (next_def _ 3 hc (by decide)) (λr hr=>?_)
  refine Def.c (λ_=>?_) (λ_=>Def.s ⟨by simp only;rw [hl.1];exact hac.1,by simp only;rw [hl.1];exact hac.2,hl.2⟩)
  exact Def.bd (events_def ch ac hch hac.1 hac.2) (λev hev=>Def.s ⟨hac.1,hac.2,by simp only;omega⟩)
 obtain ⟨ac2,rs,es⟩:=r
 obtain ⟨r1,r2,r3⟩:=hr
 simp only at r1 r2 r3
 refine Def.bd (manifests_def manifests ch hch) (λms _=>?_)
 exact Def.bd (wrong_def changes ⟨ac2,rs,es⟩ machine _ r3 r1 r2 (by simp)) (λx hx=>Def.s hx)
theorem quote_law (hw:law37_awake=some true) (raw:api_Evidence) (codes changes:List UInt8) (active machine:Int) (other:Bool) (keys:Int):law37_AppraiseQuote raw codes changes active machine other keys=some true:=by
 have hd:Def (law37_AppraiseQuote raw codes changes active machine other keys) (λr=>r=true):=by
  unfold law37_AppraiseQuote
  refine Def.bd (P:=λb=>b=true) (Def.of hw rfl) (λb hb=>?_)
  subst hb
  refine Def.c (λh=>by cases h) (λ_=>?_)
  refine Def.bd (mod_def machine 4 (by decide) (by decide)) (λm _=>?_)
  refine Def.bd (made_def codes [] [] changes active _) (λr hr=>?_)
  obtain ⟨lg,ms,ev⟩:=r
  obtain ⟨e1,e2,e3⟩:=hr
  simp only at e1 e2 e3
  refine Def.bd (enrolled_def _ 2) (λen hen=>?_)
  refine Def.bd (mod_def keys 4 (by decide) (by decide)) (λk hk=>?_)
  have hk3:0<=Int.tmod k 3/\Int.tmod k 3<=2:=by
   rw [Int.tmod_eq_emod_of_nonneg hk.1];omega
  refine Def.bd (Def.sub (by decide) hk3.1 (by rw [hen.1];exact hk3.2)) (λks hks=>?_)
  have hksm:∀ p∈ks,p.Unique.length=17:=by
   intro p hp
   rw [hks] at hp
   exact hen.2 p (List.mem_of_mem_drop (List.mem_of_mem_take hp))
  have hksl:ks.length<=2:=by
   rw [hks];simp;omega
  refine Def.bd (P:=λn=>n.length<=10) (Def.c (λ_=>Def.s (by simp)) (λ_=>Def.s (by simp))) (λn hn=>?_)
  refine Def.bd (cut_def raw.Attest 200 (by decide) (by decide)) (λp hp=>?_)
  refine Def.bd (cut_def raw.Signature 700 (by decide) (by decide)) (λq hq=>?_)
  refine Def.bd (cut_def raw.Log 300 (by decide) (by decide)) (λs hs=>?_)
  have hl:=quote_loop raw ev ks n p q s ⟨by omega,by omega,by omega,by omega,by omega,λx hx=>by rw [hksm x hx];decide⟩ ⟨by simp only;omega,by simp only;omega,by simp only;omega,by omega,by omega,λx hx=>by rw [hksm x hx];decide⟩
  exact Def.bd (P:=λr=>r=.inr ()) (Def.of hl rfl) (λr hr=>by subst hr;exact Def.s rfl)
 obtain ⟨r,e,rfl⟩:=hd
 exact e
end Go.Proofs.TT
namespace Go.Proofs.TT
open Go Go.Sw
set_option maxRecDepth 100000
def imgs:List api_Image:=[api_Image.mk 1 ([102]:List UInt8) 0 [],api_Image.mk 3 ([107]:List UInt8) 0 []]
def EVS:List api_Event:=[⟨0,1,[[],[211,177,79,226,54,204,147,174,61,228,238,4,167,67,79,4,75,48,122,2,57,203,128,14,59,202,123,49,246,110,67,158]],[102,32,48]⟩,
 ⟨0,2,[[],[223,63,97,152,4,169,47,219,64,87,25,45,196,61,215,72,234,119,138,220,82,188,73,140,232,5,36,192,20,184,17,25]],[0,0,0,0]⟩,
 ⟨1,2,[[],[223,63,97,152,4,169,47,219,64,87,25,45,196,61,215,72,234,119,138,220,82,188,73,140,232,5,36,192,20,184,17,25]],[0,0,0,0]⟩,
 ⟨2,2,[[],[223,63,97,152,4,169,47,219,64,87,25,45,196,61,215,72,234,119,138,220,82,188,73,140,232,5,36,192,20,184,17,25]],[0,0,0,0]⟩,
 ⟨3,2,[[],[223,63,97,152,4,169,47,219,64,87,25,45,196,61,215,72,234,119,138,220,82,188,73,140,232,5,36,192,20,184,17,25]],[0,0,0,0]⟩,
 ⟨4,2,[[],[223,63,97,152,4,169,47,219,64,87,25,45,196,61,215,72,234,119,138,220,82,188,73,140,232,5,36,192,20,184,17,25]],[0,0,0,0]⟩,
 ⟨5,2,[[],[223,63,97,152,4,169,47,219,64,87,25,45,196,61,215,72,234,119,138,220,82,188,73,140,232,5,36,192,20,184,17,25]],[0,0,0,0]⟩,
 ⟨6,2,[[],[223,63,97,152,4,169,47,219,64,87,25,45,196,61,215,72,234,119,138,220,82,188,73,140,232,5,36,192,20,184,17,25]],[0,0,0,0]⟩,
 ⟨7,2,[[],[223,63,97,152,4,169,47,219,64,87,25,45,196,61,215,72,234,119,138,220,82,188,73,140,232,5,36,192,20,184,17,25]],[0,0,0,0]⟩,
 ⟨8,1,[[],[4,112,127,2,184,245,98,45,100,85,58,34,70,111,198,201,250,24,60,234,60,72,73,122,62,127,169,182,2,31,99,126]],[107,32,48]⟩]
def MAN:api_Manifest:=⟨[118],1,0,0,1099511627776,[⟨1,[102],0,[211,177,79,226,54,204,147,174,61,228,238,4,167,67,79,4,75,48,122,2,57,203,128,14,59,202,123,49,246,110,67,158]⟩,⟨3,[107],0,[4,112,127,2,184,245,98,45,100,85,58,34,70,111,198,201,250,24,60,234,60,72,73,122,62,127,169,182,2,31,99,126]⟩],[]⟩
def LOGB:List UInt8:=[83,87,76,49,2,0,0,0,0,0,1,0,43,0,1,0,0,0,32,211,177,79,226,54,204,147,174,61,228,238,4,167,67,79,4,75,48,122,2,57,203,128,14,59,202,123,49,246,110,67,158,0,3,102,32,48,0,44,0,2,0,0,0,32,223,63,97,152,4,169,47,219,64,87,25,45,196,61,215,72,234,119,138,220,82,188,73,140,232,5,36,192,20,184,17,25,0,4,0,0,0,0,0,44,1,2,0,0,0,32,223,63,97,152,4,169,47,219,64,87,25,45,196,61,215,72,234,119,138,220,82,188,73,140,232,5,36,192,20,184,17,25,0,4,0,0,0,0,0,44,2,2,0,0,0,32,223,63,97,152,4,169,47,219,64,87,25,45,196,61,215,72,234,119,138,220,82,188,73,140,232,5,36,192,20,184,17,25,0,4,0,0,0,0,0,44,3,2,0,0,0,32,223,63,97,152,4,169,47,219,64,87,25,45,196,61,215,72,234,119,138,220,82,188,73,140,232,5,36,192,20,184,17,25,0,4,0,0,0,0,0,44,4,2,0,0,0,32,223,63,97,152,4,169,47,219,64,87,25,45,196,61,215,72,234,119,138,220,82,188,73,140,232,5,36,192,20,184,17,25,0,4,0,0,0,0,0,44,5,2,0,0,0,32,223,63,97,152,4,169,47,219,64,87,25,45,196,61,215,72,234,119,138,220,82,188,73,140,232,5,36,192,20,184,17,25,0,4,0,0,0,0,0,44,6,2,0,0,0,32,223,63,97,152,4,169,47,219,64,87,25,45,196,61,215,72,234,119,138,220,82,188,73,140,232,5,36,192,20,184,17,25,0,4,0,0,0,0,0,44,7,2,0,0,0,32,223,63,97,152,4,169,47,219,64,87,25,45,196,61,215,72,234,119,138,220,82,188,73,140,232,5,36,192,20,184,17,25,0,4,0,0,0,0,0,43,8,1,0,0,0,32,4,112,127,2,184,245,98,45,100,85,58,34,70,111,198,201,250,24,60,234,60,72,73,122,62,127,169,182,2,31,99,126,0,3,107,32,48]
def DG:List UInt8:=[107,24,16,72,110,26,24,42,233,226,179,161,104,68,80,217,233,164,128,62,21,161,146,123,57,66,240,165,96,204,39,14]
def N1:List UInt8:=[140,181,205,201,129,106,124,62,142,219,165,218,199,100,206,206,254,73,226,85,181,60,190,81,208,251,183,65,83,101,193,19]
def N2:List UInt8:=[117,120,106,21,132,68,244,210,198,122,150,64,213,173,103,209,198,231,127,216,186,17,22,121,0,70,203,147,87,7,205,26]
theorem aw_ev:ref25_Events imgs 2=some EVS:=by decide +kernel
theorem aw_man:ref31_Describe [118] 1 imgs=some MAN:=by decide +kernel
theorem aw_fmt:ref25_Format ⟨2,1,EVS⟩=some (LOGB,0):=by decide +kernel
theorem aw_parse:eventlog_Parse LOGB=some (⟨2,1,EVS⟩,0):=by decide +kernel
theorem aw_ex2:match_Explain ⟨2,1,EVS⟩ []=some ([],0,47):=by decide +kernel
theorem aw_ex:(match_Explain ⟨2,1,EVS⟩ [MAN]).map (λr=>(r.1.length,r.2.2))=some (10,0):=by decide +kernel
end Go.Proofs.TT
namespace Go.Proofs.TT
open Go Go.Sw
set_option maxRecDepth 100000
theorem aw_n1:nnc [110] 2 LOGB=N1:=by decide +kernel
theorem aw_n2:nnc [109] 2 LOGB=N2:=by decide +kernel
theorem aw_rd:ref25_ReplayDigest ⟨2,1,EVS⟩ ⟨0,4095⟩=some (DG,0):=by decide +kernel
theorem aw_pd:replay_Digest ⟨2,1,EVS⟩ ⟨0,4095⟩=some (DG,0):=by decide +kernel
end Go.Proofs.TT
