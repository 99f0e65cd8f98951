/- A part. -/
import Derived.Test.YtkalaoahbicflaaGreatDoorCZ36
import Derived.Test.YtkalaoahbicflaaGreatDoorCZ5
set_option maxRecDepth 100000
set_option linter.all false
open Go.Sw.Def renaming bd -> Q0, s -> Q1, c -> Q3, of -> Q5, idx -> Qj
open Go.IntKind renaming i64 -> Q2, u64 -> Qe
open Nat renaming zero_le -> Q4, le_refl -> Qk, mod_eq_of_lt -> Ql
open List renaming length_append -> Q6, mem_cons -> Q7, not_mem_nil -> Qa, length_cons -> Qb, length_take -> Qc, take_length -> Qd, length_nil -> Qf, map_cons -> Qh, sum_cons -> Qn, mem_map -> Qo
open BitVec renaming ofInt -> Q8, ofInt_natCast -> Qg, toNat_ofNat -> Qi
open Int renaming le_refl -> Q9, tdiv -> Qm, tmod -> Qp
namespace Go.Proofs.TT
open Go Go.Sw
variable {a:Int}{b:By}{e h:Int}{k:Nat}{last:Nat->Int}{loc m n:Int}{q:zC}{r:RS}{rest:By}{s:zB}{v:Int}{x:zF}
structure Rsp (r:zD):Prop where
 i:r.Ints.length<=8
 b:r.Blobs.length<=8
 t:(r.Blobs.map (·.length)).sum<=1500
 n:r.Nonces.length<=1
 m:∀ x∈r.Nonces,x.length<=16
def yDx (e:Int):Rsp (rs e):=⟨Q4 _,Q4 _,Q4 _,Q4 _,λx hx=>by cases hx⟩
def yKd {r:zB×zD} (h:Gd s r):Rsp r.2:=⟨h.i,h.b,h.t,by rw [h.n];exact Q4 _,λx hx=>by rw [h.n] at hx;cases hx⟩
def yOq (s:zB) (q:zC):(afV s q).2.length<=1/\∀ x∈(afV s q).2,x.length<=16:=by
 have nil:([]:List By).length<=1/\∀ x∈([]:List By),x.length<=16:=⟨Q4 _,λx hx=>by cases hx⟩;unfold afV;cases (aut q).Session==0
 ·cases ssf s (aut q).Session with
  | none=>exact nil
  | some i=>
   show (bif (ssg s i).Kind==1 then (ptS (rnS s) i (afN (ssg s i) (rnB s 16)),[rnB s 16]) else (bif (ssg s i).Kind==2 then ptS s i ss0 else s,[])).2.length<=1/\_;show _/\∀ x∈(bif (ssg s i).Kind==1 then (ptS (rnS s) i (afN (ssg s i) (rnB s 16)),[rnB s 16]) else (bif (ssg s i).Kind==2 then ptS s i ss0 else s,[])).2,x.length<=16;cases (ssg s i).Kind==1
   ·exact nil
   ·refine ⟨Qk _,λx hx=>?_⟩;simp only [cond_true,Q7,Qa,or_false] at hx;rw [hx,zFg _ _ ji];decide
 ·exact nil
def yI9 (s:zB) (loc:Int) (q:zC):(acV s loc q).1=s∨∃ l,(acV s loc q).1=iR s l/\(acV s loc q).2=9:=by
 have cp:∀ h b,(cpV s h b).1=s∨∃ l,(cpV s h b).1=iR s l/\(cpV s h b).2=9:=by
  intro h b;unfold cpV;cases b
  ·cases (fdV s h).1.protected_
   ·cases h==3
    ·exact .inl rfl
    ·exact .inr ⟨_,rfl,rfl⟩
   ·exact .inr ⟨_,rfl,rfl⟩
  ·exact .inl rfl
 have bv:∀ w,(byV s q w).1=s∨∃ l,(byV s q w).1=iR s l/\(byV s q w).2=9:=by
  intro w;unfold byV;cases fbV s q
  ·cases lkV s (hnd q 0)
   ·exact cp _ _
   ·exact .inl rfl
  ·exact .inl rfl
 unfold acV;cases (aut q).Session==0
 ·cases ssf s (aut q).Session with
  | none=>exact .inl rfl
  | some i=>
   show (bif (ssg s i).Kind==1 then byV s q (wnt s q (ssg s i)) else bif (ssg s i).Kind==2 then byP s loc q (ssg s i) else (s,8)).1=s∨∃ l,(bif (ssg s i).Kind==1 then byV s q (wnt s q (ssg s i)) else bif (ssg s i).Kind==2 then byP s loc q (ssg s i) else (s,8)).1=iR s l/\(bif (ssg s i).Kind==1 then byV s q (wnt s q (ssg s i)) else bif (ssg s i).Kind==2 then byP s loc q (ssg s i) else (s,8)).2=9;cases (ssg s i).Kind==1
   ·cases (ssg s i).Kind==2
    ·exact .inl rfl
    ·show (byP s loc q (ssg s i)).1=s∨∃ l,(byP s loc q (ssg s i)).1=iR s l/\(byP s loc q (ssg s i)).2=9;unfold byP;split
     ·exact .inl rfl
     ·cases (ssg s i).AuthValue
      ·exact .inl rfl
      ·cases lkV s (hnd q 0)
       ·exact cp _ _
       ·exact .inl rfl
   ·exact bv _
 ·exact bv _
structure Exe (s:zB) (r:zB×zD):Prop where
 ok:zX r.1
 rsp:Rsp r.2
 em:r.2.Err≠0->r.2.Ints=[]/\r.2.Blobs=[]/\r.2.Nonces=[]
 sm:r.2.Err≠0->r.2.Err≠9->r.1=s
 lo:r.2.Err≠0->iR r.1 s.Stable.Lockout=s
def zH5 (h:zX s) (e:Int):Exe s (s,rs e):=⟨h,yDx e,λ_=>⟨rfl,rfl,rfl⟩,λ_ _=>rfl,λ_=>rfl⟩
def zPj (h:zX s) (q:zC) (loc:Int):Exe s (exe s loc q):=by
 unfold exe;by_cases g:ckV q=0
 case neg=>rw [if_pos g];exact zH5 h _
 rw [if_neg (show ¬ ckV q≠0 by simp [g])];have k:=zMd g;cases decide (loc<0)||decide (4<loc)
 case true=>exact zH5 h _
 simp only [cond_false];cases gs:(q.Code != 1)&&!s.Volatile.Started
 case true=>exact zH5 h _
 simp only [cond_false];cases ga:alw s q
 case false=>exact zH5 h _
 have al:=zTp k ga gs;have gd:=zRa h al k loc;have fin:Exe s (bdy s loc q):=by
  refine ⟨gd.k,yKd gd,λe=>?_,λe _=>?_,λe=>?_⟩
  ·rw [gd.e e];exact ⟨rfl,rfl,rfl⟩
  ·rw [gd.e e]
  ·rw [gd.e e];rfl
 show Exe s (ex1 s loc q);unfold ex1;by_cases ha:q.Auths.length=0
 ·rw [if_pos ha];exact fin
 rw [if_neg ha];by_cases gc:(acV s loc q).2=0
 ·rw [if_neg (show ¬ (acV s loc q).2≠0 by simp [gc])];unfold ex2;by_cases ge:(bdy s loc q).2.Err=0
  ·rw [if_neg (show ¬ (bdy s loc q).2.Err≠0 by simp [ge])];obtain ⟨n1,n2⟩:=yOq (bdy s loc q).1 q;exact ⟨yKs gd.k q,⟨gd.i,gd.b,gd.t,n1,n2⟩,λe=>absurd ge e,λe=>absurd ge e,λe=>absurd ge e⟩
  ·rw [if_pos ge];exact zH5 h _
 ·rw [if_pos gc];refine ⟨yNi h loc q,yDx _,λ_=>⟨rfl,rfl,rfl⟩,λ_ e9=>?_,λ_=>?_⟩
  ·rcases yI9 s loc q with e | ⟨l,_,e⟩
   ·exact e
   ·exact absurd e e9
  ·rcases yI9 s loc q with e | ⟨l,e,_⟩
   ·show iR (acV s loc q).1 _=s;rw [e];rfl
   ·show iR (acV s loc q).1 _=s;rw [e];rfl
def yPq (a:Int):0<=xB .i64 a 3/\xB .i64 a 3<=3:=by
 unfold xB;have e:(Q8 Q2.bits a &&& Q8 Q2.bits 3).toNat<=3:=by
  rw [BitVec.toNat_and];exact Nat.le_trans Nat.and_le_right ji
 rw [yI jh jh];omega
def aL:By:=[115,101,101,100]
def enL:By:=[101,110,116,114,111,112,121]
def nwS (a:Int) (en:By):yA:=⟨[dv en aL [u8 0] 32,dv en aL [u8 1] 32,dv en aL [u8 2] 32],[[],[],[],[]],dv en enL [] 32,a,0,0,0,true,⟨[],0⟩,0,[],⟨0,5,100,0,0,1000⟩,[]⟩
def zY0 {en:By} (hl:en.length=32) (a0:0<=a) (a3:a<=3):zC3 en a=some (nwS a en,0):=by
 unfold zC3;have d:∀ i:Nat,wU en aL [u8 (i:Int)] 32=some (dv en aL [u8 (i:Int)] 32):=λi=>tK en _ _ 32 jh ji jk;refine bd (a:=false) (cf (by rw [hl];rfl) (cf (decide_eq_false jh) (congrArg some (decide_eq_false jh)))) (cf rfl (bd (tK en _ _ 32 jh ji ji) (bd (a:=⟨0,5,100,0,0,1000⟩) rfl (bd (a:=[dv en aL [u8 0] 32,dv en aL [u8 1] 32,dv en aL [u8 2] 32]) ?_ rfl))));refine yF (step:=zFn en) (r:=[dv en aL [u8 0] 32,dv en aL [u8 1] 32,dv en aL [u8 2] 32]) 3 (λi=>((i:Int),match i with | 0=>[] | 1=>[dv en aL [u8 0] 32] | 2=>[dv en aL [u8 0] 32,dv en aL [u8 1] 32] | _=>[dv en aL [u8 0] 32,dv en aL [u8 1] 32,dv en aL [u8 2] 32])) rfl (λi hi=>?_) rfl (xJ ji);rcases (show i=0∨i=1∨i=2 by omega) with rfl | rfl | rfl
 ·exact bd (d 0) rfl
 ·exact bd (d 1) rfl
 ·exact bd (d 2) rfl
def stS (t:yA):zB:=suS (zQ1 t)
def zQw (a0:0<=a) (a3:a<=3) (en:By):zX (stS (nwS a en)):=by
 have l:∀ (la c:By),(dv en la c 32).length<=32:=λla c=>by rw [bG _ _ _ _ ji];decide
 refine ⟨rfl,λx hx=>?_,rfl,λx hx=>?_,l _ _,a0,a3,.inl rfl,⟨λ_=>rfl,λ_=>rfl⟩,zLo _,zG7.1,zG7.2,zNz.1,zNz.2,Q4 _,λx hx=>(by cases hx),List.nodup_nil,Q4 _,λx hx=>(by cases hx),lk0,lk0⟩
 ·have hx:x∈[dv en aL [u8 0] 32,dv en aL [u8 1] 32,dv en aL [u8 2] 32]:=hx;simp only [Q7,Qa,or_false] at hx;rcases hx with rfl | rfl | rfl<;>exact l _ _
 ·have hx:x∈([[],[],[],[]]:List By):=hx;simp only [Q7,Qa,or_false] at hx;rcases hx with rfl | rfl | rfl | rfl<;>exact Q4 _
structure Up (s:zB):Prop where
 ok:zX s
 up:s.Volatile.Started=true
def yMx (h:zX s):zX (stS s.Stable):=⟨h.sl,h.se,h.al,h.ae,h.en,h.a0,h.a3,.inl rfl,⟨λ_=>rfl,λ_=>rfl⟩,zLo _,zG7.1,zG7.2,zNz.1,zNz.2,h.il,h.ix,h.nd,h.kl,h.ky,lk0,lk0⟩
def zMm {t:yA} (a0:0<=t.Active) (a3:t.Active<=3):sP (zQ1 t) 0=some (stS t,0):=(zS6 (s:=zQ1 t) a0 a3 0 (.inl rfl)).1
def zOx (h:zX s):Def (pR s) Up:=by
 unfold pR;refine Q3 (λg=>Q1 ⟨h,g⟩) λ_=>?_;refine Q0 (P:=λr=>r=zQ1 s.Stable) (Q5 (zHv _).1 rfl) λr hr=>?_;subst hr;refine Q0 (P:=λr=>r=(stS s.Stable,0)) (Q5 (zMm h.a0 h.a3) rfl) λr hr=>?_;subst hr;exact Q3 (λg=>by cases g) λ_=>Q1 ⟨yMx h,rfl⟩
def yIl (h:Up s):pR s=some s:=by
 unfold pR;exact ct h.up rfl
def yL3:∃ en:By,nT 2 [] []=some (stS (nwS 2 en)):=by
 obtain ⟨en,e,hen⟩:=hZ [7];refine ⟨en,?_⟩;have a2:xB .i64 2 3=2:=ji
 have u:Up (stS (nwS 2 en)):=⟨zQw ji ji en,rfl⟩;unfold nT;rw [a2];refine bd e (bd (zY0 hen ji ji) (bd (zHv _).1 (bd (zMm (t:=nwS 2 en) (by show (0:Int)<=2;decide) (by show (2:Int)<=3;decide)) (bd (a:=stS (nwS 2 en)) ?_ rfl))));unfold aU;refine bd (a:=stS (nwS 2 en)) (yMy ?_) (bd (yIl u) rfl);unfold aZ;exact bd (a:=false) (cf ji rfl) rfl
def zVl (r:zD):By:=if r.Err≠0 then [u8 r.Err] else fB r.Nonces (fB r.Blobs (igs r.Ints [u8 r.Err,u8 (r.Ints.length:Int)]++[u8 (r.Blobs.length:Int)])++[u8 (r.Nonces.length:Int)])
def zQa:∀ (l:List By) (b:By),(fB l b).length<=b.length+2*l.length+(l.map (·.length)).sum
 | [],b=>by simp [fB]
 | x :: l,b=>by
  have:=zQa l (wE b x);have h1:=rH b x x.length (Qk _);rw [fB];simp only [Qb,Qh,Qn];omega
def zNu (l:List By) (i:Nat):((l.take i).map (·.length)).sum<=(l.map (·.length)).sum:=by
 induction l generalizing i with
 | nil=>simp
 | cons x l ih=>
  cases i with
  | zero=>simp
  | succ i=>have:=ih i;simp only [List.take_succ_cons,Qh,Qn];omega
def nsum {l:List By} (h1:l.length<=1) (h2:∀ x∈l,x.length<=16):(l.map (·.length)).sum<=16:=by
 match l,h1 with
 | [],_=>decide
 | [x],_=>have:=h2 x jk;simpa using this
def yLm {r:zD} (h:Rsp r):(∀ i,(igs (r.Ints.take i) [u8 r.Err,u8 (r.Ints.length:Int)]).length<=66)/\(∀ i,(fB (r.Blobs.take i) (igs r.Ints [u8 r.Err,u8 (r.Ints.length:Int)]++[u8 (r.Blobs.length:Int)])).length<=1583)/\(∀ i,(fB (r.Nonces.take i) (fB r.Blobs (igs r.Ints [u8 r.Err,u8 (r.Ints.length:Int)]++[u8 (r.Blobs.length:Int)])++[u8 (r.Nonces.length:Int)])).length<=1602):=by
 have hi:=h.i;have hb:=h.b;have ht:=h.t;have hn:=h.n;have ns:=nsum h.n h.m;have a1:∀ i,(igs (r.Ints.take i) [u8 r.Err,u8 (r.Ints.length:Int)]).length<=66:=λi=>by rw [zBe,Qc];simp only [Qb,Qf];omega
 have a1':=a1 r.Ints.length;rw [Qd] at a1';have a2:∀ i,(fB (r.Blobs.take i) (igs r.Ints [u8 r.Err,u8 (r.Ints.length:Int)]++[u8 (r.Blobs.length:Int)])).length<=1583:=λi=>by
  have h1:=zQa (r.Blobs.take i) (igs r.Ints [u8 r.Err,u8 (r.Ints.length:Int)]++[u8 (r.Blobs.length:Int)]);have h2:=zNu r.Blobs i;rw [Q6,Qc] at h1;simp only [Qb,Qf] at h1;omega
 have a2':=a2 r.Blobs.length;rw [Qd] at a2';refine ⟨a1,a2,λi=>?_⟩;have h1:=zQa (r.Nonces.take i) (fB r.Blobs (igs r.Ints [u8 r.Err,u8 (r.Ints.length:Int)]++[u8 (r.Blobs.length:Int)])++[u8 (r.Nonces.length:Int)]);have h2:=zNu r.Nonces i;rw [Q6,Qc] at h1;simp only [Qb,Qf] at h1;omega
def yIq {r:zD} (h:Rsp r):vP r=some (zVl r):=by
 obtain ⟨a1,a2,a3⟩:=yLm h;have a1':=a1 r.Ints.length;rw [Qd] at a1';have a2':=a2 r.Blobs.length;rw [Qd] at a2';have hi:=h.i;have hb:=h.b;have hn:=h.n;unfold vP zVl;by_cases g:r.Err=0
 case neg=>rw [if_pos g];exact ct (b1 g) rfl
 rw [if_neg (by simp [g])];have blobs:∀ (l:List By) (b:By),l.length<=8->(∀ i,(fB (l.take i) b).length<=1602)->zP (vW l) FU (b,0)=some (fB l b):=λl b hl hs=>
  iI l fB b jh rfl (λi hi=>by
   have:=hs i;unfold vW;refine ct (decide_eq_true jh) (bd (yX hi) (bd (pX _ _ jh) ?_));rw [yO jh,zK5 hi]) (λx=>by unfold vW;exact cf (decide_eq_false jh) rfl)
 refine cf (b0 g) (bd (a:=[u8 r.Err,u8 (r.Ints.length:Int)]) rfl (bd (a:=igs r.Ints [u8 r.Err,u8 (r.Ints.length:Int)]) ?_ (bd ?_ rfl)))
 ·refine iI r.Ints igs _ jh rfl (λi hi=>?_) (λx=>?_)
  ·have:=a1 i;unfold tP;refine ct (decide_eq_true jh) (bd (yX hi) (bd (rK _ 8 _ ji ji jh) ?_));rw [yO jh,zFy hi]
  ·unfold tP;exact cf (decide_eq_false jh) rfl
 ·refine two (b:=(fB r.Blobs (igs r.Ints [u8 r.Err,u8 (r.Ints.length:Int)]++[u8 (r.Blobs.length:Int)]),1)) (c:=(fB r.Nonces (fB r.Blobs (igs r.Ints [u8 r.Err,u8 (r.Ints.length:Int)]++[u8 (r.Blobs.length:Int)])++[u8 (r.Nonces.length:Int)]),2)) ?_ ?_ rfl
  ·unfold tQ;exact ct rfl (bd (a:=r.Blobs) rfl (bd (yC jl) (bd (blobs _ _ hb λi=>by have:=a2 i;omega) rfl)))
  ·unfold tQ;exact ct rfl (bd (a:=r.Nonces) rfl (bd (yC jl) (bd (blobs _ _ jh a3) rfl)))
def q4:zC:=⟨4,[],[],[],[]⟩
def q4_l:RqL q4:=⟨ji,ji,ji,ji⟩
def exe4 (h:Up s):exe s 0 q4=m4 s:=by
 have c:ckV q4=0:=by decide +kernel
 unfold exe;rw [if_neg (by simp [c])];have e1:((q4.Code != 1)&&!s.Volatile.Started)=false:=by rw [h.up];rfl
 rw [e1];rfl
structure Rem (r:RS) (l:By):Prop where
 e:r.e=0
 at':r.at'<=r.b.length
 d:r.b.drop r.at'=l
def Rem.left {l:By} (h:Rem r l):r.left=l.length:=by
 have:=congrArg List.length h.d;simp at this;exact this
def Rem.to {x:By} {n:Nat} (h:Rem r (x++rest)) (hx:x.length=n):Rem (r.to n) rest:=by
 have hl:=h.left;have ha:=h.at';simp only [RS.left,Q6] at hl;refine ⟨h.e,by simp only [RS.to];omega,?_⟩;show r.b.drop (r.at'+n)=rest;rw [<- List.drop_drop,h.d,<- hx,List.drop_left]
def Rem.uint {x:By} {n:Nat} (h:Rem r (x++rest)) (hx:x.length=n) (hv:¬ 9223372036854775808<=beV x n):wS r n=(Q2.wrap (beV x n),r.to n):=by
 have hl:=h.left;rw [Q6] at hl;unfold wS;have:r.get n=x:=by
  unfold RS.get;rw [h.d,<- hx,List.take_left]
 rw [if_neg (by simp [h.e]),if_neg jh,this,if_neg hv]
def Rem.uintV {x:By} {n:Nat} (h:Rem r (x++rest)) (hx:x.length=n) (hv:beV x n=v) (h0:0<=v) (h1:v<9223372036854775808):wS r n=(v,r.to n):=by
 rw [h.uint hx jh,hv,yI jh jh]
def yBi (a b:Nat) (ha:a<2 ^ 56) (hb:b<256):ior .u64 (qW .u64 (a:Int) 8) (Qe.wrap (b:Int))=((a*256+b:Nat):Int):=by
 rw [zD1 jh jh];have e1:qW .u64 (a:Int) 8=((a*256:Nat):Int):=by
  show Qe.wrap ((a:Int)*256)=_;rw [zD1 jh jh];omega
 rw [e1];unfold ior;have e2:(Q8 Qe.bits ((a*256:Nat):Int) ||| Q8 Qe.bits (b:Int)).toNat=a*256+b:=by
  show (Q8 64 ((a*256:Nat):Int) ||| Q8 64 (b:Int)).toNat=_;rw [Qg,Qg,BitVec.toNat_or,Qi,Qi,Ql jh,Ql jh];rw [Nat.mul_comm,show (256:Nat)=2 ^ 8 from rfl,<- Nat.two_pow_add_eq_or_of_lt jh]
 rw [e2,zD1 jh jh]
def yF2 (n size k:Nat) (hn:n<2 ^ 64) (hk:k<size) (h8:size<=8):((beN (n:Int) size size).getD k 0).toNat=n / 256 ^ (size - (k+1)) % 256:=by
 have e:(beN (n:Int) size size).getD k 0=u8 (xT .u64 (Qe.wrap (n:Int)) (8*((size:Int) - 1 - (k:Int)))):=by simp [beN,hk]
 rw [e,zD1 jh jh,show 8*((size:Int) - 1 - (k:Int))=((8*(size - (k+1)):Nat):Int) by omega,yI4 .u64 n _ (by show _<=64;omega),qS,Nat.pow_mul]
def zTh (n size:Nat) (hn:n<2 ^ 64) (h8:size<=8) (hs:n<256 ^ size):∀ k,k<=size->beV (beN (n:Int) size size) k=((n / 256 ^ (size - k):Nat):Int)
 | 0,_=>by
  rw [Nat.sub_zero,Nat.div_eq_of_lt hs];rfl
 | k+1,hk=>by
  unfold beV;rw [zTh n size hn h8 hs k jh,yF2 n size k hn jh h8];have e:256 ^ (size - k)=256 ^ (size - (k+1))*256:=by
   rw [<- Nat.pow_succ];congr 1;omega
  rw [e,<- Nat.div_div_eq_div_mul];have hm:n / 256 ^ (size - (k+1))<=n:=Nat.div_le_self _ _;generalize n / 256 ^ (size - (k+1))=m at hm;rw [yBi _ _ jh jh];congr 1;omega
def Rem.uintN {n:Nat} (h:Rem r (beN (n:Int) k k++rest)) (h8:k<=8) (hn:n<2 ^ 63) (hs:n<256 ^ k):wS r k=((n:Int),r.to k)/\Rem (r.to k) rest:=by
 have hb:=zTh n k jh h8 hs k (Qk _);rw [Nat.sub_self,Nat.pow_zero,Nat.div_one] at hb;exact ⟨h.uintV (zE3 _ _ _) hb jh jh,h.to (zE3 _ _ _)⟩
def Rem.uintI (h:Rem r (beN n k k++rest)) (h8:k<=8) (h0:0<=n) (hn:n<2 ^ 62) (hs:n.toNat<256 ^ k):wS r k=(n,r.to k)/\Rem (r.to k) rest:=by
 obtain ⟨m,rfl⟩:=Int.eq_ofNat_of_zero_le h0;exact Rem.uintN h h8 jh hs
def Ix (s:zB):List zF×Int:=(s.Stable.Indices,s.Stable.MaxCounter)
def yPt {k:Int}:(opV s k).2.2=0->Ix (opV s k).1=Ix s:=by
 unfold opV;cases decide (k<1)||decide (3<k)
 ·cases opF s
  ·exact λe=>absurd e (show ¬ (25:Int)=0 by decide)
  ·exact λ_=>rfl
 ·exact λe=>absurd e (show ¬ (1:Int)=0 by decide)
def yN8 {a:zH}:(asV s h a).2=0->Ix (asV s h a).1=Ix s:=by
 unfold asV;cases psf s h with
 | none=>exact λe=>absurd e (show ¬ (8:Int)=0 by decide)
 | some k=>
  simp only;split
  ·exact λ_=>rfl
  ·rename_i g;exact λe=>absurd e g
def yNu {n r:By} {t:Int}:(seV s h n r t).2=0->Ix (seV s h n r t).1=Ix s:=by
 unfold seV;cases psf s h with
 | none=>exact λe=>absurd e (show ¬ (8:Int)=0 by decide)
 | some k=>
  simp only;split
  ·exact λ_=>rfl
  ·rename_i g;exact λe=>absurd e g
def yPs {k:zM} {r g:By}:(apV s h k r g).2=0->Ix (apV s h k r g).1=Ix s:=by
 unfold apV;cases psf s h with
 | none=>exact λe=>absurd e (show ¬ (8:Int)=0 by decide)
 | some k=>
  simp only;split
  ·exact λ_=>rfl
  ·rename_i g;exact λe=>absurd e g
def zOo {t:zB} (h:e=0->Ix t=Ix s):Ix (dn s t e).1=Ix s:=by
 unfold dn;split
 ·rfl
 ·rename_i g;exact h (by simpa using g)
def yBy (s:zB) (x:zS) (b:List By):Ix (ldR s x b).1=Ix s:=by
 unfold ldR;cases frO s<;>rfl
def yMk (s:zB) (q:zC):Ix (prV s q).1=Ix s:=by
 unfold prV;split
 ·rfl
 ·exact yBy _ _ _
def yMv (s:zB) (q:zC):Ix (crO s q).1=Ix s:=by
 unfold crO;cases (pob s q).Public.Kind != 1
 ·simp only [cond_false];split<;>rfl
 ·rfl
def yK6 (s:zB) (q:zC):Ix (ldV s q).1=Ix s:=by
 unfold ldV;cases (pob s q).Public.Kind != 1
 ·simp only [cond_false];split
  ·rfl
  split
  ·rfl
  ·exact yBy _ _ _
 ·rfl
def yKk (s:zB) (q:zC):Ix (flV s q).1=Ix s:=by
 unfold flV;cases obf s (int q 0) with
 | some i=>rfl
 | none=>cases ssf s (int q 0)<;>rfl
def yKp (s:zB) (q:zC):Ix (usV s q).1=Ix s:=by
 unfold usV;cases (pob s q).Public.Kind != 3<;>rfl
def yKn (s:zB) (x:zS):(lfV s x).2.2=0->Ix (lfV s x).1=Ix s:=by
 unfold lfV;cases kyf s x.Public.Unique with
 | some i=>simp only;split<;>first | exact λ_=>rfl | (intro e;first | rfl | exact absurd e ji)
 | none=>simp only;split<;>first | exact λ_=>rfl | (intro e;first | rfl | exact absurd e ji)
def yCv (s:zB) (q:zC) (m:By) (f:By->List By):Ix (snR s q m f).1=Ix s:=by
 unfold snR;split
 ·rfl
 rename_i g;have g:(sgV s (pob s q) m).2.2=0:=by simpa using g
 show Ix (sgV s (pob s q) m).1=Ix s;unfold sgV at g ⊢;split
 ·rfl
 ·rename_i w;exact yKn s _ (by simpa using w)
def yK1 (s:zB) (q:zC):Ix (snV s q).1=Ix s:=by
 unfold snV;split
 ·rfl
 ·exact yCv _ _ _ _
def yKf (s:zB) (q:zC):Ix (qtV s q).1=Ix s:=by
 unfold qtV;split
 ·rfl
 split
 ·rfl
 ·exact yCv _ _ _ _
def yC3 (s:zB) (x:zE×Int) (b:List By):Ix (mR s x b).1=Ix s:=by
 unfold mR;split<;>rfl
def yJ7 (s:zB) (q:zC):Ix (m16 s q).1=Ix s:=by
 unfold m16;split
 ·rfl
 ·rename_i g;exact yPt (by simpa using g)
def yNc (s:zB) (q:zC):Ix (m17 s q).1=Ix s:=by
 unfold m17;cases !asO q
 ·simp only [cond_false];cases (int q 1==4)&&(ixf s (int q 4)).isNone
  ·simp only [cond_false];split
   ·rfl
   ·rename_i g;exact yN8 (by simpa using g)
  ·rfl
 ·rfl
def yKx (s:zB) (q:zC):Ix (m18 s q).1=Ix s:=by
 unfold m18;cases (aut q).Session==int q 0
 ·exact zOo λe=>yNu e
 ·rfl
def yKa (s:zB) (q:zC):Ix (m19 s q).1=Ix s:=by
 unfold m19;split
 ·rfl
 ·exact zOo λe=>yPs e
def yKq (s:zB) (q:zC):Ix (m20 s q).1=Ix s:=by
 unfold m20;cases ((sfV s (int q 0)).2 != 0)||((sfV s (int q 0)).1.Kind==1)<;>rfl
def yLx (s:zB) (q:zC):Ix (m30 s q).1=Ix s:=by
 unfold m30;split<;>rfl
def yOc (s:zB) (q:zC):Ix (m5 s q).1=Ix s:=by
 unfold m5;split<;>rfl
def yAy (s:zB) (h:Int) (b:Bool):Ix (cpV s h b).1=Ix s:=by
 unfold cpV;cases b
 ·cases (fdV s h).1.protected_
  ·cases h==3<;>rfl
  ·rfl
 ·rfl
def yAl (s:zB) (q:zC) (w:By):Ix (byV s q w).1=Ix s:=by
 unfold byV;cases fbV s q
 ·cases lkV s (hnd q 0)
  ·exact yAy _ _ _
  ·rfl
 ·rfl
def yMi (s:zB) (loc:Int) (q:zC) (x:zI):Ix (byP s loc q x).1=Ix s:=by
 unfold byP;split
 ·rfl
 cases x.AuthValue
 ·rfl
 ·cases lkV s (hnd q 0)
  ·exact yAy _ _ _
  ·rfl
def yKy (s:zB) (loc:Int) (q:zC):Ix (acV s loc q).1=Ix s:=by
 unfold acV;cases (aut q).Session==0
 ·cases ssf s (aut q).Session with
  | none=>rfl
  | some i=>
   show Ix (bif (ssg s i).Kind==1 then byV s q (wnt s q (ssg s i)) else bif (ssg s i).Kind==2 then byP s loc q (ssg s i) else (s,8)).1=_;cases (ssg s i).Kind==1
   ·cases (ssg s i).Kind==2
    ·rfl
    ·exact yMi _ _ _ _
   ·exact yAl _ _ _
 ·exact yAl _ _ _
def yM0 (s:zB) (q:zC):Ix (afV s q).1=Ix s:=by
 unfold afV;cases (aut q).Session==0
 ·cases ssf s (aut q).Session with
  | none=>rfl
  | some i=>
   show Ix (bif (ssg s i).Kind==1 then (ptS (rnS s) i (afN (ssg s i) (rnB s 16)),[rnB s 16]) else (bif (ssg s i).Kind==2 then ptS s i ss0 else s,[])).1=_;cases (ssg s i).Kind==1
   ·cases (ssg s i).Kind==2<;>rfl
   ·rfl
 ·rfl
def cv (x:zF):Int:=(wS (rs0 x.Data) 8).1
def LX (last:Nat->Int) (m:Int) (x:zF):Prop:=x.Kind=2->x.Data.length=8/\(x.Written=true->0<=cv x/\cv x<=m/\∀ j:Nat,x.N=(j:Int)->last j<=cv x)
structure LI (last:Nat->Int) (p:List zF×Int):Prop where
 m0:0<=p.2
 lm:∀ j,last j<=p.2
 ix:∀ x∈p.1,LX last p.2 x
section
def LX.up {m':Int} (h:LX last m x) (l:m<=m'):LX last m' x:=λk=>⟨(h k).1,λw=>by
 obtain ⟨a,b,c⟩:=(h k).2 w;exact ⟨a,jh,c⟩⟩
def LX.no (h:x.Kind≠2):LX last m x:=λk=>absurd k h
def yGc (h0:0<=v) (h1:v<2 ^ 62):(wS (rs0 (wW [] 8 v)) 8).1=v:=by
 have r:Rem (rs0 (wW [] 8 v)) (beN v 8 8++[]):=⟨rfl,Q4 _,by rw [List.append_nil];rfl⟩;rw [(r.uintI ji h0 h1 jh).1]
def yPr (h:LX last m x) (m0:0<=m) (lm:∀ j,last j<=m) (e:inE x m=0):LX last (inV x m).2.1 (inV x m).1/\m<=(inV x m).2.1:=by
 have e0:=e;unfold inE at e0;cases g:x.Kind != 2<;>rw [g] at e0
 case true=>cases e0
 have g:x.Kind=2:=by simpa using g
 cases g2:decide (1099511627776<=inB x m)<;>rw [g2] at e0
 case true=>cases e0
 have g2:=dF g2;obtain ⟨_,hw⟩:=h g;have hB:0<=inB x m/\(x.Written=true->inB x m=cv x)/\(x.Written=false->inB x m=m):=by
  unfold inB;cases w:x.Written
  ·exact ⟨m0,(λe=>by cases e),λ_=>rfl⟩
  ·exact ⟨(hw w).1,λ_=>rfl,(λe=>by cases e)⟩
 obtain ⟨b0,b1,b2⟩:=hB;have ev:Q2.wrap (inB x m+1)=inB x m+1:=yI jh jh;unfold inV;rw [if_pos e,ev];generalize inB x m=v at b0 b1 b2 g2;have hm:m<=(if m<v+1 then v+1 else m)/\v+1<=(if m<v+1 then v+1 else m):=by split<;>omega
 refine ⟨λ_=>⟨by show (wW [] 8 (v+1)).length=8;rw [yL];rfl,λ_=>?_⟩,hm.1⟩;have ec:cv (wrt x (wW [] 8 (v+1)))=v+1:=yGc jh jh;rw [ec];refine ⟨jh,hm.2,λj hj=>?_⟩;cases w:x.Written
 ·have:=lm j;have:=b2 w;omega
 ·have:=(hw w).2.2 j hj;have:=b1 w;omega
def zL9 (k:LI last (Ix s)) (h:e=0->LX last m x/\s.Stable.MaxCounter<=m):LI last (Ix (wrI s q x m e).1):=by
 unfold wrI;cases has s.Volatile.WriteLocks (ixx s q).N
 ·simp only [cond_false];split
  ·exact k
  rename_i g;obtain ⟨h1,h2⟩:=h (by simpa using g);have h3:(Ix s).2<=m:=h2;refine ⟨show 0<=m by have:=k.m0;omega,λj=>show last j<=m by have:=k.lm j;omega,λy hy=>?_⟩;rcases List.mem_or_eq_of_mem_set (show y∈s.Stable.Indices.set (ixp s q) x from hy) with hy | rfl
  ·exact (k.ix y hy).up h2
  ·exact h1
 ·exact k
def ifD {P:zB×zD->Prop} {c:Bool} {a b:zB×zD} (h:c=true->P a) (k:c=false->P b):P (bif c then a else b):=by
 cases c
 ·exact k rfl
 ·exact h rfl
def zMe (h:(x.Kind != n)=false) (hn:n≠2):x.Kind≠2:=by
 have:x.Kind=n:=by simpa using h
 omega
def yMt (k:LI last (Ix s)) (e:(ixf s (hnd q 1)).isSome=true):LI last (Ix (mIx s q).1):=by
 have hx:ixx s q∈s.Stable.Indices:=zCf (gZ e);have ok:=k.ix _ hx;unfold mIx;refine ifD (P:=λr=>LI last (Ix r.1)) (λ_=>k) λ_=>ifD (P:=λr=>LI last (Ix r.1)) (λ_=>k) λ_=>ifD (P:=λr=>LI last (Ix r.1)) (λ_=>?_) λ_=>ifD (P:=λr=>LI last (Ix r.1)) (λ_=>?_) λ_=>ifD (P:=λr=>LI last (Ix r.1)) (λ_=>?_) λ_=>ifD (P:=λr=>LI last (Ix r.1)) (λ_=>?_) λ_=>?_
 ·show LI last (Ix (m24 s q).1);unfold m24;cases has s.Volatile.ReadLocks (ixx s q).N
  ·simp only [cond_false];split<;>exact k
  ·exact k
 ·refine zL9 k λe=>⟨?_,Q9 _⟩;have e1:=iw_e e;unfold iwV;rw [if_pos e1];unfold iwE at e1;cases g:(ixx s q).Kind != 1<;>rw [g] at e1
  ·exact LX.no (zMe g ji)
  ·cases e1
 ·refine zL9 k λe=>?_;exact yPr ok k.m0 k.lm (in_e e)
 ·refine zL9 k λe=>⟨?_,Q9 _⟩;have e1:=sb_e e;unfold sbV;rw [if_pos e1];unfold sbE at e1;cases g:(ixx s q).Kind != 3<;>rw [g] at e1
  ·exact LX.no (zMe g ji)
  ·cases e1
 ·show LI last (Ix (m27 s q).1);refine zL9 k λe=>⟨?_,Q9 _⟩;have e1:=ie_e e;unfold ieV;rw [if_pos e1];unfold ieE at e1;cases g:(ixx s q).Kind != 4<;>rw [g] at e1
  ·exact LX.no (zMe g ji)
  ·cases e1
def yMb (k:LI last (Ix s)):LI last (Ix (m21 s q).1):=by
 unfold m21;split
 ·exact k
 rename_i g;have g:(nwX q).2=0:=by simpa using g
 refine ifD (P:=λr=>LI last (Ix r.1)) (λ_=>k) λ_=>?_;split
 ·exact k
 refine ⟨k.m0,k.lm,λy hy=>?_⟩;rcases List.mem_append.1 (show y∈s.Stable.Indices++[(nwX q).1] from hy) with hy | hy
 ·exact k.ix y hy
 obtain rfl:y=(nwX q).1:=by simpa using hy
 unfold nwX nwV at g ⊢;by_cases g2:nwE (int q 0) (int q 1) (int q 2) (int q 3) (blb q 0) (blb q 1)=0
 case neg=>rw [if_neg g2] at g;exact absurd g g2
 rw [if_pos g2];intro hk;have hk:int q 1=2:=hk;refine ⟨?_,λw=>by cases w⟩;show (List.replicate (int q 3).toNat (0:UInt8)).length=8;rw [List.length_replicate];unfold nwE at g2;cases g3:n1E (int q 0) (int q 1) (int q 3) (blb q 1)<;>rw [g3] at g2
 case true=>cases g2
 unfold n1E at g3;rw [hk] at g3;have g4:szd 2 (int q 3)=true:=by
  cases w:szd 2 (int q 3)
  ·rw [w] at g3;simp at g3
  ·rfl
 have g5:(int q 3==8)=true:=g4;have:=eq_of_beq g5;omega
def yLv (k:LI last (Ix s)):LI last (Ix (m22 s q).1):=by
 unfold m22;refine ifD (P:=λr=>LI last (Ix r.1)) (λ_=>k) λ_=>?_;refine ⟨k.m0,k.lm,λy hy=>?_⟩;exact k.ix y (List.mem_filter.1 (show y∈s.Stable.Indices.filter (λx=>!(x.N==int q 0)) from hy)).1
def yJ6 (k:LI last (Ix s)) (c:1<=q.Code/\q.Code<=33) (c3:q.Code≠3) (e:23<=q.Code/\q.Code<=29->(ixf s (hnd q 1)).isSome=true):LI last (Ix (bdy s loc q).1):=by
 have same:∀ t,Ix t=Ix s->LI last (Ix t):=λt w=>w▸k;have D:=λ{c:Bool} {a b:zB×zD} (h:c=true->LI last (Ix a.1)) (k:c=false->LI last (Ix b.1))=>ifD (P:=λr=>LI last (Ix r.1)) h k;unfold bdy;refine D (λ_=>same _ (zOo λ_=>rfl)) λg1=>D (λ_=>same _ (zOo λ_=>rfl)) λg2=>D (λ_=>k) λg4=>D (λ_=>same _ (yOc _ _)) λg5=>D (λ_=>same _ (yC3 _ _ _)) λg6=>D (λ_=>same _ (yC3 _ _ _)) λg7=>D (λ_=>same _ (yC3 _ _ _)) λg8=>?_;refine D (λ_=>same _ (yMk _ _)) λg9=>D (λ_=>same _ (yMv _ _)) λg10=>D (λ_=>same _ (yK6 _ _)) λg11=>D (λ_=>same _ (yKk _ _)) λg12=>D (λ_=>same _ (yKp _ _)) λg13=>D (λ_=>same _ (yK1 _ _)) λg14=>D (λ_=>same _ (yKf _ _)) λg15=>?_;refine D (λ_=>same _ (yJ7 _ _)) λg16=>D (λ_=>same _ (yNc _ _)) λg17=>D (λ_=>same _ (yKx _ _)) λg18=>D (λ_=>same _ (yKa _ _)) λg19=>D (λ_=>same _ (yKq _ _)) λg20=>D (λ_=>yMb k) λg21=>D (λ_=>yLv k) λg22=>?_;refine D (λ_=>same _ (yLx _ _)) λg30=>D (λ_=>⟨k.m0,k.lm,λy hy=>by cases hy⟩) λg31=>D (λ_=>k) λg32=>D (λ_=>same _ (zOo λ_=>rfl)) λg33=>?_;refine yMt k (e ?_);simp only [beq_eq_false_iff_ne] at *;omega
def yDw (k:LI last (Ix s)):LI last (Ix (exe s loc q).1):=by
 unfold exe;by_cases g:ckV q=0
 case neg=>rw [if_pos g];exact k
 rw [if_neg (show ¬ ckV q≠0 by simp [g])];have kq:=zMd g;refine ifD (P:=λr=>LI last (Ix r.1)) (λ_=>k) λ_=>ifD (P:=λr=>LI last (Ix r.1)) (λ_=>k) λst=>ifD (P:=λr=>LI last (Ix r.1)) (λ_=>k) λal=>?_;have al:alw s q=true:=by simpa using al
 have aq:=zTp kq al st;obtain ⟨c1,c2,c3⟩:=fD kq;have hb:LI last (Ix (bdy s loc q).1):=yJ6 k ⟨c1,c2⟩ c3 λw=>aq.ix w;unfold ex1;split
 ·exact hb
 split
 ·rw [show Ix (acV s loc q).1=Ix s from yKy _ _ _];exact k
 unfold ex2;split
 ·exact k
 ·rw [show Ix (afV (bdy s loc q).1 q).1=Ix (bdy s loc q).1 from yM0 _ _];exact hb
end
def yKb {α:Type} {o:Option α} {P Q:α->Prop} (h:Def o P) (k:Def o Q):Def o (λx=>P x/\Q x):=by
 obtain ⟨a,e,p⟩:=h;obtain ⟨b,e2,q⟩:=k;rw [e] at e2;cases e2;exact ⟨a,e,p,q⟩
def zL:Nat->Int:=λ_=>0
def zR0 (h:zX s):Def (pR s) (λt=>Ix t=Ix s):=by
 unfold pR;refine Q3 (λg=>Q1 rfl) λ_=>?_;refine Q0 (P:=λr=>r=zQ1 s.Stable) (Q5 (zHv _).1 rfl) λr hr=>?_;subst hr;refine Q0 (P:=λr=>r=(stS s.Stable,0)) (Q5 (zMm h.a0 h.a3) rfl) λr hr=>?_;subst hr;exact Q3 (λg=>by cases g) λ_=>Q1 rfl
def yIa (s:zB) (n:Int):Def (kU s n) (λr=>r.2=0->Ix r.1=Ix s):=by
 unfold kU;refine Q3 (λ_=>Q1 (λe=>by cases e)) λ_=>?_;refine Q0 (P:=λ_=>True) (Q3 (λ_=>Q1 trivial) λ_=>Q1 trivial) λb _=>?_;refine Q3 (λ_=>Q1 (λe=>by cases e)) λ_=>Q3 (λ_=>Q1 (λe=>by cases e)) λ_=>?_;refine Q0 (P:=λ_=>True) (Q3 (λ_=>Q1 trivial) λ_=>Q1 trivial) λb _=>?_;exact Q1 λ_=>rfl
def yFp (h:zX s) (l:LI zL (Ix s)) (k n m:Int) (b:By) (hb:b.length<2 ^ 40):Def (zC5 s k n m b) (λt=>zX t/\LI zL (Ix t)):=by
 unfold zC5;refine Q0 (yKb (zOx h) (zR0 h)) λt ht=>?_;obtain ⟨ht,e⟩:=ht;have lt:LI zL (Ix t):=e▸l;refine yD ?_ ?_
 ·refine Q0 (yKb (yDy ht.ok _) (yIa t _)) λr hr=>?_;refine Q3 (λg=>Q1 ⟨(hr.1 (eq_of_beq g)).1,?_⟩) λ_=>Q1 ⟨ht.ok,lt⟩;rw [show Ix r.1=Ix t from hr.2 (eq_of_beq g)];exact lt
 ·refine Def.lt (Q0 (Def.app jl) λb2 _=>?_);refine Q0 (yF3 ht.ok _ _ _ b2) λq hq=>?_;exact Q0 (P:=λr=>zX r.1/\LI zL (Ix r.1)) (Q5 (zO4 ht.ok hq.l _) ⟨(zPj ht.ok q _).ok,yDw lt⟩) λr hr=>Q1 hr
def yF7 (h:zX s) (l:LI zL (Ix s)) {fD:By} (hb:b.length<2 ^ 40):Def (aU s fD b 10) (λt=>Up t/\LI zL (Ix t)):=by
 unfold aU;refine Q0 (P:=λt=>zX t/\LI zL (Ix t)) ?_ λt ht=>Q0 (yKb (zOx ht.1) (zR0 ht.1)) λr hr=>Q1 ⟨hr.1,by rw [hr.2];exact ht.2⟩;refine Def.loop (λx=>0<=x.1/\x.1<=40/\zX x.2/\LI zL (Ix x.2)) (λx=>40 - x.1.toNat) (λx hx=>?_) ⟨(show (0:Int)<=0 by decide),(show (0:Int)<=40 by decide),h,l⟩ (show 40 - (0:Int).toNat<2 ^ 64 by decide);obtain ⟨i,t⟩:=x;obtain ⟨i0,i1,ht⟩:=hx;simp only at i0 i1 ht;unfold aZ;have e:Q2.wrap (i+2)=i+2:=yI jh jh;have e1:Q2.wrap (i+1)=i+1:=yI jh jh;have e3:Q2.wrap (i+3)=i+3:=yI jh jh;have e30:Q2.wrap (3*10)=30:=ji
 dsimp only;rw [e,e1,e3,e30];refine Q0 (P:=λc=>c=true->i+2<fD.length/\i<30) (Q3 (λg=>Q1 λg2=>⟨dT g,dT g2⟩) λ_=>Q1 λe=>by cases e) λc hcc=>?_;refine Q3 (λg=>?_) λ_=>Q1 ht;obtain ⟨c1,c2⟩:=hcc g;refine Q0 (Qj i0 jh) λx _=>Q0 (Qj jh jh) λy _=>Q0 (Qj jh c1) λz _=>?_;exact Q0 (yFp ht.1 ht.2 _ _ _ b hb) λu hu=>Q1 ⟨⟨by show 0<=i+3;omega,by show i+3<=40;omega,hu⟩,by show 40 - (i+3).toNat<40 - i.toNat;omega⟩
def yBc (active:Int) {fD:By} (hb:b.length<2 ^ 40):Def (nT active fD b) (λt=>Up t/\LI zL (Ix t)):=by
 obtain ⟨a0,a3⟩:=yPq active;unfold nT;refine Q0 (hZ _) λen hen=>?_;refine Q0 (P:=λr=>r=(nwS (xB .i64 active 3) en,0)) (Q5 (zY0 hen a0 a3) rfl) λr hr=>?_;subst hr;refine Q0 (P:=λr=>r=zQ1 (nwS (xB .i64 active 3) en)) (Q5 (zHv _).1 rfl) λr hr=>?_;subst hr;refine Q0 (P:=λr=>r=(stS (nwS (xB .i64 active 3) en),0)) (Q5 (zMm a0 a3) rfl) λr hr=>?_;subst hr;exact Q0 (yF7 (zQw a0 a3 en) ⟨Q9 _,λ_=>Q9 _,λx hx=>by cases hx⟩ hb) λr hr=>Q1 hr
def rdQ (n:Int):zC:=⟨24,[1,256+n],[⟨0,[],[]⟩],[0,8],[]⟩
def yDv (h:(exe s 0 (rdQ n)).2.Err=0):∃ b,(exe s 0 (rdQ n)).2.Blobs=[b]/\b.length=8:=by
 revert h;unfold exe;by_cases g:ckV (rdQ n)=0
 case neg=>rw [if_pos g];exact λe=>absurd e g
 rw [if_neg (show ¬ ckV (rdQ n)≠0 by simp [g])];refine ifD (P:=λr=>r.2.Err=0->∃ b,r.2.Blobs=[b]/\b.length=8) (λ_ e=>by cases e) λ_=>ifD (P:=λr=>r.2.Err=0->∃ b,r.2.Blobs=[b]/\b.length=8) (λ_ e=>by cases e) λst=>ifD (P:=λr=>r.2.Err=0->∃ b,r.2.Blobs=[b]/\b.length=8) (λ_ e=>by cases e) λal=>?_;unfold ex1;rw [if_neg (show ¬ (rdQ n).Auths.length=0 from Nat.one_ne_zero)];split
 ·rename_i w;exact λe=>absurd e w
 unfold ex2;split
 ·rename_i w;exact λe=>absurd e w
 intro _;rename_i w;have w:(bdy s 0 (rdQ n)).2.Err=0:=by simpa using w
 show ∃ b,(bdy s 0 (rdQ n)).2.Blobs=[b]/\b.length=8;have eb:bdy s 0 (rdQ n)=m24 s (rdQ n):=rfl;rw [eb] at w ⊢;revert w;unfold m24;refine ifD (P:=λr=>r.2.Err=0->∃ b,r.2.Blobs=[b]/\b.length=8) (λ_ e=>by cases e) λ_=>?_;split
 ·rename_i w;exact λe=>absurd e w
 rename_i w;have w:(irV (ixx s (rdQ n)) 0 8).2=0:=by
  have w2:(irV (ixx s (rdQ n)) (int (rdQ n) 0) (int (rdQ n) 1)).2=0:=by simpa using w
  exact w2
 intro _;refine ⟨_,rfl,?_⟩;show (irV (ixx s (rdQ n)) 0 8).1.length=8;unfold irV at w ⊢;by_cases g2:irE (ixx s (rdQ n)) 0 8=0
 case neg=>rw [if_neg g2] at w;exact absurd w g2
 rw [if_pos g2];unfold irE at g2;cases g3:(ixx s (rdQ n)).Written<;>rw [g3] at g2
 ·cases g2
 cases g4:ins 0 8 (ixx s (rdQ n)).Data.length<;>rw [g4] at g2
 ·cases g2
 obtain ⟨_,_,c⟩:=zKu.1 g4;show (((ixx s (rdQ n)).Data.drop 0).take 8).length=8;rw [Qc,List.length_drop];omega
def yHl (h:zX s) (n0:0<=n) (n4:n<5):Def (fW s n) (λv=>v=-1∨∃ x∈s.Stable.Indices,x.N=n/\x.Kind=2/\x.Written=true/\v=cv x):=by
 unfold fW;have e:Q2.wrap (256+n)=256+n:=yI jh jh;rw [e];have hi:=uB h (h:=256+n) ⟨jh,jh⟩;cases q:ixf s (256+n) with
 | none=>
  rw [q] at hi;exact Q5 (bd hi (bd (a:=true) (ct rfl rfl) rfl)) (.inl rfl)
 | some i=>
  rw [q] at hi;obtain ⟨hl,hN⟩:=uT q;have hN:(ixg s i).N=n:=jh
  have gi:idx s.Stable.Indices (i:Int)=some (ixg s i):=vT hl;have hx:ixg s i∈s.Stable.Indices:=zCf hl;have ok:=h.ix _ hx;refine Q0 (P:=λv=>v=(i:Int)) (Q5 hi rfl) λv hv=>?_;subst hv;refine Q0 (P:=λc=>c=false->(ixg s i).Kind=2/\(ixg s i).Written=true) ?_ λc hc=>?_
  ·refine Q3 (λg=>Q1 λe=>by cases e) λ_=>Q0 (P:=λx=>x=ixg s i) (Q5 gi rfl) λx hx=>?_;subst hx;refine Q3 (λg=>Q1 λe=>by cases e) λg=>Q0 (P:=λx=>x=ixg s i) (Q5 gi rfl) λx hx=>?_;subst hx;exact Q1 λe=>⟨by simpa using g,by simpa using e⟩
  refine Q3 (λ_=>Q1 (.inl rfl)) λg=>Q0 (P:=λx=>x=ixg s i) (Q5 gi rfl) λx hxx=>?_;subst hxx;obtain ⟨k1,k2⟩:=hc g;refine Q0 (P:=λv=>v=cv (ixg s i)) ?_ λv hv=>Q1 (.inr ⟨_,hx,hN,k1,k2,hv⟩);unfold mY;exact Q5 (bd (zZx _) (bd (kA _ 8 (zGe (by have:=ok.d;omega)) ji ji) rfl)) rfl
def yOe {l:List zF} (h:(l.map (·.N)).Nodup) {y:zF} (hx:x∈l) (hy:y∈l) (e:x.N=y.N):x=y:=by
 induction l with
 | nil=>cases hx
 | cons a l ih=>
  rw [Qh,List.nodup_cons] at h;rcases Q7.1 hx with rfl | hx2
  ·rcases Q7.1 hy with rfl | hy2
   ·rfl
   ·exact absurd (e▸Qo.2 ⟨y,hy2,rfl⟩) h.1
  ·rcases Q7.1 hy with rfl | hy2
   ·exact absurd (e▸Qo.2 ⟨x,hx2,rfl⟩) h.1
   ·exact ih h.2 hx2 hy2
def lfn (l:List Int):Nat->Int:=λj=>l.getD j 0
def yK2 (h:zX s) {last:List Int} (k:LI (lfn last) (Ix s)) (hl:last.length=5) (hx:x∈s.Stable.Indices) {j:Nat} (hj:j<5) (hN:x.N=(j:Int)) (h2:x.Kind=2) (hw:x.Written=true):LI (lfn (last.set j (cv x))) (Ix s):=by
 obtain ⟨c0,c1,c2⟩:=(k.ix x hx h2).2 hw;have hs:∀ i,lfn (last.set j (cv x)) i=if i=j then cv x else lfn last i:=λi=>by
  unfold lfn;rw [List.getD_eq_getElem?_getD,List.getElem?_set];by_cases g:i=j
  ·subst g;rw [if_pos rfl,if_pos jh,if_pos rfl];rfl
  ·rw [if_neg (λe=>g e.symm),if_neg g,<- List.getD_eq_getElem?_getD]
 refine ⟨k.m0,λi=>?_,λy hy k2=>⟨(k.ix y hy k2).1,λw=>?_⟩⟩
 ·rw [hs];split
  ·exact c1
  ·exact k.lm i
 ·obtain ⟨a,b,c⟩:=(k.ix y hy k2).2 w;refine ⟨a,b,λi hi=>?_⟩;rw [hs];split
  ·rename_i g;subst g;rw [yOe h.nd hy hx (by rw [hi,hN])];exact Q9 _
  ·exact c i hi
def yIj (h:zX s) {last:List Int} (k:LI (lfn last) (Ix s)) (hl:last.length=5) (n0:0<=n) (n4:n<5) (hv:v=-1∨∃ x∈s.Stable.Indices,x.N=n/\x.Kind=2/\x.Written=true/\v=cv x) (g:0<=v) :
  lfn last n.toNat<=v/\LI (lfn (last.set n.toNat v)) (Ix s):=by
 rcases hv with rfl | ⟨x,hx,hN,h2,hw,rfl⟩
 ·omega
 have hN':x.N=(n.toNat:Int):=jh
 exact ⟨((k.ix x hx h2).2 hw).2.2 _ hN',yK2 h k hl hx jh hN' h2 hw⟩
def stT (x:Int×zG×yG×(List By)×(List By)×By×Int×Int×Int×Int×Bool×(List (List By))×Int×Int×(List zF)×(List zZ)×(List Int)):zB:=
 match x with
 | (_,lo,vo,se,au,en,ac,re,rt,cl,od,sb,su,mc,ix,ke,_)=>⟨⟨se,au,en,ac,re,rt,cl,od,⟨sb,su⟩,mc,ix,lo,ke⟩,vo⟩
def laT (x:Int×zG×yG×(List By)×(List By)×By×Int×Int×Int×Int×Bool×(List (List By))×Int×Int×(List zF)×(List zZ)×(List Int)):List Int:=
 match x with
 | (_,_,_,_,_,_,_,_,_,_,_,_,_,_,_,_,la)=>la
def n5 (b:UInt8):0<=Qp (Q2.wrap ((u8 (Qm (b.toNat:Int) 4)).toNat:Int)) 5/\Qp (Q2.wrap ((u8 (Qm (b.toNat:Int) 4)).toNat:Int)) 5<5:=by
 have:=(u8 (Qm (b.toNat:Int) 4)).toNat_lt;rw [yI jh jh];exact ⟨Int.tmod_nonneg _ jh,Int.tmod_lt_of_pos _ ji⟩
def zH0 (s:zB) (q:zC) (loc:Int) (hc:q.Code=4):jM s loc q=some (bdy s loc q)/\(bdy s loc q).2.Blobs=[]:=by
 rw [sS (r:=m4 s) hc rfl];refine ⟨?_,rfl⟩;unfold jM m4;rw [hc];refine cf rfl (cf rfl (ct rfl ?_));cases s.Volatile.Safe<;>rfl
def zAp (h:zX s) (l:RqL q) (loc:Int) (c:q.Code=4∨((q.Code=21∨q.Code=22∨q.Code=24∨q.Code=25)/\(aut q).Session=0)):vS s loc q=some (exe s loc q):=by
 unfold vS exe;refine bd (zT9 l) ?_;by_cases g:ckV q=0
 case neg=>rw [if_pos g];exact ct (b1 g) rfl
 rw [if_neg (show ¬ ckV q≠0 by simp [g])];have k:=zMd g;refine cf (b0 g) (bd (oO _ _) ?_);cases gl:decide (loc<0)||decide (4<loc)
 case true=>rfl
 simp only [Bool.or_eq_false_iff] at gl;have l0:=dF gl.1;have l4:=dF gl.2;refine cf rfl (bd (oA _ _) ?_);cases gs:(q.Code != 1)&&!s.Volatile.Started
 case true=>rfl
 refine cf rfl (bd (zOm h k jh) ?_);cases ga:alw s q
 case false=>rfl
 have al:=zTp k ga gs;refine cf rfl ?_;simp only [cond_false,Bool.not_true];unfold ex1;rcases c with e | ⟨e,hs⟩
 ·have ha:=(cnt k e (a:=0) (b:=0) (i:=0) (n:=0) jn).2.1;rw [if_pos ha];exact ct (c0' jh) (bd (zH0 s q loc e).1 (tl4 (zRa h al k loc).n (zH0 s q loc e).2))
 ·obtain ⟨hh,ha⟩:0<q.Handles.length/\q.Auths.length=1:=by
   rcases e with e | e | e | e
   ·obtain ⟨a,b,_⟩:=cnt k e (a:=1) (b:=1) (i:=4) (n:=2) jn;omega
   ·obtain ⟨a,b,_⟩:=cnt k e (a:=1) (b:=1) (i:=1) (n:=0) jn;omega
   ·obtain ⟨a,b,_⟩:=cnt k e (a:=2) (b:=1) (i:=2) (n:=0) jn;omega
   ·obtain ⟨a,b,_⟩:=cnt k e (a:=2) (b:=1) (i:=0) (n:=0) jn;omega
  rw [if_neg jh];refine cf (c1' jh) (bd (zUp h k.ok hh jh hs loc) ?_);by_cases gc:(acV s loc q).2=0
  case neg=>rw [if_pos gc];exact ct (b1 gc) rfl
  rw [if_neg (show ¬ (acV s loc q).2≠0 by simp [gc])];obtain ⟨em,hi⟩:=yDi h k al loc e;refine cf (b0 gc) (bd em ?_);unfold ex2;generalize bdy s loc q=r at hi;by_cases ge:r.2.Err=0
  ·rw [if_neg (show ¬ r.2.Err≠0 by simp [ge]),hi];exact cf (b0 ge) (bd (zP0 jh hs) rfl)
  ·rw [if_pos ge];exact ct (b1 ge) rfl
def yPk:gK [83,87,0,6,4,0]=some (q4,0):=by decide +kernel
def zPm:eJ=some true:=by
 obtain ⟨en,e⟩:=yL3;have u:Up (stS (nwS 2 en)):=⟨zQw ji ji en,rfl⟩;have ex:=exe4 u;have me:=zAp u.ok q4_l 0 (.inl rfl);rw [ex] at me;have mr:cY (stS (nwS 2 en)) 0 ([83,87,0,6,4,0]:By)=some ((m4 (stS (nwS 2 en))).1,zVl (m4 (stS (nwS 2 en))).2):=by
  unfold cY;have hr:=(zPj u.ok q4 0).rsp;rw [ex] at hr;exact bd yPk (cf rfl (bd me (bd (yIq hr) rfl)))
 have el:(zVl (m4 (stS (nwS 2 en))).2).length=36:=by
  unfold zVl;rw [if_neg (by simp [m4])];show (igs _ _++[_]++[_]).length=36;rw [Q6,Q6,zBe];rfl
 have e0:idx (zVl (m4 (stS (nwS 2 en))).2) 0=some 0:=rfl;unfold eJ;refine bd e (bd me (bd mr (bd (a:=true) ?_ rfl)));refine ct rfl (ct rfl (bd (a:=1) rfl (ct rfl (ct (by rw [el];rfl) (bd e0 rfl)))))
def zKf {fD:By} (kinds:By):Def (tL fD kinds) (· = true):=by
 unfold tL;refine Q0 (P:=λr=>r=true) (Q5 zPm rfl) λr hr=>?_;subst hr;refine Q3 (λg=>by cases g) λ_=>Q3 (λ_=>Q1 rfl) λg24=>?_;have g24:=dF g24;refine Q0 (yBc 2 ji) λs hs=>?_;obtain ⟨up,li⟩:=hs;have h:=up.ok;refine Q0 (P:=λr=>r=.inr ()) ?_ λr hr=>by subst hr;exact Q1 rfl
 refine Def.loop (λx=>0<=x.1/\x.1<=24/\zX (stT x)/\LI (lfn (laT x)) (Ix (stT x))/\(laT x).length=5) (λx=>25 - x.1.toNat) (λx hx=>?step) ?init (show 25 - (0:Int).toNat<2 ^ 64 by decide)
 case init=>
  refine ⟨(show (0:Int)<=0 by decide),(show (0:Int)<=24 by decide),⟨h.sl,h.se,rfl,λx hx=>?_,h.en,h.a0,h.a3,h.sv,h.sn,h.rg,h.ss,h.sx,h.ol,h.ob,h.il,h.ix,h.nd,h.kl,h.ky,h.rl,h.wl⟩,?_,rfl⟩
  ·have hx:x∈([[],[],[],[]]:List By):=hx;simp only [Q7,Qa,or_false] at hx;rcases hx with rfl | rfl | rfl | rfl<;>exact Q4 _
  ·have e:lfn [0,0,0,0,0]=zL:=by
    funext j;unfold lfn zL
    match j with
    | 0=>rfl
    | 1=>rfl
    | 2=>rfl
    | 3=>rfl
    | 4=>rfl
    | j+5=>rfl
   show LI (lfn [0,0,0,0,0]) (Ix s);rw [e];exact li
 obtain ⟨i,lo,vo,se,au,en,ac,re,rt,cl,od,sb,su,mc,ix,ke,last⟩:=x;obtain ⟨i0,i1,ok,k,hl⟩:=hx;have i0:0<=i:=i0;have hl:last.length=5:=hl;generalize ht:stT (i,lo,vo,se,au,en,ac,re,rt,cl,od,sb,su,mc,ix,ke,last)=t at ok k;have k:LI (lfn last) (Ix t):=k;unfold oY;refine Q3 (λg=>?_) λ_=>Q1 rfl;have g:=dT g;refine Q0 (P:=λj=>∃ s' last',j=.inr (s',last')/\zX s'/\LI (lfn last') (Ix s')/\last'.length=5) ?_ λj hj=>?_
 ·refine Q0 (Qj i0 g) λb _=>Def.lt (Q0 (Qj i0 g) λb2 _=>?_);obtain ⟨n0,n4⟩:=n5 b;generalize Qp (Q2.wrap ((u8 (Qm (b.toNat:Int) 4)).toNat:Int)) 5=n at n0 n4;rw [show Q2.wrap (256+n)=256+n from yI jh jh];refine Q0 (P:=λq=>(q.1=21∨q.1=22∨q.1=25)/\q.2.1.length<=2/\q.2.2.1.length<=4/\q.2.2.2.length<=2) (Q3 (λ_=>Q1 ⟨.inr (.inl rfl),by show 1<=2;decide,by show 1<=4;decide,by show 0<=2;decide⟩) λ_=>Q3 (λ_=>Q1 ⟨.inl rfl,by show 1<=2;decide,by show 4<=4;decide,by show 2<=2;decide⟩) λ_=>Q1 ⟨.inr (.inr rfl),by show 2<=2;decide,by show 0<=4;decide,by show 0<=2;decide⟩) λq hq=>?_;obtain ⟨c,qh,qi,qb⟩:=q;obtain ⟨l0,l1,l2,l3⟩:=hq;have l0:c=21∨c=22∨c=25:=l0;have l1:qh.length<=2:=l1;have l2:qi.length<=4:=l2;have l3:qb.length<=2:=l3;have rq:RqL ⟨c,qh,[⟨0,[],[]⟩],qi,qb⟩:=⟨by show qh.length<_;omega,by show 1<_;decide,by show qi.length<_;omega,by show qb.length<_;omega⟩;have ht2:(⟨⟨se,au,en,ac,re,rt,cl,od,⟨sb,su⟩,mc,ix,lo,ke⟩,vo⟩:zB)=t:=ht;show Def ((vS (⟨⟨se,au,en,ac,re,rt,cl,od,⟨sb,su⟩,mc,ix,lo,ke⟩,vo⟩:zB) 0 ⟨c,qh,[⟨0,[],[]⟩],qi,qb⟩).bind _) _;rw [ht2];refine Q0 (P:=λr=>zX r.1/\LI (lfn last) (Ix r.1)) (Q5 (zAp ok rq 0 (.inr ⟨by show c=21∨c=22∨c=24∨c=25;omega,rfl⟩)) ⟨(zPj ok _ 0).ok,yDw k⟩) λr hr=>?_;obtain ⟨u,rr⟩:=r;obtain ⟨hu,ku⟩:=hr;have hu:zX u:=hu;have ku:LI (lfn last) (Ix u):=ku;have lq:RqL (rdQ n):=⟨by show 2<_;decide,by show 1<_;decide,by show 2<_;decide,by show 0<_;decide⟩;refine Q0 (P:=λr=>r.2.Err=0->∃ b,r.2.Blobs=[b]/\b.length=8) (Q5 (zAp hu lq 0 (.inr ⟨.inr (.inr (.inl rfl)),rfl⟩)) yDv) λr hr=>?_;obtain ⟨u2,r2⟩:=r;refine Q0 (yHl hu n0 n4) λv hv=>Q0 (P:=λc=>c=true->r2.Err=0/\0<=v) (Q3 (λg1=>Q1 λg2=>⟨eq_of_beq g1,dT g2⟩) λ_=>Q1 λe=>by cases e) λc hcc=>?_;refine Q3 (λg1=>?_) λ_=>Q1 ⟨u,last,rfl,hu,ku,hl⟩;obtain ⟨e1,e2⟩:=hcc g1;obtain ⟨bl,hb,hb8⟩:=hr e1;have hb:r2.Blobs=[bl]:=hb;obtain ⟨m1,m2⟩:=yIj hu ku hl n0 n4 hv e2;rw [hb];refine Q0 (P:=λc=>c=false) ?_ λc hc2=>?_
  ·refine Q3 (λg2=>by cases g2) λ_=>Q0 (P:=λx=>x=bl) (Q5 rfl rfl) λx hx=>?_;subst hx;refine Q3 (λg2=>?_) λ_=>Q0 (P:=λj=>j=n.toNat) ((Def.ixN (n:=5) n0 n4).mono λj hj=>hj.1) λj hj=>?_
   ·rw [hb8] at g2;cases g2
   subst hj;refine Q0 (P:=λy=>y=lfn last n.toNat) (Q5 (a:=lfn last n.toNat) ?_ rfl) λy hy=>?_
   ·unfold lfn;rw [List.getD_eq_getElem?_getD,List.getElem?_eq_getElem jh];rfl
   subst hy;exact Q1 (decide_eq_false jh)
  subst hc2;refine Q3 (λg2=>by cases g2) λ_=>Q0 (P:=λj=>j=n.toNat) ((Def.ixN (n:=5) n0 n4).mono λj hj=>hj.1) λj hj=>?_;subst hj;refine Q0 (Def.upd jh) λla hla=>Q1 ⟨u,la,rfl,hu,by rw [hla];exact m2,by rw [hla,List.length_set];exact hl⟩
 ·obtain ⟨s',last',rfl,k1,k2,k3⟩:=hj;refine Q1 ?_;have e:Q2.wrap (i+1)=i+1:=yI jh jh;refine ⟨⟨?_,?_,k1,k2,k3⟩,?_⟩
  ·show 0<=Q2.wrap (i+1);omega
  ·show Q2.wrap (i+1)<=24;omega
  ·show 25 - (Q2.wrap (i+1)).toNat<25 - i.toNat;omega
def zI0 (fD kinds:By):tL fD kinds=some true:=by
 obtain ⟨_,h,rfl⟩:=zKf (fD:=fD) kinds;exact h
end Go.Proofs.TT
