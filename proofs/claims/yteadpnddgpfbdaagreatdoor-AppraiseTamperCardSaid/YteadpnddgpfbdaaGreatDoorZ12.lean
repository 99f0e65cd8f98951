/- AppraiseTamper (law 37: evidence that was accepted is refused if its log is changed or cut, and for another challenge, but for a collision of the frames of the nonce) is proved for every input, under no condition of ours; this text is a part of that proof. -/
import Derived.Test.YteadpnddgpfbdaaGreatDoorZ11
set_option linter.all false
namespace Go.Proofs.TT
open Go Go.Sw
set_option maxRecDepth 100000
structure Rem (r:RS) (l:List UInt8):Prop where
 e:r.e=0
 at':r.at'<=r.b.length
 d:r.b.drop r.at'=l
theorem Rem.left {r:RS} {l:List UInt8} (h:Rem r l):r.left=l.length:=by
 have:=congrArg List.length h.d
 simp at this
 exact this
theorem Rem.to {r:RS} {x rest:List UInt8} {n:Nat} (h:Rem r (x++rest)) (hx:x.length=n):Rem (r.to n) rest:=by
 have hl:=h.left
 have ha:=h.at'
 simp only [RS.left,List.length_append] at hl
 refine ⟨h.e,by simp only [RS.to];omega,?_⟩
 show r.b.drop (r.at'+n)=rest
 rw [<- List.drop_drop,h.d,<- hx,List.drop_left]
theorem Rem.raw {r:RS} {x rest:List UInt8} {n:Nat} (h:Rem r (x++rest)) (hx:x.length=n):lF r n=(x,r.to n):=by
 have hl:=h.left
 rw [List.length_append] at hl
 unfold lF
 rw [if_neg (by simp [h.e]),if_neg (by omega)]
 have:r.get n=x:=by
  unfold RS.get
  rw [h.d,<- hx,List.take_left]
 rw [this]
theorem Rem.uint {r:RS} {x rest:List UInt8} {n:Nat} (h:Rem r (x++rest)) (hx:x.length=n) (hv:¬ 9223372036854775808<=beV x n):yA r n=(IntKind.i64.wrap (beV x n),r.to n):=by
 have hl:=h.left
 rw [List.length_append] at hl
 unfold yA
 have:r.get n=x:=by
  unfold RS.get
  rw [h.d,<- hx,List.take_left]
 rw [if_neg (by simp [h.e]),if_neg (by omega),this,if_neg hv]
theorem Rem.blob {r:RS} {a b:UInt8} {x rest:List UInt8} {m:Nat} (h:Rem r ([a,b]++(x++rest))) (hx:x.length=a.toNat*256+b.toNat) (hm:x.length<=m):vX r m=(x,r.to (2+x.length))/\Rem (r.to (2+x.length)) rest:=by
 have hl:=h.left
 have ha:=h.at'
 simp only [List.length_append,List.length_cons,List.length_nil] at hl
 have hd:=h.d
 have e0:r.b.getD r.at' 0=a:=by
  have:=congrArg (λl=>l.getD 0 0) hd
  simpa using this
 have e1:r.b.getD (r.at'+1) 0=b:=by
  have:=congrArg (λl=>l.getD 1 0) hd
  simpa using this
 have ev:v2 r=x.length:=by unfold v2;rw [e0,e1,hx]
 have h2:Rem (r.to 2) (x++rest):=Rem.to (x:=[a,b]) h rfl
 have hd2:r.b.drop (r.at'+2)=x++rest:=h2.d
 constructor
 ·unfold vX
  rw [if_neg (by simp [h.e]),if_neg (by omega),ev,if_neg (by omega),if_neg (by omega),hd2,List.take_left]
 ·have:=Rem.to h2 rfl
  have e:(r.to 2).to x.length=r.to (2+x.length):=by simp [RS.to,Nat.add_assoc]
  rw [<- e]
  exact this
theorem Rem.uintV {r:RS} {x rest:List UInt8} {n:Nat} {v:Int} (h:Rem r (x++rest)) (hx:x.length=n) (hv:beV x n=v) (h0:0<=v) (h1:v<9223372036854775808):yA r n=(v,r.to n):=by
 rw [h.uint hx (by omega),hv,zV (by omega) (by omega)]
theorem Rem.cast {r r':RS} {l:List UInt8} (h:Rem r l) (e:r'=r):Rem r' l:=e▸h
theorem zGx (a b:Nat) (ha:a<2 ^ 56) (hb:b<256):ior .u64 (tS .u64 (a:Int) 8) (IntKind.u64.wrap (b:Int))=((a*256+b:Nat):Int):=by
 rw [gQ (by omega) (by omega)]
 have e1:tS .u64 (a:Int) 8=((a*256:Nat):Int):=by
  show IntKind.u64.wrap ((a:Int)*256)=_
  rw [gQ (by omega) (by omega)];omega
 rw [e1]
 unfold ior
 have e2:(BitVec.ofInt IntKind.u64.bits ((a*256:Nat):Int) ||| BitVec.ofInt IntKind.u64.bits (b:Int)).toNat=a*256+b:=by
  show (BitVec.ofInt 64 ((a*256:Nat):Int) ||| BitVec.ofInt 64 (b:Int)).toNat=_
  rw [BitVec.ofInt_natCast,BitVec.ofInt_natCast,BitVec.toNat_or,BitVec.toNat_ofNat,BitVec.toNat_ofNat,Nat.mod_eq_of_lt (by omega),Nat.mod_eq_of_lt (by omega)]
  rw [Nat.mul_comm,show (256:Nat)=2 ^ 8 from rfl,<- Nat.two_pow_add_eq_or_of_lt (by omega)]
 rw [e2,gQ (by omega) (by omega)]
theorem zE5 (n size k:Nat) (hn:n<2 ^ 64) (hk:k<size) (h8:size<=8):((beN (n:Int) size size).getD k 0).toNat=n / 256 ^ (size - (k+1)) % 256:=by
 have e:(beN (n:Int) size size).getD k 0=u8 (zW .u64 (IntKind.u64.wrap (n:Int)) (8*((size:Int) - 1 - (k:Int)))):=by simp [beN,hk]
 rw [e,gQ (by omega) (by omega),show 8*((size:Int) - 1 - (k:Int))=((8*(size - (k+1)):Nat):Int) by omega,zGr .u64 n _ (by show _<=64;omega),tW,Nat.pow_mul]
theorem zJb (n size:Nat) (hn:n<2 ^ 64) (h8:size<=8) (hs:n<256 ^ size):∀ k,k<=size->beV (beN (n:Int) size size) k=((n / 256 ^ (size - k):Nat):Int)
 | 0,_=>by
  rw [Nat.sub_zero,Nat.div_eq_of_lt hs];rfl
 | k+1,hk=>by
  unfold beV
  rw [zJb n size hn h8 hs k (by omega),zE5 n size k hn (by omega) h8]
  have e:256 ^ (size - k)=256 ^ (size - (k+1))*256:=by
   rw [<- Nat.pow_succ];congr 1;omega
  rw [e,<- Nat.div_div_eq_div_mul]
  have hm:n / 256 ^ (size - (k+1))<=n:=Nat.div_le_self _ _
  generalize n / 256 ^ (size - (k+1))=m at hm
  rw [zGx _ _ (by omega) (by omega)]
  congr 1
  omega
theorem Rem.uintN {r:RS} {rest:List UInt8} {k n:Nat} (h:Rem r (beN (n:Int) k k++rest)) (h8:k<=8) (hn:n<2 ^ 63) (hs:n<256 ^ k):yA r k=((n:Int),r.to k)/\Rem (r.to k) rest:=by
 have hb:=zJb n k (by omega) h8 hs k (Nat.le_refl _)
 rw [Nat.sub_self,Nat.pow_zero,Nat.div_one] at hb
 exact ⟨h.uintV (uF _ _ _) hb (by omega) (by omega),h.to (uF _ _ _)⟩
theorem be2 (n:Nat) (hn:n<65536):∃ a b:UInt8,beN (n:Int) 2 2=[a,b]/\n=a.toNat*256+b.toNat:=by
 have h0:=zE5 n 2 0 (by omega) (by omega) (by omega)
 have h1:=zE5 n 2 1 (by omega) (by omega) (by omega)
 have hl:=uF (n:Int) 2 2
 match hx:beN (n:Int) 2 2,hl with
 | [a,b],_=>
  rw [hx] at h0 h1
  refine ⟨a,b,rfl,?_⟩
  have h0:a.toNat=n / 256 ^ 1 % 256:=h0
  have h1:b.toNat=n / 256 ^ 0 % 256:=h1
  rw [h0,h1]
  simp only [Nat.pow_one,Nat.pow_zero,Nat.div_one]
  omega
theorem kZ {x:List UInt8} (b:List UInt8) (h:x.length<=65535):kM b x=b++(beN (x.length:Int) 2 2++x):=by
 unfold kM wF
 rw [List.take_of_length_le h,List.append_assoc]
theorem Rem.blobN {r:RS} {x rest:List UInt8} {m:Nat} (h:Rem r (beN (x.length:Int) 2 2++(x++rest))) (hx:x.length<=65535) (hm:x.length<=m):vX r m=(x,r.to (2+x.length))/\Rem (r.to (2+x.length)) rest:=by
 obtain ⟨a,b,h1,h2⟩:=be2 x.length (by omega)
 rw [h1] at h
 exact Rem.blob h h2 hm
theorem Rem.fin {r:RS} (h:Rem r []):bZ r=0:=by
 have:=h.left
 unfold bZ
 rw [if_neg (by rw [this];simp)]
 exact h.e
def qbA (a:api_Attest):List UInt8:=[83,87,81,49]++(beN (a.Key.length:Int) 2 2++(a.Key++(beN (a.Nonce.length:Int) 2 2++(a.Nonce++(beN a.Resets 8 8++(beN a.Restarts 8 8++(beN a.Clock 8 8++([0]++(beN a.Updates 8 8++(beN a.Selection.a0 2 2++(beN a.Selection.a1 2 2++(a.Digest++[]))))))))))))
structure QaOk (a:api_Attest):Prop where
 k:a.Key.length=32
 n:a.Nonce.length=32
 d:a.Digest.length=32
 s:a.Safe=false
 r0:0<=a.Resets/\a.Resets<2 ^ 62
 r1:0<=a.Restarts/\a.Restarts<2 ^ 62
 c:0<=a.Clock/\a.Clock<2 ^ 62
 u:0<=a.Updates/\a.Updates<2 ^ 62
 s0:0<=a.Selection.a0/\a.Selection.a0<=65535
 s1:0<=a.Selection.a1/\a.Selection.a1<=65535
theorem Rem.uintI {r:RS} {rest:List UInt8} {k:Nat} {n:Int} (h:Rem r (beN n k k++rest)) (h8:k<=8) (h0:0<=n) (hn:n<2 ^ 62) (hs:n.toNat<256 ^ k):yA r k=(n,r.to k)/\Rem (r.to k) rest:=by
 obtain ⟨m,rfl⟩:=Int.eq_ofNat_of_zero_le h0
 exact Rem.uintN h h8 (by omega) hs
theorem zEr (a:api_Attest) (h:QaOk a):(qbA a).length=141:=by
 unfold qbA
 simp only [List.length_append,uF,h.k,h.n,h.d,List.length_cons,List.length_nil]
theorem zP6 (a:api_Attest) (h:QaOk a):att (qbA a)=(a,0):=by
 have r0:Rem (d0 (qbA a)) ([83,87,81,49]++_):=⟨rfl,Nat.zero_le _,rfl⟩
 generalize hB:qbA a=B at r0
 have e1:d1 B=([83,87,81,49],(d0 B).to 4):=Rem.raw (x:=[83,87,81,49]) (n:=4) r0 rfl
 have r1:=(Rem.to (x:=[83,87,81,49]) (n:=4) r0 rfl).cast (r':=(d1 B).2) (by rw [e1])
 obtain ⟨e2,r2⟩:=Rem.blobN (m:=32) r1 (by have:=h.k;omega) (by have:=h.k;omega)
 replace r2:=r2.cast (r':=(d2 B).2) (by show (vX (d1 B).2 32).2=_;rw [e2])
 obtain ⟨e3,r3⟩:=Rem.blobN (m:=128) r2 (by have:=h.n;omega) (by have:=h.n;omega)
 replace r3:=r3.cast (r':=(d3 B).2) (by show (vX (d2 B).2 128).2=_;rw [e3])
 obtain ⟨e4,r4⟩:=Rem.uintI r3 (by omega) h.r0.1 h.r0.2 (by have:=h.r0;omega)
 replace r4:=r4.cast (r':=(d4 B).2) (by show (yA (d3 B).2 8).2=_;rw [e4])
 obtain ⟨e5,r5⟩:=Rem.uintI r4 (by omega) h.r1.1 h.r1.2 (by have:=h.r1;omega)
 replace r5:=r5.cast (r':=(d5 B).2) (by show (yA (d4 B).2 8).2=_;rw [e5])
 obtain ⟨e6,r6⟩:=Rem.uintI r5 (by omega) h.c.1 h.c.2 (by have:=h.c;omega)
 replace r6:=r6.cast (r':=(d6 B).2) (by show (yA (d5 B).2 8).2=_;rw [e6])
 have e7:d7 B=(0,(d6 B).2.to 1):=Rem.uintV (x:=[0]) (n:=1) r6 rfl (by decide +kernel) (by decide) (by decide)
 have r7:=(Rem.to (x:=[0]) (n:=1) r6 rfl).cast (r':=(d7 B).2) (by rw [e7])
 obtain ⟨e8,r8⟩:=Rem.uintI r7 (by omega) h.u.1 h.u.2 (by have:=h.u;omega)
 replace r8:=r8.cast (r':=(d8 B).2) (by show (yA (d7 B).2 8).2=_;rw [e8])
 obtain ⟨e9,r9⟩:=Rem.uintI r8 (by omega) h.s0.1 (by have:=h.s0;omega) (by have:=h.s0;omega)
 replace r9:=r9.cast (r':=(d9 B).2) (by show (yA (d8 B).2 2).2=_;rw [e9])
 obtain ⟨e10,r10⟩:=Rem.uintI r9 (by omega) h.s1.1 (by have:=h.s1;omega) (by have:=h.s1;omega)
 replace r10:=r10.cast (r':=(d10 B).2) (by show (yA (d9 B).2 2).2=_;rw [e10])
 have e11:d11 B=(a.Digest,(d10 B).2.to 32):=Rem.raw (n:=32) r10 h.d
 have r11:=(Rem.to (n:=32) r10 h.d).cast (r':=(d11 B).2) (by rw [e11])
 have hend:=r11.fin
 have f1:(d1 B).2.e=0:=r1.e
 have g1:(d1 B).1=[83,87,81,49]:=by rw [e1]
 have g2:(d2 B).1=a.Key:=congrArg Prod.fst e2
 have g3:(d3 B).1=a.Nonce:=congrArg Prod.fst e3
 have g4:(d4 B).1=a.Resets:=congrArg Prod.fst e4
 have g5:(d5 B).1=a.Restarts:=congrArg Prod.fst e5
 have g6:(d6 B).1=a.Clock:=congrArg Prod.fst e6
 have g7:(d7 B).1=0:=by rw [e7]
 have g8:(d8 B).1=a.Updates:=congrArg Prod.fst e8
 have g9:(d9 B).1=a.Selection.a0:=congrArg Prod.fst e9
 have g10:(d10 B).1=a.Selection.a1:=congrArg Prod.fst e10
 have g11:(d11 B).1=a.Digest:=by rw [e11]
 have hk:=h.k
 have hs:=h.s
 unfold att
 rw [f1,g1,hend,g2,g3,g4,g5,g6,g7,g8,g9,g10,g11,if_neg (by simp),if_neg (by simp),if_neg (by simp),if_neg (by omega)]
 obtain ⟨_,_,_,_,_,sf,_,sel,_⟩:=a
 simp only at hs
 subst hs
 rfl
theorem zPr (a:api_Attest) (h:QaOk a):pQ a=some (qbA a):=by
 obtain ⟨K,N,r0,r1,c,sf,u,⟨s0,s1⟩,D⟩:=a
 have hk:K.length=32:=h.k
 have hn:N.length=32:=h.n
 have hd:D.length=32:=h.d
 have hs:sf=false:=h.s
 subst hs
 unfold pQ qbA
 refine bd (a:=[83,87,81,49]) rfl ?_
 refine bd ((s7 _ K (by simp)).trans (congrArg some (kZ _ (by omega)))) ?_
 refine bd ((s7 _ N (by simp [uF,hk])).trans (congrArg some (kZ _ (by omega)))) ?_
 simp only
 generalize hb:[83,87,81,49]++(beN (K.length:Int) 2 2++K)++(beN (N.length:Int) 2 2++N)=b
 have l2:b.length=72:=by rw [<- hb];simp [uF,hk,hn]
 refine bd (uJ b 8 r0 (by omega) (by omega) (by omega)) ?_
 refine bd (uJ _ 8 r1 (by omega) (by omega) (by rw [zQ];omega)) ?_
 refine bd (uJ _ 8 c (by omega) (by omega) (by rw [zQ,zQ];omega)) ?_
 refine bd (a:=0) rfl ?_
 refine bd (zR (by rw [zQ,zQ,zQ];simp;omega)) ?_
 refine bd (uJ _ 8 u (by omega) (by omega) (by rw [List.length_append,zQ,zQ,zQ];simp;omega)) ?_
 refine bd (uJ _ 2 s0 (by omega) (by omega) (by rw [zQ,List.length_append,zQ,zQ,zQ];simp;omega)) ?_
 refine bd (uJ _ 2 s1 (by omega) (by omega) (by rw [zQ,zQ,List.length_append,zQ,zQ,zQ];simp;omega)) ?_
 refine bd (zR (by rw [zQ,zQ,zQ,List.length_append,zQ,zQ,zQ];simp;omega)) ?_
 have z0:u8 0=0:=rfl
 unfold wF
 rw [z0,<- hb]
 simp only [List.append_assoc,List.append_nil]
end Go.Proofs.TT
namespace Go.Proofs.TT
open Go Go.Sw
set_option maxRecDepth 100000
def yD (active a:Int):Bool:=yP .i64 (zW .i64 active (IntKind.u64.wrap a)) 1==1
theorem zCp (b:List UInt8) (hb:b.length<2 ^ 40):tU 0 b=some (nG b):=by
 unfold tU
 refine ct rfl ?_
 exact bd (zMz b hb) rfl
theorem zC6 (b:List UInt8) (hb:b.length<2 ^ 40):tU 1 b=some (sha b):=by
 unfold tU
 refine cf rfl ?_
 refine ct rfl ?_
 exact bd (fW b hb) rfl
def dgE (active:Int) (on:Bool) (b:List UInt8):List (List UInt8):=[if (on&&yD active 0)=true then nG b else [],if (on&&yD active 1)=true then sha b else []]
theorem zE7 {c:Bool} {a:Nat} {v:List (List UInt8)} {o:Option (List UInt8)} {d:List UInt8} (hv:v.length=2) (ha:a<2) (ho:o=some d) :
  (bif c then (o.bind λs=>(ixN 2 (a:Int)).bind λj=>(uN v j s).bind λw=>some w) else some v)=some (if c=true then v.set a d else v):=by
 cases c
 ·rfl
 ·refine bd ho ?_
  refine bd (vY ha) ?_
  exact bd (by simp [uN,hv,ha]) rfl
def mkE (reg kind active:Int) (data:List UInt8):api_Event:=⟨reg,kind,dgE active (kind != 5) data,data⟩
theorem zIz (reg kind active:Int) (data:List UInt8) (hd:data.length<2 ^ 40):mS reg kind active data=some (mkE reg kind active data):=by
 have on:∀ a:Int,((mD active a).bind λv=>bif v then (some (kind != 5)) else some false:Option Bool)=some ((kind != 5)&&yD active a):=by
  intro a
  show (bif yD active a then (some (kind != 5)) else some false:Option Bool)=_
  cases yD active a<;>cases (kind != 5)<;>rfl
 unfold mS mkE dgE
 refine bd (a:=[if ((kind != 5)&&yD active 0)=true then nG data else [],if ((kind != 5)&&yD active 1)=true then sha data else []]) (two (b:=(1,[if ((kind != 5)&&yD active 0)=true then nG data else [],[]])) (c:=(2,[if ((kind != 5)&&yD active 0)=true then nG data else [],if ((kind != 5)&&yD active 1)=true then sha data else []])) ?_ ?_ rfl) ?_
 ·unfold kD
  refine ct rfl ?_
  refine bd (a:=[if ((kind != 5)&&yD active 0)=true then nG data else [],[]]) ?_ rfl
  refine bd (on 0) ?_
  refine (zE7 (a:=0) rfl (by omega) (zCp data hd)).trans ?_
  cases ((kind != 5)&&yD active 0)<;>rfl
 ·unfold kD
  refine ct rfl ?_
  refine bd (a:=[if ((kind != 5)&&yD active 0)=true then nG data else [],if ((kind != 5)&&yD active 1)=true then sha data else []]) ?_ rfl
  refine bd (on 1) ?_
  refine (zE7 (a:=1) rfl (by omega) (zC6 data hd)).trans ?_
  cases ((kind != 5)&&yD active 1)<;>rfl
 exact bd (ckT rfl) rfl
end Go.Proofs.TT
namespace Go.Proofs.TT
open Go Go.Sw
set_option maxRecDepth 100000
def jD (c:sealwrightdraw_Codes):Prop:=c.B.length<=240/\0<=c.At/\c.At<=c.B.length
theorem zOb (b:List UInt8) (n:Int) (h0:0<=n) (h:n<=240):Def (bE b n) jD:=by
 unfold bE
 refine Def.bd (P:=λr=>r.length<=240) ?_ (λr hr=>Def.s ⟨hr,Int.le_refl 0,by simp⟩)
 refine Def.c (λhl=>?_) (λhl=>Def.s ?_)
 ·rw [decide_eq_true_iff] at hl
  refine Def.bd (Def.sub (by decide) h0 (by omega)) (λx hx=>Def.s ?_)
  rw [hx];simp;omega
 ·rw [decide_eq_false_iff_not] at hl
  omega
theorem rC (c:sealwrightdraw_Codes) (n:Int) (hc:jD c) (hn:0<n):Def (yM c n) (λr=>0<=r.1/\r.1<n/\jD r.2):=by
 obtain ⟨h1,h2,h3⟩:=hc
 unfold yM
 refine Def.c (λh=>Def.s ⟨Int.le_refl 0,hn,h1,h2,h3⟩) (λh=>?_)
 rw [decide_eq_false_iff_not] at h
 rw [zV (n:=c.At+1) (by omega) (by omega),zV (n:=c.At+1 - 1) (by omega) (by omega)]
 refine Def.bd (Def.idx (by omega) (by omega)) (λv _=>?_)
 refine Def.bd (Def.ck (by simp;omega)) (λ_ _=>?_)
 refine Def.s ?_
 rw [wb]
 refine ⟨?_,?_,h1,by simp only;omega,by simp only;omega⟩
 ·rw [Int.tmod_eq_emod_of_nonneg (by omega)];exact Int.emod_nonneg _ (by omega)
 ·rw [Int.tmod_eq_emod_of_nonneg (by omega)];exact Int.emod_lt_of_pos _ hn
def zAx (l:List UInt8):Prop:=1<=l.length/\l.length<=8/\∀ x∈l,32<=x.toNat/\x.toNat<=126
theorem zLb (c:sealwrightdraw_Codes) (hc:jD c):Def (rN c) (λr=>zAx r.1/\jD r.2):=by
 unfold rN
 refine Def.bd (rC c 6 hc (by decide)) (λr hr=>?_)
 obtain ⟨v,x⟩:=r
 obtain ⟨h0,h1,h2⟩:=hr
 simp only at h0 h1 h2
 refine Def.bd (Def.ixN h0 (by show _<((6:Nat):Int);omega)) (λj hj=>?_)
 refine Def.bd (Def.at (by have:=hj.2;simpa using this)) (λl hl=>?_)
 have hl':zAx l:=by
  simp only [List.mem_cons,List.not_mem_nil,or_false] at hl
  rcases hl with rfl | rfl | rfl | rfl | rfl | rfl<;>(unfold zAx;decide)
 refine Def.bd (Def.ck (dX (by have:=hl'.2.1;omega))) (λ_ _=>?_)
 exact Def.s ⟨hl',h2⟩
def aQ (L:List (List UInt8)):List UInt8:=L.flatMap λl=>l++[10]
theorem jA (L:List (List UInt8)) (h:∀ l∈L,zAx l):(aQ L).length<=9*L.length:=by
 induction L with
 | nil=>simp [aQ]
 | cons a r ih=>
  have h1:=(h a (by simp)).2.1
  have h2:=ih (λl hl=>h l (by simp [hl]))
  simp only [aQ,List.flatMap_cons,List.length_append,List.length_cons,List.length_nil] at h2 ⊢
  omega
theorem zFx (c:sealwrightdraw_Codes) (hc:jD c):Def (uT c) (λr=>(∃ L,r.1=aQ L/\1<=L.length/\L.length<=4/\∀ l∈L,zAx l)/\jD r.2):=by
 unfold uT
 refine Def.bd (rC c 4 hc (by decide)) (λr hr=>?_)
 obtain ⟨v,x⟩:=r
 obtain ⟨h0,h1,h2⟩:=hr
 simp only at h0 h1 h2
 refine Def.bd (P:=λr=>(∃ L,r.1=aQ L/\1<=L.length/\L.length<=4/\∀ l∈L,zAx l)/\jD ⟨r.2.1,r.2.2⟩) ?_ (λr hr=>Def.s hr)
 refine Def.loop (λs=>(∃ L,s.1=aQ L/\(L.length:Int)+s.2.1=1+v/\∀ l∈L,zAx l)/\0<=s.2.1/\jD ⟨s.2.2.1,s.2.2.2⟩) (λs=>s.2.1.toNat) (λs hs=>?_) ?_ ?_
 ·obtain ⟨b,n,B,A⟩:=s
  obtain ⟨⟨L,g1,g2,g3⟩,g4,g5⟩:=hs
  simp only at g1 g2 g4 g5
  have hfl:=jA L g3
  unfold oB
  refine Def.c (λh=>?_) (λh=>Def.s ?_)
  ·rw [decide_eq_true_iff] at h
   refine Def.bd (zLb _ g5) (λr hr=>?_)
   obtain ⟨l,y⟩:=r
   obtain ⟨k1,k2⟩:=hr
   simp only at k1 k2
   refine Def.bd (Def.app (by have:=k1.2.1;rw [g1];omega)) (λb1 hb1=>?_)
   refine Def.bd (Def.app (by have:=k1.2.1;rw [hb1,g1];simp;omega)) (λb2 hb2=>Def.s ?_)
   rw [zV (by omega) (by omega)]
   refine ⟨⟨⟨L++[l],?_,by simp only [List.length_append,List.length_cons,List.length_nil];omega,?_⟩,by simp only;omega,k2⟩,by simp only;omega⟩
   ·simp only [hb2,hb1,g1,aQ,List.flatMap_append,List.flatMap_cons,List.flatMap_nil,List.append_nil,List.append_assoc]
   ·intro z hz
    rw [List.mem_append] at hz
    rcases hz with hz | hz
    ·exact g3 z hz
    ·simp at hz;subst hz;exact k1
  ·rw [decide_eq_false_iff_not] at h
   exact ⟨⟨L,g1,by omega,by omega,g3⟩,g5⟩
 ·refine ⟨⟨[],rfl,?_,by simp⟩,?_,h2⟩
  ·rw [zV (by omega) (by omega)];simp
  ·rw [zV (by omega) (by omega)];simp only;omega
 ·rw [zV (by omega) (by omega)];simp only;omega
theorem zIw {α:Type} {P:List α} {i:Nat} {c:α} {t:List α} (h:P.drop i=c :: t):idx P (i:Int)=some c/\P.drop (i+1)=t/\i<P.length:=by
 have hi:i<P.length:=by
  apply Decidable.byContradiction
  intro hn
  rw [List.drop_eq_nil_of_le (by omega)] at h
  cases h
 rw [zEf hi] at h
 injection h with h1 h2
 exact ⟨by rw [xH hi,h1],h2,hi⟩
theorem zLe (x:api_Image) (L:List (List UInt8)) (hp:x.Payload=aQ L) (h4:L.length<=4) (hL:∀ l∈L,zAx l):uQ x=some L:=by
 have hfl:=jA L hL
 have hpl:x.Payload.length<=36:=by rw [hp];omega
 have hd:Def (zE (mY x) FU ([],[],0)) (λr=>r=.inr (L,[])):=by
  refine Def.loop (λs=>∃ i:Nat,s.2.2=(i:Int)/\i<=x.Payload.length/\((s.1=L/\s.2.1=[]/\x.Payload.drop i=[])∨∃ suf rest,L=s.1++(s.2.1++suf) :: rest/\x.Payload.drop i=suf++10 :: aQ rest)) (λs=>x.Payload.length - s.2.2.toNat) (λs hs=>?_) ?_ ?_
  ·obtain ⟨out,line,i'⟩:=s
   obtain ⟨i,g1,g2,g3⟩:=hs
   simp only at g1 g3
   subst g1
   unfold mY
   rcases g3 with ⟨k1,k2,k3⟩ | ⟨suf,rest,k1,k2⟩
   ·refine Def.c (λh=>?_) (λ_=>Def.s (by rw [k1,k2]))
    rw [decide_eq_true_iff] at h
    have:=congrArg List.length k3
    simp at this
    omega
   ·have hmem:line++suf∈L:=by rw [k1];simp
    have hln:=hL _ hmem
    have hout:out.length<4:=by have:=congrArg List.length k1;simp at this;omega
    cases suf with
    | nil=>
     obtain ⟨j1,j2,j3⟩:=zIw (c:=10) (t:=aQ rest) k2
     refine Def.c (λ_=>?_) (λh=>by rw [decide_eq_false_iff_not] at h;omega)
     refine Def.bd (P:=λr=>r=.inr (out++[line],[])) ?_ (λr hr=>?_)
     ·refine Def.bd (P:=λc=>c=10) (Def.of j1 rfl) (λc hc=>?_)
      subst hc
      refine Def.c (λ_=>?_) (λh=>by simp at h)
      rw [List.append_nil] at hln
      refine Def.bd (P:=λb=>b=false) (Def.c (λh=>?_) (λ_=>Def.s ?_)) (λb hb=>?_)
      ·have:=hln.1;simp at h;rw [h] at this;simp at this
      ·simp;omega
      subst hb
      refine Def.bd (Def.app (by simp;omega)) (λo ho=>Def.s (by rw [ho]))
     ·subst hr
      refine Def.s ?_
      rw [yB (by omega)]
      refine ⟨⟨i+1,rfl,by omega,?_⟩,by simp only [Int.toNat_natCast];omega⟩
      cases rest with
      | nil=>exact .inl ⟨by simp [k1],rfl,j2⟩
      | cons l r=>
       refine .inr ⟨l,r,?_,?_⟩
       ·simp [k1]
       ·rw [j2];simp [aQ]
    | cons c suf=>
     obtain ⟨j1,j2,j3⟩:=zIw (c:=c) (t:=suf++10 :: aQ rest) k2
     have hc:=hln.2.2 c (by simp)
     refine Def.c (λ_=>?_) (λh=>by rw [decide_eq_false_iff_not] at h;omega)
     refine Def.bd (P:=λr=>r=.inr (out,line++[c])) ?_ (λr hr=>?_)
     ·refine Def.bd (P:=λd=>d=c) (Def.of j1 rfl) (λd hd=>?_)
      subst hd
      refine Def.c (λh=>by simp at h;omega) (λ_=>?_)
      refine Def.bd (P:=λb=>b=false) (Def.c (λh=>?_) (λ_=>Def.s ?_)) (λb hb=>?_)
      ·simp at h;omega
      ·simp;omega
      subst hb
      have:=hln.2.1
      refine Def.bd (Def.app (by simp at this ⊢;omega)) (λo ho=>Def.s (by rw [ho]))
     ·subst hr
      refine Def.s ?_
      rw [yB (by omega)]
      refine ⟨⟨i+1,rfl,by omega,.inr ⟨suf,rest,by simp [k1],j2⟩⟩,by simp only [Int.toNat_natCast];omega⟩
  ·refine ⟨0,rfl,by omega,?_⟩
   cases L with
   | nil=>exact .inl ⟨rfl,rfl,by rw [hp];rfl⟩
   | cons l r=>exact .inr ⟨l,r,by simp,by rw [hp];simp [aQ]⟩
  ·rw [hp];simp;omega
 obtain ⟨r,h1,h2⟩:=hd
 subst h2
 unfold uQ
 refine bd h1 ?_
 rfl
structure GoodIm (x:api_Image):Prop where
 r1:1<=x.Role
 r4:x.Role<=4
 v0:0<=x.Version
 v1:x.Version<=1000000
 n:jY x.Name=some true
 nl:x.Name.length<=12
 p:x.Payload.length<=64
 l:x.Role=4->∃ L,uQ x=some L/\1<=L.length/\L.length<=4/\∀ l∈L,zAx l
 pn:xV x.Name=some true
theorem cB (x:api_Image) (h:GoodIm x):rZ x=some 0:=by
 obtain ⟨h1,h2,h3,h4,h5,h6,h7,h8,_⟩:=h
 unfold rZ
 refine bd (a:=false) (cf (by simp;omega) (cf (by simp;omega) (cf (by simp;omega) (congrArg some (by simp;omega))))) ?_
 refine cf rfl ?_
 refine bd h5 ?_
 refine cf rfl ?_
 refine cf (by simp;omega) ?_
 refine bd (a:=false) ?_ rfl
 by_cases h:x.Role=4
 ·refine ct (by simp [h]) ?_
  obtain ⟨L,l1,l2,_⟩:=h8 h
  refine bd l1 ?_
  refine congrArg some ?_
  rw [beq_eq_false_iff_ne];omega
 ·exact cf (by simp [h]) rfl
theorem zNi:∀ n∈[([97]:List UInt8),[103,114,117,98],[108,105,110,117,120],[110,101,116,45,48],[116,119,101,108,118,101,45,98,121,116,101,115]],jY n=some true/\n.length<=12/\xV n=some true:=by
 intro n hn
 simp only [List.mem_cons,List.not_mem_nil,or_false] at hn
 rcases hn with rfl | rfl | rfl | rfl | rfl<;>exact ⟨by decide +kernel,by decide,by decide +kernel⟩
theorem zKf (c:sealwrightdraw_Codes) (role:Int) (hc:jD c) (h1:1<=role) (h4:role<=4):Def (sM c role) (λr=>GoodIm r.1/\r.1.Role=role/\jD r.2):=by
 unfold sM
 refine Def.bd (P:=λa=>[a.a0,a.a1,a.a2,a.a3,a.a4]=[([97]:List UInt8),[103,114,117,98],[108,105,110,117,120],[110,101,116,45,48],[116,119,101,108,118,101,45,98,121,116,101,115]]) (Def.s rfl) (λa ha=>?_)
 rw [ha]
 refine Def.bd (rC c 5 hc (by decide)) (λr hr=>?_)
 obtain ⟨v1,c1⟩:=r
 obtain ⟨p1,p2,p3⟩:=hr
 simp only at p1 p2 p3
 refine Def.bd (Def.idx p1 (by simpa using p2)) (λnme hn=>?_)
 obtain ⟨n1,n2,n3⟩:=zNi nme hn
 refine Def.bd (rC c1 5 p3 (by decide)) (λr hr=>?_)
 obtain ⟨v2,c2⟩:=r
 obtain ⟨q1,q2,q3⟩:=hr
 simp only at q1 q2 q3
 refine Def.bd (P:=λr=>jD ⟨r.1,r.2.1⟩/\0<=r.2.2/\r.2.2<=1000000) ?_ (λr hr=>?_)
 ·refine Def.bd (rC c2 9 q3 (by decide)) (λr hr=>?_)
  obtain ⟨v3,c3⟩:=r
  obtain ⟨s1,s2,s3⟩:=hr
  simp only at s1 s2 s3
  refine Def.c (λ_=>?_) (λ_=>Def.s ⟨s3,by simp only;omega,by simp only;omega⟩)
  refine Def.bd (rC c3 3 s3 (by decide)) (λr hr=>?_)
  obtain ⟨v4,c4⟩:=r
  obtain ⟨u1,u2,u3⟩:=hr
  simp only at u1 u2 u3
  refine Def.s ⟨u3,?_,?_⟩<;>(simp only;rw [zV (by omega) (by omega)];omega)
 obtain ⟨B,A,ver⟩:=r
 obtain ⟨w1,w2,w3⟩:=hr
 simp only at w1 w2 w3
 refine Def.c (λh=>?_) (λh=>?_)
 ·rw [beq_iff_eq] at h
  refine Def.bd (zFx _ w1) (λr hr=>?_)
  obtain ⟨pl,c5⟩:=r
  obtain ⟨⟨L,l1,l2,l3,l4⟩,z⟩:=hr
  simp only at l1 z
  have hfl:=jA L l4
  refine Def.s ⟨⟨h1,h4,w2,w3,n1,n2,by simp only;rw [l1];omega,λ_=>⟨L,zLe _ L l1 l3 l4,l2,l3,l4⟩,n3⟩,rfl,z⟩
 ·have hr4:role≠4:=by simpa using h
  refine Def.bd (rC _ 7 w1 (by decide)) (λr hr=>?_)
  obtain ⟨v5,c5⟩:=r
  obtain ⟨x1,x2,x3⟩:=hr
  simp only at x1 x2 x3
  refine Def.bd (Def.mkN x1 (by omega)) (λn hn=>?_)
  refine Def.bd (P:=λr=>jD ⟨r.1,r.2.1⟩/\r.2.2.length=n) ?_ (λr hr=>?_)
  ·refine Def.loop (λs=>0<=s.1/\s.1<=n/\jD ⟨s.2.1,s.2.2.1⟩/\s.2.2.2.length=n) (λs=>((n:Int) - s.1).toNat) (λs hs=>?_) ⟨Int.le_refl 0,by simp,x3,by simp⟩ (by simp;omega)
   obtain ⟨i,B,A,v⟩:=s
   obtain ⟨y1,y2,y3,y4⟩:=hs
   simp only at y1 y2 y3 y4
   unfold nQ
   refine Def.c (λh=>?_) (λ_=>Def.s ⟨y3,y4⟩)
   rw [decide_eq_true_iff] at h
   refine Def.bd (rC _ 256 y3 (by decide)) (λr hr=>?_)
   obtain ⟨v6,c6⟩:=r
   obtain ⟨_,_,z3⟩:=hr
   refine Def.bd (Def.ixN y1 h) (λj hj=>?_)
   refine Def.bd (Def.upd (by omega)) (λu hu=>Def.s ?_)
   rw [zV (by omega) (by omega)]
   refine ⟨⟨by simp only;omega,by simp only;omega,z3,by simp only [hu,List.length_set];exact y4⟩,by simp only;omega⟩
  obtain ⟨B,A,v⟩:=r
  obtain ⟨y1,y2⟩:=hr
  simp only at y1 y2
  refine Def.bd (Def.ck (zN7 y2)) (λ_ _=>?_)
  refine Def.bd (Def.ck (dX (by omega))) (λ_ _=>?_)
  refine Def.s ⟨⟨h1,h4,w2,w3,n1,n2,by simp only;omega,λe=>absurd e hr4,n3⟩,rfl,y1⟩
end Go.Proofs.TT
namespace Go.Proofs.TT
open Go Go.Sw
set_option maxRecDepth 100000
def Bef (a b:api_Image):Prop:=a.Role<=b.Role/\¬ (a.Role=b.Role/\a.Name=b.Name)
structure GoodCh (l:List api_Image):Prop where
 len:l.length<=8
 im:∀ x∈l,GoodIm x
 prs:l.Pairwise Bef
 h1:∃ x∈l,x.Role=1
 h3:∃ x∈l,x.Role=3
theorem tF {α:Type} {l:List α} {i:Nat} (h:i<l.length) {x:α} (hx:x∈l.take (i+1)):x∈l.take i∨x=l[i]:=by
 rw [List.take_add_one,List.mem_append] at hx
 rcases hx with hx | hx
 ·exact .inl hx
 ·right
  simpa [h] using hx
theorem zMp (l:List api_Image) (v:api_Image) (hl:l.length<=20):Def (zE (l6 l v) FU (false,0)) (λr=>(r=true->∃ x∈l,x.Role=v.Role)/\(r=false->∀ x∈l,¬ (x.Role=v.Role/\x.Name=v.Name))):=by
 refine Def.loop (λs=>∃ i:Nat,s.2=(i:Int)/\i<=l.length/\(s.1=true->∃ x∈l,x.Role=v.Role)/\(s.1=false->∀ x∈l.take i,¬ (x.Role=v.Role/\x.Name=v.Name))) (λs=>l.length - s.2.toNat) (λs hs=>?_) ⟨0,rfl,by omega,by simp,by simp⟩ (by simp;omega)
 obtain ⟨ag,i'⟩:=s
 obtain ⟨i,g1,g2,g3,g4⟩:=hs
 simp only at g1 g3 g4
 subst g1
 unfold l6
 refine Def.c (λh=>?_) (λh=>Def.s ⟨g3,λe=>?_⟩)
 ·have hi:i<l.length:=by have:=dT h;omega
  refine Def.bd (P:=λr=>(r=true->∃ x∈l,x.Role=v.Role)/\(r=false->ag=false/\¬ (l[i].Role=v.Role/\l[i].Name=v.Name))) ?_ (λr hr=>?_)
  ·refine Def.c (λha=>Def.s ⟨λ_=>g3 ha,λe=>by simp at e⟩) (λha=>?_)
   refine Def.bd (Def.at' hi) (λy hy=>?_)
   subst hy
   refine Def.c (λhr=>?_) (λhr=>Def.s ⟨λe=>by simp at e,λ_=>⟨ha,λe=>by simp [e.1] at hr⟩⟩)
   rw [beq_iff_eq] at hr
   refine Def.bd (Def.at' hi) (λy hy=>?_)
   subst hy
   refine Def.s ⟨λ_=>⟨_,List.getElem_mem hi,hr⟩,λe=>⟨ha,λe2=>?_⟩⟩
   simp [e2.2] at e
  ·refine Def.s ?_
   rw [yB (by omega)]
   refine ⟨⟨i+1,rfl,by omega,hr.1,λe x hx=>?_⟩,by simp only [Int.toNat_natCast];omega⟩
   obtain ⟨k1,k2⟩:=hr.2 e
   rcases tF hi hx with hx | rfl
   ·exact g4 k1 x hx
   ·exact k2
 ·have:=dF h
  rw [List.take_of_length_le (by omega)] at g4
  exact g4 e
structure ChI (role:Int) (l:List api_Image):Prop where
 im:∀ x∈l,GoodIm x/\x.Role<=role
 prs:l.Pairwise Bef
 h1:2<=role->∃ x∈l,x.Role=1
 h3:4<=role->∃ x∈l,x.Role=3
theorem zLk (role:Int) (h1:1<=role) (h4:role<=4) (l:List api_Image) (n:Int) (c:sealwrightdraw_Codes) (hc:jD c) (hn:0<=n) (hl:(l.length:Int)+n<=2*role) (hI:ChI role l) (hk:role=1∨role=3->1<=n) :
  Def (zE (l9 role) FU (l,n,c.B,c.At)) (λr=>(r.1.length:Int)<=2*role/\ChI role r.1/\(role=1∨role=3->∃ x∈r.1,x.Role=role)/\jD ⟨r.2.1,r.2.2⟩):=by
 refine Def.loop (λs=>0<=s.2.1/\(s.1.length:Int)+s.2.1<=2*role/\ChI role s.1/\(role=1∨role=3->1<=s.2.1∨∃ x∈s.1,x.Role=role)/\jD ⟨s.2.2.1,s.2.2.2⟩) (λs=>s.2.1.toNat) (λs hs=>?_) ⟨hn,hl,hI,λe=>.inl (hk e),hc⟩ (by simp only;omega)
 obtain ⟨l,n,B,A⟩:=s
 obtain ⟨g1,g2,g3,g4,g5⟩:=hs
 simp only at g1 g2 g3 g4 g5
 unfold l9
 refine Def.c (λh=>?_) (λh=>Def.s ?_)
 ·have hn:=dT h
  refine Def.bd (P:=λr=>(r.1.length:Int)+(n - 1)<=2*role/\ChI role r.1/\(∃ x∈r.1,x.Role=role)/\jD ⟨r.2.1,r.2.2⟩) ?_ (λr hr=>?_)
  ·refine Def.bd (zKf _ role g5 h1 h4) (λr hr=>?_)
   obtain ⟨v,c⟩:=r
   obtain ⟨k1,k2,k3⟩:=hr
   simp only at k1 k2 k3
   refine Def.bd (zMp l v (by omega)) (λag ha=>?_)
   refine Def.c (λhg=>?_) (λhg=>?_)
   ·have hgf:ag=false:=by simpa using hg
    refine Def.bd (Def.app (by simp;omega)) (λl' hl'=>Def.s ?_)
    subst hl'
    refine ⟨by simp;omega,⟨λx hx=>?_,?_,λe=>?_,λe=>?_⟩,⟨v,by simp,k2⟩,k3⟩
    ·rw [List.mem_append] at hx
     rcases hx with hx | hx
     ·exact g3.im x hx
     ·simp at hx;subst hx;exact ⟨k1,by omega⟩
    ·rw [List.pairwise_append]
     refine ⟨g3.prs,by simp,λa ha' b hb=>?_⟩
     simp at hb
     subst hb
     exact ⟨by have:=(g3.im a ha').2;omega,ha.2 hgf a ha'⟩
    ·obtain ⟨x,hx,e2⟩:=g3.h1 e
     exact ⟨x,by simp [hx],e2⟩
    ·obtain ⟨x,hx,e2⟩:=g3.h3 e
     exact ⟨x,by simp [hx],e2⟩
   ·have hgt:ag=true:=by simpa using hg
    obtain ⟨x,hx,e⟩:=ha.1 hgt
    exact Def.s ⟨by simp only;omega,g3,⟨x,hx,by omega⟩,k3⟩
  ·obtain ⟨l',B',A'⟩:=r
   obtain ⟨k1,k2,k3,k4⟩:=hr
   simp only at k1 k2 k3 k4
   refine Def.s ?_
   rw [zV (by omega) (by omega)]
   exact ⟨⟨by simp only;omega,k1,k2,λ_=>.inr k3,k4⟩,by simp only;omega⟩
 ·have hn:=dF h
  refine ⟨by simp only;omega,g3,λe=>?_,g5⟩
  rcases g4 e with h | h
  ·omega
  ·exact h
theorem zK3 (codes:List UInt8):Def (jU codes) GoodCh:=by
 unfold jU
 refine Def.bd (zOb codes 200 (by decide) (by decide)) (λc hc=>?_)
 refine Def.bd (P:=GoodCh) ?_ (λr hr=>Def.s hr)
 refine Def.loop (λs=>1<=s.2.1/\s.2.1<=5/\(s.1.length:Int)<=2*(s.2.1 - 1)/\(∀ x∈s.1,GoodIm x/\x.Role<s.2.1)/\s.1.Pairwise Bef/\(2<=s.2.1->∃ x∈s.1,x.Role=1)/\(4<=s.2.1->∃ x∈s.1,x.Role=3)/\jD ⟨s.2.2.1,s.2.2.2⟩) (λs=>(5 - s.2.1).toNat) (λs hs=>?_) ⟨Int.le_refl 1,by simp,by simp,by simp,by simp,by simp,by simp,hc⟩ (by simp)
 obtain ⟨l,role,B,A⟩:=s
 obtain ⟨g1,g2,g3,g4,g5,g6,g7,g8⟩:=hs
 simp only at g1 g2 g3 g4 g5 g6 g7 g8
 unfold eP
 refine Def.c (λh=>?_) (λh=>Def.s ?_)
 ·have hr:=dT h
  refine Def.bd (rC _ 3 g8 (by decide)) (λr hr=>?_)
  obtain ⟨v,c1⟩:=r
  obtain ⟨k1,k2,k3⟩:=hr
  simp only at k1 k2 k3
  refine Def.bd (P:=λr=>0<=r.1/\r.1<=2/\(role=1∨role=3->1<=r.1)/\jD ⟨r.2.1,r.2.2⟩) ?_ (λr hr=>?_)
  ·refine Def.bd (P:=λb=>b=false->¬ (role=1∨role=3)) ?_ (λb hb=>?_)
   ·refine Def.c (λh=>Def.s (λe=>by simp at e)) (λh=>Def.s (λe=>?_))
    simp at h e
    omega
   refine Def.c (λ_=>?_) (λhf=>Def.s ⟨k1,by simp only;omega,λe=>absurd e (hb hf),k3⟩)
   refine Def.bd (rC _ 2 k3 (by decide)) (λr hr=>?_)
   obtain ⟨v2,c2⟩:=r
   obtain ⟨j1,j2,j3⟩:=hr
   simp only at j1 j2 j3
   have e:IntKind.i64.wrap (1+v2)=1+v2:=zV (by omega) (by omega)
   exact Def.s ⟨by simp only [e];omega,by simp only [e];omega,λ_=>by simp only [e];omega,j3⟩
  obtain ⟨n,B1,A1⟩:=r
  obtain ⟨j1,j2,j3,j4⟩:=hr
  simp only at j1 j2 j3 j4
  refine Def.bd (zLk role g1 hr l n ⟨B1,A1⟩ j4 j1 (by omega) ⟨λx hx=>⟨(g4 x hx).1,by have:=(g4 x hx).2;omega⟩,g5,g6,g7⟩ j3) (λr hr=>?_)
  obtain ⟨l',B2,A2⟩:=r
  obtain ⟨m1,m2,m3,m4⟩:=hr
  simp only at m1 m2 m3 m4
  refine Def.s ?_
  rw [zV (by omega) (by omega)]
  refine ⟨⟨by simp only;omega,by simp only;omega,by simp only;omega,λx hx=>⟨(m2.im x hx).1,by have:=(m2.im x hx).2;simp only;omega⟩,m2.prs,λe=>?_,λe=>?_,m4⟩,by simp only;omega⟩
  ·simp only at e
   by_cases h1:role=1
   ·obtain ⟨x,hx,e2⟩:=m3 (.inl h1)
    exact ⟨x,hx,by omega⟩
   ·exact m2.h1 (by omega)
  ·simp only at e
   by_cases h3:role=3
   ·obtain ⟨x,hx,e2⟩:=m3 (.inr h3)
    exact ⟨x,hx,by omega⟩
   ·exact m2.h3 (by omega)
 ·have hr:=dF h
  exact ⟨by omega,λx hx=>(g4 x hx).1,g5,g6 (by omega),g7 (by omega)⟩
theorem pw {l:List api_Image} (h:l.Pairwise Bef) {i j:Nat} (hj:j<l.length) (hij:i<j):Bef (l[i]'(by omega)) l[j]:=List.pairwise_iff_getElem.mp h i j (by omega) hj hij
theorem zIr (l:List api_Image) (h:GoodCh l):lD l=some 0:=by
 obtain ⟨hlen,him,hp,h1,h3⟩:=h
 have hne:l.length≠0:=by
  obtain ⟨x,hx,_⟩:=h1
  intro e
  rw [List.length_eq_zero_iff] at e
  rw [e] at hx
  simp at hx
 have hl1:∀ i:Nat,i<l.length->Def (zE (mW l (i:Int)) FU 0) (λr=>r=.inr ()):=by
  intro i hi
  refine Def.loop (λs=>∃ k:Nat,s=(k:Int)/\k<=i) (λs=>i - s.toNat) (λs hs=>?_) ⟨0,rfl,by omega⟩ (by simp;omega)
  obtain ⟨k,rfl,hk⟩:=hs
  unfold mW
  refine Def.c (λh=>?_) (λh=>Def.s rfl)
  have hki:=dT h
  have hb:=pw hp hi (show k<i by omega)
  refine Def.bd (P:=λb=>b=false) ?_ (λb hb'=>?_)
  ·refine Def.bd (Def.at' (show k<l.length by omega)) (λy hy=>?_)
   subst hy
   refine Def.bd (Def.at' hi) (λy hy=>?_)
   subst hy
   refine Def.c (λhr=>?_) (λ_=>Def.s rfl)
   rw [beq_iff_eq] at hr
   refine Def.bd (Def.at' (show k<l.length by omega)) (λy hy=>?_)
   subst hy
   refine Def.bd (Def.at' hi) (λy hy=>?_)
   subst hy
   refine Def.s ?_
   rw [beq_eq_false_iff_ne]
   exact λe=>hb.2 ⟨hr,e⟩
  subst hb'
  refine Def.s ?_
  rw [yB (by omega)]
  exact ⟨⟨k+1,rfl,by omega⟩,by simp only [Int.toNat_natCast];omega⟩
 have hd:Def (zE (m5 l) FU (false,false,0)) (λr=>r=.inr (true,true)):=by
  refine Def.loop (λs=>∃ i:Nat,s.2.2=(i:Int)/\i<=l.length/\((∃ x∈l.take i,x.Role=1)->s.1=true)/\((∃ x∈l.take i,x.Role=3)->s.2.1=true)) (λs=>l.length - s.2.2.toNat) (λs hs=>?_) ⟨0,rfl,by omega,by simp,by simp⟩ (by simp;omega)
  obtain ⟨f,k,i'⟩:=s
  obtain ⟨i,g1,g2,g3,g4⟩:=hs
  simp only at g1 g3 g4
  subst g1
  unfold m5
  refine Def.c (λh=>?_) (λh=>Def.s ?_)
  ·have hi:i<l.length:=by have:=dT h;omega
   refine Def.bd (Def.at' hi) (λy hy=>?_)
   subst hy
   refine Def.bd (P:=λr=>r=0) (Def.of (cB _ (him _ (List.getElem_mem hi))) rfl) (λr hr=>?_)
   subst hr
   refine Def.c (λh=>by simp at h) (λ_=>?_)
   refine Def.bd (P:=λb=>b=false) ?_ (λb hb=>?_)
   ·refine Def.c (λh0=>?_) (λ_=>Def.s rfl)
    have h0':=dT h0
    refine Def.bd (Def.at' hi) (λy hy=>?_)
    subst hy
    rw [zV (by omega) (by omega),show (i:Int) - 1=((i - 1:Nat):Int) by omega]
    refine Def.bd (Def.at' (show i - 1<l.length by omega)) (λy hy=>?_)
    subst hy
    have hb:=(pw hp hi (show i - 1<i by omega)).1
    refine Def.s ?_
    rw [decide_eq_false_iff_not]
    omega
   subst hb
   refine Def.c (λh=>by simp at h) (λ_=>?_)
   refine Def.bd (hl1 i hi) (λr hr=>?_)
   subst hr
   refine Def.bd (P:=λb=>f=true∨l[i].Role=1->b=true) ?_ (λb1 hb1=>?_)
   ·refine Def.c (λ_=>Def.s (λ_=>rfl)) (λhf=>?_)
    refine Def.bd (Def.at' hi) (λy hy=>?_)
    subst hy
    refine Def.s (λe=>?_)
    rcases e with e | e
    ·rw [hf] at e;cases e
    ·rw [e];rfl
   refine Def.bd (P:=λb=>k=true∨l[i].Role=3->b=true) ?_ (λb2 hb2=>?_)
   ·refine Def.c (λ_=>Def.s (λ_=>rfl)) (λhf=>?_)
    refine Def.bd (Def.at' hi) (λy hy=>?_)
    subst hy
    refine Def.s (λe=>?_)
    rcases e with e | e
    ·rw [hf] at e;cases e
    ·rw [e];rfl
   refine Def.s ?_
   rw [yB (by omega)]
   refine ⟨⟨i+1,rfl,by omega,λe=>?_,λe=>?_⟩,by simp only [Int.toNat_natCast];omega⟩
   ·obtain ⟨x,hx,e⟩:=e
    rcases tF hi hx with hx | rfl
    ·exact hb1 (.inl (g3 ⟨x,hx,e⟩))
    ·exact hb1 (.inr e)
   ·obtain ⟨x,hx,e⟩:=e
    rcases tF hi hx with hx | rfl
    ·exact hb2 (.inl (g4 ⟨x,hx,e⟩))
    ·exact hb2 (.inr e)
  ·have:=dF h
   rw [List.take_of_length_le (by omega)] at g3 g4
   rw [g3 h1,g4 h3]
 obtain ⟨r,e,rfl⟩:=hd
 unfold lD
 refine bd (a:=false) (cf ?_ (congrArg some ?_)) ?_
 ·rw [beq_eq_false_iff_ne];omega
 ·rw [decide_eq_false_iff_not];omega
 refine cf rfl ?_
 refine bd e ?_
 rfl
def gS (x:api_Image):List UInt8:=kM (kM (wF (wF [] 1 x.Role) 4 x.Version) x.Name) x.Payload
theorem zGa (x:api_Image):5<=(gS x).length/\(gS x).length<2 ^ 20:=by
 have h1:=oH (wF (wF [] 1 x.Role) 4 x.Version) x.Name
 have h2:=oH (kM (wF (wF [] 1 x.Role) 4 x.Version) x.Name) x.Payload
 have h3:(wF (wF [] 1 x.Role) 4 x.Version).length=5:=by rw [zQ,zQ];rfl
 refine ⟨?_,by unfold gS;omega⟩
 unfold gS kM
 simp only [List.length_append,zQ,h3]
 omega
theorem zAl (x:api_Image) (h:GoodIm x):wN x=some (gS x):=by
 have hi:=cB x h
 obtain ⟨_,_,_,_,_,h6,h7,_,_⟩:=h
 have h3:(wF (wF [] 1 x.Role) 4 x.Version).length=5:=by rw [zQ,zQ];rfl
 have h4:=oH (wF (wF [] 1 x.Role) 4 x.Version) x.Name
 unfold wN
 refine bd hi ?_
 refine cf rfl ?_
 refine bd (uJ [] 1 _ (by omega) (by omega) (by simp)) ?_
 refine bd (uJ _ 4 _ (by omega) (by omega) (by rw [zQ];simp)) ?_
 refine bd (ckT (dX (by omega))) ?_
 refine bd (s7 _ _ (by omega)) ?_
 exact bd (s7 _ _ (by omega)) rfl
theorem zFg (x:api_Image) (h:GoodIm x):Def (wN x) (λr=>r=gS x):=Def.of (zAl x h) rfl
theorem zH0 (x:api_Image) (active:Int) (h:GoodIm x):oX x active=some (dgE active true (gS x)):=by
 have hl:=zGa x
 unfold oX dgE
 refine bd (zAl x h) ?_
 generalize gS x=data at hl
 have on:∀ a:Int,(bif decide (0<(data.length:Int)) then ((mD active a).bind λv=>some v) else some false:Option Bool)=some (true&&yD active a):=by
  intro a
  exact ct (by simp;omega) rfl
 refine bd (a:=[if (true&&yD active 0)=true then nG data else [],if (true&&yD active 1)=true then sha data else []]) (two (b:=(1,[if (true&&yD active 0)=true then nG data else [],[]])) (c:=(2,[if (true&&yD active 0)=true then nG data else [],if (true&&yD active 1)=true then sha data else []])) ?_ ?_ rfl) ?_
 ·unfold oF
  refine ct rfl ?_
  refine bd (a:=[if (true&&yD active 0)=true then nG data else [],[]]) ?_ rfl
  refine bd (on 0) ?_
  refine (zE7 (a:=0) rfl (by omega) (zCp data (by omega))).trans ?_
  cases (true&&yD active 0)<;>rfl
 ·unfold oF
  refine ct rfl ?_
  refine bd (a:=[if (true&&yD active 0)=true then nG data else [],if (true&&yD active 1)=true then sha data else []]) ?_ rfl
  refine bd (on 1) ?_
  refine (zE7 (a:=1) rfl (by omega) (zC6 data (by omega))).trans ?_
  cases (true&&yD active 1)<;>rfl
 exact bd (ckT rfl) rfl
theorem jB:∀ f u,(decF f u).length<=f
 | 0,_=>Nat.le_refl _
 | f+1,u=>by
  unfold decF
  cases Nat.blt u 10
  ·simp only [cond_false,List.length_append,List.length_singleton]
   have:=jB f (u / 10)
   omega
  ·simp only [cond_true,List.length_singleton]
   omega
theorem zHv (n:Nat) (h:n<10):u8 (IntKind.i64.wrap (48+(n:Int)))=UInt8.ofNat (48+n):=by
 rw [zV (by omega) (by omega),show (48:Int)+(n:Int)=((48+n:Nat):Int) by omega]
 apply UInt8.toNat_inj.mp
 rw [tW]
 simp
theorem zKu:∀ (k fl f:Nat) (n:Nat),n<10 ^ (k+1)->n<2 ^ 40->k<fl->k<f->f<=20->sU fl (n:Int)=some (decF f n):=by
 intro k
 induction k with
 | zero=>
  intro fl f n h1 _ hf hf2 _
  obtain ⟨g,rfl⟩:∃ g,fl=g+1:=⟨fl - 1,by omega⟩
  obtain ⟨g2,rfl⟩:∃ g,f=g+1:=⟨f - 1,by omega⟩
  have h10:n<10:=by simpa using h1
  unfold sU decF
  refine ct (by simp;omega) ?_
  rw [show Nat.blt n 10=true by simpa [Nat.blt_eq] using h10,zHv n h10]
  rfl
 | succ k ih=>
  intro fl f n h1 h2 hf hf2 h20
  obtain ⟨g,rfl⟩:∃ g,fl=g+1:=⟨fl - 1,by omega⟩
  obtain ⟨g2,rfl⟩:∃ g,f=g+1:=⟨f - 1,by omega⟩
  unfold sU decF
  by_cases h10:n<10
  ·refine ct (by simp;omega) ?_
   rw [show Nat.blt n 10=true by simpa [Nat.blt_eq] using h10,zHv n h10]
   rfl
  ·have hd:n / 10<10 ^ (k+1):=by
    rw [Nat.pow_succ] at h1
    omega
   refine cf (by simp;omega) ?_
   rw [show Nat.blt n 10=false by rw [Bool.eq_false_iff];intro e;rw [Nat.blt_eq] at e;omega]
   rw [show Int.tdiv (n:Int) 10=((n / 10:Nat):Int) from rfl,zV (by omega) (by omega)]
   refine bd (ih g g2 (n / 10) hd (by omega) (by omega) (by omega) (by omega)) ?_
   have:=jB g2 (n / 10)
   refine bd (zR (by simp;omega)) ?_
   rw [show Int.tmod (n:Int) 10=((n % 10:Nat):Int) from rfl,zHv (n % 10) (by omega)]
   rfl
def lbl (x:api_Image):List UInt8:=(x.Name++[32])++decF 20 x.Version.toNat
theorem zNb (x:api_Image) (h:GoodIm x):lQ x.Name x.Version=some (lbl x):=by
 have h1:=h.nl
 have h2:=h.v0
 have h3:=h.v1
 obtain ⟨n,hn⟩:=Int.eq_ofNat_of_zero_le h2
 unfold lQ lbl
 rw [hn]
 refine bd (ckT (dX (by omega))) ?_
 refine bd (zR (by simp;omega)) ?_
 refine bd (zKu 6 RF 20 n (by show n<10000000;omega) (by omega) (by decide) (by decide) (by decide)) ?_
 have:=jB 20 n
 exact bd (zR (by rw [List.length_append];simp only [List.length_cons,List.length_nil];omega)) rfl
def rgR (role:Int):Int:=if role=1 then 0 else if role=2 then 4 else if role=3 then 8 else if role=4 then 9 else -1
theorem zPo (r:Int):pE r=some (rgR r):=by
 unfold pE rgR
 by_cases h1:r=1
 ·rw [if_pos h1];exact ct (by simp [h1]) rfl
 rw [if_neg h1];refine cf (by simp [h1]) ?_
 by_cases h2:r=2
 ·rw [if_pos h2];exact ct (by simp [h2]) rfl
 rw [if_neg h2];refine cf (by simp [h2]) ?_
 by_cases h3:r=3
 ·rw [if_pos h3];exact ct (by simp [h3]) rfl
 rw [if_neg h3];refine cf (by simp [h3]) ?_
 by_cases h4:r=4
 ·rw [if_pos h4];exact ct (by simp [h4]) rfl
 ·rw [if_neg h4];exact cf (by simp [h4]) rfl
def imE (active:Int) (x:api_Image):api_Event:=⟨rgR x.Role,1,dgE active true (gS x),lbl x⟩
theorem zIi (x:api_Image) (active:Int) (h:GoodIm x) (h4:x.Role≠4):oQ x active=some (imE active x):=by
 unfold oQ
 refine bd (a:=false) ?_ ?_
 ·refine bd (cB x h) ?_
  refine cf rfl ?_
  rw [show (x.Role==4)=false by simp [h4]]
 refine cf rfl ?_
 refine bd (zPo _) ?_
 refine bd (zH0 x active h) ?_
 exact bd (zNb x h) rfl
def zDf (x:api_Image):List (List UInt8):=(uQ x).getD []
def evR (active role:Int) (l:List api_Image):List api_Event:=l.flatMap λx=>if x.Role=role then (if role=4 then (zDf x).map (mkE 9 3 active) else [imE active x]) else []
def hX (active:Int):List api_Event:=(List.range 8).map λ(i:Nat)=>mkE (i:Int) 2 active [0,0,0,0]
def evs (l:List api_Image) (active:Int):List api_Event:=evR active 1 l++evR active 2 l++(hX active++evR active 3 l)++evR active 4 l
theorem zEt (x:api_Image) (h:GoodIm x) (h4:x.Role=4):uQ x=some (zDf x)/\(zDf x).length<=4/\∀ l∈zDf x,zAx l:=by
 obtain ⟨L,h1,_,h2,h3⟩:=h.l h4
 unfold zDf
 rw [h1]
 exact ⟨rfl,h2,h3⟩
theorem cP (active role:Int) (x:api_Image) (h:GoodIm x):(if x.Role=role then (if role=4 then (zDf x).map (mkE 9 3 active) else [imE active x]) else []).length<=4/\(x.Role=role∨(if x.Role=role then (if role=4 then (zDf x).map (mkE 9 3 active) else [imE active x]) else []).length=0):=by
 by_cases hr:x.Role=role
 ·rw [if_pos hr]
  refine ⟨?_,.inl hr⟩
  by_cases h4:role=4
  ·rw [if_pos h4,List.length_map];exact (zEt x h (by omega)).2.1
  ·rw [if_neg h4];simp
 ·rw [if_neg hr]
  exact ⟨by simp,.inr rfl⟩
theorem zPp (active role:Int) (l:List api_Image) (h:∀ x∈l,GoodIm x):(evR active role l).length<=4*l.length:=by
 induction l with
 | nil=>simp [evR]
 | cons x t ih=>
  have h1:=(cP active role x (h x (List.mem_cons_self ..))).1
  have h2:=ih (λy hy=>h y (List.mem_cons_of_mem _ hy))
  unfold evR at h2 ⊢
  rw [List.flatMap_cons,List.length_append,List.length_cons]
  omega
theorem zIx (active:Int) (l:List api_Image) (h:∀ x∈l,GoodIm x):(evR active 1 l).length+(evR active 2 l).length+(evR active 3 l).length+(evR active 4 l).length<=4*l.length:=by
 induction l with
 | nil=>simp [evR]
 | cons x t ih=>
  have h0:=cP active 1 x (h x (List.mem_cons_self ..))
  have h1:=cP active 2 x (h x (List.mem_cons_self ..))
  have h2:=cP active 3 x (h x (List.mem_cons_self ..))
  have h3:=cP active 4 x (h x (List.mem_cons_self ..))
  have hi:=ih (λy hy=>h y (List.mem_cons_of_mem _ hy))
  unfold evR at hi ⊢
  rw [List.flatMap_cons,List.flatMap_cons,List.flatMap_cons,List.flatMap_cons,List.length_append,List.length_append,List.length_append,List.length_append,List.length_cons]
  omega
theorem zC8 (active:Int):(hX active).length=8:=by simp [hX]
theorem zQf (l:List api_Image) (active:Int) (h:GoodCh l):8<=(evs l active).length/\(evs l active).length<=40:=by
 have h1:=zIx active l h.im
 have h2:=h.len
 have h3:=zC8 active
 unfold evs
 simp only [List.length_append]
 omega
theorem zLv (active:Int) (out:List api_Event) (h:out.length<=100):zE (rO active) FU (out,0)=some (out++hX active):=by
 refine zK 8 (λi=>(out++(hX active).take i,(i:Int))) (by simp) (λi hi=>?_) ?_ (yS (by decide))
 ·unfold rO
  refine ct (by simp;omega) ?_
  refine bd (a:=[0,0,0,0]) rfl ?_
  refine bd (zIz _ 2 active _ (by decide)) ?_
  refine bd (zR (by simp [hX];omega)) ?_
  rw [yB (by omega),List.take_add_one,List.append_assoc]
  have:(hX active)[i]? = some (mkE (i:Int) 2 active [0,0,0,0]):=by simp [hX,hi]
  rw [this]
  rfl
 ·unfold rO
  refine cf rfl ?_
  rw [List.take_of_length_le (by rw [zC8];omega)]
theorem zK9 (active:Int) (out:List api_Event) (L:List (List UInt8)) (h:out.length<=100) (hl:L.length<=4) (h8:∀ l∈L,l.length<=8):zE (rP active L) FU (out,0)=some (out++L.map (mkE 9 3 active)):=by
 refine zK L.length (λi=>(out++(L.map (mkE 9 3 active)).take i,(i:Int))) (by simp) (λi hi=>?_) ?_ (yS (by omega))
 ·have:=h8 _ (List.getElem_mem hi)
  unfold rP
  refine ct (dlt hi) ?_
  refine bd (xH hi) ?_
  refine bd (zIz _ 3 active _ (by omega)) ?_
  refine bd (zR (by simp;omega)) ?_
  rw [yB (by omega),List.take_add_one,List.append_assoc]
  simp [hi]
 ·unfold rP
  refine cf (dge (Nat.le_refl _)) ?_
  rw [List.take_of_length_le (by simp)]
theorem fI (active role:Int) (l:List api_Image) (out:List api_Event) (hl:l.length<=8) (him:∀ x∈l,GoodIm x) (h:out.length<=60) (h4:role<=4):zE (rQ l active role) FU (out,0)=some (out++evR active role l):=by
 refine zK l.length (λi=>(out++evR active role (l.take i),(i:Int))) (by simp [evR]) (λi hi=>?_) ?_ (yS (by omega))
 ·have hg:=him _ (List.getElem_mem hi)
  have hle:=zPp active role (l.take i) (λx hx=>him x (List.mem_of_mem_take hx))
  rw [List.length_take] at hle
  have hs:evR active role (l.take (i+1))=evR active role (l.take i)++(if l[i].Role=role then (if role=4 then (zDf l[i]).map (mkE 9 3 active) else [imE active l[i]]) else []):=by
   unfold evR
   rw [List.take_add_one,List.flatMap_append]
   simp [hi]
  have hol:(out++evR active role (l.take i)).length<=100:=by rw [List.length_append];omega
  rw [hs,<- List.append_assoc]
  generalize out++evR active role (l.take i)=o at hol
  unfold rQ
  refine ct (dlt hi) ?_
  refine bd (a:=o++(if l[i].Role=role then (if role=4 then (zDf l[i]).map (mkE 9 3 active) else [imE active l[i]]) else [])) ?_ (by rw [yB (by omega)])
  refine bd (xH hi) ?_
  by_cases hr:l[i].Role=role
  ·rw [if_pos hr]
   refine cf (by simp [hr]) ?_
   by_cases hr4:role=4
   ·rw [if_pos hr4]
    refine cf (by simp [hr4]) ?_
    refine bd (xH hi) ?_
    obtain ⟨q1,q2,q3⟩:=zEt _ hg (by omega)
    refine bd q1 ?_
    exact bd (zK9 active o _ hol q2 (λl hl=>(q3 l hl).2.1)) rfl
   ·rw [if_neg hr4]
    refine ct (by simp [hr4]) ?_
    refine bd (xH hi) ?_
    refine bd (zIi _ active hg (by omega)) ?_
    exact bd (zR (by simp;omega)) rfl
  ·rw [if_neg hr]
   refine ct (by simp [hr]) ?_
   simp
 ·unfold rQ
  refine cf (dge (Nat.le_refl _)) ?_
  simp
theorem zKd (l:List api_Image) (active:Int) (h:GoodCh l) (h1:1<=active) (h3:active<=3):sD l active=some (evs l active):=by
 have hc:=zIr l h
 have hl:=h.len
 have hb:=zIx active l h.im
 have hsl:=zC8 active
 unfold sD
 refine bd (a:=false) ?_ ?_
 ·refine bd hc ?_
  refine cf rfl ?_
  refine cf (by simp;omega) ?_
  rw [show decide (3<active)=false by simp;omega]
 refine cf rfl ?_
 refine bd (a:=evs l active) ?_ rfl
 refine zK (x:=(([]:List api_Event),(1:Int))) 4 (λi=>match i with | 0=>([],1) | 1=>(evR active 1 l,2) | 2=>(evR active 1 l++evR active 2 l,3) | 3=>(evR active 1 l++evR active 2 l++(hX active++evR active 3 l),4) | _=>(evs l active,5)) rfl (λi hi=>?_) rfl (yS (by decide))
 have:i=0∨i=1∨i=2∨i=3:=by omega
 rcases this with rfl | rfl | rfl | rfl
 ·show xM l active ([],1)=some (.inl (evR active 1 l,2))
  unfold xM
  refine ct rfl ?_
  refine bd (a:=[]) rfl ?_
  exact bd (fI active 1 l [] hl h.im (by simp) (by omega)) rfl
 ·show xM l active (evR active 1 l,2)=some (.inl (evR active 1 l++evR active 2 l,3))
  unfold xM
  refine ct rfl ?_
  refine bd (a:=evR active 1 l) rfl ?_
  exact bd (fI active 2 l _ hl h.im (by omega) (by omega)) rfl
 ·show xM l active (evR active 1 l++evR active 2 l,3)=some (.inl (evR active 1 l++evR active 2 l++(hX active++evR active 3 l),4))
  unfold xM
  refine ct rfl ?_
  refine bd (a:=evR active 1 l++evR active 2 l++hX active) (bd (zLv active _ (by rw [List.length_append];omega)) rfl) ?_
  refine bd (fI active 3 l _ hl h.im (by simp only [List.length_append];omega) (by omega)) ?_
  rw [List.append_assoc]
  rfl
 ·show xM l active (evR active 1 l++evR active 2 l++(hX active++evR active 3 l),4)=some (.inl (evs l active,5))
  unfold xM
  refine ct rfl ?_
  refine bd (a:=evR active 1 l++evR active 2 l++(hX active++evR active 3 l)) rfl ?_
  exact bd (fI active 4 l _ hl h.im (by simp only [List.length_append];omega) (by omega)) rfl
end Go.Proofs.TT
namespace Go.Proofs.TT
open Go Go.Sw
set_option maxRecDepth 100000
theorem zBj (n m:Int) (hm:1<=m) (hm2:m<2 ^ 40):Def (mL n m) (λr=>0<=r/\r<m):=by
 unfold mL
 refine Def.c (λh=>by have:=dT h;omega) (λ_=>?_)
 refine Def.bd (Def.ck (by simp;omega)) (λ_ _=>?_)
 have h1:-m<Int.tmod n m:=by
  have:=Int.lt_tmod_of_pos n (by omega:0<m)
  omega
 have h2:Int.tmod n m<m:=Int.tmod_lt_of_pos n (by omega)
 refine Def.bd (P:=λr=>0<=r/\r<m) ?_ (λr hr=>Def.s hr)
 refine Def.c (λh=>Def.s ?_) (λh=>Def.s ?_)
 ·have:=dT h
  rw [zV (by omega) (by omega)]
  omega
 ·have:=dF h
  omega
end Go.Proofs.TT
namespace Go.Proofs.TT
open Go Go.Sw
set_option maxRecDepth 100000
theorem zCi:∀ a b:List UInt8,Op.bytesLess a b=false->Op.bytesLess b a=false->a=b
 | [],[],_,_=>rfl
 | [],_ :: _,h,_=>by cases h
 | _ :: _,[],_,h=>by cases h
 | x :: a,y :: b,h1,h2=>by
  simp only [Op.bytesLess,Bool.or_eq_false_iff,Bool.and_eq_false_iff,decide_eq_false_iff_not,beq_eq_false_iff_ne] at h1 h2
  have hxy:x=y:=by
   have p:=h1.1
   have q:=h2.1
   rw [UInt8.lt_iff_toNat_lt] at p q
   exact UInt8.toNat_inj.mp (by omega)
  subst hxy
  rw [zCi a b (h1.2.resolve_left (λh=>h rfl)) (h2.2.resolve_left (λh=>h rfl))]
theorem zO2 (a b:List UInt8) (ha:a.length<2 ^ 40):Def (iH a b) (λr=>r=Op.bytesLess a b):=by
 unfold iH
 refine Def.bd (P:=λr=>match r with | .inl r=>r=Op.bytesLess a b | .inr _=>decide ((a.length:Int)<(b.length:Int))=Op.bytesLess a b) ?_ (λr hr=>?_)
 ·refine Def.loop (λ(s:Int)=>∃ i:Nat,s=(i:Int)/\i<=a.length/\i<=b.length/\Op.bytesLess (a.drop i) (b.drop i)=Op.bytesLess a b) (λs=>a.length - s.toNat) (λs hs=>?_) ⟨0,rfl,by omega,by omega,rfl⟩ (by simp;omega)
  obtain ⟨i,rfl,h1,h2,hb⟩:=hs
  unfold eZ
  refine Def.bd (P:=λc=>c=(decide (i<a.length)&&decide (i<b.length))) ?_ (λc hc=>?_)
  ·refine Def.c (λh=>Def.s ?_) (λh=>Def.s ?_)
   ·have h3:=dT h
    rw [show decide (i<a.length)=true by simp;omega,Bool.true_and]
    exact decide_eq_decide.2 (by omega)
   ·have h3:=dF h
    rw [show decide (i<a.length)=false by simp;omega,Bool.false_and]
  refine Def.c (λhcc=>?_) (λhcc=>Def.s ?_)
  ·rw [hcc] at hc
   have hc':i<a.length/\i<b.length:=by simpa using hc.symm
   rw [List.drop_eq_getElem_cons hc'.1,List.drop_eq_getElem_cons hc'.2] at hb
   refine Def.bd (Def.at' hc'.1) (λx hx=>?_)
   refine Def.bd (Def.at' hc'.2) (λy hy=>?_)
   refine Def.c (λhne=>?_) (λhne=>Def.s ?_)
   ·refine Def.bd (Def.at' hc'.1) (λx' hx'=>?_)
    refine Def.bd (Def.at' hc'.2) (λy' hy'=>Def.s ?_)
    subst hx hy hx' hy'
    have hne':a[i]≠b[i]:=λh=>by rw [h] at hne;simp at hne
    show decide _=_
    rw [<- hb]
    simp only [Op.bytesLess]
    rw [show (a[i]==b[i])=false by simp [hne'],Bool.false_and,Bool.or_false]
    exact decide_eq_decide.2 (by rw [UInt8.lt_iff_toNat_lt];omega)
   ·subst hx hy
    have he:a[i]=b[i]:=by
     have:(a[i].toNat:Int)=(b[i].toNat:Int):=by simpa using hne
     exact UInt8.toNat_inj.mp (by omega)
    rw [yB (by omega)]
    refine ⟨⟨i+1,rfl,by omega,by omega,?_⟩,by simp only [Int.toNat_natCast];omega⟩
    rw [<- hb]
    simp only [Op.bytesLess]
    rw [he]
    simp
  ·rw [hcc] at hc
   have hc':i<a.length->b.length<=i:=by simpa using hc.symm
   rw [<- hb]
   by_cases h3:i<a.length
   ·have:i=b.length:=by have:=hc' h3;omega
    rw [this,List.drop_length]
    rw [show decide ((a.length:Int)<(b.length:Int))=false by simp;omega]
    cases a.drop b.length<;>rfl
   ·have:i=a.length:=by omega
    rw [this,List.drop_length]
    by_cases h4:a.length<b.length
    ·rw [List.drop_eq_getElem_cons h4]
     rw [show decide ((a.length:Int)<(b.length:Int))=true by simp;omega]
     rfl
    ·rw [List.drop_eq_nil_of_le (by omega)]
     rw [show decide ((a.length:Int)<(b.length:Int))=false by simp;omega]
     rfl
 ·cases r with
  | inl r=>exact Def.s hr
  | inr u=>exact Def.s hr
def bfr (a b:api_Entry):Bool:=
 if a.Role≠b.Role then decide (a.Role<b.Role) else if a.Name≠b.Name then Op.bytesLess a.Name b.Name else if a.Version≠b.Version then decide (a.Version<b.Version) else Op.bytesLess a.Digest b.Digest
theorem zCa (a b:api_Entry) (ha:a.Digest.length<2 ^ 40):Def (qR a b) (λr=>r=bfr a b):=by
 unfold qR bfr
 refine Def.c (λh=>Def.s ?_) (λh=>Def.c (λh2=>Def.s ?_) (λh2=>Def.c (λh3=>Def.s ?_) (λh3=>?_)))
 ·rw [if_pos (by simpa using h)]
 ·rw [if_neg (by simpa using h),if_pos (by simpa using h2)];rfl
 ·rw [if_neg (by simpa using h),if_neg (by simpa using h2),if_pos (by simpa using h3)]
 ·rw [if_neg (by simpa using h),if_neg (by simpa using h2),if_neg (by simpa using h3)]
  exact Def.bd (zO2 _ _ ha) (λr hr=>Def.s hr)
theorem zKb {a b:api_Entry} (h1:bfr a b=false) (h2:bfr b a=false):a=b:=by
 unfold bfr at h1 h2
 by_cases hr:a.Role=b.Role
 ·rw [if_neg (by simp [hr])] at h1;rw [if_neg (by simp [hr])] at h2
  by_cases hn:a.Name=b.Name
  ·rw [if_neg (by simp [hn])] at h1;rw [if_neg (by simp [hn])] at h2
   by_cases hv:a.Version=b.Version
   ·rw [if_neg (by simp [hv])] at h1;rw [if_neg (by simp [hv])] at h2
    have hd:=zCi _ _ h1 h2
    cases a;cases b;simp_all
   ·rw [if_pos hv] at h1;rw [if_pos (λh=>hv h.symm)] at h2
    have:=dF h1;have:=dF h2;omega
  ·rw [if_pos hn] at h1;rw [if_pos (λh=>hn h.symm)] at h2
   exact absurd (zCi _ _ h1 h2) hn
 ·rw [if_pos hr] at h1;rw [if_pos (λh=>hr h.symm)] at h2
  have:=dF h1;have:=dF h2;omega
def adj:List api_Entry->Prop
 | a :: b :: r=>bfr a b=true/\adj (b :: r)
 | _=>True
theorem zMs {a:api_Entry} {l:List api_Entry} (h:adj (a :: l)):adj l:=by
 cases l with
 | nil=>trivial
 | cons b r=>exact h.2
theorem zEg (x:api_Entry):∀ (p s:List api_Entry),adj (p++s)->(∀ e∈p,bfr e x=true)->(∀ e,s.head? = some e->bfr x e=true)->adj (p++x :: s)
 | [],[],_,_,_=>trivial
 | [],y :: t,h,_,hs=>⟨hs y rfl,h⟩
 | [a],s,h,hp,hs=>⟨hp a (List.mem_cons_self ..),zEg x [] s (zMs h) (λ_ h=>by cases h) hs⟩
 | a :: b :: r,s,h,hp,hs=>⟨h.1,zEg x (b :: r) s h.2 (λe he=>hp e (List.mem_cons_of_mem _ he)) hs⟩
theorem zJi:∀ {m:List api_Entry},adj m->∀ j,(h:j+1<m.length)->bfr m[j] m[j+1]=true
 | a :: b :: r,hm,0,_=>hm.1
 | a :: b :: r,hm,j+1,h=>zJi (m:=b :: r) hm.2 j (by simpa using h)
 | [a],_,j,h=>by simp at h
 | [],_,j,h=>by simp at h
def enI (x:api_Image):api_Entry:=⟨x.Role,x.Name,x.Version,sha (gS x)⟩
structure EnOk (e:api_Entry):Prop where
 r1:1<=e.Role
 r3:e.Role<=3
 v0:0<=e.Version
 v1:e.Version<=1000000
 n:xV e.Name=some true
 d:e.Digest.length=32
theorem zSe {x:api_Image} (h:GoodIm x) (h4:x.Role≠4):EnOk (enI x):=⟨h.r1,by have:=h.r4;show x.Role<=3;omega,h.v0,h.v1,h.pn,sJ _⟩
structure DsOk (l:List api_Image) (m:List api_Entry):Prop where
 a:adj m
 e:∀ e∈m,EnOk e
 i:∀ x∈l,x.Role≠4->enI x∈m
theorem zFe (vendor:List UInt8) (version:Int) (l:List api_Image) (h:GoodCh l):Def (uG vendor version l) (λm=>m=⟨vendor,version,0,0,1099511627776,m.Entries,[]⟩/\m.Entries.length<=8/\DsOk l m.Entries):=by
 have hlen:=h.len
 unfold uG
 refine Def.bd (P:=λm=>m.length<=8/\DsOk l m) ?_ (λm hm=>Def.s ⟨rfl,hm⟩)
 refine Def.loop (λs=>∃ i:Nat,s.1=(i:Int)/\i<=l.length/\s.2.length<=i/\DsOk (l.take i) s.2) (λs=>l.length - s.1.toNat) (λs hs=>?_) ⟨0,rfl,by omega,by simp,⟨trivial,(by simp),(by simp)⟩⟩ (by simp;omega)
 obtain ⟨i',m⟩:=s
 obtain ⟨i,g1,g2,g3,g4⟩:=hs
 simp only at g1 g3 g4
 subst g1
 unfold lW
 refine Def.c (λh=>?_) (λh=>Def.s ⟨by omega,?_⟩)
 ·have hi:i<l.length:=by have:=dT h;omega
  have hg:=‹GoodCh l›.im _ (List.getElem_mem hi)
  have hel:=zGa l[i]
  refine Def.bd (P:=λr=>r.length<=m.length+1/\DsOk (l.take (i+1)) r) ?_ (λr hr=>Def.s ?_)
  ·refine Def.bd (Def.at' hi) (λy hy=>?_)
   subst hy
   refine Def.bd (zFg _ hg) (λb hb=>?_)
   subst hb
   refine Def.bd (P:=λc=>c=(l[i].Role==4)) ?_ (λc hc=>?_)
   ·refine Def.c (λh=>by simp at h;rw [h] at hel;simp at hel) (λ_=>?_)
    refine Def.bd (Def.at' hi) (λy hy=>Def.s (by rw [hy]))
   have skip:(l[i].Role≠4->enI l[i]∈m)->DsOk (l.take (i+1)) m:=λh=>⟨g4.a,g4.e,λx hx h4=>by
    rcases tF hi hx with hx | rfl
    ·exact g4.i x hx h4
    ·exact h h4⟩
   refine Def.c (λh4=>Def.s ⟨by omega,skip (λhn=>?_)⟩) (λh4=>?_)
   ·rw [hc] at h4;exact absurd (by simpa using h4) hn
   have h4':l[i].Role≠4:=by rw [hc] at h4;simpa using h4
   refine Def.bd (Def.at' hi) (λy1 hy1=>?_)
   refine Def.bd (Def.at' hi) (λy2 hy2=>?_)
   refine Def.bd (Def.at' hi) (λy3 hy3=>?_)
   refine Def.bd (P:=λd=>d=sha (gS l[i])) (Def.of (fW _ (by omega)) rfl) (λd hd=>?_)
   have hx:(⟨y1.Role,y2.Name,y3.Version,d⟩:api_Entry)=enI l[i]:=by rw [hy1,hy2,hy3,hd];rfl
   have hxo:=zSe hg h4'
   refine Def.bd (P:=λ(k:Int)=>∃ n:Nat,k=(n:Int)/\n<=m.length/\(∀ e∈m.take n,bfr e (enI l[i])=true)/\∀ e,(m.drop n).head? = some e->bfr e (enI l[i])=false) ?_ (λk hk=>?_)
   ·refine Def.loop (λ(s:Int)=>∃ n:Nat,s=(n:Int)/\n<=m.length/\(∀ e∈m.take n,bfr e (enI l[i])=true)) (λs=>m.length - s.toNat) (λs hs=>?_) ⟨0,rfl,by omega,by simp⟩ (by simp;omega)
    obtain ⟨n,rfl,hn,hb⟩:=hs
    unfold lV
    rw [hx]
    refine Def.bd (P:=λc=>(c=true->∃ hn:n<m.length,bfr m[n] (enI l[i])=true)/\(c=false->∀ e,(m.drop n).head? = some e->bfr e (enI l[i])=false)) ?_ (λc hc=>?_)
    ·refine Def.c (λh=>?_) (λh=>Def.s ⟨λe=>(by cases e),λ_ e he=>?_⟩)
     ·have hs:n<m.length:=by have:=dT h;omega
      refine Def.bd (Def.at' hs) (λe he=>?_)
      subst he
      refine Def.bd (zCa _ _ (by rw [(g4.e _ (List.getElem_mem hs)).d];decide)) (λc hc=>Def.s ⟨λe=>⟨hs,by rw [<- hc];exact e⟩,λe x hx=>?_⟩)
      rw [List.drop_eq_getElem_cons hs] at hx
      have hx:some m[n]=some x:=hx
      injection hx with hx
      rw [<- hx,<- hc];exact e
     ·have:=dF h
      rw [List.drop_eq_nil_of_le (by omega)] at he
      cases he
    refine Def.c (λh=>Def.s ?_) (λh=>Def.s ⟨n,rfl,hn,hb,hc.2 h⟩)
    obtain ⟨hs,hbf⟩:=hc.1 h
    rw [yB (by omega)]
    refine ⟨⟨n+1,rfl,by omega,λe he=>?_⟩,by simp only [Int.toNat_natCast];omega⟩
    rcases tF hs he with he | rfl
    ·exact hb e he
    ·exact hbf
   obtain ⟨n,rfl,hn,hbt,hbd⟩:=hk
   rw [hx]
   refine Def.bd (P:=λc=>(c=true->enI l[i]∈m)/\(c=false->∀ e,(m.drop n).head? = some e->bfr (enI l[i]) e=true)) ?_ (λc hc=>?_)
   ·refine Def.c (λh=>?_) (λh=>Def.s ⟨λe=>(by cases e),λ_ e he=>?_⟩)
    ·have hs:n<m.length:=by have:=dT h;omega
     refine Def.bd (Def.at' hs) (λe he=>?_)
     subst he
     have hh:(m.drop n).head? = some m[n]:=by rw [List.drop_eq_getElem_cons hs];rfl
     refine Def.bd (zCa _ _ (by show (sha (gS l[i])).length<_;rw [sJ];decide)) (λc hc=>Def.s ⟨λe=>?_,λe x hx=>?_⟩)
     ·have h1:bfr (enI l[i]) m[n]=false:=by rw [<- hc];simpa using e
      rw [zKb h1 (hbd _ hh)]
      exact List.getElem_mem hs
     ·rw [hh] at hx
      injection hx with hx
      rw [<- hx,<- hc];simpa using e
    ·have:=dF h
     rw [List.drop_eq_nil_of_le (by omega)] at he
     cases he
   refine Def.c (λh=>Def.s ⟨by omega,skip (λ_=>hc.1 h)⟩) (λhcf=>?_)
   refine Def.bd (Def.sub (by decide) (by omega) (by omega)) (λx hxx=>?_)
   have hxt:x=m.take n:=by rw [hxx];simp
   have hxl:x.length=n:=by rw [hxt];simp;omega
   refine Def.bd (Def.app (by simp;omega)) (λy hy=>?_)
   rw [List.nil_append] at hy
   subst hy
   refine Def.bd (Def.app (by simp;omega)) (λz hz=>?_)
   refine Def.bd (Def.sub (by omega) (by omega) (Int.le_refl _)) (λw hw=>?_)
   have hwt:w=m.drop n:=by
    rw [hw]
    simp only [Int.toNat_natCast]
    rw [List.take_of_length_le (by simp)]
   have hwl:w.length=m.length - n:=by rw [hwt];simp
   have hzl:z.length=y.length+1:=by rw [hz];simp
   refine Def.bd (Def.app (by omega)) (λq hq=>Def.s ⟨by rw [hq,List.length_append];omega,?_⟩)
   have hq':q=m.take n++enI l[i] :: m.drop n:=by rw [hq,hz,hxt,hwt,List.append_assoc];rfl
   have hmem:∀ e,e∈q↔e=enI l[i]∨e∈m:=by
    intro e
    have:e∈m↔e∈m.take n∨e∈m.drop n:=by
     rw [<- List.mem_append,List.take_append_drop]
    rw [hq',List.mem_append,List.mem_cons,this]
    constructor
    ·rintro (h | h | h)
     ·exact .inr (.inl h)
     ·exact .inl h
     ·exact .inr (.inr h)
    ·rintro (h | h | h)
     ·exact .inr (.inl h)
     ·exact .inl h
     ·exact .inr (.inr h)
   refine ⟨?_,λe he=>?_,λv hv h4=>?_⟩
   ·rw [hq']
    exact zEg _ _ _ (by rw [List.take_append_drop];exact g4.a) hbt (hc.2 hcf)
   ·rcases (hmem e).1 he with rfl | he
    ·exact hxo
    ·exact g4.e e he
   ·rw [hmem]
    rcases tF hi hv with hv | rfl
    ·exact .inr (g4.i v hv h4)
    ·exact .inl rfl
  ·rw [yB (by omega)]
   exact ⟨⟨i+1,rfl,by omega,by have:=hr.1;show r.length<=i+1;omega,hr.2⟩,by simp only [Int.toNat_natCast];omega⟩
 ·have:=dF h
  rw [List.take_of_length_le (by omega)] at g4
  exact g4
def MOk (m:api_Manifest):Prop:=∀ r∈m.Rules,r.Text.length<2 ^ 40
end Go.Proofs.TT
namespace Go.Proofs.TT
open Go Go.Sw
set_option maxRecDepth 100000
def siz (a:Int):Int:=if a=0 then 20 else if a=1 then 32 else 0
theorem zBh (a:Int):oD a=some (siz a):=by
 unfold oD siz
 by_cases h0:a=0
 ·rw [if_pos h0];exact ct (by simp [h0]) rfl
 ·rw [if_neg h0]
  refine cf (by simp [h0]) ?_
  by_cases h1:a=1
  ·rw [if_pos h1];exact ct (by simp [h1]) rfl
  ·rw [if_neg h1];exact cf (by simp [h1]) rfl
def Fit (e:api_Event) (active:Int) (a:Nat):Prop:=((e.Digests.getD a []).length:Int)=if e.Kind≠5/\yD active (a:Int)=true then siz (a:Int) else 0
theorem nf2 {e:api_Event} {active:Int} (h:∃ i,i<2/\¬ Fit e active i):¬ (Fit e active 0/\Fit e active 1):=by
 obtain ⟨i,hi,hn⟩:=h
 intro ⟨h0,h1⟩
 have:i=0∨i=1:=by omega
 rcases this with rfl | rfl
 ·exact hn h0
 ·exact hn h1
theorem zF9 {e:api_Event} {active:Int} {a:Nat} {has:Option Bool} {size:Option Int} (h1:has=some (yD active (a:Int))) (h2:size=some (siz (a:Int))) :
  Def ((bif (e.Kind != 5) then has else some false:Option Bool).bind λv=>bif v then size else some 0) (λw=>w=if e.Kind≠5/\yD active (a:Int)=true then siz (a:Int) else 0):=by
 subst h1 h2
 by_cases hk:e.Kind=5
 ·rw [show (e.Kind != 5)=false by simp [hk]]
  exact Def.s (by rw [if_neg (λh=>h.1 hk)])
 ·rw [show (e.Kind != 5)=true by simp [hk]]
  cases hb:yD active (a:Int)
  ·exact Def.s (by rw [if_neg (λh=>by cases h.2)])
  ·exact Def.s (by rw [if_pos ⟨hk,rfl⟩])
theorem zBi {e:api_Event} {active:Int} {a:Nat} {w:Int} (hl:a<e.Digests.length) (hw:w=if e.Kind≠5/\yD active (a:Int)=true then siz (a:Int) else 0):((e.Digests[a].length:Int) != w)=false↔Fit e active a:=by
 unfold Fit
 rw [<- hw]
 simp [hl]
theorem zOa (e:api_Event) (active:Int):Def (sI e active) (λr=>r=true↔e.Digests.length=2/\Fit e active 0/\Fit e active 1):=by
 unfold sI
 refine Def.c (λh=>Def.s ⟨λh=>(by cases h),λh2=>?_⟩) (λh=>?_)
 ·rw [h2.1] at h;cases h
 have hl:e.Digests.length=2:=by simp at h;omega
 refine Def.bd (xF e.Digests (uD e active) (λi=>Fit e active i) (λb=>b=false/\∃ i,i<2/\¬ Fit e active i) (by omega) (λa ha=>?_) ?_) (λr hr=>?_)
 ·unfold uD
  refine Def.c (λ_=>?_) (λh=>by have:=dF h;omega)
  refine Def.bd (zF9 (e:=e) (active:=active) (a:=a) rfl (by rw [zBh];rfl)) (λw hw=>?_)
  refine Def.bd (Def.at' ha) (λd hd=>?_)
  subst hd
  refine Def.c (λhne=>Def.s ⟨rfl,a,by omega,λhF=>?_⟩) (λhne=>Def.s ⟨yB (by omega),(zBi ha hw).1 hne⟩)
  rw [(zBi ha hw).2 hF] at hne;cases hne
 ·unfold uD
  rw [hl]
  exact cf rfl rfl
 ·cases r with
  | inl b=>exact Def.s ⟨λh=>(by rw [hr.1] at h;cases h),λh=>absurd h.2 (nf2 hr.2)⟩
  | inr u=>exact Def.s ⟨λ_=>⟨hl,hr 0 (by omega),hr 1 (by omega)⟩,λ_=>rfl⟩
structure EvGood (e:api_Event) (active:Int):Prop where
 r0:0<=e.Register
 r1:e.Register<=11
 d:e.Data.length<=64
 l:e.Digests.length=2
 f0:Fit e active 0
 f1:Fit e active 1
structure EvC (e:api_Event) (active:Int):Prop extends EvGood e active where
 a1:1<=active
 a3:active<=3
 k1:1<=e.Kind
 k5:e.Kind<=5
theorem or6 {a b c d e f:Bool}:Def (bif a then some true else bif b then some true else bif c then some true else bif d then some true else bif e then some true else some f) (λr=>r=(a||b||c||d||e||f)):=by
 cases a<;>cases b<;>cases c<;>cases d<;>cases e<;>cases f<;>exact Def.s rfl
theorem zJa {e:api_Event} {active:Int} {b:Bool} (h:b=(decide (active<1)||decide (3<active)||decide (e.Register<0)||decide (11<e.Register)||decide (e.Kind<1)||decide (5<e.Kind))) :
  b=false↔(1<=active/\active<=3/\0<=e.Register/\e.Register<=11/\1<=e.Kind/\e.Kind<=5):=by
 subst h
 simp only [Bool.or_eq_false_iff,decide_eq_false_iff_not]
 omega
theorem zMl (e:api_Event) (active:Int):Def (oZ e active) (λr=>r=0↔EvC e active):=by
 unfold oZ
 refine Def.bd or6 (λb hb=>?_)
 have hb:=zJa hb
 refine Def.c (λh=>Def.s ⟨λh=>(by cases h),λhc=>?_⟩) (λhbf=>?_)
 ·have:=hb.2 ⟨hc.a1,hc.a3,hc.r0,hc.r1,hc.k1,hc.k5⟩
  rw [this] at h;cases h
 obtain ⟨h1,h2,h3,h4,h5,h6⟩:=hb.1 hbf
 refine Def.c (λh=>Def.s ⟨λh=>(by cases h),λhc=>?_⟩) (λhd=>?_)
 ·have:=dT h;have:=hc.d;omega
 have hd':=dF hd
 refine Def.bd (zOa e active) (λf hf=>?_)
 refine Def.c (λh=>Def.s ⟨λh=>(by cases h),λhc=>?_⟩) (λhft=>Def.s ⟨λ_=>?_,λ_=>rfl⟩)
 ·rw [hf.2 ⟨hc.l,hc.f0,hc.f1⟩] at h;cases h
 ·obtain ⟨k1,k2,k3⟩:=hf.1 (by simpa using hft)
  exact ⟨⟨h3,h4,by omega,k1,k2,k3⟩,h1,h2,h5,h6⟩
def bnk (n:Nat):List (List UInt8):=List.replicate 12 (List.replicate n 0)++List.replicate 4 (List.replicate n 255)
theorem new1:jJ 1=some ⟨[bnk 20,[]],0⟩:=by decide +kernel
theorem new2:jJ 2=some ⟨[[],bnk 32],0⟩:=by decide +kernel
theorem new3:jJ 3=some ⟨[bnk 20,bnk 32],0⟩:=by decide +kernel
theorem sel1:vN 1=some ⟨4095,0⟩:=by decide +kernel
theorem sel2:vN 2=some ⟨0,4095⟩:=by decide +kernel
theorem sel3:vN 3=some ⟨4095,4095⟩:=by decide +kernel
structure BkOk (active:Int) (r:api_Registers):Prop where
 b:∃ b0 b1,r.Banks=[b0,b1]/\b0.length=(if yD active 0=true then 16 else 0)/\b1.length=(if yD active 1=true then 16 else 0)/\(∀ x∈b0,x.length<=32)/\(∀ x∈b1,x.length<=32)
theorem zE4 (b0 b1:List (List UInt8)) (u:Int):xX ⟨[b0,b1],u⟩ 0=some (decide (0<(b0.length:Int)))/\xX ⟨[b0,b1],u⟩ 1=some (decide (0<(b1.length:Int))):=⟨rfl,rfl⟩
theorem zKp (r:api_Registers) (b0 b1:List (List UInt8)) (hb:r.Banks=[b0,b1]) (l0:b0.length<=16) (l1:b1.length<=16) (h0:∀ x∈b0,x.length<=32) (h1:∀ x∈b1,x.length<=32):fK r=some (b0,b1,r.Updates):=by
 have cp:∀ x:List UInt8,x.length<=32->vQ x=some x:=λx hx=>cU x (by omega)
 unfold fK
 refine ct (by rw [hb];rfl) ?_
 refine bd (a:=b0) ?_ ?_
 ·refine zK b0.length (λi=>(b0.take i,(i:Int))) (by simp) (λi hi=>?_) ?_ (yS (by omega))
  ·unfold j7
   rw [hb]
   refine bd (a:=b0) rfl ?_
   refine ct (dlt hi) ?_
   refine bd (a:=b0) rfl ?_
   refine bd (xH hi) ?_
   refine bd (cp _ (h0 _ (List.getElem_mem hi))) ?_
   refine bd (zR (by simp;omega)) ?_
   rw [yB (show i<2 ^ 40 by omega),List.take_add_one]
   simp [hi]
  ·unfold j7
   rw [hb]
   refine bd (a:=b0) rfl ?_
   refine cf (dge (Nat.le_refl _)) ?_
   simp
 refine ct (by rw [hb];rfl) ?_
 refine bd (a:=(b1,b0)) ?_ ?_
 ·refine zK b1.length (λi=>(b1.take i,(i:Int),b0)) (by simp) (λi hi=>?_) ?_ (yS (by omega))
  ·unfold jN
   rw [hb]
   refine bd (a:=b1) rfl ?_
   refine ct (dlt hi) ?_
   refine bd (a:=b1) rfl ?_
   refine bd (xH hi) ?_
   refine bd (cp _ (h1 _ (List.getElem_mem hi))) ?_
   refine bd (zR (by simp;omega)) ?_
   rw [yB (show i<2 ^ 40 by omega),List.take_add_one]
   simp [hi]
  ·unfold jN
   rw [hb]
   refine bd (a:=b1) rfl ?_
   refine cf (dge (Nat.le_refl _)) ?_
   simp
 exact cf (by rw [hb];rfl) rfl
def upR (act:Bool) (bk:List (List UInt8)) (reg:Int) (f:List UInt8->List UInt8):List (List UInt8):=if act=true then bk.set reg.toNat (f (bk.getD reg.toNat [])) else bk
def ext (active:Int) (e:api_Event) (r:api_Registers):api_Registers:=
 ⟨[upR (yD active 0) (r.Banks.getD 0 []) e.Register (λx=>nG (x++e.Digests.getD 0 [])),upR (yD active 1) (r.Banks.getD 1 []) e.Register (λx=>sha (x++e.Digests.getD 1 []))],IntKind.i64.wrap (r.Updates+1)⟩
theorem zI6 (act:Bool) (bk:List (List UInt8)) (reg:Int) (f:List UInt8->List UInt8):(upR act bk reg f).length=bk.length:=by unfold upR;split<;>simp
theorem zNn {act:Bool} {bk:List (List UInt8)} {reg:Int} {f:List UInt8->List UInt8} (h:∀ x∈bk,x.length<=32) (hf:∀ x,(f x).length<=32):∀ x∈upR act bk reg f,x.length<=32:=by
 intro x hx
 unfold upR at hx
 split at hx
 ·rcases List.mem_or_eq_of_mem_set hx with hx | hx
  ·exact h x hx
  ·rw [hx];exact hf _
 ·exact h x hx
theorem zQ1 {active:Int} {e:api_Event} {r:api_Registers} (h:BkOk active r):BkOk active (ext active e r):=by
 obtain ⟨⟨b0,b1,hb,l0,l1,m0,m1⟩⟩:=h
 unfold ext
 rw [hb]
 exact ⟨⟨_,_,rfl,by rw [zI6];exact l0,by rw [zI6];exact l1,zNn m0 (λx=>by rw [zCz];omega),zNn m1 (λx=>by rw [sJ];omega)⟩⟩
theorem zHp (r:api_Registers) (active:Int) (e:api_Event) (hr:BkOk active r) (he:EvGood e active) (hk:e.Kind≠5):Def (lE r 0 e.Register e.Digests) (λx=>x=(ext active e r,0)):=by
 obtain ⟨⟨b0,b1,hb,l0,l1,m0,m1⟩⟩:=hr
 obtain ⟨r0,r1,_,dl,f0,f1⟩:=he
 obtain ⟨bs,u⟩:=r
 simp only at hb
 subst hb
 have l0':b0.length<=16:=by rw [l0];split<;>omega
 have l1':b1.length<=16:=by rw [l1];split<;>omega
 unfold Fit at f0 f1
 have f0':((e.Digests.getD 0 []).length:Int)<=32:=by rw [f0];split<;>decide
 have f1':((e.Digests.getD 1 []).length:Int)<=32:=by rw [f1];split<;>decide
 have g0:∀ d∈e.Digests,d.length<=32:=by
  intro d hd
  obtain ⟨i,hi,rfl⟩:=List.mem_iff_getElem.mp hd
  have hi2:i=0∨i=1:=by omega
  rcases hi2 with rfl | rfl
  ·have:(e.Digests.getD 0 [])=e.Digests[0]:=by simp [hi]
   rw [<- this]
   omega
  ·have:(e.Digests.getD 1 [])=e.Digests[1]:=by simp [hi]
   rw [<- this]
   omega
 have i0:idx e.Digests 0=some (e.Digests.getD 0 []):=zA9 (i:=0) (by omega)
 have i1:idx e.Digests 1=some (e.Digests.getD 1 []):=zA9 (i:=1) (by omega)
 have a0:xX ⟨[b0,b1],u⟩ 0=some (yD active 0):=by
  rw [(zE4 b0 b1 u).1,l0];cases yD active 0<;>rfl
 have a1:xX ⟨[b0,b1],u⟩ 1=some (yD active 1):=by
  rw [(zE4 b0 b1 u).2,l1];cases yD active 1<;>rfl
 unfold lE
 refine Def.bd (P:=λb=>b=false) ?_ (λb hb=>?_)
 ·refine Def.c (λh=>by cases h) (λ_=>Def.c (λh=>by cases h) (λ_=>Def.c (λh=>?_) (λ_=>Def.c (λh=>?_) (λ_=>Def.s ?_))))
  ·have:=dT h;omega
  ·have:=dT h;omega
  ·simp;omega
 subst hb
 refine Def.c (λh=>by cases h) (λ_=>?_)
 refine Def.bd (P:=λn=>n=0) ?_ (λn hn=>?_)
 ·unfold dJ
  refine Def.bd (P:=λb=>b=false) (Def.s rfl) (λb hb=>?_)
  subst hb
  refine Def.c (λh=>by cases h) (λ_=>?_)
  have e14:(e.Register==14)=false:=by simp;omega
  have e15:(e.Register==15)=false:=by simp;omega
  rw [e14,e15]
  exact Def.s rfl
 subst hn
 refine Def.c (λh=>by cases h) (λ_=>?_)
 refine Def.bd (P:=λr=>r=.inr ()) ?_ (λr hr=>?_)
 ·refine Def.loop (λs=>s=0∨s=1∨s=2) (λs=>2 - s.toNat) (λs hs=>?_) (.inl rfl) (by simp)
  unfold gZ
  refine Def.c (λh=>?_) (λh=>Def.s rfl)
  refine Def.bd (P:=λb=>b=false) ?_ (λb hb=>?_)
  ·rcases hs with rfl | rfl | rfl
   ·refine Def.bd (P:=λb=>b=yD active 0) (Def.of a0 rfl) (λb hb=>?_)
    subst hb
    refine Def.c (λh=>?_) (λ_=>Def.s rfl)
    refine Def.bd (P:=λd=>d=e.Digests.getD 0 []) (Def.of i0 rfl) (λd hd=>Def.s ?_)
    have hh:yD active 0=false:=by simpa using h
    rw [if_neg (by show ¬ (e.Kind≠5/\yD active 0=true);rw [hh];simp)] at f0
    rw [decide_eq_false_iff_not,hd];omega
   ·refine Def.bd (P:=λb=>b=yD active 1) (Def.of a1 rfl) (λb hb=>?_)
    subst hb
    refine Def.c (λh=>?_) (λ_=>Def.s rfl)
    refine Def.bd (P:=λd=>d=e.Digests.getD 1 []) (Def.of i1 rfl) (λd hd=>Def.s ?_)
    have hh:yD active 1=false:=by simpa using h
    rw [if_neg (by show ¬ (e.Kind≠5/\yD active 1=true);rw [hh];simp)] at f1
    rw [decide_eq_false_iff_not,hd];omega
   ·cases h
  subst hb
  refine Def.s ?_
  rcases hs with rfl | rfl | rfl
  ·exact ⟨.inr (.inl rfl),by decide⟩
  ·exact ⟨.inr (.inr rfl),by decide⟩
  ·cases h
 subst hr
 refine Def.bd (P:=λr=>r=.inr ()) ?_ (λr hr=>?_)
 ·refine Def.loop (λs=>s=0∨s=1∨s=2) (λs=>2 - s.toNat) (λs hs=>?_) (.inl rfl) (by simp)
  unfold fA
  refine Def.c (λh=>?_) (λh=>Def.s rfl)
  refine Def.bd (P:=λb=>b=false) ?_ (λb hb=>?_)
  ·rcases hs with rfl | rfl | rfl
   ·refine Def.bd (P:=λb=>b=yD active 0) (Def.of a0 rfl) (λb hb=>?_)
    subst hb
    refine Def.c (λh=>?_) (λ_=>Def.s rfl)
    refine Def.bd (P:=λd=>d=e.Digests.getD 0 []) (Def.of i0 rfl) (λd hd=>?_)
    refine Def.bd (P:=λd=>d=siz 0) (Def.of (zBh 0) rfl) (λz hz=>Def.s ?_)
    rw [if_pos ⟨hk,h⟩] at f0
    rw [hd,hz];simp;exact f0
   ·refine Def.bd (P:=λb=>b=yD active 1) (Def.of a1 rfl) (λb hb=>?_)
    subst hb
    refine Def.c (λh=>?_) (λ_=>Def.s rfl)
    refine Def.bd (P:=λd=>d=e.Digests.getD 1 []) (Def.of i1 rfl) (λd hd=>?_)
    refine Def.bd (P:=λd=>d=siz 1) (Def.of (zBh 1) rfl) (λz hz=>Def.s ?_)
    rw [if_pos ⟨hk,h⟩] at f1
    rw [hd,hz];simp;exact f1
   ·cases h
  subst hb
  refine Def.s ?_
  rcases hs with rfl | rfl | rfl
  ·exact ⟨.inr (.inl rfl),by decide⟩
  ·exact ⟨.inr (.inr rfl),by decide⟩
  ·cases h
 subst hr
 refine Def.bd (P:=λx=>x=(b0,b1,u)) (Def.of (zKp _ b0 b1 rfl l0' l1' m0 m1) rfl) (λx hx=>?_)
 subst hx
 obtain ⟨rn,hrn⟩:=Int.eq_ofNat_of_zero_le r0
 have one:∀ (a:Nat) (bk:List (List UInt8)) (f:List UInt8->List UInt8) (h2:a<2) (h16:bk.length=16) (mm:∀ x∈bk,x.length<=32) (hf:∀ z,z.length<2 ^ 40->tU (a:Int) z=some (f z)),
   Def ((idx bk e.Register).bind λw=>(vQ w).bind λw'=>(idx e.Digests (a:Int)).bind λd=>(zZ 1 w' d).bind λz=>(tU (a:Int) z).bind λs=>(ixN bk.length e.Register).bind λj=>(uN bk j s).bind λl=>some l)
    (λb=>b=upR true bk e.Register (λx=>f (x++e.Digests.getD a []))):=by
  intro a bk f h2 h16 mm hf
  rw [hrn]
  have hm:bk.getD rn []∈bk:=by
   have:rn<bk.length:=by omega
   simp [this]
  have:=mm _ hm
  refine Def.bd (P:=λx=>x=bk.getD rn []) (Def.of (zA9 (by omega)) rfl) (λx hx=>?_)
  subst hx
  refine Def.bd (P:=λy=>y=bk.getD rn []) (Def.of (cU _ (by omega)) rfl) (λy hy=>?_)
  subst hy
  have hd:e.Digests.getD a []∈e.Digests:=by
   have:a<e.Digests.length:=by omega
   simp [this]
  have:=g0 _ hd
  refine Def.bd (P:=λd=>d=e.Digests.getD a []) (Def.of (zA9 (by omega)) rfl) (λd hd=>?_)
  subst hd
  refine Def.bd (Def.app (by omega)) (λz hz=>?_)
  have hzl:z.length<2 ^ 40:=by rw [hz,List.length_append];omega
  refine Def.bd (P:=λs=>s=f z) (Def.of (hf z hzl) rfl) (λs hs=>?_)
  refine Def.bd (Def.ixN (by omega) (by omega)) (λj hj=>?_)
  refine Def.bd (Def.upd hj.2) (λq hq=>Def.s ?_)
  rw [hq,hj.1,hs,hz]
  rfl
 refine Def.bd (P:=λb=>b=upR (yD active 0) b0 e.Register (λx=>nG (x++e.Digests.getD 0 []))) ?_ (λc0 hc0=>?_)
 ·refine Def.bd (P:=λb=>b=yD active 0) (Def.of a0 rfl) (λb hb=>?_)
  subst hb
  refine Def.c (λh=>?_) (λh=>Def.s (by rw [h];rfl))
  rw [if_pos h] at l0
  rw [h]
  refine Def.bd (P:=λb=>b=b0) (Def.s rfl) (λb hb=>?_)
  subst hb
  exact one 0 _ nG (by omega) l0 m0 zCp
 refine Def.bd (P:=λb=>b=upR (yD active 1) b1 e.Register (λx=>sha (x++e.Digests.getD 1 []))) ?_ (λc1 hc1=>?_)
 ·refine Def.bd (P:=λb=>b=yD active 1) (Def.of a1 rfl) (λb hb=>?_)
  subst hb
  refine Def.c (λh=>?_) (λh=>Def.s (by rw [h];rfl))
  rw [if_pos h] at l1
  rw [h]
  refine Def.bd (P:=λb=>b=b1) (Def.s rfl) (λb hb=>?_)
  subst hb
  exact one 1 _ sha (by omega) l1 m1 zC6
 exact Def.s (by rw [hc0,hc1];rfl)
end Go.Proofs.TT
namespace Go.Proofs.TT
open Go Go.Sw
set_option maxRecDepth 100000
theorem zN0 {a:Int} (h1:1<=a) (h3:a<=3):a=1∨a=2∨a=3:=by omega
theorem zBn (n:Nat):(bnk n).length=16:=by simp [bnk]
theorem zE1 (n:Nat) (h:n<=32):∀ x∈bnk n,x.length<=32:=by
 intro x hx
 simp only [bnk,List.mem_append,List.mem_replicate] at hx
 rcases hx with ⟨_,rfl⟩ | ⟨_,rfl⟩<;>simp [h]
def zKn (active:Int):api_Registers:=⟨[if yD active 0=true then bnk 20 else [],if yD active 1=true then bnk 32 else []],0⟩
theorem zSw (active:Int) (h1:1<=active) (h3:active<=3):jJ active=some (zKn active):=by
 rcases zN0 h1 h3 with rfl | rfl | rfl
 ·exact new1
 ·exact new2
 ·exact new3
theorem zOy (active:Int) (h1:1<=active) (h3:active<=3):BkOk active (zKn active):=by
 rcases zN0 h1 h3 with rfl | rfl | rfl
 ·exact ⟨⟨_,_,rfl,zBn 20,rfl,zE1 20 (by omega),(by intro x hx;cases hx)⟩⟩
 ·exact ⟨⟨_,_,rfl,rfl,zBn 32,(by intro x hx;cases hx),zE1 32 (by omega)⟩⟩
 ·exact ⟨⟨_,_,rfl,zBn 20,zBn 32,zE1 20 (by omega),zE1 32 (by omega)⟩⟩
def rpl (active:Int) (es:List api_Event):api_Registers:=es.foldl (λr e=>if e.Kind=5 then r else ext active e r) (zKn active)
theorem zF2 (active:Int) {es:List api_Event} {a:Nat} (h:a<es.length):rpl active (es.take (a+1))=if es[a].Kind=5 then rpl active (es.take a) else ext active es[a] (rpl active (es.take a)):=by
 unfold rpl
 rw [List.take_add_one,List.foldl_append]
 simp [h]
theorem zJc (active:Int):∀ (es:List api_Event) (r:api_Registers),BkOk active r->BkOk active (es.foldl (λr e=>if e.Kind=5 then r else ext active e r) r)
 | [],_,h=>h
 | e :: es,r,h=>by
  rw [List.foldl_cons]
  refine zJc active es _ ?_
  split
  ·exact h
  ·exact zQ1 h
theorem zFc (active:Int) (es:List api_Event) (h1:1<=active) (h3:active<=3):BkOk active (rpl active es):=zJc active es _ (zOy active h1 h3)
theorem zH8 (l:api_Log) (h:l.Events.length<2 ^ 20) (h1:1<=l.Active) (h3:l.Active<=3):Def (mA l) (λr=>(r.2=0->r.1=rpl l.Active l.Events)/\((∀ e∈l.Events,EvC e l.Active)->r.2=0)):=by
 unfold mA
 refine Def.bd (P:=λb=>b=false) ?_ (λb hb=>?_)
 ·refine Def.c (λh=>by have:=dT h;omega) (λ_=>Def.s ?_)
  rw [decide_eq_false_iff_not];omega
 subst hb
 refine Def.c (λh=>by cases h) (λ_=>?_)
 refine Def.bd (xF l.Events (rI l) (λi=>∀ h:i<l.Events.length,EvGood l.Events[i] l.Active) (λv=>v.2≠0/\¬ ∀ e∈l.Events,EvC e l.Active) (by omega) (λa ha=>?_) ?_) (λr hr=>?_)
 ·unfold rI
  refine Def.c (λ_=>?_) (λh=>by have:=dF h;omega)
  refine Def.bd (Def.at' ha) (λe he=>?_)
  subst he
  refine Def.bd (zMl _ _) (λr hr=>?_)
  refine Def.c (λhz=>Def.s ⟨by simpa using hz,λhall=>?_⟩) (λhz=>Def.s ⟨yB (by omega),λ_=>(hr.1 (by simpa using hz)).toEvGood⟩)
  have:=hr.2 (hall _ (List.getElem_mem ha))
  rw [this] at hz;cases hz
 ·unfold rI
  exact cf (by simp) rfl
 cases r with
 | inl v=>exact Def.s ⟨λh=>absurd h hr.1,λh=>absurd h hr.2⟩
 | inr u=>
  have hr':∀ e∈l.Events,EvGood e l.Active:=by
   intro e he
   obtain ⟨i,hi,rfl⟩:=List.mem_iff_getElem.mp he
   exact hr i hi hi
  refine Def.bd (P:=λr=>r=zKn l.Active) (Def.of (zSw _ h1 h3) rfl) (λrg hrg=>?_)
  subst hrg
  refine Def.bd (P:=λr=>(⟨r.1,r.2⟩:api_Registers)=rpl l.Active l.Events) ?_ (λr hr=>Def.s ⟨λ_=>hr,λ_=>rfl⟩)
  refine Def.loop (λs=>∃ a:Nat,s.1=(a:Int)/\a<=l.Events.length/\(⟨s.2.1,s.2.2⟩:api_Registers)=rpl l.Active (l.Events.take a)) (λs=>l.Events.length - s.1.toNat) (λs hs=>?_) ⟨0,rfl,by omega,rfl⟩ (by simp;omega)
  obtain ⟨a',bs,up⟩:=s
  obtain ⟨a,g1,g2,g3⟩:=hs
  simp only at g1 g3
  subst g1
  unfold iN
  refine Def.c (λh=>?_) (λh=>Def.s ?_)
  ·have ha2:a<l.Events.length:=by have:=dT h;omega
   refine Def.bd (P:=λr=>(⟨r.1,r.2⟩:api_Registers)=rpl l.Active (l.Events.take (a+1))) ?_ (λr hr=>Def.s ?_)
   ·rw [zF2 _ ha2]
    refine Def.bd (Def.at' ha2) (λe he=>?_)
    subst he
    refine Def.c (λhk=>?_) (λhk=>Def.s (by rw [if_pos (by simpa using hk)];exact g3))
    have hk':l.Events[a].Kind≠5:=by simpa using hk
    rw [if_neg hk']
    refine Def.bd (Def.at' ha2) (λe he=>?_)
    subst he
    refine Def.bd (Def.at' ha2) (λe he=>?_)
    subst he
    rw [g3]
    exact Def.bd (zHp _ l.Active _ (zFc _ _ h1 h3) (hr' _ (List.getElem_mem ha2)) hk') (λr hr=>Def.s (by subst hr;rfl))
   ·rw [yB (by omega)]
    exact ⟨⟨a+1,rfl,by omega,hr⟩,by simp only [Int.toNat_natCast];omega⟩
  ·have:=dF h
   rw [List.take_of_length_le (by omega)] at g3
   exact g3
theorem bit0 (x:Int):(yP .i64 (zW .i64 0 x) 1==1)=false:=by
 unfold zW
 rw [Int.zero_fdiv]
 decide
def xA (active a:Int):Int:=if yD active a=true then 4095 else 0
theorem zO9 (active:Int) (h1:1<=active) (h3:active<=3):vN active=some ⟨xA active 0,xA active 1⟩:=by
 rcases zN0 h1 h3 with rfl | rfl | rfl
 ·exact sel1
 ·exact sel2
 ·exact sel3
def zPd (v:Int) (i:Nat):Bool:=yP .i64 (zW .i64 v (IntKind.u64.wrap (i:Int))) 1==1
def nF (v:Int) (bk:List (List UInt8)):Nat->List UInt8
 | 0=>[]
 | n+1=>nF v bk n++(if zPd v n=true then bk.getD n [] else [])
theorem zMu (v:Int) (bk:List (List UInt8)) (n:Nat):nF v bk (n+1)=nF v bk n++(if zPd v n=true then bk.getD n [] else []):=rfl
theorem zBo {bk:List (List UInt8)} (h:∀ x∈bk,x.length<=32) (n:Nat):(bk.getD n []).length<=32:=by
 by_cases hn:n<bk.length
 ·have:bk.getD n []=bk[n]:=by simp [hn]
  rw [this];exact h _ (List.getElem_mem hn)
 ·have:bk.getD n []=[]:=by simp [List.getD,List.getElem?_eq_none (by omega:bk.length<=n)]
  rw [this];simp
theorem jH {bk:List (List UInt8)} (h:∀ x∈bk,x.length<=32) (v:Int):∀ n,(nF v bk n).length<=32*n
 | 0=>by simp [nF]
 | n+1=>by
  have:=jH h v n
  have:=zBo h n
  rw [zMu,List.length_append]
  split
  ·omega
  ·simp only [List.length_nil];omega
theorem zG5 {bk:List (List UInt8)} {v:Int} {i:Nat} {all:List UInt8} {o:Option (List (List UInt8))} (hi:i<16) (hz:v=0∨bk.length=16) (hb:∀ x∈bk,x.length<=32) (hl:all.length<=512) (ho:o=some bk) :
  (bif ((yP .i64 (zW .i64 v (IntKind.u64.wrap (i:Int))) 1)==1) then (o.bind λb=>(idx b (i:Int)).bind λx=>(zZ 1 (all++nF v bk i) x).bind λz=>some z) else some (all++nF v bk i))=some (all++nF v bk (i+1)):=by
 have hs:=jH hb v i
 have hg:=zBo hb i
 rw [zMu]
 cases hbit:zPd v i
 ·refine cf hbit ?_
  simp
 ·refine ct hbit ?_
  have h16:bk.length=16:=by
   rcases hz with h | h
   ·unfold zPd at hbit;rw [h,bit0] at hbit;cases hbit
   ·exact h
  refine bd ho ?_
  refine bd (zA9 (by omega)) ?_
  refine bd (zR (by rw [List.length_append];omega)) ?_
  simp
theorem zPs (r:api_Registers) (s:A2 Int) (a:Int) (v:Int) (bk:List (List UInt8)) (hv:((ixN 2 a).bind λj=>[s.a0,s.a1][j]?)=some v) (hi:idx r.Banks a=some bk) (hz:v=0∨bk.length=16) (hb:∀ x∈bk,x.length<=32) (all:List UInt8) (hl:all.length<=512) :
  zE (m9 r s a) FU (all,0)=some (all++nF v bk 16):=by
 refine zK 16 (λi=>(all++nF v bk i,(i:Int))) (by simp [nF]) (λi hi16=>?_) rfl (yS (by decide))
 unfold m9
 refine ct (by simp;omega) ?_
 have e:∀ (f:Int->Option (List UInt8)),((ixN 2 a).bind λj=>([s.a0,s.a1][j]?).bind f)=f v:=by
  intro f
  rw [<- Option.bind_assoc,hv];rfl
 rw [e]
 refine bd (zG5 hi16 hz hb hl hi) ?_
 rw [yB (by omega)]
def dgs (active:Int) (r:api_Registers):List UInt8:=hs 5 [wF (wF [] 2 (xA active 0)) 2 (xA active 1),nF (xA active 0) (r.Banks.getD 0 []) 16++nF (xA active 1) (r.Banks.getD 1 []) 16]
theorem zJq (active:Int) (r:api_Registers):(dgs active r).length=32:=dS _ _
theorem kS (active a:Int):0<=xA active a/\xA active a<=65535:=by unfold xA;split<;>decide
theorem zE8 {active a:Int} {b:Bool} (hb:b=yD active a):(xA active a != 0&&!b)=false:=by
 subst hb
 unfold xA
 cases yD active a<;>rfl
theorem zF6 (r:api_Registers) (active:Int) (hr:BkOk active r):lT r ⟨xA active 0,xA active 1⟩=some (dgs active r,0):=by
 obtain ⟨⟨b0,b1,hb,l0,l1,m0,m1⟩⟩:=hr
 obtain ⟨bs,u⟩:=r
 simp only at hb
 subst hb
 have s0:=kS active 0
 have s1:=kS active 1
 have z0:xA active 0=0∨b0.length=16:=by unfold xA;split at l0<;>simp_all
 have z1:xA active 1=0∨b1.length=16:=by unfold xA;split at l1<;>simp_all
 have a0:xX ⟨[b0,b1],u⟩ 0=some (yD active 0):=by
  rw [(zE4 b0 b1 u).1,l0];cases yD active 0<;>rfl
 have a1:xX ⟨[b0,b1],u⟩ 1=some (yD active 1):=by
  rw [(zE4 b0 b1 u).2,l1];cases yD active 1<;>rfl
 have n0:=zE8 (active:=active) (a:=0) rfl
 have n1:=zE8 (active:=active) (a:=1) rfl
 have hd:dgs active ⟨[b0,b1],u⟩=hs 5 [wF (wF [] 2 (xA active 0)) 2 (xA active 1),nF (xA active 0) b0 16++nF (xA active 1) b1 16]:=rfl
 rw [hd]
 generalize xA active 0=x0 at s0 z0 n0
 generalize xA active 1=x1 at s1 z1 n1
 have e0:=jH m0 x0 16
 have e1:=jH m1 x1 16
 have d0:=zPs ⟨[b0,b1],u⟩ ⟨x0,x1⟩ 0 x0 b0 rfl rfl z0 m0 [] (by simp)
 have d1:=zPs ⟨[b0,b1],u⟩ ⟨x0,x1⟩ 1 x1 b1 rfl rfl z1 m1 (nF x0 b0 16) (by omega)
 rw [List.nil_append] at d0
 generalize nF x0 b0 16=t0 at *
 generalize nF x1 b1 16=t1 at *
 have rng:∀ x:Int,0<=x/\x<=65535->(bif decide (x<0) then some true else some (decide (65535<x)):Option Bool)=some false:=by
  intro x hx
  refine cf (by simp;omega) ?_
  rw [show decide (65535<x)=false by simp;omega]
 have act:∀ (x:Int) (o:Option Bool) (b:Bool),o=some b->(x != 0&&!b)=false->(bif x != 0 then (o.bind λb=>some (!b)) else some false:Option Bool)=some false:=by
  intro x o b ho hn
  subst ho
  cases h:x != 0
  ·rfl
  ·rw [h] at hn
   exact congrArg some hn
 unfold lT
 refine bd (a:=.inr ()) (two (b:=1) (c:=2) ?_ ?_ rfl) ?_
 ·unfold mN
  refine ct rfl ?_
  exact bd (a:=false) (rng x0 s0) rfl
 ·unfold mN
  refine ct rfl ?_
  exact bd (a:=false) (rng x1 s1) rfl
 refine bd (a:=.inr (t0++t1)) (two (b:=(t0,1)) (c:=(t0++t1,2)) ?_ ?_ rfl) ?_
 ·unfold m6
  refine ct rfl ?_
  refine bd (a:=false) (act x0 _ _ a0 n0) ?_
  refine cf rfl ?_
  exact bd d0 rfl
 ·unfold m6
  refine ct rfl ?_
  refine bd (a:=false) (act x1 _ _ a1 n1) ?_
  refine cf rfl ?_
  exact bd d1 rfl
 refine bd (a:=x0) rfl ?_
 refine bd (uJ [] 2 x0 (by omega) (by omega) (by simp)) ?_
 refine bd (a:=x1) rfl ?_
 refine bd (uJ _ 2 x1 (by omega) (by omega) (by rw [zQ];simp)) ?_
 exact bd (mI _ _ (by rw [zKt,zQ,zQ,List.length_append];simp only [List.length_nil];omega)) rfl
theorem zF3 (l:api_Log) (h:l.Events.length<2 ^ 20) (h1:1<=l.Active) (h3:l.Active<=3) (hg:∀ e∈l.Events,EvC e l.Active):vH l ⟨xA l.Active 0,xA l.Active 1⟩=some (dgs l.Active (rpl l.Active l.Events),0):=by
 obtain ⟨⟨rg,e⟩,h0,h2,h4⟩:=zH8 l h h1 h3
 have he:e=0:=h4 hg
 subst he
 have hrg:rg=rpl l.Active l.Events:=h2 rfl
 subst hrg
 unfold vH
 refine bd h0 ?_
 refine cf rfl ?_
 exact bd (zF6 _ l.Active (zFc _ _ h1 h3)) rfl
end Go.Proofs.TT
namespace Go.Proofs.TT
open Go Go.Sw
set_option maxRecDepth 100000
theorem zO7 (b:List UInt8) (n:Int) (h0:0<=n) (h:n<2 ^ 20):Def (kI b n) (λr=>r.length<=b.length/\r.length<2 ^ 20):=by
 unfold kI
 refine Def.c (λh=>?_) (λh=>Def.s ?_)
 ·have:=dT h
  refine Def.bd (Def.sub (by decide) h0 (by omega)) (λx hx=>Def.s ?_)
  have:x.length<=n.toNat/\x.length<=b.length:=by rw [hx];simp;omega
  omega
 ·have:=dF h
  omega
end Go.Proofs.TT
namespace Go.Proofs.TT
open Go Go.Sw
set_option maxRecDepth 100000
theorem kO (a:Int):tY a=some (siz a):=zBh a
theorem zH5 (e:api_Event) (active:Int):Def (qE e active) (λr=>r=0↔EvC e active):=by
 unfold qE
 refine Def.bd or6 (λb hb=>?_)
 have hb:=zJa hb
 refine Def.c (λh=>Def.s ⟨λh=>(by cases h),λhc=>?_⟩) (λhbf=>?_)
 ·have:=hb.2 ⟨hc.a1,hc.a3,hc.r0,hc.r1,hc.k1,hc.k5⟩
  rw [this] at h;cases h
 obtain ⟨h1,h2,h3,h4,h5,h6⟩:=hb.1 hbf
 refine Def.c (λh=>Def.s ⟨λh=>(by cases h),λhc=>?_⟩) (λhd=>?_)
 ·have:=dT h;have:=hc.d;omega
 have hd':=dF hd
 refine Def.c (λh=>Def.s ⟨λh=>(by cases h),λhc=>?_⟩) (λhl0=>?_)
 ·rw [hc.l] at h;cases h
 have hl:e.Digests.length=2:=by simp at hl0;omega
 refine Def.bd (xF e.Digests (pZ e active) (λi=>Fit e active i) (λb=>b=27/\∃ i,i<2/\¬ Fit e active i) (by omega) (λa ha=>?_) ?_) (λr hr=>?_)
 ·unfold pZ
  refine Def.c (λ_=>?_) (λh=>by have:=dF h;omega)
  refine Def.bd (Def.at' ha) (λd hd=>?_)
  subst hd
  refine Def.bd (zF9 (e:=e) (active:=active) (a:=a) ?_ (by rw [kO];rfl)) (λw hw=>?_)
  ·refine bd (ckT (by simp)) ?_
   have hw:IntKind.u64.wrap (a:Int)=(a:Int):=gQ (by omega) (by omega)
   unfold yD
   rw [hw]
  refine Def.c (λhne=>Def.s ⟨rfl,a,by omega,λhF=>?_⟩) (λhne=>Def.s ⟨yB (by omega),(zBi ha hw).1 hne⟩)
  rw [(zBi ha hw).2 hF] at hne;cases hne
 ·unfold pZ
  rw [hl]
  exact cf rfl rfl
 ·cases r with
  | inl b=>exact Def.s ⟨λh=>(by rw [hr.1] at h;cases h),λh=>absurd ⟨h.f0,h.f1⟩ (nf2 hr.2)⟩
  | inr u=>exact Def.s ⟨λ_=>⟨⟨h3,h4,by omega,hl,hr 0 (by omega),hr 1 (by omega)⟩,h1,h2,h5,h6⟩,λ_=>rfl⟩
theorem zNd {e:api_Event} {active:Int} (h:EvC e active):Def (qE e active) (λr=>r=0):=(zH5 e active).mono λ_ hr=>hr.2 h
end Go.Proofs.TT
namespace Go.Proofs.TT
open Go Go.Sw
set_option maxRecDepth 100000
theorem wnew (b:List UInt8) (h:b.length<2 ^ 40):mT b=some (RS.W ⟨b,0,0⟩):=by
 unfold mT
 refine bd (zR (by simp;omega)) ?_
 rfl
end Go.Proofs.TT
namespace Go.Proofs.TT
open Go Go.Sw
set_option maxRecDepth 100000
structure LgGood (l:api_Log):Prop where
 ev:∀ e∈l.Events,EvC e l.Active
 n:l.Events.length<=40
end Go.Proofs.TT
namespace Go.Proofs.TT
open Go Go.Sw
set_option maxRecDepth 100000
def mO (e:api_Event):List UInt8:=[u8 e.Register,u8 e.Kind]++((beN ((e.Digests.getD 0 []).length:Int) 2 2++e.Digests.getD 0 [])++((beN ((e.Digests.getD 1 []).length:Int) 2 2++e.Digests.getD 1 [])++(beN (e.Data.length:Int) 2 2++e.Data)))
theorem fE {e:api_Event} {active:Int} {a:Nat} (h:Fit e active a):(e.Digests.getD a []).length<=32:=by
 unfold Fit siz at h
 split at h
 ·split at h
  ·omega
  ·split at h<;>omega
 ·omega
theorem bO {e:api_Event} {active:Int} (h:EvGood e active):1<=(mO e).length/\(mO e).length<=136:=by
 have h0:=fE h.f0
 have h1:=fE h.f1
 have h2:=h.d
 unfold mO
 simp only [List.length_append,uF,List.length_cons,List.length_nil]
 omega
theorem zHa (e:api_Event) (active:Int) (h:EvC e active):tJ e=some (mO e):=by
 have h0:=fE h.f0
 have h1:=fE h.f1
 have h2:=h.d
 have hl:=h.l
 have i0:idx e.Digests 0=some (e.Digests.getD 0 []):=zA9 (i:=0) (by omega)
 have i1:idx e.Digests 1=some (e.Digests.getD 1 []):=zA9 (i:=1) (by omega)
 have r0:=h.r0
 have r1:=h.r1
 have k1:=h.k1
 have k5:=h.k5
 have hW:pP e=some true:=by
  unfold pP
  refine bd (a:=false) ?_ ?_
  ·refine cf (by simp;omega) (cf (by simp;omega) (cf (by simp;omega) (cf (by simp;omega) (cf (by simp;omega) ?_))))
   exact congrArg some (by simp [hl])
  refine cf rfl ?_
  refine bd (a:=true) ?_ rfl
  refine bd i0 ?_
  refine ct (by rw [decide_eq_true_iff];omega) ?_
  refine bd i1 ?_
  exact congrArg some (by rw [decide_eq_true_iff];omega)
 unfold tJ
 refine bd hW ?_
 refine cf rfl ?_
 refine bd i0 ?_
 refine bd ((s7 _ _ (by simp)).trans (congrArg some (kZ _ (by omega)))) ?_
 refine bd i1 ?_
 refine bd ((s7 _ _ (by simp only [List.length_append,uF,List.length_cons,List.length_nil];omega)).trans (congrArg some (kZ _ (by omega)))) ?_
 refine bd ((s7 _ _ (by simp only [List.length_append,uF,List.length_cons,List.length_nil];omega)).trans (congrArg some (kZ _ (by omega)))) ?_
 unfold mO
 simp only [List.append_assoc]
theorem Rem.eqv {r:RS} {l l':List UInt8} (h:Rem r l) (e:l'=l):Rem r l':=e▸h
theorem zT4 (n:Int) (h0:0<=n) (h:n<256):((u8 n).toNat:Int)=n:=by
 obtain ⟨m,rfl⟩:=Int.eq_ofNat_of_zero_le h0
 rw [tW]
 omega
theorem Rem.byte {r:RS} {rest:List UInt8} {n:Int} (h:Rem r (u8 n :: rest)) (h0:0<=n) (hn:n<256):yA r 1=(n,r.to 1)/\Rem (r.to 1) rest:=by
 have h':Rem r ([u8 n]++rest):=h
 refine ⟨h'.uintV rfl ?_ h0 (by omega),h'.to rfl⟩
 have hb:beV [u8 n] 1=ior .u64 (tS .u64 ((0:Nat):Int) 8) (IntKind.u64.wrap (((u8 n).toNat:Nat):Int)):=rfl
 rw [hb,zGx 0 _ (by omega) (by have:=(u8 n).toNat_lt;omega)]
 have:=zT4 n h0 hn
 omega
theorem zOu (e:api_Event) (active:Int) (h:EvC e active):vP e=some true:=by
 have r0:=h.r0
 have r1:=h.r1
 have k1:=h.k1
 have k5:=h.k5
 have h2:=h.d
 have hl:=h.l
 have h0:=fE h.f0
 have h1:=fE h.f1
 have hd:Def (vP e) (λb=>b=true):=by
  unfold vP
  refine Def.bd (P:=λb=>b=false) (Def.of (cf (by simp;omega) (cf (by simp;omega) (cf (by simp;omega) (cf (by simp;omega) (cf (by simp [hl]) rfl))))) (by simp;omega)) (λb hb=>?_)
  subst hb
  refine Def.c (λh=>by cases h) (λ_=>?_)
  refine Def.bd (xF e.Digests (u0 e) (λ_=>True) (λ_=>False) (by omega) (λi hi=>?_) ?_) (λy hy=>?_)
  ·unfold u0
   refine Def.c (λ_=>?_) (λh=>by have:=dF h;omega)
   refine Def.bd (Def.at' hi) (λd hd=>?_)
   refine Def.bd (P:=λw=>w=32) (Def.of (kO 1) rfl) (λw hw=>?_)
   subst hw
   have:d.length<=32:=by
    have hi2:i=0∨i=1:=by omega
    rcases hi2 with rfl | rfl
    ·have:(e.Digests.getD 0 [])=d:=by simp [hd,hi]
     rw [<- this];exact h0
    ·have:(e.Digests.getD 1 [])=d:=by simp [hd,hi]
     rw [<- this];exact h1
   exact Def.c (λh=>by have:=dT h;omega) (λ_=>Def.s ⟨yB (by omega),trivial⟩)
  ·unfold u0
   exact cf (by simp) rfl
  ·cases y with
   | inl b=>exact hy.elim
   | inr u=>exact Def.s rfl
 obtain ⟨b,hb,rfl⟩:=hd
 exact hb
theorem zPh (e:api_Event) (active:Int) (h:EvC e active):nX (mO e)=some (e,0):=by
 have hlen:=bO h.toEvGood
 have h0:=fE h.f0
 have h1:=fE h.f1
 have h2:=h.d
 have r0:=h.r0
 have r1:=h.r1
 have k1:=h.k1
 have k5:=h.k5
 have hD:e.Digests=[e.Digests.getD 0 [],e.Digests.getD 1 []]:=by
  have hl:=h.l
  match hx:e.Digests,hl with
  | [a,b],_=>rfl
 have henc:=zOu e active h
 have q0:Rem ⟨mO e,0,0⟩ (mO e):=⟨rfl,Nat.zero_le _,rfl⟩
 have ok0:(RS.mk (mO e) 0 0).Ok:=⟨Nat.zero_le _,by simp;omega⟩
 have w0:=wnew (mO e) (by omega)
 have b0:(RS.mk (mO e) 0 0).b.length<2 ^ 40:=by show (mO e).length<_;omega
 generalize (RS.mk (mO e) 0 0)=s0 at *
 unfold mO at q0
 obtain ⟨e1,q1⟩:=Rem.byte q0 r0 (by omega)
 obtain ⟨e2,q2⟩:=Rem.byte q1 (by omega) (by omega)
 replace q2:Rem ((s0.to 1).to 1) ((beN ((e.Digests.getD 0 []).length:Int) 2 2++e.Digests.getD 0 [])++((beN ((e.Digests.getD 1 []).length:Int) 2 2++e.Digests.getD 1 [])++(beN (e.Data.length:Int) 2 2++e.Data))):=q2
 rw [List.append_assoc] at q2
 obtain ⟨e3,q3⟩:=Rem.blobN (m:=32) q2 (by omega) (by omega)
 rw [List.append_assoc] at q3
 obtain ⟨e4,q4⟩:=Rem.blobN (m:=32) q3 (by omega) (by omega)
 have q4':=q4.eqv (l':=beN (e.Data.length:Int) 2 2++(e.Data++[])) (by rw [List.append_nil])
 obtain ⟨e5,q5⟩:=Rem.blobN (m:=64) q4' (by omega) (by omega)
 have ok1:(s0.to 1).Ok:=⟨q1.at',by show s0.b.length<_;omega⟩
 have ok2:((s0.to 1).to 1).Ok:=⟨q2.at',by show s0.b.length<_;omega⟩
 generalize hs2:(s0.to 1).to 1=s2 at *
 generalize hs3:s2.to (2+(e.Digests.getD 0 []).length)=s3 at *
 have ok3:s3.Ok:=⟨q3.at',by rw [<- hs3,<- hs2];show s0.b.length<_;omega⟩
 generalize hs4:s3.to (2+(e.Digests.getD 1 []).length)=s4 at *
 have ok4:s4.Ok:=⟨q4.at',by rw [<- hs4,<- hs3,<- hs2];show s0.b.length<_;omega⟩
 generalize hs5:s4.to (2+e.Data.length)=s5 at *
 have ok5:s5.Ok:=⟨q5.at',by rw [<- hs5,<- hs4,<- hs3,<- hs2];show s0.b.length<_;omega⟩
 unfold nX
 refine bd w0 ?_
 refine bd (a:=(e.Register,(s0.to 1).W)) ((xL s0 1 ok0 (by omega) (by omega)).trans (by rw [e1])) ?_
 refine bd (a:=(e.Kind,s2.W)) ((xL (s0.to 1) 1 ok1 (by omega) (by omega)).trans (by rw [e2])) ?_
 refine bd (a:=([e.Digests.getD 0 [],e.Digests.getD 1 []],s4.W.b_,s4.W.at_,s4.W.e_)) (two (b:=(1,[e.Digests.getD 0 []],s3.W.b_,s3.W.at_,s3.W.e_)) (c:=(2,[e.Digests.getD 0 [],e.Digests.getD 1 []],s4.W.b_,s4.W.at_,s4.W.e_)) ?_ ?_ rfl) ?_
 ·unfold nJ
  refine ct rfl ?_
  refine bd (a:=((32:Nat):Int)) (kO 1) ?_
  refine bd (a:=(e.Digests.getD 0 [],s3.W)) ((tD s2 32 ok2).trans (by rw [e3])) ?_
  exact bd (zR (by simp)) rfl
 ·unfold nJ
  refine ct rfl ?_
  refine bd (a:=((32:Nat):Int)) (kO 1) ?_
  refine bd (a:=(e.Digests.getD 1 [],s4.W)) ((tD s3 32 ok3).trans (by rw [e4])) ?_
  exact bd (zR (by simp)) rfl
 refine bd (a:=(e.Data,s5.W)) ((tD s4 64 ok4).trans (by rw [e5])) ?_
 have he:(⟨e.Register,e.Kind,[e.Digests.getD 0 [],e.Digests.getD 1 []],e.Data⟩:api_Event)=e:=by rw [<- hD]
 refine bd (a:=false) ?_ ?_
 ·refine bd (a:=(0,s5.W)) ((zAp s5 ok5).trans (by rw [q5.fin])) ?_
  refine cf rfl ?_
  refine bd (a:=true) ?_ rfl
  show vP ⟨e.Register,e.Kind,[e.Digests.getD 0 [],e.Digests.getD 1 []],e.Data⟩=_
  rw [he];exact henc
 refine cf rfl ?_
 show some ((⟨e.Register,e.Kind,[e.Digests.getD 0 [],e.Digests.getD 1 []],e.Data⟩:api_Event),(0:Int))=_
 rw [he]
end Go.Proofs.TT
namespace Go.Proofs.TT
open Go Go.Sw
set_option maxRecDepth 100000
def zDq (a r:Int):List UInt8:=[83,87,76,49]++(u8 a :: beN r 6 6)
def mB (es:List api_Event):List UInt8:=es.flatMap λe=>beN ((mO e).length:Int) 2 2++mO e
def xU (l:api_Log):List UInt8:=zDq l.Active l.Resets++mB l.Events
structure LgF (l:api_Log):Prop extends LgGood l where
 a1:1<=l.Active
 a3:l.Active<=3
 r0:0<=l.Resets
 r1:l.Resets<=1099511627776
theorem cL (a r:Int):(zDq a r).length=11:=by simp [zDq,uF]
theorem zC7 {active:Int}:∀ es:List api_Event,(∀ e∈es,EvC e active)->(mB es).length<=138*es.length
 | [],_=>by simp [mB]
 | e :: es,h=>by
  have h1:=zC7 es (λx hx=>h x (List.mem_cons_of_mem _ hx))
  have h2:=bO (h e (List.mem_cons_self ..)).toEvGood
  unfold mB at h1 ⊢
  rw [List.flatMap_cons,List.length_append,List.length_append,uF,List.length_cons]
  omega
theorem zD4 {es:List api_Event} {i:Nat} (h:i<es.length):mB (es.take (i+1))=mB (es.take i)++(beN ((mO es[i]).length:Int) 2 2++mO es[i]):=by
 unfold mB
 rw [List.take_add_one,List.flatMap_append]
 simp [h]
theorem zJ6 {es:List api_Event} {i:Nat} (h:i<es.length):mB (es.drop i)=beN ((mO es[i]).length:Int) 2 2++(mO es[i]++mB (es.drop (i+1))):=by
 rw [List.drop_eq_getElem_cons h]
 unfold mB
 rw [List.flatMap_cons,List.append_assoc]
theorem zLz (es:List api_Event) (i:Nat):mB es=mB (es.take i)++mB (es.drop i):=by
 unfold mB
 rw [<- List.flatMap_append,List.take_append_drop]
theorem hR (l:api_Log) (h:LgGood l):11<=(xU l).length/\(xU l).length<=5531:=by
 have h1:=zC7 l.Events h.ev
 have h2:=h.n
 unfold xU
 rw [List.length_append,cL]
 omega
theorem zKi (a r:Int) (h1:1<=a) (h3:a<=3) (h0:0<=r) (hr:r<=1099511627776):n5 a r=some (zDq a r):=by
 unfold n5
 refine bd (a:=false) (cf (by simp;omega) (cf (by simp;omega) (cf (by simp;omega) (congrArg some (by simp;omega))))) ?_
 refine cf rfl ?_
 refine bd (zR (by simp)) ?_
 refine bd (uJ _ 6 r (by omega) (by omega) (by simp)) ?_
 unfold wF zDq
 rw [List.append_assoc]
 rfl
theorem zIf (a r:Int) (h1:1<=a) (h3:a<=3) (h0:0<=r) (hr:r<=1099511627776):∃ b,rK a r=some b/\b.length=11:=by
 refine ⟨wF (wF [83,87,76,49] 1 a) 6 r,?_,by rw [zQ,zQ];rfl⟩
 unfold rK
 refine bd (a:=false) (cf (by simp;omega) (cf (by simp;omega) (cf (by simp;omega) (congrArg some (by simp;omega))))) ?_
 refine cf rfl ?_
 refine bd (sN _ 1 a (by omega) (by omega) (by simp)) ?_
 exact bd (sN _ 6 r (by omega) (by omega) (by rw [zQ];simp)) rfl
theorem zD0 (l:api_Log) (h:LgF l):uU l=some (xU l,0):=by
 have hn:=h.n
 have hlen:=hR l h.toLgGood
 have hd:Def (uU l) (λr=>r=(xU l,0)):=by
  unfold uU
  refine Def.bd (P:=λb=>b=zDq l.Active l.Resets) (Def.of (zKi _ _ h.a1 h.a3 h.r0 h.r1) rfl) (λb hb=>?_)
  subst hb
  refine Def.c (λh=>by rw [cL] at h;cases h) (λ_=>?_)
  refine Def.bd (xF l.Events (rL l) (λ_=>True) (λ_=>False) (by omega) (λi hi=>?_) ?_) (λy hy=>?_)
  ·unfold rL
   refine Def.c (λ_=>?_) (λh=>by have:=dF h;omega)
   refine Def.bd (Def.at' hi) (λe he=>?_)
   refine Def.bd (zMl e _) (λr hr=>?_)
   have:r=0:=hr.2 (by rw [he];exact h.ev _ (List.getElem_mem hi))
   subst this
   exact Def.c (λh=>by cases h) (λ_=>Def.s ⟨yB (by omega),trivial⟩)
  ·unfold rL
   exact cf (by simp) rfl
  ·cases y with
   | inl b=>exact hy.elim
   | inr u=>
    refine Def.c (λh=>by have:=dT h;omega) (λ_=>?_)
    refine Def.bd (P:=λb=>b=xU l) (Def.of (zK l.Events.length (λi=>(zDq l.Active l.Resets++mB (l.Events.take i),(i:Int))) (by simp [mB]) (λi hi=>?_) ?_ (yS (by omega))) rfl) (λb hb=>?_)
    ·have hE:=h.ev _ (List.getElem_mem hi)
     have hel:=bO hE.toEvGood
     have hfl:=zC7 (l.Events.take i) (λe he=>h.ev e (List.mem_of_mem_take he))
     rw [List.length_take] at hfl
     unfold nN
     refine ct (dlt hi) ?_
     refine bd (xH hi) ?_
     refine bd (zHa _ _ hE) ?_
     refine bd ((s7 _ _ (by rw [List.length_append,cL];omega)).trans (congrArg some (kZ _ (by omega)))) ?_
     rw [yB (by omega),zD4 hi,List.append_assoc]
    ·unfold nN
     refine cf (dge (Nat.le_refl _)) ?_
     rw [List.take_length]
     rfl
    ·subst hb
     exact Def.c (λh=>by have:=dT h;omega) (λ_=>Def.s rfl)
 obtain ⟨r,hr,rfl⟩:=hd
 exact hr
def atE (l:api_Log) (i:Nat):Nat:=11+(mB (l.Events.take i)).length
theorem zK0 (l:api_Log) (h:LgF l):tQ (xU l)=some (l,0):=by
 have hn:=h.n
 have hlen:=hR l h.toLgGood
 obtain ⟨hb,hh1,hh2⟩:=zIf l.Active l.Resets h.a1 h.a3 h.r0 h.r1
 have a1:=h.a1
 have a3:=h.a3
 have r0:=h.r0
 have r1:=h.r1
 have S:∀ i,Rem ⟨xU l,atE l i,0⟩ (mB (l.Events.drop i)):=by
  intro i
  have e:xU l=(zDq l.Active l.Resets++mB (l.Events.take i))++mB (l.Events.drop i):=by
   unfold xU
   rw [List.append_assoc,<- zLz]
  have hl:(zDq l.Active l.Resets++mB (l.Events.take i)).length=atE l i:=by rw [List.length_append,cL];rfl
  refine ⟨rfl,?_,?_⟩
  ·show atE l i<=(xU l).length
   rw [e,List.length_append,hl];omega
  ·show (xU l).drop (atE l i)=_
   rw [e,<- hl,List.drop_left]
 have ok:∀ i,(RS.mk (xU l) (atE l i) 0).Ok:=λi=>⟨(S i).at',by show (xU l).length<_;omega⟩
 have q0:Rem ⟨xU l,0,0⟩ ([83,87,76,49]++(u8 l.Active :: (beN l.Resets 6 6++mB l.Events))):=⟨rfl,Nat.zero_le _,by show (xU l).drop 0=_;unfold xU zDq;simp⟩
 have e1:=Rem.raw (n:=4) q0 rfl
 have q1:=Rem.to (n:=4) q0 rfl
 obtain ⟨e2,q2⟩:=Rem.byte q1 (by omega) (by omega)
 obtain ⟨e3,q3⟩:=Rem.uintI q2 (by omega) r0 (by omega) (by omega)
 have ok0:(RS.mk (xU l) 0 0).Ok:=⟨Nat.zero_le _,by show (xU l).length<_;omega⟩
 have ok1:((RS.mk (xU l) 0 0).to 4).Ok:=⟨q1.at',by show (xU l).length<_;omega⟩
 have ok2:(((RS.mk (xU l) 0 0).to 4).to 1).Ok:=⟨q2.at',by show (xU l).length<_;omega⟩
 have e4:((((RS.mk (xU l) 0 0).to 4).to 1).to 6)=⟨xU l,atE l 0,0⟩:=by
  show (⟨xU l,0+4+1+6,0⟩:RS)=_
  unfold atE
  simp [mB]
 rw [e4] at e3
 unfold tQ
 refine cf (by simp;omega) ?_
 refine bd (a:=(l,(atE l l.Events.length:Int),0)) ?_ (cf rfl rfl)
 unfold oP
 refine bd (a:=(l,(atE l l.Events.length:Int),0)) ?_ rfl
 refine bd (wnew _ (by omega)) ?_
 refine bd (a:=([83,87,76,49],((RS.mk (xU l) 0 0).to 4).W)) ((hK _ 4 ok0).trans (by rw [e1])) ?_
 refine cf rfl ?_
 refine bd (a:=(l.Active,(((RS.mk (xU l) 0 0).to 4).to 1).W)) ((xL _ 1 ok1 (by omega) (by omega)).trans (by rw [e2])) ?_
 refine bd (a:=(l.Resets,(RS.mk (xU l) (atE l 0) 0).W)) ((xL _ 6 ok2 (by omega) (by omega)).trans (by rw [e3])) ?_
 refine bd (a:=(false,xU l,(atE l 0:Int),0)) ?_ ?_
 ·refine bd (a:=(0,(RS.mk (xU l) (atE l 0) 0).W)) rfl ?_
  refine cf rfl ?_
  refine bd hh1 ?_
  rw [hh2]
  rfl
 refine cf rfl ?_
 refine bd (a:=((atE l l.Events.length:Int),0,l.Events)) ?_ rfl
 refine zK l.Events.length (λi=>((atE l i:Int),l.Events.take i,xU l,(atE l i:Int),0)) ?_ (λi hi=>?_) ?_ (yS (by omega))
 ·simp [atE,mB]
 ·have hE:=h.ev _ (List.getElem_mem hi)
  have hel:=bO hE.toEvGood
  have hS:=S i
  rw [zJ6 hi] at hS
  have hleft:=hS.left
  rw [List.length_append,uF] at hleft
  obtain ⟨f1,f2⟩:=Rem.blobN (m:=65535) hS (by omega) (by omega)
  have f3:(RS.mk (xU l) (atE l i) 0).to (2+(mO l.Events[i]).length)=⟨xU l,atE l (i+1),0⟩:=by
   show (⟨xU l,atE l i+(2+(mO l.Events[i]).length),0⟩:RS)=_
   unfold atE
   rw [zD4 hi,List.length_append,List.length_append,uF,Nat.add_assoc]
  rw [f3] at f1
  have lf:∀ k,IntKind.i64.wrap (((xU l).length:Int) - (atE l k:Int))=((RS.mk (xU l) (atE l k) 0).left:Int):=λk=>zEz _ (ok k)
  have hck:=zNd hE
  obtain ⟨c,hc1,rfl⟩:=hck
  unfold sL
  refine bd (a:=(((RS.mk (xU l) (atE l i) 0).left:Int),(RS.mk (xU l) (atE l i) 0).W)) (congrArg some (by rw [<- lf i];rfl)) ?_
  refine ct (by simp;omega) ?_
  refine bd (a:=(mO l.Events[i],(RS.mk (xU l) (atE l (i+1)) 0).W)) ((tD _ 65535 (ok i)).trans (by rw [f1])) ?_
  refine bd (zPh _ _ hE) ?_
  refine cf (by simp;omega) ?_
  refine bd (a:=(0,(RS.mk (xU l) (atE l (i+1)) 0).W)) rfl ?_
  refine cf rfl ?_
  refine bd (a:=false) (cf rfl (bd hc1 rfl)) ?_
  refine cf rfl ?_
  refine bd (zR (by simp;omega)) ?_
  refine bd (a:=(((RS.mk (xU l) (atE l (i+1)) 0).left:Int),(RS.mk (xU l) (atE l (i+1)) 0).W)) (congrArg some (by rw [<- lf (i+1)];rfl)) ?_
  have hat:IntKind.i64.wrap (((xU l).length:Int) - ((RS.mk (xU l) (atE l (i+1)) 0).left:Int))=(atE l (i+1):Int):=by
   have:=(ok (i+1)).1
   simp only [RS.left] at *
   rw [zV (by omega) (by omega)]
   omega
  have ht:l.Events.take (i+1)=l.Events.take i++[l.Events[i]]:=by rw [List.take_add_one];simp [hi]
  rw [ht]
  show some (Sum.inl (IntKind.i64.wrap (((xU l).length:Int) - ((RS.mk (xU l) (atE l (i+1)) 0).left:Int)),_))=_
  rw [hat]
  rfl
 ·have hS:=S l.Events.length
  rw [List.drop_length] at hS
  have hleft:=hS.left
  unfold sL
  refine bd (a:=(((RS.mk (xU l) (atE l l.Events.length) 0).left:Int),(RS.mk (xU l) (atE l l.Events.length) 0).W)) (congrArg some (by rw [<- zEz _ (ok l.Events.length)];rfl)) ?_
  refine cf (by rw [hleft];rfl) ?_
  rw [List.take_length]
end Go.Proofs.TT
namespace Go.Proofs.TT
open Go Go.Sw
set_option maxRecDepth 100000
theorem zXx:tB 1=some ⟨[bnk 20,[]],0⟩:=by decide +kernel
theorem zWn:tB 2=some ⟨[[],bnk 32],0⟩:=by decide +kernel
theorem zW7:tB 3=some ⟨[bnk 20,bnk 32],0⟩:=by decide +kernel
theorem zPn (active:Int) (h1:1<=active) (h3:active<=3):tB active=some (zKn active):=by
 rcases zN0 h1 h3 with rfl | rfl | rfl
 ·exact zXx
 ·exact zWn
 ·exact zW7
def sb (c0 c1:Bool):Int:=(if c0 then 1 else 0)+(if c1 then 2 else 0)
theorem ract (b0 b1:List (List UInt8)) (u:Int) (c0 c1:Bool) (h0:((b0.length:Int)==16)=c0) (h1:((b1.length:Int)==16)=c1):sP ⟨[b0,b1],u⟩=some (sb c0 c1):=by
 unfold sP
 refine bd (a:=sb c0 c1) ?_ rfl
 refine zK (x:=((0:Int),(0:Int))) 2 (λi=>match i with | 0=>((0:Int),(0:Int)) | 1=>(sb c0 false,1) | _=>(sb c0 c1,2)) rfl (λi hi=>?_) ?_ (yS (by omega))
 ·have:i=0∨i=1:=by omega
  rcases this with rfl | rfl
  ·show wT _ (0,0)=some (.inl (sb c0 false,1))
   unfold wT
   refine ct rfl ?_
   refine bd (a:=sb c0 false) (bd (a:=c0) (ct rfl (bd (a:=b0) rfl (by rw [h0]))) ?_) rfl
   cases c0<;>rfl
  ·show wT _ (sb c0 false,1)=some (.inl (sb c0 c1,2))
   unfold wT
   refine ct rfl ?_
   refine bd (a:=sb c0 c1) (bd (a:=c1) (ct rfl (bd (a:=b1) rfl (by rw [h1]))) ?_) rfl
   cases c0<;>cases c1<;>rfl
 ·rfl
theorem zPv (b0 b1:List (List UInt8)) (u:Int) (c0 c1:Bool) (h0:((b0.length:Int)==16)=c0) (h1:((b1.length:Int)==16)=c1):wZ ⟨[b0,b1],u⟩ 0=some c0/\wZ ⟨[b0,b1],u⟩ 1=some c1:=by
 have h:=ract b0 b1 u c0 c1 h0 h1
 unfold wZ
 constructor
 ·refine bd h ?_
  cases c0<;>cases c1<;>rfl
 ·refine bd h ?_
  cases c0<;>cases c1<;>rfl
theorem zNy (r:api_Registers) (b0 b1:List (List UInt8)) (hb:r.Banks=[b0,b1]) (l0:b0.length<=16) (l1:b1.length<=16) (h0:∀ x∈b0,x.length<=32) (h1:∀ x∈b1,x.length<=32):pH r=some (b0,b1,r.Updates):=by
 unfold pH
 rw [hb]
 refine ct rfl ?_
 refine bd (a:=b0) rfl ?_
 refine bd (a:=b0) ?_ ?_
 ·refine zK b0.length (λi=>(b0.take i,(i:Int))) (by simp) (λi hi=>?_) ?_ (yS (by omega))
  ·unfold qM
   refine ct (dlt hi) ?_
   refine bd (xH hi) ?_
   refine bd (zR (by have:=h0 _ (List.getElem_mem hi);simp;omega)) ?_
   refine bd (zR (by simp;omega)) ?_
   rw [yB (show i<2 ^ 40 by omega),List.take_add_one]
   simp [hi]
  ·unfold qM
   refine cf (dge (Nat.le_refl _)) ?_
   simp
 refine ct rfl ?_
 refine bd (a:=b1) rfl ?_
 refine bd (a:=(b1,b0)) ?_ ?_
 ·refine zK b1.length (λi=>(b1.take i,(i:Int),b0)) (by simp) (λi hi=>?_) ?_ (yS (by omega))
  ·unfold pG
   refine ct (dlt hi) ?_
   refine bd (xH hi) ?_
   refine bd (zR (by have:=h1 _ (List.getElem_mem hi);simp;omega)) ?_
   refine bd (zR (by simp;omega)) ?_
   rw [yB (show i<2 ^ 40 by omega),List.take_add_one]
   simp [hi]
  ·unfold pG
   refine cf (dge (Nat.le_refl _)) ?_
   simp
 exact cf rfl rfl
end Go.Proofs.TT
namespace Go.Proofs.TT
open Go Go.Sw
set_option maxRecDepth 100000
theorem zFy (b:List UInt8) (hb:b.length<2 ^ 40):yV ((0:Nat):Int) b=some (nG b):=zGm b hb
theorem zGo (b:List UInt8) (hb:b.length<2 ^ 40):yV ((1:Nat):Int) b=some (sha b):=zEl b hb
theorem zLh (alg:Int) (z:List UInt8) (ha:alg=0∨alg=1) (hz:z.length<2 ^ 40):Def (yV alg z) (λs=>s.length<=32):=by
 rcases ha with rfl | rfl
 ·exact (zKz z hz).mono λ_ h=>by omega
 ·exact Def.of (zEl z hz) (by rw [sJ];omega)
theorem zG1 (r:api_Registers) (active:Int) (e:api_Event) (hr:BkOk active r) (he:EvGood e active) (hk:e.Kind≠5):Def (sQ r 0 e.Register e.Digests) (λx=>x=(ext active e r,0)):=by
 obtain ⟨⟨b0,b1,hb,l0,l1,m0,m1⟩⟩:=hr
 obtain ⟨r0,r1,_,dl,f0,f1⟩:=he
 obtain ⟨bs,u⟩:=r
 simp only at hb
 subst hb
 have l0':b0.length<=16:=by rw [l0];split<;>omega
 have l1':b1.length<=16:=by rw [l1];split<;>omega
 unfold Fit at f0 f1
 have f0':((e.Digests.getD 0 []).length:Int)<=32:=by rw [f0];split<;>decide
 have f1':((e.Digests.getD 1 []).length:Int)<=32:=by rw [f1];split<;>decide
 have g0:∀ d∈e.Digests,d.length<=32:=by
  intro d hd
  obtain ⟨i,hi,rfl⟩:=List.mem_iff_getElem.mp hd
  have hi2:i=0∨i=1:=by omega
  rcases hi2 with rfl | rfl
  ·have:(e.Digests.getD 0 [])=e.Digests[0]:=by simp [hi]
   rw [<- this]
   omega
  ·have:(e.Digests.getD 1 [])=e.Digests[1]:=by simp [hi]
   rw [<- this]
   omega
 have i0:idx e.Digests 0=some (e.Digests.getD 0 []):=zA9 (i:=0) (by omega)
 have i1:idx e.Digests 1=some (e.Digests.getD 1 []):=zA9 (i:=1) (by omega)
 obtain ⟨a0,a1⟩:=zPv b0 b1 u (yD active 0) (yD active 1) (by rw [l0];cases yD active 0<;>rfl) (by rw [l1];cases yD active 1<;>rfl)
 unfold sQ
 refine Def.bd (P:=λb=>b=false) ?_ (λb hb=>?_)
 ·refine Def.c (λh=>by cases h) (λ_=>Def.c (λh=>by cases h) (λ_=>?_))
  refine Def.bd (P:=λb=>b=true) ?_ (λb hb=>?_)
  ·unfold nL
   refine Def.bd (P:=λb=>b=true) ?_ (λb hb=>Def.s hb)
   refine Def.c (λ_=>Def.s ?_) (λh=>?_)
   ·rw [decide_eq_true_iff];omega
   ·have:=dF h;omega
  subst hb
  refine Def.c (λh=>by cases h) (λ_=>Def.s ?_)
  simp;omega
 subst hb
 refine Def.c (λh=>by cases h) (λ_=>?_)
 refine Def.bd (P:=λn=>n=0) ?_ (λn hn=>?_)
 ·unfold nH
  refine Def.bd (P:=λb=>b=false) (Def.s rfl) (λb hb=>?_)
  subst hb
  refine Def.c (λh=>by cases h) (λ_=>?_)
  have e14:(e.Register==14)=false:=by simp;omega
  have e15:(e.Register==15)=false:=by simp;omega
  rw [e14,e15]
  exact Def.s rfl
 subst hn
 refine Def.c (λh=>by cases h) (λ_=>?_)
 refine Def.bd (P:=λr=>r=.inr ()) ?_ (λr hr=>?_)
 ·refine Def.loop (λs=>s=0∨s=1∨s=2) (λs=>2 - s.toNat) (λs hs=>?_) (.inl rfl) (by simp)
  unfold nO
  refine Def.c (λh=>?_) (λh=>Def.s rfl)
  rcases hs with rfl | rfl | rfl
  ·refine Def.bd (P:=λd=>d=e.Digests.getD 0 []) (Def.of i0 rfl) (λd hd=>?_)
   refine Def.bd (P:=λb=>b=false) ?_ (λb hb=>?_)
   ·refine Def.bd (P:=λb=>b=yD active 0) (Def.of a0 rfl) (λb hb=>?_)
    subst hb
    refine Def.c (λh=>Def.s ?_) (λ_=>Def.s rfl)
    have hh:yD active 0=false:=by simpa using h
    rw [if_neg (by show ¬ (e.Kind≠5/\yD active 0=true);rw [hh];simp)] at f0
    rw [decide_eq_false_iff_not,hd];omega
   subst hb
   exact Def.s ⟨.inr (.inl rfl),by decide⟩
  ·refine Def.bd (P:=λd=>d=e.Digests.getD 1 []) (Def.of i1 rfl) (λd hd=>?_)
   refine Def.bd (P:=λb=>b=false) ?_ (λb hb=>?_)
   ·refine Def.bd (P:=λb=>b=yD active 1) (Def.of a1 rfl) (λb hb=>?_)
    subst hb
    refine Def.c (λh=>Def.s ?_) (λ_=>Def.s rfl)
    have hh:yD active 1=false:=by simpa using h
    rw [if_neg (by show ¬ (e.Kind≠5/\yD active 1=true);rw [hh];simp)] at f1
    rw [decide_eq_false_iff_not,hd];omega
   subst hb
   exact Def.s ⟨.inr (.inr rfl),by decide⟩
  ·have:=dT h;omega
 subst hr
 refine Def.bd (P:=λr=>r=.inr ()) ?_ (λr hr=>?_)
 ·refine Def.loop (λs=>s=0∨s=1∨s=2) (λs=>2 - s.toNat) (λs hs=>?_) (.inl rfl) (by simp)
  unfold nP
  refine Def.c (λh=>?_) (λh=>Def.s rfl)
  rcases hs with rfl | rfl | rfl
  ·refine Def.bd (P:=λd=>d=e.Digests.getD 0 []) (Def.of i0 rfl) (λd hd=>?_)
   refine Def.bd (P:=λb=>b=false) ?_ (λb hb=>?_)
   ·refine Def.bd (P:=λb=>b=yD active 0) (Def.of a0 rfl) (λb hb=>?_)
    subst hb
    refine Def.c (λh=>?_) (λ_=>Def.s rfl)
    refine Def.bd (P:=λd=>d=siz 0) (Def.of (kO 0) rfl) (λz hz=>Def.s ?_)
    rw [if_pos ⟨hk,h⟩] at f0
    rw [hd,hz];simp;exact f0
   subst hb
   exact Def.s ⟨.inr (.inl rfl),by decide⟩
  ·refine Def.bd (P:=λd=>d=e.Digests.getD 1 []) (Def.of i1 rfl) (λd hd=>?_)
   refine Def.bd (P:=λb=>b=false) ?_ (λb hb=>?_)
   ·refine Def.bd (P:=λb=>b=yD active 1) (Def.of a1 rfl) (λb hb=>?_)
    subst hb
    refine Def.c (λh=>?_) (λ_=>Def.s rfl)
    refine Def.bd (P:=λd=>d=siz 1) (Def.of (kO 1) rfl) (λz hz=>Def.s ?_)
    rw [if_pos ⟨hk,h⟩] at f1
    rw [hd,hz];simp;exact f1
   subst hb
   exact Def.s ⟨.inr (.inr rfl),by decide⟩
  ·have:=dT h;omega
 subst hr
 refine Def.bd (P:=λx=>x=(b0,b1,u)) (Def.of (zNy _ b0 b1 rfl l0' l1' m0 m1) rfl) (λx hx=>?_)
 subst hx
 obtain ⟨rn,hrn⟩:=Int.eq_ofNat_of_zero_le r0
 have one:∀ (a:Nat) (bk:List (List UInt8)) (f:List UInt8->List UInt8) (hbk:idx [b0,b1] (a:Int)=some bk) (h2:a<2) (h16:bk.length=16) (mm:∀ x∈bk,x.length<=32) (hf:∀ z,z.length<2 ^ 40->yV (a:Int) z=some (f z)),
   Def ((idx [b0,b1] (a:Int)).bind λv=>(idx v e.Register).bind λw=>(zZ 1 [] w).bind λw'=>(idx e.Digests (a:Int)).bind λd=>(zZ 1 w' d).bind λz=>(yV (a:Int) z).bind λs=>(ixN bk.length e.Register).bind λj=>(uN bk j s).bind λl=>some l)
    (λb=>b=upR true bk e.Register (λx=>f (x++e.Digests.getD a []))):=by
  intro a bk f hbk h2 h16 mm hf
  rw [hrn]
  refine Def.bd (P:=λv=>v=bk) (Def.of hbk rfl) (λv hv=>?_)
  subst hv
  have:=zBo mm rn
  refine Def.bd (P:=λx=>x=v.getD rn []) (Def.of (zA9 (by omega)) rfl) (λx hx=>?_)
  subst hx
  refine Def.bd (Def.app (by simp only [List.length_nil];omega)) (λy hy=>?_)
  rw [List.nil_append] at hy
  subst hy
  have:=zBo g0 a
  refine Def.bd (P:=λd=>d=e.Digests.getD a []) (Def.of (zA9 (by omega)) rfl) (λd hd=>?_)
  subst hd
  refine Def.bd (Def.app (by omega)) (λz hz=>?_)
  have hzl:z.length<2 ^ 40:=by rw [hz,List.length_append];omega
  refine Def.bd (P:=λs=>s=f z) (Def.of (hf z hzl) rfl) (λs hs=>?_)
  refine Def.bd (Def.ixN (by omega) (by omega)) (λj hj=>?_)
  refine Def.bd (Def.upd hj.2) (λq hq=>Def.s ?_)
  rw [hq,hj.1,hs,hz]
  rfl
 refine Def.bd (P:=λb=>b=upR (yD active 0) b0 e.Register (λx=>nG (x++e.Digests.getD 0 []))) ?_ (λc0 hc0=>?_)
 ·refine Def.bd (P:=λb=>b=yD active 0) (Def.of a0 rfl) (λb hb=>?_)
  subst hb
  refine Def.c (λh=>?_) (λh=>Def.s (by rw [h];rfl))
  rw [if_pos h] at l0
  rw [h]
  exact one 0 b0 nG rfl (by omega) l0 m0 zFy
 refine Def.bd (P:=λb=>b=upR (yD active 1) b1 e.Register (λx=>sha (x++e.Digests.getD 1 []))) ?_ (λc1 hc1=>?_)
 ·refine Def.bd (P:=λb=>b=yD active 1) (Def.of a1 rfl) (λb hb=>?_)
  subst hb
  refine Def.c (λh=>?_) (λh=>Def.s (by rw [h];rfl))
  rw [if_pos h] at l1
  rw [h]
  exact one 1 b1 sha rfl (by omega) l1 m1 zGo
 exact Def.s (by rw [hc0,hc1];rfl)
theorem zG2 (l:api_Log) (h:LgGood l) (h1:1<=l.Active) (h3:l.Active<=3):Def (sG l) (λr=>r=(rpl l.Active l.Events,0)):=by
 have hn:=h.n
 unfold sG
 refine Def.bd (P:=λb=>b=false) ?_ (λb hb=>?_)
 ·refine Def.c (λh=>by have:=dT h;omega) (λ_=>Def.s ?_)
  rw [decide_eq_false_iff_not];omega
 subst hb
 refine Def.c (λh=>by cases h) (λ_=>?_)
 refine Def.bd (P:=λr=>r=zKn l.Active) (Def.of (zPn _ h1 h3) rfl) (λrg hrg=>?_)
 subst hrg
 refine Def.bd (P:=λr=>match r with | .inl _=>False | .inr z=>(⟨z.1,z.2⟩:api_Registers)=rpl l.Active l.Events) ?_ (λr hr=>?_)
 ·refine Def.loop (λs=>∃ a:Nat,s.1=(a:Int)/\a<=l.Events.length/\(⟨s.2.1,s.2.2⟩:api_Registers)=rpl l.Active (l.Events.take a)) (λs=>l.Events.length - s.1.toNat) (λs hs=>?_) ⟨0,rfl,by omega,rfl⟩ (by simp;omega)
  obtain ⟨a',bs,up⟩:=s
  obtain ⟨a,k1,k2,k3⟩:=hs
  simp only at k1 k3
  subst k1
  unfold nR
  refine Def.c (λhlt=>?_) (λhge=>Def.s ?_)
  ·have ha2:a<l.Events.length:=by have:=dT hlt;omega
   have hE:=h.ev _ (List.getElem_mem ha2)
   refine Def.bd (Def.at' ha2) (λe he=>?_)
   subst he
   refine Def.bd (P:=λr=>r=0) ?_ (λc hc=>?_)
   ·exact zNd hE
   subst hc
   refine Def.bd (P:=λz=>z.1=0/\(⟨z.2.1,z.2.2⟩:api_Registers)=rpl l.Active (l.Events.take (a+1))) ?_ (λz hz=>?_)
   ·rw [zF2 _ ha2]
    refine Def.bd (P:=λb=>b=(l.Events[a].Kind != 5)) (Def.c (λ_=>Def.s rfl) (λh=>by cases h)) (λb hb=>?_)
    subst hb
    refine Def.c (λhk=>?_) (λhk=>Def.s ⟨rfl,by rw [if_pos (by simpa using hk)];exact k3⟩)
    have hk':l.Events[a].Kind≠5:=by simpa using hk
    rw [if_neg hk',k3]
    exact Def.bd (zG1 _ l.Active _ (zFc _ _ h1 h3) hE.toEvGood hk') (λx hx=>Def.s (by subst hx;exact ⟨rfl,rfl⟩))
   obtain ⟨er,bs',up'⟩:=z
   obtain ⟨z1,z2⟩:=hz
   simp only at z1 z2
   subst z1
   refine Def.c (λh=>by cases h) (λ_=>Def.s ?_)
   rw [yB (by omega)]
   exact ⟨⟨a+1,rfl,by omega,z2⟩,by simp only [Int.toNat_natCast];omega⟩
  ·have:=dF hge
   rw [List.take_of_length_le (by omega)] at k3
   exact k3
 cases r with
 | inl v=>exact hr.elim
 | inr z=>exact Def.s (by rw [<- hr])
end Go.Proofs.TT
