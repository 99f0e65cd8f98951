/- UpdateDecode holds for all inputs -/
import Derived.Test.YtegimnpiojonmaaGreatDoorBZ9
set_option linter.all false
open Go.Sw.Def renaming bd -> Q0, s -> Q1, c -> Q2, loop -> Qd, of -> Qn, app -> Qy, ck -> W5
open List renaming length_append -> Q3, length_cons -> Q4, getElem_mem -> Q5, take_of_length_le -> Q9, append_assoc -> Qa, mem_cons -> Qb, length_nil -> Qc, flatMap_cons -> Qe, drop_eq_getElem_cons -> Qf, length_pos_iff -> Qk, length -> Ql, append_nil -> Qp, mem_append -> Qq, mem_iff_getElem -> Qv, flatMap_append -> Qw, take_add_one -> Qz, all_eq_false -> W0, not_mem_nil -> W1, all_eq_true -> W2, take_length -> W4
open Int renaming toNat_natCast -> Q6, eq_ofNat_of_zero_le -> Qg, tmod_eq_emod_of_nonneg -> Qm, le_refl -> Qs
open Option renaming bind_some -> Q7
open Go.IntKind renaming i64 -> Q8, u64 -> Qh
open Go.Lib renaming indexByte -> Qi
open Bool renaming eq_iff_iff -> Qj, or_eq_false_iff -> Qu, and_eq_true -> W3
open BitVec renaming ofInt -> Qo, ofInt_natCast -> Qt, toNat_ofNat -> Qx
open Option.some renaming inj -> Qr
namespace Go.Proofs.TT
open Go Go.Sw
variable {a:List zC}{c:Bool}{i k:Nat}{l:List zC}{m n:Nat}{p:Prop}{r:RS}{rest x:By}{α:Type}{y:Option α}
theorem dT [Decidable p] (h:decide p=true):p:=by simpa using h
theorem dF [Decidable p] (h:decide p=false):¬ p:=by simpa using h
theorem Def.at' {l:List α} (h:i<l.length):Def (idx l (i:Int)) (λr=>r=l[i]):=⟨_,xO h,rfl⟩
theorem zPj {R:Type} (l:List α) (step:Int->Option (Int ⊕ (R ⊕ Unit))) (G:Nat->Prop) (B:R->Prop) (hl:l.length<2 ^ 40)
  (h:∀ i,i<l.length->Def (step (i:Int)) (λr=>match r with | .inl j=>j=((i+1:Nat):Int)/\G i | .inr (.inl b)=>B b | .inr (.inr _)=>False))
  (he:step (l.length:Int)=some (.inr (.inr ()))):Def (zT step FU 0) (λr=>match r with | .inl b=>B b | .inr _=>∀ i,i<l.length->G i):=by
 refine Qd (λs=>∃ i:Nat,s=(i:Int)/\i<=l.length/\∀ k,k<i->G k) (λs=>l.length - s.toNat) (λs hs=>?_) ⟨0,rfl,by omega,λk hk=>by omega⟩ (by simp;omega);obtain ⟨i,rfl,hi,hg⟩:=hs;by_cases h2:i<l.length
 ·refine (h i h2).mono λr hr=>?_
  match r,hr with
  | .inl j,hr=>
   refine ⟨⟨i+1,hr.1,h2,λk hk=>?_⟩,by rw [hr.1];simp only [Q6];omega⟩;by_cases hk2:k<i
   ·exact hg k hk2
   ·have:k=i:=by omega
    subst this;exact hr.2
  | .inr (.inl b),hr=>exact hr
  | .inr (.inr u),hr=>exact hr.elim
 ·have:i=l.length:=by omega
  subst this;exact Qn he hg
theorem db {β:Type} {o:Option α} {a:α} {f:α->Option β} {Q:β->Prop} (h:o=some a) (k:Def (f a) Q):Def (o.bind f) Q:=by subst h;exact k
theorem dct {x:Option α} {Q:α->Prop} (h:c=true) (k:Def x Q):Def (bif c then x else y) Q:=by subst h;exact k
theorem dcf {x:Option α} {Q:α->Prop} (h:c=false) (k:Def y Q):Def (bif c then x else y) Q:=by subst h;exact k
theorem zU6 {l:List α} (h:k<l.length):l.drop k=l[k] :: l.drop (k+1):=Qf h
theorem wb (x:UInt8):Q8.wrap (x.toNat:Int)=(x.toNat:Int):=by
 have:=x.toNat_lt;rw [xU (by omega) (by omega)]
theorem jN (n:Nat):(u8 (n:Int)).toNat=n % 256:=by
 have:((n:Int) % 256).toNat=n % 256:=by omega
 rw [u8,this];simp
set_option maxRecDepth 100000
structure Rem (r:RS) (l:By):Prop where
 e:r.e=0
 at':r.at'<=r.b.length
 d:r.b.drop r.at'=l
theorem Rem.left {l:By} (h:Rem r l):r.left=l.length:=by
 have:=congrArg Ql h.d;simp at this;exact this
theorem Rem.to (h:Rem r (x++rest)) (hx:x.length=n):Rem (r.to n) rest:=by
 have hl:=h.left;have ha:=h.at';simp only [RS.left,Q3] at hl;refine ⟨h.e,by simp only [RS.to];omega,?_⟩;show r.b.drop (r.at'+n)=rest;rw [<- List.drop_drop,h.d,<- hx,List.drop_left]
theorem Rem.uint (h:Rem r (x++rest)) (hx:x.length=n) (hv:¬ 9223372036854775808<=beV x n):wI r n=(Q8.wrap (beV x n),r.to n):=by
 have hl:=h.left;rw [Q3] at hl;unfold wI;have:r.get n=x:=by
  unfold RS.get;rw [h.d,<- hx,List.take_left]
 rw [if_neg (by simp [h.e]),if_neg (by omega),this,if_neg hv]
theorem Rem.blob {a b:UInt8} (h:Rem r ([a,b]++(x++rest))) (hx:x.length=a.toNat*256+b.toNat) (hm:x.length<=m):xT r m=(x,r.to (2+x.length))/\Rem (r.to (2+x.length)) rest:=by
 have hl:=h.left;have ha:=h.at';simp only [Q3,Q4,Qc] at hl;have hd:=h.d;have e0:r.b.getD r.at' 0=a:=by
  have:=congrArg (λl=>l.getD 0 0) hd;simpa using this
 have e1:r.b.getD (r.at'+1) 0=b:=by
  have:=congrArg (λl=>l.getD 1 0) hd;simpa using this
 have ev:v2 r=x.length:=by unfold v2;rw [e0,e1,hx]
 have h2:Rem (r.to 2) (x++rest):=Rem.to (x:=[a,b]) h rfl;have hd2:r.b.drop (r.at'+2)=x++rest:=h2.d;constructor
 ·unfold xT;rw [if_neg (by simp [h.e]),if_neg (by omega),ev,if_neg (by omega),if_neg (by omega),hd2,List.take_left]
 ·have:=Rem.to h2 rfl;have e:(r.to 2).to x.length=r.to (2+x.length):=by simp [RS.to,Nat.add_assoc]
  rw [<- e];exact this
theorem Rem.uintV {v:Int} (h:Rem r (x++rest)) (hx:x.length=n) (hv:beV x n=v) (h0:0<=v) (h1:v<9223372036854775808):wI r n=(v,r.to n):=by
 rw [h.uint hx (by omega),hv,xU (by omega) (by omega)]
theorem zNn (a b:Nat) (ha:a<2 ^ 56) (hb:b<256):ior .u64 (lT .u64 (a:Int) 8) (Qh.wrap (b:Int))=((a*256+b:Nat):Int):=by
 rw [zG1 (by omega) (by omega)];have e1:lT .u64 (a:Int) 8=((a*256:Nat):Int):=by
  show Qh.wrap ((a:Int)*256)=_;rw [zG1 (by omega) (by omega)];omega
 rw [e1];unfold ior;have e2:(Qo Qh.bits ((a*256:Nat):Int) ||| Qo Qh.bits (b:Int)).toNat=a*256+b:=by
  show (Qo 64 ((a*256:Nat):Int) ||| Qo 64 (b:Int)).toNat=_;rw [Qt,Qt,BitVec.toNat_or,Qx,Qx,Nat.mod_eq_of_lt (by omega),Nat.mod_eq_of_lt (by omega)];rw [Nat.mul_comm,show (256:Nat)=2 ^ 8 from rfl,<- Nat.two_pow_add_eq_or_of_lt (by omega)]
 rw [e2,zG1 (by omega) (by omega)]
theorem zQj (n size k:Nat) (hn:n<2 ^ 64) (hk:k<size) (h8:size<=8):((beN (n:Int) size size).getD k 0).toNat=n / 256 ^ (size - (k+1)) % 256:=by
 have e:(beN (n:Int) size size).getD k 0=u8 (wK .u64 (Qh.wrap (n:Int)) (8*((size:Int) - 1 - (k:Int)))):=by simp [beN,hk]
 rw [e,zG1 (by omega) (by omega),show 8*((size:Int) - 1 - (k:Int))=((8*(size - (k+1)):Nat):Int) by omega,zZp .u64 n _ (by show _<=64;omega),jN,Nat.pow_mul]
theorem zPz (n size:Nat) (hn:n<2 ^ 64) (h8:size<=8) (hs:n<256 ^ size):∀ k,k<=size->beV (beN (n:Int) size size) k=((n / 256 ^ (size - k):Nat):Int)
 | 0,_=>by
  rw [Nat.sub_zero,Nat.div_eq_of_lt hs];rfl
 | k+1,hk=>by
  unfold beV;rw [zPz n size hn h8 hs k (by omega),zQj n size k hn (by omega) h8];have e:256 ^ (size - k)=256 ^ (size - (k+1))*256:=by
   rw [<- Nat.pow_succ];congr 1;omega
  rw [e,<- Nat.div_div_eq_div_mul];have hm:n / 256 ^ (size - (k+1))<=n:=Nat.div_le_self _ _;generalize n / 256 ^ (size - (k+1))=m at hm;rw [zNn _ _ (by omega) (by omega)];congr 1;omega
theorem Rem.uintN (h:Rem r (beN (n:Int) k k++rest)) (h8:k<=8) (hn:n<2 ^ 63) (hs:n<256 ^ k):wI r k=((n:Int),r.to k)/\Rem (r.to k) rest:=by
 have hb:=zPz n k (by omega) h8 hs k (Nat.le_refl _);rw [Nat.sub_self,Nat.pow_zero,Nat.div_one] at hb;exact ⟨h.uintV (tG _ _ _) hb (by omega) (by omega),h.to (tG _ _ _)⟩
theorem be2 (n:Nat) (hn:n<65536):∃ a b:UInt8,beN (n:Int) 2 2=[a,b]/\n=a.toNat*256+b.toNat:=by
 have h0:=zQj n 2 0 (by omega) (by omega) (by omega);have h1:=zQj n 2 1 (by omega) (by omega) (by omega);have hl:=tG (n:Int) 2 2
 match hx:beN (n:Int) 2 2,hl with
 | [a,b],_=>
  rw [hx] at h0 h1;refine ⟨a,b,rfl,?_⟩;have h0:a.toNat=n / 256 ^ 1 % 256:=h0;have h1:b.toNat=n / 256 ^ 0 % 256:=h1;rw [h0,h1];simp only [Nat.pow_one,Nat.pow_zero,Nat.div_one];omega
theorem zAa (b:By) (h:x.length<=65535):iU b x=b++(beN (x.length:Int) 2 2++x):=by
 unfold iU vQ;rw [Q9 h,Qa]
theorem Rem.blobN (h:Rem r (beN (x.length:Int) 2 2++(x++rest))) (hx:x.length<=65535) (hm:x.length<=m):xT r m=(x,r.to (2+x.length))/\Rem (r.to (2+x.length)) rest:=by
 obtain ⟨a,b,h1,h2⟩:=be2 x.length (by omega);rw [h1] at h;exact Rem.blob h h2 hm
theorem Rem.fin (h:Rem r []):iY r=0:=by
 have:=h.left;unfold iY;rw [if_neg (by rw [this];simp)];exact h.e
theorem Rem.uintI {n:Int} (h:Rem r (beN n k k++rest)) (h8:k<=8) (h0:0<=n) (hn:n<2 ^ 62) (hs:n.toNat<256 ^ k):wI r k=(n,r.to k)/\Rem (r.to k) rest:=by
 obtain ⟨m,rfl⟩:=Qg h0;exact Rem.uintN h h8 (by omega) hs
set_option maxRecDepth 100000
def bl (x:By):By:=beN (x.length:Int) 2 2++x
theorem cS (x:By):(bl x).length=2+x.length:=by simp [bl,tG]
theorem yFi (n:Int) (h0:0<=n) (h:n<256):((u8 n).toNat:Int)=n:=by
 obtain ⟨m,rfl⟩:=Qg h0;rw [jN];omega
theorem Rem.byte {n:Int} (h:Rem r (u8 n :: rest)) (h0:0<=n) (hn:n<256):wI r 1=(n,r.to 1)/\Rem (r.to 1) rest:=by
 have h':Rem r ([u8 n]++rest):=h;refine ⟨h'.uintV rfl ?_ h0 (by omega),h'.to rfl⟩;have hb:beV [u8 n] 1=ior .u64 (lT .u64 ((0:Nat):Int) 8) (Qh.wrap (((u8 n).toNat:Nat):Int)):=rfl;rw [hb,zNn 0 _ (by omega) (by have:=(u8 n).toNat_lt;omega)];have:=yFi n h0 hn;omega
theorem wnew (b:By) (h:b.length<2 ^ 40):uP b=some (RS.W ⟨b,0,0⟩):=by
 unfold uP;refine bd (xZ (by simp;omega)) ?_;rfl
structure Rd (r:RS) (l:By):Prop where
 m:Rem r l
 o:r.Ok
section
variable {n:Int}
theorem zT6 (b:By) (hb:b.length<2 ^ 40):∃ r,Rd r b/\uP b=some r.W:=⟨⟨b,0,0⟩,⟨⟨rfl,Nat.zero_le _,rfl⟩,Nat.zero_le _,hb⟩,wnew b hb⟩
theorem rdU (h:Rd r (beN n k k++rest)) (h1:1<=k) (h8:k<=8) (h0:0<=n) (hn:n<2 ^ 62) (hs:n.toNat<256 ^ k):∃ r',Rd r' rest/\yG r.W (k:Int)=some (n,r'.W):=by
 obtain ⟨e,m⟩:=Rem.uintI h.m h8 h0 hn hs;have ok:=aK r k h.o;rw [e] at ok;exact ⟨r.to k,⟨m,ok⟩,by rw [bD r k h.o h1 h8,e]⟩
theorem zZ3 (h:Rd r (u8 n :: rest)) (h0:0<=n) (hn:n<256):∃ r',Rd r' rest/\yG r.W 1=some (n,r'.W):=by
 obtain ⟨e,m⟩:=Rem.byte h.m h0 hn;have ok:=aK r 1 h.o;rw [e] at ok;exact ⟨r.to 1,⟨m,ok⟩,by have:=bD r 1 h.o (by decide) (by decide);rw [e] at this;exact this⟩
theorem zRv (h:Rd r (bl x++rest)) (hx:x.length<=65535) (hk:x.length<=k):∃ r',Rd r' rest/\yO r.W (k:Int)=some (x,r'.W):=by
 have h':=h.m;unfold bl at h';rw [Qa] at h';obtain ⟨e,m⟩:=Rem.blobN h' hx hk;have ok:=zJc r k h.o;rw [e] at ok;exact ⟨_,⟨m,ok⟩,by rw [jC r k h.o,e]⟩
theorem rdE (h:Rd r []):xN r.W=some (0,r.W):=by rw [dP r h.o,Rem.fin h.m]
theorem rdEr {l:By} (h:Rd r l):wG r.W=some (0,r.W):=by unfold wG;exact congrArg some (congrArg (·,r.W) h.m.e)
theorem Rd.cast {l l':By} (h:Rd r l) (e:l=l'):Rd r l':=e▸h
end
set_option maxRecDepth 100000
set_option maxRecDepth 100000
def aZ (c:zY):Prop:=c.B.length<=240/\0<=c.At/\c.At<=c.B.length
theorem zZg (b:By) (n:Int) (h0:0<=n) (h:n<=240):Def (zIh b n) aZ:=by
 unfold zIh;refine Q0 (P:=λr=>r.length<=240) ?_ (λr hr=>Q1 ⟨hr,Qs 0,by simp⟩);refine Q2 (λhl=>?_) (λhl=>Q1 ?_)
 ·rw [decide_eq_true_iff] at hl;refine Q0 (Def.sub (by decide) h0 (by omega)) (λx hx=>Q1 ?_);rw [hx];simp;omega
 ·rw [decide_eq_false_iff_not] at hl;omega
theorem nO (c:zY) (n:Int) (hc:aZ c) (hn:0<n):Def (xW c n) (λr=>0<=r.1/\r.1<n/\aZ r.2):=by
 obtain ⟨h1,h2,h3⟩:=hc;unfold xW;refine Q2 (λh=>Q1 ⟨Qs 0,hn,h1,h2,h3⟩) (λh=>?_);rw [decide_eq_false_iff_not] at h;rw [xU (n:=c.At+1) (by omega) (by omega),xU (n:=c.At+1 - 1) (by omega) (by omega)];refine Q0 (Def.idx (by omega) (by omega)) (λv _=>?_);refine Q0 (W5 (by simp;omega)) (λ_ _=>?_);refine Q1 ?_;rw [wb];refine ⟨?_,?_,h1,by simp only;omega,by simp only;omega⟩
 ·rw [Qm (by omega)];exact Int.emod_nonneg _ (by omega)
 ·rw [Qm (by omega)];exact Int.emod_lt_of_pos _ hn
def zQo (l:By):Prop:=1<=l.length/\l.length<=8/\∀ x∈l,32<=x.toNat/\x.toNat<=126
theorem zWc (c:zY) (hc:aZ c):Def (nZ c) (λr=>zQo r.1/\aZ r.2):=by
 unfold nZ;refine Q0 (nO c 6 hc (by decide)) (λr hr=>?_);obtain ⟨v,x⟩:=r;obtain ⟨h0,h1,h2⟩:=hr;simp only at h0 h1 h2;refine Q0 (Def.ixN h0 (by show _<((6:Nat):Int);omega)) (λj hj=>?_);refine Q0 (Def.at (by have:=hj.2;simpa using this)) (λl hl=>?_);have hl':zQo l:=by
  simp only [Qb,W1,or_false] at hl;rcases hl with rfl | rfl | rfl | rfl | rfl | rfl<;>(unfold zQo;decide)
 refine Q0 (W5 (zYa (by have:=hl'.2.1;omega))) (λ_ _=>?_);exact Q1 ⟨hl',h2⟩
def zI6 (L:List By):By:=L.flatMap λl=>l++[10]
theorem flat_len (L:List By) (h:∀ l∈L,zQo l):(zI6 L).length<=9*L.length:=by
 induction L with
 | nil=>simp [zI6]
 | cons a r ih=>
  have h1:=(h a (by simp)).2.1;have h2:=ih (λl hl=>h l (by simp [hl]));simp only [zI6,Qe,Q3,Q4,Qc] at h2 ⊢;omega
theorem zRq (c:zY) (hc:aZ c):Def (rS c) (λr=>(∃ L,r.1=zI6 L/\1<=L.length/\L.length<=4/\∀ l∈L,zQo l)/\aZ r.2):=by
 unfold rS;refine Q0 (nO c 4 hc (by decide)) (λr hr=>?_);obtain ⟨v,x⟩:=r;obtain ⟨h0,h1,h2⟩:=hr;simp only at h0 h1 h2;refine Q0 (P:=λr=>(∃ L,r.1=zI6 L/\1<=L.length/\L.length<=4/\∀ l∈L,zQo l)/\aZ ⟨r.2.1,r.2.2⟩) ?_ (λr hr=>Q1 hr);refine Qd (λs=>(∃ L,s.1=zI6 L/\(L.length:Int)+s.2.1=1+v/\∀ l∈L,zQo l)/\0<=s.2.1/\aZ ⟨s.2.2.1,s.2.2.2⟩) (λs=>s.2.1.toNat) (λs hs=>?_) ?_ ?_
 ·obtain ⟨b,n,B,A⟩:=s;obtain ⟨⟨L,g1,g2,g3⟩,g4,g5⟩:=hs;simp only at g1 g2 g4 g5;have hfl:=flat_len L g3;unfold kF;refine Q2 (λh=>?_) (λh=>Q1 ?_)
  ·rw [decide_eq_true_iff] at h;refine Q0 (zWc _ g5) (λr hr=>?_);obtain ⟨l,y⟩:=r;obtain ⟨k1,k2⟩:=hr;simp only at k1 k2;refine Q0 (Qy (by have:=k1.2.1;rw [g1];omega)) (λb1 hb1=>?_);refine Q0 (Qy (by have:=k1.2.1;rw [hb1,g1];simp;omega)) (λb2 hb2=>Q1 ?_);rw [xU (by omega) (by omega)];refine ⟨⟨⟨L++[l],?_,by simp only [Q3,Q4,Qc];omega,?_⟩,by simp only;omega,k2⟩,by simp only;omega⟩
   ·simp only [hb2,hb1,g1,zI6,Qw,Qe,List.flatMap_nil,Qp,Qa]
   ·intro z hz;rw [Qq] at hz;rcases hz with hz | hz
    ·exact g3 z hz
    ·simp at hz;subst hz;exact k1
  ·rw [decide_eq_false_iff_not] at h;exact ⟨⟨L,g1,by omega,by omega,g3⟩,g5⟩
 ·refine ⟨⟨[],rfl,?_,by simp⟩,?_,h2⟩
  ·rw [xU (by omega) (by omega)];simp
  ·rw [xU (by omega) (by omega)];simp only;omega
 ·rw [xU (by omega) (by omega)];simp only;omega
theorem zUe {P:List α} {c:α} {t:List α} (h:P.drop i=c :: t):idx P (i:Int)=some c/\P.drop (i+1)=t/\i<P.length:=by
 have hi:i<P.length:=by
  apply Decidable.byContradiction;intro hn;rw [List.drop_eq_nil_of_le (by omega)] at h;cases h
 rw [zU6 hi] at h;injection h with h1 h2;exact ⟨by rw [xO hi,h1],h2,hi⟩
theorem zV6 (x:zC) (L:List By) (hp:x.Payload=zI6 L) (h4:L.length<=4) (hL:∀ l∈L,zQo l):rM x=some L:=by
 have hfl:=flat_len L hL;have hpl:x.Payload.length<=36:=by rw [hp];omega
 have hd:Def (zT (xY x) FU ([],[],0)) (λr=>r=.inr (L,[])):=by
  refine Qd (λs=>∃ i:Nat,s.2.2=(i:Int)/\i<=x.Payload.length/\((s.1=L/\s.2.1=[]/\x.Payload.drop i=[])∨∃ suf rest,L=s.1++(s.2.1++suf) :: rest/\x.Payload.drop i=suf++10 :: zI6 rest)) (λs=>x.Payload.length - s.2.2.toNat) (λs hs=>?_) ?_ ?_
  ·obtain ⟨out,line,i'⟩:=s;obtain ⟨i,g1,g2,g3⟩:=hs;simp only at g1 g3;subst g1;unfold xY;rcases g3 with ⟨k1,k2,k3⟩ | ⟨suf,rest,k1,k2⟩
   ·refine Q2 (λh=>?_) (λ_=>Q1 (by rw [k1,k2]));rw [decide_eq_true_iff] at h;have:=congrArg Ql k3;simp at this;omega
   ·have hmem:line++suf∈L:=by rw [k1];simp
    have hln:=hL _ hmem;have hout:out.length<4:=by have:=congrArg Ql k1;simp at this;omega
    cases suf with
    | nil=>
     obtain ⟨j1,j2,j3⟩:=zUe (c:=10) (t:=zI6 rest) k2;refine Q2 (λ_=>?_) (λh=>by rw [decide_eq_false_iff_not] at h;omega);refine Q0 (P:=λr=>r=.inr (out++[line],[])) ?_ (λr hr=>?_)
     ·refine Q0 (P:=λc=>c=10) (Qn j1 rfl) (λc hc=>?_);subst hc;refine Q2 (λ_=>?_) (λh=>by simp at h);rw [Qp] at hln;refine Q0 (P:=λb=>b=false) (Q2 (λh=>?_) (λ_=>Q1 ?_)) (λb hb=>?_)
      ·have:=hln.1;simp at h;rw [h] at this;simp at this
      ·simp;omega
      subst hb;refine Q0 (Qy (by simp;omega)) (λo ho=>Q1 (by rw [ho]))
     ·subst hr;refine Q1 ?_;rw [uU (by omega)];refine ⟨⟨i+1,rfl,by omega,?_⟩,by simp only [Q6];omega⟩;cases rest with
      | nil=>exact .inl ⟨by simp [k1],rfl,j2⟩
      | cons l r=>
       refine .inr ⟨l,r,?_,?_⟩
       ·simp [k1]
       ·rw [j2];simp [zI6]
    | cons c suf=>
     obtain ⟨j1,j2,j3⟩:=zUe (c:=c) (t:=suf++10 :: zI6 rest) k2;have hc:=hln.2.2 c (by simp);refine Q2 (λ_=>?_) (λh=>by rw [decide_eq_false_iff_not] at h;omega);refine Q0 (P:=λr=>r=.inr (out,line++[c])) ?_ (λr hr=>?_)
     ·refine Q0 (P:=λd=>d=c) (Qn j1 rfl) (λd hd=>?_);subst hd;refine Q2 (λh=>by simp at h;omega) (λ_=>?_);refine Q0 (P:=λb=>b=false) (Q2 (λh=>?_) (λ_=>Q1 ?_)) (λb hb=>?_)
      ·simp at h;omega
      ·simp;omega
      subst hb;have:=hln.2.1;refine Q0 (Qy (by simp at this ⊢;omega)) (λo ho=>Q1 (by rw [ho]))
     ·subst hr;refine Q1 ?_;rw [uU (by omega)];refine ⟨⟨i+1,rfl,by omega,.inr ⟨suf,rest,by simp [k1],j2⟩⟩,by simp only [Q6];omega⟩
  ·refine ⟨0,rfl,by omega,?_⟩;cases L with
   | nil=>exact .inl ⟨rfl,rfl,by rw [hp];rfl⟩
   | cons l r=>exact .inr ⟨l,r,by simp,by rw [hp];simp [zI6]⟩
  ·rw [hp];simp;omega
 obtain ⟨r,h1,h2⟩:=hd;subst h2;unfold rM;refine bd h1 ?_;rfl
structure zMt (x:zC):Prop where
 r1:1<=x.Role
 r4:x.Role<=4
 v0:0<=x.Version
 v1:x.Version<=1000000
 n:mH x.Name=some true
 nl:x.Name.length<=12
 p:x.Payload.length<=64
 l:x.Role=4->∃ L,rM x=some L/\1<=L.length/\L.length<=4/\∀ l∈L,zQo l
theorem zSw (x:zC) (h:zMt x):vL x=some 0:=by
 obtain ⟨h1,h2,h3,h4,h5,h6,h7,h8⟩:=h;unfold vL;refine bd (a:=false) (cf (by simp;omega) (cf (by simp;omega) (cf (by simp;omega) (congrArg some (by simp;omega))))) ?_;refine cf rfl ?_;refine bd h5 ?_;refine cf rfl ?_;refine cf (by simp;omega) ?_;refine bd (a:=false) ?_ rfl;by_cases h:x.Role=4
 ·refine ct (by simp [h]) ?_;obtain ⟨L,l1,l2,_⟩:=h8 h;refine bd l1 ?_;refine congrArg some ?_;rw [beq_eq_false_iff_ne];omega
 ·exact cf (by simp [h]) rfl
theorem zXy:∀ n∈[([97]:By),[103,114,117,98],[108,105,110,117,120],[110,101,116,45,48],[116,119,101,108,118,101,45,98,121,116,101,115]],mH n=some true/\n.length<=12:=by
 intro n hn;simp only [Qb,W1,or_false] at hn;rcases hn with rfl | rfl | rfl | rfl | rfl<;>exact ⟨by decide +kernel,by decide⟩
theorem zVh (c:zY) (role:Int) (hc:aZ c) (h1:1<=role) (h4:role<=4):Def (nA c role) (λr=>zMt r.1/\r.1.Role=role/\aZ r.2):=by
 unfold nA;refine Q0 (P:=λa=>[a.a0,a.a1,a.a2,a.a3,a.a4]=[([97]:By),[103,114,117,98],[108,105,110,117,120],[110,101,116,45,48],[116,119,101,108,118,101,45,98,121,116,101,115]]) (Q1 rfl) (λa ha=>?_);rw [ha];refine Q0 (nO c 5 hc (by decide)) (λr hr=>?_);obtain ⟨v1,c1⟩:=r;obtain ⟨p1,p2,p3⟩:=hr;simp only at p1 p2 p3;refine Q0 (Def.idx p1 (by simpa using p2)) (λnme hn=>?_);obtain ⟨n1,n2⟩:=zXy nme hn;refine Q0 (nO c1 5 p3 (by decide)) (λr hr=>?_);obtain ⟨v2,c2⟩:=r;obtain ⟨q1,q2,q3⟩:=hr;simp only at q1 q2 q3;refine Q0 (P:=λr=>aZ ⟨r.1,r.2.1⟩/\0<=r.2.2/\r.2.2<=1000000) ?_ (λr hr=>?_)
 ·refine Q0 (nO c2 9 q3 (by decide)) (λr hr=>?_);obtain ⟨v3,c3⟩:=r;obtain ⟨s1,s2,s3⟩:=hr;simp only at s1 s2 s3;refine Q2 (λ_=>?_) (λ_=>Q1 ⟨s3,by simp only;omega,by simp only;omega⟩);refine Q0 (nO c3 3 s3 (by decide)) (λr hr=>?_);obtain ⟨v4,c4⟩:=r;obtain ⟨u1,u2,u3⟩:=hr;simp only at u1 u2 u3;refine Q1 ⟨u3,?_,?_⟩<;>(simp only;rw [xU (by omega) (by omega)];omega)
 obtain ⟨B,A,ver⟩:=r;obtain ⟨w1,w2,w3⟩:=hr;simp only at w1 w2 w3;refine Q2 (λh=>?_) (λh=>?_)
 ·rw [beq_iff_eq] at h;refine Q0 (zRq _ w1) (λr hr=>?_);obtain ⟨pl,c5⟩:=r;obtain ⟨⟨L,l1,l2,l3,l4⟩,z⟩:=hr;simp only at l1 z;have hfl:=flat_len L l4;refine Q1 ⟨⟨h1,h4,w2,w3,n1,n2,by simp only;rw [l1];omega,λ_=>⟨L,zV6 _ L l1 l3 l4,l2,l3,l4⟩⟩,rfl,z⟩
 ·have hr4:role≠4:=by simpa using h
  refine Q0 (nO _ 7 w1 (by decide)) (λr hr=>?_);obtain ⟨v5,c5⟩:=r;obtain ⟨x1,x2,x3⟩:=hr;simp only at x1 x2 x3;refine Q0 (Def.mkN x1 (by omega)) (λn hn=>?_);refine Q0 (P:=λr=>aZ ⟨r.1,r.2.1⟩/\r.2.2.length=n) ?_ (λr hr=>?_)
  ·refine Qd (λs=>0<=s.1/\s.1<=n/\aZ ⟨s.2.1,s.2.2.1⟩/\s.2.2.2.length=n) (λs=>((n:Int) - s.1).toNat) (λs hs=>?_) ⟨Qs 0,by simp,x3,by simp⟩ (by simp;omega);obtain ⟨i,B,A,v⟩:=s;obtain ⟨y1,y2,y3,y4⟩:=hs;simp only at y1 y2 y3 y4;unfold gA;refine Q2 (λh=>?_) (λ_=>Q1 ⟨y3,y4⟩);rw [decide_eq_true_iff] at h;refine Q0 (nO _ 256 y3 (by decide)) (λr hr=>?_);obtain ⟨v6,c6⟩:=r;obtain ⟨_,_,z3⟩:=hr;refine Q0 (Def.ixN y1 h) (λj hj=>?_);refine Q0 (Def.upd (by omega)) (λu hu=>Q1 ?_);rw [xU (by omega) (by omega)];refine ⟨⟨by simp only;omega,by simp only;omega,z3,by simp only [hu,List.length_set];exact y4⟩,by simp only;omega⟩
  obtain ⟨B,A,v⟩:=r;obtain ⟨y1,y2⟩:=hr;simp only at y1 y2;refine Q0 (W5 (beqT y2)) (λ_ _=>?_);refine Q0 (W5 (zYa (by omega))) (λ_ _=>?_);refine Q1 ⟨⟨h1,h4,w2,w3,n1,n2,by simp only;omega,λe=>absurd e hr4⟩,rfl,y1⟩
set_option maxRecDepth 100000
def Bef (a b:zC):Prop:=a.Role<=b.Role/\¬ (a.Role=b.Role/\a.Name=b.Name)
structure zNi (l:List zC):Prop where
 len:l.length<=8
 im:∀ x∈l,zMt x
 prs:l.Pairwise Bef
 h1:∃ x∈l,x.Role=1
 h3:∃ x∈l,x.Role=3
theorem jG {l:List α} (h:i<l.length) {x:α} (hx:x∈l.take (i+1)):x∈l.take i∨x=l[i]:=by
 rw [Qz,Qq] at hx;rcases hx with hx | hx
 ·exact .inl hx
 ·right;simpa [h] using hx
theorem zV3 (l:List zC) (v:zC) (hl:l.length<=20):Def (zT (cO l v) FU (false,0)) (λr=>(r=true->∃ x∈l,x.Role=v.Role)/\(r=false->∀ x∈l,¬ (x.Role=v.Role/\x.Name=v.Name))):=by
 refine Qd (λs=>∃ i:Nat,s.2=(i:Int)/\i<=l.length/\(s.1=true->∃ x∈l,x.Role=v.Role)/\(s.1=false->∀ x∈l.take i,¬ (x.Role=v.Role/\x.Name=v.Name))) (λs=>l.length - s.2.toNat) (λs hs=>?_) ⟨0,rfl,by omega,by simp,by simp⟩ (by simp;omega);obtain ⟨ag,i'⟩:=s;obtain ⟨i,g1,g2,g3,g4⟩:=hs;simp only at g1 g3 g4;subst g1;unfold cO;refine Q2 (λh=>?_) (λh=>Q1 ⟨g3,λe=>?_⟩)
 ·have hi:i<l.length:=by have:=dT h;omega
  refine Q0 (P:=λr=>(r=true->∃ x∈l,x.Role=v.Role)/\(r=false->ag=false/\¬ (l[i].Role=v.Role/\l[i].Name=v.Name))) ?_ (λr hr=>?_)
  ·refine Q2 (λha=>Q1 ⟨λ_=>g3 ha,λe=>by simp at e⟩) (λha=>?_);refine Q0 (Def.at' hi) (λy hy=>?_);subst hy;refine Q2 (λhr=>?_) (λhr=>Q1 ⟨λe=>by simp at e,λ_=>⟨ha,λe=>by simp [e.1] at hr⟩⟩);rw [beq_iff_eq] at hr;refine Q0 (Def.at' hi) (λy hy=>?_);subst hy;refine Q1 ⟨λ_=>⟨_,Q5 hi,hr⟩,λe=>⟨ha,λe2=>?_⟩⟩;simp [e2.2] at e
  ·refine Q1 ?_;rw [uU (by omega)];refine ⟨⟨i+1,rfl,by omega,hr.1,λe x hx=>?_⟩,by simp only [Q6];omega⟩;obtain ⟨k1,k2⟩:=hr.2 e;rcases jG hi hx with hx | rfl
   ·exact g4 k1 x hx
   ·exact k2
 ·have:=dF h;rw [Q9 (by omega)] at g4;exact g4 e
structure ChI (role:Int) (l:List zC):Prop where
 im:∀ x∈l,zMt x/\x.Role<=role
 prs:l.Pairwise Bef
 h1:2<=role->∃ x∈l,x.Role=1
 h3:4<=role->∃ x∈l,x.Role=3
theorem zW4 (role:Int) (h1:1<=role) (h4:role<=4) (l:List zC) (n:Int) (c:zY) (hc:aZ c) (hn:0<=n) (hl:(l.length:Int)+n<=2*role) (hI:ChI role l) (hk:role=1∨role=3->1<=n) :
  Def (zT (cP role) FU (l,n,c.B,c.At)) (λr=>(r.1.length:Int)<=2*role/\ChI role r.1/\(role=1∨role=3->∃ x∈r.1,x.Role=role)/\aZ ⟨r.2.1,r.2.2⟩):=by
 refine Qd (λs=>0<=s.2.1/\(s.1.length:Int)+s.2.1<=2*role/\ChI role s.1/\(role=1∨role=3->1<=s.2.1∨∃ x∈s.1,x.Role=role)/\aZ ⟨s.2.2.1,s.2.2.2⟩) (λs=>s.2.1.toNat) (λs hs=>?_) ⟨hn,hl,hI,λe=>.inl (hk e),hc⟩ (by simp only;omega);obtain ⟨l,n,B,A⟩:=s;obtain ⟨g1,g2,g3,g4,g5⟩:=hs;simp only at g1 g2 g3 g4 g5;unfold cP;refine Q2 (λh=>?_) (λh=>Q1 ?_)
 ·have hn:=dT h;refine Q0 (P:=λr=>(r.1.length:Int)+(n - 1)<=2*role/\ChI role r.1/\(∃ x∈r.1,x.Role=role)/\aZ ⟨r.2.1,r.2.2⟩) ?_ (λr hr=>?_)
  ·refine Q0 (zVh _ role g5 h1 h4) (λr hr=>?_);obtain ⟨v,c⟩:=r;obtain ⟨k1,k2,k3⟩:=hr;simp only at k1 k2 k3;refine Q0 (zV3 l v (by omega)) (λag ha=>?_);refine Q2 (λhg=>?_) (λhg=>?_)
   ·have hgf:ag=false:=by simpa using hg
    refine Q0 (Qy (by simp;omega)) (λl' hl'=>Q1 ?_);subst hl';refine ⟨by simp;omega,⟨λx hx=>?_,?_,λe=>?_,λe=>?_⟩,⟨v,by simp,k2⟩,k3⟩
    ·rw [Qq] at hx;rcases hx with hx | hx
     ·exact g3.im x hx
     ·simp at hx;subst hx;exact ⟨k1,by omega⟩
    ·rw [List.pairwise_append];refine ⟨g3.prs,by simp,λa ha' b hb=>?_⟩;simp at hb;subst hb;exact ⟨by have:=(g3.im a ha').2;omega,ha.2 hgf a ha'⟩
    ·obtain ⟨x,hx,e2⟩:=g3.h1 e;exact ⟨x,by simp [hx],e2⟩
    ·obtain ⟨x,hx,e2⟩:=g3.h3 e;exact ⟨x,by simp [hx],e2⟩
   ·have hgt:ag=true:=by simpa using hg
    obtain ⟨x,hx,e⟩:=ha.1 hgt;exact Q1 ⟨by simp only;omega,g3,⟨x,hx,by omega⟩,k3⟩
  ·obtain ⟨l',B',A'⟩:=r;obtain ⟨k1,k2,k3,k4⟩:=hr;simp only at k1 k2 k3 k4;refine Q1 ?_;rw [xU (by omega) (by omega)];exact ⟨⟨by simp only;omega,k1,k2,λ_=>.inr k3,k4⟩,by simp only;omega⟩
 ·have hn:=dF h;refine ⟨by simp only;omega,g3,λe=>?_,g5⟩;rcases g4 e with h | h
  ·omega
  ·exact h
theorem zPl (codes:By):Def (eM codes) zNi:=by
 unfold eM;refine Q0 (zZg codes 200 (by decide) (by decide)) (λc hc=>?_);refine Q0 (P:=zNi) ?_ (λr hr=>Q1 hr);refine Qd (λs=>1<=s.2.1/\s.2.1<=5/\(s.1.length:Int)<=2*(s.2.1 - 1)/\(∀ x∈s.1,zMt x/\x.Role<s.2.1)/\s.1.Pairwise Bef/\(2<=s.2.1->∃ x∈s.1,x.Role=1)/\(4<=s.2.1->∃ x∈s.1,x.Role=3)/\aZ ⟨s.2.2.1,s.2.2.2⟩) (λs=>(5 - s.2.1).toNat) (λs hs=>?_) ⟨Qs 1,by simp,by simp,by simp,by simp,by simp,by simp,hc⟩ (by simp);obtain ⟨l,role,B,A⟩:=s;obtain ⟨g1,g2,g3,g4,g5,g6,g7,g8⟩:=hs;simp only at g1 g2 g3 g4 g5 g6 g7 g8;unfold zFh;refine Q2 (λh=>?_) (λh=>Q1 ?_)
 ·have hr:=dT h;refine Q0 (nO _ 3 g8 (by decide)) (λr hr=>?_);obtain ⟨v,c1⟩:=r;obtain ⟨k1,k2,k3⟩:=hr;simp only at k1 k2 k3;refine Q0 (P:=λr=>0<=r.1/\r.1<=2/\(role=1∨role=3->1<=r.1)/\aZ ⟨r.2.1,r.2.2⟩) ?_ (λr hr=>?_)
  ·refine Q0 (P:=λb=>b=false->¬ (role=1∨role=3)) ?_ (λb hb=>?_)
   ·refine Q2 (λh=>Q1 (λe=>by simp at e)) (λh=>Q1 (λe=>?_));simp at h e;omega
   refine Q2 (λ_=>?_) (λhf=>Q1 ⟨k1,by simp only;omega,λe=>absurd e (hb hf),k3⟩);refine Q0 (nO _ 2 k3 (by decide)) (λr hr=>?_);obtain ⟨v2,c2⟩:=r;obtain ⟨j1,j2,j3⟩:=hr;simp only at j1 j2 j3;have e:Q8.wrap (1+v2)=1+v2:=xU (by omega) (by omega);exact Q1 ⟨by simp only [e];omega,by simp only [e];omega,λ_=>by simp only [e];omega,j3⟩
  obtain ⟨n,B1,A1⟩:=r;obtain ⟨j1,j2,j3,j4⟩:=hr;simp only at j1 j2 j3 j4;refine Q0 (zW4 role g1 hr l n ⟨B1,A1⟩ j4 j1 (by omega) ⟨λx hx=>⟨(g4 x hx).1,by have:=(g4 x hx).2;omega⟩,g5,g6,g7⟩ j3) (λr hr=>?_);obtain ⟨l',B2,A2⟩:=r;obtain ⟨m1,m2,m3,m4⟩:=hr;simp only at m1 m2 m3 m4;refine Q1 ?_;rw [xU (by omega) (by omega)];refine ⟨⟨by simp only;omega,by simp only;omega,by simp only;omega,λx hx=>⟨(m2.im x hx).1,by have:=(m2.im x hx).2;simp only;omega⟩,m2.prs,λe=>?_,λe=>?_,m4⟩,by simp only;omega⟩
  ·simp only at e;by_cases h1:role=1
   ·obtain ⟨x,hx,e2⟩:=m3 (.inl h1);exact ⟨x,hx,by omega⟩
   ·exact m2.h1 (by omega)
  ·simp only at e;by_cases h3:role=3
   ·obtain ⟨x,hx,e2⟩:=m3 (.inr h3);exact ⟨x,hx,by omega⟩
   ·exact m2.h3 (by omega)
 ·have hr:=dF h;exact ⟨by omega,λx hx=>(g4 x hx).1,g5,g6 (by omega),g7 (by omega)⟩
theorem pw (h:l.Pairwise Bef) {j:Nat} (hj:j<l.length) (hij:i<j):Bef (l[i]'(by omega)) l[j]:=List.pairwise_iff_getElem.mp h i j (by omega) hj hij
theorem zTf (l:List zC) (h:zNi l):uK l=some 0:=by
 obtain ⟨hlen,him,hp,h1,h3⟩:=h;have hne:l.length≠0:=by
  obtain ⟨x,hx,_⟩:=h1;intro e;rw [List.length_eq_zero_iff] at e;rw [e] at hx;simp at hx
 have hl1:∀ i:Nat,i<l.length->Def (zT (wL l (i:Int)) FU 0) (λr=>r=.inr ()):=by
  intro i hi;refine Qd (λs=>∃ k:Nat,s=(k:Int)/\k<=i) (λs=>i - s.toNat) (λs hs=>?_) ⟨0,rfl,by omega⟩ (by simp;omega);obtain ⟨k,rfl,hk⟩:=hs;unfold wL;refine Q2 (λh=>?_) (λh=>Q1 rfl);have hki:=dT h;have hb:=pw hp hi (show k<i by omega);refine Q0 (P:=λb=>b=false) ?_ (λb hb'=>?_)
  ·refine Q0 (Def.at' (show k<l.length by omega)) (λy hy=>?_);subst hy;refine Q0 (Def.at' hi) (λy hy=>?_);subst hy;refine Q2 (λhr=>?_) (λ_=>Q1 rfl);rw [beq_iff_eq] at hr;refine Q0 (Def.at' (show k<l.length by omega)) (λy hy=>?_);subst hy;refine Q0 (Def.at' hi) (λy hy=>?_);subst hy;refine Q1 ?_;rw [beq_eq_false_iff_ne];exact λe=>hb.2 ⟨hr,e⟩
  subst hb';refine Q1 ?_;rw [uU (by omega)];exact ⟨⟨k+1,rfl,by omega⟩,by simp only [Q6];omega⟩
 have hd:Def (zT (wA l) FU (false,false,0)) (λr=>r=.inr (true,true)):=by
  refine Qd (λs=>∃ i:Nat,s.2.2=(i:Int)/\i<=l.length/\((∃ x∈l.take i,x.Role=1)->s.1=true)/\((∃ x∈l.take i,x.Role=3)->s.2.1=true)) (λs=>l.length - s.2.2.toNat) (λs hs=>?_) ⟨0,rfl,by omega,by simp,by simp⟩ (by simp;omega);obtain ⟨f,k,i'⟩:=s;obtain ⟨i,g1,g2,g3,g4⟩:=hs;simp only at g1 g3 g4;subst g1;unfold wA;refine Q2 (λh=>?_) (λh=>Q1 ?_)
  ·have hi:i<l.length:=by have:=dT h;omega
   refine Q0 (Def.at' hi) (λy hy=>?_);subst hy;refine Q0 (P:=λr=>r=0) (Qn (zSw _ (him _ (Q5 hi))) rfl) (λr hr=>?_);subst hr;refine Q2 (λh=>by simp at h) (λ_=>?_);refine Q0 (P:=λb=>b=false) ?_ (λb hb=>?_)
   ·refine Q2 (λh0=>?_) (λ_=>Q1 rfl);have h0':=dT h0;refine Q0 (Def.at' hi) (λy hy=>?_);subst hy;rw [xU (by omega) (by omega),show (i:Int) - 1=((i - 1:Nat):Int) by omega];refine Q0 (Def.at' (show i - 1<l.length by omega)) (λy hy=>?_);subst hy;have hb:=(pw hp hi (show i - 1<i by omega)).1;refine Q1 ?_;rw [decide_eq_false_iff_not];omega
   subst hb;refine Q2 (λh=>by simp at h) (λ_=>?_);refine Q0 (hl1 i hi) (λr hr=>?_);subst hr;refine Q0 (P:=λb=>f=true∨l[i].Role=1->b=true) ?_ (λb1 hb1=>?_)
   ·refine Q2 (λ_=>Q1 (λ_=>rfl)) (λhf=>?_);refine Q0 (Def.at' hi) (λy hy=>?_);subst hy;refine Q1 (λe=>?_);rcases e with e | e
    ·rw [hf] at e;cases e
    ·rw [e];rfl
   refine Q0 (P:=λb=>k=true∨l[i].Role=3->b=true) ?_ (λb2 hb2=>?_)
   ·refine Q2 (λ_=>Q1 (λ_=>rfl)) (λhf=>?_);refine Q0 (Def.at' hi) (λy hy=>?_);subst hy;refine Q1 (λe=>?_);rcases e with e | e
    ·rw [hf] at e;cases e
    ·rw [e];rfl
   refine Q1 ?_;rw [uU (by omega)];refine ⟨⟨i+1,rfl,by omega,λe=>?_,λe=>?_⟩,by simp only [Q6];omega⟩
   ·obtain ⟨x,hx,e⟩:=e;rcases jG hi hx with hx | rfl
    ·exact hb1 (.inl (g3 ⟨x,hx,e⟩))
    ·exact hb1 (.inr e)
   ·obtain ⟨x,hx,e⟩:=e;rcases jG hi hx with hx | rfl
    ·exact hb2 (.inl (g4 ⟨x,hx,e⟩))
    ·exact hb2 (.inr e)
  ·have:=dF h;rw [Q9 (by omega)] at g3 g4;rw [g3 h1,g4 h3]
 obtain ⟨r,e,rfl⟩:=hd;unfold uK;refine bd (a:=false) (cf ?_ (congrArg some ?_)) ?_
 ·rw [beq_eq_false_iff_ne];omega
 ·rw [decide_eq_false_iff_not];omega
 refine cf rfl ?_;refine bd e ?_;rfl
def rK (x:zC):By:=iU (iU (vQ (vQ [] 1 x.Role) 4 x.Version) x.Name) x.Payload
theorem zWo (x:zC):5<=(rK x).length/\(rK x).length<2 ^ 20:=by
 have h1:=oU (vQ (vQ [] 1 x.Role) 4 x.Version) x.Name;have h2:=oU (iU (vQ (vQ [] 1 x.Role) 4 x.Version) x.Name) x.Payload;have h3:(vQ (vQ [] 1 x.Role) 4 x.Version).length=5:=by rw [uH,uH];rfl
 refine ⟨?_,by unfold rK;omega⟩;unfold rK iU;simp only [Q3,uH,h3];omega
set_option maxRecDepth 100000
def nmB (s:By):Bool:=decide (1<=s.length)&&decide (s.length<=12)&&s.all nameByte
def nameN (n:Nat):Bool:=(decide (97<=n)&&decide (n<=122))||(decide (48<=n)&&decide (n<=57))||decide (n=45)
theorem zVj:∀ n:Nat,n<256->(bif decide ((n:Int)<97) then (bif decide ((n:Int)<48) then (some ((n:Int) != 45)) else bif decide (57<(n:Int)) then (some ((n:Int) != 45)) else some false) else bif decide (122<(n:Int)) then (bif decide ((n:Int)<48) then (some ((n:Int) != 45)) else bif decide (57<(n:Int)) then (some ((n:Int) != 45)) else some false) else some false:Option Bool)=some (!nameN n):=by decide +kernel
theorem zNf (s:By):mH s=some (nmB s):=by
 have hd:Def (mH s) (λr=>r=nmB s):=by
  unfold mH;refine Q0 (P:=λb=>b=(decide (s.length<1)||decide (12<s.length))) ?_ (λb hb=>?_)
  ·refine Q2 (λh=>Q1 ?_) (λh=>Q1 ?_)
   ·have:=dT h;rw [show decide (s.length<1)=true by rw [decide_eq_true_iff];omega];rfl
   ·have:=dF h;rw [show decide (s.length<1)=false by rw [decide_eq_false_iff_not];omega,Bool.false_or];exact decide_eq_decide.2 (by omega)
  refine Q2 (λh=>Q1 ?_) (λh=>?_)
  ·rw [h] at hb;have hb':s.length<1∨12<s.length:=by
    have:=hb.symm;rw [Bool.or_eq_true,decide_eq_true_iff,decide_eq_true_iff] at this;exact this
   unfold nmB;rcases hb' with h1 | h1
   ·rw [show decide (1<=s.length)=false by rw [decide_eq_false_iff_not];omega];rfl
   ·rw [show decide (s.length<=12)=false by rw [decide_eq_false_iff_not];omega,Bool.and_false];rfl
  ·rw [h] at hb;have hb':1<=s.length/\s.length<=12:=by
    have:=hb.symm;rw [Qu,decide_eq_false_iff_not,decide_eq_false_iff_not] at this;omega
   have hn:nmB s=s.all nameByte:=by
    unfold nmB;rw [show decide (1<=s.length)=true by rw [decide_eq_true_iff];omega,show decide (s.length<=12)=true by rw [decide_eq_true_iff];omega];rfl
   rw [hn];refine Q0 (zPj s (kZ s) (λi=>∀ h:i<s.length,nameByte s[i]=true) (λr=>r=false/\∃ i,∃ h:i<s.length,nameByte s[i]=false) (by omega) (λi hi=>?_) ?_) (λy hy=>?_)
   ·unfold kZ;refine Q2 (λ_=>?_) (λh=>by have:=dF h;omega);refine Q0 (Def.at' hi) (λc hc=>?_);subst hc;refine Q0 (P:=λb=>b=!nameByte s[i]) (Qn (zVj s[i].toNat s[i].toNat_lt) rfl) (λb hb=>?_);refine Q2 (λh=>Q1 ⟨rfl,i,hi,?_⟩) (λh=>Q1 ⟨uU (by omega),λ_=>?_⟩)
    ·rw [h] at hb;simpa using hb.symm
    ·rw [h] at hb;simpa using hb.symm
   ·unfold kZ;exact cf (by simp) rfl
   ·cases y with
    | inl r=>
     obtain ⟨rfl,i,hi,hn⟩:=hy;refine Q1 ?_;symm;rw [W0];exact ⟨_,Q5 hi,by simp [hn]⟩
    | inr u=>
     refine Q1 ?_;symm;rw [W2];intro c hc;obtain ⟨i,hi,rfl⟩:=Qv.mp hc;exact hy i hi hi
 obtain ⟨r,hr,rfl⟩:=hd;exact hr
theorem zWk (s:By):zDg s=some (nmB s):=rfl
def prB (c:UInt8):Bool:=decide (32<=c.toNat)&&decide (c.toNat<=126)
theorem zTr:∀ n:Nat,n<256->(bif decide ((n:Int)<32) then (some true) else some (decide (126<(n:Int))):Option Bool)=some (!(decide (32<=n)&&decide (n<=126))):=by decide +kernel
theorem zP4 (s:By) (hs:s.length<2 ^ 40):uY s=some (s.all prB):=by
 have hd:Def (uY s) (λr=>r=s.all prB):=by
  unfold uY;refine Q0 (zPj s (rR s) (λi=>∀ h:i<s.length,prB s[i]=true) (λr=>r=false/\∃ i,∃ h:i<s.length,prB s[i]=false) hs (λi hi=>?_) ?_) (λy hy=>?_)
  ·unfold rR;refine Q2 (λ_=>?_) (λh=>by have:=dF h;omega);refine Q0 (Def.at' hi) (λc hc=>?_);subst hc;refine Q0 (P:=λb=>b=!prB s[i]) (Qn (zTr s[i].toNat s[i].toNat_lt) rfl) (λb hb=>?_);refine Q2 (λh=>Q1 ⟨rfl,i,hi,?_⟩) (λh=>Q1 ⟨uU (by omega),λ_=>?_⟩)
   ·rw [h] at hb;simpa using hb.symm
   ·rw [h] at hb;simpa using hb.symm
  ·unfold rR;exact cf (by simp) rfl
  ·cases y with
   | inl r=>
    obtain ⟨rfl,i,hi,hn⟩:=hy;refine Q1 ?_;symm;rw [W0];exact ⟨_,Q5 hi,by simp [hn]⟩
   | inr u=>
    refine Q1 ?_;symm;rw [W2];intro c hc;obtain ⟨i,hi,rfl⟩:=Qv.mp hc;exact hy i hi hi
 obtain ⟨r,hr,rfl⟩:=hd;exact hr
def rf:By->List By->By->List By
 | [],out,line=>if line=[] then out else []
 | c :: r,out,line=>if c=10 then (if line=[]∨4<=out.length then [] else rf r (out++[line]) []) else if prB c=true then rf r out (line++[c]) else []
theorem c10 (c:UInt8):((c.toNat:Int)==10)=decide (c=10):=by
 by_cases h:c=10
 ·subst h;rfl
 ·rw [decide_eq_false h,beq_eq_false_iff_ne];intro e;exact h (UInt8.toNat_inj.1 (by
                  have:c.toNat=10:=by omega
                  rw [this];rfl))
theorem zQw (x:zC) (hx:x.Payload.length<2 ^ 20):∀ (rest:By) (fuel i:Nat) (out:List By) (line:By),rest.length<fuel->x.Payload.drop i=rest->i<=x.Payload.length->out.length<=4->line.length<=i ->
  ∃ y,zT (xY x) fuel (out,line,(i:Int))=some y/\(match y with | .inl r=>r=[]/\rf rest out line=[] | .inr (o,l)=>rf rest out line=if l=[] then o else [])
 | [],f+1,i,out,line,_,hd,hi,_,_=>by
  have hl:i=x.Payload.length:=by
   have:=congrArg Ql hd;simp at this;omega
  refine ⟨.inr (out,line),?_,rfl⟩;simp only [zT];have:xY x (out,line,(i:Int))=some (.inr (.inr (out,line))):=by
   unfold xY;exact cf (by simp;omega) rfl
  rw [this]
 | c :: r,f+1,i,out,line,hf,hd,hi,ho,hll=>by
  have hil:i<x.Payload.length:=by
   have:=congrArg Ql hd;simp at this;omega
  have hc:idx x.Payload (i:Int)=some c:=by
   rw [xO hil];have:=Qf hil;rw [hd] at this;exact congrArg some (List.cons.inj this).1.symm
  have hr:x.Payload.drop (i+1)=r:=by
   have:=Qf hil;rw [hd] at this;exact (List.cons.inj this).2.symm
  simp only [Q4] at hf;simp only [zT];by_cases h10:c=10
  ·by_cases hb:line=[]∨4<=out.length
   ·refine ⟨.inl [],?_,rfl,by simp only [rf,if_pos h10,if_pos hb]⟩;have:xY x (out,line,(i:Int))=some (.inr (.inl [])):=by
     unfold xY;refine ct (dlt hil) (bd (a:=.inl []) (bd hc (ct (by rw [c10];simp [h10]) (bd (a:=true) ?_ (ct rfl rfl)))) rfl);by_cases h0:line=[]
     ·exact ct (by simp [h0]) rfl
     ·refine cf (by simp;exact h0) (congrArg some ?_);have:=hb.resolve_left h0;simp;omega
    rw [this]
   ·obtain ⟨y,hy,hy2⟩:=zQw x hx r f (i+1) (out++[line]) [] (by omega) hr (by omega) (by have:¬ 4<=out.length:=λh=>hb (.inr h);simp;omega) (by simp);refine ⟨y,?_,?_⟩
    ·have:xY x (out,line,(i:Int))=some (.inl (out++[line],[],((i+1:Nat):Int))):=by
      have hb1:line≠[]:=λh=>hb (.inl h);have hb2:¬ 4<=out.length:=λh=>hb (.inr h);unfold xY;refine ct (dlt hil) (bd (a:=.inr (out++[line],[])) (bd hc (ct (by rw [c10];simp [h10]) (bd (a:=false) (cf (by simp;exact hb1) (congrArg some (by simp;omega))) (cf rfl (bd (xZ (by simp;omega)) rfl))))) ?_);rw [uU (show i<2 ^ 40 by omega)]
     rw [this];exact hy
    ·cases y with
     | inl r'=>simp only [rf,if_pos h10,if_neg hb];exact hy2
     | inr p=>simp only [rf,if_pos h10,if_neg hb];exact hy2
  ·have hp:(bif decide ((c.toNat:Int)<32) then (some true) else some (decide (126<(c.toNat:Int))):Option Bool)=some (!prB c):=zTr c.toNat c.toNat_lt;cases hpr:prB c with
   | false=>
    refine ⟨.inl [],?_,rfl,by simp only [rf,if_neg h10,hpr];rfl⟩;have:xY x (out,line,(i:Int))=some (.inr (.inl [])):=by
     unfold xY;refine ct (dlt hil) (bd (a:=.inl []) (bd hc (cf (by rw [c10];simp [h10]) (bd hp (ct (by rw [hpr];rfl) rfl)))) rfl)
    rw [this]
   | true=>
    obtain ⟨y,hy,hy2⟩:=zQw x hx r f (i+1) out (line++[c]) (by omega) hr (by omega) ho (by simp;omega);refine ⟨y,?_,?_⟩
    ·have:xY x (out,line,(i:Int))=some (.inl (out,line++[c],((i+1:Nat):Int))):=by
      unfold xY;refine ct (dlt hil) (bd (a:=.inr (out,line++[c])) (bd hc (cf (by rw [c10];simp [h10]) (bd hp (cf (by rw [hpr];rfl) (bd (xZ (by simp;omega)) rfl))))) ?_);rw [uU (show i<2 ^ 40 by omega)]
     rw [this];exact hy
    ·cases y with
     | inl r'=>simp only [rf,if_neg h10,hpr,if_true];exact hy2
     | inr p=>simp only [rf,if_neg h10,hpr,if_true];exact hy2
theorem zK3 (x:zC) (hx:x.Payload.length<2 ^ 20):rM x=some (rf x.Payload [] []):=by
 obtain ⟨y,hy,hy2⟩:=zQw x hx x.Payload FU 0 [] [] (sT (by omega)) rfl (by omega) (by simp) (by simp);unfold rM;refine bd hy ?_;cases y with
 | inl r=>obtain ⟨rfl,h⟩:=hy2;rw [h]
 | inr p=>
  obtain ⟨o,l⟩:=p;simp only at hy2 ⊢;by_cases hl:l=[]
  ·rw [if_pos hl] at hy2;exact cf (by simp [hl]) (by rw [hy2])
  ·rw [if_neg hl] at hy2;exact ct (by have:=Qk.2 hl;simp;omega) (by rw [hy2])
set_option maxRecDepth 100000
theorem zRl:∀ l:By,(Qi l 10=-1/\(10:UInt8)∉l)∨∃ w r,l=w++10 :: r/\(10:UInt8)∉w/\Qi l 10=(w.length:Int)
 | []=>.inl ⟨rfl,by simp⟩
 | b :: l=>by
  by_cases hb:b=10
  ·subst hb;exact .inr ⟨[],l,rfl,by simp,by simp [Qi]⟩
  ·have hne:(b==10)=false:=by rw [beq_eq_false_iff_ne];exact hb
   rcases zRl l with ⟨h1,h2⟩ | ⟨w,r,h1,h2,h3⟩
   ·refine .inl ⟨by unfold Qi;rw [hne,h1];rfl,?_⟩;simp only [Qb,not_or];exact ⟨λe=>hb e.symm,h2⟩
   ·refine .inr ⟨b :: w,r,by rw [h1];rfl,?_,?_⟩
    ·simp only [Qb,not_or];exact ⟨λe=>hb e.symm,h2⟩
    ·unfold Qi;rw [hne,h3];have:((w.length:Int)==-1)=false:=by rw [beq_eq_false_iff_ne];omega
     simp only [this,Q4];simp
theorem zT9:∀ (w r:By) (out:List By) (line:By),(10:UInt8)∉w->rf (w++10 :: r) out line=if w.all prB=true then (if line++w=[]∨4<=out.length then [] else rf r (out++[line++w]) []) else []
 | [],r,out,line,_=>by simp [rf]
 | c :: w,r,out,line,h=>by
  simp only [Qb,not_or] at h;have hc:¬ c=10:=λe=>h.1 e.symm;simp only [List.cons_append,rf,if_neg hc];rw [zT9 w r out (line++[c]) h.2];cases hp:prB c with
  | false=>simp [hp]
  | true=>simp [hp]
theorem zWt:∀ (w:By) (out:List By) (line:By),(10:UInt8)∉w->(w≠[]∨line≠[])->rf w out line=[]
 | [],out,line,_,h=>by simp only [rf];rw [if_neg (by simpa using h)]
 | c :: w,out,line,h,_=>by
  simp only [Qb,not_or] at h;have hc:¬ c=10:=λe=>h.1 e.symm;simp only [rf,if_neg hc];split
  ·exact zWt w out (line++[c]) h.2 (.inr (by simp))
  ·rfl
theorem zYz:∀ (n:Nat) (rest:By) (out:List By) (fuel:Nat),rest.length<=n->n<fuel->out.length<=4->rest.length<2 ^ 20 ->
  ∃ y,zT vM fuel (out,rest)=some y/\(match y with | .inl r=>r=[]/\rf rest out []=[] | .inr o=>rf rest out []=o):=by
 intro n;induction n with
 | zero=>
  intro rest out fuel hn hf ho hl;obtain ⟨f,rfl⟩:∃ f,fuel=f+1:=⟨fuel - 1,by omega⟩;have:rest=[]:=List.eq_nil_of_length_eq_zero (by omega);subst this;refine ⟨.inr out,?_,rfl⟩;simp only [zT];have:vM (out,[])=some (.inr (.inr out)):=by unfold vM;exact cf rfl rfl
  rw [this]
 | succ n ih=>
  intro rest out fuel hn hf ho hl;obtain ⟨f,rfl⟩:∃ f,fuel=f+1:=⟨fuel - 1,by omega⟩;by_cases h0:rest=[]
  ·subst h0;refine ⟨.inr out,?_,rfl⟩;simp only [zT];have:vM (out,[])=some (.inr (.inr out)):=by unfold vM;exact cf rfl rfl
   rw [this]
  have hpos:0<rest.length:=Qk.2 h0;simp only [zT];have bad:∀ (v:Int),sH rest 10=some v->((bif decide (v<1) then (some true) else bif ((out.length:Int)==4) then (some true) else (sub rest 0 v).bind λv_1130=>(uY v_1130).bind λv_1131=>some (!v_1131):Option Bool)=some true)->vM (out,rest)=some (.inr (.inl [])):=by
   intro v hv hc;unfold vM;exact ct (by simp;omega) (bd hv (bd hc (ct rfl rfl)))
  rcases zRl rest with ⟨h1,h2⟩ | ⟨w,r,h1,h2,h3⟩
  ·refine ⟨.inl [],?_,rfl,zWt rest out [] h2 (.inl h0)⟩;rw [bad (-1) (by unfold sH;rw [h1]) (ct rfl rfl)]
  ·have hlen:rest.length=w.length+1+r.length:=by rw [h1];simp;omega
   have hib:sH rest 10=some (w.length:Int):=by unfold sH;rw [h3]
   have htk:(rest.drop 0).take (w.length - 0)=w:=by rw [h1];simp
   have hsub:sub rest 0 (w.length:Int)=some w:=by
    have:=kT (l:=rest) (a:=0) (b:=w.length) (Nat.zero_le _) (by omega);rw [htk] at this;exact this
   have hpr:=zP4 w (by omega);have hrf:=zT9 w r out [] h2;rw [<- h1,List.nil_append] at hrf;by_cases hw:w=[]
   ·refine ⟨.inl [],?_,rfl,?_⟩
    ·rw [bad _ hib (ct (by simp [hw]) rfl)]
    ·rw [hrf,if_pos (show w=[]∨4<=out.length from .inl hw)];simp
   have hw1:0<w.length:=Qk.2 hw;by_cases h4:out.length=4
   ·refine ⟨.inl [],?_,rfl,?_⟩
    ·rw [bad _ hib (cf (by simp;omega) (ct (by simp [h4]) rfl))]
    ·rw [hrf,if_pos (show w=[]∨4<=out.length from .inr (by omega))];simp
   have hstep:(sub rest 0 (w.length:Int)).bind (λv_1130=>(uY v_1130).bind λv_1131=>some (!v_1131))=some (!w.all prB):=bd hsub (bd hpr rfl);cases hp:w.all prB with
   | false=>
    refine ⟨.inl [],?_,rfl,by rw [hrf,hp];rfl⟩;rw [bad _ hib (cf (by simp;omega) (cf (by simp;omega) (hstep.trans (by rw [hp];rfl))))]
   | true=>
    obtain ⟨y,hy,hy2⟩:=ih r (out++[w]) f (by omega) (by omega) (by simp;omega) (by omega);have hr2:(rest.drop (w.length+1)).take (rest.length - (w.length+1))=r:=by
     rw [Q9 (by simp)];rw [h1];simp
    have hsub2:sub rest (((w.length+1:Nat)):Int) (rest.length:Int)=some r:=by
     have:=kT (l:=rest) (a:=w.length+1) (b:=rest.length) (by omega) (Nat.le_refl _);rw [hr2] at this;exact this
    have:vM (out,rest)=some (.inl (out++[w],r)):=by
     unfold vM;refine ct (by simp;omega) (bd hib (bd (a:=false) (cf (by simp;omega) (cf (by simp;omega) (hstep.trans (by rw [hp];rfl)))) (cf rfl ?_)));refine bd hsub (bd (xZ (by simp;omega)) ?_);rw [uU (show w.length<2 ^ 40 by omega)];exact bd hsub2 rfl
    rw [this];refine ⟨y,hy,?_⟩;rw [hrf,hp,if_pos rfl,if_neg (show ¬ (w=[]∨4<=out.length) by rintro (h | h);exact hw h;omega)];exact hy2
theorem zTm (x:zC) (hx:x.Payload.length<2 ^ 20):cG x=rM x:=by
 rw [zK3 x hx];obtain ⟨y,hy,hy2⟩:=zYz x.Payload.length x.Payload [] FU (Nat.le_refl _) (sT (by omega)) (by simp) hx;unfold cG;refine bd hy ?_;cases y with
 | inl r=>obtain ⟨rfl,h⟩:=hy2;rw [h]
 | inr o=>simp only at hy2 ⊢;rw [hy2]
theorem eX (x:zC):tN x=vL x:=by
 unfold tN vL;rw [zNf,zWk];refine congrArg _ (funext λv=>?_);cases v with
 | true=>rfl
 | false=>
  simp only [Q7,cond_false];cases nmB x.Name with
  | false=>rfl
  | true=>
   simp only [Bool.not_true,cond_false];cases h:decide (64<(x.Payload.length:Int)) with
   | true=>rfl
   | false=>
    rw [decide_eq_false_iff_not] at h;rw [zTm x (by omega)]
theorem aV (x:zC):Def (vL x) (λr=>0<=r/\(r=0->1<=x.Role/\x.Role<=4/\0<=x.Version/\x.Version<=1000000/\x.Name.length<=12/\x.Payload.length<=64)):=by
 unfold vL;refine Q0 (P:=λb=>b=(decide (x.Role<1)||decide (4<x.Role)||decide (x.Version<0)||decide (1000000<x.Version))) ?_ (λb hb=>?_)
 ·cases h1:decide (x.Role<1)<;>cases h2:decide (4<x.Role)<;>cases h3:decide (x.Version<0)<;>exact Q1 (by simp)
 refine Q2 (λh=>Q1 ⟨by decide,λh=>by cases h⟩) (λh=>?_);rw [h] at hb;have hb:=hb.symm;simp only [Qu,decide_eq_false_iff_not] at hb;refine Q0 (Qn (zNf x.Name) (Q:=λr=>r=nmB x.Name) rfl) (λn hn=>?_);subst hn;refine Q2 (λh=>Q1 ⟨by decide,λh=>by cases h⟩) (λhn=>?_);refine Q2 (λh=>Q1 ⟨by decide,λh=>by cases h⟩) (λh=>?_);rw [decide_eq_false_iff_not] at h;refine Q0 (P:=λ_=>True) ?_ (λb _=>?_)
 ·refine Q2 (λ_=>Q0 (Qn (zK3 x (by omega)) (Q:=λ_=>True) trivial) (λ_ _=>Q1 trivial)) (λ_=>Q1 trivial)
 refine Q2 (λh=>Q1 ⟨by decide,λh=>by cases h⟩) (λ_=>Q1 ⟨by decide,λ_=>⟨by omega,by omega,by omega,by omega,?_,by omega⟩⟩);simp only [Bool.not_eq_false',nmB,W3,decide_eq_true_iff] at hn;exact hn.1.2
set_option maxRecDepth 100000
theorem zKo {X X' Y Y':Type} {f:X->Option (X ⊕ Y)} {g:X'->Option (X' ⊕ Y')} (R:X->X'->Prop) (S:Y->Y'->Prop)
  (h:∀ x x',R x x'->(f x=none/\g x'=none)∨(∃ y y',f x=some (.inl y)/\g x'=some (.inl y')/\R y y')∨∃ y y',f x=some (.inr y)/\g x'=some (.inr y')/\S y y') :
  ∀ (fuel:Nat) (x:X) (x':X'),R x x'->(zT f fuel x=none/\zT g fuel x'=none)∨∃ y y',zT f fuel x=some y/\zT g fuel x'=some y'/\S y y'
 | 0,_,_,_=>.inl ⟨rfl,rfl⟩
 | n+1,x,x',hr=>by
  simp only [zT];rcases h x x' hr with ⟨h1,h2⟩ | ⟨y,y',h1,h2,h3⟩ | ⟨y,y',h1,h2,h3⟩
  ·rw [h1,h2];exact .inl ⟨rfl,rfl⟩
  ·rw [h1,h2];exact zKo R S h n y y' h3
  ·rw [h1,h2];exact .inr ⟨y,y',rfl,rfl,h3⟩
def dH (x:zC):Prop:=vL x=some 0
theorem dH.f {x:zC} (h:dH x):1<=x.Role/\x.Role<=4/\0<=x.Version/\x.Version<=1000000/\x.Name.length<=12/\x.Payload.length<=64:=by
 obtain ⟨r,e,_,h2⟩:=aV x;rw [h] at e;exact h2 (Qr e).symm
theorem zS7 (l:List zC) (i:Nat) (hi:i<l.length) (h8:l.length<=8):zT (wR l[i] (l.take i)) FU 0=zT (wL l (i:Int)) FU 0:=by
 have:=zKo (f:=wR l[i] (l.take i)) (g:=wL l (i:Int)) (λa b=>a=b/\∃ k:Nat,a=(k:Int)) (λa b=>a=b) ?_ FU 0 0 ⟨rfl,0,rfl⟩
 ·rcases this with ⟨a,b⟩ | ⟨y,y',a,b,rfl⟩
  ·rw [a,b]
  ·rw [a,b]
 ·rintro a _ ⟨rfl,k,rfl⟩;right;have hlen:(l.take i).length=i:=by simp;omega
  by_cases hk:k<i
  ·have hkl:k<l.length:=by omega
   have hx:idx (l.take i) (k:Int)=some l[k]:=by rw [xO (by omega)];simp
   have hg:((l[k]).Role==(l[i]).Role&&(l[k]).Name==(l[i]).Name)=true->wR l[i] (l.take i) (k:Int)=some (.inr (.inl 42))/\wL l (i:Int) (k:Int)=some (.inr (.inl 42)):=by
    intro hb;rw [W3] at hb;constructor
    ·unfold wR;exact ct (by rw [hlen];simp;omega) (bd hx (bd (a:=true) (ct hb.1 (congrArg some hb.2)) (ct rfl rfl)))
    ·unfold wL;exact ct (by simp;omega) (bd (a:=true) (bd (xO hkl) (bd (xO hi) (ct hb.1 (bd (xO hkl) (bd (xO hi) (congrArg some hb.2)))))) (ct rfl rfl))
   have hn:((l[k]).Role==(l[i]).Role&&(l[k]).Name==(l[i]).Name)=false->wR l[i] (l.take i) (k:Int)=some (.inl ((k+1:Nat):Int))/\wL l (i:Int) (k:Int)=some (.inl ((k+1:Nat):Int)):=by
    intro hb;have hw:Q8.wrap ((k:Int)+1)=((k+1:Nat):Int):=uU (by omega);constructor
    ·unfold wR;refine ct (by rw [hlen];simp;omega) (bd hx (bd (a:=false) ?_ (cf rfl (by rw [hw]))));cases hr:(l[k]).Role==(l[i]).Role with
     | false=>rfl
     | true=>rw [hr] at hb;exact congrArg some hb
    ·unfold wL;refine ct (by simp;omega) (bd (a:=false) (bd (xO hkl) (bd (xO hi) ?_)) (cf rfl (by rw [hw])));cases hr:(l[k]).Role==(l[i]).Role with
     | false=>rfl
     | true=>rw [hr] at hb;exact ct rfl (bd (xO hkl) (bd (xO hi) (congrArg some hb)))
   cases hb:((l[k]).Role==(l[i]).Role&&(l[k]).Name==(l[i]).Name) with
   | true=>exact .inr ⟨_,_,(hg hb).1,(hg hb).2,rfl⟩
   | false=>exact .inl ⟨_,_,(hn hb).1,(hn hb).2,rfl,k+1,rfl⟩
  ·refine .inr ⟨.inr (),.inr (),?_,?_,rfl⟩
   ·unfold wR;exact cf (by rw [hlen];simp;omega) rfl
   ·unfold wL;exact cf (by simp;omega) rfl
theorem zPt (l:List zC) (i:Nat) (hi:i<l.length) (h8:l.length<=8):Def (zT (wL l (i:Int)) FU 0) (λr=>r=.inr ()∨r=.inl 42):=by
 refine Qd (λs=>∃ k:Nat,s=(k:Int)/\k<=i) (λs=>i - s.toNat) (λs hs=>?_) ⟨0,rfl,by omega⟩ (by simp;omega);obtain ⟨k,rfl,hk⟩:=hs;unfold wL;refine Q2 (λh=>?_) (λh=>Q1 (.inl rfl));have hki:=dT h;refine Q0 (P:=λ_=>True) ?_ (λb _=>?_)
 ·refine Q0 (Def.at' (show k<l.length by omega)) (λy _=>?_);refine Q0 (Def.at' hi) (λz _=>?_);refine Q2 (λ_=>?_) (λ_=>Q1 trivial);refine Q0 (Def.at' (show k<l.length by omega)) (λy _=>?_);exact Q0 (Def.at' hi) (λz _=>Q1 trivial)
 refine Q2 (λ_=>Q1 (.inr rfl)) (λ_=>Q1 ?_);rw [uU (by omega)];exact ⟨⟨k+1,rfl,by omega⟩,by simp only [Q6];omega⟩
theorem zTu {o:Option Bool} {b:Bool} (h:o=some b):(bif c then some true else o)=some (c||b):=by cases c<;>simp [h]
theorem yAb (l:List zC) (h8:l.length<=8) :
  ∃ y,wA l=wA l/\zT (wA l) FU (false,false,0)=some y/\(match y with
   | .inl r=>zT (wF l) FU (0,[false,false,false,false,false])=some (.inl r)/\0<r
   | .inr (fw,k)=>(∃ a b c,zT (wF l) FU (0,[false,false,false,false,false])=some (.inr [a,fw,b,k,c]))/\∀ x∈l,dH x):=by
 have tot:Def (zT (wA l) FU (false,false,0)) (λy=>match y with | .inl r=>0<r | .inr _=>∀ x∈l,dH x):=by
  refine Qd (λs=>∃ i:Nat,s.2.2=(i:Int)/\i<=l.length/\∀ x∈l.take i,dH x) (λs=>l.length - s.2.2.toNat) (λs hs=>?_) ⟨0,rfl,by omega,by simp⟩ (by simp;omega);obtain ⟨f,k,i'⟩:=s;obtain ⟨i,g1,g2,g3⟩:=hs;simp only at g1;subst g1;unfold wA;refine Q2 (λh=>?_) (λh=>Q1 ?_)
  ·have hi:i<l.length:=by have:=dT h;omega
   refine Q0 (Def.at' hi) (λy hy=>?_);subst hy;refine Q0 ((aV l[i]).get 0 |> λe=>(⟨_,e.1,⟨e.1,e.2.1⟩⟩:Def _ (λr=>vL l[i]=some r/\0<=r))) (λr hr=>?_);refine Q2 (λh=>Q1 ?_) (λh0=>?_)
   ·have:r≠0:=by simpa using h
    have:=hr.2;show 0<r;omega
   have h0':r=0:=by simpa using h0
   subst h0';refine Q0 (P:=λ_=>True) ?_ (λb hb=>?_)
   ·refine Q2 (λh0=>?_) (λ_=>Q1 trivial);have h0':=dT h0;refine Q0 (Def.at' hi) (λy hy=>?_);rw [xU (by omega) (by omega),show (i:Int) - 1=((i - 1:Nat):Int) by omega];exact Q0 (Def.at' (show i - 1<l.length by omega)) (λy hy=>Q1 trivial)
   refine Q2 (λh=>Q1 (show (0:Int)<41 by decide)) (λ_=>?_);refine Q0 (zPt l i hi h8) (λr' hr'=>?_);rcases hr' with rfl | rfl
   ·refine Q0 (P:=λ_=>True) (Q2 (λ_=>Q1 trivial) (λ_=>Q0 (Def.at' hi) (λy _=>Q1 trivial))) (λb1 _=>?_);refine Q0 (P:=λ_=>True) (Q2 (λ_=>Q1 trivial) (λ_=>Q0 (Def.at' hi) (λy _=>Q1 trivial))) (λb2 _=>Q1 ?_);rw [uU (by omega)];refine ⟨⟨i+1,rfl,by omega,λx hx=>?_⟩,by simp only [Q6];omega⟩;rcases jG hi hx with hx | rfl
    ·exact g3 x hx
    ·exact hr.1
   ·exact Q1 (show (0:Int)<42 by decide)
  ·have:=dF h;rw [Q9 (by omega)] at g3;exact g3
 obtain ⟨y,hy,hy2⟩:=tot;have sim:=zKo (f:=wF l) (g:=wA l) (λs t=>∃ (i:Nat) (a b c:Bool),s=((i:Int),[a,t.1,b,t.2.1,c])/\t.2.2=(i:Int)/\i<=l.length)
  (λy z=>match y,z with | .inl r,.inl r'=>r=r' | .inr s,.inr t=>∃ a b c,s=[a,t.1,b,t.2,c] | _,_=>False) ?_ FU (0,[false,false,false,false,false]) (false,false,0) ⟨0,false,false,false,rfl,rfl,by omega⟩
 ·rcases sim with ⟨_,b⟩ | ⟨s,t,a,b,c⟩
  ·rw [hy] at b;cases b
  ·rw [hy] at b;obtain rfl:=Qr b;refine ⟨y,rfl,hy,?_⟩;cases y with
   | inl r=>
    cases s with
    | inl r'=>exact ⟨by rw [a,show r'=r from c],hy2⟩
    | inr _=>exact c.elim
   | inr t=>
    cases s with
    | inl _=>exact c.elim
    | inr s=>
     obtain ⟨x1,x2,x3,x4⟩:=c;exact ⟨⟨x1,x2,x3,by rw [a,x4]⟩,hy2⟩
 ·rintro ⟨s1,s2⟩ ⟨fw,k,i'⟩ ⟨i,a,b,c,e,rfl,hle⟩;obtain ⟨rfl,rfl⟩:=Prod.mk.inj e;right;by_cases hi:i<l.length
  ·have hd:decide ((i:Int)<(l.length:Int))=true:=by simp;omega
   obtain ⟨r,er,r0,hr⟩:=aV l[i];have er':tN l[i]=some r:=(eX _).trans er;by_cases h0:r=0
   rotate_left
   ·refine .inr ⟨.inl r,.inl r,?_,?_,rfl⟩
    ·unfold wF;exact ct hd (bd (xO hi) (bd er' (ct (b1 h0) rfl)))
    ·unfold wA;exact ct hd (bd (xO hi) (bd er (ct (b1 h0) rfl)))
   obtain ⟨p1,p4,_⟩:=hr h0;subst h0;have ho:∃ o,(bif decide (0<(i:Int)) then (idx l (Q8.wrap ((i:Int) - 1))).bind λv_1235=>some (decide (l[i].Role<v_1235.Role)) else some false:Option Bool)=some o/\(bif decide (0<(i:Int)) then (idx l (i:Int)).bind λv_1313=>(idx l (Q8.wrap ((i:Int) - 1))).bind λv_1314=>some (decide (v_1313.Role<v_1314.Role)) else some false:Option Bool)=some o:=by
    cases hz:decide (0<(i:Int)) with
    | false=>exact ⟨false,rfl,rfl⟩
    | true=>
     have hz':0<(i:Int):=of_decide_eq_true hz;have hw:Q8.wrap ((i:Int) - 1)=((i - 1:Nat):Int):=by rw [xU (by omega) (by omega)];omega
     refine ⟨decide (l[i].Role<(l[i - 1]'(by omega)).Role),?_,?_⟩
     ·rw [hw];exact bd (xO (by omega)) rfl
     ·rw [hw];exact bd (xO hi) (bd (xO (by omega)) rfl)
   obtain ⟨o,o1,o2⟩:=ho;cases o with
   | true=>
    refine .inr ⟨.inl 41,.inl 41,?_,?_,rfl⟩
    ·unfold wF;exact ct hd (bd (xO hi) (bd er' (cf rfl (bd o1 (ct rfl rfl)))))
    ·unfold wA;exact ct hd (bd (xO hi) (bd er (cf rfl (bd o2 (ct rfl rfl)))))
   | false=>
    have hsub:sub l 0 (i:Int)=some (l.take i):=by
     have:=kT (l:=l) (a:=0) (b:=i) (Nat.zero_le _) (by omega);simpa using this
    obtain ⟨z,ez,hz⟩:=zPt l i hi h8;have ez':=(zS7 l i hi h8).trans ez;rcases hz with rfl | rfl
    rotate_left
    ·refine .inr ⟨.inl 42,.inl 42,?_,?_,rfl⟩
     ·unfold wF;exact ct hd (bd (xO hi) (bd er' (cf rfl (bd o1 (cf rfl (bd hsub (bd ez' rfl)))))))
     ·unfold wA;exact ct hd (bd (xO hi) (bd er (cf rfl (bd o2 (cf rfl (bd ez rfl))))))
    have hw:Q8.wrap ((i:Int)+1)=((i+1:Nat):Int):=uU (by omega);obtain ⟨n,hn⟩:=Qg (show 0<=l[i].Role by omega);have hn4:1<=n/\n<=4:=by omega
    have hix:ixN 5 l[i].Role=some n:=by rw [hn];simp [ixN];omega
    refine .inl ⟨(((i+1:Nat):Int),[a,fw,b,k,c].set n true),(fw||(l[i].Role==1),k||(l[i].Role==3),((i+1:Nat):Int)),?_,?_,?_⟩
    ·unfold wF;refine ct hd (bd (xO hi) (bd er' (cf rfl (bd o1 (cf rfl (bd hsub (bd ez' ?_)))))));refine bd hix (bd (a:=[a,fw,b,k,c].set n true) ?_ (by rw [hw]));simp [qG];omega
    ·unfold wA;refine ct hd (bd (xO hi) (bd er (cf rfl (bd o2 (cf rfl (bd ez ?_))))));refine bd (zTu (bd (xO hi) rfl)) (bd (zTu (bd (xO hi) rfl)) (by rw [hw]))
    ·rw [hn];have:n=1∨n=2∨n=3∨n=4:=by omega
     rcases this with rfl | rfl | rfl | rfl
     ·exact ⟨i+1,a,b,c,by simp,rfl,by omega⟩
     ·exact ⟨i+1,a,true,c,by simp,rfl,by omega⟩
     ·exact ⟨i+1,a,b,c,by simp,rfl,by omega⟩
     ·exact ⟨i+1,a,b,true,by simp,rfl,by omega⟩
  ·have hd:decide ((i:Int)<(l.length:Int))=false:=by simp;omega
   refine .inr ⟨.inr [a,fw,b,k,c],.inr (fw,k),?_,?_,a,b,c,rfl⟩
   ·unfold wF;exact cf hd rfl
   ·unfold wA;exact cf hd rfl
theorem zDy (l:List zC) (hl:l.length<2 ^ 40):Def (uK l) (λr=>xK l=some r/\0<=r/\(r=0->1<=l.length/\l.length<=8/\∀ x∈l,dH x)):=by
 by_cases hb:l.length=0∨8<l.length
 ·have hc:(bif ((l.length:Int)==0) then (some true) else some (decide (8<(l.length:Int))):Option Bool)=some true:=by
   rcases hb with hb | hb
   ·exact ct (by simp [hb]) rfl
   ·exact cf (by rw [beq_eq_false_iff_ne];omega) (congrArg some (by simp;omega))
  refine ⟨1,?_,?_,by decide,λe=>by cases e⟩
  ·unfold uK;exact bd hc (ct rfl rfl)
  ·unfold xK;exact bd hc (ct rfl rfl)
 ·have hc:(bif ((l.length:Int)==0) then (some true) else some (decide (8<(l.length:Int))):Option Bool)=some false:=cf (by rw [beq_eq_false_iff_ne];omega) (congrArg some (by simp;omega));obtain ⟨y,_,hy,hy2⟩:=yAb l (by omega);cases y with
  | inl r=>
   refine ⟨r,?_,?_,Int.le_of_lt hy2.2,λe=>absurd e (by have:=hy2.2;omega)⟩
   ·unfold uK;exact bd hc (cf rfl (bd hy rfl))
   ·unfold xK;exact bd hc (cf rfl (bd hy2.1 rfl))
  | inr t=>
   obtain ⟨fw,k⟩:=t;obtain ⟨⟨a,b,c,h1⟩,h2⟩:=hy2;refine ⟨if fw&&k then 0 else 40,?_,?_,by split<;>decide,λ_=>⟨by omega,by omega,h2⟩⟩
   ·unfold uK;refine bd hc (cf rfl (bd hy ?_));cases fw<;>cases k<;>rfl
   ·unfold xK;refine bd hc (cf rfl (bd h1 ?_));cases fw<;>cases k<;>rfl
set_option maxRecDepth 100000
theorem wBl (b x:By) (hb:b.length<2 ^ 30) (hx:x.length<=65535):xJ b x=some (b++bl x):=by
 rw [sO b x (by omega),zAa b hx];rfl
theorem zHl (x:zC) (h:x.Name.length<=65535) (h2:x.Payload.length<=65535):rK x=beN x.Role 1 1++(beN x.Version 4 4++(bl x.Name++(bl x.Payload++[]))):=by
 unfold rK bl;rw [zAa _ h2,zAa _ h];simp [vQ]
theorem zAq {x:zC} (h:dH x):(rK x).length<=85:=by
 obtain ⟨_,_,_,_,h5,h6⟩:=h.f;rw [zHl x (by omega) (by omega)];simp only [Q3,tG,cS,Qc];omega
theorem yDh {x:zC} (h:dH x):mZ x=some (rK x):=by
 obtain ⟨_,_,_,_,h5,h6⟩:=h.f;unfold mZ;refine bd ((eX x).trans h) (cf rfl ?_);have h3:(vQ (vQ [] 1 x.Role) 4 x.Version).length=5:=by rw [uH,uH];rfl
 have h4:=oU (vQ (vQ [] 1 x.Role) 4 x.Version) x.Name;refine bd (oS [] 1 _ (by omega) (by omega) (by simp)) ?_;refine bd (oS _ 4 _ (by omega) (by omega) (by rw [uH];simp)) ?_;refine bd (ckT (zYa (by omega))) ?_;refine bd (sO _ _ (by omega)) ?_;exact bd (sO _ _ (by omega)) rfl
theorem zZy {x:zC} (h:dH x):qV x=some (rK x):=by
 obtain ⟨_,_,_,_,h5,h6⟩:=h.f;unfold qV;refine bd h (cf rfl ?_);have h3:(vQ (vQ [] 1 x.Role) 4 x.Version).length=5:=by rw [uH,uH];rfl
 have h4:=oU (vQ (vQ [] 1 x.Role) 4 x.Version) x.Name;refine bd (zCs [] 1 _ (by omega) (by omega) (by simp)) ?_;refine bd (zCs _ 4 _ (by omega) (by omega) (by rw [uH];simp)) ?_;refine bd (ckT (zYa (by omega))) ?_;refine bd (jI _ _ (by omega)) ?_;exact bd (jI _ _ (by omega)) rfl
def kP (l:List zC):By:=beN (l.length:Int) 1 1++l.flatMap λx=>bl (rK x)
structure zB0 (l:List zC):Prop where
 r:uK l=some 0
 p:xK l=some 0
 h1:1<=l.length
 h8:l.length<=8
 im:∀ x∈l,dH x
theorem zYs (hl:l.length<2 ^ 40) (h:uK l=some 0):zB0 l:=by
 obtain ⟨r,e,h1,_,h2⟩:=zDy l hl;have:r=0:=Qr (e.symm.trans h);subst this;obtain ⟨a,b,c⟩:=h2 rfl;exact ⟨e,h1,a,b,c⟩
theorem zNi.ok (h:zNi l):zB0 l:=zYs (by have:=h.len;omega) (zTf l h)
theorem zTn (l:List zC) (h:∀ x∈l,dH x):(l.flatMap λx=>bl (rK x)).length<=87*l.length:=by
 induction l with
 | nil=>simp
 | cons x l ih=>
  have h1:=zAq (h x (by simp));have h2:=ih λy hy=>h y (by simp [hy]);simp only [Qe,Q3,cS,Q4];omega
theorem dB (h:zB0 l):8<=(kP l).length/\(kP l).length<=697:=by
 have h1:=zTn l h.im;have h8:=h.h8;refine ⟨?_,by unfold kP;rw [Q3,tG];omega⟩;obtain ⟨x,l',rfl⟩:∃ x l',l=x :: l':=by
  cases l with
  | nil=>exact absurd h.h1 (by decide)
  | cons x l'=>exact ⟨x,l',rfl⟩
 have:=(zWo x).1;unfold kP;simp only [Qe,Q3,cS,tG];omega
theorem zR9 (hi:i<l.length):((l.take (i+1)).flatMap λx=>bl (rK x))=((l.take i).flatMap λx=>bl (rK x))++bl (rK l[i]):=by
 rw [Qz,Qw];simp [hi]
theorem zT5 (h:∀ x∈l,dH x) (i:Nat):((l.take i).flatMap λx=>bl (rK x)).length<=87*l.length:=by
 have:=zTn (l.take i) λx hx=>h x (List.mem_of_mem_take hx);have h2:(l.take i).length<=l.length:=by simp;omega
 omega
theorem zZn (h:zB0 l):sJ l=some (kP l):=by
 have h8:=h.h8;unfold sJ;refine bd h.p (cf rfl (bd (wU [] 1 _ (by omega) (by omega) (by simp)) ?_));refine bd (a:=kP l) (vF l.length (λi=>(beN (l.length:Int) 1 1++((l.take i).flatMap λx=>bl (rK x)),(i:Int))) (by simp) (λi hi=>?_) ?_ (sT (by omega))) ?_
 ·have hx:=h.im _ (Q5 hi);have ht:=zT5 h.im i;unfold pR;refine ct (by simp;omega) (bd (xO hi) (bd (yDh hx) (bd (wBl _ _ ?_ (by have:=zAq hx;omega)) ?_)))
  ·rw [Q3,tG];omega
  ·rw [uU (by omega),zR9 hi,Qa]
 ·unfold pR;refine cf (by simp) ?_;rw [W4];rfl
 ·rfl
theorem yBm (h:zB0 l):uX l=some (kP l):=by
 have h8:=h.h8;have rU:∀ (b:By) (k:Nat) (n:Int),1<=k->k<=8->b.length<2 ^ 30->qK b (k:Int) n=some (b++beN n k k):=λb k n h1 h2 h3=>zCs b k n h1 h2 (by omega);unfold uX;refine bd h.r (cf rfl (bd (rU [] 1 _ (by omega) (by omega) (by simp)) ?_));refine bd (a:=kP l) (vF l.length (λi=>(beN (l.length:Int) 1 1++((l.take i).flatMap λx=>bl (rK x)),(i:Int))) (by simp) (λi hi=>?_) ?_ (sT (by omega))) ?_
 ·have hx:=h.im _ (Q5 hi);have ht:=zT5 h.im i;unfold pK;refine ct (by simp;omega) (bd (xO hi) (bd (zZy hx) (bd (jI _ _ ?_) ?_)))
  ·rw [Q3,tG];omega
  ·rw [uU (by omega),zR9 hi,zAa _ (by have:=zAq hx;omega),Qa];rfl
 ·unfold pK;refine cf (by simp) ?_;rw [W4];rfl
 ·rfl
theorem yD1 {x:zC} (h:dH x):nB (rK x)=some (x,0):=by
 obtain ⟨a1,a2,a3,a4,a5,a6⟩:=h.f;have hle:=zAq h;unfold nB;obtain ⟨r,g,e⟩:=zT6 (rK x) (by omega);refine bd e ?_;rw [zHl x (by omega) (by omega)] at g;obtain ⟨r1,g,e⟩:=rdU (k:=1) g (by omega) (by omega) (by omega) (by omega) (by omega);refine bd e ?_;obtain ⟨r2,g,e⟩:=rdU (k:=4) g (by omega) (by omega) (by omega) (by omega) (by omega);refine bd e ?_;obtain ⟨r3,g,e⟩:=zRv (k:=12) g (by omega) (by omega);refine bd e ?_;obtain ⟨r4,g,e⟩:=zRv (k:=64) g (by omega) (by omega);refine bd e ?_;have hc:tN (zC.mk x.Role x.Name x.Version x.Payload)=some 0:=(eX x).trans h;exact bd (bd (rdE g) (cf rfl (bd hc rfl))) rfl
theorem zV2 (b:By) (hb:b.length<2 ^ 30):∀ (m:List zC) (l:List zC) (r:RS) (fuel:Nat),m.length<fuel->(∀ x∈m,dH x)->l.length+m.length<=8->87<=b.length∨(∀ x∈m,(rK x).length<=b.length)->Rd r (m.flatMap λx=>bl (rK x)) ->
  ∃ r',Rd r' []/\zT (vA b) fuel (l,(m.length:Int),r.W.b_,r.W.at_,r.W.e_)=some (.inr (l++m,r'.W.b_,r'.W.at_,r'.W.e_))
 | [],l,r,f+1,_,_,_,_,g=>by
  refine ⟨r,g,?_⟩;simp only [zT];have:vA b (l,(([]:List zC).length:Int),r.W.b_,r.W.at_,r.W.e_)=some (.inr (.inr (l,r.W.b_,r.W.at_,r.W.e_))):=by
   unfold vA;exact bd (cf rfl rfl) (cf rfl rfl)
  rw [this,Qp]
 | x :: m,l,r,f+1,hf,hm,h8,hb2,g=>by
  have hx:=hm x (by simp);have hle:=zAq hx;simp only [Q4] at hf h8;have g':Rd r (bl (rK x)++(m.flatMap λx=>bl (rK x))):=g.cast (by simp);have hxb:(rK x).length<=b.length:=by
   rcases hb2 with h | h
   ·omega
   ·exact h x (by simp)
  obtain ⟨r1,g1,e1⟩:=zRv (k:=b.length) g' (by omega) hxb;obtain ⟨r2,g2,e2⟩:=zV2 b hb m (l++[x]) r1 f (by omega) (λy hy=>hm y (by simp [hy])) (by simp;omega) (by
   rcases hb2 with h | h
   ·exact .inl h
   ·exact .inr λy hy=>h y (by simp [hy])) g1
  refine ⟨r2,g2,?_⟩;simp only [zT];have:vA b (l,((x :: m).length:Int),r.W.b_,r.W.at_,r.W.e_)=some (.inl (l++[x],(m.length:Int),r1.W.b_,r1.W.at_,r1.W.e_)):=by
   unfold vA;refine bd (a:=(true,r.W.b_,r.W.at_,r.W.e_)) (ct (by simp) (bd (rdEr g) rfl)) (ct rfl ?_);refine bd e1 (bd (yD1 hx) (cf rfl (bd (xZ (by simp;omega)) ?_)));rw [Q4,xU (by omega) (by omega),show (((m.length+1:Nat):Int) - 1)=(m.length:Int) by omega]
  rw [this];simp only;rw [e2,Qa];rfl
theorem zVe:∀ x∈l,(rK x).length<=(kP l).length:=by
 intro x hx;unfold kP;rw [Q3];have:(bl (rK x)).length<=(l.flatMap λx=>bl (rK x)).length:=by
  induction l with
  | nil=>cases hx
  | cons y l ih=>
   rw [Qe,Q3];rcases Qb.1 hx with rfl | hx
   ·omega
   ·have:=ih hx;omega
 rw [cS] at this;omega
theorem yEe (h:zB0 l):vZ (kP l)=some (l,0):=by
 have hl:=dB h;have h8:=h.h8;unfold vZ;obtain ⟨r,g,e⟩:=zT6 (kP l) (by omega);refine bd e ?_;obtain ⟨r1,g,e⟩:=rdU (k:=1) (n:=(l.length:Int)) (r:=r) (rest:=l.flatMap λx=>bl (rK x)) g (by omega) (by omega) (by omega) (by omega) (by omega);refine bd e ?_;obtain ⟨r2,g2,e2⟩:=zV2 (kP l) (by omega) l [] r1 FU (sT (by omega)) h.im (by simpa using h8) (.inr zVe) g;refine bd e2 ?_;exact bd (bd (rdE g2) (cf rfl (bd h.p rfl))) (cf rfl rfl)
set_option maxRecDepth 100000
theorem zPa (a:List α) (f:α->α->Option Bool) (step:Int->Option (Int ⊕ (Bool ⊕ Unit))) (ha:a.length<2 ^ 40)
  (hs:∀ (i:Nat) (h:i<a.length),step (i:Int)=(f a[i] a[i]).bind λv=>bif !v then (some (.inr (.inl false))) else some (.inl (Q8.wrap ((i:Int)+1)))) (he:step (a.length:Int)=some (.inr (.inr ())))
  (hf:∀ x∈a,f x x=some true):zT step FU 0=some (.inr ()):=by
 refine vF a.length (λi=>(i:Int)) rfl (λi hi=>?_) he (sT (by omega));rw [hs i hi];refine bd (hf _ (Q5 _)) (cf rfl ?_);rw [xU (by omega) (by omega)];rfl
theorem zSo {b:List zC} (hl:a.length=b.length) (i:Nat) (h:i<a.length):uQ a b (i:Int)=(sG a[i] (b[i]'(hl▸h))).bind λv=>bif !v then (some (.inr (.inl false))) else some (.inl (Q8.wrap ((i:Int)+1))):=by
 unfold uQ;exact ct (decide_eq_true (by omega)) (bd (xO h) (bd (xO (hl▸h)) rfl))
theorem zU0 (a b:List zC):uQ a b (a.length:Int)=some (.inr (.inr ())):=by
 unfold uQ;exact cf (decide_eq_false (by omega)) rfl
theorem zUt (x y:zC) (h:x.Payload.length<2 ^ 40):sG x y=some (x.Role==y.Role&&(x.Name==y.Name&&(x.Version==y.Version&&x.Payload==y.Payload))):=by
 have hs:=zCe x.Payload y.Payload h;unfold sG;rw [hs];generalize (x.Role==y.Role)=a;generalize (x.Name==y.Name)=b;generalize (x.Version==y.Version)=c;cases a<;>cases b<;>cases c<;>rfl
theorem zM3 (h:zB0 a):rZ a a=some true:=by
 have h8:=h.h8;unfold rZ;refine cf (by simp) ?_;refine bd (zPa a sG (uQ a a) (by omega) (λi hi=>zSo rfl i hi) (zU0 a a) (λx hx=>?_)) rfl;rw [zUt x x (by have:=(h.im x hx).f;omega)];simp
set_option maxRecDepth 100000
theorem zDw (p:zI):wT p=pO p:=by
 unfold wT pO nY uS;have e:(p.Kind != 2)=!(p.Kind==2):=rfl;rw [e];generalize decide (p.Kind<1)=a1;generalize decide (3<p.Kind)=a2;generalize decide (p.Attr<0)=a3;generalize decide (7<p.Attr)=a4;generalize (uJ .i64 p.Attr 4 != 0)=a5;generalize (p.Kind==2)=a6;generalize (uJ .i64 p.Attr 1==0)=a7;generalize ((p.Policy.length:Int)==0)=a8;generalize decide (p.Height<0)=a9;generalize decide (3<p.Height)=b1;generalize (p.Height != 0)=b2;generalize ((p.Policy.length:Int) != 0)=b3;generalize ((p.Policy.length:Int) != 32)=b4;cases a1
 ·cases a2
  ·cases a3
   ·cases a4
    ·have h:∀ (o1 o2:Option Bool),o1=o2->∀ (f:Bool->Option Int),o1.bind f=o2.bind f:=λ_ _ h _=>by rw [h]
     cases a5<;>cases a6<;>cases a7<;>cases a8<;>cases a9<;>cases b1<;>cases b2<;>cases b3<;>cases b4<;>rfl
    ·rfl
   ·rfl
  ·rfl
 ·rfl
def zB3 (p:zI):By:=iU (iU [u8 p.Kind,u8 p.Attr,u8 p.Height] p.Policy) p.Unique
theorem zUc (p:zI):tJ p=some (zB3 p):=by
 have h2:=oU [u8 p.Kind,u8 p.Attr,u8 p.Height] p.Policy;unfold tJ;exact bd (sO _ _ (by simp)) (bd (sO _ _ (by simp only [Q4,Qc] at h2;omega)) rfl)
theorem zXe (p:zI):gW p=some (zB3 p):=by
 have h2:=oU [u8 p.Kind,u8 p.Attr,u8 p.Height] p.Policy;unfold gW;exact bd (jI _ _ (by simp)) (bd (jI _ _ (by simp only [Q4,Qc] at h2;omega)) rfl)
theorem zX7 {r:Int} (h:uK l=some r) (h0:r≠0):uX l=some []:=by
 unfold uX;exact bd h (ct (by simp [h0]) rfl)
theorem zUx (k:zS) (hk:∀ c∈k.Chains,c.length<2 ^ 40) (b:By) (i:Nat) (hb:b.length<2 ^ 38) (hn:k.Chains.length<2 ^ 40) :
  xC k (b,(i:Int))=vI k (b,(i:Int))/\(xC k (b,(i:Int))=some (.inr (.inl []))∨xC k (b,(i:Int))=some (.inr (.inr b))∨i<k.Chains.length/\∃ c,c.length<=b.length+65537/\xC k (b,(i:Int))=some (.inl (c,((i+1:Nat):Int)))):=by
 by_cases hi:i<k.Chains.length
 ·have hlt:decide ((i:Int)<(k.Chains.length:Int))=true:=by simp;omega
  obtain ⟨r,e1,e2,e3,e4⟩:=zDy k.Chains[i] (hk _ (Q5 hi));by_cases h0:r=0
  ·subst h0;have ho:=zYs (hk _ (Q5 hi)) e1;have hl:=dB ho;have q:xC k (b,(i:Int))=some (.inl (iU b (kP k.Chains[i]),((i+1:Nat):Int))):=by
    unfold xC;exact ct hlt (bd (xO hi) (bd e2 (cf rfl (bd (zZn ho) (bd (sO _ _ (by omega)) (by rw [uU (by omega)]))))))
   refine ⟨?_,.inr (.inr ⟨hi,_,oU _ _,q⟩)⟩;rw [q];unfold vI;refine (ct hlt (bd (xO hi) (bd (yBm ho) (cf ?_ (bd (jI _ _ (by omega)) (by rw [uU (by omega)]))))) ).symm;simp only [beq_eq_false_iff_ne,ne_eq];omega
  ·have q:xC k (b,(i:Int))=some (.inr (.inl [])):=by
    unfold xC;exact ct hlt (bd (xO hi) (bd e2 (ct (by simp [h0]) rfl)))
   refine ⟨?_,.inl q⟩;rw [q];unfold vI;exact (ct hlt (bd (xO hi) (bd (zX7 e1 h0) (ct rfl rfl)))).symm
 ·have hlt:decide ((i:Int)<(k.Chains.length:Int))=false:=by simp;omega
  have q:xC k (b,(i:Int))=some (.inr (.inr b)):=by unfold xC;exact cf hlt rfl
  refine ⟨?_,.inr (.inl q)⟩;rw [q];unfold vI;exact (cf hlt rfl).symm
theorem zPb (k:zS) (hk:∀ c∈k.Chains,c.length<2 ^ 40) (hn:k.Chains.length<=2):∀ (m i:Nat) (b:By) (fuel:Nat),m+i=3->m<fuel->b.length<2 ^ 30+100000*i->Def (zT (xC k) fuel (b,(i:Int))) λy=>zT (vI k) fuel (b,(i:Int))=some y/\(y=.inl []∨∃ z,y=.inr z/\z.length<2 ^ 31)
 | m,i,b,0,_,h,_=>by omega
 | m,i,b,f+1,hm,hf,hb=>by
  obtain ⟨e,h⟩:=zUx k hk b i (by omega) (by omega);simp only [zT];rw [<- e];rcases h with q | q | ⟨hi,c,hc,q⟩
  ·rw [q];exact ⟨_,rfl,rfl,.inl rfl⟩
  ·rw [q];exact ⟨_,rfl,rfl,.inr ⟨b,rfl,by omega⟩⟩
  ·rw [q]
   match m,hm,hf with
   | 0,hm,_=>omega
   | m+1,hm,hf=>exact zPb k hk hn m (i+1) c f (by omega) (by omega) (by omega)
theorem zN9 (p:zI):Def (pO p) (λ_=>True):=by
 unfold pO uS;refine Q0 (P:=λ_=>True) (Q2 (λ_=>Q1 trivial) λ_=>Q1 trivial) λ_ _=>Q2 (λ_=>Q1 trivial) λ_=>?_;refine Q0 (P:=λ_=>True) (Q2 (λ_=>Q1 trivial) λ_=>Q2 (λ_=>Q1 trivial) λ_=>Q2 (λ_=>Q2 (λ_=>Q1 trivial) λ_=>Q2 (λ_=>Q1 trivial) λ_=>Q1 trivial) λ_=>Q2 (λ_=>Q1 trivial) λ_=>Q1 trivial) λ_ _=>Q2 (λ_=>Q1 trivial) λ_=>?_;have u:∀ f:Int->Option Bool,(∀ z,Def (f z) λ_=>True)->Def ((bif p.Kind==2 then some 17 else some 32:Option Int).bind f) λ_=>True:=λf hf=>Q0 (P:=λ_=>True) (Q2 (λ_=>Q1 trivial) λ_=>Q1 trivial) λz _=>hf z;have w:Def ((bif p.Kind==2 then some 17 else some 32:Option Int).bind λv=>some ((p.Unique.length:Int) != v)) λ_=>True:=u _ λz=>Q1 trivial;refine Q0 (P:=λ_=>True) (Q2 (λ_=>Q1 trivial) λ_=>Q2 (λ_=>Q1 trivial) λ_=>Q2 (λ_=>Q2 (λ_=>Q1 trivial) λ_=>Q2 (λ_=>Q2 (λ_=>Q1 trivial) λ_=>w) λ_=>w) λ_=>Q2 (λ_=>Q2 (λ_=>Q1 trivial) λ_=>w) λ_=>w) λ_ _=>Q2 (λ_=>Q1 trivial) λ_=>Q1 trivial
theorem zPn (k:zS) (hk:∀ c∈k.Chains,c.length<2 ^ 40) (hn:k.Chains.length<2 ^ 40) (hp:k.Private.length<2 ^ 40):Def (vN k) λb=>oP k=some b/\b.length<2 ^ 40:=by
 obtain ⟨c,hc,_⟩:=zN9 k.Public;have hc':wT k.Public=some c:=(zDw _).trans hc;let bad:Bool:=decide (k.Epoch<0)||decide (1099511627776<=k.Epoch)||(decide (k.Chains.length≠1)&&decide (k.Chains.length≠2))||(c != 0)||decide (1024<k.Private.length);have n1:((k.Chains.length:Int) != 1)=decide (k.Chains.length≠1):=by rw [Qj];simp;omega
 have n2:((k.Chains.length:Int) != 2)=decide (k.Chains.length≠2):=by rw [Qj];simp;omega
 have n3:decide ((k.Chains.length:Int)<1)=decide (k.Chains.length=0):=decide_eq_decide.mpr (by constructor<;>intro h<;>omega);have n4:decide (2<(k.Chains.length:Int))=decide (2<k.Chains.length):=by rw [Qj,decide_eq_true_eq,decide_eq_true_eq];omega
 have n5:decide (1024<(k.Private.length:Int))=decide (1024<k.Private.length):=by rw [Qj,decide_eq_true_eq,decide_eq_true_eq];omega
 unfold vN oP;rw [hc',hc,n1,n2,n3,n4,n5];simp only [Q7];by_cases h:k.Epoch<0
 ·refine ⟨[],by simp [h],by simp [h],by simp⟩
 by_cases h2:1099511627776<=k.Epoch
 ·refine ⟨[],by simp [h,h2],by simp [h,h2],by simp⟩
 by_cases h3:k.Chains.length=1∨k.Chains.length=2
 case neg=>
  have g1:k.Chains.length≠1:=λe=>h3 (.inl e);have g2:k.Chains.length≠2:=λe=>h3 (.inr e);refine ⟨[],by simp [h,h2,g1,g2],?_,by simp⟩;by_cases g:k.Chains.length=0
  ·simp [h,h2,g]
  ·have:2<k.Chains.length:=by omega
   simp [h,h2,g,this]
 have g0:k.Chains.length≠0:=by omega
 have g2:¬ 2<k.Chains.length:=by omega
 by_cases h4:c=0
 case neg=>
  have hc0:(c != 0)=true:=by simp [h4]
  refine ⟨[],?_,by simp [h,h2,g0,g2,hc0],by simp⟩;rcases h3 with h3 | h3<;>simp [h,h2,h3,hc0]
 subst h4;by_cases h5:1024<k.Private.length
 ·refine ⟨[],?_,by simp [h,h2,g0,g2,h5],by simp⟩;rcases h3 with h3 | h3<;>simp [h,h2,h3,h5]
 have q:∀ (x y:Option By),(bif decide (k.Epoch<0) then some true else bif decide (1099511627776<=k.Epoch) then some true else bif decide (k.Chains.length≠1) then (bif decide (k.Chains.length≠2) then some true else bif (0:Int) != 0 then some true else some (decide (1024<k.Private.length))) else bif (0:Int) != 0 then some true else some (decide (1024<k.Private.length)))=some false:=λ_ _=>by
  rcases h3 with h3 | h3<;>simp [h,h2,h3,h5]
 rw [q none none];simp only [Q7,cond_false];have u1:yW [] 8 k.Epoch=some (vQ [] 8 k.Epoch):=oS [] 8 _ (by decide) (by decide) (by simp);have u2:yW (vQ [] 8 k.Epoch) 1 (k.Chains.length:Int)=some (vQ (vQ [] 8 k.Epoch) 1 (k.Chains.length:Int)):=oS _ 1 _ (by decide) (by decide) (by rw [uH];simp);have u3:qK [] 8 k.Epoch=some (vQ [] 8 k.Epoch):=zCs [] 8 _ (by decide) (by decide) (by simp);have u4:vQ [] 8 k.Epoch++[u8 (k.Chains.length:Int)]=vQ (vQ [] 8 k.Epoch) 1 (k.Chains.length:Int):=by
  rcases h3 with h3 | h3<;>(rw [h3];rfl)
 obtain ⟨y,y1,y2,y3⟩:=zPb k hk (by omega) 3 0 (vQ (vQ [] 8 k.Epoch) 1 (k.Chains.length:Int)) FU rfl (sT (by decide)) (by rw [uH,uH];simp);have y1:zT (xC k) FU (vQ (vQ [] 8 k.Epoch) 1 (k.Chains.length:Int),0)=some y:=y1;have y2:zT (vI k) FU (vQ (vQ [] 8 k.Epoch) 1 (k.Chains.length:Int),0)=some y:=y2;have r:(bif decide (k.Epoch<0) then some true else bif decide (1099511627776<=k.Epoch) then some true else bif decide (k.Chains.length=0) then some true else bif decide (2<k.Chains.length) then some true else bif (0:Int) != 0 then some true else some (decide (1024<k.Private.length)))=some false:=by
  simp [h,h2,g0,g2,h5]
 rw [r];simp only [Q7,cond_false];rw [u1,u3];simp only [Q7];rw [u2,xZ (b:=1) (by rw [uH];simp),u4];simp only [Q7];rw [y1,y2];simp only [Q7];rcases y3 with rfl | ⟨z,rfl,hz⟩
 ·exact ⟨[],rfl,rfl,by simp⟩
 ·
  have l1:=oU z (zB3 k.Public);have l2:=oU (iU z (zB3 k.Public)) k.Private;refine ⟨iU (iU z (zB3 k.Public)) k.Private,?_,?_,by omega⟩
  ·exact bd (zUc _) (bd (sO _ _ (by omega)) (bd (sO _ _ (by omega)) rfl))
  ·exact bd (zXe _) (bd (jI _ _ (by omega)) (bd (jI _ _ (by omega)) rfl))
end Go.Proofs.TT
