/- UpdateDecode holds for all inputs -/
import Derived.Test.YtegimnpiojonmaaGreatDoorBZ19
set_option linter.all false
open Go.Sw.Def renaming s -> Q0, c -> Q5, bd -> Q7, loop -> Qn
open List renaming append_assoc -> Q1, append_nil -> Q2, mem_singleton -> Q6, length_append -> Q8, take_append_drop -> Q9, flatMap_append -> Qb, nil_append -> Qc, flatMap_cons -> Qd, length_take -> Qe, length_cons -> Qf, cons_append -> Qg, flatMap_nil -> Qi, mem_append -> Qj, replicate -> Ql
open Nat renaming zero_le -> Q3, pow_le_pow_right -> Qm
open Go.IntKind renaming i64 -> Q4
open Bool renaming and_eq_false_iff -> Qa, and_eq_true -> Qh, eq_iff_iff -> Qk, true_and -> Qo
namespace Go.Proofs.TT
open Go Go.Sw
set_option maxRecDepth 100000
variable {b:By}{k:Nat}{l m:By}{p:zI}{r:RS}{w:By}
theorem zTb (n m:Int) (h1:1<=m) (h2:m<=2 ^ 60):∃ r,eI n m=some r/\0<=r/\r<m:=by
 have a:=Int.tmod_lt_of_pos n (show 0<m by omega);have b:-m<Int.tmod n m:=by
  have:=Int.lt_tmod_of_pos n (show 0<m by omega);omega
 unfold eI;refine ⟨if Int.tmod n m<0 then Int.tmod n m+m else Int.tmod n m,cf (decide_eq_false (by omega)) (bd (a:=()) ?_ ?_),?_⟩
 ·have:(m==0)=false:=by rw [beq_eq_false_iff_ne];omega
  rw [this];rfl
 ·by_cases h:Int.tmod n m<0
  ·rw [if_pos h];exact bd (ct (decide_eq_true h) (by rw [xU (by omega) (by omega)])) rfl
  ·rw [if_neg h];exact bd (cf (decide_eq_false h) rfl) rfl
 ·split<;>omega
theorem zTq (b:By):∃ r,aA b=some r/\r.length=32:=by
 have hl:(cpy (Ql 32 (0:UInt8)) b).length=32:=by
  unfold cpy;simp only [Q8,Qe,List.length_drop,List.length_replicate];omega
 refine ⟨cpy (Ql 32 (0:UInt8)) b,?_,hl⟩;unfold aA;refine bd (show mkN 1 32=some 32 from rfl) (bd (a:=()) (by simp [ck]) ?_);show (ck (Nat.beq (cpy (Ql 32 (0:UInt8)) b).length 32)).bind _=_;rw [hl];rfl
theorem zWm (b:By) (n:Nat):∃ r,zCl b (n:Int)=some r/\r.length<=n:=by
 unfold zCl;by_cases h:n<b.length
 ·refine ⟨b.take n,ct (decide_eq_true (by omega)) ?_,by rw [Qe];omega⟩;rw [show (0:Int)=((0:Nat):Int) from rfl];exact bd (kT (by omega) (by omega)) (by simp)
 ·exact ⟨b,cf (decide_eq_false (by omega)) rfl,by omega⟩
theorem pub0 {pol un:By} (hp:pol.length=32) (hu:un.length=32):wT (zI.mk 3 0 0 pol un)=some 0:=by
 unfold wT nY;simp only [hp,hu];rfl
theorem zUv (codes more:By) (epoch:Int) (two:Bool) (priv:By):∃ k,fD codes more epoch two priv=some k/\KOk k:=by
 obtain ⟨e,h1,e0,e1⟩:=zTb epoch 1099511627776 (by decide) (by decide);obtain ⟨c,h2,c1⟩:=zPl codes;obtain ⟨d,h3,d1⟩:=zPl more;obtain ⟨p,h4,p1⟩:=zTq priv;obtain ⟨u,h5,u1⟩:=zTq [117];obtain ⟨v,h6,v1⟩:=zWm priv 200;unfold fD;cases two with
 | true=>
  refine ⟨zS.mk e [c,d] (zI.mk 3 0 0 p u) v,bd h1 (bd h2 (bd h4 (bd h5 (bd h6 (bd (ct rfl (bd h3 (bd (xZ (by simp)) rfl))) rfl))))),?_⟩;exact ⟨e0,e1,.inr rfl,λx hx=>by rcases List.mem_cons.1 hx with rfl | hx;exact c1.ok;rw [Q6.1 hx];exact d1.ok,pub0 p1 u1,⟨by simp only;omega,by simp only;omega⟩,⟨by simp only;omega,by simp only;omega⟩,⟨by simp only;omega,by simp only;omega⟩,by simp only;omega,by simp only;omega,by simp only;omega⟩
 | false=>
  refine ⟨zS.mk e [c] (zI.mk 3 0 0 p u) v,bd h1 (bd h2 (bd h4 (bd h5 (bd h6 (bd (cf rfl rfl) rfl))))),?_⟩;exact ⟨e0,e1,.inl rfl,λx hx=>by rw [Q6.1 hx];exact c1.ok,pub0 p1 u1,⟨by simp only;omega,by simp only;omega⟩,⟨by simp only;omega,by simp only;omega⟩,⟨by simp only;omega,by simp only;omega⟩,by simp only;omega,by simp only;omega,by simp only;omega⟩
theorem zZc (hp:p.Policy.length<=32) (hu:p.Unique.length<=32):zA0 p p=some true:=by
 unfold zA0;rw [zCe _ _ (by omega),zCe _ _ (by omega)];simp
theorem zXq {k:zS} (h:KOk k):rH k k=some true:=by
 have hn:k.Chains.length<=2:=by have:=h.n;omega
 have hv:=h.v;unfold rH;refine bd (a:=false) ?_ (cf rfl ?_)
 ·refine cf (by simp) (cf (by simp) (bd (zZc h.pl h.ul) (cf rfl (bd (zCe _ _ (by omega)) (by simp)))))
 ·refine bd (zPa k.Chains rZ (pH k k) (by omega) (λi hi=>?_) ?_ λx hx=>zM3 (h.c x hx)) rfl
  ·unfold pH;exact ct (decide_eq_true (by omega)) (bd (xO hi) (bd (xO hi) rfl))
  ·unfold pH;exact cf (decide_eq_false (by omega)) rfl
set_option maxRecDepth 100000
def nV (l:By):Nat->Nat
 | 0=>0
 | k+1=>nV l k*256+(l.getD k 0).toNat
theorem zTp (l:By):∀ k,nV l k<256 ^ k
 | 0=>by simp [nV]
 | k+1=>by
  have h1:=zTp l k;have h2:=(l.getD k 0).toNat_lt;rw [Nat.pow_succ];unfold nV;omega
theorem zP9 (l:By):∀ k,k<=8->beV l k=(nV l k:Int)
 | 0,_=>rfl
 | k+1,h=>by
  have h1:=zTp l k;have h2:256 ^ k<=256 ^ 7:=Qm (by decide) (by omega);have h3:=(l.getD k 0).toNat_lt;unfold beV;rw [zP9 l k (by omega),zNn _ _ (by omega) (by omega)];rfl
theorem zV9:∀ k,nV l k=nV m k->∀ j,j<k->l.getD j 0=m.getD j 0
 | 0,_,j,h=>by omega
 | k+1,h,j,hj=>by
  have a:=(l.getD k 0).toNat_lt;have b:=(m.getD k 0).toNat_lt;unfold nV at h;rcases Nat.lt_or_ge j k with h' | h'
  ·exact zV9 k (by omega) j h'
  ·obtain rfl:j=k:=by omega
   exact UInt8.toNat_inj.1 (by omega)
theorem yGb (hl:l.length=m.length) (h:nV l l.length=nV m l.length):l=m:=by
 apply List.ext_getElem hl;intro i h1 h2;have:=zV9 _ h i h1;rw [List.getD_eq_getElem?_getD,List.getD_eq_getElem?_getD,List.getElem?_eq_getElem h1,List.getElem?_eq_getElem h2] at this;exact this
theorem zPx (l:By) (hk:l.length=k) (h8:k<=8):beN (nV l k:Int) k k=l:=by
 have h1:=zTp l k;have h2:256 ^ k<=256 ^ 8:=Qm (by decide) h8;have hb:=zPz (nV l k) k (by omega) h8 h1 k (Nat.le_refl _);rw [Nat.sub_self,Nat.pow_zero,Nat.div_one,zP9 _ _ h8] at hb;refine yGb (by rw [tG,hk]) ?_;rw [tG];omega
structure Rx (r:RS) (b w:By):Prop where
 o:r.Ok
 c:r.e≠0∨∃ rest,b=w++rest/\Rem r rest
theorem zT8 (b:By) (hb:b.length<2 ^ 40):∃ r,Rx r b []/\uP b=some r.W:=⟨⟨b,0,0⟩,⟨⟨Q3 _,hb⟩,.inr ⟨b,rfl,rfl,Q3 _,rfl⟩⟩,wnew b hb⟩
section
theorem Rx.uintR (h:Rx r b w) (h8:k<=8):0<=(wI r k).1/\(wI r k).1<9223372036854775808/\(wI r k).1.toNat<256 ^ k/\Rx (wI r k).2 b (w++beN (wI r k).1 k k):=by
 have ok:=aK r k h.o;have hp:0<256 ^ k:=Nat.pow_pos (by decide);rcases h.c with he | ⟨rest,hb,hr⟩
 ·have e:wI r k=(0,r):=by simp [wI,he]
  rw [e] at ok ⊢;exact ⟨Int.le_refl 0,(by decide:(0:Int)<9223372036854775808),hp,ok,.inl he⟩
 ·have hl:=hr.left;by_cases hk:r.left<k
  ·have e:wI r k=(0,r.err 2):=by simp [wI,hr.e,hk]
   rw [e] at ok ⊢;exact ⟨Int.le_refl 0,(by decide:(0:Int)<9223372036854775808),hp,ok,.inl (by show (2:Int)≠0;decide)⟩
  by_cases hv:9223372036854775808<=beV (r.get k) k
  ·have e:wI r k=(0,r.err 4):=by simp [wI,hr.e,hk,hv]
   rw [e] at ok ⊢;exact ⟨Int.le_refl 0,(by decide:(0:Int)<9223372036854775808),hp,ok,.inl (by show (4:Int)≠0;decide)⟩
  have hg:=RS.get_len r k (by omega);have hn:=zTp (r.get k) k;rw [zP9 _ _ h8] at hv;have e:wI r k=((nV (r.get k) k:Int),r.to k):=by
   unfold wI;rw [if_neg (by simp [hr.e]),if_neg hk,zP9 _ _ h8,if_neg hv,xU (by omega) (by omega)]
  rw [e] at ok ⊢;refine ⟨by simp only;omega,by simp only;omega,by simp only;omega,ok,.inr ⟨rest.drop k,?_,?_⟩⟩
  ·simp only;rw [zPx _ hg h8,Q1,hb];congr 1;unfold RS.get;rw [hr.d,Q9]
  ·refine Rem.to (x:=rest.take k) ?_ (by rw [Qe];omega);rw [Q9];exact hr
theorem yGh (x y:UInt8):beN ((x.toNat*256+y.toNat:Nat):Int) 2 2=[x,y]:=by
 have:=zPx [x,y] (k:=2) rfl (by decide);have e:nV [x,y] 2=x.toNat*256+y.toNat:=by simp [nV]
 rw [e] at this;exact this
theorem Rx.blobR {m:Nat} (h:Rx r b w):(xT r m).1.length<=m/\(xT r m).1.length<=65535/\Rx (xT r m).2 b (w++bl (xT r m).1):=by
 have ok:=zJc r m h.o;rcases h.c with he | ⟨rest,hb,hr⟩
 ·have e:xT r m=([],r):=by simp [xT,he]
  rw [e] at ok ⊢;exact ⟨Q3 _,Q3 _,ok,.inl he⟩
 ·have hl:=hr.left;by_cases h2:r.left<2
  ·have e:xT r m=([],r.err 2):=by simp [xT,hr.e,h2]
   rw [e] at ok ⊢;exact ⟨Q3 _,Q3 _,ok,.inl (by show (2:Int)≠0;decide)⟩
  by_cases hm:m<v2 r
  ·have e:xT r m=([],r.err 4):=by simp [xT,hr.e,h2,hm]
   rw [e] at ok ⊢;exact ⟨Q3 _,Q3 _,ok,.inl (by show (4:Int)≠0;decide)⟩
  by_cases hv:r.left<2+v2 r
  ·have e:xT r m=([],r.err 2):=by simp [xT,hr.e,h2,hm,hv]
   rw [e] at ok ⊢;exact ⟨Q3 _,Q3 _,ok,.inl (by show (2:Int)≠0;decide)⟩
  have e:xT r m=((r.b.drop (r.at'+2)).take (v2 r),r.to (2+v2 r)):=by
   unfold xT;rw [if_neg (by simp [hr.e]),if_neg h2,if_neg hm,if_neg hv]
  match rest,hl,hb,hr with
  | [],hl,_,_=>simp at hl;omega
  | [_],hl,_,_=>simp at hl;omega
  | p :: q :: t,hl,hb,hr=>
   have hd:=hr.d;have e0:r.b.getD r.at' 0=p:=by
    have:=congrArg (·[0]?) hd;simp only [List.getElem?_drop,Nat.add_zero,List.getElem?_cons_zero] at this;rw [List.getD_eq_getElem?_getD,this];rfl
   have e1:r.b.getD (r.at'+1) 0=q:=by
    have:=congrArg (·[1]?) hd;simp only [List.getElem?_drop,List.getElem?_cons_succ,List.getElem?_cons_zero] at this;rw [List.getD_eq_getElem?_getD,this];rfl
   have ev:v2 r=p.toNat*256+q.toNat:=by unfold v2;rw [e0,e1]
   have ed:r.b.drop (r.at'+2)=t:=by rw [<- List.drop_drop,hd];rfl
   simp only [Qf] at hl;have hx:(t.take (v2 r)).length=v2 r:=by rw [Qe];omega
   have hp:=p.toNat_lt;have hq:=q.toNat_lt;rw [e] at ok ⊢;simp only at ok ⊢;rw [ed,hx];refine ⟨by omega,by omega,ok,.inr ⟨t.drop (v2 r),?_,?_⟩⟩
   ·rw [hb];unfold bl;rw [hx,ev,yGh];simp only [Q1,Qg,Qc,<- ev,Q9]
   ·refine Rem.to (x:=p :: q :: t.take (v2 r)) ?_ (by simp only [Qf,hx];omega);simp only [Qg,Q9];exact hr
theorem Rx.endR (h:Rx r b w) (he:iY r=0):b=w:=by
 unfold iY at he;rcases h.c with h0 | ⟨rest,hb,hr⟩
 ·split at he
  ·rename_i hc;exact absurd hc.1 h0
  ·exact absurd he h0
 ·have hl:=hr.left;split at he
  ·cases he
  ·rename_i hc;have:rest=[]:=List.eq_nil_of_length_eq_zero (by
    have:¬ 0<r.left:=λh=>hc ⟨hr.e,h⟩;omega)
   rw [hb,this,Q2]
theorem rxU (h:Rx r b w) (h1:1<=k) (h8:k<=8):∃ v r',yG r.W (k:Int)=some (v,r'.W)/\0<=v/\v<9223372036854775808/\v.toNat<256 ^ k/\Rx r' b (w++beN v k k):=
 have ⟨a,c,d,e⟩:=h.uintR h8
 ⟨_,_,bD r k h.o h1 h8,a,c,d,e⟩
theorem rxB (m:Nat) (h:Rx r b w):∃ x r',yO r.W (m:Int)=some (x,r'.W)/\x.length<=m/\x.length<=65535/\Rx r' b (w++bl x):=
 have ⟨a,c,d⟩:=h.blobR (m:=m)
 ⟨_,_,jC r m h.o,a,c,d⟩
theorem rxE (h:Rx r b w):∃ e,xN r.W=some (e,r.W)/\(e=0->b=w):=⟨_,dP r h.o,h.endR⟩
end
theorem zZb (b:By) (hb:b.length<2 ^ 40):Def (nB b) λy=>(y.2=0/\dH y.1/\rK y.1=b)∨y=(zC.mk 0 [] 0 [],30):=by
 unfold nB;obtain ⟨r0,h0,e0⟩:=zT8 b hb;refine db e0 ?_;obtain ⟨v1,r1,e1,a1,b1,c1,h1⟩:=rxU (k:=1) h0 (by decide) (by decide);refine db e1 ?_;obtain ⟨v2,r2,e2,a2,b2,c2,h2⟩:=rxU (k:=4) h1 (by decide) (by decide);refine db e2 ?_;obtain ⟨x3,r3,e3,a3,b3,h3⟩:=rxB 12 h2;refine db e3 ?_;obtain ⟨x4,r4,e4,a4,b4,h4⟩:=rxB 64 h3;refine db e4 ?_;obtain ⟨e,e5,h5⟩:=rxE h4;refine Q7 (P:=λz=>z=false->e=0/\tN (zC.mk v1 x3 v2 x4)=some 0) (db e5 (Q5 (λ_=>Q0 (λh=>by cases h)) λhe=>?_)) λz hz=>Q5 (λ_=>Q0 (.inr rfl)) λhz0=>Q0 (.inl ?_)
 ·obtain ⟨c,hc,_⟩:=aV (zC.mk v1 x3 v2 x4);rw [<- eX] at hc;refine db hc (Q0 λh=>⟨by simpa using he,?_⟩);have:c=0:=by simpa using h
  rw [hc,this]
 ·obtain ⟨z1,z2⟩:=hz hz0;refine ⟨rfl,(eX _).symm.trans z2,?_⟩;rw [zHl _ b3 b4,h5 z1];simp only [Qc,Q1,Q2]
theorem zUp (p:zI):Def (wT p) (λ_=>True):=(zDw p)▸zN9 p
theorem zW2 (b:By) (hb:b.length<2 ^ 40):Def (sL b) λy=>(y.2=0/\wT y.1=some 0/\zB3 y.1=b/\(0<=y.1.Kind/\y.1.Kind<256)/\(0<=y.1.Attr/\y.1.Attr<256)/\(0<=y.1.Height/\y.1.Height<256)/\y.1.Policy.length<=32/\y.1.Unique.length<=32)∨y.2≠0:=by
 have b1':∀ v:Int,0<=v->v.toNat<256 ^ 1->beN v 1 1=[u8 v]:=λv h1 h2=>by
  obtain ⟨n,rfl⟩:=Int.eq_ofNat_of_zero_le h1;have hn:n<256:=by simpa using h2
  have h3:=zPx [u8 (n:Int)] (k:=1) rfl (by decide);have h4:nV [u8 (n:Int)] 1=n:=by
   show 0*256+(u8 (n:Int)).toNat=n;rw [jN];omega
  rw [h4] at h3;exact h3
 unfold sL;obtain ⟨r0,h0,e0⟩:=zT8 b hb;refine db e0 ?_;obtain ⟨v1,r1,e1,a1,_,c1,h1⟩:=rxU (k:=1) h0 (by decide) (by decide);refine db e1 ?_;obtain ⟨v2,r2,e2,a2,_,c2,h2⟩:=rxU (k:=1) h1 (by decide) (by decide);refine db e2 ?_;obtain ⟨v3,r3,e3,a3,_,c3,h3⟩:=rxU (k:=1) h2 (by decide) (by decide);refine db e3 ?_;obtain ⟨x4,r4,e4,a4,b4,h4⟩:=rxB 32 h3;refine db e4 ?_;obtain ⟨x5,r5,e5,a5,b5,h5⟩:=rxB 32 h4;refine db e5 ?_;obtain ⟨e,e6,h6⟩:=rxE h5;refine db e6 (Q5 (λhe=>Q0 (.inr (by simpa using he))) λhe=>?_);obtain ⟨c,hc,_⟩:=zUp (zI.mk v1 v2 v3 x4 x5);refine db hc (Q5 (λh=>Q0 (.inr (by simpa using h))) λh=>Q0 (.inl ?_));have hc0:c=0:=by simpa using h
 have he0:e=0:=by simpa using he
 have q1:v1.toNat<256:=by simpa using c1
 have q2:v2.toNat<256:=by simpa using c2
 have q3:v3.toNat<256:=by simpa using c3
 refine ⟨rfl,by rw [hc,hc0],?_,⟨a1,by simp only;omega⟩,⟨a2,by simp only;omega⟩,⟨a3,by simp only;omega⟩,a4,a5⟩;rw [zHs _ a4 a5,h6 he0,b1' v1 a1 c1,b1' v2 a2 c2,b1' v3 a3 c3];simp only [Qc,Q1,Q2,Qg]
theorem errR (r:RS):wG r.W=some (r.e,r.W):=rfl
theorem zYi (b:By) (hb:b.length<2 ^ 40):Def (vZ b) λy=>(y.2=0/\zB0 y.1/\kP y.1=b)∨y=([],30):=by
 unfold vZ;obtain ⟨r0,h0,e0⟩:=zT8 b hb;refine db e0 ?_;obtain ⟨n,r1,e1,a1,_,c1,h1⟩:=rxU (k:=1) h0 (by decide) (by decide);refine db e1 ?_;have hn:n<256:=by
             have:n.toNat<256:=by simpa using c1
             omega
 refine Q7 (P:=λy=>y=.inl ([],30)∨∃ l r,y=.inr (l,r.W.b_,r.W.at_,r.W.e_)/\Rx r b (beN n 1 1++l.flatMap λx=>bl (rK x))/\(r.e=0->(l.length:Int)=n)/\(∀ x∈l,dH x)/\l.length<=255)
  (Qn (λs=>∃ l m r,s=(l,m,r.W.b_,r.W.at_,r.W.e_)/\0<=m/\m+(l.length:Int)=n/\Rx r b (beN n 1 1++l.flatMap λx=>bl (rK x))/\∀ x∈l,dH x) (λs=>s.2.1.toNat) ?_ ⟨[],n,r1,rfl,a1,by simp,by simpa using h1,by simp⟩ (by simp only;omega)) ?_
 ·rintro s ⟨l,m,r,rfl,hm,hs,hx,ho⟩;unfold vA;refine db (a:=(decide (0<m)&&r.e==0,r.W.b_,r.W.at_,r.W.e_)) ?_ (Q5 (λhc=>?_) λhc=>Q0 (.inr ⟨l,r,rfl,hx,λhe=>?_,ho,by omega⟩))
  ·by_cases h:0<m
   ·rw [decide_eq_true h];exact ct rfl (bd (errR r) (by rw [Qo]))
   ·rw [decide_eq_false h];rfl
  ·simp only [Qh,decide_eq_true_eq] at hc;obtain ⟨x,r',e2,_,b2,h2⟩:=rxB b.length hx;refine db e2 (Q7 (zZb x (by omega)) λy hy=>?_);obtain ⟨v,e⟩:=y;rcases hy with ⟨he,hv,hvx⟩ | hy
   ·refine dcf (by simp only at he;rw [he];rfl) (db (xZ (by simp;omega)) (Q0 ?_));rw [xU (by omega) (by omega)];refine ⟨⟨l++[v],m - 1,r',rfl,by omega,by simp;omega,?_,?_⟩,by simp only;omega⟩
    ·simp only at hvx;rw [Qb,Qd,Qi,Q2,hvx,<- Q1];exact h2
    ·intro z hz;rcases Qj.1 hz with h | h
     ·exact ho z h
     ·rw [Q6.1 h];exact hv
   ·cases hy;exact dct rfl (Q0 (.inl rfl))
  ·simp only [Qa,decide_eq_false_iff_not,beq_eq_false_iff_ne,ne_eq] at hc;rcases hc with h | h
   ·omega
   ·exact absurd he h
 ·rintro y (rfl | ⟨l,r,rfl,hx,hl,ho,h255⟩)
  ·exact Q0 (.inr rfl)
  ·obtain ⟨e,e3,h3⟩:=rxE hx;obtain ⟨c,hc,hc1,_,_⟩:=zDy l (by omega);refine Q7 (P:=λz=>z=false->e=0/\c=0) (db e3 (Q5 (λ_=>Q0 (λh=>by cases h)) λhe=>db hc1 (Q0 λh=>⟨by simpa using he,by simpa using h⟩))) λz hz=>Q5 (λ_=>Q0 (.inr rfl)) λhz0=>Q0 (.inl ?_);obtain ⟨z1,z2⟩:=hz hz0;subst z2;have hb':=h3 z1;have hr0:r.e=0:=by
    have:=dP r hx.o;rw [e3] at this;have he:e=iY r:=by cases this;rfl
    rw [z1] at he;unfold iY at he;split at he
    ·cases he
    ·exact he.symm
   refine ⟨rfl,zYs (show l.length<2 ^ 40 by omega) hc,?_⟩;unfold kP;rw [hl hr0];exact hb'.symm
theorem zVp (k:zS):(0<=k.Epoch/\k.Epoch<1099511627776/\(k.Chains.length=1∨k.Chains.length=2)/\wT k.Public=some 0/\k.Private.length<=1024)∨vN k=some []:=by
 obtain ⟨c,hc,_⟩:=zUp k.Public;have n1:((k.Chains.length:Int) != 1)=decide (k.Chains.length≠1):=by rw [Qk];simp;omega
 have n2:((k.Chains.length:Int) != 2)=decide (k.Chains.length≠2):=by rw [Qk];simp;omega
 have n5:decide (1024<(k.Private.length:Int))=decide (1024<k.Private.length):=by rw [Qk,decide_eq_true_eq,decide_eq_true_eq];omega
 unfold vN;rw [hc,n1,n2,n5];simp only [Option.bind_some];by_cases h:k.Epoch<0
 ·right;simp [h]
 by_cases h2:1099511627776<=k.Epoch
 ·right;simp [h,h2]
 by_cases h3:k.Chains.length=1∨k.Chains.length=2
 case neg=>
  have g1:k.Chains.length≠1:=λe=>h3 (.inl e);have g2:k.Chains.length≠2:=λe=>h3 (.inr e);right;simp [h,h2,g1,g2]
 by_cases h4:c=0
 case neg=>
  have hc0:(c != 0)=true:=by simp [h4]
  right;rcases h3 with h3 | h3<;>simp [h,h2,h3,hc0]
 subst h4;by_cases h5:1024<k.Private.length
 ·right;rcases h3 with h3 | h3<;>simp [h,h2,h3,h5]
 exact .inl ⟨by omega,by omega,h3,rfl,by omega⟩
theorem yAa (b:By) (hb:b.length<2 ^ 30):Def (vV b) λy=>(y.2=0/\KOk y.1/\eB y.1=b)∨y=((default:zS),30):=by
 unfold vV;obtain ⟨r0,h0,e0⟩:=zT8 b (by omega);refine db e0 ?_;obtain ⟨ep,r1,e1,a1,b1,c1,h1⟩:=rxU (k:=8) h0 (by decide) (by decide);refine db e1 ?_;obtain ⟨n,r2,e2,a2,_,c2,h2⟩:=rxU (k:=1) h1 (by decide) (by decide);refine db e2 ?_;have hn:n<256:=by
             have:n.toNat<256:=by simpa using c2
             omega
 refine Q7 (P:=λy=>y=.inl ((default:zS),30)∨∃ l r,y=.inr (l,r.W.b_,r.W.at_,r.W.e_)/\Rx r b (beN ep 8 8++(beN n 1 1++oR l))/\(r.e=0->(l.length:Int)=n)/\(∀ x∈l,zB0 x)/\l.length<=255)
  (Qn (λs=>∃ l m r,s=(m,l,r.W.b_,r.W.at_,r.W.e_)/\0<=m/\m+(l.length:Int)=n/\Rx r b (beN ep 8 8++(beN n 1 1++oR l))/\∀ x∈l,zB0 x) (λs=>s.1.toNat) ?_ ⟨[],n,r2,rfl,a2,by simp,by simpa [oR] using h2,by simp⟩ (by simp only;omega)) ?_
 ·rintro s ⟨l,m,r,rfl,hm,hs,hx,ho⟩;unfold uT;refine db (a:=(decide (0<m)&&r.e==0,r.W.b_,r.W.at_,r.W.e_)) ?_ (Q5 (λhc=>?_) λhc=>Q0 (.inr ⟨l,r,rfl,hx,λhe=>?_,ho,by omega⟩))
  ·by_cases h:0<m
   ·rw [decide_eq_true h];exact ct rfl (bd (errR r) (by rw [Qo]))
   ·rw [decide_eq_false h];rfl
  ·simp only [Qh,decide_eq_true_eq] at hc;obtain ⟨x,r',e3,_,b3,h3⟩:=rxB b.length hx;refine db e3 (Q7 (zYi x (by omega)) λy hy=>?_);obtain ⟨v,e⟩:=y;rcases hy with ⟨he,hv,hvx⟩ | hy
   ·refine dcf (by simp only at he;rw [he];rfl) (db (xZ (by simp;omega)) (Q0 ?_));rw [xU (by omega) (by omega)];refine ⟨⟨l++[v],m - 1,r',rfl,by omega,by simp;omega,?_,?_⟩,by simp only;omega⟩
    ·simp only at hvx;have e4:oR (l++[v])=oR l++bl x:=by
      unfold oR;rw [Qb,Qd,Qi,Q2,hvx]
     rw [e4];simpa only [Q1] using h3
    ·intro z hz;rcases Qj.1 hz with h | h
     ·exact ho z h
     ·rw [Q6.1 h];exact hv
   ·cases hy;exact dct rfl (Q0 (.inl rfl))
  ·simp only [Qa,decide_eq_false_iff_not,beq_eq_false_iff_ne,ne_eq] at hc;rcases hc with h | h
   ·omega
   ·exact absurd he h
 ·rintro y (rfl | ⟨l,r,rfl,hx,hl,ho,h255⟩)
  ·exact Q0 (.inr rfl)
  ·obtain ⟨x,r3,e3,_,b3,h3⟩:=rxB b.length hx;refine db e3 (Q7 (zW2 x (by omega)) λy hy=>?_);obtain ⟨p,pe⟩:=y;obtain ⟨pv,r4,e4,a4,b4,h4⟩:=rxB 1024 h3;refine db e4 ?_;obtain ⟨e,e5,h5⟩:=rxE h4;obtain ⟨q,hq,_⟩:=zPn (zS.mk ep l p pv) (λc hc=>by have:=(ho c hc).h8;omega) (by simp only;omega) (by simp only;omega);refine Q7 (P:=λz=>z=false->pe=0/\e=0/\q≠[]) (Q5 (λ_=>Q0 (λh=>by cases h)) λhp=>db e5 (Q5 (λ_=>Q0 (λh=>by cases h)) λhe=>db hq (Q0 λh=>⟨by simpa using hp,by simpa using he,λhq0=>by subst hq0;cases h⟩))) λz hz=>Q5 (λ_=>Q0 (.inr rfl)) λhz0=>Q0 (.inl ?_);obtain ⟨z1,z2,z3⟩:=hz hz0;rcases hy with ⟨_,p1,p2,p3,p4,p5,p6,p7⟩ | hy
   case inr=>exact absurd z1 hy
   rcases zVp (zS.mk ep l p pv) with ⟨q1,q2,q3,q4,q5⟩ | hbad
   case inr=>rw [hq] at hbad;exact absurd (Option.some.inj hbad) z3
   have hr0:r.e=0:=by
    rcases hx.c with h | ⟨_,_,h⟩
    ·exfalso;have hr4:r4.e≠0:=by
      have s1:=jC r b.length hx.o;rw [e3] at s1;have s2:=jC r3 1024 h3.o;rw [e4] at s2;have t1:xT r b.length=([],r):=by simp [xT,h]
      rw [t1] at s1;have u1:r3.W=r.W:=by injection s1 with s1;injection s1 with _ s1
      have u2:r3.e=r.e:=congrArg zO.e_ u1;have t2:xT r3 1024=([],r3):=by simp [xT,u2,h]
      rw [t2] at s2;have u3:r4.W=r3.W:=by injection s2 with s2;injection s2 with _ s2
      have u4:r4.e=r3.e:=congrArg zO.e_ u3;rw [u4,u2];exact h
     have:=dP r4 h4.o;rw [e5] at this;have he:e=iY r4:=by injection this with this;injection this
     rw [z2] at he;unfold iY at he;split at he
     ·cases he
     ·exact hr4 he.symm
    ·exact h.e
   refine ⟨rfl,⟨q1,q2,q3,ho,q4,p3,p4,p5,p6,p7,q5⟩,?_⟩;unfold eB;simp only;rw [hl hr0,p2,h5 z2];simp only [Q1,Q2]
set_option maxRecDepth 100000
def RS.R (r:RS):zR:=⟨r.b,(r.at':Int),r.e⟩
theorem zP5 (r:RS) (n:Nat) (h:r.Ok) (he:r.e=0) (hn:r.left<n):wO r.R (n:Int)=some (false,(r.err 2).R):=by
 unfold wO RS.R;refine bd (a:=2) ?_ rfl;refine bd (a:=true) ?_ rfl;refine ct (by simp [he]) ?_;show some (decide (Q4.wrap ((r.b.length:Int) - (r.at':Int))<(n:Int)))=some true;rw [zMj r h,dlt hn]
theorem zNg (r:RS) (n:Nat) (h:r.Ok) (he:r.e=0) (hn:n<=r.left):wO r.R (n:Int)=some (true,r.R):=by
 unfold wO RS.R;refine bd (a:=0) ?_ (by simp [he]);refine bd (a:=false) ?_ (by simp [he]);refine ct (by simp [he]) ?_;show some (decide (Q4.wrap ((r.b.length:Int) - (r.at':Int))<(n:Int)))=some false;rw [zMj r h,dge hn]
theorem yDp (b:By) (at' n:Nat) (h:at'+n<=b.length) (hl:b.length<2 ^ 40):zT (sU (n:Int) b (at':Int)) FU (0,0)=some (beV ((b.drop at').take n) n):=by
 refine vF n (λi=>(beV ((b.drop at').take n) i,(i:Int))) rfl (λi hi=>?_) ?_ (sT (by omega))
 ·unfold sU;refine ct (dlt hi) ?_;refine bd (a:=((b.drop at').take n).getD i 0) ?_ ?_
  ·rw [xU (by omega) (by omega),show (at':Int)+(i:Int)=((at'+i:Nat):Int) by omega,xO (by omega)];have h5:i<((b.drop at').take n).length:=by simp;omega
   rw [List.getD_eq_getElem?_getD,List.getElem?_eq_getElem h5];simp
  ·refine ltk ?_;rw [uU (show i<2 ^ 40 by omega)];rfl
 ·unfold sU;exact cf (dge (Nat.le_refl _)) rfl
theorem zA6 (r:RS) (n:Nat) (h:r.Ok) (h1:1<=n) (h8:n<=8):xM r.R (n:Int)=some ((wI r n).1,(wI r n).2.R):=by
 unfold xM;by_cases he:r.e=0
 ·refine bd (a:=0) ?_ ?_
  ·refine bd (a:=false) ?_ (congrArg some he);refine ct (c0 he) ?_;exact cf (by simp;omega) (congrArg some (by simp;omega))
  ·have hr:(⟨r.R.B,r.R.At,0⟩:zR)=r.R:=by simp [RS.R,he]
   rw [hr];by_cases hn:r.left<n
   ·refine bd (a:=(true,r.b,(r.at':Int),2)) ?_ ?_
    ·refine cf rfl ?_;exact bd (zP5 r n h he hn) rfl
    ·refine ct rfl ?_;rw [show wI r n=(0,r.err 2) by simp [wI,he,hn]];rfl
   ·refine bd (a:=(false,r.b,(r.at':Int),r.e)) ?_ ?_
    ·refine cf rfl ?_;exact bd (zNg r n h he (by omega)) rfl
    ·refine cf rfl ?_;obtain ⟨h1,h2⟩:=h;have hn':=hn;simp only [RS.left] at hn';refine bd (a:=beV (r.get n) n) (yDp r.b r.at' n (by omega) h2) ?_;by_cases hv:9223372036854775808<=beV (r.get n) n
     ·refine ct (by simp;omega) ?_;rw [show wI r n=(0,r.err 4) by simp [wI,he,hn,hv]];rfl
     ·refine cf (by simp;omega) ?_;rw [xU (n:=(r.at':Int)+(n:Int)) (by omega) (by omega),show (r.at':Int)+(n:Int)=((r.at'+n:Nat):Int) by omega];rw [show wI r n=(Q4.wrap (beV (r.get n) n),r.to n) by simp [wI,he,hn,hv]];rfl
 ·refine bd (a:=r.e) ?_ ?_
  ·refine bd (a:=false) ?_ rfl;exact cf (c1 he) rfl
  ·refine bd (a:=(true,r.b,(r.at':Int),r.e)) (ct (b1 he) rfl) ?_;refine ct rfl ?_;rw [show wI r n=(0,r) by simp [wI,he]];rfl
theorem zIy (r:RS) (m:Nat) (h:r.Ok):xP r.R (m:Int)=some ((xT r m).1,(xT r m).2.R):=by
 have hv:v2 r<65536:=by
  have h1:=(r.b.getD r.at' 0).toNat_lt;have h2:=(r.b.getD (r.at'+1) 0).toNat_lt;unfold v2;omega
 unfold xP;by_cases he:r.e=0
 ·by_cases hn:r.left<2
  ·refine bd (a:=(true,r.b,(r.at':Int),2)) (cf (b0 he) (bd (zP5 r 2 h he hn) rfl)) ?_;refine ct rfl ?_;rw [show xT r m=([],r.err 2) by simp [xT,he,hn]];rfl
  ·refine bd (a:=(false,r.b,(r.at':Int),r.e)) (cf (b0 he) (bd (zNg r 2 h he (by omega)) rfl)) ?_;refine cf rfl ?_;have hn':=hn;simp only [RS.left] at hn';have h':=h;obtain ⟨h1,h2⟩:=h';refine bd (a:=r.b.getD r.at' 0) (ig (by omega)) ?_;refine bd (a:=r.b.getD (r.at'+1) 0) (by rw [uU (by omega)];exact ig (by omega)) ?_;refine ltk ?_;rw [zZu];show (bif decide ((m:Int)<(v2 r:Int)) then _ else _)=_;by_cases hm:m<v2 r
   ·refine ct (dlt hm) ?_;rw [show xT r m=([],r.err 4) by simp [xT,he,hn,hm]];rfl
   ·refine cf (dge (by omega)) ?_;have hw:Q4.wrap (2+(v2 r:Int))=((2+v2 r:Nat):Int):=by rw [xU (by omega) (by omega)];omega
    show ((wO r.R (Q4.wrap (2+(v2 r:Int)))).bind λp=>bif !p.1 then _ else lt (Q4.wrap (p.2.At+Q4.wrap (2+(v2 r:Int)))) _)=_;rw [hw];by_cases hk:r.left<2+v2 r
    ·refine bd (zP5 r (2+v2 r) h he hk) ?_;refine ct rfl ?_;rw [show xT r m=([],r.err 2) by simp [xT,he,hn,hm,hk]]
    ·have hk':=hk;simp only [RS.left] at hk';refine bd (zNg r (2+v2 r) h he (by omega)) ?_;refine cf rfl ?_;refine ltk ?_;show ((sub r.b (Q4.wrap (Q4.wrap ((r.at':Int)+((2+v2 r:Nat):Int)) - (v2 r:Int))) (Q4.wrap ((r.at':Int)+((2+v2 r:Nat):Int)))).bind λz=>(xB 1 [] z).bind λy=>some (y,zR.mk r.b (Q4.wrap ((r.at':Int)+((2+v2 r:Nat):Int))) r.e))=_;rw [xU (n:=(r.at':Int)+((2+v2 r:Nat):Int)) (by omega) (by omega),show (r.at':Int)+((2+v2 r:Nat):Int)=((r.at'+(2+v2 r):Nat):Int) by omega,xU (by omega) (by omega),show ((r.at'+(2+v2 r):Nat):Int) - (v2 r:Int)=((r.at'+2:Nat):Int) by omega];refine bd (a:=(r.b.drop (r.at'+2)).take (v2 r)) (by rw [kT (by omega) (by omega)];congr 2;omega) ?_;refine bd (a:=(r.b.drop (r.at'+2)).take (v2 r)) ((xZ (by simp;omega)).trans rfl) ?_;rw [show xT r m=((r.b.drop (r.at'+2)).take (v2 r),r.to (2+v2 r)) by simp [xT,he,hn,hm,hk]];rfl
 ·refine bd (a:=(true,r.b,(r.at':Int),r.e)) (ct (b1 he) rfl) ?_;refine ct rfl ?_;rw [show xT r m=([],r) by simp [xT,he]];rfl
theorem zOb (r:RS) (h:r.Ok):vP r.R=some (iY r,r.R):=by
 unfold vP;by_cases he:r.e=0
 ·refine bd (a:=(decide (0<(r.left:Int)),r.b,(r.at':Int),r.e)) (ct (c0 he) ?_) ?_
  ·show some (decide (0<Q4.wrap ((r.b.length:Int) - (r.at':Int))),r.b,(r.at':Int),r.e)=_;rw [zMj r h]
  ·by_cases hl:0<r.left
   ·refine ct (by simp;omega) ?_;simp only [iY,he,hl];rw [<- he];rfl
   ·refine cf (by simp;omega) ?_;simp only [iY,he,hl];rw [<- he];simp [RS.R]
 ·refine bd (a:=(false,r.b,(r.at':Int),r.e)) (cf (c1 he) rfl) ?_;refine cf rfl ?_;simp only [iY,he];simp [RS.R]
theorem zKr (b:By) (hb:b.length<2 ^ 40):∃ r,Rx r b []/\Rd r b/\aM b=some r.R:=⟨⟨b,0,0⟩,⟨⟨Q3 _,hb⟩,.inr ⟨b,rfl,rfl,Q3 _,rfl⟩⟩,⟨⟨rfl,Q3 _,rfl⟩,Q3 _,hb⟩,rfl⟩
section
variable {x rest:By} {n:Int}
theorem rrU (h:Rx r b w) (h1:1<=k) (h8:k<=8):∃ v r',xM r.R (k:Int)=some (v,r'.R)/\0<=v/\v<9223372036854775808/\v.toNat<256 ^ k/\Rx r' b (w++beN v k k):=
 have ⟨a,c,d,e⟩:=h.uintR h8
 ⟨_,_,zA6 r k h.o h1 h8,a,c,d,e⟩
theorem rrB (m:Nat) (h:Rx r b w):∃ x r',xP r.R (m:Int)=some (x,r'.R)/\x.length<=m/\x.length<=65535/\Rx r' b (w++bl x):=
 have ⟨a,c,d⟩:=h.blobR (m:=m)
 ⟨_,_,zIy r m h.o,a,c,d⟩
theorem rrE (h:Rx r b w):∃ e,vP r.R=some (e,r.R)/\(e=0->b=w):=⟨_,zOb r h.o,h.endR⟩
theorem sdU (h:Rd r (beN n k k++rest)) (h1:1<=k) (h8:k<=8) (h0:0<=n) (hn:n<2 ^ 62) (hs:n.toNat<256 ^ k):∃ r',Rd r' rest/\xM r.R (k:Int)=some (n,r'.R):=by
 obtain ⟨e,m⟩:=Rem.uintI h.m h8 h0 hn hs;have ok:=aK r k h.o;rw [e] at ok;exact ⟨r.to k,⟨m,ok⟩,by rw [zA6 r k h.o h1 h8,e]⟩
theorem yB0 (h:Rd r (u8 n :: rest)) (h0:0<=n) (hn:n<256):∃ r',Rd r' rest/\xM r.R 1=some (n,r'.R):=by
 obtain ⟨e,m⟩:=Rem.byte h.m h0 hn;have ok:=aK r 1 h.o;rw [e] at ok;exact ⟨r.to 1,⟨m,ok⟩,by have:=zA6 r 1 h.o (by decide) (by decide);rw [e] at this;exact this⟩
theorem zR4 (h:Rd r (bl x++rest)) (hx:x.length<=65535) (hk:x.length<=k):∃ r',Rd r' rest/\xP r.R (k:Int)=some (x,r'.R):=by
 have h':=h.m;unfold bl at h';rw [Q1] at h';obtain ⟨e,m⟩:=Rem.blobN h' hx hk;have ok:=zJc r k h.o;rw [e] at ok;exact ⟨_,⟨m,ok⟩,by rw [zIy r k h.o,e]⟩
theorem sdE (h:Rd r []):vP r.R=some (0,r.R):=by rw [zOb r h.o,Rem.fin h.m]
end
theorem zXx (b:By) (hb:b.length<2 ^ 40):Def (uW b) λy=>(y.2=0/\dH y.1/\rK y.1=b)∨y=(zC.mk 0 [] 0 [],30):=by
 unfold uW;obtain ⟨r0,h0,_,e0⟩:=zKr b hb;refine db e0 ?_;obtain ⟨v1,r1,e1,a1,b1,c1,h1⟩:=rrU (k:=1) h0 (by decide) (by decide);refine db e1 ?_;obtain ⟨v2,r2,e2,a2,b2,c2,h2⟩:=rrU (k:=4) h1 (by decide) (by decide);refine db e2 ?_;obtain ⟨x3,r3,e3,a3,b3,h3⟩:=rrB 12 h2;refine db e3 ?_;obtain ⟨x4,r4,e4,a4,b4,h4⟩:=rrB 64 h3;refine db e4 ?_;obtain ⟨e,e5,h5⟩:=rrE h4;refine Q7 (P:=λz=>z=false->e=0/\vL (zC.mk v1 x3 v2 x4)=some 0) (db e5 (Q5 (λ_=>Q0 (λh=>by cases h)) λhe=>?_)) λz hz=>Q5 (λ_=>Q0 (.inr rfl)) λhz0=>Q0 (.inl ?_)
 ·obtain ⟨c,hc,_⟩:=aV (zC.mk v1 x3 v2 x4);refine db hc (Q0 λh=>⟨by simpa using he,?_⟩);have:c=0:=by simpa using h
  rw [hc,this]
 ·obtain ⟨z1,z2⟩:=hz hz0;refine ⟨rfl,z2,?_⟩;rw [zHl _ b3 b4,h5 z1];simp only [Qc,Q1,Q2]
theorem zVm (b:By) (hb:b.length<2 ^ 40):Def (oK b) λy=>(y.2=0/\wT y.1=some 0/\zB3 y.1=b/\(0<=y.1.Kind/\y.1.Kind<256)/\(0<=y.1.Attr/\y.1.Attr<256)/\(0<=y.1.Height/\y.1.Height<256)/\y.1.Policy.length<=32/\y.1.Unique.length<=32)∨y.2≠0:=by
 have b1':∀ v:Int,0<=v->v.toNat<256 ^ 1->beN v 1 1=[u8 v]:=λv h1 h2=>by
  obtain ⟨n,rfl⟩:=Int.eq_ofNat_of_zero_le h1;have hn:n<256:=by simpa using h2
  have h3:=zPx [u8 (n:Int)] (k:=1) rfl (by decide);have h4:nV [u8 (n:Int)] 1=n:=by
   show 0*256+(u8 (n:Int)).toNat=n;rw [jN];omega
  rw [h4] at h3;exact h3
 unfold oK;obtain ⟨r0,h0,_,e0⟩:=zKr b hb;refine db e0 ?_;obtain ⟨v1,r1,e1,a1,_,c1,h1⟩:=rrU (k:=1) h0 (by decide) (by decide);refine db e1 ?_;obtain ⟨v2,r2,e2,a2,_,c2,h2⟩:=rrU (k:=1) h1 (by decide) (by decide);refine db e2 ?_;obtain ⟨v3,r3,e3,a3,_,c3,h3⟩:=rrU (k:=1) h2 (by decide) (by decide);refine db e3 ?_;obtain ⟨x4,r4,e4,a4,b4,h4⟩:=rrB 32 h3;refine db e4 ?_;obtain ⟨x5,r5,e5,a5,b5,h5⟩:=rrB 32 h4;refine db e5 ?_;obtain ⟨e,e6,h6⟩:=rrE h5;obtain ⟨c,hc,_⟩:=zN9 (zI.mk v1 v2 v3 x4 x5);refine db e6 (Q7 (P:=λz=>z=0->e=0/\c=0) (Q5 (λhe=>db hc (Q0 λh=>⟨by simpa using he,h⟩)) λhe=>Q0 λh=>by rw [h] at he;cases he) λz hz=>Q5 (λh=>Q0 (.inr (by simpa using h))) λh=>Q0 (.inl ?_));obtain ⟨he0,hc0⟩:=hz (by simpa using h);have q1:v1.toNat<256:=by simpa using c1
 have q2:v2.toNat<256:=by simpa using c2
 have q3:v3.toNat<256:=by simpa using c3
 refine ⟨by simpa using h,by rw [zDw,hc,hc0],?_,⟨a1,by simp only;omega⟩,⟨a2,by simp only;omega⟩,⟨a3,by simp only;omega⟩,a4,a5⟩;rw [zHs _ a4 a5,h6 he0,b1' v1 a1 c1,b1' v2 a2 c2,b1' v3 a3 c3];simp only [Qc,Q1,Q2,Qg]
theorem yBq {x:zC} (h:dH x):uW (rK x)=some (x,0):=by
 obtain ⟨a1,a2,a3,a4,a5,a6⟩:=h.f;have hle:=zAq h;unfold uW;obtain ⟨r,_,g,e⟩:=zKr (rK x) (by omega);refine bd e ?_;rw [zHl x (by omega) (by omega)] at g;obtain ⟨r1,g,e⟩:=sdU (k:=1) g (by omega) (by omega) (by omega) (by omega) (by omega);refine bd e ?_;obtain ⟨r2,g,e⟩:=sdU (k:=4) g (by omega) (by omega) (by omega) (by omega) (by omega);refine bd e ?_;obtain ⟨r3,g,e⟩:=zR4 (k:=12) g (by omega) (by omega);refine bd e ?_;obtain ⟨r4,g,e⟩:=zR4 (k:=64) g (by omega) (by omega);refine bd e ?_;have hc:vL (zC.mk x.Role x.Name x.Version x.Payload)=some 0:=h;exact bd (bd (sdE g) (cf rfl (bd hc rfl))) rfl
theorem zYw (h:wT p=some 0) (k0:0<=p.Kind/\p.Kind<256) (k1:0<=p.Attr/\p.Attr<256) (k2:0<=p.Height/\p.Height<256) (hp:p.Policy.length<=32) (hu:p.Unique.length<=32):oK (zB3 p)=some (p,0):=by
 have hl:=zAh hp hu;unfold oK;obtain ⟨r,_,g,e⟩:=zKr (zB3 p) (by omega);refine bd e ?_;rw [zHs p hp hu] at g;obtain ⟨r1,g,e⟩:=yB0 g k0.1 k0.2;refine bd e ?_;obtain ⟨r2,g,e⟩:=yB0 g k1.1 k1.2;refine bd e ?_;obtain ⟨r3,g,e⟩:=yB0 g k2.1 k2.2;refine bd e ?_;obtain ⟨r4,g,e⟩:=zR4 (k:=32) g (by omega) hp;refine bd e ?_;obtain ⟨r5,g,e⟩:=zR4 (k:=32) g (by omega) hu;refine bd e ?_;exact bd (sdE g) (bd (ct rfl (bd ((zDw p).symm.trans h) rfl)) (cf rfl rfl))
set_option maxRecDepth 100000
theorem zWx (b:By) (hb:b.length<2 ^ 40):Def (uV b) λy=>(y.2=0/\zB0 y.1/\kP y.1=b)∨y=([],30):=by
 unfold uV;obtain ⟨r0,h0,_,e0⟩:=zKr b hb;refine db e0 ?_;obtain ⟨n,r1,e1,a1,_,c1,h1⟩:=rrU (k:=1) h0 (by decide) (by decide);refine db e1 ?_;have hn:n<256:=by
             have:n.toNat<256:=by simpa using c1
             omega
 refine Q7 (P:=λy=>y=.inl ([],30)∨∃ l r,y=.inr (l,r.R.B,r.R.At,r.R.Error)/\Rx r b (beN n 1 1++l.flatMap λx=>bl (rK x))/\(n<=8->(l.length:Int)=n)/\(∀ x∈l,dH x)/\l.length<=9)
  (Qn (λs=>∃ (l:List zC) (r:RS),s=(l,(l.length:Int),r.R.B,r.R.At,r.R.Error)/\(l.length:Int)<=n/\l.length<=9/\Rx r b (beN n 1 1++l.flatMap λx=>bl (rK x))/\∀ x∈l,dH x) (λs=>9 - s.2.1.toNat) ?_ ⟨[],r1,rfl,by simpa using a1,by simp,by simpa using h1,by simp⟩ (by simp only;omega)) ?_
 ·rintro s ⟨l,r,rfl,hs,h9,hx,ho⟩;unfold wY;refine db (a:=decide ((l.length:Int)<n)&&decide ((l.length:Int)<=8)) (by cases decide ((l.length:Int)<n)<;>rfl) (Q5 (λhc=>?_) λhc=>Q0 (.inr ⟨l,r,rfl,hx,λh8=>?_,ho,h9⟩))
  ·simp only [Qh,decide_eq_true_eq] at hc;obtain ⟨x,r',e2,_,b2,h2⟩:=rrB 200 hx;refine db e2 (Q7 (zXx x (by omega)) λy hy=>?_);obtain ⟨v,e⟩:=y;rcases hy with ⟨he,hv,hvx⟩ | hy
   ·refine dcf (by simp only at he;rw [he];rfl) (db (xZ (by simp;omega)) (Q0 ?_));rw [uU (by omega)];refine ⟨⟨l++[v],r',by rw [Q8];rfl,by simp;omega,by simp;omega,?_,?_⟩,by simp only;omega⟩
    ·simp only at hvx;rw [Qb,Qd,Qi,Q2,hvx,<- Q1];exact h2
    ·intro z hz;rcases Qj.1 hz with h | h
     ·exact ho z h
     ·rw [Q6.1 h];exact hv
   ·cases hy;exact dct rfl (Q0 (.inl rfl))
  ·simp only [Qa,decide_eq_false_iff_not] at hc;omega
 ·rintro y (rfl | ⟨l,r,rfl,hx,hl,ho,h9⟩)
  ·exact Q0 (.inr rfl)
  ·obtain ⟨e,e3,h3⟩:=rrE hx;obtain ⟨c,hc,_,_,_⟩:=zDy l (by omega);refine Q7 (P:=λz=>z=false->n<=8/\e=0/\c=0) (Q5 (λ_=>Q0 (λh=>by cases h)) λh8=>db e3 (Q5 (λ_=>Q0 (λh=>by cases h)) λhe=>db hc (Q0 λh=>⟨by simpa using h8,by simpa using he,by simpa using h⟩))) λz hz=>Q5 (λ_=>Q0 (.inr rfl)) λhz0=>Q0 (.inl ?_);obtain ⟨z0,z1,z2⟩:=hz hz0;subst z2;refine ⟨rfl,zYs (show l.length<2 ^ 40 by omega) hc,?_⟩;unfold kP;rw [hl z0];exact (h3 z1).symm
theorem zUh (n:Int) (rest:By):∀ (m l:List zC) (r:RS) (fuel:Nat),m.length<fuel->(∀ x∈m,dH x)->(l.length:Int)+(m.length:Int)=n->n<=8->Rd r ((m.flatMap λx=>bl (rK x))++rest) ->
  ∃ r',Rd r' rest/\zT (wY n) fuel (l,(l.length:Int),r.R.B,r.R.At,r.R.Error)=some (.inr (l++m,r'.R.B,r'.R.At,r'.R.Error))
 | [],l,r,f+1,_,_,hn,_,g=>by
  refine ⟨r,g,?_⟩;simp only [zT];have:wY n (l,(l.length:Int),r.R.B,r.R.At,r.R.Error)=some (.inr (.inr (l,r.R.B,r.R.At,r.R.Error))):=by
   unfold wY;exact bd (a:=false) (cf (decide_eq_false (by simp at hn;omega)) rfl) (cf rfl rfl)
  rw [this,Q2]
 | x :: m,l,r,f+1,hf,hm,hn,h8,g=>by
  have hx:=hm x (by simp);have hle:=zAq hx;simp only [Qf] at hf hn;obtain ⟨r1,g1,e1⟩:=zR4 (k:=200) (g.cast (by simp:_=bl (rK x)++((m.flatMap λx=>bl (rK x))++rest))) (by omega) (by omega);obtain ⟨r2,g2,e2⟩:=zUh n rest m (l++[x]) r1 f (by omega) (λy hy=>hm y (by simp [hy])) (by simp;omega) h8 g1;refine ⟨r2,g2,?_⟩;simp only [zT];have:wY n (l,(l.length:Int),r.R.B,r.R.At,r.R.Error)=some (.inl (l++[x],((l++[x]).length:Int),r1.R.B,r1.R.At,r1.R.Error)):=by
   unfold wY;refine bd (a:=true) (ct (decide_eq_true (by omega)) (congrArg some (decide_eq_true (by omega)))) (ct rfl ?_);refine bd e1 (bd (yBq hx) (cf rfl (bd (xZ (by simp;omega)) ?_)));rw [uU (by omega),Q8];rfl
  rw [this];simp only;rw [e2,Q1];rfl
theorem yB4 {l:List zC} (h:zB0 l):uV (kP l)=some (l,0):=by
 have hl:=dB h;have h8:=h.h8;unfold uV;obtain ⟨r,_,g,e⟩:=zKr (kP l) (by omega);refine bd e ?_;obtain ⟨r1,g,e⟩:=sdU (k:=1) (n:=(l.length:Int)) (r:=r) (rest:=l.flatMap λx=>bl (rK x)) g (by omega) (by omega) (by omega) (by omega) (by omega);refine bd e ?_;obtain ⟨r2,g2,e2⟩:=zUh (l.length:Int) [] l [] r1 FU (sT (by omega)) h.im (by simp) (by omega) (g.cast (by simp));refine bd e2 ?_;exact bd (a:=false) (cf (decide_eq_false (by omega)) (bd (sdE g2) (cf rfl (bd h.r rfl)))) (cf rfl rfl)
theorem zY6 (b:By) (hb:b.length<2 ^ 30):Def (vD b) λy=>(y.2=0/\KOk y.1/\eB y.1=b)∨y=((default:zS),30):=by
 unfold vD;obtain ⟨r0,h0,_,e0⟩:=zKr b (by omega);refine db e0 ?_;obtain ⟨ep,r1,e1,a1,b1,c1,h1⟩:=rrU (k:=8) h0 (by decide) (by decide);refine db e1 ?_;obtain ⟨n,r2,e2,a2,_,c2,h2⟩:=rrU (k:=1) h1 (by decide) (by decide);refine db e2 ?_;refine Q7 (P:=λy=>y=.inl ((default:zS),30)∨∃ l r,y=.inr (l,r.R.B,r.R.At,r.R.Error)/\Rx r b (beN ep 8 8++(beN n 1 1++oR l))/\(n<=2->(l.length:Int)=n)/\(∀ x∈l,zB0 x)/\l.length<=2)
  (Qn (λs=>∃ (l:List (List zC)) (r:RS),s=((l.length:Int),l,r.R.B,r.R.At,r.R.Error)/\(l.length:Int)<=n/\l.length<=2/\Rx r b (beN ep 8 8++(beN n 1 1++oR l))/\∀ x∈l,zB0 x) (λs=>2 - s.1.toNat) ?_ ⟨[],r2,rfl,by simpa using a2,by simp,by simpa [oR] using h2,by simp⟩ (by simp only;omega)) ?_
 ·rintro s ⟨l,r,rfl,hs,h9,hx,ho⟩;unfold vJ;refine db (a:=decide ((l.length:Int)<n)&&decide ((l.length:Int)<2)) (by cases decide ((l.length:Int)<n)<;>rfl) (Q5 (λhc=>?_) λhc=>Q0 (.inr ⟨l,r,rfl,hx,λh8=>?_,ho,h9⟩))
  ·simp only [Qh,decide_eq_true_eq] at hc;obtain ⟨x,r',e3,_,b3,h3⟩:=rrB 2000 hx;refine db e3 (Q7 (zWx x (by omega)) λy hy=>?_);obtain ⟨v,e⟩:=y;rcases hy with ⟨he,hv,hvx⟩ | hy
   ·refine dcf (by simp only at he;rw [he];rfl) (db (xZ (by simp;omega)) (Q0 ?_));rw [uU (by omega)];refine ⟨⟨l++[v],r',by rw [Q8];rfl,by simp;omega,by simp;omega,?_,?_⟩,by simp only;omega⟩
    ·simp only at hvx;have e4:oR (l++[v])=oR l++bl x:=by
      unfold oR;rw [Qb,Qd,Qi,Q2,hvx]
     rw [e4];simpa only [Q1] using h3
    ·intro z hz;rcases Qj.1 hz with h | h
     ·exact ho z h
     ·rw [Q6.1 h];exact hv
   ·cases hy;exact dct rfl (Q0 (.inl rfl))
  ·simp only [Qa,decide_eq_false_iff_not] at hc;omega
 ·rintro y (rfl | ⟨l,r,rfl,hx,hl,ho,h9⟩)
  ·exact Q0 (.inr rfl)
  ·obtain ⟨x,r3,e3,_,b3,h3⟩:=rrB 200 hx;refine db e3 (Q7 (zVm x (by omega)) λy hy=>?_);obtain ⟨p,pe⟩:=y;obtain ⟨pv,r4,e4,a4,b4,h4⟩:=rrB 1024 h3;refine db e4 ?_;obtain ⟨e,e5,h5⟩:=rrE h4;refine Q7 (P:=λz=>z=false->pe=0/\¬ n<1/\¬ 2<n/\¬ 1099511627776<=ep/\e=0) (Q5 (λ_=>Q0 (λh=>by cases h)) λq1=>Q5 (λ_=>Q0 (λh=>by cases h)) λq2=>Q5 (λ_=>Q0 (λh=>by cases h)) λq3=>Q5 (λ_=>Q0 (λh=>by cases h)) λq4=>db e5 (Q0 λh=>⟨by simpa using q1,dF q2,dF q3,dF q4,by simpa using h⟩)) λz hz=>Q5 (λ_=>Q0 (.inr rfl)) λhz0=>Q0 (.inl ?_);obtain ⟨z1,z2,z3,z4,z5⟩:=hz hz0;rcases hy with ⟨_,p1,p2,p3,p4,p5,p6,p7⟩ | hy
   case inr=>exact absurd z1 hy
   have hl':=hl (by omega);refine ⟨rfl,⟨a1,by simp only;omega,by simp only;omega,ho,p1,p3,p4,p5,p6,p7,a4⟩,?_⟩;unfold eB;simp only;rw [hl',p2,h5 z5];simp only [Q1,Q2]
theorem zSd (n:Int) (rest:By):∀ (m l:List (List zC)) (r:RS) (fuel:Nat),m.length<fuel->(∀ x∈m,zB0 x)->(l.length:Int)+(m.length:Int)=n->n<=2->Rd r (oR m++rest) ->
  ∃ r',Rd r' rest/\zT (vJ n) fuel ((l.length:Int),l,r.R.B,r.R.At,r.R.Error)=some (.inr (l++m,r'.R.B,r'.R.At,r'.R.Error))
 | [],l,r,f+1,_,_,hn,_,g=>by
  refine ⟨r,g,?_⟩;simp only [zT];have:vJ n ((l.length:Int),l,r.R.B,r.R.At,r.R.Error)=some (.inr (.inr (l,r.R.B,r.R.At,r.R.Error))):=by
   unfold vJ;exact bd (a:=false) (cf (decide_eq_false (by simp at hn;omega)) rfl) (cf rfl rfl)
  rw [this,Q2]
 | x :: m,l,r,f+1,hf,hm,hn,h8,g=>by
  have hx:=hm x (by simp);have hle:=dB hx;simp only [Qf] at hf hn;obtain ⟨r1,g1,e1⟩:=zR4 (k:=2000) (g.cast (by simp [oR]:_=bl (kP x)++(oR m++rest))) (by omega) (by omega);obtain ⟨r2,g2,e2⟩:=zSd n rest m (l++[x]) r1 f (by omega) (λy hy=>hm y (by simp [hy])) (by simp;omega) h8 g1;refine ⟨r2,g2,?_⟩;simp only [zT];have:vJ n ((l.length:Int),l,r.R.B,r.R.At,r.R.Error)=some (.inl (((l++[x]).length:Int),l++[x],r1.R.B,r1.R.At,r1.R.Error)):=by
   unfold vJ;refine bd (a:=true) (ct (decide_eq_true (by omega)) (congrArg some (decide_eq_true (by omega)))) (ct rfl ?_);refine bd e1 (bd (yB4 hx) (cf rfl (bd (xZ (by simp;omega)) ?_)));rw [uU (by omega),Q8];rfl
  rw [this];simp only;rw [e2,Q1];rfl
theorem yDa {k:zS} (h:KOk k):vD (eB k)=some (k,0):=by
 have hl:=zMv h;have e0:=h.e0;have e1:=h.e1;have hn:=h.n;have hP:=zAh h.pl h.ul;unfold vD;obtain ⟨r,_,g,e⟩:=zKr (eB k) (by omega);refine bd e ?_;obtain ⟨r1,g,e⟩:=sdU (k:=8) (n:=k.Epoch) (rest:=beN (k.Chains.length:Int) 1 1++(oR k.Chains++(bl (zB3 k.Public)++(bl k.Private++[])))) g (by omega) (by omega) e0 (by omega) (by omega);refine bd e ?_;obtain ⟨r2,g,e⟩:=sdU (k:=1) g (by omega) (by omega) (by omega) (by omega) (by omega);refine bd e ?_;obtain ⟨r3,g,e3⟩:=zSd (k.Chains.length:Int) _ k.Chains [] r2 FU (sT (by omega)) h.c (by simp) (by omega) g;refine bd e3 ?_;obtain ⟨r4,g,e⟩:=zR4 (k:=200) g (by omega) (by omega);refine bd e (bd (zYw h.p h.k0 h.k1 h.k2 h.pl h.ul) ?_);obtain ⟨r5,g,e⟩:=zR4 (k:=1024) g (by have:=h.v;omega) h.v;refine bd e ?_;exact bd (a:=false) (cf rfl (cf (decide_eq_false (by omega)) (cf (decide_eq_false (by omega)) (cf (decide_eq_false (by omega)) (bd (sdE g) rfl))))) (cf rfl rfl)
theorem zS3 (b:By) (hb:b.length<2 ^ 30):(∃ k,KOk k/\eB k=b/\vV b=some (k,0)/\vD b=some (k,0))∨(vV b=some ((default:zS),30)/\vD b=some ((default:zS),30)):=by
 obtain ⟨y,hy,hy2⟩:=yAa b hb;obtain ⟨z,hz,hz2⟩:=zY6 b hb;rcases hy2 with ⟨_,ho,he⟩ | rfl
 ·exact .inl ⟨y.1,ho,he,by rw [<- he];exact zWe ho,by rw [<- he];exact yDa ho⟩
 ·rcases hz2 with ⟨_,ho,he⟩ | rfl
  ·have:=zWe ho;rw [he,hy] at this;exact absurd (congrArg Prod.snd (Option.some.inj this)) (show ¬ ((30:Int)=0) by decide)
  ·exact .inr ⟨hy,hz⟩
end Go.Proofs.TT
