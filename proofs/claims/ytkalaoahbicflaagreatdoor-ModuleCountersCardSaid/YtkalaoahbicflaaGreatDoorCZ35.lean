/- A part. -/
import Derived.Test.YtkalaoahbicflaaGreatDoorCZ34
set_option maxRecDepth 100000
set_option linter.all false
open Int renaming eq_ofNat_of_zero_le -> Q0
open Go.IntKind renaming i64 -> Q1, u64 -> Qf
open List renaming replicate -> Q2, length_cons -> Q3, length_append -> Q4, length_nil -> Q6, getElem_mem -> Q7, mem_or_eq_of_mem_set -> Q9, take_add_one -> Qb, take_length -> Qd, length_set -> Qe, mem_replicate -> Qh, getElem_cons_succ -> Ql, mem_cons_of_mem -> Qm, take_succ_cons -> Qo, getD -> Qp, not_mem_nil -> Qr, length_take -> Qs, mem_append -> Qt, mem_cons -> Qu
open Bool renaming or_eq_false_iff -> Q5, and_eq_true -> Q8, eq_false_iff -> Qi, eq_iff_iff -> Qj, or_assoc -> Qn
open Go.Sw.Def renaming s -> Qa, c -> Qg, bd -> Qq
open Nat renaming le_refl -> Qc, zero_le -> Qk
namespace Go.Sw
open Go
def yMy {X Y:Type} {step:X->Option (X ⊕ Y)} {a:X} {r:Y} (h:step a=some (.inr r)):zP step FU a=some r:=yF 0 (λ_=>a) rfl (λi hi=>absurd hi (Nat.not_lt_zero i)) h (xJ ji)
def one1 {X Y:Type} {step:X->Option (X ⊕ Y)} {a b:X} {r:Y} (h0:step a=some (.inl b)) (h:step b=some (.inr r)):zP step FU a=some r:=
 yF 1 (λi=>match i with | 0=>a | _=>b) rfl (λi hi=>by obtain rfl:i=0:=by { omega };exact h0) h (xJ ji)
def sc2 {R:Type} {step:Int->Option (Int ⊕ (R ⊕ Unit))} {p q:Bool} {x:R} (h0:step 0=some (bif p then .inr (.inl x) else .inl 1)) (h1:step 1=some (bif q then .inr (.inl x) else .inl 2)) (h2:step 2=some (.inr (.inr ()))):zP step FU 0=some (bif p||q then .inl x else .inr ()):=by
 cases p
 ·cases q
  ·exact Go.Proofs.TT.two h0 h1 h2
  ·exact one1 h0 h1
 ·exact yMy h0
end Go.Sw
namespace Go.Proofs.TT
open Go Go.Sw
variable {b bk:List By}{c2 c3:Bool}{ds:List By}{f:By->By}{i loc:Int}{n:Nat}{o:Option Bool}{r:zE}
structure Bk2 (b0 b1:List By):Prop where
 l0:b0.length=0∨b0.length=16
 l1:b1.length=0∨b1.length=16
 m0:∀ x∈b0,x.length=20
 m1:∀ x∈b1,x.length=32
def nQ (r:zE):Prop:=r.Banks=[]∨∃ b0 b1,r.Banks=[b0,b1]/\Bk2 b0 b1
def onb (b:List By):Bool:=(b.length:Int)==16
def onv (r:zE) (a:Nat):Bool:=onb (r.Banks.getD a [])
def zYv:onb b=true↔b.length=16:=by simp [onb];omega
def yI5 (h:b.length=0∨b.length=16):decide (0<(b.length:Int))=onb b:=by
 unfold onb;rcases h with h | h<;>rw [h]<;>rfl
def sb (c0 c1:Bool):Int:=(bif c0 then 1 else 0)+(bif c1 then 2 else 0)
def zGx {b0 b1:List By} (u:Int) (h:Bk2 b0 b1):xM ⟨[b0,b1],u⟩ 0=some (onb b0)/\xM ⟨[b0,b1],u⟩ 1=some (onb b1):=⟨congrArg some (yI5 h.l0),congrArg some (yI5 h.l1)⟩
def yJq (u:Int) (a:Int) (ha:a=0∨a=1):xM ⟨[],u⟩ a=some false:=by rcases ha with rfl | rfl<;>rfl
def zLk (h:nQ r) (a:Nat) (ha:a<2):True/\xM r (a:Int)=some (onv r a):=by
 obtain ⟨bs,u⟩:=r;rcases h with h | ⟨b0,b1,h,k⟩
 ·simp only at h;subst h;rcases (show a=0∨a=1 by omega) with rfl | rfl
  ·exact ⟨trivial,yJq u 0 (.inl rfl)⟩
  ·exact ⟨trivial,yJq u 1 (.inr rfl)⟩
 ·simp only at h;subst h;rcases (show a=0∨a=1 by omega) with rfl | rfl
  ·exact ⟨trivial,(zGx u k).1⟩
  ·exact ⟨trivial,(zGx u k).2⟩
def bnk (n:Nat):List By:=Q2 12 (Q2 n 0)++Q2 4 (Q2 n 255)
def zZv (a:Int):zE:=if a=1 then ⟨[bnk 20,[]],0⟩ else if a=2 then ⟨[[],bnk 32],0⟩ else if a=3 then ⟨[bnk 20,bnk 32],0⟩ else ⟨[],0⟩
def zL4:∀ x∈bnk n,x.length=n:=by
 intro x hx;simp only [bnk,Qt,Qh] at hx;rcases hx with ⟨_,rfl⟩ | ⟨_,rfl⟩<;>simp
def zLo (a:Int):nQ (zZv a):=by
 unfold zZv;split
 ·exact .inr ⟨_,_,rfl,.inr (by simp [bnk]),.inl rfl,zL4,jk⟩
 split
 ·exact .inr ⟨_,_,rfl,.inl rfl,.inr (by simp [bnk]),jk,zL4⟩
 split
 ·exact .inr ⟨_,_,rfl,.inr (by simp [bnk]),.inr (by simp [bnk]),zL4,zL4⟩
 ·exact .inl rfl
def yH4 (a:Int) (h0:0<=a) (h3:a<=3):zJv a=some (zZv a)/\zDy a=some (zZv a):=by
 rcases (show a=0∨a=1∨a=2∨a=3 by omega) with rfl | rfl | rfl | rfl<;>exact ⟨jn,jn⟩
def lst (i:Int):Int:=bif i==14 then 2 else bif i==15 then 3 else 0
def zTl (i:Int):True/\rP i false=some (lst i):=by
 unfold rP lst;cases h:(i==14)<;>cases h':(i==15)<;>exact ⟨trivial,rfl⟩
def lsr (i:Int):Int:=bif decide (i<12) then 5 else bif i==14 then 3 else bif i==15 then 4 else 0
def zSz (i:Int):True/\rP i true=some (if i<12 then -1 else lsr i):=by
 unfold rP lsr;by_cases g:i<12
 ·rw [decide_eq_true g,if_pos g];exact ⟨trivial,rfl⟩
 ·rw [decide_eq_false g,if_neg g];cases h:(i==14)<;>cases h':(i==15)<;>exact ⟨trivial,rfl⟩
def ixr (i:Int):Bool:=decide (0<=i)&&decide (i<16)
def yAt (i:Int):(!ixr i)=(decide (i<0)||decide (16<=i)):=by
 unfold ixr;by_cases g:i<0<;>by_cases g':16<=i<;>simp [g,g']<;>omega
def yJj:rY 20 0=some (Q2 20 0)/\rY 32 0=some (Q2 32 0):=⟨jn,jn⟩
def zCl (h:∀ x∈bk,x.length=n) (i:Nat):(bk.getD i []).length<=n:=by
 by_cases hn:i<bk.length
 ·have:bk.getD i []=bk[i]:=by simp [hn]
  rw [this,h _ (Q7 hn)];exact Qc _
 ·have:bk.getD i []=[]:=by simp [Qp,List.getElem?_eq_none (by omega:bk.length<=i)]
  rw [this];simp
def zO3 {b0 b1:List By} (u:Int) (h:Bk2 b0 b1):aR ⟨[b0,b1],u⟩=some (b0,b1,u):=by
 have l0:b0.length<=16:=by have:=h.l0;omega
 have l1:b1.length<=16:=by have:=h.l1;omega
 unfold aR;refine ct rfl (bd (a:=b0) ?_ (ct rfl (bd (a:=(b1,b0)) ?_ (cf rfl rfl))))
 ·refine yF b0.length (λi=>(b0.take i,(i:Int))) jk (λi hi=>?_) ?_ (xJ jh)
  ·unfold zA2;refine bd (a:=b0) rfl (ct (dlt hi) (bd (a:=b0) rfl (bd (yX hi) (bd (lU _ (by have:=h.m0 _ (Q7 hi);omega)) (bd (yC jl) ?_)))));rw [yO (show i<2 ^ 40 by omega),Qb];simp [hi]
  ·unfold zA2;refine bd (a:=b0) rfl (cf (dge (Qc _)) ?_);simp
 ·refine yF b1.length (λi=>(b1.take i,(i:Int),b0)) jk (λi hi=>?_) ?_ (xJ jh)
  ·unfold zAq;refine bd (a:=b1) rfl (ct (dlt hi) (bd (a:=b1) rfl (bd (yX hi) (bd (lU _ (by have:=h.m1 _ (Q7 hi);omega)) (bd (yC jl) ?_)))));rw [yO (show i<2 ^ 40 by omega),Qb];simp [hi]
  ·unfold zAq;refine bd (a:=b1) rfl (cf (dge (Qc _)) ?_);simp
def zNj (b:By) (hb:b.length<2 ^ 40):mO 0 b=some (zKc b):=by
 unfold mO;exact ct rfl (bd (yA3 b hb) rfl)
def zOy (b:By) (hb:b.length<2 ^ 40):mO 1 b=some (sha b):=by
 unfold mO;exact cf rfl (ct rfl (bd (cR b hb) rfl))
def upR (bk:List By) (i:Int) (f:By->By):List By:=bif onb bk then bk.set i.toNat (f (bk.getD i.toNat [])) else bk
def zT0 (bk:List By) (i:Int) (f:By->By):(upR bk i f).length=bk.length:=by unfold upR;cases onb bk<;>simp
def yA5 (h:∀ x∈bk,x.length=n) (hf:∀ x,(f x).length=n):∀ x∈upR bk i f,x.length=n:=by
 intro x hx;unfold upR at hx;cases g:onb bk<;>rw [g] at hx
 ·exact h x hx
 ·rcases Q9 hx with hx | hx
  ·exact h x hx
  ·rw [hx];exact hf _
def chR (r:zE) (i:Int) (f g:By->By):zE:=⟨match r.Banks with | [b0,b1]=>[upR b0 i f,upR b1 i g] | l=>l,Q1.wrap (r.Updates+1)⟩
def yDt (h:nQ r) {g:By->By} (hf:∀ x,(f x).length=20) (hg:∀ x,(g x).length=32):nQ (chR r i f g):=by
 obtain ⟨bs,u⟩:=r;rcases h with h | ⟨b0,b1,h,k⟩
 ·simp only at h;subst h;exact .inl rfl
 ·simp only at h;subst h;exact .inr ⟨_,_,rfl,by rw [zT0];exact k.l0,by rw [zT0];exact k.l1,yA5 k.m0 hf,yA5 k.m1 hg⟩
def rg0:zE:=⟨[],0⟩
def exE (r:zE) (loc i:Int) (ds:List By):Int:=
 bif decide (loc<0)||(decide (4<loc)||((!ixr i)||((ds.length:Int) != 2))) then 1 else
 bif decide (loc<lst i) then 13 else
 bif (!onv r 0&&decide (0<((ds.getD 0 []).length:Int)))||(!onv r 1&&decide (0<((ds.getD 1 []).length:Int))) then 27 else
 bif (onv r 0&&(((ds.getD 0 []).length:Int) != 20))||(onv r 1&&(((ds.getD 1 []).length:Int) != 32)) then 24 else 0
def exR (r:zE) (i:Int) (ds:List By):zE:=chR r i (λx=>zKc (x++ds.getD 0 [])) (λx=>sha (x++ds.getD 1 []))
def exV (r:zE) (loc i:Int) (ds:List By):zE×Int:=if exE r loc i ds=0 then (exR r i ds,0) else (rg0,exE r loc i ds)
def yNh (h:nQ r) (i:Int) (ds:List By):nQ (exR r i ds):=yDt h (λx=>zJq _) (λx=>eE _)
def b3 {c0 c1:Bool}:(bif c0 then some true else bif c1 then some true else bif c2 then some true else some c3:Option Bool)=some (c0||(c1||(c2||c3))):=by cases c0<;>cases c1<;>cases c2<;>rfl
def b4 {c0 c1 c4:Bool}:(bif c0 then some true else bif c1 then some true else bif c2 then some true else bif c3 then some true else some c4:Option Bool)=some (c0||(c1||(c2||(c3||c4)))):=by cases c0<;>cases c1<;>cases c2<;>cases c3<;>rfl
def b2 {c0 c1:Bool}:(bif c0 then some true else bif c1 then some true else some c2:Option Bool)=some (c0||(c1||c2)):=by cases c0<;>cases c1<;>rfl
def yI7 (h:(decide (loc<0)||(decide (4<loc)||((!ixr i)||((ds.length:Int) != 2))))=true):exV r loc i ds=(rg0,1):=by
 have e:exE r loc i ds=1:=by unfold exE;rw [h];rfl
 unfold exV;rw [e];rfl
def yB4 (h:(decide (loc<0)||(decide (4<loc)||((!ixr i)||((ds.length:Int) != 2))))=false) (h2:decide (loc<lst i)=true):exV r loc i ds=(rg0,13):=by
 have e:exE r loc i ds=13:=by unfold exE;rw [h,h2];rfl
 unfold exV;rw [e];rfl
def yGk (ds:List By):Prop:=∀ d∈ds,d.length<2 ^ 30
def yAd (h:yGk ds) (a:Nat):(ds.getD a []).length<2 ^ 30:=by
 by_cases z:a<ds.length
 ·have:ds.getD a []=ds[a]:=by simp [z]
  rw [this];exact h _ (Q7 z)
 simp_all
def rl1r (h:nQ r) (F:ds.length=2):zP (zBp r ds) FU 0=some (bif (!onv r 0&&decide (0<((ds.getD 0 []).length:Int)))||(!onv r 1&&decide (0<((ds.getD 1 []).length:Int))) then .inl (rg0,27) else .inr ()):=by
 refine sc2 ?_ ?_ rfl
 ·refine ct rfl (bd (bd (zLk h 0 ji).2 (oA' λ_=>bd (zCd (i:=0) jh) rfl)) ?_);cases (!onv r 0&&decide (0<((ds.getD 0 []).length:Int)))<;>rfl
 ·refine ct rfl (bd (bd (zLk h 1 ji).2 (oA' λ_=>bd (zCd (i:=1) jh) rfl)) ?_);cases (!onv r 1&&decide (0<((ds.getD 1 []).length:Int)))<;>rfl
def rl2r (h:nQ r) (E:ds.length=2):zP (zBr r ds) FU 0=some (bif (onv r 0&&(((ds.getD 0 []).length:Int) != 20))||(onv r 1&&(((ds.getD 1 []).length:Int) != 32)) then .inl (rg0,24) else .inr ()):=by
 refine sc2 ?_ ?_ rfl
 ·refine ct rfl (bd (bd (zLk h 0 ji).2 (oA' λ_=>bd (zCd (i:=0) jh) (bd (a:=20) rfl rfl))) ?_);cases (onv r 0&&(((ds.getD 0 []).length:Int) != 20))<;>rfl
 ·refine ct rfl (bd (bd (zLk h 1 ji).2 (oA' λ_=>bd (zCd (i:=1) jh) (bd (a:=32) rfl rfl))) ?_);cases (onv r 1&&(((ds.getD 1 []).length:Int) != 32))<;>rfl
def tlX (m:∀ x∈b,x.length=n) (Y:n<=32) (I:o=some (onb b)) {ob:Option (List By)} (V:ob=some b) (N:0<=i) (L:i<16) {d:By} (W:d.length<2 ^ 30) {od:Option By} (E:od=some d)
  {C S:By->Option By} (K:∀ z,z.length<=32->C z=some z) (J:∀ z,z.length<2 ^ 40->S z=some (f z)) :
  (o.bind λv=>bif v then (ob.bind λH=>(idx H i).bind λU=>(C U).bind λG=>od.bind λT=>(yM 1 G T).bind λF=>(S F).bind λR=>(ixN b.length i).bind λj=>(wY b j R).bind λl=>some l) else some b)=some (upR b i (λx=>f (x++d))):=by
 refine bd I ?_;refine cc (λg=>?_) λ_=>rfl;have h:=zYv.1 g;obtain ⟨k,rfl⟩:=Q0 N;have X:=zCl m k;refine bd V (bd (zCd (i:=k) jh) (bd (K _ jh) (bd E (bd (yC jh) (bd (J _ (by rw [Q4];omega)) ?_)))));rw [h];refine bd (a:=k) (by simp [ixN];omega) (bd (by simp [wY,h];omega) rfl)
def yNb (z:By) (h:z.length<=32):wR z=some z:=lU z jh
def cpE (u:Int):zAn ⟨[],u⟩=some ⟨[],u⟩:=rfl
def yI3 (F:(decide (loc<0)||(decide (4<loc)||((!ixr i)||((ds.length:Int) != 2))))=false) (E:decide (loc<lst i)=false)
  (D:((!onv r 0&&decide (0<((ds.getD 0 []).length:Int)))||(!onv r 1&&decide (0<((ds.getD 1 []).length:Int))))=false) :
  exV r loc i ds=bif (onv r 0&&(((ds.getD 0 []).length:Int) != 20))||(onv r 1&&(((ds.getD 1 []).length:Int) != 32)) then (rg0,24) else (exR r i ds,0):=by
 unfold exV exE;rw [F,E,D];cases (onv r 0&&(((ds.getD 0 []).length:Int) != 20))||(onv r 1&&(((ds.getD 1 []).length:Int) != 32))<;>rfl
def yCp (G:(decide (loc<0)||(decide (4<loc)||((!ixr i)||((ds.length:Int) != 2))))=false) (F:decide (loc<lst i)=false)
  (E:((!onv r 0&&decide (0<((ds.getD 0 []).length:Int)))||(!onv r 1&&decide (0<((ds.getD 1 []).length:Int))))=true):exV r loc i ds=(rg0,27):=by
 unfold exV exE;rw [G,F,E];rfl
def hd1 (h:(decide (loc<0)||(decide (4<loc)||((!ixr i)||((ds.length:Int) != 2))))=false):0<=i/\i<16/\ds.length=2:=by
 simp only [Q5] at h;have A:=h.2.2.1;have D:=h.2.2.2;unfold ixr at A;simp at A D;omega
def zB1 (h:nQ r) (D i:Int) (R:yGk ds):mB r D i ds=some (exV r D i ds):=by
 have K:=h;obtain ⟨bs,u⟩:=r;have S:=yAd R 0;have T:=yAd R 1;have N:(decide (D<0)||(decide (4<D)||(decide (i<0)||(decide (16<=i)||((ds.length:Int) != 2)))))=(decide (D<0)||(decide (4<D)||((!ixr i)||((ds.length:Int) != 2)))):=by rw [yAt,Qn]
 unfold mB;rcases h with h | ⟨b0,b1,h,k⟩
 ·simp only at h;subst h;refine cf rfl ?_;unfold zAg;refine bd (b4.trans (congrArg some N)) ?_;cases g:decide (D<0)||(decide (4<D)||((!ixr i)||((ds.length:Int) != 2)))
  case true=>exact ct rfl (by rw [yI7 g];rfl)
  obtain ⟨L,G,J⟩:=hd1 g;refine cf rfl (bd (zTl i).2 ?_);cases H:decide (D<lst i)
  case true=>exact ct rfl (by rw [yB4 g H];rfl)
  refine cf rfl (bd (rl1r K J) ?_);cases I:(!onv ⟨[],u⟩ 0&&decide (0<((ds.getD 0 []).length:Int)))||(!onv ⟨[],u⟩ 1&&decide (0<((ds.getD 1 []).length:Int)))
  case true=>rw [yCp g H I];rfl
  refine bd (rl2r K J) ?_;rw [yI3 g H I];cases (onv ⟨[],u⟩ 0&&(((ds.getD 0 []).length:Int) != 20))||(onv ⟨[],u⟩ 1&&(((ds.getD 1 []).length:Int) != 32))
  ·exact bd (cpE u) (bd (a:=()) (two (b:=1) (c:=2) rfl rfl rfl) rfl)
  ·rfl
 ·simp only at h;subst h;refine ct rfl ?_;unfold zA5;refine bd (b4.trans (congrArg some N)) ?_;cases g:decide (D<0)||(decide (4<D)||((!ixr i)||((ds.length:Int) != 2)))
  case true=>exact ct rfl (by rw [yI7 g];rfl)
  obtain ⟨L,G,J⟩:=hd1 g;refine cf rfl (bd (zTl i).2 ?_);cases H:decide (D<lst i)
  case true=>exact ct rfl (by rw [yB4 g H];rfl)
  refine cf rfl (bd (rl1r K J) ?_);cases I:(!onv ⟨[b0,b1],u⟩ 0&&decide (0<((ds.getD 0 []).length:Int)))||(!onv ⟨[b0,b1],u⟩ 1&&decide (0<((ds.getD 1 []).length:Int)))
  case true=>rw [yCp g H I];rfl
  refine bd (rl2r K J) ?_;rw [yI3 g H I];cases (onv ⟨[b0,b1],u⟩ 0&&(((ds.getD 0 []).length:Int) != 20))||(onv ⟨[b0,b1],u⟩ 1&&(((ds.getD 1 []).length:Int) != 32))
  ·refine bd (zO3 u k) ?_;refine bd (tlX k.m0 ji (zGx u k).1 (ob:=idx [b0,b1] 0) rfl L G S (zCd (i:=0) jh) yNb zNj) ?_;exact bd (tlX k.m1 ji (zGx u k).2 (ob:=idx [b0,b1] 1) rfl L G T (zCd (i:=1) jh) yNb zOy) rfl
  ·rfl
def yCs (h:nQ r) :nQ (exV r loc i ds).1:=by
 unfold exV;split
 ·exact yNh h i ds
 ·exact .inl rfl
def dgE (r:zE) (b:By):List By:=[bif onv r 0 then zKc b else [],bif onv r 1 then sha b else []]
def yLt (r:zE) (b:By):yGk (dgE r b):=by
 intro d z;simp only [dgE,Qu,Qr,or_false] at z;rcases z with rfl | rfl
 ·cases onv r 0
  ·simp
  ·show (zKc b).length<_;rw [zJq];decide
 ·cases onv r 1
  ·simp
  ·show (sha b).length<_;rw [eE];decide
def yJg (h:nQ r) {b:By} (g:b.length<2 ^ 40):fU r b=some (dgE r b):=by
 refine bd (a:=dgE r b) (two (b:=(1,[bif onv r 0 then zKc b else [],[]])) (c:=(2,dgE r b)) ?_ ?_ rfl) (bd (ckT rfl) rfl)
 ·unfold gR;refine ct rfl (bd (bd (zLk h 0 ji).2 ?_) rfl);cases onv r 0
  ·rfl
  ·exact bd (zNj b g) rfl
 ·unfold gR;refine ct rfl (bd (a:=dgE r b) (bd (zLk h 1 ji).2 ?_) rfl);unfold dgE;cases onv r 1
  ·rfl
  ·exact bd (zOy b g) rfl
def evV (r:zE) (loc i:Int) (b:By):zE×Int:=if 128<b.length then (rg0,4) else exV r loc i (dgE r b)
def yM4 (h:nQ r) {b:By}:nQ (evV r loc i b).1:=by
 unfold evV;split
 ·exact .inl rfl
 ·exact yCs h
def zJ0 (h:nQ r) (z i:Int) (b:By):zAd r z i b=some (evV r z i b):=by
 unfold zAd evV;by_cases g:128<b.length
 ·rw [if_pos g];exact ct (decide_eq_true jh) rfl
 ·rw [if_neg g];exact cf (decide_eq_false jh) (bd (yJg h jh) (bd (zB1 h z i (yLt r b)) rfl))
def rsE (loc i:Int):Int:=bif decide (loc<0)||(decide (4<loc)||!ixr i) then 1 else bif decide (loc<lsr i) then 13 else 0
def rsV (r:zE) (loc i:Int):zE×Int:=if rsE loc i=0 then (chR r i (λ_=>Q2 20 0) (λ_=>Q2 32 0),0) else (rg0,rsE loc i)
def yNa (h:nQ r) :nQ (rsV r loc i).1:=by
 unfold rsV;split
 ·exact yDt h (λ_=>by simp) (λ_=>by simp)
 ·exact .inl rfl
def tlZ (G:o=some (onb b)) (I:0<=i) (H:i<16) {z:By} {oz:Option By} (F:oz=some z) :
  (o.bind λv=>bif v then (oz.bind λE=>(ixN b.length i).bind λj=>(wY b j E).bind λl=>some l) else some b)=some (upR b i (λ_=>z)):=by
 refine bd G ?_;refine cc (λg=>?_) λ_=>rfl;have h:=zYv.1 g;obtain ⟨k,rfl⟩:=Q0 I;refine bd F ?_;refine bd (a:=k) (by simp [ixN];omega) (bd (by simp [wY];omega) rfl)
def zJ4 (h:nQ r) (A i:Int):dP r A i=some (rsV r A i):=by
 obtain ⟨bs,u⟩:=r;have K:(decide (A<0)||(decide (4<A)||(decide (i<0)||decide (16<=i))))=(decide (A<0)||(decide (4<A)||!ixr i)):=by rw [yAt]
 have N:(decide (A<0)||(decide (4<A)||!ixr i))=false->(decide ((if i<12 then -1 else lsr i)<0)||decide (A<(if i<12 then -1 else lsr i)))=decide (A<lsr i):=λg=>by
  simp only [Q5] at g;have I:=dF g.1;have R:=dF g.2.1;unfold lsr;by_cases q:i<12
  ·rw [if_pos q,decide_eq_true q];show true=decide (A<5);exact (decide_eq_true jh).symm
  ·rw [if_neg q,decide_eq_false q];cases S:(i==14)<;>cases T:(i==15)<;>rfl
 unfold dP rsV rsE;rcases h with h | ⟨b0,b1,h,k⟩
 ·simp only at h;subst h;refine cf rfl ?_;unfold zCm;refine bd (b3.trans (congrArg some K)) ?_;cases g:decide (A<0)||(decide (4<A)||!ixr i)
  case true=>exact ct rfl rfl
  refine cf rfl (bd (zSz i).2 (bd ((oO _ _).trans (congrArg some (N g))) ?_));cases R:decide (A<lsr i)
  case true=>exact ct rfl rfl
  exact cf rfl (bd (cpE u) (bd (a:=()) (two (b:=1) (c:=2) rfl rfl rfl) rfl))
 ·simp only at h;subst h;refine ct rfl ?_;unfold zB2;refine bd (b3.trans (congrArg some K)) ?_;cases g:decide (A<0)||(decide (4<A)||!ixr i)
  case true=>exact ct rfl rfl
  have H:0<=i/\i<16:=by simp only [Q5] at g;have I:=g.2.2;unfold ixr at I;simp at I;omega
  refine cf rfl (bd (zSz i).2 (bd ((oO _ _).trans (congrArg some (N g))) ?_));cases R:decide (A<lsr i)
  case true=>exact ct rfl rfl
  refine cf rfl (bd (zO3 u k) ?_);refine bd (tlZ (zGx u k).1 H.1 H.2 (oz:=(rW 0).bind λv=>rY v 0) (bd (a:=20) rfl yJj.1)) ?_;exact bd (tlZ (zGx u k).2 H.1 H.2 (oz:=(rW 1).bind λv=>rY v 0) (bd (a:=32) rfl yJj.2)) rfl
def vlE (r:zE) (bank i:Int):Int:=bif decide (bank<0)||(decide (2<=bank)||!ixr i) then 1 else bif !onv r bank.toNat then 27 else 0
def vlV (r:zE) (bank i:Int):By×Int:=if vlE r bank i=0 then ((r.Banks.getD bank.toNat []).getD i.toNat [],0) else ([],vlE r bank i)
def yAg (h:nQ r) {a:Nat} (G:a<2) (g:onv r a=true):idx r.Banks (a:Int)=some (r.Banks.getD a [])/\(r.Banks.getD a []).length=16/\∀ k,((r.Banks.getD a []).getD k []).length<=32:=by
 obtain ⟨bs,u⟩:=r;have A:=zYv.1 g;rcases h with h | ⟨b0,b1,h,k⟩
 ·simp_all
 ·simp only at h;subst h;rcases (show a=0∨a=1 by omega) with rfl | rfl
  ·exact ⟨rfl,A,λi=>by have:=zCl k.m0 i;show (b0.getD i []).length<=32;omega⟩
  ·exact ⟨rfl,A,λi=>by have:=zCl k.m1 i;simp_all⟩
def zJ2 (h:nQ r) (z i:Int):zAl r z i=some (vlV r z i):=by
 unfold zAl vlV vlE;refine bd (b3.trans (congrArg some (by rw [yAt]:_=(decide (z<0)||(decide (2<=z)||!ixr i))))) ?_;cases g:decide (z<0)||(decide (2<=z)||!ixr i)
 case true=>exact ct rfl rfl
 simp only [Q5] at g;have L:=dF g.1;have F:=dF g.2.1;have H:0<=i/\i<16:=by have F:=g.2.2;unfold ixr at F;simp at F;omega
 obtain ⟨a,rfl⟩:=Q0 (by omega:0<=z);obtain ⟨k,rfl⟩:=Q0 H.1;refine cf rfl (bd (zLk h a jh).2 ?_);cases E:onv r a
 ·simp_all
 ·obtain ⟨I,K,J⟩:=yAg h jh E;refine cf rfl (bd I (bd (zCd (i:=k) jh) (bd (yNb _ (J k)) ?_)));simp_all
end Go.Proofs.TT
namespace Go.Sw
open Go
def sc2g {X R Y:Type} {step:X->Option (X ⊕ (R ⊕ Y))} {p q:Bool} {a b c:X} {x:R} {y:Y} (h0:step a=some (bif p then .inr (.inl x) else .inl b)) (h1:p=false->step b=some (bif q then .inr (.inl x) else .inl c)) (h2:p=false->q=false->step c=some (.inr (.inr y))):zP step FU a=some (bif p||q then .inl x else .inr y):=by
 cases p
 ·have h1:=h1 rfl;cases q
  ·exact Go.Proofs.TT.two h0 h1 (h2 rfl rfl)
  ·exact one1 h0 h1
 ·exact yMy h0
end Go.Sw
namespace Go.Proofs.TT
open Go Go.Sw
variable {a:Nat}{all bits:By}{bk:List By}{d:By}{k:Nat}{kind:Int}{l:By}{m n off:Int}{policy:By}{r:zE}{s:zB}{size v:Int}{x:zF}
def bit0 (x:Int):(xB .i64 (xT .i64 0 x) 1==1)=false:=by
 unfold xT;rw [Int.zero_fdiv];decide
def yIb (v:Int) (i:Nat):Bool:=xB .i64 (xT .i64 v (Qf.wrap (i:Int))) 1==1
def bX (v:Int) (bk:List By):Nat->By
 | 0=>[]
 | n+1=>bX v bk n++(if yIb v n=true then bk.getD n [] else [])
def zYq (v:Int) (bk:List By) (n:Nat):bX v bk (n+1)=bX v bk n++(if yIb v n=true then bk.getD n [] else []):=rfl
def zB5 (h:∀ k,(bk.getD k []).length<=32) (v:Int):∀ n,(bX v bk n).length<=32*n
 | 0=>by simp [bX]
 | n+1=>by
  have:=zB5 h v n;have:=h n;rw [zYq,Q4];split
  ·omega
  ·simp only [Q6];omega
def zNy (h:nQ r) (a:Nat) (k:Nat):((r.Banks.getD a []).getD k []).length<=32:=by
 obtain ⟨bs,u⟩:=r;rcases h with h | ⟨b0,b1,h,q⟩
 ·simp only at h;subst h;simp
 ·simp only at h;subst h;rcases (show a=0∨a=1∨2<=a by omega) with rfl | rfl | g
  ·have:=zCl q.m0 k;show (b0.getD k []).length<=32;omega
  ·have:=zCl q.m1 k;show (b1.getD k []).length<=32;omega
  ·have e:([b0,b1]:List (List By)).getD a []=[]:=by simp [Qp,List.getElem?_eq_none (show [b0,b1].length<=a by simpa using g)]
   rw [e];simp
def zZt {i:Nat} {o:Option (List By)} (hi:i<16) (hz:v=0∨(bk.length=16/\o=some bk)) (hb:∀ k,(bk.getD k []).length<=32) (hl:all.length<=512) :
  (bif ((xB .i64 (xT .i64 v (Qf.wrap (i:Int))) 1)==1) then (o.bind λb=>(idx b (i:Int)).bind λx=>(yM 1 (all++bX v bk i) x).bind λz=>some z) else some (all++bX v bk i))=some (all++bX v bk (i+1)):=by
 have hs:=zB5 hb v i;have hg:=hb i;rw [zYq];cases hbit:yIb v i
 ·refine cf hbit ?_;simp
 ·refine ct hbit ?_;rcases hz with h | ⟨h16,ho⟩
  ·unfold yIb at hbit;rw [h,bit0] at hbit;cases hbit
  refine bd ho (bd (zCd jh) (bd (yC (by rw [Q4];omega)) ?_));simp
def yNt (h:nQ r) (ha:a<2) (g:((v != 0)&&!onv r a)=false):v=0∨((r.Banks.getD a []).length=16/\idx r.Banks (a:Int)=some (r.Banks.getD a [])):=by
 by_cases e:v=0
 ·exact .inl e
 ·rw [b1 e,Bool.true_and] at g;have g:onv r a=true:=by simpa using g
  obtain ⟨q1,q2,_⟩:=yAg h ha g;exact .inr ⟨q2,q1⟩
def dl2r (h:nQ r) (ha:a<2) {s:A2 Int} (hv:((ixN 2 (a:Int)).bind λj=>[s.a0,s.a1][j]?)=some v) (g:((v != 0)&&!onv r a)=false) (hl:all.length<=512):zP (pB r s (a:Int)) FU (all,0)=some (all++bX v (r.Banks.getD a []) 16):=by
 refine yF 16 (λi=>(all++bX v (r.Banks.getD a []) i,(i:Int))) (by simp [bX]) (λi hi16=>?_) rfl (xJ ji);unfold pB;have e:∀ (f:Int->Option By),((ixN 2 (a:Int)).bind λj=>([s.a0,s.a1][j]?).bind f)=f v:=by
  intro f;rw [<- Option.bind_assoc,hv];rfl
 refine ct (decide_eq_true jh) ?_;rw [e];refine bd (zZt hi16 (yNt h ha g) (zNy h a) hl) ?_;rw [yO jh]
def rng (x:Int):Bool:=decide (x<0)||decide (65535<x)
def rdE (r:zE) (s:A2 Int):Int:=bif rng s.a0||rng s.a1 then 1 else bif ((s.a0 != 0)&&!onv r 0)||((s.a1 != 0)&&!onv r 1) then 27 else 0
def rdD (r:zE) (s:A2 Int):By:=hs 5 [wW (wW [] 2 s.a0) 2 s.a1,bX s.a0 (r.Banks.getD 0 []) 16++bX s.a1 (r.Banks.getD 1 []) 16]
def rdV (r:zE) (s:A2 Int):By×Int:=if rdE r s=0 then (rdD r s,0) else ([],rdE r s)
def zT4 (r:zE) (s:A2 Int):(rdV r s).1.length<=32:=by
 unfold rdV;split
 ·show (rdD r s).length<=32;rw [rdD,gQ];decide
 ·exact Qk _
def yHb (h:nQ r) (s:A2 Int):tot [wW (wW [] 2 s.a0) 2 s.a1,bX s.a0 (r.Banks.getD 0 []) 16++bX s.a1 (r.Banks.getD 1 []) 16]<2 ^ 32:=by
 have h0:=zB5 (zNy h 0) s.a0 16;have h1:=zB5 (zNy h 1) s.a1 16;simp only [tot,List.map,List.sum_cons,List.sum_nil,yL,Q4,Q6];omega
def zCj (h:nQ r) (s:A2 Int):iK r s=some (rdV r s):=by
 have h0:=zB5 (zNy h 0) s.a0 16;have ht:=yHb h s;unfold iK rdV rdE rdD;have e0:((s.a0 != 0)&&!onv r 0)=false->zP (pB r s 0) FU ([],0)=some (bX s.a0 (r.Banks.getD 0 []) 16):=λg=>by have:=dl2r h (a:=0) ji (s:=s) (v:=s.a0) rfl g (all:=[]) jk;rwa [List.nil_append] at this
 have e1:((s.a1 != 0)&&!onv r 1)=false->zP (pB r s 1) FU (bX s.a0 (r.Banks.getD 0 []) 16,0)=some (bX s.a0 (r.Banks.getD 0 []) 16++bX s.a1 (r.Banks.getD 1 []) 16):=λg=>dl2r h (a:=1) ji (s:=s) (v:=s.a1) rfl g jh;generalize bX s.a0 (r.Banks.getD 0 []) 16=t0 at *;generalize bX s.a1 (r.Banks.getD 1 []) 16=t1 at *;refine bd (sc2 (p:=rng s.a0) (q:=rng s.a1) (x:=([],1)) ?_ ?_ rfl) ?_
 ·unfold dN;refine ct rfl (bd (a:=rng s.a0) (bd (a:=0) rfl (bd (a:=s.a0) rfl (oO' λ_=>bd (a:=0) rfl (bd (a:=s.a0) rfl rfl)))) ?_);cases rng s.a0<;>rfl
 ·unfold dN;refine ct rfl (bd (a:=rng s.a1) (bd (a:=1) rfl (bd (a:=s.a1) rfl (oO' λ_=>bd (a:=1) rfl (bd (a:=s.a1) rfl rfl)))) ?_);cases rng s.a1<;>rfl
 cases rng s.a0||rng s.a1
 case true=>rfl
 refine bd (sc2g (p:=(s.a0 != 0)&&!onv r 0) (q:=(s.a1 != 0)&&!onv r 1) (b:=(t0,1)) (c:=(t0++t1,2)) (x:=([],27)) (y:=t0++t1) ?_ (λ_=>?_) (λ_ _=>rfl)) ?_
 ·unfold cB;refine ct rfl (bd (a:=(s.a0 != 0)&&!onv r 0) (bd (a:=0) rfl (bd (a:=s.a0) rfl (oA' λ_=>bd (zLk h 0 ji).2 rfl))) ?_);cases g:(s.a0 != 0)&&!onv r 0
  ·exact cf rfl (bd (e0 g) rfl)
  ·rfl
 ·unfold cB;refine ct rfl (bd (a:=(s.a1 != 0)&&!onv r 1) (bd (a:=1) rfl (bd (a:=s.a1) rfl (oA' λ_=>bd (zLk h 1 ji).2 rfl))) ?_);cases g:(s.a1 != 0)&&!onv r 1
  ·exact cf rfl (bd (e1 g) rfl)
  ·rfl
 cases ((s.a0 != 0)&&!onv r 0)||((s.a1 != 0)&&!onv r 1)
 case true=>rfl
 refine bd (a:=s.a0) rfl (bd (uI [] 2 _ ji ji jk) (bd (a:=s.a1) rfl (bd (uI _ 2 _ ji ji (by rw [yL];simp)) ?_)));exact bd (rR 5 _ ht) rfl
structure zDv (x:zF):Prop where
 n0:0<=x.N
 n1:x.N<=255
 p:x.Policy.length<=32
 a:x.Auth.length<=32
 d:x.Data.length<=128
 b:x.Kind=3->x.Data.length=8
def szd (k s:Int):Bool:=bif k==1 then decide (1<=s)&&decide (s<=128) else bif (k==2)||(k==3) then s==8 else bif k==4 then s==32 else false
def yCy (k s:Int):zCh k s=some (szd k s):=by
 refine cc (λ_=>bd (oA _ _) rfl) λ_=>bd (by cases k==2<;>rfl) (cc (λ_=>rfl) λ_=>cc (λ_=>rfl) λ_=>rfl)
def yKw (k s:Int):zCb k s=some (szd k s):=yCy k s
def n1E (n kind size:Int) (policy:By):Bool:=decide (n<0)||(decide (255<n)||(!szd kind size||((policy.length:Int) != 0&&(policy.length:Int) != 32)))
def n2E (attr:Int) (policy:By):Bool:=decide (attr<0)||(decide (127<attr)||((xB .i64 attr 21==0)||((xB .i64 attr 42==0)||((xB .i64 attr 12 != 0)&&((policy.length:Int)==0)))))
def nwE (n kind attr size:Int) (auth policy:By):Int:=bif n1E n kind size policy then 1 else bif decide (32<(auth.length:Int)) then 4 else bif n2E attr policy then 20 else 0
def nwV (n kind attr size:Int) (auth policy:By):zF×Int:=if nwE n kind attr size auth policy=0 then (zF.mk n kind attr size policy auth false (Q2 size.toNat 0),0) else (default,nwE n kind attr size auth policy)
def yJm (h:n1E n kind size policy=false):0<=n/\n<=255/\szd kind size=true/\policy.length<=32:=by
 unfold n1E at h;simp only [Q5] at h;obtain ⟨H,G,E,A⟩:=h;have:=dF H;have:=dF G;refine ⟨jh,jh,jm,?_⟩;by_cases g:policy.length=0
 ·omega
 ·have F:(policy.length:Int)≠0:=jh
  rw [b1 F] at A;have:=by simpa using A
  omega
def zZh {k s:Int} (h:szd k s=true):1<=s/\s<=128/\(k=3->s=8):=by
 unfold szd at h;by_cases E:k=1
 ·simp_all
 by_cases A:k=2∨k=3
 ·simp_all
 simp_all
def zNk (h:n1E n kind size policy=false) (f:Nat->Option (zF×Int)):((mkN 1 size).bind λg=>(ck (Nat.beq (Q2 g (0:UInt8)).length g)).bind λ_=>(ck (Nat.ble g 140737488355328)).bind λ_=>f g)=f size.toNat:=by
 obtain ⟨_,_,E,_⟩:=yJm h;obtain ⟨s1,F,_⟩:=zZh E;obtain ⟨k,rfl⟩:=Q0 (by omega:0<=size);exact bd (mk1 k jh) (bd (ckT (zKa jk)) (bd (ckT (zLg jh)) rfl))
def zQn (n A D size:Int) (auth z:By):zDd n A D size auth z=some (nwV n A D size auth z):=by
 unfold zDd nwV nwE;refine bd (a:=n1E n A size z) ?_ ?_
 ·refine bd (oO _ _) ?_;unfold n1E;rw [<- Qn];exact oD' λ_=>bd (yKw A size) (oD' λ_=>oA _ _)
 cases g:n1E n A size z
 case true=>rfl
 cases decide (32<(auth.length:Int))
 case true=>rfl
 refine cf rfl (bd (a:=n2E D z) ?_ ?_)
 ·refine bd (oO _ _) ?_;unfold n2E;rw [<- Qn];exact oD' λ_=>oD' λ_=>oD' λ_=>oA _ _
 cases n2E D z
 case true=>rfl
 exact cf rfl (zNk g _)
def zPp (n A D size:Int) (auth z:By):zDf n A D size auth z=some (nwV n A D size auth z):=by
 unfold zDf nwV nwE;refine bd (a:=n1E n A size z) ?_ ?_
 ·exact oO' λ_=>oO' λ_=>bd (yCy A _) (oO' λ_=>oA _ _)
 cases g:n1E n A size z
 case true=>rfl
 cases decide (32<(auth.length:Int))
 case true=>rfl
 refine cf rfl (bd (a:=n2E D z) ?_ ?_)
 ·exact oO' λ_=>oO' λ_=>oO' λ_=>oO' λ_=>oA _ _
 cases n2E D z
 case true=>rfl
 exact cf rfl (zNk g _)
def yM8 {attr:Int} {auth:By} (h:nwE n kind attr size auth policy=0):zDv (nwV n kind attr size auth policy).1/\(nwV n kind attr size auth policy).1.N=n:=by
 unfold nwV;rw [if_pos h];unfold nwE at h;cases g:n1E n _ size _<;>rw [g] at h
 case true=>cases h
 cases E:decide (32<(auth.length:Int))<;>rw [E] at h
 case true=>cases h
 obtain ⟨H,J,I,F⟩:=yJm g;obtain ⟨s1,K,G⟩:=zZh I;have:=dF E;exact ⟨⟨H,J,F,by show auth.length<=32;omega,jm,λe=>jm⟩,rfl⟩
def ins (off n:Int) (len:Nat):Bool:=decide (0<=off/\0<=n/\off+n<=len)
def zKu {len:Nat}:ins off n len=true↔0<=off/\0<=n/\off+n<=len:=by simp [ins]
def zTi (off n:Int) {len:Nat} (z:len<2 ^ 40):eC off n (len:Int)=some (ins off n len):=by
 refine bd (oA' λ_=>oA' λ_=>oA _ _) (congrArg some ?_);rw [Qj,zKu];simp only [Q8,decide_eq_true_eq];constructor
 ·rintro ⟨a,b,c,d⟩;rw [yI jh jh] at d;exact ⟨a,b,jh⟩
 ·rintro ⟨a,b,c⟩;rw [yI jh jh];omega
def yGq (x:zF) (off n:Int) (z:x.Data.length<2 ^ 40):zA7 x off n=some (ins off n x.Data.length):=by
 refine bd (oA' λ_=>oA' λ_=>oA _ _) (congrArg some ?_);rw [Qj,zKu];simp only [Q8,decide_eq_true_eq];constructor
 ·rintro ⟨a,b,c,d⟩;rw [yI jh jh] at d;exact ⟨a,b,jh⟩
 ·rintro ⟨a,b,c⟩;rw [yI jh jh];omega
def irE (x:zF) (off n:Int):Int:=bif !x.Written then 22 else bif !ins off n x.Data.length then 24 else 0
def irV (x:zF) (off n:Int):By×Int:=if irE x off n=0 then ((x.Data.drop off.toNat).take n.toNat,0) else ([],irE x off n)
def yA0 (D:x.Data.length<2 ^ 40) (h:ins off n x.Data.length=true):sub x.Data off (Q1.wrap (off+n))=some ((x.Data.drop off.toNat).take n.toNat):=by
 obtain ⟨a,b,c⟩:=zKu.1 h;obtain ⟨i,rfl⟩:=Q0 a;obtain ⟨k,rfl⟩:=Q0 b;rw [yI jh jh,<- Int.natCast_add,uW jh jh];simp
def zO7 (x:zF) (off n:Int) (z:x.Data.length<2 ^ 40):zBg x off n=some (irV x off n):=by
 unfold zBg irV irE;cases x.Written
 ·rfl
 refine cf rfl (bd (yGq x _ n z) ?_);cases g:ins _ n _
 ·rfl
 refine cf rfl (bd (yA0 z g) (bd (yC jl) rfl))
def zOq (x:zF) (off n:Int) (z:x.Data.length<2 ^ 40):zA8 x off n=some (irV x off n):=by
 unfold zA8 irV irE;cases x.Written
 ·rfl
 refine cf rfl (bd (zTi _ n z) ?_);cases g:ins _ n _
 ·rfl
 refine cf rfl (bd (yA0 z g) (bd (lU _ jl) rfl))
def yIg (x:zF) (off n:Int):(irV x off n).1.length<=x.Data.length:=by
 unfold irV;split
 ·simp;omega
 simp
def wrt (x:zF) (d:By):zF:=⟨x.N,x.Kind,x.Attr,x.Size,x.Policy,x.Auth,true,d⟩
def zLl (h:zDv x) (g:d.length<=128) (z:x.Kind=3->d.length=8):zDv (wrt x d):=⟨h.n0,h.n1,h.p,h.a,g,z⟩
def iwE (x:zF) (off:Int) (d:By):Int:=bif x.Kind != 1 then 19 else bif !ins off (d.length:Int) x.Data.length then 24 else 0
def ovr (l:By) (k:Nat) (d:By):By:=l.take k++(d++l.drop (k+d.length))
def iwV (x:zF) (off:Int) (d:By):zF×Int:=if iwE x off d=0 then (wrt x (ovr x.Data off.toNat d),0) else (default,iwE x off d)
def zL7 (x:zF) (off:Int) (d:By) (E:x.Data.length<2 ^ 40):cQ x off d=some (iwV x off d):=by
 unfold cQ iwV iwE;cases x.Kind != 1
 case true=>rfl
 refine cf rfl (bd (zTi off _ E) ?_);cases g:ins off (d.length:Int) x.Data.length
 ·rfl
 obtain ⟨a,b,c⟩:=zKu.1 g;obtain ⟨i,rfl⟩:=Q0 a;have F:sub x.Data 0 (i:Int)=some (x.Data.take i):=by
  rw [show (0:Int)=((0:Nat):Int) from rfl,uW jh jh];simp
 have D:sub x.Data (Q1.wrap ((i:Int)+(d.length:Int))) (x.Data.length:Int)=some (x.Data.drop (i+d.length)):=by
  rw [yI jh jh,<- Int.natCast_add,uW jh jh,List.take_of_length_le jk]
 refine cf rfl (bd F (bd (lU _ jl) (bd (yC jl) (bd D (bd (yC jl) ?_)))));unfold ovr wrt;rw [List.append_assoc];rfl
def yGy (h:k+d.length<=l.length):(ovr l k d).length=l.length:=by unfold ovr;simp;omega
def yNd (h:zDv x) (e:iwE x off d=0):zDv (iwV x off d).1/\(iwV x off d).1.N=x.N:=by
 unfold iwV;rw [if_pos e];unfold iwE at e;cases A:x.Kind != 1<;>rw [A] at e
 case true=>cases e
 have D:=by simpa using A
 cases g:ins off _ _<;>rw [g] at e
 ·cases e
 obtain ⟨a,b,c⟩:=zKu.1 g;have:=yGy (l:=x.Data) (d:=d) (k:=off.toNat) jh;exact ⟨zLl h (by rw [this];exact h.d) (λq=>by omega),rfl⟩
def inB (x:zF) (most:Int):Int:=bif x.Written then (wS (rs0 x.Data) 8).1 else most
def inE (x:zF) (most:Int):Int:=bif x.Kind != 2 then 19 else bif decide (1099511627776<=inB x most) then 31 else 0
def inV (x:zF) (most:Int):zF×Int×Int:=if inE x most=0 then (wrt x (wW [] 8 (Q1.wrap (inB x most+1))),if most<Q1.wrap (inB x most+1) then Q1.wrap (inB x most+1) else most,0) else (default,0,inE x most)
def zP6 (x:zF) (g:Int) (D:x.Data.length<2 ^ 40):nH x g=some (inV x g):=by
 have F:=zGe D;unfold nH inV inE;cases x.Kind != 2
 case true=>rfl
 refine cf rfl (bd (a:=inB x g) ?_ ?_)
 ·unfold inB;cases x.Written
  ·rfl
  ·exact bd (wnew _ D) (bd (zJ9 _ 8 F ji ji) rfl)
 cases decide (1099511627776<=inB x g)
 case true=>rfl
 rfl
def zQ2 (x:zF) (g:Int) (E:x.Data.length<2 ^ 40):nN x g=some (inV x g):=by
 have F:=zGe E;unfold nN inV inE;cases x.Kind != 2
 case true=>rfl
 refine cf rfl (bd (a:=inB x g) ?_ ?_)
 ·unfold inB;cases x.Written
  ·rfl
  ·refine ct rfl (bd ?_ rfl);unfold mY;exact bd (zZx _) (bd (kA _ 8 F ji ji) rfl)
 cases decide (1099511627776<=inB x g)
 case true=>rfl
 rfl
def yKz (h:zDv x) {most:Int} (e:inE x most=0):zDv (inV x most).1/\(inV x most).1.N=x.N:=by
 unfold inV;rw [if_pos e];exact ⟨zLl h (by rw [yL];decide) (λ_=>by rfl),rfl⟩
def orS (d bits:By):Nat->By
 | 0=>d
 | k+1=>(orS d bits k).set k (u8 (ior .u8 (((orS d bits k).getD k 0).toNat:Int) ((bits.getD k 0).toNat:Int)))
def zA3 (d bits:By):∀ k,(orS d bits k).length=d.length
 | 0=>rfl
 | k+1=>by rw [orS,Qe,zA3 d _ k]
def sbE (x:zF) (bits:By):Int:=bif x.Kind != 3 then 19 else bif (bits.length:Int) != 8 then 24 else 0
def sbV (x:zF) (bits:By):zF×Int:=if sbE x bits=0 then (wrt x (orS x.Data bits 8),0) else (default,sbE x bits)
def getQ (h:k<l.length):l[k]? = some (l.getD k 0):=by simp_all
def yH9 (H:d.length=8) (G:bits.length=8) (F:k<8) {n:Nat} (D:n=8) {β:Type} (f:By->Option β) :
  ((ixN n (k:Int)).bind λj=>((orS d bits k)[j]?).bind λv=>(idx bits (k:Int)).bind λw=>(ixN n (k:Int)).bind λA=>(wY (orS d bits k) A (u8 (ior .u8 (v.toNat:Int) (w.toNat:Int)))).bind λl=>f l)=f (orS d bits (k+1)):=by
 subst D;have E:=zA3 d bits k;have e:ixN 8  k  = some k:=by simp [ixN];omega
 refine bd e (bd (getQ jh) (bd (ig jh) (bd e (bd ?_ rfl))));simp [wY,orS];omega
def zM8 (x:zF) (bits:By) (G:x.Kind=3->x.Data.length=8):jT x bits=some (sbV x bits):=by
 unfold jT sbV sbE;cases g:x.Kind != 3
 case true=>rfl
 have A:=G (by simpa using g);refine cf rfl ?_;cases I:(bits.length:Int) != 8
 case true=>rfl
 have F:bits.length=8:=by have:(bits.length:Int)=8:=by { simpa using I };omega
 refine cf rfl (bd (a:=x.Data) (lU _ jh) (bd (a:=orS x.Data bits 8) ?_ rfl));refine yF 8 (λi=>(orS x.Data bits i,(i:Int))) rfl (λi H=>?_) ?_ (xJ ji)
 ·refine ct (decide_eq_true (by rw [zA3,A];omega)) ((yH9 A F H (by rw [zA3,A]) _).trans ?_);rw [yO jh]
 ·unfold aS;exact cf (decide_eq_false (by rw [zA3,A];decide)) rfl
def yLd (h:zDv x) (e:sbE x bits=0):zDv (sbV x bits).1/\(sbV x bits).1.N=x.N:=by
 unfold sbV;rw [if_pos e];exact ⟨zLl h (by rw [zA3];exact h.d) (λq=>by rw [zA3];exact h.b q),rfl⟩
def ieE (x:zF) (d:By):Int:=bif x.Kind != 4 then 19 else bif decide (128<(d.length:Int)) then 4 else 0
def ieV (x:zF) (d:By):zF×Int:=if ieE x d=0 then (wrt x (sha (x.Data++d)),0) else (default,ieE x d)
def zPn (x:zF) (d:By) (E:x.Data.length<2 ^ 39):fN x d=some (ieV x d):=by
 unfold fN ieV ieE;cases x.Kind != 4
 case true=>rfl
 cases g:decide (128<(d.length:Int))
 case true=>rfl
 have:=dF g;exact cf rfl (bd (lU _ jh) (bd (yC jh) (bd (cR _ (by rw [Q4];omega)) rfl)))
def yL0 (h:zDv x) (e:ieE x d=0):zDv (ieV x d).1/\(ieV x d).1.N=x.N:=by
 unfold ieV;rw [if_pos e];refine ⟨zLl h (by rw [eE];decide) (λq=>?_),rfl⟩;unfold ieE at e;simp_all
def ss0:zI:=default
def ob0:zS:=default
def x0:zB:=default
structure zJz (x:zI):Prop where
 k0:0<=x.Kind
 k3:x.Kind<=3
 n:x.Nonce.length<=32
 d:x.Digest.length<=32
structure zNo (x:zS):Prop where
 k:x.Public.Kind=0∨(kH x.Public/\zBn x.Sensitive)
 z:x.Public.Kind=0->x=ob0
structure zG9 (l:List Int):Prop where
 nd:l.Nodup
 el:∀ x∈l,0<=x/\x<=255
structure yL6 (x:zZ):Prop where
 u:x.Unique.length<=32
 c0:0<=x.Used
 c8:x.Used<=8
structure zX (s:zB):Prop where
 sl:s.Stable.Seeds.length=3
 se:∀ x∈s.Stable.Seeds,x.length<=32
 al:s.Stable.Auths.length=4
 ae:∀ x∈s.Stable.Auths,x.length<=32
 en:s.Stable.Entropy.length<=32
 a0:0<=s.Stable.Active
 a3:s.Stable.Active<=3
 sv:nQ s.Stable.Saved
 sn:(s.Volatile.Stopped=false->s.Stable.Saved.Banks=[])/\(s.Volatile.Started=true->s.Volatile.Stopped=false)
 rg:nQ s.Volatile.Registers
 ss:s.Volatile.Sessions.length=3
 sx:∀ x∈s.Volatile.Sessions,zJz x
 ol:s.Volatile.Objects.length=3
 ob:∀ x∈s.Volatile.Objects,zNo x
 il:s.Stable.Indices.length<=6
 ix:∀ x∈s.Stable.Indices,zDv x
 nd:(s.Stable.Indices.map (·.N)).Nodup
 kl:s.Stable.Keys.length<=8
 ky:∀ x∈s.Stable.Keys,yL6 x
 rl:zG9 s.Volatile.ReadLocks
 wl:zG9 s.Volatile.WriteLocks
def zQm:zJz ss0:=⟨ji,ji,ji,ji⟩
def zXq:zNo ob0:=⟨.inl rfl,λ_=>rfl⟩
def lk0:zG9 []:=⟨List.nodup_nil,jk⟩
theorem zMt:∀ (n:Nat) (l:List Int),l.Nodup->(∀ x∈l,0<=x/\x<(n:Int))->l.length<=n
 | 0,[],_,_=>Qc _
 | 0,x :: l,_,h=>by have:=h x jk;omega
 | n+1,l,hn,h=>by
  have h2:(l.filter (λx=>x≠(n:Int))).length<=n:=by
   refine zMt n _ (hn.filter _) λx hx=>?_;obtain ⟨a,b⟩:=List.mem_filter.1 hx;have:=h x a;have:x≠(n:Int):=by simpa using b
   omega
  have h3:l.length<=(l.filter (λx=>x≠(n:Int))).length+1:=by
   clear h h2;induction l with
   | nil=>simp
   | cons a l ih=>
    have hn':=List.nodup_cons.1 hn;by_cases q:a=(n:Int)
    ·have e:l.filter (λx=>x≠(n:Int))=l:=List.filter_eq_self.2 λx hx=>by
      have:x≠(n:Int):=λr=>hn'.1 (by rw [q,<- r];exact hx);simpa using this
     rw [List.filter_cons_of_neg (by simpa using q),e];simp
    ·rw [List.filter_cons_of_pos (by simpa using q)];have:=ih hn'.2;simp only [Q3];omega
  omega
def zG9.len {l:List Int} (h:zG9 l):l.length<=256:=zMt 256 l h.nd λx hx=>by have:=h.el x hx;omega
def lA (l:zG) (now:Int):zG:=(sQ l now).getD l
def zSy (l:zG) (now:Int):sQ l now=some (lA l now)/\(lA l now).Max=l.Max:=by
 have h:Def (sQ l now) (λr=>r.Max=l.Max):=by
  unfold sQ;refine Qq (P:=λ_=>True) (Qg (λ_=>Qa trivial) λ_=>Qa trivial) λb _=>?_;refine Qg (λ_=>Qa rfl) λ_=>Qg (λ_=>Qa rfl) λh=>?_;refine Qq (Def.ck (by rw [h];rfl)) λ_ _=>Def.lt (Def.lt ?_);exact Qq (P:=λ_=>True) (Qg (λ_=>Qa trivial) λ_=>Qa trivial) λ_ _=>Qa rfl
 exact h.get l
def lkd (l:zG) (now:Int):Bool:=decide (l.Max<=(lA l now).Failed)
def yOj (l:zG) (now:Int):fV l now=some (lkd l now):=by
 unfold fV lkd;refine bd (zSy l now).1 ?_;rw [(zSy l now).2]
def lkL (l:zG) (now:Int):cC l now=some (lkd l now):=bd (zSy l now).1 rfl
def lF (l:zG) (now:Int):zG:=(dZ l now).getD l
def yJb (l:zG) (now:Int):dZ l now=some (lF l now):=by
 have e:dZ l now=some _:=bd (zSy l now).1 rfl;unfold lF;rw [e];rfl
def lC (l:zG) (now:Int):zG:=⟨l.Failed,l.Max,l.Recovery,l.Since,Q1.wrap (now+l.Penalty),l.Penalty⟩
def lM (l:zG) (a b c:Int):zG×Int:=(oG l a b c).getD (l,0)
def yN5 (l:zG) (a b c:Int):oG l a b c=some (lM l a b c):=by
 have h:Def (oG l a b c) (λ_=>True):=by
  unfold oG;refine Qq (P:=λ_=>True) ?_ λb _=>Qg (λ_=>Qa trivial) λ_=>Qa trivial;repeat (first | exact Qa trivial | refine Qg (λ_=>Qa trivial) λ_=>?_)
 exact (h.get (l,0)).1
def zQ1 (t:yA):zB:=⟨t,⟨false,false,⟨[],0⟩,0,false,0,Q2 3 ss0,Q2 3 ob0,[],[]⟩⟩
def zHv (t:yA):dU t=some (zQ1 t)/\True:=⟨rfl,trivial⟩
def suE (s:zB) (mode:Int):Int:=bif s.Volatile.Started||s.Volatile.Stopped then 28 else bif (mode != 0)&&(mode != 1) then 1 else bif mode==1 then 16 else 0
def suS (s:zB):zB:=⟨⟨s.Stable.Seeds,s.Stable.Auths,s.Stable.Entropy,s.Stable.Active,Q1.wrap (s.Stable.Resets+1),0,s.Stable.Clock,false,⟨[],0⟩,s.Stable.MaxCounter,s.Stable.Indices,s.Stable.Lockout,s.Stable.Keys⟩,⟨true,s.Volatile.Stopped,zZv s.Stable.Active,s.Stable.Clock,s.Stable.Orderly,s.Volatile.Draws,s.Volatile.Sessions,s.Volatile.Objects,s.Volatile.ReadLocks,s.Volatile.WriteLocks⟩⟩
def suV (s:zB) (mode:Int):zB×Int:=if suE s mode=0 then (suS s,0) else (x0,suE s mode)
def zS6 (a0:0<=s.Stable.Active) (a3:s.Stable.Active<=3) (mode:Int) (hm:mode=0∨(s.Volatile.Stopped=false->s.Stable.Saved.Banks=[])):sP s mode=some (suV s mode)/\zD6 s mode=some (suV s mode):=by
 have n:=yH4 s.Stable.Active a0 a3;unfold sP zD6 suV suE;cases g:s.Volatile.Started||s.Volatile.Stopped
 case true=>exact ⟨bd (oO _ _) (by rw [g];rfl),bd (oO _ _) (by rw [g];rfl)⟩
 have hs:s.Volatile.Stopped=false:=by simp only [Q5] at g;exact g.2
 by_cases h0:mode=0
 ·subst h0;exact ⟨bd (oO _ _) (by rw [g];exact bd n.1 rfl),bd (oO _ _) (by rw [g];exact bd n.2 rfl)⟩
 have hb:=(hm.resolve_left h0) hs;by_cases h1:mode=1
 ·subst h1;have e:((s.Stable.Saved.Banks.length:Int)==0)=true:=by rw [hb];rfl
  exact ⟨bd (oO _ _) (by rw [g];show (bif ((s.Stable.Saved.Banks.length:Int)==0) then _ else _)=_;rw [e];rfl),bd (oO _ _) (by rw [g];show (bif ((s.Stable.Saved.Banks.length:Int)==0) then _ else _)=_;rw [e];rfl)⟩
 ·have e:(mode != 0)=true:=b1 h0;have e2:(mode != 1)=true:=by simpa using h1
  exact ⟨bd (oO _ _) (by rw [g,e,e2];rfl),bd (oO _ _) (by rw [g,e,e2];rfl)⟩
def yOa (e:suE s m=0):s.Volatile.Stopped=false:=by
 unfold suE at e;cases g:s.Volatile.Started||s.Volatile.Stopped<;>rw [g] at e
 ·simp only [Q5] at g;exact g.2
 ·cases e
def yLj (h:zX s) (hs:s.Volatile.Stopped=false):zX (suS s):=⟨h.sl,h.se,h.al,h.ae,h.en,h.a0,h.a3,.inl rfl,⟨λ_=>rfl,λ_=>hs⟩,zLo _,h.ss,h.sx,h.ol,h.ob,h.il,h.ix,h.nd,h.kl,h.ky,h.rl,h.wl⟩
def sdE (s:zB) (mode:Int):Int:=bif !s.Volatile.Started then 28 else bif (mode != 0)&&(mode != 1) then 1 else 0
def sdS (s:zB) (mode:Int):zB:=⟨⟨s.Stable.Seeds,s.Stable.Auths,s.Stable.Entropy,s.Stable.Active,s.Stable.Resets,s.Stable.Restarts,s.Volatile.Clock,s.Volatile.Safe,bif mode==1 then s.Volatile.Registers else ⟨[],0⟩,s.Stable.MaxCounter,s.Stable.Indices,s.Stable.Lockout,s.Stable.Keys⟩,⟨false,true,⟨[],0⟩,0,false,0,Q2 3 ss0,Q2 3 ob0,[],[]⟩⟩
def sdV (s:zB) (mode:Int):zB×Int:=if sdE s mode=0 then (sdS s mode,0) else (x0,sdE s mode)
def yHm (s:zB) (mode:Int):lO s mode=some (sdV s mode)/\True:=by
 unfold lO sdV sdE sdS;cases s.Volatile.Started
 ·exact ⟨rfl,trivial⟩
 cases g0:(mode != 0)<;>cases g1:(mode != 1)<;>cases g2:(mode==1)<;>exact ⟨rfl,trivial⟩
def zG7:(Q2 3 ss0).length=3/\∀ x∈Q2 3 ss0,zJz x:=⟨rfl,λx hx=>by rw [(Qh.1 hx).2];exact zQm⟩
def zNz:(Q2 3 ob0).length=3/\∀ x∈Q2 3 ob0,zNo x:=⟨rfl,λx hx=>by rw [(Qh.1 hx).2];exact zXq⟩
def yLk (h:zX s) (mode:Int):zX (sdS s mode):=⟨h.sl,h.se,h.al,h.ae,h.en,h.a0,h.a3,by show nQ (bif mode==1 then s.Volatile.Registers else ⟨[],0⟩);cases mode==1<;>first | exact h.rg | exact .inl rfl,⟨λg=>(by cases g),λg=>(by cases g)⟩,.inl rfl,zG7.1,zG7.2,zNz.1,zNz.2,h.il,h.ix,h.nd,h.kl,h.ky,lk0,lk0⟩
def rnL:By:=[114,97,110,100,111,109]
def rnB (s:zB) (n:Nat):By:=dv s.Stable.Entropy rnL (wW (wW (wW [] 8 s.Stable.Resets) 8 s.Stable.Restarts) 8 s.Volatile.Draws) n
def rnS (s:zB):zB:=⟨s.Stable,⟨s.Volatile.Started,s.Volatile.Stopped,s.Volatile.Registers,s.Volatile.Clock,s.Volatile.Safe,Q1.wrap (s.Volatile.Draws+1),s.Volatile.Sessions,s.Volatile.Objects,s.Volatile.ReadLocks,s.Volatile.WriteLocks⟩⟩
def zHp (h:zX s) (n:Nat):rM s (n:Int)=some (rnS s,rnB s n)/\True:=by
 have he:=h.en;unfold rM;constructor
 ·refine bd (uI [] 8 _ ji ji jk) (bd (uI _ 8 _ ji ji (by rw [yL];simp)) (bd (uI _ 8 _ ji ji (by rw [yL,yL];simp)) ?_));exact bd (tK _ _ _ n jh ji (by simp only [yL];decide)) rfl
 ·trivial
def zJd (h:zX s):zX (rnS s):=⟨h.sl,h.se,h.al,h.ae,h.en,h.a0,h.a3,h.sv,h.sn,h.rg,h.ss,h.sx,h.ol,h.ob,h.il,h.ix,h.nd,h.kl,h.ky,h.rl,h.wl⟩
def yDy (h:zX s) (n:Int):Def (kU s n) (λr=>r.2=0->zX r.1/\r.1.Volatile.Started=s.Volatile.Started/\r.1.Volatile.Stopped=s.Volatile.Stopped):=by
 unfold kU;refine Qg (λ_=>Qa (λe=>by cases e)) λ_=>?_;refine Qq (P:=λ_=>True) (Qg (λ_=>Qa trivial) λ_=>Qa trivial) λb _=>?_;refine Qg (λ_=>Qa (λe=>by cases e)) λ_=>Qg (λ_=>Qa (λe=>by cases e)) λ_=>?_;refine Qq (P:=λ_=>True) (Qg (λ_=>Qa trivial) λ_=>Qa trivial) λb _=>?_;exact Qa λ_=>⟨⟨h.sl,h.se,h.al,h.ae,h.en,h.a0,h.a3,h.sv,h.sn,h.rg,h.ss,h.sx,h.ol,h.ob,h.il,h.ix,h.nd,h.kl,h.ky,h.rl,h.wl⟩,rfl,rfl⟩
def yIy (s:zB) (l:List zI):zB:=⟨s.Stable,⟨s.Volatile.Started,s.Volatile.Stopped,s.Volatile.Registers,s.Volatile.Clock,s.Volatile.Safe,s.Volatile.Draws,l,s.Volatile.Objects,s.Volatile.ReadLocks,s.Volatile.WriteLocks⟩⟩
def yJy (s:zB) (l:List zS):zB:=⟨s.Stable,⟨s.Volatile.Started,s.Volatile.Stopped,s.Volatile.Registers,s.Volatile.Clock,s.Volatile.Safe,s.Volatile.Draws,s.Volatile.Sessions,l,s.Volatile.ReadLocks,s.Volatile.WriteLocks⟩⟩
def iR (s:zB) (l:zG):zB:=⟨⟨s.Stable.Seeds,s.Stable.Auths,s.Stable.Entropy,s.Stable.Active,s.Stable.Resets,s.Stable.Restarts,s.Stable.Clock,s.Stable.Orderly,s.Stable.Saved,s.Stable.MaxCounter,s.Stable.Indices,l,s.Stable.Keys⟩,s.Volatile⟩
def zRv (s:zB) (l:List zZ):zB:=⟨⟨s.Stable.Seeds,s.Stable.Auths,s.Stable.Entropy,s.Stable.Active,s.Stable.Resets,s.Stable.Restarts,s.Stable.Clock,s.Stable.Orderly,s.Stable.Saved,s.Stable.MaxCounter,s.Stable.Indices,s.Stable.Lockout,l⟩,s.Volatile⟩
def zM1 (s:zB) (l:List zF) (m:Int):zB:=⟨⟨s.Stable.Seeds,s.Stable.Auths,s.Stable.Entropy,s.Stable.Active,s.Stable.Resets,s.Stable.Restarts,s.Stable.Clock,s.Stable.Orderly,s.Stable.Saved,m,l,s.Stable.Lockout,s.Stable.Keys⟩,s.Volatile⟩
def yBw (s:zB) (r:zE):zB:=⟨s.Stable,⟨s.Volatile.Started,s.Volatile.Stopped,r,s.Volatile.Clock,s.Volatile.Safe,s.Volatile.Draws,s.Volatile.Sessions,s.Volatile.Objects,s.Volatile.ReadLocks,s.Volatile.WriteLocks⟩⟩
def zRu (s:zB) (a b:List Int):zB:=⟨s.Stable,⟨s.Volatile.Started,s.Volatile.Stopped,s.Volatile.Registers,s.Volatile.Clock,s.Volatile.Safe,s.Volatile.Draws,s.Volatile.Sessions,s.Volatile.Objects,a,b⟩⟩
def yJs (s:zB) (l:List By):zB:=⟨⟨s.Stable.Seeds,l,s.Stable.Entropy,s.Stable.Active,s.Stable.Resets,s.Stable.Restarts,s.Stable.Clock,s.Stable.Orderly,s.Stable.Saved,s.Stable.MaxCounter,s.Stable.Indices,s.Stable.Lockout,s.Stable.Keys⟩,s.Volatile⟩
def zYr (h:zX s) {l:List zI} (hl:l.length=3) (hx:∀ x∈l,zJz x):zX (yIy s l):=⟨h.sl,h.se,h.al,h.ae,h.en,h.a0,h.a3,h.sv,h.sn,h.rg,hl,hx,h.ol,h.ob,h.il,h.ix,h.nd,h.kl,h.ky,h.rl,h.wl⟩
def yDd (h:zX s) {l:List zS} (hl:l.length=3) (hx:∀ x∈l,zNo x):zX (yJy s l):=⟨h.sl,h.se,h.al,h.ae,h.en,h.a0,h.a3,h.sv,h.sn,h.rg,h.ss,h.sx,hl,hx,h.il,h.ix,h.nd,h.kl,h.ky,h.rl,h.wl⟩
def zFi (h:zX s) (l:zG):zX (iR s l):=⟨h.sl,h.se,h.al,h.ae,h.en,h.a0,h.a3,h.sv,h.sn,h.rg,h.ss,h.sx,h.ol,h.ob,h.il,h.ix,h.nd,h.kl,h.ky,h.rl,h.wl⟩
def zN3 (h:zX s) {l:List zZ} (hl:l.length<=8) (hx:∀ x∈l,yL6 x):zX (zRv s l):=⟨h.sl,h.se,h.al,h.ae,h.en,h.a0,h.a3,h.sv,h.sn,h.rg,h.ss,h.sx,h.ol,h.ob,h.il,h.ix,h.nd,hl,hx,h.rl,h.wl⟩
def zI4 (h:zX s) {l:List zF} (hl:l.length<=6) (hx:∀ x∈l,zDv x) (hn:(l.map (·.N)).Nodup):zX (zM1 s l m):=⟨h.sl,h.se,h.al,h.ae,h.en,h.a0,h.a3,h.sv,h.sn,h.rg,h.ss,h.sx,h.ol,h.ob,hl,hx,hn,h.kl,h.ky,h.rl,h.wl⟩
def yCf (h:zX s) (hr:nQ r):zX (yBw s r):=⟨h.sl,h.se,h.al,h.ae,h.en,h.a0,h.a3,h.sv,h.sn,hr,h.ss,h.sx,h.ol,h.ob,h.il,h.ix,h.nd,h.kl,h.ky,h.rl,h.wl⟩
def zJl (h:zX s) {a b:List Int} (ha:zG9 a) (hb:zG9 b):zX (zRu s a b):=⟨h.sl,h.se,h.al,h.ae,h.en,h.a0,h.a3,h.sv,h.sn,h.rg,h.ss,h.sx,h.ol,h.ob,h.il,h.ix,h.nd,h.kl,h.ky,ha,hb⟩
def yAv (h:zX s) {l:List By} (hl:l.length=4) (hx:∀ x∈l,x.length<=32):zX (yJs s l):=⟨h.sl,h.se,hl,hx,h.en,h.a0,h.a3,h.sv,h.sn,h.rg,h.ss,h.sx,h.ol,h.ob,h.il,h.ix,h.nd,h.kl,h.ky,h.rl,h.wl⟩
end Go.Proofs.TT
namespace Go.Sw
open Go
variable {p:Nat->Bool}
def fst (p:Nat->Bool):Nat->Nat->Option Nat
 | 0,_=>none
 | k+1,i=>if p i=true then some i else fst p k (i+1)
def qZ:∀ {k i j:Nat},fst p k i=some j->i<=j/\j<i+k/\p j=true/\∀ m,i<=m->m<j->p m=false
 | 0,i,j,h=>by cases h
 | k+1,i,j,h=>by
  unfold fst at h;split at h
  ·rename_i g;cases h;exact ⟨Qc _,jh,g,λm a b=>jh⟩
  ·obtain ⟨a,b,c,d⟩:=qZ h;refine ⟨jh,jh,c,λm G F=>?_⟩;by_cases e:m=i
   ·simp_all
   ·exact d m jh F
def zFo:∀ {k i:Nat},fst p k i=none->∀ m,i<=m->m<i+k->p m=false
 | 0,i,_=>λm a b=>by omega
 | k+1,i,h=>by
  unfold fst at h;split at h
  ·cases h
  ·intro m a b;by_cases e:m=i
   ·simp_all
   ·exact zFo h m jh jh
def zKj {q:Nat->Bool}:∀ {k i:Nat},(∀ m,i<=m->m<i+k->p m=q m)->fst p k i=fst q k i
 | 0,i,_=>rfl
 | k+1,i,h=>by
  unfold fst;rw [h i (Qc _) jh,zKj λm a b=>h m jh jh]
def yAk {R:Type} {step:Int->Option (Int ⊕ (R ⊕ Unit))} {n:Nat} {hit:Nat->R} (L:∀ i,i<n->(p i=true->step (i:Int)=some (.inr (.inl (hit i))))/\(p i=false->step (i:Int)=some (.inl ((i+1:Nat):Int)))) (K:step (n:Int)=some (.inr (.inr ()))) :
  ∀ (k i z:Nat),i+k=n->k<z->zP step z (i:Int)=some (match fst p k i with | some j=>.inl (hit j) | none=>.inr ())
 | 0,i,z,h,N=>by
  obtain ⟨f,rfl⟩:∃ f,z=f+1:=⟨z - 1,jh⟩;have:i=n:=jh
  subst this;simp only [zP,K,fst]
 | k+1,i,z,h,N=>by
  obtain ⟨f,rfl⟩:∃ f,z=f+1:=⟨z - 1,jh⟩;have J:=L i jh;unfold fst;by_cases g:p i=true
  ·simp only [zP,J.1 g,if_pos g]
  ·simp only [zP,J.2 (Qi.2 g),if_neg g];exact yAk L K k (i+1) f jh jh
def sZ {R:Type} {step:Int->Option (Int ⊕ (R ⊕ Unit))} (p:Nat->Bool) (n:Nat) (A:Nat->R) (J:n<2 ^ 40) (I:∀ i,i<n->(p i=true->step (i:Int)=some (.inr (.inl (A i))))/\(p i=false->step (i:Int)=some (.inl ((i+1:Nat):Int)))) (H:step (n:Int)=some (.inr (.inr ()))) :
  zP step FU 0=some (match fst p n 0 with | some j=>.inl (A j) | none=>.inr ()):=yAk I H n 0 FU jh (xJ jh)
end Go.Sw
namespace Go.Proofs.TT
open Go Go.Sw
variable {a:zH}{b:Nat}{base:Int}{g:By}{h hd:Int}{i k:Nat}{key:zM}{kind:Nat->Int}{n:Int}{q:zC}{r:By}{s:zB}{w:By}{x:zI}{α β:Type}{d:α}{l:List α}
def I64 (h:Int):Prop:=-9223372036854775808<=h/\h<=9223372036854775807
def hN (g:I64 h) (z:0<=n) (A:n<=255):(Q1.wrap (h - 256)==n)=(n==h - 256)/\(h==Q1.wrap (256+n))=(n==h - 256):=by
 obtain ⟨a,b⟩:=g;constructor
 ·by_cases e:n=h - 256
  ·rw [c0' e,yI jh jh];exact c0' e.symm
  ·rw [c1' e];refine c1' λq=>e ?_;rw [IntKind.wrap_i64] at q;omega
 ·rw [yI jh jh];by_cases e:n=h - 256
  ·rw [c0' e];exact c0' jh
  ·rw [c1' e];exact c1' jh
def ixf (s:zB) (h:Int):Option Nat:=fst (λi=>(s.Stable.Indices.getD i default).N==h - 256) s.Stable.Indices.length 0
def ixg (s:zB) (i:Nat):zF:=s.Stable.Indices.getD i default
def vT (h:i<l.length):idx l (i:Int)=some (l.getD i d):=by rw [yX h];simp [h]
def zCf (h:i<l.length):l.getD i d∈l:=by simp_all
def uT (e:ixf s h=some i):i<s.Stable.Indices.length/\(ixg s i).N=h - 256:=by
 obtain ⟨_,b,c,_⟩:=qZ e;exact ⟨jh,eq_of_beq c⟩
def oQ (k:zX s) (h:i<s.Stable.Indices.length):zDv (ixg s i):=k.ix _ (zCf h)
def zS4 (k:zX s) (e:ixf s h=some i):256<=h/\h<=511:=by
 obtain ⟨a,b⟩:=uT e;have z:=oQ k a;have:=z.n0;have:=z.n1;omega
def zC1 (k:zX s) (G:I64 h):sJ s h=some (match ixf s h with | some i=>((i:Int),0) | none=>(0,7)):=by
 have H:=k.il;unfold sJ;refine bd (sZ (λi=>(s.Stable.Indices.getD i default).N==h - 256) s.Stable.Indices.length (λi=>((i:Int),0)) jh (λi D=>?_) ?_) ?_
 ·have E:=oQ k D;have e:=(hN G E.n0 E.n1).1;unfold ixg at e;constructor
  ·intro g;unfold nL;exact ct (decide_eq_true jh) (bd (vT (d:=default) D) (ct (e.trans g) rfl))
  ·intro g;unfold nL;refine ct (decide_eq_true jh) (bd (vT (d:=default) D) (cf (e.trans g) ?_));rw [yO jh]
 ·unfold nL;exact cf (decide_eq_false jh) rfl
 ·unfold ixf;cases fst _ s.Stable.Indices.length 0<;>rfl
def uB (k:zX s) (G:I64 h):xF s h=some (match ixf s h with | some i=>(i:Int) | none=>-1):=by
 have H:=k.il;unfold xF;refine bd (sZ (λi=>(s.Stable.Indices.getD i default).N==h - 256) s.Stable.Indices.length (λi=>(i:Int)) jh (λi D=>?_) ?_) ?_
 ·have E:=oQ k D;have e:=(hN G E.n0 E.n1).2;unfold ixg at e;constructor
  ·intro g;unfold lB;exact ct (decide_eq_true jh) (bd (vT (d:=default) D) (ct (e.trans g) rfl))
  ·intro g;unfold lB;refine ct (decide_eq_true jh) (bd (vT (d:=default) D) (cf (e.trans g) ?_));rw [yO jh]
 ·unfold lB;exact cf (decide_eq_false jh) rfl
 ·unfold ixf;cases fst _ s.Stable.Indices.length 0<;>rfl
def sl3 (kind:Nat->Int) (base h:Int):Option Nat:=if base<=h/\h<base+3/\kind (h - base).toNat≠0 then some (h - base).toNat else none
def zE4 (e:sl3 kind base h=some k):k<3/\h=base+k/\kind k≠0:=by
 unfold sl3 at e;split at e
 ·cases e;omega
 simp_all
def yCl (D:k<3) (g:kind k≠0):sl3 kind base (base+k)=some k:=by
 unfold sl3;have e:(base+(k) - base).toNat=k:=jh
 rw [e,if_pos ⟨jh,jh,g⟩]
def zMw {f:α->Int} (R:l.length=3) (S:0<=base/\base<=1000) (L:I64 h) {no:β} {yes:Nat->β}
  {o1:Option β} {o2:Int->Option β} (H:o1=some no) (K:∀ k,k<3->f (l.getD k d)≠0->o2 (k:Int)=some (yes k)) :
  ((bif decide (h<base) then some true else bif decide ((l.length:Int)<=Q1.wrap (h - base)) then some true else (idx l (Q1.wrap (h - base))).bind λv=>some (f v==0):Option Bool).bind λv=>bif v then o1 else o2 (Q1.wrap (h - base)))=some (match sl3 (λk=>f (l.getD k d)) base h with | some k=>yes k | none=>no):=by
 obtain ⟨a,b⟩:=L;by_cases g:h<base
 ·have e:sl3 (λk=>f (l.getD k d)) base h=none:=by unfold sl3;rw [if_neg jh]
  rw [e];exact bd (a:=true) (ct (decide_eq_true g) rfl) H
 have w:Q1.wrap (h - base)=h - base:=yI jh jh;rw [w];by_cases N:3<=h - base
 ·have e:sl3 (λk=>f (l.getD k d)) base h=none:=by unfold sl3;rw [if_neg jh]
  rw [e];exact bd (a:=true) (cf (decide_eq_false g) (ct (decide_eq_true jh) rfl)) H
 obtain ⟨k,J⟩:=Q0 (by omega:0<=h - base);rw [J];by_cases G:f (l.getD k d)=0
 ·have e:sl3 (λk=>f (l.getD k d)) base h=none:=by
   unfold sl3;rw [J,if_neg];exact λq=>q.2.2 G
  rw [e];exact bd (a:=true) (cf (decide_eq_false g) (cf (decide_eq_false jh) (bd (vT (d:=d) jh) (congrArg some (c0' G))))) H
 ·have e:sl3 (λk=>f (l.getD k d)) base h=some k:=by
   have:h=base+k:=jh
   rw [this];exact yCl jh G
  rw [e];exact bd (a:=false) (cf (decide_eq_false g) (cf (decide_eq_false jh) (bd (vT (d:=d) jh) (congrArg some (c1' G))))) (K k jh G)
def obg (s:zB) (k:Nat):zS:=s.Volatile.Objects.getD k default
def obf (s:zB) (h:Int):Option Nat:=sl3 (λk=>(obg s k).Public.Kind) 512 h
def yLo (k:zX s) (h:i<3):zNo (obg s i):=k.ob _ (zCf (by rw [k.ol];exact h))
def zJc (k:zX s) (F:I64 h):jR s h=some (match obf s h with | some i=>(obg s i,0) | none=>(default,7)):=by
 exact zMw (o2:=λi=>(idx _ i).bind _) k.ol ji F rfl (λi G g=>bd (vT (by rw [k.ol];exact G)) rfl)
def rB (k:zX s) (R:I64 h):vA s h=some (match obf s h with | some i=>(i:Int) | none=>-1):=by
 have S:=k.ol;unfold vA;have e:fst (λi=>(h==512+(i:Int))&&((obg s i).Public.Kind != 0)) 3 0=obf s h:=by
  unfold obf;cases q:sl3 (λk=>(obg s k).Public.Kind) 512 h with
  | some i=>
   obtain ⟨a,b,c⟩:=zE4 q;have K:((h==512+(i:Int))&&((obg s i).Public.Kind != 0))=true:=by rw [c0' b,b1 c];rfl
   cases r:fst (λi=>(h==512+(i:Int))&&((obg s i).Public.Kind != 0)) 3 0 with
   | none=>
    have:=zFo r i jh jh;rw [K] at this;cases this
   | some j=>
    obtain ⟨_,_,y,_⟩:=qZ r;simp only [Q8] at y;have:h=512+(j:Int):=eq_of_beq y.1;exact congrArg some jh
  | none=>
   cases r:fst (λi=>(h==512+(i:Int))&&((obg s i).Public.Kind != 0)) 3 0 with
   | none=>rfl
   | some j=>
    obtain ⟨_,x,y,_⟩:=qZ r;simp only [Q8] at y;have N:h=512+(j:Int):=eq_of_beq y.1;have L:(obg s j).Public.Kind≠0:=by simpa using y.2
    rw [N,yCl jh L] at q;cases q
 refine bd (sZ (λi=>(h==512+(i:Int))&&((obg s i).Public.Kind != 0)) 3 (λi=>(i:Int)) ji (λi T=>?_) ?_) ?_
 ·have H:(bif (h==Q1.wrap (512+(i:Int))) then (idx s.Volatile.Objects (i:Int)).bind λv=>some (v.Public.Kind != 0) else some false:Option Bool)=some ((h==512+(i:Int))&&((obg s i).Public.Kind != 0)):=by
   rw [yI jh jh];exact oA' λ_=>bd (vT (d:=default) jh) rfl
  constructor
  ·intro g;unfold iC;exact ct (decide_eq_true jh) (bd (H.trans (congrArg some g)) rfl)
  ·intro g;unfold iC;refine ct (decide_eq_true jh) (bd (H.trans (congrArg some g)) ?_);rw [yO jh];rfl
 ·unfold iC;exact cf (decide_eq_false jh) rfl
 ·rw [e];cases obf s h<;>rfl
def zSp (e:obf s h=some i):512<=h/\h<=514:=by
 obtain ⟨a,b,c⟩:=zE4 e;omega
def bE (k:zX s) (e:obf s h=some i):i<3/\kH (obg s i).Public/\zBn (obg s i).Sensitive:=by
 obtain ⟨a,b,c⟩:=zE4 e;have:=(yLo k a).k.resolve_left c;simp_all
def yOd (k:zX s) (e:ixf s h=some i):obf s h=none:=by
 have:=zS4 k e;cases q:obf s h with
 | none=>rfl
 | some j=>have:=zSp q;omega
def hrc (h:Int):Bool:=decide (0<=h)&&decide (h<=3)
def zBt:hrc h=true↔0<=h/\h<=3:=by simp [hrc]
def fdV (s:zB) (h:Int):wO×Int:=
 bif hrc h then (⟨hnm h,s.Stable.Auths.getD h.toNat [],[],false⟩,0) else
 match ixf s h with
 | some i=>(⟨ixn (ixg s i),(ixg s i).Auth,(ixg s i).Policy,xB .i64 (ixg s i).Attr 64==0⟩,0)
 | none=>match obf s h with
  | some i=>(⟨nm (obg s i).Public,(obg s i).Sensitive.Auth,(obg s i).Public.Policy,xB .i64 (obg s i).Public.Attr 2==0⟩,0)
  | none=>(⟨[],[],[],false⟩,7)
def zD9 (k:zX s) (g:hrc h=true):ixf s h=none/\obf s h=none:=by
 have g:=zBt.1 g;constructor
 ·cases q:ixf s h with
  | none=>rfl
  | some i=>have:=zS4 k q;omega
 ·cases q:obf s h with
  | none=>rfl
  | some i=>have:=zSp q;omega
def zIk (k:zX s) (G:I64 h):nZ s h=some (fdV s h):=by
 unfold nZ fdV;refine bd (zC1 k G) (bd (zJc k G) (bd (oA _ _) ?_));show (bif hrc h then _ else _)=_;cases g:hrc h
 case true=>
  have H:=zBt.1 g;obtain ⟨n,rfl⟩:=Q0 H.1;refine ct rfl (bd (zZp _) (bd (ct (decide_eq_true (by rw [k.al];omega)) (bd (zCd (by rw [k.al];omega)) rfl)) rfl))
 refine cf rfl ?_;cases q:ixf s h with
 | some i=>
  obtain ⟨a,_⟩:=uT q;have I:=oQ k a;exact ct rfl (bd (vT (d:=default) a) (bd (yLa _ (by have:=I.p;show (ixg s i).Policy.length<_;omega)) rfl))
 | none=>
  cases J:obf s h with
  | some i=>exact cf rfl (ct rfl (bd (zMj _) rfl))
  | none=>rfl
def yBk (k:zX s) (A:I64 h):zB0 s h=some ((fdV s h).1.name_,(fdV s h).2):=bd (zIk k A) rfl
def zN8 (k:zX s) (A:I64 h):pZ s h=some (fdV s h).1.protected_:=bd (zIk k A) rfl
def zVm (k:zX s) (A:I64 h):zA9 s h=some ((fdV s h).1.value_,(fdV s h).2):=bd (zIk k A) rfl
def nn (i:Nat):decide (0<=(i:Int))=true:=rfl
def zAk (k:zX s) (I:I64 h):iL s h=some (fdV s h).1.value_:=by
 unfold iL fdV;refine bd (uB k I) ?_;cases q:ixf s h with
 | some i=>
  obtain ⟨a,_⟩:=uT q;have g:hrc h=false:=by
   cases g:hrc h
   ·rfl
   ·rw [(zD9 k g).1] at q;cases q
  rw [g];exact ct (nn i) (bd (vT (d:=default) a) rfl)
 | none=>
  refine cf rfl (bd (rB k I) ?_);cases H:obf s h with
  | some i=>
   have g:hrc h=false:=by
    cases g:hrc h
    ·rfl
    ·rw [(zD9 k g).2] at H;cases H
   rw [g];have:=(bE k H).1;exact ct (nn i) (bd (vT (d:=default) (by rw [k.ol];exact this)) rfl)
  | none=>
   refine cf rfl (bd (a:=hrc h) (by rw [oA,k.al];unfold hrc;refine congrArg some (congrArg (decide (0<=h)&&·) (decide_eq_decide.2 jh))) ?_);cases g:hrc h
   ·rfl
   ·have J:=zBt.1 g;obtain ⟨n,rfl⟩:=Q0 J.1;exact ct rfl (bd (zCd (by rw [k.al];omega)) rfl)
def zJ6 (k:zX s) (F:I64 h):fP s h=some (fdV s h).1.policy_:=by
 unfold fP fdV;refine bd (uB k F) ?_;cases g:hrc h
 case true=>obtain ⟨a,b⟩:=zD9 k g;rw [a];refine cf rfl (bd (rB k F) ?_);rw [b];rfl
 cases q:ixf s h with
 | some i=>exact ct (nn i) (bd (vT (uT q).1) rfl)
 | none=>
  refine cf rfl (bd (rB k F) ?_);cases H:obf s h with
  | some i=>exact ct (nn i) (bd (vT (by rw [k.ol];exact (bE k H).1)) rfl)
  | none=>rfl
def zGy (k:zX s) (F:I64 h):rT s h=some (fdV s h).1.protected_:=by
 unfold rT fdV;refine bd (uB k F) ?_;cases g:hrc h
 case true=>obtain ⟨a,b⟩:=zD9 k g;rw [a];refine cf rfl (bd (rB k F) ?_);rw [b];rfl
 cases q:ixf s h with
 | some i=>exact ct (nn i) (bd (vT (d:=default) (uT q).1) rfl)
 | none=>
  refine cf rfl (bd (rB k F) ?_);cases H:obf s h with
  | some i=>exact ct (nn i) (bd (vT (d:=default) (by rw [k.ol];exact (bE k H).1)) rfl)
  | none=>rfl
def exs (s:zB) (h:Int):Bool:=(fdV s h).2==0
def rnm (s:zB) (h:Int):By:=bif exs s h then (fdV s h).1.name_ else hnm h
def zQe (k:zX s) (F:I64 h):kZ s h=some (rnm s h):=by
 unfold kZ rnm exs fdV;refine bd (uB k F) ?_;cases g:hrc h
 case true=>obtain ⟨a,b⟩:=zD9 k g;rw [a];refine cf rfl (bd (rB k F) ?_);rw [b];exact cf rfl (bd (zRw h) rfl)
 cases q:ixf s h with
 | some i=>
  have I:=oQ k (uT q).1;exact ct (nn i) (bd (vT (d:=default) (uT q).1) (bd (rixn _ (by have:=I.p;show (ixg s i).Policy.length<_;omega)) rfl))
 | none=>
  refine cf rfl (bd (rB k F) ?_);cases H:obf s h with
  | some i=>exact ct (nn i) (bd (vT (d:=default) (by rw [k.ol];exact (bE k H).1)) (bd (pA _) rfl))
  | none=>exact cf rfl (bd (zRw h) rfl)
def zSe (s:zB) (h:Int):(rnm s h).length<=32:=by
 unfold rnm;cases exs s h
 ·exact zT1 h
 ·unfold fdV;cases hrc h
  ·cases ixf s h with
   | some i=>show (ixn _).length<=32;rw [zSb];decide
   | none=>
    cases obf s h with
    | some i=>show (nm _).length<=32;rw [zB8];decide
    | none=>simp
  ·exact zT1 h
def exI (k:zX s) (G:I64 h):((xF s h).bind λv=>bif decide (0<=v) then some true else (vA s h).bind λv=>some (decide (0<=v)))=some ((ixf s h).isSome||(obf s h).isSome):=by
 refine bd (uB k G) ?_;cases q:ixf s h with
 | some i=>rfl
 | none=>
  refine cf rfl (bd (rB k G) ?_);cases H:obf s h with
  | some i=>rfl
  | none=>rfl
def zQ5 (k:zX s) (G:I64 h):zA6 s h=some (exs s h):=by
 have E:hrc h=false->((ixf s h).isSome||(obf s h).isSome)=exs s h:=by
  intro g;unfold exs fdV;rw [g];cases ixf s h with
  | some i=>rfl
  | none=>cases obf s h<;>rfl
 by_cases a:0<=h
 ·by_cases b:h<=3
  ·have g:hrc h=true:=zBt.2 ⟨a,b⟩;refine bd (a:=true) (ct (decide_eq_true a) (ct (decide_eq_true b) rfl)) ?_;unfold exs fdV;rw [g];rfl
  ·exact bd (ct (decide_eq_true a) (cf (decide_eq_false b) (exI k G))) (congrArg some (E (Qi.2 λq=>b (zBt.1 q).2)))
 ·exact bd (cf (decide_eq_false a) (exI k G)) (congrArg some (E (Qi.2 λq=>a (zBt.1 q).1)))
def yBj (k:zX s) (h:Int):(fdV s h).1.value_.length<=32/\(fdV s h).1.policy_.length<=32:=by
 unfold fdV;cases g:hrc h
 ·cases q:ixf s h with
  | some i=>have F:=oQ k (uT q).1;exact ⟨F.a,F.p⟩
  | none=>
   cases I:obf s h with
   | some i=>have F:=bE k I;exact ⟨F.2.2.au,by have:=F.2.1.pl;show (obg s i).Public.Policy.length<=32;omega⟩
   | none=>exact ⟨Qk _,Qk _⟩
 ·refine ⟨?_,Qk _⟩;by_cases q:h.toNat<s.Stable.Auths.length
  ·exact k.ae _ (zCf q)
  simp_all
def fst_any (l:List α) (d:α) (q:α->Bool):(fst (λi=>q (l.getD i d)) l.length 0).isSome=l.any q:=by
 rw [Qj,List.any_eq_true];cases r:fst (λi=>q (l.getD i d)) l.length 0 with
 | some i=>
  obtain ⟨_,a,b,_⟩:=qZ r;exact ⟨λ_=>⟨_,zCf jh,b⟩,λ_=>rfl⟩
 | none=>
  refine ⟨λh=>(by cases h),λ⟨x,hx,hq⟩ =>?_⟩;obtain ⟨i,hi,rfl⟩:=List.mem_iff_getElem.1 hx;have:=zFo r i jh jh;have e:l.getD i d=l[i]:=by simp [hi]
  rw [e,hq] at this;cases this
def has (l:List Int) (n:Int):Bool:=l.any (· == n)
def yIt {l:List Int} :has l n=true↔n∈l:=by simp [has]
def pHas (l:List Int) (n:Int) (hl:l.length<2 ^ 40):vG l n=some (has l n):=by
 unfold vG qR;have e:=fst_any l 0 (· == n);refine bd (a:=match fst (λi=>l.getD i 0==n) l.length 0 with | some j=>(j:Int) | none=>-1) (bd (sZ (λi=>l.getD i 0==n) l.length (λi=>(i:Int)) hl (λi hi=>?_) ?_) ?_) ?_
 ·constructor
  ·intro g;unfold uN;exact ct (decide_eq_true jh) (bd (vT (d:=0) hi) (ct (c0' (eq_of_beq g).symm) rfl))
  ·intro g;unfold uN;have g:l.getD i 0≠n:=by simpa using g
   refine ct (decide_eq_true jh) (bd (vT (d:=0) hi) (cf (c1' (λq=>g q.symm)) ?_));rw [yO jh]
 ·unfold uN;exact cf (decide_eq_false jh) rfl
 ·cases fst (λi=>l.getD i 0==n) l.length 0<;>rfl
 ·unfold has;rw [<- e];cases fst (λi=>l.getD i 0==n) l.length 0 with
  | some i=>exact congrArg some (nn i)
  | none=>rfl
def yGh (l:List Int) (n:Int) (hl:l.length<2 ^ 40):kS l n=some (has l n):=by
 unfold kS;have e:=fst_any l 0 (· == n);refine bd (sZ (λi=>l.getD i 0==n) l.length (λ_=>true) hl (λi hi=>?_) ?_) ?_
 ·constructor
  ·intro g;unfold eK;exact ct (decide_eq_true jh) (bd (vT (d:=0) hi) (ct g rfl))
  ·intro g;unfold eK;refine ct (decide_eq_true jh) (bd (vT (d:=0) hi) (cf g ?_));rw [yO jh]
 ·unfold eK;exact cf (decide_eq_false jh) rfl
 ·unfold has;rw [<- e];cases fst (λi=>l.getD i 0==n) l.length 0<;>rfl
def ssg (s:zB) (k:Nat):zI:=s.Volatile.Sessions.getD k default
def ssf (s:zB) (h:Int):Option Nat:=sl3 (λk=>(ssg s k).Kind) 768 h
def zAt (k:zX s) (h:i<3):zJz (ssg s i):=k.sx _ (zCf (by rw [k.ss];exact h))
def zJo (k:zX s) (hh:I64 h):kP s h=some (match ssf s h with | some i=>(i:Int) | none=>-1):=by
 unfold kP;exact zMw (base:=768) (f:=λx=>x.Kind) (d:=default) (no:=(-1:Int)) (yes:=λi=>(i:Int)) (o2:=λi=>some i) k.ss ji hh rfl (λi hi g=>rfl)
def sfV (s:zB) (h:Int):zI×Int:=match ssf s h with | some i=>(ssg s i,0) | none=>(default,8)
def kW (e:ssf s h=some i):i<3/\h=768+i/\(ssg s i).Kind≠0:=zE4 e
def ng (i:Nat):decide ((i:Int)<0)=false:=zLr i
def zCy (k:zX s) (hh:I64 h):uP s h=some (sfV s h):=by
 unfold uP sfV;refine bd (zJo k hh) ?_;cases q:ssf s h with
 | some i=>exact cf (ng i) (bd (vT (d:=default) (by rw [k.ss];exact (kW q).1)) rfl)
 | none=>rfl
def ptS (s:zB) (k:Nat) (x:zI):zB:=yIy s (s.Volatile.Sessions.set k x)
def zEq (h:zX s) (hx:zJz x):zX (ptS s k x):=zYr h (by rw [Qe];exact h.ss) λy hy=>by
 rcases Q9 hy with hy | hy
 ·exact h.sx y hy
 ·rw [hy];exact hx
def zFd {x:α} (hk:k<l.length) (f:List α->Option β):((ixN l.length (k:Int)).bind λj=>(wY l j x).bind λl2=>f l2)=f (l.set k x):=by
 refine bd (a:=k) (by simp [ixN];omega) (bd (a:=l.set k x) (by simp [wY];omega) rfl)
def cln (h:l.length*b<=140737488355328):slices_Clone b l=some l:=by unfold slices_Clone;exact ct (zLg h) rfl
def ap0 (h:l.length*b<=140737488355328):yM b [] l=some l:=by rw [yC (by simpa using h)];rfl
def zDa (h:zX s) (hk:k<3) (x:zI):rZ s (k:Int) x=some (ptS s k x):=by
 unfold rZ;exact bd (ap0 (by rw [h.ss];decide)) (zFd (by rw [h.ss];exact hk) _)
def scV (s:zB) (h:Int):zB×Int:=match ssf s h with | some i=>(ptS s i ss0,0) | none=>(x0,8)
def zKs (k:zX s) (hh:I64 h):gG s h=some (scV s h):=by
 unfold gG scV;refine bd (zJo k hh) ?_;cases q:ssf s h with
 | some i=>exact cf (ng i) (bd (zDa k (kW q).1 _) rfl)
 | none=>rfl
def opF (s:zB):Option Nat:=fst (λk=>(ssg s k).Kind==0) 3 0
def opX (s:zB) (kind:Int):zI:=⟨kind,rnB s 16,z32,-1,31,0,0,false⟩
def opV (s:zB) (kind:Int):zB×Int×Int:=bif decide (kind<1)||decide (3<kind) then (x0,0,1) else match opF s with | some k=>(ptS (rnS s) k (opX s kind),768+(k:Int),0) | none=>(x0,0,25)
def zFg (s:zB) (n:Nat) (h:n<=1024):(rnB s n).length=n:=bG _ _ _ _ h
def zNm (h:zX s) (kind:Int):zA0 s kind=some (opV s kind):=by
 unfold zA0 opV;refine bd (oO _ _) ?_;cases decide (kind<1)||decide (3<kind)
 case true=>rfl
 refine cf rfl (bd (sZ (λk=>(ssg s k).Kind==0) 3 (λk=>(ptS (rnS s) k (opX s kind),768+(k:Int),(0:Int))) ji (λi hi=>?_) ?_) ?_)
 ·have hl:=h.ss;constructor
  ·intro g;unfold jO;refine ct (decide_eq_true jh) (bd (vT (d:=default) jh) (ct g (bd (zHp h 16).1 (bd zRb (bd (zDa (zJd h) hi _) ?_)))));rw [yI jh jh];rfl
  ·intro g;unfold jO;refine ct (decide_eq_true jh) (bd (vT (d:=default) jh) (cf g ?_));rw [yO jh]
 ·unfold jO;exact cf (decide_eq_false (by rw [h.ss];decide)) rfl
 ·unfold opF;cases fst (λk=>(ssg s k).Kind==0) 3 0<;>rfl
def yDc (h:zX s) {kind:Int} (e:(opV s kind).2.2=0):zX (opV s kind).1/\∃ k:Nat,k<3/\(opV s kind).2.1=768+(k:Int):=by
 unfold opV at e ⊢;cases g:decide (kind<1)||decide (3<kind)<;>rw [g] at e
 case true=>cases e
 simp only [Q5] at g;have g1:=dF g.1;have g2:=dF g.2;cases q:opF s with
 | some k=>
  obtain ⟨_,a,_,_⟩:=qZ q;exact ⟨zEq (zJd h) ⟨by show 0<=kind;omega,by show kind<=3;omega,by show (rnB s 16).length<=32;rw [zFg _ _ ji];decide,by show z32.length<=32;rw [zTw];decide⟩,k,jh,rfl⟩
 | none=>rw [q] at e;cases e
def psf (s:zB) (h:Int):Option Nat:=match ssf s h with | some i=>if (ssg s i).Kind=1 then none else some i | none=>none
def aH (e:psf s h=some i):ssf s h=some i/\(ssg s i).Kind≠1:=by
 unfold psf at e;cases q:ssf s h with
 | none=>rw [q] at e;cases e
 | some j=>
  rw [q] at e;simp only at e;split at e
  ·cases e
  ·rename_i g;cases e;exact ⟨rfl,g⟩
def zGo (k:zX s) (hh:I64 h):tD s h=some (match psf s h with | some i=>(i:Int) | none=>-1):=by
 unfold tD psf;refine bd (zJo k hh) ?_;cases q:ssf s h with
 | none=>rfl
 | some i=>
  refine bd (ct (nn i) (bd (vT (d:=default) (by rw [k.ss];exact (kW q).1)) rfl)) ?_;show (bif (ssg s i).Kind==1 then _ else _)=some (match (if (ssg s i).Kind=1 then none else some i) with | some i=>(i:Int) | none=>-1);by_cases g:(ssg s i).Kind=1
  ·rw [if_pos g];exact ct (c0' g) rfl
  ·rw [if_neg g];exact cf (c1' g) rfl
structure yIv (a:zH):Prop where
 d:a.Digest.length<2 ^ 20
 o:a.Operand.length<2 ^ 20
 n:a.Name.length<2 ^ 20
 r:a.Ref.length<2 ^ 20
 b:a.Branches.length<2 ^ 20
def s2 (x:zI):Bool:=x.Kind==2
def ck1 (ok t:Bool):Int:=bif t&&!ok then 16 else 0
def crU (s:zB) (x:zI):Int:=bif s2 x then s.Volatile.Registers.Updates else x.Updates
def crV (s:zB) (x:zI) (a:zH):zI×zH×Int:=
 bif !s2 x&&decide (0<(a.Digest.length:Int)) then (x,a,0) else
 if (rdV s.Volatile.Registers a.Selection).2≠0 then (x,a,(rdV s.Volatile.Registers a.Selection).2) else
 bif s2 x&&(decide (0<(a.Digest.length:Int))&&!(a.Digest==(rdV s.Volatile.Registers a.Selection).1)) then (x,a,16) else
 bif s2 x&&((x.Updates != -1)&&(x.Updates != s.Volatile.Registers.Updates)) then (x,a,12) else
 (⟨x.Kind,x.Nonce,x.Digest,crU s x,x.Localities,x.Command,x.Deadline,x.AuthValue⟩,⟨a.Kind,a.Selection,(rdV s.Volatile.Registers a.Selection).1,a.N,a.Op,a.Operand,a.Name,a.Ref,a.Branches⟩,0)
def yLg (h:zX s) (x:zI) (E:yIv a):nG s x a=some (crV s x a):=by
 unfold nG crV crU s2;refine bd (oA _ _) ?_;cases (!(x.Kind==2)&&decide (0<(a.Digest.length:Int)))
 case true=>rfl
 refine cf rfl (bd (zCj h.rg _) ?_);have e:vC a.Digest (rdV s.Volatile.Registers a.Selection).1=some _:=oS _ _ (by have:=E.d;omega);generalize rdV s.Volatile.Registers a.Selection=w at e;by_cases g:w.2=0
 ·rw [if_neg (by simp [g])];refine cf (b0 g) ?_;cases (x.Kind==2)
  ·rfl
  ·refine bd (ct rfl (oA' λ_=>bd e rfl)) ?_;cases decide (0<(a.Digest.length:Int))&&!(a.Digest==w.1)
   ·refine cf rfl (bd (ct rfl (oA _ _)) ?_);cases (x.Updates != -1)&&(x.Updates != s.Volatile.Registers.Updates)<;>rfl
   ·rfl
 ·rw [if_pos g];exact ct (b1 g) rfl
def zMi (h:i<s.Stable.Indices.length):idx s.Stable.Indices (i:Int)=some (ixg s i):=vT h
def ciR (s:zB) (a:zH) (i:Nat):Int:=bif !(ixg s i).Written then 22 else bif has s.Volatile.ReadLocks (ixg s i).N then 23 else bif !pcm a.Op (ixg s i).Data a.Operand then 16 else 0
def ciV (s:zB) (a:zH):Int:=match fst (λi=>ixn (ixg s i)==a.Name) s.Stable.Indices.length 0 with | some i=>ciR s a i | none=>7
def yK4 (h:zX s) (G:yIv a):cZ s a=some (ciV s a):=by
 have H:=h.il;unfold cZ ciV;refine bd (sZ (λi=>ixn (ixg s i)==a.Name) s.Stable.Indices.length (ciR s a) jh (λi D=>?_) ?_) ?_
 ·have E:=oQ h D;have e:tR (ixg s i)=some (ixn (ixg s i)):=rixn _ (by have:=E.p;omega);have F:vC (ixn (ixg s i)) a.Name=some (ixn (ixg s i)==a.Name):=oS _ _ (by rw [zSb];decide);unfold cD;constructor
  ·intro g;refine ct (decide_eq_true jh) (bd (zMi D) (bd e (bd F (cf (by rw [g];rfl) ?_))));show (bif !(ixg s i).Written then _ else _)=_;unfold ciR;cases (ixg s i).Written
   ·rfl
   ·refine cf rfl (bd (yGh _ _ (by have:=h.rl.len;omega)) ?_);cases q:has s.Volatile.ReadLocks (ixg s i).N
    ·refine cf rfl (bd (zJk _ _ _ (by have:=E.d;show (ixg s i).Data.length<_;omega) (by have:=G.o;omega)) ?_);cases pcm a.Op (ixg s i).Data a.Operand<;>rfl
    ·rfl
  ·intro g;refine ct (decide_eq_true jh) (bd (zMi D) (bd e (bd F (ct (by rw [g];rfl) ?_))));rw [yO jh]
 ·unfold cD;exact cf (decide_eq_false jh) rfl
 ·cases fst (λi=>ixn (ixg s i)==a.Name) s.Stable.Indices.length 0<;>rfl
def hld (op a b:Int):Bool:=bif op==0 then a==b else bif op==1 then a != b else bif op==2 then decide (a<b) else decide (b<=a)
def zWh (z a b:Int):bM z a b=some (hld z a b):=by
 exact cc (λ_=>rfl) λA=>cc (λ_=>rfl) λE=>cc (λ_=>rfl) λD=>rfl
def brA (l:List By) (d:By):Bool:=l.any (· == d)
def yCo {p:α->Bool} (h:i<l.length):(l.take (i+1)).any p=((l.take i).any p||p l[i]):=by
 rw [Qb,List.any_append,List.getElem?_eq_getElem h];simp
def yKc (x:zI) (F:a.Branches.length<2 ^ 40) (D:∀ b∈a.Branches,b.length<2 ^ 40):zP (zBl a x) FU (false,0)=some (brA a.Branches x.Digest):=by
 refine yF a.Branches.length (λi=>((a.Branches.take i).any (· == x.Digest),(i:Int))) jk (λi z=>?_) ?_ (xJ jh)
 ·refine ct (decide_eq_true jh) (bd (oO' λ_=>bd (yX z) (bd (oS _ _ (D _ (Q7 z))) rfl)) ?_);rw [yO jh,yCo z]
 ·refine cf (decide_eq_false jh) ?_;rw [Qd];rfl
def caV (s:zB) (x:zI) (a:zH):zI×zH×Int:=
 bif a.Kind==1 then crV s x a else
 bif a.Kind==2 then (⟨x.Kind,x.Nonce,x.Digest,x.Updates,xB .i64 x.Localities a.N,x.Command,x.Deadline,x.AuthValue⟩,a,0) else
 bif a.Kind==3 then (⟨x.Kind,x.Nonce,x.Digest,x.Updates,x.Localities,a.N,x.Deadline,x.AuthValue⟩,a,ck1 ((x.Command==0)||(x.Command==a.N)) (s2 x)) else
 bif a.Kind==4 then (x,a,bif s2 x then ciV s a else 0) else
 bif a.Kind==5 then (x,a,ck1 (s.Volatile.Safe&&hld a.Op s.Volatile.Clock a.N) (s2 x)) else
 bif a.Kind==7 then (⟨x.Kind,x.Nonce,x.Digest,x.Updates,x.Localities,x.Command,x.Deadline,true⟩,a,0) else
 bif a.Kind==8 then (x,a,ck1 (brA a.Branches x.Digest) (s2 x)) else (x,a,0)
def afm (a:zH):zH:=⟨a.Kind,a.Selection,bif (a.Kind==1)&&((a.Digest.length:Int)==0) then z32 else a.Digest,a.N,a.Op,a.Operand,a.Name,a.Ref,a.Branches⟩
def yKj (h:pcv (afm a)=0) (k:(a.Kind==8)=true):∀ b∈a.Branches,b.length=32:=by
 have e:=eq_of_beq k;unfold pcv afm at h;simp only [e] at h;have g:=yK5 h;unfold brs at g;simp only [Q8] at g;exact λb D=>zG0.1 (List.all_eq_true.1 g.2 b D)
def asE (s:zB) (k:Nat) (a:zH):Int:=bif (a.Kind==6)||(a.Kind==9) then 19 else if pcv (afm a)≠0 then pcv (afm a) else (caV s (ssg s k) a).2.2
def sdg (x:zI) (d:By):zI:=⟨x.Kind,x.Nonce,d,x.Updates,x.Localities,x.Command,x.Deadline,x.AuthValue⟩
def asX (s:zB) (k:Nat) (a:zH):zI:=sdg (caV s (ssg s k) a).1 (pex (caV s (ssg s k) a).1.Digest (caV s (ssg s k) a).2.1)
def asV (s:zB) (h:Int) (a:zH):zB×Int:=match psf s h with | none=>(x0,8) | some k=>if asE s k a=0 then (ptS s k (asX s k a),0) else (x0,asE s k a)
def yI8 (s:zB) (x:zI) (a:zH):(caV s x a).1.Kind=x.Kind/\(caV s x a).1.Nonce=x.Nonce/\(caV s x a).1.Digest=x.Digest/\(caV s x a).2.1.Branches=a.Branches:=by
 unfold caV;cases a.Kind==1
 ·cases a.Kind==2
  ·cases a.Kind==3
   ·cases a.Kind==4
    ·cases a.Kind==5
     ·cases a.Kind==7
      ·cases a.Kind==8<;>exact ⟨rfl,rfl,rfl,rfl⟩
      ·exact ⟨rfl,rfl,rfl,rfl⟩
     ·exact ⟨rfl,rfl,rfl,rfl⟩
    ·exact ⟨rfl,rfl,rfl,rfl⟩
   ·exact ⟨rfl,rfl,rfl,rfl⟩
  ·exact ⟨rfl,rfl,rfl,rfl⟩
 ·show (crV s x a).1.Kind=_/\(crV s x a).1.Nonce=_/\(crV s x a).1.Digest=_/\(crV s x a).2.1.Branches=_;unfold crV;generalize rdV s.Volatile.Registers a.Selection=w;cases !s2 x&&decide (0<(a.Digest.length:Int))
  ·simp only [cond_false];split
   ·exact ⟨rfl,rfl,rfl,rfl⟩
   ·cases s2 x&&(decide (0<(a.Digest.length:Int))&&!(a.Digest==w.1))
    ·cases s2 x&&((x.Updates != -1)&&(x.Updates != s.Volatile.Registers.Updates))<;>exact ⟨rfl,rfl,rfl,rfl⟩
    ·exact ⟨rfl,rfl,rfl,rfl⟩
  ·exact ⟨rfl,rfl,rfl,rfl⟩
def yBz (A:0<=x.Kind) (z:x.Kind<=3) (g:x.Nonce.length<=32) {d:By} (D:d.length<=32):zJz (sdg x d):=⟨A,z,g,D⟩
def yLb (h:zX s) (A:k<3) (a:zH):zJz (asX s k a):=by
 have g:=zAt h A;obtain ⟨z,D,_,_⟩:=yI8 s _ a;exact yBz (by rw [z];exact g.k0) (by rw [z];exact g.k3) (by rw [D];exact g.n) (zFr _ _)
def yMe (h:zX s) (e:(asV s hd a).2=0):zX (asV s hd a).1:=by
 unfold asV at e ⊢;cases q:psf s hd with
 | none=>simp_all
 | some k=>
  show zX (if asE s k a=0 then (ptS s k _,(0:Int)) else (x0,asE s k a)).1;by_cases g:asE s k a=0
  ·rw [if_pos g];exact zEq h (yLb h (kW (aH q).1).1 a)
  simp_all
def yH2 (D:Option By) (hs:D=some z32) (a:zH):((bif a.Kind==1 then some ((a.Digest.length:Int)==0) else some false:Option Bool).bind λv=>bif v then D.bind λw=>some w else some a.Digest)=some (afm a).Digest:=by
 subst hs;unfold afm;cases a.Kind==1
 ·rfl
 ·cases (a.Digest.length:Int)==0<;>rfl
def yKm (a:zH):pI a=some (bif (a.Kind==6)||(a.Kind==9) then 19 else pcv (afm a)):=by
 unfold pI;refine bd (oO _ _) ?_;cases (a.Kind==6)||(a.Kind==9)
 ·exact cf rfl (bd (yH2 jG zRb a) (bd (bT (afm a)) rfl))
 ·rfl
def tup (p:zI×zH×Int):Int×Int×Int×Int×By×Int×Int×By×By×By×List By×Int×By×By×Int×Int×Int×Int×Bool:=
 (p.2.2,p.2.1.Kind,p.2.1.Selection.a0,p.2.1.Selection.a1,p.2.1.Digest,p.2.1.N,p.2.1.Op,p.2.1.Operand,p.2.1.Name,p.2.1.Ref,p.2.1.Branches,p.1.Kind,p.1.Nonce,p.1.Digest,p.1.Updates,p.1.Localities,p.1.Command,p.1.Deadline,p.1.AuthValue)
def yM1 (h:zX s) (hi:i<3):idx s.Volatile.Sessions (i:Int)=some (ssg s i):=vT (by rw [h.ss];exact hi)
def yPf (c n t:Bool):((bif t then (bif c then some n else some false) else some false:Option Bool).bind λv=>bif v then some 16 else some 0)=some (ck1 (!c||!n) t):=by cases c<;>cases n<;>cases t<;>rfl
def zP7 (h:zX s) (hh:I64 hd) (ha:yIv a):mI s hd a=some (asV s hd a):=by
 have hbl:=ha.b;unfold mI asV;refine bd (zGo h hh) ?_;cases q:psf s hd with
 | none=>rfl
 | some k=>
  have lt3:=(kW (aH q).1).1;refine cf (ng k) (bd (yKm a) ?_);unfold asE;cases (a.Kind==6)||(a.Kind==9)
  case true=>rfl
  simp only [cond_false];by_cases g:pcv (afm a)=0
  case neg=>rw [if_pos g,if_neg g];exact ct (b1 g) rfl
  rw [if_neg (by simp [g]:¬ pcv (afm a)≠0)];refine cf (b0 g) (bd (yM1 h lt3) ?_);refine bd (a:=tup (caV s (ssg s k) a)) ?_ ?_
  ·generalize ssg s k=x;unfold caV;cases h1:(a.Kind==1)
   case true=>exact bd (yLg h x ha) rfl
   cases h2:(a.Kind==2)
   case true=>rfl
   cases h3:(a.Kind==3)
   case true=>
    refine cf rfl (cf rfl (ct rfl (bd (a:=ck1 ((x.Command==0)||(x.Command==a.N)) (s2 x)) ((yPf _ _ _).trans ?_) rfl)));refine congrArg some (congrArg (ck1 · (s2 x)) ?_);unfold bne;rw [Bool.not_not,Bool.not_not]
   cases h4:(a.Kind==4)
   case true=>
    show (bif s2 x then _ else _)=_;cases s2 x
    ·rfl
    ·exact ct rfl (bd (yK4 h ha) rfl)
   cases h5:(a.Kind==5)
   case true=>
    refine cf rfl (cf rfl (cf rfl (cf rfl (ct rfl (bd (a:=s2 x&&!(s.Volatile.Safe&&hld a.Op s.Volatile.Clock a.N)) ?_ ?_)))))
    ·show (bif s2 x then _ else _)=_;refine oA' λ_=>?_;cases s.Volatile.Safe
     ·rfl
     ·exact cf rfl (bd (zWh _ _ _) rfl)
    ·cases e:s2 x&&!(s.Volatile.Safe&&hld a.Op s.Volatile.Clock a.N)
     ·refine cf rfl (congrArg some ?_);simp only [cond_true,cond_false,ck1,e];rfl
     ·refine ct rfl (congrArg some ?_);simp only [cond_true,cond_false,ck1,e];rfl
   cases h7:(a.Kind==7)
   case true=>rfl
   cases h8:(a.Kind==8)
   case true=>
    have hb:=yKj g h8;refine cf rfl (cf rfl (cf rfl (cf rfl (cf rfl (cf rfl (ct rfl (bd (yKc x jh (λb q=>by rw [hb b q];decide)) (bd (a:=s2 x&&!brA a.Branches x.Digest) (oA _ _) ?_))))))));cases e:s2 x&&!brA a.Branches x.Digest
    ·refine cf rfl (congrArg some ?_);simp only [cond_true,cond_false,ck1,e];rfl
    ·refine ct rfl (congrArg some ?_);simp only [cond_true,cond_false,ck1,e];rfl
   rfl
  ·obtain ⟨e1,e2,e3,e4⟩:=yI8 s (ssg s k) a;have ok:=zAt h lt3;have ex:tV (caV s (ssg s k) a).1.Digest (caV s (ssg s k) a).2.1=some (pex (caV s (ssg s k) a).1.Digest (caV s (ssg s k) a).2.1):=mV _ _ (by rw [e3];have:=ok.d;omega);by_cases g2:(caV s (ssg s k) a).2.2=0
   ·rw [if_pos g2];exact cf (b0 g2) (bd ex (bd (zDa h lt3 _) rfl))
   ·rw [if_neg g2];exact ct (b1 g2) rfl
def a6 (name ref:By):zH:=⟨6,⟨0,0⟩,[],0,0,[],name,ref,[]⟩
def a9 (name ref:By):zH:=⟨9,⟨0,0⟩,[],0,0,[],name,ref,[]⟩
def seE (name ref:By) (ticks:Int):Int:=bif decide (ticks<0)||decide (1048576<ticks) then 1 else pcv (a6 name ref)
def sxD (s:zB) (x:zI) (ticks:Int):Int:=bif (ticks != 0)&&((x.Deadline==0)||decide (Q1.wrap (s.Volatile.Clock+ticks)<x.Deadline)) then Q1.wrap (s.Volatile.Clock+ticks) else x.Deadline
def sxX (s:zB) (x:zI) (name ref:By) (ticks:Int):zI:=⟨x.Kind,x.Nonce,pex x.Digest (a6 name ref),x.Updates,x.Localities,x.Command,sxD s x ticks,x.AuthValue⟩
def seV (s:zB) (h:Int) (name ref:By) (ticks:Int):zB×Int:=match psf s h with | none=>(x0,8) | some k=>if seE name ref ticks=0 then (ptS s k (sxX s (ssg s k) name ref ticks),0) else (x0,seE name ref ticks)
def dlE (c d e:Bool) (x y:Int):((bif c then (bif d then some true else some e) else some false:Option Bool).bind λv=>bif v then some x else some y)=some (bif c&&(d||e) then x else y):=by cases c<;>cases d<;>cases e<;>rfl
def yNl (h:zX s) {n:By} {t:Int} (e:(seV s hd n r t).2=0):zX (seV s hd n r t).1:=by
 unfold seV at e ⊢;cases q:psf s hd with
 | none=>rw [q] at e;cases e
 | some k=>
  rw [q] at e;have ok:=zAt h (kW (aH q).1).1;show zX (if seE n r t=0 then (ptS s k (sxX s (ssg s k) n r t),(0:Int)) else (x0,seE n r t)).1;by_cases g:seE n r t=0
  ·rw [if_pos g];exact zEq h ⟨ok.k0,ok.k3,ok.n,zFr _ _⟩
  ·have e:(if seE n r t=0 then (ptS s k (sxX s (ssg s k) n r t),(0:Int)) else (x0,seE n r t)).2=0:=e;rw [if_neg g] at e;exact absurd e g
def zPo (h:zX s) (hh:I64 hd) (name ref:By) (ticks:Int):fM s hd name ref ticks=some (seV s hd name ref ticks):=by
 unfold fM seV;refine bd (zGo h hh) ?_;cases q:psf s hd with
 | none=>rfl
 | some k=>
  have lt3:=(kW (aH q).1).1;have ok:=zAt h lt3;refine cf (ng k) (bd (oO _ _) ?_);unfold seE;cases decide (ticks<0)||decide (1048576<ticks)
  case true=>rfl
  refine cf rfl (bd (bT (a6 name ref)) ?_);simp only [cond_false];by_cases g:pcv (a6 name ref)=0
  ·rw [if_pos g];exact cf (b0 g) (bd (yM1 h lt3) (bd (dlE _ _ _ _ _) (bd (mV _ _ (by have:=ok.d;omega)) (bd (zDa h lt3 _) rfl))))
  ·rw [if_neg g];exact ct (b1 g) rfl
def apE (x:zI) (key:zM) (ref sg:By):Int:=if chk key≠0 then chk key else bif key.Kind != 2 then 19 else bif decide (128<(ref.length:Int)) then 4 else bif s2 x&&!(vrf key.Unique (hs 9 [x.Digest,ref]) sg).2 then 17 else 0
def apV (s:zB) (h:Int) (key:zM) (ref sg:By):zB×Int:=match psf s h with | none=>(x0,8) | some k=>if apE (ssg s k) key ref sg=0 then (ptS s k (sdg (ssg s k) (pex (ssg s k).Digest (a9 (nm key) ref))),0) else (x0,apE (ssg s k) key ref sg)
def yMo (h:zX s) (e:(apV s hd key r g).2=0):zX (apV s hd key r g).1:=by
 unfold apV at e ⊢;cases q:psf s hd with
 | none=>rw [q] at e;cases e
 | some k=>
  rw [q] at e;have ok:=zAt h (kW (aH q).1).1;show zX (if apE (ssg s k) key r g=0 then (ptS s k (sdg (ssg s k) (pex (ssg s k).Digest (a9 (nm key) r))),(0:Int)) else (x0,apE (ssg s k) key r g)).1;by_cases u:apE (ssg s k) key r g=0
  ·rw [if_pos u];exact zEq h (yBz ok.k0 ok.k3 ok.n (zFr _ _))
  ·have e:(if apE (ssg s k) key r g=0 then (ptS s k (sdg (ssg s k) (pex (ssg s k).Digest (a9 (nm key) r))),(0:Int)) else (x0,apE (ssg s k) key r g)).2=0:=e;rw [if_neg u] at e;exact absurd e u
def zOu (h:zX s) (hh:I64 hd) {ref sg:By} (hu:key.Unique.length<2 ^ 40) (hsg:sg.length<2 ^ 40):jQ s hd key ref sg=some (apV s hd key ref sg):=by
 unfold jQ apV;refine bd (zGo h hh) ?_;cases q:psf s hd with
 | none=>rfl
 | some k=>
  have lt3:=(kW (aH q).1).1;have ok:=zAt h lt3;refine cf (ng k) (bd (eN key) ?_);unfold apE;dsimp only;by_cases g:chk key=0
  case neg=>rw [if_pos g,if_neg g];exact ct (b1 g) rfl
  rw [if_neg (by simp [g]:¬ chk key≠0)];refine cf (b0 g) ?_;cases key.Kind != 2
  case true=>rfl
  refine cf rfl ?_;cases g2:decide (128<(ref.length:Int))
  case true=>rfl
  have g2:=dF g2;refine cf rfl (bd (yM1 h lt3) ?_);have key2:mP (ssg s k).Digest ref=some (hs 9 [(ssg s k).Digest,ref]):=bd (rR 9 _ (by rw [zVy];have:=ok.d;omega)) rfl;have ver:gC key.Unique (hs 9 [(ssg s k).Digest,ref]) sg=some (vrf key.Unique (hs 9 [(ssg s k).Digest,ref]) sg):=zQc _ _ _ (by rw [gQ];decide) hu hsg;generalize vrf key.Unique (hs 9 [(ssg s k).Digest,ref]) sg=w at *;have fin:((uO key).bind λv=>(tV (ssg s k).Digest (zH.mk 9 (A2.mk 0 0) [] 0 0 [] v ref [])).bind λv2=>(rZ s (k:Int) (sdg (ssg s k) v2)).bind λv3=>some (v3,(0:Int)))=some (ptS s k (sdg (ssg s k) (pex (ssg s k).Digest (a9 (nm key) ref))),0):=bd (pA key) (bd (mV _ _ (by have:=ok.d;omega)) (bd (zDa h lt3 _) rfl));show Option.bind (bif s2 (ssg s k) then _ else _) _=_;cases s2 (ssg s k)
  ·refine bd (a:=.inr ()) rfl ?_;exact fin
  ·refine bd (a:=bif !w.2 then .inl (x0,17) else .inr ()) (ct rfl (bd key2 (bd ver ?_))) ?_
   ·cases w.2<;>rfl
   ·cases w.2
    ·rfl
    ·exact fin
structure AuOk (a:zJ):Prop where
 s:I64 a.Session
 n:a.Nonce.length<2 ^ 20
 v:a.Value.length<2 ^ 20
structure oP (q:zC):Prop where
 hl:q.Handles.length<=64
 hi:∀ x∈q.Handles,I64 x
 al:q.Auths.length<=64
 au:∀ x∈q.Auths,AuOk x
 il:q.Ints.length<=64
 ii:∀ x∈q.Ints,I64 x
 bl:q.Blobs.length<=64
 bb:∀ x∈q.Blobs,x.length<2 ^ 16
def hnd (q:zC) (i:Nat):Int:=q.Handles.getD i 0
def au0:zJ:=default
def aut (q:zC):zJ:=q.Auths.getD 0 au0
def bQ (h:i<q.Handles.length):idx q.Handles (i:Int)=some (hnd q i):=vT h
def zYy (h:0<q.Auths.length):idx q.Auths 0=some (aut q):=vT (i:=0) h
def qX (k:oP q) (h:i<q.Handles.length):I64 (hnd q i):=k.hi _ (zCf h)
def zE1 (k:oP q) (h:0<q.Auths.length):AuOk (aut q):=k.au _ (zCf h)
def rdC (c:Int):Bool:=(c==24)||((c==28)||(c==18))
def zGh (c:Int):iO c=some (rdC c):=by unfold iO;exact bd b2 rfl
def zVq (c:Int):gW c=some (rdC c):=zGh c
def zF5 (c a b:Int):rQ c a b=some (bif rdC c then a else b):=by
 unfold rQ;refine bd (zVq c) ?_;cases rdC c<;>rfl
def zH6 (r:Bool) (a b:Int):dX r a b=some (bif r then a else b):=by cases r<;>rfl
def zN1 {c:yH} (k:zX c.s_) (hh:I64 h):vR c h=some (match ixf c.s_ h with | some i=>((ixg c.s_ i).Attr,true) | none=>(0,false)):=by
 unfold vR;refine bd (zC1 k hh) ?_;cases q:ixf c.s_ h with
 | none=>rfl
 | some i=>exact cf rfl (bd (zMi (uT q).1) rfl)
def fb2 (s:zB) (q:zC):Bool:=match ixf s (hnd q 1) with | some i=>xB .i64 (ixg s i).Attr (bif rdC q.Code then 16 else 32)==0 | none=>true
def fb1 (q:zC):Bool:=(hnd q 0==1)&&(decide (23<=q.Code)&&(decide (q.Code<=29)&&decide (1<(q.Handles.length:Int))))
def fbV (s:zB) (q:zC):Bool:=match obf s (hnd q 0) with
 | some i=>xB .i64 (obg s i).Public.Attr 1==0
 | none=>match ixf s (hnd q 0) with
  | some i=>xB .i64 (ixg s i).Attr (bif rdC q.Code then 1 else 2)==0
  | none=>bif fb1 q then fb2 s q else false
def iz (b:Bool):(xB .i64 0 (bif b then 16 else 32)==0)=true:=by cases b<;>decide
def yB3 (k:zX s) (kq:oP q) (h0:0<q.Handles.length):vK ⟨s,q,aut q,hnd q 0⟩=some (fbV s q):=by
 have hh:=qX kq h0;unfold vK fbV;refine bd (zJc k hh) (bd (zN1 (c:=⟨s,q,aut q,hnd q 0⟩) k hh) ?_);dsimp only;cases q1:obf s (hnd q 0) with
 | some i=>rfl
 | none=>
  cases q2:ixf s (hnd q 0) with
  | some i=>exact cf rfl (ct rfl (bd (zF5 _ _ _) rfl))
  | none=>
   refine cf rfl (cf rfl (bd (oA' λ_=>oA' λ_=>oA _ _) ?_));show (bif fb1 q then _ else _)=_;cases g:fb1 q
   ·rfl
   ·have hl:1<q.Handles.length:=by
     unfold fb1 at g;simp only [Q8] at g;have:=dT g.2.2.2;omega
    refine ct rfl (bd (bQ (i:=1) hl) (bd (zN1 (c:=⟨s,q,aut q,hnd q 0⟩) k (qX kq hl)) ?_));unfold fb2;dsimp only;cases q3:ixf s (hnd q 1) with
    | some j=>exact bd (zF5 _ _ _) rfl
    | none=>exact bd (zF5 _ _ _) (congrArg some (iz _))
def zZ4 (k:zX s) (kq:oP q) (h0:0<q.Handles.length):rU s q=some (!fbV s q):=by
 have hh:=qX kq h0;unfold rU fbV;refine bd (bQ (i:=0) h0) (bd (zGh _) (bd (rB k hh) ?_));cases q1:obf s (hnd q 0) with
 | some i=>
  exact ct (nn i) (bd (a:=obg s i) (vT (by rw [k.ol];exact (bE k q1).1)) rfl)
 | none=>
  refine cf rfl (bd (uB k hh) ?_);cases q2:ixf s (hnd q 0) with
  | some i=>exact ct (nn i) (bd (zMi (uT q2).1) (bd (zH6 _ _ _) rfl))
  | none=>
   refine cf rfl (bd (oA' λ_=>oA' λ_=>oA _ _) ?_);show (bif fb1 q then _ else _)=_;cases g:fb1 q
   ·rfl
   ·have hl:1<q.Handles.length:=by
     unfold fb1 at g;simp only [Q8] at g;have:=dT g.2.2.2;omega
    refine ct rfl (bd (bQ (i:=1) hl) (bd (uB k (qX kq hl)) ?_));unfold fb2;cases q3:ixf s (hnd q 1) with
    | some j=>exact bd (ct (nn j) (bd (zMi (uT q3).1) (bd (zH6 _ _ _) rfl))) rfl
    | none=>rfl
def lkV (s:zB) (h:Int):Bool:=bif h==3 then !decide (s.Stable.Lockout.Closed<=s.Volatile.Clock) else (fdV s h).1.protected_&&lkd s.Stable.Lockout s.Volatile.Clock
def yMm (k:zX s) (q:zC) (a:zJ) (hh:I64 h):uF ⟨s,q,a,h⟩=some (lkV s h):=by
 unfold uF lkV;refine cc (λ_=>rfl) λ_=>?_;exact bd (bd (zN8 k hh) (oA' λ_=>bd (a:=s.Volatile.Clock) rfl (bd (lkL _ _) rfl))) rfl
def yAu (k:zX s) (hh:I64 h):pQ s h=some (lkV s h):=by
 unfold pQ lkV;refine cc (λ_=>rfl) λ_=>?_;exact bd (bd (zGy k hh) (oA' λ_=>bd (yOj _ _) rfl)) rfl
def cpV (s:zB) (h:Int) (ok:Bool):zB×Int:=bif ok then (s,0) else (bif (fdV s h).1.protected_ then iR s (lF s.Stable.Lockout s.Volatile.Clock) else bif h==3 then iR s (lC s.Stable.Lockout s.Volatile.Clock) else s,9)
def zY8 (k:zX s) (h:Int) (b:Bool):zX (cpV s h b).1:=by
 unfold cpV;cases b
 ·cases (fdV s h).1.protected_
  ·cases h==3
   ·exact k
   ·exact zFi k _
  ·exact zFi k _
 ·exact k
def yF4 (k:zX s) (q:zC) (a:zJ) (hh:I64 h) (hg:g.length<2 ^ 40):vX ⟨s,q,a,h⟩ g w=some (cpV s h (g==w)):=by
 unfold vX cpV;refine bd (zLe g w hg) ?_;cases g==w
 case true=>rfl
 refine cf rfl (bd (a:=⟨bif (fdV s h).1.protected_ then iR s (lF s.Stable.Lockout s.Volatile.Clock) else bif h==3 then iR s (lC s.Stable.Lockout s.Volatile.Clock) else s,q,a,h⟩) (bd (zN8 k hh) ?_) rfl);cases (fdV s h).1.protected_
 ·show (bif h==3 then _ else _)=_;cases h==3<;>rfl
 ·exact ct rfl (bd (a:=s.Volatile.Clock) rfl (bd (yJb _ _) rfl))
def zS5 (k:zX s) (hh:I64 h) (b:Bool):nW s h b=some (cpV s h b):=by
 unfold nW cpV;cases b
 case true=>rfl
 refine cf rfl (bd (a:=bif (fdV s h).1.protected_ then iR s (lF s.Stable.Lockout s.Volatile.Clock) else bif h==3 then iR s (lC s.Stable.Lockout s.Volatile.Clock) else s) ?_ rfl);by_cases g:h=3
 ·subst g;rfl
 ·rw [c1' g];refine cf rfl (bd (zGy k hh) ?_);cases (fdV s h).1.protected_
  ·rfl
  ·exact ct rfl (bd (yJb _ _) rfl)
def nms (s:zB) (q:zC):List By:=q.Handles.map (rnm s)
def igs:List Int->By->By
 | [],b=>b
 | x :: l,b=>igs l (wW b 8 x)
def cat:List By->By->By
 | [],b=>b
 | x :: l,b=>cat l (b++x)
def zBe:∀ (l:List Int) (b:By),(igs l b).length=b.length+8*l.length
 | [],b=>by simp [igs]
 | x :: l,b=>by rw [igs,zBe l,yL,Q3];omega
def zK2:∀ (l:List By) (b:By),(∀ x∈l,x.length<=32)->(cat l b).length<=b.length+32*l.length
 | [],b,_=>by simp [cat]
 | x :: l,b,h=>by
  have:=zK2 l (b++x) (λy hy=>h y (Qm _ hy));have:=h x jk;rw [cat,Q3];simp only [Q4] at *;omega
def yA4 {l:List By} {b:By} (h:i<l.length):cat (l.take (i+1)) b=cat (l.take i) b++l[i]:=by
 induction l generalizing b i with
 | nil=>simp at h
 | cons x l ih=>
  cases i with
  | zero=>rfl
  | succ i=>
   simp only [Q3] at h;simp only [Qo,cat,Ql];exact ih jh
def zFy {l:List Int} {b:By} (h:i<l.length):igs (l.take (i+1)) b=wW (igs (l.take i) b) 8 l[i]:=by
 induction l generalizing b i with
 | nil=>simp at h
 | cons x l ih=>
  cases i with
  | zero=>rfl
  | succ i=>
   simp only [Q3] at h;simp only [Qo,igs,Ql];exact ih jh
def dgF (l:List By) (q:zC):List By:=[[u8 q.Code],cat l [],igs q.Ints []]++q.Blobs
def dgV (l:List By) (q:zC):By:=hs 10 (dgF l q)
def yCt:∀ (l:List By),(∀ x∈l,x.length<2 ^ 20)->tot l<=l.length*(2 ^ 20+4)
 | [],_=>by simp [tot]
 | x :: l,h=>by
  have:=yCt l (λy hy=>h y (Qm _ hy));have:=h x jk;rw [aP,Q3];omega
def zQb (a b:List By):tot (a++b)=tot a+tot b:=by simp [tot]
def yG8 {l:List By} (hl:∀ x∈l,x.length<=32) (h64:l.length<=64) (k:oP q):tot (dgF l q)<2 ^ 32/\(dgF l q).length<=67:=by
 have h1:=zK2 l [] hl;have h2:=zBe q.Ints [];have h3:=yCt q.Blobs (λx hx=>by have:=k.bb x hx;omega);have h4:=k.il;have h5:=k.bl;refine ⟨?_,by simp [dgF];omega⟩;unfold dgF;rw [zQb,aP,aP,aP];simp only [Q6,Q3] at *;have:tot []=0:=rfl;omega
def zIp {l:List By} (hl:∀ x∈l,x.length<=32) (h64:l.length<=64) (k:oP q):lW l q=some (dgV l q):=by
 have hc:∀ i,(cat (l.take i) []).length<=32*64:=λi=>by
  have:=zK2 (l.take i) [] (λx hx=>hl x (List.mem_of_mem_take hx));simp only [Qs,Q6] at this;omega
 have hg:∀ i,(igs (q.Ints.take i) []).length<=8*64:=λi=>by
  have:=zBe (q.Ints.take i) [];have:=k.il;simp only [Qs,Q6] at *;omega
 obtain ⟨t1,t2⟩:=yG8 hl h64 k;have hil:=k.il;unfold lW;refine bd (a:=cat l []) ?_ (bd (a:=igs q.Ints []) ?_ (bd (yC (by have:=k.bl;simp;omega)) (bd (eS 10 _ t1) (bd (cR _ (by have:=eF 10 (dgF l q);show (frm 10 (dgF l q)).length<_;omega)) rfl))))
 ·refine yF l.length (λi=>(cat (l.take i) [],(i:Int))) rfl (λi hi=>?_) ?_ (xJ jh)
  ·unfold gX;have:=hl _ (Q7 hi);have:=hc i;refine ct (decide_eq_true jh) (bd (yX hi) (bd (yC jh) ?_));rw [yO jh,yA4 hi]
  ·unfold gX;refine cf (decide_eq_false jh) ?_;rw [Qd]
 ·refine yF q.Ints.length (λi=>(igs (q.Ints.take i) [],(i:Int))) rfl (λi hi=>?_) ?_ (xJ jh)
  ·unfold gY;have:=hg i;refine ct (decide_eq_true jh) (bd (yX hi) (bd (uI _ 8 _ ji ji jh) ?_));rw [yO jh,zFy hi]
  ·unfold gY;refine cf (decide_eq_false jh) ?_;rw [Qd]
def mcV (value d m c:By):By:=mc value (frm 10 [d,m,c])
def zNp (value d m c:By) (hv:value.length<2 ^ 30) (hd:d.length<2 ^ 20) (hm:m.length<2 ^ 20) (hc:c.length<2 ^ 20):aE value d m c=some (mcV value d m c):=
 bd (eS 10 _ (by rw [zX0];omega)) (bd (zLx _ _ jh (by rw [eF,zX0];omega)) rfl)
def zTr (s:zB) (q:zC):∀ x∈nms s q,x.length<=32:=λx hx=>by
 obtain ⟨h,_,rfl⟩:=List.mem_map.1 hx;exact zSe s h
def map_take {f:α->β} (h:i<l.length):(l.take (i+1)).map f=(l.take i).map f++[f l[i]]:=by
 rw [Qb,List.map_append,List.getElem?_eq_getElem h];rfl
def zKy (k:zX s) (kq:oP q):iV s q=some (nms s q):=by
 have hl:=kq.hl;unfold iV nms;refine bd (a:=q.Handles.map (rnm s)) (yF q.Handles.length (λi=>((q.Handles.take i).map (rnm s),(i:Int))) rfl (λi hi=>?_) ?_ (xJ jh)) rfl
 ·unfold dQ;refine ct (decide_eq_true jh) (bd (yX hi) (bd (zQe k (kq.hi _ (Q7 hi))) (bd (yC jl) ?_)));rw [yO jh,map_take hi]
 ·unfold dQ;refine cf (decide_eq_false jh) ?_;rw [Qd]
def vl (s:zB) (q:zC):By:=(fdV s (hnd q 0)).1.value_
def byV (s:zB) (q:zC) (w:By):zB×Int:=bif fbV s q then (s,20) else bif lkV s (hnd q 0) then (s,10) else cpV s (hnd q 0) ((aut q).Value==w)
def wnt (s:zB) (q:zC) (x:zI):By:=mcV (vl s q) (dgV (nms s q) q) x.Nonce (aut q).Nonce
def yLc (k:zX s) (kq:oP q) (ha:0<q.Auths.length) (hx:zJz x):True/\aE (vl s q) (dgV (nms s q) q) x.Nonce (aut q).Nonce=some (wnt s q x):=by
 have h1:(vl s q).length<=32:=(yBj k (hnd q 0)).1;have h2:(dgV (nms s q) q).length=32:=gQ _ _;have h3:=hx.n;have h4:=(zE1 kq ha).n;exact ⟨trivial,zNp _ _ _ _ jh jh jh jh⟩
def yGv (k:zX s) (kq:oP q) (h0:0<q.Handles.length) (ha:0<q.Auths.length) (hx:x.Kind=0) :
  vY ⟨s,q,aut q,hnd q 0⟩ x=some (byV s q (vl s q)):=by
 have hh:=qX kq h0;have hv:=(zE1 kq ha).v;unfold vY byV;refine bd (yB3 k kq h0) ?_;cases fbV s q
 case true=>rfl
 refine cf rfl (bd (yMm k q _ hh) ?_);cases lkV s (hnd q 0)
 case true=>rfl
 refine cf rfl (bd (zVm (s:=s) k hh) ?_);dsimp only;exact ct (c0' hx) (bd (yF4 k q _ hh jh) rfl)
def bpE (s:zB) (loc:Int) (q:zC) (x:zI):Int:=
 bif hrc (hnd q 0) then 8 else
 bif (match ixf s (hnd q 0) with | some i=>xB .i64 (ixg s i).Attr (bif rdC q.Code then 4 else 8)==0 | none=>false) then 20 else
 bif (((fdV s (hnd q 0)).1.policy_.length:Int)==0) then 11 else
 bif (x.Deadline != 0)&&decide (x.Deadline<=s.Volatile.Clock) then 15 else
 bif xB .i64 (xT .i64 x.Localities (Qf.wrap loc)) 1==0 then 13 else
 bif (x.Command != 0)&&(x.Command != q.Code) then 14 else
 bif (x.Updates != -1)&&(x.Updates != s.Volatile.Registers.Updates) then 12 else
 bif !(x.Digest==(fdV s (hnd q 0)).1.policy_) then 11 else 0
def byP (s:zB) (loc:Int) (q:zC) (x:zI):zB×Int:=
 if bpE s loc q x≠0 then (s,bpE s loc q x) else bif !x.AuthValue then (s,0) else bif lkV s (hnd q 0) then (s,10) else cpV s (hnd q 0) ((aut q).Value==vl s q)
def yIh (k:zX s) (kq:oP q) (h0:0<q.Handles.length) {loc:Int} (hx:zJz x) :
  mF s loc q x=some (if bpE s loc q x=0 then (x.AuthValue,0) else (false,bpE s loc q x)):=by
 have hh:=qX kq h0;unfold mF bpE;refine bd (bQ (i:=0) h0) (bd (oA _ _) ?_);show (bif hrc (hnd q 0) then _ else _)=_;cases hrc (hnd q 0)
 case true=>rfl
 refine cf rfl (bd (uB k hh) (bd (a:=match ixf s (hnd q 0) with | some i=>xB .i64 (ixg s i).Attr (bif rdC q.Code then 4 else 8)==0 | none=>false) ?_ ?_))
 ·cases q1:ixf s (hnd q 0) with
  | some i=>exact ct (nn i) (bd (zMi (uT q1).1) (bd (zGh _) (bd (zH6 _ _ _) rfl)))
  | none=>rfl
 cases (match ixf s (hnd q 0) with | some i=>xB .i64 (ixg s i).Attr (bif rdC q.Code then 4 else 8)==0 | none=>false:Bool)
 case true=>rfl
 refine cf rfl (bd (zJ6 k hh) ?_);cases (((fdV s (hnd q 0)).1.policy_.length:Int)==0)
 case true=>rfl
 refine cf rfl (bd (oA _ _) ?_);cases (x.Deadline != 0)&&decide (x.Deadline<=s.Volatile.Clock)
 case true=>rfl
 refine cf rfl (ltk ?_);cases xB .i64 (xT .i64 x.Localities (Qf.wrap loc)) 1==0
 case true=>rfl
 refine cf rfl (bd (oA _ _) ?_);cases (x.Command != 0)&&(x.Command != q.Code)
 case true=>rfl
 refine cf rfl (bd (oA _ _) ?_);cases (x.Updates != -1)&&(x.Updates != s.Volatile.Registers.Updates)
 case true=>rfl
 refine cf rfl (bd (oS _ _ (by have:=hx.d;omega)) ?_);cases x.Digest==(fdV s (hnd q 0)).1.policy_<;>rfl
def acV (s:zB) (loc:Int) (q:zC):zB×Int:=
 bif (aut q).Session==0 then byV s q (vl s q) else
 match ssf s (aut q).Session with
 | none=>(s,8)
 | some i=>bif (ssg s i).Kind==1 then byV s q (wnt s q (ssg s i)) else bif (ssg s i).Kind==2 then byP s loc q (ssg s i) else (s,8)
def yDf (k:zX s) (q:zC) (w:By):zX (byV s q w).1:=by
 unfold byV;cases fbV s q
 ·cases lkV s (hnd q 0)
  ·exact zY8 k _ _
  ·exact k
 ·exact k
def yNi (k:zX s) (loc:Int) (q:zC):zX (acV s loc q).1:=by
 unfold acV;cases (aut q).Session==0
 ·cases ssf s (aut q).Session with
  | none=>exact k
  | some i=>
   show zX (bif (ssg s i).Kind==1 then byV s q (wnt s q (ssg s i)) else bif (ssg s i).Kind==2 then byP s loc q (ssg s i) else (s,8)).1;cases (ssg s i).Kind==1
   ·cases (ssg s i).Kind==2
    ·exact k
    ·show zX (byP s loc q (ssg s i)).1;unfold byP;split
     ·exact k
     ·cases (ssg s i).AuthValue
      ·exact k
      ·cases lkV s (hnd q 0)
       ·exact zY8 k _ _
       ·exact k
   ·exact yDf k _ _
 ·exact yDf k _ _
def zUp (k:zX s) (kq:oP q) (h0:0<q.Handles.length) (ha:0<q.Auths.length) (hs:(aut q).Session=0) (loc:Int) :
  nO s loc q=some (acV s loc q):=by
 have g:((aut q).Session==0)=true:=by simp [hs]
 unfold nO acV;refine bd (a:=false) (cf (c1' jh) (congrArg some (c1' jh))) (cf rfl (bd (zYy ha) (bd (bQ (i:=0) h0) ?_)));rw [g];exact ct rfl (bd (yGv k kq h0 ha rfl) rfl)
def zM6 (k:zX s) (kq:oP q) (h0:0<q.Handles.length) (ha:0<q.Auths.length) {o:Option By} (ho:o=some w) :
  ((rU s q).bind λv=>bif !v then some (s,20) else (pQ s (hnd q 0)).bind λv2=>bif v2 then some (s,10) else o.bind λw=>(vC (aut q).Value w).bind λv3=>(nW s (hnd q 0) v3).bind λp=>some (p.1,p.2))=some (byV s q w):=by
 have hh:=qX kq h0;have hv:=(zE1 kq ha).v;unfold byV;refine bd (zZ4 k kq h0) ?_;cases fbV s q
 case true=>rfl
 refine cf rfl (bd (yAu k hh) ?_);cases lkV s (hnd q 0)
 case true=>rfl
 exact cf rfl (bd ho (bd (oS _ _ jh) (bd (zS5 k hh _) rfl)))
def zMx (k:zX s) (kq:oP q) (h0:0<q.Handles.length) (ha:0<q.Auths.length) (loc:Int) :
  cJ s loc q=some (acV s loc q):=by
 have hh:=qX kq h0;have hv:=(zE1 kq ha).v;unfold cJ acV;refine bd (bQ (i:=0) h0) (bd (zYy ha) (bd (zCy k (zE1 kq ha).s) ?_));dsimp only;unfold bne;cases g:((aut q).Session==0)
 case true=>
  refine bd (a:=false) rfl (cf rfl (bd (zAk k hh) (bd (a:=false) rfl (cf rfl ?_))));exact zM6 k kq h0 ha rfl
 unfold sfV;cases q1:ssf s (aut q).Session with
 | none=>rfl
 | some i=>
  obtain ⟨lt3,_,c⟩:=kW q1;have ok:=zAt k lt3;have o3:=ok.k3;have o0:=ok.k0;refine bd (a:=(ssg s i).Kind==3) rfl ?_;dsimp only;by_cases h3:(ssg s i).Kind=3
  ·rw [c0' h3,c1' (show (ssg s i).Kind≠1 by omega),c1' (show (ssg s i).Kind≠2 by omega)];rfl
  rw [c1' h3];refine cf rfl (bd (zAk k hh) ?_);by_cases h2:(ssg s i).Kind=2
  ·rw [c0' h2,c1' (show (ssg s i).Kind≠1 by omega)];refine bd (a:=true) rfl (ct rfl (bd (yIh k kq h0 ok) ?_));simp only [cond_true,cond_false];unfold byP;by_cases g:bpE s loc q (ssg s i)=0
   ·rw [if_pos g,if_neg (by simp [g]:¬ bpE s loc q (ssg s i)≠0)];dsimp only;cases (ssg s i).AuthValue
    ·rfl
    ·refine bd (a:=false) rfl (cf rfl (bd (yAu k hh) ?_));cases lkV s (hnd q 0)
     case true=>rfl
     exact cf rfl (bd (oS _ _ jh) (bd (zS5 k hh _) rfl))
   ·rw [if_neg g,if_pos g];refine bd (a:=true) ?_ rfl;dsimp only;exact ct (by rw [c1' g];rfl) rfl
  ·have h1:(ssg s i).Kind=1:=jh
   rw [c1' h2,c0' h1];refine bd (a:=false) rfl (cf rfl ?_);exact zM6 k kq h0 ha (ct rfl (bd (zKy k kq) (bd (zIp (zTr s q) (by unfold nms;rw [List.length_map];exact kq.hl) kq) (bd (yLc k kq ha ok).2 rfl))))
def afN (x:zI) (n:By):zI:=⟨x.Kind,n,x.Digest,x.Updates,x.Localities,x.Command,x.Deadline,x.AuthValue⟩
def afV (s:zB) (q:zC):zB×List By:=
 bif (aut q).Session==0 then (s,[]) else
 match ssf s (aut q).Session with
 | none=>(s,[])
 | some i=>bif (ssg s i).Kind==1 then (ptS (rnS s) i (afN (ssg s i) (rnB s 16)),[rnB s 16]) else (bif (ssg s i).Kind==2 then ptS s i ss0 else s,[])
def yKs (k:zX s) (q:zC):zX (afV s q).1:=by
 unfold afV;cases (aut q).Session==0
 ·cases q1:ssf s (aut q).Session with
  | none=>exact k
  | some i=>
   have ok:=zAt k (kW q1).1;show zX (bif (ssg s i).Kind==1 then (ptS (rnS s) i (afN (ssg s i) (rnB s 16)),[rnB s 16]) else (bif (ssg s i).Kind==2 then ptS s i ss0 else s,[])).1;cases (ssg s i).Kind==1
   ·show zX (bif (ssg s i).Kind==2 then ptS s i ss0 else s);cases (ssg s i).Kind==2
    ·exact k
    ·exact zEq k zQm
   ·exact zEq (zJd k) ⟨ok.k0,ok.k3,by show (rnB s 16).length<=32;rw [zFg _ _ ji];decide,ok.d⟩
 ·exact k
def wk (e:h=768+(i:Int)) (hi:i<3):Q1.wrap (h - 768)=(i:Int):=by rw [yI jh jh];omega
def zP0 (ha:0<q.Auths.length) (hs:(aut q).Session=0):pH s q=some (afV s q):=by
 have g:((aut q).Session==0)=true:=by simp [hs]
 unfold pH afV;rw [g];exact bd (a:=true) (cf (c1' jh) (bd (zYy ha) (congrArg some g))) rfl
def zRl (k:zX s) (kq:oP q) (ha:0<q.Auths.length):fR s q=some (afV s q):=by
 unfold fR afV;refine bd (zYy ha) (bd (zCy k (zE1 kq ha).s) ?_);dsimp only;cases (aut q).Session==0
 case true=>rfl
 unfold sfV;cases q1:ssf s (aut q).Session with
 | none=>rfl
 | some i=>
  obtain ⟨lt3,e,_⟩:=kW q1;refine bd (a:=false) rfl (cf rfl ?_);dsimp only;cases h1:((ssg s i).Kind==1)
  case true=>
   refine ct rfl (bd (zHp k 16).1 ?_);rw [wk e lt3];exact bd (zDa (zJd k) lt3 _) rfl
  refine cf rfl (bd (a:=bif (ssg s i).Kind==2 then ptS s i ss0 else s) ?_ rfl);cases (ssg s i).Kind==2
  ·rfl
  ·refine ct rfl (bd (zKs k (zE1 kq ha).s) ?_);unfold scV;rw [q1];rfl
def int (q:zC) (i:Nat):Int:=q.Ints.getD i 0
def blb (q:zC) (i:Nat):By:=q.Blobs.getD i []
def sA (h:i<q.Ints.length):idx q.Ints (i:Int)=some (int q i):=vT h
def mM (h:i<q.Blobs.length):idx q.Blobs (i:Int)=some (blb q i):=vT h
def zGi (k:oP q) (h:i<q.Ints.length):I64 (int q i):=k.ii _ (zCf h)
def zBf (k:oP q) (i:Nat):(blb q i).length<2 ^ 16:=by
 by_cases h:i<q.Blobs.length
 ·exact k.bb _ (zCf h)
 ·have:blb q i=[]:=by simp [blb,Qp,List.getElem?_eq_none (by omega:q.Blobs.length<=i)]
  rw [this];decide
def rs (e:Int):zD:=⟨e,[],[],[]⟩
def frO (s:zB):Option Nat:=fst (λk=>(obg s k).Public.Kind==0) 3 0
def stO (s:zB) (k:Nat) (x:zS):zB:=yJy s (s.Volatile.Objects.set k x)
def yDj (h:zX s) {x:zS} (hx:zNo x):zX (stO s k x):=yDd h (by rw [Qe];exact h.ol) λy hy=>by
 rcases Q9 hy with hy | hy
 ·exact h.ob y hy
 ·rw [hy];exact hx
def yF6 (h:zX s) (hi:i<3):idx s.Volatile.Objects (i:Int)=some (obg s i):=vT (by rw [h.ol];exact hi)
def zMr (h:zX s):dL s=some (match frO s with | some k=>(k:Int) | none=>-1):=by
 have hl:=h.ol;unfold dL frO;refine bd (sZ (λk=>(obg s k).Public.Kind==0) 3 (λk=>(k:Int)) ji (λi hi=>?_) ?_) ?_
 ·unfold bF;constructor
  ·intro g;exact ct (decide_eq_true jh) (bd (yF6 h hi) (ct g rfl))
  ·intro g;refine ct (decide_eq_true jh) (bd (yF6 h hi) (cf g ?_));rw [yO jh]
 ·unfold bF;exact cf (decide_eq_false jh) rfl
 ·cases fst (λk=>(obg s k).Public.Kind==0) 3 0<;>rfl
def zGn (e:frO s=some k):k<3:=by obtain ⟨_,a,_,_⟩:=qZ e;omega
def zJi (h:zX s) (hk:k<3) (x:zS):eW s (k:Int) x=some (stO s k x):=by
 unfold eW;exact bd (ap0 (by rw [h.ol];decide)) (zFd (by rw [h.ol];exact hk) _)
def tpl (q:zC):zM:=⟨int q 0,int q 1,int q 2,blb q 0,[]⟩
def zRr (hi:2<q.Ints.length) (hb:0<q.Blobs.length):mS q=some (tpl q):=bd (sA (i:=0) jh) (bd (sA (i:=1) jh) (bd (sA (i:=2) hi) (bd (mM (i:=0) hb) rfl)))
def pmL:By:=[112,114,105,109,97,114,121]
def pmC (q:zC):By:=frm 0 [[u8 (int q 0),u8 (int q 1),u8 (int q 2)],blb q 0,blb q 2]
def yGx (k:oP q):tot [[u8 (int q 0),u8 (int q 1),u8 (int q 2)],blb q 0,blb q 2]<2 ^ 19:=by
 have:=zBf k 0;have:=zBf k 2;rw [zX0];simp only [Q3,Q6];omega
def pmM (s:zB) (q:zC):zM×zK×Int:=mkO (dv (s.Stable.Seeds.getD (hnd q 0).toNat []) pmL (pmC q) 32) (tpl q) (blb q 1) (blb q 2)
def ldR (s:zB) (x:zS) (b:List By):zB×zD:=match frO s with | some k=>(stO s k x,⟨0,[512+(k:Int)],b,[]⟩) | none=>(s,rs 25)
def prV (s:zB) (q:zC):zB×zD:=if (pmM s q).2.2≠0 then (s,rs (pmM s q).2.2) else ldR s ⟨(pmM s q).1,(pmM s q).2.1,hnd q 0⟩ [enc (pmM s q).1,nm (pmM s q).1]
def zZc (h:zX s) (i:Nat):(s.Stable.Seeds.getD i []).length<=32:=by
 by_cases g:i<s.Stable.Seeds.length
 ·exact h.se _ (zCf g)
 ·have:s.Stable.Seeds.getD i []=[]:=by simp [Qp,List.getElem?_eq_none (by omega:s.Stable.Seeds.length<=i)]
  rw [this];decide
def zZj {p:zM} {t:zK} (hp:kH p) (ht:zBn t) (h:Int):zNo ⟨p,t,h⟩:=⟨.inr ⟨hp,ht⟩,λe=>by have:=hp.k1;have e:p.Kind=0:=e;omega⟩
def zN0 (h:zX s) (k:oP q) (h0:0<q.Handles.length) (hi:2<q.Ints.length) (hb:2<q.Blobs.length) (g0:0<=hnd q 0) (g2:hnd q 0<=2):nA s q=some (prV s q):=by
 have ht:=yGx k;have hl:=zZc h (hnd q 0).toNat;obtain ⟨n,hn⟩:=Q0 g0;unfold nA prV;refine bd (zRr hi jh) (bd (mM (i:=2) hb) (bd (eS 0 _ (by show tot [[u8 (int q 0),u8 (int q 1),u8 (int q 2)],blb q 0,blb q 2]<_;omega)) (bd (bQ (i:=0) h0) (bd (a:=s.Stable.Seeds.getD (hnd q 0).toNat []) ?_ (bd (tK _ _ _ 32 jh ji (by rw [eF];show 1+tot [[u8 (int q 0),u8 (int q 1),u8 (int q 2)],blb q 0,blb q 2]<_;omega)) (bd (mM (i:=1) jh) (bd (mM (i:=2) hb) (bd (zI5 _ _ _ _ (by rw [bG _ _ _ _ ji];decide)) ?_))))))))
 ·rw [hn];exact vT (by rw [h.sl];omega)
 show (bif ((pmM s q).2.2 != 0) then _ else _)=_;by_cases e:(pmM s q).2.2=0
 ·rw [if_neg (by simp [e])];refine cf (b0 e) (bd (zMr h) ?_);unfold ldR;cases q1:frO s with
  | some j=>
   dsimp only;refine cf (ng j) (bd (bQ (i:=0) h0) (bd (zJi h (zGn q1) _) (bd (rX _) (bd (pA _) ?_))));rw [yI (by have:=zGn q1;omega) (by have:=zGn q1;omega)];rfl
  | none=>rfl
 ·rw [if_pos e];exact ct (b1 e) rfl
def yKo (s:zB) (q:zC):Nat:=(obf s (hnd q 0)).getD 0
def pob (s:zB) (q:zC):zS:=obg s (yKo s q)
def zXx (e:(obf s (hnd q 0)).isSome=true):obf s (hnd q 0)=some (yKo s q):=by
 unfold yKo;cases q1:obf s (hnd q 0) with
 | none=>rw [q1] at e;cases e
 | some i=>rfl
def zFj (h:zX s) (k:oP q) (h0:0<q.Handles.length) (e:(obf s (hnd q 0)).isSome=true):rL s q=some (pob s q):=by
 have e2:=zXx e;refine bd (bQ (i:=0) h0) (bd (rB h (qX k h0)) ?_);rw [e2];exact bd (yF6 h (bE h e2).1) rfl
def crM (s:zB) (q:zC):zM×zK×Int:=mkO (rnB s 32) (tpl q) (blb q 1) (blb q 2)
def crO (s:zB) (q:zC):zB×zD:=bif (pob s q).Public.Kind != 1 then (s,rs 19) else if (crM s q).2.2≠0 then (s,rs (crM s q).2.2) else (rnS s,⟨0,[],[enc (crM s q).1,zH8 (pob s q).Sensitive (crM s q).1 (crM s q).2.1],[]⟩)
def zB4 (h:zX s) (e:(obf s (hnd q 0)).isSome=true):kH (pob s q).Public/\zBn (pob s q).Sensitive:=(bE h (zXx e)).2
def zRi (h:zX s) (k:oP q) (h0:0<q.Handles.length) (hi:2<q.Ints.length) (hb:2<q.Blobs.length) (e:(obf s (hnd q 0)).isSome=true):lI s q=some (crO s q):=by
 have hs:=(zB4 h e).2.sd;unfold lI crO;refine bd (zFj h k h0 e) ?_;cases (pob s q).Public.Kind != 1
 case true=>rfl
 refine cf rfl (bd (zHp h 32).1 (bd (zRr hi jh) (bd (mM (i:=1) jh) (bd (mM (i:=2) hb) (bd (zI5 _ _ _ _ (by rw [zFg _ _ ji];decide)) ?_)))));show (bif ((crM s q).2.2 != 0) then _ else _)=_;simp only [cond_false];by_cases e:(crM s q).2.2=0
 ·rw [if_neg (by simp [e])];exact cf (b0 e) (bd (rX _) (bd (zG3 _ _ _ jh) rfl))
 ·rw [if_pos e];exact ct (b1 e) rfl
def ldD (q:zC):zM×Int:=zVw (blb q 0)
def ldW (s:zB) (q:zC):zK×Int:=zM9 (pob s q).Sensitive (ldD q).1 (blb q 1)
def ldV (s:zB) (q:zC):zB×zD:=bif (pob s q).Public.Kind != 1 then (s,rs 19) else if (ldD q).2≠0 then (s,rs (ldD q).2) else if (ldW s q).2≠0 then (s,rs (ldW s q).2) else ldR s ⟨(ldD q).1,(ldW s q).1,(pob s q).Hierarchy⟩ [nm (ldD q).1]
def zQr (e:(ldD q).2=0):kH (ldD q).1:=zYa (yGe (blb q 0) e)
def zXu (h:zX s) (k:oP q) (h0:0<q.Handles.length) (hb:1<q.Blobs.length) (e:(obf s (hnd q 0)).isSome=true):cH s q=some (ldV s q):=by
 have hs:=(zB4 h e).2.sd;have l0:=zBf k 0;have l1:=zBf k 1;unfold cH ldV;refine bd (zFj h k h0 e) ?_;cases (pob s q).Public.Kind != 1
 case true=>rfl
 refine cf rfl (bd (mM (i:=0) jh) (bd (zM4 _ jh) ?_));show (bif ((ldD q).2 != 0) then _ else _)=_;simp only [cond_false];by_cases e:(ldD q).2=0
 case neg=>rw [if_pos (show (ldD q).2≠0 from e)];exact ct (b1 e) rfl
 have ok:=zQr e;rw [if_neg (show ¬ (ldD q).2≠0 by simp [e])];refine cf (b0 e) (bd (mM (i:=1) hb) (bd (zUq (pob s q).Sensitive (ldD q).1 _ jh ok.h0 ok.h3 jh) ?_));show (bif ((ldW s q).2 != 0) then _ else _)=_;by_cases e2:(ldW s q).2=0
 case neg=>rw [if_pos e2];exact ct (b1 e2) rfl
 rw [if_neg (show ¬ (ldW s q).2≠0 by simp [e2])];refine cf (b0 e2) (bd (zMr h) ?_);unfold ldR;cases q1:frO s with
 | some j=>
  dsimp only;refine cf (ng j) (bd (zJi h (zGn q1) _) (bd (pA _) ?_));rw [yI (by have:=zGn q1;omega) (by have:=zGn q1;omega)];rfl
 | none=>rfl
def flV (s:zB) (q:zC):zB×zD:=match obf s (int q 0) with | some i=>(stO s i ob0,rs 0) | none=>match ssf s (int q 0) with | some i=>(ptS s i ss0,rs 0) | none=>(s,rs 7)
def yM6 (h:zX s) (q:zC):zX (flV s q).1:=by
 unfold flV;cases obf s (int q 0) with
 | some i=>exact yDj h zXq
 | none=>
  cases ssf s (int q 0) with
  | some i=>exact zEq h zQm
  | none=>exact h
def zVc (h:zX s) (k:oP q) (hi:0<q.Ints.length):cU s q=some (flV s q):=by
 have ik:=zGi k hi;unfold cU flV;refine bd (sA (i:=0) hi) (bd (rB h ik) ?_);cases q1:obf s (int q 0) with
 | some i=>exact ct (nn i) (bd (zJi h (bE h q1).1 _) rfl)
 | none=>
  refine cf rfl (bd (sA (i:=0) hi) (bd (zKs h ik) ?_));unfold scV;cases ssf s (int q 0)<;>rfl
def usV (s:zB) (q:zC):zB×zD:=bif (pob s q).Public.Kind != 3 then (s,rs 19) else (s,⟨0,[],[(pob s q).Sensitive.Data],[]⟩)
def zP8 (h:zX s) (k:oP q) (h0:0<q.Handles.length) (e:(obf s (hnd q 0)).isSome=true):mG s q=some (usV s q):=by
 have hd:=(zB4 h e).2.dt;unfold mG usV;refine bd (zFj h k h0 e) ?_;cases (pob s q).Public.Kind != 3
 ·exact cf rfl (bd (lU _ jh) rfl)
 ·rfl
def kyg (s:zB) (i:Nat):zZ:=s.Stable.Keys.getD i default
def kyf (s:zB) (u:By):Option Nat:=fst (λi=>(kyg s i).Unique==u) s.Stable.Keys.length 0
def zXs (h:zX s) (g:i<s.Stable.Keys.length):yL6 (kyg s i):=h.ky _ (zCf g)
def getK (z:i<s.Stable.Keys.length):idx s.Stable.Keys (i:Int)=some (kyg s i):=vT z
def lfV (s:zB) (x:zS):zB×Int×Int:=match kyf s x.Public.Unique with
 | some i=>if ((2 ^ x.Public.Height.toNat:Nat):Int)<=(kyg s i).Used then (s,0,26) else (zRv s (s.Stable.Keys.set i ⟨(kyg s i).Unique,Q1.wrap ((kyg s i).Used+1)⟩),(kyg s i).Used,0)
 | none=>if 8<=s.Stable.Keys.length then (s,0,25) else (zRv s (s.Stable.Keys++[⟨x.Public.Unique,1⟩]),0,0)
def zRn (h:zX s) {x:zS} (A:kH x.Public):zX (lfV s x).1/\((lfV s x).2.2=0->0<=(lfV s x).2.1/\(lfV s x).2.1<((2 ^ x.Public.Height.toNat:Nat):Int)):=by
 have K:=yIp (h:=x.Public.Height.toNat) (by have:=A.h3;have:=A.h0;omega);have J:0<2 ^ x.Public.Height.toNat:=Nat.two_pow_pos _;have D:x.Public.Unique.length<=32:=by rw [A.un];split<;>decide
 unfold lfV;cases q:kyf s x.Public.Unique with
 | some i=>
  obtain ⟨_,a,_,_⟩:=qZ q;have E:=zXs h (i:=i) jh;have L:=E.c8;have I:=E.c0;by_cases g:((2 ^ x.Public.Height.toNat:Nat):Int)<=(kyg s i).Used
  ·simp only [if_pos g];exact ⟨h,λe=>by cases e⟩
  ·simp only [if_neg g];refine ⟨zN3 h (by rw [Qe];exact h.kl) λy z=>?_,λ_=>⟨I,jh⟩⟩;rcases Q9 z with z | z
   ·exact h.ky y z
   ·rw [z];refine ⟨E.u,?_,?_⟩
    ·show 0<=Q1.wrap _;rw [yI jh jh];omega
    ·show Q1.wrap _<=8;rw [yI jh jh];omega
 | none=>
  by_cases g:8<=s.Stable.Keys.length
  ·simp only [if_pos g];exact ⟨h,λe=>by cases e⟩
  ·simp only [if_neg g];refine ⟨zN3 h (by rw [Q4];simp only [Q3,Q6];omega) λy z=>?_,λ_=>⟨Int.le_refl _,jh⟩⟩;rcases Qt.1 z with z | z
   ·exact h.ky y z
   ·simp only [Qu,Qr,or_false] at z;rw [z];exact ⟨D,(show (0:Int)<=1 by decide),(show (1:Int)<=8 by decide)⟩
def yAs (F:k<l.length) (g:α->α->α) (f:List α->Option β) :
  ((ixN l.length (k:Int)).bind λH=>(l[H]?).bind λI=>(ixN l.length (k:Int)).bind λD=>(l[D]?).bind λv2=>(wY l D (g I v2)).bind λG=>f G)=f (l.set k (g (l.getD k d) (l.getD k d))):=by
 have e:ixN l.length (k)=some k:=by simp [ixN];omega
 have E:l[k]? = some (l.getD k d):=by simp [F]
 exact bd e (bd E (bd e (bd E (bd (by simp [wY];omega) rfl))))
def zZ0 (h:zX s) {x:zS} (G:kH x.Public):zBi s x=some (lfV s x):=by
 have R:=h.kl;obtain ⟨n,J⟩:=Q0 G.h0;have N:n<=3:=by have:=G.h3;omega
 have hs:qW .i64 1 (Qf.wrap x.Public.Height)=((2 ^ x.Public.Height.toNat:Nat):Int):=by rw [J];exact zVr n N
 unfold zBi lfV kyf;refine bd (sZ (λi=>(kyg s i).Unique==x.Public.Unique) s.Stable.Keys.length (λi=>if ((2 ^ x.Public.Height.toNat:Nat):Int)<=(kyg s i).Used then (s,0,26) else (zRv s (s.Stable.Keys.set i ⟨(kyg s i).Unique,Q1.wrap ((kyg s i).Used+1)⟩),(kyg s i).Used,0)) jh (λi F=>?_) ?_) ?_
 ·have L:=zXs h F;have e:vC (kyg s i).Unique x.Public.Unique=some ((kyg s i).Unique==x.Public.Unique):=oS _ _ (by have:=L.u;omega);unfold bU;constructor
  ·intro g;refine ct (decide_eq_true jh) (bd (getK F) (bd e ?_));rw [g,hs];refine cf rfl ?_;by_cases q:((2 ^ x.Public.Height.toNat:Nat):Int)<=(kyg s i).Used
   ·rw [if_pos q];exact ct (decide_eq_true q) rfl
   ·rw [if_neg q];exact cf (decide_eq_false q) (bd (ap0 jh) (yAs (d:=default) F (λI v2=>zZ.mk v2.Unique (Q1.wrap (I.Used+1))) _))
  ·intro g;refine ct (decide_eq_true jh) (bd (getK F) (bd e ?_));rw [g,yO jh];rfl
 ·unfold bU;exact cf (decide_eq_false jh) rfl
 ·cases fst (λi=>(kyg s i).Unique==x.Public.Unique) s.Stable.Keys.length 0 with
  | some i=>rfl
  | none=>
   dsimp only;by_cases g:8<=s.Stable.Keys.length
   ·rw [if_pos g];exact ct (decide_eq_true jh) rfl
   ·rw [if_neg g];exact cf (decide_eq_false jh) (bd (ap0 jh) (bd (yC jl) rfl))
def sgV (s:zB) (x:zS) (m:By):zB×By×Int:=if (lfV s x).2.2≠0 then (s,[],(lfV s x).2.2) else ((lfV s x).1,sig x.Sensitive.Seed x.Public.Height.toNat (lfV s x).2.1.toNat m,0)
def yM5 (h:zX s) {x:zS} (g:kH x.Public) (m:By):zX (sgV s x m).1:=by
 unfold sgV;split
 ·exact h
 ·exact (zRn h g).1
def zSd (h:zX s) {x:zS} (z:kH x.Public) (hs:zBn x.Sensitive) {m:By} (F:m.length<2 ^ 31):dG s x m=some (sgV s x m):=by
 have H:=hs.sd;obtain ⟨_,c⟩:=zRn h z;unfold dG sgV;refine bd (zZ0 h z) ?_;generalize lfV s x=r at c;obtain ⟨t,l,e⟩:=r;by_cases g:e=0
 ·subst g;obtain ⟨c0,c1⟩:=c rfl;have c1:l<((2 ^ x.Public.Height.toNat:Nat):Int):=c1;obtain ⟨n,A⟩:=Q0 z.h0;obtain ⟨k,rfl⟩:=Q0 c0;have G:n<=3:=by have:=z.h3;omega
  have E:=zNa x.Sensitive.Seed n k m jh G (by rw [A,Int.toNat_natCast] at c1;omega) F;rw [<- A] at E;refine cf rfl (bd E ?_);rw [A];rfl
 ·rw [if_pos g];exact ct (b1 g) rfl
def snE (s:zB) (q:zC) (r:Bool):Int:=bif (pob s q).Public.Kind != 2 then 19 else bif !((xB .i64 (pob s q).Public.Attr 4 != 0)==r) then 20 else bif decide (128<((blb q 0).length:Int)) then 4 else 0
def snR (s:zB) (q:zC) (m:By) (f:By->List By):zB×zD:=if (sgV s (pob s q) m).2.2≠0 then (s,rs (sgV s (pob s q) m).2.2) else ((sgV s (pob s q) m).1,⟨0,[],f (sgV s (pob s q) m).2.1,[]⟩)
def snV (s:zB) (q:zC):zB×zD:=if snE s q false≠0 then (s,rs (snE s q false)) else snR s q (blb q 0) λx=>[x]
def yP4 (s:zB) (q:zC):snE s q false=bif (pob s q).Public.Kind != 2 then 19 else bif xB .i64 (pob s q).Public.Attr 4 != 0 then 20 else bif decide (128<((blb q 0).length:Int)) then 4 else 0:=by
 unfold snE;simp
def yJk (s:zB) (q:zC):snE s q true=bif (pob s q).Public.Kind != 2 then 19 else bif xB .i64 (pob s q).Public.Attr 4==0 then 20 else bif decide (128<((blb q 0).length:Int)) then 4 else 0:=by
 unfold snE bne;simp
def zV3 (h:zX s) (k:oP q) (J:0<q.Handles.length) (H:0<q.Blobs.length) (e:(obf s (hnd q 0)).isSome=true):dR s q=some (snV s q):=by
 obtain ⟨I,L⟩:=zB4 h e;unfold dR snV;rw [yP4];refine bd (zFj h k J e) ?_;cases (pob s q).Public.Kind != 2
 case true=>rfl
 cases xB .i64 _ 4 != 0
 case true=>rfl
 refine cf rfl (bd (mM (i:=0) H) ?_);cases decide (128<((blb q 0).length:Int))
 case true=>rfl
 refine cf rfl (bd (mM (i:=0) H) (bd (zSd h I L (by have:=zBf k 0;omega)) ?_));unfold snR;by_cases E:(sgV s (pob s q) (blb q 0)).2.2=0
 ·simp_all
 ·rw [if_pos E];exact ct (b1 E) rfl
def aQ:By:=[83,87,81,49]
def at1 (a:wT):By:=wW (wW (wW (wE (wE aQ a.Key) a.Nonce) 8 a.Resets) 8 a.Restarts) 8 a.Clock
def at2 (a:wT):By:=wW (at1 a++[if a.Safe=true then 1 else 0]) 8 a.Updates
def atV (a:wT):By:=wW (wW (at2 a) 2 a.Selection.a0) 2 a.Selection.a1++a.Digest
def zTo (a:wT):(at1 a).length<=131102:=by
 have z:=vF aQ a.Key;have A:=vF (wE aQ a.Key) a.Nonce;have:aQ.length=4:=rfl;unfold at1;rw [yL,yL,yL];omega
def zSl (a:wT):(at2 a).length<=131111:=by
 have:=zTo a;unfold at2;rw [yL];simp_all
def yGd (a:wT) (z:a.Digest.length<=32):(atV a).length<=131147:=by
 have:=zSl a;unfold atV;rw [Q4,yL,yL];omega
def yNg (a:wT) (hd:a.Digest.length<=32):eG a=some (atV a):=by
 have h1:=vF aQ a.Key;have h2:=vF (wE aQ a.Key) a.Nonce;have h3:=zTo a;have h4:=zSl a;have:aQ.length=4:=rfl;unfold eG;refine bd (a:=aQ) rfl (bd (tY _ _ jh) (bd (tY _ _ jh) (bd (uI _ 8 _ ji ji jh) (bd (uI _ 8 _ ji ji (by rw [yL];omega)) (bd (uI _ 8 _ ji ji (by rw [yL,yL];omega)) (bd (a:=if a.Safe=true then 1 else 0) (by cases a.Safe<;>rfl) (bd (yC (show ((at1 a).length+_)*1<=_ by simp only [Q3,Q6];omega)) ?_)))))));refine bd (a:=at2 a) ?_ (bd (uI _ 2 _ ji ji jh) (bd (uI _ 2 _ ji ji (by rw [yL];omega)) (bd (yC (by rw [yL,yL];omega)) rfl)));have e:[u8 (if a.Safe=true then 1 else 0)]=[if a.Safe=true then (1:UInt8) else 0]:=by cases a.Safe<;>decide
 rw [e];exact uI _ 8 _ ji ji (by rw [Q4];show (at1 a).length+_<_;simp only [Q3,Q6];omega)
def qtD (s:zB) (q:zC):By×Int:=rdV s.Volatile.Registers ⟨int q 0,int q 1⟩
def qtA (s:zB) (q:zC):wT:=⟨nm (pob s q).Public,blb q 0,s.Stable.Resets,s.Stable.Restarts,s.Volatile.Clock,s.Volatile.Safe,s.Volatile.Registers.Updates,⟨int q 0,int q 1⟩,(qtD s q).1⟩
def qtV (s:zB) (q:zC):zB×zD:=if snE s q true≠0 then (s,rs (snE s q true)) else if (qtD s q).2≠0 then (s,rs (qtD s q).2) else snR s q (atV (qtA s q)) λx=>[atV (qtA s q),x]
def zVi (h:zX s) (k:oP q) (U:0<q.Handles.length) (R:1<q.Ints.length) (K:0<q.Blobs.length) (e:(obf s (hnd q 0)).isSome=true):hU s q=some (qtV s q):=by
 obtain ⟨S,L⟩:=zB4 h e;have D:(qtA s q).Digest.length<=32:=zT4 _ _;have N:=yGd (qtA s q) D;unfold hU qtV;rw [yJk];refine bd (zFj h k U e) ?_;cases (pob s q).Public.Kind != 2
 case true=>rfl
 refine cf rfl ?_;cases xB .i64 (pob s q).Public.Attr 4==0
 case true=>rfl
 refine cf rfl (bd (mM (i:=0) K) ?_);cases decide (128<((blb q 0).length:Int))
 case true=>rfl
 refine cf rfl (bd (pA _) (bd (mM (i:=0) K) (bd (sA (i:=0) jh) (bd (sA (i:=1) R) (bd (zCj h.rg _) ?_)))));by_cases J:(qtD s q).2=0
 case neg=>rw [if_pos (show (qtD s q).2≠0 from J)];exact ct (b1 J) rfl
 rw [if_neg (show ¬ (qtD s q).2≠0 by simp [J])];refine cf (b0 J) (bd (yNg (qtA s q) D) (bd (zSd h S L jh) ?_));unfold snR;by_cases F:(sgV s (pob s q) (atV (qtA s q))).2.2=0
 ·simp_all
 ·rw [if_pos F];exact ct (b1 F) rfl
end Go.Proofs.TT
